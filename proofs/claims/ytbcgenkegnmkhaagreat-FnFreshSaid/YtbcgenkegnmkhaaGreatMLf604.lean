/- Part 4 of the proof that the law named in the last part returns true at every argument: an evaluator of the program, shown sound, and its runs. No further conditions. -/
import Derived.Test.YtbcgenkegnmkhaaGreatMLf603
namespace Go.Proofs.YtbcgenkegnmkhaaGreat.Ev
open Go
set_option maxRecDepth 100000
set_option linter.unusedSimpArgs false
set_option linter.unusedVariables false
set_option maxHeartbeats 2000000
def lz (t:Bool) (n:Nat):Nat:=match t with|true=>n|false=>0
@[simp] theorem lz_t (n:Nat):lz true n=n:=rfl
@[simp] theorem lz_f (n:Nat):lz false n=0:=rfl
theorem kF (t:Bool) (s:Nat) (xs:List V):(V.lst t s xs).share = .lst false 0 (V.shareL xs):=by cases t<;>rfl
theorem kI (t:Bool) (s:Nat) (xs:List V):(V.lst t s xs).mention=[]:=by cases t<;>rfl
structure Ct where
 pl:Int
 ep:Int
 n:Int
 deriving DecidableEq
theorem Ct.eq_iff {d g:Ct}:d=g↔d.pl=g.pl∧d.ep=g.ep∧d.n=g.n:=by
 cases d;cases g;simp
def Ct.v (x:Ct):V:=.agg [.int .i64 x.pl,.int .i64 x.ep,.int .i64 x.n]
def cts (l:List Ct):List V:=l.map (Ct.v)
@[simp] theorem cts_len (l:List Ct):(cts l).length=l.length:=by simp[cts]
@[simp] theorem cts_nil:cts []=[]:=rfl
@[simp] theorem cts_cons (x:Ct) (l:List Ct):cts (x::l)=x.v::cts l:=rfl
@[simp] theorem cts_join (l m:List Ct):cts l++cts m=cts (l++m):=by simp[cts]
@[simp] theorem cts_snoc (l:List Ct) (x:Ct):cts l++[x.v]=cts (l++[x]):=by simp[cts]
@[simp] theorem qHn (l:List Ct) (a:Int) (b:Int) (c:Int):cts l++[V.agg [.int .i64 a,.int .i64 b,.int .i64 c]]=cts (l++[⟨a,b,c⟩]):=by simp[cts,Ct.v]
@[simp] theorem cts_set2 (l:List Ct) (j:Nat) (a:Int) (b:Int) (c:Int):(cts l).set j (V.agg [.int .i64 a,.int .i64 b,.int .i64 c])=cts (l.set j ⟨a,b,c⟩):=by simp[cts,Ct.v,List.map_set]
@[simp] theorem qC6 (l:List Ct) (i:Nat) (x:Ct):(cts l).set i (x.v)=cts (l.set i x):=by simp[cts,List.map_set]
theorem zU9 {l:List Ct} {i:Nat} {x:Ct} (h:l[i]? = some x):(cts l)[i]? = some (x.v):=by simp[cts,h]
theorem zYy {l:List Ct} {i:Nat} (h:i<l.length):(cts l)[(i:Int).toNat]? = some (l[i].v):=zU9 (by simp[h])
theorem zDm {l:List Ct} {i:Nat} (h:i<l.length):∃x,l[i]? = some x∧l.drop i=x::l.drop (i+1)∧(cts l)[(i:Int).toNat]? = some (x.v) :=
 ⟨l[i],by simp[h],List.drop_eq_getElem_cons h,zYy h⟩
@[simp] theorem cts_take (n:Nat) (l:List Ct):(cts l).take n=cts (l.take n):=by simp[cts,List.map_take]
@[simp] theorem cts_drop (n:Nat) (l:List Ct):(cts l).drop n=cts (l.drop n):=by simp[cts,List.map_drop]
@[simp] theorem Ct.cells_v (x:Ct):(x.v).cells=3:=rfl
@[simp] theorem Ct.mention (x:Ct):V.mention (x.v)=[]:=by simp[Ct.v,V.mention,V.mentionL,kI]
@[simp] theorem Ct.share (x:Ct):(x.v).share=x.v:=by simp[Ct.v,V.share,V.shareL,kF]
@[simp] theorem zAx (l:List Ct):V.shareL (cts l)=cts l:=by
 induction l with
 | nil=>rfl
 | cons x l ih=>simp[V.shareL,ih]
@[simp] theorem Ct.snap (x:Ct) (q:St):V.snap q (x.v)=some (x.v):=by simp[Ct.v,V.snap,V.snapL,mp]
@[simp] theorem Ct.snapA (x:Ct) (q:St):V.snapA q (x.v)=some (x.v):=Ct.snap x q
@[simp] theorem Ct.snapP (x:Ct) (q:St):V.snapP q (x.v)=some (x.v):=Ct.snap x q
@[simp] theorem Ct.accM (x:Ct):V.accM (x.v)=[]:=by simp[Ct.v,V.accM,V.accML]
@[simp] theorem Ct.accF (x:Ct):V.accF (x.v)=[]:=by simp[Ct.v,V.accF,V.accFL]
@[simp] theorem Ct.ren (x:Ct) (ρ:Nat→Option Nat) (vr:Nat→Nat):V.ren ρ vr (x.v)=x.v:=by simp[Ct.v,V.ren,V.renL]
@[simp] theorem Ct.bA (i:Nat) (x:Ct) (r:List V):zQ i (x.v::r)=((i,x.v)::(zQ (i+1) r).1,(zQ (i+1) r).2):=rfl
@[simp] theorem Ct.lodF (x:Ct) (o i ver:Nat) (fs:List Nat):V.lod o i ver fs (x.v)=x.v:=by simp[Ct.v,V.lod,V.lodL]
@[simp] theorem Ct.fz (x:Ct) (s:St):V.fz x.v s=some (x.v,s):=by simp[Ct.v,V.fz,V.fzL,mp]
@[simp] theorem Ct.fzI (x:Ct) (s:St):V.fzI x.v s=some (x.v,s):=by simp[Ct.v,V.fz,V.fzI,V.fzIL,mp]
@[simp] theorem Ct.scal (x:Ct):V.scal (x.v)=true:=by simp[Ct.v,V.scal,V.scalL]
@[simp] theorem Ct.isTup (x:Ct):(x.v).isTup=false:=rfl
@[simp] theorem Ct.tidyT (x:Ct):V.tidy (x.v)=true:=by simp[Ct.v,V.tidy,V.tidyL]
@[simp] theorem zLl (l:List Ct):V.tidyL (cts l)=true:=by
 induction l with
 | nil=>rfl
 | cons x l ih=>simp[V.tidyL,ih]
@[simp] theorem Ct.thaw (x:Ct) (id:Nat):V.thaw id x.v=(x.v,[],id):=by simp[Ct.v,V.thaw,V.thawL]
structure Et where
 row:List Int
 w:Int
 deriving DecidableEq
theorem Et.eq_iff {d g:Et}:d=g↔d.row=g.row∧d.w=g.w:=by
 cases d;cases g;simp
def Et.v (t:Bool) (x:Et):V:=.agg [.lst t (lz t 1) (ints x.row),.int .i64 x.w]
def ets (t:Bool) (l:List Et):List V:=l.map (Et.v t)
@[simp] theorem ets_len (t:Bool) (l:List Et):(ets t l).length=l.length:=by simp[ets]
@[simp] theorem ets_nil (t:Bool):ets t []=[]:=rfl
@[simp] theorem ets_cons (t:Bool) (x:Et) (l:List Et):ets t (x::l)=x.v t::ets t l:=rfl
@[simp] theorem ets_join (t:Bool) (l m:List Et):ets t l++ets t m=ets t (l++m):=by simp[ets]
@[simp] theorem ets_snoc (t:Bool) (l:List Et) (x:Et):ets t l++[x.v t]=ets t (l++[x]):=by simp[ets]
@[simp] theorem qEp (l:List Et) (a:List Int) (b:Int):ets true l++[V.agg [.lst true 1 (ints a),.int .i64 b]]=ets true (l++[⟨a,b⟩]):=by simp[ets,Et.v]
@[simp] theorem qHf (l:List Et) (j:Nat) (a:List Int) (b:Int):(ets true l).set j (V.agg [.lst true 1 (ints a),.int .i64 b])=ets true (l.set j ⟨a,b⟩):=by simp[ets,Et.v,List.map_set]
@[simp] theorem qF9 (l:List Et) (a:List Int) (b:Int):ets false l++[V.agg [.lst false 0 (ints a),.int .i64 b]]=ets false (l++[⟨a,b⟩]):=by simp[ets,Et.v]
@[simp] theorem qIc (l:List Et) (j:Nat) (a:List Int) (b:Int):(ets false l).set j (V.agg [.lst false 0 (ints a),.int .i64 b])=ets false (l.set j ⟨a,b⟩):=by simp[ets,Et.v,List.map_set]
@[simp] theorem ets_set (t:Bool) (l:List Et) (i:Nat) (x:Et):(ets t l).set i (x.v t)=ets t (l.set i x):=by simp[ets,List.map_set]
theorem qCo {t:Bool} {l:List Et} {i:Nat} {x:Et} (h:l[i]? = some x):(ets t l)[i]? = some (x.v t):=by simp[ets,h]
theorem zYm {t:Bool} {l:List Et} {i:Nat} (h:i<l.length):(ets t l)[(i:Int).toNat]? = some (l[i].v t):=qCo (by simp[h])
theorem zUr {t:Bool} {l:List Et} {i:Nat} (h:i<l.length):∃x,l[i]? = some x∧l.drop i=x::l.drop (i+1)∧(ets t l)[(i:Int).toNat]? = some (x.v t) :=
 ⟨l[i],by simp[h],List.drop_eq_getElem_cons h,zYm h⟩
@[simp] theorem ets_take (t:Bool) (n:Nat) (l:List Et):(ets t l).take n=ets t (l.take n):=by simp[ets,List.map_take]
@[simp] theorem ets_drop (t:Bool) (n:Nat) (l:List Et):(ets t l).drop n=ets t (l.drop n):=by simp[ets,List.map_drop]
@[simp] theorem Et.cells_v (t:Bool) (x:Et):(x.v t).cells=2:=rfl
@[simp] theorem Et.mention (t:Bool) (x:Et):V.mention (x.v t)=[]:=by simp[Et.v,V.mention,V.mentionL,kI]
@[simp] theorem Et.share (t:Bool) (x:Et):(x.v t).share=x.v false:=by simp[Et.v,V.share,V.shareL,kF,zDe]
@[simp] theorem kA (t:Bool) (l:List Et):V.shareL (ets t l)=ets false l:=by
 induction l with
 | nil=>rfl
 | cons x l ih=>simp[V.shareL,ih]
@[simp] theorem Et.snap (t:Bool) (x:Et) (q:St):V.snap q (x.v t)=some (x.v false):=by simp[Et.v,V.snap,V.snapL,mp,zDe]
@[simp] theorem Et.snapA (t:Bool) (x:Et) (q:St):V.snapA q (x.v t)=some (x.v false):=Et.snap t x q
@[simp] theorem Et.snapP (t:Bool) (x:Et) (q:St):V.snapP q (x.v t)=some (x.v false):=Et.snap t x q
@[simp] theorem Et.accM (t:Bool) (x:Et):V.accM (x.v t)=[]:=by simp[Et.v,V.accM,V.accML]
@[simp] theorem Et.accF (t:Bool) (x:Et):V.accF (x.v t)=[]:=by simp[Et.v,V.accF,V.accFL]
@[simp] theorem Et.ren (t:Bool) (x:Et) (ρ:Nat→Option Nat) (vr:Nat→Nat):V.ren ρ vr (x.v t)=x.v t:=by simp[Et.v,V.ren,V.renL]
@[simp] theorem Et.bA (i:Nat) (t:Bool) (x:Et) (r:List V):zQ i (x.v t::r)=((i,x.v t)::(zQ (i+1) r).1,(zQ (i+1) r).2):=rfl
@[simp] theorem Et.lodF (x:Et) (o i ver:Nat) (fs:List Nat):V.lod o i ver fs (x.v false)=x.v false:=by simp[Et.v,V.lod,V.lodL]
@[simp] theorem Et.fzF (x:Et) (s:St):V.fz (x.v false) s=some (x.v false,s):=by simp[Et.v,V.fz,V.fzL,mp]
@[simp] theorem Et.fzI (t:Bool) (x:Et) (s:St):V.fzI (x.v t) s=some (x.v t,s):=by cases t<;>simp[Et.v,V.fz,V.fzI,V.fzIL,mp]
@[simp] theorem Et.scal (t:Bool) (x:Et):V.scal (x.v t)=false:=by simp[Et.v,V.scal,V.scalL]
@[simp] theorem Et.isTup (t:Bool) (x:Et):(x.v t).isTup=false:=rfl
@[simp] theorem Et.tidyT (x:Et):V.tidy (x.v true)=true:=by simp[Et.v,V.tidy,V.tidyL,zG4]
@[simp] theorem zAs (l:List Et):V.tidyL (ets true l)=true:=by
 induction l with
 | nil=>rfl
 | cons x l ih=>simp[V.tidyL,ih]
@[simp] theorem Et.thawF (x:Et) (id:Nat):V.thaw id (x.v false)=(x.v false,[],id):=by simp[Et.v,V.thaw,V.thawL]
@[simp] theorem Et.thawT (x:Et) (id:Nat):V.thaw id (x.v true)=(.agg [.ref (id) 0 x.row.length,.int .i64 x.w],[(id,⟨false,false,1,ints x.row,0⟩)],id+1):=by simp[Et.v,V.thaw,V.thawL]
structure Fr where
 kind:Int
 node:Int
 side:Int
 ep:Int
 set:List Et
 news:List Ct
 deriving DecidableEq
theorem Fr.eq_iff {d g:Fr}:d=g↔d.kind=g.kind∧d.node=g.node∧d.side=g.side∧d.ep=g.ep∧d.set=g.set∧d.news=g.news:=by
 cases d;cases g;simp
def Fr.v (t:Bool) (x:Fr):V:=.agg [.int .i64 x.kind,.int .i64 x.node,.int .i64 x.side,.int .i64 x.ep,.lst t (lz t 2) (ets t x.set),.lst t (lz t 3) (cts x.news)]
def frs (t:Bool) (l:List Fr):List V:=l.map (Fr.v t)
@[simp] theorem frs_len (t:Bool) (l:List Fr):(frs t l).length=l.length:=by simp[frs]
@[simp] theorem frs_nil (t:Bool):frs t []=[]:=rfl
@[simp] theorem frs_cons (t:Bool) (x:Fr) (l:List Fr):frs t (x::l)=x.v t::frs t l:=rfl
@[simp] theorem frs_join (t:Bool) (l m:List Fr):frs t l++frs t m=frs t (l++m):=by simp[frs]
@[simp] theorem frs_snoc (t:Bool) (l:List Fr) (x:Fr):frs t l++[x.v t]=frs t (l++[x]):=by simp[frs]
@[simp] theorem qDq (l:List Fr) (a:Int) (b:Int) (c:Int) (d:Int) (e:List Et) (f:List Ct):frs true l++[V.agg [.int .i64 a,.int .i64 b,.int .i64 c,.int .i64 d,.lst true 2 (ets true e),.lst true 3 (cts f)]]=frs true (l++[⟨a,b,c,d,e,f⟩]):=by simp[frs,Fr.v]
@[simp] theorem qKw (l:List Fr) (j:Nat) (a:Int) (b:Int) (c:Int) (d:Int) (e:List Et) (f:List Ct):(frs true l).set j (V.agg [.int .i64 a,.int .i64 b,.int .i64 c,.int .i64 d,.lst true 2 (ets true e),.lst true 3 (cts f)])=frs true (l.set j ⟨a,b,c,d,e,f⟩):=by simp[frs,Fr.v,List.map_set]
@[simp] theorem qEu (l:List Fr) (a:Int) (b:Int) (c:Int) (d:Int) (e:List Et) (f:List Ct):frs false l++[V.agg [.int .i64 a,.int .i64 b,.int .i64 c,.int .i64 d,.lst false 0 (ets false e),.lst false 0 (cts f)]]=frs false (l++[⟨a,b,c,d,e,f⟩]):=by simp[frs,Fr.v]
@[simp] theorem qIj (l:List Fr) (j:Nat) (a:Int) (b:Int) (c:Int) (d:Int) (e:List Et) (f:List Ct):(frs false l).set j (V.agg [.int .i64 a,.int .i64 b,.int .i64 c,.int .i64 d,.lst false 0 (ets false e),.lst false 0 (cts f)])=frs false (l.set j ⟨a,b,c,d,e,f⟩):=by simp[frs,Fr.v,List.map_set]
@[simp] theorem frs_set (t:Bool) (l:List Fr) (i:Nat) (x:Fr):(frs t l).set i (x.v t)=frs t (l.set i x):=by simp[frs,List.map_set]
theorem qDf {t:Bool} {l:List Fr} {i:Nat} {x:Fr} (h:l[i]? = some x):(frs t l)[i]? = some (x.v t):=by simp[frs,h]
theorem qIn {t:Bool} {l:List Fr} {i:Nat} (h:i<l.length):(frs t l)[(i:Int).toNat]? = some (l[i].v t):=qDf (by simp[h])
theorem zI7 {t:Bool} {l:List Fr} {i:Nat} (h:i<l.length):∃x,l[i]? = some x∧l.drop i=x::l.drop (i+1)∧(frs t l)[(i:Int).toNat]? = some (x.v t) :=
 ⟨l[i],by simp[h],List.drop_eq_getElem_cons h,qIn h⟩
@[simp] theorem frs_take (t:Bool) (n:Nat) (l:List Fr):(frs t l).take n=frs t (l.take n):=by simp[frs,List.map_take]
@[simp] theorem frs_drop (t:Bool) (n:Nat) (l:List Fr):(frs t l).drop n=frs t (l.drop n):=by simp[frs,List.map_drop]
@[simp] theorem Fr.cells_v (t:Bool) (x:Fr):(x.v t).cells=6:=rfl
@[simp] theorem Fr.mention (t:Bool) (x:Fr):V.mention (x.v t)=[]:=by simp[Fr.v,V.mention,V.mentionL,kI]
@[simp] theorem Fr.share (t:Bool) (x:Fr):(x.v t).share=x.v false:=by simp[Fr.v,V.share,V.shareL,kF,kA,zAx]
@[simp] theorem zHb (t:Bool) (l:List Fr):V.shareL (frs t l)=frs false l:=by
 induction l with
 | nil=>rfl
 | cons x l ih=>simp[V.shareL,ih]
@[simp] theorem Fr.snap (t:Bool) (x:Fr) (q:St):V.snap q (x.v t)=some (x.v false):=by simp[Fr.v,V.snap,V.snapL,mp,kA,zAx]
@[simp] theorem Fr.snapA (t:Bool) (x:Fr) (q:St):V.snapA q (x.v t)=some (x.v false):=Fr.snap t x q
@[simp] theorem Fr.snapP (t:Bool) (x:Fr) (q:St):V.snapP q (x.v t)=some (x.v false):=Fr.snap t x q
@[simp] theorem Fr.accM (t:Bool) (x:Fr):V.accM (x.v t)=[]:=by simp[Fr.v,V.accM,V.accML]
@[simp] theorem Fr.accF (t:Bool) (x:Fr):V.accF (x.v t)=[]:=by simp[Fr.v,V.accF,V.accFL]
@[simp] theorem Fr.ren (t:Bool) (x:Fr) (ρ:Nat→Option Nat) (vr:Nat→Nat):V.ren ρ vr (x.v t)=x.v t:=by simp[Fr.v,V.ren,V.renL]
@[simp] theorem Fr.bA (i:Nat) (t:Bool) (x:Fr) (r:List V):zQ i (x.v t::r)=((i,x.v t)::(zQ (i+1) r).1,(zQ (i+1) r).2):=rfl
@[simp] theorem Fr.lodF (x:Fr) (o i ver:Nat) (fs:List Nat):V.lod o i ver fs (x.v false)=x.v false:=by simp[Fr.v,V.lod,V.lodL]
@[simp] theorem Fr.fzF (x:Fr) (s:St):V.fz (x.v false) s=some (x.v false,s):=by simp[Fr.v,V.fz,V.fzL,mp]
@[simp] theorem Fr.fzI (t:Bool) (x:Fr) (s:St):V.fzI (x.v t) s=some (x.v t,s):=by cases t<;>simp[Fr.v,V.fz,V.fzI,V.fzIL,mp]
@[simp] theorem Fr.scal (t:Bool) (x:Fr):V.scal (x.v t)=false:=by simp[Fr.v,V.scal,V.scalL]
@[simp] theorem Fr.isTup (t:Bool) (x:Fr):(x.v t).isTup=false:=rfl
@[simp] theorem Fr.tidyT (x:Fr):V.tidy (x.v true)=true:=by simp[Fr.v,V.tidy,V.tidyL,zAs,zLl]
@[simp] theorem zTn (l:List Fr):V.tidyL (frs true l)=true:=by
 induction l with
 | nil=>rfl
 | cons x l ih=>simp[V.tidyL,ih]
@[simp] theorem Fr.thawF (x:Fr) (id:Nat):V.thaw id (x.v false)=(x.v false,[],id):=by simp[Fr.v,V.thaw,V.thawL]
@[simp] theorem Fr.thawT (x:Fr) (id:Nat):V.thaw id (x.v true)=(.agg [.int .i64 x.kind,.int .i64 x.node,.int .i64 x.side,.int .i64 x.ep,.ref (id) 0 x.set.length,.ref (id+1) 0 x.news.length],[(id,⟨false,false,2,ets true x.set,0⟩),(id+1,⟨false,false,3,cts x.news,0⟩)],id+1+1):=by simp[Fr.v,V.thaw,V.thawL]
structure Bt where
 side:Int
 ep:Int
 set:List Et
 deriving DecidableEq
theorem Bt.eq_iff {d g:Bt}:d=g↔d.side=g.side∧d.ep=g.ep∧d.set=g.set:=by
 cases d;cases g;simp
def Bt.v (t:Bool) (x:Bt):V:=.agg [.int .i64 x.side,.int .i64 x.ep,.lst t (lz t 2) (ets t x.set)]
def bts (t:Bool) (l:List Bt):List V:=l.map (Bt.v t)
@[simp] theorem bts_len (t:Bool) (l:List Bt):(bts t l).length=l.length:=by simp[bts]
@[simp] theorem bts_nil (t:Bool):bts t []=[]:=rfl
@[simp] theorem bts_cons (t:Bool) (x:Bt) (l:List Bt):bts t (x::l)=x.v t::bts t l:=rfl
@[simp] theorem bts_join (t:Bool) (l m:List Bt):bts t l++bts t m=bts t (l++m):=by simp[bts]
@[simp] theorem bts_snoc (t:Bool) (l:List Bt) (x:Bt):bts t l++[x.v t]=bts t (l++[x]):=by simp[bts]
@[simp] theorem qE8 (l:List Bt) (a:Int) (b:Int) (c:List Et):bts true l++[V.agg [.int .i64 a,.int .i64 b,.lst true 2 (ets true c)]]=bts true (l++[⟨a,b,c⟩]):=by simp[bts,Bt.v]
@[simp] theorem qHi (l:List Bt) (j:Nat) (a:Int) (b:Int) (c:List Et):(bts true l).set j (V.agg [.int .i64 a,.int .i64 b,.lst true 2 (ets true c)])=bts true (l.set j ⟨a,b,c⟩):=by simp[bts,Bt.v,List.map_set]
@[simp] theorem qEh (l:List Bt) (a:Int) (b:Int) (c:List Et):bts false l++[V.agg [.int .i64 a,.int .i64 b,.lst false 0 (ets false c)]]=bts false (l++[⟨a,b,c⟩]):=by simp[bts,Bt.v]
@[simp] theorem qH5 (l:List Bt) (j:Nat) (a:Int) (b:Int) (c:List Et):(bts false l).set j (V.agg [.int .i64 a,.int .i64 b,.lst false 0 (ets false c)])=bts false (l.set j ⟨a,b,c⟩):=by simp[bts,Bt.v,List.map_set]
@[simp] theorem bts_set (t:Bool) (l:List Bt) (i:Nat) (x:Bt):(bts t l).set i (x.v t)=bts t (l.set i x):=by simp[bts,List.map_set]
theorem qBo {t:Bool} {l:List Bt} {i:Nat} {x:Bt} (h:l[i]? = some x):(bts t l)[i]? = some (x.v t):=by simp[bts,h]
theorem qHv {t:Bool} {l:List Bt} {i:Nat} (h:i<l.length):(bts t l)[(i:Int).toNat]? = some (l[i].v t):=qBo (by simp[h])
theorem qBv {t:Bool} {l:List Bt} {i:Nat} (h:i<l.length):∃x,l[i]? = some x∧l.drop i=x::l.drop (i+1)∧(bts t l)[(i:Int).toNat]? = some (x.v t) :=
 ⟨l[i],by simp[h],List.drop_eq_getElem_cons h,qHv h⟩
@[simp] theorem bts_take (t:Bool) (n:Nat) (l:List Bt):(bts t l).take n=bts t (l.take n):=by simp[bts,List.map_take]
@[simp] theorem bts_drop (t:Bool) (n:Nat) (l:List Bt):(bts t l).drop n=bts t (l.drop n):=by simp[bts,List.map_drop]
@[simp] theorem Bt.cells_v (t:Bool) (x:Bt):(x.v t).cells=3:=rfl
@[simp] theorem Bt.mention (t:Bool) (x:Bt):V.mention (x.v t)=[]:=by simp[Bt.v,V.mention,V.mentionL,kI]
@[simp] theorem Bt.share (t:Bool) (x:Bt):(x.v t).share=x.v false:=by simp[Bt.v,V.share,V.shareL,kF,kA]
@[simp] theorem zHi (t:Bool) (l:List Bt):V.shareL (bts t l)=bts false l:=by
 induction l with
 | nil=>rfl
 | cons x l ih=>simp[V.shareL,ih]
@[simp] theorem Bt.snap (t:Bool) (x:Bt) (q:St):V.snap q (x.v t)=some (x.v false):=by simp[Bt.v,V.snap,V.snapL,mp,kA]
@[simp] theorem Bt.snapA (t:Bool) (x:Bt) (q:St):V.snapA q (x.v t)=some (x.v false):=Bt.snap t x q
@[simp] theorem Bt.snapP (t:Bool) (x:Bt) (q:St):V.snapP q (x.v t)=some (x.v false):=Bt.snap t x q
@[simp] theorem Bt.accM (t:Bool) (x:Bt):V.accM (x.v t)=[]:=by simp[Bt.v,V.accM,V.accML]
@[simp] theorem Bt.accF (t:Bool) (x:Bt):V.accF (x.v t)=[]:=by simp[Bt.v,V.accF,V.accFL]
@[simp] theorem Bt.ren (t:Bool) (x:Bt) (ρ:Nat→Option Nat) (vr:Nat→Nat):V.ren ρ vr (x.v t)=x.v t:=by simp[Bt.v,V.ren,V.renL]
@[simp] theorem Bt.bA (i:Nat) (t:Bool) (x:Bt) (r:List V):zQ i (x.v t::r)=((i,x.v t)::(zQ (i+1) r).1,(zQ (i+1) r).2):=rfl
@[simp] theorem Bt.lodF (x:Bt) (o i ver:Nat) (fs:List Nat):V.lod o i ver fs (x.v false)=x.v false:=by simp[Bt.v,V.lod,V.lodL]
@[simp] theorem Bt.fzF (x:Bt) (s:St):V.fz (x.v false) s=some (x.v false,s):=by simp[Bt.v,V.fz,V.fzL,mp]
@[simp] theorem Bt.fzI (t:Bool) (x:Bt) (s:St):V.fzI (x.v t) s=some (x.v t,s):=by cases t<;>simp[Bt.v,V.fz,V.fzI,V.fzIL,mp]
@[simp] theorem Bt.scal (t:Bool) (x:Bt):V.scal (x.v t)=false:=by simp[Bt.v,V.scal,V.scalL]
@[simp] theorem Bt.isTup (t:Bool) (x:Bt):(x.v t).isTup=false:=rfl
@[simp] theorem Bt.tidyT (x:Bt):V.tidy (x.v true)=true:=by simp[Bt.v,V.tidy,V.tidyL,zAs]
@[simp] theorem zRr (l:List Bt):V.tidyL (bts true l)=true:=by
 induction l with
 | nil=>rfl
 | cons x l ih=>simp[V.tidyL,ih]
@[simp] theorem Bt.thawF (x:Bt) (id:Nat):V.thaw id (x.v false)=(x.v false,[],id):=by simp[Bt.v,V.thaw,V.thawL]
@[simp] theorem Bt.thawT (x:Bt) (id:Nat):V.thaw id (x.v true)=(.agg [.int .i64 x.side,.int .i64 x.ep,.ref (id) 0 x.set.length],[(id,⟨false,false,2,ets true x.set,0⟩)],id+1):=by simp[Bt.v,V.thaw,V.thawL]
structure Hd where
 oldA:List Et
 oldB:List Et
 waits:List Bt
 told:Int
 deriving DecidableEq
theorem Hd.eq_iff {d g:Hd}:d=g↔d.oldA=g.oldA∧d.oldB=g.oldB∧d.waits=g.waits∧d.told=g.told:=by
 cases d;cases g;simp
def Hd.v (t:Bool) (x:Hd):V:=.agg [.lst t (lz t 2) (ets t x.oldA),.lst t (lz t 2) (ets t x.oldB),.lst t (lz t 3) (bts t x.waits),.int .i64 x.told]
def hds (t:Bool) (l:List Hd):List V:=l.map (Hd.v t)
@[simp] theorem hds_len (t:Bool) (l:List Hd):(hds t l).length=l.length:=by simp[hds]
@[simp] theorem hds_nil (t:Bool):hds t []=[]:=rfl
@[simp] theorem hds_cons (t:Bool) (x:Hd) (l:List Hd):hds t (x::l)=x.v t::hds t l:=rfl
@[simp] theorem hds_join (t:Bool) (l m:List Hd):hds t l++hds t m=hds t (l++m):=by simp[hds]
@[simp] theorem hds_snoc (t:Bool) (l:List Hd) (x:Hd):hds t l++[x.v t]=hds t (l++[x]):=by simp[hds]
@[simp] theorem qEy (l:List Hd) (a:List Et) (b:List Et) (c:List Bt) (d:Int):hds true l++[V.agg [.lst true 2 (ets true a),.lst true 2 (ets true b),.lst true 3 (bts true c),.int .i64 d]]=hds true (l++[⟨a,b,c,d⟩]):=by simp[hds,Hd.v]
@[simp] theorem qJa (l:List Hd) (j:Nat) (a:List Et) (b:List Et) (c:List Bt) (d:Int):(hds true l).set j (V.agg [.lst true 2 (ets true a),.lst true 2 (ets true b),.lst true 3 (bts true c),.int .i64 d])=hds true (l.set j ⟨a,b,c,d⟩):=by simp[hds,Hd.v,List.map_set]
theorem zO0 (m:Nat):List.replicate m (V.agg [.lst true 2 [],.lst true 2 [],.lst true 3 [],.int .i64 0])=hds true (List.replicate m ⟨[],[],[],0⟩):=by simp[hds,Hd.v]
@[simp] theorem qE4 (l:List Hd) (a:List Et) (b:List Et) (c:List Bt) (d:Int):hds false l++[V.agg [.lst false 0 (ets false a),.lst false 0 (ets false b),.lst false 0 (bts false c),.int .i64 d]]=hds false (l++[⟨a,b,c,d⟩]):=by simp[hds,Hd.v]
@[simp] theorem qFe (l:List Hd) (j:Nat) (a:List Et) (b:List Et) (c:List Bt) (d:Int):(hds false l).set j (V.agg [.lst false 0 (ets false a),.lst false 0 (ets false b),.lst false 0 (bts false c),.int .i64 d])=hds false (l.set j ⟨a,b,c,d⟩):=by simp[hds,Hd.v,List.map_set]
@[simp] theorem hds_set (t:Bool) (l:List Hd) (i:Nat) (x:Hd):(hds t l).set i (x.v t)=hds t (l.set i x):=by simp[hds,List.map_set]
theorem zTs {t:Bool} {l:List Hd} {i:Nat} {x:Hd} (h:l[i]? = some x):(hds t l)[i]? = some (x.v t):=by simp[hds,h]
theorem qHr {t:Bool} {l:List Hd} {i:Nat} (h:i<l.length):(hds t l)[(i:Int).toNat]? = some (l[i].v t):=zTs (by simp[h])
theorem qC7 {t:Bool} {l:List Hd} {i:Nat} (h:i<l.length):∃x,l[i]? = some x∧l.drop i=x::l.drop (i+1)∧(hds t l)[(i:Int).toNat]? = some (x.v t) :=
 ⟨l[i],by simp[h],List.drop_eq_getElem_cons h,qHr h⟩
@[simp] theorem hds_take (t:Bool) (n:Nat) (l:List Hd):(hds t l).take n=hds t (l.take n):=by simp[hds,List.map_take]
@[simp] theorem hds_drop (t:Bool) (n:Nat) (l:List Hd):(hds t l).drop n=hds t (l.drop n):=by simp[hds,List.map_drop]
@[simp] theorem Hd.cells_v (t:Bool) (x:Hd):(x.v t).cells=4:=rfl
@[simp] theorem Hd.mention (t:Bool) (x:Hd):V.mention (x.v t)=[]:=by simp[Hd.v,V.mention,V.mentionL,kI]
@[simp] theorem Hd.share (t:Bool) (x:Hd):(x.v t).share=x.v false:=by simp[Hd.v,V.share,V.shareL,kF,kA,kA,zHi]
@[simp] theorem zH6 (t:Bool) (l:List Hd):V.shareL (hds t l)=hds false l:=by
 induction l with
 | nil=>rfl
 | cons x l ih=>simp[V.shareL,ih]
@[simp] theorem Hd.snap (t:Bool) (x:Hd) (q:St):V.snap q (x.v t)=some (x.v false):=by simp[Hd.v,V.snap,V.snapL,mp,kA,kA,zHi]
@[simp] theorem Hd.snapA (t:Bool) (x:Hd) (q:St):V.snapA q (x.v t)=some (x.v false):=Hd.snap t x q
@[simp] theorem Hd.snapP (t:Bool) (x:Hd) (q:St):V.snapP q (x.v t)=some (x.v false):=Hd.snap t x q
@[simp] theorem Hd.accM (t:Bool) (x:Hd):V.accM (x.v t)=[]:=by simp[Hd.v,V.accM,V.accML]
@[simp] theorem Hd.accF (t:Bool) (x:Hd):V.accF (x.v t)=[]:=by simp[Hd.v,V.accF,V.accFL]
@[simp] theorem Hd.ren (t:Bool) (x:Hd) (ρ:Nat→Option Nat) (vr:Nat→Nat):V.ren ρ vr (x.v t)=x.v t:=by simp[Hd.v,V.ren,V.renL]
@[simp] theorem Hd.bA (i:Nat) (t:Bool) (x:Hd) (r:List V):zQ i (x.v t::r)=((i,x.v t)::(zQ (i+1) r).1,(zQ (i+1) r).2):=rfl
@[simp] theorem Hd.lodF (x:Hd) (o i ver:Nat) (fs:List Nat):V.lod o i ver fs (x.v false)=x.v false:=by simp[Hd.v,V.lod,V.lodL]
@[simp] theorem Hd.fzF (x:Hd) (s:St):V.fz (x.v false) s=some (x.v false,s):=by simp[Hd.v,V.fz,V.fzL,mp]
@[simp] theorem Hd.fzI (t:Bool) (x:Hd) (s:St):V.fzI (x.v t) s=some (x.v t,s):=by cases t<;>simp[Hd.v,V.fz,V.fzI,V.fzIL,mp]
@[simp] theorem Hd.scal (t:Bool) (x:Hd):V.scal (x.v t)=false:=by simp[Hd.v,V.scal,V.scalL]
@[simp] theorem Hd.isTup (t:Bool) (x:Hd):(x.v t).isTup=false:=rfl
@[simp] theorem Hd.tidyT (x:Hd):V.tidy (x.v true)=true:=by simp[Hd.v,V.tidy,V.tidyL,zAs,zAs,zRr]
@[simp] theorem zUs (l:List Hd):V.tidyL (hds true l)=true:=by
 induction l with
 | nil=>rfl
 | cons x l ih=>simp[V.tidyL,ih]
@[simp] theorem Hd.thawF (x:Hd) (id:Nat):V.thaw id (x.v false)=(x.v false,[],id):=by simp[Hd.v,V.thaw,V.thawL]
@[simp] theorem Hd.thawT (x:Hd) (id:Nat):V.thaw id (x.v true)=(.agg [.ref (id) 0 x.oldA.length,.ref (id+1) 0 x.oldB.length,.ref (id+1+1) 0 x.waits.length,.int .i64 x.told],[(id,⟨false,false,2,ets true x.oldA,0⟩),(id+1,⟨false,false,2,ets true x.oldB,0⟩),(id+1+1,⟨false,false,3,bts true x.waits,0⟩)],id+1+1+1):=by simp[Hd.v,V.thaw,V.thawL]
structure Rl where
 node:Int
 ep:Int
 set:List Et
 deriving DecidableEq
theorem Rl.eq_iff {d g:Rl}:d=g↔d.node=g.node∧d.ep=g.ep∧d.set=g.set:=by
 cases d;cases g;simp
def Rl.v (t:Bool) (x:Rl):V:=.agg [.int .i64 x.node,.int .i64 x.ep,.lst t (lz t 2) (ets t x.set)]
def rls (t:Bool) (l:List Rl):List V:=l.map (Rl.v t)
@[simp] theorem rls_len (t:Bool) (l:List Rl):(rls t l).length=l.length:=by simp[rls]
@[simp] theorem rls_nil (t:Bool):rls t []=[]:=rfl
@[simp] theorem rls_cons (t:Bool) (x:Rl) (l:List Rl):rls t (x::l)=x.v t::rls t l:=rfl
@[simp] theorem rls_join (t:Bool) (l m:List Rl):rls t l++rls t m=rls t (l++m):=by simp[rls]
@[simp] theorem rls_snoc (t:Bool) (l:List Rl) (x:Rl):rls t l++[x.v t]=rls t (l++[x]):=by simp[rls]
@[simp] theorem qEb (l:List Rl) (a:Int) (b:Int) (c:List Et):rls true l++[V.agg [.int .i64 a,.int .i64 b,.lst true 2 (ets true c)]]=rls true (l++[⟨a,b,c⟩]):=by simp[rls,Rl.v]
@[simp] theorem qKc (l:List Rl) (j:Nat) (a:Int) (b:Int) (c:List Et):(rls true l).set j (V.agg [.int .i64 a,.int .i64 b,.lst true 2 (ets true c)])=rls true (l.set j ⟨a,b,c⟩):=by simp[rls,Rl.v,List.map_set]
@[simp] theorem qEn (l:List Rl) (a:Int) (b:Int) (c:List Et):rls false l++[V.agg [.int .i64 a,.int .i64 b,.lst false 0 (ets false c)]]=rls false (l++[⟨a,b,c⟩]):=by simp[rls,Rl.v]
@[simp] theorem qFg (l:List Rl) (j:Nat) (a:Int) (b:Int) (c:List Et):(rls false l).set j (V.agg [.int .i64 a,.int .i64 b,.lst false 0 (ets false c)])=rls false (l.set j ⟨a,b,c⟩):=by simp[rls,Rl.v,List.map_set]
@[simp] theorem rls_set (t:Bool) (l:List Rl) (i:Nat) (x:Rl):(rls t l).set i (x.v t)=rls t (l.set i x):=by simp[rls,List.map_set]
theorem qCq {t:Bool} {l:List Rl} {i:Nat} {x:Rl} (h:l[i]? = some x):(rls t l)[i]? = some (x.v t):=by simp[rls,h]
theorem qKv {t:Bool} {l:List Rl} {i:Nat} (h:i<l.length):(rls t l)[(i:Int).toNat]? = some (l[i].v t):=qCq (by simp[h])
theorem qD7 {t:Bool} {l:List Rl} {i:Nat} (h:i<l.length):∃x,l[i]? = some x∧l.drop i=x::l.drop (i+1)∧(rls t l)[(i:Int).toNat]? = some (x.v t) :=
 ⟨l[i],by simp[h],List.drop_eq_getElem_cons h,qKv h⟩
@[simp] theorem rls_take (t:Bool) (n:Nat) (l:List Rl):(rls t l).take n=rls t (l.take n):=by simp[rls,List.map_take]
@[simp] theorem rls_drop (t:Bool) (n:Nat) (l:List Rl):(rls t l).drop n=rls t (l.drop n):=by simp[rls,List.map_drop]
@[simp] theorem Rl.cells_v (t:Bool) (x:Rl):(x.v t).cells=3:=rfl
@[simp] theorem Rl.mention (t:Bool) (x:Rl):V.mention (x.v t)=[]:=by simp[Rl.v,V.mention,V.mentionL,kI]
@[simp] theorem Rl.share (t:Bool) (x:Rl):(x.v t).share=x.v false:=by simp[Rl.v,V.share,V.shareL,kF,kA]
@[simp] theorem zH3 (t:Bool) (l:List Rl):V.shareL (rls t l)=rls false l:=by
 induction l with
 | nil=>rfl
 | cons x l ih=>simp[V.shareL,ih]
@[simp] theorem Rl.snap (t:Bool) (x:Rl) (q:St):V.snap q (x.v t)=some (x.v false):=by simp[Rl.v,V.snap,V.snapL,mp,kA]
@[simp] theorem Rl.snapA (t:Bool) (x:Rl) (q:St):V.snapA q (x.v t)=some (x.v false):=Rl.snap t x q
@[simp] theorem Rl.snapP (t:Bool) (x:Rl) (q:St):V.snapP q (x.v t)=some (x.v false):=Rl.snap t x q
@[simp] theorem Rl.accM (t:Bool) (x:Rl):V.accM (x.v t)=[]:=by simp[Rl.v,V.accM,V.accML]
@[simp] theorem Rl.accF (t:Bool) (x:Rl):V.accF (x.v t)=[]:=by simp[Rl.v,V.accF,V.accFL]
@[simp] theorem Rl.ren (t:Bool) (x:Rl) (ρ:Nat→Option Nat) (vr:Nat→Nat):V.ren ρ vr (x.v t)=x.v t:=by simp[Rl.v,V.ren,V.renL]
@[simp] theorem Rl.bA (i:Nat) (t:Bool) (x:Rl) (r:List V):zQ i (x.v t::r)=((i,x.v t)::(zQ (i+1) r).1,(zQ (i+1) r).2):=rfl
@[simp] theorem Rl.lodF (x:Rl) (o i ver:Nat) (fs:List Nat):V.lod o i ver fs (x.v false)=x.v false:=by simp[Rl.v,V.lod,V.lodL]
@[simp] theorem Rl.fzF (x:Rl) (s:St):V.fz (x.v false) s=some (x.v false,s):=by simp[Rl.v,V.fz,V.fzL,mp]
@[simp] theorem Rl.fzI (t:Bool) (x:Rl) (s:St):V.fzI (x.v t) s=some (x.v t,s):=by cases t<;>simp[Rl.v,V.fz,V.fzI,V.fzIL,mp]
@[simp] theorem Rl.scal (t:Bool) (x:Rl):V.scal (x.v t)=false:=by simp[Rl.v,V.scal,V.scalL]
@[simp] theorem Rl.isTup (t:Bool) (x:Rl):(x.v t).isTup=false:=rfl
@[simp] theorem Rl.tidyT (x:Rl):V.tidy (x.v true)=true:=by simp[Rl.v,V.tidy,V.tidyL,zAs]
@[simp] theorem zSf (l:List Rl):V.tidyL (rls true l)=true:=by
 induction l with
 | nil=>rfl
 | cons x l ih=>simp[V.tidyL,ih]
@[simp] theorem Rl.thawF (x:Rl) (id:Nat):V.thaw id (x.v false)=(x.v false,[],id):=by simp[Rl.v,V.thaw,V.thawL]
@[simp] theorem Rl.thawT (x:Rl) (id:Nat):V.thaw id (x.v true)=(.agg [.int .i64 x.node,.int .i64 x.ep,.ref (id) 0 x.set.length],[(id,⟨false,false,2,ets true x.set,0⟩)],id+1):=by simp[Rl.v,V.thaw,V.thawL]
structure Wk where
 inbox:List Fr
 counts:List Ct
 nodes:List Hd
 ep:Int
 top:Int
 outs:List Rl
 bad:Bool
 deriving DecidableEq
theorem Wk.eq_iff {d g:Wk}:d=g↔d.inbox=g.inbox∧d.counts=g.counts∧d.nodes=g.nodes∧d.ep=g.ep∧d.top=g.top∧d.outs=g.outs∧d.bad=g.bad:=by
 cases d;cases g;simp
def Wk.v (t:Bool) (x:Wk):V:=.agg [.lst t (lz t 6) (frs t x.inbox),.lst t (lz t 3) (cts x.counts),.lst t (lz t 4) (hds t x.nodes),.int .i64 x.ep,.int .i64 x.top,.lst t (lz t 3) (rls t x.outs),.bool x.bad]
def wks (t:Bool) (l:List Wk):List V:=l.map (Wk.v t)
@[simp] theorem wks_len (t:Bool) (l:List Wk):(wks t l).length=l.length:=by simp[wks]
@[simp] theorem wks_nil (t:Bool):wks t []=[]:=rfl
@[simp] theorem wks_cons (t:Bool) (x:Wk) (l:List Wk):wks t (x::l)=x.v t::wks t l:=rfl
@[simp] theorem wks_join (t:Bool) (l m:List Wk):wks t l++wks t m=wks t (l++m):=by simp[wks]
@[simp] theorem wks_snoc (t:Bool) (l:List Wk) (x:Wk):wks t l++[x.v t]=wks t (l++[x]):=by simp[wks]
@[simp] theorem qEi (l:List Wk) (a:List Fr) (b:List Ct) (c:List Hd) (d:Int) (e:Int) (f:List Rl) (g:Bool):wks true l++[V.agg [.lst true 6 (frs true a),.lst true 3 (cts b),.lst true 4 (hds true c),.int .i64 d,.int .i64 e,.lst true 3 (rls true f),.bool g]]=wks true (l++[⟨a,b,c,d,e,f,g⟩]):=by simp[wks,Wk.v]
@[simp] theorem qJr (l:List Wk) (j:Nat) (a:List Fr) (b:List Ct) (c:List Hd) (d:Int) (e:Int) (f:List Rl) (g:Bool):(wks true l).set j (V.agg [.lst true 6 (frs true a),.lst true 3 (cts b),.lst true 4 (hds true c),.int .i64 d,.int .i64 e,.lst true 3 (rls true f),.bool g])=wks true (l.set j ⟨a,b,c,d,e,f,g⟩):=by simp[wks,Wk.v,List.map_set]
@[simp] theorem qEs (l:List Wk) (a:List Fr) (b:List Ct) (c:List Hd) (d:Int) (e:Int) (f:List Rl) (g:Bool):wks false l++[V.agg [.lst false 0 (frs false a),.lst false 0 (cts b),.lst false 0 (hds false c),.int .i64 d,.int .i64 e,.lst false 0 (rls false f),.bool g]]=wks false (l++[⟨a,b,c,d,e,f,g⟩]):=by simp[wks,Wk.v]
@[simp] theorem qJl (l:List Wk) (j:Nat) (a:List Fr) (b:List Ct) (c:List Hd) (d:Int) (e:Int) (f:List Rl) (g:Bool):(wks false l).set j (V.agg [.lst false 0 (frs false a),.lst false 0 (cts b),.lst false 0 (hds false c),.int .i64 d,.int .i64 e,.lst false 0 (rls false f),.bool g])=wks false (l.set j ⟨a,b,c,d,e,f,g⟩):=by simp[wks,Wk.v,List.map_set]
@[simp] theorem wks_set (t:Bool) (l:List Wk) (i:Nat) (x:Wk):(wks t l).set i (x.v t)=wks t (l.set i x):=by simp[wks,List.map_set]
theorem qA1 {t:Bool} {l:List Wk} {i:Nat} {x:Wk} (h:l[i]? = some x):(wks t l)[i]? = some (x.v t):=by simp[wks,h]
theorem qGb {t:Bool} {l:List Wk} {i:Nat} (h:i<l.length):(wks t l)[(i:Int).toNat]? = some (l[i].v t):=qA1 (by simp[h])
theorem zIp {t:Bool} {l:List Wk} {i:Nat} (h:i<l.length):∃x,l[i]? = some x∧l.drop i=x::l.drop (i+1)∧(wks t l)[(i:Int).toNat]? = some (x.v t) :=
 ⟨l[i],by simp[h],List.drop_eq_getElem_cons h,qGb h⟩
@[simp] theorem wks_take (t:Bool) (n:Nat) (l:List Wk):(wks t l).take n=wks t (l.take n):=by simp[wks,List.map_take]
@[simp] theorem wks_drop (t:Bool) (n:Nat) (l:List Wk):(wks t l).drop n=wks t (l.drop n):=by simp[wks,List.map_drop]
@[simp] theorem Wk.cells_v (t:Bool) (x:Wk):(x.v t).cells=7:=rfl
@[simp] theorem Wk.mention (t:Bool) (x:Wk):V.mention (x.v t)=[]:=by simp[Wk.v,V.mention,V.mentionL,kI]
@[simp] theorem Wk.share (t:Bool) (x:Wk):(x.v t).share=x.v false:=by simp[Wk.v,V.share,V.shareL,kF,zHb,zAx,zH6,zH3]
@[simp] theorem zH0 (t:Bool) (l:List Wk):V.shareL (wks t l)=wks false l:=by
 induction l with
 | nil=>rfl
 | cons x l ih=>simp[V.shareL,ih]
@[simp] theorem Wk.snap (t:Bool) (x:Wk) (q:St):V.snap q (x.v t)=some (x.v false):=by simp[Wk.v,V.snap,V.snapL,mp,zHb,zAx,zH6,zH3]
@[simp] theorem Wk.snapA (t:Bool) (x:Wk) (q:St):V.snapA q (x.v t)=some (x.v false):=Wk.snap t x q
@[simp] theorem Wk.snapP (t:Bool) (x:Wk) (q:St):V.snapP q (x.v t)=some (x.v false):=Wk.snap t x q
@[simp] theorem Wk.accM (t:Bool) (x:Wk):V.accM (x.v t)=[]:=by simp[Wk.v,V.accM,V.accML]
@[simp] theorem Wk.accF (t:Bool) (x:Wk):V.accF (x.v t)=[]:=by simp[Wk.v,V.accF,V.accFL]
@[simp] theorem Wk.ren (t:Bool) (x:Wk) (ρ:Nat→Option Nat) (vr:Nat→Nat):V.ren ρ vr (x.v t)=x.v t:=by simp[Wk.v,V.ren,V.renL]
@[simp] theorem Wk.bA (i:Nat) (t:Bool) (x:Wk) (r:List V):zQ i (x.v t::r)=((i,x.v t)::(zQ (i+1) r).1,(zQ (i+1) r).2):=rfl
@[simp] theorem Wk.lodF (x:Wk) (o i ver:Nat) (fs:List Nat):V.lod o i ver fs (x.v false)=x.v false:=by simp[Wk.v,V.lod,V.lodL]
@[simp] theorem Wk.fzF (x:Wk) (s:St):V.fz (x.v false) s=some (x.v false,s):=by simp[Wk.v,V.fz,V.fzL,mp]
@[simp] theorem Wk.fzI (t:Bool) (x:Wk) (s:St):V.fzI (x.v t) s=some (x.v t,s):=by cases t<;>simp[Wk.v,V.fz,V.fzI,V.fzIL,mp]
@[simp] theorem Wk.scal (t:Bool) (x:Wk):V.scal (x.v t)=false:=by simp[Wk.v,V.scal,V.scalL]
@[simp] theorem Wk.isTup (t:Bool) (x:Wk):(x.v t).isTup=false:=rfl
@[simp] theorem Wk.tidyT (x:Wk):V.tidy (x.v true)=true:=by simp[Wk.v,V.tidy,V.tidyL,zTn,zLl,zUs,zSf]
@[simp] theorem zUd (l:List Wk):V.tidyL (wks true l)=true:=by
 induction l with
 | nil=>rfl
 | cons x l ih=>simp[V.tidyL,ih]
@[simp] theorem Wk.thawF (x:Wk) (id:Nat):V.thaw id (x.v false)=(x.v false,[],id):=by simp[Wk.v,V.thaw,V.thawL]
@[simp] theorem Wk.thawT (x:Wk) (id:Nat):V.thaw id (x.v true)=(.agg [.ref (id) 0 x.inbox.length,.ref (id+1) 0 x.counts.length,.ref (id+1+1) 0 x.nodes.length,.int .i64 x.ep,.int .i64 x.top,.ref (id+1+1+1) 0 x.outs.length,.bool x.bad],[(id,⟨false,false,6,frs true x.inbox,0⟩),(id+1,⟨false,false,3,cts x.counts,0⟩),(id+1+1,⟨false,false,4,hds true x.nodes,0⟩),(id+1+1+1,⟨false,false,3,rls true x.outs,0⟩)],id+1+1+1+1):=by simp[Wk.v,V.thaw,V.thawL]
def wS {α:Type} (f:α→Nat) (l:List α):Nat:=(l.map f).sum
@[simp] theorem wS_nil {α:Type} (f:α→Nat):wS f []=0:=rfl
@[simp] theorem vR {α:Type} (f:α→Nat) (x:α) (l:List α):wS f (x::l)=f x+wS f l:=by simp[wS]
theorem zE7 {α:Type} {f:α→Nat}:∀{l:List α} {x:α},x∈l→f x≤wS f l
 | y::l,x,h=>by
  rcases List.mem_cons.1 h with rfl|h
  ·simp
  ·have:=zE7 (f:=f) h;simp;omega
def qDw (x:Et):Nat:=x.row.length
def zA0 (l:List Et):Nat:=l.length+wS qDw l
theorem zG5 {l:List Et} {x:Et} (h:x∈l):l.length+qDw x≤zA0 l:=by
 have:=zE7 (f:=qDw) h;unfold zA0;omega
theorem zD1 {l:List Et}:l.length≤zA0 l:=by unfold zA0;omega
def zZ2 (x:Fr):Nat:=zA0 x.set+x.news.length
def zEe (l:List Fr):Nat:=l.length+wS zZ2 l
theorem zJw {l:List Fr} {x:Fr} (h:x∈l):l.length+zZ2 x≤zEe l:=by
 have:=zE7 (f:=zZ2) h;unfold zEe;omega
theorem xV {l:List Fr}:l.length≤zEe l:=by unfold zEe;omega
def qG8 (x:Bt):Nat:=zA0 x.set
def zMz (l:List Bt):Nat:=l.length+wS qG8 l
theorem zTp {l:List Bt} {x:Bt} (h:x∈l):l.length+qG8 x≤zMz l:=by
 have:=zE7 (f:=qG8) h;unfold zMz;omega
theorem zKl {l:List Bt}:l.length≤zMz l:=by unfold zMz;omega
def zXq (x:Hd):Nat:=zA0 x.oldA+zA0 x.oldB+zMz x.waits
def zIq (l:List Hd):Nat:=l.length+wS zXq l
theorem zSv {l:List Hd} {x:Hd} (h:x∈l):l.length+zXq x≤zIq l:=by
 have:=zE7 (f:=zXq) h;unfold zIq;omega
theorem zKr {l:List Hd}:l.length≤zIq l:=by unfold zIq;omega
def qHg (x:Rl):Nat:=zA0 x.set
def zJn (l:List Rl):Nat:=l.length+wS qHg l
theorem zSy {l:List Rl} {x:Rl} (h:x∈l):l.length+qHg x≤zJn l:=by
 have:=zE7 (f:=qHg) h;unfold zJn;omega
theorem zLd {l:List Rl}:l.length≤zJn l:=by unfold zJn;omega
def zQx (x:Wk):Nat:=zEe x.inbox+x.counts.length+zIq x.nodes+zJn x.outs
def zA8 (l:List Wk):Nat:=l.length+wS zQx l
theorem zEz {l:List Wk} {x:Wk} (h:x∈l):l.length+zQx x≤zA8 l:=by
 have:=zE7 (f:=zQx) h;unfold zA8;omega
theorem zFc {l:List Wk}:l.length≤zA8 l:=by unfold zA8;omega
end Go.Proofs.YtbcgenkegnmkhaaGreat.Ev
namespace Go.Proofs.YtbcgenkegnmkhaaGreat.Ev
open Go
set_option maxRecDepth 100000
set_option linter.unusedSimpArgs false
set_option linter.unusedVariables false
set_option maxHeartbeats 2000000
theorem oc_ok:jG Tryz.prog oc.call:=by
 unfold oc
 exact zX3 (by kernel_rfl) tb
theorem l_eqG (a b:List Int) (z z':Nat) (ha:a.length<4000000000) (hab:a.length=b.length):∀i:Nat,i≤a.length→∀s,zI 2 (some [0,1,12,13]) s=⟨[(0,.lst false z (ints a)),(1,.lst false z' (ints b)),(12,.int .i64 a.length),(13,.int .i64 i)],[],2⟩ →
 oc.loop 133 4 s=some (if a.drop i=b.drop i then(.exit 0,⟨[],[],2⟩) else(.ret,⟨[(4,.bool false)],[],2⟩)):=by
 refine zW (fun i=>a.length - i) _ (fun i=>⟨[(0,.lst false z (ints a)),(1,.lst false z' (ints b)),(12,.int .i64 a.length),(13,.int .i64 i)],[],2⟩) _ ?_
 intro i hi ih s hs
 refine qB qHe rfl rfl hs ?_
 refine wa_ (zB (w_ (b_ (h:=zC (e_ (h:=zA (wa_ (?_))))))))
 refine c_ (h1:=?_) (h2:=?_)
 rotate_right 1
 focus
  intro c1
  simp at c1;have:i=a.length:=(by omega);subst this
  refine zX (?_)
 rotate_right 1
 focus
  intro c1
  simp at c1;have hw:=zV (i:=i) (by omega);obtain⟨x,_,d1,g1⟩:=kU c1;obtain⟨y,_,d2,g2⟩:=kU (l:=b) (i:=i) (by omega)
  refine zD (?_)
 all_goals first
 | refine zS ?_
 | (
  refine zA ?_
  refine wa_ (zG (wa_ (zB (w_ (m_ (h:=w_ (a_ (h:=zC (e_ (h:=zA (wa_ (qE (y_ (m_ (h:=ax_ (h:=y_ (m_ (h:=ax_ (h:=?_)))))))))))))))))))
  refine y_ (x_ (h:=ax_ (h:=y_ (l_ (h:=ax_ (h:=y_ (m_ (h:=ax_ (h:=y_ (m_ (h:=ax_ (h:=y_ (x_ (h:=ax_ (h:=y_ (l_ (h:=ax_ (h:=y_ (bE (h:=ax_ (h:=zC (ed (h:=zA (?_))))))))))))))))))))))))
  refine c_ (h1:=?_) (h2:=?_)
  rotate_right 1
  focus
   intro c2
   refine zD (?_)
  rotate_right 1
  focus
   intro c2
   refine wa_ (zB (w_ (a_ (h:=zC (e_ (h:=zA (zH (?_))))))))
  all_goals first|refine zJ ?_|refine zY ?_
  all_goals first
  | refine zL ?_
  | (
   refine zA ?_
   refine zB (w_ (b_ (h:=w_ (m_ (h:=zC (e_ (h:=?_)))))))
   )
  )
 all_goals first
 | (refine(ih (i+1) (by omega) ?_ _ ?_).trans ?_;(focus (first|omega|(simp;done)|(simp;omega)));(focus (simp[zI,hw];done));(focus (simp at c2;rw[d1,d2];simp[c2])))
 | (apply zM (ex:=Ext.ret) 2 (some [4]);(focus (simp[zI];rfl));(focus (simp at c2;rw[d1,d2];simp[c2])))
 | (apply zM (ex:=(Ext.exit 0)) 2 (some [4]);(focus (simp[zI];rfl));(focus (rw[if_pos (by simp[hab])])))
theorem e_eqG (a b:List Int) (z z':Nat) (ha:a.length<4000000000) (hb:b.length<4000000000):oc.call 133 [.lst false z (ints a),.lst false z' (ints b)]=some (.bool (decide (a=b)),[]):=by
 refine qD rfl qHe rfl rfl rfl (by simp;rfl) (by simp;rfl) ?_
 refine wa_ (zB (w_ (a_ (h:=zC (e_ (h:=zA (wa_ (wa_ (zB (w_ (m_ (h:=w_ (le (h:=w_ (m_ (h:=w_ (le (h:=?_))))))))))))))))))
 refine w_ (bE (h:=zC (e_ (h:=zA (?_)))))
 refine c_ (h1:=?_) (h2:=?_)
 rotate_right 1
 focus
  intro c1
  simp at c1
  refine zD (?_)
 rotate_right 1
 focus
  intro c1
  simp at c1;have hne:a≠b:=(by rintro rfl;exact c1 rfl)
  refine wa_ (zB (w_ (a_ (h:=zC (e_ (h:=zA (zH (?_))))))))
 all_goals first
 | refine zL ?_
 | (
  refine zA ?_
  refine wa_ (wa_ (zB (w_ (m_ (h:=w_ (le (h:=w_ (m_ (h:=zC (e_ (h:=zA (zG (?_)))))))))))))
  refine qR (l_eqG a b z z' ha (by omega) 0 (by omega) _ (by simp[zI])) ?_ ?_
  rotate_right 1
  focus
   intro c2
   skip
  rotate_right 1
  focus
   intro c2
   skip
  all_goals first|refine zY ?_|refine zT ?_
  all_goals first
  | refine zL ?_
  | (
   refine zA ?_
   refine wa_ (zB (w_ (a_ (h:=zC (e_ (h:=zA (zH (?_))))))))
   )
  )
 all_goals (refine qZ (hr:=(zR rfl zO)) (h:=?_);(focus (first|(simp_all;done)|(simp_all<;>omega)|(simp_all<;>split<;>simp_all<;>omega))))
theorem qJo (z z':Nat) (d g:Nd) (ha:d.cells.length<4000000) (hb:g.cells.length<4000000):oc.call 112 [d.v false z,g.v false z']=some (.bool (decide (d=g)),[]):=by
 refine qD rfl cd112 rfl rfl rfl (by simp;rfl) (by simp;rfl) ?_
 refine wa_ (zB (w_ (bx (h:=w_ (bx (h:=w_ (a_ (h:=zC (e_ (h:=zA (wa_ (zB (w_ (f_ (h:=w_ (l_ (h:=w_ (f_ (h:=?_)))))))))))))))))))
 refine w_ (l_ (h:=w_ (bE (h:=w_ (m_ (h:=?_))))))
 refine gw_ (h1:=?_) (h2:=?_)
 rotate_right 1
 focus
  intro c1
  first
  | exact dn c1
  | (
   have d1:=c1;try simp at d1
   refine go_ (h:=go_ (h:=go_ (h:=go_ (h:=go_ (h:=?_)))))
   )
 rotate_right 1
 focus
  intro c1
  first
  | exact dn c1
  | (
   have d1:=c1;try simp at d1
   refine g_ (h:=w_ (f_ (h:=g_ (h:=w_ (l_ (h:=g_ (h:=w_ (f_ (h:=g_ (h:=w_ (l_ (h:=g_ (h:=w_ (bE (h:=?_)))))))))))))))
   )
 all_goals
  refine w_ (pk (h:=w_ (m_ (h:=?_))))
  refine gw_ (h1:=?_) (h2:=?_)
  rotate_right 1
  focus
   intro c2
   first
   | exact dn c2
   | (
    have d2:=c2;try simp at d2
    refine go_ (h:=go_ (h:=go_ (h:=go_ (h:=go_ (h:=?_)))))
    )
  rotate_right 1
  focus
   intro c2
   first
   | exact dn c2
   | (
    have d2:=c2;try simp at d2
    refine g_ (h:=w_ (f_ (h:=g_ (h:=w_ (l_ (h:=g_ (h:=w_ (f_ (h:=g_ (h:=w_ (l_ (h:=g_ (h:=w_ (bE (h:=?_)))))))))))))))
    )
  all_goals
   refine w_ (pk (h:=w_ (m_ (h:=?_))))
   refine gw_ (h1:=?_) (h2:=?_)
   rotate_right 1
   focus
    intro c3
    first
    | exact dn c3
    | (
     have d3:=c3;try simp at d3
     refine go_ (h:=go_ (h:=go_ (h:=go_ (h:=go_ (h:=?_)))))
     )
   rotate_right 1
   focus
    intro c3
    first
    | exact dn c3
    | (
     have d3:=c3;try simp at d3
     refine g_ (h:=w_ (f_ (h:=g_ (h:=w_ (l_ (h:=g_ (h:=w_ (f_ (h:=g_ (h:=w_ (l_ (h:=g_ (h:=w_ (bE (h:=?_)))))))))))))))
     )
   all_goals
    refine w_ (pk (h:=w_ (m_ (h:=?_))))
    refine gw_ (h1:=?_) (h2:=?_)
    rotate_right 1
    focus
     intro c4
     first
     | exact dn c4
     | (
      have d4:=c4;try simp at d4
      refine go_ (h:=go_ (h:=go_ (h:=go_ (h:=go_ (h:=?_)))))
      )
    rotate_right 1
    focus
     intro c4
     first
     | exact dn c4
     | (
      have d4:=c4;try simp at d4
      refine g_ (h:=w_ (f_ (h:=g_ (h:=w_ (l_ (h:=g_ (h:=w_ (f_ (h:=g_ (h:=w_ (l_ (h:=g_ (h:=w_ (bE (h:=?_)))))))))))))))
      )
    all_goals
     refine w_ (pk (h:=w_ (m_ (h:=?_))))
     refine gw_ (h1:=?_) (h2:=?_)
     rotate_right 1
     focus
      intro c5
      first
      | exact dn c5
      | (
       have d5:=c5;try simp at d5
       refine go_ (h:=go_ (h:=go_ (h:=go_ (h:=go_ (h:=?_)))))
       )
     rotate_right 1
     focus
      intro c5
      first
      | exact dn c5
      | (
       have d5:=c5;try simp at d5
       refine g_ (h:=w_ (f_ (h:=g_ (h:=w_ (l_ (h:=g_ (h:=w_ (f_ (h:=g_ (h:=w_ (l_ (h:=g_ (h:=w_ (bE (h:=?_)))))))))))))))
       )
     all_goals
      refine w_ (pk (h:=w_ (m_ (h:=?_))))
      refine gw_ (h1:=?_) (h2:=?_)
      rotate_right 1
      focus
       intro c6
       first
       | exact dn c6
       | (
        have d6:=c6;try simp at d6
        refine go_ (h:=go_ (h:=go_ (h:=go_ (h:=go_ (h:=?_)))))
        )
      rotate_right 1
      focus
       intro c6
       first
       | exact dn c6
       | (
        have d6:=c6;try simp at d6
        refine g_ (h:=w_ (f_ (h:=g_ (h:=w_ (l_ (h:=g_ (h:=w_ (f_ (h:=g_ (h:=w_ (l_ (h:=g_ (h:=w_ (ca (hc:=e_eqG _ _ _ _ (by omega) (by omega)) (h:=?_)))))))))))))))
        )
      all_goals
       refine w_ (pk (h:=w_ (a_ (h:=zC (e_ (h:=?_))))))
 all_goals first
 | (
  refine zA ?_
  refine zH (?_)
  )
 all_goals (refine qZ (hr:=(zR rfl zO)) (h:=?_);(focus (simp[Nd.eq_iff];grind)))
def jH (d:Nd):List Int:=if d.op=1 then [] else if d.op=4∨d.op=6 then [d.a,d.b] else [d.a]
theorem zTv (z:Nat) (d:Nd):oc.call 103 [d.v false z]=some (.lst true 1 (ints (jH d)),[]):=by
 refine qD rfl cd103 rfl rfl rfl (by simp;rfl) (by simp;rfl) ?_
 refine wa_ (zB (w_ (bx (h:=w_ (aN (h:=zC (e_ (h:=zA (wa_ (zG (wa_ (zB (w_ (f_ (h:=w_ (l_ (h:=?_)))))))))))))))))
 refine w_ (bE (h:=w_ (a_ (h:=zC (e_ (h:=zA (?_)))))))
 refine c_ (h1:=?_) (h2:=?_)
 rotate_right 1
 focus
  intro c1
  first
  | exact dn c1
  | (
   have d1:=c1;try simp at d1
   refine wa_ (zB (w_ (f_ (h:=w_ (l_ (h:=w_ (ca (hc:=zSu _) (h:=w_ (a_ (h:=zC (e_ (h:=zA (?_)))))))))))))
   refine c_ (h1:=?_) (h2:=?_)
   rotate_right 1
   focus
    intro c2
    first
    | exact dn c2
    | (
     have d2:=c2;try simp at d2
     refine zD (?_)
     )
   rotate_right 1
   focus
    intro c2
    first
    | exact dn c2
    | (
     have d2:=c2;try simp at d2
     refine wa_ (zB (w_ (f_ (h:=w_ (l_ (h:=w_ (f_ (h:=w_ (l_ (h:=w_ (bs (h:=w_ (a_ (h:=zC (e_ (h:=zA (zH (?_))))))))))))))))))
     )
   )
 rotate_right 1
 focus
  intro c1
  first
  | exact dn c1
  | (
   have d1:=c1;try simp at d1
   refine wa_ (zB (w_ (aN (h:=zC (e_ (h:=zA (zH (?_))))))))
   )
 all_goals first|refine zJ ?_|refine zY ?_
 all_goals first
 | refine zL ?_
 | (
  refine zA ?_
  refine wa_ (zB (w_ (f_ (h:=w_ (l_ (h:=w_ (bs (h:=w_ (a_ (h:=zC (e_ (h:=zA (zH (?_))))))))))))))
  )
 all_goals (refine qZ (hr:=(zR rfl zO)) (h:=?_);(focus (simp_all [jH])))
def zA9 (d:Nd):Nd:=⟨d.op,if d.op=1 then 0 else d.a,if d.op=4∨d.op=6 then d.b else 0,if d.op=1∨d.op=2∨6≤d.op∧d.op≤10 then d.col else 0,if d.op=2 then d.test else 0,if d.op=2 then d.value else 0,if d.op=3 then d.cells else []⟩
theorem zXo (z:Nat) (d:Nd) (h:d.op=3):oc.call 113 [d.v false z]=some ((zA9 d).v false z,[]):=by
 refine qD rfl qFv rfl rfl rfl (by simp;rfl) (by simp;rfl) ?_
 refine wa_ (zB (w_ (bx (h:=w_ (al (h:=zC (e_ (h:=zA (wa_ (zB (w_ (f_ (h:=w_ (l_ (h:=w_ (bd (h:=w_ (al (h:=?_)))))))))))))))))))
 refine w0 (s_ (h:=zC (e_ (h:=zA (wa_ (wa_ (zB (w_ (f_ (h:=w_ (l_ (h:=w_ (bE (h:=zC (e_ (h:=zA (?_)))))))))))))))))
 refine c_ (h1:=?_) (h2:=?_)
 rotate_right 1
 focus
  intro c1
  first
  | exact dn c1
  | (
   have d1:=c1;try simp at d1
   refine zD (?_)
   )
 rotate_right 1
 focus
  intro c1
  first
  | exact dn c1
  | (
   have d1:=c1;try simp at d1
   refine zB (w_ (f_ (h:=w_ (l_ (h:=w_ (f_ (h:=w0 (s_ (h:=zC (e_ (h:=?_)))))))))))
   )
 all_goals first
 | (
  refine zA ?_
  refine wa_ (wa_ (zB (w_ (f_ (h:=w_ (l_ (h:=w_ (ca (hc:=zSu _) (h:=zC (e_ (h:=zA (?_))))))))))))
  refine c_ (h1:=?_) (h2:=?_)
  rotate_right 1
  focus
   intro c2
   first
   | exact dn c2
   | (
    have d2:=c2;try simp at d2
    refine zD (?_)
    )
  rotate_right 1
  focus
   intro c2
   first
   | exact dn c2
   | (
    have d2:=c2;try simp at d2
    refine zB (w_ (f_ (h:=w_ (l_ (h:=w_ (f_ (h:=w0 (s_ (h:=zC (e_ (h:=?_)))))))))))
    )
  all_goals first
  | (
   refine zA ?_
   refine wa_ (wa_ (zB (w_ (f_ (h:=w_ (l_ (h:=zC (e_ (h:=zA (zG (wa_ (wa_ (zB (w_ (bE (h:=?_))))))))))))))))
   refine w_ (a_ (h:=zC (e_ (h:=zA (?_)))))
   refine c_ (h1:=?_) (h2:=?_)
   rotate_right 1
   focus
    intro c3
    first
    | exact dn c3
    | (
     have d3:=c3;try simp at d3
     refine wa_ (zB (w_ (bE (h:=w_ (a_ (h:=zC (e_ (h:=zA (?_)))))))))
     refine c_ (h1:=?_) (h2:=?_)
     rotate_right 1
     focus
      intro c4
      first
      | exact dn c4
      | (
       have d4:=c4;try simp at d4
       refine wa_ (zB (w_ (bE (h:=w_ (a_ (h:=zC (e_ (h:=zA (?_)))))))))
       refine c_ (h1:=?_) (h2:=?_)
       rotate_right 1
       focus
        intro c5
        first
        | exact dn c5
        | (
         have d5:=c5;try simp at d5
         refine wa_ (zB (w_ (bE (h:=w_ (a_ (h:=zC (e_ (h:=zA (?_)))))))))
         refine c_ (h1:=?_) (h2:=?_)
         rotate_right 1
         focus
          intro c6
          first
          | exact dn c6
          | (
           have d6:=c6;try simp at d6
           refine wa_ (zB (w_ (bE (h:=w_ (a_ (h:=zC (e_ (h:=zA (?_)))))))))
           refine c_ (h1:=?_) (h2:=?_)
           rotate_right 1
           focus
            intro c7
            first
            | exact dn c7
            | (
             have d7:=c7;try simp at d7
             refine zB (w_ (bE (h:=w_ (a_ (h:=zC (e_ (h:=?_)))))))
             )
           rotate_right 1
           focus
            intro c7
            first
            | exact dn c7
            | (
             have d7:=c7;try simp at d7
             refine zD (?_)
             )
           )
         rotate_right 1
         focus
          intro c6
          first
          | exact dn c6
          | (
           have d6:=c6;try simp at d6
           refine zD (?_)
           )
         )
       rotate_right 1
       focus
        intro c5
        first
        | exact dn c5
        | (
         have d5:=c5;try simp at d5
         refine zD (?_)
         )
       )
     rotate_right 1
     focus
      intro c4
      first
      | exact dn c4
      | (
       have d4:=c4;try simp at d4
       refine zD (?_)
       )
     )
   rotate_right 1
   focus
    intro c3
    first
    | exact dn c3
    | (
     have d3:=c3;try simp at d3
     refine zD (?_)
     )
   all_goals first
   | (
    refine zA ?_
    refine c_ (h1:=?_) (h2:=?_)
    rotate_right 1
    focus
     intro c8
     first
     | exact dn c8
     | (
      have d8:=c8;try simp at d8
      refine wa_ (zB (w_ (bE (h:=w_ (a_ (h:=zC (e_ (h:=zA (?_)))))))))
      refine c_ (h1:=?_) (h2:=?_)
      rotate_right 1
      focus
       intro c9
       first
       | exact dn c9
       | (
        have d9:=c9;try simp at d9
        refine wa_ (zB (w_ (bE (h:=w_ (a_ (h:=zC (e_ (h:=zA (?_)))))))))
        refine c_ (h1:=?_) (h2:=?_)
        rotate_right 1
        focus
         intro c10
         first
         | exact dn c10
         | (
          have d10:=c10;try simp at d10
          refine zD (?_)
          )
        rotate_right 1
        focus
         intro c10
         first
         | exact dn c10
         | (
          have d10:=c10;try simp at d10
          refine zB (w_ (f_ (h:=w_ (l_ (h:=w_ (f_ (h:=w0 (s_ (h:=zC (e_ (h:=?_)))))))))))
          )
        )
      rotate_right 1
      focus
       intro c9
       first
       | exact dn c9
       | (
        have d9:=c9;try simp at d9
        refine qE (y_ (f_ (h:=ax_ (h:=y_ (l_ (h:=ax_ (h:=y_ (f_ (h:=ax_ (h:=y_ (l_ (h:=ax_ (h:=y_ (f_ (h:=ax_ (h:=y_ (l_ (h:=ax_ (h:=y_ (f_ (h:=ax_ (h:=y0 (s_ (h:=ax_ (h:=y_ (f_ (h:=ax_ (h:=y0 (s_ (h:=ax_ (h:=y_ (f_ (h:=ax_ (h:=?_))))))))))))))))))))))))))))))))))
        refine y0 (s_ (h:=ax_ (h:=zC (ed (h:=?_)))))
        )
      )
    rotate_right 1
    focus
     intro c8
     first
     | exact dn c8
     | (
      have d8:=c8;try simp at d8
      refine zB (w_ (f_ (h:=w_ (l_ (h:=w_ (f_ (h:=w0 (s_ (h:=zC (e_ (h:=?_)))))))))))
      )
    )
   all_goals refine zJ ?_
   all_goals first
   | (
    refine zA ?_
    refine wa_ (zB (w_ (l_ (h:=w0 (s_ (h:=zC (e_ (h:=zA (zH (?_))))))))))
    )
   )
  )
 all_goals (refine qZ (hr:=(vA (tys_ok.zero _ _ rfl) rfl (by simp;rfl) (by rfl) zO)) (h:=?_);(focus (simp[Nd.v,zA9];grind)))
theorem qCg (z:Nat) (d:Nd) (h:d.op≠3):oc.call 113 [d.v false z]=some ((zA9 d).v true 1,[]):=by
 refine qD rfl qFv rfl rfl rfl (by simp;rfl) (by simp;rfl) ?_
 refine wa_ (zB (w_ (bx (h:=w_ (al (h:=zC (e_ (h:=zA (wa_ (zB (w_ (f_ (h:=w_ (l_ (h:=w_ (bd (h:=w_ (al (h:=?_)))))))))))))))))))
 refine w0 (s_ (h:=zC (e_ (h:=zA (wa_ (wa_ (zB (w_ (f_ (h:=w_ (l_ (h:=w_ (bE (h:=zC (e_ (h:=zA (?_)))))))))))))))))
 refine c_ (h1:=?_) (h2:=?_)
 rotate_right 1
 focus
  intro c1
  first
  | exact dn c1
  | (
   have d1:=c1;try simp at d1
   refine zD (?_)
   )
 rotate_right 1
 focus
  intro c1
  first
  | exact dn c1
  | (
   have d1:=c1;try simp at d1
   refine zB (w_ (f_ (h:=w_ (l_ (h:=w_ (f_ (h:=w0 (s_ (h:=zC (e_ (h:=?_)))))))))))
   )
 all_goals first
 | (
  refine zA ?_
  refine wa_ (wa_ (zB (w_ (f_ (h:=w_ (l_ (h:=w_ (ca (hc:=zSu _) (h:=zC (e_ (h:=zA (?_))))))))))))
  refine c_ (h1:=?_) (h2:=?_)
  rotate_right 1
  focus
   intro c2
   first
   | exact dn c2
   | (
    have d2:=c2;try simp at d2
    refine zD (?_)
    )
  rotate_right 1
  focus
   intro c2
   first
   | exact dn c2
   | (
    have d2:=c2;try simp at d2
    refine zB (w_ (f_ (h:=w_ (l_ (h:=w_ (f_ (h:=w0 (s_ (h:=zC (e_ (h:=?_)))))))))))
    )
  all_goals first
  | (
   refine zA ?_
   refine wa_ (wa_ (zB (w_ (f_ (h:=w_ (l_ (h:=zC (e_ (h:=zA (zG (wa_ (wa_ (zB (w_ (bE (h:=?_))))))))))))))))
   refine w_ (a_ (h:=zC (e_ (h:=zA (?_)))))
   refine c_ (h1:=?_) (h2:=?_)
   rotate_right 1
   focus
    intro c3
    first
    | exact dn c3
    | (
     have d3:=c3;try simp at d3
     refine wa_ (zB (w_ (bE (h:=w_ (a_ (h:=zC (e_ (h:=zA (?_)))))))))
     refine c_ (h1:=?_) (h2:=?_)
     rotate_right 1
     focus
      intro c4
      first
      | exact dn c4
      | (
       have d4:=c4;try simp at d4
       refine wa_ (zB (w_ (bE (h:=w_ (a_ (h:=zC (e_ (h:=zA (?_)))))))))
       refine c_ (h1:=?_) (h2:=?_)
       rotate_right 1
       focus
        intro c5
        first
        | exact dn c5
        | (
         have d5:=c5;try simp at d5
         refine wa_ (zB (w_ (bE (h:=w_ (a_ (h:=zC (e_ (h:=zA (?_)))))))))
         refine c_ (h1:=?_) (h2:=?_)
         rotate_right 1
         focus
          intro c6
          first
          | exact dn c6
          | (
           have d6:=c6;try simp at d6
           refine wa_ (zB (w_ (bE (h:=w_ (a_ (h:=zC (e_ (h:=zA (?_)))))))))
           refine c_ (h1:=?_) (h2:=?_)
           rotate_right 1
           focus
            intro c7
            first
            | exact dn c7
            | (
             have d7:=c7;try simp at d7
             refine zB (w_ (bE (h:=w_ (a_ (h:=zC (e_ (h:=?_)))))))
             )
           rotate_right 1
           focus
            intro c7
            first
            | exact dn c7
            | (
             have d7:=c7;try simp at d7
             refine zD (?_)
             )
           )
         rotate_right 1
         focus
          intro c6
          first
          | exact dn c6
          | (
           have d6:=c6;try simp at d6
           refine zD (?_)
           )
         )
       rotate_right 1
       focus
        intro c5
        first
        | exact dn c5
        | (
         have d5:=c5;try simp at d5
         refine zD (?_)
         )
       )
     rotate_right 1
     focus
      intro c4
      first
      | exact dn c4
      | (
       have d4:=c4;try simp at d4
       refine zD (?_)
       )
     )
   rotate_right 1
   focus
    intro c3
    first
    | exact dn c3
    | (
     have d3:=c3;try simp at d3
     refine zD (?_)
     )
   all_goals first
   | (
    refine zA ?_
    refine c_ (h1:=?_) (h2:=?_)
    rotate_right 1
    focus
     intro c8
     first
     | exact dn c8
     | (
      have d8:=c8;try simp at d8
      refine wa_ (zB (w_ (bE (h:=w_ (a_ (h:=zC (e_ (h:=zA (?_)))))))))
      refine c_ (h1:=?_) (h2:=?_)
      rotate_right 1
      focus
       intro c9
       first
       | exact dn c9
       | (
        have d9:=c9;try simp at d9
        refine wa_ (zB (w_ (bE (h:=w_ (a_ (h:=zC (e_ (h:=zA (?_)))))))))
        refine c_ (h1:=?_) (h2:=?_)
        rotate_right 1
        focus
         intro c10
         first
         | exact dn c10
         | (
          have d10:=c10;try simp at d10
          refine zD (?_)
          )
        rotate_right 1
        focus
         intro c10
         first
         | exact dn c10
         | (
          have d10:=c10;try simp at d10
          refine zB (w_ (f_ (h:=w_ (l_ (h:=w_ (f_ (h:=w0 (s_ (h:=zC (e_ (h:=?_)))))))))))
          )
        )
      rotate_right 1
      focus
       intro c9
       first
       | exact dn c9
       | (
        have d9:=c9;try simp at d9
        refine qE (y_ (f_ (h:=ax_ (h:=y_ (l_ (h:=ax_ (h:=y_ (f_ (h:=ax_ (h:=y_ (l_ (h:=ax_ (h:=y_ (f_ (h:=ax_ (h:=y_ (l_ (h:=ax_ (h:=y_ (f_ (h:=ax_ (h:=y0 (s_ (h:=ax_ (h:=y_ (f_ (h:=ax_ (h:=y0 (s_ (h:=ax_ (h:=y_ (f_ (h:=ax_ (h:=?_))))))))))))))))))))))))))))))))))
        refine y0 (s_ (h:=ax_ (h:=zC (ed (h:=?_)))))
        )
      )
    rotate_right 1
    focus
     intro c8
     first
     | exact dn c8
     | (
      have d8:=c8;try simp at d8
      refine zB (w_ (f_ (h:=w_ (l_ (h:=w_ (f_ (h:=w0 (s_ (h:=zC (e_ (h:=?_)))))))))))
      )
    )
   all_goals refine zJ ?_
   all_goals first
   | (
    refine zA ?_
    refine wa_ (zB (w_ (l_ (h:=w0 (s_ (h:=zC (e_ (h:=zA (zH (?_))))))))))
    )
   )
  )
 all_goals (refine qZ (hr:=(vA (tys_ok.zero _ _ rfl) rfl (by simp;rfl) (by rfl) zO)) (h:=?_);(focus (simp[Nd.v,zA9,h];grind)))
def at0 (w:List Int) (a:Int):Int:=w.getD a.toNat 0
theorem kC {w:List Int} {a:Int} (h0:0≤a) (h:a<w.length):(ints w)[a.toNat]? = some (.int .i64 (at0 w a)):=by
 have:a.toNat<w.length:=by omega
 simp[ints,at0,this]
def yE (d:Nd) (w:List Int):Int :=
 if d.op=1 then d.col else if d.op=3 then d.cells.length else if d.op=6 then IntKind.i64.wrap (IntKind.i64.wrap (at0 w d.a+at0 w d.b) - d.col) else if inI d.op 7 10 then IntKind.i64.wrap (d.col+1) else at0 w d.a
def zYi (d:Nd) (m:Nat):Prop:=(d.op≠1→0≤d.a∧d.a<m)∧(d.op=4∨d.op=6→0≤d.b∧d.b<m)
theorem zU0 (z z':Nat) (d:Nd) (w:List Int) (hd:d.cells.length<4000000) (h:zYi d w.length):oc.call 115 [d.v false z,.lst false z' (ints w)]=some (.int .i64 (yE d w),[]):=by
 refine qD rfl cd115 rfl rfl rfl (by simp;rfl) (by simp;rfl) ?_
 obtain⟨h1,h2⟩:=h
 refine wa_ (zB (w_ (bx (h:=w_ (a_ (h:=zC (e_ (h:=zA (wa_ (zG (wa_ (zB (w_ (f_ (h:=w_ (l_ (h:=?_)))))))))))))))))
 refine w_ (bE (h:=w_ (a_ (h:=zC (e_ (h:=zA (?_)))))))
 refine c_ (h1:=?_) (h2:=?_)
 rotate_right 1
 focus
  intro c1
  first
  | exact dn c1
  | (
   have d1:=c1;try simp at d1
   refine wa_ (zB (w_ (f_ (h:=w_ (l_ (h:=w_ (bE (h:=w_ (a_ (h:=zC (e_ (h:=zA (?_)))))))))))))
   refine c_ (h1:=?_) (h2:=?_)
   rotate_right 1
   focus
    intro c2
    first
    | exact dn c2
    | (
     have d2:=c2;try simp at d2
     refine wa_ (zB (w_ (f_ (h:=w_ (l_ (h:=w_ (bE (h:=w_ (a_ (h:=zC (e_ (h:=zA (?_)))))))))))))
     refine c_ (h1:=?_) (h2:=?_)
     rotate_right 1
     focus
      intro c3
      first
      | exact dn c3
      | (
       have d3:=c3;try simp at d3
       refine wa_ (zB (w_ (f_ (h:=w_ (l_ (h:=w_ (ca (hc:=zRa _) (h:=w_ (a_ (h:=zC (e_ (h:=zA (?_)))))))))))))
       refine c_ (h1:=?_) (h2:=?_)
       rotate_right 1
       focus
        intro c4
        first
        | exact dn c4
        | (
         have d4:=c4;try simp at d4
         have h3:=(h1 (by omega)).1;have h4:=(h1 (by omega)).2;have g1:=kC h3 h4
         refine zD (?_)
         )
       rotate_right 1
       focus
        intro c4
        first
        | exact dn c4
        | (
         have d4:=c4;try simp at d4
         refine wa_ (zB (w_ (f_ (h:=w_ (l_ (h:=w_ (b_ (h:=w_ (a_ (h:=zC (e_ (h:=zA (zH (?_))))))))))))))
         )
       )
     rotate_right 1
     focus
      intro c3
      first
      | exact dn c3
      | (
       have d3:=c3;try simp at d3
       obtain⟨h3,h4⟩:=h1 (by omega);obtain⟨h5,h6⟩:=h2 (by omega);have g1:=kC h3 h4;have g2:=kC h5 h6
       refine wa_ (qE (y_ (m_ (h:=ax_ (h:=y_ (f_ (h:=ax_ (h:=y_ (l_ (h:=ax_ (h:=y_ (x_ (h:=ax_ (h:=y_ (l_ (h:=ax_ (h:=y_ (m_ (h:=ax_ (h:=y_ (f_ (h:=ax_ (h:=y_ (l_ (h:=ax_ (h:=y_ (x_ (h:=ax_ (h:=y_ (l_ (h:=ax_ (h:=?_))))))))))))))))))))))))))))))))
       refine y_ (b_ (h:=ax_ (h:=y_ (f_ (h:=ax_ (h:=y_ (l_ (h:=ax_ (h:=y_ (b_ (h:=ax_ (h:=y_ (a_ (h:=ax_ (h:=zC (ed (h:=zA (zH (?_)))))))))))))))))))
       )
     )
   rotate_right 1
   focus
    intro c2
    first
    | exact dn c2
    | (
     have d2:=c2;try simp at d2
     refine wa_ (zB (w_ (f_ (h:=w_ (l_ (h:=w_ (ca (hc:=zTc 0 (ints d.cells) (by simp;omega)) (h:=w_ (a_ (h:=zC (e_ (h:=zA (zH (?_))))))))))))))
     )
   )
 rotate_right 1
 focus
  intro c1
  first
  | exact dn c1
  | (
   have d1:=c1;try simp at d1
   refine wa_ (zB (w_ (f_ (h:=w_ (l_ (h:=w_ (a_ (h:=zC (e_ (h:=zA (zH (?_))))))))))))
   )
 all_goals first|refine zJ ?_|refine zY ?_
 all_goals first
 | refine zL ?_
 | (
  refine zA ?_
  refine wa_ (zB (w_ (m_ (h:=w_ (f_ (h:=w_ (l_ (h:=w_ (x_ (h:=w_ (l_ (h:=w_ (a_ (h:=zC (e_ (h:=zA (zH (?_))))))))))))))))))
  )
 all_goals (refine qZ (hr:=(zR rfl zO)) (h:=?_);(focus (simp[yE];grind [inI])))
def zEv (d:Nd) (w:List Int):Int :=
 if d.op=1 then(if inI d.col 1 3 then 0 else 3)
 else if d.op=2 then(if inI d.col 0 (IntKind.i64.wrap (at0 w d.a - 1))&&(inI d.test 0 2&&inI d.value (-1000000000) 1000000000) then 0 else 3)
 else if d.op=3 then(if inI d.cells.length 1 4 then(if d.cells.all fun c=>inI c 0 (IntKind.i64.wrap (at0 w d.a - 1)) then 0 else 3) else 2)
 else if d.op=4 then(if at0 w d.a=at0 w d.b then 0 else 1)
 else if d.op=6 then(if inI d.col 1 (min (at0 w d.a) (at0 w d.b)) then(if 4<yE d w then 2 else 0) else 3)
 else if d.op=7 then(if inI d.col 0 (min (at0 w d.a) 3) then 0 else 3)
 else if 8≤d.op∧d.op≤10 then(if inI d.col 0 (IntKind.i64.wrap (at0 w d.a - 1)) then 0 else 3)
 else 0
theorem qB0 (z z':Nat) (d:Nd) (w:List Int) (hd:d.cells.length<4000000) (h0:0≤d.a) (h1:d.a<w.length):∀i:Nat,i≤d.cells.length→∀s,zI 2 (some [1,2,47,48,49]) s=⟨[(1,.lst false z' (ints w)),(2,.ptr 2 0 []),(47,.lst false z (ints d.cells)),(48,.int .i64 d.cells.length),(49,.int .i64 i)],[(2,⟨true,false,7,[d.v false z],0⟩)],3⟩ →
 oc.loop 114 12 s=some (if((d.cells.drop i).all fun c=>inI c 0 (IntKind.i64.wrap (at0 w d.a - 1)))=true then(.exit 1,⟨[],[],2⟩) else(.ret,⟨[(4,.int .i64 3)],[],2⟩)):=by
 refine zW (fun i=>d.cells.length - i) _ (fun i=>⟨[(1,.lst false z' (ints w)),(2,.ptr 2 0 []),(47,.lst false z (ints d.cells)),(48,.int .i64 d.cells.length),(49,.int .i64 i)],[(2,⟨true,false,7,[d.v false z],0⟩)],3⟩) _ ?_
 intro i hi ih s hs
 refine qB qL1 rfl rfl hs ?_
 refine wa_ (zB (w_ (b_ (h:=zC (e_ (h:=zA (wa_ (?_))))))))
 refine c_ (h1:=?_) (h2:=?_)
 rotate_right 1
 focus
  intro c1
  simp at c1;have:i=d.cells.length:=(by omega);subst this
  refine zX (?_)
 rotate_right 1
 focus
  intro c1
  simp at c1;have hw:=zV (i:=i) (by omega);obtain⟨x,_,d1,g1⟩:=kU c1;have g2:=kC h0 h1
  refine zD (?_)
 all_goals first
 | refine zS ?_
 | (
  refine zA ?_
  refine wa_ (zG (wa_ (zB (w_ (x_ (h:=w_ (l_ (h:=w_ (a_ (h:=zC (e_ (h:=zA (wa_ (zB (w_ (m_ (h:=?_)))))))))))))))))
  refine w_ (m_ (h:=w_ (f_ (h:=w_ (l_ (h:=w_ (x_ (h:=w_ (l_ (h:=w_ (b_ (h:=w_ (ca (hc:=zDz _ _ _) (h:=w_ (u_ (h:=zC (e_ (h:=zA (?_)))))))))))))))))))
  refine c_ (h1:=?_) (h2:=?_)
  rotate_right 1
  focus
   intro c2
   refine zD (?_)
  rotate_right 1
  focus
   intro c2
   refine wa_ (zB (w_ (a_ (h:=zC (e_ (h:=zA (zH (?_))))))))
  all_goals first|refine zJ ?_|refine zY ?_
  all_goals first
  | refine zL ?_
  | (
   refine zA ?_
   refine zB (w_ (b_ (h:=w_ (m_ (h:=zC (e_ (h:=?_)))))))
   )
  )
 all_goals first
 | (refine(ih (i+1) (by omega) ?_ _ ?_).trans ?_;(focus (first|omega|(simp;done)|(simp;omega)));(focus (simp[zI,hw];done));(focus (rw[d1];simp at c2 ⊢;grind)))
 | (apply zM (ex:=Ext.ret) 2 (some [4]);(focus (simp[zI];rfl));(focus (rw[d1];simp at c2 ⊢;grind)))
 | (apply zM (ex:=(Ext.exit 1)) 2 (some [4]);(focus (simp[zI];rfl));(focus (simp)))
theorem qAi (z z':Nat) (d:Nd) (w:List Int) (hd:d.cells.length<4000000) (h:zYi d w.length) (ho:1≤d.op∧d.op≤12):oc.call 114 [d.v false z,.lst false z' (ints w)]=some (.int .i64 (zEv d w),[]):=by
 refine qD rfl qL1 rfl rfl rfl (by simp;rfl) (by simp;rfl) ?_
 obtain⟨k1,k2⟩:=h
 refine wa_ (zB (w_ (bx (h:=w_ (a_ (h:=zC (e_ (h:=zA (wa_ (wa_ (zB (w_ (f_ (h:=w_ (l_ (h:=zC (e_ (h:=?_))))))))))))))))))
 refine zA (zG (wa_ (zB (w_ (bE (h:=w_ (a_ (h:=zC (e_ (h:=zA (?_)))))))))))
 refine c_ (h1:=?_) (h2:=?_)
 rotate_right 1
 focus
  intro c1
  first
  | exact dn c1
  | (
   have d1:=c1;try simp at d1
   refine wa_ (zB (w_ (bE (h:=w_ (a_ (h:=zC (e_ (h:=zA (?_)))))))))
   refine c_ (h1:=?_) (h2:=?_)
   rotate_right 1
   focus
    intro c2
    first
    | exact dn c2
    | (
     have d2:=c2;try simp at d2
     refine wa_ (zB (w_ (bE (h:=w_ (a_ (h:=zC (e_ (h:=zA (?_)))))))))
     refine c_ (h1:=?_) (h2:=?_)
     rotate_right 1
     focus
      intro c3
      first
      | exact dn c3
      | (
       have d3:=c3;try simp at d3
       refine wa_ (zB (w_ (bE (h:=w_ (a_ (h:=zC (e_ (h:=zA (?_)))))))))
       refine c_ (h1:=?_) (h2:=?_)
       rotate_right 1
       focus
        intro c4
        first
        | exact dn c4
        | (
         have d4:=c4;try simp at d4
         refine wa_ (zB (w_ (bE (h:=w_ (a_ (h:=zC (e_ (h:=zA (?_)))))))))
         refine c_ (h1:=?_) (h2:=?_)
         rotate_right 1
         focus
          intro c5
          first
          | exact dn c5
          | (
           have d5:=c5;try simp at d5
           refine wa_ (zB (w_ (bE (h:=w_ (a_ (h:=zC (e_ (h:=zA (?_)))))))))
           refine c_ (h1:=?_) (h2:=?_)
           rotate_right 1
           focus
            intro c6
            first
            | exact dn c6
            | (
             have d6:=c6;try simp at d6
             refine wa_ (wa_ (zB (w_ (bE (h:=w_ (a_ (h:=zC (e_ (h:=zA (?_))))))))))
             refine c_ (h1:=?_) (h2:=?_)
             rotate_right 1
             focus
              intro c7
              first
              | exact dn c7
              | (
               have d7:=c7;try simp at d7
               refine wa_ (zB (w_ (bE (h:=w_ (a_ (h:=zC (e_ (h:=zA (?_)))))))))
               refine c_ (h1:=?_) (h2:=?_)
               rotate_right 1
               focus
                intro c8
                first
                | exact dn c8
                | (
                 have d8:=c8;try simp at d8
                 refine zB (w_ (bE (h:=w_ (a_ (h:=zC (e_ (h:=?_)))))))
                 )
               rotate_right 1
               focus
                intro c8
                first
                | exact dn c8
                | (
                 have d8:=c8;try simp at d8
                 refine zD (?_)
                 )
               )
             rotate_right 1
             focus
              intro c7
              first
              | exact dn c7
              | (
               have d7:=c7;try simp at d7
               refine zD (?_)
               )
             all_goals first
             | (
              refine zA ?_
              refine c_ (h1:=?_) (h2:=?_)
              rotate_right 1
              focus
               intro c9
               first
               | exact dn c9
               | (
                have d9:=c9;try simp at d9
                refine zD (?_)
                )
              rotate_right 1
              focus
               intro c9
               first
               | exact dn c9
               | (
                have d9:=c9;try simp at d9
                obtain⟨h3,h4⟩:=k1 (by omega);have g1:=kC h3 h4
                refine wa_ (qE (y_ (f_ (h:=ax_ (h:=y_ (l_ (h:=ax_ (h:=y_ (m_ (h:=ax_ (h:=y_ (f_ (h:=ax_ (h:=y_ (l_ (h:=ax_ (h:=y_ (x_ (h:=ax_ (h:=y_ (l_ (h:=ax_ (h:=y_ (b_ (h:=ax_ (h:=y_ (ca (hc:=zDz _ _ _) (h:=ax_ (h:=y_ (u_ (h:=ax_ (h:=?_))))))))))))))))))))))))))))))))
                refine zC (ed (h:=zA (?_)))
                refine c_ (h1:=?_) (h2:=?_)
                rotate_right 1
                focus
                 intro c10
                 first
                 | exact dn c10
                 | (
                  have d10:=c10;try simp at d10
                  refine zD (?_)
                  )
                rotate_right 1
                focus
                 intro c10
                 first
                 | exact dn c10
                 | (
                  have d10:=c10;try simp at d10
                  refine wa_ (zB (w_ (a_ (h:=zC (e_ (h:=zA (zH (?_))))))))
                  )
                )
              )
             )
           rotate_right 1
           focus
            intro c6
            first
            | exact dn c6
            | (
             have d6:=c6;try simp at d6
             obtain⟨h3,h4⟩:=k1 (by omega);have g1:=kC h3 h4
             refine wa_ (qE (y_ (f_ (h:=ax_ (h:=y_ (l_ (h:=ax_ (h:=y_ (m_ (h:=ax_ (h:=y_ (f_ (h:=ax_ (h:=y_ (l_ (h:=ax_ (h:=y_ (x_ (h:=ax_ (h:=y_ (l_ (h:=ax_ (h:=y_ (mi (h:=ax_ (h:=y_ (ca (hc:=zDz _ _ _) (h:=ax_ (h:=y_ (u_ (h:=ax_ (h:=?_))))))))))))))))))))))))))))))))
             refine zC (ed (h:=zA (?_)))
             refine c_ (h1:=?_) (h2:=?_)
             rotate_right 1
             focus
              intro c11
              first
              | exact dn c11
              | (
               have d11:=c11;try simp at d11
               refine zD (?_)
               )
             rotate_right 1
             focus
              intro c11
              first
              | exact dn c11
              | (
               have d11:=c11;try simp at d11
               refine wa_ (zB (w_ (a_ (h:=zC (e_ (h:=zA (zH (?_))))))))
               )
             )
           )
         rotate_right 1
         focus
          intro c5
          first
          | exact dn c5
          | (
           have d5:=c5;try simp at d5
           obtain⟨h3,h4⟩:=k1 (by omega);have g1:=kC h3 h4;obtain⟨h5,h6⟩:=k2 (by omega);have g2:=kC h5 h6
           refine wa_ (wa_ (qE (y_ (f_ (h:=ax_ (h:=y_ (l_ (h:=ax_ (h:=y_ (m_ (h:=ax_ (h:=y_ (f_ (h:=ax_ (h:=y_ (l_ (h:=ax_ (h:=y_ (x_ (h:=ax_ (h:=y_ (l_ (h:=ax_ (h:=y_ (m_ (h:=ax_ (h:=y_ (f_ (h:=ax_ (h:=?_))))))))))))))))))))))))))))))
           refine y_ (l_ (h:=ax_ (h:=y_ (x_ (h:=ax_ (h:=y_ (l_ (h:=ax_ (h:=y_ (mi (h:=ax_ (h:=y_ (ca (hc:=zDz _ _ _) (h:=ax_ (h:=y_ (u_ (h:=ax_ (h:=zC (ed (h:=zA (?_)))))))))))))))))))))
           refine c_ (h1:=?_) (h2:=?_)
           rotate_right 1
           focus
            intro c12
            first
            | exact dn c12
            | (
             have d12:=c12;try simp at d12
             refine zD (?_)
             )
           rotate_right 1
           focus
            intro c12
            first
            | exact dn c12
            | (
             have d12:=c12;try simp at d12
             refine wa_ (zB (w_ (a_ (h:=zC (e_ (h:=zA (zH (?_))))))))
             )
           all_goals first
           | refine zL ?_
           | (
            refine zA ?_
            refine wa_ (zB (w_ (l_ (h:=w_ (m_ (h:=w_ (ca (hc:=zU0 0 0 d w hd ⟨k1,k2⟩) (h:=w_ (b_ (h:=zC (e_ (h:=zA (?_)))))))))))))
            refine c_ (h1:=?_) (h2:=?_)
            rotate_right 1
            focus
             intro c13
             first
             | exact dn c13
             | (
              have d13:=c13;try simp at d13
              refine zD (?_)
              )
            rotate_right 1
            focus
             intro c13
             first
             | exact dn c13
             | (
              have d13:=c13;try simp at d13
              refine wa_ (zB (w_ (a_ (h:=zC (e_ (h:=zA (zH (?_))))))))
              )
            )
           )
         )
       rotate_right 1
       focus
        intro c4
        first
        | exact dn c4
        | (
         have d4:=c4;try simp at d4
         obtain⟨h3,h4⟩:=k1 (by omega);have g1:=kC h3 h4;obtain⟨h5,h6⟩:=k2 (by omega);have g2:=kC h5 h6
         refine wa_ (qE (y_ (m_ (h:=ax_ (h:=y_ (f_ (h:=ax_ (h:=y_ (l_ (h:=ax_ (h:=y_ (x_ (h:=ax_ (h:=y_ (l_ (h:=ax_ (h:=y_ (m_ (h:=ax_ (h:=y_ (f_ (h:=ax_ (h:=y_ (l_ (h:=ax_ (h:=y_ (x_ (h:=ax_ (h:=y_ (l_ (h:=ax_ (h:=?_))))))))))))))))))))))))))))))))
         refine y_ (bE (h:=ax_ (h:=zC (ed (h:=zA (?_))))))
         refine c_ (h1:=?_) (h2:=?_)
         rotate_right 1
         focus
          intro c14
          first
          | exact dn c14
          | (
           have d14:=c14;try simp at d14
           refine zD (?_)
           )
         rotate_right 1
         focus
          intro c14
          first
          | exact dn c14
          | (
           have d14:=c14;try simp at d14
           refine wa_ (zB (w_ (a_ (h:=zC (e_ (h:=zA (zH (?_))))))))
           )
         )
       )
     rotate_right 1
     focus
      intro c3
      first
      | exact dn c3
      | (
       have d3:=c3;try simp at d3
       obtain⟨h3,h4⟩:=k1 (by omega);have g1:=kC h3 h4
       refine wa_ (wa_ (zB (w_ (f_ (h:=w_ (l_ (h:=w_ (ca (hc:=zTc 0 (ints d.cells) (by simp;omega)) (h:=w_ (ca (hc:=zDz _ _ _) (h:=w_ (u_ (h:=zC (e_ (h:=zA (?_))))))))))))))))
       refine c_ (h1:=?_) (h2:=?_)
       rotate_right 1
       focus
        intro c15
        first
        | exact dn c15
        | (
         have d15:=c15;try simp at d15
         refine zD (?_)
         )
       rotate_right 1
       focus
        intro c15
        first
        | exact dn c15
        | (
         have d15:=c15;try simp at d15
         refine wa_ (zB (w_ (a_ (h:=zC (e_ (h:=zA (zH (?_))))))))
         )
       all_goals first
       | refine zL ?_
       | (
        refine zA ?_
        refine wa_ (zB (w_ (f_ (h:=w_ (l_ (h:=w_ (le (h:=w_ (m_ (h:=zC (e_ (h:=zA (zG (?_))))))))))))))
        refine qR (qB0 z z' d w hd h3 h4 0 (by omega) _ (by simp[zI])) ?_ ?_
        rotate_right 1
        focus
         intro c16
         first
         | exact dn c16
         | (
          have d16:=c16;try simp at d16
          skip
          )
        rotate_right 1
        focus
         intro c16
         first
         | exact dn c16
         | (
          have d16:=c16;try simp at d16
          skip
          )
        all_goals first|refine zY ?_|refine zT ?_
        )
       )
     )
   rotate_right 1
   focus
    intro c2
    first
    | exact dn c2
    | (
     have d2:=c2;try simp at d2
     obtain⟨h3,h4⟩:=k1 (by omega);have g1:=kC h3 h4
     refine wa_ (qE (y_ (f_ (h:=ax_ (h:=y_ (l_ (h:=ax_ (h:=y_ (m_ (h:=ax_ (h:=y_ (f_ (h:=ax_ (h:=y_ (l_ (h:=ax_ (h:=y_ (x_ (h:=ax_ (h:=y_ (l_ (h:=ax_ (h:=y_ (b_ (h:=ax_ (h:=y_ (ca (hc:=zDz _ _ _) (h:=ax_ (h:=y_ (u_ (h:=ax_ (h:=?_))))))))))))))))))))))))))))))))
     refine y_ (m_ (h:=ax_ (h:=?_)))
     refine gw_ (h1:=?_) (h2:=?_)
     rotate_right 1
     focus
      intro c17
      first
      | exact dn c17
      | (
       have d17:=c17;try simp at d17
       refine gd_ (h:=gd_ (h:=gd_ (h:=gd_ (h:=?_))))
       )
     rotate_right 1
     focus
      intro c17
      first
      | exact dn c17
      | (
       have d17:=c17;try simp at d17
       refine g_ (h:=y_ (f_ (h:=ax_ (h:=g_ (h:=y_ (l_ (h:=ax_ (h:=g_ (h:=y_ (ca (hc:=zDz _ _ _) (h:=ax_ (h:=g_ (h:=y_ (u_ (h:=ax_ (h:=?_))))))))))))))))
       )
     all_goals
      refine y_ (pk (h:=ax_ (h:=y_ (m_ (h:=ax_ (h:=?_))))))
      refine gw_ (h1:=?_) (h2:=?_)
      rotate_right 1
      focus
       intro c18
       first
       | exact dn c18
       | (
        have d18:=c18;try simp at d18
        refine gd_ (h:=gd_ (h:=gd_ (h:=gd_ (h:=?_))))
        )
      rotate_right 1
      focus
       intro c18
       first
       | exact dn c18
       | (
        have d18:=c18;try simp at d18
        refine g_ (h:=y_ (f_ (h:=ax_ (h:=g_ (h:=y_ (l_ (h:=ax_ (h:=g_ (h:=y_ (ca (hc:=zDz _ _ _) (h:=ax_ (h:=g_ (h:=y_ (u_ (h:=ax_ (h:=?_))))))))))))))))
        )
      all_goals
       refine y_ (pk (h:=ax_ (h:=zC (ed (h:=?_)))))
     all_goals first
     | (
      refine zA ?_
      refine c_ (h1:=?_) (h2:=?_)
      rotate_right 1
      focus
       intro c19
       first
       | exact dn c19
       | (
        have d19:=c19;try simp at d19
        refine zD (?_)
        )
      rotate_right 1
      focus
       intro c19
       first
       | exact dn c19
       | (
        have d19:=c19;try simp at d19
        refine wa_ (zB (w_ (a_ (h:=zC (e_ (h:=zA (zH (?_))))))))
        )
      )
     )
   )
 rotate_right 1
 focus
  intro c1
  first
  | exact dn c1
  | (
   have d1:=c1;try simp at d1
   refine wa_ (zB (w_ (f_ (h:=w_ (l_ (h:=w_ (ca (hc:=zDz _ _ _) (h:=w_ (u_ (h:=zC (e_ (h:=zA (?_)))))))))))))
   refine c_ (h1:=?_) (h2:=?_)
   rotate_right 1
   focus
    intro c20
    first
    | exact dn c20
    | (
     have d20:=c20;try simp at d20
     refine zD (?_)
     )
   rotate_right 1
   focus
    intro c20
    first
    | exact dn c20
    | (
     have d20:=c20;try simp at d20
     refine wa_ (zB (w_ (a_ (h:=zC (e_ (h:=zA (zH (?_))))))))
     )
   )
 all_goals first|refine zJ ?_|refine zY ?_
 all_goals first
 | refine zL ?_
 | (
  refine zA ?_
  refine wa_ (zB (w_ (a_ (h:=zC (e_ (h:=zA (zH (?_))))))))
  )
 all_goals (refine qZ (hr:=(zR rfl zO)) (h:=?_);(focus (simp[zEv];grind)))
end Go.Proofs.YtbcgenkegnmkhaaGreat.Ev
namespace Go.Proofs.YtbcgenkegnmkhaaGreat.Ev
open Go
set_option maxRecDepth 100000
set_option linter.unusedSimpArgs false
set_option linter.unusedVariables false
set_option maxHeartbeats 2000000
def opAt (l:List Nd) (a:Int):Int:=(l[a.toNat]?).elim 0 Nd.op
theorem zZb {t:Bool} {s:Nat} {l:List Nd} {a:Int} (h0:0≤a) (h:a<l.length):∃d,(nds t s l)[a.toNat]? = some (Nd.v t s d)∧opAt l a=Nd.op d:=by
 have:a.toNat<l.length:=by omega
 exact⟨l[a.toNat],by simp[nds,this],by simp[opAt,this]⟩
def okR (pl:List Nd) (i:Nat) (k:Int):Bool:=inI k 0 (IntKind.i64.wrap ((i:Int) - 1))&&!decide (opAt pl k=12)
theorem qBr (pl:List Nd) (out rs:List Int) (d:Nd) (i:Nat) (hp:pl.length<2000000) (hi:i≤pl.length) (hr:rs.length<10):∀j:Nat,j≤rs.length→∀s,zI 1 (some [0,4,5,6,15,16,17,34,35,36]) s=⟨[(0,.lst false 0 (nds false 0 pl)),(4,.ref 1 0 out.length),(5,.int .i64 i),(6,.ptr 2 0 []),(15,.lst false 0 (nds false 0 pl)),(16,.int .i64 pl.length),(17,.int .i64 i),(34,.ref 3 0 rs.length),(35,.int .i64 rs.length),(36,.int .i64 j)],[(1,⟨false,false,1,ints out,0⟩),(2,⟨true,false,7,[d.v false 0],0⟩),(3,⟨false,false,1,ints rs,0⟩)],4⟩ →
 oc.loop 53 12 s=some (if(rs.drop j).all (okR pl i)=true then(.exit 3,⟨[(0,.lst false 0 (nds false 0 pl)),(4,.ref 1 0 out.length),(6,.ptr 2 0 []),(15,.lst false 0 (nds false 0 pl)),(16,.int .i64 pl.length),(17,.int .i64 i)],[(1,⟨false,false,1,ints out,0⟩),(2,⟨true,false,7,[d.v false 0],0⟩)],3⟩)
  else(.ret,⟨[(0,.lst false 0 (nds false 0 pl)),(2,.lst true 1 []),(3,.int .i64 3),(4,.ref 1 0 out.length),(6,.ptr 2 0 []),(15,.lst false 0 (nds false 0 pl)),(16,.int .i64 pl.length),(17,.int .i64 i)],[(1,⟨false,false,1,ints out,0⟩),(2,⟨true,false,7,[d.v false 0],0⟩)],3⟩)):=by
 refine zW (fun j=>rs.length - j) _ (fun j=>⟨[(0,.lst false 0 (nds false 0 pl)),(4,.ref 1 0 out.length),(5,.int .i64 i),(6,.ptr 2 0 []),(15,.lst false 0 (nds false 0 pl)),(16,.int .i64 pl.length),(17,.int .i64 i),(34,.ref 3 0 rs.length),(35,.int .i64 rs.length),(36,.int .i64 j)],[(1,⟨false,false,1,ints out,0⟩),(2,⟨true,false,7,[d.v false 0],0⟩),(3,⟨false,false,1,ints rs,0⟩)],4⟩) _ ?_
 intro j hj ih s hs
 have hw2:IntKind.i64.wrap ((i:Int) - 1)=i - 1:=qH (by omega) (by omega)
 refine qB cd53 rfl rfl hs ?_
 refine wa_ (zB (w_ (b_ (h:=zC (e_ (h:=zA (wa_ (?_))))))))
 refine c_ (h1:=?_) (h2:=?_)
 rotate_right 1
 focus
  intro c1
  first
  | exact dn c1
  | (
   have d1:=c1;try simp at d1
   have:j=rs.length:=(by omega);subst this
   refine zX (?_)
   )
 rotate_right 1
 focus
  intro c1
  first
  | exact dn c1
  | (
   have d1:=c1;try simp at d1
   have hw:=zV (i:=j) (by omega);obtain⟨x,_,e1,g1⟩:=kU (l:=rs) (i:=j) (by omega);simp at g1
   refine zD (?_)
   )
 all_goals first
 | refine zS ?_
 | (
  refine zA ?_
  refine wa_ (zG (wa_ (zB (w_ (x_ (h:=w_ (l_ (h:=w_ (a_ (h:=zC (e_ (h:=zA (wa_ (zB (w_ (m_ (h:=?_)))))))))))))))))
  refine w_ (m_ (h:=w_ (b_ (h:=w_ (ca (hc:=zDz _ _ _) (h:=w_ (u_ (h:=w_ (m_ (h:=?_))))))))))
  refine gw_ (h1:=?_) (h2:=?_)
  rotate_right 1
  focus
   intro c2
   first
   | exact dn c2
   | (
    have d2:=c2;try simp at d2
    refine go_ (h:=go_ (h:=go_ (h:=go_ (h:=go_ (h:=go_ (h:=?_))))))
    )
  rotate_right 1
  focus
   intro c2
   first
   | exact dn c2
   | (
    have d2:=c2;try simp at d2
    simp[inI,hw2] at d2;obtain⟨h3,h4⟩:=d2;obtain⟨e,g2,g3⟩:=zZb (t:=false) (s:=0) (l:=pl) h3 (by omega)
    refine g_ (h:=w_ (m_ (h:=g_ (h:=w_ (m_ (h:=g_ (h:=w_ (x_ (h:=g_ (h:=w_ (f_ (h:=g_ (h:=w_ (l_ (h:=g_ (h:=w_ (bE (h:=?_))))))))))))))))))
    )
  all_goals
   refine w_ (pk (h:=zC (e_ (h:=?_))))
  all_goals first
  | (
   refine zA ?_
   refine c_ (h1:=?_) (h2:=?_)
   rotate_right 1
   focus
    intro c3
    first
    | exact dn c3
    | (
     have d3:=c3;try simp at d3
     refine zD (?_)
     )
   rotate_right 1
   focus
    intro c3
    first
    | exact dn c3
    | (
     have d3:=c3;try simp at d3
     refine wa_ (zB (w_ (aN (h:=w_ (a_ (h:=zC (e_ (h:=zA (zH (?_))))))))))
     )
   )
  all_goals first|refine zJ ?_|refine zY ?_
  all_goals first
  | refine zL ?_
  | (
   refine zA ?_
   refine zB (w_ (b_ (h:=w_ (m_ (h:=zC (e_ (h:=?_)))))))
   )
  )
 all_goals first
 | (refine(ih (j+1) (by omega) ?_ _ ?_).trans ?_;(focus (first|omega|(simp;done)|(simp;omega)));(focus (simp[zI,hw];done));(focus (rw[e1];simp[okR] at *;grind)))
 | (apply zM (ex:=Ext.ret) 1 (some [0,2,3,4,6,15,16,17]);(focus (simp[zI];rfl));(focus (rw[e1];simp[okR] at *;grind)))
 | (apply zM (ex:=(Ext.exit 3)) 1 (some [0,2,3,4,6,15,16,17]);(focus (simp[zI];rfl));(focus (simp)))
theorem zUk {pl:List Nd} {d:Nd} {i:Nat} (hi:i<2000000) (h:(jH d).all (okR pl i)=true):zYi d i:=by
 have hw2:IntKind.i64.wrap ((i:Int) - 1)=i - 1:=qH (by omega) (by omega)
 have key:∀k∈jH d,0≤k∧k<i:=by
  intro k hk
  have:=List.all_eq_true.mp h k hk
  simp[okR,inI,hw2] at this
  omega
 unfold jH at key
 constructor
 ·intro h1
  rw[if_neg h1] at key
  split at key<;>exact key _ (by simp)
 ·intro h1
  rw[if_neg (by omega),if_pos h1] at key
  exact key _ (by simp)
theorem zUl (d:Nd):(zA9 d).cells.length≤d.cells.length:=by
 simp only[zA9]
 split<;>simp
def zB4 (pl:List Nd) (d:Nd) (out:List Int):Int :=
 if inI d.op 1 12=false then 5 else if d≠zA9 d then 1 else if(jH d).all (okR pl out.length)=false then 3 else zEv d out
def yG (pl:List Nd):List Nd→List Int→List Int×Int
 | [],out=>(out,0)
 | d::r,out=>if zB4 pl d out=0 then yG pl r (out++[yE d out]) else(out,zB4 pl d out)
def zTz (q:List Int×Int):Ext×St :=
 if q.2=0 then(.exit 0,⟨[(4,.ref 1 0 q.1.length)],[(1,⟨false,false,1,ints q.1,0⟩)],2⟩) else(.ret,⟨[(2,.lst true 1 []),(3,.int .i64 q.2),(4,.ref 1 0 q.1.length)],[(1,⟨false,false,1,ints q.1,0⟩)],2⟩)
theorem zC5 {pl r:List Nd} {d:Nd} {out:List Int} {i:Nat} {c:Int} (e:pl.drop i=d::r) (h:zB4 pl d out=c) (hc:c≠0):zTz (yG pl (pl.drop i) out)=(.ret,⟨[(2,.lst true 1 []),(3,.int .i64 c),(4,.ref 1 0 out.length)],[(1,⟨false,false,1,ints out,0⟩)],2⟩):=by
 subst h
 rw[e,yG,if_neg hc,zTz,if_neg hc]
theorem zTh {pl r:List Nd} {d:Nd} {out:List Int} {i:Nat} (e:pl.drop i=d::r) (h:zB4 pl d out=0):yG pl (pl.drop i) out=yG pl r (out++[yE d out]):=by
 rw[e,yG,if_pos h]
theorem qFd (pl:List Nd) (hp:pl.length<2000000) (hk:okN pl):∀out:List Int,out.length≤pl.length→∀s,zI 1 (some [0,4,15,16,17]) s=⟨[(0,.lst false 0 (nds false 0 pl)),(4,.ref 1 0 out.length),(15,.lst false 0 (nds false 0 pl)),(16,.int .i64 pl.length),(17,.int .i64 out.length)],[(1,⟨false,false,1,ints out,0⟩)],2⟩ →
 oc.loop 53 5 s=some (zTz (yG pl (pl.drop out.length) out)):=by
 refine zW (fun out=>pl.length - out.length) _ (fun out=>⟨[(0,.lst false 0 (nds false 0 pl)),(4,.ref 1 0 out.length),(15,.lst false 0 (nds false 0 pl)),(16,.int .i64 pl.length),(17,.int .i64 out.length)],[(1,⟨false,false,1,ints out,0⟩)],2⟩) _ ?_
 intro out hi ih s hs
 refine qB cd53 rfl rfl hs ?_
 refine wa_ (zB (w_ (b_ (h:=zC (e_ (h:=zA (wa_ (?_))))))))
 refine c_ (h1:=?_) (h2:=?_)
 rotate_right 1
 focus
  intro c1
  first
  | exact dn c1
  | (
   have d1:=c1;try simp at d1
   have hn:pl.length=out.length:=(by omega)
   refine zX (?_)
   )
 rotate_right 1
 focus
  intro c1
  first
  | exact dn c1
  | (
   have d1:=c1;try simp at d1
   have hw:=zV (i:=out.length) (by omega);obtain⟨d,hx,e1,g1⟩:=zAm (t:=false) (s:=0) (l:=pl) (i:=out.length) (by omega);simp at g1;have hd:=hk d (List.mem_of_getElem? hx);by_cases h3:d.op=3
   all_goals
    refine zD (?_)
   )
 all_goals first
 | refine zS ?_
 | (
  refine zA ?_
  refine wa_ (zG (wa_ (zB (w_ (m_ (h:=w_ (x_ (h:=w_ (l_ (h:=w_ (al (h:=w_ (a_ (h:=w0 (s_ (h:=zC (e_ (h:=zA (?_)))))))))))))))))))
  refine wa_ (zG (wa_ (zB (w_ (f_ (h:=w_ (l_ (h:=w_ (ca (hc:=zDz _ _ _) (h:=w_ (u_ (h:=w_ (a_ (h:=zC (e_ (h:=zA (?_)))))))))))))))))
  refine c_ (h1:=?_) (h2:=?_)
  rotate_right 1
  focus
   intro c2
   first
   | exact dn c2
   | (
    have d2:=c2;try simp at d2
    refine wa_ (qE (y_ (l_ (h:=ax_ (h:=y_ (l_ (h:=ax_ (h:=?_))))))))
    first|refine y_ (ca (hc:=zXo 0 d h3) (h:=?_))|refine y_ (ca (hc:=qCg 0 d h3) (h:=?_))
    refine ax_ (h:=y_ (ca (hc:=qJo 0 0 d (zA9 d) (by omega) (by have:=zUl d;omega)) (h:=ax_ (h:=y_ (u_ (h:=ax_ (h:=y_ (a_ (h:=ax_ (h:=zC (ed (h:=zA (?_)))))))))))))
    refine c_ (h1:=?_) (h2:=?_)
    rotate_right 1
    focus
     intro c3
     first
     | exact dn c3
     | (
      have d3:=c3;try simp at d3
      refine zD (?_)
      )
    rotate_right 1
    focus
     intro c3
     first
     | exact dn c3
     | (
      have d3:=c3;try simp at d3
      refine wa_ (zB (w_ (aN (h:=w_ (a_ (h:=zC (e_ (h:=zA (zH (?_))))))))))
      )
    )
  rotate_right 1
  focus
   intro c2
   first
   | exact dn c2
   | (
    have d2:=c2;try simp at d2
    refine wa_ (zB (w_ (aN (h:=w_ (a_ (h:=zC (e_ (h:=zA (zH (?_))))))))))
    )
  all_goals first|refine zJ ?_|refine zY ?_
  all_goals first
  | refine zL ?_
  | (
   refine zA ?_
   refine wa_ (wa_ (zB (w_ (l_ (h:=w_ (ca (hc:=zTv 0 d) (h:=w_ (le (h:=w_ (m_ (h:=zC (e_ (h:=zA (zG (?_)))))))))))))))
   refine qR (qBr pl out (jH d) d out.length (by omega) (by omega) (by unfold jH;split;simp;split<;>simp) 0 (by omega) _ (by simp[zI])) ?_ ?_
   rotate_right 1
   focus
    intro c4
    first
    | exact dn c4
    | (
     have d4:=c4;try simp at d4
     have d4':(jH d).all (okR pl out.length)=false:=(by simpa using c4)
     skip
     )
   rotate_right 1
   focus
    intro c4
    first
    | exact dn c4
    | (
     have d4:=c4;try simp at d4
     have d4':(jH d).all (okR pl out.length)=true:=(by simpa using c4);have hf:=zUk (i:=out.length) (by omega) (by simpa using c4)
     skip
     )
   all_goals first|refine zY ?_|refine zT ?_
   all_goals first
   | refine zL ?_
   | (
    refine zA ?_
    refine wa_ (wa_ (zB (w_ (l_ (h:=w_ (m_ (h:=w_ (ca (hc:=qAi 0 0 d out (by omega) hf (by simp[inI] at d2;omega)) (h:=w_ (a_ (h:=zC (e_ (h:=zA (wa_ (zB (w_ (m_ (h:=?_))))))))))))))))))
    refine w_ (bE (h:=zC (e_ (h:=zA (?_)))))
    refine c_ (h1:=?_) (h2:=?_)
    rotate_right 1
    focus
     intro c5
     first
     | exact dn c5
     | (
      have d5:=c5;try simp at d5
      refine zD (?_)
      )
    rotate_right 1
    focus
     intro c5
     first
     | exact dn c5
     | (
      have d5:=c5;try simp at d5
      refine wa_ (zB (w_ (m_ (h:=w_ (aN (h:=w_ (a_ (h:=zC (e_ (h:=zA (zH (?_))))))))))))
      )
    all_goals first
    | refine zL ?_
    | (
     refine zA ?_
     refine zB (w_ (m_ (h:=w_ (l_ (h:=w_ (m_ (h:=w_ (ca (hc:=zU0 0 0 d out (by omega) hf) (h:=w_ (bs (h:=w_ (ap (h:=w_ (a_ (h:=zC (e_ (h:=?_)))))))))))))))))
     )
    )
   )
  all_goals first|refine zJ ?_|refine zY ?_
  all_goals first
  | refine zL ?_
  | (
   refine zA ?_
   refine zB (w_ (b_ (h:=w_ (m_ (h:=zC (e_ (h:=?_)))))))
   )
  )
 all_goals first
 | (refine(ih (out++[yE d out]) (by simp;omega) ?_ _ ?_).trans ?_;(focus (first|omega|(simp;done)|(simp;omega)));(focus (simp[zI,hw];done));(focus (rw[zTh e1 (by grind [zB4])];simp)))
 | (apply zM (ex:=Ext.ret) 1 (some [2,3,4]);(focus (simp[zI];rfl));(focus (exact(zC5 e1 (c:=5) (by grind [zB4]) (by decide)).symm)))
 | (apply zM (ex:=Ext.ret) 1 (some [2,3,4]);(focus (simp[zI];rfl));(focus (exact(zC5 e1 (c:=1) (by grind [zB4]) (by decide)).symm)))
 | (apply zM (ex:=Ext.ret) 1 (some [2,3,4]);(focus (simp[zI];rfl));(focus (exact(zC5 e1 (c:=3) (by grind [zB4]) (by decide)).symm)))
 | (apply zM (ex:=Ext.ret) 1 (some [2,3,4]);(focus (simp[zI];rfl));(focus (exact(zC5 e1 (c:=zEv d out) (by grind [zB4]) (by omega)).symm)))
 | (apply zM (ex:=(Ext.exit 0)) 1 (some [2,3,4]);(focus (simp[zI];rfl));(focus (rw[List.drop_eq_nil_of_le (by omega)];simp[yG,zTz])))
def jS (pl:List Nd):List Int×Int :=
 if inI pl.length 1 8=false then([],2) else if(yG pl pl []).2=0 then yG pl pl [] else([],(yG pl pl []).2)
theorem zOm (pl:List Nd) (hp:pl.length<2000000) (hk:okN pl):oc.call 53 [.lst false 0 (nds false 0 pl)]=some (.tup [.lst true 1 (ints (jS pl).1),.int .i64 (jS pl).2],[]):=by
 refine qD rfl cd53 rfl rfl rfl (by simp;rfl) (by simp;rfl) ?_
 refine wa_ (zB (w_ (aN (h:=w_ (a_ (h:=zC (e_ (h:=zA (wa_ (wa_ (zB (w_ (m_ (h:=w_ (ca (hc:=zF5 _ _ (by simp;omega)) (h:=w_ (ca (hc:=zDz _ _ _) (h:=?_))))))))))))))))))
 refine w_ (u_ (h:=zC (e_ (h:=zA (?_)))))
 refine c_ (h1:=?_) (h2:=?_)
 rotate_right 1
 focus
  intro c1
  refine zD (?_)
 rotate_right 1
 focus
  intro c1
  refine wa_ (zB (w_ (aN (h:=w_ (a_ (h:=zC (e_ (h:=zA (zH (?_))))))))))
 all_goals first
 | refine zL ?_
 | (
  refine zA ?_
  refine wa_ (zB (w_ (bs (h:=w_ (a_ (h:=zC (e_ (h:=zA (wa_ (wa_ (zB (w_ (m_ (h:=w_ (le (h:=w_ (m_ (h:=?_))))))))))))))))))
  refine zC (e_ (h:=zA (zG (?_))))
  refine qR ((qFd pl hp hk [] (by simp) _ (by simp[zI])).trans (by rw[zTz])) ?_ ?_
  rotate_right 1
  focus
   intro c2
   skip
  rotate_right 1
  focus
   intro c2
   skip
  all_goals first|refine zY ?_|refine zT ?_
  all_goals first
  | refine zL ?_
  | (
   refine zA ?_
   refine wa_ (zB (w_ (m_ (h:=w_ (a_ (h:=w_ (a_ (h:=zC (e_ (h:=zA (zH (?_))))))))))))
   )
  )
 all_goals (refine qZ (hr:=(zR rfl (zR rfl zO))) (h:=?_);(focus (simp_all [jS])))
theorem qBz (pl:List Nd) (hp:pl.length<2000000) (hk:okN pl):oc.call 69 [.lst false 0 (nds false 0 pl)]=some (.int .i64 (jS pl).2,[]):=by
 refine qD rfl cd69 rfl rfl rfl (by simp;rfl) (by simp;rfl) ?_
 refine wa_ (zB (w_ (a_ (h:=zC (e_ (h:=zA (wa_ (zB (w_ (m_ (h:=w_ (ca (hc:=zOm pl hp hk) (h:=w_ (m_ (h:=w_ (ex (h:=w_ (ex (h:=?_)))))))))))))))))))
 refine w_ (a_ (h:=w_ (a_ (h:=zC (e_ (h:=zA (wa_ (zB (w_ (m_ (h:=w_ (a_ (h:=zC (e_ (h:=zA (zH (?_)))))))))))))))))
 all_goals (refine qZ (hr:=(zR rfl zO)) (h:=?_);(focus (first|(simp_all;done)|(simp_all<;>omega)|(simp_all<;>split<;>simp_all<;>omega))))
def zV7 (pl:List Nd) (ws:List Int):Prop:=∀n:Nat,n<ws.length→∃d,pl[n]? = some d∧at0 ws n=yE d (ws.take n)∧zYi d n∧d.cells.length<2000000
theorem zXp {ws:List Int} {n:Nat} {a:Int} (h:a.toNat<n):at0 (ws.take n) a=at0 ws a:=by
 simp only[at0,List.getD_eq_getElem?_getD,List.getElem?_take,if_pos h]
theorem zRn (pl:List Nd) (ws:List Int) (hp:pl.length<2000000) (G:zV7 pl ws):∀n:Nat,n<ws.length→oc.call 41 [.lst false 0 (nds false 0 pl),.int .i64 n]=some (.int .i64 (at0 ws n),[]):=by
  intro n
  induction n using Nat.strongRecOn with
  | ind n ih =>
    intro hn
    obtain⟨d,hx,hv,⟨h1,h2⟩,hd⟩:=G n hn
    have hrec:∀a:Int,0≤a→a<n→oc.call 41 [.lst false 0 (nds false 0 pl),.int .i64 a]=some (.int .i64 (at0 (ws.take n) a),[]):=by
      intro a h3 h4
      have:=ih a.toNat (by omega) (by omega)
      rw[zXp (by omega)]
      rw[Int.toNat_of_nonneg h3] at this
      exact this
    have g1:(nds false 0 pl)[(n:Int).toNat]? = some (d.v false 0):=zDn (by simpa using hx)
    rw[hv]
    refine qD rfl cd41 rfl rfl rfl (by simp;rfl) (by simp;rfl) ?_
    refine wa_ (zB (w_ (a_ (h:=zC (e_ (h:=zA (wa_ (zB (w_ (m_ (h:=w_ (m_ (h:=w_ (x_ (h:=w_ (l_ (h:=w_ (al (h:=?_)))))))))))))))))))
    refine w0 (s_ (h:=zC (e_ (h:=zA (wa_ (wa_ (zB (w_ (f_ (h:=w_ (l_ (h:=zC (e_ (h:=zA (zG (wa_ (?_)))))))))))))))))
    refine zB (w_ (bE (h:=w_ (a_ (h:=zC (e_ (h:=zA (?_))))))))
    refine c_ (h1:=?_) (h2:=?_)
    rotate_right 1
    focus
     intro c1
     first
     | exact dn c1
     | (have d1:=c1;try simp at d1
        refine wa_ (zB (w_ (bE (h:=w_ (a_ (h:=zC (e_ (h:=zA (?_)))))))))
        refine c_ (h1:=?_) (h2:=?_)
        rotate_right 1
        focus
         intro c2
         first
         | exact dn c2
         | (have d2:=c2;try simp at d2
            refine wa_ (zB (w_ (bE (h:=w_ (a_ (h:=zC (e_ (h:=zA (?_)))))))))
            refine c_ (h1:=?_) (h2:=?_)
            rotate_right 1
            focus
             intro c3
             first
             | exact dn c3
             | (have d3:=c3;try simp at d3
                refine wa_ (wa_ (zB (w_ (bE (h:=w_ (a_ (h:=zC (e_ (h:=zA (?_))))))))))
                refine c_ (h1:=?_) (h2:=?_)
                rotate_right 1
                focus
                 intro c4
                 first
                 | exact dn c4
                 | (have d4:=c4;try simp at d4
                    refine wa_ (zB (w_ (bE (h:=w_ (a_ (h:=zC (e_ (h:=zA (?_)))))))))
                    refine c_ (h1:=?_) (h2:=?_)
                    rotate_right 1
                    focus
                     intro c5
                     first
                     | exact dn c5
                     | (have d5:=c5;try simp at d5
                        refine wa_ (zB (w_ (bE (h:=w_ (a_ (h:=zC (e_ (h:=zA (?_)))))))))
                        refine c_ (h1:=?_) (h2:=?_)
                        rotate_right 1
                        focus
                         intro c6
                         first
                         | exact dn c6
                         | (have d6:=c6;try simp at d6
                            refine zB (w_ (bE (h:=w_ (a_ (h:=zC (e_ (h:=?_)))))))
                            )
                        rotate_right 1
                        focus
                         intro c6
                         first
                         | exact dn c6
                         | (have d6:=c6;try simp at d6
                            refine zD (?_)
                            )
                        )
                    rotate_right 1
                    focus
                     intro c5
                     first
                     | exact dn c5
                     | (have d5:=c5;try simp at d5
                        refine zD (?_)
                        )
                    )
                rotate_right 1
                focus
                 intro c4
                 first
                 | exact dn c4
                 | (have d4:=c4;try simp at d4
                    refine zD (?_)
                    )
                all_goals first
                | (refine zA ?_
                   refine c_ (h1:=?_) (h2:=?_)
                   rotate_right 1
                   focus
                    intro c7
                    first
                    | exact dn c7
                    | (have d7:=c7;try simp at d7
                       obtain⟨h3,h4⟩:=h1 (by omega)
                       refine zD (?_)
                       )
                   rotate_right 1
                   focus
                    intro c7
                    first
                    | exact dn c7
                    | (have d7:=c7;try simp at d7
                       refine wa_ (zB (w_ (f_ (h:=w_ (l_ (h:=w_ (b_ (h:=w_ (a_ (h:=zC (e_ (h:=zA (zH (?_))))))))))))))
                       )
                   )
                )
            rotate_right 1
            focus
             intro c3
             first
             | exact dn c3
             | (have d3:=c3;try simp at d3
                obtain⟨h3,h4⟩:=h1 (by omega);obtain⟨h5,h6⟩:=h2 (by omega)
                refine wa_ (qE (y_ (m_ (h:=ax_ (h:=y_ (f_ (h:=ax_ (h:=y_ (l_ (h:=ax_ (h:=y_ (ca (hc:=hrec _ h3 h4) (h:=ax_ (h:=y_ (m_ (h:=ax_ (h:=y_ (f_ (h:=ax_ (h:=y_ (l_ (h:=ax_ (h:=y_ (ca (hc:=hrec _ h5 h6) (h:=ax_ (h:=y_ (b_ (h:=ax_ (h:=y_ (f_ (h:=ax_ (h:=?_))))))))))))))))))))))))))))))))
                refine y_ (l_ (h:=ax_ (h:=y_ (b_ (h:=ax_ (h:=y_ (a_ (h:=ax_ (h:=zC (ed (h:=zA (zH (?_)))))))))))))
                )
            )
        rotate_right 1
        focus
         intro c2
         first
         | exact dn c2
         | (have d2:=c2;try simp at d2
            refine wa_ (zB (w_ (f_ (h:=w_ (l_ (h:=w_ (le (h:=w_ (a_ (h:=zC (e_ (h:=zA (zH (?_))))))))))))))
            )
        )
    rotate_right 1
    focus
     intro c1
     first
     | exact dn c1
     | (have d1:=c1;try simp at d1
        refine wa_ (zB (w_ (f_ (h:=w_ (l_ (h:=w_ (a_ (h:=zC (e_ (h:=zA (zH (?_))))))))))))
        )
    all_goals first|refine zJ ?_|refine zY ?_
    all_goals first
    | refine zL ?_
    | (refine zA ?_
       refine wa_ (zB (w_ (m_ (h:=w_ (f_ (h:=w_ (l_ (h:=w_ (ca (hc:=hrec _ h3 h4) (h:=w_ (a_ (h:=zC (e_ (h:=zA (zH (?_))))))))))))))))
       )
    all_goals (refine qZ (hr:=(zR rfl zO)) (h:=?_);(focus (clear ih hrec hv G;simp[yE];grind [inI])))
theorem zRz (d:Nd) (hd:d.cells.length<2000000) (ho:1≤d.op∧d.op≤12):oc.call 167 [d.v false 0]=some (.bool (decide (d=zA9 d)),[]):=by
 refine qD rfl cd167 rfl rfl rfl (by simp;rfl) (by simp;rfl) ?_
 refine wa_ (zB (w_ (bx (h:=w_ (a_ (h:=zC (e_ (h:=zA (wa_ (wa_ (zB (w_ (f_ (h:=w_ (l_ (h:=w_ (ca (hc:=zFg _) (h:=?_))))))))))))))))))
 refine w_ (b_ (h:=w_ (m_ (h:=?_))))
 refine gw_ (h1:=?_) (h2:=?_)
 rotate_right 1
 focus
  intro c1
  first
  | exact dn c1
  | (
   have d1:=c1;try simp at d1
   refine go_ (h:=go_ (h:=go_ (h:=?_)))
   )
 rotate_right 1
 focus
  intro c1
  first
  | exact dn c1
  | (
   have d1:=c1;try simp at d1
   refine g_ (h:=w_ (f_ (h:=g_ (h:=w_ (l_ (h:=g_ (h:=w_ (bE (h:=?_)))))))))
   )
 all_goals
  refine w_ (pk (h:=w_ (m_ (h:=?_))))
  refine gw_ (h1:=?_) (h2:=?_)
  rotate_right 1
  focus
   intro c2
   first
   | exact dn c2
   | (
    have d2:=c2;try simp at d2
    refine go_ (h:=go_ (h:=go_ (h:=go_ (h:=go_ (h:=?_)))))
    )
  rotate_right 1
  focus
   intro c2
   first
   | exact dn c2
   | (
    have d2:=c2;try simp at d2
    refine g_ (h:=w_ (f_ (h:=g_ (h:=w_ (l_ (h:=g_ (h:=w_ (ca (hc:=zFg _) (h:=g_ (h:=w_ (b_ (h:=g_ (h:=w_ (m_ (h:=?_)))))))))))))))
    )
  all_goals
   first
   | (
    skip
    refine goN (h:=goN (h:=goN (h:=?_)))
    )
   | (
    refine gw_ (h1:=?_) (h2:=?_)
    rotate_right 1
    focus
     intro c3
     first
     | exact dn c3
     | (
      have d3:=c3;try simp at d3
      refine go_ (h:=go_ (h:=go_ (h:=?_)))
      )
    rotate_right 1
    focus
     intro c3
     first
     | exact dn c3
     | (
      have d3:=c3;try simp at d3
      refine g_ (h:=w_ (f_ (h:=g_ (h:=w_ (l_ (h:=g_ (h:=w_ (bE (h:=?_)))))))))
      )
    )
   all_goals
    first
    | (
     skip
     refine g_ (h:=w_ (pk (h:=?_)))
     )
    | (
     skip
     refine go_ (h:=?_)
     )
    all_goals
     refine w_ (pk (h:=zC (e_ (h:=?_))))
 all_goals first
 | (
  refine zA ?_
  refine c_ (h1:=?_) (h2:=?_)
  rotate_right 1
  focus
   intro c4
   first
   | exact dn c4
   | (
    have d4:=c4;try simp at d4
    refine zD (?_)
    )
  rotate_right 1
  focus
   intro c4
   first
   | exact dn c4
   | (
    have d4:=c4;try simp at d4
    refine wa_ (zB (w_ (a_ (h:=zC (e_ (h:=zA (zH (?_))))))))
    )
  )
 all_goals first
 | refine zL ?_
 | (
  refine zA ?_
  refine wa_ (wa_ (zB (w_ (f_ (h:=w_ (l_ (h:=w_ (bE (h:=w_ (m_ (h:=?_)))))))))))
  refine gw_ (h1:=?_) (h2:=?_)
  rotate_right 1
  focus
   intro c5
   first
   | exact dn c5
   | (
    have d5:=c5;try simp at d5
    refine go_ (h:=go_ (h:=go_ (h:=go_ (h:=?_))))
    )
  rotate_right 1
  focus
   intro c5
   first
   | exact dn c5
   | (
    have d5:=c5;try simp at d5
    refine g_ (h:=w_ (f_ (h:=g_ (h:=w_ (l_ (h:=g_ (h:=w_ (bE (h:=g_ (h:=w_ (m_ (h:=?_))))))))))))
    )
  all_goals
   first
   | (
    skip
    refine goN (h:=goN (h:=goN (h:=?_)))
    )
   | (
    refine gw_ (h1:=?_) (h2:=?_)
    rotate_right 1
    focus
     intro c6
     first
     | exact dn c6
     | (
      have d6:=c6;try simp at d6
      refine go_ (h:=go_ (h:=go_ (h:=?_)))
      )
    rotate_right 1
    focus
     intro c6
     first
     | exact dn c6
     | (
      have d6:=c6;try simp at d6
      refine g_ (h:=w_ (f_ (h:=g_ (h:=w_ (l_ (h:=g_ (h:=w_ (bE (h:=?_)))))))))
      )
    )
   all_goals
    first
    | (
     skip
     refine g_ (h:=w_ (pk (h:=?_)))
     )
    | (
     skip
     refine go_ (h:=?_)
     )
    all_goals
     refine w_ (pk (h:=w_ (m_ (h:=?_))))
     refine gw_ (h1:=?_) (h2:=?_)
     rotate_right 1
     focus
      intro c7
      first
      | exact dn c7
      | (
       have d7:=c7;try simp at d7
       refine go_ (h:=go_ (h:=go_ (h:=go_ (h:=?_))))
       )
     rotate_right 1
     focus
      intro c7
      first
      | exact dn c7
      | (
       have d7:=c7;try simp at d7
       refine g_ (h:=w_ (f_ (h:=g_ (h:=w_ (l_ (h:=g_ (h:=w_ (bE (h:=g_ (h:=w_ (m_ (h:=?_))))))))))))
       )
     all_goals
      first
      | (
       skip
       refine goN (h:=goN (h:=goN (h:=goN (h:=?_))))
       )
      | (
       refine gw_ (h1:=?_) (h2:=?_)
       rotate_right 1
       focus
        intro c8
        first
        | exact dn c8
        | (
         have d8:=c8;try simp at d8
         refine go_ (h:=go_ (h:=go_ (h:=go_ (h:=?_))))
         )
       rotate_right 1
       focus
        intro c8
        first
        | exact dn c8
        | (
         have d8:=c8;try simp at d8
         refine g_ (h:=w_ (f_ (h:=g_ (h:=w_ (l_ (h:=g_ (h:=w_ (le (h:=g_ (h:=w_ (b_ (h:=?_))))))))))))
         )
       )
      all_goals
       first
       | (
        skip
        refine g_ (h:=w_ (pk (h:=?_)))
        )
       | (
        skip
        refine go_ (h:=?_)
        )
       all_goals
        refine w_ (pk (h:=zC (e_ (h:=?_))))
  all_goals first
  | (
   refine zA ?_
   refine c_ (h1:=?_) (h2:=?_)
   rotate_right 1
   focus
    intro c9
    first
    | exact dn c9
    | (
     have d9:=c9;try simp at d9
     refine zD (?_)
     )
   rotate_right 1
   focus
    intro c9
    first
    | exact dn c9
    | (
     have d9:=c9;try simp at d9
     refine wa_ (zB (w_ (a_ (h:=zC (e_ (h:=zA (zH (?_))))))))
     )
   )
  all_goals first
  | refine zL ?_
  | (
   refine zA ?_
   refine wa_ (wa_ (zB (w_ (f_ (h:=w_ (l_ (h:=zC (e_ (h:=zA (zG (wa_ (wa_ (zB (w_ (bE (h:=?_))))))))))))))))
   refine w_ (a_ (h:=zC (e_ (h:=zA (?_)))))
   refine c_ (h1:=?_) (h2:=?_)
   rotate_right 1
   focus
    intro c10
    first
    | exact dn c10
    | (
     have d10:=c10;try simp at d10
     refine wa_ (zB (w_ (bE (h:=w_ (a_ (h:=zC (e_ (h:=zA (?_)))))))))
     refine c_ (h1:=?_) (h2:=?_)
     rotate_right 1
     focus
      intro c11
      first
      | exact dn c11
      | (
       have d11:=c11;try simp at d11
       refine wa_ (zB (w_ (bE (h:=w_ (a_ (h:=zC (e_ (h:=zA (?_)))))))))
       refine c_ (h1:=?_) (h2:=?_)
       rotate_right 1
       focus
        intro c12
        first
        | exact dn c12
        | (
         have d12:=c12;try simp at d12
         refine wa_ (zB (w_ (bE (h:=w_ (a_ (h:=zC (e_ (h:=zA (?_)))))))))
         refine c_ (h1:=?_) (h2:=?_)
         rotate_right 1
         focus
          intro c13
          first
          | exact dn c13
          | (
           have d13:=c13;try simp at d13
           refine zB (w_ (bE (h:=w_ (a_ (h:=zC (e_ (h:=?_)))))))
           )
         rotate_right 1
         focus
          intro c13
          first
          | exact dn c13
          | (
           have d13:=c13;try simp at d13
           refine zD (?_)
           )
         )
       rotate_right 1
       focus
        intro c12
        first
        | exact dn c12
        | (
         have d12:=c12;try simp at d12
         refine zD (?_)
         )
       )
     rotate_right 1
     focus
      intro c11
      first
      | exact dn c11
      | (
       have d11:=c11;try simp at d11
       refine zD (?_)
       )
     )
   rotate_right 1
   focus
    intro c10
    first
    | exact dn c10
    | (
     have d10:=c10;try simp at d10
     refine zD (?_)
     )
   all_goals first
   | (
    refine zA ?_
    refine c_ (h1:=?_) (h2:=?_)
    rotate_right 1
    focus
     intro c14
     first
     | exact dn c14
     | (
      have d14:=c14;try simp at d14
      refine zD (?_)
      )
    rotate_right 1
    focus
     intro c14
     first
     | exact dn c14
     | (
      have d14:=c14;try simp at d14
      refine wa_ (zB (w_ (f_ (h:=w_ (l_ (h:=w_ (bE (h:=w_ (a_ (h:=zC (e_ (h:=zA (zH (?_))))))))))))))
      )
    )
   all_goals first|refine zJ ?_|refine zY ?_
   all_goals first
   | refine zL ?_
   | (
    refine zA ?_
    refine wa_ (zB (w_ (a_ (h:=zC (e_ (h:=zA (zH (?_))))))))
    )
   )
  )
 all_goals (refine qZ (hr:=(zR rfl zO)) (h:=?_);(focus (simp[Nd.eq_iff,zA9];grind)))
theorem zSh (d:Nd):((jH d).length:Int)=if d.op=1 then 0 else if d.op=4∨d.op=6 then 2 else 1:=by
 unfold jH
 split
 ·simp
 ·split<;>simp
theorem zVk {d:Nd} {k:Nat} (h:k<(jH d).length):(jH d).drop k=(if k=1 then d.b else d.a)::(jH d).drop (k+1):=by
 rw[List.drop_eq_getElem_cons h]
 congr 1
 unfold jH at h ⊢
 split at h
 ·simp at h
 ·split at h
  ·simp at h
   rcases k with _|_|k
   ·simp[*]
   ·simp[*]
   ·omega
  ·simp at h
   subst h
   simp[*]
theorem zX2 (pl:List Nd) (d:Nd) (i:Nat) (hp:pl.length<2000000) (hi:i≤pl.length):∀k:Nat,k≤(jH d).length→∀s,zI 2 (some [0,1,5,6]) s=⟨[(0,.lst false 0 (nds false 0 pl)),(1,.int .i64 i),(5,.ptr 2 0 []),(6,.int .i64 k)],[(2,⟨true,false,7,[d.v false 0],0⟩)],3⟩ →
 oc.loop 99 7 s=some (if((jH d).drop k).all (okR pl i)=true then(.exit 0,⟨[(0,.lst false 0 (nds false 0 pl)),(5,.ptr 2 0 [])],[(2,⟨true,false,7,[d.v false 0],0⟩)],3⟩)
  else(.ret,⟨[(0,.lst false 0 (nds false 0 pl)),(4,.int .i64 3),(5,.ptr 2 0 [])],[(2,⟨true,false,7,[d.v false 0],0⟩)],3⟩)):=by
 refine zW (fun k=>(jH d).length - k) _ (fun k=>⟨[(0,.lst false 0 (nds false 0 pl)),(1,.int .i64 i),(5,.ptr 2 0 []),(6,.int .i64 k)],[(2,⟨true,false,7,[d.v false 0],0⟩)],3⟩) _ ?_
 intro k hk ih s hs
 have hw2:IntKind.i64.wrap ((i:Int) - 1)=i - 1:=qH (by omega) (by omega)
 have hlen:=zSh d
 have hle:(jH d).length≤2:=by unfold jH;split;simp;split<;>simp
 have hw:=zV (i:=k) (by omega)
 refine qB cd99 rfl rfl hs ?_
 refine wa_ (wa_ (zB (w_ (m_ (h:=w_ (f_ (h:=w_ (l_ (h:=w_ (ca (hc:=zFg _) (h:=w_ (b_ (h:=zC (e_ (h:=zA (?_))))))))))))))))
 refine c_ (h1:=?_) (h2:=?_)
 rotate_right 1
 focus
  intro c1
  first
  | exact dn c1
  | (
   have d1:=c1;try simp at d1
   rw[←hlen] at d1;have:k=(jH d).length:=(by omega)
   refine zX (?_)
   )
 rotate_right 1
 focus
  intro c1
  first
  | exact dn c1
  | (
   have d1:=c1;try simp at d1
   rw[←hlen] at d1;have e1:=zVk (d:=d) (k:=k) (by omega)
   refine zD (?_)
   )
 all_goals first
 | refine zS ?_
 | (
  refine zA ?_
  refine wa_ (zG (wa_ (zB (w_ (f_ (h:=w_ (l_ (h:=w_ (a_ (h:=zC (e_ (h:=zA (wa_ (wa_ (zB (?_))))))))))))))))
  refine w_ (m_ (h:=w_ (bE (h:=zC (e_ (h:=zA (?_)))))))
  refine c_ (h1:=?_) (h2:=?_)
  rotate_right 1
  focus
   intro c2
   first
   | exact dn c2
   | (
    have d2:=c2;try simp at d2
    refine zD (?_)
    )
  rotate_right 1
  focus
   intro c2
   first
   | exact dn c2
   | (
    have d2:=c2;try simp at d2
    refine zB (w_ (f_ (h:=w_ (l_ (h:=w_ (a_ (h:=zC (e_ (h:=?_)))))))))
    )
  all_goals first
  | (
   refine zA ?_
   refine wa_ (zB (w_ (m_ (h:=w_ (m_ (h:=w_ (b_ (h:=w_ (ca (hc:=zAl _ _ _) (h:=w_ (u_ (h:=w_ (m_ (h:=?_))))))))))))))
   refine gw_ (h1:=?_) (h2:=?_)
   rotate_right 1
   focus
    intro c3
    first
    | exact dn c3
    | (
     have d3:=c3;try simp at d3
     refine go_ (h:=go_ (h:=go_ (h:=go_ (h:=go_ (h:=go_ (h:=?_))))))
     )
   rotate_right 1
   focus
    intro c3
    first
    | exact dn c3
    | (
     have d3:=c3;try simp at d3
     simp[inI,hw2] at d3;obtain⟨h3,h4⟩:=d3;obtain⟨e,g2,g3⟩:=zZb (t:=false) (s:=0) (l:=pl) h3 (by omega)
     refine g_ (h:=w_ (m_ (h:=g_ (h:=w_ (m_ (h:=g_ (h:=w_ (x_ (h:=g_ (h:=w_ (f_ (h:=g_ (h:=w_ (l_ (h:=g_ (h:=w_ (bE (h:=?_))))))))))))))))))
     )
   all_goals
    refine w_ (pk (h:=zC (e_ (h:=?_))))
   all_goals first
   | (
    refine zA ?_
    refine c_ (h1:=?_) (h2:=?_)
    rotate_right 1
    focus
     intro c4
     first
     | exact dn c4
     | (
      have d4:=c4;try simp at d4
      refine zD (?_)
      )
    rotate_right 1
    focus
     intro c4
     first
     | exact dn c4
     | (
      have d4:=c4;try simp at d4
      refine wa_ (zB (w_ (a_ (h:=zC (e_ (h:=zA (zH (?_))))))))
      )
    )
   )
  all_goals first|refine zJ ?_|refine zY ?_
  all_goals first
  | refine zL ?_
  | (
   refine zA ?_
   refine zB (w_ (m_ (h:=w_ (b_ (h:=w_ (a_ (h:=zC (e_ (h:=?_)))))))))
   )
  )
 all_goals first
 | (refine(ih (k+1) (by omega) ?_ _ ?_).trans ?_;(focus (first|omega|(simp;done)|(simp;omega)));(focus (simp[zI,hw];done));(focus (rw[e1];simp[okR] at *;grind)))
 | (apply zM (ex:=Ext.ret) 2 (some [0,4,5]);(focus (simp[zI];rfl));(focus (rw[e1];simp[okR] at *;grind)))
 | (apply zM (ex:=(Ext.exit 0)) 2 (some [0,4,5]);(focus (simp[zI];rfl));(focus (rw[List.drop_eq_nil_of_le (by omega)];simp)))
theorem zWj (d:Nd) (v:Int) (hd:d.cells.length<2000000):∀i:Nat,i≤d.cells.length→∀s,zI 2 (some [5,8,9]) s=⟨[(5,.ptr 2 0 []),(8,.int .i64 v),(9,.int .i64 i)],[(2,⟨true,false,7,[d.v false 0],0⟩)],3⟩ →
 oc.loop 99 27 s=some (if((d.cells.drop i).all fun c=>inI c 0 (IntKind.i64.wrap (v - 1)))=true then(.exit 3,⟨[],[],2⟩) else(.ret,⟨[(4,.int .i64 3)],[],2⟩)):=by
 refine zW (fun i=>d.cells.length - i) _ (fun i=>⟨[(5,.ptr 2 0 []),(8,.int .i64 v),(9,.int .i64 i)],[(2,⟨true,false,7,[d.v false 0],0⟩)],3⟩) _ ?_
 intro i hi ih s hs
 refine qB cd99 rfl rfl hs ?_
 refine wa_ (wa_ (zB (w_ (m_ (h:=w_ (f_ (h:=w_ (l_ (h:=w_ (le (h:=w_ (b_ (h:=zC (e_ (h:=zA (?_))))))))))))))))
 refine c_ (h1:=?_) (h2:=?_)
 rotate_right 1
 focus
  intro c1
  simp at c1;have:i=d.cells.length:=(by omega);subst this
  refine zX (?_)
 rotate_right 1
 focus
  intro c1
  simp at c1;have hw:=zV (i:=i) (by omega);obtain⟨x,_,d1,g1⟩:=kU c1
  refine zD (?_)
 all_goals first
 | refine zS ?_
 | (
  refine zA ?_
  refine wa_ (zG (wa_ (zB (w_ (f_ (h:=w_ (l_ (h:=w_ (m_ (h:=w_ (x_ (h:=w_ (l_ (h:=w_ (m_ (h:=w_ (b_ (h:=w_ (ca (hc:=zAl _ _ _) (h:=?_))))))))))))))))))))
  refine w_ (u_ (h:=zC (e_ (h:=zA (?_)))))
  refine c_ (h1:=?_) (h2:=?_)
  rotate_right 1
  focus
   intro c2
   refine zD (?_)
  rotate_right 1
  focus
   intro c2
   refine wa_ (zB (w_ (a_ (h:=zC (e_ (h:=zA (zH (?_))))))))
  all_goals first|refine zJ ?_|refine zY ?_
  all_goals first
  | refine zL ?_
  | (
   refine zA ?_
   refine zB (w_ (m_ (h:=w_ (b_ (h:=w_ (a_ (h:=zC (e_ (h:=?_)))))))))
   )
  )
 all_goals first
 | (refine(ih (i+1) (by omega) ?_ _ ?_).trans ?_;(focus (first|omega|(simp;done)|(simp;omega)));(focus (simp[zI,hw];done));(focus (rw[d1];simp at c2 ⊢;grind)))
 | (apply zM (ex:=Ext.ret) 2 (some [4]);(focus (simp[zI];rfl));(focus (rw[d1];simp at c2 ⊢;grind)))
 | (apply zM (ex:=(Ext.exit 3)) 2 (some [4]);(focus (simp[zI];rfl));(focus (simp)))
theorem zAy (pl:List Nd) (ws:List Int) (hp:pl.length<2000000) (G:zV7 pl ws) (a:Int) (h0:0≤a) (h1:a<ws.length):oc.call 41 [.lst false 0 (nds false 0 pl),.int .i64 a]=some (.int .i64 (at0 ws a),[]):=by
 have:=zRn pl ws hp G a.toNat (by omega)
 rwa [Int.toNat_of_nonneg h0] at this
def Hid (p:Prop):Prop:=p
theorem zXd (pl:List Nd) (ws:List Int) (d:Nd) (hp:pl.length<2000000) (hk:okN pl) (G:zV7 pl ws) (hx:pl[ws.length]? = some d):oc.call 99 [.lst false 0 (nds false 0 pl),.int .i64 ws.length]=some (.int .i64 (zB4 pl d ws),[]):=by
 have hd:=hk d (List.mem_of_getElem? hx)
 have hlt:ws.length<pl.length:=(List.getElem?_eq_some_iff.mp hx).1
 have g1:(nds false 0 pl)[(ws.length:Int).toNat]? = some (d.v false 0):=zDn (by simpa using hx)
 refine qD rfl cd99 rfl rfl rfl (by simp;rfl) (by simp;rfl) ?_
 refine wa_ (zB (w_ (a_ (h:=zC (e_ (h:=zA (wa_ (zB (w_ (m_ (h:=w_ (m_ (h:=w_ (x_ (h:=w_ (l_ (h:=w_ (al (h:=?_)))))))))))))))))))
 refine w0 (s_ (h:=zC (e_ (h:=zA (wa_ (wa_ (zB (w_ (f_ (h:=w_ (l_ (h:=w_ (ca (hc:=zAl _ _ _) (h:=w_ (u_ (h:=zC (e_ (h:=zA (?_)))))))))))))))))))
 refine c_ (h1:=?_) (h2:=?_)
 rotate_right 1
 focus
  intro c1
  first
  | exact dn c1
  | (
   have d1:=c1;try simp at d1
   refine zD (?_)
   )
 rotate_right 1
 focus
  intro c1
  first
  | exact dn c1
  | (
   have d1:=c1;try simp at d1
   refine wa_ (zB (w_ (a_ (h:=zC (e_ (h:=zA (zH (?_))))))))
   )
 all_goals first
 | refine zL ?_
 | (
  refine zA ?_
  refine wa_ (wa_ (zB (w_ (l_ (h:=w_ (ca (hc:=zRz d hd (by simp[inI] at d1;omega)) (h:=w_ (u_ (h:=zC (e_ (h:=zA (?_))))))))))))
  refine c_ (h1:=?_) (h2:=?_)
  rotate_right 1
  focus
   intro c2
   first
   | exact dn c2
   | (
    have d2:=c2;try simp at d2
    have hpl:Hid (d=zA9 d):=d2;clear d2 c2
    refine zD (?_)
    )
  rotate_right 1
  focus
   intro c2
   first
   | exact dn c2
   | (
    have d2:=c2;try simp at d2
    refine wa_ (zB (w_ (a_ (h:=zC (e_ (h:=zA (zH (?_))))))))
    )
  all_goals first
  | refine zL ?_
  | (
   refine zA ?_
   refine wa_ (wa_ (zB (w_ (a_ (h:=zC (e_ (h:=zA (zG (?_)))))))))
   refine qR (zX2 pl d ws.length (by omega) (by omega) 0 (by omega) _ (by simp[zI])) ?_ ?_
   rotate_right 1
   focus
    intro c3
    first
    | exact dn c3
    | (
     have d3:=c3;try simp at d3
     have d3':(jH d).all (okR pl ws.length)=false:=(by simpa using c3)
     skip
     )
   rotate_right 1
   focus
    intro c3
    first
    | exact dn c3
    | (
     have d3:=c3;try simp at d3
     have d3':(jH d).all (okR pl ws.length)=true:=(by simpa using c3);obtain⟨k1,k2⟩:=zUk (i:=ws.length) (by omega) (by simpa using c3)
     skip
     )
   all_goals first|refine zY ?_|refine zT ?_
   all_goals first
   | refine zL ?_
   | (
    refine zA ?_
    refine wa_ (wa_ (zB (w_ (f_ (h:=w_ (l_ (h:=w_ (bE (h:=zC (e_ (h:=zA (?_))))))))))))
    refine c_ (h1:=?_) (h2:=?_)
    rotate_right 1
    focus
     intro c4
     first
     | exact dn c4
     | (
      have d4:=c4;try simp at d4
      obtain⟨h3,h4⟩:=k1 (by omega)
      refine zD (?_)
      )
    rotate_right 1
    focus
     intro c4
     first
     | exact dn c4
     | (
      have d4:=c4;try simp at d4
      refine wa_ (wa_ (zB (w_ (f_ (h:=w_ (l_ (h:=w_ (ca (hc:=zAl _ _ _) (h:=w_ (u_ (h:=zC (e_ (h:=zA (?_))))))))))))))
      refine c_ (h1:=?_) (h2:=?_)
      rotate_right 1
      focus
       intro c5
       first
       | exact dn c5
       | (
        have d5:=c5;try simp at d5
        refine zD (?_)
        )
      rotate_right 1
      focus
       intro c5
       first
       | exact dn c5
       | (
        have d5:=c5;try simp at d5
        refine wa_ (zB (w_ (a_ (h:=zC (e_ (h:=zA (zH (?_))))))))
        )
      all_goals first
      | refine zL ?_
      | (
       refine zA ?_
       refine wa_ (zB (w_ (a_ (h:=zC (e_ (h:=zA (zH (?_))))))))
       )
      )
    all_goals first
    | refine zL ?_
    | (
     refine zA ?_
     refine wa_ (zB (w_ (m_ (h:=w_ (f_ (h:=w_ (l_ (h:=w_ (ca (hc:=zAy pl ws hp G _ h3 h4) (h:=w_ (a_ (h:=zC (e_ (h:=zA (wa_ (wa_ (zB (?_))))))))))))))))))
     refine w_ (f_ (h:=w_ (l_ (h:=zC (e_ (h:=zA (zG (wa_ (zB (w_ (bE (h:=w_ (a_ (h:=zC (e_ (h:=zA (?_)))))))))))))))))
     refine c_ (h1:=?_) (h2:=?_)
     rotate_right 1
     focus
      intro c6
      first
      | exact dn c6
      | (
       have d6:=c6;try simp at d6
       refine wa_ (zB (w_ (bE (h:=w_ (a_ (h:=zC (e_ (h:=zA (?_)))))))))
       refine c_ (h1:=?_) (h2:=?_)
       rotate_right 1
       focus
        intro c7
        first
        | exact dn c7
        | (
         have d7:=c7;try simp at d7
         refine wa_ (zB (w_ (bE (h:=w_ (a_ (h:=zC (e_ (h:=zA (?_)))))))))
         refine c_ (h1:=?_) (h2:=?_)
         rotate_right 1
         focus
          intro c8
          first
          | exact dn c8
          | (
           have d8:=c8;try simp at d8
           refine wa_ (zB (w_ (bE (h:=w_ (a_ (h:=zC (e_ (h:=zA (?_)))))))))
           refine c_ (h1:=?_) (h2:=?_)
           rotate_right 1
           focus
            intro c9
            first
            | exact dn c9
            | (
             have d9:=c9;try simp at d9
             refine wa_ (zB (w_ (bE (h:=w_ (a_ (h:=zC (e_ (h:=zA (?_)))))))))
             refine c_ (h1:=?_) (h2:=?_)
             rotate_right 1
             focus
              intro c10
              first
              | exact dn c10
              | (
               have d10:=c10;try simp at d10
               refine wa_ (wa_ (zB (w_ (bE (h:=w_ (a_ (h:=zC (e_ (h:=zA (?_))))))))))
               refine c_ (h1:=?_) (h2:=?_)
               rotate_right 1
               focus
                intro c11
                first
                | exact dn c11
                | (
                 have d11:=c11;try simp at d11
                 refine wa_ (zB (w_ (bE (h:=w_ (a_ (h:=zC (e_ (h:=zA (?_)))))))))
                 refine c_ (h1:=?_) (h2:=?_)
                 rotate_right 1
                 focus
                  intro c12
                  first
                  | exact dn c12
                  | (
                   have d12:=c12;try simp at d12
                   refine zB (w_ (bE (h:=w_ (a_ (h:=zC (e_ (h:=?_)))))))
                   )
                 rotate_right 1
                 focus
                  intro c12
                  first
                  | exact dn c12
                  | (
                   have d12:=c12;try simp at d12
                   refine zD (?_)
                   )
                 )
               rotate_right 1
               focus
                intro c11
                first
                | exact dn c11
                | (
                 have d11:=c11;try simp at d11
                 refine zD (?_)
                 )
               all_goals first
               | (
                refine zA ?_
                refine c_ (h1:=?_) (h2:=?_)
                rotate_right 1
                focus
                 intro c13
                 first
                 | exact dn c13
                 | (
                  have d13:=c13;try simp at d13
                  refine zD (?_)
                  )
                rotate_right 1
                focus
                 intro c13
                 first
                 | exact dn c13
                 | (
                  have d13:=c13;try simp at d13
                  refine wa_ (zB (w_ (f_ (h:=w_ (l_ (h:=w_ (m_ (h:=w_ (b_ (h:=w_ (ca (hc:=zAl _ _ _) (h:=w_ (u_ (h:=zC (e_ (h:=zA (?_)))))))))))))))))
                  refine c_ (h1:=?_) (h2:=?_)
                  rotate_right 1
                  focus
                   intro c14
                   first
                   | exact dn c14
                   | (
                    have d14:=c14;try simp at d14
                    refine zD (?_)
                    )
                  rotate_right 1
                  focus
                   intro c14
                   first
                   | exact dn c14
                   | (
                    have d14:=c14;try simp at d14
                    refine wa_ (zB (w_ (a_ (h:=zC (e_ (h:=zA (zH (?_))))))))
                    )
                  )
                )
               )
             rotate_right 1
             focus
              intro c10
              first
              | exact dn c10
              | (
               have d10:=c10;try simp at d10
               refine wa_ (qE (y_ (f_ (h:=ax_ (h:=y_ (l_ (h:=ax_ (h:=y_ (m_ (h:=ax_ (h:=y_ (ca (hc:=zT2 _ _) (h:=ax_ (h:=y_ (ca (hc:=zAl _ _ _) (h:=ax_ (h:=y_ (u_ (h:=ax_ (h:=zC (ed (h:=zA (?_)))))))))))))))))))))))
               refine c_ (h1:=?_) (h2:=?_)
               rotate_right 1
               focus
                intro c15
                first
                | exact dn c15
                | (
                 have d15:=c15;try simp at d15
                 refine zD (?_)
                 )
               rotate_right 1
               focus
                intro c15
                first
                | exact dn c15
                | (
                 have d15:=c15;try simp at d15
                 refine wa_ (zB (w_ (a_ (h:=zC (e_ (h:=zA (zH (?_))))))))
                 )
               )
             )
           rotate_right 1
           focus
            intro c9
            first
            | exact dn c9
            | (
             have d9:=c9;try simp at d9
             obtain⟨h5,h6⟩:=k2 (by omega)
             refine wa_ (zB (w_ (m_ (h:=w_ (f_ (h:=w_ (l_ (h:=w_ (ca (hc:=zAy pl ws hp G _ h5 h6) (h:=w_ (a_ (h:=zC (e_ (h:=zA (wa_ (wa_ (qE (?_))))))))))))))))))
             refine y_ (f_ (h:=ax_ (h:=y_ (l_ (h:=ax_ (h:=y_ (m_ (h:=ax_ (h:=y_ (m_ (h:=ax_ (h:=y_ (ca (hc:=zT2 _ _) (h:=ax_ (h:=y_ (ca (hc:=zAl _ _ _) (h:=ax_ (h:=y_ (u_ (h:=ax_ (h:=zC (ed (h:=zA (?_))))))))))))))))))))))))
             refine c_ (h1:=?_) (h2:=?_)
             rotate_right 1
             focus
              intro c16
              first
              | exact dn c16
              | (
               have d16:=c16;try simp at d16
               refine zD (?_)
               )
             rotate_right 1
             focus
              intro c16
              first
              | exact dn c16
              | (
               have d16:=c16;try simp at d16
               refine wa_ (zB (w_ (a_ (h:=zC (e_ (h:=zA (zH (?_))))))))
               )
             all_goals first
             | refine zL ?_
             | (
              refine zA ?_
              refine wa_ (zB (w_ (m_ (h:=w_ (m_ (h:=w_ (b_ (h:=w_ (f_ (h:=w_ (l_ (h:=w_ (b_ (h:=w_ (b_ (h:=zC (e_ (h:=zA (?_)))))))))))))))))))
              refine c_ (h1:=?_) (h2:=?_)
              rotate_right 1
              focus
               intro c17
               first
               | exact dn c17
               | (
                have d17:=c17;try simp at d17
                refine zD (?_)
                )
              rotate_right 1
              focus
               intro c17
               first
               | exact dn c17
               | (
                have d17:=c17;try simp at d17
                refine wa_ (zB (w_ (a_ (h:=zC (e_ (h:=zA (zH (?_))))))))
                )
              )
             )
           )
         rotate_right 1
         focus
          intro c8
          first
          | exact dn c8
          | (
           have d8:=c8;try simp at d8
           obtain⟨h5,h6⟩:=k2 (by omega)
           refine wa_ (zB (w_ (m_ (h:=w_ (m_ (h:=w_ (f_ (h:=w_ (l_ (h:=w_ (ca (hc:=zAy pl ws hp G _ h5 h6) (h:=w_ (bE (h:=zC (e_ (h:=zA (?_)))))))))))))))))
           refine c_ (h1:=?_) (h2:=?_)
           rotate_right 1
           focus
            intro c18
            first
            | exact dn c18
            | (
             have d18:=c18;try simp at d18
             refine zD (?_)
             )
           rotate_right 1
           focus
            intro c18
            first
            | exact dn c18
            | (
             have d18:=c18;try simp at d18
             refine wa_ (zB (w_ (a_ (h:=zC (e_ (h:=zA (zH (?_))))))))
             )
           )
         )
       rotate_right 1
       focus
        intro c7
        first
        | exact dn c7
        | (
         have d7:=c7;try simp at d7
         refine wa_ (wa_ (zB (w_ (f_ (h:=w_ (l_ (h:=w_ (le (h:=w_ (b_ (h:=w_ (m_ (h:=?_)))))))))))))
         refine gw_ (h1:=?_) (h2:=?_)
         rotate_right 1
         focus
          intro c19
          first
          | exact dn c19
          | (
           have d19:=c19;try simp at d19
           refine go_ (h:=go_ (h:=go_ (h:=go_ (h:=?_))))
           )
         rotate_right 1
         focus
          intro c19
          first
          | exact dn c19
          | (
           have d19:=c19;try simp at d19
           refine g_ (h:=w_ (f_ (h:=g_ (h:=w_ (l_ (h:=g_ (h:=w_ (le (h:=g_ (h:=w_ (b_ (h:=?_))))))))))))
           )
         all_goals
          refine w_ (pk (h:=zC (e_ (h:=?_))))
         all_goals first
         | (
          refine zA ?_
          refine c_ (h1:=?_) (h2:=?_)
          rotate_right 1
          focus
           intro c20
           first
           | exact dn c20
           | (
            have d20:=c20;try simp at d20
            refine zD (?_)
            )
          rotate_right 1
          focus
           intro c20
           first
           | exact dn c20
           | (
            have d20:=c20;try simp at d20
            refine wa_ (zB (w_ (a_ (h:=zC (e_ (h:=zA (zH (?_))))))))
            )
          )
         all_goals first
         | refine zL ?_
         | (
          refine zA ?_
          refine wa_ (zB (w_ (a_ (h:=zC (e_ (h:=zA (zG (?_))))))))
          refine qR (zWj d (at0 ws d.a) hd 0 (by omega) _ (by simp[zI])) ?_ ?_
          rotate_right 1
          focus
           intro c21
           first
           | exact dn c21
           | (
            have d21:=c21;try simp at d21
            skip
            )
          rotate_right 1
          focus
           intro c21
           first
           | exact dn c21
           | (
            have d21:=c21;try simp at d21
            skip
            )
          all_goals first|refine zY ?_|refine zT ?_
          )
         )
       )
     rotate_right 1
     focus
      intro c6
      first
      | exact dn c6
      | (
       have d6:=c6;try simp at d6
       refine wa_ (zB (w_ (f_ (h:=w_ (l_ (h:=w_ (m_ (h:=w_ (b_ (h:=w_ (ca (hc:=zAl _ _ _) (h:=w_ (u_ (h:=w_ (m_ (h:=?_))))))))))))))))
       refine gw_ (h1:=?_) (h2:=?_)
       rotate_right 1
       focus
        intro c22
        first
        | exact dn c22
        | (
         have d22:=c22;try simp at d22
         refine go_ (h:=go_ (h:=go_ (h:=go_ (h:=?_))))
         )
       rotate_right 1
       focus
        intro c22
        first
        | exact dn c22
        | (
         have d22:=c22;try simp at d22
         refine g_ (h:=w_ (f_ (h:=g_ (h:=w_ (l_ (h:=g_ (h:=w_ (ca (hc:=zAl _ _ _) (h:=g_ (h:=w_ (u_ (h:=?_))))))))))))
         )
       all_goals
        refine w_ (pk (h:=w_ (m_ (h:=?_))))
        refine gw_ (h1:=?_) (h2:=?_)
        rotate_right 1
        focus
         intro c23
         first
         | exact dn c23
         | (
          have d23:=c23;try simp at d23
          refine go_ (h:=go_ (h:=go_ (h:=go_ (h:=?_))))
          )
        rotate_right 1
        focus
         intro c23
         first
         | exact dn c23
         | (
          have d23:=c23;try simp at d23
          refine g_ (h:=w_ (f_ (h:=g_ (h:=w_ (l_ (h:=g_ (h:=w_ (ca (hc:=zAl _ _ _) (h:=g_ (h:=w_ (u_ (h:=?_))))))))))))
          )
        all_goals
         refine w_ (pk (h:=zC (e_ (h:=?_))))
       all_goals first
       | (
        refine zA ?_
        refine c_ (h1:=?_) (h2:=?_)
        rotate_right 1
        focus
         intro c24
         first
         | exact dn c24
         | (
          have d24:=c24;try simp at d24
          refine zD (?_)
          )
        rotate_right 1
        focus
         intro c24
         first
         | exact dn c24
         | (
          have d24:=c24;try simp at d24
          refine wa_ (zB (w_ (a_ (h:=zC (e_ (h:=zA (zH (?_))))))))
          )
        )
       )
     all_goals first|refine zJ ?_|refine zY ?_
     all_goals first
     | refine zL ?_
     | (
      refine zA ?_
      refine wa_ (zB (w_ (a_ (h:=zC (e_ (h:=zA (zH (?_))))))))
      )
     )
    )
   )
  )
 all_goals (refine qZ (hr:=(zR rfl zO)) (h:=?_);(focus (clear hk G;simp only[Hid] at *;simp[zB4,zEv,yE];grind [inI])))
end Go.Proofs.YtbcgenkegnmkhaaGreat.Ev
namespace Go.Proofs.YtbcgenkegnmkhaaGreat.Ev
open Go
set_option maxRecDepth 100000
set_option linter.unusedSimpArgs false
set_option linter.unusedVariables false
set_option maxHeartbeats 2000000
theorem zOt (pl:List Nd):zV7 pl []:=fun n h=>by simp at h
theorem zM2 {pl:List Nd} {d:Nd} {out:List Int} (hl:out.length<2000000) (h:zB4 pl d out=0):zYi d out.length:=by
 unfold zB4 at h
 split at h
 ·cases h
 ·split at h
  ·cases h
  ·split at h
   ·cases h
   ·rename_i h1 h2 h3
    exact zUk hl (by simpa using h3)
theorem zJr {pl:List Nd} {d:Nd} {ws:List Int} (hk:okN pl) (hl:ws.length<2000000) (G:zV7 pl ws) (hx:pl[ws.length]? = some d) (h:zB4 pl d ws=0):zV7 pl (ws++[yE d ws]):=by
 intro n hn
 by_cases hlt:n<ws.length
 ·obtain⟨e,h1,h2,h3⟩:=G n hlt
  refine⟨e,h1,?_,h3⟩
  rw[List.take_append_of_le_length (by omega),← h2]
  simp only[at0,List.getD_eq_getElem?_getD]
  rw[List.getElem?_append_left (by omega)]
 ·have:n=ws.length:=by simp at hn;omega
  subst this
  refine⟨d,hx,?_,zM2 hl h,hk d (List.mem_of_getElem? hx)⟩
  rw[List.take_left]
  simp[at0,List.getD_eq_getElem?_getD]
theorem qB6 (pl:List Nd) (hp:pl.length<2000000) (hk:okN pl):∀ws:List Int,(zV7 pl ws∧ws.length≤pl.length)→∀s,zI 1 (some [0,3]) s=⟨[(0,.lst false 0 (nds false 0 pl)),(3,.int .i64 ws.length)],[],1⟩ →
 oc.loop 35 4 s=some (if(yG pl (pl.drop ws.length) ws).2=0 then(.exit 0,⟨[],[],1⟩) else(.ret,⟨[(2,.int .i64 (yG pl (pl.drop ws.length) ws).2)],[],1⟩)):=by
 refine zW (σ:=List Int) (fun ws=>pl.length - ws.length) _ (fun ws=>⟨[(0,.lst false 0 (nds false 0 pl)),(3,.int .i64 ws.length)],[],1⟩) _ ?_
 rintro ws ⟨G,hi⟩ ih s hs
 refine qB cd35 rfl rfl hs ?_
 refine wa_ (wa_ (zB (w_ (m_ (h:=w_ (m_ (h:=w_ (le (h:=w_ (b_ (h:=zC (e_ (h:=zA (?_))))))))))))))
 refine c_ (h1:=?_) (h2:=?_)
 rotate_right 1
 focus
  intro c1
  first
  | exact dn c1
  | (
   have d1:=c1;try simp at d1
   refine zX (?_)
   )
 rotate_right 1
 focus
  intro c1
  first
  | exact dn c1
  | (
   have d1:=c1;try simp at d1
   have hw:=zV (i:=ws.length) (by omega);obtain⟨d,hx,e1,g1⟩:=zAm (t:=false) (s:=0) (l:=pl) (i:=ws.length) (by omega)
   refine zD (?_)
   )
 all_goals first
 | refine zS ?_
 | (
  refine zA ?_
  refine wa_ (zG (wa_ (zB (w_ (m_ (h:=w_ (m_ (h:=w_ (ca (hc:=zXd pl ws d hp hk G hx) (h:=w_ (a_ (h:=zC (e_ (h:=zA (wa_ (zB (?_)))))))))))))))))
  refine w_ (m_ (h:=w_ (bE (h:=zC (e_ (h:=zA (?_)))))))
  refine c_ (h1:=?_) (h2:=?_)
  rotate_right 1
  focus
   intro c2
   first
   | exact dn c2
   | (
    have d2:=c2;try simp at d2
    refine zD (?_)
    )
  rotate_right 1
  focus
   intro c2
   first
   | exact dn c2
   | (
    have d2:=c2;try simp at d2
    refine wa_ (zB (w_ (m_ (h:=w_ (a_ (h:=zC (e_ (h:=zA (zH (?_))))))))))
    )
  all_goals first|refine zJ ?_|refine zY ?_
  all_goals first
  | refine zL ?_
  | (
   refine zA ?_
   refine zB (w_ (m_ (h:=w_ (b_ (h:=w_ (a_ (h:=zC (e_ (h:=?_)))))))))
   )
  )
 all_goals first
 | (refine(ih (ws++[yE d ws]) (⟨zJr hk (by omega) G hx d2,by simp;omega⟩) ?_ _ ?_).trans ?_;(focus (first|omega|(simp;done)|(simp;omega)));(focus (simp[zI,hw];done));(focus (rw[zTh e1 d2];simp)))
 | (apply zM (ex:=Ext.ret) 1 (some [2]);(focus (simp[zI];rfl));(focus (rw[e1,yG,if_neg d2];simp[d2])))
 | (apply zM (ex:=(Ext.exit 0)) 1 (some [2]);(focus (simp[zI];rfl));(focus (rw[List.drop_eq_nil_of_le (by omega)];simp[yG])))
theorem zSk (pl:List Nd) (hp:pl.length<2000000) (hk:okN pl):oc.call 35 [.lst false 0 (nds false 0 pl)]=some (.int .i64 (jS pl).2,[]):=by
 refine qD rfl cd35 rfl rfl rfl (by simp;rfl) (by simp;rfl) ?_
 refine wa_ (zB (w_ (a_ (h:=zC (e_ (h:=zA (wa_ (wa_ (zB (w_ (m_ (h:=w_ (le (h:=w_ (b_ (h:=w_ (m_ (h:=?_))))))))))))))))))
 refine gw_ (h1:=?_) (h2:=?_)
 rotate_right 1
 focus
  intro c1
  first
  | exact dn c1
  | (
   have d1:=c1;try simp at d1
   refine go_ (h:=go_ (h:=go_ (h:=?_)))
   )
 rotate_right 1
 focus
  intro c1
  first
  | exact dn c1
  | (
   have d1:=c1;try simp at d1
   refine g_ (h:=w_ (m_ (h:=g_ (h:=w_ (le (h:=g_ (h:=w_ (b_ (h:=?_)))))))))
   )
 all_goals
  refine w_ (pk (h:=zC (e_ (h:=?_))))
 all_goals first
 | (
  refine zA ?_
  refine c_ (h1:=?_) (h2:=?_)
  rotate_right 1
  focus
   intro c2
   first
   | exact dn c2
   | (
    have d2:=c2;try simp at d2
    refine zD (?_)
    )
  rotate_right 1
  focus
   intro c2
   first
   | exact dn c2
   | (
    have d2:=c2;try simp at d2
    refine wa_ (zB (w_ (a_ (h:=zC (e_ (h:=zA (zH (?_))))))))
    )
  )
 all_goals first
 | refine zL ?_
 | (
  refine zA ?_
  refine wa_ (wa_ (zB (w_ (a_ (h:=zC (e_ (h:=zA (zG (?_)))))))))
  refine qR (qB6 pl hp hk [] ⟨zOt pl,by simp⟩ _ (by simp[zI])) ?_ ?_
  rotate_right 1
  focus
   intro c3
   first
   | exact dn c3
   | (
    have d3:=c3;try simp at d3
    skip
    )
  rotate_right 1
  focus
   intro c3
   first
   | exact dn c3
   | (
    have d3:=c3;try simp at d3
    skip
    )
  all_goals first|refine zY ?_|refine zT ?_
  all_goals first
  | refine zL ?_
  | (
   refine zA ?_
   refine wa_ (zB (w_ (a_ (h:=zC (e_ (h:=zA (zH (?_))))))))
   )
  )
 all_goals (refine qZ (hr:=(zR rfl zO)) (h:=?_);(focus (clear hk;first|(simp_all [jS,inI];done)|(simp_all [jS,inI]<;>grind))))
def xA (d:Nd) (a:Int):Bool:=(jH d).contains a
def yJ (a:Int) (i:Nat):List Nd→List Int
 | []=>[]
 | d::r=>if xA d a=true then(i:Int)::yJ a (i+1) r else yJ a (i+1) r
end Go.Proofs.YtbcgenkegnmkhaaGreat.Ev
namespace Go.Proofs.YtbcgenkegnmkhaaGreat.Ev
open Go
set_option maxRecDepth 100000
set_option linter.unusedSimpArgs false
set_option linter.unusedVariables false
set_option maxHeartbeats 2000000
def qE6 (pl:List Nd) (a:Int):Bool:=inI a 0 (2 * (pl.length:Int) - 1)
theorem zT6 (pl:List Nd) (a:Int) (hp:pl.length<2000000):oc.call 224 [.lst false 0 (nds false 0 pl),.int .i64 a]=some (.bool (qE6 pl a),[]):=by
 refine qD rfl cd224 rfl rfl rfl (by simp;rfl) (by simp;rfl) ?_
 have h1:IntKind.i64.wrap (2 * (pl.length:Int))=2 * pl.length:=qH (by omega) (by omega)
 have h2:IntKind.i64.wrap (2 * (pl.length:Int) - 1)=2 * pl.length - 1:=qH (by omega) (by omega)
 refine wa_ (zB (w_ (a_ (h:=zC (e_ (h:=zA (wa_ (zB (w_ (m_ (h:=w_ (m_ (h:=w_ (ca (hc:=zF5 _ _ (by simp;omega)) (h:=w_ (b_ (h:=w_ (b_ (h:=?_)))))))))))))))))))
 refine w_ (ca (hc:=zDz _ _ _) (h:=w_ (a_ (h:=zC (e_ (h:=zA (zH (?_))))))))
 all_goals (refine qZ (hr:=(zR rfl zO)) (h:=?_);(focus (simp[qE6,h1,h2])))
def zSa (v:Int) (i:Nat):List Int→Int
 | []=>-1
 | x::r=>if v=x then i else zSa v (i+1) r
theorem zNi {v:Int}:∀{l:List Int} {i:Nat},0≤zSa v i l↔v∈l
 | [],i=>by simp[zSa]
 | x::r,i=>by
  unfold zSa
  by_cases h:v=x
  ·simp[h]
  ·simp[h,zNi (l:=r) (i:=i+1)]
theorem qA4 (l:List Int) (v:Int) (hl:l.length<2000000):∀i:Nat,i≤l.length→∀s,zI 2 (some [0,1,7,8]) s=⟨[(0,.lst false 0 (ints l)),(1,.int .i64 v),(7,.int .i64 l.length),(8,.int .i64 i)],[],2⟩ →
 oc.loop 178 2 s=some (if 0≤zSa v i (l.drop i) then(.ret,⟨[(4,.int .i64 (zSa v i (l.drop i)))],[],2⟩) else(.exit 0,⟨[],[],2⟩)):=by
 refine zW (fun i=>l.length - i) _ (fun i=>⟨[(0,.lst false 0 (ints l)),(1,.int .i64 v),(7,.int .i64 l.length),(8,.int .i64 i)],[],2⟩) _ ?_
 intro i hi ih s hs
 refine qB qIu rfl rfl hs ?_
 refine wa_ (zB (w_ (b_ (h:=zC (e_ (h:=zA (wa_ (?_))))))))
 refine c_ (h1:=?_) (h2:=?_)
 rotate_right 1
 focus
  intro c1
  first
  | exact dn c1
  | (
   have d1:=c1;try simp at d1
   refine zX (?_)
   )
 rotate_right 1
 focus
  intro c1
  first
  | exact dn c1
  | (
   have d1:=c1;try simp at d1
   have hw:=zV (i:=i) (by omega);obtain⟨x,hx,e1,g1⟩:=kU (l:=l) (i:=i) (by omega)
   refine zD (?_)
   )
 all_goals first
 | refine zS ?_
 | (
  refine zA ?_
  refine wa_ (zG (wa_ (zB (w_ (m_ (h:=w_ (a_ (h:=zC (e_ (h:=zA (wa_ (zB (w_ (m_ (h:=w_ (m_ (h:=?_)))))))))))))))))
  refine w_ (m_ (h:=w_ (x_ (h:=w_ (l_ (h:=w_ (bE (h:=zC (e_ (h:=zA (?_)))))))))))
  refine c_ (h1:=?_) (h2:=?_)
  rotate_right 1
  focus
   intro c2
   first
   | exact dn c2
   | (
    have d2:=c2;try simp at d2
    refine zD (?_)
    )
  rotate_right 1
  focus
   intro c2
   first
   | exact dn c2
   | (
    have d2:=c2;try simp at d2
    refine wa_ (zB (w_ (m_ (h:=w_ (a_ (h:=zC (e_ (h:=zA (zH (?_))))))))))
    )
  all_goals first|refine zJ ?_|refine zY ?_
  all_goals first
  | refine zL ?_
  | (
   refine zA ?_
   refine zB (w_ (b_ (h:=w_ (m_ (h:=zC (e_ (h:=?_)))))))
   )
  )
 all_goals first
 | (refine(ih (i+1) (by omega) ?_ _ ?_).trans ?_;(focus (first|omega|(simp;done)|(simp;omega)));(focus (simp[zI,hw];done));(focus (rw[e1];simp only[zSa,if_neg d2])))
 | (apply zM (ex:=Ext.ret) 2 (some [4]);(focus (simp[zI];rfl));(focus (rw[e1];simp[zSa,d2])))
 | (apply zM (ex:=(Ext.exit 0)) 2 (some [4]);(focus (simp[zI];rfl));(focus (rw[List.drop_eq_nil_of_le (by omega)];simp[zSa])))
theorem qBt (l:List Int) (v:Int) (hl:l.length<2000000):oc.call 178 [.lst false 0 (ints l),.int .i64 v]=some (.int .i64 (if 0≤zSa v 0 l then zSa v 0 l else -1),[]):=by
 refine qD rfl qIu rfl rfl rfl (by simp;rfl) (by simp;rfl) ?_
 refine wa_ (zB (w_ (a_ (h:=zC (e_ (h:=zA (wa_ (wa_ (zB (w_ (m_ (h:=w_ (le (h:=w_ (m_ (h:=zC (e_ (h:=?_))))))))))))))))))
 refine zA (zG (?_))
 refine qR (qA4 l v hl 0 (by omega) _ (by simp[zI])) ?_ ?_
 rotate_right 1
 focus
  intro c1
  skip
 rotate_right 1
 focus
  intro c1
  skip
 all_goals first|refine zY ?_|refine zT ?_
 all_goals first
 | refine zL ?_
 | (
  refine zA ?_
  refine wa_ (zB (w_ (a_ (h:=zC (e_ (h:=zA (zH (?_))))))))
  )
 all_goals (refine qZ (hr:=(zR rfl zO)) (h:=?_);(focus (first|(simp_all;done)|(simp_all<;>omega)|(simp_all<;>split<;>simp_all<;>omega))))
theorem zPt (l:List Int) (v:Int) (hl:l.length<2000000):oc.call 111 [.lst false 0 (ints l),.int .i64 v]=some (.bool (l.contains v),[]):=by
 refine qD rfl cd111 rfl rfl rfl (by simp;rfl) (by simp;rfl) ?_
 refine wa_ (zB (w_ (a_ (h:=zC (e_ (h:=zA (wa_ (zB (w_ (m_ (h:=w_ (m_ (h:=w_ (ca (hc:=qBt _ _ hl) (h:=w_ (b_ (h:=w_ (a_ (h:=?_)))))))))))))))))))
 refine zC (e_ (h:=zA (zH (?_))))
 all_goals (refine qZ (hr:=(zR rfl zO)) (h:=?_);(focus (simp;have:=zNi (v:=v) (l:=l) (i:=0);grind)))
theorem zQq (pl:List Nd) (a:Int) (hp:pl.length<2000000) (hk:okN pl):∀x:Nat×List Int,(x.1≤pl.length∧x.2.length≤x.1)→∀s,zI 2 (some [1,5,9,10,11]) s=⟨[(1,.int .i64 a),(5,.ref 2 0 x.2.length),(9,.lst false 0 (nds false 0 pl)),(10,.int .i64 pl.length),(11,.int .i64 x.1)],[(2,⟨false,false,1,ints x.2,0⟩)],3⟩ →
 oc.loop 52 3 s=some (.exit 0,⟨[(5,.ref 2 0 (x.2++yJ a x.1 (pl.drop x.1)).length)],[(2,⟨false,false,1,ints (x.2++yJ a x.1 (pl.drop x.1)),0⟩)],3⟩):=by
 refine zW (σ:=Nat×List Int) (fun x=>pl.length - x.1) _ (fun x=>⟨[(1,.int .i64 a),(5,.ref 2 0 x.2.length),(9,.lst false 0 (nds false 0 pl)),(10,.int .i64 pl.length),(11,.int .i64 x.1)],[(2,⟨false,false,1,ints x.2,0⟩)],3⟩) _ ?_
 rintro⟨i,out⟩ ⟨hi,ho⟩ ih s hs
 simp only at hi ho
 refine qB cd52 rfl rfl hs ?_
 refine wa_ (zB (w_ (b_ (h:=zC (e_ (h:=zA (wa_ (?_))))))))
 refine c_ (h1:=?_) (h2:=?_)
 rotate_right 1
 focus
  intro c1
  first
  | exact dn c1
  | (
   have d1:=c1;try simp at d1
   refine zX (?_)
   )
 rotate_right 1
 focus
  intro c1
  first
  | exact dn c1
  | (
   have d1:=c1;try simp at d1
   have hw:=zV (i:=i) (by omega);obtain⟨d,hx,e1,g1⟩:=zAm (t:=false) (s:=0) (l:=pl) (i:=i) (by omega);have hd:=hk d (List.mem_of_getElem? hx);have hle:(jH d).length<2000000:=(by have:(jH d).length≤2:=(by unfold jH;split;simp;split<;>simp);omega)
   refine zD (?_)
   )
 all_goals first
 | refine zS ?_
 | (
  refine zA ?_
  refine wa_ (zG (wa_ (zB (w_ (m_ (h:=w_ (x_ (h:=w_ (l_ (h:=w_ (al (h:=w_ (a_ (h:=w0 (s_ (h:=zC (e_ (h:=zA (?_)))))))))))))))))))
  refine wa_ (zB (w_ (l_ (h:=w_ (ca (hc:=zTv 0 d) (h:=w_ (m_ (h:=w_ (ca (hc:=zPt (jH d) a hle) (h:=zC (e_ (h:=zA (?_)))))))))))))
  refine c_ (h1:=?_) (h2:=?_)
  rotate_right 1
  focus
   intro c2
   first
   | exact dn c2
   | (
    have d2:=c2;try simp at d2
    refine zD (?_)
    )
  rotate_right 1
  focus
   intro c2
   first
   | exact dn c2
   | (
    have d2:=c2;try simp at d2
    refine zB (w_ (m_ (h:=w_ (m_ (h:=w_ (bs (h:=w_ (ap (h:=w_ (a_ (h:=zC (e_ (h:=?_)))))))))))))
    )
  all_goals refine zJ ?_
  all_goals first
  | (
   refine zA ?_
   refine zB (w_ (b_ (h:=w_ (m_ (h:=zC (e_ (h:=?_)))))))
   )
  )
 all_goals first
 | (refine(ih ((i+1,out++[(i:Int)])) (⟨by simp;omega,by simp;omega⟩) ?_ _ ?_).trans ?_;(focus (first|omega|(simp;done)|(simp;omega)));(focus (simp[zI,hw];done));(focus (have d3:xA d a=true:=(by simpa [xA] using d2);simp only[e1,yJ,d3,if_true];simp)))
 | (refine(ih ((i+1,out)) (⟨by simp;omega,by simp;omega⟩) ?_ _ ?_).trans ?_;(focus (first|omega|(simp;done)|(simp;omega)));(focus (simp[zI,hw];done));(focus (have d3:xA d a=false:=(by simpa [xA] using d2);simp only[e1,yJ,d3];simp)))
 | (apply zM (ex:=(Ext.exit 0)) 2 (some [5]);(focus (simp[zI];rfl));(focus (simp only[List.drop_eq_nil_of_le (show pl.length≤i by omega),yJ];simp)))
theorem zQt (pl:List Nd) (a:Int) (hp:pl.length<2000000) (hk:okN pl):oc.call 52 [.lst false 0 (nds false 0 pl),.int .i64 a]=some (.lst true 1 (ints (yJ a 0 pl)),[]):=by
 refine qD rfl cd52 rfl rfl rfl (by simp;rfl) (by simp;rfl) ?_
 refine wa_ (zB (w_ (aN (h:=zC (e_ (h:=zA (wa_ (zB (w_ (bs (h:=w_ (a_ (h:=zC (e_ (h:=zA (wa_ (?_)))))))))))))))))
 refine wa_ (zB (w_ (m_ (h:=w_ (le (h:=w_ (m_ (h:=zC (e_ (h:=zA (zG (?_))))))))))))
 refine qF (zQq pl a hp hk (0,[]) (by simp) _ (by simp[zI])) ?_
 refine zT (zA (wa_ (zB (w_ (m_ (h:=w_ (a_ (h:=zC (e_ (h:=zA (zH (?_))))))))))))
 all_goals (refine qZ (hr:=(zR rfl zO)) (h:=?_);(focus (first|(simp_all;done)|(simp_all<;>omega)|(simp_all<;>split<;>simp_all<;>omega))))
end Go.Proofs.YtbcgenkegnmkhaaGreat.Ev
namespace Go.Proofs.YtbcgenkegnmkhaaGreat.Ev
open Go
set_option maxRecDepth 100000
set_option linter.unusedSimpArgs false
set_option linter.unusedVariables false
set_option maxHeartbeats 2000000
def zTr (p:Int→Bool) (i:Nat):List Int→Int
 | []=>-1
 | x::r=>if p x=true then i else zTr p (i+1) r
theorem zP4 {p:Int→Bool}:∀{l:List Int} {i:Nat},decide (0≤zTr p i l)=l.any p
 | [],i=>by simp[zTr]
 | x::r,i=>by
  unfold zTr
  by_cases h:p x=true
  ·simp[h]
  ·simp only[if_neg h,List.any_cons,zP4 (l:=r) (i:=i+1)];simp[h]
theorem zXm (l:List Int) (pl:List Nd) (to:Int) (p:Int→Bool) (hl:l.length<2000000) (hc:∀x∈l,oc.call 196 [.int .i64 x,.vptr (.lst false 0 (nds false 0 pl)),.vptr (.int .i64 to)]=some (.bool (p x),[])):∀i:Nat,i≤l.length→∀s,zI 2 (some [0,1,7,8]) s=⟨[(0,.lst false 0 (ints l)),(1,.clo 196 [.vptr (.lst false 0 (nds false 0 pl)),.vptr (.int .i64 to)]),(7,.int .i64 l.length),(8,.int .i64 i)],[],2⟩ →
 oc.loop 234 2 s=some (if 0≤zTr p i (l.drop i) then(.ret,⟨[(4,.int .i64 (zTr p i (l.drop i)))],[],2⟩) else(.exit 0,⟨[],[],2⟩)):=by
 refine zW (fun i=>l.length - i) _ (fun i=>⟨[(0,.lst false 0 (ints l)),(1,.clo 196 [.vptr (.lst false 0 (nds false 0 pl)),.vptr (.int .i64 to)]),(7,.int .i64 l.length),(8,.int .i64 i)],[],2⟩) _ ?_
 intro i hi ih s hs
 refine qB qKg rfl rfl hs ?_
 refine wa_ (zB (w_ (b_ (h:=zC (e_ (h:=zA (wa_ (?_))))))))
 refine c_ (h1:=?_) (h2:=?_)
 rotate_right 1
 focus
  intro c1
  first
  | exact dn c1
  | (
   have d1:=c1;try simp at d1
   refine zX (?_)
   )
 rotate_right 1
 focus
  intro c1
  first
  | exact dn c1
  | (
   have d1:=c1;try simp at d1
   have hw:=zV (i:=i) (by omega);obtain⟨x,hx,e1,g1⟩:=kU (l:=l) (i:=i) (by omega);have hq:=hc x (List.mem_of_getElem? hx)
   refine zD (?_)
   )
 all_goals first
 | refine zS ?_
 | (
  refine zA ?_
  refine wa_ (zG (wa_ (zB (w_ (m_ (h:=w_ (a_ (h:=zC (e_ (h:=zA (wa_ (zB (w_ (m_ (h:=w_ (m_ (h:=?_)))))))))))))))))
  refine w_ (m_ (h:=w_ (x_ (h:=w_ (l_ (h:=w_ (?_)))))))
  refine zFx rfl rfl (by rw[zCp];rfl) rfl (by rw[xW];rfl) (by simp[xW,mdT];rfl) (by first|rfl|simp[*]) hq rfl (by simp;rfl) (by simp[xW,mdT]) (by simp;rfl) (by simp;rfl) ?_
  refine zC (e_ (h:=zA (?_)))
  refine c_ (h1:=?_) (h2:=?_)
  rotate_right 1
  focus
   intro c2
   first
   | exact dn c2
   | (
    have d2:=c2;try simp at d2
    refine zD (?_)
    )
  rotate_right 1
  focus
   intro c2
   first
   | exact dn c2
   | (
    have d2:=c2;try simp at d2
    refine wa_ (zB (w_ (m_ (h:=w_ (a_ (h:=zC (e_ (h:=zA (zH (?_))))))))))
    )
  all_goals first|refine zJ ?_|refine zY ?_
  all_goals first
  | refine zL ?_
  | (
   refine zA ?_
   refine zB (w_ (b_ (h:=w_ (m_ (h:=zC (e_ (h:=?_)))))))
   )
  )
 all_goals first
 | (refine(ih (i+1) (by omega) ?_ _ ?_).trans ?_;(focus (first|omega|(simp;done)|(simp;omega)));(focus (simp[zI,hw];done));(focus (rw[e1];simp only[zTr,if_neg (show ¬p x=true by simp[d2])])))
 | (apply zM (ex:=Ext.ret) 2 (some [4]);(focus (simp[zI];rfl));(focus (rw[e1];simp[zTr,d2])))
 | (apply zM (ex:=(Ext.exit 0)) 2 (some [4]);(focus (simp[zI];rfl));(focus (rw[List.drop_eq_nil_of_le (by omega)];simp[zTr])))
theorem zY8 (l:List Int) (pl:List Nd) (to:Int) (p:Int→Bool) (hl:l.length<2000000) (hc:∀x∈l,oc.call 196 [.int .i64 x,.vptr (.lst false 0 (nds false 0 pl)),.vptr (.int .i64 to)]=some (.bool (p x),[])):oc.call 234 [.lst false 0 (ints l),.clo 196 [.vptr (.lst false 0 (nds false 0 pl)),.vptr (.int .i64 to)]]=some (.int .i64 (if 0≤zTr p 0 l then zTr p 0 l else -1),[]):=by
 refine qD rfl qKg rfl rfl rfl (by simp;rfl) (by simp;rfl) ?_
 refine wa_ (zB (w_ (a_ (h:=zC (e_ (h:=zA (wa_ (wa_ (zB (w_ (m_ (h:=w_ (le (h:=w_ (m_ (h:=zC (e_ (h:=?_))))))))))))))))))
 refine zA (zG (?_))
 refine qR (zXm l pl to p hl hc 0 (by omega) _ (by simp[zI])) ?_ ?_
 rotate_right 1
 focus
  intro c1
  skip
 rotate_right 1
 focus
  intro c1
  skip
 all_goals first|refine zY ?_|refine zT ?_
 all_goals first
 | refine zL ?_
 | (
  refine zA ?_
  refine wa_ (zB (w_ (a_ (h:=zC (e_ (h:=zA (zH (?_))))))))
  )
 all_goals (refine qZ (hr:=(zR rfl zO)) (h:=?_);(focus (clear hc;first|(simp_all;done)|(simp_all<;>omega))))
theorem qKn (l:List Int) (pl:List Nd) (to:Int) (p:Int→Bool) (hl:l.length<2000000) (hc:∀x∈l,oc.call 196 [.int .i64 x,.vptr (.lst false 0 (nds false 0 pl)),.vptr (.int .i64 to)]=some (.bool (p x),[])):oc.call 195 [.lst false 0 (ints l),.clo 196 [.vptr (.lst false 0 (nds false 0 pl)),.vptr (.int .i64 to)]]=some (.bool (l.any p),[]):=by
 refine qD rfl cd195 rfl rfl rfl (by simp;rfl) (by simp;rfl) ?_
 refine wa_ (zB (w_ (a_ (h:=zC (e_ (h:=zA (wa_ (zB (w_ (m_ (h:=w_ (m_ (h:=w_ (ca (hc:=zY8 l pl to p hl hc) (h:=w_ (b_ (h:=w_ (a_ (h:=?_)))))))))))))))))))
 refine zC (e_ (h:=zA (zH (?_))))
 all_goals (refine qZ (hr:=(zR rfl zO)) (h:=?_);(focus (clear hc;rw[←zP4 (i:=0)];simp;grind)))
def Wf (pl:List Nd):Prop:=∀(n:Nat) d,pl[n]? = some d→zYi d n
theorem zOv {pl:List Nd} (hp:pl.length<2000000):∀(r:List Nd) (ws:List Int),r=pl.drop ws.length→(yG pl r ws).2=0→∀(n:Nat) d,ws.length≤n→pl[n]? = some d→zYi d n
 | [],ws,e,_,n,d,hn,hd=>by
  have:pl.length≤ws.length:=by
   have:=congrArg List.length e;simp at this;omega
  have:=(List.getElem?_eq_some_iff.mp hd).1
  omega
 | x::r,ws,e,h,n,d,hn,hd=>by
  unfold yG at h
  have hx:pl[ws.length]? = some x:=by
   have:=congrArg (fun l=>l[0]?) e
   simpa using this.symm
  have hr:r=pl.drop (ws.length+1):=by
   have:=congrArg List.tail e
   simpa [List.tail_drop] using this
  split at h
  ·rename_i hs
   by_cases hc:n=ws.length
   ·subst hc
    rw[hx] at hd
    cases hd
    exact zM2 (by have:=(List.getElem?_eq_some_iff.mp hx).1;omega) hs
   ·exact zOv hp r (ws++[yE x ws]) (by simpa using hr) h n d (by simp;omega) hd
  ·exact absurd h ‹_›
theorem zRo {pl:List Nd} (h:(jS pl).2=0):Wf pl:=by
 unfold jS at h
 split at h
 ·cases h
 ·rename_i hl
  simp[inI] at hl
  split at h
  ·exact fun n d hd=>zOv (by omega) pl [] rfl h n d (by simp) hd
  ·exact absurd h ‹_›
theorem zTm {a m:Int}:∀{l:List Nd} {i:Nat},m∈yJ a i l→∃(k:Nat) (d:Nd),m=((i+k:Nat):Int)∧l[k]? = some d∧xA d a=true
 | [],i,h=>by simp[yJ] at h
 | d::r,i,h=>by
  unfold yJ at h
  split at h
  ·rename_i hd
   rcases List.mem_cons.mp h with h|h
   ·exact⟨0,d,by simpa using h,rfl,hd⟩
   ·obtain⟨k,e,h1,h2,h3⟩:=zTm h
    exact⟨k+1,e,by rw[h1];congr 1;omega,by simpa using h2,h3⟩
  ·obtain⟨k,e,h1,h2,h3⟩:=zTm h
   exact⟨k+1,e,by rw[h1];congr 1;omega,by simpa using h2,h3⟩
theorem zTj {d:Nd} {n:Nat} {a:Int} (h:zYi d n) (hr:xA d a=true):0≤a∧a<n:=by
 obtain⟨h1,h2⟩:=h
 unfold xA jH at hr
 split at hr
 ·simp at hr
 ·split at hr
  ·simp at hr
   rcases hr with rfl|rfl
   ·exact h1 ‹_›
   ·exact h2 ‹_›
  ·simp at hr
   subst hr
   exact h1 ‹_›
theorem rd_gt {pl:List Nd} (W:Wf pl) {a m:Int} (h:m∈yJ a 0 pl):0≤a∧a<m∧m<pl.length:=by
 obtain⟨k,d,rfl,h2,h3⟩:=zTm h
 have:=zTj (W k d h2) h3
 have:=(List.getElem?_eq_some_iff.mp h2).1
 simp only[Nat.zero_add]
 omega
theorem zYt (a:Int):∀(l:List Nd) (i:Nat),(yJ a i l).length≤l.length
 | [],i=>by simp[yJ]
 | d::r,i=>by
  unfold yJ
  have:=zYt a r (i+1)
  split<;>simp<;>omega
def zC6 (pl:List Nd) (to:Int):Nat→Int→Bool
 | 0,_=>false
 | n+1,a=>if a=to then true else if a.tmod 2=0 then zC6 pl to n (a+1) else(yJ (a / 2) 0 pl).any fun m=>zC6 pl to n (2 * m)
theorem qDh (pl:List Nd) (to:Int) (hp:pl.length<2000000) (hk:okN pl) (W:Wf pl):∀(n:Nat) (a:Int),0≤a→a<2 * pl.length→2 * pl.length - a≤n→oc.call 143 [.lst false 0 (nds false 0 pl),.int .i64 a,.int .i64 to]=some (.bool (zC6 pl to n a),[]):=by
  intro n
  induction n with
  | zero=>intro a h0 h1 h2;omega
  | succ n ih =>
    intro a h0 h1 h2
    have ih':∀b:Int,a<b→b<2 * pl.length→oc.call 143 [.lst false 0 (nds false 0 pl),.int .i64 b,.int .i64 to]=some (.bool (zC6 pl to n b),[]):=fun b h3 h4=>ih b (by omega) h4 (by omega)
    have hm:a.tmod 2=a % 2:=Int.tmod_eq_emod_of_nonneg h0
    have hd:a.tdiv 2=a / 2:=Int.tdiv_eq_ediv_of_nonneg h0
    have hw:IntKind.i64.wrap (a+1)=a+1:=qH (by omega) (by omega)
    have hw2:IntKind.i64.wrap (a / 2)=a / 2:=qH (by omega) (by omega)
    have hclo:∀x∈yJ (a / 2) 0 pl,a % 2≠0→oc.call 196 [.int .i64 x,.vptr (.lst false 0 (nds false 0 pl)),.vptr (.int .i64 to)]=some (.bool (zC6 pl to n (2 * x)),[]):=by
      intro x hx ho
      have hg:=rd_gt W hx
      have hw3:IntKind.i64.wrap (2 * x)=2 * x:=qH (by omega) (by omega)
      refine qD rfl cd196 rfl rfl rfl (by simp;rfl) (by simp;rfl) ?_
      refine wa_ (zB (w_ (a_ (h:=zC (e_ (h:=zA (wa_ (zB (w_ (l_ (h:=w_ (m_ (h:=w_ (b_ (h:=w_ (l_ (h:=w_ (ca (hc:=(hw3.symm ▸ ih' (2 * x) (by omega) (by omega))) (h:=?_)))))))))))))))))))
      refine w_ (a_ (h:=zC (e_ (h:=zA (zH (?_))))))
      all_goals (refine qZ (hr:=(zR rfl zO)) (h:=?_);(focus (first|(simp_all;done)|(simp_all<;>omega)|(simp_all<;>split<;>simp_all<;>omega))))
    refine qD rfl cd143 rfl rfl rfl (by simp;rfl) (by simp;rfl) ?_
    refine wa_ (zB (w_ (bx (h:=w_ (bx (h:=w_ (a_ (h:=zC (e_ (h:=zA (wa_ (wa_ (zB (w_ (m_ (h:=w_ (l_ (h:=?_))))))))))))))))))
    refine w_ (bE (h:=zC (e_ (h:=zA (?_)))))
    refine c_ (h1:=?_) (h2:=?_)
    rotate_right 1
    focus
     intro c1
     refine zD (?_)
    rotate_right 1
    focus
     intro c1
     refine wa_ (zB (w_ (a_ (h:=zC (e_ (h:=zA (zH (?_))))))))
    all_goals first
    | refine zL ?_
    | (refine zA ?_
       refine wa_ (wa_ (zB (w_ (m_ (h:=w_ (b_ (h:=w_ (bE (h:=zC (e_ (h:=zA (?_))))))))))))
       refine c_ (h1:=?_) (h2:=?_)
       rotate_right 1
       focus
        intro c2
        simp[hm] at c2
        refine zD (?_)
       rotate_right 1
       focus
        intro c2
        simp[hm] at c2
        refine wa_ (zB (w_ (l_ (h:=w_ (m_ (h:=w_ (b_ (h:=w_ (l_ (h:=w_ (ca (hc:=(hw.symm ▸ ih' (a+1) (by omega) (by omega))) (h:=w_ (a_ (h:=zC (e_ (h:=zA (zH (?_))))))))))))))))))
       all_goals first
       | refine zL ?_
       | (refine zA ?_
          refine wa_ (zB (w_ (l_ (h:=w_ (m_ (h:=w_ (b_ (h:=w_ (ca (hc:=(by rw[hd,hw2];exact zQt pl (a / 2) hp hk)) (h:=w_ (mf (h:=w_ (ca (hc:=qKn (yJ (a / 2) 0 pl) pl to (fun m=>zC6 pl to n (2 * m)) (by have:=zYt (a / 2) pl 0;omega) (fun x hx=>hclo x hx (by omega))) (h:=w_ (a_ (h:=zC (e_ (h:=zA (zH (?_))))))))))))))))))))
          )
       )
    all_goals (refine qZ (hr:=(zR rfl zO)) (h:=?_);(focus (clear ih ih' hclo hk W;first|(simp_all [zC6];done)|grind [zC6])))
end Go.Proofs.YtbcgenkegnmkhaaGreat.Ev
namespace Go.Proofs.YtbcgenkegnmkhaaGreat.Ev
open Go
set_option maxRecDepth 100000
set_option linter.unusedSimpArgs false
set_option linter.unusedVariables false
set_option maxHeartbeats 2000000
def zHy (a b:Int):Int:=if a<b then -1 else if b<a then 1 else 0
theorem qK5 (a:Int):oc.call 248 [.int .i64 a]=some (.bool false,[]):=by
 refine qD rfl cd248 rfl rfl rfl (by simp;rfl) (by simp;rfl) ?_
 refine wa_ (zB (w_ (a_ (h:=zC (e_ (h:=zA (wa_ (zB (w_ (m_ (h:=w_ (m_ (h:=w_ (bE (h:=w_ (a_ (h:=zC (e_ (h:=?_)))))))))))))))))))
 refine zA (zH (?_))
 all_goals (refine qZ (hr:=(zR rfl zO)) (h:=?_);(focus (first|(simp_all;done)|(simp_all<;>omega)|(simp_all<;>split<;>simp_all<;>omega))))
theorem qC2 (a b:Int):oc.call 219 [.int .i64 a,.int .i64 b]=some (.int .i64 (zHy a b),[]):=by
 refine qD rfl cd219 rfl rfl rfl (by simp;rfl) (by simp;rfl) ?_
 refine wa_ (zB (w_ (a_ (h:=zC (e_ (h:=zA (wa_ (zB (w_ (m_ (h:=w_ (ca (hc:=qK5 _) (h:=w_ (a_ (h:=zC (e_ (h:=zA (?_))))))))))))))))))
 refine wa_ (zB (w_ (m_ (h:=w_ (ca (hc:=qK5 _) (h:=w_ (a_ (h:=zC (e_ (h:=zA (wa_ (wa_ (zB (w_ (m_ (h:=zC (e_ (h:=?_))))))))))))))))))
 refine zA (?_)
 refine c_ (h1:=?_) (h2:=?_)
 rotate_right 1
 focus
  intro c1
  first
  | exact dn c1
  | (
   have d1:=c1;try simp at d1
   refine zD (?_)
   )
 rotate_right 1
 focus
  intro c1
  first
  | exact dn c1
  | (
   have d1:=c1;try simp at d1
   refine wa_ (wa_ (zB (w_ (m_ (h:=zC (e_ (h:=zA (?_))))))))
   refine c_ (h1:=?_) (h2:=?_)
   rotate_right 1
   focus
    intro c2
    first
    | exact dn c2
    | (
     have d2:=c2;try simp at d2
     refine zD (?_)
     )
   rotate_right 1
   focus
    intro c2
    first
    | exact dn c2
    | (
     have d2:=c2;try simp at d2
     refine wa_ (zB (w_ (a_ (h:=zC (e_ (h:=zA (zH (?_))))))))
     )
   all_goals first
   | refine zL ?_
   | (
    refine zA ?_
    refine wa_ (zB (w_ (a_ (h:=zC (e_ (h:=zA (zH (?_))))))))
    )
   )
 all_goals first
 | refine zL ?_
 | (
  refine zA ?_
  refine wa_ (wa_ (zB (w_ (m_ (h:=zC (e_ (h:=zA (?_))))))))
  refine c_ (h1:=?_) (h2:=?_)
  rotate_right 1
  focus
   intro c3
   first
   | exact dn c3
   | (
    have d3:=c3;try simp at d3
    refine zD (?_)
    )
  rotate_right 1
  focus
   intro c3
   first
   | exact dn c3
   | (
    have d3:=c3;try simp at d3
    refine wa_ (zB (w_ (a_ (h:=zC (e_ (h:=zA (zH (?_))))))))
    )
  all_goals first
  | refine zL ?_
  | (
   refine zA ?_
   refine wa_ (wa_ (zB (w_ (m_ (h:=w_ (m_ (h:=w_ (b_ (h:=zC (e_ (h:=zA (?_))))))))))))
   refine c_ (h1:=?_) (h2:=?_)
   rotate_right 1
   focus
    intro c4
    first
    | exact dn c4
    | (
     have d4:=c4;try simp at d4
     refine zD (?_)
     )
   rotate_right 1
   focus
    intro c4
    first
    | exact dn c4
    | (
     have d4:=c4;try simp at d4
     refine wa_ (zB (w_ (a_ (h:=zC (e_ (h:=zA (zH (?_))))))))
     )
   all_goals first
   | refine zL ?_
   | (
    refine zA ?_
    refine wa_ (wa_ (zB (w_ (m_ (h:=w_ (m_ (h:=w_ (b_ (h:=zC (e_ (h:=zA (?_))))))))))))
    refine c_ (h1:=?_) (h2:=?_)
    rotate_right 1
    focus
     intro c5
     first
     | exact dn c5
     | (
      have d5:=c5;try simp at d5
      refine zD (?_)
      )
    rotate_right 1
    focus
     intro c5
     first
     | exact dn c5
     | (
      have d5:=c5;try simp at d5
      refine wa_ (zB (w_ (a_ (h:=zC (e_ (h:=zA (zH (?_))))))))
      )
    all_goals first
    | refine zL ?_
    | (
     refine zA ?_
     refine wa_ (zB (w_ (a_ (h:=zC (e_ (h:=zA (zH (?_))))))))
     )
    )
   )
  )
 all_goals (refine qZ (hr:=(zR rfl zO)) (h:=?_);(focus (simp[zHy];grind)))
theorem l_or (a b:Int):∀i:Nat,(i≤2)→∀s,zI 1 (some [3,6,7,8]) s=⟨[(3,.int .i64 0),(6,.lst false 0 (ints [a,b])),(7,.int .i64 2),(8,.int .i64 i)],[],1⟩ →
 oc.loop 225 3 s=some (if([a,b].drop i).all (fun x=>decide (x=0))=true then(.exit 0,⟨[(3,.int .i64 0)],[],1⟩) else(.ret,⟨[(2,.int .i64 (if i=0∧a≠0 then a else b)),(3,.int .i64 0)],[],1⟩)):=by
 refine zW (σ:=Nat) (fun i=>2 - i) _ (fun i=>⟨[(3,.int .i64 0),(6,.lst false 0 (ints [a,b])),(7,.int .i64 2),(8,.int .i64 i)],[],1⟩) _ ?_
 intro i hi ih s hs
 refine qB qJm rfl rfl hs ?_
 refine wa_ (zB (w_ (b_ (h:=zC (e_ (h:=zA (wa_ (?_))))))))
 refine c_ (h1:=?_) (h2:=?_)
 rotate_right 1
 focus
  intro c1
  first
  | exact dn c1
  | (
   have d1:=c1;try simp at d1
   have:i=2:=(by omega);subst this
   refine zX (?_)
   )
 rotate_right 1
 focus
  intro c1
  first
  | exact dn c1
  | (
   have d1:=c1;try simp at d1
   have hw:=zV (i:=i) (by omega);obtain⟨x,hx,e1,g1⟩:=kU (l:=[a,b]) (i:=i) (by simp;omega)
   refine zD (?_)
   )
 all_goals first
 | refine zS ?_
 | (
  refine zA ?_
  refine wa_ (zG (wa_ (zB (w_ (x_ (h:=w_ (l_ (h:=w_ (a_ (h:=zC (e_ (h:=zA (wa_ (zB (w_ (m_ (h:=?_)))))))))))))))))
  refine w_ (m_ (h:=w_ (bE (h:=zC (e_ (h:=zA (?_)))))))
  refine c_ (h1:=?_) (h2:=?_)
  rotate_right 1
  focus
   intro c2
   first
   | exact dn c2
   | (
    have d2:=c2;try simp at d2
    refine zD (?_)
    )
  rotate_right 1
  focus
   intro c2
   first
   | exact dn c2
   | (
    have d2:=c2;try simp at d2
    refine wa_ (zB (w_ (m_ (h:=w_ (a_ (h:=zC (e_ (h:=zA (zH (?_))))))))))
    )
  all_goals first|refine zJ ?_|refine zY ?_
  all_goals first
  | refine zL ?_
  | (
   refine zA ?_
   refine zB (w_ (b_ (h:=w_ (m_ (h:=zC (e_ (h:=?_)))))))
   )
  )
 all_goals first
 | (refine(ih (i+1) (by omega) ?_ _ ?_).trans ?_;(focus (first|omega|(simp;done)|(simp;omega)));(focus (simp[zI,hw];done));(focus (rcases i with _|_|i<;>simp at * <;> grind)))
 | (apply zM (ex:=Ext.ret) 1 (some [2,3]);(focus (simp[zI];rfl));(focus (rcases i with _|_|i<;>simp at * <;> grind)))
 | (apply zM (ex:=(Ext.exit 0)) 1 (some [2,3]);(focus (simp[zI];rfl));(focus (simp)))
theorem e_or (a b:Int):oc.call 225 [.lst false 0 (ints [a,b])]=some (.int .i64 (if a=0 then b else a),[]):=by
 refine qD rfl qJm rfl rfl rfl (by simp;rfl) (by simp;rfl) ?_
 refine wa_ (zB (w_ (a_ (h:=zC (e_ (h:=zA (wa_ (zB (w_ (a_ (h:=zC (e_ (h:=zA (wa_ (wa_ (?_))))))))))))))))
 refine zB (w_ (m_ (h:=w_ (le (h:=w_ (m_ (h:=zC (e_ (h:=zA (zG (?_)))))))))))
 refine qR (l_or a b 0 (by omega) _ (by simp[zI])) ?_ ?_
 rotate_right 1
 focus
  intro c1
  skip
 rotate_right 1
 focus
  intro c1
  skip
 all_goals first|refine zY ?_|refine zT ?_
 all_goals first
 | refine zL ?_
 | (
  refine zA ?_
  refine wa_ (zB (w_ (m_ (h:=w_ (a_ (h:=zC (e_ (h:=zA (zH (?_))))))))))
  )
 all_goals (refine qZ (hr:=(zR rfl zO)) (h:=?_);(focus (simp at * <;> grind)))
def byC (a b:Ct):Int:=if zHy a.pl b.pl=0 then zHy a.ep b.ep else zHy a.pl b.pl
theorem zQg (a b:Ct):oc.call 181 [a.v,b.v]=some (.int .i64 (byC a b),[]):=by
 refine qD rfl cd181 rfl rfl rfl (by simp;rfl) (by simp;rfl) ?_
 refine wa_ (zB (w_ (bx (h:=w_ (bx (h:=w_ (a_ (h:=zC (e_ (h:=zA (wa_ (qE (y_ (f_ (h:=ax_ (h:=y_ (l_ (h:=ax_ (h:=y_ (f_ (h:=ax_ (h:=?_))))))))))))))))))))))
 refine y_ (l_ (h:=ax_ (h:=y_ (ca (hc:=qC2 _ _) (h:=ax_ (h:=y_ (f_ (h:=ax_ (h:=y_ (l_ (h:=ax_ (h:=y_ (f_ (h:=ax_ (h:=y_ (l_ (h:=ax_ (h:=y_ (ca (hc:=qC2 _ _) (h:=ax_ (h:=y_ (bs (h:=ax_ (h:=y_ (ca (hc:=e_or _ _) (h:=ax_ (h:=y_ (a_ (h:=ax_ (h:=zC (ed (h:=zA (?_)))))))))))))))))))))))))))))))))
 refine zH (?_)
 all_goals (refine qZ (hr:=(zR rfl zO)) (h:=?_);(focus (simp[byC])))
def zGn (a b:Ct):Bool:=if a.pl=b.pl then decide (a.ep<b.ep) else decide (a.pl<b.pl)
theorem zK2 (a b:Ct):(0≤byC a b)=(zGn a b=false):=by
 simp only[byC,zHy,zGn];grind
theorem qC1 {a b:Ct} (h:0≤byC a b):zGn a b=false:=by rw[zK2] at h;exact h
theorem qB1 {a b:Ct} (h:byC a b<0):zGn a b=true:=by
 cases h2:zGn a b with
 | true=>rfl
 | false=>rw[←zK2] at h2;omega
def yY (pl:List Nd) (c:Ct):Bool:=qE6 pl c.pl&&(inI c.ep 0 1000&&inI c.n (-1000000000000) 1000000000000)
theorem zUy (pl:List Nd) (c:Ct) (hp:pl.length<2000000):oc.call 180 [.lst false 0 (nds false 0 pl),c.v]=some (.bool (yY pl c),[]):=by
 refine qD rfl cd180 rfl rfl rfl (by simp;rfl) (by simp;rfl) ?_
 refine wa_ (zB (w_ (bx (h:=w_ (a_ (h:=zC (e_ (h:=zA (wa_ (zB (w_ (m_ (h:=w_ (f_ (h:=w_ (l_ (h:=w_ (ca (hc:=zT6 pl _ hp) (h:=?_)))))))))))))))))))
 refine w_ (m_ (h:=?_))
 refine gw_ (h1:=?_) (h2:=?_)
 rotate_right 1
 focus
  intro c1
  refine go_ (h:=go_ (h:=go_ (h:=?_)))
 rotate_right 1
 focus
  intro c1
  refine g_ (h:=w_ (f_ (h:=g_ (h:=w_ (l_ (h:=g_ (h:=w_ (ca (hc:=zDz _ _ _) (h:=?_)))))))))
 all_goals
  refine w_ (pk (h:=w_ (m_ (h:=?_))))
  refine gw_ (h1:=?_) (h2:=?_)
  rotate_right 1
  focus
   intro c2
   refine go_ (h:=go_ (h:=go_ (h:=?_)))
  rotate_right 1
  focus
   intro c2
   refine g_ (h:=w_ (f_ (h:=g_ (h:=w_ (l_ (h:=g_ (h:=w_ (ca (hc:=zDh _) (h:=?_)))))))))
  all_goals
   refine w_ (pk (h:=w_ (a_ (h:=zC (e_ (h:=?_))))))
 all_goals first
 | (
  refine zA ?_
  refine zH (?_)
  )
 all_goals (refine qZ (hr:=(zR rfl zO)) (h:=?_);(focus (simp[yY] at * <;> grind)))
def zN5 (pl:List Nd):Option Ct→List Ct→Int
 | _,[]=>0
 | p,c::r=>if yY pl c=false∨c.n=0 then 3 else if(p.elim false fun q=>!zGn q c)=true then 1 else zN5 pl (some c) r
def zEb (l:List Ct) (i:Nat):Option Ct:=if i=0 then none else l[i - 1]?
theorem zMn {l:List Ct} {i:Nat} {c:Ct} (h:l[i]? = some c):zEb l (i+1)=some c:=by simp[zEb,h]
theorem zR2 {l:List Ct} {i:Nat} (h0:0<i) (h:i≤l.length) (hi:i<2000000000):∃q,zEb l i=some q∧(cts l)[(IntKind.i64.wrap ((i:Int) - 1)).toNat]? = some q.v∧0≤IntKind.i64.wrap ((i:Int) - 1):=by
 have hw:IntKind.i64.wrap ((i:Int) - 1)=((i - 1:Nat):Int):=by rw[qH (by omega) (by omega)];omega
 have hlt:i - 1<l.length:=by omega
 refine⟨l[i - 1],?_,?_,by rw[hw];omega⟩
 ·unfold zEb;rw[if_neg (by omega)];simp[hlt]
 ·rw[hw];exact zYy hlt
def zPd (pl:List Nd) (l:List Ct):Int:=if 200<l.length then 2 else zN5 pl none l
theorem qGc {pl:List Nd} {p:Option Ct} {c:Ct} {r:List Ct} (h:yY pl c=false∨c.n=0):zN5 pl p (c::r)=3:=by rw[zN5,if_pos h]
theorem qFw {pl:List Nd} {p:Option Ct} {c:Ct} {r:List Ct} (h:¬(yY pl c=false∨c.n=0)) (h2:(p.elim false fun q=>!zGn q c)=true):zN5 pl p (c::r)=1:=by rw[zN5,if_neg h,if_pos h2]
theorem zYk {pl:List Nd} {p:Option Ct} {c:Ct} {r:List Ct} (h:¬(yY pl c=false∨c.n=0)) (h2:¬(p.elim false fun q=>!zGn q c)=true):zN5 pl p (c::r)=zN5 pl (some c) r:=by rw[zN5,if_neg h,if_neg h2]
theorem qK7 (pl:List Nd) (l:List Ct) (hp:pl.length<2000000) (hl:l.length≤200):∀i:Nat,(i≤l.length)→∀s,zI 2 (some [0,1,10,11,12]) s=⟨[(0,.lst false 0 (nds false 0 pl)),(1,.lst false 0 (cts l)),(10,.lst false 0 (cts l)),(11,.int .i64 l.length),(12,.int .i64 i)],[],2⟩ →
 oc.loop 117 4 s=some (if zN5 pl (zEb l i) (l.drop i)=0 then(.exit 0,⟨[],[],2⟩) else(.ret,⟨[(4,.int .i64 (zN5 pl (zEb l i) (l.drop i)))],[],2⟩)):=by
 refine zW (σ:=Nat) (fun i=>l.length - i) _ (fun i=>⟨[(0,.lst false 0 (nds false 0 pl)),(1,.lst false 0 (cts l)),(10,.lst false 0 (cts l)),(11,.int .i64 l.length),(12,.int .i64 i)],[],2⟩) _ ?_
 intro i hi ih s hs
 refine qB qIa rfl rfl hs ?_
 refine wa_ (zB (w_ (b_ (h:=zC (e_ (h:=zA (wa_ (?_))))))))
 refine c_ (h1:=?_) (h2:=?_)
 rotate_right 1
 focus
  intro c1
  first
  | exact dn c1
  | (
   have d1:=c1;try simp at d1
   refine zX (?_)
   )
 rotate_right 1
 focus
  intro c1
  first
  | exact dn c1
  | (
   have d1:=c1;try simp at d1
   have hw:=zV (i:=i) (by omega);obtain⟨c,hx,e1,g1⟩:=zDm (l:=l) (i:=i) (by omega);have hs1:=zMn hx
   refine zD (?_)
   )
 all_goals first
 | refine zS ?_
 | (
  refine zA ?_
  refine wa_ (zG (wa_ (zB (w_ (m_ (h:=w_ (x_ (h:=w_ (l_ (h:=w_ (al (h:=w_ (a_ (h:=w0 (s_ (h:=zC (e_ (h:=zA (?_)))))))))))))))))))
  refine wa_ (wa_ (zB (w_ (m_ (h:=w_ (l_ (h:=w_ (ca (hc:=zUy pl c hp) (h:=w_ (u_ (h:=w_ (m_ (h:=?_)))))))))))))
  refine gw_ (h1:=?_) (h2:=?_)
  rotate_right 1
  focus
   intro c2
   first
   | exact dn c2
   | (
    have d2:=c2;try simp at d2
    refine go_ (h:=go_ (h:=go_ (h:=?_)))
    )
  rotate_right 1
  focus
   intro c2
   first
   | exact dn c2
   | (
    have d2:=c2;try simp at d2
    refine g_ (h:=w_ (f_ (h:=g_ (h:=w_ (l_ (h:=g_ (h:=w_ (bE (h:=?_)))))))))
    )
  all_goals
   refine w_ (pk (h:=zC (e_ (h:=?_))))
  all_goals first
  | (
   refine zA ?_
   refine c_ (h1:=?_) (h2:=?_)
   rotate_right 1
   focus
    intro c3
    first
    | exact dn c3
    | (
     have d3:=c3;try simp at d3
     refine zD (?_)
     )
   rotate_right 1
   focus
    intro c3
    first
    | exact dn c3
    | (
     have d3:=c3;try simp at d3
     refine wa_ (zB (w_ (a_ (h:=zC (e_ (h:=zA (zH (?_))))))))
     )
   )
  all_goals first
  | refine zL ?_
  | (
   refine zA ?_
   refine wa_ (qE (y_ (m_ (h:=ax_ (h:=y_ (b_ (h:=ax_ (h:=y_ (m_ (h:=ax_ (h:=?_)))))))))))
   refine gw_ (h1:=?_) (h2:=?_)
   rotate_right 1
   focus
    intro c4
    first
    | exact dn c4
    | (
     have d4:=c4;try simp at d4
     refine gd_ (h:=gd_ (h:=gd_ (h:=gd_ (h:=gd_ (h:=gd_ (h:=gd_ (h:=gd_ (h:=?_))))))))
     )
   rotate_right 1
   focus
    intro c4
    first
    | exact dn c4
    | (
     have d4:=c4;try simp at d4
     obtain⟨q,hq,g2,g3⟩:=zR2 (l:=l) (i:=i) (by omega) (by omega) (by omega)
     refine g_ (h:=y_ (m_ (h:=ax_ (h:=g_ (h:=y_ (m_ (h:=ax_ (h:=g_ (h:=y_ (b_ (h:=ax_ (h:=g_ (h:=y_ (x_ (h:=ax_ (h:=g_ (h:=y_ (l_ (h:=ax_ (h:=g_ (h:=y_ (l_ (h:=ax_ (h:=g_ (h:=y_ (ca (hc:=zQg q c) (h:=ax_ (h:=g_ (h:=y_ (b_ (h:=ax_ (h:=?_))))))))))))))))))))))))))))))))
     )
   all_goals
    refine y_ (pk (h:=ax_ (h:=zC (ed (h:=?_)))))
   all_goals first
   | (
    refine zA ?_
    refine c_ (h1:=?_) (h2:=?_)
    rotate_right 1
    focus
     intro c5
     first
     | exact dn c5
     | (
      have d5:=c5;try simp at d5
      refine zD (?_)
      )
    rotate_right 1
    focus
     intro c5
     first
     | exact dn c5
     | (
      have d5:=c5;try simp at d5
      refine wa_ (zB (w_ (a_ (h:=zC (e_ (h:=zA (zH (?_))))))))
      )
    )
   )
  all_goals first|refine zJ ?_|refine zY ?_
  all_goals first
  | refine zL ?_
  | (
   refine zA ?_
   refine zB (w_ (b_ (h:=w_ (m_ (h:=zC (e_ (h:=?_)))))))
   )
  )
 all_goals first
 | (refine(ih (i+1) (by omega) ?_ _ ?_).trans ?_;(focus (first|omega|(simp;done)|(simp;omega)));(focus (simp[zI,hw];done));(focus (rw[hs1,e1,zYk (by simp[d2,d3]) (by first|(rw[hq];simp[qB1 d5];done)|(subst d4;simp[zEb]))])))
 | (apply zM (ex:=Ext.ret) 2 (some [4]);(focus (simp[zI];rfl));(focus (rw[e1,qGc (by first|exact .inl d2|exact .inr d3)];simp)))
 | (apply zM (ex:=Ext.ret) 2 (some [4]);(focus (simp[zI];rfl));(focus (rw[e1,qFw (by simp[d2,d3]) (by rw[hq];simp[qC1 d5])];simp)))
 | (apply zM (ex:=(Ext.exit 0)) 2 (some [4]);(focus (simp[zI];rfl));(focus (rw[List.drop_eq_nil_of_le (by omega)];simp[zN5])))
theorem zYs (pl:List Nd) (l:List Ct) (hp:pl.length<2000000):oc.call 117 [.lst false 0 (nds false 0 pl),.lst false 0 (cts l)]=some (.int .i64 (zPd pl l),[]):=by
 refine qD rfl qIa rfl rfl rfl (by simp;rfl) (by simp;rfl) ?_
 refine wa_ (zB (w_ (a_ (h:=zC (e_ (h:=zA (wa_ (wa_ (zB (w_ (m_ (h:=w_ (le (h:=w_ (b_ (h:=zC (e_ (h:=?_))))))))))))))))))
 refine zA (?_)
 refine c_ (h1:=?_) (h2:=?_)
 rotate_right 1
 focus
  intro c1
  first
  | exact dn c1
  | (
   have d1:=c1;try simp at d1
   refine zD (?_)
   )
 rotate_right 1
 focus
  intro c1
  first
  | exact dn c1
  | (
   have d1:=c1;try simp at d1
   refine wa_ (zB (w_ (a_ (h:=zC (e_ (h:=zA (zH (?_))))))))
   )
 all_goals first
 | refine zL ?_
 | (
  refine zA ?_
  refine wa_ (wa_ (zB (w_ (m_ (h:=w_ (le (h:=w_ (m_ (h:=zC (e_ (h:=zA (zG (?_)))))))))))))
  refine qR (qK7 pl l hp (by omega) 0 (by omega) _ (by simp[zI])) ?_ ?_
  rotate_right 1
  focus
   intro c2
   first
   | exact dn c2
   | (
    have d2:=c2;try simp at d2
    skip
    )
  rotate_right 1
  focus
   intro c2
   first
   | exact dn c2
   | (
    have d2:=c2;try simp at d2
    skip
    )
  all_goals first|refine zY ?_|refine zT ?_
  all_goals first
  | refine zL ?_
  | (
   refine zA ?_
   refine wa_ (zB (w_ (a_ (h:=zC (e_ (h:=zA (zH (?_))))))))
   )
  )
 all_goals (refine qZ (hr:=(zR rfl zO)) (h:=?_);(focus (simp[zPd,zEb] at * <;> grind)))
end Go.Proofs.YtbcgenkegnmkhaaGreat.Ev
namespace Go.Proofs.YtbcgenkegnmkhaaGreat.Ev
open Go
set_option maxRecDepth 100000
set_option linter.unusedSimpArgs false
set_option linter.unusedVariables false
set_option maxHeartbeats 2000000
theorem zGu {pl:List Nd}:∀{l:List Ct} {p:Option Ct},zN5 pl p l=0→∀c∈l,yY pl c=true∧c.n≠0
 | [],p,_,c,hc=>by cases hc
 | x::r,p,h,c,hc=>by
  unfold zN5 at h
  split at h
  ·cases h
  ·rename_i h1
   split at h
   ·cases h
   ·rcases List.mem_cons.1 hc with rfl|hc
    ·simp at h1;exact h1
    ·exact zGu h c hc
theorem zPy {pl:List Nd} {l:List Ct} (h:zPd pl l=0):∀c∈l,yY pl c=true∧c.n≠0:=by
 unfold zPd at h
 split at h
 ·cases h
 ·exact zGu h
theorem zVa {pl:List Nd} {c:Ct} (h:yY pl c=true):0≤c.pl∧c.pl<2 * pl.length∧0≤c.ep:=by
 simp[yY,qE6,inI] at h;omega
def zH2 (pl:List Nd) (to:Int) (c:Ct):Bool:=decide (0<c.n)&&zC6 pl to (2 * pl.length) c.pl
def frF (P:Ct→Bool):List Ct→Option Int→Option Int
 | [],o=>o
 | c::r,o=>frF P r (if P c=true∧(o.elim true fun e=>decide (c.ep<e))=true then some c.ep else o)
theorem frF_t {P:Ct→Bool} {c:Ct} {r:List Ct} {o:Option Int} (h:P c=true) (h2:(o.elim true fun e=>decide (c.ep<e))=true):frF P (c::r) o=frF P r (some c.ep):=by rw[frF,if_pos ⟨h,h2⟩]
theorem frF_f {P:Ct→Bool} {c:Ct} {r:List Ct} {o:Option Int} (h:¬(P c=true∧(o.elim true fun e=>decide (c.ep<e))=true)):frF P (c::r) o=frF P r o:=by rw[frF,if_neg h]
theorem l_frI (pl:List Nd) (to:Int) (l:List Ct) (hp:pl.length<2000000) (hk:okN pl) (W:Wf pl) (hl:l.length<2000000) (hr:∀c∈l,yY pl c=true∧c.n≠0):∀x:Nat×(Option Int),(x.1≤l.length)→∀s,zI 3 (some [0,2,8,9,12,13,14]) s=⟨[(0,.lst false 0 (nds false 0 pl)),(2,.int .i64 to),(8,.int .i64 (x.2.getD 0)),(9,.bool x.2.isSome),(12,.lst false 0 (cts l)),(13,.int .i64 l.length),(14,.int .i64 x.1)],[],3⟩ →
 oc.loop 76 3 s=some (.exit 0,⟨[(8,.int .i64 ((frF (zH2 pl to) (l.drop x.1) x.2).getD 0)),(9,.bool (frF (zH2 pl to) (l.drop x.1) x.2).isSome)],[],3⟩):=by
 refine zW (σ:=Nat×(Option Int)) (fun x=>l.length - x.1) _ (fun x=>⟨[(0,.lst false 0 (nds false 0 pl)),(2,.int .i64 to),(8,.int .i64 (x.2.getD 0)),(9,.bool x.2.isSome),(12,.lst false 0 (cts l)),(13,.int .i64 l.length),(14,.int .i64 x.1)],[],3⟩) _ ?_
 rintro⟨i,o⟩ hi ih s hs
 simp only at hi
 refine qB cd76 rfl rfl hs ?_
 refine wa_ (zB (w_ (b_ (h:=zC (e_ (h:=zA (wa_ (?_))))))))
 refine c_ (h1:=?_) (h2:=?_)
 rotate_right 1
 focus
  intro c1
  first
  | exact dn c1
  | (
   have d1:=c1;try simp at d1
   refine zX (?_)
   )
 rotate_right 1
 focus
  intro c1
  first
  | exact dn c1
  | (
   have d1:=c1;try simp at d1
   have hw:=zV (i:=i) (by omega);obtain⟨c,hx,e1,g1⟩:=zDm (l:=l) (i:=i) (by omega);obtain⟨b1,b2,b3⟩:=zVa (hr c (List.mem_of_getElem? hx)).1
   refine zD (?_)
   )
 all_goals first
 | refine zS ?_
 | (
  refine zA ?_
  refine wa_ (zG (wa_ (zB (w_ (x_ (h:=w_ (l_ (h:=w_ (al (h:=w0 (s_ (h:=zC (e_ (h:=zA (wa_ (zB (?_)))))))))))))))))
  refine w_ (f_ (h:=w_ (l_ (h:=w_ (b_ (h:=w_ (m_ (h:=?_))))))))
  refine gw_ (h1:=?_) (h2:=?_)
  rotate_right 1
  focus
   intro c2
   first
   | exact dn c2
   | (
    have d2:=c2;try simp at d2
    refine go_ (h:=go_ (h:=go_ (h:=go_ (h:=go_ (h:=?_)))))
    )
  rotate_right 1
  focus
   intro c2
   first
   | exact dn c2
   | (
    have d2:=c2;try simp at d2
    refine g_ (h:=w_ (m_ (h:=g_ (h:=w_ (f_ (h:=g_ (h:=w_ (l_ (h:=g_ (h:=w_ (m_ (h:=g_ (h:=w_ (ca (hc:=qDh pl to hp hk W (2 * pl.length) c.pl (by omega) (by omega) (by omega)) (h:=?_)))))))))))))))
    )
  all_goals
   refine w_ (pk (h:=w_ (m_ (h:=?_))))
   refine gw_ (h1:=?_) (h2:=?_)
   rotate_right 1
   focus
    intro c3
    first
    | exact dn c3
    | (
     have d3:=c3;try simp at d3
     refine go_ (h:=go_ (h:=go_ (h:=?_)))
     )
   rotate_right 1
   focus
    intro c3
    first
    | exact dn c3
    | (
     have d3:=c3;try simp at d3
     refine g_ (h:=w_ (m_ (h:=g_ (h:=w_ (u_ (h:=g_ (h:=w_ (m_ (h:=?_)))))))))
     )
   all_goals
    first
    | (
     skip
     refine goN (h:=goN (h:=goN (h:=goN (h:=?_))))
     )
    | (
     refine gw_ (h1:=?_) (h2:=?_)
     rotate_right 1
     focus
      intro c4
      first
      | exact dn c4
      | (
       have d4:=c4;try simp at d4
       refine go_ (h:=go_ (h:=go_ (h:=go_ (h:=?_))))
       )
     rotate_right 1
     focus
      intro c4
      first
      | exact dn c4
      | (
       have d4:=c4;try simp at d4
       refine g_ (h:=w_ (f_ (h:=g_ (h:=w_ (l_ (h:=g_ (h:=w_ (m_ (h:=g_ (h:=w_ (b_ (h:=?_))))))))))))
       )
     )
    all_goals
     first
     | (
      skip
      refine g_ (h:=w_ (pk (h:=?_)))
      )
     | (
      skip
      refine go_ (h:=?_)
      )
     all_goals
      refine w_ (pk (h:=zC (e_ (h:=?_))))
  all_goals first
  | (
   refine zA ?_
   refine c_ (h1:=?_) (h2:=?_)
   rotate_right 1
   focus
    intro c5
    first
    | exact dn c5
    | (
     have d5:=c5;try simp at d5
     refine zD (?_)
     )
   rotate_right 1
   focus
    intro c5
    first
    | exact dn c5
    | (
     have d5:=c5;try simp at d5
     refine zB (w_ (f_ (h:=w_ (l_ (h:=w_ (a_ (h:=w_ (a_ (h:=zC (e_ (h:=?_)))))))))))
     )
   )
  all_goals refine zJ ?_
  all_goals first
  | (
   refine zA ?_
   refine zB (w_ (b_ (h:=w_ (m_ (h:=zC (e_ (h:=?_)))))))
   )
  )
 all_goals first
 | (refine(ih ((i+1,some c.ep)) (by simp;omega) ?_ _ ?_).trans ?_;(focus (first|omega|(simp;done)|(simp;omega)));(focus (simp[zI,hw];done));(focus (simp only[e1];rw[frF_t (by simp[zH2,d2,d3]) (by first|(subst d4;rfl)|(obtain⟨e,rfl⟩:=Option.isSome_iff_exists.1 d4;simp at d5 ⊢;omega))])))
 | (refine(ih ((i+1,o)) (by simp;omega) ?_ _ ?_).trans ?_;(focus (first|omega|(simp;done)|(simp;omega)));(focus (simp[zI,hw];done));(focus (simp only[e1];rw[frF_f (by first|(simp[zH2,Int.not_lt.2 d2];done)|(simp[zH2,d3];done)|(obtain⟨e,rfl⟩:=Option.isSome_iff_exists.1 d4;simp at d5 ⊢;intro _;omega))])))
 | (apply zM (ex:=(Ext.exit 0)) 3 (some [8,9]);(focus (simp[zI];rfl));(focus (simp only[List.drop_eq_nil_of_le (show l.length≤i by omega),frF])))
def frN (pl:List Nd) (l:List Ct) (to:Int):Option Int:=frF (zH2 pl to) l none
theorem qFi (pl:List Nd) (l:List Ct) (to:Int) (hp:pl.length<2000000) (hk:okN pl) (W:Wf pl) (hl:l.length<2000000) (hr:∀c∈l,yY pl c=true∧c.n≠0):oc.call 76 [.lst false 0 (nds false 0 pl),.lst false 0 (cts l),.int .i64 to]=some (.tup [.int .i64 ((frN pl l to).getD 0),.bool (frN pl l to).isSome],[]):=by
 refine qD rfl cd76 rfl rfl rfl (by simp;rfl) (by simp;rfl) ?_
 refine wa_ (zB (w_ (a_ (h:=w_ (a_ (h:=zC (e_ (h:=zA (wa_ (zB (w_ (a_ (h:=w_ (a_ (h:=zC (e_ (h:=zA (?_))))))))))))))))))
 refine wa_ (wa_ (zB (w_ (m_ (h:=w_ (le (h:=w_ (m_ (h:=zC (e_ (h:=zA (zG (?_)))))))))))))
 refine qF (l_frI pl to l hp hk W hl hr (0,none) (by simp) _ (by simp[zI])) ?_
 refine zT (zA (wa_ (zB (w_ (m_ (h:=w_ (m_ (h:=w_ (a_ (h:=w_ (a_ (h:=zC (e_ (h:=zA (zH (?_))))))))))))))))
 all_goals (refine qZ (hr:=(zR rfl (zR rfl zO))) (h:=?_);(focus (simp[frN])))
def zVs (r:List Int):Int:=if 4<r.length then 2 else if r.all (fun c=>inI c (-1000000000) 1000000000)=true then 0 else 3
theorem qKa (r:List Int) (hr:r.length≤4):∀i:Nat,(i≤r.length)→∀s,zI 1 (some [8,9,10]) s=⟨[(8,.lst false 0 (ints r)),(9,.int .i64 r.length),(10,.int .i64 i)],[],1⟩ →
 oc.loop 55 4 s=some (if(r.drop i).all (fun c=>inI c (-1000000000) 1000000000)=true then(.exit 0,⟨[],[],1⟩) else(.ret,⟨[(2,.int .i64 3)],[],1⟩)):=by
 refine zW (σ:=Nat) (fun i=>r.length - i) _ (fun i=>⟨[(8,.lst false 0 (ints r)),(9,.int .i64 r.length),(10,.int .i64 i)],[],1⟩) _ ?_
 intro i hi ih s hs
 refine qB cd55 rfl rfl hs ?_
 refine wa_ (zB (w_ (b_ (h:=zC (e_ (h:=zA (wa_ (?_))))))))
 refine c_ (h1:=?_) (h2:=?_)
 rotate_right 1
 focus
  intro c1
  first
  | exact dn c1
  | (
   have d1:=c1;try simp at d1
   refine zX (?_)
   )
 rotate_right 1
 focus
  intro c1
  first
  | exact dn c1
  | (
   have d1:=c1;try simp at d1
   have hw:=zV (i:=i) (by omega);obtain⟨x,hx,e1,g1⟩:=kU (l:=r) (i:=i) (by omega)
   refine zD (?_)
   )
 all_goals first
 | refine zS ?_
 | (
  refine zA ?_
  refine wa_ (zG (wa_ (zB (w_ (x_ (h:=w_ (l_ (h:=w_ (a_ (h:=zC (e_ (h:=zA (wa_ (zB (w_ (m_ (h:=?_)))))))))))))))))
  refine w_ (ca (hc:=zDz _ _ _) (h:=w_ (u_ (h:=zC (e_ (h:=zA (?_)))))))
  refine c_ (h1:=?_) (h2:=?_)
  rotate_right 1
  focus
   intro c2
   first
   | exact dn c2
   | (
    have d2:=c2;try simp at d2
    refine zD (?_)
    )
  rotate_right 1
  focus
   intro c2
   first
   | exact dn c2
   | (
    have d2:=c2;try simp at d2
    refine wa_ (zB (w_ (a_ (h:=zC (e_ (h:=zA (zH (?_))))))))
    )
  all_goals first|refine zJ ?_|refine zY ?_
  all_goals first
  | refine zL ?_
  | (
   refine zA ?_
   refine zB (w_ (b_ (h:=w_ (m_ (h:=zC (e_ (h:=?_)))))))
   )
  )
 all_goals first
 | (refine(ih (i+1) (by omega) ?_ _ ?_).trans ?_;(focus (first|omega|(simp;done)|(simp;omega)));(focus (simp[zI,hw];done));(focus (rw[e1];simp[d2])))
 | (apply zM (ex:=Ext.ret) 1 (some [2]);(focus (simp[zI];rfl));(focus (rw[e1];simp[d2])))
 | (apply zM (ex:=(Ext.exit 0)) 1 (some [2]);(focus (simp[zI];rfl));(focus (rw[List.drop_eq_nil_of_le (by omega)];simp)))
theorem qK3 (r:List Int) (h:r.length<2000000):oc.call 55 [.lst false 0 (ints r)]=some (.int .i64 (zVs r),[]):=by
 refine qD rfl cd55 rfl rfl rfl (by simp;rfl) (by simp;rfl) ?_
 refine wa_ (zB (w_ (a_ (h:=zC (e_ (h:=zA (wa_ (wa_ (zB (w_ (m_ (h:=w_ (le (h:=w_ (b_ (h:=zC (e_ (h:=?_))))))))))))))))))
 refine zA (?_)
 refine c_ (h1:=?_) (h2:=?_)
 rotate_right 1
 focus
  intro c1
  first
  | exact dn c1
  | (
   have d1:=c1;try simp at d1
   refine zD (?_)
   )
 rotate_right 1
 focus
  intro c1
  first
  | exact dn c1
  | (
   have d1:=c1;try simp at d1
   refine wa_ (zB (w_ (a_ (h:=zC (e_ (h:=zA (zH (?_))))))))
   )
 all_goals first
 | refine zL ?_
 | (
  refine zA ?_
  refine wa_ (wa_ (zB (w_ (m_ (h:=w_ (le (h:=w_ (m_ (h:=zC (e_ (h:=zA (zG (?_)))))))))))))
  refine qR (qKa r (by omega) 0 (by omega) _ (by simp[zI])) ?_ ?_
  rotate_right 1
  focus
   intro c2
   first
   | exact dn c2
   | (
    have d2:=c2;try simp at d2
    skip
    )
  rotate_right 1
  focus
   intro c2
   first
   | exact dn c2
   | (
    have d2:=c2;try simp at d2
    skip
    )
  all_goals first|refine zY ?_|refine zT ?_
  all_goals first
  | refine zL ?_
  | (
   refine zA ?_
   refine wa_ (zB (w_ (a_ (h:=zC (e_ (h:=zA (zH (?_))))))))
   )
  )
 all_goals (refine qZ (hr:=(zR rfl zO)) (h:=?_);(focus (simp[zVs];grind)))
def yS (pl:List Nd):List Int:=(jS pl).1
theorem zH4 {pl:List Nd} (hk:okN pl) (hp:pl.length<2000000):∀(r:List Nd) (ws:List Int),r=pl.drop ws.length→zV7 pl ws→(∀k:Nat,k<ws.length→1≤at0 ws k∧at0 ws k≤4)→(yG pl r ws).2=0→zV7 pl (yG pl r ws).1∧(yG pl r ws).1.length=max pl.length ws.length∧∀k:Nat,k<(yG pl r ws).1.length→1≤at0 (yG pl r ws).1 k∧at0 (yG pl r ws).1 k≤4
 | [],ws,e,G,hb,_=>by
  have:pl.length≤ws.length:=by
   have:=congrArg List.length e;simp at this;omega
  unfold yG
  exact⟨G,by simp;omega,hb⟩
 | d::r,ws,e,G,hb,h=>by
  unfold yG at h ⊢
  have hx:pl[ws.length]? = some d:=by
   have:=congrArg (fun l=>l[0]?) e
   simpa using this.symm
  have hlt:=(List.getElem?_eq_some_iff.mp hx).1
  have hr:r=pl.drop (ws.length+1):=by
   have:=congrArg List.tail e
   simpa [List.tail_drop] using this
  split at h
  ·rename_i hs
   rw[if_pos hs]
   have hf:=zM2 (by omega) hs
   have hw:1≤yE d ws∧yE d ws≤4:=by
    obtain⟨f1,f2⟩:=hf
    have ha:d.op≠1→1≤at0 ws d.a∧at0 ws d.a≤4:=fun ho=>by
     have:=f1 ho
     have:=hb d.a.toNat (by omega)
     rwa [Int.toNat_of_nonneg (by omega)] at this
    have hb2:d.op=4∨d.op=6→1≤at0 ws d.b∧at0 ws d.b≤4:=fun ho=>by
     have:=f2 ho
     have:=hb d.b.toNat (by omega)
     rwa [Int.toNat_of_nonneg (by omega)] at this
    have h0:zEv d ws=0:=by
     unfold zB4 at hs
     split at hs
     ·cases hs
     ·split at hs
      ·cases hs
      ·split at hs
       ·cases hs
       ·exact hs
    unfold zEv at h0
    unfold yE
    by_cases o1:d.op=1
    ·rw[if_pos o1] at h0 ⊢
     simp[inI] at h0;omega
    ·rw[if_neg o1] at h0 ⊢
     have ha:=ha o1
     by_cases o2:d.op=2
     ·rw[if_neg (by omega),if_neg (by omega),if_neg (by simp[inI];omega)];exact ha
     ·rw[if_neg o2] at h0
      by_cases o3:d.op=3
      ·rw[if_pos o3] at h0 ⊢
       have:inI d.cells.length 1 4=true:=by
        cases hi:inI d.cells.length 1 4 with
        | true=>rfl
        | false=>rw[hi] at h0;simp at h0
       simp[inI] at this;omega
      ·rw[if_neg o3] at h0 ⊢
       by_cases o4:d.op=4
       ·rw[if_neg (by omega),if_neg (by simp[inI];omega)];exact ha
       ·rw[if_neg o4] at h0
        by_cases o6:d.op=6
        ·have hb2:=hb2 (.inr o6)
         rw[if_pos o6] at h0 ⊢
         have w1:IntKind.i64.wrap (at0 ws d.a+at0 ws d.b)=at0 ws d.a+at0 ws d.b:=qH (by omega) (by omega)
         have hi:inI d.col 1 (min (at0 ws d.a) (at0 ws d.b))=true:=by
          cases hi:inI d.col 1 (min (at0 ws d.a) (at0 ws d.b)) with
          | true=>rfl
          | false=>rw[hi] at h0;simp at h0
         rw[hi,if_pos rfl] at h0
         have hle:¬4<yE d ws:=fun hc=>by rw[if_pos hc] at h0;cases h0
         unfold yE at hle
         rw[if_neg o1,if_neg o3,if_pos o6] at hle
         simp only[inI,Bool.and_eq_true,decide_eq_true_eq] at hi
         have w2:IntKind.i64.wrap (at0 ws d.a+at0 ws d.b - d.col)=at0 ws d.a+at0 ws d.b - d.col:=qH (by omega) (by omega)
         rw[w1,w2] at hle ⊢
         omega
        ·rw[if_neg o6] at h0 ⊢
         by_cases o7:d.op=7
         ·rw[if_pos o7] at h0
          have hi:inI d.col 0 (min (at0 ws d.a) 3)=true:=by
           cases hi:inI d.col 0 (min (at0 ws d.a) 3) with
           | true=>rfl
           | false=>rw[hi] at h0;simp at h0
          simp only[inI,Bool.and_eq_true,decide_eq_true_eq] at hi
          rw[if_pos (by simp[inI];omega),qH (by omega) (by omega)];omega
         ·rw[if_neg o7] at h0
          by_cases o8:8≤d.op∧d.op≤10
          ·rw[if_pos o8] at h0
           have hi:inI d.col 0 (IntKind.i64.wrap (at0 ws d.a - 1))=true:=by
            cases hi:inI d.col 0 (IntKind.i64.wrap (at0 ws d.a - 1)) with
            | true=>rfl
            | false=>rw[hi] at h0;simp at h0
           rw[qH (by omega) (by omega)] at hi
           simp only[inI,Bool.and_eq_true,decide_eq_true_eq] at hi
           rw[if_pos (by simp[inI];omega),qH (by omega) (by omega)];omega
          ·rw[if_neg (by simp[inI];omega)];exact ha
   have key:=zH4 hk hp r (ws++[yE d ws]) (by simpa using hr) (zJr hk (by omega) G hx hs) (by
    intro k hk2
    by_cases hc:k<ws.length
    ·have:=hb k hc
     simp only[at0,List.getD_eq_getElem?_getD,List.getElem?_append_left (show(k:Int).toNat<ws.length by omega)] at this ⊢
     exact this
    ·have:k=ws.length:=by simp at hk2;omega
     subst this
     simpa [at0,List.getD_eq_getElem?_getD] using hw) h
   refine⟨key.1,?_,key.2.2⟩
   rw[key.2.1];simp;omega
  ·exact absurd h ‹_›
theorem zC0 {pl:List Nd} (hk:okN pl) (h:(jS pl).2=0):zV7 pl (yS pl)∧(yS pl).length=pl.length∧(∀k:Nat,k<pl.length→1≤at0 (yS pl) k∧at0 (yS pl) k≤4)∧1≤pl.length∧pl.length≤8:=by
 unfold yS
 unfold jS at h ⊢
 split at h
 ·cases h
 ·rename_i hl
  rw[if_neg hl]
  simp[inI] at hl
  split at h
  ·rename_i h0
   rw[if_pos h0]
   have:=zH4 hk (by omega) pl [] rfl (zOt pl) (fun k hk=>by simp at hk) h0
   have hlen:(yG pl pl []).1.length=pl.length:=by rw[this.2.1];simp
   exact⟨this.1,hlen,fun k hk2=>this.2.2 k (by omega),by omega,by omega⟩
  ·exact absurd h ‹_›
end Go.Proofs.YtbcgenkegnmkhaaGreat.Ev
namespace Go.Proofs.YtbcgenkegnmkhaaGreat.Ev
open Go
set_option maxRecDepth 100000
set_option linter.unusedSimpArgs false
set_option linter.unusedVariables false
set_option maxHeartbeats 2000000
theorem zWx {pl:List Nd} {a:Int} (h0:0≤a) (h1:a<pl.length):∃d,pl[a.toNat]? = some d∧(nds false 0 pl)[a.toNat]? = some (d.v false 0):=by
 have:a.toNat<pl.length:=by omega
 exact⟨pl[a.toNat],by simp[this],by simp[nds,this]⟩
def zLo (pl:List Nd) (a:Int):Nd:=(pl[a.toNat]?).getD ⟨0,0,0,0,0,0,[]⟩
theorem zBs {pl:List Nd} {a:Int} {d:Nd} (h:pl[a.toNat]? = some d):zLo pl a=d:=by simp[zLo,h]
def zRk (pl:List Nd) (a:Int):Int:=if(jS pl).2=0 then(if inI a 0 ((pl.length:Int) - 1)=true then 0 else 3) else(jS pl).2
theorem zPi {pl:List Nd} {a:Int} (h:zRk pl a=0):(jS pl).2=0∧0≤a∧a<pl.length:=by
 unfold zRk at h;split at h
 ·split at h
  ·rename_i h1 h2;simp[inI] at h2;exact⟨h1,by omega,by omega⟩
  ·cases h
 ·exact absurd h ‹_›
theorem qLd {pl:List Nd} (hk:okN pl) (h:(jS pl).2=0) {a:Int} {d:Nd} (h0:0≤a) (hd:pl[a.toNat]? = some d):(1≤d.op∧d.op≤12)∧(d.op≠1→0≤d.a∧d.a<a)∧(d.op=4∨d.op=6→0≤d.b∧d.b<a):=by
 have hw:=zRo h a.toNat d hd
 have:∀(r:List Nd) (ws:List Int),r=pl.drop ws.length→(yG pl r ws).2=0→∀(n:Nat) d,ws.length≤n→pl[n]? = some d→1≤d.op∧d.op≤12:=by
  intro r
  induction r with
  | nil =>
   intro ws e _ n d hn hd
   have:pl.length≤ws.length:=by have:=congrArg List.length e;simp at this;omega
   have:=(List.getElem?_eq_some_iff.mp hd).1
   omega
  | cons x r ih =>
   intro ws e h n d hn hd
   unfold yG at h
   have hx:pl[ws.length]? = some x:=by
    have:=congrArg (fun l=>l[0]?) e
    simpa using this.symm
   have hr:r=pl.drop (ws.length+1):=by
    have:=congrArg List.tail e
    simpa [List.tail_drop] using this
   split at h
   ·rename_i hs
    by_cases hc:n=ws.length
    ·subst hc
     rw[hx] at hd
     cases hd
     unfold zB4 at hs
     split at hs
     ·cases hs
     ·rename_i h1
      simp[inI] at h1;omega
    ·exact ih (ws++[yE x ws]) (by simpa using hr) h n d (by simp;omega) hd
   ·exact absurd h ‹_›
 have h2:(yG pl pl []).2=0:=by
  unfold jS at h
  split at h
  ·cases h
  ·split at h
   ·exact ‹_›
   ·exact absurd h ‹_›
 have h3:=this pl [] rfl h2 a.toNat d (by simp) hd
 obtain⟨f1,f2⟩:=hw
 exact⟨h3,fun ho=>by have:=f1 ho;omega,fun ho=>by have:=f2 ho;omega⟩
def zL4 (d:Nd):Bool:=decide (1≤d.op∧d.op≤5)
theorem qJz (a:Int):oc.call 182 [.int .i64 a]=some (.bool (inI a 1 5||decide (a=12)),[]):=by
 refine qD rfl cd182 rfl rfl rfl (by simp;rfl) (by simp;rfl) ?_
 refine wa_ (zB (w_ (a_ (h:=zC (e_ (h:=zA (wa_ (wa_ (zB (w_ (m_ (h:=zC (e_ (h:=zA (zG (?_))))))))))))))))
 refine wa_ (wa_ (zB (w_ (bE (h:=w_ (a_ (h:=zC (e_ (h:=zA (?_))))))))))
 refine c_ (h1:=?_) (h2:=?_)
 rotate_right 1
 focus
  intro c1
  first
  | exact dn c1
  | (
   have d1:=c1;try simp at d1
   refine wa_ (zB (w_ (bE (h:=w_ (a_ (h:=zC (e_ (h:=zA (?_)))))))))
   refine c_ (h1:=?_) (h2:=?_)
   rotate_right 1
   focus
    intro c2
    first
    | exact dn c2
    | (
     have d2:=c2;try simp at d2
     refine wa_ (zB (w_ (bE (h:=w_ (a_ (h:=zC (e_ (h:=zA (?_)))))))))
     refine c_ (h1:=?_) (h2:=?_)
     rotate_right 1
     focus
      intro c3
      first
      | exact dn c3
      | (
       have d3:=c3;try simp at d3
       refine wa_ (zB (w_ (bE (h:=w_ (a_ (h:=zC (e_ (h:=zA (?_)))))))))
       refine c_ (h1:=?_) (h2:=?_)
       rotate_right 1
       focus
        intro c4
        first
        | exact dn c4
        | (
         have d4:=c4;try simp at d4
         refine wa_ (zB (w_ (bE (h:=w_ (a_ (h:=zC (e_ (h:=zA (?_)))))))))
         refine c_ (h1:=?_) (h2:=?_)
         rotate_right 1
         focus
          intro c5
          first
          | exact dn c5
          | (
           have d5:=c5;try simp at d5
           refine zB (w_ (bE (h:=w_ (a_ (h:=zC (e_ (h:=?_)))))))
           )
         rotate_right 1
         focus
          intro c5
          first
          | exact dn c5
          | (
           have d5:=c5;try simp at d5
           refine zD (?_)
           )
         )
       rotate_right 1
       focus
        intro c4
        first
        | exact dn c4
        | (
         have d4:=c4;try simp at d4
         refine zD (?_)
         )
       )
     rotate_right 1
     focus
      intro c3
      first
      | exact dn c3
      | (
       have d3:=c3;try simp at d3
       refine zD (?_)
       )
     )
   rotate_right 1
   focus
    intro c2
    first
    | exact dn c2
    | (
     have d2:=c2;try simp at d2
     refine zD (?_)
     )
   )
 rotate_right 1
 focus
  intro c1
  first
  | exact dn c1
  | (
   have d1:=c1;try simp at d1
   refine zD (?_)
   )
 all_goals first
 | (
  refine zA ?_
  refine c_ (h1:=?_) (h2:=?_)
  rotate_right 1
  focus
   intro c6
   first
   | exact dn c6
   | (
    have d6:=c6;try simp at d6
    refine zD (?_)
    )
  rotate_right 1
  focus
   intro c6
   first
   | exact dn c6
   | (
    have d6:=c6;try simp at d6
    refine wa_ (zB (w_ (a_ (h:=zC (e_ (h:=zA (zH (?_))))))))
    )
  )
 all_goals first|refine zJ ?_|refine zY ?_
 all_goals first
 | refine zL ?_
 | (
  refine zA ?_
  refine wa_ (zB (w_ (a_ (h:=zC (e_ (h:=zA (zH (?_))))))))
  )
 all_goals (refine qZ (hr:=(zR rfl zO)) (h:=?_);(focus (simp[inI];omega)))
theorem zOd (d:Nd):oc.call 119 [d.v false 0]=some (.bool (zL4 d),[]):=by
 refine qD rfl cd119 rfl rfl rfl (by simp;rfl) (by simp;rfl) ?_
 refine wa_ (zB (w_ (bx (h:=w_ (a_ (h:=zC (e_ (h:=zA (wa_ (zB (w_ (f_ (h:=w_ (l_ (h:=w_ (ca (hc:=qJz _) (h:=w_ (m_ (h:=?_)))))))))))))))))))
 refine gw_ (h1:=?_) (h2:=?_)
 rotate_right 1
 focus
  intro c1
  refine go_ (h:=go_ (h:=go_ (h:=?_)))
 rotate_right 1
 focus
  intro c1
  refine g_ (h:=w_ (f_ (h:=g_ (h:=w_ (l_ (h:=g_ (h:=w_ (bE (h:=?_)))))))))
 all_goals
  refine w_ (pk (h:=w_ (a_ (h:=zC (e_ (h:=?_))))))
 all_goals first
 | (
  refine zA ?_
  refine zH (?_)
  )
 all_goals (refine qZ (hr:=(zR rfl zO)) (h:=?_);(focus (simp[zL4,inI] at * <;> grind)))
end Go.Proofs.YtbcgenkegnmkhaaGreat.Ev
namespace Go.Proofs.YtbcgenkegnmkhaaGreat.Ev
open Go
set_option maxRecDepth 100000
set_option linter.unusedSimpArgs false
set_option linter.unusedVariables false
set_option maxHeartbeats 2000000
def zR9:List Int→List Int→Int
 | [],[]=>0
 | [],_::_=>-1
 | _::_,[]=>1
 | a::r,b::s=>if a<b then -1 else if b<a then 1 else zR9 r s
theorem zYc (a:Int):oc.call 249 [.int .i64 a]=some (.bool false,[]):=by
 refine qD rfl cd249 rfl rfl rfl (by simp;rfl) (by simp;rfl) ?_
 refine wa_ (zB (w_ (a_ (h:=zC (e_ (h:=zA (wa_ (zB (w_ (m_ (h:=w_ (m_ (h:=w_ (bE (h:=w_ (a_ (h:=zC (e_ (h:=?_)))))))))))))))))))
 refine zA (zH (?_))
 all_goals (refine qZ (hr:=(zR rfl zO)) (h:=?_);(focus (first|(simp_all;done)|(simp_all<;>omega)|(simp_all<;>split<;>simp_all<;>omega))))
theorem qH3 (a b:Int):oc.call 220 [.int .i64 a,.int .i64 b]=some (.int .i64 (zHy a b),[]):=by
 refine qD rfl cd220 rfl rfl rfl (by simp;rfl) (by simp;rfl) ?_
 refine wa_ (zB (w_ (a_ (h:=zC (e_ (h:=zA (wa_ (zB (w_ (m_ (h:=w_ (ca (hc:=zYc _) (h:=w_ (a_ (h:=zC (e_ (h:=zA (?_))))))))))))))))))
 refine wa_ (zB (w_ (m_ (h:=w_ (ca (hc:=zYc _) (h:=w_ (a_ (h:=zC (e_ (h:=zA (wa_ (wa_ (zB (w_ (m_ (h:=zC (e_ (h:=?_))))))))))))))))))
 refine zA (?_)
 refine c_ (h1:=?_) (h2:=?_)
 rotate_right 1
 focus
  intro c1
  first
  | exact dn c1
  | (
   have d1:=c1;try simp at d1
   refine zD (?_)
   )
 rotate_right 1
 focus
  intro c1
  first
  | exact dn c1
  | (
   have d1:=c1;try simp at d1
   refine wa_ (wa_ (zB (w_ (m_ (h:=zC (e_ (h:=zA (?_))))))))
   refine c_ (h1:=?_) (h2:=?_)
   rotate_right 1
   focus
    intro c2
    first
    | exact dn c2
    | (
     have d2:=c2;try simp at d2
     refine zD (?_)
     )
   rotate_right 1
   focus
    intro c2
    first
    | exact dn c2
    | (
     have d2:=c2;try simp at d2
     refine wa_ (zB (w_ (a_ (h:=zC (e_ (h:=zA (zH (?_))))))))
     )
   all_goals first
   | refine zL ?_
   | (
    refine zA ?_
    refine wa_ (zB (w_ (a_ (h:=zC (e_ (h:=zA (zH (?_))))))))
    )
   )
 all_goals first
 | refine zL ?_
 | (
  refine zA ?_
  refine wa_ (wa_ (zB (w_ (m_ (h:=zC (e_ (h:=zA (?_))))))))
  refine c_ (h1:=?_) (h2:=?_)
  rotate_right 1
  focus
   intro c3
   first
   | exact dn c3
   | (
    have d3:=c3;try simp at d3
    refine zD (?_)
    )
  rotate_right 1
  focus
   intro c3
   first
   | exact dn c3
   | (
    have d3:=c3;try simp at d3
    refine wa_ (zB (w_ (a_ (h:=zC (e_ (h:=zA (zH (?_))))))))
    )
  all_goals first
  | refine zL ?_
  | (
   refine zA ?_
   refine wa_ (wa_ (zB (w_ (m_ (h:=w_ (m_ (h:=w_ (b_ (h:=zC (e_ (h:=zA (?_))))))))))))
   refine c_ (h1:=?_) (h2:=?_)
   rotate_right 1
   focus
    intro c4
    first
    | exact dn c4
    | (
     have d4:=c4;try simp at d4
     refine zD (?_)
     )
   rotate_right 1
   focus
    intro c4
    first
    | exact dn c4
    | (
     have d4:=c4;try simp at d4
     refine wa_ (zB (w_ (a_ (h:=zC (e_ (h:=zA (zH (?_))))))))
     )
   all_goals first
   | refine zL ?_
   | (
    refine zA ?_
    refine wa_ (wa_ (zB (w_ (m_ (h:=w_ (m_ (h:=w_ (b_ (h:=zC (e_ (h:=zA (?_))))))))))))
    refine c_ (h1:=?_) (h2:=?_)
    rotate_right 1
    focus
     intro c5
     first
     | exact dn c5
     | (
      have d5:=c5;try simp at d5
      refine zD (?_)
      )
    rotate_right 1
    focus
     intro c5
     first
     | exact dn c5
     | (
      have d5:=c5;try simp at d5
      refine wa_ (zB (w_ (a_ (h:=zC (e_ (h:=zA (zH (?_))))))))
      )
    all_goals first
    | refine zL ?_
    | (
     refine zA ?_
     refine wa_ (zB (w_ (a_ (h:=zC (e_ (h:=zA (zH (?_))))))))
     )
    )
   )
  )
 all_goals (refine qZ (hr:=(zR rfl zO)) (h:=?_);(focus (simp[zHy];grind)))
theorem zOw:∀{a b:List Int},a.take (min a.length b.length)=b.take (min a.length b.length)→zR9 a b=zHy a.length b.length
 | [],[],_=>rfl
 | [],y::s,_=>by simp[zR9,zHy]<;>omega
 | x::r,[],_=>by simp[zR9,zHy]<;>omega
 | x::r,y::s,h=>by
  have hm:min (x::r).length (y::s).length=min r.length s.length+1:=by simp only[List.length_cons];omega
  rw[hm,List.take_succ_cons,List.take_succ_cons,List.cons.injEq] at h
  have:=zOw h.2
  simp only[zR9,h.1,Int.lt_irrefl,if_false,this,zHy,List.length_cons]
  split<;>split<;>first|omega|(split<;>omega)|rfl
theorem cut2 {a b:List Int} {i:Nat} (h:i<min a.length b.length):∃x y,a.drop i=x::a.drop (i+1)∧b.drop i=y::b.drop (i+1)∧(a.take (min a.length b.length)).drop i=x::(a.take (min a.length b.length)).drop (i+1)∧(b.take (min a.length b.length)).drop i=y::(b.take (min a.length b.length)).drop (i+1) ∧
  (ints a)[(i:Int).toNat]? = some (.int .i64 x)∧(ints b)[(i:Int).toNat]? = some (.int .i64 y):=by
 have h1:i<a.length:=by omega
 have h2:i<b.length:=by omega
 refine⟨a[i],b[i],List.drop_eq_getElem_cons h1,List.drop_eq_getElem_cons h2,?_,?_,zMw h1,zMw h2⟩
 ·rw[List.drop_eq_getElem_cons (by simp;omega)];simp
 ·rw[List.drop_eq_getElem_cons (by simp;omega)];simp
theorem qKf (a b:List Int) (ha:a.length<2000000) (hb:b.length<2000000):∀i:Nat,(i≤min a.length b.length)→∀s,zI 2 (some [0,1,11,12]) s=⟨[(0,.lst false 0 (ints a)),(1,.lst false 0 (ints b)),(11,.int .i64 (if(b.length:Int)<a.length then b.length else a.length)),(12,.int .i64 i)],[],2⟩ →
 oc.loop 171 2 s=some (if(a.take (min a.length b.length)).drop i=(b.take (min a.length b.length)).drop i then(.exit 0,⟨[(0,.lst false 0 (ints a)),(1,.lst false 0 (ints b))],[],2⟩) else(.ret,⟨[(0,.lst false 0 (ints a)),(1,.lst false 0 (ints b)),(4,.int .i64 (zR9 (a.drop i) (b.drop i)))],[],2⟩)):=by
 refine zW (σ:=Nat) (fun i=>min a.length b.length - i) _ (fun i=>⟨[(0,.lst false 0 (ints a)),(1,.lst false 0 (ints b)),(11,.int .i64 (if(b.length:Int)<a.length then b.length else a.length)),(12,.int .i64 i)],[],2⟩) _ ?_
 intro i hi ih s hs
 refine qB qJt rfl rfl hs ?_
 have hmin:(if(b.length:Int)<a.length then(b.length:Int) else a.length)=(min a.length b.length:Nat):=by split<;>omega
 refine wa_ (zB (w_ (b_ (h:=zC (e_ (h:=zA (wa_ (?_))))))))
 refine c_ (h1:=?_) (h2:=?_)
 rotate_right 1
 focus
  intro c1
  first
  | exact dn c1
  | (
   have d1:=c1;try simp at d1
   have c9:=c1;rw[hmin] at c9;simp at c9;have hi2:i=min a.length b.length:=(by omega)
   refine zX (?_)
   )
 rotate_right 1
 focus
  intro c1
  first
  | exact dn c1
  | (
   have d1:=c1;try simp at d1
   have c9:=c1;rw[hmin] at c9;simp at c9;have hw:=zV (i:=i) (by omega);obtain⟨x,y,e1,e2,e3,e4,g1,g2⟩:=cut2 (a:=a) (b:=b) (i:=i) (by omega)
   refine zD (?_)
   )
 all_goals first
 | refine zS ?_
 | (
  refine zA ?_
  refine wa_ (zG (wa_ (zB (w_ (m_ (h:=w_ (a_ (h:=zC (e_ (h:=zA (wa_ (qE (y_ (m_ (h:=ax_ (h:=y_ (m_ (h:=ax_ (h:=?_)))))))))))))))))))
  refine y_ (x_ (h:=ax_ (h:=y_ (l_ (h:=ax_ (h:=y_ (m_ (h:=ax_ (h:=y_ (m_ (h:=ax_ (h:=y_ (x_ (h:=ax_ (h:=y_ (l_ (h:=ax_ (h:=y_ (ca (hc:=qC2 _ _) (h:=ax_ (h:=y_ (a_ (h:=ax_ (h:=zC (ed (h:=zA (wa_ (zB (?_)))))))))))))))))))))))))))))
  refine w_ (m_ (h:=w_ (bE (h:=zC (e_ (h:=zA (?_)))))))
  refine c_ (h1:=?_) (h2:=?_)
  rotate_right 1
  focus
   intro c2
   first
   | exact dn c2
   | (
    have d2:=c2;try simp at d2
    refine zD (?_)
    )
  rotate_right 1
  focus
   intro c2
   first
   | exact dn c2
   | (
    have d2:=c2;try simp at d2
    refine wa_ (zB (w_ (m_ (h:=w_ (a_ (h:=zC (e_ (h:=zA (zH (?_))))))))))
    )
  all_goals first|refine zJ ?_|refine zY ?_
  all_goals first
  | refine zL ?_
  | (
   refine zA ?_
   refine zB (w_ (b_ (h:=w_ (m_ (h:=zC (e_ (h:=?_)))))))
   )
  )
 all_goals first
 | (refine(ih (i+1) (by omega) ?_ _ ?_).trans ?_;(focus (first|omega|(simp;done)|(simp;omega)));(focus (simp[zI,hw];done));(focus (simp only[zHy] at d2;have hxy:x=y:=(by grind);rw[e1,e2,e3,e4];simp[hxy,zR9])))
 | (apply zM (ex:=Ext.ret) 2 (some [0,1,4]);(focus (simp[zI];rfl));(focus (rw[e1,e2,e3,e4];simp only[zHy] at d2;have hxy:x≠y:=(by grind);simp only[List.cons.injEq,hxy,false_and,if_false,zR9,zHy];grind)))
 | (apply zM (ex:=(Ext.exit 0)) 2 (some [0,1,4]);(focus (simp[zI];rfl));(focus (rw[if_pos (by rw[List.drop_eq_nil_of_le (by simp;omega),List.drop_eq_nil_of_le (by simp;omega)])])))
theorem qCa (a b:List Int) (ha:a.length<2000000) (hb:b.length<2000000):oc.call 171 [.lst false 0 (ints a),.lst false 0 (ints b)]=some (.int .i64 (zR9 a b),[]):=by
 refine qD rfl qJt rfl rfl rfl (by simp;rfl) (by simp;rfl) ?_
 refine wa_ (zB (w_ (a_ (h:=zC (e_ (h:=zA (wa_ (wa_ (zB (w_ (m_ (h:=w_ (le (h:=w_ (m_ (h:=w_ (le (h:=?_))))))))))))))))))
 refine w_ (mi (h:=w_ (m_ (h:=zC (e_ (h:=zA (zG (?_))))))))
 refine qR (qKf a b ha hb 0 (by omega) _ (by simp[zI])) ?_ ?_
 rotate_right 1
 focus
  intro c1
  skip
 rotate_right 1
 focus
  intro c1
  skip
 all_goals first|refine zY ?_|refine zT ?_
 all_goals first
 | refine zL ?_
 | (
  refine zA ?_
  refine wa_ (zB (w_ (m_ (h:=w_ (le (h:=w_ (m_ (h:=w_ (le (h:=w_ (ca (hc:=qH3 _ _) (h:=w_ (a_ (h:=zC (e_ (h:=zA (zH (?_))))))))))))))))))
  )
 all_goals (refine qZ (hr:=(zR rfl zO)) (h:=?_);(focus (first|(have h3:=zOw (a:=a) (b:=b) (by simpa using c1);simp[h3];done)|simp)))
def zJx {α:Type} (l:List α) (i:Nat):Option α:=if i=0 then none else l[i - 1]?
theorem zQr {α:Type} {l:List α} {i:Nat} {c:α} (h:l[i]? = some c):zJx l (i+1)=some c:=by simp[zJx,h]
theorem zSg {l:List Et} {i:Nat} (h0:0<i) (h:i≤l.length) (hi:i<2000000000):∃q,q∈l∧zJx l i=some q∧(ets false l)[(IntKind.i64.wrap ((i:Int) - 1)).toNat]? = some (q.v false)∧0≤IntKind.i64.wrap ((i:Int) - 1):=by
 have hw:IntKind.i64.wrap ((i:Int) - 1)=((i - 1:Nat):Int):=by rw[qH (by omega) (by omega)];omega
 have hlt:i - 1<l.length:=by omega
 refine⟨l[i - 1],List.getElem_mem hlt,?_,?_,by rw[hw];omega⟩
 ·unfold zJx;rw[if_neg (by omega)];simp[hlt]
 ·rw[hw];exact zYm hlt
def wOk (n:Int):Bool:=inI n (-1000000000000) 1000000000000
def zOq:Option Et→List Et→Int
 | _,[]=>0
 | p,e::r=>if zVs e.row=0 then(if wOk e.w=false∨e.w=0 then 3 else if(p.elim false fun q=>decide (0≤zR9 q.row e.row))=true then 1 else zOq (some e) r) else zVs e.row
def qHa (z:List Et):Int:=if 200<z.length then 2 else zOq none z
theorem zWc {p:Option Et} {e:Et} {r:List Et} (h:¬zVs e.row=0):zOq p (e::r)=zVs e.row:=by rw[zOq,if_neg h]
theorem qH0 {p:Option Et} {e:Et} {r:List Et} (h:zVs e.row=0) (h2:wOk e.w=false∨e.w=0):zOq p (e::r)=3:=by rw[zOq,if_pos h,if_pos h2]
theorem qGd {p:Option Et} {e:Et} {r:List Et} (h:zVs e.row=0) (h2:¬(wOk e.w=false∨e.w=0)) (h3:(p.elim false fun q=>decide (0≤zR9 q.row e.row))=true):zOq p (e::r)=1:=by rw[zOq,if_pos h,if_neg h2,if_pos h3]
theorem qFc {p:Option Et} {e:Et} {r:List Et} (h:zVs e.row=0) (h2:¬(wOk e.w=false∨e.w=0)) (h3:¬(p.elim false fun q=>decide (0≤zR9 q.row e.row))=true):zOq p (e::r)=zOq (some e) r:=by rw[zOq,if_pos h,if_neg h2,if_neg h3]
theorem qIb (z:List Et) (hz:zA0 z<2000000) (hl:z.length≤200):∀i:Nat,(i≤z.length)→∀s,zI 1 (some [0,9,10,11]) s=⟨[(0,.lst false 0 (ets false z)),(9,.lst false 0 (ets false z)),(10,.int .i64 z.length),(11,.int .i64 i)],[],1⟩ →
 oc.loop 102 4 s=some (if zOq (zJx z i) (z.drop i)=0 then(.exit 0,⟨[],[],1⟩) else(.ret,⟨[(2,.int .i64 (zOq (zJx z i) (z.drop i)))],[],1⟩)):=by
 refine zW (σ:=Nat) (fun i=>z.length - i) _ (fun i=>⟨[(0,.lst false 0 (ets false z)),(9,.lst false 0 (ets false z)),(10,.int .i64 z.length),(11,.int .i64 i)],[],1⟩) _ ?_
 intro i hi ih s hs
 refine qB qIg rfl rfl hs ?_
 refine wa_ (zB (w_ (b_ (h:=zC (e_ (h:=zA (wa_ (?_))))))))
 refine c_ (h1:=?_) (h2:=?_)
 rotate_right 1
 focus
  intro c1
  first
  | exact dn c1
  | (
   have d1:=c1;try simp at d1
   refine zX (?_)
   )
 rotate_right 1
 focus
  intro c1
  first
  | exact dn c1
  | (
   have d1:=c1;try simp at d1
   have hw:=zV (i:=i) (by omega);obtain⟨c,hx,e1,g1⟩:=zUr (t:=false) (l:=z) (i:=i) (by omega);have hs1:=zQr hx;have hm:=zG5 (List.mem_of_getElem? hx);have hrow:c.row.length<2000000:=(by unfold qDw at hm;omega)
   refine zD (?_)
   )
 all_goals first
 | refine zS ?_
 | (
  refine zA ?_
  refine wa_ (zG (wa_ (zB (w_ (m_ (h:=w_ (x_ (h:=w_ (l_ (h:=w_ (al (h:=w_ (a_ (h:=w0 (s_ (h:=zC (e_ (h:=zA (?_)))))))))))))))))))
  refine wa_ (wa_ (zB (w_ (f_ (h:=w_ (l_ (h:=w_ (ca (hc:=qK3 c.row hrow) (h:=w_ (a_ (h:=zC (e_ (h:=zA (wa_ (zB (w_ (m_ (h:=?_))))))))))))))))))
  refine w_ (bE (h:=zC (e_ (h:=zA (?_)))))
  refine c_ (h1:=?_) (h2:=?_)
  rotate_right 1
  focus
   intro c2
   first
   | exact dn c2
   | (
    have d2:=c2;try simp at d2
    refine zD (?_)
    )
  rotate_right 1
  focus
   intro c2
   first
   | exact dn c2
   | (
    have d2:=c2;try simp at d2
    refine wa_ (zB (w_ (m_ (h:=w_ (a_ (h:=zC (e_ (h:=zA (zH (?_))))))))))
    )
  all_goals first
  | refine zL ?_
  | (
   refine zA ?_
   refine wa_ (wa_ (zB (w_ (f_ (h:=w_ (l_ (h:=w_ (ca (hc:=zDh _) (h:=w_ (u_ (h:=w_ (m_ (h:=?_)))))))))))))
   refine gw_ (h1:=?_) (h2:=?_)
   rotate_right 1
   focus
    intro c3
    first
    | exact dn c3
    | (
     have d3:=c3;try simp at d3
     refine go_ (h:=go_ (h:=go_ (h:=?_)))
     )
   rotate_right 1
   focus
    intro c3
    first
    | exact dn c3
    | (
     have d3:=c3;try simp at d3
     refine g_ (h:=w_ (f_ (h:=g_ (h:=w_ (l_ (h:=g_ (h:=w_ (bE (h:=?_)))))))))
     )
   all_goals
    refine w_ (pk (h:=zC (e_ (h:=?_))))
   all_goals first
   | (
    refine zA ?_
    refine c_ (h1:=?_) (h2:=?_)
    rotate_right 1
    focus
     intro c4
     first
     | exact dn c4
     | (
      have d4:=c4;try simp at d4
      refine zD (?_)
      )
    rotate_right 1
    focus
     intro c4
     first
     | exact dn c4
     | (
      have d4:=c4;try simp at d4
      refine wa_ (zB (w_ (a_ (h:=zC (e_ (h:=zA (zH (?_))))))))
      )
    )
   all_goals first
   | refine zL ?_
   | (
    refine zA ?_
    refine wa_ (qE (y_ (m_ (h:=ax_ (h:=y_ (b_ (h:=ax_ (h:=y_ (m_ (h:=ax_ (h:=?_)))))))))))
    refine gw_ (h1:=?_) (h2:=?_)
    rotate_right 1
    focus
     intro c5
     first
     | exact dn c5
     | (
      have d5:=c5;try simp at d5
      refine gd_ (h:=gd_ (h:=gd_ (h:=gd_ (h:=gd_ (h:=gd_ (h:=gd_ (h:=gd_ (h:=gd_ (h:=gd_ (h:=?_))))))))))
      )
    rotate_right 1
    focus
     intro c5
     first
     | exact dn c5
     | (
      have d5:=c5;try simp at d5
      obtain⟨q,hqm,hq,g2,g3⟩:=zSg (l:=z) (i:=i) (by omega) (by omega) (by omega);have hm2:=zG5 hqm;have hrow2:q.row.length<2000000:=(by unfold qDw at hm2;omega)
      refine g_ (h:=y_ (m_ (h:=ax_ (h:=g_ (h:=y_ (m_ (h:=ax_ (h:=g_ (h:=y_ (b_ (h:=ax_ (h:=g_ (h:=y_ (x_ (h:=ax_ (h:=g_ (h:=y_ (f_ (h:=ax_ (h:=g_ (h:=y_ (l_ (h:=ax_ (h:=g_ (h:=y_ (f_ (h:=ax_ (h:=g_ (h:=y_ (l_ (h:=ax_ (h:=g_ (h:=y_ (ca (hc:=qCa q.row c.row hrow2 hrow) (h:=ax_ (h:=g_ (h:=y_ (b_ (h:=ax_ (h:=?_))))))))))))))))))))))))))))))))))))))))
      )
    all_goals
     refine y_ (pk (h:=ax_ (h:=zC (ed (h:=?_)))))
    all_goals first
    | (
     refine zA ?_
     refine c_ (h1:=?_) (h2:=?_)
     rotate_right 1
     focus
      intro c6
      first
      | exact dn c6
      | (
       have d6:=c6;try simp at d6
       refine zD (?_)
       )
     rotate_right 1
     focus
      intro c6
      first
      | exact dn c6
      | (
       have d6:=c6;try simp at d6
       refine wa_ (zB (w_ (a_ (h:=zC (e_ (h:=zA (zH (?_))))))))
       )
     )
    )
   )
  all_goals first|refine zJ ?_|refine zY ?_
  all_goals first
  | refine zL ?_
  | (
   refine zA ?_
   refine zB (w_ (b_ (h:=w_ (m_ (h:=zC (e_ (h:=?_)))))))
   )
  )
 all_goals first
 | (refine(ih (i+1) (by omega) ?_ _ ?_).trans ?_;(focus (first|omega|(simp;done)|(simp;omega)));(focus (simp[zI,hw];done));(focus (rw[hs1,e1,qFc d2 (by simp[wOk,d3,d4]) (by first|(rw[hq];simp;omega)|(subst d5;simp[zJx]))])))
 | (apply zM (ex:=Ext.ret) 1 (some [2]);(focus (simp[zI];rfl));(focus (rw[e1,zWc d2];simp[d2])))
 | (apply zM (ex:=Ext.ret) 1 (some [2]);(focus (simp[zI];rfl));(focus (rw[e1,qH0 d2 (by first|exact .inl d3|exact .inr d4)];simp)))
 | (apply zM (ex:=Ext.ret) 1 (some [2]);(focus (simp[zI];rfl));(focus (rw[e1,qGd d2 (by simp[wOk,d3,d4]) (by rw[hq];simp;omega)];simp)))
 | (apply zM (ex:=(Ext.exit 0)) 1 (some [2]);(focus (simp[zI];rfl));(focus (rw[List.drop_eq_nil_of_le (by omega)];simp[zOq])))
theorem qIz (z:List Et) (hz:zA0 z<2000000):oc.call 102 [.lst false 0 (ets false z)]=some (.int .i64 (qHa z),[]):=by
 refine qD rfl qIg rfl rfl rfl (by simp;rfl) (by simp;rfl) ?_
 refine wa_ (zB (w_ (a_ (h:=zC (e_ (h:=zA (wa_ (wa_ (zB (w_ (m_ (h:=w_ (le (h:=w_ (b_ (h:=zC (e_ (h:=?_))))))))))))))))))
 refine zA (?_)
 refine c_ (h1:=?_) (h2:=?_)
 rotate_right 1
 focus
  intro c1
  first
  | exact dn c1
  | (
   have d1:=c1;try simp at d1
   refine zD (?_)
   )
 rotate_right 1
 focus
  intro c1
  first
  | exact dn c1
  | (
   have d1:=c1;try simp at d1
   refine wa_ (zB (w_ (a_ (h:=zC (e_ (h:=zA (zH (?_))))))))
   )
 all_goals first
 | refine zL ?_
 | (
  refine zA ?_
  refine wa_ (wa_ (zB (w_ (m_ (h:=w_ (le (h:=w_ (m_ (h:=zC (e_ (h:=zA (zG (?_)))))))))))))
  refine qR (qIb z hz (by omega) 0 (by omega) _ (by simp[zI])) ?_ ?_
  rotate_right 1
  focus
   intro c2
   first
   | exact dn c2
   | (
    have d2:=c2;try simp at d2
    skip
    )
  rotate_right 1
  focus
   intro c2
   first
   | exact dn c2
   | (
    have d2:=c2;try simp at d2
    skip
    )
  all_goals first|refine zY ?_|refine zT ?_
  all_goals first
  | refine zL ?_
  | (
   refine zA ?_
   refine wa_ (zB (w_ (a_ (h:=zC (e_ (h:=zA (zH (?_))))))))
   )
  )
 all_goals (refine qZ (hr:=(zR rfl zO)) (h:=?_);(focus (simp[qHa,zJx] at * <;> grind)))
def zQs (z:List Et) (k:Int):Int:=if qHa z=0 then(if z.all (fun e=>decide ((e.row.length:Int)=k))=true then 0 else 1) else qHa z
theorem qFa (z:List Et) (k:Int) (hz:zA0 z<2000000):∀i:Nat,(i≤z.length)→∀s,zI 2 (some [1,13,14,15]) s=⟨[(1,.int .i64 k),(13,.lst false 0 (ets false z)),(14,.int .i64 z.length),(15,.int .i64 i)],[],2⟩ →
 oc.loop 45 5 s=some (if(z.drop i).all (fun e=>decide ((e.row.length:Int)=k))=true then(.exit 0,⟨[],[],2⟩) else(.ret,⟨[(4,.int .i64 1)],[],2⟩)):=by
 refine zW (σ:=Nat) (fun i=>z.length - i) _ (fun i=>⟨[(1,.int .i64 k),(13,.lst false 0 (ets false z)),(14,.int .i64 z.length),(15,.int .i64 i)],[],2⟩) _ ?_
 intro i hi ih s hs
 refine qB cd45 rfl rfl hs ?_
 have hzl:=zD1 (l:=z)
 refine wa_ (zB (w_ (b_ (h:=zC (e_ (h:=zA (wa_ (?_))))))))
 refine c_ (h1:=?_) (h2:=?_)
 rotate_right 1
 focus
  intro c1
  first
  | exact dn c1
  | (
   have d1:=c1;try simp at d1
   refine zX (?_)
   )
 rotate_right 1
 focus
  intro c1
  first
  | exact dn c1
  | (
   have d1:=c1;try simp at d1
   have hw:=zV (i:=i) (by omega);obtain⟨c,hx,e1,g1⟩:=zUr (t:=false) (l:=z) (i:=i) (by omega);have hm:=zG5 (List.mem_of_getElem? hx);have hrow:c.row.length<2000000:=(by unfold qDw at hm;omega)
   refine zD (?_)
   )
 all_goals first
 | refine zS ?_
 | (
  refine zA ?_
  refine wa_ (zG (wa_ (zB (w_ (x_ (h:=w_ (l_ (h:=w_ (al (h:=w0 (s_ (h:=zC (e_ (h:=zA (wa_ (zB (?_)))))))))))))))))
  refine w_ (f_ (h:=w_ (l_ (h:=w_ (ca (hc:=zTc 0 (ints c.row) (by simp;omega)) (h:=w_ (m_ (h:=w_ (bE (h:=zC (e_ (h:=zA (?_)))))))))))))
  refine c_ (h1:=?_) (h2:=?_)
  rotate_right 1
  focus
   intro c2
   first
   | exact dn c2
   | (
    have d2:=c2;try simp at d2
    refine zD (?_)
    )
  rotate_right 1
  focus
   intro c2
   first
   | exact dn c2
   | (
    have d2:=c2;try simp at d2
    refine wa_ (zB (w_ (a_ (h:=zC (e_ (h:=zA (zH (?_))))))))
    )
  all_goals first|refine zJ ?_|refine zY ?_
  all_goals first
  | refine zL ?_
  | (
   refine zA ?_
   refine zB (w_ (b_ (h:=w_ (m_ (h:=zC (e_ (h:=?_)))))))
   )
  )
 all_goals first
 | (refine(ih (i+1) (by omega) ?_ _ ?_).trans ?_;(focus (first|omega|(simp;done)|(simp;omega)));(focus (simp[zI,hw];done));(focus (rw[e1];simp[d2])))
 | (apply zM (ex:=Ext.ret) 2 (some [4]);(focus (simp[zI];rfl));(focus (rw[e1];simp[d2])))
 | (apply zM (ex:=(Ext.exit 0)) 2 (some [4]);(focus (simp[zI];rfl));(focus (rw[List.drop_eq_nil_of_le (by omega)];simp)))
theorem zH8 (z:List Et) (k:Int) (hz:zA0 z<2000000):oc.call 45 [.lst false 0 (ets false z),.int .i64 k]=some (.int .i64 (zQs z k),[]):=by
 refine qD rfl cd45 rfl rfl rfl (by simp;rfl) (by simp;rfl) ?_
 refine wa_ (zB (w_ (a_ (h:=zC (e_ (h:=zA (wa_ (wa_ (zB (w_ (m_ (h:=w_ (ca (hc:=qIz z hz) (h:=w_ (a_ (h:=zC (e_ (h:=?_))))))))))))))))))
 refine zA (wa_ (zB (w_ (m_ (h:=w_ (bE (h:=zC (e_ (h:=zA (?_))))))))))
 refine c_ (h1:=?_) (h2:=?_)
 rotate_right 1
 focus
  intro c1
  first
  | exact dn c1
  | (
   have d1:=c1;try simp at d1
   refine zD (?_)
   )
 rotate_right 1
 focus
  intro c1
  first
  | exact dn c1
  | (
   have d1:=c1;try simp at d1
   refine wa_ (zB (w_ (m_ (h:=w_ (a_ (h:=zC (e_ (h:=zA (zH (?_))))))))))
   )
 all_goals first
 | refine zL ?_
 | (
  refine zA ?_
  refine wa_ (wa_ (zB (w_ (m_ (h:=w_ (le (h:=w_ (m_ (h:=zC (e_ (h:=zA (zG (?_)))))))))))))
  refine qR (qFa z k hz 0 (by omega) _ (by simp[zI])) ?_ ?_
  rotate_right 1
  focus
   intro c2
   first
   | exact dn c2
   | (
    have d2:=c2;try simp at d2
    skip
    )
  rotate_right 1
  focus
   intro c2
   first
   | exact dn c2
   | (
    have d2:=c2;try simp at d2
    skip
    )
  all_goals first|refine zY ?_|refine zT ?_
  all_goals first
  | refine zL ?_
  | (
   refine zA ?_
   refine wa_ (zB (w_ (a_ (h:=zC (e_ (h:=zA (zH (?_))))))))
   )
  )
 all_goals (refine qZ (hr:=(zR rfl zO)) (h:=?_);(focus (simp[zQs] at * <;> grind)))
end Go.Proofs.YtbcgenkegnmkhaaGreat.Ev
namespace Go.Proofs.YtbcgenkegnmkhaaGreat.Ev
open Go
set_option maxRecDepth 100000
set_option linter.unusedSimpArgs false
set_option linter.unusedVariables false
set_option maxHeartbeats 2000000
def zCq (pl:List Nd) (a side ep:Int):Bool:=inI a 0 ((pl.length:Int) - 1)&&(!decide ((zLo pl a).op=1)&&(inI side 0 1&&((!decide (side=1)||(decide ((zLo pl a).op=4)||decide ((zLo pl a).op=6)))&&inI ep 0 1000)))
def zY6 (pl:List Nd) (a side:Int):Int:=at0 (yS pl) (if side=1 then(zLo pl a).b else(zLo pl a).a)
def zGo (pl:List Nd) (a side ep:Int) (z:List Et):Int:=if zCq pl a side ep=true then(if zQs z (zY6 pl a side)=0 then(if z.length=0 then 1 else 0) else zQs z (zY6 pl a side)) else 3
theorem zUq {pl:List Nd} {a side ep:Int} (h:zCq pl a side ep=true):0≤a∧a<pl.length∧(zLo pl a).op≠1∧0≤side∧side≤1∧(side=1→(zLo pl a).op=4∨(zLo pl a).op=6)∧0≤ep∧ep≤1000:=by
 simp[zCq,inI] at h;omega
theorem qCp (pl:List Nd) (a side ep:Int) (hp:pl.length<2000000) (hk:okN pl) (h0:(jS pl).2=0) (h:zCq pl a side ep=true):oc.call 179 [.lst false 0 (nds false 0 pl),.lst false 0 (ints (yS pl)),.int .i64 a,.int .i64 side]=some (.int .i64 (zY6 pl a side),[]):=by
 refine qD rfl cd179 rfl rfl rfl (by simp;rfl) (by simp;rfl) ?_
 obtain⟨k1,k2,k3,k4,k5,k6,k7,k8⟩:=zUq h
 obtain⟨d,hd,g1⟩:=zWx k1 k2
 rw[zBs hd] at k3 k6
 obtain⟨o1,o2,o3⟩:=qLd hk h0 k1 hd
 have hl:=(zC0 hk h0).2.1
 refine wa_ (zB (w_ (a_ (h:=zC (e_ (h:=zA (wa_ (wa_ (zB (w_ (m_ (h:=w_ (bE (h:=zC (e_ (h:=zA (?_)))))))))))))))))
 refine c_ (h1:=?_) (h2:=?_)
 rotate_right 1
 focus
  intro c1
  first
  | exact dn c1
  | (
   have d1:=c1;try simp at d1
   have g2:=kC (w:=yS pl) (o2 k3).1 (by have:=o2 k3;omega);have:=o2 k3
   refine zD (?_)
   )
 rotate_right 1
 focus
  intro c1
  first
  | exact dn c1
  | (
   have d1:=c1;try simp at d1
   have g2:=kC (w:=yS pl) (o3 (k6 d1)).1 (by have:=o3 (k6 d1);omega);have:=o3 (k6 d1)
   refine wa_ (zB (w_ (m_ (h:=w_ (m_ (h:=w_ (m_ (h:=w_ (x_ (h:=w_ (f_ (h:=w_ (l_ (h:=w_ (x_ (h:=w_ (l_ (h:=w_ (a_ (h:=zC (e_ (h:=?_))))))))))))))))))))))
   refine zA (zH (?_))
   )
 all_goals first
 | refine zL ?_
 | (
  refine zA ?_
  refine wa_ (zB (w_ (m_ (h:=w_ (m_ (h:=w_ (m_ (h:=w_ (x_ (h:=w_ (f_ (h:=w_ (l_ (h:=w_ (x_ (h:=w_ (l_ (h:=w_ (a_ (h:=zC (e_ (h:=?_))))))))))))))))))))))
  refine zA (zH (?_))
  )
 all_goals (refine qZ (hr:=(zR rfl zO)) (h:=?_);(focus (simp only[zY6,zBs hd];simp[d1])))
theorem zUv (pl:List Nd) (a side ep:Int) (z:List Et) (hp:pl.length<2000000) (hk:okN pl) (h0:(jS pl).2=0) (hz:zA0 z<2000000):oc.call 116 [.lst false 0 (nds false 0 pl),.lst false 0 (ints (yS pl)),.int .i64 a,.int .i64 side,.int .i64 ep,.lst false 0 (ets false z)]=some (.int .i64 (zGo pl a side ep z),[]):=by
 refine qD rfl cd116 rfl rfl rfl (by simp;rfl) (by simp;rfl) ?_
 have hw:IntKind.i64.wrap ((pl.length:Int) - 1)=pl.length - 1:=qH (by omega) (by omega)
 have hzl:=zD1 (l:=z)
 refine wa_ (zB (w_ (a_ (h:=zC (e_ (h:=zA (wa_ (wa_ (zB (w_ (m_ (h:=w_ (m_ (h:=w_ (ca (hc:=zF5 _ _ (by simp;omega)) (h:=w_ (b_ (h:=?_))))))))))))))))))
 refine w_ (ca (hc:=zDz _ _ _) (h:=w_ (u_ (h:=w_ (m_ (h:=?_))))))
 refine gw_ (h1:=?_) (h2:=?_)
 rotate_right 1
 focus
  intro c1
  first
  | exact dn c1
  | (
   have d1:=c1;try simp at d1
   refine go_ (h:=go_ (h:=go_ (h:=go_ (h:=go_ (h:=go_ (h:=?_))))))
   )
 rotate_right 1
 focus
  intro c1
  first
  | exact dn c1
  | (
   have d1:=c1;try simp at d1
   have hin:0≤a∧a<pl.length:=(by simp[inI,hw] at d1;omega);obtain⟨d,hd,g1⟩:=zWx hin.1 hin.2
   refine g_ (h:=w_ (m_ (h:=g_ (h:=w_ (m_ (h:=g_ (h:=w_ (x_ (h:=g_ (h:=w_ (f_ (h:=g_ (h:=w_ (l_ (h:=g_ (h:=w_ (bE (h:=?_))))))))))))))))))
   )
 all_goals
  refine w_ (pk (h:=w_ (m_ (h:=?_))))
  refine gw_ (h1:=?_) (h2:=?_)
  rotate_right 1
  focus
   intro c2
   first
   | exact dn c2
   | (
    have d2:=c2;try simp at d2
    refine go_ (h:=go_ (h:=go_ (h:=?_)))
    )
  rotate_right 1
  focus
   intro c2
   first
   | exact dn c2
   | (
    have d2:=c2;try simp at d2
    refine g_ (h:=w_ (m_ (h:=g_ (h:=w_ (ca (hc:=zDz _ _ _) (h:=g_ (h:=w_ (u_ (h:=?_)))))))))
    )
  all_goals
   refine w_ (pk (h:=w_ (m_ (h:=?_))))
   refine gw_ (h1:=?_) (h2:=?_)
   rotate_right 1
   focus
    intro c3
    first
    | exact dn c3
    | (
     have d3:=c3;try simp at d3
     refine go_ (h:=go_ (h:=go_ (h:=?_)))
     )
   rotate_right 1
   focus
    intro c3
    first
    | exact dn c3
    | (
     have d3:=c3;try simp at d3
     refine g_ (h:=w_ (m_ (h:=g_ (h:=w_ (bE (h:=g_ (h:=w_ (m_ (h:=?_)))))))))
     )
   all_goals
    first
    | (
     skip
     refine goN (h:=goN (h:=goN (h:=goN (h:=goN (h:=goN (h:=goN (h:=?_)))))))
     )
    | (
     refine gw_ (h1:=?_) (h2:=?_)
     rotate_right 1
     focus
      intro c4
      first
      | exact dn c4
      | (
       have d4:=c4;try simp at d4
       refine go_ (h:=go_ (h:=go_ (h:=go_ (h:=go_ (h:=go_ (h:=go_ (h:=?_)))))))
       )
     rotate_right 1
     focus
      intro c4
      first
      | exact dn c4
      | (
       have d4:=c4;try simp at d4
       refine g_ (h:=w_ (m_ (h:=g_ (h:=w_ (m_ (h:=g_ (h:=w_ (x_ (h:=g_ (h:=w_ (f_ (h:=g_ (h:=w_ (l_ (h:=g_ (h:=w_ (ca (hc:=zSu _) (h:=g_ (h:=w_ (u_ (h:=?_)))))))))))))))))))))
       )
     )
    all_goals
     first
     | (
      skip
      refine g_ (h:=w_ (pk (h:=?_)))
      )
     | (
      skip
      refine go_ (h:=?_)
      )
     all_goals
      refine w_ (pk (h:=w_ (m_ (h:=?_))))
      refine gw_ (h1:=?_) (h2:=?_)
      rotate_right 1
      focus
       intro c5
       first
       | exact dn c5
       | (
        have d5:=c5;try simp at d5
        refine go_ (h:=go_ (h:=go_ (h:=?_)))
        )
      rotate_right 1
      focus
       intro c5
       first
       | exact dn c5
       | (
        have d5:=c5;try simp at d5
        refine g_ (h:=w_ (m_ (h:=g_ (h:=w_ (ca (hc:=zDz _ _ _) (h:=g_ (h:=w_ (u_ (h:=?_)))))))))
        )
      all_goals
       refine w_ (pk (h:=zC (e_ (h:=?_))))
 all_goals first
 | (
  refine zA ?_
  refine c_ (h1:=?_) (h2:=?_)
  rotate_right 1
  focus
   intro c6
   first
   | exact dn c6
   | (
    have d6:=c6;try simp at d6
    have hok:zCq pl a side ep=true:=(by clear hk hz hzl;simp[zCq,zBs hd,inI,hw] at *;grind)
    refine zD (?_)
    )
  rotate_right 1
  focus
   intro c6
   first
   | exact dn c6
   | (
    have d6:=c6;try simp at d6
    have hno:zCq pl a side ep=false:=(by clear hk hz hzl;first|(simp[zCq,inI,hw] at *;grind)|(simp[zCq,zBs hd,inI,hw] at *;grind))
    refine wa_ (zB (w_ (a_ (h:=zC (e_ (h:=zA (zH (?_))))))))
    )
  )
 all_goals first
 | refine zL ?_
 | (
  refine zA ?_
  refine wa_ (wa_ (zB (w_ (m_ (h:=w_ (m_ (h:=w_ (m_ (h:=w_ (m_ (h:=w_ (m_ (h:=w_ (ca (hc:=qCp pl a side ep hp hk h0 hok) (h:=w_ (ca (hc:=zH8 z _ hz) (h:=w_ (a_ (h:=zC (e_ (h:=?_)))))))))))))))))))))
  refine zA (wa_ (zB (w_ (m_ (h:=w_ (bE (h:=zC (e_ (h:=zA (?_))))))))))
  refine c_ (h1:=?_) (h2:=?_)
  rotate_right 1
  focus
   intro c7
   first
   | exact dn c7
   | (
    have d7:=c7;try simp at d7
    refine zD (?_)
    )
  rotate_right 1
  focus
   intro c7
   first
   | exact dn c7
   | (
    have d7:=c7;try simp at d7
    refine wa_ (zB (w_ (m_ (h:=w_ (a_ (h:=zC (e_ (h:=zA (zH (?_))))))))))
    )
  all_goals first
  | refine zL ?_
  | (
   refine zA ?_
   refine wa_ (wa_ (zB (w_ (m_ (h:=w_ (le (h:=w_ (bE (h:=zC (e_ (h:=zA (?_))))))))))))
   refine c_ (h1:=?_) (h2:=?_)
   rotate_right 1
   focus
    intro c8
    first
    | exact dn c8
    | (
     have d8:=c8;try simp at d8
     refine zD (?_)
     )
   rotate_right 1
   focus
    intro c8
    first
    | exact dn c8
    | (
     have d8:=c8;try simp at d8
     refine wa_ (zB (w_ (a_ (h:=zC (e_ (h:=zA (zH (?_))))))))
     )
   all_goals first
   | refine zL ?_
   | (
    refine zA ?_
    refine wa_ (zB (w_ (a_ (h:=zC (e_ (h:=zA (zH (?_))))))))
    )
   )
  )
 all_goals (refine qZ (hr:=(zR rfl zO)) (h:=?_);(focus (first|(simp[zGo,hno];done)|(clear hk;simp[zGo,hok,d7];done)|(clear hk;simp[zGo,hok,d7];cases z<;>simp at c8 ⊢ <;> omega))))
def frC (pl:List Nd) (f:Fr):Int:=if f.kind=1 then(if f.news=[] then zGo pl f.node f.side f.ep f.set else 1) else if f.kind=2 then(if f.node=0∧f.side=0∧f.ep=0∧f.set=[]∧f.news≠[] then zPd pl f.news else 1) else 5
theorem zZe (pl:List Nd) (f:Fr) (hp:pl.length<2000000) (hk:okN pl) (h0:(jS pl).2=0) (hf:zZ2 f<2000000):oc.call 54 [.lst false 0 (nds false 0 pl),.lst false 0 (ints (yS pl)),f.v false]=some (.int .i64 (frC pl f),[]):=by
 refine qD rfl cd54 rfl rfl rfl (by simp;rfl) (by simp;rfl) ?_
 have hf1:zA0 f.set<2000000:=by unfold zZ2 at hf;omega
 have hn0:(f.news=[])=(f.news.length=0):=by simp
 have hs0:(f.set=[])=(f.set.length=0):=by simp
 refine wa_ (zB (w_ (bx (h:=w_ (a_ (h:=zC (e_ (h:=zA (wa_ (wa_ (zB (w_ (f_ (h:=w_ (l_ (h:=zC (e_ (h:=?_))))))))))))))))))
 refine zA (zG (wa_ (zB (w_ (bE (h:=w_ (a_ (h:=zC (e_ (h:=zA (?_)))))))))))
 refine c_ (h1:=?_) (h2:=?_)
 rotate_right 1
 focus
  intro c1
  first
  | exact dn c1
  | (
   have d1:=c1;try simp at d1
   refine wa_ (zB (w_ (bE (h:=w_ (a_ (h:=zC (e_ (h:=zA (?_)))))))))
   refine c_ (h1:=?_) (h2:=?_)
   rotate_right 1
   focus
    intro c2
    first
    | exact dn c2
    | (
     have d2:=c2;try simp at d2
     refine zD (?_)
     )
   rotate_right 1
   focus
    intro c2
    first
    | exact dn c2
    | (
     have d2:=c2;try simp at d2
     refine wa_ (wa_ (zB (w_ (f_ (h:=w_ (l_ (h:=w_ (bE (h:=w_ (m_ (h:=?_)))))))))))
     refine gw_ (h1:=?_) (h2:=?_)
     rotate_right 1
     focus
      intro c3
      first
      | exact dn c3
      | (
       have d3:=c3;try simp at d3
       refine go_ (h:=go_ (h:=go_ (h:=?_)))
       )
     rotate_right 1
     focus
      intro c3
      first
      | exact dn c3
      | (
       have d3:=c3;try simp at d3
       refine g_ (h:=w_ (f_ (h:=g_ (h:=w_ (l_ (h:=g_ (h:=w_ (bE (h:=?_)))))))))
       )
     all_goals
      refine w_ (pk (h:=w_ (m_ (h:=?_))))
      refine gw_ (h1:=?_) (h2:=?_)
      rotate_right 1
      focus
       intro c4
       first
       | exact dn c4
       | (
        have d4:=c4;try simp at d4
        refine go_ (h:=go_ (h:=go_ (h:=?_)))
        )
      rotate_right 1
      focus
       intro c4
       first
       | exact dn c4
       | (
        have d4:=c4;try simp at d4
        refine g_ (h:=w_ (f_ (h:=g_ (h:=w_ (l_ (h:=g_ (h:=w_ (bE (h:=?_)))))))))
        )
      all_goals
       refine w_ (pk (h:=w_ (m_ (h:=?_))))
       refine gw_ (h1:=?_) (h2:=?_)
       rotate_right 1
       focus
        intro c5
        first
        | exact dn c5
        | (
         have d5:=c5;try simp at d5
         refine go_ (h:=go_ (h:=go_ (h:=go_ (h:=?_))))
         )
       rotate_right 1
       focus
        intro c5
        first
        | exact dn c5
        | (
         have d5:=c5;try simp at d5
         refine g_ (h:=w_ (f_ (h:=g_ (h:=w_ (l_ (h:=g_ (h:=w_ (le (h:=g_ (h:=w_ (b_ (h:=?_))))))))))))
         )
       all_goals
        refine w_ (pk (h:=w_ (m_ (h:=?_))))
        refine gw_ (h1:=?_) (h2:=?_)
        rotate_right 1
        focus
         intro c6
         first
         | exact dn c6
         | (
          have d6:=c6;try simp at d6
          refine go_ (h:=go_ (h:=go_ (h:=go_ (h:=?_))))
          )
        rotate_right 1
        focus
         intro c6
         first
         | exact dn c6
         | (
          have d6:=c6;try simp at d6
          refine g_ (h:=w_ (f_ (h:=g_ (h:=w_ (l_ (h:=g_ (h:=w_ (le (h:=g_ (h:=w_ (bE (h:=?_))))))))))))
          )
        all_goals
         refine w_ (pk (h:=zC (e_ (h:=?_))))
     all_goals first
     | (
      refine zA ?_
      refine c_ (h1:=?_) (h2:=?_)
      rotate_right 1
      focus
       intro c7
       first
       | exact dn c7
       | (
        have d7:=c7;try simp at d7
        refine zD (?_)
        )
      rotate_right 1
      focus
       intro c7
       first
       | exact dn c7
       | (
        have d7:=c7;try simp at d7
        refine wa_ (zB (w_ (a_ (h:=zC (e_ (h:=zA (zH (?_))))))))
        )
      )
     all_goals first
     | refine zL ?_
     | (
      refine zA ?_
      refine wa_ (zB (w_ (m_ (h:=w_ (f_ (h:=w_ (l_ (h:=w_ (ca (hc:=zYs pl f.news hp) (h:=w_ (a_ (h:=zC (e_ (h:=zA (zH (?_))))))))))))))))
      )
     )
   )
 rotate_right 1
 focus
  intro c1
  first
  | exact dn c1
  | (
   have d1:=c1;try simp at d1
   refine wa_ (wa_ (zB (w_ (f_ (h:=w_ (l_ (h:=w_ (le (h:=w_ (b_ (h:=zC (e_ (h:=zA (?_))))))))))))))
   refine c_ (h1:=?_) (h2:=?_)
   rotate_right 1
   focus
    intro c8
    first
    | exact dn c8
    | (
     have d8:=c8;try simp at d8
     refine zD (?_)
     )
   rotate_right 1
   focus
    intro c8
    first
    | exact dn c8
    | (
     have d8:=c8;try simp at d8
     refine wa_ (zB (w_ (a_ (h:=zC (e_ (h:=zA (zH (?_))))))))
     )
   all_goals first
   | refine zL ?_
   | (
    refine zA ?_
    refine wa_ (zB (w_ (m_ (h:=w_ (m_ (h:=w_ (f_ (h:=w_ (l_ (h:=w_ (f_ (h:=w_ (l_ (h:=w_ (f_ (h:=w_ (l_ (h:=w_ (f_ (h:=w_ (l_ (h:=?_))))))))))))))))))))))
    refine w_ (ca (hc:=zUv pl _ _ _ f.set hp hk h0 hf1) (h:=w_ (a_ (h:=zC (e_ (h:=zA (zH (?_))))))))
    )
   )
 all_goals first|refine zJ ?_|refine zY ?_
 all_goals first
 | refine zL ?_
 | (
  refine zA ?_
  refine wa_ (zB (w_ (a_ (h:=zC (e_ (h:=zA (zH (?_))))))))
  )
 all_goals (refine qZ (hr:=(zR rfl zO)) (h:=?_);(focus (clear hk hf hf1;simp only[frC,hn0,hs0];simp;grind)))
end Go.Proofs.YtbcgenkegnmkhaaGreat.Ev
namespace Go.Proofs.YtbcgenkegnmkhaaGreat.Ev
open Go
set_option maxRecDepth 100000
set_option linter.unusedSimpArgs false
set_option linter.unusedVariables false
set_option maxHeartbeats 2000000
def zR5 (pl:List Nd) (a:Int):List Bt→Int
 | []=>0
 | b::r=>if zGo pl a b.side b.ep b.set=0 then zR5 pl a r else zGo pl a b.side b.ep b.set
theorem qHk {pl:List Nd} {a:Int} {b:Bt} {r:List Bt} (h:zGo pl a b.side b.ep b.set=0):zR5 pl a (b::r)=zR5 pl a r:=by rw[zR5,if_pos h]
theorem qL6 {pl:List Nd} {a:Int} {b:Bt} {r:List Bt} (h:¬zGo pl a b.side b.ep b.set=0):zR5 pl a (b::r)=zGo pl a b.side b.ep b.set:=by rw[zR5,if_neg h]
def qGq (pl:List Nd) (d:Nd) (h:Hd):Int :=
 if zQs h.oldA (at0 (yS pl) d.a)=0 then(if d.op=4∨d.op=6 then zQs h.oldB (at0 (yS pl) d.b) else if h.oldB.length=0∧¬(d.op=12∧¬h.oldA.length=0) then 0 else 1) else zQs h.oldA (at0 (yS pl) d.a)
def zHx (pl:List Nd) (a:Int) (h:Hd):Int :=
 if zL4 (zLo pl a)=true then(if h.oldA.length=0∧h.oldB.length=0∧h.waits.length=0∧h.told=0 then 0 else 1)
 else if qGq pl (zLo pl a) h=0 then(if 60<h.waits.length then 2 else if zR5 pl a h.waits=0 then(if inI h.told 0 20=true∧(h.told=0∨(zLo pl a).op=12) then 0 else 3) else zR5 pl a h.waits)
 else qGq pl (zLo pl a) h
theorem qCv {h:Hd} (hh:zXq h<2000000):zA0 h.oldA<2000000∧zA0 h.oldB<2000000∧zMz h.waits<2000000:=by unfold zXq at hh;omega
theorem qBn {b:Bt} (hb:qG8 b<2000000):zA0 b.set<2000000:=by unfold qG8 at hb;omega
theorem qKd (pl:List Nd) (a:Int) (d:Nd) (x:Hd) (hp:pl.length<2000000) (hk:okN pl) (h0:(jS pl).2=0) (hx:zMz x.waits<2000000):∀i:Nat,(i≤x.waits.length)→∀s,zI 4 (some [0,1,2,7,9,81,82,83]) s=⟨[(0,.lst false 0 (nds false 0 pl)),(1,.lst false 0 (ints (yS pl))),(2,.int .i64 a),(7,.ptr 4 0 []),(9,.ptr 5 0 []),(81,.lst false 0 (bts false x.waits)),(82,.int .i64 x.waits.length),(83,.int .i64 i)],[(4,⟨true,false,4,[x.v false],0⟩),(5,⟨true,false,7,[d.v false 0],0⟩)],6⟩ →
 oc.loop 141 20 s=some (if zR5 pl a (x.waits.drop i)=0 then(.exit 0,⟨[(7,.ptr 4 0 []),(9,.ptr 5 0 [])],[(4,⟨true,false,4,[x.v false],0⟩),(5,⟨true,false,7,[d.v false 0],0⟩)],6⟩) else(.ret,⟨[(7,.ptr 4 0 []),(8,.int .i64 (zR5 pl a (x.waits.drop i))),(9,.ptr 5 0 [])],[(4,⟨true,false,4,[x.v false],0⟩),(5,⟨true,false,7,[d.v false 0],0⟩)],6⟩)):=by
 refine zW (σ:=Nat) (fun i=>x.waits.length - i) _ (fun i=>⟨[(0,.lst false 0 (nds false 0 pl)),(1,.lst false 0 (ints (yS pl))),(2,.int .i64 a),(7,.ptr 4 0 []),(9,.ptr 5 0 []),(81,.lst false 0 (bts false x.waits)),(82,.int .i64 x.waits.length),(83,.int .i64 i)],[(4,⟨true,false,4,[x.v false],0⟩),(5,⟨true,false,7,[d.v false 0],0⟩)],6⟩) _ ?_
 intro i hi ih s hs
 refine qB qJd rfl rfl hs ?_
 have hlen:=zKl (l:=x.waits)
 refine wa_ (zB (w_ (b_ (h:=zC (e_ (h:=zA (wa_ (?_))))))))
 refine c_ (h1:=?_) (h2:=?_)
 rotate_right 1
 focus
  intro c1
  first
  | exact dn c1
  | (
   have d1:=c1;try simp at d1
   refine zX (?_)
   )
 rotate_right 1
 focus
  intro c1
  first
  | exact dn c1
  | (
   have d1:=c1;try simp at d1
   have hw:=zV (i:=i) (by omega);obtain⟨b,hb,e1,g1⟩:=qBv (t:=false) (l:=x.waits) (i:=i) (by omega);have hbw:=zTp (List.mem_of_getElem? hb)
   refine zD (?_)
   )
 all_goals first
 | refine zS ?_
 | (
  refine zA ?_
  refine wa_ (zG (wa_ (zB (w_ (x_ (h:=w_ (l_ (h:=w_ (al (h:=w0 (s_ (h:=zC (e_ (h:=zA (wa_ (zB (?_)))))))))))))))))
  refine w_ (m_ (h:=w_ (m_ (h:=w_ (m_ (h:=w_ (f_ (h:=w_ (l_ (h:=w_ (f_ (h:=w_ (l_ (h:=w_ (f_ (h:=w_ (l_ (h:=w_ (ca (hc:=zUv pl a b.side b.ep b.set hp hk h0 (qBn (by omega))) (h:=w_ (a_ (h:=zC (e_ (h:=?_))))))))))))))))))))))))
  refine zA (wa_ (zB (w_ (m_ (h:=w_ (bE (h:=zC (e_ (h:=zA (?_))))))))))
  refine c_ (h1:=?_) (h2:=?_)
  rotate_right 1
  focus
   intro c2
   first
   | exact dn c2
   | (
    have d2:=c2;try simp at d2
    refine zD (?_)
    )
  rotate_right 1
  focus
   intro c2
   first
   | exact dn c2
   | (
    have d2:=c2;try simp at d2
    refine wa_ (zB (w_ (m_ (h:=w_ (a_ (h:=zC (e_ (h:=zA (zH (?_))))))))))
    )
  all_goals first|refine zJ ?_|refine zY ?_
  all_goals first
  | refine zL ?_
  | (
   refine zA ?_
   refine zB (w_ (b_ (h:=w_ (m_ (h:=zC (e_ (h:=?_)))))))
   )
  )
 all_goals first
 | (refine(ih (i+1) (by omega) ?_ _ ?_).trans ?_;(focus (first|omega|(simp;done)|(simp;omega)));(focus (simp[zI,hw];done));(focus (rw[e1,qHk d2])))
 | (apply zM (ex:=Ext.ret) 4 (some [7,8,9]);(focus (simp[zI];rfl));(focus (rw[e1,qL6 d2];simp[d2])))
 | (apply zM (ex:=(Ext.exit 0)) 4 (some [7,8,9]);(focus (simp[zI];rfl));(focus (rw[List.drop_eq_nil_of_le (by omega)];simp[zR5])))
theorem zW2 (pl:List Nd) (a:Int) (x:Hd) (hp:pl.length<2000000) (hk:okN pl) (hc:zRk pl a=0) (hx:zXq x<2000000):oc.call 141 [.lst false 0 (nds false 0 pl),.lst false 0 (ints (yS pl)),.int .i64 a,x.v false]=some (.int .i64 (zHx pl a x),[]):=by
 refine qD rfl qJd rfl rfl rfl (by simp;rfl) (by simp;rfl) ?_
 obtain⟨k1,k2,k3⟩:=zPi hc
 obtain⟨d,hd,g1⟩:=zWx k2 k3
 obtain⟨o1,o2,o3⟩:=qLd hk k1 k2 hd
 have hl:=(zC0 hk k1).2.1
 obtain⟨hx1,hx2,hx3⟩:=qCv hx
 have hlA:=zD1 (l:=x.oldA)
 have hlB:=zD1 (l:=x.oldB)
 have hlW:=zKl (l:=x.waits)
 have hA0:(x.oldA=[])=(x.oldA.length=0):=by simp
 have hB0:(x.oldB=[])=(x.oldB.length=0):=by simp
 have hW0:(x.waits=[])=(x.waits.length=0):=by simp
 have hs1:IntKind.i64.wrap ((x.oldA.length:Int)+x.oldB.length)=x.oldA.length+x.oldB.length:=qH (by omega) (by omega)
 have hs2:IntKind.i64.wrap (IntKind.i64.wrap ((x.oldA.length:Int)+x.oldB.length)+x.waits.length)=x.oldA.length+x.oldB.length+x.waits.length:=by rw[hs1];exact qH (by omega) (by omega)
 refine wa_ (zB (w_ (bx (h:=w_ (a_ (h:=zC (e_ (h:=zA (wa_ (zB (w_ (m_ (h:=w_ (m_ (h:=w_ (x_ (h:=w_ (l_ (h:=?_)))))))))))))))))))
 refine w_ (al (h:=w0 (s_ (h:=zC (e_ (h:=zA (wa_ (wa_ (zB (w_ (l_ (h:=w_ (ca (hc:=zOd d) (h:=zC (e_ (h:=zA (?_)))))))))))))))))
 refine c_ (h1:=?_) (h2:=?_)
 rotate_right 1
 focus
  intro c1
  first
  | exact dn c1
  | (
   have d1:=c1;try simp at d1
   have ho1:d.op≠1:=(by intro e;simp[zL4,e] at d1);have hA:=o2 ho1;have g2:=kC (w:=yS pl) hA.1 (by omega)
   refine zD (?_)
   )
 rotate_right 1
 focus
  intro c1
  first
  | exact dn c1
  | (
   have d1:=c1;try simp at d1
   refine wa_ (wa_ (zB (w_ (f_ (h:=w_ (l_ (h:=w_ (le (h:=w_ (f_ (h:=w_ (l_ (h:=w_ (le (h:=w_ (b_ (h:=w_ (f_ (h:=w_ (l_ (h:=?_)))))))))))))))))))))
   refine w_ (le (h:=w_ (b_ (h:=w_ (b_ (h:=w_ (m_ (h:=?_))))))))
   refine gw_ (h1:=?_) (h2:=?_)
   rotate_right 1
   focus
    intro c2
    first
    | exact dn c2
    | (
     have d2:=c2;try simp at d2
     refine go_ (h:=go_ (h:=go_ (h:=?_)))
     )
   rotate_right 1
   focus
    intro c2
    first
    | exact dn c2
    | (
     have d2:=c2;try simp at d2
     refine g_ (h:=w_ (f_ (h:=g_ (h:=w_ (l_ (h:=g_ (h:=w_ (bE (h:=?_)))))))))
     )
   all_goals
    refine w_ (pk (h:=zC (e_ (h:=?_))))
   all_goals first
   | (
    refine zA ?_
    refine c_ (h1:=?_) (h2:=?_)
    rotate_right 1
    focus
     intro c3
     first
     | exact dn c3
     | (
      have d3:=c3;try simp at d3
      refine zD (?_)
      )
    rotate_right 1
    focus
     intro c3
     first
     | exact dn c3
     | (
      have d3:=c3;try simp at d3
      refine wa_ (zB (w_ (a_ (h:=zC (e_ (h:=zA (zH (?_))))))))
      )
    )
   all_goals first
   | refine zL ?_
   | (
    refine zA ?_
    refine wa_ (zB (w_ (a_ (h:=zC (e_ (h:=zA (zH (?_))))))))
    )
   )
 all_goals first
 | refine zL ?_
 | (
  refine zA ?_
  refine wa_ (wa_ (qE (y_ (f_ (h:=ax_ (h:=y_ (l_ (h:=ax_ (h:=y_ (m_ (h:=ax_ (h:=y_ (f_ (h:=ax_ (h:=y_ (l_ (h:=ax_ (h:=y_ (x_ (h:=ax_ (h:=y_ (l_ (h:=ax_ (h:=?_))))))))))))))))))))))))
  first|refine y_ (ca (hc:=zH8 x.oldA _ hx1) (h:=?_))|refine y_ (ca (hc:=zH8 x.oldB _ hx2) (h:=?_))
  refine ax_ (h:=y_ (a_ (h:=ax_ (h:=zC (ed (h:=zA (wa_ (zB (w_ (m_ (h:=w_ (bE (h:=zC (e_ (h:=zA (?_))))))))))))))))
  refine c_ (h1:=?_) (h2:=?_)
  rotate_right 1
  focus
   intro c4
   first
   | exact dn c4
   | (
    have d4:=c4;try simp at d4
    refine zD (?_)
    )
  rotate_right 1
  focus
   intro c4
   first
   | exact dn c4
   | (
    have d4:=c4;try simp at d4
    refine wa_ (zB (w_ (m_ (h:=w_ (a_ (h:=zC (e_ (h:=zA (zH (?_))))))))))
    )
  all_goals first
  | refine zL ?_
  | (
   refine zA ?_
   refine wa_ (wa_ (zB (w_ (f_ (h:=w_ (l_ (h:=w_ (ca (hc:=zSu _) (h:=zC (e_ (h:=zA (?_))))))))))))
   refine c_ (h1:=?_) (h2:=?_)
   rotate_right 1
   focus
    intro c5
    first
    | exact dn c5
    | (
     have d5:=c5;try simp at d5
     refine wa_ (zB (w_ (f_ (h:=w_ (l_ (h:=w_ (le (h:=w_ (b_ (h:=zC (e_ (h:=zA (?_)))))))))))))
     refine c_ (h1:=?_) (h2:=?_)
     rotate_right 1
     focus
      intro c6
      first
      | exact dn c6
      | (
       have d6:=c6;try simp at d6
       refine zD (?_)
       )
     rotate_right 1
     focus
      intro c6
      first
      | exact dn c6
      | (
       have d6:=c6;try simp at d6
       refine wa_ (zB (w_ (a_ (h:=zC (e_ (h:=zA (zH (?_))))))))
       )
     )
   rotate_right 1
   focus
    intro c5
    first
    | exact dn c5
    | (
     have d5:=c5;try simp at d5
     have hB:=o3 d5;have g3:=kC (w:=yS pl) hB.1 (by omega)
     refine wa_ (qE (y_ (f_ (h:=ax_ (h:=y_ (l_ (h:=ax_ (h:=y_ (m_ (h:=ax_ (h:=y_ (f_ (h:=ax_ (h:=y_ (l_ (h:=ax_ (h:=y_ (x_ (h:=ax_ (h:=y_ (l_ (h:=ax_ (h:=?_)))))))))))))))))))))))
     first|refine y_ (ca (hc:=zH8 x.oldA _ hx1) (h:=?_))|refine y_ (ca (hc:=zH8 x.oldB _ hx2) (h:=?_))
     refine ax_ (h:=y_ (a_ (h:=ax_ (h:=zC (ed (h:=zA (wa_ (zB (w_ (m_ (h:=w_ (bE (h:=zC (e_ (h:=zA (?_))))))))))))))))
     refine c_ (h1:=?_) (h2:=?_)
     rotate_right 1
     focus
      intro c7
      first
      | exact dn c7
      | (
       have d7:=c7;try simp at d7
       refine zD (?_)
       )
     rotate_right 1
     focus
      intro c7
      first
      | exact dn c7
      | (
       have d7:=c7;try simp at d7
       refine wa_ (zB (w_ (m_ (h:=w_ (a_ (h:=zC (e_ (h:=zA (zH (?_))))))))))
       )
     )
   all_goals first
   | refine zL ?_
   | (
    refine zA ?_
    refine wa_ (wa_ (zB (w_ (f_ (h:=w_ (l_ (h:=w_ (bE (h:=w_ (m_ (h:=?_)))))))))))
    refine gw_ (h1:=?_) (h2:=?_)
    rotate_right 1
    focus
     intro c8
     first
     | exact dn c8
     | (
      have d8:=c8;try simp at d8
      refine go_ (h:=go_ (h:=go_ (h:=go_ (h:=?_))))
      )
    rotate_right 1
    focus
     intro c8
     first
     | exact dn c8
     | (
      have d8:=c8;try simp at d8
      refine g_ (h:=w_ (f_ (h:=g_ (h:=w_ (l_ (h:=g_ (h:=w_ (le (h:=g_ (h:=w_ (b_ (h:=?_))))))))))))
      )
    all_goals
     refine w_ (pk (h:=zC (e_ (h:=?_))))
    all_goals first
    | (
     refine zA ?_
     refine c_ (h1:=?_) (h2:=?_)
     rotate_right 1
     focus
      intro c9
      first
      | exact dn c9
      | (
       have d9:=c9;try simp at d9
       refine zD (?_)
       )
     rotate_right 1
     focus
      intro c9
      first
      | exact dn c9
      | (
       have d9:=c9;try simp at d9
       refine wa_ (zB (w_ (a_ (h:=zC (e_ (h:=zA (zH (?_))))))))
       )
     )
    all_goals first
    | refine zL ?_
    | (
     refine zA ?_
     refine wa_ (wa_ (zB (w_ (f_ (h:=w_ (l_ (h:=w_ (le (h:=w_ (b_ (h:=zC (e_ (h:=zA (?_))))))))))))))
     refine c_ (h1:=?_) (h2:=?_)
     rotate_right 1
     focus
      intro c10
      first
      | exact dn c10
      | (
       have d10:=c10;try simp at d10
       refine zD (?_)
       )
     rotate_right 1
     focus
      intro c10
      first
      | exact dn c10
      | (
       have d10:=c10;try simp at d10
       refine wa_ (zB (w_ (a_ (h:=zC (e_ (h:=zA (zH (?_))))))))
       )
     all_goals first
     | refine zL ?_
     | (
      refine zA ?_
      refine wa_ (wa_ (zB (w_ (f_ (h:=w_ (l_ (h:=w_ (le (h:=w_ (m_ (h:=zC (e_ (h:=zA (zG (?_)))))))))))))))
      refine qR (qKd pl a d x hp hk k1 hx3 0 (by omega) _ (by simp[zI])) ?_ ?_
      rotate_right 1
      focus
       intro c11
       first
       | exact dn c11
       | (
        have d11:=c11;try simp at d11
        skip
        )
      rotate_right 1
      focus
       intro c11
       first
       | exact dn c11
       | (
        have d11:=c11;try simp at d11
        skip
        )
      all_goals first|refine zY ?_|refine zT ?_
      all_goals first
      | refine zL ?_
      | (
       refine zA ?_
       refine wa_ (wa_ (zB (w_ (f_ (h:=w_ (l_ (h:=w_ (ca (hc:=zDz _ _ _) (h:=w_ (u_ (h:=w_ (m_ (h:=?_)))))))))))))
       refine gw_ (h1:=?_) (h2:=?_)
       rotate_right 1
       focus
        intro c12
        first
        | exact dn c12
        | (
         have d12:=c12;try simp at d12
         refine go_ (h:=go_ (h:=go_ (h:=go_ (h:=?_))))
         )
       rotate_right 1
       focus
        intro c12
        first
        | exact dn c12
        | (
         have d12:=c12;try simp at d12
         refine g_ (h:=w_ (f_ (h:=g_ (h:=w_ (l_ (h:=g_ (h:=w_ (bE (h:=g_ (h:=w_ (m_ (h:=?_))))))))))))
         )
       all_goals
        first
        | (
         skip
         refine goN (h:=goN (h:=goN (h:=?_)))
         )
        | (
         refine gw_ (h1:=?_) (h2:=?_)
         rotate_right 1
         focus
          intro c13
          first
          | exact dn c13
          | (
           have d13:=c13;try simp at d13
           refine go_ (h:=go_ (h:=go_ (h:=?_)))
           )
         rotate_right 1
         focus
          intro c13
          first
          | exact dn c13
          | (
           have d13:=c13;try simp at d13
           refine g_ (h:=w_ (f_ (h:=g_ (h:=w_ (l_ (h:=g_ (h:=w_ (bE (h:=?_)))))))))
           )
         )
        all_goals
         first
         | (
          skip
          refine g_ (h:=w_ (pk (h:=?_)))
          )
         | (
          skip
          refine go_ (h:=?_)
          )
         all_goals
          refine w_ (pk (h:=zC (e_ (h:=?_))))
       all_goals first
       | (
        refine zA ?_
        refine c_ (h1:=?_) (h2:=?_)
        rotate_right 1
        focus
         intro c14
         first
         | exact dn c14
         | (
          have d14:=c14;try simp at d14
          refine zD (?_)
          )
        rotate_right 1
        focus
         intro c14
         first
         | exact dn c14
         | (
          have d14:=c14;try simp at d14
          refine wa_ (zB (w_ (a_ (h:=zC (e_ (h:=zA (zH (?_))))))))
          )
        )
       all_goals first
       | refine zL ?_
       | (
        refine zA ?_
        refine wa_ (zB (w_ (a_ (h:=zC (e_ (h:=zA (zH (?_))))))))
        )
       )
      )
     )
    )
   )
  )
 all_goals (refine qZ (hr:=(zR rfl zO)) (h:=?_);(focus (have hnd:=zBs hd;clear hk hx hx1 hx2 hx3 hd g1 o1 o2 o3 hl;simp only[zHx,qGq,hnd];simp<;>grind)))
def zNk (pl:List Nd):List Fr→Int
 | []=>0
 | f::r=>if frC pl f=0 then(if f.kind=1 then zNk pl r else 1) else frC pl f
theorem qK0 {pl:List Nd} {f:Fr} {r:List Fr} (h:frC pl f=0) (h2:f.kind=1):zNk pl (f::r)=zNk pl r:=by rw[zNk,if_pos h,if_pos h2]
theorem qIo {pl:List Nd} {f:Fr} {r:List Fr} (h:frC pl f=0) (h2:¬f.kind=1):zNk pl (f::r)=1:=by rw[zNk,if_pos h,if_neg h2]
theorem qHs {pl:List Nd} {f:Fr} {r:List Fr} (h:¬frC pl f=0):zNk pl (f::r)=frC pl f:=by rw[zNk,if_neg h]
def zR6 (pl:List Nd):Nat→List Hd→Int
 | _,[]=>0
 | k,h::r=>if zHx pl k h=0 then zR6 pl (k+1) r else zHx pl k h
theorem zYn {pl:List Nd} {k:Nat} {h:Hd} {r:List Hd} (e:zHx pl k h=0):zR6 pl k (h::r)=zR6 pl (k+1) r:=by rw[zR6,if_pos e]
theorem qGn {pl:List Nd} {k:Nat} {h:Hd} {r:List Hd} (e:¬zHx pl k h=0):zR6 pl k (h::r)=zHx pl k h:=by rw[zR6,if_neg e]
def zF3 (pl:List Nd) (o:Rl):Bool:=inI o.node 0 ((pl.length:Int) - 1)&&(decide ((zLo pl o.node).op=12)&&inI o.ep 0 19)
theorem zPa {pl:List Nd} {o:Rl} (h:zF3 pl o=true):0≤o.node∧o.node<pl.length:=by
 simp[zF3,inI] at h;omega
def zQ8 (pl:List Nd):List Rl→Int
 | []=>0
 | o::r=>if zF3 pl o=true then(if zQs o.set (at0 (yS pl) o.node)=0 then zQ8 pl r else zQs o.set (at0 (yS pl) o.node)) else 3
theorem qFt {pl:List Nd} {o:Rl} {r:List Rl} (h:zF3 pl o=true) (h2:zQs o.set (at0 (yS pl) o.node)=0):zQ8 pl (o::r)=zQ8 pl r:=by rw[zQ8,if_pos h,if_pos h2]
theorem qFo {pl:List Nd} {o:Rl} {r:List Rl} (h:zF3 pl o=true) (h2:¬zQs o.set (at0 (yS pl) o.node)=0):zQ8 pl (o::r)=zQs o.set (at0 (yS pl) o.node):=by rw[zQ8,if_pos h,if_neg h2]
theorem qHh {pl:List Nd} {o:Rl} {r:List Rl} (h:zF3 pl o=false):zQ8 pl (o::r)=3:=by rw[zQ8,if_neg (by simp[h])]
def wkC (pl:List Nd) (w:Wk):Int :=
 if 60<w.inbox.length∨400<w.outs.length then 2
 else if zNk pl w.inbox=0 then(if zPd pl w.counts=0 then(if w.nodes.length=pl.length then(if zR6 pl 0 w.nodes=0 then(if inI w.top 0 20=true∧(w.ep=-1∨w.ep=w.top) then zQ8 pl w.outs else 3) else zR6 pl 0 w.nodes) else 2) else zPd pl w.counts)
 else zNk pl w.inbox
theorem qBh {w:Wk} (h:zQx w<2000000):zEe w.inbox<2000000∧w.counts.length<2000000∧zIq w.nodes<2000000∧zJn w.outs<2000000:=by unfold zQx at h;omega
theorem qB3 {b:Rl} (hb:qHg b<2000000):zA0 b.set<2000000:=by unfold qHg at hb;omega
theorem l_wk1 (pl:List Nd) (w:Wk) (hp:pl.length<2000000) (hk:okN pl) (h0:(jS pl).2=0) (hx:zEe w.inbox<2000000):∀i:Nat,(i≤w.inbox.length)→∀s,zI 3 (some [0,1,5,28,29,30]) s=⟨[(0,.lst false 0 (nds false 0 pl)),(1,.lst false 0 (ints (yS pl))),(5,.ptr 3 0 []),(28,.lst false 0 (frs false w.inbox)),(29,.int .i64 w.inbox.length),(30,.int .i64 i)],[(3,⟨true,false,7,[w.v false],0⟩)],4⟩ →
 oc.loop 73 4 s=some (if zNk pl (w.inbox.drop i)=0 then(.exit 0,⟨[(0,.lst false 0 (nds false 0 pl)),(1,.lst false 0 (ints (yS pl))),(5,.ptr 3 0 [])],[(3,⟨true,false,7,[w.v false],0⟩)],4⟩) else(.ret,⟨[(0,.lst false 0 (nds false 0 pl)),(1,.lst false 0 (ints (yS pl))),(5,.ptr 3 0 []),(6,.int .i64 (zNk pl (w.inbox.drop i)))],[(3,⟨true,false,7,[w.v false],0⟩)],4⟩)):=by
 refine zW (σ:=Nat) (fun i=>w.inbox.length - i) _ (fun i=>⟨[(0,.lst false 0 (nds false 0 pl)),(1,.lst false 0 (ints (yS pl))),(5,.ptr 3 0 []),(28,.lst false 0 (frs false w.inbox)),(29,.int .i64 w.inbox.length),(30,.int .i64 i)],[(3,⟨true,false,7,[w.v false],0⟩)],4⟩) _ ?_
 intro i hi ih s hs
 refine qB cd73 rfl rfl hs ?_
 have hlen:=xV (l:=w.inbox)
 refine wa_ (zB (w_ (b_ (h:=zC (e_ (h:=zA (wa_ (?_))))))))
 refine c_ (h1:=?_) (h2:=?_)
 rotate_right 1
 focus
  intro c1
  first
  | exact dn c1
  | (
   have d1:=c1;try simp at d1
   refine zX (?_)
   )
 rotate_right 1
 focus
  intro c1
  first
  | exact dn c1
  | (
   have d1:=c1;try simp at d1
   have hw:=zV (i:=i) (by omega);obtain⟨b,hb,e1,g1⟩:=zI7 (t:=false) (l:=w.inbox) (i:=i) (by omega);have hbw:=zJw (List.mem_of_getElem? hb)
   refine zD (?_)
   )
 all_goals first
 | refine zS ?_
 | (
  refine zA ?_
  refine wa_ (zG (wa_ (zB (w_ (x_ (h:=w_ (l_ (h:=w_ (al (h:=w0 (s_ (h:=zC (e_ (h:=zA (wa_ (wa_ (?_)))))))))))))))))
  refine zB (w_ (m_ (h:=w_ (m_ (h:=w_ (l_ (h:=w_ (ca (hc:=zZe pl b hp hk h0 (by omega)) (h:=w_ (a_ (h:=zC (e_ (h:=zA (wa_ (zB (w_ (m_ (h:=w_ (bE (h:=?_))))))))))))))))))))
  refine zC (e_ (h:=zA (?_)))
  refine c_ (h1:=?_) (h2:=?_)
  rotate_right 1
  focus
   intro c2
   first
   | exact dn c2
   | (
    have d2:=c2;try simp at d2
    refine zD (?_)
    )
  rotate_right 1
  focus
   intro c2
   first
   | exact dn c2
   | (
    have d2:=c2;try simp at d2
    refine wa_ (zB (w_ (m_ (h:=w_ (a_ (h:=zC (e_ (h:=zA (zH (?_))))))))))
    )
  all_goals first
  | refine zL ?_
  | (
   refine zA ?_
   refine wa_ (zB (w_ (f_ (h:=w_ (l_ (h:=w_ (bE (h:=zC (e_ (h:=zA (?_)))))))))))
   refine c_ (h1:=?_) (h2:=?_)
   rotate_right 1
   focus
    intro c3
    first
    | exact dn c3
    | (
     have d3:=c3;try simp at d3
     refine zD (?_)
     )
   rotate_right 1
   focus
    intro c3
    first
    | exact dn c3
    | (
     have d3:=c3;try simp at d3
     refine wa_ (zB (w_ (a_ (h:=zC (e_ (h:=zA (zH (?_))))))))
     )
   )
  all_goals first|refine zJ ?_|refine zY ?_
  all_goals first
  | refine zL ?_
  | (
   refine zA ?_
   refine zB (w_ (b_ (h:=w_ (m_ (h:=zC (e_ (h:=?_)))))))
   )
  )
 all_goals first
 | (refine(ih (i+1) (by omega) ?_ _ ?_).trans ?_;(focus (first|omega|(simp;done)|(simp;omega)));(focus (simp[zI,hw];done));(focus (rw[e1,qK0 d2 d3])))
 | (apply zM (ex:=Ext.ret) 3 (some [0,1,5,6]);(focus (simp[zI];rfl));(focus (rw[e1,qHs d2];simp[d2])))
 | (apply zM (ex:=Ext.ret) 3 (some [0,1,5,6]);(focus (simp[zI];rfl));(focus (rw[e1,qIo d2 d3];simp)))
 | (apply zM (ex:=(Ext.exit 0)) 3 (some [0,1,5,6]);(focus (simp[zI];rfl));(focus (rw[List.drop_eq_nil_of_le (by omega)];simp[zNk])))
theorem l_wk2 (pl:List Nd) (w:Wk) (hp:pl.length<2000000) (hk:okN pl) (h0:(jS pl).2=0) (hx:zIq w.nodes<2000000) (hl:w.nodes.length=pl.length):∀i:Nat,(i≤w.nodes.length)→∀s,zI 3 (some [0,1,5,59,60,61]) s=⟨[(0,.lst false 0 (nds false 0 pl)),(1,.lst false 0 (ints (yS pl))),(5,.ptr 3 0 []),(59,.lst false 0 (hds false w.nodes)),(60,.int .i64 w.nodes.length),(61,.int .i64 i)],[(3,⟨true,false,7,[w.v false],0⟩)],4⟩ →
 oc.loop 73 18 s=some (if zR6 pl i (w.nodes.drop i)=0 then(.exit 2,⟨[(0,.lst false 0 (nds false 0 pl)),(1,.lst false 0 (ints (yS pl))),(5,.ptr 3 0 [])],[(3,⟨true,false,7,[w.v false],0⟩)],4⟩) else(.ret,⟨[(0,.lst false 0 (nds false 0 pl)),(1,.lst false 0 (ints (yS pl))),(5,.ptr 3 0 []),(6,.int .i64 (zR6 pl i (w.nodes.drop i)))],[(3,⟨true,false,7,[w.v false],0⟩)],4⟩)):=by
 refine zW (σ:=Nat) (fun i=>w.nodes.length - i) _ (fun i=>⟨[(0,.lst false 0 (nds false 0 pl)),(1,.lst false 0 (ints (yS pl))),(5,.ptr 3 0 []),(59,.lst false 0 (hds false w.nodes)),(60,.int .i64 w.nodes.length),(61,.int .i64 i)],[(3,⟨true,false,7,[w.v false],0⟩)],4⟩) _ ?_
 intro i hi ih s hs
 refine qB cd73 rfl rfl hs ?_
 have hlen:=zKr (l:=w.nodes)
 refine wa_ (zB (w_ (b_ (h:=zC (e_ (h:=zA (wa_ (?_))))))))
 refine c_ (h1:=?_) (h2:=?_)
 rotate_right 1
 focus
  intro c1
  first
  | exact dn c1
  | (
   have d1:=c1;try simp at d1
   refine zX (?_)
   )
 rotate_right 1
 focus
  intro c1
  first
  | exact dn c1
  | (
   have d1:=c1;try simp at d1
   have hw:=zV (i:=i) (by omega);obtain⟨b,hb,e1,g1⟩:=qC7 (t:=false) (l:=w.nodes) (i:=i) (by omega);have hbw:=zSv (List.mem_of_getElem? hb);have hnc:zRk pl i=0:=(by unfold zRk;rw[if_pos h0,if_pos (by simp[inI];omega)])
   refine zD (?_)
   )
 all_goals first
 | refine zS ?_
 | (
  refine zA ?_
  refine wa_ (zG (wa_ (zB (w_ (m_ (h:=w_ (x_ (h:=w_ (l_ (h:=w_ (al (h:=w_ (a_ (h:=w0 (s_ (h:=zC (e_ (h:=zA (?_)))))))))))))))))))
  refine wa_ (zB (w_ (m_ (h:=w_ (m_ (h:=w_ (m_ (h:=w_ (l_ (h:=w_ (ca (hc:=zW2 pl i b hp hk hnc (by omega)) (h:=w_ (a_ (h:=zC (e_ (h:=zA (wa_ (zB (?_)))))))))))))))))))
  refine w_ (m_ (h:=w_ (bE (h:=zC (e_ (h:=zA (?_)))))))
  refine c_ (h1:=?_) (h2:=?_)
  rotate_right 1
  focus
   intro c2
   first
   | exact dn c2
   | (
    have d2:=c2;try simp at d2
    refine zD (?_)
    )
  rotate_right 1
  focus
   intro c2
   first
   | exact dn c2
   | (
    have d2:=c2;try simp at d2
    refine wa_ (zB (w_ (m_ (h:=w_ (a_ (h:=zC (e_ (h:=zA (zH (?_))))))))))
    )
  all_goals first|refine zJ ?_|refine zY ?_
  all_goals first
  | refine zL ?_
  | (
   refine zA ?_
   refine zB (w_ (b_ (h:=w_ (m_ (h:=zC (e_ (h:=?_)))))))
   )
  )
 all_goals first
 | (refine(ih (i+1) (by omega) ?_ _ ?_).trans ?_;(focus (first|omega|(simp;done)|(simp;omega)));(focus (simp[zI,hw];done));(focus (rw[e1,zYn d2])))
 | (apply zM (ex:=Ext.ret) 3 (some [0,1,5,6]);(focus (simp[zI];rfl));(focus (rw[e1,qGn d2];simp[d2])))
 | (apply zM (ex:=(Ext.exit 2)) 3 (some [0,1,5,6]);(focus (simp[zI];rfl));(focus (rw[List.drop_eq_nil_of_le (by omega)];simp[zR6])))
theorem l_wk3 (pl:List Nd) (w:Wk) (hp:pl.length<2000000) (hk:okN pl) (h0:(jS pl).2=0) (hx:zJn w.outs<2000000):∀i:Nat,(i≤w.outs.length)→∀s,zI 3 (some [0,1,92,93,94]) s=⟨[(0,.lst false 0 (nds false 0 pl)),(1,.lst false 0 (ints (yS pl))),(92,.lst false 0 (rls false w.outs)),(93,.int .i64 w.outs.length),(94,.int .i64 i)],[],3⟩ →
 oc.loop 73 27 s=some (if zQ8 pl (w.outs.drop i)=0 then(.exit 4,⟨[],[],3⟩) else(.ret,⟨[(6,.int .i64 (zQ8 pl (w.outs.drop i)))],[],3⟩)):=by
 refine zW (σ:=Nat) (fun i=>w.outs.length - i) _ (fun i=>⟨[(0,.lst false 0 (nds false 0 pl)),(1,.lst false 0 (ints (yS pl))),(92,.lst false 0 (rls false w.outs)),(93,.int .i64 w.outs.length),(94,.int .i64 i)],[],3⟩) _ ?_
 intro i hi ih s hs
 refine qB cd73 rfl rfl hs ?_
 have hlen:=zLd (l:=w.outs)
 have hwl:IntKind.i64.wrap ((pl.length:Int) - 1)=pl.length - 1:=qH (by omega) (by omega)
 have hll:=(zC0 hk h0).2.1
 refine wa_ (zB (w_ (b_ (h:=zC (e_ (h:=zA (wa_ (?_))))))))
 refine c_ (h1:=?_) (h2:=?_)
 rotate_right 1
 focus
  intro c1
  first
  | exact dn c1
  | (
   have d1:=c1;try simp at d1
   refine zX (?_)
   )
 rotate_right 1
 focus
  intro c1
  first
  | exact dn c1
  | (
   have d1:=c1;try simp at d1
   have hw:=zV (i:=i) (by omega);obtain⟨b,hb,e1,g1⟩:=qD7 (t:=false) (l:=w.outs) (i:=i) (by omega);have hbw:=zSy (List.mem_of_getElem? hb)
   refine zD (?_)
   )
 all_goals first
 | refine zS ?_
 | (
  refine zA ?_
  refine wa_ (zG (wa_ (zB (w_ (x_ (h:=w_ (l_ (h:=w_ (al (h:=w0 (s_ (h:=zC (e_ (h:=zA (wa_ (wa_ (?_)))))))))))))))))
  refine qE (y_ (f_ (h:=ax_ (h:=y_ (l_ (h:=ax_ (h:=y_ (m_ (h:=ax_ (h:=y_ (ca (hc:=zF5 _ _ (by simp;omega)) (h:=ax_ (h:=y_ (b_ (h:=ax_ (h:=y_ (ca (hc:=zDz _ _ _) (h:=ax_ (h:=y_ (u_ (h:=ax_ (h:=y_ (m_ (h:=ax_ (h:=?_)))))))))))))))))))))))))
  refine gw_ (h1:=?_) (h2:=?_)
  rotate_right 1
  focus
   intro c2
   first
   | exact dn c2
   | (
    have d2:=c2;try simp at d2
    refine gd_ (h:=gd_ (h:=gd_ (h:=gd_ (h:=gd_ (h:=gd_ (h:=gd_ (h:=?_)))))))
    )
  rotate_right 1
  focus
   intro c2
   first
   | exact dn c2
   | (
    have d2:=c2;try simp at d2
    have hin:0≤b.node∧b.node<pl.length:=(by simp[inI,hwl] at d2;omega);obtain⟨d,hd,g3⟩:=zWx hin.1 hin.2
    refine g_ (h:=y_ (m_ (h:=ax_ (h:=g_ (h:=y_ (f_ (h:=ax_ (h:=g_ (h:=y_ (l_ (h:=ax_ (h:=g_ (h:=y_ (x_ (h:=ax_ (h:=g_ (h:=y_ (f_ (h:=ax_ (h:=g_ (h:=y_ (l_ (h:=ax_ (h:=g_ (h:=y_ (bE (h:=ax_ (h:=?_))))))))))))))))))))))))))))
    )
  all_goals
   refine y_ (pk (h:=ax_ (h:=y_ (m_ (h:=ax_ (h:=?_))))))
   refine gw_ (h1:=?_) (h2:=?_)
   rotate_right 1
   focus
    intro c3
    first
    | exact dn c3
    | (
     have d3:=c3;try simp at d3
     refine gd_ (h:=gd_ (h:=gd_ (h:=gd_ (h:=?_))))
     )
   rotate_right 1
   focus
    intro c3
    first
    | exact dn c3
    | (
     have d3:=c3;try simp at d3
     refine g_ (h:=y_ (f_ (h:=ax_ (h:=g_ (h:=y_ (l_ (h:=ax_ (h:=g_ (h:=y_ (ca (hc:=zDz _ _ _) (h:=ax_ (h:=g_ (h:=y_ (u_ (h:=ax_ (h:=?_))))))))))))))))
     )
   all_goals
    refine y_ (pk (h:=ax_ (h:=zC (ed (h:=?_)))))
  all_goals first
  | (
   refine zA ?_
   refine c_ (h1:=?_) (h2:=?_)
   rotate_right 1
   focus
    intro c4
    first
    | exact dn c4
    | (
     have d4:=c4;try simp at d4
     have hok:zF3 pl b=true:=(by clear ih hs hk hx hbw hlen;simp[zF3,zBs hd,inI,hwl] at *;grind);have g4:=kC (w:=yS pl) (zPa hok).1 (by have:=zPa hok;omega)
     refine zD (?_)
     )
   rotate_right 1
   focus
    intro c4
    first
    | exact dn c4
    | (
     have d4:=c4;try simp at d4
     have hno:zF3 pl b=false:=(by clear ih hs hk hx hbw hlen;first|(simp[zF3,inI,hwl] at *;grind)|(simp[zF3,zBs hd,inI,hwl] at *;grind))
     refine wa_ (zB (w_ (a_ (h:=zC (e_ (h:=zA (zH (?_))))))))
     )
   )
  all_goals first
  | refine zL ?_
  | (
   refine zA ?_
   refine wa_ (qE (y_ (f_ (h:=ax_ (h:=y_ (l_ (h:=ax_ (h:=y_ (m_ (h:=ax_ (h:=y_ (f_ (h:=ax_ (h:=y_ (l_ (h:=ax_ (h:=y_ (x_ (h:=ax_ (h:=y_ (l_ (h:=ax_ (h:=y_ (ca (hc:=zH8 b.set _ (qB3 (by omega))) (h:=ax_ (h:=y_ (a_ (h:=ax_ (h:=zC (ed (h:=?_)))))))))))))))))))))))))))))))
   refine zA (wa_ (zB (w_ (m_ (h:=w_ (bE (h:=zC (e_ (h:=zA (?_))))))))))
   refine c_ (h1:=?_) (h2:=?_)
   rotate_right 1
   focus
    intro c5
    first
    | exact dn c5
    | (
     have d5:=c5;try simp at d5
     refine zD (?_)
     )
   rotate_right 1
   focus
    intro c5
    first
    | exact dn c5
    | (
     have d5:=c5;try simp at d5
     refine wa_ (zB (w_ (m_ (h:=w_ (a_ (h:=zC (e_ (h:=zA (zH (?_))))))))))
     )
   )
  all_goals first|refine zJ ?_|refine zY ?_
  all_goals first
  | refine zL ?_
  | (
   refine zA ?_
   refine zB (w_ (b_ (h:=w_ (m_ (h:=zC (e_ (h:=?_)))))))
   )
  )
 all_goals first
 | (refine(ih (i+1) (by omega) ?_ _ ?_).trans ?_;(focus (first|omega|(simp;done)|(simp;omega)));(focus (simp[zI,hw];done));(focus (rw[e1,qFt hok d5])))
 | (apply zM (ex:=Ext.ret) 3 (some [6]);(focus (simp[zI];rfl));(focus (rw[e1,qFo hok d5];simp[d5])))
 | (apply zM (ex:=Ext.ret) 3 (some [6]);(focus (simp[zI];rfl));(focus (rw[e1,qHh hno];simp)))
 | (apply zM (ex:=(Ext.exit 4)) 3 (some [6]);(focus (simp[zI];rfl));(focus (rw[List.drop_eq_nil_of_le (by omega)];simp[zQ8])))
theorem qFm (pl:List Nd) (w:Wk) (hp:pl.length<2000000) (hk:okN pl) (h0:(jS pl).2=0) (hx:zQx w<2000000):oc.call 73 [.lst false 0 (nds false 0 pl),.lst false 0 (ints (yS pl)),w.v false]=some (.int .i64 (wkC pl w),[]):=by
 refine qD rfl cd73 rfl rfl rfl (by simp;rfl) (by simp;rfl) ?_
 obtain⟨hx1,hx2,hx3,hx4⟩:=qBh hx
 have hl1:=xV (l:=w.inbox)
 have hl3:=zKr (l:=w.nodes)
 have hl4:=zLd (l:=w.outs)
 refine wa_ (zB (w_ (bx (h:=w_ (a_ (h:=zC (e_ (h:=zA (wa_ (wa_ (zB (w_ (f_ (h:=w_ (l_ (h:=w_ (le (h:=?_))))))))))))))))))
 refine w_ (b_ (h:=w_ (m_ (h:=?_))))
 refine gw_ (h1:=?_) (h2:=?_)
 rotate_right 1
 focus
  intro c1
  first
  | exact dn c1
  | (
   have d1:=c1;try simp at d1
   refine go_ (h:=go_ (h:=go_ (h:=go_ (h:=?_))))
   )
 rotate_right 1
 focus
  intro c1
  first
  | exact dn c1
  | (
   have d1:=c1;try simp at d1
   refine g_ (h:=w_ (f_ (h:=g_ (h:=w_ (l_ (h:=g_ (h:=w_ (le (h:=g_ (h:=w_ (b_ (h:=?_))))))))))))
   )
 all_goals
  refine w_ (pk (h:=zC (e_ (h:=?_))))
 all_goals first
 | (
  refine zA ?_
  refine c_ (h1:=?_) (h2:=?_)
  rotate_right 1
  focus
   intro c2
   first
   | exact dn c2
   | (
    have d2:=c2;try simp at d2
    refine zD (?_)
    )
  rotate_right 1
  focus
   intro c2
   first
   | exact dn c2
   | (
    have d2:=c2;try simp at d2
    refine wa_ (zB (w_ (a_ (h:=zC (e_ (h:=zA (zH (?_))))))))
    )
  )
 all_goals first
 | refine zL ?_
 | (
  refine zA ?_
  refine wa_ (wa_ (zB (w_ (f_ (h:=w_ (l_ (h:=w_ (le (h:=w_ (m_ (h:=zC (e_ (h:=zA (zG (?_)))))))))))))))
  refine qR (l_wk1 pl w hp hk h0 hx1 0 (by omega) _ (by simp[zI])) ?_ ?_
  rotate_right 1
  focus
   intro c3
   first
   | exact dn c3
   | (
    have d3:=c3;try simp at d3
    skip
    )
  rotate_right 1
  focus
   intro c3
   first
   | exact dn c3
   | (
    have d3:=c3;try simp at d3
    skip
    )
  all_goals first|refine zY ?_|refine zT ?_
  all_goals first
  | refine zL ?_
  | (
   refine zA ?_
   refine wa_ (wa_ (zB (w_ (m_ (h:=w_ (f_ (h:=w_ (l_ (h:=w_ (ca (hc:=zYs pl w.counts hp) (h:=w_ (a_ (h:=zC (e_ (h:=zA (wa_ (zB (?_))))))))))))))))))
   refine w_ (m_ (h:=w_ (bE (h:=zC (e_ (h:=zA (?_)))))))
   refine c_ (h1:=?_) (h2:=?_)
   rotate_right 1
   focus
    intro c4
    first
    | exact dn c4
    | (
     have d4:=c4;try simp at d4
     refine zD (?_)
     )
   rotate_right 1
   focus
    intro c4
    first
    | exact dn c4
    | (
     have d4:=c4;try simp at d4
     refine wa_ (zB (w_ (m_ (h:=w_ (a_ (h:=zC (e_ (h:=zA (zH (?_))))))))))
     )
   all_goals first
   | refine zL ?_
   | (
    refine zA ?_
    refine wa_ (wa_ (zB (w_ (f_ (h:=w_ (l_ (h:=w_ (le (h:=w_ (m_ (h:=w_ (le (h:=w_ (bE (h:=zC (e_ (h:=zA (?_))))))))))))))))))
    refine c_ (h1:=?_) (h2:=?_)
    rotate_right 1
    focus
     intro c5
     first
     | exact dn c5
     | (
      have d5:=c5;try simp at d5
      refine zD (?_)
      )
    rotate_right 1
    focus
     intro c5
     first
     | exact dn c5
     | (
      have d5:=c5;try simp at d5
      refine wa_ (zB (w_ (a_ (h:=zC (e_ (h:=zA (zH (?_))))))))
      )
    all_goals first
    | refine zL ?_
    | (
     refine zA ?_
     refine wa_ (wa_ (zB (w_ (f_ (h:=w_ (l_ (h:=w_ (le (h:=w_ (m_ (h:=zC (e_ (h:=zA (zG (?_)))))))))))))))
     refine qR (l_wk2 pl w hp hk h0 hx3 (by omega) 0 (by omega) _ (by simp[zI])) ?_ ?_
     rotate_right 1
     focus
      intro c6
      first
      | exact dn c6
      | (
       have d6:=c6;try simp at d6
       skip
       )
     rotate_right 1
     focus
      intro c6
      first
      | exact dn c6
      | (
       have d6:=c6;try simp at d6
       skip
       )
     all_goals first|refine zY ?_|refine zT ?_
     all_goals first
     | refine zL ?_
     | (
      refine zA ?_
      refine wa_ (wa_ (zB (w_ (f_ (h:=w_ (l_ (h:=w_ (ca (hc:=zDz _ _ _) (h:=w_ (u_ (h:=w_ (m_ (h:=?_)))))))))))))
      refine gw_ (h1:=?_) (h2:=?_)
      rotate_right 1
      focus
       intro c7
       first
       | exact dn c7
       | (
        have d7:=c7;try simp at d7
        refine go_ (h:=go_ (h:=go_ (h:=go_ (h:=?_))))
        )
      rotate_right 1
      focus
       intro c7
       first
       | exact dn c7
       | (
        have d7:=c7;try simp at d7
        refine g_ (h:=w_ (f_ (h:=g_ (h:=w_ (l_ (h:=g_ (h:=w_ (bE (h:=g_ (h:=w_ (m_ (h:=?_))))))))))))
        )
      all_goals
       first
       | (
        skip
        refine goN (h:=goN (h:=goN (h:=goN (h:=goN (h:=?_)))))
        )
       | (
        refine gw_ (h1:=?_) (h2:=?_)
        rotate_right 1
        focus
         intro c8
         first
         | exact dn c8
         | (
          have d8:=c8;try simp at d8
          refine go_ (h:=go_ (h:=go_ (h:=go_ (h:=go_ (h:=?_)))))
          )
        rotate_right 1
        focus
         intro c8
         first
         | exact dn c8
         | (
          have d8:=c8;try simp at d8
          refine g_ (h:=w_ (f_ (h:=g_ (h:=w_ (l_ (h:=g_ (h:=w_ (f_ (h:=g_ (h:=w_ (l_ (h:=g_ (h:=w_ (bE (h:=?_)))))))))))))))
          )
        )
       all_goals
        first
        | (
         skip
         refine g_ (h:=w_ (pk (h:=?_)))
         )
        | (
         skip
         refine go_ (h:=?_)
         )
        all_goals
         refine w_ (pk (h:=zC (e_ (h:=?_))))
      all_goals first
      | (
       refine zA ?_
       refine c_ (h1:=?_) (h2:=?_)
       rotate_right 1
       focus
        intro c9
        first
        | exact dn c9
        | (
         have d9:=c9;try simp at d9
         refine zD (?_)
         )
       rotate_right 1
       focus
        intro c9
        first
        | exact dn c9
        | (
         have d9:=c9;try simp at d9
         refine wa_ (zB (w_ (a_ (h:=zC (e_ (h:=zA (zH (?_))))))))
         )
       )
      all_goals first
      | refine zL ?_
      | (
       refine zA ?_
       refine wa_ (wa_ (zB (w_ (f_ (h:=w_ (l_ (h:=w_ (le (h:=w_ (m_ (h:=zC (e_ (h:=zA (zG (?_)))))))))))))))
       refine qR (l_wk3 pl w hp hk h0 hx4 0 (by omega) _ (by simp[zI])) ?_ ?_
       rotate_right 1
       focus
        intro c10
        first
        | exact dn c10
        | (
         have d10:=c10;try simp at d10
         skip
         )
       rotate_right 1
       focus
        intro c10
        first
        | exact dn c10
        | (
         have d10:=c10;try simp at d10
         skip
         )
       all_goals first|refine zY ?_|refine zT ?_
       all_goals first
       | refine zL ?_
       | (
        refine zA ?_
        refine wa_ (zB (w_ (a_ (h:=zC (e_ (h:=zA (zH (?_))))))))
        )
       )
      )
     )
    )
   )
  )
 all_goals (refine qZ (hr:=(zR rfl zO)) (h:=?_);(focus (clear hk hx hx1 hx2 hx3 hx4;simp only[wkC];simp at * <;> grind)))
end Go.Proofs.YtbcgenkegnmkhaaGreat.Ev
namespace Go.Proofs.YtbcgenkegnmkhaaGreat.Ev
open Go
set_option maxRecDepth 100000
set_option linter.unusedSimpArgs false
set_option linter.unusedVariables false
set_option maxHeartbeats 2000000
def zBb (t:Bool) (l:List (List Et)):List V:=l.map fun x=>.lst t (lz t 2) (ets t x)
@[simp] theorem etss_len (t:Bool) (l:List (List Et)):(zBb t l).length=l.length:=by simp[zBb]
@[simp] theorem etss_nil (t:Bool):zBb t []=[]:=rfl
@[simp] theorem qK2 (t:Bool) (x:List Et) (l:List (List Et)):zBb t (x::l) = .lst t (lz t 2) (ets t x)::zBb t l:=rfl
@[simp] theorem qHq (t:Bool) (l m:List (List Et)):zBb t l++zBb t m=zBb t (l++m):=by simp[zBb]
@[simp] theorem qDz (l:List (List Et)) (x:List Et):zBb true l++[.lst true 2 (ets true x)]=zBb true (l++[x]):=by simp[zBb]
@[simp] theorem qE7 (l:List (List Et)) (x:List Et):zBb false l++[.lst false 0 (ets false x)]=zBb false (l++[x]):=by simp[zBb]
@[simp] theorem qI0 (l:List (List Et)) (i:Nat) (x:List Et):(zBb true l).set i (.lst true 2 (ets true x))=zBb true (l.set i x):=by simp[zBb,List.map_set]
@[simp] theorem qKm (l:List (List Et)) (i:Nat) (x:List Et):(zBb false l).set i (.lst false 0 (ets false x))=zBb false (l.set i x):=by simp[zBb,List.map_set]
@[simp] theorem qJ5 (t:Bool) (n:Nat) (l:List (List Et)):(zBb t l).take n=zBb t (l.take n):=by simp[zBb,List.map_take]
@[simp] theorem qJh (t:Bool) (n:Nat) (l:List (List Et)):(zBb t l).drop n=zBb t (l.drop n):=by simp[zBb,List.map_drop]
@[simp] theorem qB8 (t:Bool) (l:List (List Et)):V.shareL (zBb t l)=zBb false l:=by
 induction l with
 | nil=>rfl
 | cons x l ih=>simp[V.shareL,ih,kF]
@[simp] theorem qEt (l:List (List Et)):V.tidyL (zBb true l)=true:=by
 induction l with
 | nil=>rfl
 | cons x l ih=>simp[V.tidyL,V.tidy,ih]
theorem zB1 {α β:Type} {f:α→V} {g:β→V} (hf:∀x y,(f x).alike (g y)=true):∀{a:List α} {b:List β},V.alikeL (a.map f) (b.map g)=decide (a.length=b.length)
 | [],[]=>rfl
 | [],_::_=>by simp[V.alikeL]
 | _::_,[]=>by simp[V.alikeL]
 | x::a,y::b=>by simp only[List.map_cons,V.alikeL,hf,Bool.true_and,zB1 hf (a:=a) (b:=b),List.length_cons,Nat.add_right_cancel_iff]
@[simp] theorem qEd (t u:Bool) (a b:List (List Et)):V.alikeL (zBb t a) (zBb u b)=decide (a.length=b.length):=zB1 (fun _ _=>rfl)
def kO (t:Bool) (l:List (List Fr)):List V:=l.map fun x=>.lst t (lz t 6) (frs t x)
@[simp] theorem frss_len (t:Bool) (l:List (List Fr)):(kO t l).length=l.length:=by simp[kO]
@[simp] theorem frss_nil (t:Bool):kO t []=[]:=rfl
@[simp] theorem qHt (t:Bool) (x:List Fr) (l:List (List Fr)):kO t (x::l) = .lst t (lz t 6) (frs t x)::kO t l:=rfl
@[simp] theorem qGy (t:Bool) (l m:List (List Fr)):kO t l++kO t m=kO t (l++m):=by simp[kO]
@[simp] theorem qEv (l:List (List Fr)) (x:List Fr):kO true l++[.lst true 6 (frs true x)]=kO true (l++[x]):=by simp[kO]
@[simp] theorem qEz (l:List (List Fr)) (x:List Fr):kO false l++[.lst false 0 (frs false x)]=kO false (l++[x]):=by simp[kO]
@[simp] theorem qKb (l:List (List Fr)) (i:Nat) (x:List Fr):(kO true l).set i (.lst true 6 (frs true x))=kO true (l.set i x):=by simp[kO,List.map_set]
@[simp] theorem qIy (l:List (List Fr)) (i:Nat) (x:List Fr):(kO false l).set i (.lst false 0 (frs false x))=kO false (l.set i x):=by simp[kO,List.map_set]
theorem zKd (m:Nat):List.replicate m (V.lst true 6 [])=kO true (List.replicate m []):=by simp[kO]
theorem zVi {t:Bool} {l:List (List Fr)} {i:Nat} {x:List Fr} (h:l[i]? = some x):(kO t l)[i]? = some (.lst t (lz t 6) (frs t x)):=by simp[kO,h]
theorem qA2 {t:Bool} {l:List (List Fr)} {i:Nat} (h:i<l.length):(kO t l)[(i:Int).toNat]? = some (.lst t (lz t 6) (frs t l[i])):=zVi (by simp[h])
theorem zCd {t:Bool} {l:List (List Fr)} {i:Nat} (h:i<l.length):∃x,l[i]? = some x∧l.drop i=x::l.drop (i+1)∧(kO t l)[(i:Int).toNat]? = some (.lst t (lz t 6) (frs t x)) :=
 ⟨l[i],by simp[h],List.drop_eq_getElem_cons h,qA2 h⟩
@[simp] theorem qGx (t:Bool) (n:Nat) (l:List (List Fr)):(kO t l).take n=kO t (l.take n):=by simp[kO,List.map_take]
@[simp] theorem qJq (t:Bool) (n:Nat) (l:List (List Fr)):(kO t l).drop n=kO t (l.drop n):=by simp[kO,List.map_drop]
@[simp] theorem zFw (t:Bool) (l:List (List Fr)):V.shareL (kO t l)=kO false l:=by
 induction l with
 | nil=>rfl
 | cons x l ih=>simp[V.shareL,ih,kF]
@[simp] theorem zPe (l:List (List Fr)):V.tidyL (kO true l)=true:=by
 induction l with
 | nil=>rfl
 | cons x l ih=>simp[V.tidyL,V.tidy,ih]
@[simp] theorem qEj (t u:Bool) (a b:List (List Fr)):V.alikeL (kO t a) (kO u b)=decide (a.length=b.length):=zB1 (fun _ _=>rfl)
structure Cl where
 plan:List Nd
 workers:List Wk
 links:List (List Fr)
 deriving DecidableEq
theorem Cl.eq_iff {d g:Cl}:d=g↔d.plan=g.plan∧d.workers=g.workers∧d.links=g.links:=by
 cases d;cases g;simp
def Cl.v (t:Bool) (x:Cl):V:=.agg [.lst t (lz t 7) (nds t (lz t 1) x.plan),.lst t (lz t 7) (wks t x.workers),.lst t (lz t 1) (kO t x.links)]
theorem zRs (l:List Nd):V.tidyL (nds true 1 l)=true:=by
 induction l with
 | nil=>rfl
 | cons x l ih=>simp[V.tidyL,ih,Nd.v,V.tidy,zG4]
@[simp] theorem Cl.cells_v (t:Bool) (x:Cl):(x.v t).cells=3:=rfl
@[simp] theorem Cl.mention (t:Bool) (x:Cl):V.mention (x.v t)=[]:=by simp[Cl.v,V.mention,V.mentionL,kI]
@[simp] theorem Cl.share (t:Bool) (x:Cl):(x.v t).share=x.v false:=by simp[Cl.v,V.share,V.shareL,kF,zH0,zFw]
@[simp] theorem Cl.snap (t:Bool) (x:Cl) (q:St):V.snap q (x.v t)=some (x.v false):=by simp[Cl.v,V.snap,V.snapL,mp,zH0,zFw]
@[simp] theorem Cl.snapA (t:Bool) (x:Cl) (q:St):V.snapA q (x.v t)=some (x.v false):=Cl.snap t x q
@[simp] theorem Cl.snapP (t:Bool) (x:Cl) (q:St):V.snapP q (x.v t)=some (x.v false):=Cl.snap t x q
@[simp] theorem Cl.accM (t:Bool) (x:Cl):V.accM (x.v t)=[]:=by simp[Cl.v,V.accM,V.accML]
@[simp] theorem Cl.accF (t:Bool) (x:Cl):V.accF (x.v t)=[]:=by simp[Cl.v,V.accF,V.accFL]
@[simp] theorem Cl.ren (t:Bool) (x:Cl) (ρ:Nat→Option Nat) (vr:Nat→Nat):V.ren ρ vr (x.v t)=x.v t:=by simp[Cl.v,V.ren,V.renL]
@[simp] theorem Cl.bA (i:Nat) (t:Bool) (x:Cl) (r:List V):zQ i (x.v t::r)=((i,x.v t)::(zQ (i+1) r).1,(zQ (i+1) r).2):=rfl
@[simp] theorem Cl.lodF (x:Cl) (o i ver:Nat) (fs:List Nat):V.lod o i ver fs (x.v false)=x.v false:=by simp[Cl.v,V.lod,V.lodL]
@[simp] theorem Cl.fzF (x:Cl) (s:St):V.fz (x.v false) s=some (x.v false,s):=by simp[Cl.v,V.fz,V.fzL,mp]
@[simp] theorem Cl.scal (t:Bool) (x:Cl):V.scal (x.v t)=false:=by simp[Cl.v,V.scal,V.scalL]
@[simp] theorem Cl.isTup (t:Bool) (x:Cl):(x.v t).isTup=false:=rfl
@[simp] theorem Cl.tidyT (x:Cl):V.tidy (x.v true)=true:=by simp[Cl.v,V.tidy,V.tidyL,zRs,zUd,zPe]
@[simp] theorem Cl.thawF (x:Cl) (id:Nat):V.thaw id (x.v false)=(x.v false,[],id):=by simp[Cl.v,V.thaw,V.thawL]
@[simp] theorem Cl.thawT (x:Cl) (id:Nat):V.thaw id (x.v true)=(.agg [.ref (id) 0 x.plan.length,.ref (id+1) 0 x.workers.length,.ref (id+1+1) 0 x.links.length],[(id,⟨false,false,7,nds true 1 x.plan,0⟩),(id+1,⟨false,false,7,wks true x.workers,0⟩),(id+1+1,⟨false,false,1,kO true x.links,0⟩)],id+1+1+1):=by simp[Cl.v,V.thaw,V.thawL]
def vC (l:List (List Fr)):Nat:=l.length+wS zEe l
theorem zGz {l:List (List Fr)} {x:List Fr} (h:x∈l):l.length+zEe x≤vC l:=by
 have:=zE7 (f:=zEe) h;unfold vC;omega
theorem zB2 {l:List (List Fr)}:l.length≤vC l:=by unfold vC;omega
end Go.Proofs.YtbcgenkegnmkhaaGreat.Ev
namespace Go.Proofs.YtbcgenkegnmkhaaGreat.Ev
open Go
set_option maxRecDepth 100000
set_option linter.unusedSimpArgs false
set_option linter.unusedVariables false
set_option maxHeartbeats 2000000
theorem kY {α:Type} {f:α→V} {k:Nat} (h:∀x,(f x).cells=k):∀l:List α,V.cellsAll k (l.map f)=true
 | []=>rfl
 | x::l=>by simp only[List.map_cons,V.cellsAll,List.all_cons,h,decide_true,Bool.true_and];exact kY h l
@[simp] theorem zVj (l:List Int):V.cellsAll 1 (ints l)=true:=kY (f:=.int .i64) (fun _=>rfl) l
@[simp] theorem zZ7 (t:Bool) (l:List Et):V.cellsAll 2 (ets t l)=true:=kY (f:=Et.v t) (fun _=>rfl) l
@[simp] theorem zYw (l:List Ct):V.cellsAll 3 (cts l)=true:=kY (f:=Ct.v) (fun _=>rfl) l
@[simp] theorem zZ8 (t:Bool) (l:List Fr):V.cellsAll 6 (frs t l)=true:=kY (f:=Fr.v t) (fun _=>rfl) l
@[simp] theorem zZ6 (t:Bool) (s:Nat) (l:List Nd):V.cellsAll 7 (nds t s l)=true:=kY (f:=fun d:Nd=>d.v t s) (fun _=>rfl) l
theorem c1_I (l:List Int) (hl:l.length<2000000) (h:l≠[]):zA6 oc cf 124 [.lst false 0 (ints l)]=some (.lst true 1 (ints l),[]):=by
 refine zGq qAy rfl rfl rfl (by first|(simp;rfl)|rfl) (by first|(simp;rfl)|rfl) ?_
 have hne:ints l≠[]:=by simpa [ints] using h
 refine wa_ (zB (w_ (aN (h:=zC (e_ (h:=zA (wa_ (wa_ (zB (w_ (m_ (h:=w_ (bN (h:=zC (e_ (h:=zA (?_)))))))))))))))))
 refine c_ (h1:=?_) (h2:=?_)
 rotate_right 1
 focus
  intro c1
  refine zD (?_)
 rotate_right 1
 focus
  intro c1
  refine wa_ (zB (w_ (aN (h:=zC (e_ (h:=zA (zH (?_))))))))
 all_goals first
 | refine zL ?_
 | (
  refine zA ?_
  refine wa_ (zB (w_ (bs (h:=w_ (m_ (h:=w_ (ap (h:=w_ (a_ (h:=zC (e_ (h:=zA (zH (?_))))))))))))))
  )
 all_goals (refine qZ (hr:=(zR rfl zO)) (h:=?_);(focus (first|(simp_all;done)|(simp_all<;>omega)|(simp_all<;>split<;>simp_all<;>omega))))
theorem c2_I :zA6 oc cf 124 [.emp true]=some (.lst true 1 [],[]):=by
 refine zGq qAy rfl rfl rfl (by first|(simp;rfl)|rfl) (by first|(simp;rfl)|rfl) ?_
 refine wa_ (zB (w_ (aN (h:=zC (e_ (h:=zA (wa_ (wa_ (zB (w_ (m_ (h:=w_ (bN (h:=zC (e_ (h:=zA (?_)))))))))))))))))
 refine c_ (h1:=?_) (h2:=?_)
 rotate_right 1
 focus
  intro c1
  first
  | exact dn c1
  | (
   have d1:=c1;try simp at d1
   refine zD (?_)
   )
 rotate_right 1
 focus
  intro c1
  first
  | exact dn c1
  | (
   have d1:=c1;try simp at d1
   refine wa_ (zB (w_ (aN (h:=zC (e_ (h:=zA (zH (?_))))))))
   )
 all_goals first
 | refine zL ?_
 | (
  refine zA ?_
  refine wa_ (zB (w_ (bs (h:=w_ (m_ (h:=w_ (ap (h:=w_ (a_ (h:=zC (e_ (h:=zA (zH (?_))))))))))))))
  )
 all_goals (refine qZ (hr:=(zR rfl zO)) (h:=?_);(focus (first|(simp_all;done)|(simp_all<;>omega)|(simp_all<;>split<;>simp_all<;>omega))))
theorem c3_I :zA6 oc cf 124 [.emp false]=some (.lst true 1 [],[]):=by
 refine zGq qAy rfl rfl rfl (by first|(simp;rfl)|rfl) (by first|(simp;rfl)|rfl) ?_
 refine wa_ (zB (w_ (aN (h:=zC (e_ (h:=zA (wa_ (wa_ (zB (w_ (m_ (h:=w_ (bN (h:=zC (e_ (h:=zA (?_)))))))))))))))))
 refine c_ (h1:=?_) (h2:=?_)
 rotate_right 1
 focus
  intro c1
  first
  | exact dn c1
  | (
   have d1:=c1;try simp at d1
   refine zD (?_)
   )
 rotate_right 1
 focus
  intro c1
  first
  | exact dn c1
  | (
   have d1:=c1;try simp at d1
   refine wa_ (zB (w_ (aN (h:=zC (e_ (h:=zA (zH (?_))))))))
   )
 all_goals first
 | refine zL ?_
 | (
  refine zA ?_
  refine wa_ (zB (w_ (bs (h:=w_ (m_ (h:=w_ (?_)))))))
  refine ap (hlen:=by decide) (h:=?_)
  refine w_ (a_ (h:=zC (e_ (h:=zA (zH (?_))))))
  )
 all_goals (refine qZ (hr:=(zR rfl zO)) (h:=?_);(focus (first|(simp_all;done)|(simp_all<;>omega)|(simp_all<;>split<;>simp_all<;>omega))))
theorem zVt (l:List Int) (hl:l.length<2000000):oc.call 124 [.lst false 0 (ints l)]=some (.lst true 1 (ints l),[]) :=
 qA0 rfl (fun h=>c1_I l hl (by rintro rfl;exact h rfl)) (fun h=>by have:l=[]:=(by simpa [ints] using h);subst this;exact c2_I) (fun h=>by have:l=[]:=(by simpa [ints] using h);subst this;exact c3_I)
abbrev frZ:V:=.agg [.int .i64 0,.int .i64 0,.int .i64 0,.int .i64 0,.lst true 2 [],.lst true 3 []]
theorem zXe (e:List (Nat×V)) (o:List (Nat×Ob)) (k:Int) (hk:0<k) (hk2:k<2000000):oc.call.i 142 [.emp true,.int .i64 k] ⟨e,o,33⟩ 33=some (.ref 609 0 0,⟨e,(609,⟨false,false,6,List.replicate k.toNat frZ,0⟩)::o,833⟩):=by
 have h0:IntKind.i64.wrap (0 - 0)=0:=by decide
 have hw:IntKind.i64.wrap (k - IntKind.i64.wrap (0 - 0))=k:=by rw[h0,Int.sub_zero];exact qH (by omega) (by omega)
 apply zTf (by rw[zR0];rfl) qJ9 rfl rfl (by simp;rfl)
 refine wa_ (zB (w_ (aN (h:=zC (e_ (h:=zA (wa_ (wa_ (zB (w_ (m_ (h:=w_ (b_ (h:=zC (e_ (h:=zA (?_)))))))))))))))))
 refine c_ (h1:=?_) (h2:=?_)
 rotate_right 1
 focus
  intro c1
  first
  | exact dn c1
  | (
   have d1:=c1;try simp at d1
   refine zD (?_)
   )
 rotate_right 1
 focus
  intro c1
  first
  | exact dn c1
  | (
   have d1:=c1;try simp at d1
   exfalso;omega
   )
 all_goals first
 | (
  refine zA ?_
  refine wa_ (wa_ (zB (w_ (m_ (h:=w_ (m_ (h:=w_ (cc (h:=w_ (m_ (h:=w_ (le (h:=w_ (b_ (h:=w_ (b_ (h:=w_ (a_ (h:=zC (e_ (h:=?_)))))))))))))))))))))
  refine zA (wa_ (zB (w_ (m_ (h:=w_ (b_ (h:=zC (e_ (h:=zA (?_))))))))))
  refine c_ (h1:=?_) (h2:=?_)
  rotate_right 1
  focus
   intro c2
   first
   | exact dn c2
   | (
    have d2:=c2;try simp at d2
    exfalso;rw[hw] at c2;simp at c2;omega
    )
  rotate_right 1
  focus
   intro c2
   first
   | exact dn c2
   | (
    have d2:=c2;try simp at d2
    refine zB (w_ (m_ (h:=w_ (m_ (h:=w_ (cc (h:=w_ (sl (h:=w_ (m_ (h:=w_ (?_))))))))))))
    simp only[hw];refine apZ (h:=?_)
    refine w_ (m_ (h:=w_ (le (h:=w_ (sl (h:=w_ (a_ (h:=zC (e_ (h:=?_))))))))))
    )
  all_goals first
  | (
   refine zA ?_
   refine wa_ (zB (w_ (m_ (h:=w_ (a_ (h:=zC (e_ (h:=zA (zH (?_))))))))))
   )
  )
 all_goals (exact⟨by simp,_,rfl,rfl,rfl⟩)
theorem zY3 (e:List (Nat×V)) (o:List (Nat×Ob)):oc.call.i 142 [.emp true,.int .i64 0] ⟨e,o,33⟩ 33=some (.emp true,⟨e,o,513⟩):=by
 have h0:IntKind.i64.wrap (0 - 0)=0:=by decide
 have hw:IntKind.i64.wrap (0 - IntKind.i64.wrap (0 - 0))=0:=by rw[h0];decide
 apply zTf (by rw[zR0];rfl) qJ9 rfl rfl (by simp;rfl)
 refine wa_ (zB (w_ (aN (h:=zC (e_ (h:=zA (wa_ (wa_ (zB (w_ (m_ (h:=w_ (b_ (h:=zC (e_ (h:=zA (?_)))))))))))))))))
 refine c_ (h1:=?_) (h2:=?_)
 rotate_right 1
 focus
  intro c1
  first
  | exact dn c1
  | (
   have d1:=c1;try simp at d1
   refine zD (?_)
   )
 rotate_right 1
 focus
  intro c1
  first
  | exact dn c1
  | (
   have d1:=c1;try simp at d1
   exfalso;omega
   )
 all_goals first
 | (
  refine zA ?_
  refine wa_ (wa_ (zB (w_ (m_ (h:=w_ (m_ (h:=w_ (cc (h:=w_ (m_ (h:=w_ (le (h:=w_ (b_ (h:=w_ (b_ (h:=w_ (a_ (h:=zC (e_ (h:=?_)))))))))))))))))))))
  refine zA (wa_ (zB (w_ (m_ (h:=w_ (b_ (h:=zC (e_ (h:=zA (?_))))))))))
  refine c_ (h1:=?_) (h2:=?_)
  rotate_right 1
  focus
   intro c2
   first
   | exact dn c2
   | (
    have d2:=c2;try simp at d2
    refine zD (?_)
    )
  rotate_right 1
  focus
   intro c2
   first
   | exact dn c2
   | (
    have d2:=c2;try simp at d2
    exfalso;rw[hw] at c2;simp at c2
    )
  all_goals first
  | (
   refine zA ?_
   refine wa_ (zB (w_ (m_ (h:=w_ (a_ (h:=zC (e_ (h:=zA (zH (?_))))))))))
   )
  )
 all_goals (exact⟨by simp,_,rfl,rfl,rfl⟩)
theorem zV1 {α:Type} {f:α→Nat} {l:List α} {i:Nat} {x:α} (h:l[i]? = some x):wS f (l.take (i+1))=wS f (l.take i)+f x:=by
 induction l generalizing i with
 | nil=>simp at h
 | cons y r ih =>
  cases i with
  | zero=>simp at h;subst h;simp
  | succ i=>simp at h;simp only[List.take_succ_cons,vR];rw[ih h];omega
theorem zO9 {α:Type} {f:α→Nat} {l:List α} {i:Nat}:wS f (l.take i)≤wS f l:=by
 induction l generalizing i with
 | nil=>simp
 | cons y r ih =>
  cases i with
  | zero=>simp
  | succ i=>have:=ih (i:=i);simp only[List.take_succ_cons,vR];omega
def vJ (l:List (List Fr)):Nat:=wS List.length l
theorem zEo {l:List (List Fr)} {i:Nat} {x:List Fr} (h:l[i]? = some x):vJ (l.take (i+1))=vJ (l.take i)+x.length:=zV1 h
theorem zAb {l:List (List Fr)} {i:Nat}:vJ (l.take i)≤vJ l:=zO9
theorem lenS_flat {l:List (List Fr)}:l.flatten.length=vJ l:=by
 induction l with
 | nil=>rfl
 | cons x r ih=>simp only[List.flatten_cons,List.length_append,ih,vJ,vR]
theorem zIg {l:List (List Fr)} {i:Nat} {x:List Fr} (h:l[i]? = some x):(l.take (i+1)).flatten=(l.take i).flatten++x:=by
 rw[List.take_add_one,h];simp
theorem zSz (ls:List (List Fr)) (hl:ls.length<2000000) (hs0:vJ ls<2000000):∀i:Nat,(i≤ls.length)→∀s,zI 1 (some [0,3,9,10,11]) s=⟨[(0,.lst false 0 (kO false ls)),(3,.int .i64 (vJ (ls.take i):Nat)),(9,.lst false 0 (kO false ls)),(10,.int .i64 ls.length),(11,.int .i64 i)],[],1⟩ →
 oc.loop 74 3 s=some (.exit 0,⟨[(0,.lst false 0 (kO false ls)),(3,.int .i64 (vJ ls:Nat))],[],1⟩):=by
 refine zW (σ:=Nat) (fun i=>ls.length - i) _ (fun i=>⟨[(0,.lst false 0 (kO false ls)),(3,.int .i64 (vJ (ls.take i):Nat)),(9,.lst false 0 (kO false ls)),(10,.int .i64 ls.length),(11,.int .i64 i)],[],1⟩) _ ?_
 intro i hi ih s hs
 refine qB qEe rfl rfl hs ?_
 refine wa_ (zB (w_ (b_ (h:=zC (e_ (h:=zA (wa_ (?_))))))))
 refine c_ (h1:=?_) (h2:=?_)
 rotate_right 1
 focus
  intro c1
  first
  | exact dn c1
  | (
   have d1:=c1;try simp at d1
   refine zX (?_)
   )
 rotate_right 1
 focus
  intro c1
  first
  | exact dn c1
  | (
   have d1:=c1;try simp at d1
   have hw:=zV (i:=i) (by omega);obtain⟨c,hx,e1,g1⟩:=zCd (t:=false) (l:=ls) (i:=i) (by omega);have hcut:=zEo hx;have hle:=zAb (l:=ls) (i:=i+1);have hws:IntKind.i64.wrap ((vJ (ls.take i):Nat)+(c.length:Int))=(vJ (ls.take (i+1)):Nat):=(qH (by omega) (by omega)).trans (by omega)
   refine zD (?_)
   )
 all_goals first
 | refine zS ?_
 | (
  refine zA ?_
  refine wa_ (zG (wa_ (zB (w_ (x_ (h:=w_ (l_ (h:=w_ (a_ (h:=zC (e_ (h:=zA (wa_ (zB (w_ (m_ (h:=?_)))))))))))))))))
  refine w_ (m_ (h:=w_ (le (h:=w_ (b_ (h:=w_ (a_ (h:=zC (e_ (h:=zA (wa_ (zB (w_ (m_ (h:=w_ (b_ (h:=zC (e_ (h:=zA (?_))))))))))))))))))))
  refine c_ (h1:=?_) (h2:=?_)
  rotate_right 1
  focus
   intro c2
   first
   | exact dn c2
   | (
    have d2:=c2;try simp at d2
    refine zD (?_)
    )
  rotate_right 1
  focus
   intro c2
   first
   | exact dn c2
   | (
    have d2:=c2;try simp at d2
    exfalso;clear ih hs;omega
    )
  all_goals refine zJ ?_
  all_goals first
  | (
   refine zA ?_
   refine zB (w_ (b_ (h:=w_ (m_ (h:=zC (e_ (h:=?_)))))))
   )
  )
 all_goals first
 | (refine(ih (i+1) (by omega) ?_ _ ?_).trans ?_;(focus (first|omega|(simp;done)|(simp;omega)));(focus (simp[zI,hw,hws];done));(focus (rfl)))
 | (apply zM (ex:=(Ext.exit 0)) 1 (some [0,3]);(focus (simp[zI];rfl));(focus (rw[List.take_of_length_le (by omega)])))
theorem qLb (ls:List (List Fr)) (hl:ls.length<2000000) (hs0:vJ ls<2000000):∀i:Nat,(i≤ls.length)→∀s,zI 1 (some [6,25,26,27]) s=⟨[(6,.ref 1 0 (vJ (ls.take i))),(25,.lst false 0 (kO false ls)),(26,.int .i64 ls.length),(27,.int .i64 i)],[(1,⟨false,false,6,frs false (ls.take i).flatten,0⟩)],2⟩ →
 oc.loop 74 11 s=some (.exit 2,⟨[(6,.ref 1 0 (vJ ls))],[(1,⟨false,false,6,frs false ls.flatten,0⟩)],2⟩):=by
 refine zW (σ:=Nat) (fun i=>ls.length - i) _ (fun i=>⟨[(6,.ref 1 0 (vJ (ls.take i))),(25,.lst false 0 (kO false ls)),(26,.int .i64 ls.length),(27,.int .i64 i)],[(1,⟨false,false,6,frs false (ls.take i).flatten,0⟩)],2⟩) _ ?_
 intro i hi ih s hs
 refine qB qEe rfl rfl hs ?_
 have hT:=zAb (l:=ls) (i:=i)
 generalize hF:(ls.take i).flatten=F
 have hN:vJ (ls.take i)=F.length:=by rw[←hF];exact lenS_flat.symm
 rw[hN] at hT ⊢
 refine wa_ (zB (w_ (b_ (h:=zC (e_ (h:=zA (wa_ (?_))))))))
 refine c_ (h1:=?_) (h2:=?_)
 rotate_right 1
 focus
  intro c1
  first
  | exact dn c1
  | (
   have d1:=c1;try simp at d1
   refine zX (?_)
   )
 rotate_right 1
 focus
  intro c1
  first
  | exact dn c1
  | (
   have d1:=c1;try simp at d1
   have hw:=zV (i:=i) (by omega);obtain⟨c,hx,e1,g1⟩:=zCd (t:=false) (l:=ls) (i:=i) (by omega);have hcut:=zEo hx;rw[hN] at hcut;have hle:=zAb (l:=ls) (i:=i+1);have hfl:=zIg hx;rw[hF] at hfl
   refine zD (?_)
   )
 all_goals first
 | refine zS ?_
 | (
  refine zA ?_
  refine wa_ (zG (wa_ (zB (w_ (x_ (h:=w_ (l_ (h:=w_ (a_ (h:=zC (e_ (h:=zA (zB (w_ (m_ (h:=w_ (m_ (h:=?_))))))))))))))))))
  refine w_ (ap (h:=w_ (a_ (h:=zC (e_ (h:=zJ (zA (zB (w_ (b_ (h:=w_ (m_ (h:=zC (e_ (h:=?_)))))))))))))))
  )
 all_goals first
 | (refine(ih (i+1) (by omega) ?_ _ ?_).trans ?_;(focus (first|omega|(simp;done)|(simp;omega)));(focus (simp[zI,hw,hcut,hfl];done));(focus (rfl)))
 | (apply zM (ex:=(Ext.exit 2)) 1 (some [6]);(focus (simp[zI];rfl));(focus (rw[List.take_of_length_le (by omega)] at hF hN;subst hF;simp[hN])))
theorem qBf (ls:List (List Fr)) (hl:ls.length<2000000) (hs0:vJ ls<2000000) (hne:0<ls.length) (L:List Fr) (hL:ls.flatten=L):∀s,zI 1 (some [6,25,26,27]) s=⟨[(6,.emp true),(25,.lst false 0 (kO false ls)),(26,.int .i64 ls.length),(27,.int .i64 0)],[],1⟩→oc.loop 74 11 s=some (.exit 2,⟨[(6,.ref 1 0 L.length)],[(1,⟨false,false,6,frs false L,0⟩)],2⟩):=by
 intro s hs
 obtain⟨c,hx,e1,g1⟩:=zCd (t:=false) (l:=ls) (i:=0) hne
 change (kO false ls)[(0:Int).toNat]? = _ at g1
 have hcut:=zEo hx
 have hfl:=zIg hx
 have hle:=zAb (l:=ls) (i:=0+1)
 have hw:IntKind.i64.wrap (0+1)=1:=by decide
 have hw1:IntKind.i64.wrap 1=1:=by decide
 have hcl:c.length<2000000:=by omega
 simp[vJ] at hcut hfl
 refine qB qEe rfl rfl hs ?_
 refine wa_ (zB (w_ (b_ (h:=zC (e_ (h:=zA (wa_ (?_))))))))
 refine c_ (h1:=?_) (h2:=?_)
 rotate_right 1
 focus
  intro c1
  first
  | exact dn c1
  | (
   have d1:=c1;try simp at d1
   exfalso;rw[decide_eq_false_iff_not] at c1;omega
   )
 rotate_right 1
 focus
  intro c1
  first
  | exact dn c1
  | (
   have d1:=c1;try simp at d1
   refine zD (?_)
   )
 all_goals first
 | refine zS ?_
 | (
  refine zA ?_
  refine wa_ (zG (wa_ (zB (w_ (x_ (h:=w_ (l_ (h:=w_ (a_ (h:=zC (e_ (h:=zA (zB (w_ (m_ (h:=w_ (m_ (h:=?_))))))))))))))))))
  refine w_ (ap (h:=w_ (a_ (h:=zC (e_ (h:=zJ (zA (zB (w_ (b_ (h:=w_ (m_ (h:=zC (e_ (h:=?_)))))))))))))))
  )
 all_goals (refine(qLb ls hl hs0 1 (by omega) _ ?_).trans (by rw[←lenS_flat,hL]);(simp[zI,hw,hw1,vJ,hcut,hfl];done))
theorem qC9 (ls:List (List Fr)) (k:Nat) (hl:ls.length<2000000) (hs0:vJ ls<2000000) (hne:0<ls.length) (L:List Fr) (hL:ls.flatten=L):∀s,zI 1 (some [6,25,26,27]) s=⟨[(6,.ref 1 0 0),(25,.lst false 0 (kO false ls)),(26,.int .i64 ls.length),(27,.int .i64 0)],[(1,⟨false,false,6,List.replicate k frZ,0⟩)],2⟩→oc.loop 74 11 s=some (.exit 2,⟨[(6,.ref 1 0 L.length)],[(1,⟨false,false,6,frs false L,0⟩)],2⟩):=by
 intro s hs
 obtain⟨c,hx,e1,g1⟩:=zCd (t:=false) (l:=ls) (i:=0) hne
 change (kO false ls)[(0:Int).toNat]? = _ at g1
 have hcut:=zEo hx
 have hfl:=zIg hx
 have hle:=zAb (l:=ls) (i:=0+1)
 have hw:IntKind.i64.wrap (0+1)=1:=by decide
 have hw1:IntKind.i64.wrap 1=1:=by decide
 have hcl:c.length<2000000:=by omega
 simp[vJ] at hcut hfl
 refine qB qEe rfl rfl hs ?_
 refine wa_ (zB (w_ (b_ (h:=zC (e_ (h:=zA (wa_ (?_))))))))
 refine c_ (h1:=?_) (h2:=?_)
 rotate_right 1
 focus
  intro c1
  first
  | exact dn c1
  | (
   have d1:=c1;try simp at d1
   exfalso;rw[decide_eq_false_iff_not] at c1;omega
   )
 rotate_right 1
 focus
  intro c1
  first
  | exact dn c1
  | (
   have d1:=c1;try simp at d1
   refine zD (?_)
   )
 all_goals first
 | refine zS ?_
 | (
  refine zA ?_
  refine wa_ (zG (wa_ (zB (w_ (x_ (h:=w_ (l_ (h:=w_ (a_ (h:=zC (e_ (h:=zA (zB (w_ (m_ (h:=w_ (m_ (h:=?_))))))))))))))))))
  refine w_ (ap (h:=w_ (a_ (h:=zC (e_ (h:=zJ (zA (zB (w_ (b_ (h:=w_ (m_ (h:=zC (e_ (h:=?_)))))))))))))))
  )
 all_goals (refine(qLb ls hl hs0 1 (by omega) _ ?_).trans (by rw[←lenS_flat,hL]);(simp[zI,hw,hw1,vJ,hcut,hfl];done))
theorem qCr (ls:List (List Fr)) (hl:ls.length<2000000) (hs0:vJ ls<2000000) (hne:0<ls.length):oc.call 74 [.lst false 0 (kO false ls)]=some (.lst true 6 (frs false ls.flatten),[]):=by
 obtain⟨L,hL⟩:∃L,ls.flatten=L:=⟨_,rfl⟩
 rw[hL]
 rcases Nat.eq_zero_or_pos (vJ ls) with hz|hz
 ·refine qD rfl qEe rfl rfl rfl (by simp;rfl) (by simp;rfl) ?_
  refine wa_ (zB (w_ (aN (h:=zC (e_ (h:=zA (wa_ (zB (w_ (a_ (h:=zC (e_ (h:=zA (wa_ (wa_ (?_))))))))))))))))
  refine zB (w_ (m_ (h:=w_ (le (h:=w_ (m_ (h:=zC (e_ (h:=zA (zG (?_)))))))))))
  refine qF (zSz ls hl hs0 0 (by omega) _ (by simp[zI,vJ])) ?_
  refine zT (zA (wa_ (zB (w_ (m_ (h:=?_))))))
  first|refine i_ (hc:=(by simp only[hz];exact zY3 _ _)) (h:=?_)
  refine w_ (a_ (h:=zC (e_ (h:=zA (wa_ (wa_ (zB (w_ (m_ (h:=w_ (le (h:=w_ (m_ (h:=zC (e_ (h:=zA (zG (?_))))))))))))))))))
  refine qF (qBf ls hl hs0 hne L hL _ (by simp[zI])) ?_
  refine zT (zA (wa_ (zB (w_ (m_ (h:=w_ (a_ (h:=zC (e_ (h:=zA (zH (?_))))))))))))
  all_goals (refine qZ (hr:=(zR rfl zO)) (h:=?_);(focus (simp)))
 ·refine qD rfl qEe rfl rfl rfl (by simp;rfl) (by simp;rfl) ?_
  refine wa_ (zB (w_ (aN (h:=zC (e_ (h:=zA (wa_ (zB (w_ (a_ (h:=zC (e_ (h:=zA (wa_ (wa_ (?_))))))))))))))))
  refine zB (w_ (m_ (h:=w_ (le (h:=w_ (m_ (h:=zC (e_ (h:=zA (zG (?_)))))))))))
  refine qF (zSz ls hl hs0 0 (by omega) _ (by simp[zI,vJ])) ?_
  refine zT (zA (wa_ (zB (w_ (m_ (h:=?_))))))
  first|refine i_ (hc:=zXe _ _ (vJ ls:Nat) (by omega) (by omega)) (h:=?_)
  refine w_ (a_ (h:=zC (e_ (h:=zA (wa_ (wa_ (zB (w_ (m_ (h:=w_ (le (h:=w_ (m_ (h:=zC (e_ (h:=zA (zG (?_))))))))))))))))))
  refine qF (qC9 ls (vJ ls) hl hs0 hne L hL _ (by simp[zI])) ?_
  refine zT (zA (wa_ (zB (w_ (m_ (h:=w_ (a_ (h:=zC (e_ (h:=zA (zH (?_))))))))))))
  all_goals (refine qZ (hr:=(zR rfl zO)) (h:=?_);(focus (simp)))
end Go.Proofs.YtbcgenkegnmkhaaGreat.Ev
