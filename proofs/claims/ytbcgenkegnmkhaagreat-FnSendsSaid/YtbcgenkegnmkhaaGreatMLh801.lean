/- Part 1 of the proof that the law named in the last part returns true at every argument: an evaluator of the program, shown sound, and its runs. No further conditions. -/
import Derived.RowKit
import Derived.Calls
import Derived.Laws.Slices
import Derived.OwnWalk
import Derived.Laws.Cells
import Derived.Laws.NewFold
import Derived.Laws.Tables
import Derived.MapFrom
import Derived.DataReads
import Derived.Laws.AppendOwn
import Derived.Laws.MakeOwn
namespace Go.Proofs.YtbcgenkegnmkhaaGreat.Ev
open Go
inductive V where
 | int (k:IntKind) (n:Int)
 | bool (b:Bool)
 | str (s:ByteArray)
 | lst (own:Bool) (sz:Nat) (xs:List V)
 | emp (isNil:Bool)
 | agg (xs:List V)
 | tup (xs:List V)
 | ref (o lo n:Nat)
 | plc (o i:Nat) (fs:List Nat) (ver n:Nat)
 | ptr (o i:Nat) (fs:List Nat)
 | vptr (x:V)
 | clo (f:FuncId) (caps:List V)
 | iol (sz:Nat) (xs:List V)
 | iop (x:V)
 | und
 deriving Inhabited
structure Ob where
 bx:Bool
 fx:Bool
 sz:Nat
 xs:List V
 ver:Nat
structure St where
 env:List (Nat×V)
 obs:List (Nat×Ob)
 nxt:Nat
def zO {α:Type}:List (Nat×α)->Nat->Option α
 | [],_=>none
 | (k,v)::r,t=>if k=t then some v else zO r t
def kT {α:Type}:List (Nat×α)->Nat->List (Nat×α)
 | [],_=>[]
 | (k,v)::r,t=>if k=t then kT r t else(k,v)::kT r t
def xC {α:Type} (l:List (Nat×α)) (t:Nat) (v:α):List (Nat×α):=(t,v)::l
mutual
def V.share:V->V
 | .lst _ _ xs=>.lst false 0 (V.shareL xs)
 | .agg xs=>.agg (V.shareL xs)
 | v=>v
def V.shareL:List V->List V
 | []=>[]
 | x::r=>x.share::V.shareL r
end
mutual
def V.cells:V->Nat
 | .agg xs=>V.cellsL xs
 | _=>1
def V.cellsL:List V->Nat
 | []=>0
 | x::r=>x.cells+V.cellsL r
end
def V.aggOf:V->Option (List V)
 | .agg xs=>some xs
 | _=>none
mutual
def V.alike:V->V->Bool
 | .agg xs,y=>match y.aggOf with
  | some ys=>V.alikeL xs ys
  | none=>false
 | _,y=>y.aggOf.isNone
def V.alikeL:List V->List V->Bool
 | [],ys=>ys.isEmpty
 | x::r,ys=>match ys with
  | []=>false
  | y::q=>x.alike y&&V.alikeL r q
end
def V.isTup:V->Bool
 | .tup _=>true
 | .iop _=>true
 | _=>false
def V.capsOk:List V->Bool
 | []=>true
 | .agg _::_=>false
 | .tup _::_=>false
 | .iop _::_=>false
 | .und::_=>false
 | _::r=>V.capsOk r
def V.cellsAll (n:Nat):List V->Bool
 | []=>true
 | x::r=>decide (x.cells=n)&&V.cellsAll n r
mutual
def V.scal:V->Bool
 | .int .. | .bool _ | .str _=>true
 | .agg xs=>V.scalL xs
 | _=>false
def V.scalL:List V->Bool
 | []=>true
 | x::r=>x.scal&&V.scalL r
end
def mp {α β:Type} (x:Option α) (f:α->β):Option β:=x.map f
theorem zJ {α β:Type} (a:α) (f:α->β):mp (some a) f=some (f a):=rfl
theorem qDl {α β:Type} (f:α->β):mp none f=none:=rfl
def kS:V->List Nat->Option V
 | v,[]=>some v
 | .agg xs,i::p=>match xs[i]? with|none=>none|some x=>kS x p
 | _,_::_=>none
def zCv:V->List Nat->V->Option V
 | _,[],w=>some w
 | .agg xs,i::p,w=>match xs[i]? with|none=>none|some x=>mp (zCv x p w) fun y=>.agg (xs.set i y)
 | _,_::_,_=>none
def Ob.get (ob:Ob) (i:Nat) (fs:List Nat):Option V:=match ob.xs[i]? with|none=>none|some x=>kS x fs
def Ob.set (ob:Ob) (i:Nat) (fs:List Nat) (w:V):Option Ob:=match ob.xs[i]? with|none=>none|some x=>mp (zCv x fs w) fun y=>{ ob with xs:=ob.xs.set i y }
mutual
def V.lod (o i ver:Nat):List Nat->V->V
 | fs,.lst true _ xs=>.plc o i fs ver xs.length
 | fs,.agg xs=>.agg (V.lodL o i ver fs 0 xs)
 | _,v=>v
def V.lodL (o i ver:Nat):List Nat->Nat->List V->List V
 | _,_,[]=>[]
 | fs,j,x::r=>x.lod o i ver (fs++[j])::V.lodL o i ver fs (j+1) r
end
def St.at (s:St) (o i:Nat) (fs:List Nat) (ver n:Nat):Option (Nat×List V×Ob) :=
 match zO s.obs o with
 | none=>none
 | some ob=>if ob.ver=ver then
   match ob.get i fs with
   | some (.lst true sz xs)=>if xs.length=n then some (sz,xs,ob) else none
   | _=>none
  else none
def St.take (s:St) (o i:Nat) (fs:List Nat) (ver n:Nat):Option (Nat×List V×St) :=
 match s.at o i fs ver n with
 | none=>none
 | some a=>mp (a.2.2.set i fs .und) fun ob'=>(a.1,a.2.1,{ s with obs:=xC s.obs o { ob' with ver:=ver+1 } })
def St.takeQ (s:St) (o i:Nat) (fs:List Nat) (ver n:Nat):Option (Nat×List V×St) :=
 match s.at o i fs ver n with
 | none=>none
 | some a=>mp (a.2.2.set i fs .und) fun ob'=>(a.1,a.2.1,{ s with obs:=xC s.obs o { ob' with ver:=ver } })
def St.give (s:St) (o lo n:Nat):Option (Nat×List V×St) :=
 match zO s.obs o with
 | none=>none
 | some ob=>if ob.bx=false/\ob.fx=false/\lo+n<=ob.xs.length then some (ob.sz,(ob.xs.drop lo).take n,{ s with obs:=kT s.obs o }) else none
mutual
def V.fz:V->St->Option (V×St)
 | .int k n,s=>some (.int k n,s)
 | .bool b,s=>some (.bool b,s)
 | .str b,s=>some (.str b,s)
 | .lst false sz xs,s=>some (.lst false sz xs,s)
 | .lst true sz [],s=>some (.lst true sz [],s)
 | .emp _,s=>some (.lst false 0 [],s)
 | .agg xs,s=>mp (V.fzL xs s) fun r=>(.agg r.1,r.2)
 | .ref o lo n,s=>mp (s.give o lo n) fun r=>(.lst true r.1 r.2.1,r.2.2)
 | .plc o i fs ver n,s=>mp (s.takeQ o i fs ver n) fun r=>(.lst true r.1 r.2.1,r.2.2)
 | _,_=>none
def V.fzL:List V->St->Option (List V×St)
 | [],s=>some ([],s)
 | x::r,s=>match x.fz s with|none=>none|some a=>mp (V.fzL r a.2) fun b=>(a.1::b.1,b.2)
end
mutual
def V.fzI:V->St->Option (V×St)
 | .lst true sz xs,s=>some (.lst true sz xs,s)
 | .agg xs,s=>mp (V.fzIL xs s) fun r=>(.agg r.1,r.2)
 | v,s=>v.fz s
def V.fzIL:List V->St->Option (List V×St)
 | [],s=>some ([],s)
 | x::r,s=>match x.fzI s with|none=>none|some a=>mp (V.fzIL r a.2) fun b=>(a.1::b.1,b.2)
end
def zMm (obs:List (Nat×Ob)) (o lo n:Nat):Option (Nat×List V) :=
 match zO obs o with
 | none=>none
 | some ob=>if ob.bx=false/\lo+n<=ob.xs.length then some (ob.sz,(ob.xs.drop lo).take n) else none
mutual
def V.mention:V->List Nat
 | .ref o _ _=>[o]
 | .plc o _ _ _ _=>[o]
 | .ptr o _ _=>[o]
 | .agg xs=>V.mentionL xs
 | .tup xs=>V.mentionL xs
 | .clo _ cs=>V.mentionL cs
 | _=>[]
def V.mentionL:List V->List Nat
 | []=>[]
 | x::r=>x.mention++V.mentionL r
end
mutual
def V.snap (s:St):V->Option V
 | .int k n=>some (.int k n)
 | .bool b=>some (.bool b)
 | .str b=>some (.str b)
 | .lst _ _ xs=>some (.lst false 0 (V.shareL xs))
 | .emp _=>some (.lst false 0 [])
 | .agg xs=>mp (V.snapL s xs) .agg
 | .ref o lo n=>mp (zMm s.obs o lo n) fun r=>.lst false 0 (V.shareL r.2)
 | .plc o i fs ver n=>mp (s.at o i fs ver n) fun a=>.lst false 0 (V.shareL a.2.1)
 | .vptr x=>some (.vptr x)
 | _=>none
def V.snapL (s:St):List V->Option (List V)
 | []=>some []
 | x::r=>match x.snap s with|none=>none|some a=>mp (V.snapL s r) fun b=>a::b
end
def V.snapP (s:St):V->Option V
 | .ptr o i fs=>match zO s.obs o with|none=>none|some ob=>match ob.get i fs with|none=>none|some x=>if ob.bx=true\/x.mention.isEmpty=true then mp (x.snap s) .vptr else none
 | v=>v.snap s
def V.snapPL (s:St):List V->Option (List V)
 | []=>some []
 | x::r=>match x.snapP s with|none=>none|some a=>mp (V.snapPL s r) fun b=>a::b
def V.snapA (s:St):V->Option V
 | .clo f cs=>mp (V.snapPL s cs) (.clo f)
 | v=>v.snapP s
mutual
def V.tidy:V->Bool
 | .lst own _ xs=>(own||xs.isEmpty)&&V.tidyL xs
 | .agg xs=>V.tidyL xs
 | .tup xs=>V.tidyL xs
 | .clo _ _=>false
 | .vptr _=>false
 | _=>true
def V.tidyL:List V->Bool
 | []=>true
 | x::r=>x.tidy&&V.tidyL r
end
mutual
def V.thaw (id:Nat):V->V×List (Nat×Ob)×Nat
 | .lst true sz xs=>(.ref id 0 xs.length,[(id,⟨false,false,sz,xs,0⟩)],id+1)
 | .agg xs=>let r:=V.thawL id xs;(.agg r.1,r.2.1,r.2.2)
 | .tup xs=>let r:=V.thawL id xs;(.tup r.1,r.2.1,r.2.2)
 | v=>(v,[],id)
def V.thawL (id:Nat):List V->List V×List (Nat×Ob)×Nat
 | []=>([],[],id)
 | x::r=>let a:=x.thaw id;let b:=V.thawL a.2.2 r;(a.1::b.1,a.2.1++b.2.1,b.2.2)
end
inductive Md where
 | snap|take|io
 deriving DecidableEq
structure Cfg where
 flds:TypeId->Option (List (Nat×TypeId))
 elem:TypeId->Option TypeId
 zero:TypeId->Option V
 md:FuncId->List Md
 keep:FuncId->Nat->Option (List Nat)
 out:FuncId->Nat->Option (List Nat)
 code:FuncId->Option Func
 nils:FuncId->Bool
 ints:TypeId->Option IntKind
 inB:FuncId->Bool
 plB:FuncId->Bool
 hsB:FuncId->Bool
 fsB:FuncId->Bool
 alR:FuncId->Nat->Nat
 strT:TypeId->Bool
 eqN:TypeId->Nat
inductive Ext where
 | normal|ret|exit (id:Nat)
 deriving DecidableEq
structure Call where
 c:FuncId->List V->Option (V×List V)
 i:FuncId->List V->St->Nat->Option (V×St)
instance:CoeFun Call fun _=>FuncId->List V->Option (V×List V):=⟨Call.c⟩
def Call.noI (call:Call):Call:=⟨call.c,fun _ _ _ _=>none⟩
def Call.pick (call:Call) (draw:Bool):Call:=if draw=true then call.noI else call
structure Orc where
 call:Call
 loop:FuncId->Nat->St->Option (Ext×St)
def zHc:Value->Option V
 | .int k n=>some (.int k n)
 | .bool b=>some (.bool b)
 | .string b=>some (.str b)
 | .slice none 0 0=>some (.emp true)
 | _=>none
def opV (env:List (Nat×V)):Operand->Option V
 | .tmp t=>match zO env t with|none=>none|some v=>match v with
  | .und=>none
  | v=>some v
 | .const x=>zHc x
 | .func f=>some (.clo f [])
 | _=>none
def opT (cfg:Cfg) (env:List (Nat×V)) (t:TypeId):Operand->Option V
 | .const (.slice none 0 0)=>mp ((cfg.elem t).bind cfg.zero) fun z=>.lst true z.cells []
 | .const (.pointer none)=>some .und
 | x=>opV env x
def zEy (op:BinOp) (k:IntKind) (a b:Int):Option V :=
 match op with
 | .add=>some (.int k (k.wrap (a+b)))
 | .sub=>some (.int k (k.wrap (a - b)))
 | .mul=>some (.int k (k.wrap (a * b)))
 | .quo=>if b=0 then none else some (.int k (k.wrap (a.tdiv b)))
 | .rem=>if b=0 then none else some (.int k (a.tmod b))
 | .eql=>some (.bool (decide (a=b)))
 | .neq=>some (.bool (decide (a≠b)))
 | .lss=>some (.bool (decide (a<b)))
 | .leq=>some (.bool (decide (a<=b)))
 | .gtr=>some (.bool (decide (b<a)))
 | .geq=>some (.bool (decide (b<=a)))
 | _=>none
def qD4 (cfg:Cfg) (t:TypeId):Bool :=
 match cfg.zero t with
 | some (.bool _)=>true
 | _=>false
def eqI:List V->List V->Option Bool
 | [],[]=>some true
 | .int k a::r,.int k' b::s=>if k=k' then mp (eqI r s) fun q=>decide (a=b)&&q else none
 | _,_=>none
def qEp (cfg:Cfg) (t:TypeId) (op:BinOp) (x y:V):Option V :=
 match x with
 | .int k a=>match y with
  | .int k' b=>if k=k' then zEy op k a b else none
  | _=>none
 | .bool a=>match y with
  | .bool b=>if qD4 cfg t=true then
    match op with
    | .eql=>some (.bool (decide (a=b)))
    | .neq=>some (.bool (decide (a≠b)))
    | _=>none
   else none
  | _=>none
 | .agg xs=>match y with
  | .agg ys=>if xs.length=cfg.eqN t/\0<cfg.eqN t then match eqI xs ys with
    | some q=>match op with
     | .eql=>some (.bool q)
     | .neq=>some (.bool (!q))
     | _=>none
    | none=>none
   else none
  | _=>none
 | _=>none
def zF5 (op:BinOp) (x y:V):Option V :=
 match x with
 | .int k a=>match y with
  | .int _ b=>if b<0 then none else match op with
   | .shl=>some (.int k (k.wrap (a * 2 ^ min b.toNat k.bits)))
   | .shr=>some (.int k (a.fdiv (2 ^ min b.toNat k.bits)))
   | _=>none
  | _=>none
 | _=>none
def zHt:Operand->Bool
 | .const (.slice none 0 0)=>true
 | _=>false
def qJw (cfg:Cfg) (t:TypeId) (op:BinOp) (x:V):Option V :=
 if(cfg.elem t).isSome=true/\op = .eql then
  match x with
  | .emp b=>some (.bool b)
  | .lst false _ xs=>if xs.isEmpty=true then none else some (.bool false)
  | _=>none
 else none
def unV (op:UnOp) (x:V):Option V :=
 match op,x with
 | .neg,.int k n=>some (.int k (k.wrap (0 - n)))
 | .not,.bool b=>some (.bool !b)
 | _,_=>none
def xE (env:List (Nat×V)):List (Nat×Operand)->Option (List (Nat×V))
 | []=>some []
 | (i,x)::r=>match opV env x with|none=>none|some v=>mp (xE env r) fun l=>(i,v)::l
def kW (env:List (Nat×V)):List Operand->Option (List V)
 | []=>some []
 | x::r=>match opV env x with|none=>none|some v=>mp (kW env r) fun l=>v::l
def St.new (s:St) (id:Nat) (ob:Ob):St:={ s with obs:=xC s.obs id ob }
def St.copyRow (s:St) (o lo n:Nat):Option (List V×St) :=
 match zO s.obs o with
 | none=>none
 | some ob=>if ob.bx=false/\lo+n<=ob.xs.length then some (V.shareL ((ob.xs.drop lo).take n),{ s with obs:=xC s.obs o { ob with xs:=V.shareL ob.xs } }) else none
def St.copyPlc (s:St) (o i:Nat) (fs:List Nat) (ver n:Nat):Option (List V×St) :=
 match s.at o i fs ver n with
 | none=>none
 | some a=>mp (a.2.2.set i fs (.lst false 0 (V.shareL a.2.1))) fun ob'=>(V.shareL a.2.1,{ s with obs:=xC s.obs o ob' })
mutual
def V.gone:V->V
 | .lst own sz xs=>match own with|true=>.und|false=>.lst false sz xs
 | .agg xs=>.agg (V.goneL xs)
 | v=>v
def V.goneL:List V->List V
 | []=>[]
 | x::r=>x.gone::V.goneL r
end
def yZ:Nat->Nat->List V->List V
 | _,_,[]=>[]
 | lo+1,n,x::r=>x::yZ lo n r
 | 0,0,x::r=>x::r
 | 0,n+1,x::r=>x.gone::yZ 0 n r
def St.moveRow (s:St) (o lo n:Nat):Option (List V×St) :=
 match zO s.obs o with
 | none=>none
 | some ob=>if ob.bx=false/\lo+n<=ob.xs.length then some ((ob.xs.drop lo).take n,{ s with obs:=xC s.obs o { ob with xs:=yZ lo n ob.xs } }) else none
def St.elems (s:St) (base:Nat):V->Option (List V×St)
 | .lst false _ xs=>some (xs,s)
 | .lst true _ []=>some ([],s)
 | .emp _=>some ([],s)
 | .ref o lo n=>if base<=o then mp (s.give o lo n) fun r=>(r.2.1,r.2.2) else if o=0 then s.moveRow o lo n else s.copyRow o lo n
 | .plc o i fs ver n=>s.copyPlc o i fs ver n
 | _=>none
def St.base (s:St):V->Option (Nat×List V×St)
 | .lst true sz []=>some (sz,[],s)
 | .ref o 0 n=>s.give o 0 n
 | .plc o i fs ver n=>s.take o i fs ver n
 | _=>none
def zCe:Nat:=2147483648
def V.asRow (k:Nat):V->V
 | .emp true=>.lst true k []
 | x=>x
def zBd (cfg:Cfg) (s:St) (t:TypeId) (id base:Nat) (x y:V):Option (V×St) :=
 match (cfg.elem t).bind cfg.zero with
 | none=>none
 | some z=>match s.elems base y with
  | none=>none
  | some e=>match e.2.base (x.asRow z.cells) with
   | none=>none
   | some b=>if b.1=z.cells/\V.cellsAll z.cells e.1=true/\(b.2.1++e.1).length<zCe then some (.ref id 0 (b.2.1++e.1).length,b.2.2.new id ⟨false,false,z.cells,b.2.1++e.1,0⟩) else none
def zN0:V->Option Int
 | .lst _ _ xs=>some xs.length
 | .emp _=>some 0
 | .ref _ _ n=>some n
 | .plc _ _ _ _ n=>some n
 | _=>none
def qLh:List V->Option V
 | [.int k a,.int _ b]=>some (.int k (if b<a then b else a))
 | _=>none
def qE6:List V->Option V
 | [.int k a,.int _ b]=>some (.int k (if b > a then b else a))
 | _=>none
def jV (cfg:Cfg) (s:St) (ts:Array TypeId) (id base:Nat) (b:Builtin) (vs:List V):Option (V×St) :=
 match b,vs with
 | .len,[x]=>match ts[0]? with
  | none=>none
  | some t=>if(cfg.elem t).isSome=true then mp (zN0 x) fun n=>(.int .i64 n,s) else none
 | .append,[.emp true,.int _ n]=>match ts[0]? with
  | none=>none
  | some t=>match ts[1]? with
   | none=>none
   | some t'=>match (cfg.elem t).bind cfg.zero with
    | none=>none
    | some z=>if(cfg.ints t').isSome=true/\0<n/\n<zCe then some (.ref id 0 n.toNat,s.new id ⟨false,false,z.cells,List.replicate n.toNat z,0⟩) else none
 | .append,[x,y]=>match ts[0]? with
  | none=>none
  | some t=>match ts[1]? with
   | none=>none
   | some t'=>if(cfg.elem t').isSome=true then zBd cfg s t id base x y else none
 | .clear,[.ref o lo n]=>match ts[0]? with
  | none=>none
  | some t=>match (cfg.elem t).bind cfg.zero with
   | none=>none
   | some z=>match zO s.obs o with
    | none=>none
    | some ob=>if ob.bx=false/\ob.fx=false/\ob.sz=z.cells/\0<n/\lo+n=ob.xs.length then some (.und,{ s with obs:=xC s.obs o { ob with xs:=ob.xs.take lo,ver:=ob.ver+1 } }) else none
 | .cap,[.emp true]=>match ts[0]? with
  | none=>none
  | some t=>if(cfg.elem t).isSome=true then some (.int .i64 0,s) else none
 | .min,vs=>mp (qLh vs) fun v=>(v,s)
 | .max,vs=>mp (qE6 vs) fun v=>(v,s)
 | _,_=>none
theorem zF9 {cfg:Cfg} {s:St} {ts:Array TypeId} {id base:Nat} {x y:V} (hy:∀k m,y≠.int k m):jV cfg s ts id base .append [x,y]=(match ts[0]? with
  | none=>none
  | some t=>match ts[1]? with
   | none=>none
   | some t'=>if(cfg.elem t').isSome=true then zBd cfg s t id base x y else none):=by
 cases y<;>first|exact absurd rfl (hy _ _)|(cases x<;>first|rfl|(rename_i b;cases b<;>rfl))
theorem zF2 {s:St} {base:Nat} {y:V} {r:List V×St} (h:s.elems base y=some r):∀k m,y≠.int k m:=by
 rintro k m rfl;simp[St.elems] at h
mutual
def V.bare:V->Bool
 | .int .. | .bool _ | .str _=>true
 | .lst own _ _=>!own
 | .agg xs=>V.bareL xs
 | _=>false
def V.bareL:List V->Bool
 | []=>true
 | x::r=>x.bare&&V.bareL r
end
def V.argOk:V->Bool
 | .lst true _ _=>true
 | v=>v.bare
def qU (s:St) (m:Md) (v:V):Option (V×St×List (Nat×Ob)) :=
 match m with
 | .snap=>if v.isTup=true then none else some (v,s,[])
 | .take=>match v.fz s with
  | none=>none
  | some a=>if a.1.argOk=true then some (a.1,a.2,[]) else none
 | .io=>match v with
  | .ref o lo n=>match zO s.obs o with
   | none=>none
   | some ob=>if ob.bx=false/\lo=0/\n=ob.xs.length then some (.iol ob.sz ob.xs,{ s with obs:=kT s.obs o },[(o,ob)]) else none
  | .ptr o i fs=>match zO s.obs o with
   | none=>none
   | some ob=>match ob.xs with
    | [x]=>if ob.bx=true/\ob.fx=false/\i=0/\fs.isEmpty=true then
      match x.fzI { s with obs:=kT s.obs o } with
      | none=>none
      | some a=>some (.iop a.1,a.2,[(o,ob)])
     else none
    | _=>none
  | _=>none
def jW:List Md->List V->St->Option (List V×St×List (Nat×Ob))
 | _,[],s=>some ([],s,[])
 | ms,v::r,s=>match qU s (ms.headD .snap) v with
  | none=>none
  | some a=>match jW ms.tail r a.2.1 with
   | none=>none
   | some b=>some (a.1::b.1,b.2.1,a.2.2++b.2.2)
def jI (s:St):List Md->List V->Option (List V)
 | _,[]=>some []
 | ms,v::r=>match ms.headD .snap with
  | .snap=>match v.snapA s with
   | none=>none
   | some a=>mp (jI s ms.tail r) fun l=>a::l
  | _=>mp (jI s ms.tail r) fun l=>v::l
def xU:List Md->List V->List Nat
 | _,[]=>[]
 | ms,v::r=>match ms.headD .snap with
  | .snap=>v.mention++xU ms.tail r
  | _=>xU ms.tail r
def xF (o:Nat) (ob:Ob) (v:V) (s:St):Option St :=
 if ob.bx=true then
  if V.alikeL ob.xs [v]=true then some { s with obs:=xC s.obs o { ob with xs:=[v],ver:=ob.ver+1 } } else none
 else match v with
  | .lst true _ ys=>if V.alikeL ob.xs ys=true then some { s with obs:=xC s.obs o { ob with xs:=ys,ver:=ob.ver+1 } } else none
  | _=>none
def vV:List (Nat×Ob)->List V->St->Option St
 | [],_,s=>some s
 | p::r,vs,s=>match vs with
  | []=>none
  | v::q=>match xF p.1 p.2 v s with
   | none=>none
   | some s=>vV r q s
def xM (call:Call) (cfg:Cfg) (s:St) (id:Nat) (f:FuncId) (vs:List V):Option (V×St) :=
 match jW (cfg.md f) vs s with
 | none=>none
 | some a=>match jI a.2.1 (cfg.md f) a.1 with
  | none=>none
  | some asv=>match call f asv with
   | none=>none
   | some r=>if((xU (cfg.md f) vs).isEmpty=true\/r.1.tidy=true/\V.tidyL r.2=true)/\(r.1.thaw id).2.2<=id+32 then
     match vV a.2.2 r.2 a.2.1 with
     | none=>none
     | some s'=>some ((r.1.thaw id).1,{ s' with obs:=(r.1.thaw id).2.1++s'.obs })
    else none
def qDq (s:St) (o i:Nat) (fs:List Nat) (q n:Nat):Option St :=
 match zO s.obs q with
 | none=>none
 | some oq=>if oq.bx=false/\oq.fx=false/\oq.xs.length=n then
   match zO (kT s.obs q) o with
   | none=>none
   | some ob=>match ob.get i fs with
    | some .und=>mp (ob.set i fs (.lst true oq.sz oq.xs)) fun ob'=>{ s with obs:=xC (kT s.obs q) o { ob' with ver:=ob.ver+1 } }
    | _=>none
  else none
def zLp (call:Call) (cfg:Cfg) (f:FuncId) (vs:List V) (s:St) (id:Nat):Option (V×St) :=
 match vs with
 | .plc o i fs ver n::r=>match s.take o i fs ver n with
  | none=>none
  | some a=>match jW (cfg.md f) (.ref (id+32) 0 n::r) (a.2.2.new (id+32) ⟨false,false,a.1,a.2.1,0⟩) with
   | none=>none
   | some l=>if(zO l.2.1.obs o).isSome=true then
     match xM call cfg (a.2.2.new (id+32) ⟨false,false,a.1,a.2.1,0⟩) id f (.ref (id+32) 0 n::r) with
     | none=>none
     | some b=>mp (qDq b.2 o i fs (id+32) n) fun s2=>(b.1,{ s2 with nxt:=id+64 })
    else none
 | vs=>mp (xM call cfg s id f vs) fun b=>(b.1,{ b.2 with nxt:=id+32 })
def xJ (s:St) (z x v:V):Option St :=
 match x with
 | .ptr o i fs=>match zO s.obs o with
  | none=>none
  | some ob=>match ob.get i fs with
   | none=>none
   | some old=>if old.alike v=true/\z.alike v=true then
     if ob.bx=true then if v.isTup=true then none else mp (ob.set i fs v) fun ob'=>{ s with obs:=xC s.obs o { ob' with ver:=if(old.scal&&v.scal)=true then ob.ver else ob.ver+1 } }
     else match v.fz s with
      | none=>none
      | some r=>match zO r.2.obs o with
       | none=>none
       | some ob2=>match ob2.get i fs with
        | none=>none
        | some old2=>if old2.alike r.1=true then mp (ob2.set i fs r.1) fun ob'=>{ r.2 with obs:=xC r.2.obs o { ob' with ver:=if(old2.scal&&v.scal)=true then ob2.ver else ob2.ver+1 } } else none
    else none
 | _=>none
def zCz (s:St) (z:V):V->Option V
 | .vptr x=>if z.alike x=true then some x else none
 | .ptr o i fs=>match zO s.obs o with
  | none=>none
  | some ob=>match ob.get i fs with
   | none=>none
   | some .und=>none
   | some v=>if z.alike v=true then some (v.lod o i ob.ver fs) else none
 | _=>none
def zC9:List V->Nat->Nat
 | [],_=>0
 | _::_,0=>0
 | x::r,i+1=>x.cells+zC9 r i
def jX (cfg:Cfg) (t:TypeId) (x:V) (i:Nat):Bool :=
 match cfg.flds t,x with
 | some fs,.agg xs=>decide (fs.length=xs.length)&&(match fs[i]?,xs[i]? with
  | some f,some y=>match cfg.zero f.2 with
   | some z=>decide (f.1=zC9 xs i)&&z.alike y
   | none=>false
  | _,_=>false)
 | _,_=>false
def xG (cfg:Cfg) (t:TypeId):List V->List (Nat×V)->Option (List V)
 | xs,[]=>some xs
 | xs,(i,v)::r=>if jX cfg t (.agg xs) i=true then
   match xs[i]? with
   | some x=>if x.alike v=true/\v.isTup=false then xG cfg t (xs.set i v) r else none
   | none=>none
  else none
def yL (cfg:Cfg) (s:St) (t:TypeId) (i:Nat):V->Option V
 | .vptr (.agg xs)=>if jX cfg t (.agg xs) i=true then mp (xs[i]?) .vptr else none
 | .ptr o k fs=>match zO s.obs o with|none=>none|some ob=>match ob.get k fs with|none=>none|some x=>if jX cfg t x i=true then some (.ptr o k (fs++[i])) else none
 | _=>none
def zD6 (s:St) (sz o lo n:Nat) (i:Nat):Option V :=
 if i<n then
  match zO s.obs o with
  | none=>none
  | some ob=>match ob.xs[lo+i]? with
   | none=>none
   | some y=>if ob.bx=false/\y.cells=sz then some (.ptr o (lo+i) []) else none
 else none
def yP (cfg:Cfg) (s:St) (t:TypeId) (x:V) (i:Int):Option V :=
 match (cfg.elem t).bind cfg.zero with
 | none=>none
 | some z=>if 0<=i then
   match x with
   | .lst false _ xs=>match xs[i.toNat]? with
    | none=>none
    | some y=>if y.cells=z.cells then some (.vptr y) else none
   | .ref o lo n=>zD6 s z.cells o lo n i.toNat
   | _=>none
  else none
def zBl (v:Option V) (d:Int):Option Int :=
 match v with
 | none=>some d
 | some (.int _ n)=>some n
 | _=>none
def zL0 (s:St) (k:Nat) (x:V) (a b:Int):Option V :=
  match x with
  | .lst false sz xs=>if a=0\/V.cellsAll k xs=true then some (.lst false sz ((xs.take b.toNat).drop a.toNat)) else none
  | .lst true sz []=>some (.lst true sz [])
  | .emp true=>some (.emp true)
  | .emp false=>some (.lst false 0 [])
  | .ref o l _=>if a=0 then some (.ref o l b.toNat)
    else if a=b then some (.lst false 0 [])
    else match zO s.obs o with
      | none=>none
      | some ob=>if ob.sz=k then some (.ref o (l+a.toNat) (b.toNat - a.toNat)) else none
  | _=>none
def zF6 (cfg:Cfg) (s:St) (t:TypeId) (x:V) (lo hi:Option V):Option V :=
 match (cfg.elem t).bind cfg.zero with
 | none=>none
 | some z=>match zN0 x with
  | none=>none
  | some n=>match zBl lo 0 with
   | none=>none
   | some a=>match zBl hi n with
    | none=>none
    | some b=>if 0<=a/\a<=b/\b<=n then zL0 s z.cells x a b else none
def zKk (env:List (Nat×V)):Option Operand->Option (Option V)
 | none=>some none
 | some x=>mp (opV env x) some
def opE (call:Call) (cfg:Cfg) (id base:Nat) (s:St) (ty:TypeId):Op->Option (V×St)
 | .move x=>mp (opT cfg s.env ty x) fun v=>(v,s)
 | .assign x=>mp (opT cfg s.env ty x) fun v=>(v,s)
 | .pick c a b=>match opV s.env c with|none=>none|some c=>match c with
  | .bool c=>mp (if c=true then opV s.env a else opV s.env b) fun v=>(v,s)
  | _=>none
 | .alloc t=>mp (cfg.zero t) fun z=>(.ptr id 0 [],s.new id ⟨true,false,z.cells,[z],0⟩)
 | .box t x=>match opV s.env x with|none=>none|some v=>match cfg.zero t with|none=>none|some z=>if z.alike v=true/\v.isTup=false then some (.ptr id 0 [],s.new id ⟨true,false,z.cells,[v],0⟩) else none
 | .build t ps=>match cfg.zero t with|none=>none|some z=>match z with
  | .agg zs=>if(cfg.flds t).isSome=true then match xE s.env ps.toList with|none=>none|some l=>mp (xG cfg t zs l) fun xs=>(.agg xs,s) else none
  | _=>none
 | .buildSlice t n ps=>match ((cfg.elem t).bind cfg.zero) with|none=>none|some z=>match xE s.env ps.toList with|none=>none|some l=>if l.map (·.1)=List.range n/\n * z.cells<=16777216/\l.all (fun e=>z.alike e.2)=true then mp (V.fzL (l.map (·.2)) s) fun r=>(.ref id 0 n,r.2.new id ⟨false,false,z.cells,r.1,0⟩) else none
 | .load t x=>match cfg.zero t with|none=>none|some z=>match opV s.env x with|none=>none|some v=>mp (zCz s z v) fun v=>(v,s)
 | .store t x y=>match cfg.zero t with|none=>none|some z=>match opV s.env x with|none=>none|some x=>match opV s.env y with|none=>none|some y=>mp (xJ s z x y) fun s=>(.und,s)
 | .nilCheck x=>match opV s.env x with|none=>none|some v=>match v with
  | .ptr o i p=>some (.ptr o i p,s)
  | .vptr x=>some (.vptr x,s)
  | _=>none
 | .binOp op t x y _=>match opV s.env x with
  | none=>none
  | some x=>if zHt y=true then mp (qJw cfg t op x) fun v=>(v,s) else match opV s.env y with
   | none=>none
   | some y=>if op = .shl\/op = .shr then mp (zF5 op x y) fun v=>(v,s) else mp (qEp cfg t op x y) fun v=>(v,s)
 | .convert ts t x=>match cfg.ints ts with|none=>none|some _=>match cfg.ints t with|none=>none|some k=>match opV s.env x with|none=>none|some x=>match x with
  | .int _ n=>some (.int k (k.wrap n),s)
  | _=>none
 | .unOp op _ x=>match opV s.env x with|none=>none|some x=>mp (unV op x) fun v=>(v,s)
 | .makeFunc (.func f) first caps=>if first.isEmpty=true then match kW s.env caps.toList with|none=>none|some cs=>if V.capsOk cs=true then some (.clo f cs,s) else none else none
 | .makeSlice t x y=>match opV s.env x with|none=>none|some x=>match opV s.env y with|none=>none|some y=>match ((cfg.elem t).bind cfg.zero) with|none=>none|some z=>match x,y with
  | .int _ n,.int _ m=>if 0<=n/\n<zCe/\m=n then some (.ref id 0 n.toNat,s.new id ⟨false,false,z.cells,List.replicate n.toNat z,0⟩) else none
  | _,_=>none
 | .slice t x lo hi none=>match opV s.env x with|none=>none|some x=>match zKk s.env lo with|none=>none|some lo=>match zKk s.env hi with|none=>none|some hi=>mp (zF6 cfg s t x lo hi) fun v=>(v,s)
 | .fieldAddr t x i=>match opV s.env x with|none=>none|some x=>mp (yL cfg s t i x) fun v=>(v,s)
 | .field t x i=>match opV s.env x with|none=>none|some x=>match x with
  | .agg xs=>if jX cfg t (.agg xs) i=true then mp (xs[i]?) fun v=>(v,s) else none
  | _=>none
 | .indexAddr t x i=>match opV s.env x with|none=>none|some x=>match opV s.env i with|none=>none|some i=>match i with
  | .int _ n=>mp (yP cfg s t x n) fun v=>(v,s)
  | _=>none
 | .extract x i=>match opV s.env x with|none=>none|some x=>match x with
  | .tup xs=>mp (xs[i]?) fun v=>(v,s)
  | _=>none
 | .call c=>match kW s.env c.args.toList with|none=>none|some vs=>match c.callee with
  | .builtin b=>jV cfg s c.argTypes id base b vs
  | .value f=>match opV s.env f with|none=>none|some f=>match f with
   | .clo f cs=>if V.capsOk cs=true then(if cfg.inB f=true then call.i f (vs++cs) s id else xM call cfg s id f (vs++cs)) else none
   | _=>none
  | _=>none
 | .index t x i=>if cfg.strT t=true then match opV s.env x with|none=>none|some x=>match x with
  | .str b=>match opV s.env i with|none=>none|some i=>match i with
   | .int _ n=>if 0<=n then mp (b[n.toNat]?) fun c=>(.int .u8 c.toNat,s) else none
   | _=>none
  | _=>none
  else none
 | _=>none
def xA (ops:List Oper) (env:List (Nat×V)):Option (Nat×Bool)->Option Bool
 | none=>some true
 | some (j,want)=>match ((ops[j]?).bind (·.dst)).bind (zO env) with|none=>none|some v=>match v with
  | .bool b=>some (b==want)
  | .iop _=>some false
  | _=>none
def St.put (s:St) (d:Option Nat) (v:V):St :=
 match d with
 | some d=>{ s with env:=xC s.env d v }
 | none=>s
def St.on (s:St) (draw:Bool) (n:Nat):St:=if draw=true then s else { s with nxt:=n+32 }
inductive Acc where
 | m|r|w|x
 deriving DecidableEq
def Acc.clash:Acc->Acc->Bool
 | .x,_=>true
 | _,.x=>true
 | .w,.m=>false
 | .m,.w=>false
 | .w,_=>true
 | _,.w=>true
 | _,_=>false
mutual
def V.accM:V->List (Nat×Acc)
 | .ref o _ _=>[(o,.m)]
 | .plc o _ _ _ _=>[(o,.r)]
 | .ptr o _ _=>[(o,.m)]
 | .agg xs=>V.accML xs
 | .tup xs=>V.accML xs
 | .clo _ cs=>V.accML cs
 | _=>[]
def V.accML:List V->List (Nat×Acc)
 | []=>[]
 | x::r=>x.accM++V.accML r
end
mutual
def V.accF:V->List (Nat×Acc)
 | .ref o _ _=>[(o,.x)]
 | .plc o _ _ _ _=>[(o,.w)]
 | .ptr o _ _=>[(o,.m)]
 | .agg xs=>V.accFL xs
 | .tup xs=>V.accFL xs
 | .clo _ cs=>V.accFL cs
 | _=>[]
def V.accFL:List V->List (Nat×Acc)
 | []=>[]
 | x::r=>x.accF++V.accFL r
end
def zA9 (a:Acc) (l:List Nat):List (Nat×Acc):=l.map fun o=>(o,a)
def vA (obs:List (Nat×Ob)) (o:Nat):List Nat :=
 (zO obs o).elim [] fun ob=>if ob.bx=true then V.mentionL ob.xs else []
def qF7 (obs:List (Nat×Ob)) (o:Nat):List (Nat×Acc) :=
 (zO obs o).elim [] fun ob=>if ob.bx=true then V.accFL ob.xs else []
def zE9 (s:St) (m:Md) (v:V):List (Nat×Acc) :=
 match m with
 | .snap=>[]
 | .take=>v.accF
 | .io=>zA9 .w v.mention++v.mention.flatMap (qF7 s.obs)
def vD:List Md->List V->St->List (Nat×Acc)
 | _,[],_=>[]
 | ms,v::r,s=>zE9 s (ms.headD .snap) v++(match qU s (ms.headD .snap) v with
  | none=>[]
  | some a=>vD ms.tail r a.2.1)
def zH7 (obs:List (Nat×Ob)):List Md->List V->List (Nat×Acc)
 | _,[]=>[]
 | ms,v::r=>(match ms.headD .snap with
  | .snap=>zA9 .r (v.mention++v.mention.flatMap (vA obs))
  | _=>[])++zH7 obs ms.tail r
def zEe (ms:List Md) (vs:List V) (s:St):List (Nat×Acc) :=
 vD ms vs s++(match jW ms vs s with
  | none=>[]
  | some a=>zH7 a.2.1.obs ms vs)
def zWt (base:Nat):V->List (Nat×Acc)
 | .ref o _ _=>[(o,if base<=o then .x else .w)]
 | y=>y.accF
def zC7 (cfg:Cfg) (id base:Nat) (s:St) (v:V):Op->List (Nat×Acc)
 | .alloc _=>[(id,.x)]
 | .box _ x=>(id,.x)::((opV s.env x).elim [] V.accM)
 | .makeSlice ..=>[(id,.x)]
 | .buildSlice _ _ ps=>(id,.x)::((xE s.env ps.toList).elim [] fun l=>V.accFL (l.map (·.2)))
 | .load _ x=>(opV s.env x).elim [] fun v=>zA9 .r v.mention
 | .store _ x y=>((opV s.env x).elim [] fun v=>zA9 .w v.mention)++((opV s.env y).elim [] V.accF)
 | .call c=>match c.callee with
  | .builtin .append=>(id,.x)::((kW s.env c.args.toList).elim [] fun vs=>match vs with
   | [x,y]=>x.accF++zWt base y
   | _=>[])
  | .builtin .clear=>(kW s.env c.args.toList).elim [] fun vs=>zA9 .x (V.mentionL vs)
  | .builtin _=>(kW s.env c.args.toList).elim [] V.accML
  | .value f=>zA9 .x v.mention++((kW s.env c.args.toList).elim [] fun vs=>match opV s.env f with
   | some (.clo f cs)=>zEe (cfg.md f) (vs++cs) s
   | _=>[])
  | _=>[]
 | op=>(kW s.env op.operands.toList).elim [] V.accML
def zIo (a b:List (Nat×Acc)):Bool:=a.any fun p=>b.any fun q=>decide (p.1=q.1)&&p.2.clash q.2
def zEg (call:Call) (cfg:Cfg) (draw:Bool) (all:List Oper) (base:Nat):Nat->List Oper->St->List (List (Nat×Acc))->Option (St×List (List (Nat×Acc)))
 | _,[],s,tr=>some (s,tr)
 | i,o::r,s,tr=>match xA all s.env o.guard with
  | none=>none
  | some true=>match opE (call.pick draw) cfg (if draw=true then base+32 * i else s.nxt) base s o.type o.op with
   | none=>none
   | some a=>zEg call cfg draw all base (i+1) r ((a.2.put o.dst a.1).on draw (max s.nxt a.2.nxt)) (if draw=true then zC7 cfg (base+32 * i) base s a.1 o.op::tr else [])
  | some false=>zEg call cfg draw all base (i+1) r ((s.put o.dst (.iop .und)).on draw s.nxt) (if draw=true then []::tr else [])
def yQ (ops:List Oper):Nat->List Oper->List Nat->List Nat
 | _,[],acc=>acc
 | i,o::r,acc=>yQ ops (i+1) r (acc++[o.after.toList.foldl (fun s e=>if Region.binds .any e=true/\e.on<i then s ||| 2 ^ e.on ||| acc.getD e.on 0 else s) 0])
def zMs (bits:List Nat):Nat->List (List (Nat×Acc))->Bool
 | _,[]=>true
 | n,a::r=>(r.zipIdx.all fun(b,j)=>(bits.getD n 0).testBit (n - 1 - j)||!zIo a b)&&zMs bits (n - 1) r
def xN (call:Call) (cfg:Cfg) (ops:List Oper) (draw:Bool) (s:St):Option St :=
 match zEg call cfg draw ops s.nxt 0 ops s [] with
 | none=>none
 | some t=>if draw=false\/zMs (yQ ops 0 ops []) (ops.length - 1) t.2=true then some (if draw=true then { t.1 with nxt:=s.nxt+32 * ops.length } else t.1) else none
def yE (o ver:Nat):Nat->List V->List V
 | _,[]=>[]
 | i,x::r=>x.lod o i ver []::yE o ver (i+1) r
def St.elemsA (s:St):V->Option (Nat×List V)
 | .ref o 0 n=>match zO s.obs o with
  | none=>none
  | some ob=>if ob.bx=false/\n=ob.xs.length then some (ob.sz,yE o ob.ver 0 ob.xs) else none
 | _=>none
def St.baseA (s:St):V->Option (Nat×List V×St)
 | .ref o 0 n=>match zO s.obs o with
  | none=>none
  | some ob=>if ob.bx=true/\ob.fx=true/\n=ob.xs.length then some (ob.sz,ob.xs,{ s with obs:=kT s.obs o }) else none
 | _=>none
def zD2 (cfg:Cfg) (s:St) (t:TypeId) (id base:Nat) (x y:V):Option (V×St) :=
 match (cfg.elem t).bind cfg.zero with
 | none=>none
 | some z=>match s.baseA x with
  | some _=>match s.elems base y with
   | none=>none
   | some e=>match e.2.baseA x with
    | none=>none
    | some b=>if b.1=z.cells/\V.cellsAll z.cells e.1=true/\0<e.1.length/\(b.2.1++e.1).length<zCe then some (.ref id 0 (b.2.1++e.1).length,b.2.2.new id ⟨true,true,z.cells,b.2.1++e.1,0⟩) else none
  | none=>match s.elemsA y with
   | none=>none
   | some e=>match s.base x with
    | none=>none
    | some b=>if b.1=z.cells/\e.1=z.cells/\b.2.1=[]/\0<e.2.length/\e.2.length<zCe then some (.ref id 0 e.2.length,b.2.2.new id ⟨true,true,z.cells,e.2,0⟩) else none
def St.unalias (s:St) (o:Nat):Option St :=
 match zO s.obs o with
 | none=>none
 | some ob=>if ob.bx=true/\ob.fx=true then
   match V.fzIL ob.xs { s with obs:=kT s.obs o } with
   | none=>none
   | some a=>some { a.2 with obs:=xC a.2.obs o ⟨false,false,ob.sz,a.1,ob.ver+1⟩ }
  else none
def zQf (cfg:Cfg) (s:St) (t:TypeId) (x:V) (i:Int):Option V :=
 match (cfg.elem t).bind cfg.zero with
 | none=>none
 | some z=>if 0<=i then
   match x with
   | .ref o 0 n=>if i.toNat<n then
     match zO s.obs o with
     | none=>none
     | some ob=>if ob.bx=true/\ob.fx=true then
       match ob.xs[0+i.toNat]? with
       | none=>none
       | some y=>if y.cells=z.cells then some (.ptr o (0+i.toNat) []) else none
      else none
    else none
   | _=>none
  else none
def zN7 (call:Call) (cfg:Cfg) (s:St) (f:FuncId) (vs:List V):Option V :=
 match vs with
 | [.ref o 0 n]=>if cfg.md f=[]/\cfg.inB f=false then
   match zO s.obs o with
   | none=>none
   | some ob=>if ob.bx=true/\ob.fx=true/\n=ob.xs.length/\0<n then
     match V.snapL s ob.xs with
     | none=>none
     | some ys=>match call f [.lst false 0 ys] with
      | some (.int k n,[])=>some (.int k n)
      | _=>none
    else none
  else none
 | _=>none
def opB (cfg:Cfg) (k id base:Nat) (s:St):Op->Option (V×St)
 | .move x=>if k=2 then
   match opV s.env x with
   | some (.ref o lo n)=>mp (s.unalias o) fun s'=>(.ref o lo n,s')
   | _=>none
  else none
 | .indexAddr t x i=>match opV s.env x with|none=>none|some x=>match opV s.env i with
  | some (.int _ n)=>mp (zQf cfg s t x n) fun v=>(v,s)
  | _=>none
 | .call c=>match kW s.env c.args.toList with|none=>none|some vs=>match c.callee with
  | .builtin .append=>match vs with
   | [x,y]=>match c.argTypes[0]? with
    | none=>none
    | some t=>match c.argTypes[1]? with
     | none=>none
     | some t'=>if(cfg.elem t').isSome=true then zD2 cfg s t id base x y else none
   | _=>none
  | _=>none
 | _=>none
def zDs (s:St):Op->Option (FuncId×List V)
 | .call c=>match kW s.env c.args.toList with|none=>none|some vs=>match c.callee with
  | .value f=>match opV s.env f with
   | some (.clo f [])=>match vs with
    | [.ref o 0 n]=>match zO s.obs o with
     | none=>none
     | some ob=>if ob.bx=true/\ob.fx=true then some (f,[.ref o 0 n]) else none
    | _=>none
   | _=>none
  | _=>none
 | _=>none
def opA (call:Call) (cfg:Cfg) (k id base:Nat) (s:St) (ty:TypeId) (o:Op):Option (V×St) :=
 match opB cfg k id base s o with
 | some r=>some r
 | none=>match zDs s o with
  | some r=>mp (zN7 call cfg s r.1 r.2) fun v=>(v,s)
  | none=>opE call cfg id base s ty o
def zMb (call:Call) (cfg:Cfg) (k:Nat) (all:List Oper) (base:Nat):List Oper->St->Option St
 | [],s=>some s
 | o::r,s=>match xA all s.env o.guard with
  | none=>none
  | some true=>match opA call cfg k s.nxt base s o.type o.op with
   | none=>none
   | some a=>zMb call cfg k all base r ((a.2.put o.dst a.1).on false (max s.nxt a.2.nxt))
  | some false=>zMb call cfg k all base r ((s.put o.dst (.iop .und)).on false s.nxt)
def zNp (call:Call) (cfg:Cfg) (k:Nat) (ops:List Oper) (s:St):Option St:=zMb call cfg k ops s.nxt ops s
def vR (call:Call) (cfg:Cfg) (k:Nat) (ops:List Oper) (draw:Bool) (s:St):Option St :=
 if k=0 then xN call cfg ops draw s else if draw=true then none else zNp call cfg k ops s
mutual
def V.ren (ρ:Nat->Option Nat) (vr:Nat->Nat):V->V
 | .ref o lo n=>match ρ o with|some o=>.ref o lo n|none=>.und
 | .plc o i fs ver n=>match ρ o with|some o'=>if vr o=ver then .plc o' i fs 0 n else .und|none=>.und
 | .ptr o i fs=>match ρ o with|some o=>.ptr o i fs|none=>.und
 | .agg xs=>.agg (V.renL ρ vr xs)
 | .tup xs=>.tup (V.renL ρ vr xs)
 | .clo f cs=>.clo f (V.renL ρ vr cs)
 | v=>v
def V.renL (ρ:Nat->Option Nat) (vr:Nat->Nat):List V->List V
 | []=>[]
 | x::r=>x.ren ρ vr::V.renL ρ vr r
end
def zA4 (l:List Nat) (env:List (Nat×V)):List (Nat×V) :=
 match l with
 | []=>[]
 | t::r=>match zO env t with
  | some v=>(t,v)::zA4 r env
  | none=>zA4 r env
def zRd:List Nat->List Nat
 | []=>[]
 | x::r=>x::(zRd r).filter (fun y=>!decide (y=x))
def zGx (np:Nat) (env:List (Nat×V)) (obs:List (Nat×Ob)):List Nat :=
 let a:=env.flatMap (fun e=>e.2.mention)
 let b:=a++a.flatMap (vA obs)
 zRd ((b++b.flatMap (vA obs)).filter (fun o=>decide (np<=o)))
def zM7:List Nat->Nat->Nat->Option Nat
 | [],_,_=>none
 | x::r,i,o=>if x=o then some i else zM7 r (i+1) o
def zEu (np:Nat) (l:List Nat) (o:Nat):Option Nat:=if o<np then some o else zM7 l np o
def zS3 (obs:List (Nat×Ob)) (o:Nat):Nat:=(zO obs o).elim 0 (·.ver)
def zCc (ρ:Nat->Option Nat) (vr:Nat->Nat):List (Nat×Ob)->List (Nat×Ob)
 | []=>[]
 | (o,ob)::r=>match ρ o with
  | some o'=>(o',⟨ob.bx,ob.fx,ob.sz,if ob.bx=true then V.renL ρ vr ob.xs else ob.xs,0⟩)::zCc ρ vr r
  | none=>zCc ρ vr r
def zBf (obs:List (Nat×Ob)):Nat->List (Nat×Ob)
 | 0=>[]
 | n+1=>zBf obs n++(zO obs n).elim [] fun ob=>[(n,ob)]
def zB4:Code->Nat
 | .region id _ _=>id
 | .seq a _=>zB4 a
 | .block _ b=>zB4 b
 | .loop b=>zB4 b+1000
 | .scope b=>zB4 b
 | _=>0
def zH (np:Nat) (keep:Option (List Nat)) (s:St):St :=
 match keep with
 | none=>s
 | some l =>
  let env:=zA4 l s.env
  let ids:=zGx np env s.obs
  let ρ:=zEu np ids
  let vr:=zS3 s.obs
  { env:=env.map (fun e=>(e.1,e.2.ren ρ vr)),obs:=zBf (zCc ρ vr s.obs) (np+ids.length),nxt:=np+ids.length }
def qC (k:Nat):Code->Option Code
 | .seq a b=>(qC k a).or (qC k b)
 | .cond _ a b=>(qC k a).or (qC k b)
 | .block _ b=>qC k b
 | .loop b=>if zB4 b=k then some b else qC k b
 | .scope b=>qC k b
 | _=>none
def jD (orc:Orc) (cfg:Cfg) (fn:FuncId):Code->St->Option (Ext×St)
 | .skip,s=>some (.normal,s)
 | .region id ops draw,s=>match vR orc.call cfg (cfg.alR fn id) ops.toList draw s with
  | none=>none
  | some s=>some (.normal,s)
 | .seq a b,s=>match jD orc cfg fn a s with
  | none=>none
  | some (.normal,s)=>jD orc cfg fn b s
  | some r=>some r
 | .cond c a b,s=>match opV s.env c with
  | some (.bool true)=>jD orc cfg fn a s
  | some (.bool false)=>jD orc cfg fn b s
  | _=>none
 | .block id body,s=>match jD orc cfg fn body s with
  | none=>none
  | some (.exit i,s)=>if i=id then some (.normal,s) else some (.exit i,s)
  | some r=>some r
 | .loop body,s=>orc.loop fn (zB4 body) s
 | .exit id,s=>some (.exit id,s)
 | .ret,s=>some (.ret,s)
 | _,_=>none
def zGd (orc:Orc) (cfg:Cfg) (fn:FuncId) (k:Nat) (s:St):Option (Ext×St) :=
 match cfg.code fn with
 | none=>none
 | some f=>match f.body.bind (qC k) with
  | none=>none
  | some body=>match jD orc cfg fn body (zH (f.params.size+f.nfree) (cfg.keep fn k) s) with
   | none=>none
   | some (.normal,s')=>orc.loop fn k s'
   | some (e,s')=>some (e,zH (f.params.size+f.nfree) (cfg.out fn k) s')
def zQ:Nat->List V->List (Nat×V)×List (Nat×Ob)
  | _,[]=>([],[])
  | i,v::r=>let b:=zQ (i+1) r
    match v with
    | .lst true sz xs=>((i,.ref i 0 xs.length)::b.1,(i,⟨false,false,sz,xs,0⟩)::b.2)
    | .iol sz xs=>((i,.ref i 0 xs.length)::b.1,(i,⟨false,true,sz,xs,0⟩)::b.2)
    | .iop x=>((i,.ptr i 0 [])::b.1,(i,⟨true,false,x.cells,[x],0⟩)::b.2)
    | v=>((i,v)::b.1,b.2)
def qGw (cfg:Cfg) (s:St):ResultVar->Option V
 | .tmp t=>opV s.env (.tmp t)
 | .cell t ty=>match cfg.zero ty with
  | none=>none
  | some z=>match opV s.env (.tmp t) with
   | none=>none
   | some v=>zCz s z v
def zEz (cfg:Cfg) (s:St):List ResultVar->Option (List V)
 | []=>some []
 | r::l=>match qGw cfg s r with
  | none=>none
  | some v=>mp (zEz cfg s l) fun vs=>v::vs
def xT:Nat->List V->St->Option (List V)
 | _,[],_=>some []
 | i,v::r,s=>match v with
  | .iol sz _=>match zO s.obs i with
   | none=>none
   | some ob=>if ob.bx=true then none else mp (xT (i+1) r { s with obs:=kT s.obs i }) fun l=>.lst true sz ob.xs::l
  | .iop _=>match zO s.obs i with
   | none=>none
   | some ob=>match ob.xs with
    | [y]=>match y.fzI { s with obs:=kT s.obs i } with
     | none=>none
     | some a=>mp (xT (i+1) r a.2) fun l=>a.1::l
    | _=>none
  | _=>xT (i+1) r s
def zFi:List V->V
 | [v]=>v
 | vs=>.tup vs
def vW (orc:Orc) (cfg:Cfg) (f:FuncId) (args:List V):Option (V×List V) :=
 match cfg.code f with
 | none=>none
 | some fn=>match fn.body with
  | none=>none
  | some body=>if args.length=fn.params.size+fn.nfree then match jD orc cfg f body ⟨(zQ 0 args).1,(zQ 0 args).2,args.length⟩ with
   | none=>none
   | some r=>if r.1 = .normal\/r.1 = .ret then
     match zEz cfg r.2 fn.results.toList with
     | none=>none
     | some vs=>match V.fzL vs r.2 with
      | none=>none
      | some q=>mp (xT 0 args q.2) fun outs=>(zFi q.1,outs)
    else none
   else none
def zAl:Nat->List V->List (Nat×V)
 | _,[]=>[]
 | i,v::r=>(i,v)::zAl (i+1) r
def yA (call:Call) (cfg:Cfg):Nat->FuncId->Nat->St->Option (Ext×St)
 | 0,_,_,_=>none
 | n+1,fn,k,s=>match cfg.code fn with
  | none=>none
  | some f=>match f.body.bind (qC k) with
   | none=>none
   | some body=>match jD ⟨call,yA call cfg n⟩ cfg fn body s with
    | none=>none
    | some (.normal,s')=>yA call cfg n fn k s'
    | some r=>some r
def zPj (call:Call) (cfg:Cfg) (f:FuncId) (args:List V) (s:St) (id:Nat):Option (V×St) :=
 match cfg.code f with
 | none=>none
 | some fn=>match fn.body with
  | none=>none
  | some body=>if args.length=fn.params.size+fn.nfree then match jD ⟨call,yA call cfg 6⟩ cfg f body ⟨zAl 0 args,s.obs,id⟩ with
   | none=>none
   | some r=>if r.1 = .normal\/r.1 = .ret then
     match zEz cfg r.2 fn.results.toList with
     | none=>none
     | some vs=>if vs.all (fun v=>!v.isTup)=true then some (zFi vs,⟨s.env,r.2.obs,r.2.nxt⟩) else none
    else none
   else none
def inE (call:Call) (cfg:Cfg) (f:FuncId) (args:List V) (s:St) (id:Nat):Option (V×St) :=
 if cfg.plB f=true then zLp call cfg f args s id else zPj call cfg f args s id
mutual
def V.half:V->V
 | .lst own sz xs=>.lst own sz (V.shareL xs)
 | .agg xs=>.agg (V.halfL xs)
 | .tup xs=>.tup (V.shareL xs)
 | v=>v
def V.halfL:List V->List V
 | []=>[]
 | x::r=>x.half::V.halfL r
end
def V.full:V->V
 | .lst _ _ xs=>.lst false 0 (V.shareL xs)
 | v=>v.half
noncomputable def zCa (orc:Orc) (cfg:Cfg) (f:FuncId) (args:List V):Option (V×List V) :=
 if cfg.nils f=true then
  match args with
  | [.lst false _ xs]=>if xs.isEmpty=true then
    open Classical in if vW orc cfg f [.emp true] = vW orc cfg f [.emp false] then vW orc cfg f [.emp true] else none
   else vW orc cfg f args
  | _=>none
 else mp (vW orc cfg f args) fun x=>(if cfg.hsB f=true then(if cfg.fsB f=true then x.1.full else x.1.half) else x.1,x.2)
end Go.Proofs.YtbcgenkegnmkhaaGreat.Ev
namespace Go.Proofs.YtbcgenkegnmkhaaGreat.Ev
open Go
set_option linter.unusedSectionVars false
def zXa:Value->Prop
 | .agg _=>False
 | .tuple _=>False
 | _=>True
def At (w:World) (b off:Nat) (cs:List Value):Prop:=∀i v,cs[i]? = some v->w.cell? ⟨b,off+i,none⟩=some v
def Row (w:World) (b n:Nat):Prop:=∃cs e,w.heap[b]? = some (.cells cs e (0,0))/\n<=cs.size
structure Hs where
 hd:Nat->Option (Nat×Nat×Nat×Nat)
 ofs:Nat->Nat->List Nat->Nat
 vr:Nat->Nat
 pa:Nat->Nat->List Nat->Nat->Option Addr
 pc:Nat->Nat->List Nat->Nat->Nat
mutual
def Rel (h:Hs) (sh:Nat->Prop) (w:World):V->List Value->List Nat->Prop
 | .int k n,cs,fp=>cs=[.int k n]/\fp=[]
 | .bool b,cs,fp=>cs=[.bool b]/\fp=[]
 | .str s,cs,fp=>cs=[.string s]/\fp=[]
 | .lst own sz xs,cs,fp =>
  if own=true then
   (xs=[]/\fp=[]/\cs=[.slice none 0 0]) \/
   ∃b off c ds fps,cs=[.slice (some ⟨b,off,none⟩) xs.length c]/\fp=b::fps/\xs.length<=c/\Row w b (off+c * sz)/\At w b off ds/\RelL h sh w sz xs ds fps
  else fp=[]/\∃a c,cs=[.slice a xs.length c]/\xs.length<=c/\(xs=[]/\(a=none->c=0)\/∃b off z ds,a=some ⟨b,off,none⟩/\sh b/\At w b off ds/\RelL h sh w z xs ds [])
 | .emp nil,cs,fp=>fp=[]/\∃a c,cs=[.slice a 0 c]/\a.isNone=nil/\(a=none->c=0)
 | .agg xs,cs,fp=>RelA h sh w xs cs fp
 | .ref o lo n,cs,fp=>fp=[]/\(match h.hd o with
  | none=>lo=0/\n=0/\cs=[.slice none 0 0]
  | some (b,off,c,z)=>lo+n<=c/\cs=[.slice (some ⟨b,off+lo * z,none⟩) n (c - lo)])
 | .plc o i fs ver n,cs,fp=>fp=[]/\ver<=h.vr o/\cs=[.slice (h.pa o i fs ver) n (h.pc o i fs ver)]
 | .ptr o i fs,cs,fp=>fp=[]/\∃b off c z,h.hd o=some (b,off,c,z)/\cs=[.pointer (some ⟨b,off+h.ofs o i fs,none⟩)]
 | .vptr x,cs,fp=>fp=[]/\∃b off ds,cs=[.pointer (some ⟨b,off,none⟩)]/\sh b/\At w b off ds/\x.mention=[]/\Rel h sh w x ds []
 | .clo f cap,cs,fp=>fp=[]/\∃vs,cs=[.func (.func f) #[] vs]/\RelC h sh w cap vs.toList
 | .und,cs,fp=>fp=[]/\∃c,cs=[c]/\zXa c
 | .tup _,_,_=>False
 | .iol _ _,_,_=>False
 | .iop _,_,_=>False
def RelL (h:Hs) (sh:Nat->Prop) (w:World) (z:Nat):List V->List Value->List Nat->Prop
 | [],cs,fp=>cs=[]/\fp=[]
 | x::r,cs,fp=>∃c1 c2 f1 f2,cs=c1++c2/\fp=f1++f2/\c1.length=z/\x.mention=[]/\Rel h sh w x c1 f1/\RelL h sh w z r c2 f2
def RelA (h:Hs) (sh:Nat->Prop) (w:World):List V->List Value->List Nat->Prop
 | [],cs,fp=>cs=[]/\fp=[]
 | x::r,cs,fp=>∃c1 c2 f1 f2,cs=c1++c2/\fp=f1++f2/\Rel h sh w x c1 f1/\RelA h sh w r c2 f2
def RelC (h:Hs) (sh:Nat->Prop) (w:World):List V->List Value->Prop
 | [],vs=>vs=[]
 | x::r,vs=>∃v q,vs=v::q/\Rel h sh w x [v] []/\RelC h sh w r q
end
mutual
theorem Rel.len {h:Hs} {sh:Nat->Prop} {w:World}:∀{v:V} {cs:List Value} {fp:List Nat},Rel h sh w v cs fp->cs.length=v.cells
 | .int ..,_,_,r=>by simp only[Rel] at r;simp[r.1,V.cells]
 | .bool _,_,_,r=>by simp only[Rel] at r;simp[r.1,V.cells]
 | .str _,_,_,r=>by simp only[Rel] at r;simp[r.1,V.cells]
 | .lst own _ _,_,_,r=>by
  cases own
  ·simp only[Rel,Bool.false_eq_true,if_false] at r
   obtain⟨_,a,c,e,_⟩:=r;simp[e,V.cells]
  ·simp only[Rel,if_true] at r
   rcases r with⟨_,_,e⟩|⟨_,_,_,_,_,e,_⟩<;>simp[e,V.cells]
 | .emp _,_,_,r=>by simp only[Rel] at r;obtain⟨_,a,c,e,_⟩:=r;simp[e,V.cells]
 | .agg xs,_,_,r=>by simp only[Rel] at r;simpa [V.cells] using RelA.len r
 | .ref ..,_,_,r=>by
  simp only[Rel] at r;obtain⟨_,r⟩:=r;split at r
  ·simp[r.2.2,V.cells]
  ·simp[r.2,V.cells]
 | .plc ..,_,_,r=>by simp only[Rel] at r;simp[r.2.2,V.cells]
 | .ptr ..,_,_,r=>by simp only[Rel] at r;obtain⟨_,_,_,_,_,_,e⟩:=r;simp[e,V.cells]
 | .vptr _,_,_,r=>by simp only[Rel] at r;obtain⟨_,_,_,_,e,_⟩:=r;simp[e,V.cells]
 | .clo ..,_,_,r=>by simp only[Rel] at r;obtain⟨_,_,e,_⟩:=r;simp[e,V.cells]
 | .und,_,_,r=>by simp only[Rel] at r;obtain⟨_,_,e,_⟩:=r;simp[e,V.cells]
 | .tup _,_,_,r=>by simp only[Rel] at r
 | .iol _ _,_,_,r=>by simp only[Rel] at r
 | .iop _,_,_,r=>by simp only[Rel] at r
theorem RelA.len {h:Hs} {sh:Nat->Prop} {w:World}:∀{xs:List V} {cs:List Value} {fp:List Nat},RelA h sh w xs cs fp->cs.length=V.cellsL xs
 | [],_,_,r=>by simp only[RelA] at r;simp[r.1,V.cellsL]
 | x::q,_,_,r=>by
  simp only[RelA] at r;obtain⟨c1,c2,f1,f2,rfl,_,r1,r2⟩:=r;simp[V.cellsL,Rel.len r1,RelA.len r2]
end
theorem RelL.len {h:Hs} {sh:Nat->Prop} {w:World} {z:Nat}:∀{xs:List V} {cs:List Value} {fp:List Nat},RelL h sh w z xs cs fp->cs.length=xs.length * z
 | [],_,_,r=>by simp only[RelL] at r;simp[r.1]
 | x::q,_,_,r=>by
  simp only[RelL] at r;obtain⟨c1,c2,f1,f2,rfl,_,e,_,_,r2⟩:=r;rw[List.length_append,e,RelL.len r2,List.length_cons,Nat.succ_mul,Nat.add_comm]
structure Hs.Le (u:Nat->Prop) (h h':Hs):Prop where
 hd:∀o,u o->h'.hd o=h.hd o
 ofs:∀o,u o->h'.ofs o=h.ofs o
 vr:∀o,u o->h.vr o<=h'.vr o
 pa:∀o,u o->∀i fs ver,ver<=h.vr o->h'.pa o i fs ver=h.pa o i fs ver
 pc:∀o,u o->∀i fs ver,ver<=h.vr o->h'.pc o i fs ver=h.pc o i fs ver
theorem Hs.Le.refl (u:Nat->Prop) (h:Hs):h.Le u h:=⟨fun _ _=>rfl,fun _ _=>rfl,fun _ _=>Nat.le_refl _,fun _ _ _ _ _ _=>rfl,fun _ _ _ _ _ _=>rfl⟩
theorem Hs.Le.trans {u u':Nat->Prop} {h1 h2 h3:Hs} (a:h1.Le u h2) (b:h2.Le u' h3) (hu:∀o,u o->u' o):h1.Le u h3 :=
  ⟨fun o p=>(b.hd o (hu o p)).trans (a.hd o p),fun o p=>(b.ofs o (hu o p)).trans (a.ofs o p),fun o p=>Nat.le_trans (a.vr o p) (b.vr o (hu o p)),
   fun o p i fs ver q=>(b.pa o (hu o p) i fs ver (Nat.le_trans q (a.vr o p))).trans (a.pa o p i fs ver q),
   fun o p i fs ver q=>(b.pc o (hu o p) i fs ver (Nat.le_trans q (a.vr o p))).trans (a.pc o p i fs ver q)⟩
theorem zG8 {w w':World} {b:Nat} (e:w'.heap[b]? = w.heap[b]?) (off:Nat):w'.cell? ⟨b,off,none⟩=w.cell? ⟨b,off,none⟩:=by
 simp only[World.cell?,e]
theorem At.same {w w':World} {b off:Nat} {cs:List Value} (a:At w b off cs) (e:w'.heap[b]? = w.heap[b]?):At w' b off cs:=fun i v hi=>by
 rw[zG8 e];exact a i v hi
theorem Row.same {w w':World} {b n:Nat} (a:Row w b n) (e:w'.heap[b]? = w.heap[b]?):Row w' b n:=by
 obtain⟨cs,t,h,l⟩:=a;exact⟨cs,t,e.trans h,l⟩
section
variable {h h' : Hs} {sh sh' : Nat->Prop} {w w' : World} {u : Nat->Prop} (hl : h.Le u h') (hs : ∀ b,sh b->sh' b/\w'.heap[b]? = w.heap[b]?)
include hl hs
mutual
theorem Rel.keep:∀{v:V} {cs:List Value} {fp:List Nat},Rel h sh w v cs fp->(∀o∈v.mention,u o)->(∀b∈fp,w'.heap[b]? = w.heap[b]?)->Rel h' sh' w' v cs fp
 | .int ..,_,_,r,_,_=>by simpa only[Rel] using r
 | .bool _,_,_,r,_,_=>by simpa only[Rel] using r
 | .str _,_,_,r,_,_=>by simpa only[Rel] using r
 | .lst own sz xs,_,_,r,hm,hf=>by
  cases own
  ·simp only[Rel,Bool.false_eq_true,if_false] at r ⊢
   obtain⟨e0,a,c,e,hc,r⟩:=r;refine⟨e0,a,c,e,hc,?_⟩;rcases r with r|⟨b,off,z,ds,ea,hb,hat,hr⟩
   ·exact .inl r
   ·exact .inr ⟨b,off,z,ds,ea,(hs b hb).1,hat.same (hs b hb).2,RelL.keep hr (fun x hx=>by cases hx)⟩
  ·simp only[Rel,if_true] at r ⊢
   rcases r with r|⟨b,off,c,ds,fps,e,ef,hc,hrow,hat,hr⟩
   ·exact .inl r
   ·subst ef
    exact .inr ⟨b,off,c,ds,fps,e,rfl,hc,hrow.same (hf b (List.mem_cons_self ..)),hat.same (hf b (List.mem_cons_self ..)),RelL.keep hr (fun x hx=>hf x (List.mem_cons_of_mem _ hx))⟩
 | .emp _,_,_,r,_,_=>by simpa only[Rel] using r
 | .agg xs,_,_,r,hm,hf=>by
  simp only[Rel] at r ⊢;exact RelA.keep r (by simpa only[V.mention] using hm) hf
 | .ref o lo n,_,_,r,hm,_=>by
  simp only[Rel] at r ⊢;rw[hl.hd o (hm o (by simp[V.mention]))];exact r
 | .plc o i fs ver n,_,_,r,hm,_=>by
  simp only[Rel] at r ⊢;have ho:=hm o (by simp[V.mention]);rw[hl.pa o ho _ _ _ r.2.1,hl.pc o ho _ _ _ r.2.1];exact⟨r.1,Nat.le_trans r.2.1 (hl.vr o ho),r.2.2⟩
 | .ptr o i fs,_,_,r,hm,_=>by
  simp only[Rel] at r ⊢;have ho:=hm o (by simp[V.mention]);rw[hl.hd o ho,hl.ofs o ho];exact r
 | .vptr x,_,_,r,_,_=>by
  simp only[Rel] at r ⊢;obtain⟨e0,b,off,ds,e,hb,hat,hx,hr⟩:=r;exact⟨e0,b,off,ds,e,(hs b hb).1,hat.same (hs b hb).2,hx,Rel.keep hr (by rw[hx];intro o ho;cases ho) (fun x hx=>by cases hx)⟩
 | .clo f cap,_,_,r,hm,_=>by
  simp only[Rel] at r ⊢;obtain⟨e0,vs,e,hr⟩:=r;exact⟨e0,vs,e,RelC.keep hr (by simpa only[V.mention] using hm)⟩
 | .und,_,_,r,_,_=>by simpa only[Rel] using r
 | .tup _,_,_,r,_,_=>by simp only[Rel] at r
 | .iol _ _,_,_,r,_,_=>by simp only[Rel] at r
 | .iop _,_,_,r,_,_=>by simp only[Rel] at r
theorem RelL.keep:∀{z:Nat} {xs:List V} {cs:List Value} {fp:List Nat},RelL h sh w z xs cs fp->(∀b∈fp,w'.heap[b]? = w.heap[b]?)->RelL h' sh' w' z xs cs fp
 | _,[],_,_,r,_=>by simpa only[RelL] using r
 | _,x::q,_,_,r,hf=>by
  simp only[RelL] at r ⊢;obtain⟨c1,c2,f1,f2,e,ef,el,hx,r1,r2⟩:=r;subst ef;exact⟨c1,c2,f1,f2,e,rfl,el,hx,Rel.keep r1 (by rw[hx];intro o ho;cases ho) (fun b hb=>hf b (List.mem_append_left _ hb)),RelL.keep r2 (fun b hb=>hf b (List.mem_append_right _ hb))⟩
theorem RelA.keep:∀{xs:List V} {cs:List Value} {fp:List Nat},RelA h sh w xs cs fp->(∀o∈V.mentionL xs,u o)->(∀b∈fp,w'.heap[b]? = w.heap[b]?)->RelA h' sh' w' xs cs fp
 | [],_,_,r,_,_=>by simpa only[RelA] using r
 | x::q,_,_,r,hm,hf=>by
  simp only[RelA] at r ⊢;obtain⟨c1,c2,f1,f2,e,ef,r1,r2⟩:=r;subst ef;simp only[V.mentionL,List.mem_append] at hm;exact⟨c1,c2,f1,f2,e,rfl,Rel.keep r1 (fun o ho=>hm o (.inl ho)) (fun b hb=>hf b (List.mem_append_left _ hb)),RelA.keep r2 (fun o ho=>hm o (.inr ho)) (fun b hb=>hf b (List.mem_append_right _ hb))⟩
theorem RelC.keep:∀{xs:List V} {vs:List Value},RelC h sh w xs vs->(∀o∈V.mentionL xs,u o)->RelC h' sh' w' xs vs
 | [],_,r,_=>by simpa only[RelC] using r
 | x::q,_,r,hm=>by
  simp only[RelC] at r ⊢;obtain⟨v,p,e,r1,r2⟩:=r;simp only[V.mentionL,List.mem_append] at hm;exact⟨v,p,e,Rel.keep r1 (fun o ho=>hm o (.inl ho)) (fun b hb=>by cases hb),RelC.keep r2 (fun o ho=>hm o (.inr ho))⟩
end
end
theorem zVl (a:Addr):a.add 0=a:=by simp[Addr.add]
theorem yW (b off n:Nat):Addr.add ⟨b,off,none⟩ n=⟨b,off+n,none⟩:=by
 unfold Addr.add;split
 ·rename_i h;subst h;rfl
 ·rfl
theorem qI {α:Type} (P:Program) (a:α) (w:World):(pure a:Sem α).run P w = .ok a w:=rfl
theorem zD {α β:Type} {P:Program} {s:Sem α} {f:α->Sem β} {w w':World} {a:α} (h:s.run P w = .ok a w'):(s >>= f).run P w=(f a).run P w':=by
 rw[Sem.run_bind,h];rfl
theorem zDb (P:Program) (w:World) (b off:Nat) (ds:List Value) (ha:At w b off ds):∀(n i:Nat) (acc:Array Value),i+n=ds.length->acc.toList=ds.take i ->
  (loadCellsFrom ⟨b,off,none⟩ i n acc).run P w = .ok ds.toArray w:=by
 intro n
 induction n with
 | zero =>
  intro i acc hi hacc;rw[List.take_of_length_le (by omega)] at hacc;simp only[loadCellsFrom];rw[qI,<- hacc]
 | succ n ih =>
  intro i acc hi hacc;have hg:ds[i]? = some (ds[i]'(by omega)):=List.getElem?_eq_getElem _;have hc:=ha i _ hg;simp only[loadCellsFrom]
  have hl:(load (Addr.add ⟨b,off,none⟩ i)).run P w = .ok (ds[i]'(by omega)) w:=by
   rw[yW];simp only[load,Sem.run,hc]
  rw[zD hl];refine ih (i+1) _ (by omega) ?_;rw[Array.toList_push,hacc,List.take_succ_eq_append_getElem (by omega)]
theorem zCb (P:Program) (w:World) (b off n:Nat) (ds:List Value) (ha:At w b off ds) (hn:ds.length=n) :
  (loadCells ⟨b,off,none⟩ n).run P w = .ok ds.toArray w:=by
 unfold loadCells;exact zDb P w b off ds ha n 0 #[] (by omega) (by simp)
structure Grew (w w':World):Prop where
 sz:w.heap.size<=w'.heap.size
 os:w'.os=w.os
 out:w'.output=w.output
theorem Grew.refl (w:World):Grew w w:=⟨Nat.le_refl _,rfl,rfl⟩
theorem Grew.trans {a b c:World} (h:Grew a b) (k:Grew b c):Grew a c:=⟨Nat.le_trans h.sz k.sz,k.os.trans h.os,k.out.trans h.out⟩
structure Wrote (b n:Nat) (w w':World):Prop where
 other:∀b',b'≠b->w'.heap[b']? = w.heap[b']?
 size:w'.heap.size=w.heap.size
 os:w'.os=w.os
 out:w'.output=w.output
 row:Row w' b n
theorem zLb {w:World} {b k:Nat} {v:Value} {cs:Array Value} {e:TypeId} (h:w.heap[b]? = some (.cells cs e (0,0))) :
  (w.setCell ⟨b,k,none⟩ v).heap[b]? = some (.cells (cs.setIfInBounds k v) e (0,0))/\(∀b',b'≠b->(w.setCell ⟨b,k,none⟩ v).heap[b']? = w.heap[b']?)/\(w.setCell ⟨b,k,none⟩ v).heap.size=w.heap.size:=by
 refine⟨?_,?_,?_⟩
 ·simp[World.setCell,Array.getElem?_modify,h]
 ·intro b' hb
  simp[World.setCell,Array.getElem?_modify,Ne.symm hb]
 ·simp[World.setCell]
theorem yT (P:Program) (b off:Nat):∀(vs:List Value) (i:Nat) (w:World) (n:Nat),Row w b n->off+i+vs.length<=n->(∀v∈vs,zXa v) ->
  ∃w',(storeCells ⟨b,off,none⟩ vs i).run P w = .ok () w'/\Wrote b n w w' /\
   ∀k,w'.cell? ⟨b,k,none⟩=if off+i<=k/\k<off+i+vs.length then vs[k - (off+i)]? else w.cell? ⟨b,k,none⟩
 | [],i,w,n,hr,_,_=>⟨w,by simp only[storeCells];rw[qI],⟨fun _ _=>rfl,rfl,rfl,rfl,hr⟩,fun k=>by rw[if_neg (by simp)]⟩
 | v::r,i,w,n,hr,hn,hv=>by
  obtain⟨cs,e,hb,hsz⟩:=hr;simp only[List.length_cons] at hn
  have hcell:w.cell? ⟨b,off+i,none⟩=some (cs[off+i]'(by omega)):=by
   simp only[World.cell?,hb,Option.isSome_none,Bool.false_eq_true,if_false];exact Array.getElem?_eq_getElem _
  have hfz:w.frozen? ⟨b,off+i,none⟩=false:=by simp[World.frozen?,hb]
  have hone:=hv v (List.mem_cons_self ..)
  have hst:(store (Addr.add ⟨b,off,none⟩ i) v).run P w = .ok () (w.setCell ⟨b,off+i,none⟩ v):=by
   rw[yW];cases v<;>first|exact hone.elim|simp only[store,Sem.run,hcell,hfz,Bool.false_eq_true,if_false]
  obtain⟨h1,h2,h3⟩:=zLb (k:=off+i) (v:=v) hb;obtain⟨w',hrun,hw,hc⟩:=yT P b off r (i+1) (w.setCell ⟨b,off+i,none⟩ v) n ⟨_,e,h1,by simpa using hsz⟩ (by omega) (fun x hx=>hv x (List.mem_cons_of_mem _ hx));refine⟨w',?_,⟨fun b' hb'=>(hw.other b' hb').trans (h2 b' hb'),hw.size.trans h3,hw.os,hw.out,hw.row⟩,?_⟩
  ·simp only[storeCells]
   rw[zD hst];exact hrun
  ·intro k
   rw[hc k]
   have hk:(w.setCell ⟨b,off+i,none⟩ v).cell? ⟨b,k,none⟩=if k=off+i then some v else w.cell? ⟨b,k,none⟩:=by
    simp only[World.cell?,h1,hb,Option.isSome_none,Bool.false_eq_true,if_false];rw[Array.getElem?_setIfInBounds]
    by_cases hki:off+i=k
    ·subst hki;simp;omega
    ·rw[if_neg hki,if_neg (fun h=>hki h.symm)]
   rw[hk]
   by_cases c1:k=off+i
   ·subst c1
    rw[if_neg (by omega),if_pos rfl,if_pos (by simp)];simp
   ·by_cases c2:off+(i+1)<=k/\k<off+(i+1)+r.length
    ·rw[if_pos c2,if_pos (by simp;omega)]
     rw[show k - (off+i)=(k - (off+(i+1)))+1 from by omega,List.getElem?_cons_succ]
    ·rw[if_neg c2,if_neg c1,if_neg (by simp;omega)]
theorem zJg (w:World) (o:Obj):({ w with heap:=w.heap.push o }:World).heap[w.heap.size]? = some o/\∀b,b<w.heap.size->({ w with heap:=w.heap.push o }:World).heap[b]? = w.heap[b]?:=by
 refine⟨by simp,fun b hb=>?_⟩;simp[Array.getElem?_push,Nat.ne_of_lt hb]
theorem qLy (w:World) (cs:Array Value) (e:TypeId):At { w with heap:=w.heap.push (.cells cs e (0,0)) } w.heap.size 0 cs.toList:=by
 intro i v hi;simp only[World.cell?,(zJg w _).1,Option.isSome_none,Bool.false_eq_true,if_false,Nat.zero_add]
 simpa using hi
theorem At.append {w:World} {b off:Nat} {c d:List Value}:At w b off (c++d)↔At w b off c/\At w b (off+c.length) d:=by
 constructor
 ·intro h
  refine⟨fun i v hi=>h i v ?_,fun i v hi=>?_⟩
  ·have:=(List.getElem?_eq_some_iff.1 hi).1
   rw[List.getElem?_append_left this];exact hi
  ·rw[Nat.add_assoc]
   refine h (c.length+i) v ?_;rw[List.getElem?_append_right (by omega)];rw[show c.length+i - c.length=i from by omega];exact hi
 ·rintro⟨h1,h2⟩ i v hi
  by_cases hlt:i<c.length
  ·rw[List.getElem?_append_left hlt] at hi;exact h1 i v hi
  ·rw[List.getElem?_append_right (by omega)] at hi
   have:=h2 _ _ hi
   rw[show off+i=off+c.length+(i - c.length) from by omega];exact this
end Go.Proofs.YtbcgenkegnmkhaaGreat.Ev
namespace Go.Proofs.YtbcgenkegnmkhaaGreat.Ev
open Go
set_option linter.unusedSectionVars false
def RelX (h:Hs) (sh:Nat->Prop) (w:World) (z:Nat):List V->List Value->List Nat->Prop
 | [],cs,fp=>cs=[]/\fp=[]
 | x::r,cs,fp=>∃c1 c2 f1 f2,cs=c1++c2/\fp=f1++f2/\c1.length=z/\Rel h sh w x c1 f1/\RelX h sh w z r c2 f2
theorem RelL.iff {h:Hs} {sh:Nat->Prop} {w:World} {z:Nat}:∀{xs:List V} {cs:List Value} {fp:List Nat},RelL h sh w z xs cs fp↔RelX h sh w z xs cs fp/\∀x∈xs,x.mention=[]
 | [],_,_=>by simp[RelL,RelX]
 | x::r,cs,fp=>by
  simp only[RelL,RelX,RelL.iff (xs:=r)];constructor
  ·rintro⟨c1,c2,f1,f2,e,ef,el,hm,r1,r2,r3⟩
   exact⟨⟨c1,c2,f1,f2,e,ef,el,r1,r2⟩,fun y hy=>by rcases List.mem_cons.1 hy with rfl|hy;exact hm;exact r3 y hy⟩
  ·rintro⟨⟨c1,c2,f1,f2,e,ef,el,r1,r2⟩,hm⟩
   exact⟨c1,c2,f1,f2,e,ef,el,hm x (List.mem_cons_self ..),r1,r2,fun y hy=>hm y (List.mem_cons_of_mem _ hy)⟩
theorem RelX.len {h:Hs} {sh:Nat->Prop} {w:World} {z:Nat}:∀{xs:List V} {cs:List Value} {fp:List Nat},RelX h sh w z xs cs fp->cs.length=xs.length * z
 | [],_,_,r=>by simp only[RelX] at r;simp[r.1]
 | x::q,_,_,r=>by
  simp only[RelX] at r;obtain⟨c1,c2,f1,f2,rfl,_,e,_,r2⟩:=r;rw[List.length_append,e,RelX.len r2,List.length_cons,Nat.succ_mul,Nat.add_comm]
structure Goes (u:Nat->Prop) (h:Hs) (sh:Nat->Prop) (w:World) (h':Hs) (sh':Nat->Prop) (w':World):Prop where
 le:h.Le u h'
 sh:∀b,sh b->sh' b/\w'.heap[b]? = w.heap[b]?
theorem Goes.refl (u:Nat->Prop) (h:Hs) (sh:Nat->Prop) (w:World):Goes u h sh w h sh w:=⟨Hs.Le.refl u h,fun _ hb=>⟨hb,rfl⟩⟩
section
variable {u : Nat->Prop} {h h' : Hs} {sh sh' : Nat->Prop} {w w' : World}
theorem RelX.keep (g:Goes u h sh w h' sh' w'):∀{z:Nat} {xs:List V} {cs:List Value} {fp:List Nat},RelX h sh w z xs cs fp->(∀o∈V.mentionL xs,u o)->(∀b∈fp,w'.heap[b]? = w.heap[b]?)->RelX h' sh' w' z xs cs fp
 | _,[],_,_,r,_,_=>by simpa only[RelX] using r
 | _,x::q,_,_,r,hm,hf=>by
  simp only[RelX] at r ⊢;obtain⟨c1,c2,f1,f2,e,ef,el,r1,r2⟩:=r;subst ef;simp only[V.mentionL,List.mem_append] at hm;exact⟨c1,c2,f1,f2,e,rfl,el,Rel.keep g.le g.sh r1 (fun o ho=>hm o (.inl ho)) (fun b hb=>hf b (List.mem_append_left _ hb)),RelX.keep g r2 (fun o ho=>hm o (.inr ho)) (fun b hb=>hf b (List.mem_append_right _ hb))⟩
theorem RelA.at_:∀{xs:List V} {cs:List Value} {fp:List Nat} {i:Nat} {x:V},RelA h sh w xs cs fp->(∀o∈V.mentionL xs,u o)->xs[i]? = some x ->
  ∃d0 d1 d2 f0 f1 f2,cs=d0++(d1++d2)/\fp=f0++(f1++f2)/\d0.length=zC9 xs i/\Rel h sh w x d1 f1/\(∀o∈x.mention,u o) /\
   ∀h' sh' w',Goes u h sh w h' sh' w'->(∀b∈f0++f2,w'.heap[b]? = w.heap[b]?)->∀y d f,Rel h' sh' w' y d f->RelA h' sh' w' (xs.set i y) (d0++(d++d2)) (f0++(f++f2))
 | [],_,_,_,_,_,_,hi=>by cases hi
 | x::q,cs,fp,0,x',r,hm,hi=>by
  simp only[RelA] at r;obtain⟨c1,c2,f1,f2,rfl,rfl,r1,r2⟩:=r;simp only[List.getElem?_cons_zero,Option.some.injEq] at hi;subst hi;simp only[V.mentionL,List.mem_append] at hm;refine⟨[],c1,c2,[],f1,f2,rfl,rfl,rfl,r1,fun o ho=>hm o (.inl ho),fun h' sh' w' g hf y d f ry=>?_⟩;simp only[List.set_cons_zero,RelA,List.nil_append];exact⟨d,c2,f,f2,rfl,rfl,ry,RelA.keep g.le g.sh r2 (fun o ho=>hm o (.inr ho)) (fun b hb=>hf b (by simpa using hb))⟩
 | x::q,cs,fp,i+1,x',r,hm,hi=>by
  simp only[RelA] at r;obtain⟨c1,c2,f1,f2,rfl,rfl,r1,r2⟩:=r;simp only[List.getElem?_cons_succ] at hi;simp only[V.mentionL,List.mem_append] at hm;obtain⟨d0,d1,d2,g0,g1,g2,rfl,rfl,hl,rx,hmx,hset⟩:=RelA.at_ r2 (fun o ho=>hm o (.inr ho)) hi;refine⟨c1++d0,d1,d2,f1++g0,g1,g2,by simp,by simp,by simp[zC9,hl,Rel.len r1],rx,hmx,fun h' sh' w' g hf y d f ry=>?_⟩;simp only[List.set_cons_succ,RelA];refine⟨c1,d0++(d++d2),f1,g0++(f++g2),by simp,by simp,Rel.keep g.le g.sh r1 (fun o ho=>hm o (.inl ho)) (fun b hb=>hf b (by simp[hb])),hset h' sh' w' g (fun b hb=>hf b ?_) y d f ry⟩;rcases List.mem_append.1 hb with hb|hb<;>simp[hb]
theorem RelX.at_:∀{z:Nat} {xs:List V} {cs:List Value} {fp:List Nat} {i:Nat} {x:V},RelX h sh w z xs cs fp->(∀o∈V.mentionL xs,u o)->xs[i]? = some x ->
  ∃d0 d1 d2 f0 f1 f2,cs=d0++(d1++d2)/\fp=f0++(f1++f2)/\d0.length=i * z/\d1.length=z/\Rel h sh w x d1 f1/\(∀o∈x.mention,u o) /\
   ∀h' sh' w',Goes u h sh w h' sh' w'->(∀b∈f0++f2,w'.heap[b]? = w.heap[b]?)->∀y d f,d.length=z->Rel h' sh' w' y d f->RelX h' sh' w' z (xs.set i y) (d0++(d++d2)) (f0++(f++f2))
 | _,[],_,_,_,_,_,_,hi=>by cases hi
 | z,x::q,cs,fp,0,x',r,hm,hi=>by
  simp only[RelX] at r;obtain⟨c1,c2,f1,f2,rfl,rfl,el,r1,r2⟩:=r;simp only[List.getElem?_cons_zero,Option.some.injEq] at hi;subst hi;simp only[V.mentionL,List.mem_append] at hm;refine⟨[],c1,c2,[],f1,f2,rfl,rfl,by simp,el,r1,fun o ho=>hm o (.inl ho),fun h' sh' w' g hf y d f hd ry=>?_⟩;simp only[List.set_cons_zero,RelX,List.nil_append];exact⟨d,c2,f,f2,rfl,rfl,hd,ry,RelX.keep g r2 (fun o ho=>hm o (.inr ho)) (fun b hb=>hf b (by simpa using hb))⟩
 | z,x::q,cs,fp,i+1,x',r,hm,hi=>by
  simp only[RelX] at r;obtain⟨c1,c2,f1,f2,rfl,rfl,el,r1,r2⟩:=r;simp only[List.getElem?_cons_succ] at hi;simp only[V.mentionL,List.mem_append] at hm;obtain⟨d0,d1,d2,g0,g1,g2,rfl,rfl,hl,hz,rx,hmx,hset⟩:=RelX.at_ r2 (fun o ho=>hm o (.inr ho)) hi;refine⟨c1++d0,d1,d2,f1++g0,g1,g2,by simp,by simp,by rw[List.length_append,el,hl,Nat.succ_mul,Nat.add_comm],hz,rx,hmx,fun h' sh' w' g hf y d f hd ry=>?_⟩;simp only[List.set_cons_succ,RelX];refine⟨c1,d0++(d++d2),f1,g0++(f++g2),by simp,by simp,el,Rel.keep g.le g.sh r1 (fun o ho=>hm o (.inl ho)) (fun b hb=>hf b (by simp[hb])),hset h' sh' w' g (fun b hb=>hf b ?_) y d f hd ry⟩;rcases List.mem_append.1 hb with hb|hb<;>simp[hb]
def zB1:V->List Nat->Nat
 | _,[]=>0
 | .agg xs,i::p=>zC9 xs i+(match xs[i]? with|some x=>zB1 x p|none=>0)
 | _,_::_=>0
theorem Rel.path:∀{fs:List Nat} {v y:V} {cs:List Value} {fp:List Nat},Rel h sh w v cs fp->(∀o∈v.mention,u o)->kS v fs=some y ->
  ∃d0 d1 d2 f0 f1 f2,cs=d0++(d1++d2)/\fp=f0++(f1++f2)/\d0.length=zB1 v fs/\Rel h sh w y d1 f1/\(∀o∈y.mention,u o) /\
   ∀h' sh' w',Goes u h sh w h' sh' w'->(∀b∈f0++f2,w'.heap[b]? = w.heap[b]?)->∀t d f v',Rel h' sh' w' t d f->zCv v fs t=some v'->Rel h' sh' w' v' (d0++(d++d2)) (f0++(f++f2))
 | [],v,y,cs,fp,r,hm,hg=>by
  simp only[kS,Option.some.injEq] at hg;subst hg;refine⟨[],cs,[],[],fp,[],by simp,by simp,by simp[zB1],r,hm,fun h' sh' w' g hf t d f v' rt hs=>?_⟩;simp only[zCv,Option.some.injEq] at hs;subst hs
  simpa using rt
 | i::p,v,y,cs,fp,r,hm,hg=>by
  cases v with
  | agg xs =>
   simp only[kS] at hg;cases hx:xs[i]? with
   | none=>rw[hx] at hg;cases hg
   | some x =>
    rw[hx] at hg;simp only at hg;simp only[Rel] at r;obtain⟨d0,d1,d2,f0,f1,f2,rfl,rfl,hl,rx,hmx,hset⟩:=RelA.at_ r (by simpa only[V.mention] using hm) hx;obtain⟨e0,e1,e2,g0,g1,g2,rfl,rfl,hl2,ry,hmy,hset2⟩:=Rel.path rx hmx hg;refine⟨d0++e0,e1,e2++d2,f0++g0,g1,g2++f2,by simp,by simp,by simp[zB1,hl,hl2,hx],ry,hmy,fun h' sh' w' g hf t d f v' rt hs=>?_⟩;simp only[zCv,hx] at hs;cases hsx:zCv x p t with
    | none=>rw[hsx] at hs;simp[mp] at hs
    | some x' =>
     rw[hsx] at hs;simp only[zJ,Option.some.injEq] at hs;subst hs;have r1:=hset2 h' sh' w' g (fun b hb=>hf b (by rcases List.mem_append.1 hb with hb|hb<;>simp[hb])) t d f x' rt hsx;have r2:=hset h' sh' w' g (fun b hb=>hf b (by rcases List.mem_append.1 hb with hb|hb<;>simp[hb])) x' _ _ r1;simp only[Rel]
     simpa using r2
  | _=>simp[kS] at hg
end
def RelS0 (h:Hs) (sh:Nat->Prop) (w:World) (v:V) (x:Value):Prop :=
 match v with
 | .und=>True
 | .agg xs=>∃cs,x = .agg cs/\RelA h sh w xs cs.toList []
 | v=>Rel h sh w v [x] []
def RelSL (h:Hs) (sh:Nat->Prop) (w:World):List V->List Value->Prop
 | [],vs=>vs=[]
 | x::r,vs=>∃v q,vs=v::q/\RelS0 h sh w x v/\RelSL h sh w r q
def RelS (h:Hs) (sh:Nat->Prop) (w:World) (v:V) (x:Value):Prop :=
 match v with
 | .tup xs=>∃vs,x = .tuple vs/\RelSL h sh w xs vs.toList
 | .iop _=>x=undef
 | v=>RelS0 h sh w v x
structure RelOb (u:Nat->Prop) (h:Hs) (sh:Nat->Prop) (w:World) (o:Nat) (ob:Ob) (fp:List Nat):Prop where
 ver:h.vr o=ob.ver
 men:∀x∈ob.xs,(ob.bx=false->x.mention=[])/\∀q∈x.mention,u q
 row:match h.hd o with
  | none=>ob.xs=[]/\fp=[]/\ob.bx=false
  | some (b,off,c,z)=>z=ob.sz/\ob.xs.length<=c/\Row w b (off+c * z)/\∃ds fps,fp=b::fps/\At w b off ds/\RelX h sh w z ob.xs ds fps
 ofs:∀i x fs y,ob.xs[i]? = some x->kS x fs=some y->h.ofs o i fs=i * ob.sz+zB1 x fs
 pl:∀b off c z,h.hd o=some (b,off,c,z)->∀i fs sz xs,ob.get i fs=some (.lst true sz xs) ->
  w.cell? ⟨b,off+h.ofs o i fs,none⟩=some (.slice (h.pa o i fs ob.ver) xs.length (h.pc o i fs ob.ver))
 one:ob.bx=true->ob.fx=false->∀b off c z,h.hd o=some (b,off,c,z)->c=1
structure Sim (w0:World) (fa:List Nat) (sh:Nat->Prop) (u:Nat->Prop) (h:Hs) (fp:Nat->List Nat) (s:St) (tm:Array Value) (w:World):Prop where
 size:Grew w0 w
 old:∀b,b<w0.heap.size->b ∉ fa->w.heap[b]? = w0.heap[b]?
 obs:∀o ob,zO s.obs o=some ob->u o/\RelOb u h sh w o ob (fp o)
 own:∀o ob,zO s.obs o=some ob->(fp o).Nodup/\∀b∈fp o,b<w.heap.size/\(b<w0.heap.size->b∈fa)
 apart:∀o o' ob ob',zO s.obs o=some ob->zO s.obs o'=some ob'->o≠o'->∀b∈fp o,b ∉ fp o'
 shr:∀b,sh b->b<w.heap.size/\∀o ob,zO s.obs o=some ob->b ∉ fp o
 env:∀t v,zO s.env t=some v->(∀o∈v.mention,u o)/\RelS h sh w v (tm.getD t undef)
section
variable {u u' : Nat->Prop} {h h' : Hs} {sh sh' : Nat->Prop} {w w' w0 : World} {fa : List Nat} {fp fp' : Nat->List Nat} {s s' : St} {tm : Array Value}
theorem RelS0.keep (g:Goes u h sh w h' sh' w') {v:V} {x:Value} (r:RelS0 h sh w v x) (hm:∀o∈v.mention,u o):RelS0 h' sh' w' v x:=by
 unfold RelS0 at r ⊢;split at r
 ·trivial
 ·obtain⟨cs,e,r⟩:=r
  exact⟨cs,e,RelA.keep g.le g.sh r (by simpa only[V.mention] using hm) (fun b hb=>by cases hb)⟩
 ·exact Rel.keep g.le g.sh r hm (fun b hb=>by cases hb)
theorem RelSL.keep (g:Goes u h sh w h' sh' w'):∀{xs:List V} {vs:List Value},RelSL h sh w xs vs->(∀o∈V.mentionL xs,u o)->RelSL h' sh' w' xs vs
 | [],_,r,_=>by simpa only[RelSL] using r
 | x::q,_,r,hm=>by
  simp only[RelSL] at r ⊢;obtain⟨v,p,e,r1,r2⟩:=r;simp only[V.mentionL,List.mem_append] at hm;exact⟨v,p,e,r1.keep g (fun o ho=>hm o (.inl ho)),RelSL.keep g r2 (fun o ho=>hm o (.inr ho))⟩
theorem RelS.keep (g:Goes u h sh w h' sh' w') {v:V} {x:Value} (r:RelS h sh w v x) (hm:∀o∈v.mention,u o):RelS h' sh' w' v x:=by
 unfold RelS at r ⊢;split at r
 ·obtain⟨vs,e,r⟩:=r
  exact⟨vs,e,RelSL.keep g r (by simpa only[V.mention] using hm)⟩
 ·exact r
 ·exact RelS0.keep g r hm
theorem mem_mentionL {o:Nat}:∀{xs:List V},o∈V.mentionL xs↔∃x∈xs,o∈x.mention
 | []=>by simp[V.mentionL]
 | x::r=>by simp[V.mentionL,mem_mentionL (xs:=r)]
theorem RelOb.keep (g:Goes u h sh w h' sh' w') (hu:∀o,u o->u' o) {o:Nat} {ob:Ob} {f:List Nat} (ho:u o) (hv:h'.vr o=h.vr o) (r:RelOb u h sh w o ob f) (hf:∀b∈f,w'.heap[b]? = w.heap[b]?):RelOb u' h' sh' w' o ob f:=by
 refine⟨hv.trans r.ver,fun x hx=>⟨(r.men x hx).1,fun q hq=>hu q ((r.men x hx).2 q hq)⟩,?_,?_,?_,fun hb hx b off c z hd=>r.one hb hx b off c z (by rw[<-g.le.hd o ho];exact hd)⟩
 ·have hr:=r.row
  rw[g.le.hd o ho];split at hr
  ·exact hr
  ·obtain⟨e1,e2,hrow,ds,fps,rfl,hat,hx⟩:=hr
   exact⟨e1,e2,hrow.same (hf _ (List.mem_cons_self ..)),ds,fps,rfl,hat.same (hf _ (List.mem_cons_self ..)),
    RelX.keep g hx (fun q hq=>by obtain⟨x,hx,hq⟩:=mem_mentionL.1 hq;exact(r.men x hx).2 q hq) (fun b hb=>hf b (List.mem_cons_of_mem _ hb))⟩
 ·intro i x fs y hi hy
  rw[g.le.ofs o ho];exact r.ofs i x fs y hi hy
 ·intro b off c z hb i fs sz xs hg
  have hb0:h.hd o=some (b,off,c,z):=by rw[<-g.le.hd o ho];exact hb
  have hr:=r.row;rw[hb0] at hr;obtain⟨_,_,_,ds,fps,rfl,_,_⟩:=hr;rw[g.le.ofs o ho,g.le.pa o ho _ _ _ (Nat.le_of_eq r.ver.symm),g.le.pc o ho _ _ _ (Nat.le_of_eq r.ver.symm),zG8 (hf b (List.mem_cons_self ..))];exact r.pl b off c z hb0 i fs sz xs hg
theorem Sim.step (S:Sim w0 fa sh u h fp s tm w) (hu:∀o,u o->u' o) (hle:h.Le u h') (henv:s'.env=s.env)
  (hsize:Grew w w')
  (hold:∀b,b<w0.heap.size->b ∉ fa->w'.heap[b]? = w.heap[b]?)
  (hsh:∀b,sh b->sh' b/\w'.heap[b]? = w.heap[b]?)
  (hshr:∀b,sh' b->b<w'.heap.size/\∀o ob,zO s'.obs o=some ob->b ∉ fp' o)
  (hobs:∀o ob,zO s'.obs o=some ob->(zO s.obs o=some ob/\fp' o=fp o/\h'.vr o=h.vr o/\∀b∈fp o,w'.heap[b]? = w.heap[b]?) \/
   (u' o/\RelOb u' h' sh' w' o ob (fp' o)/\(fp' o).Nodup/\∀b∈fp' o,b<w'.heap.size/\(b<w0.heap.size->b∈fa)))
  (hap:∀o o' ob ob',zO s'.obs o=some ob->zO s'.obs o'=some ob'->o≠o'->∀b∈fp' o,b ∉ fp' o') :
  Sim w0 fa sh' u' h' fp' s' tm w':=by
 have g:Goes u h sh w h' sh' w':=⟨hle,hsh⟩;refine⟨S.size.trans hsize,fun b hb hn=>(hold b hb hn).trans (S.old b hb hn),?_,?_,hap,hshr,?_⟩
 ·intro o ob ho
  rcases hobs o ob ho with⟨h1,h2,h3,h4⟩|⟨h1,h2,_,_⟩
  ·refine⟨hu o (S.obs o ob h1).1,?_⟩
   rw[h2];exact RelOb.keep g hu (S.obs o ob h1).1 h3 (S.obs o ob h1).2 h4
  ·exact⟨h1,h2⟩
 ·intro o ob ho
  rcases hobs o ob ho with⟨h1,h2,h3,h4⟩|⟨_,_,h3,h4⟩
  ·rw[h2]
   exact⟨(S.own o ob h1).1,fun b hb=>⟨Nat.lt_of_lt_of_le ((S.own o ob h1).2 b hb).1 hsize.sz,((S.own o ob h1).2 b hb).2⟩⟩
  ·exact⟨h3,h4⟩
 ·intro t v ht
  rw[henv] at ht;exact⟨fun o ho=>hu o ((S.env t v ht).1 o ho),RelS.keep g (S.env t v ht).2 (S.env t v ht).1⟩
theorem qT {α:Type} {l:List (Nat×α)} {t t':Nat} (ht:t'≠t):zO (kT l t) t'=zO l t':=by
 induction l with
 | nil=>rfl
 | cons e r ih =>
  obtain⟨k,v⟩:=e;simp only[kT];split
  ·rename_i hk;subst hk;simp only[zO];rw[if_neg (Ne.symm ht),ih]
  ·simp only[zO];split
   ·rfl
   ·exact ih
theorem qS {α:Type} {l:List (Nat×α)} {t:Nat}:zO (kT l t) t=none:=by
 induction l with
 | nil=>rfl
 | cons e r ih =>
  obtain⟨k,v⟩:=e;simp only[kT];split
  ·exact ih
  ·rename_i hk;simp only[zO];rw[if_neg hk,ih]
theorem qG {α:Type} {l:List (Nat×α)} {t:Nat} {v:α}:zO (xC l t v) t=some v:=by simp[xC,zO]
theorem zT {α:Type} {l:List (Nat×α)} {t t':Nat} {v:α} (ht:t'≠t):zO (xC l t v) t'=zO l t':=by
 simp only[xC,zO];rw[if_neg (Ne.symm ht)]
theorem Sim.put (S:Sim w0 fa sh u h fp s tm w) {d:Nat} {v:V} {x:Value} (hd:d<tm.size) (hm:∀o∈v.mention,u o) (hr:RelS h sh w v x) :
  Sim w0 fa sh u h fp { s with env:=xC s.env d v } (tm.setIfInBounds d x) w:=by
 refine⟨S.size,S.old,S.obs,S.own,S.apart,S.shr,fun t v' ht=>?_⟩
 by_cases e:t=d
 ·subst e
  simp only[qG,Option.some.injEq] at ht;subst ht;refine⟨hm,?_⟩;rw[Array.getD_eq_getD_getElem?,Array.getElem?_setIfInBounds_self_of_lt hd];exact hr
 ·simp only[zT e] at ht
  have:=S.env t v' ht
  rw[Array.getD_eq_getD_getElem?,Array.getElem?_setIfInBounds_ne (Ne.symm e),<- Array.getD_eq_getD_getElem?];exact this
end
end Go.Proofs.YtbcgenkegnmkhaaGreat.Ev
namespace Go.Proofs.YtbcgenkegnmkhaaGreat.Ev
open Go
set_option linter.unusedSectionVars false
set_option linter.unusedSimpArgs false
def Does (P:Program) (o:Oper) (a:Act) (w:World) (R:Value->World->Prop):Prop :=
 ∀(K:Act->World->Prop) (Q:Exit->Act->World->Prop),(∀x w',R x w'->K (a.put o.dst x) w')->o.wp P a w K Q
theorem qN {P:Program} {o:Oper} {a:Act} {w w':World} {x:Value} {R:Value->World->Prop} (h:(execOp a.eval o).run P w = .ok (.value x) w') (hr:R x w'):Does P o a w R:=by
 intro K Q hK;unfold Oper.wp;rw[h];exact hK x w' hr
theorem zVb {P:Program} {o:Oper} {a:Act} {w w':World} {R:Value->World->Prop} (h:(execOp a.eval o).run P w = .ok .skip w') (hr:R undef w'):Does P o a w R:=by
 intro K Q hK;unfold Oper.wp;rw[h];exact hK undef w' hr
theorem zEo {P:Program} {o:Oper} {a:Act} {w w':World} {f:FuncId} {args:Array Value} {R:Value->World->Prop} (h:(execOp a.eval o).run P w = .ok (.enter f args) w')
  (hc:Calls P f args w' fun e w''=>∃x,e = .returned x/\R x w''):Does P o a w R:=by
 intro K Q hK;unfold Oper.wp;rw[h];exact hc.mono fun e w'' ⟨x,he,hr⟩=>by subst he;exact hK x w'' hr
def qMs:TypeDesc->Bool
 | .struct _=>true
 | .array _ _=>true
 | _=>false
theorem yJ {v:V} {ys:List V} (e:v.aggOf=some ys):v = .agg ys:=by
 cases v<;>simp only[V.aggOf,Option.some.injEq,reduceCtorEq] at e
 subst e;rfl
theorem zLk {v:V} (e:v.aggOf=none):v.cells=1:=by
 cases v<;>simp only[V.aggOf,reduceCtorEq] at e<;>rfl
structure CfgOK (P:Program) (cfg:Cfg):Prop where
 zero:∀t z,cfg.zero t=some z->∃i zv d,P.info? t=some i/\i.zero=some zv/\i.size=z.cells/\0<z.cells/\i.bytes<=65536/\P.underlying t=some d /\
  ((∃fs,d = .struct fs)/\z.aggOf.isSome=true\/qMs d=false/\z.aggOf=none) /\
  (∀b,z = .bool b->d = .bool)/\z.mention=[]/\(∀h sh w,Rel h sh w z zv.cells.toList [])/\(z.aggOf.isSome=true->∃cs,zv = .agg cs)/\(z.aggOf=none->zv.cells=#[zv])
 elem:∀t e,cfg.elem t=some e->P.underlying t=some (.slice e)
 flds:∀t fs,cfg.flds t=some fs->∃fields,P.underlying t=some (.struct fields)/\fields.toList.map (fun f=>(f.offset,f.type))=fs/\∀f∈fields.toList,∃i,P.info? f.type=some i
 code:∀f fn,cfg.code f=some fn->P.funcs[f]? = some fn
 ints:∀t k,cfg.ints t=some k->P.underlying t=some (.int k)
 eqs:∀t,0<cfg.eqN t->∃fs,P.underlying t=some (.struct fs)/\fs.size=cfg.eqN t/\P.stoodInHeld t=false/\P.eqGuardType P.depth t=false/\∀(i:Nat) (f:Field),fs.toList[i]? = some f->(f.name != "_")=true/\(∃k,P.underlying f.type=some (.int k))/\f.offset=i
 str:∀t,cfg.strT t=true->P.underlying t=some .string
section
variable {P : Program} {u : Nat->Prop} {h : Hs} {sh : Nat->Prop} {w w0 : World} {fa : List Nat} {fp : Nat->List Nat} {s : St} {a : Act}
theorem Rel.ones {h:Hs} {sh:Nat->Prop} {w:World}:∀{v:V} {x:Value} {f:List Nat},Rel h sh w v [x] f->v.aggOf=none->zXa x:=by
 intro v x f r hv;cases v with
 | int k n=>simp only[Rel,List.cons.injEq,and_true] at r;rw[r.1];trivial
 | bool b=>simp only[Rel,List.cons.injEq,and_true] at r;rw[r.1];trivial
 | str b=>simp only[Rel,List.cons.injEq,and_true] at r;rw[r.1];trivial
 | lst own sz xs =>
  cases own
  ·simp only[Rel,Bool.false_eq_true,if_false,List.cons.injEq,and_true] at r
   obtain⟨_,_,_,e,_⟩:=r;rw[e];trivial
  ·simp only[Rel,if_true,List.cons.injEq,and_true] at r
   rcases r with⟨_,_,e⟩|⟨_,_,_,_,_,e,_⟩<;>(rw[e];trivial)
 | emp b=>simp only[Rel,List.cons.injEq,and_true] at r;obtain⟨_,_,_,e,_⟩:=r;rw[e];trivial
 | agg xs=>simp[V.aggOf] at hv
 | tup xs=>simp only[Rel] at r
 | ref o lo n =>
  simp only[Rel] at r;obtain⟨_,r⟩:=r;split at r
  ·simp only[List.cons.injEq,and_true] at r;rw[r.2.2];trivial
  ·simp only[List.cons.injEq,and_true] at r;rw[r.2];trivial
 | plc o i fs ver n=>simp only[Rel,List.cons.injEq,and_true] at r;rw[r.2.2];trivial
 | ptr o i fs=>simp only[Rel,List.cons.injEq,and_true] at r;obtain⟨_,_,_,_,_,_,e⟩:=r;rw[e];trivial
 | vptr y=>simp only[Rel,List.cons.injEq,and_true] at r;obtain⟨_,_,_,_,e,_⟩:=r;rw[e];trivial
 | clo f c=>simp only[Rel,List.cons.injEq,and_true] at r;obtain⟨_,_,e,_⟩:=r;rw[e];trivial
 | iol z xs=>simp only[Rel] at r
 | iop y=>simp only[Rel] at r
 | und=>simp only[Rel,List.cons.injEq,and_true] at r;obtain⟨_,c,e,hc⟩:=r;rw[e];exact hc
theorem relS_int {k:IntKind} {n:Int} {x:Value}:RelS h sh w (.int k n) x↔x = .int k n:=by
 simp[RelS,RelS0,Rel]
theorem zYs {b:ByteArray} {x:Value}:RelS h sh w (.str b) x↔x = .string b:=by
 simp[RelS,RelS0,Rel]
theorem relS_bool {b:Bool} {x:Value}:RelS h sh w (.bool b) x↔x = .bool b:=by
 simp[RelS,RelS0,Rel]
theorem qV {v:V} {x:Value} (r:Rel h sh w v [x] []) (ha:v.aggOf=none) (hv:v≠.und):RelS h sh w v x:=by
 cases v<;>simp_all [RelS,RelS0,V.aggOf,Rel]
theorem zMq {x:Value} {v:V} (hx:zHc x=some v):RelS h sh w v x/\v.mention=[]/\v≠.und:=by
 unfold zHc at hx;split at hx<;>first|(cases hx;done)|(cases hx;exact⟨by simp only[RelS,RelS0,Rel];exact⟨trivial,none,0,rfl,rfl,fun _=>rfl⟩,rfl,by simp⟩)|(cases hx;simp[RelS,RelS0,Rel,V.mention])
theorem zY (S:Sim w0 fa sh u h fp s a.tmps w) {x:Operand} {v:V} (hx:opV s.env x=some v) :
  RelS h sh w v (a.eval x)/\(∀o∈v.mention,u o)/\v≠.und:=by
 unfold opV at hx;split at hx
 ·rename_i t
  split at hx
  ·cases hx
  ·rename_i v' hv
   split at hx
   ·cases hx
   ·rename_i hne
    cases hx
    have:=S.env t v hv
    exact⟨this.2,this.1,fun e=>hne e⟩
 ·have:=zMq (h:=h) (sh:=sh) (w:=w) hx
  exact⟨this.1,(by rw[this.2.1];intro o ho;cases ho),this.2.2⟩
 ·cases hx
  refine⟨?_,(by intro o ho;cases ho),(by intro e;cases e)⟩;simp[RelS,RelS0,Rel,RelC,Act.eval]
 ·cases hx
theorem zUj {cfg:Cfg} (S:Sim w0 fa sh u h fp s a.tmps w) {t:TypeId} {x:Operand} {v:V} (hx:opT cfg s.env t x=some v) :
  RelS h sh w v (a.eval x)/\(∀o∈v.mention,u o):=by
 unfold opT at hx;split at hx
 ·cases hz:(cfg.elem t).bind cfg.zero with
  | none=>rw[hz] at hx;cases hx
  | some z =>
   rw[hz] at hx;simp only[zJ,Option.some.injEq] at hx;subst hx;refine⟨?_,(by intro o ho;cases ho)⟩;simp[RelS,RelS0,Rel,Act.eval]
 ·cases hx
  refine⟨?_,(by intro o ho;cases ho)⟩;simp only[RelS,RelS0,Rel,Act.eval]
  try exact⟨trivial,_,rfl,trivial⟩
 ·exact⟨(zY S hx).1,(zY S hx).2.1⟩
theorem xP (S:Sim w0 fa sh u h fp s a.tmps w):∀{xs:List Operand} {vs:List V},kW s.env xs=some vs ->
  vs.length=xs.length/\∀(i:Nat) (v:V),vs[i]? = some v->∃x,xs[i]? = some x/\RelS h sh w v (a.eval x)/\(∀o∈v.mention,u o)/\v≠.und
 | [],vs,hx=>by simp only[kW,Option.some.injEq] at hx;subst hx;exact⟨rfl,fun i v hi=>by cases hi⟩
 | x::r,vs,hx=>by
  simp only[kW] at hx;cases h1:opV s.env x with
  | none=>rw[h1] at hx;cases hx
  | some v =>
   rw[h1] at hx;simp only at hx;cases h2:kW s.env r with
   | none=>rw[h2] at hx;cases hx
   | some l =>
    rw[h2] at hx;simp only[zJ,Option.some.injEq] at hx;subst hx;have ih:=xP S h2;refine⟨by simp[ih.1],fun i v' hi=>?_⟩;cases i with
    | zero=>simp only[List.getElem?_cons_zero,Option.some.injEq] at hi;subst hi;exact⟨x,rfl,zY S h1⟩
    | succ i=>simp only[List.getElem?_cons_succ] at hi;obtain⟨y,hy,r⟩:=ih.2 i v' hi;exact⟨y,hy,r⟩
def zE6 (h:Hs) (sh:Nat->Prop) (u:Nat->Prop) (w:World) (v:V) (x:Value) (w':World):Prop :=
 w'=w/\RelS h sh w v x/\∀o∈v.mention,u o
theorem zRn {op:BinOp} {k:IntKind} {m n:Int} {v:V} (hv:zEy op k m n=some v) (t:TypeId) :
  ∃x,(binOp op t (.int k m) (.int k n)).run P w = .ok x w/\RelS h sh w v x/\v.mention=[]:=by
 unfold zEy at hv;cases op<;>simp only[Option.some.injEq,reduceCtorEq] at hv
 case quo =>
  split at hv
  ·cases hv
  ·rename_i h0
   cases hv;exact⟨.int k (k.wrap (m.tdiv n)),by simp[binOp,Op.intDiv,h0,qI],by simp[RelS,RelS0,Rel],rfl⟩
 case rem =>
  split at hv
  ·cases hv
  ·rename_i h0
   cases hv;exact⟨.int k (m.tmod n),by simp[binOp,Op.intDiv,h0,qI],by simp[RelS,RelS0,Rel],rfl⟩
 case add=>subst hv;exact⟨.int k (k.wrap (m+n)),by simp[binOp,Op.intArith,qI],by simp[RelS,RelS0,Rel],rfl⟩
 case sub=>subst hv;exact⟨.int k (k.wrap (m - n)),by simp[binOp,Op.intArith,qI],by simp[RelS,RelS0,Rel],rfl⟩
 case mul=>subst hv;exact⟨.int k (k.wrap (m * n)),by simp[binOp,Op.intArith,qI],by simp[RelS,RelS0,Rel],rfl⟩
 case eql=>subst hv;exact⟨.bool (m==n),by simp[binOp,Op.intCmp,qI],by simp[RelS,RelS0,Rel,BEq.beq],rfl⟩
 case neq=>subst hv;exact⟨.bool (m != n),by simp[binOp,Op.intCmp,qI],by simp[RelS,RelS0,Rel,bne,BEq.beq],rfl⟩
 case lss=>subst hv;exact⟨.bool (decide (m<n)),by simp[binOp,Op.intCmp,qI],by simp[RelS,RelS0,Rel],rfl⟩
 case leq=>subst hv;exact⟨.bool (decide (m<=n)),by simp[binOp,Op.intCmp,qI],by simp[RelS,RelS0,Rel],rfl⟩
 case gtr=>subst hv;exact⟨.bool (decide (m > n)),by simp[binOp,Op.intCmp,qI],by simp[RelS,RelS0,Rel],rfl⟩
 case geq=>subst hv;exact⟨.bool (decide (m>=n)),by simp[binOp,Op.intCmp,qI],by simp[RelS,RelS0,Rel],rfl⟩
theorem zEq {op:BinOp} {t:TypeId} {x y:Operand} {m n:Value} (hm:zXa m) (hn:m≠.nilIface):(eqGuard op t x y m n).run P w = .ok () w:=by
 unfold eqGuard
 cases op<;>simp only[Bool.not_true,Bool.not_false,Bool.false_eq_true,if_false,if_true,↓reduceIte]<;>first
  | rfl
  | (cases m<;>first|exact hm.elim|exact absurd rfl hn|rfl|(cases n<;>rfl))
theorem zZ {t:TypeId} {d:TypeDesc} (hu:P.underlying t=some d):(underlying t).run P w = .ok d w:=by
 unfold underlying;rw[Sem.run_bind];show Result.andThen (.ok P w) _=_;simp only[Result.andThen,hu]
 rfl
theorem zLf:∀{xs ys:List V} {cs ds:List Value} {f g:List Nat} {q:Bool},eqI xs ys=some q->RelA h sh w xs cs f->RelA h sh w ys ds g ->
  ∃l:List (IntKind×Int×Int),cs=l.map (fun p=>Value.int p.1 p.2.1)/\ds=l.map (fun p=>Value.int p.1 p.2.2)/\q=l.all (fun p=>p.2.1==p.2.2)/\l.length=xs.length
 | [],[],cs,ds,f,g,q,he,r1,r2=>by
  simp only[eqI,Option.some.injEq] at he;simp only[RelA] at r1 r2;exact⟨[],r1.1,r2.1,by rw[<-he];rfl,rfl⟩
 | .int k a::r,.int k' b::s,cs,ds,f,g,q,he,r1,r2=>by
  simp only[eqI] at he;split at he
  ·rename_i hk
   subst hk;cases hq:eqI r s with
   | none=>rw[hq] at he;cases he
   | some q' =>
    rw[hq] at he;simp only[zJ,Option.some.injEq] at he;simp only[RelA,Rel] at r1 r2;obtain⟨c1,c2,f1,f2,rfl,rfl,⟨rfl,_⟩,r1⟩:=r1;obtain⟨d1,d2,g1,g2,rfl,rfl,⟨rfl,_⟩,r2⟩:=r2;obtain⟨l,rfl,rfl,rfl,h4⟩:=zLf hq r1 r2;refine⟨(k,a,b)::l,rfl,rfl,?_,by simp[h4]⟩;rw[<-he];simp[BEq.beq]
  ·cases he
 | [],_::_,_,_,_,_,_,he,_,_=>by cases he
 | _::_,[],_,_,_,_,_,he,_,_=>by simp[eqI] at he
 | .bool _::_,_::_,_,_,_,_,_,he,_,_=>by simp[eqI] at he
theorem zLd {α β:Type} {b0 b1:β} {f:α->β->Sem (ForInStep β)} {out:α->Bool}:∀{l:List α},(∀x∈l,(f x b0).run P w = .ok (if out x=true then .yield b0 else .done b1) w)->(forIn l b0 f).run P w = .ok (if l.all out=true then b0 else b1) w
 | [],_=>by simp only[List.forIn_nil,List.all_nil,if_true];rfl
 | x::l,hs=>by
  rw[List.forIn_cons,zD (hs x (List.mem_cons_self ..))];cases ho:out x with
  | false=>simp only[List.all_cons,ho,Bool.false_and,Bool.false_eq_true,if_false];rfl
  | true =>
   simp only[List.all_cons,ho,Bool.true_and,if_true];exact zLd (fun y hy=>hs y (List.mem_cons_of_mem _ hy))
theorem zU3 {t:TypeId} {fs:Array Field} {cs ds:Array Value} {l:List (IntKind×Int×Int)} (hu:P.underlying t=some (.struct fs)) (hst:P.stoodInHeld t=false) (hsz:fs.size=l.length)
  (hall:∀(i:Nat) (f:Field),fs.toList[i]? = some f->(f.name != "_")=true/\(∃k,P.underlying f.type=some (.int k))/\f.offset=i)
  (hc:cs.toList=l.map (fun p=>Value.int p.1 p.2.1)) (hd:ds.toList=l.map (fun p=>Value.int p.1 p.2.2)):(Op.equal t (.agg cs) (.agg ds)).run P w = .ok (l.all fun p=>p.2.1==p.2.2) w:=by
 have hout:fs.toList.all (fun f=>match l[f.offset]? with|some p=>p.2.1==p.2.2|none=>true)=l.all fun p=>p.2.1==p.2.2:=by
  rw[Bool.eq_iff_iff,List.all_eq_true,List.all_eq_true];constructor
  ·intro hh p hp
   obtain⟨i,hi⟩:=List.mem_iff_getElem?.1 hp;have hil:i<fs.toList.length:=by have:=(List.getElem?_eq_some_iff.1 hi).1;simp;omega
   have hf:fs.toList[i]? = some fs.toList[i]:=List.getElem?_eq_getElem hil
   have:=hh _ (List.mem_of_getElem? hf)
   rw[(hall i _ hf).2.2,hi] at this;exact this
  ·intro hh f hf
   cases hp:l[f.offset]? with
   | none=>rfl
   | some p=>exact hh p (List.mem_of_getElem? hp)
 unfold Op.equal Op.maxDepth;rw[show(10000:Nat)=9999+1 from rfl];unfold Op.equalIn;rw[zD (zZ hu)];simp only[];rw[zD (show(program).run P w = .ok P w from rfl),if_neg (by rw[hst];simp),<- Array.forIn_toList];refine(zD (zLd (b1:=(some false,())) (out:=fun f=>match l[f.offset]? with|some p=>p.2.1==p.2.2|none=>true) ?hs)).trans ?_
 case hs =>
  intro f hf;obtain⟨i,hi⟩:=List.mem_iff_getElem?.1 hf;obtain⟨hn,⟨k,hk⟩,hofs⟩:=hall i f hi;have hil:i<l.length:=by have:=(List.getElem?_eq_some_iff.1 hi).1;simp at this;omega
  obtain⟨p,hp⟩:∃p,l[i]? = some p:=⟨_,List.getElem?_eq_getElem hil⟩;have hcx:cs[f.offset]? = some (.int p.1 p.2.1):=by rw[hofs,<- Array.getElem?_toList,hc,List.getElem?_map,hp];rfl
  have hdx:ds[f.offset]? = some (.int p.1 p.2.2):=by rw[hofs,<- Array.getElem?_toList,hd,List.getElem?_map,hp];rfl
  have hag:(isAgg f.type).run P w = .ok false w:=by
   unfold isAgg;rw[zD (zZ hk)]
   rfl
  have hp1:(part f.type cs f.offset).run P w = .ok (.int p.1 p.2.1) w:=by
   unfold part;rw[zD hag];simp only[Bool.false_eq_true,if_false,hcx]
   rfl
  have hp2:(part f.type ds f.offset).run P w = .ok (.int p.1 p.2.2) w:=by
   unfold part;rw[zD hag];simp only[Bool.false_eq_true,if_false,hdx]
   rfl
  have he:(Op.equalIn 9999 f.type (.int p.1 p.2.1) (.int p.1 p.2.2)).run P w = .ok (p.2.1==p.2.2) w:=by
   rw[show(9999:Nat)=9998+1 from rfl];unfold Op.equalIn;rw[zD (zZ hk)];simp only[if_true]
   rfl
  rw[if_pos (by simpa using hn),zD hp1,zD hp2,zD he];simp only[hofs,hp];cases p.2.1==p.2.2<;>rfl
 rw[hout];cases l.all (fun p=>p.2.1==p.2.2)<;>rfl
theorem qHw {cfg:Cfg} (C:CfgOK P cfg) (S:Sim w0 fa sh u h fp s a.tmps w) {o:Oper} {op:BinOp} {t t2:TypeId} {x y:Operand} {vx vy v:V} (ho:o.op = .binOp op t x y t2)
  (hx:opV s.env x=some vx) (hy:opV s.env y=some vy) (hv:qEp cfg t op vx vy=some v):Does P o a w (zE6 h sh u w v):=by
 have rx:=(zY S hx).1;have ry:=(zY S hy).1;unfold qEp at hv;split at hv
 ·rename_i k m
  split at hv
  ·rename_i k' n
   split at hv
   ·rename_i hk
    subst hk;rw[relS_int] at rx ry;obtain⟨z,hz,hr,hm⟩:=zRn (P:=P) (h:=h) (sh:=sh) (w:=w) hv t;refine qN (x:=z) (w':=w) ?_ ⟨rfl,hr,by rw[hm];intro o ho;cases ho⟩;unfold execOp;rw[ho];simp only[rx,ry];rw[zD (a:=z) (w':=w)]
    ·rfl
    ·rw[zD (zEq (by trivial) (by simp))]
     exact hz
   ·cases hv
  ·cases hv
 ·rename_i m
  split at hv
  ·rename_i n
   split at hv
   ·rename_i hb
    rw[relS_bool] at rx ry
    have hu:P.underlying t=some .bool:=by
     unfold qD4 at hb;split at hb
     ·rename_i b hz
      obtain⟨i,zv,d,_,_,_,_,_,hd,_,hbb,_⟩:=C.zero t _ hz;rw[hd,hbb b rfl]
     ·cases hb
    have heq:(Op.equal t (.bool m) (.bool n)).run P w = .ok (m==n) w:=by
     unfold Op.equal Op.maxDepth;rw[show(10000:Nat)=9999+1 from rfl];unfold Op.equalIn;rw[zD (zZ hu)]
     rfl
    have fin:∀r:Bool,v = .bool r->((binOp op t (.bool m) (.bool n)).run P w = .ok (.bool r) w)->Does P o a w (zE6 h sh u w v):=by
     intro r hvr hr;subst hvr;refine qN (x:=.bool r) (w':=w) ?_ ⟨rfl,relS_bool.2 rfl,by intro o ho;cases ho⟩;unfold execOp;rw[ho];simp only[rx,ry];rw[zD (a:=Value.bool r) (w':=w)]
     ·rfl
     ·rw[zD (zEq (by trivial) (by simp))]
      exact hr
    split at hv
    ·cases hv
     refine fin (m==n) (by simp[BEq.beq]) ?_;show(do pure (Value.bool (<- Op.equal t (.bool m) (.bool n))):Sem Value).run P w=_;rw[zD heq];rfl
    ·cases hv
     refine fin (m != n) (by simp[bne,BEq.beq]) ?_;show(do pure (Value.bool (!(<- Op.equal t (.bool m) (.bool n)))):Sem Value).run P w=_;rw[zD heq];rfl
    ·cases hv
   ·cases hv
  ·cases hv
 ·rename_i xs
  split at hv
  ·rename_i ys
   split at hv
   ·rename_i hcn
    split at hv
    ·rename_i q hq
     simp only[RelS,RelS0] at rx ry;obtain⟨cs,ex,rA⟩:=rx;obtain⟨ds,ey,rB⟩:=ry;obtain⟨fs,hu,hsz,hst,hg,hall⟩:=C.eqs t hcn.2;obtain⟨l,h1,h2,h3,h4⟩:=zLf hq rA rB;have heq:=zU3 (P:=P) (w:=w) hu hst (by omega) hall h1 h2;rw[<-h3] at heq
     have hgd:op = .eql\/op = .neq->(eqGuard op t x y (.agg cs) (.agg ds)).run P w = .ok () w:=by
      rintro(rfl|rfl)
      ·unfold eqGuard
       rw[if_neg (by simp)];simp only[];rw[zD (show(program).run P w = .ok P w from rfl),zD (show(program).run P w = .ok P w from rfl),if_pos (by rw[hg];rfl)]
       rfl
      ·unfold eqGuard
       rw[if_neg (by simp)];simp only[];rw[zD (show(program).run P w = .ok P w from rfl),zD (show(program).run P w = .ok P w from rfl),if_pos (by rw[hg];rfl)]
       rfl
     have fin:∀r:Bool,v = .bool r->(op = .eql\/op = .neq)->((binOp op t (.agg cs) (.agg ds)).run P w = .ok (.bool r) w)->Does P o a w (zE6 h sh u w v):=by
      intro r hvr ho2 hr;subst hvr;refine qN (x:=.bool r) (w':=w) ?_ ⟨rfl,relS_bool.2 rfl,by intro o ho;cases ho⟩;unfold execOp;rw[ho];simp only[ex,ey];rw[zD (a:=Value.bool r) (w':=w)]
      ·rfl
      ·rw[zD (hgd ho2)]
       exact hr
     split at hv
     ·cases hv
      refine fin q rfl (.inl rfl) ?_;show(do pure (Value.bool (<- Op.equal t (.agg cs) (.agg ds))):Sem Value).run P w=_;rw[zD heq];rfl
     ·cases hv
      refine fin (!q) rfl (.inr rfl) ?_;show(do pure (Value.bool (!(<- Op.equal t (.agg cs) (.agg ds)))):Sem Value).run P w=_;rw[zD heq];rfl
     ·cases hv
    ·cases hv
   ·cases hv
  ·cases hv
 ·cases hv
theorem qMq {cfg:Cfg} (C:CfgOK P cfg) (S:Sim w0 fa sh u h fp s a.tmps w) {o:Oper} {op:BinOp} {t t2:TypeId} {x y:Operand} {vx v:V} (ho:o.op = .binOp op t x y t2)
  (hx:opV s.env x=some vx) (hy:zHt y=true) (hv:qJw cfg t op vx=some v):Does P o a w (zE6 h sh u w v):=by
 have rx:=(zY S hx).1
 have ey:a.eval y = .slice none 0 0:=by
  unfold zHt at hy;split at hy
  ·rfl
  ·cases hy
 unfold qJw at hv;split at hv
 ·rename_i hc
  obtain⟨he,rfl⟩:=hc;obtain⟨e,he⟩:=Option.isSome_iff_exists.1 he;have hu:=C.elem t e he
  have main:∀(b:Option Addr) (l c:Nat) (r:Bool),a.eval x = .slice b l c->b.isNone=r->v = .bool r->Does P o a w (zE6 h sh u w v):=by
   intro b l c r hb hr hvr;subst hvr;refine qN (x:=.bool r) (w':=w) ?_ ⟨rfl,relS_bool.2 rfl,by intro o ho;cases ho⟩;unfold execOp;rw[ho];simp only[hb,ey];rw[zD (a:=Value.bool r) (w':=w)]
   ·rfl
   ·rw[zD (zEq (by trivial) (by simp))]
    show(do pure (Value.bool (<- Op.equal t (.slice b l c) (.slice none 0 0))):Sem Value).run P w=_
    have heq:(Op.equal t (.slice b l c) (.slice none 0 0)).run P w = .ok r w:=by
     unfold Op.equal Op.maxDepth;rw[show(10000:Nat)=9999+1 from rfl];unfold Op.equalIn;rw[zD (zZ hu)];subst hr;cases b<;>rfl
    rw[zD heq];rfl
  split at hv
  ·rename_i b
   cases hv;simp only[RelS,RelS0,Rel,List.cons.injEq,and_true] at rx;obtain⟨_,a',c,e1,e2,_⟩:=rx;exact main a' 0 c b e1 e2 rfl
  ·rename_i z xs
   split at hv
   ·cases hv
   ·rename_i hne
    cases hv;simp only[RelS,RelS0,Rel,Bool.false_eq_true,if_false,List.cons.injEq,and_true] at rx;obtain⟨_,a',c,e1,_,e2⟩:=rx;rcases e2 with⟨e2,_⟩|⟨b,off,z,ds,e2,_⟩
    ·subst e2;simp at hne
    ·exact main a' xs.length c false e1 (by rw[e2];rfl) rfl
  ·cases hv
 ·cases hv
theorem op_un (S:Sim w0 fa sh u h fp s a.tmps w) {o:Oper} {op:UnOp} {t:TypeId} {x:Operand} {vx v:V} (ho:o.op = .unOp op t x)
  (hx:opV s.env x=some vx) (hv:unV op vx=some v):Does P o a w (zE6 h sh u w v):=by
 have rx:=(zY S hx).1;unfold unV at hv;split at hv
 ·rename_i k n
  cases hv;rw[relS_int] at rx;refine qN (x:=.int k (k.wrap (0 - n))) (w':=w) ?_ ⟨rfl,relS_int.2 rfl,by intro o ho;cases ho⟩;unfold execOp;rw[ho];simp only[rx];rfl
 ·rename_i b
  cases hv;rw[relS_bool] at rx;refine qN (x:=.bool (!b)) (w':=w) ?_ ⟨rfl,relS_bool.2 rfl,by intro o ho;cases ho⟩;unfold execOp;rw[ho];simp only[rx];rfl
 ·cases hv
theorem zNj {cfg:Cfg} (S:Sim w0 fa sh u h fp s a.tmps w) {o:Oper} {x:Operand} {v:V} (ho:o.op = .move x\/o.op = .assign x)
  (hx:opT cfg s.env o.type x=some v):Does P o a w (zE6 h sh u w v):=by
 have rx:=zUj S hx;refine qN (x:=a.eval x) (w':=w) ?_ ⟨rfl,rx.1,rx.2⟩;unfold execOp;rcases ho with ho|ho<;>(rw[ho];rfl)
theorem qCo (S:Sim w0 fa sh u h fp s a.tmps w) {o:Oper} {c x y:Operand} {b:Bool} {v:V} (ho:o.op = .pick c x y)
  (hc:opV s.env c=some (.bool b)) (hx:(if b=true then opV s.env x else opV s.env y)=some v):Does P o a w (zE6 h sh u w v):=by
 have rc:=(zY S hc).1;rw[relS_bool] at rc;cases b
 ·simp only[Bool.false_eq_true,if_false] at hx
  have rx:=zY S hx;refine qN (x:=a.eval y) (w':=w) ?_ ⟨rfl,rx.1,rx.2.1⟩;unfold execOp;rw[ho];simp only[rc];rfl
 ·simp only[if_true] at hx
  have rx:=zY S hx;refine qN (x:=a.eval x) (w':=w) ?_ ⟨rfl,rx.1,rx.2.1⟩;unfold execOp;rw[ho];simp only[rc];rfl
end
mutual
theorem qK:∀{x y:V},x.alike y=true->x.cells=y.cells
 | .agg xs,y,e=>by
  simp only[V.alike] at e;cases y<;>simp only[V.aggOf] at e<;>first|(cases e;done)|simpa only[V.cells] using zFb e
 | .int ..,y,e=>by cases y<;>simp_all [V.alike,V.aggOf,V.cells]
 | .bool _,y,e=>by cases y<;>simp_all [V.alike,V.aggOf,V.cells]
 | .str _,y,e=>by cases y<;>simp_all [V.alike,V.aggOf,V.cells]
 | .lst ..,y,e=>by cases y<;>simp_all [V.alike,V.aggOf,V.cells]
 | .emp _,y,e=>by cases y<;>simp_all [V.alike,V.aggOf,V.cells]
 | .tup _,y,e=>by cases y<;>simp_all [V.alike,V.aggOf,V.cells]
 | .ref ..,y,e=>by cases y<;>simp_all [V.alike,V.aggOf,V.cells]
 | .plc ..,y,e=>by cases y<;>simp_all [V.alike,V.aggOf,V.cells]
 | .ptr ..,y,e=>by cases y<;>simp_all [V.alike,V.aggOf,V.cells]
 | .vptr _,y,e=>by cases y<;>simp_all [V.alike,V.aggOf,V.cells]
 | .clo ..,y,e=>by cases y<;>simp_all [V.alike,V.aggOf,V.cells]
 | .iol ..,y,e=>by cases y<;>simp_all [V.alike,V.aggOf,V.cells]
 | .iop _,y,e=>by cases y<;>simp_all [V.alike,V.aggOf,V.cells]
 | .und,y,e=>by cases y<;>simp_all [V.alike,V.aggOf,V.cells]
theorem zFb:∀{xs ys:List V},V.alikeL xs ys=true->V.cellsL xs=V.cellsL ys
 | [],ys,e=>by simp only[V.alikeL,List.isEmpty_iff] at e;subst e;rfl
 | x::r,[],e=>by simp[V.alikeL] at e
 | x::r,y::q,e=>by
  simp only[V.alikeL,Bool.and_eq_true] at e;simp only[V.cellsL,qK e.1,zFb e.2]
end
theorem zBu {x y:V} (e:x.alike y=true):x.aggOf.isSome=y.aggOf.isSome:=by
 cases x<;>cases y<;>simp_all [V.alike,V.aggOf]
theorem zH8:∀{fs gs:List Nat} {x y:V},kS x fs=some y->kS x (fs++gs)=kS y gs
 | [],gs,x,y,e=>by simp only[kS,Option.some.injEq] at e;subst e;rfl
 | i::p,gs,x,y,e=>by
  cases x with
  | agg xs =>
   simp only[kS,List.cons_append] at e ⊢;cases hx:xs[i]? with
   | none=>rw[hx] at e;cases e
   | some z=>rw[hx] at e;simp only at e ⊢;exact zH8 e
  | _=>simp[kS] at e
theorem zGo:∀{fs gs:List Nat} {x y:V},kS x fs=some y->zB1 x (fs++gs)=zB1 x fs+zB1 y gs
 | [],gs,x,y,e=>by simp only[kS,Option.some.injEq] at e;subst e;simp[zB1]
 | i::p,gs,x,y,e=>by
  cases x with
  | agg xs =>
   simp only[kS] at e;cases hx:xs[i]? with
   | none=>rw[hx] at e;cases e
   | some z=>rw[hx] at e;simp only at e;simp only[List.cons_append,zB1,hx,zGo e,Nat.add_assoc]
  | _=>simp[kS] at e
section
variable {P : Program} {u : Nat->Prop} {h : Hs} {sh : Nat->Prop} {w w0 : World} {fa : List Nat} {fp : Nat->List Nat} {s : St} {a : Act}
theorem Sim.place {tm:Array Value} (S:Sim w0 fa sh u h fp s tm w) {o:Nat} {ob:Ob} (ho:zO s.obs o=some ob) {i:Nat} {fs:List Nat} {y:V} (hg:ob.get i fs=some y) :
  ∃b off c z d0 d1 d2 f0 f1 f2,h.hd o=some (b,off,c,z)/\z=ob.sz/\ob.xs.length<=c/\Row w b (off+c * z)/\fp o=b::(f0++(f1++f2))/\At w b off (d0++(d1++d2)) /\
   (d0++(d1++d2)).length=ob.xs.length * z/\d0.length=h.ofs o i fs/\Rel h sh w y d1 f1/\(∀q∈y.mention,u q) /\
   ∀h' sh' w',Goes u h sh w h' sh' w'->(∀b∈f0++f2,w'.heap[b]? = w.heap[b]?)->∀t d f ob',Rel h' sh' w' t d f->d.length=d1.length->ob.set i fs t=some ob' ->
    RelX h' sh' w' z ob'.xs (d0++(d++d2)) (f0++(f++f2)):=by
 have R:=(S.obs o ob ho).2;unfold Ob.get at hg;cases hx:ob.xs[i]? with
 | none=>rw[hx] at hg;cases hg
 | some x =>
  rw[hx] at hg;simp only at hg;have hr:=R.row;split at hr
  ·rw[hr.1] at hx;cases hx
  ·rename_i b off c z hd
   obtain⟨hz,hc,hrow,ds,fps,hfp,hat,hX⟩:=hr;have hmen:∀q∈V.mentionL ob.xs,u q:=fun q hq=>by obtain⟨y,hy,hq⟩:=mem_mentionL.1 hq;exact(R.men y hy).2 q hq
   have hlen:=RelX.len hX;obtain⟨d0,d1,d2,f0,f1,f2,rfl,rfl,hl0,hl1,rx,hmx,hset⟩:=RelX.at_ hX hmen hx;obtain⟨e0,e1,e2,g0,g1,g2,rfl,rfl,hl2,ry,hmy,hset2⟩:=Rel.path rx hmx hg;refine⟨b,off,c,z,d0++e0,e1,e2++d2,f0++g0,g1,g2++f2,hd,hz,hc,hrow,by rw[hfp];simp,by simpa using hat,by simpa using hlen,?_,ry,hmy,?_⟩
   ·rw[R.ofs i x fs y hx hg,List.length_append,hl0,hl2,hz]
   ·intro h' sh' w' g hf t d f ob' rt hd' hs
    unfold Ob.set at hs;rw[hx] at hs;simp only at hs;cases hsx:zCv x fs t with
    | none=>rw[hsx] at hs;simp[mp] at hs
    | some x' =>
     rw[hsx] at hs;simp only[zJ,Option.some.injEq] at hs;subst hs;have r1:=hset2 h' sh' w' g (fun b hb=>hf b (by rcases List.mem_append.1 hb with hb|hb<;>simp[hb])) t d f x' rt hsx;have r2:=hset h' sh' w' g (fun b hb=>hf b (by rcases List.mem_append.1 hb with hb|hb<;>simp[hb])) x' _ _ (by simp only[List.length_append] at hl1 ⊢;omega) r1
     simpa using r2
theorem zMz (xs:List V):zC9 xs 0=0:=by cases xs<;>rfl
theorem zMn {xs:List V} {j:Nat} {x:V} (hx:xs[j]? = some x):zB1 (.agg xs) [j]=zC9 xs j:=by simp[zB1,hx]
mutual
theorem zGk {o i:Nat} {ob:Ob} {b off:Nat} (hv:h.vr o=ob.ver)
  (hofs:∀fs y,ob.get i fs=some y->∀j z,(match y with | .agg xs=>xs[j]? | _=>none)=some z->h.ofs o i (fs++[j])=h.ofs o i fs+zC9 (match y with | .agg xs=>xs|_=>[]) j/\ob.get i (fs++[j])=some z)
  (hpl:∀fs sz xs,ob.get i fs=some (.lst true sz xs)->w.cell? ⟨b,off+h.ofs o i fs,none⟩=some (.slice (h.pa o i fs ob.ver) xs.length (h.pc o i fs ob.ver))) :
  ∀{y:V} {fs:List Nat} {d:List Value} {f:List Nat},ob.get i fs=some y->At w b (off+h.ofs o i fs) d->Rel h sh w y d f->Rel h sh w (y.lod o i ob.ver fs) d []
 | .agg xs,fs,d,f,hg,hat,r=>by
  simp only[V.lod,Rel] at r ⊢;refine zJ6 hv hofs hpl (pre:=[]) (xs:=xs) (by simpa using hg) ?_ r
  simpa [zMz] using hat
 | .lst true sz xs,fs,d,f,hg,hat,r=>by
  have hp:=hpl fs sz xs hg;simp only[V.lod,Rel];refine⟨trivial,by rw[hv];exact Nat.le_refl _,?_⟩;have hl:=Rel.len r;simp only[V.cells] at hl
  obtain⟨c,rfl⟩:∃c,d=[c]:=by
   cases d with
   | nil=>simp at hl
   | cons c q=>cases q with
    | nil=>exact⟨c,rfl⟩
    | cons e q=>simp at hl
  have:=hat 0 c rfl
  rw[Nat.add_zero,hp] at this;simp only[Option.some.injEq] at this;rw[this]
 | .lst false sz xs,fs,d,f,hg,hat,r=>by
  simp only[V.lod]
  have:f=[]:=by simp only[Rel,Bool.false_eq_true,if_false] at r;exact r.1
  subst this;exact r
 | .int ..,fs,d,f,hg,hat,r=>by simp only[V.lod];have e:f=[]:=(by simp only[Rel] at r;exact r.2);subst e;exact r
 | .bool _,fs,d,f,hg,hat,r=>by simp only[V.lod];have e:f=[]:=(by simp only[Rel] at r;exact r.2);subst e;exact r
 | .str _,fs,d,f,hg,hat,r=>by simp only[V.lod];have e:f=[]:=(by simp only[Rel] at r;exact r.2);subst e;exact r
 | .emp _,fs,d,f,hg,hat,r=>by simp only[V.lod];have e:f=[]:=(by simp only[Rel] at r;exact r.1);subst e;exact r
 | .ref ..,fs,d,f,hg,hat,r=>by simp only[V.lod];have e:f=[]:=(by simp only[Rel] at r;exact r.1);subst e;exact r
 | .plc ..,fs,d,f,hg,hat,r=>by simp only[V.lod];have e:f=[]:=(by simp only[Rel] at r;exact r.1);subst e;exact r
 | .ptr ..,fs,d,f,hg,hat,r=>by simp only[V.lod];have e:f=[]:=(by simp only[Rel] at r;exact r.1);subst e;exact r
 | .vptr _,fs,d,f,hg,hat,r=>by simp only[V.lod];have e:f=[]:=(by simp only[Rel] at r;exact r.1);subst e;exact r
 | .clo ..,fs,d,f,hg,hat,r=>by simp only[V.lod];have e:f=[]:=(by simp only[Rel] at r;exact r.1);subst e;exact r
 | .und,fs,d,f,hg,hat,r=>by simp only[V.lod];have e:f=[]:=(by simp only[Rel] at r;exact r.1);subst e;exact r
 | .tup _,fs,d,f,hg,hat,r=>by simp only[Rel] at r
 | .iol ..,fs,d,f,hg,hat,r=>by simp only[Rel] at r
 | .iop _,fs,d,f,hg,hat,r=>by simp only[Rel] at r
theorem zJ6 {o i:Nat} {ob:Ob} {b off:Nat} (hv:h.vr o=ob.ver)
  (hofs:∀fs y,ob.get i fs=some y->∀j z,(match y with | .agg xs=>xs[j]? | _=>none)=some z->h.ofs o i (fs++[j])=h.ofs o i fs+zC9 (match y with | .agg xs=>xs|_=>[]) j/\ob.get i (fs++[j])=some z)
  (hpl:∀fs sz xs,ob.get i fs=some (.lst true sz xs)->w.cell? ⟨b,off+h.ofs o i fs,none⟩=some (.slice (h.pa o i fs ob.ver) xs.length (h.pc o i fs ob.ver))) :
  ∀{pre xs:List V} {fs:List Nat} {d:List Value} {f:List Nat},ob.get i fs=some (.agg (pre++xs))->At w b (off+(h.ofs o i fs+zC9 (pre++xs) pre.length)) d->RelA h sh w xs d f->RelA h sh w (V.lodL o i ob.ver fs pre.length xs) d []
 | pre,[],fs,d,f,hg,hat,r=>by
  simp only[RelA] at r;simp only[V.lodL,RelA];exact⟨r.1,trivial⟩
 | pre,x::q,fs,d,f,hg,hat,r=>by
  simp only[RelA] at r;obtain⟨c1,c2,f1,f2,rfl,rfl,r1,r2⟩:=r;have hj:(pre++x::q)[pre.length]? = some x:=by simp
  obtain⟨e1,e2⟩:=hofs fs _ hg pre.length x hj;simp only at e1;rw[At.append] at hat;have a1:=zGk hv hofs hpl (fs:=fs++[pre.length]) e2 (by rw[e1];exact hat.1) r1
  have hoff:zC9 (pre++x::q) (pre.length+1)=zC9 (pre++x::q) pre.length+x.cells:=by
   clear r1 r2 hg hat hj e1 e2 a1
   induction pre with
   | nil=>simp[zC9,zMz]
   | cons p pre ih=>simp only[List.cons_append,List.length_cons,zC9,ih,Nat.add_assoc]
  have a2:=zJ6 hv hofs hpl (pre:=pre++[x]) (xs:=q) (fs:=fs) (d:=c2) (f:=f2) (by simpa using hg) (by
   have:=hat.2
   rw[Rel.len r1] at this;simp only[List.append_assoc,List.singleton_append,List.length_append,List.length_cons,List.length_nil,Nat.zero_add];rw[hoff];rw[show off+(h.ofs o i fs+(zC9 (pre++x::q) pre.length+x.cells))=off+(h.ofs o i fs+zC9 (pre++x::q) pre.length)+x.cells from by omega]
   exact this) r2
  simp only[V.lodL,RelA];refine⟨c1,c2,[],[],rfl,rfl,a1,?_⟩
  simpa using a2
end
theorem yY {t:TypeId} {i:TypeInfo} (hi:P.info? t=some i):(sizeOf t).run P w = .ok i.size w:=by
 unfold sizeOf typeInfo;rw[Sem.run_bind,Sem.run_bind];show Result.andThen (Result.andThen (.ok P w) _) _=_;simp only[Result.andThen,hi]
 rfl
theorem zCi {t:TypeId} {i:TypeInfo} {z:Value} (hi:P.info? t=some i) (hz:i.zero=some z):(zeroValue t).run P w = .ok z w:=by
 unfold zeroValue typeInfo;rw[Sem.run_bind,Sem.run_bind];show Result.andThen (Result.andThen (.ok P w) _) _=_;simp only[Result.andThen,hi];show Sem.run P (match i.zero with|some v=>pure v|none=>_) w=_;rw[hz];rfl
theorem zJ0 {t:TypeId} {d:TypeDesc} (hu:P.underlying t=some d):(isAgg t).run P w = .ok (qMs d) w:=by
 unfold isAgg;rw[zD (zZ hu)];cases d<;>rfl
theorem zJ9 {tm:Array Value} (S:Sim w0 fa sh u h fp s tm w) {o:Nat} {ob:Ob} (ho:zO s.obs o=some ob) {i:Nat} {fs:List Nat} {xs:List V} (hg:ob.get i fs=some (.agg xs)) {j:Nat} {z:V} (hz:xs[j]? = some z) :
  h.ofs o i (fs++[j])=h.ofs o i fs+zC9 xs j/\ob.get i (fs++[j])=some z:=by
 have R:=(S.obs o ob ho).2;unfold Ob.get at hg ⊢;cases hx:ob.xs[i]? with
 | none=>rw[hx] at hg;cases hg
 | some x =>
  rw[hx] at hg;simp only at hg ⊢;have hgg:kS x (fs++[j])=some z:=by rw[zH8 hg];simp[kS,hz]
  refine⟨?_,hgg⟩;rw[R.ofs i x fs _ hx hg,R.ofs i x (fs++[j]) _ hx hgg,zGo hg,zMn hz,Nat.add_assoc]
theorem zP6 {cfg:Cfg} (C:CfgOK P cfg) {t:TypeId} {z y:V} (hz:cfg.zero t=some z) (hal:z.alike y=true) {b off:Nat} {d:List Value} {f:List Nat} (hat:At w b off d) (r:Rel h sh w y d f) :
  ∃x,(loadVar t ⟨b,off,none⟩).run P w = .ok x w/\((∃xs,y = .agg xs)->x = .agg d.toArray)/\(y.aggOf=none->d=[x]):=by
 obtain⟨i,zv,td,hi,_,hsz,_,_,hu,hag,_⟩:=C.zero t z hz;have hlen:d.length=i.size:=by rw[hsz,qK hal,Rel.len r]
 have hagg:=zBu hal;unfold loadVar;rw[zD (zJ0 hu)];rcases hag with⟨⟨fs,rfl⟩,hs⟩|⟨hnd,hs⟩
 ·simp only[qMs,if_true]
  refine⟨.agg d.toArray,?_,fun _=>rfl,fun hn=>?_⟩
  ·rw[zD (yY hi),zD (zCb P w b off i.size d hat hlen)];rfl
  ·rw[hs,hn] at hagg;cases hagg
 ·have hny:y.aggOf=none:=by rw[hs] at hagg;cases hy:y.aggOf with|none=>rfl|some v=>rw[hy] at hagg;cases hagg
  have hone:d.length=1:=by
   rw[Rel.len r];exact zLk hny
  obtain⟨c,rfl⟩:∃c,d=[c]:=by
   cases d with
   | nil=>simp at hone
   | cons c q=>cases q with
    | nil=>exact⟨c,rfl⟩
    | cons e q=>simp at hone
  have hc:=hat 0 c rfl;rw[Nat.add_zero] at hc;have hld:(load ⟨b,off,none⟩).run P w = .ok c w:=by simp only[load,Sem.run,hc]
  refine⟨c,?_,fun⟨xs,hx⟩=>(by rw[hx] at hny;cases hny),fun _=>rfl⟩;rw[hnd];exact hld
theorem qF6 {o i ver:Nat} {fs:List Nat} {y:V} (hy:y.aggOf=none):(y.lod o i ver fs).aggOf=none:=by
 cases y with
 | lst own sz xs=>cases own<;>rfl
 | agg xs=>cases hy
 | _=>first|rfl|(simp only[V.lod];exact hy)
mutual
theorem zCy {o i ver:Nat}:∀{y:V} {fs:List Nat} {q:Nat},q∈(y.lod o i ver fs).mention->q=o\/q∈y.mention
 | .agg xs,fs,q,hq=>by simp only[V.lod,V.mention] at hq ⊢;exact zF3 hq
 | .lst true sz xs,fs,q,hq=>by simp only[V.lod,V.mention,List.mem_singleton] at hq;exact .inl hq
 | .lst false sz xs,fs,q,hq=>.inr hq
 | .int ..,fs,q,hq=>.inr hq
 | .bool _,fs,q,hq=>.inr hq
 | .str _,fs,q,hq=>.inr hq
 | .emp _,fs,q,hq=>.inr hq
 | .ref ..,fs,q,hq=>.inr hq
 | .plc ..,fs,q,hq=>.inr hq
 | .ptr ..,fs,q,hq=>.inr hq
 | .vptr _,fs,q,hq=>.inr hq
 | .clo ..,fs,q,hq=>.inr hq
 | .und,fs,q,hq=>.inr hq
 | .tup _,fs,q,hq=>.inr hq
 | .iol ..,fs,q,hq=>.inr hq
 | .iop _,fs,q,hq=>.inr hq
theorem zF3 {o i ver:Nat}:∀{xs:List V} {fs:List Nat} {j q:Nat},q∈V.mentionL (V.lodL o i ver fs j xs)->q=o\/q∈V.mentionL xs
 | [],fs,j,q,hq=>by simp[V.lodL,V.mentionL] at hq
 | x::r,fs,j,q,hq=>by
  simp only[V.lodL,V.mentionL,List.mem_append] at hq ⊢;rcases hq with hq|hq
  ·rcases zCy hq with e|e
   ·exact .inl e
   ·exact .inr (.inl e)
  ·rcases zF3 hq with e|e
   ·exact .inl e
   ·exact .inr (.inr e)
end
theorem zI2 {cfg:Cfg} (C:CfgOK P cfg) (S:Sim w0 fa sh u h fp s a.tmps w) {t:TypeId} {z:V} {x:Operand} {vx v:V} (hz:cfg.zero t=some z)
  (hx:opV s.env x=some vx) (hv:zCz s z vx=some v):∃ad r,a.eval x = .pointer (some ad)/\(loadVar t ad).run P w = .ok r w/\RelS h sh w v r/\∀q∈v.mention,u q:=by
 have rx:=zY S hx
 have fin:∀(b off:Nat) (y:V) (d:List Value) (f:List Nat),a.eval x = .pointer (some ⟨b,off,none⟩)->z.alike y=true->At w b off d->Rel h sh w y d f->Rel h sh w v d []->v≠.und->v.aggOf.isSome=y.aggOf.isSome->(∀q∈v.mention,u q) ->
   ∃ad r,a.eval x = .pointer (some ad)/\(loadVar t ad).run P w = .ok r w/\RelS h sh w v r/\∀q∈v.mention,u q:=by
  intro b off y d f he hal hat ry rv hnu hag hm;obtain⟨r,hrun,h1,h2⟩:=zP6 C hz hal hat ry;refine⟨⟨b,off,none⟩,r,he,hrun,?_,hm⟩
  ·cases hy:y.aggOf with
   | some xs =>
    have hxs:y = .agg xs:=yJ hy
    have:=h1 ⟨xs,hxs⟩
    rw[hy] at hag;obtain⟨ys,hys⟩:=Option.isSome_iff_exists.1 hag;have hvs:v = .agg ys:=yJ hys;subst hvs;simp only[RelS,RelS0];exact⟨d.toArray,this,by simpa only[Rel] using rv⟩
   | none =>
    have hd:=h2 hy;subst hd;have hvn:v.aggOf=none:=by rw[hy] at hag;cases hv:v.aggOf with|none=>rfl|some q=>rw[hv] at hag;cases hag
    exact qV rv hvn hnu
 unfold zCz at hv;split at hv
 ·rename_i y
  split at hv
  ·rename_i hal
   cases hv;obtain⟨rx,hmx,_⟩:=rx;simp only[RelS,RelS0,Rel,List.cons.injEq,and_true] at rx;obtain⟨_,b,off,ds,he,hb,hat,hmen,ry⟩:=rx
   by_cases hu:v = .und
   ·subst hu
    obtain⟨r,hrun,h1,h2⟩:=zP6 C hz hal hat ry;exact⟨⟨b,off,none⟩,r,he,hrun,trivial,by intro q hq;cases hq⟩
   ·exact fin b off v ds [] he hal hat ry ry hu rfl (by rw[hmen];intro q hq;cases hq)
  ·cases hv
 ·rename_i o' i fs
  split at hv
  ·cases hv
  ·rename_i ob hob
   split at hv
   ·cases hv
   ·cases hv
   ·rename_i y hnu hy
    split at hv
    ·rename_i hal
     cases hv;obtain⟨rx,_,_⟩:=rx;simp only[RelS,RelS0,Rel,List.cons.injEq,and_true] at rx;obtain⟨_,b,off,c,zz,hd,he⟩:=rx;obtain⟨b',off',c',z',d0,d1,d2,f0,f1,f2,hd',_,_,_,_,hat,_,hl0,ry,hmy,_⟩:=S.place hob hy;rw[hd] at hd';simp only[Option.some.injEq,Prod.mk.injEq] at hd';obtain⟨rfl,rfl,rfl,rfl⟩:=hd';have R:=(S.obs o' ob hob).2
     have hat1:At w b (off+h.ofs o' i fs) d1:=by
      rw[<-hl0];exact(At.append.1 (At.append.1 hat).2).1
     have rl:=zGk (h:=h) (sh:=sh) (w:=w) (o:=o') (i:=i) (ob:=ob) (b:=b) (off:=off) R.ver
      (fun fs' y' hg' j z' hz'=>by
       cases y' with
       | agg xs=>exact zJ9 S hob hg' hz'
       | _=>cases hz')
      (fun fs' sz xs hg'=>R.pl b off c zz hd i fs' sz xs hg') hy hat1 ry
     refine fin b (off+h.ofs o' i fs) y d1 f1 he hal hat1 ry rl ?_ ?_ ?_
     ·intro e
      cases y with
      | lst own sz xs=>cases own<;>simp[V.lod] at e
      | und=>exact hnu rfl
      | _=>simp[V.lod] at e
     ·cases hya:y.aggOf with
      | none=>rw[qF6 hya]
      | some xs =>
       have:y = .agg xs:=yJ hya
       subst this;rfl
     ·intro q hq
      rcases zCy hq with e|e
      ·subst e;exact(S.obs q ob hob).1
      ·exact hmy q e
    ·cases hv
 ·cases hv
theorem qFo {cfg:Cfg} (C:CfgOK P cfg) (S:Sim w0 fa sh u h fp s a.tmps w) {o:Oper} {t:TypeId} {z:V} {x:Operand} {vx v:V} (ho:o.op = .load t x) (hz:cfg.zero t=some z)
  (hx:opV s.env x=some vx) (hv:zCz s z vx=some v):Does P o a w (zE6 h sh u w v):=by
 obtain⟨ad,r,he,hrun,hr,hm⟩:=zI2 C S hz hx hv;refine qN (x:=r) (w':=w) ?_ ⟨rfl,hr,hm⟩;unfold execOp;rw[ho];simp only[he];show(do pure (Next.value (<- Instr.loadAt t (.pointer (some ad)))):Sem Next).run P w=_
 have:(Instr.loadAt t (.pointer (some ad))).run P w = .ok r w:=hrun
 rw[zD this];rfl
end
end Go.Proofs.YtbcgenkegnmkhaaGreat.Ev
namespace Go.Proofs.YtbcgenkegnmkhaaGreat.Ev
open Go
set_option linter.unusedSectionVars false
set_option linter.unusedSimpArgs false
section
variable {P : Program} {u : Nat->Prop} {h : Hs} {sh : Nat->Prop} {w w0 : World} {fa : List Nat} {fp : Nat->List Nat} {s : St} {a : Act}
theorem xV {cfg:Cfg} (C:CfgOK P cfg) {t:TypeId} {xs:List V} {i:Nat} (hf:jX cfg t (.agg xs) i=true) :
  ∃fields f z y inf,P.underlying t=some (.struct fields)/\fields[i]? = some f/\xs[i]? = some y/\f.offset=zC9 xs i/\cfg.zero f.type=some z/\z.alike y=true/\P.info? f.type=some inf/\inf.size=y.cells/\0<y.cells:=by
 unfold jX at hf;split at hf
 ·rename_i fs ys hfs hxs
  cases hxs;simp only[Bool.and_eq_true,decide_eq_true_eq] at hf;obtain⟨hlen,hf⟩:=hf;split at hf
  ·rename_i f y hfi hyi
   split at hf
   ·rename_i z hz
    simp only[Bool.and_eq_true,decide_eq_true_eq] at hf;obtain⟨fields,hu,hm,_⟩:=C.flds t fs hfs;rw[<-hm] at hfi;rw[List.getElem?_map] at hfi;cases hfl:fields.toList[i]? with
    | none=>rw[hfl] at hfi;cases hfi
    | some fd =>
     rw[hfl] at hfi;simp only[Option.map_some,Option.some.injEq] at hfi;subst hfi;obtain⟨inf,zv,d,hi,_,hsz,hpos,_⟩:=C.zero _ _ hz;refine⟨fields,fd,z,y,inf,hu,by simpa using hfl,hyi,hf.1,hz,hf.2,hi,by rw[hsz,qK hf.2],by rw[<-qK hf.2];exact hpos⟩
   ·cases hf
  ·cases hf
 ·cases hf
theorem zKn {cfg:Cfg} (C:CfgOK P cfg) (S:Sim w0 fa sh u h fp s a.tmps w) {o:Oper} {t:TypeId} {i:Nat} {x:Operand} {vx v:V} (ho:o.op = .fieldAddr t x i)
  (hx:opV s.env x=some vx) (hv:yL cfg s t i vx=some v):Does P o a w (zE6 h sh u w v):=by
 have rx:=zY S hx
 have run:∀(b off:Nat) (xs:List V),a.eval x = .pointer (some ⟨b,off,none⟩)->jX cfg t (.agg xs) i=true ->
   (execOp a.eval o).run P w = .ok (.value (.pointer (some ⟨b,off+zC9 xs i,none⟩))) w:=by
  intro b off xs he hf;obtain⟨fields,f,z,y,inf,hu,hfi,hyi,hoff,hz,hal,hi,hsz,hpos⟩:=xV C hf;unfold execOp;rw[ho];simp only[he]
  have hrun:(Instr.fieldAt t (.pointer (some ⟨b,off,none⟩)) i).run P w = .ok (.pointer (some ⟨b,off+zC9 xs i,none⟩)) w:=by
   unfold Instr.fieldAt;rw[zD (zZ hu)];simp only[hfi];show((pure (⟨b,off,none⟩:Addr) >>= fun a=>do pure (Value.pointer (some (<- fieldPlace a f)))):Sem Value).run P w=_;rw[zD (qI P _ w)]
   have hfp:(fieldPlace ⟨b,off,none⟩ f).run P w = .ok ⟨b,off+zC9 xs i,none⟩ w:=by
    unfold fieldPlace;rw[zD (yY hi)];rw[if_neg (by omega),yW,hoff]
    rfl
   rw[zD hfp]
   rfl
  rw[zD hrun];rfl
 unfold yL at hv;split at hv
 ·rename_i xs
  split at hv
  ·rename_i hf
   obtain⟨fields,f,z,y,inf,hu,hfi,hyi,hoff,hz,hal,hi,hsz,hpos⟩:=xV C hf;rw[hyi] at hv;simp only[zJ,Option.some.injEq] at hv;subst hv;obtain⟨rx,_,_⟩:=rx;simp only[RelS,RelS0,Rel,List.cons.injEq,and_true] at rx;obtain⟨_,b,off,ds,he,hb,hat,hmen,ry⟩:=rx;obtain⟨d0,d1,d2,f0,f1,f2,rfl,hf0,hl0,r1,_,_⟩:=RelA.at_ (u:=fun _=>True) ry (fun _ _=>trivial) hyi
   have hf1:f1=[]:=by
    have:=congrArg List.length hf0
    simp only[List.length_nil,List.length_append] at this;exact List.length_eq_zero_iff.1 (by omega)
   subst hf1;refine qN (w':=w) (run b off xs he hf) ⟨rfl,?_,by intro q hq;cases hq⟩;refine qV ?_ rfl (by intro e;cases e);simp only[Rel];refine⟨trivial,b,off+zC9 xs i,d1,rfl,hb,?_,?_,r1⟩
   ·rw[<-hl0];exact(At.append.1 (At.append.1 hat).2).1
   ·have:∀q∈y.mention,q∈V.mentionL xs:=fun q hq=>mem_mentionL.2 ⟨y,List.mem_of_getElem? hyi,hq⟩
    simp only[V.mention] at hmen;cases hy:y.mention with
    | nil=>rfl
    | cons q l=>have:=this q (by rw[hy];exact List.mem_cons_self ..);rw[hmen] at this;cases this
  ·cases hv
 ·rename_i o' k fs
  split at hv
  ·cases hv
  ·rename_i ob hob
   split at hv
   ·cases hv
   ·rename_i y hy
    split at hv
    ·rename_i hf
     cases hv;cases y with
     | agg xs =>
      obtain⟨fields,f,z,y,inf,hu,hfi,hyi,hoff,hz,hal,hi,hsz,hpos⟩:=xV C hf;obtain⟨rx,hmx,_⟩:=rx;simp only[RelS,RelS0,Rel,List.cons.injEq,and_true] at rx;obtain⟨_,b,off,c,zz,hd,he⟩:=rx;refine qN (w':=w) (run b (off+h.ofs o' k fs) xs he hf) ⟨rfl,?_,fun q hq=>hmx q (by simpa [V.mention] using hq)⟩;refine qV ?_ rfl (by intro e;cases e);simp only[Rel];refine⟨trivial,b,off,c,zz,hd,?_⟩;rw[(zJ9 S hob hy hyi).1,Nat.add_assoc]
     | _=>simp[jX] at hf
    ·cases hv
 ·cases hv
theorem zXk {cfg:Cfg} (C:CfgOK P cfg) (S:Sim w0 fa sh u h fp s a.tmps w) {o:Oper} {t:TypeId} {i:Nat} {x:Operand} {xs:List V} {v:V} (ho:o.op = .field t x i)
  (hx:opV s.env x=some (.agg xs)) (hf:jX cfg t (.agg xs) i=true) (hv:xs[i]? = some v):Does P o a w (zE6 h sh u w v):=by
 obtain⟨rx,hmx,_⟩:=zY S hx;obtain⟨fields,f,z,y,inf,hu,hfi,hyi,hoff,hz,hal,hi,hsz,hpos⟩:=xV C hf;rw[hv] at hyi;cases hyi;simp only[RelS,RelS0] at rx;obtain⟨cs,he,rA⟩:=rx;obtain⟨d0,d1,d2,f0,f1,f2,hcs,hf0,hl0,r1,hm1,_⟩:=RelA.at_ (u:=u) rA (by simpa only[V.mention] using hmx) hv
 have hf1:f1=[]:=by
  have:=congrArg List.length hf0
  simp only[List.length_nil,List.length_append] at this;exact List.length_eq_zero_iff.1 (by omega)
 subst hf1;have hl1:=Rel.len r1;obtain⟨inf',zv,d,hi',_,hsz',_,_,hud,hag,_⟩:=C.zero _ _ hz;rw[hi] at hi';cases hi';have hagg:=zBu hal
 have key:∃r,(part f.type cs f.offset).run P w = .ok r w/\RelS h sh w v r:=by
  unfold part;rw[zD (zJ0 hud)]
  have hext:(cs.extract f.offset (f.offset+inf.size)).toList=d1:=by
   rw[Array.toList_extract,hcs,hoff,<- hl0,hsz,<- hl1];simp[List.extract_eq_take_drop]
  rcases hag with⟨⟨fs,rfl⟩,hs⟩|⟨hnd,hs⟩
  ·simp only[qMs,if_true]
   refine⟨.agg (cs.extract f.offset (f.offset+inf.size)),by rw[zD (yY hi)];rfl,?_⟩;rw[hs] at hagg;obtain⟨ys,hys⟩:=Option.isSome_iff_exists.1 hagg.symm;have hvs:v = .agg ys:=yJ hys;subst hvs;simp only[RelS,RelS0];exact⟨_,rfl,by rw[hext];simpa only[Rel] using r1⟩
  ·have hny:v.aggOf=none:=by rw[hs] at hagg;cases hy:v.aggOf with|none=>rfl|some q=>rw[hy] at hagg;cases hagg
   have hone:d1.length=1:=by rw[hl1];exact zLk hny
   obtain⟨c,rfl⟩:∃c,d1=[c]:=by
    cases d1 with
    | nil=>simp at hone
    | cons c q=>cases q with
     | nil=>exact⟨c,rfl⟩
     | cons e q=>simp at hone
   have hc:cs[f.offset]? = some c:=by
    rw[<-Array.getElem?_toList,hcs,hoff,<- hl0];simp
   refine⟨c,?_,?_⟩
   ·simp only[hnd,Bool.false_eq_true,if_false,hc]
    rfl
   ·by_cases hvu:v = .und
    ·subst hvu;trivial
    ·exact qV r1 hny hvu
 obtain⟨r,hrun,hr⟩:=key;refine qN (x:=r) (w':=w) ?_ ⟨rfl,hr,hm1⟩;unfold execOp;rw[ho];simp only[he]
 have:(Instr.field t (.agg cs) i).run P w = .ok r w:=by
  unfold Instr.field;rw[zD (zZ hu)];simp only[hfi];show((pure cs >>= fun c=>part f.type c f.offset):Sem Value).run P w=_;rw[zD (qI P _ w)];exact hrun
 rw[zD this];rfl
theorem zHk {cfg:Cfg} (C:CfgOK P cfg) {t e:TypeId} {z:V} (he:cfg.elem t=some e) (hz:cfg.zero e=some z) {b off len cap:Nat} {k:IntKind} {i:Int} (h0:0<=i) (hi:i.toNat<len) :
  (Instr.indexAt t (.slice (some ⟨b,off,none⟩) len cap) (.int k i)).run P w = .ok (.pointer (some ⟨b,off+i.toNat * z.cells,none⟩)) w:=by
 have hu:=C.elem t e he;obtain⟨inf,zv,d,hinf,_,hsz,_⟩:=C.zero e z hz;unfold Instr.indexAt;show((pure (k,i):Sem (IntKind×Int)) >>= _).run P w=_;rw[zD (qI P _ w)];simp only[];rw[zD (zZ hu)];simp only[];rw[zD (qI P _ w)];simp only[];rw[zD (zZ hu)];rw[if_pos ⟨h0,by omega⟩,zD (yY hinf),yW,hsz]
 rfl
theorem RelL.elem {z:Nat}:∀{xs:List V} {cs:List Value} {i:Nat} {y:V},RelL h sh w z xs cs []->xs[i]? = some y ->
  ∃d0 d1 d2,cs=d0++(d1++d2)/\d0.length=i * z/\d1.length=z/\y.mention=[]/\Rel h sh w y d1 []:=by
 intro xs cs i y r hi;obtain⟨rx,hm⟩:=RelL.iff.1 r;obtain⟨d0,d1,d2,f0,f1,f2,e,ef,h0,h1,ry,_,_⟩:=RelX.at_ (u:=fun _=>True) rx (fun _ _=>trivial) hi
 have:f1=[]:=by
  have:=congrArg List.length ef
  simp only[List.length_nil,List.length_append] at this;exact List.length_eq_zero_iff.1 (by omega)
 subst this;exact⟨d0,d1,d2,e,h0,h1,hm y (List.mem_of_getElem? hi),ry⟩
theorem zL7 {cfg:Cfg} (C:CfgOK P cfg) (S:Sim w0 fa sh u h fp s a.tmps w) {o:Oper} {t:TypeId} {x ix:Operand} {vx v:V} {k:IntKind} {i:Int} (ho:o.op = .indexAddr t x ix)
  (hx:opV s.env x=some vx) (hix:opV s.env ix=some (.int k i)) (hv:yP cfg s t vx i=some v):Does P o a w (zE6 h sh u w v):=by
 obtain⟨rx,hmx,hnund⟩:=zY S hx;have ri:=(zY S hix).1;rw[relS_int] at ri;unfold yP at hv;split at hv
 ·cases hv
 ·rename_i z hz
  obtain⟨e,he,hz⟩:∃e,cfg.elem t=some e/\cfg.zero e=some z:=by
   cases he:cfg.elem t with
   | none=>rw[he] at hz;cases hz
   | some e=>rw[he] at hz;exact⟨e,rfl,hz⟩
  have fin:∀(b off len cap:Nat) (r:Value),a.eval x = .slice (some ⟨b,off,none⟩) len cap->0<=i->i.toNat<len->RelS h sh w v (.pointer (some ⟨b,off+i.toNat * z.cells,none⟩))->(∀q∈v.mention,u q) ->
    Does P o a w (zE6 h sh u w v):=by
   intro b off len cap r hev h0 hi hr hm;refine qN (w':=w) ?_ ⟨rfl,hr,hm⟩;unfold execOp;rw[ho];simp only[hev,ri];rw[zD (zHk C he hz h0 hi)]
   rfl
  split at hv
  ·rename_i h0
   split at hv
   ·rename_i q xs
    split at hv
    ·cases hv
    ·rename_i y hy
     split at hv
     ·rename_i hc
      cases hv;simp only[RelS,RelS0,Rel,Bool.false_eq_true,if_false,List.cons.injEq,and_true] at rx;obtain⟨_,ad,c,hev,hle,hor⟩:=rx;rcases hor with⟨hor,_⟩|⟨b,off,zz,ds,rfl,hb,hat,hL⟩
      ·subst hor;cases hy
      ·obtain⟨d0,d1,d2,rfl,e0,e1,hmy,ry⟩:=RelL.elem hL hy
       have hlt:=(List.getElem?_eq_some_iff.1 hy).1;have hzz:zz=z.cells:=by rw[<-hc,<- e1,Rel.len ry]
       refine fin b off xs.length c undef hev h0 hlt ?_ (by intro q hq;cases hq);refine qV ?_ rfl (by intro e;cases e);simp only[Rel];refine⟨trivial,b,off+i.toNat * z.cells,d1,rfl,hb,?_,hmy,ry⟩;rw[<-hzz,<- e0];exact(At.append.1 (At.append.1 hat).2).1
     ·cases hv
   ·rename_i o' lo n
    unfold zD6 at hv;split at hv
    ·rename_i hin
     split at hv
     ·cases hv
     ·rename_i ob hob
      split at hv
      ·cases hv
      ·rename_i y hy
       split at hv
       ·rename_i hc
        cases hv;have hg:ob.get (lo+i.toNat) []=some y:=by simp[Ob.get,hy,kS]
        obtain⟨b,off,c,zz,d0,d1,d2,f0,f1,f2,hd,hzz,_,_,_,hat,_,hl0,ry,_,_⟩:=S.place hob hg;have R:=(S.obs o' ob hob).2;have hofs:=R.ofs (lo+i.toNat) y [] y hy rfl;simp only[zB1,Nat.add_zero] at hofs;have hr:=R.row;rw[hd] at hr;obtain⟨hz1,_,_,ds,fps,_,_,hX⟩:=hr;obtain⟨_,e1',_,_,_,_,_,_,_,hl1,ry',_,_⟩:=RelX.at_ (u:=u) hX (fun q hq=>by obtain⟨y,hy,hq⟩:=mem_mentionL.1 hq;exact(R.men y hy).2 q hq) hy;have hcz:zz=z.cells:=by rw[<-hc.2,<- Rel.len ry',hl1]
        simp only[RelS,RelS0,Rel,hd,List.cons.injEq,and_true] at rx;obtain⟨_,hle,hev⟩:=rx;refine fin b (off+lo * zz) n (c - lo) undef hev h0 hin ?_ (by intro q hq;simp only[V.mention,List.mem_singleton] at hq;subst hq;exact(S.obs q ob hob).1);refine qV ?_ rfl (by intro e;cases e);simp only[Rel];refine⟨trivial,b,off,c,zz,hd,?_⟩;rw[hofs,<- hzz,hcz,Nat.add_mul];simp only[List.cons.injEq,and_true,Value.pointer.injEq,Option.some.injEq,Addr.mk.injEq,true_and];omega
       ·cases hv
    ·cases hv
   ·cases hv
  ·cases hv
end
section
variable {P : Program} {u : Nat->Prop} {h : Hs} {sh : Nat->Prop} {w w0 : World} {fa : List Nat} {fp : Nat->List Nat} {s : St} {a : Act}
theorem zSk {x:Value} {v:V} {n:Int} (r:RelS h sh w v x) (hn:zN0 v=some n):∃b l c,x = .slice b l c/\n=l:=by
 unfold zN0 at hn;split at hn
 ·rename_i own sz xs
  cases hn;cases own
  ·simp only[RelS,RelS0,Rel,Bool.false_eq_true,if_false,List.cons.injEq,and_true] at r
   obtain⟨_,b,c,e,_⟩:=r;exact⟨b,_,c,e,rfl⟩
  ·simp only[RelS,RelS0,Rel,if_true,List.cons.injEq,and_true] at r
   rcases r with⟨e0,_,e⟩|⟨b,off,c,ds,fps,e,_⟩
   ·exact⟨none,0,0,e,by rw[e0];rfl⟩
   ·exact⟨_,_,c,e,rfl⟩
 ·cases hn
  simp only[RelS,RelS0,Rel,List.cons.injEq,and_true] at r;obtain⟨_,b,c,e,_⟩:=r;exact⟨b,0,c,e,rfl⟩
 ·rename_i o lo n'
  cases hn;simp only[RelS,RelS0,Rel] at r;obtain⟨_,r⟩:=r;split at r
  ·simp only[List.cons.injEq,and_true] at r
   exact⟨none,0,0,r.2.2,by rw[r.2.1]⟩
  ·simp only[List.cons.injEq,and_true] at r
   exact⟨_,n',_,r.2,rfl⟩
 ·rename_i n'
  cases hn;simp only[RelS,RelS0,Rel,List.cons.injEq,and_true] at r;exact⟨_,n',_,r.2.2,rfl⟩
 ·cases hn
theorem yI {o:Oper} {c:Go.Call} {b:Builtin} (ho:o.op = .call c) (hb:c.callee = .builtin b) :
  (execOp a.eval o).run P w=(builtin b c.argTypes o.type (c.args.map fun | .const _=>true|_=>false) (c.args.map a.eval)).run P w:=by
 unfold execOp;rw[ho];simp only[]
 have:(resolve a.eval c o.type).run P w = .ok { target:=.builtin b c.argTypes o.type (c.args.map fun | .const _=>true|_=>false),args:=c.args.map a.eval } w:=by
  unfold resolve;rw[hb];rfl
 rw[zD this]
 rfl
theorem zDn {c:Go.Call} {x y:V} (S:Sim w0 fa sh u h fp s a.tmps w) (hx:kW s.env c.args.toList=some [x,y]) :
  ∃vx vy,c.args.map a.eval=#[vx,vy]/\RelS h sh w x vx/\RelS h sh w y vy/\(∀o∈x.mention,u o)/\(∀o∈y.mention,u o):=by
 obtain⟨hl,hr⟩:=xP S hx;obtain⟨x0,e0,r0,m0,_⟩:=hr 0 x rfl;obtain⟨x1,e1,r1,m1,_⟩:=hr 1 y rfl;refine⟨a.eval x0,a.eval x1,?_,r0,r1,m0,m1⟩
 have:c.args.toList=[x0,x1]:=by
  cases hc:c.args.toList with
  | nil=>rw[hc] at e0;cases e0
  | cons p q =>
   cases q with
   | nil=>rw[hc] at e1;cases e1
   | cons p' q' =>
    rw[hc] at e0 e1 hl;simp only[List.length_cons,List.length_nil] at hl
    have:q'=[]:=List.length_eq_zero_iff.1 (by omega)
    subst this;simp only[List.getElem?_cons_zero,List.getElem?_cons_succ,Option.some.injEq] at e0 e1;rw[e0,e1]
 rw[<-Array.toArray_toList (xs:=c.args),this];simp
theorem zJc {c:Go.Call} {x:V} (S:Sim w0 fa sh u h fp s a.tmps w) (hx:kW s.env c.args.toList=some [x]) :
  ∃vx,c.args.map a.eval=#[vx]/\RelS h sh w x vx/\(∀o∈x.mention,u o):=by
 obtain⟨hl,hr⟩:=xP S hx;obtain⟨x0,e0,r0,m0,_⟩:=hr 0 x rfl;refine⟨a.eval x0,?_,r0,m0⟩
 have:c.args.toList=[x0]:=by
  cases hc:c.args.toList with
  | nil=>rw[hc] at e0;cases e0
  | cons p q =>
   rw[hc] at e0 hl;simp only[List.length_cons,List.length_nil] at hl
   have:q=[]:=List.length_eq_zero_iff.1 (by omega)
   subst this;simp only[List.getElem?_cons_zero,Option.some.injEq] at e0;rw[e0]
 rw[<-Array.toArray_toList (xs:=c.args),this];simp
theorem qLn {cfg:Cfg} (C:CfgOK P cfg) (S:Sim w0 fa sh u h fp s a.tmps w) {o:Oper} {c:Go.Call} {t:TypeId} {x:V} {n:Int} (ho:o.op = .call c) (hb:c.callee = .builtin .len)
  (ht:c.argTypes[0]? = some t) (he:(cfg.elem t).isSome=true) (hx:kW s.env c.args.toList=some [x]) (hn:zN0 x=some n):Does P o a w (zE6 h sh u w (.int .i64 n)):=by
 obtain⟨vx,hargs,rx,_⟩:=zJc S hx;obtain⟨b,l,cp,e,hnl⟩:=zSk rx hn;obtain⟨el,he⟩:=Option.isSome_iff_exists.1 he;have hu:=C.elem t el he;refine qN (x:=.int .i64 n) (w':=w) ?_ ⟨rfl,relS_int.2 rfl,by intro q hq;cases hq⟩;rw[yI ho hb,hargs];show((do pure (Next.value (<- Builtin.len_ c.argTypes o.type #[vx])):Sem Next)).run P w=_
 have:(Builtin.len_ c.argTypes o.type #[vx]).run P w = .ok (.int .i64 n) w:=by
  unfold Builtin.len_;have h0:(#[vx]:Array Value)[0]? = some vx:=rfl;simp only[ht,h0];rw[zD (zZ hu)];subst e;rw[hnl]
  rfl
 rw[zD this];rfl
theorem qKn {cfg:Cfg} (C:CfgOK P cfg) (S:Sim w0 fa sh u h fp s a.tmps w) {o:Oper} {c:Go.Call} {t:TypeId} (ho:o.op = .call c) (hb:c.callee = .builtin .cap)
  (ht:c.argTypes[0]? = some t) (he:(cfg.elem t).isSome=true) (hx:kW s.env c.args.toList=some [.emp true]):Does P o a w (zE6 h sh u w (.int .i64 0)):=by
 obtain⟨vx,hargs,rx,_⟩:=zJc S hx;simp only[RelS,RelS0,Rel,List.cons.injEq,and_true] at rx;obtain⟨_,ad,c0,e,hnl,hc0⟩:=rx;obtain⟨el,he⟩:=Option.isSome_iff_exists.1 he;have hu:=C.elem t el he;refine qN (x:=.int .i64 0) (w':=w) ?_ ⟨rfl,relS_int.2 rfl,by intro q hq;cases hq⟩;rw[yI ho hb,hargs];show((do pure (Next.value (<- Builtin.cap_ c.argTypes o.type #[vx])):Sem Next)).run P w=_
 have:(Builtin.cap_ c.argTypes o.type #[vx]).run P w = .ok (.int .i64 0) w:=by
  unfold Builtin.cap_;have h0:(#[vx]:Array Value)[0]? = some vx:=rfl;simp only[ht,h0];rw[zD (zZ hu)];subst e;rw[hc0 (by simpa using hnl)]
  rfl
 rw[zD this];rfl
theorem qN2 {o:Oper} {c:Go.Call} {v:V} {vs:List V} (S:Sim w0 fa sh u h fp s a.tmps w) (ho:o.op = .call c) (hb:c.callee = .builtin .min)
  (hx:kW s.env c.args.toList=some vs) (hn:qLh vs=some v):Does P o a w (zE6 h sh u w v):=by
 unfold qLh at hn;split at hn
 ·rename_i k m k' n
  cases hn;obtain⟨vx,vy,hargs,rx,ry,_,_⟩:=zDn S hx;rw[relS_int] at rx ry;subst rx;subst ry;refine qN (x:=.int k (if n<m then n else m)) (w':=w) ?_ ⟨rfl,relS_int.2 rfl,by intro q hq;cases hq⟩;rw[yI ho hb,hargs]
  rfl
 ·cases hn
theorem qIp {o:Oper} {c:Go.Call} {v:V} {vs:List V} (S:Sim w0 fa sh u h fp s a.tmps w) (ho:o.op = .call c) (hb:c.callee = .builtin .max)
  (hx:kW s.env c.args.toList=some vs) (hn:qE6 vs=some v):Does P o a w (zE6 h sh u w v):=by
 unfold qE6 at hn;split at hn
 ·rename_i k m k' n
  cases hn;obtain⟨vx,vy,hargs,rx,ry,_,_⟩:=zDn S hx;rw[relS_int] at rx ry;subst rx;subst ry;refine qN (x:=.int k (if n > m then n else m)) (w':=w) ?_ ⟨rfl,relS_int.2 rfl,by intro q hq;cases hq⟩;rw[yI ho hb,hargs]
  rfl
 ·cases hn
theorem zSz (S:Sim w0 fa sh u h fp s a.tmps w) {o:Oper} {x:Operand} {i:Nat} {xs:List V} {v:V} (ho:o.op = .extract x i)
  (hx:opV s.env x=some (.tup xs)) (hv:xs[i]? = some v):Does P o a w (zE6 h sh u w v):=by
 obtain⟨rx,hm,_⟩:=zY S hx;simp only[RelS] at rx;obtain⟨vs,e,r⟩:=rx
 have key:∀{xs:List V} {l:List Value} {i:Nat},RelSL h sh w xs l->xs[i]? = some v->∃y,l[i]? = some y/\RelS0 h sh w v y:=by
  intro xs
  induction xs with
  | nil=>intro l i _ hi;cases hi
  | cons x q ih =>
   intro l i r hi;simp only[RelSL] at r;obtain⟨y,l',el,r1,r2⟩:=r;subst el;cases i with
   | zero=>simp only[List.getElem?_cons_zero,Option.some.injEq] at hi;subst hi;exact⟨y,rfl,r1⟩
   | succ i=>simp only[List.getElem?_cons_succ] at hi ⊢;exact ih r2 hi
 obtain⟨y,hy,ry⟩:=key r hv
 have hvt:RelS h sh w v y:=by
  cases v with
  | tup q=>simp only[RelS0,Rel] at ry
  | iop q=>simp only[RelS0,Rel] at ry
  | _=>exact ry
 refine qN (x:=y) (w':=w) ?_ ⟨rfl,hvt,fun q hq=>hm q (by simp only[V.mention];exact mem_mentionL.2 ⟨v,List.mem_of_getElem? hv,hq⟩)⟩;unfold execOp;rw[ho];simp only[e]
 have:(Instr.extract (.tuple vs) i).run P w = .ok y w:=by
  unfold Instr.extract;rw[Array.getElem?_toList] at hy;simp only[hy];rfl
 rw[zD this];rfl
theorem zGp (S:Sim w0 fa sh u h fp s a.tmps w) {o:Oper} {x:Operand} {v:V} (ho:o.op = .nilCheck x)
  (hx:opV s.env x=some v) (hv:(∃q i p,v = .ptr q i p)\/∃y,v = .vptr y):Does P o a w (zE6 h sh u w v):=by
 obtain⟨rx,hm,_⟩:=zY S hx
 have he:∃ad,a.eval x = .pointer (some ad):=by
  rcases hv with⟨q,i,p,rfl⟩|⟨y,rfl⟩
  ·simp only[RelS,RelS0,Rel,List.cons.injEq,and_true] at rx
   obtain⟨_,_,_,_,_,_,e⟩:=rx;exact⟨_,e⟩
  ·simp only[RelS,RelS0,Rel,List.cons.injEq,and_true] at rx
   obtain⟨_,_,_,_,e,_⟩:=rx;exact⟨_,e⟩
 obtain⟨ad,he⟩:=he;refine qN (x:=a.eval x) (w':=w) ?_ ⟨rfl,rx,hm⟩;unfold execOp;rw[ho];simp only[he]
 rfl
theorem zNz (S:Sim w0 fa sh u h fp s a.tmps w) {o:Oper} {f:FuncId} {first caps:Array Operand} {cs:List V} (ho:o.op = .makeFunc (.func f) first caps) (hf:first.isEmpty=true)
  (hx:kW s.env caps.toList=some cs) (hc:∀c∈cs,c.aggOf=none/\c.isTup=false):Does P o a w (zE6 h sh u w (.clo f cs)):=by
 obtain⟨hl,hr⟩:=xP S hx
 have key:∀{cs:List V} {l:List Operand},cs.length=l.length->(∀c∈cs,c.aggOf=none/\c.isTup=false)->(∀(i:Nat) (v:V),cs[i]? = some v->∃x,l[i]? = some x/\RelS h sh w v (a.eval x)/\(∀o∈v.mention,u o)/\v≠.und) ->
   RelC h sh w cs (l.map a.eval)/\∀o∈V.mentionL cs,u o:=by
  intro cs
  induction cs with
  | nil=>intro l hl _ _;have:l=[]:=List.length_eq_zero_iff.1 hl.symm;subst this;simp[RelC,V.mentionL]
  | cons c q ih =>
   intro l hl hc hr;cases l with
   | nil=>simp at hl
   | cons x r =>
    obtain⟨x',e,r1,m1,n1⟩:=hr 0 c rfl;simp only[List.getElem?_cons_zero,Option.some.injEq] at e;subst e;obtain⟨r2,m2⟩:=ih (l:=r) (by simpa using hl) (fun c hc'=>hc c (List.mem_cons_of_mem _ hc')) (fun i v hi=>hr (i+1) v hi);have hag:=hc c (List.mem_cons_self ..);refine⟨?_,?_⟩
    ·simp only[RelC,List.map_cons]
     refine⟨a.eval x,r.map a.eval,rfl,?_,r2⟩;cases c with
     | agg q=>simp[V.aggOf] at hag
     | und=>exact absurd rfl n1
     | tup q=>simp[V.isTup] at hag
     | iop q=>simp[V.isTup] at hag
     | _=>exact r1
    ·intro o ho;simp only[V.mentionL,List.mem_append] at ho
     rcases ho with ho|ho
     ·exact m1 o ho
     ·exact m2 o ho
 obtain⟨rC,mC⟩:=key hl hc hr;refine qN (x:=.func (.func f) #[] (caps.map a.eval)) (w':=w) ?_ ⟨rfl,?_,by simpa only[V.mention] using mC⟩
 ·unfold execOp
  rw[ho]
  have:first=#[]:=by simpa using hf
  subst this;simp only[Instr.makeFunc,List.map_toArray,Array.map_empty]
  rfl
 ·refine qV ?_ rfl (by intro e;cases e)
  simp only[Rel];exact⟨trivial,_,rfl,by simpa using rC⟩
end
end Go.Proofs.YtbcgenkegnmkhaaGreat.Ev
namespace Go.Proofs.YtbcgenkegnmkhaaGreat.Ev
open Go
set_option linter.unusedSectionVars false
set_option linter.unusedSimpArgs false
section
variable {P : Program} {u : Nat->Prop} {h : Hs} {sh : Nat->Prop} {w w0 : World} {fa : List Nat} {fp : Nat->List Nat} {s : St} {a : Act}
theorem vI {k:Nat}:∀{xs:List V},V.cellsAll k xs=true->∀x∈xs,x.cells=k
 | [],_,x,hx=>by cases hx
 | y::r,e,x,hx=>by
  simp only[V.cellsAll,Bool.and_eq_true,decide_eq_true_eq] at e;rcases List.mem_cons.1 hx with rfl|hx
  ·exact e.1
  ·exact vI e.2 x hx
theorem RelL.drop {z:Nat}:∀{xs:List V} {cs:List Value} (n:Nat),RelL h sh w z xs cs []->RelL h sh w z (xs.drop n) (cs.drop (n * z)) []
 | xs,cs,0,r=>by simpa using r
 | [],cs,n+1,r=>by simp only[RelL] at r;simp[RelL,r.1]
 | x::q,cs,n+1,r=>by
  simp only[RelL] at r;obtain⟨c1,c2,f1,f2,rfl,ef,el,hm,r1,r2⟩:=r
  have hf:f1=[]/\f2=[]:=by
   have:=congrArg List.length ef
   simp only[List.length_nil,List.length_append] at this;exact⟨List.length_eq_zero_iff.1 (by omega),List.length_eq_zero_iff.1 (by omega)⟩
  obtain⟨rfl,rfl⟩:=hf
  have:=RelL.drop n r2
  rw[List.drop_succ_cons];rw[show(n+1) * z=c1.length+n * z from by rw[Nat.succ_mul,el,Nat.add_comm],<- List.drop_drop,List.drop_left];exact this
theorem RelL.take {z:Nat}:∀{xs:List V} {cs:List Value} (n:Nat),RelL h sh w z xs cs []->RelL h sh w z (xs.take n) (cs.take (n * z)) []
 | xs,cs,0,r=>by simp[RelL]
 | [],cs,n+1,r=>by simp only[RelL] at r;simp[RelL,r.1]
 | x::q,cs,n+1,r=>by
  simp only[RelL] at r;obtain⟨c1,c2,f1,f2,rfl,ef,el,hm,r1,r2⟩:=r
  have hf:f1=[]/\f2=[]:=by
   have:=congrArg List.length ef
   simp only[List.length_nil,List.length_append] at this;exact⟨List.length_eq_zero_iff.1 (by omega),List.length_eq_zero_iff.1 (by omega)⟩
  obtain⟨rfl,rfl⟩:=hf
  have:=RelL.take n r2
  rw[List.take_succ_cons];rw[show(n+1) * z=c1.length+n * z from by rw[Nat.succ_mul,el,Nat.add_comm]]
  have ht:List.take (c1.length+n * z) (c1++c2)=c1++List.take (n * z) c2:=by
   rw[List.take_append];rw[List.take_of_length_le (by omega)]
   congr 2
   omega
  rw[ht];simp only[RelL];exact⟨c1,_,[],[],rfl,rfl,el,hm,r1,this⟩
theorem At.take {b off n:Nat} {cs:List Value} (ha:At w b off cs):At w b off (cs.take n):=by
 have:=ha
 rw[<-List.take_append_drop n cs] at this;exact(At.append.1 this).1
theorem At.drop {b off n:Nat} {cs:List Value} (ha:At w b off cs) (hn:n<=cs.length):At w b (off+n) (cs.drop n):=by
 have:=ha
 rw[<-List.take_append_drop n cs] at this;have h2:=(At.append.1 this).2
 rwa [List.length_take,Nat.min_eq_left hn] at h2
def zYw (v:Option V):Option Value->Prop:=fun x=>match v with
 | none=>x=none
 | some v=>∃k n,v = .int k n/\x=some (.int k n)
theorem zTn {cfg:Cfg} (C:CfgOK P cfg) {t e:TypeId} {z:V} (he:cfg.elem t=some e) (hz:cfg.zero e=some z) {ad:Option Addr} {len cap:Nat} (hcap:len<=cap) {lo hi:Option V} {xlo xhi:Option Value} (h1:zYw lo xlo) (h2:zYw hi xhi)
  {p q:Int} (hp:zBl lo 0=some p) (hq:zBl hi len=some q) (hr:0<=p/\p<=q/\q<=len) :
  (Instr.sliceAt t (.slice ad len cap) xlo xhi none).run P w = .ok (.slice (if cap=p.toNat then ad else ad.map (·.add (p.toNat * z.cells))) (q.toNat - p.toNat) (cap - p.toNat)) w:=by
 have hu:=C.elem t e he;obtain⟨inf,zv,d,hinf,_,hsz,_⟩:=C.zero e z hz;unfold Instr.sliceAt;rw[zD (zZ hu)];simp only[];unfold Instr.slice;rw[zD (zZ hu)];simp only[]
 have hb:(Instr.sliceBounds true len cap xlo xhi none).run P w = .ok (p.toNat,q.toNat,cap) w:=by
  have bd:∀(v:Int) (k:IntKind) (m:Nat) (f:BoundsCode),0<=v->v<=m->(Instr.sliceBound (.int k v) m f).run P w = .ok v.toNat w:=by
   intro v k m f h1 h2;unfold Instr.sliceBound;show((pure (k,v):Sem (IntKind×Int)) >>= _).run P w=_;rw[zD (qI P _ w)];simp only[];rw[if_pos ⟨by omega,by omega⟩];rfl
  unfold Instr.sliceBounds;simp only[];rw[zD (qI P _ w)];cases hi with
  | none =>
   simp only[zYw] at h2;subst h2;simp only[zBl,Option.some.injEq] at hq;simp only[];rw[zD (qI P _ w)];cases lo with
   | none =>
    simp only[zYw] at h1;subst h1;simp only[zBl,Option.some.injEq] at hp;simp only[];rw[zD (qI P _ w),<- hp,<- hq];rfl
   | some v =>
    simp only[zYw] at h1;obtain⟨k,n,rfl,rfl⟩:=h1;simp only[zBl,Option.some.injEq] at hp;subst hp;simp only[];rw[zD (bd _ _ _ _ (by omega) (by omega)),<- hq];rfl
  | some v =>
   simp only[zYw] at h2;obtain⟨k,n,rfl,rfl⟩:=h2;simp only[zBl,Option.some.injEq] at hq;subst hq;simp only[];rw[zD (bd _ _ _ _ (by omega) (by omega))];cases lo with
   | none =>
    simp only[zYw] at h1;subst h1;simp only[zBl,Option.some.injEq] at hp;simp only[];rw[zD (qI P _ w),<- hp];rfl
   | some v =>
    simp only[zYw] at h1;obtain⟨k',n',rfl,rfl⟩:=h1;simp only[zBl,Option.some.injEq] at hp;subst hp;simp only[];rw[zD (bd _ _ _ _ (by omega) (by omega))];rfl
 rw[zD hb];simp only[];rw[zD (yY hinf),hsz]
 rfl
theorem RelS.capOk {x:Value} {v:V} {n:Int} (r:RelS h sh w v x) (hn:zN0 v=some n) (hp:∀o i fs ver m,v≠.plc o i fs ver m):∃b l c,x = .slice b l c/\n=l/\l<=c:=by
 unfold zN0 at hn;split at hn
 ·rename_i own sz xs
  cases hn;cases own
  ·simp only[RelS,RelS0,Rel,Bool.false_eq_true,if_false,List.cons.injEq,and_true] at r
   obtain⟨_,b,c,e,hc,_⟩:=r;exact⟨b,_,c,e,rfl,hc⟩
  ·simp only[RelS,RelS0,Rel,if_true,List.cons.injEq,and_true] at r
   rcases r with⟨e0,_,e⟩|⟨b,off,c,ds,fps,e,_,hc,_⟩
   ·exact⟨none,0,0,e,by rw[e0];rfl,Nat.le_refl _⟩
   ·exact⟨_,_,c,e,rfl,hc⟩
 ·cases hn
  simp only[RelS,RelS0,Rel,List.cons.injEq,and_true] at r;obtain⟨_,b,c,e,_⟩:=r;exact⟨b,0,c,e,rfl,Nat.zero_le _⟩
 ·rename_i o lo n'
  cases hn;simp only[RelS,RelS0,Rel] at r;obtain⟨_,r⟩:=r;split at r
  ·simp only[List.cons.injEq,and_true] at r
   exact⟨none,0,0,r.2.2,by rw[r.2.1],Nat.le_refl _⟩
  ·simp only[List.cons.injEq,and_true] at r
   exact⟨_,n',_,r.2,rfl,by omega⟩
 ·exact absurd rfl (hp _ _ _ _ _)
 ·cases hn
theorem zNw {ad:Option Addr} {cap p:Nat} {f:Addr->Addr} (h:ad=none->cap=0) (e:(if cap=p then ad else ad.map f)=none):cap - p=0:=by
 have:ad=none:=by
  split at e
  ·exact e
  ·simpa using e
 rw[h this];simp
theorem zY3 {cfg:Cfg} (C:CfgOK P cfg) (S:Sim w0 fa sh u h fp s a.tmps w) {o:Oper} {t:TypeId} {x:Operand} {olo ohi:Option Operand} {vx v:V} {lo hi:Option V} (ho:o.op = .slice t x olo ohi none)
  (hx:opV s.env x=some vx) (hlo:zKk s.env olo=some lo) (hhi:zKk s.env ohi=some hi) (hv:zF6 cfg s t vx lo hi=some v):Does P o a w (zE6 h sh u w v):=by
 obtain⟨rx,hmx,hnu⟩:=zY S hx
 have hopt:∀{oo:Option Operand} {l:Option V} {d p:Int},zKk s.env oo=some l->zBl l d=some p->zYw l (oo.map a.eval):=by
  intro oo l d p h1 h2;cases oo with
  | none=>simp only[zKk,Option.some.injEq] at h1;subst h1;rfl
  | some y =>
   simp only[zKk] at h1;cases hy:opV s.env y with
   | none=>rw[hy] at h1;cases h1
   | some vy =>
    rw[hy] at h1;simp only[zJ,Option.some.injEq] at h1;subst h1;have ry:=(zY S hy).1;cases vy<;>simp only[zBl,reduceCtorEq] at h2
    rename_i k n
    exact⟨k,n,rfl,by rw[relS_int] at ry;simp[ry]⟩
 unfold zF6 at hv;split at hv
 ·cases hv
 ·rename_i z hz
  obtain⟨e,he,hz⟩:∃e,cfg.elem t=some e/\cfg.zero e=some z:=by
   cases he:cfg.elem t with
   | none=>rw[he] at hz;cases hz
   | some e=>rw[he] at hz;exact⟨e,rfl,hz⟩
  split at hv
  ·cases hv
  ·rename_i n hn
   split at hv
   ·cases hv
   ·rename_i p hp
    split at hv
    ·cases hv
    ·rename_i q hq
     split at hv
     ·rename_i hr
      have hnp:∀o i fs ver m,vx≠.plc o i fs ver m:=by
       intro o i fs ver m e;subst e;simp[zL0] at hv
      obtain⟨ad,len,cap,hev,hnl,hcap⟩:=RelS.capOk rx hn hnp;subst hnl;have run:=zTn (w:=w) C he hz (ad:=ad) hcap (hopt hlo hp) (hopt hhi hq) hp hq hr
      have fin:RelS h sh w v (.slice (if cap=p.toNat then ad else ad.map (·.add (p.toNat * z.cells))) (q.toNat - p.toNat) (cap - p.toNat))->(∀o∈v.mention,u o)->Does P o a w (zE6 h sh u w v):=by
       intro hr hm;refine qN (w':=w) ?_ ⟨rfl,hr,hm⟩;unfold execOp;rw[ho];simp only[hev,Option.map_none];rw[zD run];rfl
      unfold zL0 at hv;split at hv
      ·rename_i sz xs
       split at hv
       ·rename_i hc
        cases hv;simp only[zN0,Option.some.injEq] at hn;simp only[RelS,RelS0,Rel,Bool.false_eq_true,if_false,List.cons.injEq,and_true,hev,Value.slice.injEq] at rx;obtain⟨_,a',c',⟨rfl,hll,rfl⟩,hle,hor⟩:=rx
        have hlen:((xs.take q.toNat).drop p.toNat).length=q.toNat - p.toNat:=by
         rw[List.length_drop,List.length_take];omega
        refine fin ?_ (by intro o ho;cases ho);refine qV ?_ rfl (by intro e;cases e);simp only[Rel,Bool.false_eq_true,if_false];refine⟨trivial,_,_,by rw[hlen],by rw[hlen];omega,?_⟩
        by_cases hpq:p.toNat<q.toNat
        ·right
         rcases hor with⟨hor,hor0⟩|⟨b,off,zz,ds,hb1,hb2,hat,hL⟩
         ·subst hor;simp at hll;omega
         ·have hzz:p.toNat * z.cells=p.toNat * zz:=by
           rcases hc with hc|hc
           ·rw[hc];simp
           ·have hxl:0<xs.length:=by omega
            have hx0:xs[0]? = some (xs[0]'hxl):=List.getElem?_eq_getElem _;obtain⟨_,d1,_,_,_,e1,_,ry⟩:=RelL.elem hL hx0;rw[<-vI hc _ (List.getElem_mem hxl),<- Rel.len ry,e1]
          refine⟨b,off+p.toNat * zz,zz,(ds.take (q.toNat * zz)).drop (p.toNat * zz),?_,hb2,?_,?_⟩
          ·rw[if_neg (by omega),hb1,hzz]
           simp[yW]
          ·refine At.drop (At.take hat) ?_
           rw[List.length_take,RelL.len hL];have h1:p.toNat * zz<=q.toNat * zz:=Nat.mul_le_mul_right _ (by omega);have h2:p.toNat * zz<=xs.length * zz:=Nat.mul_le_mul_right _ (by omega);omega
          ·exact RelL.drop _ (RelL.take _ hL)
        ·left
         refine⟨List.length_eq_zero_iff.1 (by rw[hlen];omega),zNw ?_⟩;rcases hor with⟨_,hor0⟩|⟨b,off,zz,ds,hb1,_⟩
         ·exact hor0
         ·rw[hb1];intro e;cases e
       ·cases hv
      ·rename_i sz
       cases hv;simp only[RelS,RelS0,Rel,if_true,List.cons.injEq,and_true,hev,true_and,Value.slice.injEq] at rx;simp only[zN0,List.length_nil,Option.some.injEq] at hn;refine fin ?_ (by intro o ho;cases ho);refine qV ?_ rfl (by intro e;cases e);simp only[Rel,if_true,true_and]
       left
       rcases rx with⟨_,rfl,rfl,rfl⟩|⟨b,off,c,ds,fps,_,hf,_⟩
       ·have:p=0:=by omega
        have:q=0:=by omega
        subst p;subst q;simp;assumption
       ·cases hf
      ·cases hv
       simp only[RelS,RelS0,Rel,List.cons.injEq,and_true,hev,Value.slice.injEq] at rx;simp only[zN0,Option.some.injEq] at hn;obtain⟨_,a',c',⟨rfl,_,rfl⟩,hnl,hc0⟩:=rx;have hn1:ad=none:=by simpa using hnl
       have hn2:=hc0 hn1;subst hn1;subst hn2;refine fin ?_ (by intro o ho;cases ho);refine qV ?_ rfl (by intro e;cases e);simp only[Rel];have e0:q.toNat - p.toNat=0:=by omega
       rw[e0];exact⟨trivial,_,_,rfl,by simp,fun _=>by simp⟩
      ·cases hv
       simp only[RelS,RelS0,Rel,List.cons.injEq,and_true,hev,Value.slice.injEq] at rx;simp only[zN0,Option.some.injEq] at hn;obtain⟨_,a',c',⟨rfl,_,rfl⟩,hnl,hc0⟩:=rx;refine fin ?_ (by intro o ho;cases ho);refine qV ?_ rfl (by intro e;cases e);simp only[Rel,Bool.false_eq_true,if_false];have e0:q.toNat - p.toNat=0:=by omega
       rw[e0];exact⟨trivial,_,_,rfl,Nat.zero_le _,.inl ⟨trivial,zNw hc0⟩⟩
      ·rename_i o' l m
       simp only[zN0,Option.some.injEq] at hn;have hml:m=len:=by omega
       subst hml;split at hv
       ·rename_i hp0
        cases hv;subst hp0;refine fin ?_ hmx;simp only[RelS,RelS0,Rel,hev] at rx ⊢;obtain⟨_,rx⟩:=rx;refine⟨trivial,?_⟩;split at rx
        ·simp only[List.cons.injEq,and_true,Value.slice.injEq] at rx
         obtain⟨h1,h2,h3,h4,h5⟩:=rx;subst h1;subst h3;subst h5;refine⟨rfl,by omega,?_⟩;simp;omega
        ·rename_i b off c zz hd
         simp only[List.cons.injEq,and_true,Value.slice.injEq] at rx;obtain⟨hle,rfl,_,rfl⟩:=rx;refine⟨by omega,?_⟩;simp only[Int.toNat_zero,Nat.zero_mul,Nat.sub_zero,List.cons.injEq,and_true,Value.slice.injEq];split
         ·rfl
         ·simp[zVl]
       ·rename_i hp0
        split at hv
        ·rename_i hpq
         cases hv;refine fin ?_ (by intro o ho;cases ho);refine qV ?_ rfl (by intro e;cases e);simp only[Rel,Bool.false_eq_true,if_false];have e0:q.toNat - p.toNat=0:=by omega
         rw[e0];refine⟨trivial,_,_,rfl,Nat.zero_le _,.inl ⟨trivial,zNw ?_⟩⟩;simp only[RelS,RelS0,Rel,hev] at rx;obtain⟨_,rx⟩:=rx;split at rx
         ·simp only[List.cons.injEq,and_true,Value.slice.injEq] at rx
          obtain⟨_,_,_,_,h5⟩:=rx;exact fun _=>h5
         ·simp only[List.cons.injEq,and_true,Value.slice.injEq] at rx
          obtain⟨_,h1,_⟩:=rx;rw[h1];intro e;cases e
        ·rename_i hpq
         split at hv
         ·cases hv
         ·rename_i ob hob
          split at hv
          ·rename_i hsz
           cases hv;refine fin ?_ (by intro o ho;simp only[V.mention,List.mem_singleton] at ho;subst ho;exact(S.obs o ob hob).1);have hr:=(S.obs o' ob hob).2.row;simp only[RelS,RelS0,Rel,hev] at rx ⊢;obtain⟨_,rx⟩:=rx;refine⟨trivial,?_⟩;split at rx
           ·simp only[List.cons.injEq,and_true,Value.slice.injEq] at rx
            obtain⟨_,h0,_⟩:=rx;omega
           ·rename_i b off c zz hd
            rw[hd] at hr;have hzz:zz=z.cells:=hr.1.trans hsz;simp only[List.cons.injEq,and_true,Value.slice.injEq] at rx;obtain⟨hle,rfl,_,rfl⟩:=rx;refine⟨by omega,?_⟩;rw[if_neg (by omega)];simp only[Option.map_some,yW,List.cons.injEq,and_true,Value.slice.injEq,Option.some.injEq,Addr.mk.injEq,true_and];rw[hzz,Nat.add_mul];omega
          ·cases hv
      ·cases hv
     ·cases hv
end
section
variable {u : Nat->Prop} {h : Hs} {sh : Nat->Prop} {w w0 : World} {fa : List Nat} {fp : Nat->List Nat} {s : St} {tm : Array Value}
def qHe:Option Value->Option Addr
 | some (.slice a _ _)=>a
 | _=>none
def qHr:Option Value->Nat
 | some (.slice _ _ c)=>c
 | _=>0
theorem zDh {z:Nat} {xs:List V} {ds:List Value} {f:List Nat} {b off i:Nat} {x:V} {fs:List Nat} {sz:Nat} {ys:List V} (hX:RelX h sh w z xs ds f) (hat:At w b off ds) (hm:∀o∈V.mentionL xs,u o)
  (hx:xs[i]? = some x) (hg:kS x fs=some (.lst true sz ys)):∃a c,w.cell? ⟨b,off+(i * z+zB1 x fs),none⟩=some (.slice a ys.length c):=by
 obtain⟨d0,d1,d2,f0,f1,f2,rfl,rfl,hl0,hl1,rx,hmx,_⟩:=RelX.at_ hX hm hx;obtain⟨e0,e1,e2,g0,g1,g2,rfl,rfl,hl2,ry,_,_⟩:=Rel.path rx hmx hg
 have hat1:At w b (off+(i * z+zB1 x fs)) e1:=by
  have h1:=(At.append.1 (At.append.1 hat).2).1;have h2:=(At.append.1 (At.append.1 h1).2).1
  rwa [hl0,hl2,Nat.add_assoc] at h2
 have:∃a c,e1=[.slice a ys.length c]:=by
  simp only[Rel,if_true] at ry;rcases ry with⟨rfl,_,e⟩|⟨b',off',c,ds,fps,e,_⟩
  ·exact⟨_,_,e⟩
  ·exact⟨_,_,e⟩
 obtain⟨a,c,rfl⟩:=this;refine⟨a,c,?_⟩
 have:=hat1 0 _ rfl
 simpa using this
structure Loose (w0:World) (fa:List Nat) (sh:Nat->Prop) (obs:List (Nat×Ob)) (fp:Nat->List Nat) (w:World) (f:List Nat):Prop where
 nd:f.Nodup
 ok:∀b∈f,b<w.heap.size/\(b<w0.heap.size->b∈fa)/\¬sh b/\∀o ob,zO obs o=some ob->b ∉ fp o
theorem zAs {xs:List V} (hm:∀x∈xs,∀q∈x.mention,u q):∀q∈V.mentionL xs,u q:=fun q hq=>by
 obtain⟨x,hx,hq⟩:=mem_mentionL.1 hq;exact hm x hx q hq
theorem Sim.newObF (S:Sim w0 fa sh u h fp s tm w) {id:Nat} (hid:¬u id) {w':World} {b off c:Nat} {ob:Ob}
  (hsz:Grew w w') (hoth:∀b',b'<w.heap.size->b'≠b->w'.heap[b']? = w.heap[b']?)
  (hb:b<w'.heap.size/\(b<w0.heap.size->b∈fa)/\¬sh b/\∀o ob,zO s.obs o=some ob->b ∉ fp o)
  (hrow:Row w' b (off+c * ob.sz)) (hlen:ob.xs.length<=c) {ds:List Value} {fps:List Nat} (hX:RelX h sh w' ob.sz ob.xs ds fps) (hat:At w' b off ds)
  (hmen:∀x∈ob.xs,(ob.bx=false->x.mention=[])/\∀q∈x.mention,u q) (hbf:b ∉ fps) (hf:Loose w0 fa sh s.obs fp w fps) (hone:ob.bx=true->ob.fx=false->c=1:=by simp) :
  ∃h' fp',Sim w0 fa sh (fun o=>u o\/o=id) h' fp' (s.new id ob) tm w'/\h.Le u h'/\h'.hd id=some (b,off,c,ob.sz)/\(∀i x fs,ob.xs[i]? = some x->h'.ofs id i fs=i * ob.sz+zB1 x fs)/\(∀q,q≠id->fp' q=fp q)/\fp' id=b::fps:=by
 have hne:∀o,u o->o≠id:=fun o ho e=>hid (e ▸ ho)
 let H:Hs:={ hd:=fun q=>if q=id then some (b,off,c,ob.sz) else h.hd q,ofs:=fun q i fs=>if q=id then i * ob.sz+(match ob.xs[i]? with|some x=>zB1 x fs|none=>0) else h.ofs q i fs,vr:=fun q=>if q=id then ob.ver else h.vr q,pa:=fun q i fs v=>if q=id then qHe (w'.cell? ⟨b,off+(i * ob.sz+(match ob.xs[i]? with|some x=>zB1 x fs|none=>0)),none⟩) else h.pa q i fs v,pc:=fun q i fs v=>if q=id then qHr (w'.cell? ⟨b,off+(i * ob.sz+(match ob.xs[i]? with|some x=>zB1 x fs|none=>0)),none⟩) else h.pc q i fs v }
 have hle:h.Le u H:=⟨fun o ho=>by simp[H,hne o ho],fun o ho=>by funext i fs;simp[H,hne o ho],fun o ho=>by simp[H,hne o ho],fun o ho i fs v _=>by simp[H,hne o ho],fun o ho i fs v _=>by simp[H,hne o ho]⟩;have hmu:∀q∈V.mentionL ob.xs,u q:=zAs fun x hx=>(hmen x hx).2
 have hself:∀b',sh b'->w'.heap[b']? = w.heap[b']?:=fun b' hb'=>hoth b' (S.shr b' hb').1 (fun e=>hb.2.2.1 (e ▸ hb'))
 have g:Goes u h sh w' H sh w':=⟨hle,fun b' hb'=>⟨hb',rfl⟩⟩;have hX':RelX H sh w' ob.sz ob.xs ds fps:=RelX.keep g hX hmu (fun _ _=>rfl);refine⟨H,fun q=>if q=id then b::fps else fp q,?_,hle,by simp[H],fun i x fs hx=>by simp[H,hx],fun q hq=>if_neg hq,if_pos rfl⟩;have hfpne:∀q,u q->(if q=id then b::fps else fp q)=fp q:=fun q hq=>if_neg (hne q hq)
 have hob:∀o ob',zO (s.new id ob).obs o=some ob'->(o=id/\ob'=ob)\/(o≠id/\zO s.obs o=some ob'):=by
  intro o ob' ho
  by_cases e:o=id
  ·subst e
   simp only[St.new,qG,Option.some.injEq] at ho;exact .inl ⟨rfl,ho.symm⟩
  ·simp only[St.new,zT e] at ho
   exact .inr ⟨e,ho⟩
 refine S.step (u':=fun o=>u o\/o=id) (h':=H) (fun o ho=>.inl ho) hle rfl hsz ?_ (fun b' hb'=>⟨hb',hself b' hb'⟩) ?_ ?_ ?_
 ·intro b' hb' hn
  have:b'<w.heap.size:=Nat.lt_of_lt_of_le hb' S.size.sz
  exact hoth b' this (fun e=>hn (e ▸ hb.2.1 (e ▸ hb')))
 ·intro b' hb'
  refine⟨Nat.lt_of_lt_of_le (S.shr b' hb').1 hsz.sz,fun o ob' ho=>?_⟩;rcases hob o ob' ho with⟨rfl,rfl⟩|⟨hne',ho⟩
  ·simp only[if_true,List.mem_cons,not_or]
   exact⟨fun e=>hb.2.2.1 (e ▸ hb'),fun e=>(hf.ok b' e).2.2.1 hb'⟩
  ·rw[if_neg hne']
   exact(S.shr b' hb').2 o ob' ho
 ·intro o ob' ho
  rcases hob o ob' ho with⟨rfl,rfl⟩|⟨hne',ho⟩
  ·refine .inr ⟨.inr rfl,?_,?_,?_⟩
   ·refine⟨by simp[H],fun x hx=>⟨(hmen x hx).1,fun q hq=>.inl ((hmen x hx).2 q hq)⟩,?_,?_,?_,fun hb hx b1 off1 c1 z1 hd=>by
     simp only[H,if_true,Option.some.injEq,Prod.mk.injEq] at hd
     rw[<-hd.2.2.1];exact hone hb hx⟩
    ·simp only[H,if_true]
     exact⟨trivial,hlen,hrow,ds,fps,rfl,hat,hX'⟩
    ·intro i x fs y hx hg
     simp[H,hx]
    ·intro b1 off1 c1 z1 hd i fs sz xs hg
     simp only[H,if_true,Option.some.injEq,Prod.mk.injEq] at hd;obtain⟨rfl,rfl,rfl,rfl⟩:=hd;unfold Ob.get at hg;cases hx:ob'.xs[i]? with
     | none=>rw[hx] at hg;cases hg
     | some x =>
      rw[hx] at hg;simp only at hg;obtain⟨a,c',hc⟩:=zDh (u:=u) hX' hat hmu hx hg;simp only[H,if_true,hx,hc,qHe,qHr]
   ·simp only[if_true]
    exact List.nodup_cons.2 ⟨hbf,hf.nd⟩
   ·simp only[if_true]
    intro b' hb';rcases List.mem_cons.1 hb' with rfl|hb'
    ·exact⟨hb.1,hb.2.1⟩
    ·exact⟨Nat.lt_of_lt_of_le (hf.ok b' hb').1 hsz.sz,(hf.ok b' hb').2.1⟩
  ·have hu:=(S.obs o ob' ho).1
   refine .inl ⟨ho,if_neg hne',by simp[H,hne'],fun b' hb'=>hoth b' ((S.own o ob' ho).2 b' hb').1 (fun e=>hb.2.2.2 o ob' ho (e ▸ hb'))⟩
 ·intro o o' ob1 ob2 h1 h2 hoo b' hb'
  rcases hob o ob1 h1 with⟨rfl,rfl⟩|⟨n1,g1⟩
  ·rcases hob o' ob2 h2 with⟨rfl,rfl⟩|⟨n2,g2⟩
   ·exact absurd rfl hoo
   ·simp only[if_true] at hb'
    rw[if_neg n2];rcases List.mem_cons.1 hb' with rfl|hb'
    ·exact hb.2.2.2 o' ob2 g2
    ·exact(hf.ok b' hb').2.2.2 o' ob2 g2
  ·rw[if_neg n1] at hb'
   rcases hob o' ob2 h2 with⟨rfl,rfl⟩|⟨n2,g2⟩
   ·simp only[if_true,List.mem_cons,not_or]
    exact⟨fun e=>hb.2.2.2 o ob1 g1 (e ▸ hb'),fun e=>(hf.ok b' e).2.2.2 o ob1 g1 hb'⟩
   ·rw[if_neg n2]
    exact S.apart o o' ob1 ob2 g1 g2 hoo b' hb'
theorem Sim.newOb (S:Sim w0 fa sh u h fp s tm w) {id:Nat} (hid:¬u id) {w':World} {b off c:Nat} {ob:Ob}
  (hsz:Grew w w') (hoth:∀b',b'<w.heap.size->b'≠b->w'.heap[b']? = w.heap[b']?)
  (hb:b<w'.heap.size/\(b<w0.heap.size->b∈fa)/\¬sh b/\∀o ob,zO s.obs o=some ob->b ∉ fp o)
  (hrow:Row w' b (off+c * ob.sz)) (hlen:ob.xs.length<=c) {ds:List Value} {fps:List Nat} (hX:RelX h sh w' ob.sz ob.xs ds fps) (hat:At w' b off ds)
  (hmen:∀x∈ob.xs,(ob.bx=false->x.mention=[])/\∀q∈x.mention,u q) (hbf:b ∉ fps) (hf:Loose w0 fa sh s.obs fp w fps) (hone:ob.bx=true->ob.fx=false->c=1:=by simp) :
  ∃h' fp',Sim w0 fa sh (fun o=>u o\/o=id) h' fp' (s.new id ob) tm w'/\h.Le u h'/\h'.hd id=some (b,off,c,ob.sz)/\∀i x fs,ob.xs[i]? = some x->h'.ofs id i fs=i * ob.sz+zB1 x fs :=
 let ⟨h',fp',a,b,c,d,_⟩:=S.newObF hid hsz hoth hb hrow hlen hX hat hmen hbf hf hone
 ⟨h',fp',a,b,c,d⟩
theorem Sim.setOb' (S:Sim w0 fa sh u h fp s tm w) {sh':Nat->Prop} {o:Nat} {ob ob':Ob} (ho:zO s.obs o=some ob) {b off c z:Nat} (hd:h.hd o=some (b,off,c,z)) {w':World}
  (hoth:∀b',b'≠b->w'.heap[b']? = w.heap[b']?) (hsz:w'.heap.size=w.heap.size) (hos:w'.os=w.os) (hout:w'.output=w.output) (hrow:Row w' b (off+c * z))
  (hz:z=ob'.sz) (hlen:ob'.xs.length<=c) {ds:List Value} {fps:List Nat} (hX:RelX h sh' w' z ob'.xs ds fps) (hat:At w' b off ds)
  (hmen:∀x∈ob'.xs,(ob'.bx=false->x.mention=[])/\∀q∈x.mention,u q)
  (hofs:∀i x fs y,ob'.xs[i]? = some x->kS x fs=some y->h.ofs o i fs=i * z+zB1 x fs)
  (hver:ob'.ver=ob.ver+1\/ob'.ver=ob.ver/\∀i fs sz xs,ob'.get i fs=some (.lst true sz xs)->ob.get i fs=some (.lst true sz xs)/\w'.cell? ⟨b,off+h.ofs o i fs,none⟩=w.cell? ⟨b,off+h.ofs o i fs,none⟩)
  (hss:∀b',sh b'->sh' b') (hsn:∀b',sh' b'->sh b'\/b'∈fp o/\b'≠b/\b' ∉ fps) (hbx:ob'.bx=ob.bx) (hbf:b ∉ fps) (hnd:fps.Nodup) (hf:∀b'∈fps,b'<w.heap.size/\(b'<w0.heap.size->b'∈fa)/\¬sh b'/\∀o' ob',o'≠o->zO s.obs o'=some ob'->b' ∉ fp o') (hfx:ob'.fx=ob.fx:=by rfl) :
  ∃h' fp',Sim w0 fa sh' u h' fp' { s with obs:=xC s.obs o ob' } tm w'/\h.Le u h'/\(∀q,q≠o->fp' q=fp q)/\fp' o=b::fps/\∀q,q≠o->h'.vr q=h.vr q:=by
 obtain⟨huo,R⟩:=S.obs o ob ho
 have hb0:b∈fp o:=by
  have hr:=R.row;rw[hd] at hr;obtain⟨_,_,_,_,_,e,_⟩:=hr;rw[e];exact List.mem_cons_self ..
 have hbsh:¬sh b:=fun hs=>(S.shr b hs).2 o ob ho hb0
 have hmu:∀q∈V.mentionL ob'.xs,u q:=zAs fun x hx=>(hmen x hx).2
 let H:Hs:={ h with
         vr:=fun q=>if q=o then ob'.ver else h.vr q
         pa:=fun q i fs v=>if q=o/\v=ob.ver+1 then qHe (w'.cell? ⟨b,off+h.ofs o i fs,none⟩) else h.pa q i fs v
         pc:=fun q i fs v=>if q=o/\v=ob.ver+1 then qHr (w'.cell? ⟨b,off+h.ofs o i fs,none⟩) else h.pc q i fs v }
 have hvle:ob.ver<=ob'.ver:=by rcases hver with e|e<;>omega
 have hle:h.Le u H:=by
  refine⟨fun q hq=>rfl,fun q hq=>rfl,fun q hq=>?_,fun q hq i fs v hv=>?_,fun q hq i fs v hv=>?_⟩
  ·by_cases e:q=o
   ·subst e;simp only[H,if_true];rw[R.ver];exact hvle
   ·simp[H,e]
  ·by_cases e:q=o
   ·subst e;rw[R.ver] at hv
    simp only[H];rw[if_neg (by omega)]
   ·simp[H,e]
  ·by_cases e:q=o
   ·subst e;rw[R.ver] at hv
    simp only[H];rw[if_neg (by omega)]
   ·simp[H,e]
 have hX':RelX H sh' w' z ob'.xs ds fps:=RelX.keep ⟨hle,fun b' hb'=>⟨hb',rfl⟩⟩ hX hmu (fun _ _=>rfl);refine⟨H,fun q=>if q=o then b::fps else fp q,?_,hle,fun q hq=>if_neg hq,if_pos rfl,fun q hq=>by simp[H,hq]⟩
 have hob:∀q ob1,zO (xC s.obs o ob') q=some ob1->(q=o/\ob1=ob')\/(q≠o/\zO s.obs q=some ob1):=by
  intro q ob1 hq
  by_cases e:q=o
  ·subst e
   simp only[qG,Option.some.injEq] at hq;exact .inl ⟨rfl,hq.symm⟩
  ·simp only[zT e] at hq
   exact .inr ⟨e,hq⟩
 have hown:∀b'∈fp o,∀q ob1,q≠o->zO s.obs q=some ob1->b' ∉ fp q:=fun b' hb' q ob1 hq h1=>S.apart o q ob ob1 ho h1 (Ne.symm hq) b' hb'
 refine S.step (u':=u) (h':=H) (fun o ho=>ho) hle rfl (⟨Nat.le_of_eq hsz.symm,hos,hout⟩) ?_ (fun b' hb'=>⟨hss b' hb',hoth b' (fun e=>hbsh (e ▸ hb'))⟩) ?_ ?_ ?_
 ·intro b' hb' hn
  exact hoth b' (fun e=>hn (((S.own o ob ho).2 b' (e ▸ hb0)).2 hb'))
 ·intro b' hb'
  have hlt:b'<w.heap.size:=by
   rcases hsn b' hb' with hs|⟨hs,_⟩
   ·exact(S.shr b' hs).1
   ·exact((S.own o ob ho).2 b' hs).1
  refine⟨hsz ▸ hlt,fun q ob1 hq=>?_⟩;rcases hob q ob1 hq with⟨rfl,rfl⟩|⟨hne,hq⟩
  ·simp only[if_true,List.mem_cons,not_or]
   rcases hsn b' hb' with hs|⟨_,hs1,hs2⟩
   ·exact⟨fun e=>hbsh (e ▸ hs),fun e=>(hf b' e).2.2.1 hs⟩
   ·exact⟨hs1,hs2⟩
  ·rw[if_neg hne]
   rcases hsn b' hb' with hs|⟨hs,_⟩
   ·exact(S.shr b' hs).2 q ob1 hq
   ·exact hown b' hs q ob1 hne hq
 ·intro q ob1 hq
  rcases hob q ob1 hq with⟨rfl,rfl⟩|⟨hne,hq⟩
  ·refine .inr ⟨huo,?_,?_,?_⟩
   ·refine⟨by simp[H],hmen,?_,?_,?_,fun hb hx b1 off1 c1 z1 hd1=>R.one (hbx ▸ hb) (hfx ▸ hx) b1 off1 c1 z1 hd1⟩
    ·simp only[H,hd,if_true]
     exact⟨hz,hlen,hrow,ds,fps,rfl,hat,hX'⟩
    ·intro i x fs y hx hg
     rw[<-hz];exact hofs i x fs y hx hg
    ·intro b1 off1 c1 z1 hd1 i fs sz xs hg
     have hd2:h.hd q=some (b1,off1,c1,z1):=hd1;rw[hd] at hd2;simp only[Option.some.injEq,Prod.mk.injEq] at hd2;obtain⟨rfl,rfl,rfl,rfl⟩:=hd2;rcases hver with e|⟨e,hsame⟩
     ·have hg0:=hg
      unfold Ob.get at hg;cases hx:ob1.xs[i]? with
      | none=>rw[hx] at hg;cases hg
      | some x =>
       rw[hx] at hg;simp only at hg;obtain⟨a,c',hc⟩:=zDh (u:=u) hX' hat hmu hx hg;rw[<-hofs i x fs _ hx hg] at hc;simp only[H,e,and_self,if_true,hc,qHe,qHr]
     ·obtain⟨hg1,hc1⟩:=hsame i fs sz xs hg
      have:=R.pl b off c z hd i fs sz xs hg1
      simp only[H,e];rw[if_neg (by omega),if_neg (by omega)];rw[show({ h with vr:=_,pa:=_,pc:=_ }:Hs).ofs=h.ofs from rfl,hc1,this]
   ·simp only[if_true]
    exact List.nodup_cons.2 ⟨hbf,hnd⟩
   ·simp only[if_true]
    intro b' hb';rw[hsz];rcases List.mem_cons.1 hb' with rfl|hb'
    ·exact(S.own q ob ho).2 b' hb0
    ·exact⟨(hf b' hb').1,(hf b' hb').2.1⟩
  ·refine .inl ⟨hq,if_neg hne,by simp[H,hne],fun b' hb'=>hoth b' (fun e=>hown b hb0 q ob1 hne hq (e ▸ hb'))⟩
 ·intro q q' ob1 ob2 h1 h2 hqq b' hb'
  rcases hob q ob1 h1 with⟨rfl,rfl⟩|⟨n1,g1⟩
  ·rcases hob q' ob2 h2 with⟨rfl,rfl⟩|⟨n2,g2⟩
   ·exact absurd rfl hqq
   ·simp only[if_true] at hb'
    rw[if_neg n2];rcases List.mem_cons.1 hb' with rfl|hb'
    ·exact hown b' hb0 q' ob2 n2 g2
    ·exact(hf b' hb').2.2.2 q' ob2 n2 g2
  ·rw[if_neg n1] at hb'
   rcases hob q' ob2 h2 with⟨rfl,rfl⟩|⟨n2,g2⟩
   ·simp only[if_true,List.mem_cons,not_or]
    exact⟨fun e=>hown b hb0 q ob1 n1 g1 (e ▸ hb'),fun e=>(hf b' e).2.2.2 q ob1 n1 g1 hb'⟩
   ·rw[if_neg n2]
    exact S.apart q q' ob1 ob2 g1 g2 hqq b' hb'
theorem Sim.setOb (S:Sim w0 fa sh u h fp s tm w) {o:Nat} {ob ob':Ob} (ho:zO s.obs o=some ob) {b off c z:Nat} (hd:h.hd o=some (b,off,c,z)) {w':World}
  (hoth:∀b',b'≠b->w'.heap[b']? = w.heap[b']?) (hsz:w'.heap.size=w.heap.size) (hos:w'.os=w.os) (hout:w'.output=w.output) (hrow:Row w' b (off+c * z))
  (hz:z=ob'.sz) (hlen:ob'.xs.length<=c) {ds:List Value} {fps:List Nat} (hX:RelX h sh w' z ob'.xs ds fps) (hat:At w' b off ds)
  (hmen:∀x∈ob'.xs,(ob'.bx=false->x.mention=[])/\∀q∈x.mention,u q)
  (hofs:∀i x fs y,ob'.xs[i]? = some x->kS x fs=some y->h.ofs o i fs=i * z+zB1 x fs)
  (hver:ob'.ver=ob.ver+1\/ob'.ver=ob.ver/\∀i fs sz xs,ob'.get i fs=some (.lst true sz xs)->ob.get i fs=some (.lst true sz xs)/\w'.cell? ⟨b,off+h.ofs o i fs,none⟩=w.cell? ⟨b,off+h.ofs o i fs,none⟩)
  (hbx:ob'.bx=ob.bx) (hbf:b ∉ fps) (hnd:fps.Nodup) (hf:∀b'∈fps,b'<w.heap.size/\(b'<w0.heap.size->b'∈fa)/\¬sh b'/\∀o' ob',o'≠o->zO s.obs o'=some ob'->b' ∉ fp o') (hfx:ob'.fx=ob.fx:=by rfl) :
  ∃h' fp',Sim w0 fa sh u h' fp' { s with obs:=xC s.obs o ob' } tm w'/\h.Le u h'/\(∀q,q≠o->fp' q=fp q)/\fp' o=b::fps/\∀q,q≠o->h'.vr q=h.vr q :=
 S.setOb' ho hd hoth hsz hos hout hrow hz hlen hX hat hmen hofs hver (fun _ hb=>hb) (fun _ hb=>.inl hb) hbx hbf hnd hf hfx
theorem Sim.delOb (S:Sim w0 fa sh u h fp s tm w) (o:Nat):Sim w0 fa sh u h fp { s with obs:=kT s.obs o } tm w:=by
 have hob:∀q ob1,zO (kT s.obs o) q=some ob1->q≠o/\zO s.obs q=some ob1:=by
  intro q ob1 hq
  by_cases e:q=o
  ·subst e;rw[qS] at hq;cases hq
  ·rw[qT e] at hq;exact⟨e,hq⟩
 refine S.step (u':=u) (h':=h) (fun _ h=>h) (Hs.Le.refl u h) rfl (Grew.refl _) (fun _ _ _=>rfl) (fun b hb=>⟨hb,rfl⟩) (fun b hb=>⟨(S.shr b hb).1,fun q ob1 hq=>(S.shr b hb).2 q ob1 (hob q ob1 hq).2⟩) ?_ ?_
 ·intro q ob1 hq
  exact .inl ⟨(hob q ob1 hq).2,rfl,rfl,fun _ _=>rfl⟩
 ·intro q q' o1 o2 h1 h2 hqq
  exact S.apart q q' o1 o2 (hob q o1 h1).2 (hob q' o2 h2).2 hqq
end
end Go.Proofs.YtbcgenkegnmkhaaGreat.Ev
namespace Go.Proofs.YtbcgenkegnmkhaaGreat.Ev
open Go
set_option linter.unusedSectionVars false
set_option linter.unusedSimpArgs false
mutual
theorem vM:∀(x:V),x.alike x=true
 | .agg xs=>by simp only[V.alike,V.aggOf];exact vS xs
 | .int ..=>rfl
 | .bool _=>rfl
 | .str _=>rfl
 | .lst ..=>rfl
 | .emp _=>rfl
 | .tup _=>rfl
 | .ref ..=>rfl
 | .plc ..=>rfl
 | .ptr ..=>rfl
 | .vptr _=>rfl
 | .clo ..=>rfl
 | .iol ..=>rfl
 | .iop _=>rfl
 | .und=>rfl
theorem vS:∀(xs:List V),V.alikeL xs xs=true
 | []=>rfl
 | x::r=>by simp only[V.alikeL,vM x,vS r,Bool.and_self]
end
theorem zCd {xs:List V} {y:V} (e:(V.agg xs).alike y=true):∃ys,y = .agg ys/\V.alikeL xs ys=true:=by
 simp only[V.alike] at e;cases hy:y.aggOf with
 | none=>rw[hy] at e;cases e
 | some ys=>rw[hy] at e;exact⟨ys,yJ hy,e⟩
theorem vU:∀{xs ys:List V} {i:Nat} {y:V},V.alikeL xs ys=true->ys[i]? = some y->∃x,xs[i]? = some x/\x.alike y=true/\zC9 xs i=zC9 ys i
 | [],ys,i,y,e,hy=>by simp only[V.alikeL,List.isEmpty_iff] at e;subst e;simp at hy
 | x::r,[],i,y,e,hy=>by simp at hy
 | x::r,z::q,0,y,e,hy=>by
  simp only[V.alikeL,Bool.and_eq_true] at e;simp only[List.getElem?_cons_zero,Option.some.injEq] at hy;subst hy;exact⟨x,rfl,e.1,rfl⟩
 | x::r,z::q,i+1,y,e,hy=>by
  simp only[V.alikeL,Bool.and_eq_true] at e;simp only[List.getElem?_cons_succ] at hy;obtain⟨x',h1,h2,h3⟩:=vU e.2 hy;exact⟨x',by simpa using h1,h2,by simp only[zC9,h3,qK e.1]⟩
theorem zDd:∀{gs:List Nat} {x x' y:V},x.alike x'=true->kS x' gs=some y->∃y0,kS x gs=some y0/\zB1 x gs=zB1 x' gs/\y0.alike y=true
 | [],x,x',y,e,hg=>by
  simp only[kS,Option.some.injEq] at hg;subst hg;exact⟨x,by simp[kS],by simp[zB1],e⟩
 | i::p,x,x',y,e,hg=>by
  cases x' with
  | agg ys =>
   cases x with
   | agg xs =>
    obtain⟨ys',h1,h2⟩:=zCd e;simp only[V.agg.injEq] at h1;subst h1;simp only[kS] at hg;cases hy:ys[i]? with
    | none=>rw[hy] at hg;cases hg
    | some y1 =>
     rw[hy] at hg;simp only at hg;obtain⟨x1,g1,g2,g3⟩:=vU h2 hy;obtain⟨y0,k1,k2,k3⟩:=zDd g2 hg;exact⟨y0,by simp only[kS,g1,k1],by simp only[zB1,g1,hy,g3,k2],k3⟩
   | _=>simp[V.alike,V.aggOf] at e
  | _=>simp[kS] at hg
theorem xL:∀{xs:List V} {i:Nat} {x y:V},xs[i]? = some x->x.alike y=true->V.alikeL xs (xs.set i y)=true
 | [],i,x,y,h,e=>by simp at h
 | z::r,0,x,y,h,e=>by
  simp only[List.getElem?_cons_zero,Option.some.injEq] at h;subst h;simp only[List.set_cons_zero,V.alikeL,e,vS,Bool.and_self]
 | z::r,i+1,x,y,h,e=>by
  simp only[List.getElem?_cons_succ] at h;simp only[List.set_cons_succ,V.alikeL,vM,xL h e,Bool.and_self]
theorem zMx:∀{fs:List Nat} {x old t x':V},kS x fs=some old->old.alike t=true->zCv x fs t=some x'->x.alike x'=true
 | [],x,old,t,x',hg,e,hs=>by
  simp only[kS,Option.some.injEq] at hg;simp only[zCv,Option.some.injEq] at hs;subst hg;subst hs;exact e
 | i::p,x,old,t,x',hg,e,hs=>by
  cases x with
  | agg xs =>
   simp only[kS] at hg;simp only[zCv] at hs;cases hx:xs[i]? with
   | none=>rw[hx] at hg;cases hg
   | some y =>
    rw[hx] at hg hs;simp only at hg hs;cases hy:zCv y p t with
    | none=>rw[hy] at hs;cases hs
    | some y' =>
     rw[hy] at hs;simp only[zJ,Option.some.injEq] at hs;subst hs;simp only[V.alike,V.aggOf];exact xL hx (zMx hg e hy)
  | _=>simp[kS] at hg
theorem zFl:∀{fs gs:List Nat} {x x' t y:V},zCv x fs t=some x'->kS x' gs=some y->y.aggOf=none->(∃hs,gs=fs++hs/\kS t hs=some y)\/kS x gs=some y
 | [],gs,x,x',t,y,hs,hg,hy=>by
  simp only[zCv,Option.some.injEq] at hs;subst hs;exact .inl ⟨gs,rfl,hg⟩
 | i::p,gs,x,x',t,y,hs,hg,hy=>by
  cases x with
  | agg xs =>
   simp only[zCv] at hs;cases hx:xs[i]? with
   | none=>rw[hx] at hs;cases hs
   | some z =>
    rw[hx] at hs;simp only at hs;cases hz:zCv z p t with
    | none=>rw[hz] at hs;cases hs
    | some z' =>
     rw[hz] at hs;simp only[zJ,Option.some.injEq] at hs;subst hs;cases gs with
     | nil=>simp only[kS,Option.some.injEq] at hg;subst hg;cases hy
     | cons j q =>
      simp only[kS] at hg ⊢
      by_cases hij:i=j
      ·subst hij
       have hlt:i<xs.length:=(List.getElem?_eq_some_iff.1 hx).1;rw[List.getElem?_set_self hlt] at hg;simp only at hg;rcases zFl hz hg hy with⟨hs,e,k⟩|k
       ·exact .inl ⟨hs,by rw[e];rfl,k⟩
       ·exact .inr (by rw[hx];exact k)
      ·rw[List.getElem?_set_ne hij] at hg
       exact .inr hg
  | _=>simp[zCv] at hs
theorem zEx {xs:List V} {i:Nat} {y:V} {q:Nat} (h:q∈V.mentionL (xs.set i y)):q∈V.mentionL xs\/q∈y.mention:=by
 obtain⟨x,hx,hq⟩:=mem_mentionL.1 h;rcases List.mem_or_eq_of_mem_set hx with hx|rfl
 ·exact .inl (mem_mentionL.2 ⟨x,hx,hq⟩)
 ·exact .inr hq
theorem zBh:∀{fs:List Nat} {x t x':V} {q:Nat},zCv x fs t=some x'->q∈x'.mention->q∈x.mention\/q∈t.mention
 | [],x,t,x',q,hs,hq=>by
  simp only[zCv,Option.some.injEq] at hs;subst hs;exact .inr hq
 | i::p,x,t,x',q,hs,hq=>by
  cases x with
  | agg xs =>
   simp only[zCv] at hs;cases hx:xs[i]? with
   | none=>rw[hx] at hs;cases hs
   | some z =>
    rw[hx] at hs;simp only at hs;cases hz:zCv z p t with
    | none=>rw[hz] at hs;cases hs
    | some z' =>
     rw[hz] at hs;simp only[zJ,Option.some.injEq] at hs;subst hs;simp only[V.mention] at hq ⊢;rcases zEx hq with h|h
     ·exact .inl h
     ·rcases zBh hz h with h|h
      ·exact .inl (mem_mentionL.2 ⟨z,List.mem_of_getElem? hx,h⟩)
      ·exact .inr h
  | _=>simp[zCv] at hs
theorem zLn {ob ob':Ob} {i:Nat} {fs:List Nat} {old t:V} (hg:ob.get i fs=some old) (ha:old.alike t=true) (hs:ob.set i fs t=some ob') :
  ∃x x',ob.xs[i]? = some x/\kS x fs=some old/\zCv x fs t=some x'/\x.alike x'=true/\ob'={ ob with xs:=ob.xs.set i x' }:=by
 unfold Ob.get at hg;unfold Ob.set at hs;cases hx:ob.xs[i]? with
 | none=>rw[hx] at hg;cases hg
 | some x =>
  rw[hx] at hg hs;simp only at hg hs;cases hy:zCv x fs t with
  | none=>rw[hy] at hs;cases hs
  | some x' =>
   rw[hy] at hs;simp only[zJ,Option.some.injEq] at hs;exact⟨x,x',rfl,hg,hy,zMx hg ha hy,hs.symm⟩
mutual
theorem zNk:∀(x:V),x.alike x.share=true
 | .agg xs=>by simp only[V.share,V.alike,V.aggOf];exact zA0 xs
 | .int ..=>rfl
 | .bool _=>rfl
 | .str _=>rfl
 | .lst ..=>rfl
 | .emp _=>rfl
 | .tup _=>rfl
 | .ref ..=>rfl
 | .plc ..=>rfl
 | .ptr ..=>rfl
 | .vptr _=>rfl
 | .clo ..=>rfl
 | .iol ..=>rfl
 | .iop _=>rfl
 | .und=>rfl
theorem zA0:∀(xs:List V),V.alikeL xs (V.shareL xs)=true
 | []=>rfl
 | x::r=>by simp only[V.shareL,V.alikeL,zNk x,zA0 r,Bool.and_self]
end
mutual
theorem xD:∀(x:V),x.share.mention=x.mention
 | .agg xs=>by simp only[V.share,V.mention];exact yU xs
 | .int ..=>rfl
 | .bool _=>rfl
 | .str _=>rfl
 | .lst ..=>rfl
 | .emp _=>rfl
 | .tup _=>rfl
 | .ref ..=>rfl
 | .plc ..=>rfl
 | .ptr ..=>rfl
 | .vptr _=>rfl
 | .clo ..=>rfl
 | .iol ..=>rfl
 | .iop _=>rfl
 | .und=>rfl
theorem yU:∀(xs:List V),V.mentionL (V.shareL xs)=V.mentionL xs
 | []=>rfl
 | x::r=>by simp only[V.shareL,V.mentionL,xD x,yU r]
end
theorem jB:∀(xs:List V),V.shareL xs=xs.map V.share
 | []=>rfl
 | x::r=>by simp only[V.shareL,List.map_cons,jB r]
section
variable {h : Hs} {sh sh' : Nat->Prop} {w : World} (hs : ∀ b,sh b->sh' b)
include hs
theorem Rel.wide {v:V} {cs:List Value} {f:List Nat} (r:Rel h sh w v cs f):Rel h sh' w v cs f :=
 Rel.keep (u:=fun _=>True) (Hs.Le.refl _ h) (fun b hb=>⟨hs b hb,rfl⟩) r (fun _ _=>trivial) (fun _ _=>rfl)
mutual
theorem jH:∀{x:V} {cs:List Value} {f:List Nat},Rel h sh w x cs f->(∀b∈f,sh' b)->Rel h sh' w x.share cs []
 | .lst own sz xs,cs,f,r,hf=>by
  cases own
  ·simp only[V.share,Rel,Bool.false_eq_true,if_false] at r ⊢
   obtain⟨e0,a,c,e,hc,r⟩:=r;refine⟨trivial,a,c,by rw[e,jB,List.length_map],by rw[jB,List.length_map];exact hc,?_⟩;rcases r with⟨r,r0⟩|⟨b,off,z,ds,ea,hb,hat,hr⟩
   ·subst r;exact .inl ⟨rfl,r0⟩
   ·exact .inr ⟨b,off,z,ds,ea,hs b hb,hat,xK hr (fun b hb=>by cases hb)⟩
  ·simp only[V.share,Rel,if_true,Bool.false_eq_true,if_false] at r ⊢
   rcases r with⟨rfl,_,e⟩|⟨b,off,c,ds,fps,e,ef,hc,hrow,hat,hr⟩
   ·exact⟨trivial,none,0,e,Nat.le_refl _,.inl ⟨rfl,fun _=>rfl⟩⟩
   ·subst ef
    refine⟨trivial,_,c,by rw[e,jB,List.length_map],by rw[jB,List.length_map];exact hc,.inr ⟨b,off,sz,ds,rfl,hf b (List.mem_cons_self ..),hat,xK hr (fun b hb=>hf b (List.mem_cons_of_mem _ hb))⟩⟩
 | .agg xs,cs,f,r,hf=>by
  simp only[V.share,Rel] at r ⊢;exact zEt r hf
 | .int ..,cs,f,r,hf=>by simp only[V.share,Rel] at r ⊢;exact⟨r.1,trivial⟩
 | .bool _,cs,f,r,hf=>by simp only[V.share,Rel] at r ⊢;exact⟨r.1,trivial⟩
 | .str _,cs,f,r,hf=>by simp only[V.share,Rel] at r ⊢;exact⟨r.1,trivial⟩
 | .emp _,cs,f,r,hf=>by simp only[V.share,Rel] at r ⊢;exact⟨trivial,r.2⟩
 | .ref ..,cs,f,r,hf=>by simp only[V.share,Rel] at r ⊢;exact⟨trivial,r.2⟩
 | .plc ..,cs,f,r,hf=>by simp only[V.share,Rel] at r ⊢;exact⟨trivial,r.2⟩
 | .ptr ..,cs,f,r,hf=>by simp only[V.share,Rel] at r ⊢;exact⟨trivial,r.2⟩
 | .vptr x,cs,f,r,hf=>by
  have:=Rel.wide hs r
  simp only[V.share,Rel] at this ⊢;exact⟨trivial,this.2⟩
 | .clo g cap,cs,f,r,hf=>by
  have:=Rel.wide hs r
  simp only[V.share,Rel] at this ⊢;exact⟨trivial,this.2⟩
 | .und,cs,f,r,hf=>by simp only[V.share,Rel] at r ⊢;exact⟨trivial,r.2⟩
 | .tup _,cs,f,r,hf=>by simp only[Rel] at r
 | .iol ..,cs,f,r,hf=>by simp only[Rel] at r
 | .iop _,cs,f,r,hf=>by simp only[Rel] at r
theorem xK:∀{z:Nat} {xs:List V} {cs:List Value} {f:List Nat},RelL h sh w z xs cs f->(∀b∈f,sh' b)->RelL h sh' w z (V.shareL xs) cs []
 | _,[],cs,f,r,hf=>by simp only[V.shareL,RelL] at r ⊢;exact⟨r.1,trivial⟩
 | z,x::q,cs,f,r,hf=>by
  simp only[V.shareL,RelL] at r ⊢;obtain⟨c1,c2,f1,f2,e,ef,el,hm,r1,r2⟩:=r;subst ef;exact⟨c1,c2,[],[],e,rfl,el,by rw[xD];exact hm,jH r1 (fun b hb=>hf b (List.mem_append_left _ hb)),xK r2 (fun b hb=>hf b (List.mem_append_right _ hb))⟩
theorem zEt:∀{xs:List V} {cs:List Value} {f:List Nat},RelA h sh w xs cs f->(∀b∈f,sh' b)->RelA h sh' w (V.shareL xs) cs []
 | [],cs,f,r,hf=>by simp only[V.shareL,RelA] at r ⊢;exact⟨r.1,trivial⟩
 | x::q,cs,f,r,hf=>by
  simp only[V.shareL,RelA] at r ⊢;obtain⟨c1,c2,f1,f2,e,ef,r1,r2⟩:=r;subst ef;exact⟨c1,c2,[],[],e,rfl,jH r1 (fun b hb=>hf b (List.mem_append_left _ hb)),zEt r2 (fun b hb=>hf b (List.mem_append_right _ hb))⟩
end
end
theorem RelL.dropF {h:Hs} {sh:Nat->Prop} {w:World} {z:Nat}:∀{xs:List V} {cs:List Value} {f:List Nat} (n:Nat),RelL h sh w z xs cs f->∃f',RelL h sh w z (xs.drop n) (cs.drop (n * z)) f'/\f'.Sublist f
 | xs,cs,f,0,r=>⟨f,by simpa using r,List.Sublist.refl _⟩
 | [],cs,f,n+1,r=>by
  simp only[RelL] at r;exact⟨[],by simp[RelL,r.1],List.nil_sublist _⟩
 | x::q,cs,f,n+1,r=>by
  simp only[RelL] at r;obtain⟨c1,c2,f1,f2,rfl,rfl,el,hm,r1,r2⟩:=r;obtain⟨f',r',hs⟩:=RelL.dropF n r2;refine⟨f',?_,hs.trans (List.sublist_append_right ..)⟩;rw[List.drop_succ_cons];rw[show(n+1) * z=c1.length+n * z from by rw[Nat.succ_mul,el,Nat.add_comm],<- List.drop_drop,List.drop_left];exact r'
theorem RelL.takeF {h:Hs} {sh:Nat->Prop} {w:World} {z:Nat}:∀{xs:List V} {cs:List Value} {f:List Nat} (n:Nat),RelL h sh w z xs cs f->∃f',RelL h sh w z (xs.take n) (cs.take (n * z)) f'/\f'.Sublist f
 | xs,cs,f,0,r=>⟨[],by simp[RelL],List.nil_sublist _⟩
 | [],cs,f,n+1,r=>by
  simp only[RelL] at r;exact⟨[],by simp[RelL,r.1],List.nil_sublist _⟩
 | x::q,cs,f,n+1,r=>by
  simp only[RelL] at r;obtain⟨c1,c2,f1,f2,rfl,rfl,el,hm,r1,r2⟩:=r;obtain⟨f',r',hs⟩:=RelL.takeF n r2;refine⟨f1++f',?_,List.Sublist.append (List.Sublist.refl _) hs⟩;rw[List.take_succ_cons];rw[show(n+1) * z=c1.length+n * z from by rw[Nat.succ_mul,el,Nat.add_comm]]
  have ht:List.take (c1.length+n * z) (c1++c2)=c1++List.take (n * z) c2:=by
   rw[List.take_append];rw[List.take_of_length_le (by omega)]
   congr 2
   omega
  rw[ht];simp only[RelL];exact⟨c1,_,f1,f',rfl,rfl,el,hm,r1,r'⟩
structure Freed (w0:World) (fa:List Nat) (sh u:Nat->Prop) (h:Hs) (fp:Nat->List Nat) (s:St) (sh':Nat->Prop) (h':Hs) (fp':Nat->List Nat) (s':St) (tm:Array Value) (w:World) (f:List Nat) (k:Nat->Prop):Prop where
 sim:Sim w0 fa sh' u h' fp' s' tm w
 le:h.Le u h'
 shs:∀b,sh b->sh' b
 shn:∀b,sh' b->sh b\/∃o ob,zO s.obs o=some ob/\b∈fp o
 env:s'.env=s.env
 nxt:s'.nxt=s.nxt
 sub:∀o ob',zO s'.obs o=some ob'->∃ob,zO s.obs o=some ob/\∀b∈fp' o,b∈fp o
 src:∀b∈f,∃o ob,zO s.obs o=some ob/\b∈fp o
 loose:Loose w0 fa sh' s'.obs fp' w f
 same:∀o,¬k o->zO s'.obs o=zO s.obs o/\fp' o=fp o
 vrn:∀o,zO s.obs o=none->h'.vr o=h.vr o
section
variable {u : Nat->Prop} {h : Hs} {sh : Nat->Prop} {w w0 : World} {fa : List Nat} {fp : Nat->List Nat} {s : St} {tm : Array Value}
theorem Freed.refl (S:Sim w0 fa sh u h fp s tm w) (k:Nat->Prop):Freed w0 fa sh u h fp s sh h fp s tm w [] k :=
 ⟨S,Hs.Le.refl u h,fun _ h=>h,fun _ h=>.inl h,rfl,rfl,fun o ob ho=>⟨ob,ho,fun _ h=>h⟩,fun _ h=>(by cases h),⟨List.nodup_nil,fun _ h=>(by cases h)⟩,fun _ _=>⟨rfl,rfl⟩,fun _ _=>rfl⟩
theorem Loose.sub {obs:List (Nat×Ob)} {f f':List Nat} (l:Loose w0 fa sh obs fp w f) (h:f'.Sublist f):Loose w0 fa sh obs fp w f' :=
 ⟨h.nodup l.nd,fun b hb=>l.ok b (h.subset hb)⟩
section
variable {sh' : Nat->Prop} {h' : Hs} {fp' : Nat->List Nat} {s' : St} {f f' : List Nat} {k : Nat->Prop}
theorem Freed.less (F:Freed w0 fa sh u h fp s sh' h' fp' s' tm w f k) (hs:f'.Sublist f):Freed w0 fa sh u h fp s sh' h' fp' s' tm w f' k :=
 ⟨F.sim,F.le,F.shs,F.shn,F.env,F.nxt,F.sub,fun b hb=>F.src b (hs.subset hb),F.loose.sub hs,F.same,F.vrn⟩
theorem Freed.mono {k':Nat->Prop} (F:Freed w0 fa sh u h fp s sh' h' fp' s' tm w f k) (hk:∀o,k o->k' o):Freed w0 fa sh u h fp s sh' h' fp' s' tm w f k' :=
 ⟨F.sim,F.le,F.shs,F.shn,F.env,F.nxt,F.sub,F.src,F.loose,fun o ho=>F.same o (fun h=>ho (hk o h)),F.vrn⟩
theorem Freed.goes (F:Freed w0 fa sh u h fp s sh' h' fp' s' tm w f k):Goes u h sh w h' sh' w:=⟨F.le,fun b hb=>⟨F.shs b hb,rfl⟩⟩
theorem Freed.trans {sh2:Nat->Prop} {h2:Hs} {fp2:Nat->List Nat} {s2:St} {f2:List Nat} {k2:Nat->Prop} (F:Freed w0 fa sh u h fp s sh' h' fp' s' tm w f k) (G:Freed w0 fa sh' u h' fp' s' sh2 h2 fp2 s2 tm w f2 k2) :
  Freed w0 fa sh u h fp s sh2 h2 fp2 s2 tm w (f++f2) (fun o=>k o\/k2 o):=by
 have hsrc2:∀b,(∃o ob,zO s'.obs o=some ob/\b∈fp' o)->∃o ob,zO s.obs o=some ob/\b∈fp o:=by
  rintro b ⟨o,ob,ho,hb⟩;obtain⟨ob0,h0,hsub⟩:=F.sub o ob ho;exact⟨o,ob0,h0,hsub b hb⟩
 refine⟨G.sim,F.le.trans G.le (fun _ h=>h),fun b hb=>G.shs b (F.shs b hb),?_,G.env.trans F.env,G.nxt.trans F.nxt,?_,?_,⟨?_,?_⟩,?_,?_⟩
 ·intro b hb
  rcases G.shn b hb with hb|hb
  ·exact F.shn b hb
  ·exact .inr (hsrc2 b hb)
 ·intro o ob ho
  obtain⟨ob1,h1,hs1⟩:=G.sub o ob ho;obtain⟨ob0,h0,hs0⟩:=F.sub o ob1 h1;exact⟨ob0,h0,fun b hb=>hs0 b (hs1 b hb)⟩
 ·intro b hb
  rcases List.mem_append.1 hb with hb|hb
  ·exact F.src b hb
  ·exact hsrc2 b (G.src b hb)
 ·refine List.nodup_append.2 ⟨F.loose.nd,G.loose.nd,fun a ha b hb e=>?_⟩
  subst e;obtain⟨o,ob,ho,hb⟩:=G.src a hb;exact(F.loose.ok a ha).2.2.2 o ob ho hb
 ·intro b hb
  rcases List.mem_append.1 hb with hb|hb
  ·have l:=F.loose.ok b hb
   refine⟨l.1,l.2.1,fun hs=>?_,fun o ob ho hbo=>?_⟩
   ·rcases G.shn b hs with hs|⟨o,ob,ho,hbo⟩
    ·exact l.2.2.1 hs
    ·exact l.2.2.2 o ob ho hbo
   ·obtain⟨ob1,h1,hs1⟩:=G.sub o ob ho
    exact l.2.2.2 o ob1 h1 (hs1 b hbo)
  ·exact G.loose.ok b hb
 ·intro o ho
  have h1:=F.same o (fun h=>ho (.inl h));have h2:=G.same o (fun h=>ho (.inr h));exact⟨h2.1.trans h1.1,h2.2.trans h1.2⟩
 ·intro o ho
  have h1:zO s'.obs o=none:=by
   cases hs:zO s'.obs o with
   | none=>rfl
   | some ob=>obtain⟨ob0,h0,_⟩:=F.sub o ob hs;rw[ho] at h0;cases h0
  exact(G.vrn o h1).trans (F.vrn o ho)
end
theorem Sim.freeOb (S:Sim w0 fa sh u h fp s tm w) {o:Nat} {ob:Ob} (ho:zO s.obs o=some ob) {f:List Nat} (hs:f.Sublist (fp o)) :
  Freed w0 fa sh u h fp s sh h fp { s with obs:=kT s.obs o } tm w f (fun q=>q=o):=by
 have hob:∀q ob1,zO (kT s.obs o) q=some ob1->q≠o/\zO s.obs q=some ob1:=by
  intro q ob1 hq
  by_cases e:q=o
  ·subst e;rw[qS] at hq;cases hq
  ·rw[qT e] at hq;exact⟨e,hq⟩
 refine⟨S.delOb o,Hs.Le.refl u h,fun _ h=>h,fun _ h=>.inl h,rfl,rfl,fun q ob1 hq=>⟨ob1,(hob q ob1 hq).2,fun _ h=>h⟩,fun b hb=>⟨o,ob,ho,hs.subset hb⟩,⟨hs.nodup (S.own o ob ho).1,fun b hb=>?_⟩,fun q hq=>⟨qT hq,rfl⟩,fun _ _=>rfl⟩;have hb:=hs.subset hb;exact⟨((S.own o ob ho).2 b hb).1,((S.own o ob ho).2 b hb).2,fun hsb=>(S.shr b hsb).2 o ob ho hb,fun q ob1 hq=>S.apart o q ob ob1 ho (hob q ob1 hq).2 (Ne.symm (hob q ob1 hq).1) b hb⟩
theorem zBp (S:Sim w0 fa sh u h fp s tm w) {o lo n:Nat} {ob:Ob} (ho:zO s.obs o=some ob) (hbx:ob.bx=false) (hn:lo+n<=ob.xs.length) {cs:List Value} {g:List Nat} (rx:Rel h sh w (.ref o lo n) cs g) :
  ∃f,f.Sublist (fp o)/\Rel h sh w (.lst true ob.sz ((ob.xs.drop lo).take n)) cs f /\
   ((∃c,cs=[.slice none 0 c])/\n=0\/∃b off c ds fps,h.hd o=some (b,off,c,ob.sz)/\cs=[.slice (some ⟨b,off+lo * ob.sz,none⟩) n (c - lo)]/\n<=c - lo/\f=b::fps/\At w b (off+lo * ob.sz) ds/\RelL h sh w ob.sz ((ob.xs.drop lo).take n) ds fps):=by
 have R:=(S.obs o ob ho).2;have hr:=R.row;simp only[Rel] at rx;obtain⟨_,rx⟩:=rx;have hlen:((ob.xs.drop lo).take n).length=n:=by rw[List.length_take,List.length_drop];omega
 split at rx
 ·rename_i hd
  rw[hd] at hr;obtain⟨rfl,rfl,rfl⟩:=rx;refine⟨[],List.nil_sublist _,?_,.inl ⟨⟨_,rfl⟩,rfl⟩⟩;simp only[Rel,if_true];exact .inl ⟨by simp,trivial,trivial⟩
 ·rename_i b off c z hd
  rw[hd] at hr;obtain⟨hz,hlc,hrow,ds,fps,hfp,hat,hX⟩:=hr;subst hz;have hL:RelL h sh w ob.sz ob.xs ds fps:=RelL.iff.2 ⟨hX,fun x hx=>(R.men x hx).1 hbx⟩;obtain⟨f1,hL1,hs1⟩:=hL.dropF lo;obtain⟨f2,hL2,hs2⟩:=hL1.takeF n
  have hat2:At w b (off+lo * ob.sz) ((ds.drop (lo * ob.sz)).take (n * ob.sz)):=by
   refine At.take (At.drop hat ?_);rw[RelL.len hL];exact Nat.mul_le_mul_right _ (by omega)
  refine⟨b::f2,by rw[hfp];exact(hs2.trans hs1).cons_cons b,?_,.inr ⟨b,off,c,_,f2,hd,rx.2,by omega,rfl,hat2,hL2⟩⟩;simp only[Rel,if_true];refine .inr ⟨b,off+lo * ob.sz,c - lo,_,f2,by rw[rx.2,hlen],rfl,by rw[hlen];omega,?_,hat2,hL2⟩
  have:off+lo * ob.sz+(c - lo) * ob.sz=off+c * ob.sz:=by
   rw[Nat.sub_mul]
   have:lo * ob.sz<=c * ob.sz:=Nat.mul_le_mul_right _ (by omega)
   omega
  rw[this];exact hrow
theorem zEf (S:Sim w0 fa sh u h fp s tm w) {o lo n:Nat} {cs:List Value} {g:List Nat} (rx:Rel h sh w (.ref o lo n) cs g) {r:Nat×List V×St} (hg:s.give o lo n=some r) :
  ∃f,Freed w0 fa sh u h fp s sh h fp r.2.2 tm w f (fun q=>q=o)/\Rel h sh w (.lst true r.1 r.2.1) cs f/\V.mentionL r.2.1=[]:=by
 unfold St.give at hg;cases ho:zO s.obs o with
 | none=>rw[ho] at hg;cases hg
 | some ob =>
  rw[ho] at hg;simp only at hg;split at hg
  ·rename_i hc
   cases hg;obtain⟨f,hs,hr,_⟩:=zBp S ho hc.1 hc.2.2 rx;refine⟨f,S.freeOb ho hs,hr,?_⟩;apply List.eq_nil_iff_forall_not_mem.2;intro q hq;obtain⟨x,hx,hq⟩:=mem_mentionL.1 hq;rw[((S.obs o ob ho).2.men x (List.mem_of_mem_drop (List.mem_of_mem_take hx))).1 hc.1] at hq;cases hq
  ·cases hg
theorem zJi {o i:Nat} {fs:List Nat} {ver n:Nat} {r:Nat×List V×Ob} (ha:s.at o i fs ver n=some r):zO s.obs o=some r.2.2/\r.2.2.ver=ver/\r.2.2.get i fs=some (.lst true r.1 r.2.1)/\r.2.1.length=n:=by
 unfold St.at at ha;cases ho:zO s.obs o with
 | none=>rw[ho] at ha;cases ha
 | some ob =>
  rw[ho] at ha;simp only at ha;split at ha
  ·rename_i hv
   split at ha
   ·rename_i sz xs hg
    split at ha
    ·rename_i hn
     cases ha;exact⟨rfl,hv,hg,hn⟩
    ·cases ha
   ·cases ha
  ·cases ha
theorem zOk (S:Sim w0 fa sh u h fp s tm w) {o i:Nat} {fs:List Nat} {ver n:Nat} {ob:Ob} {sz:Nat} {xs:List V} (ho:zO s.obs o=some ob) (hv:ob.ver=ver) (hg:ob.get i fs=some (.lst true sz xs)) (hn:xs.length=n)
  {cs:List Value} {g:List Nat} (rx:Rel h sh w (.plc o i fs ver n) cs g) :
  ∃b off c d0 d2 f0 f1 f2,h.hd o=some (b,off,c,ob.sz)/\ob.xs.length<=c/\Row w b (off+c * ob.sz)/\fp o=b::(f0++(f1++f2))/\At w b off (d0++(cs++d2))/\cs.length=1 /\
   Rel h sh w (.lst true sz xs) cs f1 /\
   ∀h' sh' w',Goes u h sh w h' sh' w'->(∀b∈f0++f2,w'.heap[b]? = w.heap[b]?)->∀t d f ob',Rel h' sh' w' t d f->d.length=1->ob.set i fs t=some ob' ->
    RelX h' sh' w' ob.sz ob'.xs (d0++(d++d2)) (f0++(f++f2)):=by
 obtain⟨b,off,c,z,d0,d1,d2,f0,f1,f2,hd,hz,hlc,hrow,hfp,hat,_,hl0,ry,_,hset⟩:=S.place ho hg;subst hz;have R:=(S.obs o ob ho).2;have hp:=R.pl b off c ob.sz hd i fs sz xs hg;have hl1:=Rel.len ry;simp only[V.cells] at hl1
 obtain⟨c1,rfl⟩:∃c1,d1=[c1]:=by
  cases d1 with
  | nil=>simp at hl1
  | cons c q=>cases q with
   | nil=>exact⟨c,rfl⟩
   | cons e q=>simp at hl1
 have hc1:=(At.append.1 (At.append.1 hat).2).1 0 c1 rfl;rw[Nat.add_zero,hl0,hp] at hc1;simp only[Option.some.injEq] at hc1;simp only[Rel] at rx;have hcs:cs=[c1]:=by rw[rx.2.2,<- hc1,hn,hv]
 subst hcs;exact⟨b,off,c,d0,d2,f0,f1,f2,hd,hlc,hrow,hfp,hat,rfl,ry,fun h' sh' w' g hk t d f ob' rt hd' hs=>hset h' sh' w' g hk t d f ob' rt (by rw[hd'];rfl) hs⟩
theorem zD4 (S:Sim w0 fa sh u h fp s tm w) {o:Nat} {ob ob':Ob} (ho:zO s.obs o=some ob) (ha:V.alikeL ob.xs ob'.xs=true):∀i x fs y,ob'.xs[i]? = some x->kS x fs=some y->h.ofs o i fs=i * ob.sz+zB1 x fs:=by
 intro i x fs y hx hy;obtain⟨x0,h1,h2,_⟩:=vU ha hx;obtain⟨y0,h3,h4,_⟩:=zDd h2 hy;rw[(S.obs o ob ho).2.ofs i x0 fs y0 h1 h3,h4]
theorem zJb (S:Sim w0 fa sh u h fp s tm w) {o:Nat} {ob ob':Ob} (ho:zO s.obs o=some ob) {i:Nat} {x x' t:V} {fs:List Nat} (hx:ob.xs[i]? = some x) (hs:zCv x fs t=some x') (hm:∀q∈t.mention,u q) (hb:ob.bx=false->t.mention=[]) (e:ob'={ ob with xs:=ob.xs.set i x' }) :
  ∀y∈ob'.xs,(ob'.bx=false->y.mention=[])/\∀q∈y.mention,u q:=by
 subst e;intro y hy;have R:=(S.obs o ob ho).2;rcases List.mem_or_eq_of_mem_set hy with hy|rfl
 ·exact R.men y hy
 ·have hx':=R.men x (List.mem_of_getElem? hx)
  refine⟨fun hbx=>?_,fun q hq=>?_⟩
  ·apply List.eq_nil_iff_forall_not_mem.2
   intro q hq;rcases zBh hs hq with h|h
   ·rw[hx'.1 hbx] at h;cases h
   ·rw[hb hbx] at h;cases h
  ·rcases zBh hs hq with h|h
   ·exact hx'.2 q h
   ·exact hm q h
theorem zGe {k:Nat} (hk:k=0\/k=1) (S:Sim w0 fa sh u h fp s tm w) {o i:Nat} {fs:List Nat} {ver n:Nat} {cs:List Value} {g:List Nat} (rx:Rel h sh w (.plc o i fs ver n) cs g) {r:Nat×List V×St} (ht:(match s.at o i fs ver n with|none=>none|some a=>mp (a.2.2.set i fs .und) fun ob'=>(a.1,a.2.1,{ s with obs:=xC s.obs o { ob' with ver:=ver+k } }))=some r) :
  ∃h' fp' f,Freed w0 fa sh u h fp s sh h' fp' r.2.2 tm w f (fun q=>q=o)/\Rel h' sh w (.lst true r.1 r.2.1) cs f/\V.mentionL r.2.1=[]:=by
 cases ha:s.at o i fs ver n with
 | none=>rw[ha] at ht;cases ht
 | some a =>
  rw[ha] at ht;simp only at ht;obtain⟨ho,hv,hg,hn⟩:=zJi ha;cases hso:a.2.2.set i fs .und with
  | none=>rw[hso] at ht;cases ht
  | some ob' =>
   rw[hso] at ht;simp only[zJ,Option.some.injEq] at ht;subst ht;obtain⟨b,off,c,d0,d2,f0,f1,f2,hd,hlc,hrow,hfp,hat,hcl,ry,hset⟩:=zOk S ho hv hg hn rx;obtain⟨x,x',hx,hgx,hsx,hal,hob'⟩:=zLn hg (t:=.und) rfl hso
   obtain⟨c1,rfl⟩:∃c1,cs=[c1]:=by
    cases cs with
    | nil=>simp at hcl
    | cons c q=>cases q with
     | nil=>exact⟨c,rfl⟩
     | cons e q=>simp at hcl
   have hone:zXa c1:=Rel.ones ry rfl;have hX:=hset h sh w (Goes.refl u h sh w) (fun _ _=>rfl) .und [c1] [] ob' (by simp only[Rel];exact⟨trivial,c1,rfl,hone⟩) rfl hso;simp only[List.nil_append] at hX;have hall:V.alikeL a.2.2.xs ob'.xs=true:=by rw[hob'];exact xL hx hal
   obtain⟨hnd,hown⟩:=S.own o _ ho;rw[hfp] at hnd hown;have hnd1:=List.nodup_cons.1 hnd
   have hmem:∀b'∈f0++f2,b'∈f0++(f1++f2):=by
    intro b' hb';rcases List.mem_append.1 hb' with h|h<;>simp[h]
   have hlen:ob'.xs.length=a.2.2.xs.length:=by rw[hob'];simp
   have hver:ver+k=a.2.2.ver+1\/ver+k=a.2.2.ver/\∀i' gs sz xs,Ob.get { ob' with ver:=ver+k } i' gs=some (.lst true sz xs)->a.2.2.get i' gs=some (.lst true sz xs)/\w.cell? ⟨b,off+h.ofs o i' gs,none⟩=w.cell? ⟨b,off+h.ofs o i' gs,none⟩:=by
    rcases hk with rfl|rfl
    ·refine .inr ⟨hv.symm,fun i' gs sz xs hg'=>⟨?_,rfl⟩⟩
     rw[hob'] at hg';unfold Ob.get at hg' ⊢;simp only at hg'
     by_cases e:i=i'
     ·subst e
      have hlt:i<a.2.2.xs.length:=by
       rcases Nat.lt_or_ge i a.2.2.xs.length with hl|hl
       ·exact hl
       ·rw[List.getElem?_eq_none hl] at hx;cases hx
      rw[List.getElem?_set_self hlt] at hg';rw[hx];simp only at hg' ⊢;rcases zFl hsx hg' rfl with⟨hs,_,hh⟩|hh
      ·cases hs<;>simp[kS] at hh
      ·exact hh
     ·rw[List.getElem?_set_ne e] at hg'
      exact hg'
    ·exact .inl (by rw[hv])
   have hsz:ob'.sz=a.2.2.sz:=by rw[hob']
   obtain⟨h',fp',S',hle,hfo,hfs,hvn⟩:=S.setOb (hfx:=by rw[hob']) (ob':={ ob' with ver:=ver+k }) ho hd (fun _ _=>rfl) rfl rfl rfl hrow hsz.symm (by rw[hlen];exact hlc) hX hat
    (zJb S ho (ob':=ob') hx hsx (by intro q hq;cases hq) (fun _=>rfl) hob') (zD4 S ho (ob':=ob') hall) hver (by rw[hob']) (fun h=>hnd1.1 (hmem b h))
    (List.Sublist.nodup (List.Sublist.append (List.Sublist.refl _) (List.sublist_append_right ..)) hnd1.2)
    (fun b' hb'=>by
     have hb2:=hmem b' hb';have hb3:=List.mem_cons_of_mem b hb2
     exact⟨(hown b' hb3).1,(hown b' hb3).2,fun hs=>(S.shr b' hs).2 o _ ho (by rw[hfp];exact hb3),fun q ob1 hq h1=>S.apart o q _ ob1 ho h1 (Ne.symm hq) b' (by rw[hfp];exact hb3)⟩)
   have hobs:∀q ob1,zO (xC s.obs o { ob' with ver:=ver+k }) q=some ob1->q=o\/q≠o/\zO s.obs q=some ob1:=by
    intro q ob1 hq
    by_cases e:q=o
    ·exact .inl e
    ·rw[zT e] at hq;exact .inr ⟨e,hq⟩
   refine⟨h',fp',f1,⟨S',hle,fun _ h=>h,fun _ h=>.inl h,rfl,rfl,?_,?_,⟨?_,?_⟩,?_,fun q hq=>hvn q (fun e=>by rw[e,ho] at hq;cases hq)⟩,Rel.keep hle (fun b hb=>⟨hb,rfl⟩) ry (by intro q hq;cases hq) (fun _ _=>rfl),?_⟩
   ·intro q ob1 hq
    rcases hobs q ob1 hq with rfl|⟨hne,hq⟩
    ·refine⟨_,ho,fun b' hb'=>?_⟩
     rw[hfs] at hb';rw[hfp];rcases List.mem_cons.1 hb' with rfl|hb'
     ·exact List.mem_cons_self ..
     ·exact List.mem_cons_of_mem _ (hmem b' hb')
    ·exact⟨ob1,hq,fun b' hb'=>by rw[hfo q hne] at hb';exact hb'⟩
   ·intro b' hb'
    exact⟨o,_,ho,by rw[hfp];simp[hb']⟩
   ·exact List.Sublist.nodup ((List.sublist_append_left f1 f2).trans (List.sublist_append_right ..)) hnd1.2
   ·intro b' hb'
    have hb3:b'∈b::(f0++(f1++f2)):=by simp[hb']
    refine⟨(hown b' hb3).1,(hown b' hb3).2,fun hs=>(S.shr b' hs).2 o _ ho (by rw[hfp];exact hb3),fun q ob1 hq=>?_⟩;rcases hobs q ob1 hq with rfl|⟨hne,hq⟩
    ·rw[hfs]
     intro hmb;rcases List.mem_cons.1 hmb with rfl|hmb
     ·exact hnd1.1 (by simp[hb'])
     ·have h1:=List.nodup_append.1 hnd1.2
      have h2:=List.nodup_append.1 h1.2.1;rcases List.mem_append.1 hmb with hmb|hmb
      ·exact h1.2.2 b' hmb b' (by simp[hb']) rfl
      ·exact h2.2.2 b' hb' b' hmb rfl
    ·rw[hfo q hne]
     exact S.apart o q _ ob1 ho hq (Ne.symm hne) b' (by rw[hfp];exact hb3)
   ·intro q hq
    exact⟨zT hq,hfo q hq⟩
   ·simp only[Rel,if_true] at ry
    rcases ry with⟨e,_,_⟩|⟨_,_,_,_,_,_,_,_,_,_,hL⟩
    ·show V.mentionL a.2.1=[]
     rw[e];rfl
    ·apply List.eq_nil_iff_forall_not_mem.2
     intro q hq;obtain⟨y,hy,hq⟩:=mem_mentionL.1 hq;rw[(RelL.iff.1 hL).2 y hy] at hq;cases hq
theorem zI4 (S:Sim w0 fa sh u h fp s tm w) {o i:Nat} {fs:List Nat} {ver n:Nat} {cs:List Value} {g:List Nat} (rx:Rel h sh w (.plc o i fs ver n) cs g) {r:Nat×List V×St} (ht:s.take o i fs ver n=some r) :
  ∃h' fp' f,Freed w0 fa sh u h fp s sh h' fp' r.2.2 tm w f (fun q=>q=o)/\Rel h' sh w (.lst true r.1 r.2.1) cs f/\V.mentionL r.2.1=[]:=zGe (.inr rfl) S rx ht
theorem zOy (S:Sim w0 fa sh u h fp s tm w) {o i:Nat} {fs:List Nat} {ver n:Nat} {cs:List Value} {g:List Nat} (rx:Rel h sh w (.plc o i fs ver n) cs g) {r:Nat×List V×St} (ht:s.takeQ o i fs ver n=some r) :
  ∃h' fp' f,Freed w0 fa sh u h fp s sh h' fp' r.2.2 tm w f (fun q=>q=o)/\Rel h' sh w (.lst true r.1 r.2.1) cs f/\V.mentionL r.2.1=[]:=zGe (.inl rfl) S rx ht
end
end Go.Proofs.YtbcgenkegnmkhaaGreat.Ev
namespace Go.Proofs.YtbcgenkegnmkhaaGreat.Ev
open Go
set_option linter.unusedSectionVars false
set_option linter.unusedSimpArgs false
section
variable {u : Nat->Prop} {h : Hs} {sh : Nat->Prop} {w w0 : World} {fa : List Nat} {fp : Nat->List Nat} {s : St} {tm : Array Value}
theorem jM {xs:List V} (hm:V.mentionL xs=[]):∀x∈xs,x.mention=[]:=by
 intro x hx;apply List.eq_nil_iff_forall_not_mem.2;intro q hq
 have:=mem_mentionL.2 ⟨x,hx,hq⟩
 rw[hm] at this;cases this
mutual
theorem zDm:∀{v:V} {h:Hs} {fp:Nat->List Nat} {s:St} {cs:List Value} {r:V×St},Sim w0 fa sh u h fp s tm w->Rel h sh w v cs []->(∀o∈v.mention,u o)->v.fz s=some r ->
  ∃h' fp' f,Freed w0 fa sh u h fp s sh h' fp' r.2 tm w f (fun q=>q∈v.mention)/\Rel h' sh w r.1 cs f/\r.1.mention=[]
 | .int ..,h,fp,s,cs,r,S,rx,hm,hv=>by
  simp only[V.fz,Option.some.injEq] at hv;subst hv;exact⟨h,fp,[],Freed.refl S _,rx,rfl⟩
 | .bool _,h,fp,s,cs,r,S,rx,hm,hv=>by
  simp only[V.fz,Option.some.injEq] at hv;subst hv;exact⟨h,fp,[],Freed.refl S _,rx,rfl⟩
 | .str _,h,fp,s,cs,r,S,rx,hm,hv=>by
  simp only[V.fz,Option.some.injEq] at hv;subst hv;exact⟨h,fp,[],Freed.refl S _,rx,rfl⟩
 | .lst own sz xs,h,fp,s,cs,r,S,rx,hm,hv=>by
  cases own
  ·simp only[V.fz,Option.some.injEq] at hv;subst hv
   exact⟨h,fp,[],Freed.refl S _,rx,rfl⟩
  ·cases xs with
   | nil =>
    simp only[V.fz,Option.some.injEq] at hv;subst hv;exact⟨h,fp,[],Freed.refl S _,rx,rfl⟩
   | cons y q=>simp[V.fz] at hv
 | .emp _,h,fp,s,cs,r,S,rx,hm,hv=>by
  simp only[V.fz,Option.some.injEq] at hv;subst hv;refine⟨h,fp,[],Freed.refl S _,?_,rfl⟩;simp only[Rel,Bool.false_eq_true,if_false] at rx ⊢;obtain⟨_,a,c,e,_,hc0⟩:=rx;exact⟨trivial,a,c,e,Nat.zero_le _,.inl ⟨trivial,hc0⟩⟩
 | .agg xs,h,fp,s,cs,r,S,rx,hm,hv=>by
  simp only[V.fz] at hv;cases hx:V.fzL xs s with
  | none=>rw[hx] at hv;cases hv
  | some p =>
   rw[hx] at hv;simp only[zJ,Option.some.injEq] at hv;subst hv;simp only[Rel] at rx;simp only[V.mention] at hm ⊢;obtain⟨h',fp',f,F,hr,hmm⟩:=zGg S rx hm hx;exact⟨h',fp',f,F,by simp only[Rel];exact hr,hmm⟩
 | .ref o lo n,h,fp,s,cs,r,S,rx,hm,hv=>by
  simp only[V.fz] at hv;cases hx:s.give o lo n with
  | none=>rw[hx] at hv;cases hv
  | some p =>
   rw[hx] at hv;simp only[zJ,Option.some.injEq] at hv;subst hv;obtain⟨f,F,hr,hmm⟩:=zEf S rx hx;exact⟨h,fp,f,F.mono (fun q hq=>by rw[hq];simp[V.mention]),hr,rfl⟩
 | .plc o i fs ver n,h,fp,s,cs,r,S,rx,hm,hv=>by
  simp only[V.fz] at hv;cases hx:s.takeQ o i fs ver n with
  | none=>rw[hx] at hv;cases hv
  | some p =>
   rw[hx] at hv;simp only[zJ,Option.some.injEq] at hv;subst hv;obtain⟨h',fp',f,F,hr,hmm⟩:=zOy S rx hx;exact⟨h',fp',f,F.mono (fun q hq=>by rw[hq];simp[V.mention]),hr,rfl⟩
 | .ptr ..,h,fp,s,cs,r,S,rx,hm,hv=>by simp[V.fz] at hv
 | .vptr _,h,fp,s,cs,r,S,rx,hm,hv=>by simp[V.fz] at hv
 | .clo ..,h,fp,s,cs,r,S,rx,hm,hv=>by simp[V.fz] at hv
 | .und,h,fp,s,cs,r,S,rx,hm,hv=>by simp[V.fz] at hv
 | .tup _,h,fp,s,cs,r,S,rx,hm,hv=>by simp[V.fz] at hv
 | .iol ..,h,fp,s,cs,r,S,rx,hm,hv=>by simp[V.fz] at hv
 | .iop _,h,fp,s,cs,r,S,rx,hm,hv=>by simp[V.fz] at hv
theorem zGg:∀{xs:List V} {h:Hs} {fp:Nat->List Nat} {s:St} {cs:List Value} {r:List V×St},Sim w0 fa sh u h fp s tm w->RelA h sh w xs cs []->(∀o∈V.mentionL xs,u o)->V.fzL xs s=some r ->
  ∃h' fp' f,Freed w0 fa sh u h fp s sh h' fp' r.2 tm w f (fun q=>q∈V.mentionL xs)/\RelA h' sh w r.1 cs f/\V.mentionL r.1=[]
 | [],h,fp,s,cs,r,S,rx,hm,hv=>by
  simp only[V.fzL,Option.some.injEq] at hv;subst hv;exact⟨h,fp,[],Freed.refl S _,rx,rfl⟩
 | x::q,h,fp,s,cs,r,S,rx,hm,hv=>by
  simp only[V.fzL] at hv;cases hx:x.fz s with
  | none=>rw[hx] at hv;cases hv
  | some a =>
   rw[hx] at hv;simp only at hv;cases hq:V.fzL q a.2 with
   | none=>rw[hq] at hv;cases hv
   | some b =>
    rw[hq] at hv;simp only[zJ,Option.some.injEq] at hv;subst hv;simp only[RelA] at rx;obtain⟨c1,c2,f1,f2,rfl,ef,r1,r2⟩:=rx
    obtain⟨rfl,rfl⟩:f1=[]/\f2=[]:=by
     have:=congrArg List.length ef
     simp only[List.length_nil,List.length_append] at this;exact⟨List.length_eq_zero_iff.1 (by omega),List.length_eq_zero_iff.1 (by omega)⟩
    simp only[V.mentionL,List.mem_append] at hm;obtain⟨h1,fp1,g1,F1,k1,m1⟩:=zDm S r1 (fun o ho=>hm o (.inl ho)) hx;have r2':=RelA.keep F1.le (fun b hb=>⟨hb,rfl⟩) r2 (fun o ho=>hm o (.inr ho)) (fun _ hb=>(by cases hb));obtain⟨h2,fp2,g2,F2,k2,m2⟩:=zGg F1.sim r2' (fun o ho=>hm o (.inr ho)) hq;refine⟨h2,fp2,g1++g2,(F1.trans F2).mono (fun o ho=>?_),?_,?_⟩
    ·simp only[V.mentionL,List.mem_append];exact ho
    ·simp only[RelA]
     exact⟨c1,c2,g1,g2,rfl,rfl,Rel.keep F2.le (fun b hb=>⟨hb,rfl⟩) k1 (by rw[m1];intro o ho;cases ho) (fun _ _=>rfl),k2⟩
    ·simp only[V.mentionL,m1,m2,List.append_nil]
end
theorem zHx (S:Sim w0 fa sh u h fp s tm w) {v:V} {cs:List Value} (rx:Rel h sh w v cs []) {r:Nat×List V×St} (hb:s.base v=some r) :
  ∃h' fp' f,Freed w0 fa sh u h fp s sh h' fp' r.2.2 tm w f (fun q=>q∈v.mention)/\Rel h' sh w (.lst true r.1 r.2.1) cs f/\V.mentionL r.2.1=[]:=by
 unfold St.base at hb;split at hb
 ·cases hb
  exact⟨h,fp,[],Freed.refl S _,rx,rfl⟩
 ·obtain⟨f,F,hr,hm⟩:=zEf S rx hb
  exact⟨h,fp,f,F.mono (fun q hq=>by rw[hq];simp[V.mention]),hr,hm⟩
 ·obtain⟨h',fp',f,F,hr,hm⟩:=zI4 S rx hb
  exact⟨h',fp',f,F.mono (fun q hq=>by rw[hq];simp[V.mention]),hr,hm⟩
 ·cases hb
def qAb (h:Hs) (sh:Nat->Prop) (w:World) (ys:List V) (cs:List Value) (f:List Nat):Prop :=
 ∃a c,cs=[.slice a ys.length c]/\(ys=[]/\f=[]\/∃b off z ds,a=some ⟨b,off,none⟩/\At w b off ds/\RelL h sh w z ys ds f)
theorem mem_shareL {xs:List V} {x:V}:x∈V.shareL xs↔∃y∈xs,x=y.share:=by
 rw[jB,List.mem_map];constructor
 ·rintro⟨y,hy,e⟩;exact⟨y,hy,e.symm⟩
 ·rintro⟨y,hy,e⟩;exact⟨y,hy,e.symm⟩
theorem zIb:∀{gs:List Nat} {x:V} {sz:Nat} {ys:List V},kS x.share gs≠some (.lst true sz ys)
 | [],x,sz,ys=>by
  simp only[kS,ne_eq,Option.some.injEq];cases x<;>simp[V.share]
 | i::p,x,sz,ys=>by
  cases x with
  | agg xs =>
   simp only[V.share,kS,jB,List.getElem?_map];cases hx:xs[i]? with
   | none=>simp
   | some y=>simp only[Option.map_some];exact zIb
  | _=>simp[V.share,kS]
theorem zK7 (S:Sim w0 fa sh u h fp s tm w) {o lo n:Nat} {cs:List Value} {g:List Nat} (rx:Rel h sh w (.ref o lo n) cs g) {r:List V×St} (hc:s.copyRow o lo n=some r) :
  ∃sh' h' fp',Freed w0 fa sh u h fp s sh' h' fp' r.2 tm w [] (fun q=>q=o)/\qAb h' sh' w r.1 cs []/\V.mentionL r.1=[]:=by
 unfold St.copyRow at hc;cases ho:zO s.obs o with
 | none=>rw[ho] at hc;cases hc
 | some ob =>
  rw[ho] at hc;simp only at hc;split at hc
  ·rename_i hbn
   obtain⟨hbx,hn⟩:=hbn;cases hc;have R:=(S.obs o ob ho).2
   have hmen:∀x∈V.shareL ob.xs,x.mention=[]:=by
    intro x hx;obtain⟨y,hy,rfl⟩:=mem_shareL.1 hx;rw[xD];exact(R.men y hy).1 hbx
   have hmm:V.mentionL (V.shareL ((ob.xs.drop lo).take n))=[]:=by
    rw[yU];apply List.eq_nil_iff_forall_not_mem.2;intro q hq;obtain⟨y,hy,hq⟩:=mem_mentionL.1 hq;rw[(R.men y (List.mem_of_mem_drop (List.mem_of_mem_take hy))).1 hbx] at hq;cases hq
   have hr:=R.row;cases hd:h.hd o with
   | none =>
    rw[hd] at hr;obtain⟨hxs,hfp,_⟩:=hr;obtain⟨f,hs,hrl,hor⟩:=zBp S ho hbx hn rx;rcases hor with⟨⟨c,hcs⟩,hn0⟩|⟨b,off,c,ds,fps,hd',_⟩
    ·subst hn0
     have hob:ob={ ob with xs:=V.shareL ob.xs }:=by
      rw[hxs];cases ob;simp only at hxs;subst hxs;rfl
     have hst:Sim w0 fa sh u h fp { s with obs:=xC s.obs o { ob with xs:=V.shareL ob.xs } } tm w:=by
      rw[<-hob];refine S.step (u':=u) (h':=h) (fun _ h=>h) (Hs.Le.refl u h) rfl (Grew.refl _) (fun _ _ _=>rfl) (fun b hb=>⟨hb,rfl⟩) ?_ ?_ ?_
      ·intro b hb
       refine⟨(S.shr b hb).1,fun q ob1 hq=>?_⟩
       by_cases e:q=o
       ·subst e;rw[hfp];intro hh;cases hh
       ·rw[zT e] at hq;exact(S.shr b hb).2 q ob1 hq
      ·intro q ob1 hq
       by_cases e:q=o
       ·subst e
        rw[qG] at hq;cases hq;exact .inl ⟨ho,rfl,rfl,fun _ _=>rfl⟩
       ·rw[zT e] at hq;exact .inl ⟨hq,rfl,rfl,fun _ _=>rfl⟩
      ·intro q q' o1 o2 h1 h2 hqq
       have aux:∀q ob1,zO (xC s.obs o ob) q=some ob1->zO s.obs q=some ob1:=by
        intro q ob1 hq
        by_cases e:q=o
        ·subst e;rw[qG] at hq;rw[ho];exact hq
        ·rwa [zT e] at hq
       exact S.apart q q' o1 o2 (aux q o1 h1) (aux q' o2 h2) hqq
     refine⟨sh,h,fp,⟨hst,Hs.Le.refl u h,fun _ h=>h,fun _ h=>.inl h,rfl,rfl,?_,fun _ h=>(by cases h),⟨List.nodup_nil,fun _ h=>(by cases h)⟩,fun q hq=>⟨zT hq,rfl⟩,fun _ _=>rfl⟩,?_,hmm⟩
     ·intro q ob1 hq
      by_cases e:q=o
      ·subst e;exact⟨ob,ho,fun _ h=>h⟩
      ·simp only[zT e] at hq;exact⟨ob1,hq,fun _ h=>h⟩
     ·refine⟨none,c,by rw[hcs];simp[V.shareL],.inl ⟨by simp[V.shareL],rfl⟩⟩
    ·rw[hd] at hd';cases hd'
   | some p =>
    obtain⟨b,off,c,z⟩:=p;rw[hd] at hr;obtain⟨hz,hlc,hrow,ds,fps,hfp,hat,hX⟩:=hr;have hL:RelL h sh w z ob.xs ds fps:=RelL.iff.2 ⟨hX,fun x hx=>(R.men x hx).1 hbx⟩
    let sh':Nat->Prop:=fun b=>sh b\/b∈fps
    have hL':RelL h sh' w z (V.shareL ob.xs) ds []:=xK (fun _ h=>.inl h) hL (fun b hb=>.inr hb);have hnd:=(S.own o ob ho).1;rw[hfp] at hnd;have hnd1:=List.nodup_cons.1 hnd
    obtain⟨h',fp',S',hle,hfo,hfs,hvn⟩:=S.setOb' (sh':=sh') (ob':={ ob with xs:=V.shareL ob.xs }) ho hd (fun _ _=>rfl) rfl rfl rfl hrow hz (by simp only[jB,List.length_map];exact hlc) (RelL.iff.1 hL').1 hat
     (fun x hx=>⟨fun _=>hmen x hx,fun q hq=>by rw[hmen x hx] at hq;cases hq⟩) (by rw[hz];exact zD4 S ho (zA0 ob.xs))
     (.inr ⟨rfl,fun i fs sz xs hg=>by
      exfalso
      unfold Ob.get at hg;simp only[jB,List.getElem?_map] at hg;cases hx:ob.xs[i]? with
      | none=>rw[hx] at hg;cases hg
      | some y=>rw[hx] at hg;exact zIb hg⟩)
     (fun _ h=>.inl h) (fun b' hb'=>by
      rcases hb' with hb'|hb'
      ·exact .inl hb'
      ·exact .inr ⟨by rw[hfp];exact List.mem_cons_of_mem _ hb',fun e=>hnd1.1 (e ▸ hb'),fun h=>by cases h⟩)
     rfl (fun h=>by cases h) List.nodup_nil (fun _ h=>by cases h)
    refine⟨sh',h',fp',⟨S',hle,fun _ h=>.inl h,?_,rfl,rfl,?_,fun _ h=>(by cases h),⟨List.nodup_nil,fun _ h=>(by cases h)⟩,fun q hq=>⟨zT hq,hfo q hq⟩,fun q hq=>hvn q (fun e=>by rw[e,ho] at hq;cases hq)⟩,?_,hmm⟩
    ·intro b' hb'
     rcases hb' with hb'|hb'
     ·exact .inl hb'
     ·exact .inr ⟨o,ob,ho,by rw[hfp];exact List.mem_cons_of_mem _ hb'⟩
    ·intro q ob1 hq
     by_cases e:q=o
     ·subst e
      refine⟨ob,ho,fun b' hb'=>?_⟩;rw[hfs] at hb';rw[hfp];simp only[List.mem_cons,List.not_mem_nil,or_false] at hb';rw[hb'];exact List.mem_cons_self ..
     ·simp only[zT e] at hq
      exact⟨ob1,hq,fun b' hb'=>by rw[hfo q e] at hb';exact hb'⟩
    ·obtain⟨f,hs,hrl,hor⟩:=zBp S ho hbx hn rx
     have hlen:((ob.xs.drop lo).take n).length=n:=by rw[List.length_take,List.length_drop];omega
     rcases hor with⟨⟨c',hcs⟩,hn0⟩|⟨b',off',c',ds',fps',hd',hcs,_,_,hat',hL2⟩
     ·subst hn0
      exact⟨none,c',by rw[hcs];simp[V.shareL],.inl ⟨by simp[V.shareL],rfl⟩⟩
     ·rw[hd] at hd'
      simp only[Option.some.injEq,Prod.mk.injEq] at hd';obtain⟨rfl,rfl,rfl,hzz⟩:=hd'
      have hsub:∀b'∈fps',sh' b':=by
       intro b' hb'
       rename_i hfe _
       right
       have:b'∈fp o:=hs.subset (by rw[hfe];exact List.mem_cons_of_mem _ hb')
       rw[hfp] at this;rcases List.mem_cons.1 this with e|h
       ·exfalso
        have hnf:=hs.nodup (S.own o ob ho).1;rw[hfe] at hnf;exact(List.nodup_cons.1 hnf).1 (e ▸ hb')
       ·exact h
      refine⟨_,c - lo,by rw[hcs,jB,List.length_map,hlen],.inr ⟨b,off+lo * ob.sz,ob.sz,ds',rfl,hat',?_⟩⟩
      have:=xK (fun b hb=>(Or.inl hb:sh' b)) hL2 hsub
      exact RelL.keep hle (fun b hb=>⟨hb,rfl⟩) this (fun _ _=>rfl)
  ·cases hc
theorem zJu (S:Sim w0 fa sh u h fp s tm w) {o i:Nat} {fs:List Nat} {ver n:Nat} {cs:List Value} {g:List Nat} (rx:Rel h sh w (.plc o i fs ver n) cs g) {r:List V×St} (hc:s.copyPlc o i fs ver n=some r) :
  ∃sh' h' fp',Freed w0 fa sh u h fp s sh' h' fp' r.2 tm w [] (fun q=>q=o)/\qAb h' sh' w r.1 cs []/\V.mentionL r.1=[]:=by
 unfold St.copyPlc at hc;cases ha:s.at o i fs ver n with
 | none=>rw[ha] at hc;cases hc
 | some a =>
  rw[ha] at hc;simp only at hc;obtain⟨ho,hv,hg,hn⟩:=zJi ha;cases hso:a.2.2.set i fs (.lst false 0 (V.shareL a.2.1)) with
  | none=>rw[hso] at hc;cases hc
  | some ob' =>
   rw[hso] at hc;simp only[zJ,Option.some.injEq] at hc;subst hc;obtain⟨b,off,c,d0,d2,f0,f1,f2,hd,hlc,hrow,hfp,hat,hcl,ry,hset⟩:=zOk S ho hv hg hn rx;obtain⟨x,x',hx,hgx,hsx,hal,hob'⟩:=zLn hg (t:=.lst false 0 (V.shareL a.2.1)) rfl hso
   let sh':Nat->Prop:=fun b=>sh b\/b∈f1
   have hsh:=jH (sh':=sh') (fun _ h=>.inl h) ry (fun b hb=>.inr hb);simp only[V.share] at hsh;have hX:=hset h sh' w ⟨Hs.Le.refl u h,fun b hb=>⟨.inl hb,rfl⟩⟩ (fun _ _=>rfl) _ cs [] ob' hsh hcl hso;simp only[List.nil_append] at hX;have hall:V.alikeL a.2.2.xs ob'.xs=true:=by rw[hob'];exact xL hx hal
   obtain⟨hnd,hown⟩:=S.own o _ ho;rw[hfp] at hnd hown;have hnd1:=List.nodup_cons.1 hnd
   have hmem:∀b'∈f0++f2,b'∈f0++(f1++f2):=by
    intro b' hb';rcases List.mem_append.1 hb' with h|h<;>simp[h]
   have hlen:ob'.xs.length=a.2.2.xs.length:=by rw[hob'];simp
   have hsz:ob'.sz=a.2.2.sz:=by rw[hob']
   have h1:=List.nodup_append.1 hnd1.2;have h2:=List.nodup_append.1 h1.2.1
   obtain⟨h',fp',S',hle,hfo,hfs,hvn⟩:=S.setOb' (hfx:=by rw[hob']) (sh':=sh') (ob':=ob') ho hd (fun _ _=>rfl) rfl rfl rfl hrow hsz.symm (by rw[hlen];exact hlc) hX hat
    (zJb S ho (ob':=ob') hx hsx (by intro q hq;cases hq) (fun _=>rfl) hob') (zD4 S ho (ob':=ob') hall)
    (.inr ⟨by rw[hob'],fun j gs sz ys hgj=>⟨by
     unfold Ob.get at hgj ⊢;rw[hob'] at hgj;simp only at hgj
     by_cases hij:i=j
     ·subst hij
      rw[List.getElem?_set_self (List.getElem?_eq_some_iff.1 hx).1] at hgj;rw[hx];simp only at hgj ⊢;rcases zFl hsx hgj rfl with⟨hs,_,k⟩|k
      ·cases hs with
       | nil=>simp[kS] at k
       | cons j q=>simp[kS] at k
      ·exact k
     ·rw[List.getElem?_set_ne hij] at hgj
      exact hgj,rfl⟩⟩)
    (fun _ h=>.inl h) (fun b' hb'=>by
     rcases hb' with hb'|hb'
     ·exact .inl hb'
     ·refine .inr ⟨by rw[hfp];simp[hb'],fun e=>hnd1.1 (by rw[<-e];simp[hb']),fun hm=>?_⟩
      rcases List.mem_append.1 hm with hm|hm
      ·exact h1.2.2 b' hm b' (by simp[hb']) rfl
      ·exact h2.2.2 b' hb' b' hm rfl)
    (by rw[hob']) (fun h=>hnd1.1 (hmem b h))
    (List.Sublist.nodup (List.Sublist.append (List.Sublist.refl _) (List.sublist_append_right ..)) hnd1.2)
    (fun b' hb'=>by
     have hb2:=hmem b' hb';have hb3:=List.mem_cons_of_mem b hb2
     exact⟨(hown b' hb3).1,(hown b' hb3).2,fun hs=>(S.shr b' hs).2 o _ ho (by rw[hfp];exact hb3),fun q ob1 hq h1=>S.apart o q _ ob1 ho h1 (Ne.symm hq) b' (by rw[hfp];exact hb3)⟩)
   refine⟨sh',h',fp',⟨S',hle,fun _ h=>.inl h,?_,rfl,rfl,?_,fun _ h=>(by cases h),⟨List.nodup_nil,fun _ h=>(by cases h)⟩,fun q hq=>⟨zT hq,hfo q hq⟩,fun q hq=>hvn q (fun e=>by rw[e,ho] at hq;cases hq)⟩,?_,?_⟩
   ·intro b' hb'
    rcases hb' with hb'|hb'
    ·exact .inl hb'
    ·exact .inr ⟨o,_,ho,by rw[hfp];simp[hb']⟩
   ·intro q ob1 hq
    by_cases e:q=o
    ·subst e
     refine⟨_,ho,fun b' hb'=>?_⟩;rw[hfs] at hb';rw[hfp];rcases List.mem_cons.1 hb' with rfl|hb'
     ·exact List.mem_cons_self ..
     ·exact List.mem_cons_of_mem _ (hmem b' hb')
    ·simp only[zT e] at hq
     exact⟨ob1,hq,fun b' hb'=>by rw[hfo q e] at hb';exact hb'⟩
   ·have hk:=Rel.keep hle (fun b hb=>⟨hb,rfl⟩) hsh (by intro q hq;cases hq) (fun _ _=>rfl)
    simp only[Rel,Bool.false_eq_true,if_false] at hk;obtain⟨_,a',c',e,_,hor⟩:=hk;refine⟨a',c',e,?_⟩;rcases hor with⟨hor,_⟩|⟨b',off',z',ds',e1,_,hat',hL⟩
    ·exact .inl ⟨hor,rfl⟩
    ·exact .inr ⟨b',off',z',ds',e1,hat',hL⟩
   ·show V.mentionL (V.shareL a.2.1)=[]
    rw[yU];simp only[Rel,if_true] at ry;rcases ry with⟨e,_,_⟩|⟨_,_,_,_,_,_,_,_,_,_,hL⟩
    ·rw[e];rfl
    ·apply List.eq_nil_iff_forall_not_mem.2
     intro q hq;obtain⟨y,hy,hq⟩:=mem_mentionL.1 hq;rw[(RelL.iff.1 hL).2 y hy] at hq;cases hq
mutual
theorem zHv:∀(x:V),x.alike x.gone=true
 | .agg xs=>by simp only[V.gone,V.alike,V.aggOf];exact zGn xs
 | .int ..=>rfl
 | .bool _=>rfl
 | .str _=>rfl
 | .lst own ..=>by cases own<;>rfl
 | .emp _=>rfl
 | .tup _=>rfl
 | .ref ..=>rfl
 | .plc ..=>rfl
 | .ptr ..=>rfl
 | .vptr _=>rfl
 | .clo ..=>rfl
 | .iol ..=>rfl
 | .iop _=>rfl
 | .und=>rfl
theorem zGn:∀(xs:List V),V.alikeL xs (V.goneL xs)=true
 | []=>rfl
 | x::r=>by simp only[V.goneL,V.alikeL,zHv x,zGn r,Bool.and_self]
end
mutual
theorem zBj:∀{x:V},x.mention=[]->x.gone.mention=[]
 | .agg xs,h=>by simp only[V.gone,V.mention] at h ⊢;exact zDg h
 | .int ..,h=>h
 | .bool _,h=>h
 | .str _,h=>h
 | .lst own ..,_=>by cases own<;>rfl
 | .emp _,h=>h
 | .tup _,h=>h
 | .ref ..,h=>h
 | .plc ..,h=>h
 | .ptr ..,h=>h
 | .vptr _,h=>h
 | .clo ..,h=>h
 | .iol ..,h=>h
 | .iop _,h=>h
 | .und,h=>h
theorem zDg:∀{xs:List V},V.mentionL xs=[]->V.mentionL (V.goneL xs)=[]
 | [],_=>rfl
 | x::r,h=>by
  simp only[V.mentionL,List.append_eq_nil_iff] at h;simp only[V.goneL,V.mentionL,zBj h.1,zDg h.2,List.append_nil]
end
mutual
theorem zRb:∀{x:V} {cs:List Value} {f:List Nat},Rel h sh w x cs f->Rel h sh w x.gone cs []
 | .lst own sz xs,cs,f,r=>by
  cases own
  ·have:=r
   simp only[Rel,Bool.false_eq_true,if_false] at this;obtain⟨rfl,_⟩:=this;exact r
  ·have hl:=Rel.len r
   simp only[V.cells] at hl
   obtain⟨c1,rfl⟩:∃c1,cs=[c1]:=by
    cases cs with
    | nil=>simp at hl
    | cons c q=>cases q with
     | nil=>exact⟨c,rfl⟩
     | cons e q=>simp at hl
   have hone:zXa c1:=Rel.ones r rfl;simp only[V.gone,Rel];exact⟨trivial,c1,rfl,hone⟩
 | .agg xs,cs,f,r=>by
  simp only[V.gone,Rel] at r ⊢;exact zMl r
 | .int ..,cs,f,r=>by simp only[V.gone,Rel] at r ⊢;exact⟨r.1,trivial⟩
 | .bool _,cs,f,r=>by simp only[V.gone,Rel] at r ⊢;exact⟨r.1,trivial⟩
 | .str _,cs,f,r=>by simp only[V.gone,Rel] at r ⊢;exact⟨r.1,trivial⟩
 | .emp _,cs,f,r=>by simp only[V.gone,Rel] at r ⊢;exact⟨trivial,r.2⟩
 | .ref ..,cs,f,r=>by simp only[V.gone,Rel] at r ⊢;exact⟨trivial,r.2⟩
 | .plc ..,cs,f,r=>by simp only[V.gone,Rel] at r ⊢;exact⟨trivial,r.2⟩
 | .ptr ..,cs,f,r=>by simp only[V.gone,Rel] at r ⊢;exact⟨trivial,r.2⟩
 | .vptr x,cs,f,r=>by simp only[V.gone,Rel] at r ⊢;exact⟨trivial,r.2⟩
 | .clo g cap,cs,f,r=>by simp only[V.gone,Rel] at r ⊢;exact⟨trivial,r.2⟩
 | .und,cs,f,r=>by simp only[V.gone,Rel] at r ⊢;exact⟨trivial,r.2⟩
 | .tup _,cs,f,r=>by simp only[Rel] at r
 | .iol ..,cs,f,r=>by simp only[Rel] at r
 | .iop _,cs,f,r=>by simp only[Rel] at r
theorem zMl:∀{xs:List V} {cs:List Value} {f:List Nat},RelA h sh w xs cs f->RelA h sh w (V.goneL xs) cs []
 | [],cs,f,r=>by simp only[V.goneL,RelA] at r ⊢;exact⟨r.1,trivial⟩
 | x::q,cs,f,r=>by
  simp only[V.goneL,RelA] at r ⊢;obtain⟨c1,c2,f1,f2,e,ef,r1,r2⟩:=r;exact⟨c1,c2,[],[],e,rfl,zRb r1,zMl r2⟩
end
theorem zA6 (lo n:Nat):yZ lo n []=[]:=by cases lo<;>cases n<;>rfl
theorem zE7:∀(lo n:Nat) (xs:List V),(yZ lo n xs).length=xs.length
 | lo,n,[]=>by rw[zA6]
 | lo+1,n,x::r=>by simp only[yZ,List.length_cons,zE7 lo n r]
 | 0,0,x::r=>rfl
 | 0,n+1,x::r=>by simp only[yZ,List.length_cons,zE7 0 n r]
theorem zAr:∀(lo n:Nat) (xs:List V),V.alikeL xs (yZ lo n xs)=true
 | lo,n,[]=>by rw[zA6];rfl
 | lo+1,n,x::r=>by simp only[yZ,V.alikeL,vM,zAr lo n r,Bool.and_self]
 | 0,0,x::r=>vS _
 | 0,n+1,x::r=>by simp only[yZ,V.alikeL,zHv,zAr 0 n r,Bool.and_self]
theorem zGb:∀{lo n:Nat} {xs:List V} {y:V},y∈yZ lo n xs->∃x∈xs,y=x\/y=x.gone
 | lo,n,[],y,hy=>by rw[zA6] at hy;cases hy
 | lo+1,n,x::r,y,hy=>by
  simp only[yZ,List.mem_cons] at hy;rcases hy with rfl|hy
  ·exact⟨y,List.mem_cons_self ..,.inl rfl⟩
  ·obtain⟨z,hz,e⟩:=zGb hy;exact⟨z,List.mem_cons_of_mem _ hz,e⟩
 | 0,0,x::r,y,hy=>⟨y,hy,.inl rfl⟩
 | 0,n+1,x::r,y,hy=>by
  simp only[yZ,List.mem_cons] at hy;rcases hy with rfl|hy
  ·exact⟨x,List.mem_cons_self ..,.inr rfl⟩
  ·obtain⟨z,hz,e⟩:=zGb hy;exact⟨z,List.mem_cons_of_mem _ hz,e⟩
theorem zGr:∀{lo n:Nat} {xs:List V} {i:Nat} {y:V},(yZ lo n xs)[i]? = some y->∃x,xs[i]? = some x/\(y=x\/y=x.gone)
 | lo,n,[],i,y,hy=>by rw[zA6] at hy;cases hy
 | lo+1,n,x::r,i,y,hy=>by
  cases i with
  | zero=>simp only[yZ,List.getElem?_cons_zero,Option.some.injEq] at hy;exact⟨x,rfl,.inl hy.symm⟩
  | succ i=>simp only[yZ,List.getElem?_cons_succ] at hy ⊢;exact zGr hy
 | 0,0,x::r,i,y,hy=>⟨y,hy,.inl rfl⟩
 | 0,n+1,x::r,i,y,hy=>by
  cases i with
  | zero=>simp only[yZ,List.getElem?_cons_zero,Option.some.injEq] at hy;exact⟨x,rfl,.inr hy.symm⟩
  | succ i=>simp only[yZ,List.getElem?_cons_succ] at hy ⊢;exact zGr hy
theorem zMi:∀(xs:List V),V.goneL xs=xs.map V.gone
 | []=>rfl
 | x::r=>by simp only[V.goneL,List.map_cons,zMi r]
theorem zKz:∀{gs:List Nat} {x:V} {sz:Nat} {ys:List V},kS x.gone gs≠some (.lst true sz ys)
 | [],x,sz,ys=>by
  simp only[kS,ne_eq,Option.some.injEq];cases x with
  | lst own a b=>cases own<;>simp[V.gone]
  | _=>simp[V.gone]
 | i::p,x,sz,ys=>by
  cases x with
  | agg xs =>
   simp only[V.gone,kS,zMi,List.getElem?_map];cases hx:xs[i]? with
   | none=>simp
   | some y=>simp only[Option.map_some];exact zKz
  | lst own a b=>cases own<;>simp[V.gone,kS]
  | _=>simp[V.gone,kS]
theorem zJt {z:Nat}:∀{lo n:Nat} {xs:List V} {cs:List Value} {f:List Nat},RelL h sh w z xs cs f->∃fB fR,RelL h sh w z (yZ lo n xs) cs fR/\RelL h sh w z ((xs.drop lo).take n) ((cs.drop (lo * z)).take (n * z)) fB/\(∀b∈fB,b∈f)/\(∀b∈fR,b∈f)/\(f.Nodup->fB.Nodup/\fR.Nodup/\∀b∈fB,b ∉ fR)
 | lo,n,[],cs,f,r=>by
  simp only[RelL] at r;obtain⟨rfl,rfl⟩:=r;exact⟨[],[],by rw[zA6];simp[RelL],by simp[RelL],fun _ h=>h,fun _ h=>h,fun _=>⟨List.nodup_nil,List.nodup_nil,fun _ h=>(by cases h)⟩⟩
 | 0,0,x::q,cs,f,r=>⟨[],f,r,by simp[RelL],fun _ h=>(by cases h),fun _ h=>h,fun hn=>⟨List.nodup_nil,hn,fun _ h=>(by cases h)⟩⟩
 | 0,n+1,x::q,cs,f,r=>by
  simp only[RelL] at r;obtain⟨c1,c2,f1,f2,rfl,rfl,el,hm,r1,r2⟩:=r;obtain⟨fB,fR,k1,k2,k3,k4,k5⟩:=zJt (lo:=0) (n:=n) r2;refine⟨f1++fB,fR,?_,?_,?_,fun b hb=>List.mem_append_right _ (k4 b hb),?_⟩
  ·simp only[yZ,RelL]
   exact⟨c1,c2,[],fR,rfl,rfl,el,zBj hm,zRb r1,k1⟩
  ·simp only[Nat.zero_mul,List.drop_zero,List.take_succ_cons,RelL] at k2 ⊢
   refine⟨c1,c2.take (n * z),f1,fB,?_,rfl,el,hm,r1,k2⟩;rw[show(n+1) * z=c1.length+n * z by rw[Nat.succ_mul,el,Nat.add_comm],List.take_append,List.take_of_length_le (by omega)]
   congr 2;omega
  ·intro b hb
   rcases List.mem_append.1 hb with hb|hb
   ·exact List.mem_append_left _ hb
   ·exact List.mem_append_right _ (k3 b hb)
  ·intro hn
   have h1:=List.nodup_append.1 hn;obtain⟨a1,a2,a3⟩:=k5 h1.2.1;refine⟨List.nodup_append.2 ⟨h1.1,a1,fun x hx y hy=>h1.2.2 x hx y (k3 y hy)⟩,a2,fun b hb hb2=>?_⟩;rcases List.mem_append.1 hb with hb|hb
   ·exact h1.2.2 b hb b (k4 b hb2) rfl
   ·exact a3 b hb hb2
 | lo+1,n,x::q,cs,f,r=>by
  simp only[RelL] at r;obtain⟨c1,c2,f1,f2,rfl,rfl,el,hm,r1,r2⟩:=r;obtain⟨fB,fR,k1,k2,k3,k4,k5⟩:=zJt (lo:=lo) (n:=n) r2;refine⟨fB,f1++fR,?_,?_,fun b hb=>List.mem_append_right _ (k3 b hb),?_,?_⟩
  ·simp only[yZ,RelL]
   exact⟨c1,c2,f1,fR,rfl,rfl,el,hm,r1,k1⟩
  ·rw[List.drop_succ_cons,show(lo+1) * z=c1.length+lo * z by rw[Nat.succ_mul,el,Nat.add_comm],<- List.drop_drop,List.drop_left]
   exact k2
  ·intro b hb
   rcases List.mem_append.1 hb with hb|hb
   ·exact List.mem_append_left _ hb
   ·exact List.mem_append_right _ (k4 b hb)
  ·intro hn
   have h1:=List.nodup_append.1 hn;obtain⟨a1,a2,a3⟩:=k5 h1.2.1;refine⟨a1,List.nodup_append.2 ⟨h1.1,a2,fun x hx y hy=>h1.2.2 x hx y (k4 y hy)⟩,fun b hb hb2=>?_⟩;rcases List.mem_append.1 hb2 with hb2|hb2
   ·exact h1.2.2 b hb2 b (k3 b hb) rfl
   ·exact a3 b hb hb2
theorem zJq (S:Sim w0 fa sh u h fp s tm w) {o lo n:Nat} {cs:List Value} {g:List Nat} (rx:Rel h sh w (.ref o lo n) cs g) {r:List V×St} (hc:s.moveRow o lo n=some r) :
  ∃h' fp' f,Freed w0 fa sh u h fp s sh h' fp' r.2 tm w f (fun q=>q=o)/\qAb h' sh w r.1 cs f/\V.mentionL r.1=[]:=by
 unfold St.moveRow at hc;cases ho:zO s.obs o with
 | none=>rw[ho] at hc;cases hc
 | some ob =>
  rw[ho] at hc;simp only at hc;split at hc
  ·rename_i hbn
   obtain⟨hbx,hn⟩:=hbn;cases hc;have R:=(S.obs o ob ho).2
   have hmen:∀x∈yZ lo n ob.xs,x.mention=[]:=by
    intro x hx;obtain⟨y,hy,e⟩:=zGb hx
    have:=(R.men y hy).1 hbx
    rcases e with rfl|rfl
    ·exact this
    ·exact zBj this
   have hmm:V.mentionL ((ob.xs.drop lo).take n)=[]:=by
    apply List.eq_nil_iff_forall_not_mem.2;intro q hq;obtain⟨y,hy,hq⟩:=mem_mentionL.1 hq;rw[(R.men y (List.mem_of_mem_drop (List.mem_of_mem_take hy))).1 hbx] at hq;cases hq
   have hr:=R.row;cases hd:h.hd o with
   | none =>
    rw[hd] at hr;obtain⟨hxs,hfp,_⟩:=hr;obtain⟨f,hs,hrl,hor⟩:=zBp S ho hbx hn rx;rcases hor with⟨⟨c,hcs⟩,hn0⟩|⟨b,off,c,ds,fps,hd',_⟩
    ·subst hn0
     have hob:ob={ ob with xs:=yZ lo 0 ob.xs }:=by
      rw[hxs,zA6];cases ob;simp only at hxs;subst hxs;rfl
     have hst:Sim w0 fa sh u h fp { s with obs:=xC s.obs o { ob with xs:=yZ lo 0 ob.xs } } tm w:=by
      rw[<-hob];refine S.step (u':=u) (h':=h) (fun _ h=>h) (Hs.Le.refl u h) rfl (Grew.refl _) (fun _ _ _=>rfl) (fun b hb=>⟨hb,rfl⟩) ?_ ?_ ?_
      ·intro b hb
       refine⟨(S.shr b hb).1,fun q ob1 hq=>?_⟩
       by_cases e:q=o
       ·subst e;rw[hfp];intro hh;cases hh
       ·rw[zT e] at hq;exact(S.shr b hb).2 q ob1 hq
      ·intro q ob1 hq
       by_cases e:q=o
       ·subst e
        rw[qG] at hq;cases hq;exact .inl ⟨ho,rfl,rfl,fun _ _=>rfl⟩
       ·rw[zT e] at hq;exact .inl ⟨hq,rfl,rfl,fun _ _=>rfl⟩
      ·intro q q' o1 o2 h1 h2 hqq
       have aux:∀q ob1,zO (xC s.obs o ob) q=some ob1->zO s.obs q=some ob1:=by
        intro q ob1 hq
        by_cases e:q=o
        ·subst e;rw[qG] at hq;rw[ho];exact hq
        ·rwa [zT e] at hq
       exact S.apart q q' o1 o2 (aux q o1 h1) (aux q' o2 h2) hqq
     refine⟨h,fp,[],⟨hst,Hs.Le.refl u h,fun _ h=>h,fun _ h=>.inl h,rfl,rfl,?_,fun _ h=>(by cases h),⟨List.nodup_nil,fun _ h=>(by cases h)⟩,fun q hq=>⟨zT hq,rfl⟩,fun _ _=>rfl⟩,?_,hmm⟩
     ·intro q ob1 hq
      by_cases e:q=o
      ·subst e;exact⟨ob,ho,fun _ h=>h⟩
      ·simp only[zT e] at hq;exact⟨ob1,hq,fun _ h=>h⟩
     ·refine⟨none,c,by rw[hcs];simp,.inl ⟨by simp,rfl⟩⟩
    ·rw[hd] at hd';cases hd'
   | some p =>
    obtain⟨b,off,c,z⟩:=p;rw[hd] at hr;obtain⟨hz,hlc,hrow,ds,fps,hfp,hat,hX⟩:=hr;have hL:RelL h sh w z ob.xs ds fps:=RelL.iff.2 ⟨hX,fun x hx=>(R.men x hx).1 hbx⟩;obtain⟨fB,fR,k1,k2,k3,k4,k5⟩:=zJt (lo:=lo) (n:=n) hL;obtain⟨hnd,hown⟩:=S.own o ob ho;rw[hfp] at hnd hown;have hnd1:=List.nodup_cons.1 hnd;obtain⟨n1,n2,n3⟩:=k5 hnd1.2
    obtain⟨h',fp',S',hle,hfo,hfs,hvn⟩:=S.setOb (ob':={ ob with xs:=yZ lo n ob.xs }) ho hd (fun _ _=>rfl) rfl rfl rfl hrow hz (by simp only[zE7];exact hlc) (RelL.iff.1 k1).1 hat
     (fun x hx=>⟨fun _=>hmen x hx,fun q hq=>by rw[hmen x hx] at hq;cases hq⟩) (by rw[hz];exact zD4 S ho (zAr lo n ob.xs))
     (.inr ⟨rfl,fun i fs sz xs hg=>by
      unfold Ob.get at hg ⊢;simp only at hg;cases hx:(yZ lo n ob.xs)[i]? with
      | none=>rw[hx] at hg;cases hg
      | some y =>
       rw[hx] at hg;obtain⟨x,hx2,e⟩:=zGr hx;rcases e with rfl|rfl
       ·rw[hx2];exact⟨hg,rfl⟩
       ·exact absurd hg zKz⟩)
     rfl (fun hb=>hnd1.1 (k4 b hb)) n2
     (fun b' hb'=>by
      have hb3:=List.mem_cons_of_mem b (k4 b' hb')
      exact⟨(hown b' hb3).1,(hown b' hb3).2,fun hs=>(S.shr b' hs).2 o _ ho (by rw[hfp];exact hb3),fun q ob1 hq h1=>S.apart o q _ ob1 ho h1 (Ne.symm hq) b' (by rw[hfp];exact hb3)⟩)
    have hobs:∀q ob1,zO (xC s.obs o { ob with xs:=yZ lo n ob.xs }) q=some ob1->q=o\/q≠o/\zO s.obs q=some ob1:=by
     intro q ob1 hq
     by_cases e:q=o
     ·exact .inl e
     ·rw[zT e] at hq;exact .inr ⟨e,hq⟩
    refine⟨h',fp',fB,⟨S',hle,fun _ h=>h,fun _ h=>.inl h,rfl,rfl,?_,?_,⟨n1,?_⟩,fun q hq=>⟨zT hq,hfo q hq⟩,fun q hq=>hvn q (fun e=>by rw[e,ho] at hq;cases hq)⟩,?_,hmm⟩
    ·intro q ob1 hq
     rcases hobs q ob1 hq with rfl|⟨hne,hq⟩
     ·refine⟨_,ho,fun b' hb'=>?_⟩
      rw[hfs] at hb';rw[hfp];rcases List.mem_cons.1 hb' with rfl|hb'
      ·exact List.mem_cons_self ..
      ·exact List.mem_cons_of_mem _ (k4 b' hb')
     ·exact⟨ob1,hq,fun b' hb'=>by rw[hfo q hne] at hb';exact hb'⟩
    ·intro b' hb'
     exact⟨o,_,ho,by rw[hfp];exact List.mem_cons_of_mem _ (k3 b' hb')⟩
    ·intro b' hb'
     have hb3:b'∈b::fps:=List.mem_cons_of_mem _ (k3 b' hb');refine⟨(hown b' hb3).1,(hown b' hb3).2,fun hs=>(S.shr b' hs).2 o _ ho (by rw[hfp];exact hb3),fun q ob1 hq=>?_⟩;rcases hobs q ob1 hq with rfl|⟨hne,hq⟩
     ·rw[hfs]
      intro hmb;rcases List.mem_cons.1 hmb with rfl|hmb
      ·exact hnd1.1 (k3 _ hb')
      ·exact n3 b' hb' hmb
     ·rw[hfo q hne]
      exact S.apart o q _ ob1 ho hq (Ne.symm hne) b' (by rw[hfp];exact hb3)
    ·obtain⟨f,hs,hrl,hor⟩:=zBp S ho hbx hn rx
     have hlen:((ob.xs.drop lo).take n).length=n:=by rw[List.length_take,List.length_drop];omega
     have k2':=RelL.keep hle (fun b hb=>⟨hb,rfl⟩) k2 (fun _ _=>rfl);rcases hor with⟨⟨c',hcs⟩,hn0⟩|⟨b',off',c',ds',fps',hd',hcs,_,_,_,_⟩
     ·subst hn0
      have:fB=[]:=by
       simp only[List.take_zero,RelL] at k2;exact k2.2
      exact⟨none,c',by rw[hcs];simp,.inl ⟨by simp,this⟩⟩
     ·rw[hd] at hd'
      simp only[Option.some.injEq,Prod.mk.injEq] at hd';obtain⟨rfl,rfl,rfl,hzz⟩:=hd';refine⟨_,c - lo,by rw[hcs,hlen],.inr ⟨b,off+lo * ob.sz,z,_,rfl,?_,k2'⟩⟩;rw[<-hzz];refine At.take (At.drop hat ?_);rw[RelL.len hL];exact Nat.mul_le_mul_right _ (by omega)
  ·cases hc
theorem zG3 (S:Sim w0 fa sh u h fp s tm w) {v:V} {cs:List Value} (rx:Rel h sh w v cs []) {base:Nat} {r:List V×St} (he:s.elems base v=some r) :
  ∃sh' h' fp' f,Freed w0 fa sh u h fp s sh' h' fp' r.2 tm w f (fun q=>q∈v.mention)/\qAb h' sh' w r.1 cs f/\V.mentionL r.1=[]:=by
 unfold St.elems at he;split at he
 ·rename_i sz xs
  cases he;simp only[Rel,Bool.false_eq_true,if_false] at rx;obtain⟨_,a,c,e,_,hor⟩:=rx;refine⟨sh,h,fp,[],Freed.refl S _,⟨a,c,e,?_⟩,?_⟩
  ·rcases hor with⟨hor,_⟩|⟨b',off',z',ds',e1,_,hat',hL⟩
   ·exact .inl ⟨hor,rfl⟩
   ·exact .inr ⟨b',off',z',ds',e1,hat',hL⟩
  ·rcases hor with⟨hor,_⟩|⟨b',off',z',ds',e1,_,hat',hL⟩
   ·rw[hor];rfl
   ·apply List.eq_nil_iff_forall_not_mem.2
    intro q hq;obtain⟨y,hy,hq⟩:=mem_mentionL.1 hq;rw[(RelL.iff.1 hL).2 y hy] at hq;cases hq
 ·cases he
  simp only[Rel,if_true] at rx;refine⟨sh,h,fp,[],Freed.refl S _,?_,rfl⟩;rcases rx with⟨_,_,e⟩|⟨b,off,c,ds,fps,e,ef,_⟩
  ·exact⟨_,_,e,.inl ⟨rfl,rfl⟩⟩
  ·cases ef
 ·cases he
  simp only[Rel] at rx;obtain⟨_,a,c,e,_⟩:=rx;exact⟨sh,h,fp,[],Freed.refl S _,⟨a,c,e,.inl ⟨rfl,rfl⟩⟩,rfl⟩
 ·rename_i o lo n
  split at he
  ·cases hx:s.give o lo n with
   | none=>rw[hx] at he;cases he
   | some p =>
    rw[hx] at he;simp only[zJ,Option.some.injEq] at he;subst he;obtain⟨f,F,hr,hmm⟩:=zEf S rx hx;simp only[Rel,if_true] at hr;rcases hr with⟨hp,hf,e⟩|⟨b,off,c,ds,fps,e,ef,_,_,hat,hL⟩
    ·exact⟨sh,h,fp,[],(F.less (by rw[hf];exact List.Sublist.refl _)).mono (fun q hq=>by rw[hq];simp[V.mention]),⟨none,0,by rw[e,hp];rfl,.inl ⟨hp,rfl⟩⟩,hmm⟩
    ·exact⟨sh,h,fp,fps,(F.less (by rw[ef];exact List.sublist_cons_self ..)).mono (fun q hq=>by rw[hq];simp[V.mention]),⟨_,c,e,.inr ⟨b,off,p.1,ds,rfl,hat,hL⟩⟩,hmm⟩
  ·split at he
   ·obtain⟨h',fp',f,F,he,hmm⟩:=zJq S rx he
    exact⟨sh,h',fp',f,F.mono (fun q hq=>by rw[hq];simp[V.mention]),he,hmm⟩
   ·obtain⟨sh',h',fp',F,he,hmm⟩:=zK7 S rx he
    exact⟨sh',h',fp',[],F.mono (fun q hq=>by rw[hq];simp[V.mention]),he,hmm⟩
 ·obtain⟨sh',h',fp',F,he,hmm⟩:=zJu S rx he
  exact⟨sh',h',fp',[],F.mono (fun q hq=>by rw[hq];simp[V.mention]),he,hmm⟩
 ·cases he
end
section
variable {u : Nat->Prop} {h : Hs} {sh : Nat->Prop} {w w0 : World} {fa : List Nat} {fp : Nat->List Nat} {s : St} {tm : Array Value}
theorem Freed.beside {h':Hs} {fp':Nat->List Nat} {s':St} {f k:List Nat} {p:Nat->Prop} (F:Freed w0 fa sh u h fp s sh h' fp' s' tm w f p) (hl:Loose w0 fa sh s.obs fp w k):Loose w0 fa sh s'.obs fp' w (f++k):=by
 refine⟨List.nodup_append.2 ⟨F.loose.nd,hl.nd,fun a ha b hb e=>?_⟩,fun b hb=>?_⟩
 ·subst e
  obtain⟨o,ob,ho,hm⟩:=F.src a ha;exact(hl.ok a hb).2.2.2 o ob ho hm
 ·rcases List.mem_append.1 hb with hb|hb
  ·exact F.loose.ok b hb
  ·refine⟨(hl.ok b hb).1,(hl.ok b hb).2.1,(hl.ok b hb).2.2.1,fun o ob ho hm=>?_⟩
   obtain⟨ob0,h0,hs⟩:=F.sub o ob ho;exact(hl.ok b hb).2.2.2 o ob0 h0 (hs b hm)
theorem Loose.turn {obs:List (Nat×Ob)} {f g k:List Nat} (l:Loose w0 fa sh obs fp w (f++(g++k))):Loose w0 fa sh obs fp w (g++(f++k)):=by
 have hp:(f++(g++k)).Perm (g++(f++k)):=by
  rw[<-List.append_assoc,<- List.append_assoc];exact List.Perm.append_right k List.perm_append_comm
 exact⟨hp.nodup l.nd,fun b hb=>l.ok b (hp.mem_iff.2 hb)⟩
structure Lost (w0:World) (fa:List Nat) (sh u:Nat->Prop) (h:Hs) (fp:Nat->List Nat) (s:St) (h':Hs) (fp':Nat->List Nat) (s':St) (tm:Array Value) (w:World) (g f:List Nat):Prop where
 sim:Sim w0 fa sh u h' fp' s' tm w
 le:h.Le u h'
 env:s'.env=s.env
 nxt:s'.nxt=s.nxt
 sub:∀o ob',zO s'.obs o=some ob'->∃ob,zO s.obs o=some ob/\∀b∈fp' o,b∈fp o
 src:∀b∈f,b∈g\/∃o ob,zO s.obs o=some ob/\b∈fp o
 vrn:∀o,zO s.obs o=none->h'.vr o=h.vr o
theorem Lost.absent {g f:List Nat} {h':Hs} {fp':Nat->List Nat} {s':St} (L:Lost w0 fa sh u h fp s h' fp' s' tm w g f) {o:Nat} (ho:zO s.obs o=none):zO s'.obs o=none:=by
 cases hs:zO s'.obs o with
 | none=>rfl
 | some ob=>obtain⟨ob0,h0,_⟩:=L.sub o ob hs;rw[ho] at h0;cases h0
theorem Lost.refl (S:Sim w0 fa sh u h fp s tm w) (g:List Nat):Lost w0 fa sh u h fp s h fp s tm w g g:=⟨S,Hs.Le.refl u h,rfl,rfl,fun _ ob h=>⟨ob,h,fun _ h=>h⟩,fun _ h=>.inl h,fun _ _=>rfl⟩
theorem Lost.trans {h1 h2:Hs} {fp1 fp2:Nat->List Nat} {s1 s2:St} {g1 f1 g2 f2:List Nat} (A:Lost w0 fa sh u h fp s h1 fp1 s1 tm w g1 f1) (B:Lost w0 fa sh u h1 fp1 s1 h2 fp2 s2 tm w g2 f2):Lost w0 fa sh u h fp s h2 fp2 s2 tm w (g1++g2) (f1++f2):=by
 refine⟨B.sim,A.le.trans B.le (fun _ h=>h),B.env.trans A.env,B.nxt.trans A.nxt,fun o ob ho=>?_,fun b hb=>?_,fun o ho=>(B.vrn o (A.absent ho)).trans (A.vrn o ho)⟩
 ·obtain⟨ob1,h1,q1⟩:=B.sub o ob ho
  obtain⟨ob0,h0,q0⟩:=A.sub o ob1 h1;exact⟨ob0,h0,fun b hb=>q0 b (q1 b hb)⟩
 ·rcases List.mem_append.1 hb with hb|hb
  ·rcases A.src b hb with hb|hb
   ·exact .inl (List.mem_append_left _ hb)
   ·exact .inr hb
  ·rcases B.src b hb with hb|⟨o,ob,ho,hm⟩
   ·exact .inl (List.mem_append_right _ hb)
   ·obtain⟨ob0,h0,q0⟩:=A.sub o ob ho
    exact .inr ⟨o,ob0,h0,q0 b hm⟩
theorem Freed.lost {h':Hs} {fp':Nat->List Nat} {s':St} {f:List Nat} {p:Nat->Prop} (F:Freed w0 fa sh u h fp s sh h' fp' s' tm w f p):Lost w0 fa sh u h fp s h' fp' s' tm w [] f :=
 ⟨F.sim,F.le,F.env,F.nxt,F.sub,fun b hb=>.inr (F.src b hb),F.vrn⟩
theorem Rel.any' {h h':Hs} {v:V} {cs:List Value} {f:List Nat} (r:Rel h sh w v cs f) (hm:v.mention=[]):Rel h' sh w v cs f :=
 Rel.keep (u:=fun _=>False) ⟨fun _ h=>h.elim,fun _ h=>h.elim,fun _ h=>h.elim,fun _ h=>h.elim,fun _ h=>h.elim⟩ (fun _ hb=>⟨hb,rfl⟩) r (by rw[hm];intro o ho;cases ho) (fun _ _=>rfl)
theorem zAq {v:V} {cs:List Value} {g k:List Nat} {r:V×St} (S:Sim w0 fa sh u h fp s tm w) (rv:Rel h sh w v cs g) (hg:g=[]) (hm:∀o∈v.mention,u o) (hl:Loose w0 fa sh s.obs fp w (g++k)) (hv:v.fz s=some r) :
  ∃h' fp' f,Lost w0 fa sh u h fp s h' fp' r.2 tm w g f/\Rel h' sh w r.1 cs f/\r.1.mention=[]/\Loose w0 fa sh r.2.obs fp' w (f++k):=by
 subst hg;obtain⟨h',fp',f,F,hr,hmm⟩:=zDm S rv hm hv;exact⟨h',fp',f,F.lost,hr,hmm,F.beside hl⟩
mutual
theorem zHb:∀{v:V} {h:Hs} {fp:Nat->List Nat} {s:St} {cs:List Value} {g k:List Nat} {r:V×St},Sim w0 fa sh u h fp s tm w->Rel h sh w v cs g->(∀o∈v.mention,u o)->Loose w0 fa sh s.obs fp w (g++k)->v.fzI s=some r ->
  ∃h' fp' f,Lost w0 fa sh u h fp s h' fp' r.2 tm w g f/\Rel h' sh w r.1 cs f/\r.1.mention=[]/\Loose w0 fa sh r.2.obs fp' w (f++k)
 | .agg xs,h,fp,s,cs,g,k,r,S,rv,hm,hl,hv=>by
  simp only[V.fzI] at hv;cases hx:V.fzIL xs s with
  | none=>rw[hx] at hv;cases hv
  | some q =>
   rw[hx] at hv;simp only[zJ,Option.some.injEq] at hv;subst hv;simp only[Rel,V.mention] at rv hm ⊢;exact zEs S rv hm hl hx
 | .lst own sz xs,h,fp,s,cs,g,k,r,S,rv,hm,hl,hv=>by
  cases own
  ·exact zAq S rv (by simp only[Rel,Bool.false_eq_true,if_false] at rv;exact rv.1) hm hl hv
  ·simp only[V.fzI,Option.some.injEq] at hv
   subst hv;exact⟨h,fp,g,Lost.refl S g,rv,rfl,hl⟩
 | .int ..,h,fp,s,cs,g,k,r,S,rv,hm,hl,hv=>zAq S rv (by simp only[Rel] at rv;exact rv.2) hm hl hv
 | .bool _,h,fp,s,cs,g,k,r,S,rv,hm,hl,hv=>zAq S rv (by simp only[Rel] at rv;exact rv.2) hm hl hv
 | .str _,h,fp,s,cs,g,k,r,S,rv,hm,hl,hv=>zAq S rv (by simp only[Rel] at rv;exact rv.2) hm hl hv
 | .emp _,h,fp,s,cs,g,k,r,S,rv,hm,hl,hv=>zAq S rv (by simp only[Rel] at rv;exact rv.1) hm hl hv
 | .ref ..,h,fp,s,cs,g,k,r,S,rv,hm,hl,hv=>zAq S rv (by simp only[Rel] at rv;exact rv.1) hm hl hv
 | .plc ..,h,fp,s,cs,g,k,r,S,rv,hm,hl,hv=>zAq S rv (by simp only[Rel] at rv;exact rv.1) hm hl hv
 | .ptr ..,h,fp,s,cs,g,k,r,S,rv,hm,hl,hv=>by simp[V.fzI,V.fz] at hv
 | .vptr _,h,fp,s,cs,g,k,r,S,rv,hm,hl,hv=>by simp[V.fzI,V.fz] at hv
 | .clo ..,h,fp,s,cs,g,k,r,S,rv,hm,hl,hv=>by simp[V.fzI,V.fz] at hv
 | .und,h,fp,s,cs,g,k,r,S,rv,hm,hl,hv=>by simp[V.fzI,V.fz] at hv
 | .tup _,h,fp,s,cs,g,k,r,S,rv,hm,hl,hv=>by simp[V.fzI,V.fz] at hv
 | .iol ..,h,fp,s,cs,g,k,r,S,rv,hm,hl,hv=>by simp[V.fzI,V.fz] at hv
 | .iop _,h,fp,s,cs,g,k,r,S,rv,hm,hl,hv=>by simp[V.fzI,V.fz] at hv
theorem zEs:∀{xs:List V} {h:Hs} {fp:Nat->List Nat} {s:St} {cs:List Value} {g k:List Nat} {r:List V×St},Sim w0 fa sh u h fp s tm w->RelA h sh w xs cs g->(∀o∈V.mentionL xs,u o)->Loose w0 fa sh s.obs fp w (g++k)->V.fzIL xs s=some r ->
  ∃h' fp' f,Lost w0 fa sh u h fp s h' fp' r.2 tm w g f/\RelA h' sh w r.1 cs f/\V.mentionL r.1=[]/\Loose w0 fa sh r.2.obs fp' w (f++k)
 | [],h,fp,s,cs,g,k,r,S,rv,hm,hl,hv=>by
  simp only[V.fzIL,Option.some.injEq] at hv;subst hv;exact⟨h,fp,g,Lost.refl S g,rv,rfl,hl⟩
 | x::q,h,fp,s,cs,g,k,r,S,rv,hm,hl,hv=>by
  simp only[V.fzIL] at hv;cases hx:x.fzI s with
  | none=>rw[hx] at hv;cases hv
  | some a =>
   rw[hx] at hv;simp only at hv;cases hq:V.fzIL q a.2 with
   | none=>rw[hq] at hv;cases hv
   | some b =>
    rw[hq] at hv;simp only[zJ,Option.some.injEq] at hv;subst hv;simp only[RelA] at rv;obtain⟨c1,c2,g1,g2,rfl,rfl,r1,r2⟩:=rv;simp only[V.mentionL,List.mem_append] at hm;obtain⟨h1,fp1,f1,L1,k1,n1,l1⟩:=zHb S r1 (fun o ho=>hm o (.inl ho)) (k:=g2++k) (by rw[<-List.append_assoc];exact hl) hx;have r2':RelA h1 sh w q c2 g2:=RelA.keep L1.le (fun _ hb=>⟨hb,rfl⟩) r2 (fun o ho=>hm o (.inr ho)) (fun _ _=>rfl);obtain⟨h2,fp2,f2,L2,k2,n2,l2⟩:=zEs L1.sim r2' (fun o ho=>hm o (.inr ho)) (k:=f1++k) l1.turn hq;refine⟨h2,fp2,f1++f2,L1.trans L2,?_,by simp only[V.mentionL,n1,n2,List.append_nil],by rw[List.append_assoc];exact l2.turn⟩;simp only[RelA];exact⟨c1,c2,f1,f2,rfl,rfl,k1.any' n1,k2⟩
end
mutual
theorem zHm:∀{v old:V} {s:St} {r:V×St},v.fzI s=some r->v.alike r.1=true
 | .agg xs,old,s,r,hv=>by
  simp only[V.fzI] at hv;cases hx:V.fzIL xs s with
  | none=>rw[hx] at hv;cases hv
  | some q =>
   rw[hx] at hv;simp only[zJ,Option.some.injEq] at hv;subst hv;simp only[V.alike,V.aggOf];exact zEi hx
 | .lst own sz xs,old,s,r,hv=>by
  cases own
  ·simp only[V.fzI,V.fz,Option.some.injEq] at hv;subst hv;rfl
  ·simp only[V.fzI,Option.some.injEq] at hv;subst hv;rfl
 | .int ..,old,s,r,hv=>by simp only[V.fzI,V.fz,Option.some.injEq] at hv;subst hv;rfl
 | .bool _,old,s,r,hv=>by simp only[V.fzI,V.fz,Option.some.injEq] at hv;subst hv;rfl
 | .str _,old,s,r,hv=>by simp only[V.fzI,V.fz,Option.some.injEq] at hv;subst hv;rfl
 | .emp _,old,s,r,hv=>by simp only[V.fzI,V.fz,Option.some.injEq] at hv;subst hv;rfl
 | .ref o lo n,old,s,r,hv=>by
  simp only[V.fzI,V.fz] at hv;cases hx:s.give o lo n with
  | none=>rw[hx] at hv;cases hv
  | some q=>rw[hx] at hv;simp only[zJ,Option.some.injEq] at hv;subst hv;rfl
 | .plc o i fs ver n,old,s,r,hv=>by
  simp only[V.fzI,V.fz] at hv;cases hx:s.takeQ o i fs ver n with
  | none=>rw[hx] at hv;cases hv
  | some q=>rw[hx] at hv;simp only[zJ,Option.some.injEq] at hv;subst hv;rfl
 | .ptr ..,old,s,r,hv=>by simp[V.fzI,V.fz] at hv
 | .vptr _,old,s,r,hv=>by simp[V.fzI,V.fz] at hv
 | .clo ..,old,s,r,hv=>by simp[V.fzI,V.fz] at hv
 | .und,old,s,r,hv=>by simp[V.fzI,V.fz] at hv
 | .tup _,old,s,r,hv=>by simp[V.fzI,V.fz] at hv
 | .iol ..,old,s,r,hv=>by simp[V.fzI,V.fz] at hv
 | .iop _,old,s,r,hv=>by simp[V.fzI,V.fz] at hv
theorem zEi:∀{xs:List V} {s:St} {r:List V×St},V.fzIL xs s=some r->V.alikeL xs r.1=true
 | [],s,r,hv=>by simp only[V.fzIL,Option.some.injEq] at hv;subst hv;rfl
 | x::q,s,r,hv=>by
  simp only[V.fzIL] at hv;cases hx:x.fzI s with
  | none=>rw[hx] at hv;cases hv
  | some a =>
   rw[hx] at hv;simp only at hv;cases hq:V.fzIL q a.2 with
   | none=>rw[hq] at hv;cases hv
   | some b =>
    rw[hq] at hv;simp only[zJ,Option.some.injEq] at hv;subst hv;simp only[V.alikeL,Bool.and_eq_true];exact⟨zHm (old:=.und) hx,zEi hq⟩
end
end
end Go.Proofs.YtbcgenkegnmkhaaGreat.Ev
namespace Go.Proofs.YtbcgenkegnmkhaaGreat.Ev
open Go
set_option linter.unusedSectionVars false
set_option linter.unusedSimpArgs false
def Turn (w0:World) (fa:List Nat) (sh u:Nat->Prop) (h:Hs) (s':St) (tm:Array Value) (id:Nat) (v:V) (x:Value) (w':World):Prop :=
 ∃sh' u' h' fp',Sim w0 fa sh' u' h' fp' s' tm w'/\RelS h' sh' w' v x/\(∀o∈v.mention,u' o)/\(∀o,u' o->u o\/id<=o/\o<id+32)/\(∀b,sh b->sh' b)/\(∀b,sh' b->sh b\/(b<w0.heap.size->b∈fa))/\h.Le u h'/\∀o,u o->u' o
section
variable {P : Program} {u : Nat->Prop} {h : Hs} {sh : Nat->Prop} {w w0 : World} {fa : List Nat} {fp : Nat->List Nat} {s : St} {a : Act}
theorem Freed.shw {s':St} {sh':Nat->Prop} {h':Hs} {fp':Nat->List Nat} {tm:Array Value} {f:List Nat} {k:Nat->Prop} (S:Sim w0 fa sh u h fp s tm w) (F:Freed w0 fa sh u h fp s sh' h' fp' s' tm w f k):∀b,sh' b->sh b\/(b<w0.heap.size->b∈fa):=by
 intro b hb;rcases F.shn b hb with hb|⟨o,ob,ho,hb⟩
 ·exact .inl hb
 ·exact .inr ((S.own o ob ho).2 b hb).2
theorem Turn.le {h0:Hs} {s':St} {tm:Array Value} {id:Nat} {v:V} {x:Value} {w':World} (T:Turn w0 fa sh u h s' tm id v x w') (hl:h0.Le u h):Turn w0 fa sh u h0 s' tm id v x w':=by
 obtain⟨sh',u',h',fp',a1,a2,a3,a4,a5,a6,a7,a8⟩:=T;exact⟨sh',u',h',fp',a1,a2,a3,a4,a5,a6,hl.trans a7 (fun _ h=>h),a8⟩
theorem kN {v:V} {x:Value} (r:RelS h sh w v x) (hu:v≠.und) (ht:v.isTup=false):Rel h sh w v x.cells.toList []:=by
 cases v with
 | agg xs =>
  simp only[RelS,RelS0] at r;obtain⟨cs,e,r⟩:=r;subst e;simp only[Rel,Value.cells];exact r
 | tup xs=>simp[V.isTup] at ht
 | iop xs=>simp[V.isTup] at ht
 | und=>exact absurd rfl hu
 | iol _ _=>simp only[RelS,RelS0,Rel] at r
 | _ =>
  have r0:Rel h sh w _ [x] []:=r;have ho:=Rel.ones r0 rfl
  have:x.cells.toList=[x]:=by cases x<;>first|exact ho.elim|rfl
  rw[this];exact r0
mutual
theorem Rel.onesC {h:Hs} {sh:Nat->Prop} {w:World}:∀{v:V} {cs:List Value} {f:List Nat},Rel h sh w v cs f->∀c∈cs,zXa c
 | .agg xs,cs,f,r,c,hc=>by
  simp only[Rel] at r;exact RelA.onesC r c hc
 | .int ..,cs,f,r,c,hc=>by simp only[Rel] at r;rw[r.1] at hc;simp at hc;rw[hc];trivial
 | .bool _,cs,f,r,c,hc=>by simp only[Rel] at r;rw[r.1] at hc;simp at hc;rw[hc];trivial
 | .str _,cs,f,r,c,hc=>by simp only[Rel] at r;rw[r.1] at hc;simp at hc;rw[hc];trivial
 | .lst own sz xs,cs,f,r,c,hc=>by
  have hl:=Rel.len r;obtain⟨c1,rfl⟩:∃c1,cs=[c1]:=List.length_eq_one_iff.1 hl;simp only[List.mem_singleton] at hc;subst hc;exact Rel.ones r rfl
 | .emp _,cs,f,r,c,hc=>by
  obtain⟨c1,rfl⟩:∃c1,cs=[c1]:=List.length_eq_one_iff.1 (Rel.len r);simp only[List.mem_singleton] at hc;subst hc;exact Rel.ones r rfl
 | .ref ..,cs,f,r,c,hc=>by
  obtain⟨c1,rfl⟩:∃c1,cs=[c1]:=List.length_eq_one_iff.1 (Rel.len r);simp only[List.mem_singleton] at hc;subst hc;exact Rel.ones r rfl
 | .plc ..,cs,f,r,c,hc=>by
  obtain⟨c1,rfl⟩:∃c1,cs=[c1]:=List.length_eq_one_iff.1 (Rel.len r);simp only[List.mem_singleton] at hc;subst hc;exact Rel.ones r rfl
 | .ptr ..,cs,f,r,c,hc=>by
  obtain⟨c1,rfl⟩:∃c1,cs=[c1]:=List.length_eq_one_iff.1 (Rel.len r);simp only[List.mem_singleton] at hc;subst hc;exact Rel.ones r rfl
 | .vptr _,cs,f,r,c,hc=>by
  obtain⟨c1,rfl⟩:∃c1,cs=[c1]:=List.length_eq_one_iff.1 (Rel.len r);simp only[List.mem_singleton] at hc;subst hc;exact Rel.ones r rfl
 | .clo ..,cs,f,r,c,hc=>by
  obtain⟨c1,rfl⟩:∃c1,cs=[c1]:=List.length_eq_one_iff.1 (Rel.len r);simp only[List.mem_singleton] at hc;subst hc;exact Rel.ones r rfl
 | .und,cs,f,r,c,hc=>by
  obtain⟨c1,rfl⟩:∃c1,cs=[c1]:=List.length_eq_one_iff.1 (Rel.len r);simp only[List.mem_singleton] at hc;subst hc;exact Rel.ones r rfl
 | .tup _,cs,f,r,c,hc=>by simp only[Rel] at r
 | .iol ..,cs,f,r,c,hc=>by simp only[Rel] at r
 | .iop _,cs,f,r,c,hc=>by simp only[Rel] at r
theorem RelA.onesC {h:Hs} {sh:Nat->Prop} {w:World}:∀{xs:List V} {cs:List Value} {f:List Nat},RelA h sh w xs cs f->∀c∈cs,zXa c
 | [],cs,f,r,c,hc=>by simp only[RelA] at r;rw[r.1] at hc;cases hc
 | x::q,cs,f,r,c,hc=>by
  simp only[RelA] at r;obtain⟨c1,c2,f1,f2,rfl,rfl,r1,r2⟩:=r;rcases List.mem_append.1 hc with hc|hc
  ·exact Rel.onesC r1 c hc
  ·exact RelA.onesC r2 c hc
end
theorem zEh (w:World) (o:Obj):(w.alloc o).heap[w.heap.size]? = some o/\(∀b,b<w.heap.size->(w.alloc o).heap[b]? = w.heap[b]?)/\(w.alloc o).heap.size=w.heap.size+1:=by
 refine⟨(zJg w o).1,(zJg w o).2,Array.size_push ..⟩
theorem zG2 (S:Sim w0 fa sh u h fp s a.tmps w) {id:Nat} (hid:¬u id) {z:Nat} {y:V} {cs:Array Value} {e:TypeId} (r:Rel h sh w y cs.toList []) (hm:∀q∈y.mention,u q) (hz:y.cells=z) :
  Turn w0 fa sh u h (s.new id ⟨true,false,z,[y],0⟩) a.tmps id (.ptr id 0 []) (.pointer (some ⟨w.heap.size,0,none⟩)) (w.alloc (.cells cs e)):=by
 obtain⟨h1,h2,h3⟩:=zEh w (.cells cs e);have hl:=Rel.len r;have hkeep:∀b,sh b->(w.alloc (.cells cs e)).heap[b]? = w.heap[b]?:=fun b hb=>h2 b (S.shr b hb).1
 have r':Rel h sh (w.alloc (.cells cs e)) y cs.toList []:=Rel.keep (Hs.Le.refl u h) (fun b hb=>⟨hb,hkeep b hb⟩) r hm (fun b hb=>by cases hb)
 obtain⟨h',fp',S',hle,hhd,hofs⟩:=S.newOb (w':=w.alloc (.cells cs e)) (b:=w.heap.size) (off:=0) (c:=1) (ob:=⟨true,false,z,[y],0⟩) (ds:=cs.toList) (fps:=[]) hid ⟨by omega,rfl,rfl⟩ (fun b' hb' _=>h2 b' hb')
  ⟨by omega,fun hb=>by have:=S.size.sz;omega,fun hb=>by have:=(S.shr _ hb).1;omega,fun o ob ho hb=>by have:=((S.own o ob ho).2 _ hb).1;omega⟩
  ⟨cs,e,h1,by simp only[Nat.zero_add,Nat.one_mul];rw[<-hz,<- hl];simp⟩ (by simp) (by
   simp only[RelX]
   exact⟨cs.toList,[],[],[],by simp,rfl,by rw[hl,hz],r',rfl,rfl⟩) (fun i v hi=>by
   have:=qLy w cs e i v hi
   exact this) (fun x hx=>by
   simp only[List.mem_singleton] at hx;subst hx
   exact⟨fun e=>(by cases e),hm⟩) (fun h=>by cases h) ⟨List.nodup_nil,fun _ h=>by cases h⟩
 refine⟨sh,_,h',fp',S',?_,?_,fun o ho=>ho.imp_right (fun e=>by omega),fun _ h=>h,fun _ h=>.inl h,hle,fun o ho=>.inl ho⟩
 ·refine qV ?_ rfl (by intro e;cases e)
  simp only[Rel];refine⟨trivial,_,_,_,_,hhd,?_⟩;rw[hofs 0 y [] rfl];cases y<;>simp[zB1]
 ·intro o ho
  simp only[V.mention,List.mem_singleton] at ho;exact .inr ho
theorem zZh {cfg:Cfg} (C:CfgOK P cfg) (S:Sim w0 fa sh u h fp s a.tmps w) {o:Oper} {t:TypeId} {z:V} {id:Nat} (ho:o.op = .alloc t) (hz:cfg.zero t=some z) (hid:¬u id) :
  Does P o a w (Turn w0 fa sh u h (s.new id ⟨true,false,z.cells,[z],0⟩) a.tmps id (.ptr id 0 [])):=by
 obtain⟨i,zv,d,hi,hzv,hsz,_,_,_,_,_,hmen,hrel,_⟩:=C.zero t z hz;refine qN (x:=.pointer (some ⟨w.heap.size,0,none⟩)) (w':=w.alloc (.cells zv.cells t)) ?_ (zG2 S hid (hrel h sh w) (by rw[hmen];intro q hq;cases hq) rfl);unfold execOp;rw[ho];show(do pure (Next.value (<- Instr.alloc t true (.tuple #[]))):Sem Next).run P w=_
 have:(Instr.alloc t true (.tuple #[])).run P w = .ok (.pointer (some ⟨w.heap.size,0,none⟩)) (w.alloc (.cells zv.cells t)):=by
  unfold Instr.alloc;rw[zD (zCi hi hzv)]
  rfl
 rw[zD this];rfl
theorem qJi (S:Sim w0 fa sh u h fp s a.tmps w) {o:Oper} {t:TypeId} {x:Operand} {v:V} {z:V} {id:Nat} (ho:o.op = .box t x) (hx:opV s.env x=some v) (hal:z.alike v=true) (ht:v.isTup=false) (hid:¬u id) :
  Does P o a w (Turn w0 fa sh u h (s.new id ⟨true,false,z.cells,[v],0⟩) a.tmps id (.ptr id 0 [])):=by
 obtain⟨rx,hm,hu⟩:=zY S hx;refine qN (x:=.pointer (some ⟨w.heap.size,0,none⟩)) (w':=w.alloc (.cells (a.eval x).cells t)) ?_ (zG2 S hid (kN rx hu ht) hm (qK hal).symm);unfold execOp;rw[ho]
 rfl
mutual
theorem zIv:∀{v:V} {cs:List Value} {f:List Nat},v.scal=true->Rel h sh w v cs f->∀c∈cs,∀p l k,c≠.slice p l k
 | .int ..,cs,f,_,r,c,hc,p,l,k=>by simp only[Rel] at r;rw[r.1] at hc;simp at hc;rw[hc];simp
 | .bool _,cs,f,_,r,c,hc,p,l,k=>by simp only[Rel] at r;rw[r.1] at hc;simp at hc;rw[hc];simp
 | .str _,cs,f,_,r,c,hc,p,l,k=>by simp only[Rel] at r;rw[r.1] at hc;simp at hc;rw[hc];simp
 | .agg xs,cs,f,hs,r,c,hc,p,l,k=>by simp only[Rel] at r;simp only[V.scal] at hs;exact zGl hs r c hc p l k
 | .lst ..,cs,f,hs,r,c,hc,p,l,k=>by simp[V.scal] at hs
 | .emp _,cs,f,hs,r,c,hc,p,l,k=>by simp[V.scal] at hs
 | .tup _,cs,f,hs,r,c,hc,p,l,k=>by simp[V.scal] at hs
 | .ref ..,cs,f,hs,r,c,hc,p,l,k=>by simp[V.scal] at hs
 | .plc ..,cs,f,hs,r,c,hc,p,l,k=>by simp[V.scal] at hs
 | .ptr ..,cs,f,hs,r,c,hc,p,l,k=>by simp[V.scal] at hs
 | .vptr _,cs,f,hs,r,c,hc,p,l,k=>by simp[V.scal] at hs
 | .clo ..,cs,f,hs,r,c,hc,p,l,k=>by simp[V.scal] at hs
 | .iol ..,cs,f,hs,r,c,hc,p,l,k=>by simp[V.scal] at hs
 | .iop _,cs,f,hs,r,c,hc,p,l,k=>by simp[V.scal] at hs
 | .und,cs,f,hs,r,c,hc,p,l,k=>by simp[V.scal] at hs
theorem zGl:∀{xs:List V} {cs:List Value} {f:List Nat},V.scalL xs=true->RelA h sh w xs cs f->∀c∈cs,∀p l k,c≠.slice p l k
 | [],cs,f,hs,r,c,hc,p,l,k=>by simp only[RelA] at r;rw[r.1] at hc;cases hc
 | x::q,cs,f,hs,r,c,hc,p,l,k=>by
  simp only[V.scalL,Bool.and_eq_true] at hs;simp only[RelA] at r;obtain⟨c1,c2,f1,f2,rfl,rfl,r1,r2⟩:=r;rcases List.mem_append.1 hc with hc|hc
  ·exact zIv hs.1 r1 c hc p l k
  ·exact zGl hs.2 r2 c hc p l k
end
theorem zLm:∀{gs:List Nat} {v:V} {sz:Nat} {ys:List V},v.scal=true->kS v gs≠some (.lst true sz ys)
 | [],v,sz,ys,hs=>by
  simp only[kS,ne_eq,Option.some.injEq];intro e;subst e;simp[V.scal] at hs
 | i::p,v,sz,ys,hs=>by
  cases v with
  | agg xs =>
   simp only[kS];cases hx:xs[i]? with
   | none=>simp
   | some x =>
    simp only
    have:∀{xs:List V} {i:Nat} {x:V},V.scalL xs=true->xs[i]? = some x->x.scal=true:=by
     intro xs
     induction xs with
     | nil=>intro i x _ h;simp at h
     | cons y r ih =>
      intro i x hs h;simp only[V.scalL,Bool.and_eq_true] at hs;cases i with
      | zero=>simp only[List.getElem?_cons_zero,Option.some.injEq] at h;subst h;exact hs.1
      | succ i=>exact ih hs.2 (by simpa using h)
    exact zLm (this hs hx)
  | _=>simp[kS]
theorem zQ7 (S:Sim w0 fa sh u h fp s a.tmps w) {id o i:Nat} {fs:List Nat} {ob ob':Ob} {old y:V} (ho:zO s.obs o=some ob) (hg:ob.get i fs=some old) (hal:old.alike y=true) (hs:ob.set i fs y=some ob')
  {d:List Value} {f:List Nat} (r:Rel h sh w y d f) (hm:∀q∈y.mention,u q) (hbm:ob.bx=false->y.mention=[]) (hf:Loose w0 fa sh s.obs fp w f) {vr:Nat} (hvr:vr=ob.ver+1\/vr=ob.ver/\y.scal=true) {b off c z:Nat} (hd:h.hd o=some (b,off,c,z)) :
  ∃w',(storeCells ⟨b,off+h.ofs o i fs,none⟩ d).run P w = .ok () w'/\Turn w0 fa sh u h { s with obs:=xC s.obs o { ob' with ver:=vr } } a.tmps id .und undef w':=by
 obtain⟨b',off',c',z',d0,d1,d2,f0,f1,f2,hd',hz,hlc,hrow,hfp,hat,hlen,hl0,ry,_,hset⟩:=S.place ho hg;rw[hd] at hd';simp only[Option.some.injEq,Prod.mk.injEq] at hd';obtain⟨rfl,rfl,rfl,rfl⟩:=hd';obtain⟨x,x',hx,hgx,hsx,halx,hob'⟩:=zLn hg hal hs;have hld:d.length=d1.length:=by rw[Rel.len r,Rel.len ry,qK hal]
 have huo:=(S.obs o ob ho).1;have hnd:=(S.own o ob ho).1;rw[hfp] at hnd;have hnd1:=List.nodup_cons.1 hnd
 have hmem:∀b'∈f0++f2,b'∈f0++(f1++f2):=by
  intro b' hb';rcases List.mem_append.1 hb' with h|h<;>simp[h]
 have hb0:b∈fp o:=by rw[hfp];exact List.mem_cons_self ..
 have hle:off+h.ofs o i fs+d.length<=off+c * z:=by
  have:ob.xs.length * z<=c * z:=Nat.mul_le_mul_right _ hlc
  simp only[List.length_append] at hlen;omega
 obtain⟨w',hrun,hw,hcell⟩:=yT P b (off+h.ofs o i fs) d 0 w (off+c * z) hrow (by omega) (Rel.onesC r);refine⟨w',hrun,?_⟩;have hshk:∀b',sh b'->w'.heap[b']? = w.heap[b']?:=fun b' hb'=>hw.other b' (fun e=>(S.shr b' hb').2 o ob ho (e ▸ hb0))
 have g:Goes u h sh w h sh w':=⟨Hs.Le.refl u h,fun b' hb'=>⟨hb',hshk b' hb'⟩⟩;have r':Rel h sh w' y d f:=Rel.keep g.le g.sh r hm (fun b' hb'=>hw.other b' (fun e=>(hf.ok b' hb').2.2.2 o ob ho (e ▸ hb0)));have hX:=hset h sh w' g (fun b' hb'=>hw.other b' (fun e=>hnd1.1 (e ▸ hmem b' hb'))) y d f ob' r' hld hs
 have hat':At w' b off (d0++(d++d2)):=by
  have ha:=At.append.1 hat;have ha2:=At.append.1 ha.2;simp only[Nat.add_zero] at hcell;refine At.append.2 ⟨?_,At.append.2 ⟨?_,?_⟩⟩
  ·intro j v hj
   have:=(List.getElem?_eq_some_iff.1 hj).1
   rw[hcell,if_neg (by omega)];exact ha.1 j v hj
  ·intro j v hj
   have:=(List.getElem?_eq_some_iff.1 hj).1
   rw[hcell,if_pos (by omega),<- hj]
   congr 1;omega
  ·intro j v hj
   rw[hcell,if_neg (by omega)]
   have:=ha2.2 j v hj
   rw[hld];exact this
 have hall:V.alikeL ob.xs ob'.xs=true:=by rw[hob'];exact xL hx halx
 have hlen':ob'.xs.length=ob.xs.length:=by rw[hob'];simp
 have hsz:ob'.sz=ob.sz:=by rw[hob']
 have hofs:=zD4 S ho (ob':=ob') hall;have hmen:=zJb S ho (ob':=ob') hx hsx hm hbm hob';have hdisj:∀b'∈f0++f2,b' ∉ f:=fun b' hb' hbf=>(hf.ok b' hbf).2.2.2 o ob ho (by rw[hfp];exact List.mem_cons_of_mem _ (hmem b' hb'))
 have hndf:(f0++(f++f2)).Nodup:=by
  have h02:(f0++f2).Nodup:=List.Sublist.nodup (List.Sublist.append (List.Sublist.refl _) (List.sublist_append_right ..)) hnd1.2;have h3:=List.nodup_append.1 h02;refine List.nodup_append.2 ⟨h3.1,List.nodup_append.2 ⟨hf.nd,h3.2.1,fun p hp q hq e=>hdisj q (by simp[hq]) (e ▸ hp)⟩,fun p hp q hq e=>?_⟩;rcases List.mem_append.1 hq with hq|hq
  ·exact hdisj p (by simp[hp]) (e ▸ hq)
  ·exact h3.2.2 p hp q hq e
 obtain⟨h',fp',S',hle',hfo,hfs,hvn⟩:=S.setOb (hfx:=by rw[hob']) (ob':={ ob' with ver:=vr }) ho hd hw.other hw.size hw.os hw.out hw.row (by rw[hz];exact hsz.symm) (by rw[hlen'];exact hlc) hX hat' hmen (by rw[hz];exact hofs)
  (by
   rcases hvr with e|⟨e,hsc⟩
   ·exact .inl e
   ·refine .inr ⟨e,fun j gs sz ys hgj=>?_⟩
    have hgj':ob'.get j gs=some (.lst true sz ys):=hgj
    have hold:ob.get j gs=some (.lst true sz ys):=by
     unfold Ob.get at hgj' ⊢;rw[hob'] at hgj';simp only at hgj'
     by_cases hij:i=j
     ·subst hij
      rw[List.getElem?_set_self (List.getElem?_eq_some_iff.1 hx).1] at hgj';rw[hx];simp only at hgj' ⊢;rcases zFl hsx hgj' rfl with⟨hs,_,k⟩|k
      ·exact absurd k (zLm hsc)
      ·exact k
     ·rw[List.getElem?_set_ne hij] at hgj'
      exact hgj'
    refine⟨hold,?_⟩;unfold Ob.get at hgj';cases hxj:ob'.xs[j]? with
    | none=>rw[hxj] at hgj';cases hgj'
    | some xj =>
     rw[hxj] at hgj';simp only at hgj';obtain⟨pa,pc,hc⟩:=zDh (u:=u) hX hat' (zAs fun y hy=>(hmen y hy).2) hxj hgj';have ho1:=hofs j xj gs _ hxj hgj';rw[<-hz] at ho1;rw[<-ho1] at hc;simp only[Nat.add_zero] at hcell;rw[hcell] at hc ⊢;split
     ·rename_i hin
      rw[if_pos hin] at hc;exact absurd rfl (zIv hsc r _ (List.mem_of_getElem? hc) pa ys.length pc)
     ·rfl)
  (by rw[hob']) (fun hb=>by
   rcases List.mem_append.1 hb with hb|hb
   ·exact hnd1.1 (by simp[hb])
   ·rcases List.mem_append.1 hb with hb|hb
    ·exact(hf.ok b hb).2.2.2 o ob ho hb0
    ·exact hnd1.1 (by simp[hb])) hndf
  (fun b' hb'=>by
   have hc:b'∈f\/b'∈fp o:=by
    rcases List.mem_append.1 hb' with hb'|hb'
    ·exact .inr (by rw[hfp];simp[hb'])
    ·rcases List.mem_append.1 hb' with hb'|hb'
     ·exact .inl hb'
     ·exact .inr (by rw[hfp];simp[hb'])
   rcases hc with hc|hc
   ·have l:=hf.ok b' hc
    exact⟨l.1,l.2.1,l.2.2.1,fun q ob1 _ hq=>l.2.2.2 q ob1 hq⟩
   ·exact⟨((S.own o ob ho).2 b' hc).1,((S.own o ob ho).2 b' hc).2,fun hs=>(S.shr b' hs).2 o ob ho hc,fun q ob1 hq h1=>S.apart o q ob ob1 ho h1 (Ne.symm hq) b' hc⟩)
 exact⟨sh,u,h',fp',S',trivial,(by intro q hq;cases hq),fun q hq=>.inl hq,fun _ h=>h,fun _ h=>.inl h,hle',fun _ h=>h⟩
end
mutual
theorem zOn:∀{v:V} {s:St},v.scal=true->v.fz s=some (v,s)
 | .int ..,s,_=>rfl
 | .bool _,s,_=>rfl
 | .str _,s,_=>rfl
 | .agg xs,s,hs=>by
  simp only[V.scal] at hs;simp only[V.fz,zQ9 hs,zJ]
 | .lst ..,s,hs=>by simp[V.scal] at hs
 | .emp _,s,hs=>by simp[V.scal] at hs
 | .tup _,s,hs=>by simp[V.scal] at hs
 | .ref ..,s,hs=>by simp[V.scal] at hs
 | .plc ..,s,hs=>by simp[V.scal] at hs
 | .ptr ..,s,hs=>by simp[V.scal] at hs
 | .vptr _,s,hs=>by simp[V.scal] at hs
 | .clo ..,s,hs=>by simp[V.scal] at hs
 | .iol ..,s,hs=>by simp[V.scal] at hs
 | .iop _,s,hs=>by simp[V.scal] at hs
 | .und,s,hs=>by simp[V.scal] at hs
theorem zQ9:∀{xs:List V} {s:St},V.scalL xs=true->V.fzL xs s=some (xs,s)
 | [],s,_=>rfl
 | x::r,s,hs=>by
  simp only[V.scalL,Bool.and_eq_true] at hs;simp only[V.fzL,zOn hs.1,zQ9 hs.2,zJ]
end
theorem vX {x y:V} (hx:x.aggOf=none):x.alike y=y.aggOf.isNone:=by
 cases x<;>first|rfl|(simp[V.aggOf] at hx)
theorem yS {x y:V} (e:x.alike y=true) (hy:y.aggOf=none):x.aggOf=none:=by
 have:=zBu e
 rw[hy] at this;cases hx:x.aggOf with
 | none=>rfl
 | some a=>rw[hx] at this;cases this
mutual
theorem zDk:∀{v old:V} {s:St} {r:V×St},old.alike v=true->v.fz s=some r->old.alike r.1=true
 | .agg xs,old,s,r,ha,hv=>by
  simp only[V.fz] at hv;cases hx:V.fzL xs s with
  | none=>rw[hx] at hv;cases hv
  | some p =>
   rw[hx] at hv;simp only[zJ,Option.some.injEq] at hv;subst hv;have h1:=zBu ha;cases old with
   | agg os =>
    obtain⟨ys,e,h2⟩:=zCd ha;cases e;simp only[V.alike,V.aggOf];exact zKq h2 hx
   | _=>simp[V.aggOf] at h1
 | .int ..,old,s,r,ha,hv=>by
  simp only[V.fz,Option.some.injEq] at hv;subst hv;exact ha
 | .bool _,old,s,r,ha,hv=>by
  simp only[V.fz,Option.some.injEq] at hv;subst hv;exact ha
 | .str _,old,s,r,ha,hv=>by
  simp only[V.fz,Option.some.injEq] at hv;subst hv;exact ha
 | .lst own sz xs,old,s,r,ha,hv=>by
  rw[vX (yS ha rfl)];cases own
  ·simp only[V.fz,Option.some.injEq] at hv;subst hv;rfl
  ·cases xs with
   | nil=>simp only[V.fz,Option.some.injEq] at hv;subst hv;rfl
   | cons y q=>simp[V.fz] at hv
 | .emp _,old,s,r,ha,hv=>by
  rw[vX (yS ha rfl)];simp only[V.fz,Option.some.injEq] at hv;subst hv;rfl
 | .ref o lo n,old,s,r,ha,hv=>by
  rw[vX (yS ha rfl)];simp only[V.fz] at hv;cases hx:s.give o lo n with
  | none=>rw[hx] at hv;cases hv
  | some p=>rw[hx] at hv;simp only[zJ,Option.some.injEq] at hv;subst hv;rfl
 | .plc o i fs ver n,old,s,r,ha,hv=>by
  rw[vX (yS ha rfl)];simp only[V.fz] at hv;cases hx:s.takeQ o i fs ver n with
  | none=>rw[hx] at hv;cases hv
  | some p=>rw[hx] at hv;simp only[zJ,Option.some.injEq] at hv;subst hv;rfl
 | .ptr ..,old,s,r,ha,hv=>by simp[V.fz] at hv
 | .vptr _,old,s,r,ha,hv=>by simp[V.fz] at hv
 | .clo ..,old,s,r,ha,hv=>by simp[V.fz] at hv
 | .und,old,s,r,ha,hv=>by simp[V.fz] at hv
 | .tup _,old,s,r,ha,hv=>by simp[V.fz] at hv
 | .iol ..,old,s,r,ha,hv=>by simp[V.fz] at hv
 | .iop _,old,s,r,ha,hv=>by simp[V.fz] at hv
theorem zKq:∀{xs olds:List V} {s:St} {r:List V×St},V.alikeL olds xs=true->V.fzL xs s=some r->V.alikeL olds r.1=true
 | [],olds,s,r,ha,hv=>by
  simp only[V.fzL,Option.some.injEq] at hv;subst hv;exact ha
 | x::q,olds,s,r,ha,hv=>by
  simp only[V.fzL] at hv;cases hx:x.fz s with
  | none=>rw[hx] at hv;cases hv
  | some a =>
   rw[hx] at hv;simp only at hv;cases hq:V.fzL q a.2 with
   | none=>rw[hq] at hv;cases hv
   | some b =>
    rw[hq] at hv;simp only[zJ,Option.some.injEq] at hv;subst hv;cases olds with
    | nil=>simp[V.alikeL] at ha
    | cons y p =>
     simp only[V.alikeL,Bool.and_eq_true] at ha ⊢;exact⟨zDk ha.1 hx,zKq ha.2 hq⟩
end
section
variable {P : Program} {u : Nat->Prop} {h : Hs} {sh : Nat->Prop} {w w0 : World} {fa : List Nat} {fp : Nat->List Nat} {s : St} {a : Act}
theorem zAd {v:V} {r:V×St} (hv:v.fz s=some r):v.isTup=false:=by
 cases v<;>simp_all [V.fz,V.isTup]
theorem zY2 {cfg:Cfg} (C:CfgOK P cfg) (S:Sim w0 fa sh u h fp s a.tmps w) {o:Oper} {t:TypeId} {z:V} {x y:Operand} {vx vy:V} {s':St} {id:Nat} (ho:o.op = .store t x y) (hz:cfg.zero t=some z)
  (hx:opV s.env x=some vx) (hy:opV s.env y=some vy) (hv:xJ s z vx vy=some s'):Does P o a w (Turn w0 fa sh u h s' a.tmps id .und):=by
 have rx:=(zY S hx).1;obtain⟨ry,hmy,hny⟩:=zY S hy;obtain⟨inf,zv,td,hi,_,hsz,_⟩:=C.zero t z hz
 have fin:∀(ad:Addr) (w':World),a.eval x = .pointer (some ad)->(a.eval y).cells.size=z.cells->(storeCells ad (a.eval y).cells.toList).run P w = .ok () w'->Turn w0 fa sh u h s' a.tmps id .und undef w' ->
   Does P o a w (Turn w0 fa sh u h s' a.tmps id .und):=by
  intro ad w' he hs hrun ht;refine zVb (w':=w') ?_ ht;unfold execOp;rw[ho];simp only[he];show(do Instr.storeAt t (.pointer (some ad)) (a.eval y);pure Next.skip:Sem Next).run P w=_
  have:(Instr.storeAt t (.pointer (some ad)) (a.eval y)).run P w = .ok () w':=by
   unfold Instr.storeAt Instr.sureAddr;rw[zD (qI P _ w)];unfold storeVar;rw[zD (yY hi),if_neg (by rw[hs,hsz];simp)];exact hrun
  rw[zD this];rfl
 unfold xJ at hv;split at hv
 ·rename_i o' i fs
  simp only[RelS,RelS0,Rel,List.cons.injEq,and_true] at rx;obtain⟨_,b,off,c,zz,hd,he⟩:=rx;split at hv
  ·cases hv
  ·rename_i ob hob
   split at hv
   ·cases hv
   ·rename_i old hg
    split at hv
    ·rename_i hal
     obtain⟨hal,hzal⟩:=hal;split at hv
     ·split at hv
      ·cases hv
      ·rename_i hbx htup
       have ht:vy.isTup=false:=by simpa using htup
       have rc:=kN ry hny ht;have hl:=Rel.len rc;cases hs:ob.set i fs vy with
       | none=>rw[hs] at hv;cases hv
       | some ob' =>
        rw[hs] at hv;simp only[zJ,Option.some.injEq] at hv;subst hv
        obtain⟨w',hrun,hT⟩:=zQ7 (id:=id) (P:=P) S hob hg hal hs rc hmy (fun e=>by rw[hbx] at e;cases e) ⟨List.nodup_nil,fun _ h=>by cases h⟩
         (vr:=if(old.scal&&vy.scal)=true then ob.ver else ob.ver+1) (by
          split
          ·rename_i e;simp only[Bool.and_eq_true] at e;exact .inr ⟨rfl,e.2⟩
          ·exact .inl rfl) hd
        exact fin _ w' he (by rw[<-Array.length_toList,hl,qK hzal]) hrun hT
     ·split at hv
      ·cases hv
      ·rename_i hbx r hfz
       have ht:=zAd hfz;have rc:=kN ry hny ht;have hl:=Rel.len rc;obtain⟨h1,fp1,f,F,rr,hmr⟩:=zDm S rc hmy hfz;split at hv
       ·cases hv
       ·rename_i ob2 ho2
        split at hv
        ·cases hv
        ·rename_i old2 hg2
         split at hv
         ·rename_i hal2
          cases hs:ob2.set i fs r.1 with
          | none=>rw[hs] at hv;cases hv
          | some ob' =>
           rw[hs] at hv;simp only[zJ,Option.some.injEq] at hv;subst hv
           obtain⟨w',hrun,hT⟩:=zQ7 (id:=id) (P:=P) (a:=a) F.sim ho2 hg2 hal2 hs rr (by rw[hmr];intro q hq;cases hq) (fun _=>hmr) F.loose
            (vr:=if(old2.scal&&vy.scal)=true then ob2.ver else ob2.ver+1) (by
             split
             ·rename_i e
              simp only[Bool.and_eq_true] at e
              have:=zOn (s:=s) e.2
              rw[hfz] at this;cases this;exact .inr ⟨rfl,e.2⟩
             ·exact .inl rfl) (by rw[F.le.hd o' (S.obs o' ob hob).1];exact hd)
           rw[F.le.ofs o' (S.obs o' ob hob).1] at hrun;exact fin _ w' he (by rw[<-Array.length_toList,hl,qK hzal]) hrun (hT.le F.le)
         ·cases hv
    ·cases hv
 ·cases hv
theorem zKx:∀(new mid pre post:List Value) (off k:Nat),new.length=mid.length->pre.length=off+k ->
  (new.zipIdx k).foldl (fun(cs:Array Value) (p:Value×Nat)=>cs.setIfInBounds (off+p.2) p.1) (pre++(mid++post)).toArray=(pre++(new++post)).toArray
 | [],mid,pre,post,off,k,hl,hp=>by
  have:mid=[]:=List.length_eq_zero_iff.1 (by simpa using hl.symm)
  subst this;rfl
 | c::r,[],pre,post,off,k,hl,hp=>by simp at hl
 | c::r,m::mid,pre,post,off,k,hl,hp=>by
  simp only[List.zipIdx_cons,List.foldl_cons]
  have h1:(pre++(m::mid++post)).toArray.setIfInBounds (off+k) c=((pre++[c])++(mid++post)).toArray:=by
   rw[<-hp];simp[List.setIfInBounds_toArray]
  rw[h1,zKx r mid (pre++[c]) post off (k+1) (by simpa using hl) (by simp[hp];omega)];simp
theorem zQp {v:Array Value} {pre mid post:List Value} {cells:Array Value} (hc:cells.toList=pre++(mid++post)) (hl:v.size=mid.length) :
  (v.zipIdx.foldl (fun(cs:Array Value) (p:Value×Nat)=>cs.setIfInBounds (pre.length+p.2) p.1) cells).toList=pre++(v.toList++post):=by
 rw[<-Array.foldl_toList,Array.toList_zipIdx];have e:cells=(pre++(mid++post)).toArray:=by rw[<-hc]
 rw[e,zKx v.toList mid pre post pre.length 0 (by simpa using hl) rfl]
def zBy (h:Hs) (sh u:Nat->Prop) (w:World):List (Nat×V)->List (Nat×Value)->Prop
 | [],ps=>ps=[]
 | (i,v)::r,ps=>∃x q,ps=(i,x)::q/\RelS h sh w v x/\(∀o∈v.mention,u o)/\v≠.und/\zBy h sh u w r q
theorem zD1 (S:Sim w0 fa sh u h fp s a.tmps w):∀{ps:List (Nat×Operand)} {l:List (Nat×V)},xE s.env ps=some l->zBy h sh u w l (ps.map fun p=>(p.1,a.eval p.2))
 | [],l,hp=>by simp only[xE,Option.some.injEq] at hp;subst hp;rfl
 | (i,x)::r,l,hp=>by
  simp only[xE] at hp;cases hx:opV s.env x with
  | none=>rw[hx] at hp;cases hp
  | some v =>
   rw[hx] at hp;simp only at hp;cases hr:xE s.env r with
   | none=>rw[hr] at hp;cases hp
   | some q =>
    rw[hr] at hp;simp only[zJ,Option.some.injEq] at hp;subst hp;obtain⟨h1,h2,h3⟩:=zY S hx;exact⟨_,_,rfl,h1,h2,h3,zD1 S hr⟩
theorem zJ5 {cfg:Cfg} (C:CfgOK P cfg) {t:TypeId} {fields:Array Field} (hu:P.underlying t=some (.struct fields)) {places:List (Nat×Nat)}
  (hp:∀(i:Nat) (f:Field),fields.toList[i]? = some f->∀inf,P.info? f.type=some inf->places[i]? = some (f.offset,inf.size)) :
  ∀{l:List (Nat×V)} {ps:List (Nat×Value)} {xs xs':List V} {cells:Array Value},RelA h sh w xs cells.toList []->(∀q∈V.mentionL xs,u q)->xG cfg t xs l=some xs'->zBy h sh u w l ps ->
   ∃cells',Instr.fill (fun i=>places.toArray[i]?) cells ps=some cells'/\RelA h sh w xs' cells'.toList []/\∀q∈V.mentionL xs',u q
 | [],ps,xs,xs',cells,r,hm,hs,hR=>by
  simp only[xG,Option.some.injEq] at hs;subst hs;simp only[zBy] at hR;subst hR;exact⟨cells,rfl,r,hm⟩
 | (i,v)::l,ps,xs,xs',cells,r,hm,hs,hR=>by
  simp only[zBy] at hR;obtain⟨x,q,rfl,rx,hmx,hnu,hR⟩:=hR;simp only[xG] at hs;split at hs
  ·rename_i hf
   obtain⟨fields',f,z,y,inf,hu',hfi,hyi,hoff,_,_,hinf,hsz,_⟩:=xV C hf;rw[hu] at hu';cases hu';rw[hyi] at hs;simp only at hs;split at hs
   ·rename_i hal
    obtain⟨hal,ht⟩:=hal;obtain⟨d0,d1,d2,f0,f1,f2,hcs,hff,hl0,ry,_,hset⟩:=RelA.at_ r hm hyi;have rc:=kN rx hnu ht;have hlen:x.cells.size=d1.length:=by rw[<-Array.length_toList,Rel.len rc,Rel.len ry,qK hal]
    have hfl:f0=[]/\f2=[]:=by
     have:=congrArg List.length hff
     simp only[List.length_nil,List.length_append] at this;exact⟨List.length_eq_zero_iff.1 (by omega),List.length_eq_zero_iff.1 (by omega)⟩
    obtain⟨rfl,rfl⟩:=hfl
    have hpl:places.toArray[i]? = some (f.offset,inf.size):=by
     rw[List.getElem?_toArray];exact hp i f (by simpa using hfi) inf hinf
    have r':=hset h sh w (Goes.refl u h sh w) (fun _ _=>rfl) v x.cells.toList [] rc;have hfill:=zQp (v:=x.cells) hcs hlen;rw[hl0,<- hoff] at hfill
    obtain⟨cells',hrun,hr2,hm2⟩:=zJ5 C hu hp (xs:=xs.set i v) (cells:=x.cells.zipIdx.foldl (fun cs p=>cs.setIfInBounds (f.offset+p.2) p.1) cells) (by rw[hfill];simpa using r')
     (fun q hq=>by rcases zEx hq with hq|hq;exact hm q hq;exact hmx q hq) hs hR
    refine⟨cells',?_,hr2,hm2⟩;simp only[Instr.fill,hpl];rw[if_neg]
    ·exact hrun
    ·have hcl:cells.size=d0.length+(d1.length+d2.length):=by rw[<-Array.length_toList,hcs];simp
     rw[hlen,hcl,hl0,hsz,<- Rel.len ry,hoff];simp
   ·cases hs
  ·cases hs
theorem qA6 {cfg:Cfg} (C:CfgOK P cfg) (S:Sim w0 fa sh u h fp s a.tmps w) {o:Oper} {t:TypeId} {zs xs:List V} {ps:Array (Nat×Operand)} {l:List (Nat×V)} (ho:o.op = .build t ps) (hz:cfg.zero t=some (.agg zs)) (hfl:(cfg.flds t).isSome=true)
  (hp:xE s.env ps.toList=some l) (hv:xG cfg t zs l=some xs):Does P o a w (zE6 h sh u w (.agg xs)):=by
 obtain⟨i,zv,d,hi,hzv,hsz,_,_,hd,_,_,hmen,hrel,hagg,_⟩:=C.zero t _ hz;obtain⟨cs,hcs⟩:=hagg rfl;obtain⟨fs,hfs⟩:=Option.isSome_iff_exists.1 hfl;obtain⟨fields,hu,hmf,hinf⟩:=C.flds t fs hfs;subst hcs;obtain⟨places,hpl⟩:=MapFrom.mapM_some (f:=fun f:Field=>(P.info? f.type).map fun i=>(f.offset,i.size)) (l:=fields.toList) (fun f hf=>by obtain⟨i,hi⟩:=hinf f hf;exact⟨_,by rw[hi];rfl⟩)
 have hplaces:∀(i:Nat) (f:Field),fields.toList[i]? = some f->∀inf,P.info? f.type=some inf->places[i]? = some (f.offset,inf.size):=by
  intro i f hf inf hif
  have:=mapM_some_get hpl i f hf
  rw[hif] at this;exact this.symm
 have r0:=hrel h sh w;simp only[Rel,Value.cells] at r0;obtain⟨cells',hfill,hr,hm⟩:=zJ5 (u:=u) C hu hplaces r0 (by simp only[V.mention] at hmen;rw[hmen];intro q hq;cases hq) hv (zD1 S hp)
 have hb:P.built t ((ps.map fun p=>(p.1,a.eval p.2)).toList)=some cells':=by
  unfold Program.built;simp only[hi,hu,hzv,hpl,Value.cells,Array.toList_map];exact hfill
 refine qN (x:=.agg cells') (w':=w) ?_ ⟨rfl,?_,by simp only[V.mention];exact hm⟩
 ·unfold execOp
  rw[ho];show(do pure (Next.value (<- Instr.build t (ps.map fun p=>(p.1,a.eval p.2)))):Sem Next).run P w=_;rw[zD (run_build w t _ cells' hb)];rfl
 ·simp only[RelS,RelS0]
  exact⟨cells',rfl,hr⟩
end
end Go.Proofs.YtbcgenkegnmkhaaGreat.Ev
namespace Go.Proofs.YtbcgenkegnmkhaaGreat.Ev
open Go
set_option linter.unusedSectionVars false
set_option linter.unusedSimpArgs false
section
variable {P : Program} {u : Nat->Prop} {h : Hs} {sh : Nat->Prop} {w w0 : World} {fa : List Nat} {fp : Nat->List Nat} {s : St} {a : Act}
theorem zE3 {zc:Array Value} (hz:0<zc.size):∀n,(madeCells zc (n * zc.size)).toList=(List.replicate n zc.toList).flatten
 | 0=>by simp[madeCells]
 | n+1=>by
  have ih:=zE3 hz n;unfold madeCells at ih ⊢;rw[Array.toList_map,Array.toList_range] at ih ⊢;rw[Nat.succ_mul,Nat.add_comm,List.range_add,List.map_append,List.map_map,List.replicate_succ,List.flatten_cons]
  congr 1
  ·apply List.ext_getElem
   ·simp
   ·intro i h1 h2
    simp at h1;simp only[List.getElem_map,List.getElem_range,Array.getElem_toList];rw[Nat.mod_eq_of_lt h1];exact getElem!_pos zc i h1
  ·rw[<-ih]
   apply List.map_congr_left;intro i _;simp[Function.comp,Nat.add_mod]
theorem RelX.replicate {z:V} {zc:List Value} {n k:Nat} (r:Rel h sh w z zc []) (hk:zc.length=k):RelX h sh w k (List.replicate n z) (List.replicate n zc).flatten []:=by
 induction n with
 | zero=>simp[RelX]
 | succ n ih =>
  simp only[List.replicate_succ,RelX,List.flatten_cons];exact⟨zc,_,[],[],rfl,rfl,hk,r,ih⟩
theorem vP {sh0 u0:Nat->Prop} (S:Sim w0 fa sh u h fp s a.tmps w) {id:Nat} (hid:¬u id) {ob:Ob} (hbx:ob.bx=false) {c:Nat} {cs:Array Value} {e:TypeId} {ds:List Value} {f:List Nat} {w1:World} (hw1':w1.heap=w.heap/\w1.os=w.os/\w1.output=w.output)
  (hX:RelX h sh w ob.sz ob.xs ds f) (hm:V.mentionL ob.xs=[]) (hf:Loose w0 fa sh s.obs fp w f) (hlen:ob.xs.length<=c) (hcs:cs.toList=ds++cs.toList.drop ds.length) (hsz:c * ob.sz<=cs.size) {n:Nat} (hn:n<=c)
  (hu:∀o,u o->u0 o) (hu2:∀o,u0 o->u o) {h0:Hs} (hl0:h0.Le u0 h) (hs1:∀b,sh0 b->sh b) (hs2:∀b,sh b->sh0 b\/(b<w0.heap.size->b∈fa)) :
  Turn w0 fa sh0 u0 h0 (s.new id ob) a.tmps id (.ref id 0 n) (.slice (some ⟨w.heap.size,0,none⟩) n c) (w1.alloc (.cells cs e)):=by
 obtain⟨h1,h2,h3⟩:=zEh w1 (.cells cs e);have hw1:=hw1'.1;rw[hw1] at h1 h2 h3;have hkeep:∀b,b<w.heap.size->(w1.alloc (.cells cs e)).heap[b]? = w.heap[b]?:=fun b hb=>h2 b hb
 have hmm:=jM hm;have hX':RelX h sh (w1.alloc (.cells cs e)) ob.sz ob.xs ds f:=RelX.keep ⟨Hs.Le.refl u h,fun b hb=>⟨hb,hkeep b (S.shr b hb).1⟩⟩ hX (by rw[hm];intro q hq;cases hq) (fun b hb=>hkeep b (hf.ok b hb).1)
 obtain⟨h',fp',S',hle,hhd,hofs⟩:=S.newOb (w':=w1.alloc (.cells cs e)) (b:=w.heap.size) (off:=0) (c:=c) (ob:=ob) (ds:=ds) (fps:=f) hid ⟨by omega,hw1'.2.1,hw1'.2.2⟩ (fun b' hb' _=>hkeep b' hb')
  ⟨by omega,fun hb=>by have:=S.size.sz;omega,fun hb=>by have:=(S.shr _ hb).1;omega,fun o ob ho hb=>by have:=((S.own o ob ho).2 _ hb).1;omega⟩
  ⟨cs,e,h1,by omega⟩ hlen hX' (by
   have hat:At (w1.alloc (.cells cs e)) w.heap.size 0 (ds++cs.toList.drop ds.length):=by
    intro i v hi;rw[<-hcs] at hi;simp only[World.cell?,h1,Option.isSome_none,Bool.false_eq_true,if_false,Nat.zero_add]
    simpa using hi
   exact(At.append.1 hat).1)
  (fun x hx=>⟨fun _=>hmm x hx,by rw[hmm x hx];intro q hq;cases hq⟩) (fun hb=>by have:=(hf.ok _ hb).1;omega) hf (by rw[hbx];intro e;cases e)
 refine⟨sh,_,h',fp',S',?_,?_,fun o ho=>ho.imp (hu o) (fun e=>by omega),hs1,hs2,hl0.trans hle hu2,fun o ho=>.inl (hu2 o ho)⟩
 ·refine qV ?_ rfl (by intro e;cases e)
  simp only[Rel,hhd];refine⟨trivial,by omega,by simp⟩
 ·intro o ho
  simp only[V.mention,List.mem_singleton] at ho;exact .inr ho
theorem zLj {cfg:Cfg} (C:CfgOK P cfg) (S:Sim w0 fa sh u h fp s a.tmps w) {o:Oper} {t e:TypeId} {x y:Operand} {k k':IntKind} {n:Int} {z:V} {id:Nat} (ho:o.op = .makeSlice t x y) (hx:opV s.env x=some (.int k n)) (hy:opV s.env y=some (.int k' n))
  (he:cfg.elem t=some e) (hz:cfg.zero e=some z) (h0:0<=n) (hn:n<zCe) (hid:¬u id) :
  Does P o a w (Turn w0 fa sh u h (s.new id ⟨false,false,z.cells,List.replicate n.toNat z,0⟩) a.tmps id (.ref id 0 n.toNat)):=by
 have rx:=(zY S hx).1;have ry:=(zY S hy).1;rw[relS_int] at rx ry;have hu:=C.elem t e he;obtain⟨i,zv,d,hi,hzv,hsz,hpos,hby,_,_,_,hmen,hrel,_⟩:=C.zero e z hz;have r0:=hrel h sh w;have hl:=Rel.len r0;have hzs:zv.cells.size=z.cells:=by rw[<-hl];simp
 unfold zCe at hn
 have run:=run_make w t e i zv hu hi hzv k k' n n h0 (Int.le_refl _) (by
  have:(i.bytes:Int) * n<=65536 * n:=Int.mul_le_mul_of_nonneg_right (by omega) h0
  omega) (by omega)
 refine qN (w':=w.alloc (.cells (madeCells zv.cells (n.toNat * i.size)) e)) ?_ (vP (sh0:=sh) (u0:=u) S hid rfl (w1:=w) ⟨rfl,rfl,rfl⟩ (ds:=(List.replicate n.toNat zv.cells.toList).flatten) (f:=[]) (RelX.replicate r0 hl) ?_ ⟨List.nodup_nil,fun _ h=>by cases h⟩ (c:=n.toNat) (by simp) ?_ ?_ (Nat.le_refl _) (fun _ h=>h) (fun _ h=>h) (Hs.Le.refl u h) (fun _ h=>h) (fun _ h=>.inl h))
 ·unfold execOp
  rw[ho];simp only[rx,ry];show(do pure (Next.value (<- Instr.makeSlice t (.int k n) (.int k' n))):Sem Next).run P w=_;rw[zD run];rfl
 ·apply List.eq_nil_iff_forall_not_mem.2
  intro q hq;obtain⟨x,hx,hq⟩:=mem_mentionL.1 hq;rw[List.eq_of_mem_replicate hx,hmen] at hq;cases hq
 ·rw[hsz,<- hzs,zE3 (by omega),List.drop_length,List.append_nil]
 ·rw[size_madeCells,hsz];exact Nat.le_refl _
theorem zLa (size:Nat):∀(ps:List (Nat×Value)) (k:Nat) (pre rest:List Value) (cells:Array Value),ps.map (·.1)=List.range' k ps.length->(∀p∈ps,p.2.cells.size=size)->cells.toList=pre++rest->pre.length=k * size->rest.length=ps.length * size ->
  ∃cells',Instr.fill (fun i=>some (i * size,size)) cells ps=some cells'/\cells'.toList=pre++(ps.map (·.2.cells.toList)).flatten
 | [],k,pre,rest,cells,_,_,hc,_,hr=>by
  have:rest=[]:=List.length_eq_zero_iff.1 (by simpa using hr)
  subst this;exact⟨cells,rfl,by simpa using hc⟩
 | (i,x)::ps,k,pre,rest,cells,hi,hs,hc,hp,hr=>by
  simp only[List.map_cons,List.length_cons,List.range'_succ,List.cons.injEq] at hi;obtain⟨rfl,hi⟩:=hi;have hx:=hs (i,x) (List.mem_cons_self ..);simp only at hx;have hrl:size<=rest.length:=by rw[hr,List.length_cons,Nat.succ_mul];omega
  have hsplit:rest=rest.take size++rest.drop size:=(List.take_append_drop size rest).symm;rw[hsplit] at hc;have hf:=zQp (v:=x.cells) hc (by rw[List.length_take];omega);rw[hp] at hf;obtain⟨cells',h1,h2⟩:=zLa size ps (i+1) (pre++x.cells.toList) (rest.drop size) _ hi (fun p hpm=>hs p (List.mem_cons_of_mem _ hpm)) (by rw[hf,List.append_assoc]) (by simp[hp,hx,Nat.succ_mul]) (by rw[List.length_drop,hr,List.length_cons,Nat.succ_mul];omega);refine⟨cells',?_,by rw[h2];simp⟩;simp only[Instr.fill];rw[if_neg]
  ·exact h1
  ·rw[<-Array.length_toList (xs:=cells),hc,List.length_append,hp,List.length_append,List.length_take,List.length_drop,hx]
   simp;omega
theorem zVg {l:List (Nat×V)} {ps:List (Nat×Value)} {s0:St} {r:List V×St} (hR:zBy h sh u w l ps) (hf:V.fzL (l.map (·.2)) s0=some r) :
  RelA h sh w (l.map (·.2)) (ps.map (·.2.cells.toList)).flatten []/\(∀q∈V.mentionL (l.map (·.2)),u q)/\ps.map (·.1)=l.map (·.1):=by
 induction l generalizing ps s0 r with
 | nil =>
  simp only[zBy] at hR;subst hR;exact⟨by simp[RelA],(by intro q hq;cases hq),rfl⟩
 | cons p l ih =>
  obtain⟨i,v⟩:=p;simp only[zBy] at hR;obtain⟨x,q,rfl,rx,hmx,hnu,hR⟩:=hR;simp only[List.map_cons,V.fzL] at hf;cases hv:v.fz s0 with
  | none=>rw[hv] at hf;cases hf
  | some b =>
   rw[hv] at hf;simp only at hf;cases hq:V.fzL (l.map (·.2)) b.2 with
   | none=>rw[hq] at hf;cases hf
   | some d =>
    obtain⟨i1,i2,i3⟩:=ih hR hq;have rc:=kN rx hnu (zAd hv);refine⟨?_,?_,?_⟩
    ·simp only[List.map_cons,RelA,List.flatten_cons]
     exact⟨_,_,[],[],rfl,rfl,rc,i1⟩
    ·intro o ho
     simp only[List.map_cons,V.mentionL,List.mem_append] at ho;rcases ho with ho|ho
     ·exact hmx o ho
     ·exact i2 o ho
    ·simp[i3]
theorem RelA.toX {z:Nat}:∀{xs:List V} {cs:List Value} {f:List Nat},RelA h sh w xs cs f->(∀x∈xs,x.cells=z)->RelX h sh w z xs cs f
 | [],cs,f,r,_=>by simpa only[RelA,RelX] using r
 | x::q,cs,f,r,hz=>by
  simp only[RelA] at r;obtain⟨c1,c2,f1,f2,e,ef,r1,r2⟩:=r;simp only[RelX];exact⟨c1,c2,f1,f2,e,ef,by rw[Rel.len r1,hz x (List.mem_cons_self ..)],r1,RelA.toX r2 (fun y hy=>hz y (List.mem_cons_of_mem _ hy))⟩
theorem zJ4:∀{xs:List V} {s:St} {r:List V×St},V.fzL xs s=some r->r.1.length=xs.length
 | [],s,r,hv=>by simp only[V.fzL,Option.some.injEq] at hv;subst hv;rfl
 | x::q,s,r,hv=>by
  simp only[V.fzL] at hv;cases hx:x.fz s with
  | none=>rw[hx] at hv;cases hv
  | some a =>
   rw[hx] at hv;simp only at hv;cases hq:V.fzL q a.2 with
   | none=>rw[hq] at hv;cases hv
   | some b =>
    rw[hq] at hv;simp only[zJ,Option.some.injEq] at hv;subst hv;simp[zJ4 hq]
theorem zKw {z:V}:∀{xs:List V} {s:St} {r:List V×St},(∀x∈xs,z.alike x=true)->V.fzL xs s=some r->∀x∈r.1,z.alike x=true
 | [],s,r,_,hv,x,hx=>by simp only[V.fzL,Option.some.injEq] at hv;subst hv;cases hx
 | y::q,s,r,ha,hv,x,hx=>by
  simp only[V.fzL] at hv;cases hy:y.fz s with
  | none=>rw[hy] at hv;cases hv
  | some b =>
   rw[hy] at hv;simp only at hv;cases hq:V.fzL q b.2 with
   | none=>rw[hq] at hv;cases hv
   | some d =>
    rw[hq] at hv;simp only[zJ,Option.some.injEq] at hv;subst hv;rcases List.mem_cons.1 hx with rfl|hx
    ·exact zDk (ha y (List.mem_cons_self ..)) hy
    ·exact zKw (fun x hx=>ha x (List.mem_cons_of_mem _ hx)) hq x hx
theorem zJr {cfg:Cfg} (C:CfgOK P cfg) (S:Sim w0 fa sh u h fp s a.tmps w) {o:Oper} {t e:TypeId} {n:Nat} {ps:Array (Nat×Operand)} {l:List (Nat×V)} {z:V} {r:List V×St} {id:Nat} (ho:o.op = .buildSlice t n ps)
  (he:cfg.elem t=some e) (hz:cfg.zero e=some z) (hp:xE s.env ps.toList=some l) (hl:l.map (·.1)=List.range n) (hb:n * z.cells<=16777216) (ha:l.all (fun e=>z.alike e.2)=true) (hf:V.fzL (l.map (·.2)) s=some r) (hid:¬u id) :
  Does P o a w (Turn w0 fa sh u h (r.2.new id ⟨false,false,z.cells,r.1,0⟩) a.tmps id (.ref id 0 n)):=by
 have hu:=C.elem t e he;obtain⟨i,zv,d,hi,hzv,hsz,hpos,hby,_,_,_,hmen,hrel,_⟩:=C.zero e z hz;have r0:=hrel h sh w;have hl0:=Rel.len r0;have hzs:zv.cells.size=z.cells:=by rw[<-hl0];simp
 have hR:=zD1 S hp;obtain⟨rA,hmA,hidx⟩:=zVg hR hf;obtain⟨h1,fp1,f,F,rr,hmr⟩:=zGg S rA hmA hf;have hln:l.length=n:=by have:=congrArg List.length hl;simpa using this
 have hal:∀x∈l.map (·.2),z.alike x=true:=by
  intro x hx;obtain⟨p,hp,rfl⟩:=List.mem_map.1 hx;exact(List.all_eq_true.1 ha) p hp
 have hrl:r.1.length=n:=by rw[zJ4 hf];simpa using hln
 have hX:=RelA.toX (z:=z.cells) rr (fun x hx=>(qK (zKw hal hf x hx)).symm)
 let pv:List (Nat×Value):=ps.toList.map fun p=>(p.1,a.eval p.2)
 have hpl:pv.length=n:=by
  have:=congrArg List.length hidx
  simp only[List.length_map] at this
  simpa [pv,hln] using this
 have hsizes:∀p∈pv,p.2.cells.size=z.cells:=by
  have aux:∀{l:List (Nat×V)} {q:List (Nat×Value)},zBy h sh u w l q->(∀x∈l.map (·.2),z.alike x=true)->(∀x∈l.map (·.2),x.isTup=false)->∀p∈q,p.2.cells.size=z.cells:=by
   intro l
   induction l with
   | nil=>intro q hR _ _ p hp;simp only[zBy] at hR;subst hR;cases hp
   | cons b l ih =>
    intro q hR h1 h2 p hp;obtain⟨j,v⟩:=b;simp only[zBy] at hR;obtain⟨x,q',rfl,rx,_,hnu,hR⟩:=hR;rcases List.mem_cons.1 hp with rfl|hp
    ·have rc:=kN rx hnu (h2 v (by simp))
     show x.cells.size=_;rw[<-Array.length_toList,Rel.len rc,qK (h1 v (by simp))]
    ·exact ih hR (fun y hy=>h1 y (by simp at hy ⊢;exact .inr hy)) (fun y hy=>h2 y (by simp at hy ⊢;exact .inr hy)) p hp
  refine aux hR hal ?_
  have:∀{xs:List V} {s:St} {r:List V×St},V.fzL xs s=some r->∀x∈xs,x.isTup=false:=by
   intro xs
   induction xs with
   | nil=>intro s r _ x hx;cases hx
   | cons y q ih =>
    intro s r hv x hx;simp only[V.fzL] at hv;cases hy:y.fz s with
    | none=>rw[hy] at hv;cases hv
    | some b =>
     rw[hy] at hv;simp only at hv;cases hq:V.fzL q b.2 with
     | none=>rw[hq] at hv;cases hv
     | some d =>
      rcases List.mem_cons.1 hx with rfl|hx
      ·exact zAd hy
      ·exact ih hq x hx
  exact this hf
 have hmk:∀zc:Array Value,((Array.range (n * i.size)).map (zc[· % zc.size]!)).toList.length=pv.length * z.cells:=by
  intro zc;simp[hpl,hsz]
 have key:∀zc:Array Value,∃cells',Instr.fill (fun j=>some (j * i.size,i.size)) ((Array.range (n * i.size)).map (zc[· % zc.size]!)) pv=some cells'/\cells'.toList=(pv.map (·.2.cells.toList)).flatten:=by
  intro zc;obtain⟨cells',h1,h2⟩:=zLa z.cells pv 0 [] _ ((Array.range (n * i.size)).map (zc[· % zc.size]!)) (by rw[hidx,hl,hpl,List.range_eq_range']) hsizes (by simp) (by simp) (hmk zc);rw[hsz];exact⟨cells',by rw[hsz] at h1;exact h1,by simpa using h2⟩
 have run:∃cells',(Instr.buildSlice t n (ps.map fun p=>(p.1,a.eval p.2))).run P w = .ok (.slice (some ⟨w.heap.size,0,none⟩) n n) (w.alloc (.cells cells' e))/\cells'.toList=(pv.map (·.2.cells.toList)).flatten:=by
  unfold Instr.buildSlice;rw[zD (zZ hu)];simp only[];rw[zD (yY hi)];rw[if_neg (by rw[hsz];omega)]
  by_cases h0:n * i.size=0
  ·rw[if_pos h0]
   rw[zD (qI P _ w)];obtain⟨cells',k1,k2⟩:=key #[];refine⟨cells',?_,k2⟩;simp only[Array.toList_map];have k1':Instr.fill (fun j=>some (j * i.size,i.size)) ((Array.range (n * i.size)).map ((#[]:Array Value)[· % (#[]:Array Value).size]!)) (ps.toList.map fun p=>(p.1,a.eval p.2))=some cells':=k1;rw[k1']
   rfl
  ·rw[if_neg h0]
   obtain⟨cells',k1,k2⟩:=key zv.cells;refine⟨cells',?_,k2⟩;rw[zD (zCi hi hzv),zD (qI P _ w)];simp only[Array.toList_map];have k1':Instr.fill (fun j=>some (j * i.size,i.size)) ((Array.range (n * i.size)).map (zv.cells[· % zv.cells.size]!)) (ps.toList.map fun p=>(p.1,a.eval p.2))=some cells':=k1;rw[k1']
   rfl
 obtain⟨cells',hrun,hcl⟩:=run;have hXl:=RelX.len hX;refine qN (w':=w.alloc (.cells cells' e)) ?_ (vP (sh0:=sh) (u0:=u) F.sim hid rfl (w1:=w) ⟨rfl,rfl,rfl⟩ (f:=f) (ob:=⟨false,false,z.cells,r.1,0⟩) hX hmr F.loose (c:=n) (by rw[hrl];exact Nat.le_refl _) ?_ ?_ (Nat.le_refl _) (fun _ h=>h) (fun _ h=>h) F.le (fun _ h=>h) (fun _ h=>.inl h))
 ·unfold execOp
  rw[ho];show(do pure (Next.value (<- Instr.buildSlice t n (ps.map fun p=>(p.1,a.eval p.2)))):Sem Next).run P w=_;rw[zD hrun];rfl
 ·rw[hcl,List.drop_length,List.append_nil]
 ·rw[<-Array.length_toList,hcl]
  show n * z.cells<=_
  have:((pv.map (·.2.cells.toList)).flatten).length=r.1.length * z.cells:=hXl
  rw[this,hrl];exact Nat.le_refl _
end
end Go.Proofs.YtbcgenkegnmkhaaGreat.Ev
