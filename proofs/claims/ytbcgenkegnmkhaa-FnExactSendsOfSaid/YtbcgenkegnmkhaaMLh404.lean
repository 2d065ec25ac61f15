/- Part 4 of the proof that the law named in the last part returns true at every argument: an evaluator of the program, shown sound, and its runs. No further conditions. -/
import Derived.Test.YtbcgenkegnmkhaaMLh403
import Derived.Test.YtbcgenkegnmkhaaProg
import Derived.KernelRfl
namespace Go.Proofs.Ytbcgenkegnmkhaa.Ev
open Go
set_option maxRecDepth 100000
def tyZ : List (Nat × V) := [
  (1,.und),
  (2,.int .i64 0),
  (3,.int .i64 0),
  (4,.bool false),
  (5,.int .u8 0),
  (6,.int .u8 0),
  (12,.int .u64 0),
  (22,.lst true 1 []),
  (24,.lst true 7 []),
  (29,.lst true 3 []),
  (33,.agg [.int .i64 0,.lst true 3 []]),
  (38,.agg [.int .i64 0,.int .i64 0]),
  (42,.agg [.int .i64 0,.int .i64 0,.int .i64 0]),
  (43,.lst true 7 []),
  (44,.lst true 2 []),
  (47,.lst true 6 []),
  (48,.lst true 1 []),
  (50,.agg [.int .i64 0,.lst true 6 [],.lst true 1 []]),
  (53,.lst true 2 []),
  (62,.und),
  (82,.agg [.int .i64 0,.int .i64 0,.int .i64 0,.int .i64 0,.int .i64 0,.int .i64 0,.lst true 1 []]),
  (85,.agg [.lst true 1 [],.int .i64 0]),
  (91,.agg [.int .i64 0,.int .i64 0,.int .i64 0,.int .i64 0,.int .i64 0,.int .i64 0,.lst true 1 []]),
  (93,.agg [.lst true 1 [],.int .i64 0]),
  (104,.agg [.lst true 1 [],.int .i64 0]),
  (111,.und),
  (114,.und),
  (117,.und),
  (119,.und),
  (124,.lst true 1 []),
  (127,.agg [.int .i64 0,.int .i64 0,.int .i64 0,.int .i64 0,.lst true 2 [],.lst true 3 []]),
  (137,.lst true 1 []),
  (153,.lst true 1 []),
  (155,.int .u64 0)]
def tyE : List (Nat × TypeId) := [(22,5),(24,91),(29,42),(43,82),(44,85),(47,127),(48,2),(53,93),(124,53),(137,29),(153,3)]
def tyF : List (Nat × List (Nat × TypeId)) := [
  (33,[(0,2),(1,29)]),
  (38,[(0,2),(1,2)]),
  (42,[(0,2),(1,2),(2,2)]),
  (50,[(0,2),(1,47),(2,48)]),
  (82,[(0,2),(1,2),(2,2),(3,2),(4,2),(5,2),(6,48)]),
  (85,[(0,48),(1,2)]),
  (91,[(0,2),(1,2),(2,2),(3,2),(4,2),(5,2),(6,48)]),
  (93,[(0,48),(1,2)]),
  (104,[(0,22),(1,2)]),
  (127,[(0,2),(1,2),(2,2),(3,2),(4,53),(5,29)])]
def tyI : List (Nat × IntKind) := [(2,.i64),(3,.i64),(5,.u8),(6,.u8),(12,.u64),(155,.u64)]
abbrev tys : Tys := ⟨geta tyZ,geta tyE,geta tyF,geta tyI⟩
def keepT : FuncId → Nat → Option (List Nat)
  | 3,8 => some [3,6,7]
  | 3,13 => some [3,6,7,8]
  | 3,19 => some [3,6,7,8,9]
  | 8,4 => some [0,3]
  | 12,7 => some [0,1,2,6,23,24,25]
  | 13,7 => some [0,1,2,6,8]
  | 18,5 => some [0,1,5]
  | 19,5 => some [0,1,5]
  | 21,3 => some [0,3,4]
  | 22,3 => some [0,3,4]
  | 25,4 => some [0,1,5]
  | 26,4 => some [0,1,5]
  | 27,2 => some [0,1,5]
  | 28,2 => some [0,1,5]
  | 34,7 => some [0,1,5,6]
  | 34,27 => some [5,8,9]
  | 37,5 => some [0,4,15,16,17]
  | 37,12 => some [0,4,5,6,15,16,17,34,35,36]
  | 39,3 => some [0,1,5,6]
  | 43,4 => some [6,7,17,18,19]
  | 44,7 => some [0,1,6]
  | 46,3 => some [1,6,7]
  | 46,7 => some [1,6,7,8,9]
  | 46,14 => some [6,10,11]
  | 47,4 => some [0,1,10,11,12]
  | 48,3 => some [0,2,8,9,12,13,14]
  | 54,5 => some [0,1,6]
  | 56,5 => some [0,1,2,3,4,5,14,15,16,17]
  | 56,9 => some [0,1,2,3,4,5,14,15,16,17,18,19]
  | 56,14 => some [0,1,2,3,4,5,14,15,16,17,18,19,20,21]
  | 61,5 => some [1,13,14,15]
  | 62,3 => some [2,5,6,7,8,10,11,16,17,28,29,30]
  | 62,6 => some [2,5,6,7,8,10,11,16,17,19,28,29,30,38,39,40]
  | 62,10 => some [2,5,6,7,8,10,11,16,17,19,20,28,29,30,38,39,40,51,52,53]
  | 63,4 => some [0,1,5]
  | 64,4 => some [0,1,5]
  | 67,2 => some [0,1,5]
  | 68,2 => some [0,1,5]
  | 69,2 => some [0,1,5]
  | 70,2 => some [0,1,5]
  | 71,5 => some [0,3,4]
  | 79,3 => some [1,5,9,10,11]
  | 84,12 => some [1,2,47,48,49]
  | 88,3 => some [0,3,9,10,11]
  | 88,11 => some [6,25,26,27]
  | 91,5 => some [0,1,5,6]
  | 100,4 => some [0,3]
  | 101,3 => some [0,1,5,6]
  | 103,3 => some [0,1,2,3,4,11,12]
  | 104,3 => some [0,3,4]
  | 106,4 => some [0,9,10,11]
  | 108,3 => some [2,7,13,14,15]
  | 112,2 => some [0,1,5]
  | 113,2 => some [0,1,5]
  | 114,2 => some [0,1,5]
  | 115,11 => some [0,4,6,7,8]
  | 116,2 => some [0,1,7,8]
  | 118,4 => some [0,1,12,13]
  | 122,2 => some [0,1,2,6,7,8]
  | 122,7 => some [0,1,2,6]
  | 122,9 => some [0,1,2,6,7,8]
  | 123,3 => some [3,6,7,8]
  | 125,2 => some [0,1,7,8]
  | 126,4 => some [0,3]
  | 127,2 => some [0,1,5]
  | 131,4 => some [8,9,10]
  | 132,2 => some [0,1,11,12]
  | 137,4 => some [0,1,5]
  | 138,2 => some [0,1,7,8]
  | 139,1 => some [0,1,2,3,8]
  | 139,4 => some [0,1,2,3,8,9]
  | 140,3 => some [0,1,4,10,11]
  | 140,9 => some [0,10,13]
  | 140,15 => some [0,2,4,14,15]
  | 140,21 => some [0,14,17]
  | 140,33 => some [0,1,2,3,4,18,19,20,21,22]
  | 147,3 => some [3,6,7,8]
  | 149,2 => some [0,2,4,10,11]
  | 151,3 => some [0,3,4]
  | 153,1 => some [0,1,2,3,10]
  | _,_ => none
def outT : FuncId → Nat → Option (List Nat)
  | 3,8 => some [2]
  | 3,13 => some [2,3,6,7]
  | 3,19 => some [2,3,6,7,8]
  | 8,4 => some [2]
  | 12,7 => some [1,2,6]
  | 13,7 => some [1,2,6]
  | 18,5 => some [1,4]
  | 19,5 => some [1,4]
  | 21,3 => some [3]
  | 22,3 => some [3]
  | 25,4 => some [4]
  | 26,4 => some [4]
  | 27,2 => some [1]
  | 28,2 => some [1]
  | 34,7 => some [0,4,5]
  | 34,27 => some [4]
  | 37,5 => some [2,3,4]
  | 37,12 => some [0,2,3,4,6,15,16,17]
  | 39,3 => some [5]
  | 43,4 => some [7]
  | 44,7 => some [4]
  | 46,3 => some [6]
  | 46,7 => some [1,6,7,8,9]
  | 46,14 => some [4,5,10]
  | 47,4 => some [4]
  | 48,3 => some [8,9]
  | 54,5 => some [4]
  | 56,5 => some [14,15]
  | 56,9 => some [0,1,2,3,4,5,14,15,16,17]
  | 56,14 => some [0,1,2,3,4,5,14,15,16,17,18,19]
  | 61,5 => some [4]
  | 62,3 => some [16,17]
  | 62,6 => some [2,5,6,7,8,10,11,16,17,28,29,30]
  | 62,10 => some [2,5,6,7,8,10,11,16,17,19,28,29,30,38,39,40]
  | 63,4 => some [4]
  | 64,4 => some [4]
  | 67,2 => some [1]
  | 68,2 => some [1]
  | 69,2 => some [1,4]
  | 70,2 => some [1,4]
  | 71,5 => some [3]
  | 79,3 => some [5]
  | 84,12 => some [4]
  | 88,3 => some [0,3]
  | 88,11 => some [6]
  | 91,5 => some [0,5]
  | 100,4 => some [2]
  | 101,3 => some [5]
  | 103,3 => some [11]
  | 104,3 => some [3]
  | 106,4 => some [2]
  | 108,3 => some [7]
  | 112,2 => some [1]
  | 113,2 => some [1,4]
  | 114,2 => some [1,4]
  | 115,11 => some [4,6]
  | 116,2 => some [4]
  | 118,4 => some [4]
  | 122,2 => some [0,1,2,6,7]
  | 122,7 => some []
  | 122,9 => some [0,1,2,6,7]
  | 123,3 => some [2,3]
  | 125,2 => some [4]
  | 126,4 => some [2]
  | 127,2 => some [0,1,4]
  | 131,4 => some [2]
  | 132,2 => some [0,1,4]
  | 137,4 => some [4]
  | 138,2 => some [4]
  | 139,1 => some []
  | 139,4 => some [0,1,2,3,8]
  | 140,3 => some [0,1,10]
  | 140,9 => some []
  | 140,15 => some [0,2,14]
  | 140,21 => some []
  | 140,33 => some [0,1,2,3,4,18,19,20]
  | 147,3 => some [3]
  | 149,2 => some [0,2,4,10]
  | 151,3 => some [3]
  | 153,1 => some []
  | _,_ => none
def mdT : FuncId → List Md
  | 27 => [.io]
  | 28 => [.io]
  | 32 => [.io]
  | 33 => [.io]
  | 39 => [.io]
  | 40 => [.io]
  | 41 => [.io,.take]
  | 67 => [.io]
  | 68 => [.io]
  | 71 => [.io]
  | 72 => [.io]
  | 86 => [.io]
  | 89 => [.io]
  | 91 => [.take]
  | 112 => [.io]
  | 115 => [.io]
  | 122 => [.io]
  | 139 => [.io]
  | 140 => [.io]
  | 149 => [.io]
  | 153 => [.io]
  | _ => []
def nilT : FuncId → Bool
  | 133 => true
  | _ => false
def inT : FuncId → Bool
  | 27 => true
  | 28 => true
  | 29 => true
  | 31 => true
  | 67 => true
  | 68 => true
  | 112 => true
  | 121 => true
  | _ => false
def plT : FuncId → Bool
  | 27 => true
  | 28 => true
  | 67 => true
  | 68 => true
  | 112 => true
  | _ => false
def hsT : FuncId → Bool
  | _ => false
def alT : FuncId → Nat → Nat
  | 71,7 => 1
  | 71,8 => 1
  | 71,9 => 2
  | _,_ => 0
def tb : Tab := ⟨mdT,keepT,outT,nilT,inT,plT,hsT,alT⟩
theorem table_of {α : Type} {f : Nat → Option α} : ∀ {l : List (Nat × α)},l.map (fun p => f p.1) = l.map (fun p => some p.2) → ∀ {t : Nat} {z : α},geta l t = some z → f t = some z
  | [],_,t,z,h => by cases h
  | (k,x) :: r,e,t,z,h => by
    simp only [List.map_cons,List.cons.injEq] at e
    simp only [geta] at h
    split at h
    · rename_i hk;subst hk;rw [← h];exact e.1
    · exact table_of e.2 h
@[irreducible] noncomputable def cf : Cfg := cfgOf Try.prog tb
@[irreducible] noncomputable def oc : Orc := Or Try.prog tb
theorem tys_ok : TysOK tys cf where
  zero t z h := table_of (f:=cf.zero) (by unfold cf;kernel_rfl) h
  elem t z h := table_of (f:=cf.elem) (by unfold cf;kernel_rfl) h
  flds t z h := table_of (f:=cf.flds) (by unfold cf;kernel_rfl) h
  ints t z h := table_of (f:=cf.ints) (by unfold cf;kernel_rfl) h
theorem cf_md : cf.md = mdT := by unfold cf;rfl
theorem cf_in : cf.inB = inT := by unfold cf;rfl
theorem cf_pl : cf.plB = plT := by unfold cf;rfl
theorem cf_al : cf.alR = alT := by unfold cf;rfl
theorem code_of {f : FuncId} {fn : Func} (h : Try.prog.funcs[f]? = some fn) (h2 : fnOk fn = true) : cf.code f = some fn := by
  unfold cf
  simp only [cfgOf,h,h2,if_true]
theorem cd5 : cf.code 5 = some Try.f5 := code_of Try.func5 (by kernel_rfl)
theorem cd8 : cf.code 8 = some Try.f8 := code_of Try.func8 (by kernel_rfl)
theorem cd18 : cf.code 18 = some Try.f18 := code_of Try.func18 (by kernel_rfl)
theorem cd19 : cf.code 19 = some Try.f19 := code_of Try.func19 (by kernel_rfl)
theorem cd20 : cf.code 20 = some Try.f20 := code_of Try.func20 (by kernel_rfl)
theorem cd21 : cf.code 21 = some Try.f21 := code_of Try.func21 (by kernel_rfl)
theorem cd22 : cf.code 22 = some Try.f22 := code_of Try.func22 (by kernel_rfl)
theorem cd23 : cf.code 23 = some Try.f23 := code_of Try.func23 (by kernel_rfl)
theorem cd24 : cf.code 24 = some Try.f24 := code_of Try.func24 (by kernel_rfl)
theorem cd25 : cf.code 25 = some Try.f25 := code_of Try.func25 (by kernel_rfl)
theorem cd26 : cf.code 26 = some Try.f26 := code_of Try.func26 (by kernel_rfl)
theorem cd27 : cf.code 27 = some Try.f27 := code_of Try.func27 (by kernel_rfl)
theorem cd28 : cf.code 28 = some Try.f28 := code_of Try.func28 (by kernel_rfl)
theorem cd29 : cf.code 29 = some Try.f29 := code_of Try.func29 (by kernel_rfl)
theorem cd30 : cf.code 30 = some Try.f30 := code_of Try.func30 (by kernel_rfl)
theorem cd34 : cf.code 34 = some Try.f34 := code_of Try.func34 (by kernel_rfl)
theorem cd37 : cf.code 37 = some Try.f37 := code_of Try.func37 (by kernel_rfl)
theorem cd50 : cf.code 50 = some Try.f50 := code_of Try.func50 (by kernel_rfl)
theorem cd51 : cf.code 51 = some Try.f51 := code_of Try.func51 (by kernel_rfl)
theorem cd52 : cf.code 52 = some Try.f52 := code_of Try.func52 (by kernel_rfl)
theorem cd53 : cf.code 53 = some Try.f53 := code_of Try.func53 (by kernel_rfl)
theorem cd54 : cf.code 54 = some Try.f54 := code_of Try.func54 (by kernel_rfl)
theorem cd55 : cf.code 55 = some Try.f55 := code_of Try.func55 (by kernel_rfl)
theorem cd56 : cf.code 56 = some Try.f56 := code_of Try.func56 (by kernel_rfl)
theorem cd57 : cf.code 57 = some Try.f57 := code_of Try.func57 (by kernel_rfl)
theorem cd58 : cf.code 58 = some Try.f58 := code_of Try.func58 (by kernel_rfl)
theorem cd59 : cf.code 59 = some Try.f59 := code_of Try.func59 (by kernel_rfl)
theorem cd60 : cf.code 60 = some Try.f60 := code_of Try.func60 (by kernel_rfl)
theorem cd61 : cf.code 61 = some Try.f61 := code_of Try.func61 (by kernel_rfl)
theorem cd62 : cf.code 62 = some Try.f62 := code_of Try.func62 (by kernel_rfl)
theorem cd63 : cf.code 63 = some Try.f63 := code_of Try.func63 (by kernel_rfl)
theorem cd64 : cf.code 64 = some Try.f64 := code_of Try.func64 (by kernel_rfl)
theorem cd65 : cf.code 65 = some Try.f65 := code_of Try.func65 (by kernel_rfl)
theorem cd66 : cf.code 66 = some Try.f66 := code_of Try.func66 (by kernel_rfl)
theorem cd67 : cf.code 67 = some Try.f67 := code_of Try.func67 (by kernel_rfl)
theorem cd68 : cf.code 68 = some Try.f68 := code_of Try.func68 (by kernel_rfl)
theorem cd69 : cf.code 69 = some Try.f69 := code_of Try.func69 (by kernel_rfl)
theorem cd70 : cf.code 70 = some Try.f70 := code_of Try.func70 (by kernel_rfl)
theorem cd74 : cf.code 74 = some Try.f74 := code_of Try.func74 (by kernel_rfl)
theorem cd75 : cf.code 75 = some Try.f75 := code_of Try.func75 (by kernel_rfl)
theorem cd76 : cf.code 76 = some Try.f76 := code_of Try.func76 (by kernel_rfl)
theorem cd77 : cf.code 77 = some Try.f77 := code_of Try.func77 (by kernel_rfl)
theorem cd79 : cf.code 79 = some Try.f79 := code_of Try.func79 (by kernel_rfl)
theorem cd81 : cf.code 81 = some Try.f81 := code_of Try.func81 (by kernel_rfl)
theorem cd82 : cf.code 82 = some Try.f82 := code_of Try.func82 (by kernel_rfl)
theorem cd83 : cf.code 83 = some Try.f83 := code_of Try.func83 (by kernel_rfl)
theorem cd84 : cf.code 84 = some Try.f84 := code_of Try.func84 (by kernel_rfl)
theorem cd85 : cf.code 85 = some Try.f85 := code_of Try.func85 (by kernel_rfl)
theorem cd87 : cf.code 87 = some Try.f87 := code_of Try.func87 (by kernel_rfl)
theorem cd97 : cf.code 97 = some Try.f97 := code_of Try.func97 (by kernel_rfl)
theorem cd98 : cf.code 98 = some Try.f98 := code_of Try.func98 (by kernel_rfl)
theorem cd99 : cf.code 99 = some Try.f99 := code_of Try.func99 (by kernel_rfl)
theorem cd100 : cf.code 100 = some Try.f100 := code_of Try.func100 (by kernel_rfl)
theorem cd101 : cf.code 101 = some Try.f101 := code_of Try.func101 (by kernel_rfl)
theorem cd102 : cf.code 102 = some Try.f102 := code_of Try.func102 (by kernel_rfl)
theorem cd103 : cf.code 103 = some Try.f103 := code_of Try.func103 (by kernel_rfl)
theorem cd104 : cf.code 104 = some Try.f104 := code_of Try.func104 (by kernel_rfl)
theorem cd105 : cf.code 105 = some Try.f105 := code_of Try.func105 (by kernel_rfl)
theorem cd106 : cf.code 106 = some Try.f106 := code_of Try.func106 (by kernel_rfl)
theorem cd107 : cf.code 107 = some Try.f107 := code_of Try.func107 (by kernel_rfl)
theorem cd108 : cf.code 108 = some Try.f108 := code_of Try.func108 (by kernel_rfl)
theorem cd109 : cf.code 109 = some Try.f109 := code_of Try.func109 (by kernel_rfl)
theorem cd110 : cf.code 110 = some Try.f110 := code_of Try.func110 (by kernel_rfl)
theorem cd111 : cf.code 111 = some Try.f111 := code_of Try.func111 (by kernel_rfl)
theorem cd112 : cf.code 112 = some Try.f112 := code_of Try.func112 (by kernel_rfl)
theorem cd113 : cf.code 113 = some Try.f113 := code_of Try.func113 (by kernel_rfl)
theorem cd114 : cf.code 114 = some Try.f114 := code_of Try.func114 (by kernel_rfl)
theorem cd117 : cf.code 117 = some Try.f117 := code_of Try.func117 (by kernel_rfl)
theorem cd118 : cf.code 118 = some Try.f118 := code_of Try.func118 (by kernel_rfl)
theorem cd119 : cf.code 119 = some Try.f119 := code_of Try.func119 (by kernel_rfl)
theorem cd120 : cf.code 120 = some Try.f120 := code_of Try.func120 (by kernel_rfl)
theorem cd124 : cf.code 124 = some Try.f124 := code_of Try.func124 (by kernel_rfl)
theorem cd126 : cf.code 126 = some Try.f126 := code_of Try.func126 (by kernel_rfl)
theorem cd127 : cf.code 127 = some Try.f127 := code_of Try.func127 (by kernel_rfl)
theorem cd128 : cf.code 128 = some Try.f128 := code_of Try.func128 (by kernel_rfl)
theorem cd129 : cf.code 129 = some Try.f129 := code_of Try.func129 (by kernel_rfl)
theorem cd130 : cf.code 130 = some Try.f130 := code_of Try.func130 (by kernel_rfl)
theorem cd131 : cf.code 131 = some Try.f131 := code_of Try.func131 (by kernel_rfl)
theorem cd132 : cf.code 132 = some Try.f132 := code_of Try.func132 (by kernel_rfl)
theorem cd133 : cf.code 133 = some Try.f133 := code_of Try.func133 (by kernel_rfl)
theorem cd134 : cf.code 134 = some Try.f134 := code_of Try.func134 (by kernel_rfl)
theorem cd135 : cf.code 135 = some Try.f135 := code_of Try.func135 (by kernel_rfl)
theorem cd136 : cf.code 136 = some Try.f136 := code_of Try.func136 (by kernel_rfl)
theorem cd137 : cf.code 137 = some Try.f137 := code_of Try.func137 (by kernel_rfl)
theorem cd138 : cf.code 138 = some Try.f138 := code_of Try.func138 (by kernel_rfl)
theorem cd141 : cf.code 141 = some Try.f141 := code_of Try.func141 (by kernel_rfl)
theorem cd142 : cf.code 142 = some Try.f142 := code_of Try.func142 (by kernel_rfl)
theorem cd143 : cf.code 143 = some Try.f143 := code_of Try.func143 (by kernel_rfl)
theorem cd144 : cf.code 144 = some Try.f144 := code_of Try.func144 (by kernel_rfl)
theorem cd145 : cf.code 145 = some Try.f145 := code_of Try.func145 (by kernel_rfl)
theorem cd146 : cf.code 146 = some Try.f146 := code_of Try.func146 (by kernel_rfl)
theorem cd147 : cf.code 147 = some Try.f147 := code_of Try.func147 (by kernel_rfl)
theorem cd148 : cf.code 148 = some Try.f148 := code_of Try.func148 (by kernel_rfl)
theorem cd150 : cf.code 150 = some Try.f150 := code_of Try.func150 (by kernel_rfl)
theorem cd151 : cf.code 151 = some Try.f151 := code_of Try.func151 (by kernel_rfl)
theorem cd152 : cf.code 152 = some Try.f152 := code_of Try.func152 (by kernel_rfl)
end Go.Proofs.Ytbcgenkegnmkhaa.Ev
namespace Go.Proofs.Ytbcgenkegnmkhaa.Ev
open Go
abbrev St.re (e : List (Nat × V)) (s : St) : St := ⟨e,s.obs,s.nxt⟩
theorem at_re (e : List (Nat × V)) (s : St) (o i : Nat) (fs : List Nat) (ver n : Nat) : St.at (s.re e) o i fs ver n = St.at s o i fs ver n := rfl
theorem take_re (e : List (Nat × V)) (s : St) (o i : Nat) (fs : List Nat) (ver n : Nat) : St.take (s.re e) o i fs ver n = mp (s.take o i fs ver n) fun r => (r.1,r.2.1,r.2.2.re e) := by
  unfold St.take
  rw [at_re]
  cases s.at o i fs ver n with
  | none => rfl
  | some a => cases h : a.2.2.set i fs .und <;> simp [mp,h]
theorem takeQ_re (e : List (Nat × V)) (s : St) (o i : Nat) (fs : List Nat) (ver n : Nat) : St.takeQ (s.re e) o i fs ver n = mp (s.takeQ o i fs ver n) fun r => (r.1,r.2.1,r.2.2.re e) := by
  unfold St.takeQ
  rw [at_re]
  cases s.at o i fs ver n with
  | none => rfl
  | some a => cases h : a.2.2.set i fs .und <;> simp [mp,h]
theorem give_re (e : List (Nat × V)) (s : St) (o lo n : Nat) : St.give (s.re e) o lo n = mp (s.give o lo n) fun r => (r.1,r.2.1,r.2.2.re e) := by
  unfold St.give
  show (match geta s.obs o with | none => none | some ob => _) = _
  cases geta s.obs o with
  | none => rfl
  | some ob =>
    simp only
    by_cases h : ob.bx = false ∧ ob.fx = false ∧ lo + n ≤ ob.xs.length
    · rw [if_pos h,if_pos h];rfl
    · rw [if_neg h,if_neg h];rfl
theorem moveRow_re (e : List (Nat × V)) (s : St) (o lo n : Nat) : St.moveRow (s.re e) o lo n = mp (s.moveRow o lo n) fun r => (r.1,r.2.re e) := by
  unfold St.moveRow
  show (match geta s.obs o with | none => none | some ob => _) = _
  cases geta s.obs o with
  | none => rfl
  | some ob =>
    simp only
    by_cases h : ob.bx = false ∧ lo + n ≤ ob.xs.length
    · rw [if_pos h,if_pos h];rfl
    · rw [if_neg h,if_neg h];rfl
theorem copyRow_re (e : List (Nat × V)) (s : St) (o lo n : Nat) : St.copyRow (s.re e) o lo n = mp (s.copyRow o lo n) fun r => (r.1,r.2.re e) := by
  unfold St.copyRow
  show (match geta s.obs o with | none => none | some ob => _) = _
  cases geta s.obs o with
  | none => rfl
  | some ob =>
    simp only
    by_cases h : ob.bx = false ∧ lo + n ≤ ob.xs.length
    · rw [if_pos h,if_pos h];rfl
    · rw [if_neg h,if_neg h];rfl
theorem copyPlc_re (e : List (Nat × V)) (s : St) (o i : Nat) (fs : List Nat) (ver n : Nat) : St.copyPlc (s.re e) o i fs ver n = mp (s.copyPlc o i fs ver n) fun r => (r.1,r.2.re e) := by
  unfold St.copyPlc
  rw [at_re]
  cases s.at o i fs ver n with
  | none => rfl
  | some a => cases h : a.2.2.set i fs (.lst false 0 (V.shareL a.2.1)) <;> simp [mp,h]
mutual
theorem fz_re (e : List (Nat × V)) : ∀ (v : V) (s : St),V.fz v (s.re e) = mp (V.fz v s) fun r => (r.1,r.2.re e)
  | .int _ _,s => rfl
  | .bool _,s => rfl
  | .str _,s => rfl
  | .lst false _ _,s => by simp [V.fz,mp]
  | .lst true _ [],s => by simp [V.fz,mp]
  | .lst true _ (_ :: _),s => by simp [V.fz,mp]
  | .emp _,s => rfl
  | .agg xs,s => by
    simp only [V.fz,fzL_re e xs s]
    cases V.fzL xs s <;> simp [mp]
  | .ref o lo n,s => by
    simp only [V.fz,give_re]
    cases s.give o lo n <;> simp [mp]
  | .plc o i fs ver n,s => by
    simp only [V.fz,takeQ_re]
    cases s.takeQ o i fs ver n <;> simp [mp]
  | .tup _,s => by simp [V.fz,mp]
  | .und,s => by simp [V.fz,mp]
  | .ptr ..,s => by simp [V.fz,mp]
  | .vptr _,s => by simp [V.fz,mp]
  | .clo ..,s => by simp [V.fz,mp]
  | .iol ..,s => by simp [V.fz,mp]
  | .iop _,s => by simp [V.fz,mp]
theorem fzL_re (e : List (Nat × V)) : ∀ (l : List V) (s : St),V.fzL l (s.re e) = mp (V.fzL l s) fun r => (r.1,r.2.re e)
  | [],s => rfl
  | x :: r,s => by
    simp only [V.fzL,fz_re e x s]
    cases x.fz s with
    | none => rfl
    | some a =>
      simp only [mp,Option.map_some]
      have := fzL_re e r a.2
      rw [this]
      cases V.fzL r a.2 <;> simp [mp]
end
theorem elems_re (e : List (Nat × V)) (s : St) (base : Nat) : ∀ v : V,St.elems (s.re e) base v = mp (s.elems base v) fun r => (r.1,r.2.re e)
  | .lst false _ _ => rfl
  | .lst true _ [] => rfl
  | .emp _ => rfl
  | .ref o lo n => by
    simp only [St.elems]
    split
    · rw [give_re];cases s.give o lo n <;> simp [mp]
    · split
      · exact moveRow_re e s o lo n
      · exact copyRow_re e s o lo n
  | .plc o i fs ver n => copyPlc_re e s o i fs ver n
  | .lst true _ (_ :: _) => rfl
  | .int .. => rfl
  | .bool _ => rfl
  | .str _ => rfl
  | .agg _ => rfl
  | .tup _ => rfl
  | .und => rfl
  | .ptr .. => rfl
  | .vptr _ => rfl
  | .clo .. => rfl
  | .iol .. => rfl
  | .iop _ => rfl
theorem base_re (e : List (Nat × V)) (s : St) (v : V) : St.base (s.re e) v = mp (s.base v) fun r => (r.1,r.2.1,r.2.2.re e) := by
  unfold St.base
  split
  · simp [mp]
  · exact give_re ..
  · exact take_re ..
  · rfl
theorem store_re (e : List (Nat × V)) (s : St) (z v : V) : ∀ x : V,storeV (s.re e) z x v = mp (storeV s z x v) fun r => r.re e
  | .ptr o i fs => by
    simp only [storeV]
    show (match geta s.obs o with | none => none | some ob => _) = _
    cases geta s.obs o with
    | none => rfl
    | some ob =>
      simp only
      cases ob.get i fs with
      | none => rfl
      | some old =>
        simp only
        by_cases h : old.alike v = true ∧ z.alike v = true
        · rw [if_pos h,if_pos h]
          by_cases hb : ob.bx = true
          · rw [if_pos hb,if_pos hb]
            by_cases ht : v.isTup = true
            · rw [if_pos ht,if_pos ht];rfl
            · rw [if_neg ht,if_neg ht]
              cases ob.set i fs v <;> simp [mp]
          · rw [if_neg hb,if_neg hb,fz_re]
            cases v.fz s with
            | none => rfl
            | some r =>
              simp only [mp,Option.map_some]
              cases geta r.2.obs o with
              | none => rfl
              | some ob2 =>
                simp only
                cases ob2.get i fs with
                | none => rfl
                | some old2 =>
                  simp only
                  by_cases h2 : old2.alike r.1 = true
                  · rw [if_pos h2,if_pos h2]
                    cases ob2.set i fs r.1 <;> simp
                  · rw [if_neg h2,if_neg h2];rfl
        · rw [if_neg h,if_neg h];rfl
  | .lst .. => rfl
  | .emp _ => rfl
  | .ref .. => rfl
  | .plc .. => rfl
  | .int .. => rfl
  | .bool _ => rfl
  | .str _ => rfl
  | .agg _ => rfl
  | .tup _ => rfl
  | .und => rfl
  | .vptr _ => rfl
  | .clo .. => rfl
  | .iol .. => rfl
  | .iop _ => rfl
mutual
theorem fzI_re (e : List (Nat × V)) : ∀ (v : V) (s : St),V.fzI v (s.re e) = mp (V.fzI v s) fun r => (r.1,r.2.re e)
  | .lst true _ _,s => by simp [V.fzI,mp]
  | .lst false a b,s => by simp only [V.fzI];exact fz_re e _ s
  | .agg xs,s => by
    simp only [V.fzI,fzIL_re e xs s]
    cases V.fzIL xs s <;> simp [mp]
  | .int a b,s => by simp only [V.fzI];exact fz_re e _ s
  | .bool a,s => by simp only [V.fzI];exact fz_re e _ s
  | .str a,s => by simp only [V.fzI];exact fz_re e _ s
  | .emp a,s => by simp only [V.fzI];exact fz_re e _ s
  | .ref a b c,s => by simp only [V.fzI];exact fz_re e _ s
  | .plc a b c d f,s => by simp only [V.fzI];exact fz_re e _ s
  | .tup a,s => by simp only [V.fzI];exact fz_re e _ s
  | .und,s => by simp only [V.fzI];exact fz_re e _ s
  | .ptr a b c,s => by simp only [V.fzI];exact fz_re e _ s
  | .vptr a,s => by simp only [V.fzI];exact fz_re e _ s
  | .clo a b,s => by simp only [V.fzI];exact fz_re e _ s
  | .iol a b,s => by simp only [V.fzI];exact fz_re e _ s
  | .iop a,s => by simp only [V.fzI];exact fz_re e _ s
theorem fzIL_re (e : List (Nat × V)) : ∀ (l : List V) (s : St),V.fzIL l (s.re e) = mp (V.fzIL l s) fun r => (r.1,r.2.re e)
  | [],s => rfl
  | x :: r,s => by
    simp only [V.fzIL,fzI_re e x s]
    cases x.fzI s with
    | none => rfl
    | some a =>
      simp only [mp,Option.map_some]
      have := fzIL_re e r a.2
      rw [this]
      cases V.fzIL r a.2 <;> simp [mp]
end
theorem outs_re (e : List (Nat × V)) : ∀ (l : List V) (i : Nat) (s : St),outsV i l (s.re e) = outsV i l s
  | [],_,_ => rfl
  | v :: r,i,s => by
    have ih := outs_re e r (i + 1)
    cases v with
    | iol sz xs =>
      simp only [outsV]
      cases geta s.obs i with
      | none => rfl
      | some ob =>
        simp only
        rw [show outsV (i + 1) r { s.re e with obs := dela s.obs i } = outsV (i + 1) r { s with obs := dela s.obs i } from ih { s with obs := dela s.obs i }]
    | iop x =>
      simp only [outsV]
      cases geta s.obs i with
      | none => rfl
      | some ob =>
        simp only
        cases ob.xs with
        | nil => rfl
        | cons y l =>
          cases l with
          | nil =>
            simp only
            rw [show y.fzI { s.re e with obs := dela s.obs i } = _ from fzI_re e y { s with obs := dela s.obs i }]
            cases y.fzI { s with obs := dela s.obs i } with
            | none => rfl
            | some a => simp only [mp,Option.map_some,ih a.2]
          | cons _ _ => rfl
    | _ => exact ih s
mutual
theorem snap_re (e : List (Nat × V)) (s : St) : ∀ v : V,V.snap (s.re e) v = V.snap s v
  | .int .. => rfl
  | .bool _ => rfl
  | .str _ => rfl
  | .lst .. => rfl
  | .emp _ => rfl
  | .agg xs => by simp only [V.snap,snapL_re e s xs]
  | .ref .. => rfl
  | .plc .. => rfl
  | .vptr _ => rfl
  | .tup _ => rfl
  | .und => rfl
  | .ptr .. => rfl
  | .clo .. => rfl
  | .iol .. => rfl
  | .iop _ => rfl
theorem snapL_re (e : List (Nat × V)) (s : St) : ∀ l : List V,V.snapL (s.re e) l = V.snapL s l
  | [] => rfl
  | x :: r => by simp only [V.snapL,snap_re e s x,snapL_re e s r]
end
theorem snapP_re (e : List (Nat × V)) (s : St) (v : V) : V.snapP (s.re e) v = V.snapP s v := by
  unfold V.snapP
  split
  · simp only [snap_re]
  · exact snap_re e s _
theorem snapPL_re (e : List (Nat × V)) (s : St) : ∀ l : List V,V.snapPL (s.re e) l = V.snapPL s l
  | [] => rfl
  | x :: r => by simp only [V.snapPL,snapP_re e s x,snapPL_re e s r]
theorem snapA_re (e : List (Nat × V)) (s : St) (v : V) : V.snapA (s.re e) v = V.snapA s v := by
  unfold V.snapA
  split
  · simp only [snapPL_re]
  · exact snapP_re e s _
theorem snaps_re (e : List (Nat × V)) (s : St) : ∀ (m : List Md) (l : List V),snapsV (s.re e) m l = snapsV s m l
  | _,[] => rfl
  | m,v :: r => by simp only [snapsV,snapA_re e s v,snaps_re e s m.tail r]
theorem sA_int (s : St) (k : IntKind) (a : Int) : V.snapA s (.int k a) = some (.int k a) := rfl
theorem sA_bool (s : St) (a : Bool) : V.snapA s (.bool a) = some (.bool a) := rfl
theorem sA_lst (s : St) (a : Bool) (b : Nat) (xs : List V) : V.snapA s (.lst a b xs) = some (.lst false 0 (V.shareL xs)) := rfl
theorem sA_emp (s : St) (a : Bool) : V.snapA s (.emp a) = some (.lst false 0 []) := rfl
theorem sA_agg (s : St) (xs : List V) : V.snapA s (.agg xs) = mp (V.snapL s xs) .agg := rfl
theorem sA_ref (s : St) (o lo n : Nat) : V.snapA s (.ref o lo n) = mp (rowOf s.obs o lo n) fun r => .lst false 0 (V.shareL r.2) := rfl
theorem sA_plc (s : St) (o i : Nat) (fs : List Nat) (ver n : Nat) : V.snapA s (.plc o i fs ver n) = mp (s.at o i fs ver n) fun a => .lst false 0 (V.shareL a.2.1) := rfl
theorem sA_vptr (s : St) (x : V) : V.snapA s (.vptr x) = some (.vptr x) := rfl
theorem sA_clo (s : St) (f : FuncId) (cs : List V) : V.snapA s (.clo f cs) = mp (V.snapPL s cs) (.clo f) := rfl
theorem sA_ptr (s : St) (o i : Nat) (fs : List Nat) : V.snapA s (.ptr o i fs) = V.snapP s (.ptr o i fs) := rfl
theorem sP_int (s : St) (k : IntKind) (a : Int) : V.snapP s (.int k a) = some (.int k a) := rfl
theorem sP_bool (s : St) (a : Bool) : V.snapP s (.bool a) = some (.bool a) := rfl
theorem sP_lst (s : St) (a : Bool) (b : Nat) (xs : List V) : V.snapP s (.lst a b xs) = some (.lst false 0 (V.shareL xs)) := rfl
theorem sP_emp (s : St) (a : Bool) : V.snapP s (.emp a) = some (.lst false 0 []) := rfl
theorem sP_agg (s : St) (xs : List V) : V.snapP s (.agg xs) = mp (V.snapL s xs) .agg := rfl
theorem sP_ref (s : St) (o lo n : Nat) : V.snapP s (.ref o lo n) = mp (rowOf s.obs o lo n) fun r => .lst false 0 (V.shareL r.2) := rfl
theorem sP_plc (s : St) (o i : Nat) (fs : List Nat) (ver n : Nat) : V.snapP s (.plc o i fs ver n) = mp (s.at o i fs ver n) fun a => .lst false 0 (V.shareL a.2.1) := rfl
theorem sP_vptr (s : St) (x : V) : V.snapP s (.vptr x) = some (.vptr x) := rfl
theorem sP_ptr (s : St) (o i : Nat) (fs : List Nat) : V.snapP s (.ptr o i fs) = match geta s.obs o with | none => none | some ob => match ob.get i fs with | none => none | some x => if ob.bx = true ∨ x.mention.isEmpty = true then mp (x.snap s) .vptr else none := rfl
end Go.Proofs.Ytbcgenkegnmkhaa.Ev
namespace Go.Proofs.Ytbcgenkegnmkhaa.Ev
open Go
set_option maxRecDepth 100000
theorem fun_s {f : FuncId} {fn : Func} {body : Code} {args : List V} {x : V × List V} {e : List (Nat × V)} {o : List (Nat × Ob)} {n : Nat} (hn : nilT f = false) (hf : cf.code f = some fn) (hb : fn.body = some body) (hl : args.length = n) (hl2 : n = fn.params.size + fn.nfree) (he : (bindArgs 0 args).1 = e) (ho : (bindArgs 0 args).2 = o)
    (h : wpC oc cf f body ⟨e,o,n⟩ (fun e s => (e = .normal ∨ e = .ret) ∧ ∃ vs,resL cf s fn.results.toList = some vs ∧ ∃ r,V.fzL vs ⟨[],s.obs,s.nxt⟩ = r ∧ ∃ q,r = some q ∧ ∃ os,outsV 0 args q.2 = some os ∧ (oneV q.1,os) = x)) (hh : hsT f = false := by rfl) : oc.call f args = some x := by
  unfold cf oc at *
  subst hl he ho
  refine wp_fun hn hh hf hb hl2 ?_
  obtain ⟨r,h1,h2,vs,h3,q,h4,u,h5,os,h6,h7⟩ := h
  refine ⟨r,h1,h2,vs,h3,(u.1,u.2.re r.2.env),?_,os,?_,h7⟩
  · have := fzL_re r.2.env vs ⟨[],r.2.obs,r.2.nxt⟩
    rw [h4,h5] at this
    exact this
  · rw [outs_re];exact h6
theorem run_s {f : FuncId} {fn : Func} {body : Code} {args : List V} {x : V × List V} {e : List (Nat × V)} {o : List (Nat × Ob)} {n : Nat} (hf : cf.code f = some fn) (hb : fn.body = some body) (hl : args.length = n) (hl2 : n = fn.params.size + fn.nfree) (he : (bindArgs 0 args).1 = e) (ho : (bindArgs 0 args).2 = o)
    (h : wpC oc cf f body ⟨e,o,n⟩ (fun e s => (e = .normal ∨ e = .ret) ∧ ∃ vs,resL cf s fn.results.toList = some vs ∧ ∃ r,V.fzL vs ⟨[],s.obs,s.nxt⟩ = r ∧ ∃ q,r = some q ∧ ∃ os,outsV 0 args q.2 = some os ∧ (oneV q.1,os) = x)) : runE oc cf f args = some x := by
  subst hl he ho
  obtain ⟨r,h1,h2,vs,h3,q,h4,u,h5,os,h6,h7⟩ := h
  have h4' : V.fzL vs r.2 = some (u.1,u.2.re r.2.env) := by
    have := fzL_re r.2.env vs ⟨[],r.2.obs,r.2.nxt⟩
    rw [h4,h5] at this
    exact this
  have h6' : outsV 0 args (u.2.re r.2.env) = some os := by rw [outs_re];exact h6
  unfold runE
  simp only [hf,hb,if_pos hl2,h1,if_pos h2,h3,h4',h6',mp_some,h7]
theorem nil_s {f : FuncId} {sz : Nat} {xs : List V} {x : V × List V} (hn : nilT f = true) (h : xs ≠ [] → runE oc cf f [.lst false sz xs] = some x) (h1 : xs = [] → runE oc cf f [.emp true] = some x) (h2 : xs = [] → runE oc cf f [.emp false] = some x) : oc.call f [.lst false sz xs] = some x := by
  unfold cf oc at *
  exact or_call_nil hn h h1 h2
theorem end_leaf {ex : Ext} (np : Nat) (out : Option (List Nat)) {s s1 : St} {r : Ext × St} (h1 : normE np out s = s1) (h2 : (ex,s1) = r) : (ex,normE np out s) = r := by subst h1;exact h2
theorem res_nil {cfg : Cfg} {s : St} : resL cfg s [] = some [] := rfl
theorem res_tmp {cfg : Cfg} {s : St} {t : Nat} {l : List ResultVar} {v : V} {vs : List V} (h : opV s.env (.tmp t) = some v) (h2 : resL cfg s l = some vs) : resL cfg s (.tmp t :: l) = some (v :: vs) := by
  simp only [resL,resV,h,h2,mp_some]
theorem res_cell {cfg : Cfg} {e : List (Nat × V)} {o : List (Nat × Ob)} {n : Nat} {t : Nat} {ty : TypeId} {l : List ResultVar} {z vx v : V} {vs : List V} {r : Option V} (hz : cfg.zero ty = some z) (h : opV e (.tmp t) = some vx) (hv : loadV ⟨[],o,n⟩ z vx = r) (hr : r = some v) (h2 : resL cfg ⟨e,o,n⟩ l = some vs) : resL cfg ⟨e,o,n⟩ (.cell t ty :: l) = some (v :: vs) := by
  have : loadV ⟨e,o,n⟩ z vx = some v := by
    rw [← hr,← hv]
    cases vx <;> rfl
  simp only [resL,resV,h,hz,h2,mp_some,this]
theorem loop_s {f k : Nat} {fn : Func} {body full : Code} {s s0 : St} {r : Ext × St} (hf : cf.code f = some fn) (hb : fn.body = some full) (hk : findLoop k full = some body) (hs : normE (fn.params.size + fn.nfree) (keepT f k) s = s0)
    (h : wpC oc cf f body s0 (fun e s' => match e with
      | .normal => oc.loop f k s' = some r
      | e => (e,normE (fn.params.size + fn.nfree) (outT f k) s') = r)) : oc.loop f k s = some r := by
  unfold cf oc at *
  exact wp_round hf hb hk hs h
theorem loop_ind {σ : Type} {f k np : Nat} {keep : Option (List Nat)} (μ : σ → Nat) (P : σ → Prop) (H : σ → St) (R : σ → Ext × St)
    (step : ∀ x,P x → (∀ y,P y → μ y < μ x → ∀ s',normE np keep s' = H y → oc.loop f k s' = some (R y)) → ∀ s,normE np keep s = H x → oc.loop f k s = some (R x)) :
    ∀ x,P x → ∀ s,normE np keep s = H x → oc.loop f k s = some (R x) := by
  have key : ∀ m x,μ x < m → P x → ∀ s,normE np keep s = H x → oc.loop f k s = some (R x) := by
    intro m
    induction m with
    | zero => intro x h;omega
    | succ m ih => intro x h hp;exact step x hp (fun y hy hm => ih y (by omega) hy)
  intro x
  exact key (μ x + 1) x (by omega)
theorem wc_loopI {fn : FuncId} {b : Code} {s : St} {Q : Ext → St → Prop} {c : Prop} [Decidable c] {e1 e2 : Ext} {s1 s2 : St} (h : oc.loop fn (keyOf b) s = some (if c then (e1,s1) else (e2,s2))) (h1 : c → Q e1 s1) (h2 : ¬ c → Q e2 s2) : wpC oc cf fn (.loop b) s Q := by
  by_cases hc : c
  · rw [if_pos hc] at h;exact ⟨_,h,h1 hc⟩
  · rw [if_neg hc] at h;exact ⟨_,h,h2 hc⟩
section
variable {call : Call} {cfg : Cfg} {id base : Nat} {e : List (Nat × V)} {o : List (Nat × Ob)} {n : Nat} {t : TypeId} {K : V → List (Nat × Ob) → Prop}
theorem k_callS {args : Array Operand} {ts : Array TypeId} {fo : Operand} {f : FuncId} {cs vs qs : List V} {sr : Option (List V)} {rv v : V} {ro : List V} {o1 : List (Nat × Ob)} {id' : Nat} (hx : opsV e args.toList = some vs) (hf : opV e fo = some (.clo f cs)) (hB : cfg.inB f = false) (hk : V.capsOk cs = true) (hl : lendV (cfg.md f) (vs ++ cs) ⟨e,o,n⟩ = some (vs ++ cs,⟨e,o,n⟩,[]))
    (hs : snapsV ⟨[],o,n⟩ (cfg.md f) (vs ++ cs) = sr) (hsr : sr = some qs) (hc : call f qs = some (rv,ro)) (hro : ro = []) (hid : id = id') (hw : ((plainM (cfg.md f) (vs ++ cs)).isEmpty = true ∨ rv.tidy = true ∧ V.tidyL ro = true) ∧ (rv.thaw id').2.2 ≤ id' + 32) (hv : (rv.thaw id').1 = v) (ho : (rv.thaw id').2.1 ++ o = o1)
    (h : K v o1) : opK call cfg id base e o n t (.call ⟨.value fo,args,ts⟩) K := by
  subst hro hv ho
  have hs : snapsV ⟨e,o,n⟩ (cfg.md f) (vs ++ cs) = some qs := by
    have := snaps_re e ⟨[],o,n⟩ (cfg.md f) (vs ++ cs)
    rw [hs,hsr] at this
    exact this
  exact k_call hx hf hB hk hl hs hc hid hw rfl rfl h
theorem k_indexQ {t' el : TypeId} {x ix : Operand} {k : IntKind} {a : Int} {q lo m j : Nat} {ob : Ob} {z y : V} (he : cfg.elem t' = some el) (hz : cfg.zero el = some z) (hx : opV e x = some (.ref q lo m)) (hi : opV e ix = some (.int k a)) (ho : geta o q = some ob) (hb : ob.bx = false) (h0 : 0 ≤ a) (hj : lo + a.toNat = j) (hm : a.toNat < m)
    (hy : ob.xs[j]? = some y) (hc : y.cells = z.cells) (h : K (.ptr q j []) o) : opK call cfg id base e o n t (.indexAddr t' x ix) K := by
  subst hj;exact k_indexR he hz hx hi ho hb h0 hm hy hc h
theorem k_storeS {t' : TypeId} {x y : Operand} {z vx vy : V} {o' : List (Nat × Ob)} {r : Option St} (hz : cfg.zero t' = some z) (hx : opV e x = some vx) (hy : opV e y = some vy) (hv : storeV ⟨[],o,n⟩ z vx vy = r) (hr : r = some ⟨[],o',n⟩) (h : K .und o') : opK call cfg id base e o n t (.store t' x y) K := by
  refine k_store hz hx hy ?_ h
  have := store_re e ⟨[],o,n⟩ z vy vx
  rw [hv,hr] at this
  exact this
theorem k_storeE {t' : TypeId} {x y : Operand} {z vy old old1 w : V} {q i v : Nat} {ob ob1 : Ob} {ws : List V} {o1 : List (Nat × Ob)} {r : Option (V × St)} (hz : cfg.zero t' = some z) (hx : opV e x = some (.ptr q i [])) (hy : opV e y = some vy) (ho : geta o q = some ob) (hb : ob.bx = false) (hg : ob.xs[i]? = some old) (ha : old.alike vy = true) (hz2 : z.alike vy = true)
    (hf : vy.fz ⟨[],o,n⟩ = r) (hr : r = some (w,⟨[],o1,n⟩)) (ho1 : geta o1 q = some ob1) (hg1 : ob1.xs[i]? = some old1) (ha1 : old1.alike w = true) (hs : ob1.xs.set i w = ws) (hv : (if (old1.scal && vy.scal) = true then ob1.ver else ob1.ver + 1) = v)
    (h : K .und ((q,⟨ob1.bx,ob1.fx,ob1.sz,ws,v⟩) :: o1)) : opK call cfg id base e o n t (.store t' x y) K := by
  subst hr hs hv
  have hf : vy.fz ⟨e,o,n⟩ = some (w,⟨e,o1,n⟩) := by
    have := fz_re e vy ⟨[],o,n⟩
    rw [hf] at this
    exact this
  refine k_store hz hx hy ?_ h
  simp only [storeV,ho,Ob.get,hg,getF,ha,hz2,and_self,if_true,hb,Bool.false_eq_true,if_false,hf,ho1,hg1,ha1,Ob.set,setF,mp_some,puta]
theorem set_at {α : Type} {l : List α} {i : Nat} {x y : α} (h : l[i]? = some x) : (l.set i y)[i]? = some y := by
  have := (List.getElem?_eq_some_iff.1 h).1
  simp [this]
theorem k_loadF {t' : TypeId} {x : Operand} {z y y0 w : V} {q i : Nat} {fs : List Nat} {ob : Ob} (hz : cfg.zero t' = some z) (hx : opV e x = some (.ptr q i fs)) (ho : geta o q = some ob) (hg : ob.xs[i]? = some y0) (hgf : getF y0 fs = some y) (hu : y ≠ .und) (ha : z.alike y = true) (hl : y.lod q i ob.ver fs = w) (h : K w o) : opK call cfg id base e o n t (.load t' x) K := by
  subst hl
  refine k_load hz hx ?_ h
  cases y <;> first | exact absurd rfl hu | simp only [loadV,ho,Ob.get,hg,hgf,ha,if_true]
theorem k_fieldAddrF {t' : TypeId} {x : Operand} {i k j : Nat} {fs : List Nat} {ob : Ob} {y y0 : V} (hx : opV e x = some (.ptr k j fs)) (ho : geta o k = some ob) (hg : ob.xs[j]? = some y0) (hgf : getF y0 fs = some y) (hf : fieldOk cfg t' y i = true) (h : K (.ptr k j (fs ++ [i])) o) : opK call cfg id base e o n t (.fieldAddr t' x i) K :=
  k_fieldAddrP hx ho (show ob.get j fs = some y by simp only [Ob.get,hg,hgf]) hf h
theorem k_storeF {t' : TypeId} {x y : Operand} {z vy old x0 x1 : V} {q i : Nat} {fs : List Nat} {ob : Ob} {ws : List V} (hz : cfg.zero t' = some z) (hx : opV e x = some (.ptr q i fs)) (hy : opV e y = some vy) (ho : geta o q = some ob) (hb : ob.bx = false) (hg : ob.xs[i]? = some x0) (hgf : getF x0 fs = some old) (ha : old.alike vy = true) (hz2 : z.alike vy = true)
    (hs1 : old.scal = true) (hs2 : vy.scal = true) (hsf : setF x0 fs vy = some x1) (hs : ob.xs.set i x1 = ws) (h : K .und ((q,⟨false,ob.fx,ob.sz,ws,ob.ver⟩) :: o)) : opK call cfg id base e o n t (.store t' x y) K := by
  subst hs
  refine k_store hz hx hy ?_ h
  simp only [storeV,ho,Ob.get,hg,hgf,ha,hz2,and_self,if_true,hb,Bool.false_eq_true,if_false,fz_scal hs2,Ob.set,hsf,mp_some,puta,hs1,hs2,Bool.and_self]
theorem k_loadS {t' : TypeId} {x : Operand} {z vx v : V} {r : Option V} (hz : cfg.zero t' = some z) (hx : opV e x = some vx) (hv : loadV ⟨[],o,n⟩ z vx = r) (hr : r = some v) (h : K v o) : opK call cfg id base e o n t (.load t' x) K := by
  refine k_load hz hx ?_ h
  rw [← hr,← hv]
  cases vx <;> rfl
theorem k_loadE {t' : TypeId} {x : Operand} {z y w : V} {q i : Nat} {ob : Ob} (hz : cfg.zero t' = some z) (hx : opV e x = some (.ptr q i [])) (ho : geta o q = some ob) (hg : ob.xs[i]? = some y) (hu : y ≠ .und) (ha : z.alike y = true) (hl : y.lod q i ob.ver [] = w) (h : K w o) : opK call cfg id base e o n t (.load t' x) K := by
  subst hl
  refine k_load hz hx ?_ h
  cases y <;> first | exact absurd rfl hu | simp only [loadV,ho,Ob.get,hg,getF,ha,if_true]
theorem k_appendS {args : Array Operand} {ts : Array TypeId} {t1 t2 e1 e2 : TypeId} {x y z : V} {ys ws bs : List V} {r1 : Option (List V × St)} {r2 : Option (Nat × List V × St)} {sz : Nat} {o1 o2 : List (Nat × Ob)} {id' m : Nat} (hx : opsV e args.toList = some [x,y]) (h1 : ts[0]? = some t1) (h2 : ts[1]? = some t2) (he1 : cfg.elem t1 = some e1) (hz : cfg.zero e1 = some z) (he2 : cfg.elem t2 = some e2)
    (hel : St.elems ⟨[],o,n⟩ base y = r1) (hel2 : r1 = some (ys,⟨[],o1,n⟩)) (hb : St.base ⟨[],o1,n⟩ (x.asRow z.cells) = r2) (hb2 : r2 = some (sz,bs,⟨[],o2,n⟩)) (hid : id = id') (hsz : sz = z.cells) (hc : V.cellsAll z.cells ys = true) (hw : bs ++ ys = ws) (hm : ws.length = m) (hlen : m < maxV)
    (h : K (.ref id' 0 m) ((id',⟨false,false,z.cells,ws,0⟩) :: o2)) : opK call cfg id base e o n t (.call ⟨.builtin .append,args,ts⟩) K := by
  subst hw hm
  have h3 : St.elems ⟨e,o,n⟩ base y = some (ys,⟨e,o1,n⟩) := by
    have := elems_re e ⟨[],o,n⟩ base y
    rw [hel,hel2] at this
    exact this
  have h4 : St.base ⟨e,o1,n⟩ (x.asRow z.cells) = some (sz,bs,⟨e,o2,n⟩) := by
    have := base_re e ⟨[],o1,n⟩ (x.asRow z.cells)
    rw [hb,hb2] at this
    exact this
  exact k_append (b:=(sz,bs,⟨e,o2,n⟩)) hx h1 h2 he1 hz he2 h3 h4 rfl hid hsz hc hlen h
theorem k_buildSliceS {t' el : TypeId} {m : Nat} {ps : Array (Nat × Operand)} {z : V} {l : List (Nat × V)} {ys : List V} {o1 : List (Nat × Ob)} {id' : Nat} {r : Option (List V × St)} (he : cfg.elem t' = some el) (hz : cfg.zero el = some z) (hp : partsV e ps.toList = some l) (hc : l.map (·.1) = List.range m ∧ m * z.cells ≤ 16777216 ∧ l.all (fun e => z.alike e.2) = true)
    (hf : V.fzL (l.map (·.2)) ⟨[],o,n⟩ = r) (hr : r = some (ys,⟨[],o1,n⟩)) (hid : id = id') (h : K (.ref id' 0 m) ((id',⟨false,false,z.cells,ys,0⟩) :: o1)) : opK call cfg id base e o n t (.buildSlice t' m ps) K :=
  k_buildSlice he hz hp hc (by
    have := fzL_re e (l.map (·.2)) ⟨[],o,n⟩
    rw [hf,hr] at this
    exact this) hid h
end
theorem bA_nil (i : Nat) : bindArgs i [] = ([],[]) := rfl
theorem bA_int (i : Nat) (k : IntKind) (a : Int) (r : List V) : bindArgs i (.int k a :: r) = ((i,.int k a) :: (bindArgs (i + 1) r).1,(bindArgs (i + 1) r).2) := rfl
theorem bA_bool (i : Nat) (a : Bool) (r : List V) : bindArgs i (.bool a :: r) = ((i,.bool a) :: (bindArgs (i + 1) r).1,(bindArgs (i + 1) r).2) := rfl
theorem bA_lstF (i : Nat) (s : Nat) (xs : List V) (r : List V) : bindArgs i (.lst false s xs :: r) = ((i,.lst false s xs) :: (bindArgs (i + 1) r).1,(bindArgs (i + 1) r).2) := rfl
theorem bA_lstT (i : Nat) (s : Nat) (xs : List V) (r : List V) : bindArgs i (.lst true s xs :: r) = ((i,.ref i 0 xs.length) :: (bindArgs (i + 1) r).1,(i,⟨false,false,s,xs,0⟩) :: (bindArgs (i + 1) r).2) := rfl
theorem bA_iol (i : Nat) (s : Nat) (xs : List V) (r : List V) : bindArgs i (.iol s xs :: r) = ((i,.ref i 0 xs.length) :: (bindArgs (i + 1) r).1,(i,⟨false,true,s,xs,0⟩) :: (bindArgs (i + 1) r).2) := rfl
theorem bA_iop (i : Nat) (x : V) (r : List V) : bindArgs i (.iop x :: r) = ((i,.ptr i 0 []) :: (bindArgs (i + 1) r).1,(i,⟨true,false,x.cells,[x],0⟩) :: (bindArgs (i + 1) r).2) := rfl
theorem bA_agg (i : Nat) (xs : List V) (r : List V) : bindArgs i (.agg xs :: r) = ((i,.agg xs) :: (bindArgs (i + 1) r).1,(bindArgs (i + 1) r).2) := rfl
theorem bA_clo (i : Nat) (f : FuncId) (xs : List V) (r : List V) : bindArgs i (.clo f xs :: r) = ((i,.clo f xs) :: (bindArgs (i + 1) r).1,(bindArgs (i + 1) r).2) := rfl
theorem bA_vptr (i : Nat) (x : V) (r : List V) : bindArgs i (.vptr x :: r) = ((i,.vptr x) :: (bindArgs (i + 1) r).1,(bindArgs (i + 1) r).2) := rfl
theorem wrap_nat {i : Nat} (h : i < 4611686018427387904) : IntKind.i64.wrap (i : Int) = i := by
  unfold IntKind.wrap;simp [IntKind.bits,IntKind.signed];omega
theorem wrap_succ {i : Nat} (h : i < 4611686018427387903) : IntKind.i64.wrap ((i : Int) + 1) = ((i + 1 : Nat) : Int) := wrap_nat (i:=i + 1) (by omega)
theorem wrap_id {a : Int} (h1 : -4611686018427387904 ≤ a) (h2 : a < 4611686018427387904) : IntKind.i64.wrap a = a := by
  unfold IntKind.wrap;simp [IntKind.bits,IntKind.signed];omega
def inI (a b c : Int) : Bool := decide (b ≤ a) && decide (a ≤ c)
def ints (l : List Int) : List V := l.map (.int .i64)
@[simp] theorem ints_len (l : List Int) : (ints l).length = l.length := by simp [ints]
@[simp] theorem ints_nil : ints [] = [] := rfl
@[simp] theorem ints_cons (x : Int) (l : List Int) : ints (x :: l) = .int .i64 x :: ints l := rfl
@[simp] theorem ints_snoc (l : List Int) (x : Int) : ints l ++ [.int .i64 x] = ints (l ++ [x]) := by simp [ints]
@[simp] theorem ints_join (l m : List Int) : ints l ++ ints m = ints (l ++ m) := by simp [ints]
theorem ints_get {l : List Int} {i : Nat} {x : Int} (h : l[i]? = some x) : (ints l)[i]? = some (.int .i64 x) := by simp [ints,h]
theorem ints_at {l : List Int} {i : Nat} (h : i < l.length) : (ints l)[(i : Int).toNat]? = some (.int .i64 l[i]) := ints_get (by simp [h])
theorem ints_cut {l : List Int} {i : Nat} (h : i < l.length) : ∃ x,l[i]? = some x ∧ l.drop i = x :: l.drop (i + 1) ∧ (ints l)[(i : Int).toNat]? = some (.int .i64 x) :=
  ⟨l[i],by simp [h],List.drop_eq_getElem_cons h,ints_at h⟩
@[simp] theorem ints_set (l : List Int) (i : Nat) (x : Int) : (ints l).set i (.int .i64 x) = ints (l.set i x) := by simp [ints,List.map_set]
theorem set_take {α : Type} {r a : List α} {i : Nat} {x : α} (h : r.take i = a.take i) (hr : r.length = a.length) (hx : a[i]? = some x) : (r.set i x).take (i + 1) = a.take (i + 1) := by
  have hi : i < a.length := (List.getElem?_eq_some_iff.mp hx).1
  rw [List.take_add_one,List.take_add_one,hx,List.getElem?_set_self (by omega)]
  rw [List.take_set_of_le (Nat.le_refl i),h]
@[simp] theorem replicate_ints (m : Nat) (x : Int) : List.replicate m (V.int .i64 x) = ints (List.replicate m x) := by simp [ints]
@[simp] theorem ints_take (n : Nat) (l : List Int) : (ints l).take n = ints (l.take n) := by simp [ints,List.map_take]
@[simp] theorem ints_drop (n : Nat) (l : List Int) : (ints l).drop n = ints (l.drop n) := by simp [ints,List.map_drop]
@[simp] theorem ints_share (l : List Int) : V.shareL (ints l) = ints l := by
  induction l with
  | nil => rfl
  | cons x l ih => simp [V.shareL,V.share,ih]
structure Nd where
  op : Int
  a : Int
  b : Int
  col : Int
  test : Int
  value : Int
  cells : List Int
  deriving DecidableEq
theorem Nd.eq_iff {d g : Nd} : d = g ↔ d.op = g.op ∧ d.a = g.a ∧ d.b = g.b ∧ d.col = g.col ∧ d.test = g.test ∧ d.value = g.value ∧ d.cells = g.cells := by
  cases d;cases g;simp
def Nd.v (t : Bool) (s : Nat) (n : Nd) : V := .agg [.int .i64 n.op,.int .i64 n.a,.int .i64 n.b,.int .i64 n.col,.int .i64 n.test,.int .i64 n.value,.lst t s (ints n.cells)]
def nds (t : Bool) (s : Nat) (l : List Nd) : List V := l.map (Nd.v t s)
@[simp] theorem nds_len (t : Bool) (s : Nat) (l : List Nd) : (nds t s l).length = l.length := by simp [nds]
@[simp] theorem nds_nil (t : Bool) (s : Nat) : nds t s [] = [] := rfl
@[simp] theorem nds_cons (t : Bool) (s : Nat) (x : Nd) (l : List Nd) : nds t s (x :: l) = x.v t s :: nds t s l := rfl
@[simp] theorem nds_snoc (t : Bool) (s : Nat) (l : List Nd) (x : Nd) : nds t s l ++ [x.v t s] = nds t s (l ++ [x]) := by simp [nds]
theorem nds_get {t : Bool} {s : Nat} {l : List Nd} {i : Nat} {x : Nd} (h : l[i]? = some x) : (nds t s l)[i]? = some (x.v t s) := by simp [nds,h]
theorem nds_at {t : Bool} {s : Nat} {l : List Nd} {i : Nat} (h : i < l.length) : (nds t s l)[(i : Int).toNat]? = some (l[i].v t s) := nds_get (by simp [h])
theorem nds_cut {t : Bool} {s : Nat} {l : List Nd} {i : Nat} (h : i < l.length) : ∃ x,l[i]? = some x ∧ l.drop i = x :: l.drop (i + 1) ∧ (nds t s l)[(i : Int).toNat]? = some (x.v t s) :=
  ⟨l[i],by simp [h],List.drop_eq_getElem_cons h,nds_at h⟩
@[simp] theorem Nd.share (t : Bool) (s : Nat) (n : Nd) : (n.v t s).share = n.v false 0 := by simp [Nd.v,V.share,V.shareL]
@[simp] theorem Nd.snap (t : Bool) (s : Nat) (n : Nd) (q : St) : V.snap q (n.v t s) = some (n.v false 0) := by simp [Nd.v,V.snap,V.snapL,mp]
@[simp] theorem Nd.snapA (t : Bool) (s : Nat) (n : Nd) (q : St) : V.snapA q (n.v t s) = some (n.v false 0) := Nd.snap t s n q
@[simp] theorem Nd.snapP (t : Bool) (s : Nat) (n : Nd) (q : St) : V.snapP q (n.v t s) = some (n.v false 0) := Nd.snap t s n q
@[simp] theorem Nd.mention (t : Bool) (s : Nat) (n : Nd) : V.mention (n.v t s) = [] := by simp [Nd.v,V.mention,V.mentionL]
theorem Nd.thawT (s : Nat) (n : Nd) (id : Nat) : V.thaw id (n.v true s) = (.agg [.int .i64 n.op,.int .i64 n.a,.int .i64 n.b,.int .i64 n.col,.int .i64 n.test,.int .i64 n.value,.ref id 0 n.cells.length],[(id,⟨false,false,s,ints n.cells,0⟩)],id + 1) := by simp [Nd.v,V.thaw,V.thawL]
theorem Nd.thawF (s : Nat) (n : Nd) (id : Nat) : V.thaw id (n.v false s) = (n.v false s,[],id) := by simp [Nd.v,V.thaw,V.thawL]
theorem ints_tidy (l : List Int) : V.tidyL (ints l) = true := by
  induction l with
  | nil => rfl
  | cons x l ih => simp [V.tidyL,V.tidy,ih]
attribute [simp] Nd.thawT Nd.thawF ints_tidy
theorem nds_zero (m : Nat) : List.replicate m (V.agg [.int .i64 0,.int .i64 0,.int .i64 0,.int .i64 0,.int .i64 0,.int .i64 0,.lst true 1 []]) = nds true 1 (List.replicate m ⟨0,0,0,0,0,0,[]⟩) := by simp [nds,Nd.v]
@[simp] theorem nds_setA (t : Bool) (s : Nat) (q : List Nd) (i : Nat) (a b c d e f : Int) (l : List Int) : (nds t s q).set i (V.agg [.int .i64 a,.int .i64 b,.int .i64 c,.int .i64 d,.int .i64 e,.int .i64 f,.lst t s (ints l)]) = nds t s (q.set i ⟨a,b,c,d,e,f,l⟩) := by simp [nds,Nd.v,List.map_set]
@[simp] theorem nds_take (t : Bool) (s n : Nat) (l : List Nd) : (nds t s l).take n = nds t s (l.take n) := by simp [nds,List.map_take]
@[simp] theorem nds_drop (t : Bool) (s n : Nat) (l : List Nd) : (nds t s l).drop n = nds t s (l.drop n) := by simp [nds,List.map_drop]
@[simp] theorem bA_nd (i : Nat) (t : Bool) (s : Nat) (n : Nd) (r : List V) : bindArgs i (n.v t s :: r) = ((i,n.v t s) :: (bindArgs (i + 1) r).1,(bindArgs (i + 1) r).2) := rfl
@[simp] theorem Nd.lodF (s : Nat) (n : Nd) (o i ver : Nat) (fs : List Nat) : V.lod o i ver fs (n.v false s) = n.v false s := by simp [Nd.v,V.lod,V.lodL]
@[simp] theorem Nd.accM (t : Bool) (s : Nat) (n : Nd) : V.accM (n.v t s) = [] := by simp [Nd.v,V.accM,V.accML]
@[simp] theorem Nd.accF (t : Bool) (s : Nat) (n : Nd) : V.accF (n.v t s) = [] := by simp [Nd.v,V.accF,V.accFL]
@[simp] theorem Nd.ren (t : Bool) (s : Nat) (n : Nd) (ρ : Nat → Option Nat) (vr : Nat → Nat) : V.ren ρ vr (n.v t s) = n.v t s := by simp [Nd.v,V.ren,V.renL]
@[simp] theorem nds_share (t : Bool) (s : Nat) (l : List Nd) : V.shareL (nds t s l) = nds false 0 l := by
  induction l with
  | nil => rfl
  | cons x l ih => simp [V.shareL,ih]
@[simp] theorem Nd.cells_v (t : Bool) (s : Nat) (n : Nd) : (n.v t s).cells = 7 := rfl
end Go.Proofs.Ytbcgenkegnmkhaa.Ev
namespace Go.Proofs.Ytbcgenkegnmkhaa.Ev
open Go
set_option linter.unusedVariables false
set_option linter.unusedSectionVars false
set_option maxRecDepth 100000
section
variable {orc : Orc} {fn : FuncId} {s : St} {Q : Ext → St → Prop}
theorem wc_region {id : Nat} {ops : Array Oper} (h : wpO orc.call cf false ops.toList s.nxt 0 ops.toList s [] (endQ Q)) (hal : cf.alR fn id = 0 := by (rw [cf_al];rfl)) : wpC orc cf fn (.region id ops false) s Q := wc_regionG hal h
theorem wc_draw {id : Nat} {ops : Array Oper} (h : wpO orc.call cf true ops.toList s.nxt 0 ops.toList s [] (endD Q (s.nxt + 32 * ops.toList.length) (beforeE ops.toList 0 ops.toList []) (ops.toList.length - 1))) (hal : cf.alR fn id = 0 := by (rw [cf_al];rfl)) : wpC orc cf fn (.region id ops true) s Q := wc_drawG hal h
end
section
variable {call : Call} {draw : Bool} {all rest : List Oper} {base i : Nat} {tr : List (List (Nat × Acc))} {Q : St → List (List (Nat × Acc)) → Prop} {e : List (Nat × V)} {o : List (Nat × Ob)} {n : Nat} {d : Nat} {op : Op} {t : TypeId} {p : String} {af : Array Edge}
theorem w_ (h : opK call cf n base e o n t op (fun v o' => wpO call cf false all base (i + 1) rest ⟨(d,v) :: e,o',n + 32⟩ [] Q)) : wpO call cf false all base i (⟨some d,op,t,p,af,none⟩ :: rest) ⟨e,o,n⟩ [] Q := wo_k h
theorem w0 (h : opK call cf n base e o n t op (fun _ o' => wpO call cf false all base (i + 1) rest ⟨e,o',n + 32⟩ [] Q)) : wpO call cf false all base i (⟨none,op,t,p,af,none⟩ :: rest) ⟨e,o,n⟩ [] Q := wo_k0 h
theorem y_ (h : opK call.noI cf (base + 32 * i) base e o n t op (fun v o' => ∃ ac,accE cf (base + 32 * i) base ⟨e,o,n⟩ v op = ac ∧ wpO call cf true all base (i + 1) rest ⟨(d,v) :: e,o',n⟩ (ac :: tr) Q)) : wpO call cf true all base i (⟨some d,op,t,p,af,none⟩ :: rest) ⟨e,o,n⟩ tr Q := wd_k h
theorem y0 (h : opK call.noI cf (base + 32 * i) base e o n t op (fun v o' => ∃ ac,accE cf (base + 32 * i) base ⟨e,o,n⟩ v op = ac ∧ wpO call cf true all base (i + 1) rest ⟨e,o',n⟩ (ac :: tr) Q)) : wpO call cf true all base i (⟨none,op,t,p,af,none⟩ :: rest) ⟨e,o,n⟩ tr Q := wd_k0 h
theorem ax_ {id base : Nat} {s : St} {v : V} {op : Op} {ac : List (Nat × Acc)} {q : List (Nat × Acc) → Prop} (h1 : accE cf id base s v op = ac := by (simp [cf_md,mdT];rfl)) (h : q ac) : ∃ c,accE cf id base s v op = c ∧ q c := ⟨ac,h1,h⟩
theorem i_ {args : Array Operand} {ts : Array TypeId} {fo : Operand} {f : FuncId} {cs vs : List V} {v : V} {o' : List (Nat × Ob)} {m m' : Nat} (hx : opsV e args.toList = some vs := by exact rfl) (hf : opV e fo = some (.clo f cs) := by exact rfl) (hB : cf.inB f = true := by (rw [cf_in];rfl)) (hk : V.capsOk cs = true := by exact rfl)
    (hc : call.i f (vs ++ cs) ⟨e,o,n⟩ n = some (v,⟨e,o',m⟩)) (hm : max n m + 32 = m' := by (simp;rfl)) (h : wpO call cf false all base (i + 1) rest ⟨(d,v) :: e,o',m'⟩ [] Q) : wpO call cf false all base i (⟨some d,.call ⟨.value fo,args,ts⟩,t,p,af,none⟩ :: rest) ⟨e,o,n⟩ [] Q := wo_i hx hf hB hk hc hm h
theorem g_ {j : Nat} {want b : Bool} {dd : Option Tmp} (hb : ((all[j]?).bind (·.dst)).bind (geta e) = some (.bool b) := by exact rfl) (hw : b = want := by first | exact rfl | assumption) (h : wpO call cf draw all base i (⟨dd,op,t,p,af,none⟩ :: rest) ⟨e,o,n⟩ tr Q) : wpO call cf draw all base i (⟨dd,op,t,p,af,some (j,want)⟩ :: rest) ⟨e,o,n⟩ tr Q := wo_on hb hw h
theorem go_ {j : Nat} {want b : Bool} (hb : ((all[j]?).bind (·.dst)).bind (geta e) = some (.bool b) := by exact rfl) (hw : b = !want := by first | exact rfl | assumption) (h : wpO call cf false all base (i + 1) rest ⟨(d,.iop .und) :: e,o,n + 32⟩ [] Q) : wpO call cf false all base i (⟨some d,op,t,p,af,some (j,want)⟩ :: rest) ⟨e,o,n⟩ tr Q := wo_off hb hw h
theorem gd_ {j : Nat} {want b : Bool} (hb : ((all[j]?).bind (·.dst)).bind (geta e) = some (.bool b) := by exact rfl) (hw : b = !want := by first | exact rfl | assumption) (h : wpO call cf true all base (i + 1) rest ⟨(d,.iop .und) :: e,o,n⟩ ([] :: tr) Q) : wpO call cf true all base i (⟨some d,op,t,p,af,some (j,want)⟩ :: rest) ⟨e,o,n⟩ tr Q := wd_off hb hw h
theorem goN {j : Nat} {want : Bool} {y : V} (hb : ((all[j]?).bind (·.dst)).bind (geta e) = some (.iop y) := by exact rfl) (h : wpO call cf false all base (i + 1) rest ⟨(d,.iop .und) :: e,o,n + 32⟩ [] Q) : wpO call cf false all base i (⟨some d,op,t,p,af,some (j,want)⟩ :: rest) ⟨e,o,n⟩ tr Q := wo_offN hb h
theorem gw_ {j : Nat} {want b : Bool} {dd : Option Tmp} (hb : ((all[j]?).bind (·.dst)).bind (geta e) = some (.bool b) := by exact rfl)
    (h1 : b = want → wpO call cf draw all base i (⟨dd,op,t,p,af,some (j,want)⟩ :: rest) ⟨e,o,n⟩ tr Q) (h2 : b = !want → wpO call cf draw all base i (⟨dd,op,t,p,af,some (j,want)⟩ :: rest) ⟨e,o,n⟩ tr Q) :
    wpO call cf draw all base i (⟨dd,op,t,p,af,some (j,want)⟩ :: rest) ⟨e,o,n⟩ tr Q := wo_ways hb h1 h2
end
theorem oc_pull {f : FuncId} {args : List V} {s : St} {id : Nat} {x : V × St} (hp : cf.plB f = true) (h : pullE oc.call cf f args s id = some x) : oc.call.i f args s id = some x := by
  unfold cf oc at *
  exact or_pull hp h
theorem oc_inl {f : FuncId} {args : List V} {s : St} {id : Nat} {x : V × St} (hp : cf.plB f = false) (h : inlE oc.call cf f args s id = some x) : oc.call.i f args s id = some x := by
  unfold cf oc at *
  exact or_inl hp h
theorem inl_s {f : FuncId} {fn : Func} {body : Code} {args : List V} {e ev : List (Nat × V)} {o o' : List (Nat × Ob)} {n id m : Nat} {v : V} (hp : cf.plB f = false) (hf : cf.code f = some fn) (hb : fn.body = some body) (hl : args.length = fn.params.size + fn.nfree) (he : rawArgs 0 args = ev)
    (h : wpC ⟨oc.call,fun _ _ _ => none⟩ cf f body ⟨ev,o,id⟩ (fun t s => (t = .normal ∨ t = .ret) ∧ ∃ vs,resL cf s fn.results.toList = some vs ∧ vs.all (fun v => !v.isTup) = true ∧ (oneV vs,(⟨e,s.obs,s.nxt⟩ : St)) = (v,⟨e,o',m⟩))) : oc.call.i f args ⟨e,o,n⟩ id = some (v,⟨e,o',m⟩) := by
  subst he
  refine oc_inl hp ?_
  obtain ⟨r,h1,h2,vs,h3,h4,h5⟩ := h
  unfold inlE
  simp only [hf,hb,if_pos hl,h1,if_pos h2,h3,if_pos h4,h5]
theorem pull_at {e : List (Nat × V)} {o : List (Nat × Ob)} {n : Nat} {f : FuncId} {q j ver m sz : Nat} {fs : List Nat} {k k2 : IntKind} {a b : Int} {xs ys : List V} {ob : Ob} {x xu x2 : V} (hP : cf.plB f = true) (hmd : cf.md f = [.io]) (ho : geta o q = some ob) (hv : ob.ver = ver) (hg : ob.xs[j]? = some x) (hgf : getF x fs = some (.lst true sz xs)) (hl : xs.length = m)
    (hc : oc.call f [.iol sz xs,.int k a] = some (.int k2 b,[.lst true sz ys])) (hm : ys.length = m) (hal : V.alikeL xs ys = true) (hsu : setF x fs .und = some xu) (hgu : getF xu fs = some .und) (hs2 : setF xu fs (.lst true sz ys) = some x2) (hk : dela o (n + 32) = o) :
    oc.call.i f [.plc q j fs ver m,.int k a] ⟨e,o,n⟩ n = some (.int k2 b,⟨e,(q,⟨ob.bx,ob.fx,ob.sz,ob.xs.set j x2,ver + 2⟩) :: (q,⟨ob.bx,ob.fx,ob.sz,ob.xs.set j xu,ver + 1⟩) :: o,n + 64⟩) := by
  subst hv hl
  have hq : q ≠ n + 32 := by
    intro h
    rw [← hk,h,geta_dela_self] at ho
    cases ho
  have hq' : n + 32 ≠ q := Ne.symm hq
  refine oc_pull hP ?_
  have hget : ob.get j fs = some (.lst true sz xs) := by simp only [Ob.get,hg,hgf]
  have hset : ob.set j fs .und = some { ob with xs := ob.xs.set j xu } := by simp only [Ob.set,hg,hsu,mp_some]
  have hat : St.at ⟨e,o,n⟩ q j fs ob.ver xs.length = some (sz,xs,ob) := by simp only [St.at,ho,hget,if_true]
  have htk : St.take ⟨e,o,n⟩ q j fs ob.ver xs.length = some (sz,xs,⟨e,(q,⟨ob.bx,ob.fx,ob.sz,ob.xs.set j xu,ob.ver + 1⟩) :: o,n⟩) := by simp only [St.take,hat,hset,mp_some,puta]
  have hd1 : ∀ y : Ob,dela ((n + 32,y) :: (q,(⟨ob.bx,ob.fx,ob.sz,ob.xs.set j xu,ob.ver + 1⟩ : Ob)) :: o) (n + 32) = (q,⟨ob.bx,ob.fx,ob.sz,ob.xs.set j xu,ob.ver + 1⟩) :: o := by
    intro y;simp only [dela,if_true,if_neg hq,hk]
  have hjl : j < ob.xs.length := (List.getElem?_eq_some_iff.1 hg).1
  have hgu2 : Ob.get ⟨ob.bx,ob.fx,ob.sz,ob.xs.set j xu,ob.ver + 1⟩ j fs = some .und := by
    simp only [Ob.get,set_at hg,hgu]
  have hset2 : Ob.set ⟨ob.bx,ob.fx,ob.sz,ob.xs.set j xu,ob.ver + 1⟩ j fs (.lst true sz ys) = some ⟨ob.bx,ob.fx,ob.sz,ob.xs.set j x2,ob.ver + 1⟩ := by
    simp only [Ob.set,set_at hg,hs2,mp_some,List.set_set]
  simp only [pullE,htk,St.new,puta,hmd,lendV,lendOne,List.headD_cons,List.tail_cons,List.headD_nil,List.tail_nil,geta,if_true,and_self,V.isTup,Bool.false_eq_true,if_false,hd1,Option.isSome_some,callV,snapsV,V.snapA,V.snapP,V.snap,mp_some,hc,plainM,V.mention,List.nil_append,List.isEmpty_nil,true_or,V.thaw,Nat.le_add_right,List.append_nil,backs,backOne,hal,pushE,hgu2,hset2,hm]
theorem pull_row {e : List (Nat × V)} {o : List (Nat × Ob)} {n : Nat} {f : FuncId} {q m : Nat} {k k2 : IntKind} {a b : Int} {ys : List V} {ob : Ob} (hP : cf.plB f = true) (hmd : cf.md f = [.io]) (ho : geta o q = some ob) (hb : ob.bx = false) (hl : m = ob.xs.length)
    (hc : oc.call f [.iol ob.sz ob.xs,.int k a] = some (.int k2 b,[.lst true ob.sz ys])) (hal : V.alikeL ob.xs ys = true) :
    oc.call.i f [.ref q 0 m,.int k a] ⟨e,o,n⟩ n = some (.int k2 b,⟨e,(q,⟨false,ob.fx,ob.sz,ys,ob.ver + 1⟩) :: dela o q,n + 32⟩) := by
  subst hl
  refine oc_pull hP ?_
  simp only [pullE,callV,hmd,lendV,lendOne,List.headD_cons,List.tail_cons,List.headD_nil,List.tail_nil,ho,hb,if_true,and_self,V.isTup,Bool.false_eq_true,if_false,snapsV,V.snapA,V.snapP,V.snap,mp_some,hc,plainM,V.mention,List.nil_append,List.isEmpty_nil,true_or,V.thaw,Nat.le_add_right,List.append_nil,backs,backOne,hal,puta]
section
variable {all rest : List Oper} {base i : Nat} {Q : St → List (List (Nat × Acc)) → Prop} {e : List (Nat × V)} {o : List (Nat × Ob)} {n : Nat} {d : Nat} {t : TypeId} {p : String} {af : Array Edge}
theorem iE {call : Call} {args : Array Operand} {ts : Array TypeId} {fo : Operand} {f : FuncId} {cs vs : List V} (hx : opsV e args.toList = some vs := by exact rfl) (hf : opV e fo = some (.clo f cs) := by exact rfl) (hB : cf.inB f = true := by (rw [cf_in];rfl)) (hk : V.capsOk cs = true := by exact rfl)
    (h : ∃ v o' m,call.i f (vs ++ cs) ⟨e,o,n⟩ n = some (v,⟨e,o',m⟩) ∧ ∃ m',max n m + 32 = m' ∧ wpO call cf false all base (i + 1) rest ⟨(d,v) :: e,o',m'⟩ [] Q) : wpO call cf false all base i (⟨some d,.call ⟨.value fo,args,ts⟩,t,p,af,none⟩ :: rest) ⟨e,o,n⟩ [] Q := by
  obtain ⟨v,o',m,hc,m',hm,h⟩ := h
  exact i_ hx hf hB hk hc hm h
theorem ip {args : Array Operand} {ts : Array TypeId} {fo : Operand} {f : FuncId} {q j ver m sz : Nat} {fs : List Nat} {k k2 : IntKind} {a b : Int} {xs ys ws wu : List V} {ob : Ob} {x xu x2 : V} (hx : opsV e args.toList = some [.plc q j fs ver m,.int k a] := by exact rfl) (hf : opV e fo = some (.clo f []) := by exact rfl)
    (hB : cf.inB f = true := by (rw [cf_in];rfl)) (hP : cf.plB f = true := by (rw [cf_pl];rfl)) (hmd : cf.md f = [.io] := by (rw [cf_md];rfl)) (ho : geta o q = some ob := by exact rfl) (hv : ob.ver = ver := by rfl) (hg : ob.xs[j]? = some x := by first | assumption | exact set_at (by assumption)) (hgf : getF x fs = some (.lst true sz xs) := by exact rfl) (hl : xs.length = m := by first | rfl | simp)
    (hc : oc.call f [.iol sz xs,.int k a] = some (.int k2 b,[.lst true sz ys])) (hm : ys.length = m := by first | rfl | simp) (hal : V.alikeL xs ys = true := by simp) (hsu : setF x fs .und = some xu := by exact rfl) (hgu : getF xu fs = some .und := by exact rfl) (hs2 : setF xu fs (.lst true sz ys) = some x2 := by exact rfl)
    (hk : dela o (n + 32) = o := by simp) (hwu : ob.xs.set j xu = wu := by (try simp only [List.set_set]);rfl) (hw : ob.xs.set j x2 = ws := by (try simp only [List.set_set]);rfl)
    (h : wpO oc.call cf false all base (i + 1) rest ⟨(d,.int k2 b) :: e,(q,⟨ob.bx,ob.fx,ob.sz,ws,ver + 2⟩) :: (q,⟨ob.bx,ob.fx,ob.sz,wu,ver + 1⟩) :: o,n + 96⟩ [] Q) : wpO oc.call cf false all base i (⟨some d,.call ⟨.value fo,args,ts⟩,t,p,af,none⟩ :: rest) ⟨e,o,n⟩ [] Q := by
  subst hwu hw
  exact i_ hx hf hB rfl (pull_at hP hmd ho hv hg hgf hl hc hm hal hsu hgu hs2 hk) (by omega) h
theorem iq {args : Array Operand} {ts : Array TypeId} {fo : Operand} {f : FuncId} {q m : Nat} {k k2 : IntKind} {a b : Int} {ys : List V} {ob : Ob} {o1 : List (Nat × Ob)} (hx : opsV e args.toList = some [.ref q 0 m,.int k a] := by exact rfl) (hf : opV e fo = some (.clo f []) := by exact rfl)
    (hB : cf.inB f = true := by (rw [cf_in];rfl)) (hP : cf.plB f = true := by (rw [cf_pl];rfl)) (hmd : cf.md f = [.io] := by (rw [cf_md];rfl)) (ho : geta o q = some ob := by exact rfl) (hb : ob.bx = false := by rfl) (hl : m = ob.xs.length := by first | rfl | simp)
    (hc : oc.call f [.iol ob.sz ob.xs,.int k a] = some (.int k2 b,[.lst true ob.sz ys])) (hal : V.alikeL ob.xs ys = true := by simp) (hd : dela o q = o1 := by (simp;rfl))
    (h : wpO oc.call cf false all base (i + 1) rest ⟨(d,.int k2 b) :: e,(q,⟨false,ob.fx,ob.sz,ys,ob.ver + 1⟩) :: o1,n + 64⟩ [] Q) : wpO oc.call cf false all base i (⟨some d,.call ⟨.value fo,args,ts⟩,t,p,af,none⟩ :: rest) ⟨e,o,n⟩ [] Q := by
  subst hd
  exact i_ hx hf hB rfl (pull_row hP hmd ho hb hl hc hal) (by omega) h
end
section
variable {call : Call} {id base : Nat} {e : List (Nat × V)} {o : List (Nat × Ob)} {n : Nat} {t : TypeId} {K : V → List (Nat × Ob) → Prop}
theorem k_eq {op : Op} {v : V} (h1 : opK call cf id base e o n t op (fun v' o' => v' = v ∧ o' = o)) (h : K v o) : opK call cf id base e o n t op K := by
  obtain ⟨v',o',h2,rfl,rfl⟩ := h1;exact ⟨_,_,h2,h⟩
theorem m_ {x : Operand} {v : V} (hx : opV e x = some v := by exact rfl) (hn : nilC x = false := by exact rfl) (h : K v o) : opK call cf id base e o n t (.move x) K := k_move hx hn h
theorem a_ {x : Operand} {v : V} (hx : opV e x = some v := by exact rfl) (hn : nilC x = false := by exact rfl) (h : K v o) : opK call cf id base e o n t (.assign x) K := k_assign hx hn h
theorem aN {el : TypeId} {z : V} (he : cf.elem t = some el := by exact tys_ok.elem _ _ rfl) (hz : cf.zero el = some z := by exact tys_ok.zero _ _ rfl) (h : K (.lst true z.cells []) o) : opK call cf id base e o n t (.assign (.const (.slice none 0 0))) K := k_nil he hz h
theorem b_ {op : BinOp} {t' t2 : TypeId} {x y : Operand} {k : IntKind} {a b : Int} {v : V} (hx : opV e x = some (.int k a) := by exact rfl) (hy : opV e y = some (.int k b) := by exact rfl) (hn : nilC y = false := by exact rfl) (hv : intV op k a b = some v := by first | exact rfl | (simp only [intV];rw [if_neg (by first | assumption | omega)])) (h : K v o) : opK call cf id base e o n t (.binOp op t' x y t2) K := k_bin hx hy hn hv h
theorem bE {op : BinOp} {t' t2 : TypeId} {x y : Operand} {v : V}
    (h1 : opK call cf id base e o n t (.binOp op t' x y t2) (fun v' o' => v' = v ∧ o' = o) := by
      first
      | exact k_bin rfl rfl rfl rfl ⟨rfl,rfl⟩
      | exact k_binB (tys_ok.zero _ _ rfl) rfl rfl rfl (.inl ⟨rfl,rfl⟩) ⟨rfl,rfl⟩
      | exact k_binB (tys_ok.zero _ _ rfl) rfl rfl rfl (.inr ⟨rfl,rfl⟩) ⟨rfl,rfl⟩) (h : K v o) : opK call cf id base e o n t (.binOp op t' x y t2) K := k_eq h1 h
theorem bN {op : BinOp} {t' t2 : TypeId} {x y : Operand} {v : V}
    (h1 : opK call cf id base e o n t (.binOp op t' x y t2) (fun v' o' => v' = v ∧ o' = o) := by
      first
      | exact k_isNil (tys_ok.elem _ _ rfl) rfl rfl ⟨rfl,rfl⟩
      | exact k_notNil (tys_ok.elem _ _ rfl) rfl rfl (by assumption) ⟨rfl,rfl⟩) (h : K v o) : opK call cf id base e o n t (.binOp op t' x y t2) K := k_eq h1 h
theorem sh {op : BinOp} {t' t2 : TypeId} {x y : Operand} {vx vy v : V} (hx : opV e x = some vx := by exact rfl) (hy : opV e y = some vy := by exact rfl) (hn : nilC y = false := by exact rfl) (ho : op = .shl ∨ op = .shr := by simp) (hv : shiftV op vx vy = some v := by exact rfl) (h : K v o) : opK call cf id base e o n t (.binOp op t' x y t2) K := k_shift hx hy hn ho hv h
theorem u_ {op : UnOp} {t' : TypeId} {x : Operand} {vx v : V} (hx : opV e x = some vx := by exact rfl) (hv : unV op vx = some v := by exact rfl) (h : K v o) : opK call cf id base e o n t (.unOp op t' x) K := k_un hx hv h
theorem l_ {t' : TypeId} {x : Operand} {v : V}
    (h1 : opK call cf id base e o n t (.load t' x) (fun v' o' => v' = v ∧ o' = o) := by
      first
      | exact k_load (tys_ok.zero _ _ rfl) rfl rfl ⟨rfl,rfl⟩
      | exact k_loadE (tys_ok.zero _ _ rfl) rfl rfl (by assumption) (by simp [Nd.v]) (by first | rfl | simp) (by first | rfl | (simp;rfl)) ⟨rfl,rfl⟩
      | exact k_loadF (tys_ok.zero _ _ rfl) rfl rfl (by first | assumption | exact set_at (by assumption)) rfl (by simp) rfl rfl ⟨rfl,rfl⟩
      | exact k_loadS (tys_ok.zero _ _ rfl) rfl (by simp [*];rfl) (by rfl) ⟨rfl,rfl⟩) (h : K v o) : opK call cf id base e o n t (.load t' x) K := k_eq h1 h
theorem s_ {t' : TypeId} {x y : Operand} {o1 : List (Nat × Ob)}
    (h1 : opK call cf id base e o n t (.store t' x y) (fun v' o' => v' = .und ∧ o' = o1) := by
      first
      | exact k_storeE (tys_ok.zero _ _ rfl) rfl rfl rfl rfl (by assumption) (by first | rfl | simp) (by first | rfl | simp) (by simp;rfl) (by rfl) (by rfl) (by assumption) (by first | rfl | simp) (by simp;rfl) (by simp;rfl) ⟨rfl,rfl⟩
      | exact k_storeF (tys_ok.zero _ _ rfl) rfl rfl rfl rfl (by first | assumption | exact set_at (by assumption)) rfl rfl rfl rfl rfl rfl (by (try simp only [List.set_set]);rfl) ⟨rfl,rfl⟩
      | exact k_storeS (tys_ok.zero _ _ rfl) rfl rfl (by simp [*];rfl) (by rfl) ⟨rfl,rfl⟩) (h : K .und o1) : opK call cf id base e o n t (.store t' x y) K := by
  obtain ⟨v',o',h2,rfl,rfl⟩ := h1;exact ⟨_,_,h2,h⟩
theorem f_ {t' : TypeId} {x : Operand} {i : Nat} {v : V}
    (h1 : opK call cf id base e o n t (.fieldAddr t' x i) (fun v' o' => v' = v ∧ o' = o) := by
      first
      | exact k_fieldAddrP rfl rfl rfl (fieldT_ok tys_ok (Y:=tys) rfl) ⟨rfl,rfl⟩
      | exact k_fieldAddrV rfl (fieldT_ok tys_ok (Y:=tys) rfl) rfl ⟨rfl,rfl⟩
      | exact k_fieldAddrF rfl rfl (by first | assumption | exact set_at (by assumption)) rfl (fieldT_ok tys_ok (Y:=tys) rfl) ⟨rfl,rfl⟩) (h : K v o) : opK call cf id base e o n t (.fieldAddr t' x i) K := k_eq h1 h
theorem x_ {t' : TypeId} {x ix : Operand} {v : V}
    (h1 : opK call cf id base e o n t (.indexAddr t' x ix) (fun v' o' => v' = v ∧ o' = o) := by
      first
      | exact k_index (tys_ok.elem _ _ rfl) (tys_ok.zero _ _ rfl) rfl rfl (by omega) (by assumption) (by first | rfl | (simp [*] <;> fail)) ⟨rfl,rfl⟩
      | exact k_index (tys_ok.elem _ _ rfl) (tys_ok.zero _ _ rfl) rfl rfl (by omega) (by simp [*]) (by first | rfl | (simp [*] <;> fail)) ⟨rfl,rfl⟩
      | exact k_indexQ (tys_ok.elem _ _ rfl) (tys_ok.zero _ _ rfl) rfl rfl rfl rfl (by omega) (by simp;rfl) (by first | omega | simp [*]) (by assumption) (by first | rfl | (simp [*] <;> fail)) ⟨rfl,rfl⟩
      | exact k_indexQ (tys_ok.elem _ _ rfl) (tys_ok.zero _ _ rfl) rfl rfl rfl rfl (by omega) (by simp;rfl) (by first | omega | simp [*]) (by exact set_at (by assumption)) (by first | rfl | simp) ⟨rfl,rfl⟩
      | exact k_indexQ (tys_ok.elem _ _ rfl) (tys_ok.zero _ _ rfl) rfl rfl rfl rfl (by omega) (by simp;rfl) (by first | omega | simp [*]) (by simp [*];rfl) (by first | rfl | (simp [*] <;> fail)) ⟨rfl,rfl⟩) (h : K v o) : opK call cf id base e o n t (.indexAddr t' x ix) K := k_eq h1 h
theorem al {t' : TypeId} {z : V} {id' : Nat} (hz : cf.zero t' = some z := by exact tys_ok.zero _ _ rfl) (hid : id = id' := by ((try simp);rfl)) (h : K (.ptr id' 0 []) ((id',⟨true,false,z.cells,[z],0⟩) :: o)) : opK call cf id base e o n t (.alloc t') K := k_alloc hz hid h
theorem bx {t' : TypeId} {x : Operand} {v z : V} {id' : Nat} (hx : opV e x = some v := by exact rfl) (hz : cf.zero t' = some z := by exact tys_ok.zero _ _ rfl) (hid : id = id' := by ((try simp);rfl)) (hc : z.alike v = true := by exact rfl) (ht : v.isTup = false := by exact rfl) (h : K (.ptr id' 0 []) ((id',⟨true,false,z.cells,[v],0⟩) :: o)) : opK call cf id base e o n t (.box t' x) K := k_box hx hz hid hc ht h
theorem pk {c x y : Operand} {v : V}
    (h1 : opK call cf id base e o n t (.pick c x y) (fun v' o' => v' = v ∧ o' = o) := by
      first
      | exact k_pickT rfl (by first | rfl | assumption) rfl ⟨rfl,rfl⟩
      | exact k_pickF rfl (by first | rfl | assumption) rfl ⟨rfl,rfl⟩) (h : K v o) : opK call cf id base e o n t (.pick c x y) K := k_eq h1 h
theorem ex {x : Operand} {i : Nat} {xs : List V} {y : V} (hx : opV e x = some (.tup xs) := by exact rfl) (hy : xs[i]? = some y := by exact rfl) (h : K y o) : opK call cf id base e o n t (.extract x i) K := k_extract hx hy h
theorem mf {f : FuncId} {caps : Array Operand} {cs : List V} (hx : opsV e caps.toList = some cs := by exact rfl) (hk : V.capsOk cs = true := by exact rfl) (h : K (.clo f cs) o) : opK call cf id base e o n t (.makeFunc (.func f) #[] caps) K := k_makeFunc hx hk h
theorem mk {t' el : TypeId} {x y : Operand} {k k' : IntKind} {a : Int} {z : V} {id' : Nat} (hx : opV e x = some (.int k a) := by exact rfl) (hy : opV e y = some (.int k' a) := by exact rfl) (he : cf.elem t' = some el := by exact tys_ok.elem _ _ rfl) (hz : cf.zero el = some z := by exact tys_ok.zero _ _ rfl) (hid : id = id' := by ((try simp);rfl)) (h0 : 0 ≤ a := by (simp [*];try omega)) (h1 : a < maxV := by (simp [*];try omega))
    (h : K (.ref id' 0 a.toNat) ((id',⟨false,false,z.cells,List.replicate a.toNat z,0⟩) :: o)) : opK call cf id base e o n t (.makeSlice t' x y) K := k_makeSlice hx hy he hz hid h0 h1 h
theorem sl {t' el : TypeId} {x : Operand} {lo hi : Option Operand} {vx z v : V} {vl vh : Option V} {m a b : Int} (hx : opV e x = some vx := by exact rfl) (hl : optV e lo = some vl := by exact rfl) (hh : optV e hi = some vh := by exact rfl) (he : cf.elem t' = some el := by exact tys_ok.elem _ _ rfl) (hz : cf.zero el = some z := by exact tys_ok.zero _ _ rfl) (hm : lenV vx = some m := by exact rfl)
    (ha : bound vl 0 = some a := by exact rfl) (hb : bound vh m = some b := by exact rfl) (hc : 0 ≤ a ∧ a ≤ b ∧ b ≤ m := by first | omega | (simp [*];done) | (simp [*];omega)) (hv : cutV ⟨e,o,n⟩ z.cells vx a b = some v := by first | exact rfl | (simp [*];rfl)) (h : K v o) : opK call cf id base e o n t (.slice t' x lo hi none) K := k_slice hx hl hh he hz hm ha hb hc hv h
theorem le {args : Array Operand} {ts : Array TypeId} {t' el : TypeId} {x : V} {m : Int} (hx : opsV e args.toList = some [x] := by exact rfl) (ht : ts[0]? = some t' := by exact rfl) (he : cf.elem t' = some el := by exact tys_ok.elem _ _ rfl) (hm : lenV x = some m := by exact rfl) (h : K (.int .i64 m) o) : opK call cf id base e o n t (.call ⟨.builtin .len,args,ts⟩) K := k_len hx ht he hm h
theorem cc {args : Array Operand} {ts : Array TypeId} {t' el : TypeId} (hx : opsV e args.toList = some [.emp true] := by exact rfl) (ht : ts[0]? = some t' := by exact rfl) (he : cf.elem t' = some el := by exact tys_ok.elem _ _ rfl) (h : K (.int .i64 0) o) : opK call cf id base e o n t (.call ⟨.builtin .cap,args,ts⟩) K := k_cap hx ht he h
theorem mi {args : Array Operand} {ts : Array TypeId} {vs : List V} {v : V} (hx : opsV e args.toList = some vs := by exact rfl) (hv : minV vs = some v := by exact rfl) (h : K v o) : opK call cf id base e o n t (.call ⟨.builtin .min,args,ts⟩) K := k_min hx hv h
theorem ap {args : Array Operand} {ts : Array TypeId} {t1 t2 e1 e2 : TypeId} {x y z : V} {ys ws bs : List V} {r1 : Option (List V × St)} {r2 : Option (Nat × List V × St)} {sz : Nat} {o1 o2 : List (Nat × Ob)} {id' m : Nat} (hx : opsV e args.toList = some [x,y] := by exact rfl) (h1 : ts[0]? = some t1 := by exact rfl) (h2 : ts[1]? = some t2 := by exact rfl) (he1 : cf.elem t1 = some e1 := by exact tys_ok.elem _ _ rfl) (hz : cf.zero e1 = some z := by exact tys_ok.zero _ _ rfl) (he2 : cf.elem t2 = some e2 := by exact tys_ok.elem _ _ rfl)
    (hel : St.elems ⟨[],o,n⟩ base y = r1 := by (simp;rfl)) (hel2 : r1 = some (ys,⟨[],o1,n⟩) := by rfl) (hb : St.base ⟨[],o1,n⟩ (x.asRow z.cells) = r2 := by (simp;rfl)) (hb2 : r2 = some (sz,bs,⟨[],o2,n⟩) := by rfl) (hid : id = id' := by ((try simp);rfl)) (hsz : sz = z.cells := by rfl) (hc : V.cellsAll z.cells ys = true := by (simp [*];try rfl)) (hw : bs ++ ys = ws := by ((try simp);rfl)) (hm : ws.length = m := by ((try simp);rfl)) (hlen : m < maxV := by (simp <;> omega))
    (h : K (.ref id' 0 m) ((id',⟨false,false,z.cells,ws,0⟩) :: o2)) : opK call cf id base e o n t (.call ⟨.builtin .append,args,ts⟩) K := k_appendS hx h1 h2 he1 hz he2 hel hel2 hb hb2 hid hsz hc hw hm hlen h
theorem bd {t' : TypeId} {ps : Array (Nat × Operand)} {zs xs : List V} {l : List (Nat × V)} {fl : List (Nat × TypeId)} (hz : cf.zero t' = some (.agg zs) := by exact tys_ok.zero _ _ rfl) (hf : cf.flds t' = some fl := by exact tys_ok.flds _ _ rfl) (hp : partsV e ps.toList = some l := by exact rfl) (hv : setParts cf t' zs l = some xs := by exact (partsT_ok tys_ok (Y:=tys) rfl)) (h : K (.agg xs) o) : opK call cf id base e o n t (.build t' ps) K := k_build hz hf hp hv h
theorem bs {t' el : TypeId} {m : Nat} {ps : Array (Nat × Operand)} {z : V} {l : List (Nat × V)} {ys : List V} {o1 : List (Nat × Ob)} {id' : Nat} {r : Option (List V × St)} (he : cf.elem t' = some el := by exact tys_ok.elem _ _ rfl) (hz : cf.zero el = some z := by exact tys_ok.zero _ _ rfl) (hp : partsV e ps.toList = some l := by exact rfl) (hc : l.map (·.1) = List.range m ∧ m * z.cells ≤ 16777216 ∧ l.all (fun e => z.alike e.2) = true := by exact ⟨rfl,by first | decide | simp,by simp⟩)
    (hf : V.fzL (l.map (·.2)) ⟨[],o,n⟩ = r := by (simp;rfl)) (hr : r = some (ys,⟨[],o1,n⟩) := by rfl) (hid : id = id' := by ((try simp);rfl)) (h : K (.ref id' 0 m) ((id',⟨false,false,z.cells,ys,0⟩) :: o1)) : opK call cf id base e o n t (.buildSlice t' m ps) K := k_buildSliceS he hz hp hc hf hr hid h
theorem ca {args : Array Operand} {ts : Array TypeId} {fo : Operand} {f : FuncId} {cs vs qs : List V} {sr : Option (List V)} {rv v : V} {o1 : List (Nat × Ob)} {id' : Nat} (hx : opsV e args.toList = some vs := by exact rfl) (hf : opV e fo = some (.clo f cs) := by exact rfl) (hB : cf.inB f = false := by (rw [cf_in];rfl)) (hk : V.capsOk cs = true := by exact rfl) (hl : lendV (cf.md f) (vs ++ cs) ⟨e,o,n⟩ = some (vs ++ cs,⟨e,o,n⟩,[]) := by (rw [cf_md];rfl))
    (hs : snapsV ⟨[],o,n⟩ (cf.md f) (vs ++ cs) = sr := by (simp [cf_md,mdT];rfl)) (hsr : sr = some qs := by first | rfl | (simp [*] <;> fail)) (hc : call f qs = some (rv,[])) (hid : id = id' := by ((try simp);rfl)) (hw : ((plainM (cf.md f) (vs ++ cs)).isEmpty = true ∨ rv.tidy = true ∧ V.tidyL ([] : List V) = true) ∧ (rv.thaw id').2.2 ≤ id' + 32 := by simp [cf_md,mdT]) (hv : (rv.thaw id').1 = v := by (simp;rfl)) (ho : (rv.thaw id').2.1 ++ o = o1 := by (simp;rfl))
    (h : K v o1) : opK call cf id base e o n t (.call ⟨.value fo,args,ts⟩) K := k_callS hx hf hB hk hl hs hsr hc rfl hid hw hv ho h
end
section
variable {orc : Orc} {fn : FuncId} {Q : Ext → St → Prop} {s : St}
theorem e_ {ev : List (Nat × V)} {o : List (Nat × Ob)} {m n' : Nat} {tr : List (List (Nat × Acc))} (hn : m = n' := by ((try simp);rfl)) (h : Q .normal ⟨ev,o,n'⟩) : endQ Q ⟨ev,o,m⟩ tr := end_mk hn h
theorem ed {ev : List (Nat × V)} {o : List (Nat × Ob)} {m n n' k : Nat} {bits : List Nat} {tr : List (List (Nat × Acc))} (hn : n = n' := by (simp;rfl)) (hc : calmE bits k tr = true := by first | rfl | simp) (h : Q .normal ⟨ev,o,n'⟩) : endD Q n bits k ⟨ev,o,m⟩ tr := endD_mk hn hc h
theorem c_ {c : Operand} {a b : Code} {v : Bool} (hc : opV s.env c = some (.bool v) := by exact rfl) (h1 : v = true → wpC orc cf fn a s Q) (h2 : v = false → wpC orc cf fn b s Q) : wpC orc cf fn (.cond c a b) s Q := wc_cond hc h1 h2
theorem fin_ {e : Ext} {s : St} {fn : Func} {args : List V} {x : V × List V} {vs : List V} {r : Option (List V × St)} {q : List V × St} {os : List V} (he : e = .normal ∨ e = .ret := by simp)
    (hr : resL cf s fn.results.toList = some vs)
    (hz : V.fzL vs ⟨[],s.obs,s.nxt⟩ = r := by (simp;rfl)) (hq : r = some q := by rfl) (ho : outsV 0 args q.2 = some os := by (simp;rfl)) (h : (oneV q.1,os) = x) :
    (e = .normal ∨ e = .ret) ∧ ∃ vs,resL cf s fn.results.toList = some vs ∧ ∃ r,V.fzL vs ⟨[],s.obs,s.nxt⟩ = r ∧ ∃ q,r = some q ∧ ∃ os,outsV 0 args q.2 = some os ∧ (oneV q.1,os) = x :=
  ⟨he,vs,hr,r,hz,q,hq,os,ho,h⟩
theorem dn {p c : Prop} (h : c) (hf : c → False := by first | (simp;done) | (intro c;(try simp at c);omega)) : p := (hf h).elim
theorem wa_ {a b : Code} (h : wpC orc cf fn a s (aftQ orc cf fn b Q)) : wpC orc cf fn (.seq a b) s Q := wc_seq h
end
attribute [simp] rawArgs mp_some mp_none V.aggOf St.copyRow St.moveRow St.copyPlc backOne cutV rowAddr opE opV constV geta puta dela intV binV shiftV unV bA_nil bA_int bA_bool bA_lstF bA_lstT bA_iol bA_iop bA_agg bA_clo bA_vptr resL resV V.fz V.fzL V.fzI V.fzIL outsV opsV partsV setParts builtinV lenV callV lendV lendOne snapsV plainM backs V.snap V.snapL sA_int sA_bool sA_lst sA_emp sA_agg sA_ref sA_plc sA_vptr sA_clo sA_ptr sP_int sP_bool sP_lst sP_emp sP_agg sP_ref sP_plc sP_vptr sP_ptr V.snapPL V.thaw V.thawL V.tidy V.tidyL V.share V.shareL indexAddrV fieldAddrV loadV storeV V.cells V.cellsL keepEnv liveIds nodups posOf renOf renObs verOf sortObs V.ren V.renL V.mention V.mentionL keyOf boxesOf boxF findLoop St.put St.new St.at St.take St.takeQ St.give St.elems St.base appendV Ob.get Ob.set getF setF V.alike V.alikeL V.scal V.scalL V.lod V.lodL fieldOk offs rowOf oneV guardE sliceV bound optV accE accOne accLend accSnap accS V.accM V.accML V.accF V.accFL accArgs accAll calmE clashL Acc.clash beforeE maxV nilC opT V.isTup V.capsOk V.argOk V.bare V.bareL V.cellsAll V.asRow V.asRow
end Go.Proofs.Ytbcgenkegnmkhaa.Ev
namespace Go.Proofs.Ytbcgenkegnmkhaa.Ev
open Go
set_option maxRecDepth 100000
set_option linter.unusedSimpArgs false
set_option linter.unusedVariables false
set_option maxHeartbeats 2000000
theorem e_in (a b c : Int) : oc.call 60 [.int .i64 a,.int .i64 b,.int .i64 c] = some (.bool (inI a b c),[]) := by
 refine fun_s rfl cd60 rfl rfl rfl (by simp;rfl) (by simp;rfl) ?_
 refine wa_ (wc_region (w_ (a_ (h:=wo_nil (e_ (h:=aft_normal (wa_ (wc_region (w_ (m_ (h:=w_ (m_ (h:=w_ (b_ (h:=w_ (m_ (h:=?_)))))))))))))))))
 refine gw_ (h1:=?_) (h2:=?_)
 rotate_right 1
 focus
  intro c1
  refine go_ (h:=go_ (h:=go_ (h:=?_)))
 rotate_right 1
 focus
  intro c1
  refine g_ (h:=w_ (m_ (h:=g_ (h:=w_ (m_ (h:=g_ (h:=w_ (b_ (h:=?_)))))))))
 all_goals
  refine w_ (pk (h:=w_ (a_ (h:=wo_nil (e_ (h:=?_))))))
 all_goals first
 | (
  refine aft_normal ?_
  refine wc_ret (?_)
  )
 all_goals (refine fin_ (hr:=(res_tmp rfl res_nil)) (h:=?_);(focus (simp_all [inI] <;> omega)))
theorem e_l1In (a b c : Int) : oc.call 53 [.int .i64 a,.int .i64 b,.int .i64 c] = some (.bool (inI a b c),[]) := by
 refine fun_s rfl cd53 rfl rfl rfl (by simp;rfl) (by simp;rfl) ?_
 refine wa_ (wc_region (w_ (a_ (h:=wo_nil (e_ (h:=aft_normal (wa_ (wc_region (w_ (m_ (h:=w_ (m_ (h:=w_ (b_ (h:=w_ (m_ (h:=?_)))))))))))))))))
 refine gw_ (h1:=?_) (h2:=?_)
 rotate_right 1
 focus
  intro c1
  refine go_ (h:=go_ (h:=go_ (h:=?_)))
 rotate_right 1
 focus
  intro c1
  refine g_ (h:=w_ (m_ (h:=g_ (h:=w_ (m_ (h:=g_ (h:=w_ (b_ (h:=?_)))))))))
 all_goals
  refine w_ (pk (h:=w_ (a_ (h:=wo_nil (e_ (h:=?_))))))
 all_goals first
 | (
  refine aft_normal ?_
  refine wc_ret (?_)
  )
 all_goals (refine fin_ (hr:=(res_tmp rfl res_nil)) (h:=?_);(focus (simp_all [inI] <;> omega)))
theorem e_l1Min (a b : Int) : oc.call 76 [.int .i64 a,.int .i64 b] = some (.int .i64 (if a < b then a else b),[]) := by
 refine fun_s rfl cd76 rfl rfl rfl (by simp;rfl) (by simp;rfl) ?_
 refine wa_ (wc_region (w_ (a_ (h:=wo_nil (e_ (h:=aft_normal (wa_ (wa_ (wc_region (w_ (m_ (h:=w_ (m_ (h:=w_ (b_ (h:=wo_nil (e_ (h:=?_))))))))))))))))))
 refine aft_normal (?_)
 refine c_ (h1:=?_) (h2:=?_)
 rotate_right 1
 focus
  intro c1
  refine wc_skip (?_)
 rotate_right 1
 focus
  intro c1
  refine wa_ (wc_region (w_ (m_ (h:=w_ (a_ (h:=wo_nil (e_ (h:=aft_normal (wc_ret (?_))))))))))
 all_goals first
 | refine aft_ret ?_
 | (
  refine aft_normal ?_
  refine wa_ (wc_region (w_ (m_ (h:=w_ (a_ (h:=wo_nil (e_ (h:=aft_normal (wc_ret (?_))))))))))
  )
 all_goals (refine fin_ (hr:=(res_tmp rfl res_nil)) (h:=?_);(focus (first | (simp_all;done) | (simp_all <;> omega) | (simp_all <;> split <;> simp_all <;> omega))))
theorem e_two (a : Int) : oc.call 119 [.int .i64 a] = some (.bool (decide (a = 4) || decide (a = 6)),[]) := by
 refine fun_s rfl cd119 rfl rfl rfl (by simp;rfl) (by simp;rfl) ?_
 refine wa_ (wc_region (w_ (a_ (h:=wo_nil (e_ (h:=aft_normal (wa_ (wc_region (w_ (m_ (h:=w_ (bE (h:=w_ (m_ (h:=?_)))))))))))))))
 refine gw_ (h1:=?_) (h2:=?_)
 rotate_right 1
 focus
  intro c1
  refine go_ (h:=go_ (h:=?_))
 rotate_right 1
 focus
  intro c1
  refine g_ (h:=w_ (m_ (h:=g_ (h:=w_ (bE (h:=?_))))))
 all_goals
  refine w_ (pk (h:=w_ (a_ (h:=wo_nil (e_ (h:=?_))))))
 all_goals first
 | (
  refine aft_normal ?_
  refine wc_ret (?_)
  )
 all_goals (refine fin_ (hr:=(res_tmp rfl res_nil)) (h:=?_);(focus (first | (simp_all;done) | (simp_all <;> omega) | (simp_all <;> split <;> simp_all <;> omega))))
theorem e_grouped (a : Int) : oc.call 120 [.int .i64 a] = some (.bool (inI a 7 10),[]) := by
 refine fun_s rfl cd120 rfl rfl rfl (by simp;rfl) (by simp;rfl) ?_
 refine wa_ (wc_region (w_ (a_ (h:=wo_nil (e_ (h:=aft_normal (wa_ (wc_region (w_ (m_ (h:=w_ (ca (hc:=e_in _ _ _) (h:=w_ (a_ (h:=wo_nil (e_ (h:=aft_normal (?_))))))))))))))))))
 refine wc_ret (?_)
 all_goals (refine fin_ (hr:=(res_tmp rfl res_nil)) (h:=?_);(focus (first | (simp_all;done) | (simp_all <;> omega) | (simp_all <;> split <;> simp_all <;> omega))))
theorem e_l3Reads (a : Int) : oc.call 75 [.int .i64 a] = some (.int .i64 (if a = 1 then 0 else if a = 4 ∨ a = 6 then 2 else 1),[]) := by
 refine fun_s rfl cd75 rfl rfl rfl (by simp;rfl) (by simp;rfl) ?_
 refine wa_ (wc_region (w_ (a_ (h:=wo_nil (e_ (h:=aft_normal (wa_ (wa_ (wc_region (w_ (m_ (h:=wo_nil (e_ (h:=aft_normal (wc_block (?_))))))))))))))))
 refine wa_ (wc_region (w_ (bE (h:=w_ (a_ (h:=wo_nil (e_ (h:=aft_normal (?_)))))))))
 refine c_ (h1:=?_) (h2:=?_)
 rotate_right 1
 focus
  intro c1
  refine wa_ (wa_ (wc_region (w_ (bE (h:=w_ (a_ (h:=wo_nil (e_ (h:=aft_normal (?_))))))))))
  refine c_ (h1:=?_) (h2:=?_)
  rotate_right 1
  focus
   intro c2
   refine wc_region (w_ (bE (h:=w_ (a_ (h:=wo_nil (e_ (h:=?_)))))))
  rotate_right 1
  focus
   intro c2
   refine wc_skip (?_)
  all_goals first
  | (
   refine aft_normal ?_
   refine c_ (h1:=?_) (h2:=?_)
   rotate_right 1
   focus
    intro c3
    refine wc_skip (?_)
   rotate_right 1
   focus
    intro c3
    refine wa_ (wc_region (w_ (a_ (h:=wo_nil (e_ (h:=aft_normal (wc_ret (?_))))))))
   )
 rotate_right 1
 focus
  intro c1
  refine wa_ (wc_region (w_ (a_ (h:=wo_nil (e_ (h:=aft_normal (wc_ret (?_))))))))
 all_goals first | refine blk_normal ?_ | refine blk_ret ?_
 all_goals first
 | refine aft_ret ?_
 | (
  refine aft_normal ?_
  refine wa_ (wc_region (w_ (a_ (h:=wo_nil (e_ (h:=aft_normal (wc_ret (?_))))))))
  )
 all_goals (refine fin_ (hr:=(res_tmp rfl res_nil)) (h:=?_);(focus (first | (simp_all;done) | (simp_all <;> omega) | (simp_all <;> split <;> simp_all <;> omega))))
theorem e_size (sz : Nat) (l : List V) (h : l.length < 4611686018427387904) : oc.call 107 [.lst false sz l] = some (.int .i64 l.length,[]) := by
 refine fun_s rfl cd107 rfl rfl rfl (by simp;rfl) (by simp;rfl) ?_
 refine wa_ (wc_region (w_ (a_ (h:=wo_nil (e_ (h:=aft_normal (wa_ (wc_region (w_ (m_ (h:=w_ (le (h:=w_ (a_ (h:=wo_nil (e_ (h:=aft_normal (?_))))))))))))))))))
 refine wc_ret (?_)
 all_goals (refine fin_ (hr:=(res_tmp rfl res_nil)) (h:=?_);(focus (first | (simp_all;done) | (simp_all <;> omega) | (simp_all <;> split <;> simp_all <;> omega))))
theorem e_sizeN (sz : Nat) (l : List V) (h : l.length < 4611686018427387904) : oc.call 77 [.lst false sz l] = some (.int .i64 l.length,[]) := by
 refine fun_s rfl cd77 rfl rfl rfl (by simp;rfl) (by simp;rfl) ?_
 refine wa_ (wc_region (w_ (a_ (h:=wo_nil (e_ (h:=aft_normal (wa_ (wc_region (w_ (m_ (h:=w_ (le (h:=w_ (a_ (h:=wo_nil (e_ (h:=aft_normal (?_))))))))))))))))))
 refine wc_ret (?_)
 all_goals (refine fin_ (hr:=(res_tmp rfl res_nil)) (h:=?_);(focus (first | (simp_all;done) | (simp_all <;> omega) | (simp_all <;> split <;> simp_all <;> omega))))
theorem e_sz (sz : Nat) (l : List V) (a : Int) (h : l.length < 4611686018427387904) (ha : 0 ≤ a) (hb : a < 4611686018427387904) : oc.call 98 [.lst false sz l,.int .i64 a] = some (.int .i64 (if a < l.length then -1 else a - l.length),[]) := by
 refine fun_s rfl cd98 rfl rfl rfl (by simp;rfl) (by simp;rfl) ?_
 have hw : IntKind.i64.wrap (a - l.length) = a - l.length := wrap_id (by omega) (by omega)
 refine wa_ (wc_region (w_ (a_ (h:=wo_nil (e_ (h:=aft_normal (wa_ (wc_region (w_ (m_ (h:=w_ (m_ (h:=w_ (le (h:=w_ (b_ (h:=w_ (a_ (h:=?_)))))))))))))))))))
 refine wo_nil (e_ (h:=aft_normal (wa_ (wa_ (wc_region (w_ (m_ (h:=w_ (b_ (h:=wo_nil (e_ (h:=aft_normal (?_)))))))))))))
 refine c_ (h1:=?_) (h2:=?_)
 rotate_right 1
 focus
  intro c1
  refine wc_skip (?_)
 rotate_right 1
 focus
  intro c1
  refine wa_ (wc_region (w_ (a_ (h:=wo_nil (e_ (h:=aft_normal (wc_ret (?_))))))))
 all_goals first
 | refine aft_ret ?_
 | (
  refine aft_normal ?_
  refine wa_ (wc_region (w_ (m_ (h:=w_ (a_ (h:=wo_nil (e_ (h:=aft_normal (wc_ret (?_))))))))))
  )
 all_goals (refine fin_ (hr:=(res_tmp rfl res_nil)) (h:=?_);(focus (first | (simp_all;done) | (simp_all <;> omega) | (simp_all <;> split <;> simp_all <;> omega))))
theorem e_isWeight (a : Int) : oc.call 87 [.int .i64 a] = some (.bool (inI a (-1000000000000) 1000000000000),[]) := by
 refine fun_s rfl cd87 rfl rfl rfl (by simp;rfl) (by simp;rfl) ?_
 refine wa_ (wc_region (w_ (a_ (h:=wo_nil (e_ (h:=aft_normal (wa_ (wc_region (w_ (m_ (h:=w_ (ca (hc:=e_in _ _ _) (h:=w_ (a_ (h:=wo_nil (e_ (h:=aft_normal (?_))))))))))))))))))
 refine wc_ret (?_)
 all_goals (refine fin_ (hr:=(res_tmp rfl res_nil)) (h:=?_);(focus (first | (simp_all;done) | (simp_all <;> omega) | (simp_all <;> split <;> simp_all <;> omega))))
theorem e_l1Weight (a : Int) : oc.call 97 [.int .i64 a] = some (.bool (inI a (-1000000000000) 1000000000000),[]) := by
 refine fun_s rfl cd97 rfl rfl rfl (by simp;rfl) (by simp;rfl) ?_
 refine wa_ (wc_region (w_ (a_ (h:=wo_nil (e_ (h:=aft_normal (wa_ (wc_region (w_ (m_ (h:=w_ (ca (hc:=e_l1In _ _ _) (h:=w_ (a_ (h:=wo_nil (e_ (h:=aft_normal (?_))))))))))))))))))
 refine wc_ret (?_)
 all_goals (refine fin_ (hr:=(res_tmp rfl res_nil)) (h:=?_);(focus (first | (simp_all;done) | (simp_all <;> omega) | (simp_all <;> split <;> simp_all <;> omega))))
theorem l_eqI (a b : List Int) (z z' : Nat) (ha : a.length < 4000000000) (hab : a.length = b.length) : ∀ i : Nat,i ≤ a.length → ∀ s,normE 2 (some [0,1,5]) s = ⟨[(0,.lst false z (ints a)),(1,.lst false z' (ints b)),(5,.int .i64 i)],[],2⟩ →
 oc.loop 64 4 s = some (if a.drop i = b.drop i then (.exit 0,⟨[],[],2⟩) else (.ret,⟨[(4,.bool false)],[],2⟩)) := by
 refine loop_ind (fun i => a.length - i) _ (fun i => ⟨[(0,.lst false z (ints a)),(1,.lst false z' (ints b)),(5,.int .i64 i)],[],2⟩) _ ?_
 intro i hi ih s hs
 refine loop_s cd64 rfl rfl hs ?_
 refine wa_ (wa_ (wc_region (w_ (m_ (h:=w_ (m_ (h:=w_ (le (h:=w_ (b_ (h:=wo_nil (e_ (h:=aft_normal (?_))))))))))))))
 refine c_ (h1:=?_) (h2:=?_)
 rotate_right 1
 focus
  intro c1
  simp at c1;have : i = a.length := (by omega);subst this
  refine wc_exit (?_)
 rotate_right 1
 focus
  intro c1
  simp at c1;have hw := wrap_succ (i:=i) (by omega);obtain ⟨x,_,d1,g1⟩ := ints_cut c1;obtain ⟨y,_,d2,g2⟩ := ints_cut (l:=b) (i:=i) (by omega)
  refine wc_skip (?_)
 all_goals first
 | refine aft_exit ?_
 | (
  refine aft_normal ?_
  refine wa_ (wc_block (wa_ (wc_draw (y_ (m_ (h:=ax_ (h:=y_ (m_ (h:=ax_ (h:=y_ (x_ (h:=ax_ (h:=y_ (l_ (h:=ax_ (h:=y_ (m_ (h:=ax_ (h:=y_ (m_ (h:=ax_ (h:=y_ (x_ (h:=ax_ (h:=y_ (l_ (h:=ax_ (h:=?_))))))))))))))))))))))))))))
  refine y_ (bE (h:=ax_ (h:=wo_nil (ed (h:=aft_normal (?_))))))
  refine c_ (h1:=?_) (h2:=?_)
  rotate_right 1
  focus
   intro c2
   refine wc_skip (?_)
  rotate_right 1
  focus
   intro c2
   refine wa_ (wc_region (w_ (a_ (h:=wo_nil (e_ (h:=aft_normal (wc_ret (?_))))))))
  all_goals first | refine blk_normal ?_ | refine blk_ret ?_
  all_goals first
  | refine aft_ret ?_
  | (
   refine aft_normal ?_
   refine wc_region (w_ (m_ (h:=w_ (b_ (h:=w_ (a_ (h:=wo_nil (e_ (h:=?_)))))))))
   )
  )
 all_goals first
 | (refine (ih (i + 1) (by omega) ?_ _ ?_).trans ?_;(focus (first | omega | (simp;done) | (simp;omega)));(focus (simp [normE,hw];done));(focus (simp at c2;rw [d1,d2];simp [c2])))
 | (apply end_leaf (ex:=Ext.ret) 2 (some [4]);(focus (simp [normE];rfl));(focus (simp at c2;rw [d1,d2];simp [c2])))
 | (apply end_leaf (ex:=(Ext.exit 0)) 2 (some [4]);(focus (simp [normE];rfl));(focus (rw [if_pos (by simp [hab])])))
theorem e_eqI (a b : List Int) (z z' : Nat) (ha : a.length < 4000000000) (hb : b.length < 4000000000) : oc.call 64 [.lst false z (ints a),.lst false z' (ints b)] = some (.bool (decide (a = b)),[]) := by
 refine fun_s rfl cd64 rfl rfl rfl (by simp;rfl) (by simp;rfl) ?_
 refine wa_ (wc_region (w_ (a_ (h:=wo_nil (e_ (h:=aft_normal (wa_ (wa_ (wc_region (w_ (m_ (h:=w_ (le (h:=w_ (m_ (h:=w_ (le (h:=?_))))))))))))))))))
 refine w_ (bE (h:=wo_nil (e_ (h:=aft_normal (?_)))))
 refine c_ (h1:=?_) (h2:=?_)
 rotate_right 1
 focus
  intro c1
  simp at c1
  refine wc_skip (?_)
 rotate_right 1
 focus
  intro c1
  simp at c1;have hne : a ≠ b := (by rintro rfl;exact c1 rfl)
  refine wa_ (wc_region (w_ (a_ (h:=wo_nil (e_ (h:=aft_normal (wc_ret (?_))))))))
 all_goals first
 | refine aft_ret ?_
 | (
  refine aft_normal ?_
  refine wa_ (wa_ (wc_region (w_ (a_ (h:=wo_nil (e_ (h:=aft_normal (wc_block (?_)))))))))
  refine wc_loopI (l_eqI a b z z' ha (by omega) 0 (by omega) _ (by simp [normE])) ?_ ?_
  rotate_right 1
  focus
   intro c2
   skip
  rotate_right 1
  focus
   intro c2
   skip
  all_goals first | refine blk_ret ?_ | refine blk_exit ?_
  all_goals first
  | refine aft_ret ?_
  | (
   refine aft_normal ?_
   refine wa_ (wc_region (w_ (a_ (h:=wo_nil (e_ (h:=aft_normal (wc_ret (?_))))))))
   )
  )
 all_goals (refine fin_ (hr:=(res_tmp rfl res_nil)) (h:=?_);(focus (first | (simp_all;done) | (simp_all <;> omega) | (simp_all <;> split <;> simp_all <;> omega))))
theorem l_toI (a : List Int) (z : Nat) (ha : a.length < 2000000000) : ∀ x : Nat × List Int,(x.1 ≤ a.length ∧ x.2.length = a.length ∧ x.2.take x.1 = a.take x.1) → ∀ s,normE 1 (some [0,3,4]) s = ⟨[(0,.lst false z (ints a)),(3,.ref 1 0 a.length),(4,.int .i64 x.1)],[(1,⟨false,false,1,ints x.2,0⟩)],2⟩ →
 oc.loop 104 3 s = some (.exit 0,⟨[(3,.ref 1 0 a.length)],[(1,⟨false,false,1,ints a,0⟩)],2⟩) := by
 refine loop_ind (σ:=Nat × List Int) (fun x => a.length - x.1) _ (fun x => ⟨[(0,.lst false z (ints a)),(3,.ref 1 0 a.length),(4,.int .i64 x.1)],[(1,⟨false,false,1,ints x.2,0⟩)],2⟩) _ ?_
 rintro ⟨i,r⟩ ⟨hi,hr,ht⟩ ih s hs
 refine loop_s cd104 rfl rfl hs ?_
 refine wa_ (wa_ (wc_region (w_ (m_ (h:=w_ (m_ (h:=w_ (le (h:=w_ (b_ (h:=wo_nil (e_ (h:=aft_normal (?_))))))))))))))
 refine c_ (h1:=?_) (h2:=?_)
 rotate_right 1
 focus
  intro c1
  simp at c1 hi hr ht;have : i = a.length := (by omega);subst this;rw [← hr] at ht;simp at ht;rw [hr] at ht;simp at ht;subst ht
  refine wc_exit (?_)
 rotate_right 1
 focus
  intro c1
  simp at c1;have hw := wrap_succ (i:=i) (by omega);obtain ⟨x,hx,d1,g1⟩ := ints_cut c1;obtain ⟨y,hy,_,g2⟩ := ints_cut (l:=r) (i:=i) (by simp at hr;omega);simp at g2
  refine wc_skip (?_)
 all_goals first
 | refine aft_exit ?_
 | (
  refine aft_normal ?_
  refine wa_ (wc_block (wc_region (w_ (m_ (h:=w_ (m_ (h:=w_ (m_ (h:=w_ (m_ (h:=w_ (x_ (h:=w_ (l_ (h:=w_ (x_ (h:=w0 (s_ (h:=wo_nil (e_ (h:=?_)))))))))))))))))))))
  refine blk_normal (aft_normal (wc_region (w_ (m_ (h:=w_ (b_ (h:=w_ (a_ (h:=wo_nil (e_ (h:=?_)))))))))))
  )
 all_goals first
 | (refine (ih ((i + 1,r.set i x)) (⟨by simp;omega,by simpa using hr,set_take ht hr hx⟩) ?_ _ ?_).trans ?_;(focus (first | omega | (simp;done) | (simp;omega)));(focus (simp [normE,hw];done));(focus (rfl)))
 | (apply end_leaf (ex:=(Ext.exit 0)) 1 (some [3]);(focus (simp [normE];rfl));(focus (simp)))
theorem e_toI (a : List Int) (z : Nat) (ha : a.length < 2000000000) : oc.call 104 [.lst false z (ints a)] = some (.lst true 1 (ints a),[]) := by
 refine fun_s rfl cd104 rfl rfl rfl (by simp;rfl) (by simp;rfl) ?_
 refine wa_ (wc_region (w_ (aN (h:=wo_nil (e_ (h:=aft_normal (wa_ (wc_region (w_ (m_ (h:=w_ (le (h:=w_ (mk (h:=w_ (a_ (h:=wo_nil (e_ (h:=?_)))))))))))))))))))
 refine aft_normal (wa_ (wa_ (wc_region (w_ (a_ (h:=wo_nil (e_ (h:=aft_normal (wc_block (?_))))))))))
 refine wc_loop (l_toI a z ha (0,List.replicate a.length 0) (by simp) _ (by simp [normE])) ?_
 refine blk_exit (aft_normal (wa_ (wc_region (w_ (m_ (h:=w_ (a_ (h:=wo_nil (e_ (h:=aft_normal (wc_ret (?_))))))))))))
 all_goals (refine fin_ (hr:=(res_tmp rfl res_nil)) (h:=?_);(focus (first | (simp_all;done) | (simp_all <;> omega) | (simp_all <;> split <;> simp_all <;> omega))))
def szI (c : Nat) (left : Int) : Int := if left < c then -1 else left - c
theorem e_szN (t : Bool) (sz : Nat) (d : Nd) (a : Int) (h : d.cells.length < 4611686018427387904) (ha : 0 ≤ a) (hb : a < 4000000000) : oc.call 50 [d.v false sz,.int .i64 a] = some (.int .i64 (szI d.cells.length a),[]) := by
 refine fun_s rfl cd50 rfl rfl rfl (by simp;rfl) (by simp;rfl) ?_
 unfold szI
 refine wa_ (wc_region (w_ (bx (h:=w_ (a_ (h:=wo_nil (e_ (h:=aft_normal (wa_ (wc_region (w_ (f_ (h:=w_ (l_ (h:=w_ (m_ (h:=w_ (ca (hc:=e_sz _ (ints d.cells) a (by simpa using (by omega)) ha (by omega)) (h:=?_)))))))))))))))))))
 refine w_ (a_ (h:=wo_nil (e_ (h:=aft_normal (wa_ (wa_ (wc_region (w_ (m_ (h:=w_ (b_ (h:=wo_nil (e_ (h:=aft_normal (?_)))))))))))))))
 refine c_ (h1:=?_) (h2:=?_)
 rotate_right 1
 focus
  intro c1
  simp at c1
  refine wc_skip (?_)
 rotate_right 1
 focus
  intro c1
  simp at c1
  refine wa_ (wc_region (w_ (a_ (h:=wo_nil (e_ (h:=aft_normal (wc_ret (?_))))))))
 all_goals first
 | refine aft_ret ?_
 | (
  refine aft_normal ?_
  refine wa_ (wc_region (w_ (m_ (h:=w_ (a_ (h:=wo_nil (e_ (h:=aft_normal (wc_ret (?_))))))))))
  )
 all_goals (refine fin_ (hr:=(res_tmp rfl res_nil)) (h:=?_);(focus (first | (simp_all;done) | (simp_all <;> omega) | (simp_all <;> split <;> simp_all <;> omega))))
theorem szI_neg {c : Nat} {a : Int} (h : szI c a < 0) : szI c a = -1 := by
  unfold szI at *
  split at h
  · rw [if_pos (by assumption)]
  · omega
def szL : List Nd → Int → Int
  | [],left => left
  | d :: r,left => if szI d.cells.length left < 0 then -1 else szL r (szI d.cells.length left)
theorem szL_neg : ∀ {l : List Nd} {a : Int},0 ≤ a → szL l a < 0 → szL l a = -1
  | [],a,h0,h => by simp [szL] at h;omega
  | d :: r,a,h0,h => by
    unfold szL at *
    by_cases hc : szI d.cells.length a < 0
    · rw [if_pos hc]
    · rw [if_neg hc] at h ⊢
      exact szL_neg (by omega) h
theorem e_toN (sz : Nat) (d : Nd) (h : d.cells.length < 2000000000) : oc.call 57 [d.v false sz] = some (d.v true 1,[]) := by
 refine fun_s rfl cd57 rfl rfl rfl (by simp;rfl) (by simp;rfl) ?_
 refine wa_ (wc_region (w_ (bx (h:=w_ (al (h:=wo_nil (e_ (h:=aft_normal (wa_ (wc_region (w_ (al (h:=wo_nil (e_ (h:=aft_normal (wa_ (?_)))))))))))))))))
 refine wc_region (w_ (f_ (h:=w_ (l_ (h:=w_ (f_ (h:=w0 (s_ (h:=wo_nil (e_ (h:=aft_normal (wa_ (wc_region (w_ (f_ (h:=w_ (l_ (h:=w_ (f_ (h:=?_))))))))))))))))))))
 refine w0 (s_ (h:=wo_nil (e_ (h:=aft_normal (wa_ (wc_region (w_ (f_ (h:=w_ (l_ (h:=w_ (f_ (h:=w0 (s_ (h:=wo_nil (e_ (h:=aft_normal (wa_ (?_)))))))))))))))))))
 refine wc_region (w_ (f_ (h:=w_ (l_ (h:=w_ (f_ (h:=w0 (s_ (h:=wo_nil (e_ (h:=aft_normal (wa_ (wc_region (w_ (f_ (h:=w_ (l_ (h:=w_ (f_ (h:=?_))))))))))))))))))))
 refine w0 (s_ (h:=wo_nil (e_ (h:=aft_normal (wa_ (wc_region (w_ (f_ (h:=w_ (l_ (h:=w_ (f_ (h:=w0 (s_ (h:=wo_nil (e_ (h:=aft_normal (wa_ (?_)))))))))))))))))))
 refine wc_region (w_ (f_ (h:=w_ (l_ (h:=w_ (ca (hc:=e_toI _ _ h) (h:=w_ (f_ (h:=w0 (s_ (h:=wo_nil (e_ (h:=aft_normal (wa_ (wc_region (w_ (l_ (h:=w0 (s_ (h:=?_))))))))))))))))))))
 refine wo_nil (e_ (h:=aft_normal (wc_ret (?_))))
 all_goals (refine fin_ (hr:=(res_cell (tys_ok.zero _ _ rfl) rfl (by simp;rfl) (by rfl) res_nil)) (h:=?_);(focus (simp [Nd.v])))
theorem e_eqN (sz sz' : Nat) (d g : Nd) (h : d.cells.length < 2000000000) (h' : g.cells.length < 2000000000) : oc.call 65 [d.v false sz,g.v false sz'] = some (.bool (decide (d = g)),[]) := by
 refine fun_s rfl cd65 rfl rfl rfl (by simp;rfl) (by simp;rfl) ?_
 refine wa_ (wc_region (w_ (bx (h:=w_ (bx (h:=w_ (a_ (h:=wo_nil (e_ (h:=aft_normal (wa_ (wa_ (wc_region (w_ (f_ (h:=w_ (l_ (h:=?_))))))))))))))))))
 refine w_ (f_ (h:=w_ (l_ (h:=w_ (bE (h:=wo_nil (e_ (h:=aft_normal (?_)))))))))
 refine c_ (h1:=?_) (h2:=?_)
 rotate_right 1
 focus
  intro c1
  refine wc_skip (?_)
 rotate_right 1
 focus
  intro c1
  refine wa_ (wc_region (w_ (a_ (h:=wo_nil (e_ (h:=aft_normal (wc_ret (?_))))))))
 all_goals first
 | refine aft_ret ?_
 | (
  refine aft_normal ?_
  refine wa_ (wa_ (wc_region (w_ (f_ (h:=w_ (l_ (h:=w_ (f_ (h:=w_ (l_ (h:=w_ (bE (h:=wo_nil (e_ (h:=aft_normal (?_))))))))))))))))
  refine c_ (h1:=?_) (h2:=?_)
  rotate_right 1
  focus
   intro c2
   refine wc_skip (?_)
  rotate_right 1
  focus
   intro c2
   refine wa_ (wc_region (w_ (a_ (h:=wo_nil (e_ (h:=aft_normal (wc_ret (?_))))))))
  all_goals first
  | refine aft_ret ?_
  | (
   refine aft_normal ?_
   refine wa_ (wa_ (wc_region (w_ (f_ (h:=w_ (l_ (h:=w_ (f_ (h:=w_ (l_ (h:=w_ (bE (h:=wo_nil (e_ (h:=aft_normal (?_))))))))))))))))
   refine c_ (h1:=?_) (h2:=?_)
   rotate_right 1
   focus
    intro c3
    refine wc_skip (?_)
   rotate_right 1
   focus
    intro c3
    refine wa_ (wc_region (w_ (a_ (h:=wo_nil (e_ (h:=aft_normal (wc_ret (?_))))))))
   all_goals first
   | refine aft_ret ?_
   | (
    refine aft_normal ?_
    refine wa_ (wa_ (wc_region (w_ (f_ (h:=w_ (l_ (h:=w_ (f_ (h:=w_ (l_ (h:=w_ (bE (h:=wo_nil (e_ (h:=aft_normal (?_))))))))))))))))
    refine c_ (h1:=?_) (h2:=?_)
    rotate_right 1
    focus
     intro c4
     refine wc_skip (?_)
    rotate_right 1
    focus
     intro c4
     refine wa_ (wc_region (w_ (a_ (h:=wo_nil (e_ (h:=aft_normal (wc_ret (?_))))))))
    all_goals first
    | refine aft_ret ?_
    | (
     refine aft_normal ?_
     refine wa_ (wa_ (wc_region (w_ (f_ (h:=w_ (l_ (h:=w_ (f_ (h:=w_ (l_ (h:=w_ (bE (h:=wo_nil (e_ (h:=aft_normal (?_))))))))))))))))
     refine c_ (h1:=?_) (h2:=?_)
     rotate_right 1
     focus
      intro c5
      refine wc_skip (?_)
     rotate_right 1
     focus
      intro c5
      refine wa_ (wc_region (w_ (a_ (h:=wo_nil (e_ (h:=aft_normal (wc_ret (?_))))))))
     all_goals first
     | refine aft_ret ?_
     | (
      refine aft_normal ?_
      refine wa_ (wa_ (wc_region (w_ (f_ (h:=w_ (l_ (h:=w_ (f_ (h:=w_ (l_ (h:=w_ (bE (h:=wo_nil (e_ (h:=aft_normal (?_))))))))))))))))
      refine c_ (h1:=?_) (h2:=?_)
      rotate_right 1
      focus
       intro c6
       refine wc_skip (?_)
      rotate_right 1
      focus
       intro c6
       refine wa_ (wc_region (w_ (a_ (h:=wo_nil (e_ (h:=aft_normal (wc_ret (?_))))))))
      all_goals first
      | refine aft_ret ?_
      | (
       refine aft_normal ?_
       refine wa_ (wa_ (wc_region (w_ (f_ (h:=w_ (l_ (h:=w_ (f_ (h:=w_ (l_ (h:=w_ (ca (hc:=e_eqI _ _ _ _ (by omega) (by omega)) (h:=w_ (u_ (h:=wo_nil (e_ (h:=aft_normal (?_))))))))))))))))))
       refine c_ (h1:=?_) (h2:=?_)
       rotate_right 1
       focus
        intro c7
        refine wc_skip (?_)
       rotate_right 1
       focus
        intro c7
        refine wa_ (wc_region (w_ (a_ (h:=wo_nil (e_ (h:=aft_normal (wc_ret (?_))))))))
       all_goals first
       | refine aft_ret ?_
       | (
        refine aft_normal ?_
        refine wa_ (wc_region (w_ (a_ (h:=wo_nil (e_ (h:=aft_normal (wc_ret (?_))))))))
        )
       )
      )
     )
    )
   )
  )
 all_goals (refine fin_ (hr:=(res_tmp rfl res_nil)) (h:=?_);(focus (simp_all [Nd.eq_iff])))
def okN (l : List Nd) : Prop := ∀ d ∈ l,d.cells.length < 2000000
def okB (l : List Nd) : Prop := l.length ≤ 140737488351232 ∧ ∀ d ∈ l,d.cells.length ≤ 140737488351232
theorem szI_le {c : Nat} {a : Int} (h : 0 ≤ szI c a) : (c : Int) ≤ a := by
  unfold szI at h
  split at h <;> omega
theorem szL_ok : ∀ {l : List Nd} {a : Int},0 ≤ szL l a → ∀ d ∈ l,(d.cells.length : Int) ≤ a
  | [],a,h,d,hd => by cases hd
  | x :: r,a,h,d,hd => by
    unfold szL at h
    by_cases hc : szI x.cells.length a < 0
    · rw [if_pos hc] at h;omega
    · rw [if_neg hc] at h
      have h1 := szI_le (c:=x.cells.length) (a:=a) (by omega)
      rcases List.mem_cons.1 hd with rfl | hd
      · exact h1
      · have := szL_ok h d hd
        unfold szI at this
        split at this <;> omega
theorem l_szN (l : List Nd) (sz : Nat) (ho : okB l) : ∀ x : Nat × Int,(x.1 ≤ l.length ∧ 0 ≤ x.2 ∧ x.2 < 2000000) → ∀ s,normE 2 (some [0,1,5]) s = ⟨[(0,.lst false 0 (nds false sz l)),(1,.int .i64 x.2),(5,.int .i64 x.1)],[],2⟩ →
 oc.loop 18 5 s = some (if 0 ≤ szL (l.drop x.1) x.2 then (.exit 0,⟨[(1,.int .i64 (szL (l.drop x.1) x.2))],[],2⟩) else (.ret,⟨[(1,.int .i64 (-1)),(4,.int .i64 (-1))],[],2⟩)) := by
 refine loop_ind (σ:=Nat × Int) (fun x => l.length - x.1) _ (fun x => ⟨[(0,.lst false 0 (nds false sz l)),(1,.int .i64 x.2),(5,.int .i64 x.1)],[],2⟩) _ ?_
 rintro ⟨i,a⟩ ⟨hi,ha,hb⟩ ih s hs
 have hl := ho.1
 refine loop_s cd18 rfl rfl hs ?_
 refine wa_ (wa_ (wc_region (w_ (m_ (h:=w_ (m_ (h:=w_ (le (h:=w_ (b_ (h:=wo_nil (e_ (h:=aft_normal (?_))))))))))))))
 refine c_ (h1:=?_) (h2:=?_)
 rotate_right 1
 focus
  intro c1
  simp at c1 hi ha;have : i = l.length := (by omega);subst this
  refine wc_exit (?_)
 rotate_right 1
 focus
  intro c1
  simp at c1;have hw := wrap_succ (i:=i) (by simp at hi;omega);obtain ⟨d,hx,d1,g1⟩ := nds_cut (t:=false) (s:=sz) c1;have hd := ho.2 d (List.mem_of_getElem? hx)
  refine wc_skip (?_)
 all_goals first
 | refine aft_exit ?_
 | (
  refine aft_normal ?_
  refine wa_ (wc_block (wa_ (wc_region (w_ (m_ (h:=w_ (m_ (h:=w_ (x_ (h:=w_ (l_ (h:=w_ (m_ (h:=w_ (ca (hc:=e_szN false 0 d a (by omega) ha (by simp at hb;omega)) (h:=w_ (a_ (h:=wo_nil (e_ (h:=?_))))))))))))))))))))
  refine aft_normal (wa_ (wc_region (w_ (m_ (h:=w_ (b_ (h:=wo_nil (e_ (h:=aft_normal (?_))))))))))
  refine c_ (h1:=?_) (h2:=?_)
  rotate_right 1
  focus
   intro c2
   refine wc_skip (?_)
  rotate_right 1
  focus
   intro c2
   refine wa_ (wc_region (w_ (a_ (h:=wo_nil (e_ (h:=aft_normal (wc_ret (?_))))))))
  all_goals first | refine blk_normal ?_ | refine blk_ret ?_
  all_goals first
  | refine aft_ret ?_
  | (
   refine aft_normal ?_
   refine wc_region (w_ (m_ (h:=w_ (b_ (h:=w_ (a_ (h:=wo_nil (e_ (h:=?_)))))))))
   )
  )
 all_goals first
 | (refine (ih ((i + 1,szI d.cells.length a)) (⟨by simp;omega,by simp at c2;exact c2,by unfold szI;split <;> simp at hb ⊢ <;> omega⟩) ?_ _ ?_).trans ?_;(focus (first | omega | (simp;done) | (simp;omega)));(focus (simp [normE,hw];done));(focus (simp at c2;simp only [d1,szL,if_neg (Int.not_lt.mpr c2)])))
 | (apply end_leaf (ex:=Ext.ret) 2 (some [1,4]);(focus (simp [normE];rfl));(focus (simp at c2;have := szI_neg c2;simp [d1,szL,this])))
 | (apply end_leaf (ex:=(Ext.exit 0)) 2 (some [1,4]);(focus (simp [normE];rfl));(focus (simp [szL];omega)))
def szP (l : List Nd) (a : Int) : Int := if a < l.length then -1 else szL l (a - l.length)
theorem szP_ok {l : List Nd} {a : Int} (ha : a < 2000000) (h : 0 ≤ szP l a) : l.length < 2000000 ∧ okN l ∧ szP l a ≤ a := by
  unfold szP at *
  split at h
  · omega
  · rename_i hl
    rw [if_neg hl]
    have h2 : ∀ (l : List Nd) (a : Int),0 ≤ a → szL l a ≤ a := by
      intro l
      induction l with
      | nil => intro a ha;simp [szL]
      | cons x r ih =>
        intro a ha
        unfold szL
        split
        · omega
        · have h3 : szI x.cells.length a ≤ a := by unfold szI;split <;> omega
          have := ih (szI x.cells.length a) (by omega)
          omega
    have := h2 l (a - l.length) (by omega)
    exact ⟨by omega,fun d hd => by have := szL_ok h d hd;omega,by omega⟩
theorem e_szNS (l : List Nd) (sz : Nat) (a : Int) (ho : okB l) (ha : 0 ≤ a) (hb : a < 2000000) : oc.call 18 [.lst false 0 (nds false sz l),.int .i64 a] = some (.int .i64 (szP l a),[]) := by
 refine fun_s rfl cd18 rfl rfl rfl (by simp;rfl) (by simp;rfl) ?_
 unfold szP
 have hl := ho.1
 have hw : IntKind.i64.wrap (a - l.length) = a - l.length := wrap_id (by omega) (by omega)
 refine wa_ (wc_region (w_ (a_ (h:=wo_nil (e_ (h:=aft_normal (wa_ (wc_region (w_ (m_ (h:=w_ (m_ (h:=w_ (le (h:=w_ (b_ (h:=w_ (a_ (h:=?_)))))))))))))))))))
 refine wo_nil (e_ (h:=aft_normal (wa_ (wa_ (wc_region (w_ (m_ (h:=w_ (b_ (h:=wo_nil (e_ (h:=aft_normal (?_)))))))))))))
 refine c_ (h1:=?_) (h2:=?_)
 rotate_right 1
 focus
  intro c1
  simp [hw] at c1
  refine wc_skip (?_)
 rotate_right 1
 focus
  intro c1
  simp at c1
  refine wa_ (wc_region (w_ (a_ (h:=wo_nil (e_ (h:=aft_normal (wc_ret (?_))))))))
 all_goals first
 | refine aft_ret ?_
 | (
  refine aft_normal ?_
  refine wa_ (wa_ (wc_region (w_ (a_ (h:=wo_nil (e_ (h:=aft_normal (wc_block (?_)))))))))
  refine wc_loopI (l_szN l sz ho (0,a - l.length) ⟨by simp,by simp;omega,by simp;omega⟩ _ (by simp [normE,hw])) ?_ ?_
  rotate_right 1
  focus
   intro c2
   skip
  rotate_right 1
  focus
   intro c2
   skip
  all_goals first | refine blk_ret ?_ | refine blk_exit ?_
  all_goals first
  | refine aft_ret ?_
  | (
   refine aft_normal ?_
   refine wa_ (wc_region (w_ (m_ (h:=w_ (a_ (h:=wo_nil (e_ (h:=aft_normal (wc_ret (?_))))))))))
   )
  )
 all_goals (refine fin_ (hr:=(res_tmp rfl res_nil)) (h:=?_);(focus (first | (simp_all;done) | (have h3 := szL_neg (l:=l) (a:=a - l.length) (by omega) (by simpa using c2);simp_all;done) | (simp_all;omega))))
theorem l_toN (l : List Nd) (sz : Nat) (hl : l.length < 2000000) (ho : okN l) : ∀ x : Nat × List Nd,(x.1 ≤ l.length ∧ x.2.length = l.length ∧ x.2.take x.1 = l.take x.1) → ∀ s,normE 1 (some [0,3,4]) s = ⟨[(0,.lst false 0 (nds false sz l)),(3,.ref 1 0 l.length),(4,.int .i64 x.1)],[(1,⟨false,false,7,nds true 1 x.2,0⟩)],2⟩ →
 oc.loop 21 3 s = some (.exit 0,⟨[(3,.ref 1 0 l.length)],[(1,⟨false,false,7,nds true 1 l,0⟩)],2⟩) := by
 refine loop_ind (σ:=Nat × List Nd) (fun x => l.length - x.1) _ (fun x => ⟨[(0,.lst false 0 (nds false sz l)),(3,.ref 1 0 l.length),(4,.int .i64 x.1)],[(1,⟨false,false,7,nds true 1 x.2,0⟩)],2⟩) _ ?_
 rintro ⟨i,r⟩ ⟨hi,hr,ht⟩ ih s hs
 refine loop_s cd21 rfl rfl hs ?_
 refine wa_ (wa_ (wc_region (w_ (m_ (h:=w_ (m_ (h:=w_ (le (h:=w_ (b_ (h:=wo_nil (e_ (h:=aft_normal (?_))))))))))))))
 refine c_ (h1:=?_) (h2:=?_)
 rotate_right 1
 focus
  intro c1
  simp at c1 hi hr ht;have : i = l.length := (by omega);subst this;rw [← hr] at ht;simp at ht;rw [hr] at ht;simp at ht;subst ht
  refine wc_exit (?_)
 rotate_right 1
 focus
  intro c1
  simp at c1;have hw := wrap_succ (i:=i) (by simp at hi;omega);obtain ⟨d,hx,d1,g1⟩ := nds_cut (t:=false) (s:=sz) c1;have hd := ho d (List.mem_of_getElem? hx);obtain ⟨y,hy,_,g2⟩ := nds_cut (t:=true) (s:=1) (l:=r) (i:=i) (by simp at hr;omega);simp at g2
  refine wc_skip (?_)
 all_goals first
 | refine aft_exit ?_
 | (
  refine aft_normal ?_
  refine wa_ (wc_block (wc_region (w_ (m_ (h:=w_ (m_ (h:=w_ (m_ (h:=w_ (m_ (h:=w_ (x_ (h:=w_ (l_ (h:=w_ (ca (hc:=e_toN 0 d (by omega)) (h:=w_ (x_ (h:=w0 (s_ (h:=?_)))))))))))))))))))))
  refine wo_nil (e_ (h:=blk_normal (aft_normal (wc_region (w_ (m_ (h:=w_ (b_ (h:=w_ (a_ (h:=wo_nil (e_ (h:=?_)))))))))))))
  )
 all_goals first
 | (refine (ih ((i + 1,r.set i d)) (⟨by simp;omega,by simpa using hr,set_take ht hr hx⟩) ?_ _ ?_).trans ?_;(focus (first | omega | (simp;done) | (simp;omega)));(focus (simp [normE,hw];done));(focus (rfl)))
 | (apply end_leaf (ex:=(Ext.exit 0)) 1 (some [3]);(focus (simp [normE];rfl));(focus (simp)))
theorem e_toNS (l : List Nd) (sz : Nat) (hl : l.length < 2000000) (ho : okN l) : oc.call 21 [.lst false 0 (nds false sz l)] = some (.lst true 7 (nds true 1 l),[]) := by
 refine fun_s rfl cd21 rfl rfl rfl (by simp;rfl) (by simp;rfl) ?_
 refine wa_ (wc_region (w_ (aN (h:=wo_nil (e_ (h:=aft_normal (wa_ (wc_region (w_ (m_ (h:=w_ (le (h:=w_ (mk (h:=w_ (a_ (h:=wo_nil (e_ (h:=?_)))))))))))))))))))
 refine aft_normal (wa_ (wa_ (wc_region (w_ (a_ (h:=wo_nil (e_ (h:=aft_normal (wc_block (?_))))))))))
 refine wc_loop (l_toN l sz hl ho (0,List.replicate l.length ⟨0,0,0,0,0,0,[]⟩) (by simp) _ (by simp [normE,nds_zero])) ?_
 refine blk_exit (aft_normal (wa_ (wc_region (w_ (m_ (h:=w_ (a_ (h:=wo_nil (e_ (h:=aft_normal (wc_ret (?_))))))))))))
 all_goals (refine fin_ (hr:=(res_tmp rfl res_nil)) (h:=?_);(focus (first | (simp_all;done) | (simp_all <;> omega) | (simp_all <;> split <;> simp_all <;> omega))))
theorem l_eqNS (a b : List Nd) (z z' : Nat) (ha : a.length < 2000000) (hab : a.length = b.length) (oa : okN a) (ob : okN b) : ∀ i : Nat,i ≤ a.length → ∀ s,normE 2 (some [0,1,5]) s = ⟨[(0,.lst false 0 (nds false z a)),(1,.lst false 0 (nds false z' b)),(5,.int .i64 i)],[],2⟩ →
 oc.loop 25 4 s = some (if a.drop i = b.drop i then (.exit 0,⟨[],[],2⟩) else (.ret,⟨[(4,.bool false)],[],2⟩)) := by
 refine loop_ind (fun i => a.length - i) _ (fun i => ⟨[(0,.lst false 0 (nds false z a)),(1,.lst false 0 (nds false z' b)),(5,.int .i64 i)],[],2⟩) _ ?_
 intro i hi ih s hs
 refine loop_s cd25 rfl rfl hs ?_
 refine wa_ (wa_ (wc_region (w_ (m_ (h:=w_ (m_ (h:=w_ (le (h:=w_ (b_ (h:=wo_nil (e_ (h:=aft_normal (?_))))))))))))))
 refine c_ (h1:=?_) (h2:=?_)
 rotate_right 1
 focus
  intro c1
  simp at c1;have : i = a.length := (by omega);subst this
  refine wc_exit (?_)
 rotate_right 1
 focus
  intro c1
  simp at c1;have hw := wrap_succ (i:=i) (by omega);obtain ⟨x,hx,d1,g1⟩ := nds_cut (t:=false) (s:=z) c1;obtain ⟨y,hy,d2,g2⟩ := nds_cut (t:=false) (s:=z') (l:=b) (i:=i) (by omega);have h1 := oa x (List.mem_of_getElem? hx);have h2 := ob y (List.mem_of_getElem? hy)
  refine wc_skip (?_)
 all_goals first
 | refine aft_exit ?_
 | (
  refine aft_normal ?_
  refine wa_ (wc_block (wa_ (wc_draw (y_ (m_ (h:=ax_ (h:=y_ (m_ (h:=ax_ (h:=y_ (x_ (h:=ax_ (h:=y_ (l_ (h:=ax_ (h:=y_ (m_ (h:=ax_ (h:=y_ (m_ (h:=ax_ (h:=y_ (x_ (h:=ax_ (h:=y_ (l_ (h:=ax_ (h:=?_))))))))))))))))))))))))))))
  refine y_ (ca (hc:=e_eqN 0 0 x y (by omega) (by omega)) (h:=ax_ (h:=y_ (u_ (h:=ax_ (h:=wo_nil (ed (h:=aft_normal (?_)))))))))
  refine c_ (h1:=?_) (h2:=?_)
  rotate_right 1
  focus
   intro c2
   refine wc_skip (?_)
  rotate_right 1
  focus
   intro c2
   refine wa_ (wc_region (w_ (a_ (h:=wo_nil (e_ (h:=aft_normal (wc_ret (?_))))))))
  all_goals first | refine blk_normal ?_ | refine blk_ret ?_
  all_goals first
  | refine aft_ret ?_
  | (
   refine aft_normal ?_
   refine wc_region (w_ (m_ (h:=w_ (b_ (h:=w_ (a_ (h:=wo_nil (e_ (h:=?_)))))))))
   )
  )
 all_goals first
 | (refine (ih (i + 1) (by omega) ?_ _ ?_).trans ?_;(focus (first | omega | (simp;done) | (simp;omega)));(focus (simp [normE,hw];done));(focus (simp at c2;rw [d1,d2];simp [c2])))
 | (apply end_leaf (ex:=Ext.ret) 2 (some [4]);(focus (simp [normE];rfl));(focus (simp at c2;rw [d1,d2];simp [c2])))
 | (apply end_leaf (ex:=(Ext.exit 0)) 2 (some [4]);(focus (simp [normE];rfl));(focus (rw [if_pos (by simp [hab])])))
theorem e_eqNS (a b : List Nd) (z z' : Nat) (ha : a.length < 2000000) (hb : b.length < 2000000) (oa : okN a) (ob : okN b) : oc.call 25 [.lst false 0 (nds false z a),.lst false 0 (nds false z' b)] = some (.bool (decide (a = b)),[]) := by
 refine fun_s rfl cd25 rfl rfl rfl (by simp;rfl) (by simp;rfl) ?_
 refine wa_ (wc_region (w_ (a_ (h:=wo_nil (e_ (h:=aft_normal (wa_ (wa_ (wc_region (w_ (m_ (h:=w_ (le (h:=w_ (m_ (h:=w_ (le (h:=?_))))))))))))))))))
 refine w_ (bE (h:=wo_nil (e_ (h:=aft_normal (?_)))))
 refine c_ (h1:=?_) (h2:=?_)
 rotate_right 1
 focus
  intro c1
  simp at c1
  refine wc_skip (?_)
 rotate_right 1
 focus
  intro c1
  simp at c1;have hne : a ≠ b := (by rintro rfl;exact c1 rfl)
  refine wa_ (wc_region (w_ (a_ (h:=wo_nil (e_ (h:=aft_normal (wc_ret (?_))))))))
 all_goals first
 | refine aft_ret ?_
 | (
  refine aft_normal ?_
  refine wa_ (wa_ (wc_region (w_ (a_ (h:=wo_nil (e_ (h:=aft_normal (wc_block (?_)))))))))
  refine wc_loopI (l_eqNS a b z z' ha (by omega) oa ob 0 (by omega) _ (by simp [normE])) ?_ ?_
  rotate_right 1
  focus
   intro c2
   skip
  rotate_right 1
  focus
   intro c2
   skip
  all_goals first | refine blk_ret ?_ | refine blk_exit ?_
  all_goals first
  | refine aft_ret ?_
  | (
   refine aft_normal ?_
   refine wa_ (wc_region (w_ (a_ (h:=wo_nil (e_ (h:=aft_normal (wc_ret (?_))))))))
   )
  )
 all_goals (refine fin_ (hr:=(res_tmp rfl res_nil)) (h:=?_);(focus (first | (simp_all;done) | (simp_all <;> omega) | (simp_all <;> split <;> simp_all <;> omega))))
end Go.Proofs.Ytbcgenkegnmkhaa.Ev
namespace Go.Proofs.Ytbcgenkegnmkhaa.Ev
open Go
set_option maxRecDepth 100000
set_option linter.unusedSimpArgs false
set_option linter.unusedVariables false
set_option maxHeartbeats 2000000
def lz (t : Bool) (n : Nat) : Nat := match t with | true => n | false => 0
@[simp] theorem lz_t (n : Nat) : lz true n = n := rfl
@[simp] theorem lz_f (n : Nat) : lz false n = 0 := rfl
theorem lst_share (t : Bool) (s : Nat) (xs : List V) : (V.lst t s xs).share = .lst false 0 (V.shareL xs) := by cases t <;> rfl
theorem lst_mention (t : Bool) (s : Nat) (xs : List V) : (V.lst t s xs).mention = [] := by cases t <;> rfl
structure Ct where
  pl : Int
  ep : Int
  n : Int
  deriving DecidableEq
theorem Ct.eq_iff {d g : Ct} : d = g ↔ d.pl = g.pl ∧ d.ep = g.ep ∧ d.n = g.n := by
  cases d;cases g;simp
def Ct.v (x : Ct) : V := .agg [.int .i64 x.pl,.int .i64 x.ep,.int .i64 x.n]
def cts (l : List Ct) : List V := l.map (Ct.v)
@[simp] theorem cts_len (l : List Ct) : (cts l).length = l.length := by simp [cts]
@[simp] theorem cts_nil : cts [] = [] := rfl
@[simp] theorem cts_cons (x : Ct) (l : List Ct) : cts (x :: l) = x.v :: cts l := rfl
@[simp] theorem cts_join (l m : List Ct) : cts l ++ cts m = cts (l ++ m) := by simp [cts]
@[simp] theorem cts_snoc (l : List Ct) (x : Ct) : cts l ++ [x.v] = cts (l ++ [x]) := by simp [cts]
@[simp] theorem cts_snoc2 (l : List Ct) (a : Int) (b : Int) (c : Int) : cts l ++ [V.agg [.int .i64 a,.int .i64 b,.int .i64 c]] = cts (l ++ [⟨a,b,c⟩]) := by simp [cts,Ct.v]
@[simp] theorem cts_set2 (l : List Ct) (j : Nat) (a : Int) (b : Int) (c : Int) : (cts l).set j (V.agg [.int .i64 a,.int .i64 b,.int .i64 c]) = cts (l.set j ⟨a,b,c⟩) := by simp [cts,Ct.v,List.map_set]
@[simp] theorem cts_set (l : List Ct) (i : Nat) (x : Ct) : (cts l).set i (x.v) = cts (l.set i x) := by simp [cts,List.map_set]
theorem cts_get {l : List Ct} {i : Nat} {x : Ct} (h : l[i]? = some x) : (cts l)[i]? = some (x.v) := by simp [cts,h]
theorem cts_at {l : List Ct} {i : Nat} (h : i < l.length) : (cts l)[(i : Int).toNat]? = some (l[i].v) := cts_get (by simp [h])
theorem cts_cut {l : List Ct} {i : Nat} (h : i < l.length) : ∃ x,l[i]? = some x ∧ l.drop i = x :: l.drop (i + 1) ∧ (cts l)[(i : Int).toNat]? = some (x.v) :=
  ⟨l[i],by simp [h],List.drop_eq_getElem_cons h,cts_at h⟩
@[simp] theorem cts_take (n : Nat) (l : List Ct) : (cts l).take n = cts (l.take n) := by simp [cts,List.map_take]
@[simp] theorem cts_drop (n : Nat) (l : List Ct) : (cts l).drop n = cts (l.drop n) := by simp [cts,List.map_drop]
@[simp] theorem Ct.cells_v (x : Ct) : (x.v).cells = 3 := rfl
@[simp] theorem Ct.mention (x : Ct) : V.mention (x.v) = [] := by simp [Ct.v,V.mention,V.mentionL,lst_mention]
@[simp] theorem Ct.share (x : Ct) : (x.v).share = x.v := by simp [Ct.v,V.share,V.shareL,lst_share]
@[simp] theorem cts_shareL (l : List Ct) : V.shareL (cts l) = cts l := by
  induction l with
  | nil => rfl
  | cons x l ih => simp [V.shareL,ih]
@[simp] theorem Ct.snap (x : Ct) (q : St) : V.snap q (x.v) = some (x.v) := by simp [Ct.v,V.snap,V.snapL,mp]
@[simp] theorem Ct.snapA (x : Ct) (q : St) : V.snapA q (x.v) = some (x.v) := Ct.snap x q
@[simp] theorem Ct.snapP (x : Ct) (q : St) : V.snapP q (x.v) = some (x.v) := Ct.snap x q
@[simp] theorem Ct.accM (x : Ct) : V.accM (x.v) = [] := by simp [Ct.v,V.accM,V.accML]
@[simp] theorem Ct.accF (x : Ct) : V.accF (x.v) = [] := by simp [Ct.v,V.accF,V.accFL]
@[simp] theorem Ct.ren (x : Ct) (ρ : Nat → Option Nat) (vr : Nat → Nat) : V.ren ρ vr (x.v) = x.v := by simp [Ct.v,V.ren,V.renL]
@[simp] theorem Ct.bA (i : Nat) (x : Ct) (r : List V) : bindArgs i (x.v :: r) = ((i,x.v) :: (bindArgs (i + 1) r).1,(bindArgs (i + 1) r).2) := rfl
@[simp] theorem Ct.lodF (x : Ct) (o i ver : Nat) (fs : List Nat) : V.lod o i ver fs (x.v) = x.v := by simp [Ct.v,V.lod,V.lodL]
@[simp] theorem Ct.fz (x : Ct) (s : St) : V.fz x.v s = some (x.v,s) := by simp [Ct.v,V.fz,V.fzL,mp]
@[simp] theorem Ct.fzI (x : Ct) (s : St) : V.fzI x.v s = some (x.v,s) := by simp [Ct.v,V.fz,V.fzI,V.fzIL,mp]
@[simp] theorem Ct.scal (x : Ct) : V.scal (x.v) = true := by simp [Ct.v,V.scal,V.scalL]
@[simp] theorem Ct.isTup (x : Ct) : (x.v).isTup = false := rfl
@[simp] theorem Ct.tidyT (x : Ct) : V.tidy (x.v) = true := by simp [Ct.v,V.tidy,V.tidyL]
@[simp] theorem cts_tidyT (l : List Ct) : V.tidyL (cts l) = true := by
  induction l with
  | nil => rfl
  | cons x l ih => simp [V.tidyL,ih]
@[simp] theorem Ct.thaw (x : Ct) (id : Nat) : V.thaw id x.v = (x.v,[],id) := by simp [Ct.v,V.thaw,V.thawL]
structure Et where
  row : List Int
  w : Int
  deriving DecidableEq
theorem Et.eq_iff {d g : Et} : d = g ↔ d.row = g.row ∧ d.w = g.w := by
  cases d;cases g;simp
def Et.v (t : Bool) (x : Et) : V := .agg [.lst t (lz t 1) (ints x.row),.int .i64 x.w]
def ets (t : Bool) (l : List Et) : List V := l.map (Et.v t)
@[simp] theorem ets_len (t : Bool) (l : List Et) : (ets t l).length = l.length := by simp [ets]
@[simp] theorem ets_nil (t : Bool) : ets t [] = [] := rfl
@[simp] theorem ets_cons (t : Bool) (x : Et) (l : List Et) : ets t (x :: l) = x.v t :: ets t l := rfl
@[simp] theorem ets_join (t : Bool) (l m : List Et) : ets t l ++ ets t m = ets t (l ++ m) := by simp [ets]
@[simp] theorem ets_snoc (t : Bool) (l : List Et) (x : Et) : ets t l ++ [x.v t] = ets t (l ++ [x]) := by simp [ets]
@[simp] theorem ets_snocT2 (l : List Et) (a : List Int) (b : Int) : ets true l ++ [V.agg [.lst true 1 (ints a),.int .i64 b]] = ets true (l ++ [⟨a,b⟩]) := by simp [ets,Et.v]
@[simp] theorem ets_setT2 (l : List Et) (j : Nat) (a : List Int) (b : Int) : (ets true l).set j (V.agg [.lst true 1 (ints a),.int .i64 b]) = ets true (l.set j ⟨a,b⟩) := by simp [ets,Et.v,List.map_set]
theorem ets_zero (m : Nat) : List.replicate m (V.agg [.lst true 1 [],.int .i64 0]) = ets true (List.replicate m ⟨[],0⟩) := by simp [ets,Et.v]
@[simp] theorem ets_snocF2 (l : List Et) (a : List Int) (b : Int) : ets false l ++ [V.agg [.lst false 0 (ints a),.int .i64 b]] = ets false (l ++ [⟨a,b⟩]) := by simp [ets,Et.v]
@[simp] theorem ets_setF2 (l : List Et) (j : Nat) (a : List Int) (b : Int) : (ets false l).set j (V.agg [.lst false 0 (ints a),.int .i64 b]) = ets false (l.set j ⟨a,b⟩) := by simp [ets,Et.v,List.map_set]
@[simp] theorem ets_set (t : Bool) (l : List Et) (i : Nat) (x : Et) : (ets t l).set i (x.v t) = ets t (l.set i x) := by simp [ets,List.map_set]
theorem ets_get {t : Bool} {l : List Et} {i : Nat} {x : Et} (h : l[i]? = some x) : (ets t l)[i]? = some (x.v t) := by simp [ets,h]
theorem ets_at {t : Bool} {l : List Et} {i : Nat} (h : i < l.length) : (ets t l)[(i : Int).toNat]? = some (l[i].v t) := ets_get (by simp [h])
theorem ets_cut {t : Bool} {l : List Et} {i : Nat} (h : i < l.length) : ∃ x,l[i]? = some x ∧ l.drop i = x :: l.drop (i + 1) ∧ (ets t l)[(i : Int).toNat]? = some (x.v t) :=
  ⟨l[i],by simp [h],List.drop_eq_getElem_cons h,ets_at h⟩
@[simp] theorem ets_take (t : Bool) (n : Nat) (l : List Et) : (ets t l).take n = ets t (l.take n) := by simp [ets,List.map_take]
@[simp] theorem ets_drop (t : Bool) (n : Nat) (l : List Et) : (ets t l).drop n = ets t (l.drop n) := by simp [ets,List.map_drop]
@[simp] theorem Et.cells_v (t : Bool) (x : Et) : (x.v t).cells = 2 := rfl
@[simp] theorem Et.mention (t : Bool) (x : Et) : V.mention (x.v t) = [] := by simp [Et.v,V.mention,V.mentionL,lst_mention]
@[simp] theorem Et.share (t : Bool) (x : Et) : (x.v t).share = x.v false := by simp [Et.v,V.share,V.shareL,lst_share,ints_share]
@[simp] theorem ets_shareL (t : Bool) (l : List Et) : V.shareL (ets t l) = ets false l := by
  induction l with
  | nil => rfl
  | cons x l ih => simp [V.shareL,ih]
@[simp] theorem Et.snap (t : Bool) (x : Et) (q : St) : V.snap q (x.v t) = some (x.v false) := by simp [Et.v,V.snap,V.snapL,mp,ints_share]
@[simp] theorem Et.snapA (t : Bool) (x : Et) (q : St) : V.snapA q (x.v t) = some (x.v false) := Et.snap t x q
@[simp] theorem Et.snapP (t : Bool) (x : Et) (q : St) : V.snapP q (x.v t) = some (x.v false) := Et.snap t x q
@[simp] theorem Et.accM (t : Bool) (x : Et) : V.accM (x.v t) = [] := by simp [Et.v,V.accM,V.accML]
@[simp] theorem Et.accF (t : Bool) (x : Et) : V.accF (x.v t) = [] := by simp [Et.v,V.accF,V.accFL]
@[simp] theorem Et.ren (t : Bool) (x : Et) (ρ : Nat → Option Nat) (vr : Nat → Nat) : V.ren ρ vr (x.v t) = x.v t := by simp [Et.v,V.ren,V.renL]
@[simp] theorem Et.bA (i : Nat) (t : Bool) (x : Et) (r : List V) : bindArgs i (x.v t :: r) = ((i,x.v t) :: (bindArgs (i + 1) r).1,(bindArgs (i + 1) r).2) := rfl
@[simp] theorem Et.lodF (x : Et) (o i ver : Nat) (fs : List Nat) : V.lod o i ver fs (x.v false) = x.v false := by simp [Et.v,V.lod,V.lodL]
@[simp] theorem Et.fzF (x : Et) (s : St) : V.fz (x.v false) s = some (x.v false,s) := by simp [Et.v,V.fz,V.fzL,mp]
@[simp] theorem Et.fzI (t : Bool) (x : Et) (s : St) : V.fzI (x.v t) s = some (x.v t,s) := by cases t <;> simp [Et.v,V.fz,V.fzI,V.fzIL,mp]
@[simp] theorem Et.scal (t : Bool) (x : Et) : V.scal (x.v t) = false := by simp [Et.v,V.scal,V.scalL]
@[simp] theorem Et.isTup (t : Bool) (x : Et) : (x.v t).isTup = false := rfl
@[simp] theorem Et.tidyT (x : Et) : V.tidy (x.v true) = true := by simp [Et.v,V.tidy,V.tidyL,ints_tidy]
@[simp] theorem ets_tidyT (l : List Et) : V.tidyL (ets true l) = true := by
  induction l with
  | nil => rfl
  | cons x l ih => simp [V.tidyL,ih]
@[simp] theorem Et.thawF (x : Et) (id : Nat) : V.thaw id (x.v false) = (x.v false,[],id) := by simp [Et.v,V.thaw,V.thawL]
@[simp] theorem Et.thawT (x : Et) (id : Nat) : V.thaw id (x.v true) = (.agg [.ref (id) 0 x.row.length,.int .i64 x.w],[(id,⟨false,false,1,ints x.row,0⟩)],id + 1) := by simp [Et.v,V.thaw,V.thawL]
structure Fr where
  kind : Int
  node : Int
  side : Int
  ep : Int
  set : List Et
  news : List Ct
  deriving DecidableEq
theorem Fr.eq_iff {d g : Fr} : d = g ↔ d.kind = g.kind ∧ d.node = g.node ∧ d.side = g.side ∧ d.ep = g.ep ∧ d.set = g.set ∧ d.news = g.news := by
  cases d;cases g;simp
def Fr.v (t : Bool) (x : Fr) : V := .agg [.int .i64 x.kind,.int .i64 x.node,.int .i64 x.side,.int .i64 x.ep,.lst t (lz t 2) (ets t x.set),.lst t (lz t 3) (cts x.news)]
def frs (t : Bool) (l : List Fr) : List V := l.map (Fr.v t)
@[simp] theorem frs_len (t : Bool) (l : List Fr) : (frs t l).length = l.length := by simp [frs]
@[simp] theorem frs_nil (t : Bool) : frs t [] = [] := rfl
@[simp] theorem frs_cons (t : Bool) (x : Fr) (l : List Fr) : frs t (x :: l) = x.v t :: frs t l := rfl
@[simp] theorem frs_join (t : Bool) (l m : List Fr) : frs t l ++ frs t m = frs t (l ++ m) := by simp [frs]
@[simp] theorem frs_snoc (t : Bool) (l : List Fr) (x : Fr) : frs t l ++ [x.v t] = frs t (l ++ [x]) := by simp [frs]
@[simp] theorem frs_snocT2 (l : List Fr) (a : Int) (b : Int) (c : Int) (d : Int) (e : List Et) (f : List Ct) : frs true l ++ [V.agg [.int .i64 a,.int .i64 b,.int .i64 c,.int .i64 d,.lst true 2 (ets true e),.lst true 3 (cts f)]] = frs true (l ++ [⟨a,b,c,d,e,f⟩]) := by simp [frs,Fr.v]
@[simp] theorem frs_setT2 (l : List Fr) (j : Nat) (a : Int) (b : Int) (c : Int) (d : Int) (e : List Et) (f : List Ct) : (frs true l).set j (V.agg [.int .i64 a,.int .i64 b,.int .i64 c,.int .i64 d,.lst true 2 (ets true e),.lst true 3 (cts f)]) = frs true (l.set j ⟨a,b,c,d,e,f⟩) := by simp [frs,Fr.v,List.map_set]
@[simp] theorem frs_snocF2 (l : List Fr) (a : Int) (b : Int) (c : Int) (d : Int) (e : List Et) (f : List Ct) : frs false l ++ [V.agg [.int .i64 a,.int .i64 b,.int .i64 c,.int .i64 d,.lst false 0 (ets false e),.lst false 0 (cts f)]] = frs false (l ++ [⟨a,b,c,d,e,f⟩]) := by simp [frs,Fr.v]
@[simp] theorem frs_setF2 (l : List Fr) (j : Nat) (a : Int) (b : Int) (c : Int) (d : Int) (e : List Et) (f : List Ct) : (frs false l).set j (V.agg [.int .i64 a,.int .i64 b,.int .i64 c,.int .i64 d,.lst false 0 (ets false e),.lst false 0 (cts f)]) = frs false (l.set j ⟨a,b,c,d,e,f⟩) := by simp [frs,Fr.v,List.map_set]
@[simp] theorem frs_set (t : Bool) (l : List Fr) (i : Nat) (x : Fr) : (frs t l).set i (x.v t) = frs t (l.set i x) := by simp [frs,List.map_set]
theorem frs_get {t : Bool} {l : List Fr} {i : Nat} {x : Fr} (h : l[i]? = some x) : (frs t l)[i]? = some (x.v t) := by simp [frs,h]
theorem frs_at {t : Bool} {l : List Fr} {i : Nat} (h : i < l.length) : (frs t l)[(i : Int).toNat]? = some (l[i].v t) := frs_get (by simp [h])
theorem frs_cut {t : Bool} {l : List Fr} {i : Nat} (h : i < l.length) : ∃ x,l[i]? = some x ∧ l.drop i = x :: l.drop (i + 1) ∧ (frs t l)[(i : Int).toNat]? = some (x.v t) :=
  ⟨l[i],by simp [h],List.drop_eq_getElem_cons h,frs_at h⟩
@[simp] theorem frs_take (t : Bool) (n : Nat) (l : List Fr) : (frs t l).take n = frs t (l.take n) := by simp [frs,List.map_take]
@[simp] theorem frs_drop (t : Bool) (n : Nat) (l : List Fr) : (frs t l).drop n = frs t (l.drop n) := by simp [frs,List.map_drop]
@[simp] theorem Fr.cells_v (t : Bool) (x : Fr) : (x.v t).cells = 6 := rfl
@[simp] theorem Fr.mention (t : Bool) (x : Fr) : V.mention (x.v t) = [] := by simp [Fr.v,V.mention,V.mentionL,lst_mention]
@[simp] theorem Fr.share (t : Bool) (x : Fr) : (x.v t).share = x.v false := by simp [Fr.v,V.share,V.shareL,lst_share,ets_shareL,cts_shareL]
@[simp] theorem frs_shareL (t : Bool) (l : List Fr) : V.shareL (frs t l) = frs false l := by
  induction l with
  | nil => rfl
  | cons x l ih => simp [V.shareL,ih]
@[simp] theorem Fr.snap (t : Bool) (x : Fr) (q : St) : V.snap q (x.v t) = some (x.v false) := by simp [Fr.v,V.snap,V.snapL,mp,ets_shareL,cts_shareL]
@[simp] theorem Fr.snapA (t : Bool) (x : Fr) (q : St) : V.snapA q (x.v t) = some (x.v false) := Fr.snap t x q
@[simp] theorem Fr.snapP (t : Bool) (x : Fr) (q : St) : V.snapP q (x.v t) = some (x.v false) := Fr.snap t x q
@[simp] theorem Fr.accM (t : Bool) (x : Fr) : V.accM (x.v t) = [] := by simp [Fr.v,V.accM,V.accML]
@[simp] theorem Fr.accF (t : Bool) (x : Fr) : V.accF (x.v t) = [] := by simp [Fr.v,V.accF,V.accFL]
@[simp] theorem Fr.ren (t : Bool) (x : Fr) (ρ : Nat → Option Nat) (vr : Nat → Nat) : V.ren ρ vr (x.v t) = x.v t := by simp [Fr.v,V.ren,V.renL]
@[simp] theorem Fr.bA (i : Nat) (t : Bool) (x : Fr) (r : List V) : bindArgs i (x.v t :: r) = ((i,x.v t) :: (bindArgs (i + 1) r).1,(bindArgs (i + 1) r).2) := rfl
@[simp] theorem Fr.lodF (x : Fr) (o i ver : Nat) (fs : List Nat) : V.lod o i ver fs (x.v false) = x.v false := by simp [Fr.v,V.lod,V.lodL]
@[simp] theorem Fr.fzF (x : Fr) (s : St) : V.fz (x.v false) s = some (x.v false,s) := by simp [Fr.v,V.fz,V.fzL,mp]
@[simp] theorem Fr.fzI (t : Bool) (x : Fr) (s : St) : V.fzI (x.v t) s = some (x.v t,s) := by cases t <;> simp [Fr.v,V.fz,V.fzI,V.fzIL,mp]
@[simp] theorem Fr.scal (t : Bool) (x : Fr) : V.scal (x.v t) = false := by simp [Fr.v,V.scal,V.scalL]
@[simp] theorem Fr.isTup (t : Bool) (x : Fr) : (x.v t).isTup = false := rfl
@[simp] theorem Fr.tidyT (x : Fr) : V.tidy (x.v true) = true := by simp [Fr.v,V.tidy,V.tidyL,ets_tidyT,cts_tidyT]
@[simp] theorem frs_tidyT (l : List Fr) : V.tidyL (frs true l) = true := by
  induction l with
  | nil => rfl
  | cons x l ih => simp [V.tidyL,ih]
@[simp] theorem Fr.thawF (x : Fr) (id : Nat) : V.thaw id (x.v false) = (x.v false,[],id) := by simp [Fr.v,V.thaw,V.thawL]
@[simp] theorem Fr.thawT (x : Fr) (id : Nat) : V.thaw id (x.v true) = (.agg [.int .i64 x.kind,.int .i64 x.node,.int .i64 x.side,.int .i64 x.ep,.ref (id) 0 x.set.length,.ref (id + 1) 0 x.news.length],[(id,⟨false,false,2,ets true x.set,0⟩),(id + 1,⟨false,false,3,cts x.news,0⟩)],id + 1 + 1) := by simp [Fr.v,V.thaw,V.thawL]
structure Bt where
  side : Int
  ep : Int
  set : List Et
  deriving DecidableEq
theorem Bt.eq_iff {d g : Bt} : d = g ↔ d.side = g.side ∧ d.ep = g.ep ∧ d.set = g.set := by
  cases d;cases g;simp
def Bt.v (t : Bool) (x : Bt) : V := .agg [.int .i64 x.side,.int .i64 x.ep,.lst t (lz t 2) (ets t x.set)]
def bts (t : Bool) (l : List Bt) : List V := l.map (Bt.v t)
@[simp] theorem bts_len (t : Bool) (l : List Bt) : (bts t l).length = l.length := by simp [bts]
@[simp] theorem bts_nil (t : Bool) : bts t [] = [] := rfl
@[simp] theorem bts_cons (t : Bool) (x : Bt) (l : List Bt) : bts t (x :: l) = x.v t :: bts t l := rfl
@[simp] theorem bts_join (t : Bool) (l m : List Bt) : bts t l ++ bts t m = bts t (l ++ m) := by simp [bts]
@[simp] theorem bts_snoc (t : Bool) (l : List Bt) (x : Bt) : bts t l ++ [x.v t] = bts t (l ++ [x]) := by simp [bts]
@[simp] theorem bts_snocT2 (l : List Bt) (a : Int) (b : Int) (c : List Et) : bts true l ++ [V.agg [.int .i64 a,.int .i64 b,.lst true 2 (ets true c)]] = bts true (l ++ [⟨a,b,c⟩]) := by simp [bts,Bt.v]
@[simp] theorem bts_setT2 (l : List Bt) (j : Nat) (a : Int) (b : Int) (c : List Et) : (bts true l).set j (V.agg [.int .i64 a,.int .i64 b,.lst true 2 (ets true c)]) = bts true (l.set j ⟨a,b,c⟩) := by simp [bts,Bt.v,List.map_set]
@[simp] theorem bts_snocF2 (l : List Bt) (a : Int) (b : Int) (c : List Et) : bts false l ++ [V.agg [.int .i64 a,.int .i64 b,.lst false 0 (ets false c)]] = bts false (l ++ [⟨a,b,c⟩]) := by simp [bts,Bt.v]
@[simp] theorem bts_setF2 (l : List Bt) (j : Nat) (a : Int) (b : Int) (c : List Et) : (bts false l).set j (V.agg [.int .i64 a,.int .i64 b,.lst false 0 (ets false c)]) = bts false (l.set j ⟨a,b,c⟩) := by simp [bts,Bt.v,List.map_set]
@[simp] theorem bts_set (t : Bool) (l : List Bt) (i : Nat) (x : Bt) : (bts t l).set i (x.v t) = bts t (l.set i x) := by simp [bts,List.map_set]
@[simp] theorem bts_take (t : Bool) (n : Nat) (l : List Bt) : (bts t l).take n = bts t (l.take n) := by simp [bts,List.map_take]
@[simp] theorem bts_drop (t : Bool) (n : Nat) (l : List Bt) : (bts t l).drop n = bts t (l.drop n) := by simp [bts,List.map_drop]
@[simp] theorem Bt.cells_v (t : Bool) (x : Bt) : (x.v t).cells = 3 := rfl
@[simp] theorem Bt.mention (t : Bool) (x : Bt) : V.mention (x.v t) = [] := by simp [Bt.v,V.mention,V.mentionL,lst_mention]
@[simp] theorem Bt.share (t : Bool) (x : Bt) : (x.v t).share = x.v false := by simp [Bt.v,V.share,V.shareL,lst_share,ets_shareL]
@[simp] theorem bts_shareL (t : Bool) (l : List Bt) : V.shareL (bts t l) = bts false l := by
  induction l with
  | nil => rfl
  | cons x l ih => simp [V.shareL,ih]
@[simp] theorem Bt.snap (t : Bool) (x : Bt) (q : St) : V.snap q (x.v t) = some (x.v false) := by simp [Bt.v,V.snap,V.snapL,mp,ets_shareL]
@[simp] theorem Bt.snapA (t : Bool) (x : Bt) (q : St) : V.snapA q (x.v t) = some (x.v false) := Bt.snap t x q
@[simp] theorem Bt.snapP (t : Bool) (x : Bt) (q : St) : V.snapP q (x.v t) = some (x.v false) := Bt.snap t x q
@[simp] theorem Bt.accM (t : Bool) (x : Bt) : V.accM (x.v t) = [] := by simp [Bt.v,V.accM,V.accML]
@[simp] theorem Bt.accF (t : Bool) (x : Bt) : V.accF (x.v t) = [] := by simp [Bt.v,V.accF,V.accFL]
@[simp] theorem Bt.ren (t : Bool) (x : Bt) (ρ : Nat → Option Nat) (vr : Nat → Nat) : V.ren ρ vr (x.v t) = x.v t := by simp [Bt.v,V.ren,V.renL]
@[simp] theorem Bt.bA (i : Nat) (t : Bool) (x : Bt) (r : List V) : bindArgs i (x.v t :: r) = ((i,x.v t) :: (bindArgs (i + 1) r).1,(bindArgs (i + 1) r).2) := rfl
@[simp] theorem Bt.lodF (x : Bt) (o i ver : Nat) (fs : List Nat) : V.lod o i ver fs (x.v false) = x.v false := by simp [Bt.v,V.lod,V.lodL]
@[simp] theorem Bt.fzF (x : Bt) (s : St) : V.fz (x.v false) s = some (x.v false,s) := by simp [Bt.v,V.fz,V.fzL,mp]
@[simp] theorem Bt.fzI (t : Bool) (x : Bt) (s : St) : V.fzI (x.v t) s = some (x.v t,s) := by cases t <;> simp [Bt.v,V.fz,V.fzI,V.fzIL,mp]
@[simp] theorem Bt.scal (t : Bool) (x : Bt) : V.scal (x.v t) = false := by simp [Bt.v,V.scal,V.scalL]
@[simp] theorem Bt.isTup (t : Bool) (x : Bt) : (x.v t).isTup = false := rfl
@[simp] theorem Bt.tidyT (x : Bt) : V.tidy (x.v true) = true := by simp [Bt.v,V.tidy,V.tidyL,ets_tidyT]
@[simp] theorem bts_tidyT (l : List Bt) : V.tidyL (bts true l) = true := by
  induction l with
  | nil => rfl
  | cons x l ih => simp [V.tidyL,ih]
@[simp] theorem Bt.thawF (x : Bt) (id : Nat) : V.thaw id (x.v false) = (x.v false,[],id) := by simp [Bt.v,V.thaw,V.thawL]
@[simp] theorem Bt.thawT (x : Bt) (id : Nat) : V.thaw id (x.v true) = (.agg [.int .i64 x.side,.int .i64 x.ep,.ref (id) 0 x.set.length],[(id,⟨false,false,2,ets true x.set,0⟩)],id + 1) := by simp [Bt.v,V.thaw,V.thawL]
structure Hd where
  oldA : List Et
  oldB : List Et
  waits : List Bt
  told : Int
  deriving DecidableEq
theorem Hd.eq_iff {d g : Hd} : d = g ↔ d.oldA = g.oldA ∧ d.oldB = g.oldB ∧ d.waits = g.waits ∧ d.told = g.told := by
  cases d;cases g;simp
def Hd.v (t : Bool) (x : Hd) : V := .agg [.lst t (lz t 2) (ets t x.oldA),.lst t (lz t 2) (ets t x.oldB),.lst t (lz t 3) (bts t x.waits),.int .i64 x.told]
def hds (t : Bool) (l : List Hd) : List V := l.map (Hd.v t)
@[simp] theorem hds_len (t : Bool) (l : List Hd) : (hds t l).length = l.length := by simp [hds]
@[simp] theorem hds_nil (t : Bool) : hds t [] = [] := rfl
@[simp] theorem hds_cons (t : Bool) (x : Hd) (l : List Hd) : hds t (x :: l) = x.v t :: hds t l := rfl
@[simp] theorem hds_join (t : Bool) (l m : List Hd) : hds t l ++ hds t m = hds t (l ++ m) := by simp [hds]
@[simp] theorem hds_snoc (t : Bool) (l : List Hd) (x : Hd) : hds t l ++ [x.v t] = hds t (l ++ [x]) := by simp [hds]
@[simp] theorem hds_snocT2 (l : List Hd) (a : List Et) (b : List Et) (c : List Bt) (d : Int) : hds true l ++ [V.agg [.lst true 2 (ets true a),.lst true 2 (ets true b),.lst true 3 (bts true c),.int .i64 d]] = hds true (l ++ [⟨a,b,c,d⟩]) := by simp [hds,Hd.v]
@[simp] theorem hds_setT2 (l : List Hd) (j : Nat) (a : List Et) (b : List Et) (c : List Bt) (d : Int) : (hds true l).set j (V.agg [.lst true 2 (ets true a),.lst true 2 (ets true b),.lst true 3 (bts true c),.int .i64 d]) = hds true (l.set j ⟨a,b,c,d⟩) := by simp [hds,Hd.v,List.map_set]
@[simp] theorem hds_snocF2 (l : List Hd) (a : List Et) (b : List Et) (c : List Bt) (d : Int) : hds false l ++ [V.agg [.lst false 0 (ets false a),.lst false 0 (ets false b),.lst false 0 (bts false c),.int .i64 d]] = hds false (l ++ [⟨a,b,c,d⟩]) := by simp [hds,Hd.v]
@[simp] theorem hds_setF2 (l : List Hd) (j : Nat) (a : List Et) (b : List Et) (c : List Bt) (d : Int) : (hds false l).set j (V.agg [.lst false 0 (ets false a),.lst false 0 (ets false b),.lst false 0 (bts false c),.int .i64 d]) = hds false (l.set j ⟨a,b,c,d⟩) := by simp [hds,Hd.v,List.map_set]
@[simp] theorem hds_set (t : Bool) (l : List Hd) (i : Nat) (x : Hd) : (hds t l).set i (x.v t) = hds t (l.set i x) := by simp [hds,List.map_set]
@[simp] theorem hds_take (t : Bool) (n : Nat) (l : List Hd) : (hds t l).take n = hds t (l.take n) := by simp [hds,List.map_take]
@[simp] theorem hds_drop (t : Bool) (n : Nat) (l : List Hd) : (hds t l).drop n = hds t (l.drop n) := by simp [hds,List.map_drop]
@[simp] theorem Hd.cells_v (t : Bool) (x : Hd) : (x.v t).cells = 4 := rfl
@[simp] theorem Hd.mention (t : Bool) (x : Hd) : V.mention (x.v t) = [] := by simp [Hd.v,V.mention,V.mentionL,lst_mention]
@[simp] theorem Hd.share (t : Bool) (x : Hd) : (x.v t).share = x.v false := by simp [Hd.v,V.share,V.shareL,lst_share,ets_shareL,ets_shareL,bts_shareL]
@[simp] theorem hds_shareL (t : Bool) (l : List Hd) : V.shareL (hds t l) = hds false l := by
  induction l with
  | nil => rfl
  | cons x l ih => simp [V.shareL,ih]
@[simp] theorem Hd.snap (t : Bool) (x : Hd) (q : St) : V.snap q (x.v t) = some (x.v false) := by simp [Hd.v,V.snap,V.snapL,mp,ets_shareL,ets_shareL,bts_shareL]
@[simp] theorem Hd.snapA (t : Bool) (x : Hd) (q : St) : V.snapA q (x.v t) = some (x.v false) := Hd.snap t x q
@[simp] theorem Hd.snapP (t : Bool) (x : Hd) (q : St) : V.snapP q (x.v t) = some (x.v false) := Hd.snap t x q
@[simp] theorem Hd.accM (t : Bool) (x : Hd) : V.accM (x.v t) = [] := by simp [Hd.v,V.accM,V.accML]
@[simp] theorem Hd.accF (t : Bool) (x : Hd) : V.accF (x.v t) = [] := by simp [Hd.v,V.accF,V.accFL]
@[simp] theorem Hd.ren (t : Bool) (x : Hd) (ρ : Nat → Option Nat) (vr : Nat → Nat) : V.ren ρ vr (x.v t) = x.v t := by simp [Hd.v,V.ren,V.renL]
@[simp] theorem Hd.bA (i : Nat) (t : Bool) (x : Hd) (r : List V) : bindArgs i (x.v t :: r) = ((i,x.v t) :: (bindArgs (i + 1) r).1,(bindArgs (i + 1) r).2) := rfl
@[simp] theorem Hd.lodF (x : Hd) (o i ver : Nat) (fs : List Nat) : V.lod o i ver fs (x.v false) = x.v false := by simp [Hd.v,V.lod,V.lodL]
@[simp] theorem Hd.fzF (x : Hd) (s : St) : V.fz (x.v false) s = some (x.v false,s) := by simp [Hd.v,V.fz,V.fzL,mp]
@[simp] theorem Hd.fzI (t : Bool) (x : Hd) (s : St) : V.fzI (x.v t) s = some (x.v t,s) := by cases t <;> simp [Hd.v,V.fz,V.fzI,V.fzIL,mp]
@[simp] theorem Hd.scal (t : Bool) (x : Hd) : V.scal (x.v t) = false := by simp [Hd.v,V.scal,V.scalL]
@[simp] theorem Hd.isTup (t : Bool) (x : Hd) : (x.v t).isTup = false := rfl
@[simp] theorem Hd.tidyT (x : Hd) : V.tidy (x.v true) = true := by simp [Hd.v,V.tidy,V.tidyL,ets_tidyT,ets_tidyT,bts_tidyT]
@[simp] theorem hds_tidyT (l : List Hd) : V.tidyL (hds true l) = true := by
  induction l with
  | nil => rfl
  | cons x l ih => simp [V.tidyL,ih]
@[simp] theorem Hd.thawF (x : Hd) (id : Nat) : V.thaw id (x.v false) = (x.v false,[],id) := by simp [Hd.v,V.thaw,V.thawL]
@[simp] theorem Hd.thawT (x : Hd) (id : Nat) : V.thaw id (x.v true) = (.agg [.ref (id) 0 x.oldA.length,.ref (id + 1) 0 x.oldB.length,.ref (id + 1 + 1) 0 x.waits.length,.int .i64 x.told],[(id,⟨false,false,2,ets true x.oldA,0⟩),(id + 1,⟨false,false,2,ets true x.oldB,0⟩),(id + 1 + 1,⟨false,false,3,bts true x.waits,0⟩)],id + 1 + 1 + 1) := by simp [Hd.v,V.thaw,V.thawL]
structure Rl where
  node : Int
  ep : Int
  set : List Et
  deriving DecidableEq
theorem Rl.eq_iff {d g : Rl} : d = g ↔ d.node = g.node ∧ d.ep = g.ep ∧ d.set = g.set := by
  cases d;cases g;simp
def Rl.v (t : Bool) (x : Rl) : V := .agg [.int .i64 x.node,.int .i64 x.ep,.lst t (lz t 2) (ets t x.set)]
def rls (t : Bool) (l : List Rl) : List V := l.map (Rl.v t)
@[simp] theorem rls_len (t : Bool) (l : List Rl) : (rls t l).length = l.length := by simp [rls]
@[simp] theorem rls_nil (t : Bool) : rls t [] = [] := rfl
@[simp] theorem rls_cons (t : Bool) (x : Rl) (l : List Rl) : rls t (x :: l) = x.v t :: rls t l := rfl
@[simp] theorem rls_join (t : Bool) (l m : List Rl) : rls t l ++ rls t m = rls t (l ++ m) := by simp [rls]
@[simp] theorem rls_snoc (t : Bool) (l : List Rl) (x : Rl) : rls t l ++ [x.v t] = rls t (l ++ [x]) := by simp [rls]
@[simp] theorem rls_snocT2 (l : List Rl) (a : Int) (b : Int) (c : List Et) : rls true l ++ [V.agg [.int .i64 a,.int .i64 b,.lst true 2 (ets true c)]] = rls true (l ++ [⟨a,b,c⟩]) := by simp [rls,Rl.v]
@[simp] theorem rls_setT2 (l : List Rl) (j : Nat) (a : Int) (b : Int) (c : List Et) : (rls true l).set j (V.agg [.int .i64 a,.int .i64 b,.lst true 2 (ets true c)]) = rls true (l.set j ⟨a,b,c⟩) := by simp [rls,Rl.v,List.map_set]
@[simp] theorem rls_snocF2 (l : List Rl) (a : Int) (b : Int) (c : List Et) : rls false l ++ [V.agg [.int .i64 a,.int .i64 b,.lst false 0 (ets false c)]] = rls false (l ++ [⟨a,b,c⟩]) := by simp [rls,Rl.v]
@[simp] theorem rls_setF2 (l : List Rl) (j : Nat) (a : Int) (b : Int) (c : List Et) : (rls false l).set j (V.agg [.int .i64 a,.int .i64 b,.lst false 0 (ets false c)]) = rls false (l.set j ⟨a,b,c⟩) := by simp [rls,Rl.v,List.map_set]
@[simp] theorem rls_set (t : Bool) (l : List Rl) (i : Nat) (x : Rl) : (rls t l).set i (x.v t) = rls t (l.set i x) := by simp [rls,List.map_set]
@[simp] theorem rls_take (t : Bool) (n : Nat) (l : List Rl) : (rls t l).take n = rls t (l.take n) := by simp [rls,List.map_take]
@[simp] theorem rls_drop (t : Bool) (n : Nat) (l : List Rl) : (rls t l).drop n = rls t (l.drop n) := by simp [rls,List.map_drop]
@[simp] theorem Rl.cells_v (t : Bool) (x : Rl) : (x.v t).cells = 3 := rfl
@[simp] theorem Rl.mention (t : Bool) (x : Rl) : V.mention (x.v t) = [] := by simp [Rl.v,V.mention,V.mentionL,lst_mention]
@[simp] theorem Rl.share (t : Bool) (x : Rl) : (x.v t).share = x.v false := by simp [Rl.v,V.share,V.shareL,lst_share,ets_shareL]
@[simp] theorem rls_shareL (t : Bool) (l : List Rl) : V.shareL (rls t l) = rls false l := by
  induction l with
  | nil => rfl
  | cons x l ih => simp [V.shareL,ih]
@[simp] theorem Rl.snap (t : Bool) (x : Rl) (q : St) : V.snap q (x.v t) = some (x.v false) := by simp [Rl.v,V.snap,V.snapL,mp,ets_shareL]
@[simp] theorem Rl.snapA (t : Bool) (x : Rl) (q : St) : V.snapA q (x.v t) = some (x.v false) := Rl.snap t x q
@[simp] theorem Rl.snapP (t : Bool) (x : Rl) (q : St) : V.snapP q (x.v t) = some (x.v false) := Rl.snap t x q
@[simp] theorem Rl.accM (t : Bool) (x : Rl) : V.accM (x.v t) = [] := by simp [Rl.v,V.accM,V.accML]
@[simp] theorem Rl.accF (t : Bool) (x : Rl) : V.accF (x.v t) = [] := by simp [Rl.v,V.accF,V.accFL]
@[simp] theorem Rl.ren (t : Bool) (x : Rl) (ρ : Nat → Option Nat) (vr : Nat → Nat) : V.ren ρ vr (x.v t) = x.v t := by simp [Rl.v,V.ren,V.renL]
@[simp] theorem Rl.bA (i : Nat) (t : Bool) (x : Rl) (r : List V) : bindArgs i (x.v t :: r) = ((i,x.v t) :: (bindArgs (i + 1) r).1,(bindArgs (i + 1) r).2) := rfl
@[simp] theorem Rl.lodF (x : Rl) (o i ver : Nat) (fs : List Nat) : V.lod o i ver fs (x.v false) = x.v false := by simp [Rl.v,V.lod,V.lodL]
@[simp] theorem Rl.fzF (x : Rl) (s : St) : V.fz (x.v false) s = some (x.v false,s) := by simp [Rl.v,V.fz,V.fzL,mp]
@[simp] theorem Rl.fzI (t : Bool) (x : Rl) (s : St) : V.fzI (x.v t) s = some (x.v t,s) := by cases t <;> simp [Rl.v,V.fz,V.fzI,V.fzIL,mp]
@[simp] theorem Rl.scal (t : Bool) (x : Rl) : V.scal (x.v t) = false := by simp [Rl.v,V.scal,V.scalL]
@[simp] theorem Rl.isTup (t : Bool) (x : Rl) : (x.v t).isTup = false := rfl
@[simp] theorem Rl.tidyT (x : Rl) : V.tidy (x.v true) = true := by simp [Rl.v,V.tidy,V.tidyL,ets_tidyT]
@[simp] theorem rls_tidyT (l : List Rl) : V.tidyL (rls true l) = true := by
  induction l with
  | nil => rfl
  | cons x l ih => simp [V.tidyL,ih]
@[simp] theorem Rl.thawF (x : Rl) (id : Nat) : V.thaw id (x.v false) = (x.v false,[],id) := by simp [Rl.v,V.thaw,V.thawL]
@[simp] theorem Rl.thawT (x : Rl) (id : Nat) : V.thaw id (x.v true) = (.agg [.int .i64 x.node,.int .i64 x.ep,.ref (id) 0 x.set.length],[(id,⟨false,false,2,ets true x.set,0⟩)],id + 1) := by simp [Rl.v,V.thaw,V.thawL]
structure Wk where
  inbox : List Fr
  counts : List Ct
  nodes : List Hd
  ep : Int
  top : Int
  outs : List Rl
  bad : Bool
  deriving DecidableEq
theorem Wk.eq_iff {d g : Wk} : d = g ↔ d.inbox = g.inbox ∧ d.counts = g.counts ∧ d.nodes = g.nodes ∧ d.ep = g.ep ∧ d.top = g.top ∧ d.outs = g.outs ∧ d.bad = g.bad := by
  cases d;cases g;simp
def Wk.v (t : Bool) (x : Wk) : V := .agg [.lst t (lz t 6) (frs t x.inbox),.lst t (lz t 3) (cts x.counts),.lst t (lz t 4) (hds t x.nodes),.int .i64 x.ep,.int .i64 x.top,.lst t (lz t 3) (rls t x.outs),.bool x.bad]
def wks (t : Bool) (l : List Wk) : List V := l.map (Wk.v t)
@[simp] theorem wks_len (t : Bool) (l : List Wk) : (wks t l).length = l.length := by simp [wks]
@[simp] theorem wks_nil (t : Bool) : wks t [] = [] := rfl
@[simp] theorem wks_cons (t : Bool) (x : Wk) (l : List Wk) : wks t (x :: l) = x.v t :: wks t l := rfl
@[simp] theorem wks_join (t : Bool) (l m : List Wk) : wks t l ++ wks t m = wks t (l ++ m) := by simp [wks]
@[simp] theorem wks_snoc (t : Bool) (l : List Wk) (x : Wk) : wks t l ++ [x.v t] = wks t (l ++ [x]) := by simp [wks]
@[simp] theorem wks_snocT2 (l : List Wk) (a : List Fr) (b : List Ct) (c : List Hd) (d : Int) (e : Int) (f : List Rl) (g : Bool) : wks true l ++ [V.agg [.lst true 6 (frs true a),.lst true 3 (cts b),.lst true 4 (hds true c),.int .i64 d,.int .i64 e,.lst true 3 (rls true f),.bool g]] = wks true (l ++ [⟨a,b,c,d,e,f,g⟩]) := by simp [wks,Wk.v]
@[simp] theorem wks_setT2 (l : List Wk) (j : Nat) (a : List Fr) (b : List Ct) (c : List Hd) (d : Int) (e : Int) (f : List Rl) (g : Bool) : (wks true l).set j (V.agg [.lst true 6 (frs true a),.lst true 3 (cts b),.lst true 4 (hds true c),.int .i64 d,.int .i64 e,.lst true 3 (rls true f),.bool g]) = wks true (l.set j ⟨a,b,c,d,e,f,g⟩) := by simp [wks,Wk.v,List.map_set]
@[simp] theorem wks_snocF2 (l : List Wk) (a : List Fr) (b : List Ct) (c : List Hd) (d : Int) (e : Int) (f : List Rl) (g : Bool) : wks false l ++ [V.agg [.lst false 0 (frs false a),.lst false 0 (cts b),.lst false 0 (hds false c),.int .i64 d,.int .i64 e,.lst false 0 (rls false f),.bool g]] = wks false (l ++ [⟨a,b,c,d,e,f,g⟩]) := by simp [wks,Wk.v]
@[simp] theorem wks_setF2 (l : List Wk) (j : Nat) (a : List Fr) (b : List Ct) (c : List Hd) (d : Int) (e : Int) (f : List Rl) (g : Bool) : (wks false l).set j (V.agg [.lst false 0 (frs false a),.lst false 0 (cts b),.lst false 0 (hds false c),.int .i64 d,.int .i64 e,.lst false 0 (rls false f),.bool g]) = wks false (l.set j ⟨a,b,c,d,e,f,g⟩) := by simp [wks,Wk.v,List.map_set]
@[simp] theorem wks_set (t : Bool) (l : List Wk) (i : Nat) (x : Wk) : (wks t l).set i (x.v t) = wks t (l.set i x) := by simp [wks,List.map_set]
@[simp] theorem wks_take (t : Bool) (n : Nat) (l : List Wk) : (wks t l).take n = wks t (l.take n) := by simp [wks,List.map_take]
@[simp] theorem wks_drop (t : Bool) (n : Nat) (l : List Wk) : (wks t l).drop n = wks t (l.drop n) := by simp [wks,List.map_drop]
@[simp] theorem Wk.cells_v (t : Bool) (x : Wk) : (x.v t).cells = 7 := rfl
@[simp] theorem Wk.mention (t : Bool) (x : Wk) : V.mention (x.v t) = [] := by simp [Wk.v,V.mention,V.mentionL,lst_mention]
@[simp] theorem Wk.share (t : Bool) (x : Wk) : (x.v t).share = x.v false := by simp [Wk.v,V.share,V.shareL,lst_share,frs_shareL,cts_shareL,hds_shareL,rls_shareL]
@[simp] theorem wks_shareL (t : Bool) (l : List Wk) : V.shareL (wks t l) = wks false l := by
  induction l with
  | nil => rfl
  | cons x l ih => simp [V.shareL,ih]
@[simp] theorem Wk.snap (t : Bool) (x : Wk) (q : St) : V.snap q (x.v t) = some (x.v false) := by simp [Wk.v,V.snap,V.snapL,mp,frs_shareL,cts_shareL,hds_shareL,rls_shareL]
@[simp] theorem Wk.snapA (t : Bool) (x : Wk) (q : St) : V.snapA q (x.v t) = some (x.v false) := Wk.snap t x q
@[simp] theorem Wk.snapP (t : Bool) (x : Wk) (q : St) : V.snapP q (x.v t) = some (x.v false) := Wk.snap t x q
@[simp] theorem Wk.accM (t : Bool) (x : Wk) : V.accM (x.v t) = [] := by simp [Wk.v,V.accM,V.accML]
@[simp] theorem Wk.accF (t : Bool) (x : Wk) : V.accF (x.v t) = [] := by simp [Wk.v,V.accF,V.accFL]
@[simp] theorem Wk.ren (t : Bool) (x : Wk) (ρ : Nat → Option Nat) (vr : Nat → Nat) : V.ren ρ vr (x.v t) = x.v t := by simp [Wk.v,V.ren,V.renL]
@[simp] theorem Wk.bA (i : Nat) (t : Bool) (x : Wk) (r : List V) : bindArgs i (x.v t :: r) = ((i,x.v t) :: (bindArgs (i + 1) r).1,(bindArgs (i + 1) r).2) := rfl
@[simp] theorem Wk.lodF (x : Wk) (o i ver : Nat) (fs : List Nat) : V.lod o i ver fs (x.v false) = x.v false := by simp [Wk.v,V.lod,V.lodL]
@[simp] theorem Wk.fzF (x : Wk) (s : St) : V.fz (x.v false) s = some (x.v false,s) := by simp [Wk.v,V.fz,V.fzL,mp]
@[simp] theorem Wk.fzI (t : Bool) (x : Wk) (s : St) : V.fzI (x.v t) s = some (x.v t,s) := by cases t <;> simp [Wk.v,V.fz,V.fzI,V.fzIL,mp]
@[simp] theorem Wk.scal (t : Bool) (x : Wk) : V.scal (x.v t) = false := by simp [Wk.v,V.scal,V.scalL]
@[simp] theorem Wk.isTup (t : Bool) (x : Wk) : (x.v t).isTup = false := rfl
@[simp] theorem Wk.tidyT (x : Wk) : V.tidy (x.v true) = true := by simp [Wk.v,V.tidy,V.tidyL,frs_tidyT,cts_tidyT,hds_tidyT,rls_tidyT]
@[simp] theorem wks_tidyT (l : List Wk) : V.tidyL (wks true l) = true := by
  induction l with
  | nil => rfl
  | cons x l ih => simp [V.tidyL,ih]
@[simp] theorem Wk.thawF (x : Wk) (id : Nat) : V.thaw id (x.v false) = (x.v false,[],id) := by simp [Wk.v,V.thaw,V.thawL]
@[simp] theorem Wk.thawT (x : Wk) (id : Nat) : V.thaw id (x.v true) = (.agg [.ref (id) 0 x.inbox.length,.ref (id + 1) 0 x.counts.length,.ref (id + 1 + 1) 0 x.nodes.length,.int .i64 x.ep,.int .i64 x.top,.ref (id + 1 + 1 + 1) 0 x.outs.length,.bool x.bad],[(id,⟨false,false,6,frs true x.inbox,0⟩),(id + 1,⟨false,false,3,cts x.counts,0⟩),(id + 1 + 1,⟨false,false,4,hds true x.nodes,0⟩),(id + 1 + 1 + 1,⟨false,false,3,rls true x.outs,0⟩)],id + 1 + 1 + 1 + 1) := by simp [Wk.v,V.thaw,V.thawL]
theorem sz_I (l : List Int) (a : Int) (h : l.length < 4611686018427387904) (ha : 0 ≤ a) (hb : a < 4611686018427387904) : oc.call 98 [.lst false 0 (ints l),.int .i64 a] = some (.int .i64 (szI l.length a),[]) := by
  have := e_sz 0 (ints l) a (by simpa using h) ha hb
  simpa [szI] using this
def wS {α : Type} (f : α → Nat) (l : List α) : Nat := (l.map f).sum
@[simp] theorem wS_nil {α : Type} (f : α → Nat) : wS f [] = 0 := rfl
@[simp] theorem wS_cons {α : Type} (f : α → Nat) (x : α) (l : List α) : wS f (x :: l) = f x + wS f l := by simp [wS]
theorem wS_mem {α : Type} {f : α → Nat} : ∀ {l : List α} {x : α},x ∈ l → f x ≤ wS f l
  | y :: l,x,h => by
    rcases List.mem_cons.1 h with rfl | h
    · simp
    · have := wS_mem (f:=f) h;simp;omega
theorem szI_pos {n : Nat} {a : Int} (h : 0 ≤ szI n a) : szI n a = a - n ∧ (n : Int) ≤ a := by
  unfold szI at *;split at h <;> simp_all <;> omega
theorem szI_le0 {n : Nat} {a : Int} (h : 0 ≤ a) : szI n a ≤ a := by unfold szI;split <;> omega
theorem szI_seq {m n : Nat} {a : Int} (h : 0 ≤ szI m a) : szI n (szI m a) = szI (m + n) a := by
  obtain ⟨h1,h2⟩ := szI_pos h
  rw [h1];unfold szI;split <;> split <;> omega
theorem szI_stop {m n : Nat} {a : Int} (ha : 0 ≤ a) (h : szI m a < 0) : szI (m + n) a = -1 := by
  unfold szI at *;split at h
  · rw [if_pos (by omega)]
  · omega
theorem eq_Ct (x y : Ct) : oc.call 148 [x.v,y.v] = some (.bool (decide (x = y)),[]) := by
 refine fun_s rfl cd148 rfl rfl rfl (by simp;rfl) (by simp;rfl) ?_
 refine wa_ (wc_region (w_ (bx (h:=w_ (bx (h:=w_ (a_ (h:=wo_nil (e_ (h:=aft_normal (wa_ (wa_ (wc_region (w_ (f_ (h:=w_ (l_ (h:=?_))))))))))))))))))
 refine w_ (f_ (h:=w_ (l_ (h:=w_ (bE (h:=wo_nil (e_ (h:=aft_normal (?_)))))))))
 refine c_ (h1:=?_) (h2:=?_)
 rotate_right 1
 focus
  intro c1
  refine wc_skip (?_)
 rotate_right 1
 focus
  intro c1
  refine wa_ (wc_region (w_ (a_ (h:=wo_nil (e_ (h:=aft_normal (wc_ret (?_))))))))
 all_goals first
 | refine aft_ret ?_
 | (
  refine aft_normal ?_
  refine wa_ (wa_ (wc_region (w_ (f_ (h:=w_ (l_ (h:=w_ (f_ (h:=w_ (l_ (h:=w_ (bE (h:=wo_nil (e_ (h:=aft_normal (?_))))))))))))))))
  refine c_ (h1:=?_) (h2:=?_)
  rotate_right 1
  focus
   intro c2
   refine wc_skip (?_)
  rotate_right 1
  focus
   intro c2
   refine wa_ (wc_region (w_ (a_ (h:=wo_nil (e_ (h:=aft_normal (wc_ret (?_))))))))
  all_goals first
  | refine aft_ret ?_
  | (
   refine aft_normal ?_
   refine wa_ (wa_ (wc_region (w_ (f_ (h:=w_ (l_ (h:=w_ (f_ (h:=w_ (l_ (h:=w_ (bE (h:=wo_nil (e_ (h:=aft_normal (?_))))))))))))))))
   refine c_ (h1:=?_) (h2:=?_)
   rotate_right 1
   focus
    intro c3
    refine wc_skip (?_)
   rotate_right 1
   focus
    intro c3
    refine wa_ (wc_region (w_ (a_ (h:=wo_nil (e_ (h:=aft_normal (wc_ret (?_))))))))
   all_goals first
   | refine aft_ret ?_
   | (
    refine aft_normal ?_
    refine wa_ (wc_region (w_ (a_ (h:=wo_nil (e_ (h:=aft_normal (wc_ret (?_))))))))
    )
   )
  )
 all_goals (refine fin_ (hr:=(res_tmp rfl res_nil)) (h:=?_);(focus (first | (simp_all [Ct.eq_iff];done) | (simp [Ct.eq_iff] at *;grind))))
theorem l_eq_Cts (l m : List Ct) (h : l.length < 2000000) (h2 : m.length < 2000000) (hlm : l.length = m.length) : ∀ i : Nat,(i ≤ l.length) → ∀ s,normE 2 (some [0,1,5]) s = ⟨[(0,.lst false 0 (cts l)),(1,.lst false 0 (cts m)),(5,.int .i64 i)],[],2⟩ →
 oc.loop 137 4 s = some (if l.drop i = m.drop i then (.exit 0,⟨[],[],2⟩) else (.ret,⟨[(4,.bool false)],[],2⟩)) := by
 refine loop_ind (σ:=Nat) (fun i => l.length - i) _ (fun i => ⟨[(0,.lst false 0 (cts l)),(1,.lst false 0 (cts m)),(5,.int .i64 i)],[],2⟩) _ ?_
 intro i hi ih s hs
 refine loop_s cd137 rfl rfl hs ?_
 refine wa_ (wa_ (wc_region (w_ (m_ (h:=w_ (m_ (h:=w_ (le (h:=w_ (b_ (h:=wo_nil (e_ (h:=aft_normal (?_))))))))))))))
 refine c_ (h1:=?_) (h2:=?_)
 rotate_right 1
 focus
  intro c1
  simp at c1;have : i = l.length := (by omega);subst this
  refine wc_exit (?_)
 rotate_right 1
 focus
  intro c1
  simp at c1;have hw := wrap_succ (i:=i) (by omega);obtain ⟨x,hx,d1,g1⟩ := cts_cut c1;obtain ⟨y,hy,d2,g2⟩ := cts_cut (l:=m) (i:=i) (by omega)
  refine wc_skip (?_)
 all_goals first
 | refine aft_exit ?_
 | (
  refine aft_normal ?_
  refine wa_ (wc_block (wa_ (wc_draw (y_ (m_ (h:=ax_ (h:=y_ (m_ (h:=ax_ (h:=y_ (x_ (h:=ax_ (h:=y_ (l_ (h:=ax_ (h:=y_ (m_ (h:=ax_ (h:=y_ (m_ (h:=ax_ (h:=y_ (x_ (h:=ax_ (h:=y_ (l_ (h:=ax_ (h:=?_))))))))))))))))))))))))))))
  refine y_ (ca (hc:=eq_Ct x y) (h:=ax_ (h:=y_ (u_ (h:=ax_ (h:=wo_nil (ed (h:=aft_normal (?_)))))))))
  refine c_ (h1:=?_) (h2:=?_)
  rotate_right 1
  focus
   intro c2
   refine wc_skip (?_)
  rotate_right 1
  focus
   intro c2
   refine wa_ (wc_region (w_ (a_ (h:=wo_nil (e_ (h:=aft_normal (wc_ret (?_))))))))
  all_goals first | refine blk_normal ?_ | refine blk_ret ?_
  all_goals first
  | refine aft_ret ?_
  | (
   refine aft_normal ?_
   refine wc_region (w_ (m_ (h:=w_ (b_ (h:=w_ (a_ (h:=wo_nil (e_ (h:=?_)))))))))
   )
  )
 all_goals first
 | (refine (ih (i + 1) (by omega) ?_ _ ?_).trans ?_;(focus (first | omega | (simp;done) | (simp;omega)));(focus (simp [normE,hw];done));(focus (simp at c2;rw [d1,d2];simp [c2])))
 | (apply end_leaf (ex:=Ext.ret) 2 (some [4]);(focus (simp [normE];rfl));(focus (simp at c2;rw [d1,d2];simp [c2])))
 | (apply end_leaf (ex:=(Ext.exit 0)) 2 (some [4]);(focus (simp [normE];rfl));(focus (rw [if_pos (by simp [hlm])])))
theorem eq_Cts (l m : List Ct) (h : l.length < 2000000) (h2 : m.length < 2000000) : oc.call 137 [.lst false 0 (cts l),.lst false 0 (cts m)] = some (.bool (decide (l = m)),[]) := by
 refine fun_s rfl cd137 rfl rfl rfl (by simp;rfl) (by simp;rfl) ?_
 refine wa_ (wc_region (w_ (a_ (h:=wo_nil (e_ (h:=aft_normal (wa_ (wa_ (wc_region (w_ (m_ (h:=w_ (le (h:=w_ (m_ (h:=w_ (le (h:=?_))))))))))))))))))
 refine w_ (bE (h:=wo_nil (e_ (h:=aft_normal (?_)))))
 refine c_ (h1:=?_) (h2:=?_)
 rotate_right 1
 focus
  intro c1
  simp at c1
  refine wc_skip (?_)
 rotate_right 1
 focus
  intro c1
  simp at c1;have hne : l ≠ m := (by rintro rfl;exact c1 rfl)
  refine wa_ (wc_region (w_ (a_ (h:=wo_nil (e_ (h:=aft_normal (wc_ret (?_))))))))
 all_goals first
 | refine aft_ret ?_
 | (
  refine aft_normal ?_
  refine wa_ (wa_ (wc_region (w_ (a_ (h:=wo_nil (e_ (h:=aft_normal (wc_block (?_)))))))))
  refine wc_loopI (l_eq_Cts l m h h2 (by omega) 0 (by omega) _ (by simp [normE])) ?_ ?_
  rotate_right 1
  focus
   intro c2
   skip
  rotate_right 1
  focus
   intro c2
   skip
  all_goals first | refine blk_ret ?_ | refine blk_exit ?_
  all_goals first
  | refine aft_ret ?_
  | (
   refine aft_normal ?_
   refine wa_ (wc_region (w_ (a_ (h:=wo_nil (e_ (h:=aft_normal (wc_ret (?_))))))))
   )
  )
 all_goals (refine fin_ (hr:=(res_tmp rfl res_nil)) (h:=?_);(focus (first | (simp_all;done) | (simp_all <;> omega) | (simp_all <;> split <;> simp_all <;> omega))))
def w_Et (x : Et) : Nat := x.row.length
def bg_Et (x : Et) : Prop := x.row.length ≤ 140737488351232
def w_Ets (l : List Et) : Nat := l.length + wS w_Et l
def bg_Ets (l : List Et) : Prop := l.length ≤ 140737488351232 ∧ ∀ x ∈ l,bg_Et x
theorem w_Ets_mem {l : List Et} {x : Et} (h : x ∈ l) : l.length + w_Et x ≤ w_Ets l := by
  have := wS_mem (f:=w_Et) h;unfold w_Ets;omega
theorem w_Ets_len {l : List Et} : l.length ≤ w_Ets l := by unfold w_Ets;omega
theorem sz_Et (x : Et) (a : Int) (hb : bg_Et x) (ha : 0 ≤ a) (hc : a < 2000000) : oc.call 51 [x.v false,.int .i64 a] = some (.int .i64 (szI (w_Et x) a),[]) := by
 refine fun_s rfl cd51 rfl rfl rfl (by simp;rfl) (by simp;rfl) ?_
 unfold bg_Et at hb
 refine wa_ (wc_region (w_ (bx (h:=w_ (a_ (h:=wo_nil (e_ (h:=aft_normal (wa_ (wc_region (w_ (f_ (h:=w_ (l_ (h:=w_ (m_ (h:=w_ (ca (hc:=sz_I x.row (a) (by omega) (by omega) (by omega)) (h:=?_)))))))))))))))))))
 refine w_ (a_ (h:=wo_nil (e_ (h:=aft_normal (wa_ (wa_ (wc_region (w_ (m_ (h:=w_ (b_ (h:=wo_nil (e_ (h:=aft_normal (?_)))))))))))))))
 refine c_ (h1:=?_) (h2:=?_)
 rotate_right 1
 focus
  intro c1
  first
  | exact dn c1
  | (
   have d1 := c1;try simp at d1
   have e1 := szI_pos (n:=x.row.length) (a:=a) (by omega)
   refine wc_skip (?_)
   )
 rotate_right 1
 focus
  intro c1
  first
  | exact dn c1
  | (
   have d1 := c1;try simp at d1
   refine wa_ (wc_region (w_ (a_ (h:=wo_nil (e_ (h:=aft_normal (wc_ret (?_))))))))
   )
 all_goals first
 | refine aft_ret ?_
 | (
  refine aft_normal ?_
  refine wa_ (wc_region (w_ (m_ (h:=w_ (a_ (h:=wo_nil (e_ (h:=aft_normal (wc_ret (?_))))))))))
  )
 all_goals (refine fin_ (hr:=(res_tmp rfl res_nil)) (h:=?_);(focus (simp [w_Et,szI] at *;grind)))
theorem l_sz_Ets (l : List Et) (hl : bg_Ets l) : ∀ x : Nat × Int,(x.1 ≤ l.length ∧ 0 ≤ x.2 ∧ x.2 < 2000000) → ∀ s,normE 2 (some [0,1,5]) s = ⟨[(0,.lst false 0 (ets false l)),(1,.int .i64 x.2),(5,.int .i64 x.1)],[],2⟩ →
 oc.loop 19 5 s = some (if 0 ≤ szI (wS w_Et (l.drop x.1)) x.2 then (.exit 0,⟨[(1,.int .i64 (szI (wS w_Et (l.drop x.1)) x.2))],[],2⟩) else (.ret,⟨[(1,.int .i64 (-1)),(4,.int .i64 (-1))],[],2⟩)) := by
 refine loop_ind (σ:=Nat × Int) (fun x => l.length - x.1) _ (fun x => ⟨[(0,.lst false 0 (ets false l)),(1,.int .i64 x.2),(5,.int .i64 x.1)],[],2⟩) _ ?_
 rintro ⟨i,a⟩ hi ih s hs
 simp only at hi
 refine loop_s cd19 rfl rfl hs ?_
 refine wa_ (wa_ (wc_region (w_ (m_ (h:=w_ (m_ (h:=w_ (le (h:=w_ (b_ (h:=wo_nil (e_ (h:=aft_normal (?_))))))))))))))
 refine c_ (h1:=?_) (h2:=?_)
 rotate_right 1
 focus
  intro c1
  first
  | exact dn c1
  | (
   have d1 := c1;try simp at d1
   obtain ⟨hi1,hi2,hi3⟩ := hi;have : i = l.length := (by omega);subst this
   refine wc_exit (?_)
   )
 rotate_right 1
 focus
  intro c1
  first
  | exact dn c1
  | (
   have d1 := c1;try simp at d1
   obtain ⟨hi1,hi2,hi3⟩ := hi;have hw := wrap_succ (i:=i) (by have := hl.1;omega);obtain ⟨d,hx,e1,g1⟩ := ets_cut (l:=l) (i:=i) (t:=false) (by omega);have hd := hl.2 d (List.mem_of_getElem? hx)
   refine wc_skip (?_)
   )
 all_goals first
 | refine aft_exit ?_
 | (
  refine aft_normal ?_
  refine wa_ (wc_block (wa_ (wc_region (w_ (m_ (h:=w_ (m_ (h:=w_ (x_ (h:=w_ (l_ (h:=w_ (m_ (h:=w_ (ca (hc:=sz_Et d a hd (by omega) (by omega)) (h:=w_ (a_ (h:=wo_nil (e_ (h:=?_))))))))))))))))))))
  refine aft_normal (wa_ (wc_region (w_ (m_ (h:=w_ (b_ (h:=wo_nil (e_ (h:=aft_normal (?_))))))))))
  refine c_ (h1:=?_) (h2:=?_)
  rotate_right 1
  focus
   intro c2
   first
   | exact dn c2
   | (
    have d2 := c2;try simp at d2
    refine wc_skip (?_)
    )
  rotate_right 1
  focus
   intro c2
   first
   | exact dn c2
   | (
    have d2 := c2;try simp at d2
    refine wa_ (wc_region (w_ (a_ (h:=wo_nil (e_ (h:=aft_normal (wc_ret (?_))))))))
    )
  all_goals first | refine blk_normal ?_ | refine blk_ret ?_
  all_goals first
  | refine aft_ret ?_
  | (
   refine aft_normal ?_
   refine wc_region (w_ (m_ (h:=w_ (b_ (h:=w_ (a_ (h:=wo_nil (e_ (h:=?_)))))))))
   )
  )
 all_goals first
 | (refine (ih ((i + 1,szI (w_Et d) a)) (⟨by simp;omega,by simp;omega,by have := szI_le0 (n:=w_Et d) (a:=a) (by omega);simp;omega⟩) ?_ _ ?_).trans ?_;(focus (first | omega | (simp;done) | (simp;omega)));(focus (simp [normE,hw];done));(focus (simp only [e1,wS_cons];rw [szI_seq (by omega)])))
 | (apply end_leaf (ex:=Ext.ret) 2 (some [1,4]);(focus (simp [normE];rfl));(focus (simp only [e1,wS_cons];rw [szI_stop (by omega) (by omega)];simp;have := szI_neg (c:=w_Et d) (a:=a) (by omega);simp [this])))
 | (apply end_leaf (ex:=(Ext.exit 0)) 2 (some [1,4]);(focus (simp [normE];rfl));(focus (have e0 : szI 0 a = a := (by unfold szI;rw [if_neg (by omega)];simp);simp [e0,hi2])))
theorem sz_Ets (l : List Et) (a : Int) (hb : bg_Ets l) (ha : 0 ≤ a) (hc : a < 2000000) : oc.call 19 [.lst false 0 (ets false l),.int .i64 a] = some (.int .i64 (szI (w_Ets l) a),[]) := by
 refine fun_s rfl cd19 rfl rfl rfl (by simp;rfl) (by simp;rfl) ?_
 have hb1 := hb.1
 have hw : IntKind.i64.wrap (a - l.length) = a - l.length := wrap_id (by omega) (by omega)
 refine wa_ (wc_region (w_ (a_ (h:=wo_nil (e_ (h:=aft_normal (wa_ (wc_region (w_ (m_ (h:=w_ (m_ (h:=w_ (le (h:=w_ (b_ (h:=w_ (a_ (h:=?_)))))))))))))))))))
 refine wo_nil (e_ (h:=aft_normal (wa_ (wa_ (wc_region (w_ (m_ (h:=w_ (b_ (h:=wo_nil (e_ (h:=aft_normal (?_)))))))))))))
 refine c_ (h1:=?_) (h2:=?_)
 rotate_right 1
 focus
  intro c1
  first
  | exact dn c1
  | (
   have d1 := c1;try simp at d1
   simp only [hw] at d1;have e1 : szI l.length a = a - l.length := (by unfold szI;rw [if_neg (by omega)])
   refine wc_skip (?_)
   )
 rotate_right 1
 focus
  intro c1
  first
  | exact dn c1
  | (
   have d1 := c1;try simp at d1
   refine wa_ (wc_region (w_ (a_ (h:=wo_nil (e_ (h:=aft_normal (wc_ret (?_))))))))
   )
 all_goals first
 | refine aft_ret ?_
 | (
  refine aft_normal ?_
  refine wa_ (wa_ (wc_region (w_ (a_ (h:=wo_nil (e_ (h:=aft_normal (wc_block (?_)))))))))
  refine wc_loopI (l_sz_Ets l hb (0,a - l.length) ⟨by simp,by simp;omega,by simp;omega⟩ _ (by simp [normE,hw])) ?_ ?_
  rotate_right 1
  focus
   intro c2
   first
   | exact dn c2
   | (
    have d2 := c2;try simp at d2
    skip
    )
  rotate_right 1
  focus
   intro c2
   first
   | exact dn c2
   | (
    have d2 := c2;try simp at d2
    skip
    )
  all_goals first | refine blk_ret ?_ | refine blk_exit ?_
  all_goals first
  | refine aft_ret ?_
  | (
   refine aft_normal ?_
   refine wa_ (wc_region (w_ (m_ (h:=w_ (a_ (h:=wo_nil (e_ (h:=aft_normal (wc_ret (?_))))))))))
   )
  )
 all_goals (refine fin_ (hr:=(res_tmp rfl res_nil)) (h:=?_);(focus (simp [w_Ets,szI,hw] at *;grind)))
theorem to_Et (x : Et) (h : w_Et x < 2000000) : oc.call 58 [x.v false] = some (x.v true,[]) := by
 refine fun_s rfl cd58 rfl rfl rfl (by simp;rfl) (by simp;rfl) ?_
 unfold w_Et at h
 refine wa_ (wc_region (w_ (bx (h:=w_ (al (h:=wo_nil (e_ (h:=aft_normal (wa_ (wc_region (w_ (al (h:=wo_nil (e_ (h:=aft_normal (wa_ (?_)))))))))))))))))
 refine wc_region (w_ (f_ (h:=w_ (l_ (h:=w_ (ca (hc:=e_toI x.row _ (by omega)) (h:=w_ (f_ (h:=w0 (s_ (h:=wo_nil (e_ (h:=aft_normal (wa_ (wc_region (w_ (f_ (h:=w_ (l_ (h:=?_))))))))))))))))))))
 refine w_ (f_ (h:=w0 (s_ (h:=wo_nil (e_ (h:=aft_normal (wa_ (wc_region (w_ (l_ (h:=w0 (s_ (h:=wo_nil (e_ (h:=aft_normal (wc_ret (?_)))))))))))))))))
 all_goals (refine fin_ (hr:=(res_cell (tys_ok.zero _ _ rfl) rfl (by simp;rfl) (by rfl) res_nil)) (h:=?_);(focus (simp [Et.v])))
theorem l_to_Ets (l : List Et) (h : w_Ets l < 2000000) : ∀ x : Nat × (List Et),(x.1 ≤ l.length ∧ x.2.length = l.length ∧ x.2.take x.1 = l.take x.1) → ∀ s,normE 1 (some [0,3,4]) s = ⟨[(0,.lst false 0 (ets false l)),(3,.ref 1 0 l.length),(4,.int .i64 x.1)],[(1,⟨false,false,2,ets true x.2,0⟩)],2⟩ →
 oc.loop 22 3 s = some (.exit 0,⟨[(3,.ref 1 0 l.length)],[(1,⟨false,false,2,ets true l,0⟩)],2⟩) := by
 refine loop_ind (σ:=Nat × (List Et)) (fun x => l.length - x.1) _ (fun x => ⟨[(0,.lst false 0 (ets false l)),(3,.ref 1 0 l.length),(4,.int .i64 x.1)],[(1,⟨false,false,2,ets true x.2,0⟩)],2⟩) _ ?_
 rintro ⟨i,r⟩ hi ih s hs
 simp only at hi
 refine loop_s cd22 rfl rfl hs ?_
 obtain ⟨hi1,hi2,hi3⟩ := hi
 have hlen := w_Ets_len (l:=l)
 refine wa_ (wa_ (wc_region (w_ (m_ (h:=w_ (m_ (h:=w_ (le (h:=w_ (b_ (h:=wo_nil (e_ (h:=aft_normal (?_))))))))))))))
 refine c_ (h1:=?_) (h2:=?_)
 rotate_right 1
 focus
  intro c1
  simp at c1;have : i = l.length := (by omega);subst this;rw [← hi2] at hi3;simp at hi3;rw [hi2] at hi3;simp at hi3;subst hi3
  refine wc_exit (?_)
 rotate_right 1
 focus
  intro c1
  simp at c1;have hw := wrap_succ (i:=i) (by omega);obtain ⟨d,hx,d1,g1⟩ := ets_cut (t:=false) c1;have hd := w_Ets_mem (List.mem_of_getElem? hx);obtain ⟨y,hy,_,g2⟩ := ets_cut (t:=true) (l:=r) (i:=i) (by omega);simp at g2
  refine wc_skip (?_)
 all_goals first
 | refine aft_exit ?_
 | (
  refine aft_normal ?_
  refine wa_ (wc_block (wc_region (w_ (m_ (h:=w_ (m_ (h:=w_ (m_ (h:=w_ (m_ (h:=w_ (x_ (h:=w_ (l_ (h:=w_ (ca (hc:=to_Et d (by omega)) (h:=w_ (x_ (h:=w0 (s_ (h:=?_)))))))))))))))))))))
  refine wo_nil (e_ (h:=blk_normal (aft_normal (wc_region (w_ (m_ (h:=w_ (b_ (h:=w_ (a_ (h:=wo_nil (e_ (h:=?_)))))))))))))
  )
 all_goals first
 | (refine (ih ((i + 1,r.set i d)) (⟨by simp;omega,by simpa using hi2,set_take hi3 hi2 hx⟩) ?_ _ ?_).trans ?_;(focus (first | omega | (simp;done) | (simp;omega)));(focus (simp [normE,hw];done));(focus (rfl)))
 | (apply end_leaf (ex:=(Ext.exit 0)) 1 (some [3]);(focus (simp [normE];rfl));(focus (simp)))
theorem to_Ets (l : List Et) (h : w_Ets l < 2000000) : oc.call 22 [.lst false 0 (ets false l)] = some (.lst true 2 (ets true l),[]) := by
 refine fun_s rfl cd22 rfl rfl rfl (by simp;rfl) (by simp;rfl) ?_
 have hlen := w_Ets_len (l:=l)
 refine wa_ (wc_region (w_ (aN (h:=wo_nil (e_ (h:=aft_normal (wa_ (wc_region (w_ (m_ (h:=w_ (le (h:=w_ (mk (h:=w_ (a_ (h:=wo_nil (e_ (h:=?_)))))))))))))))))))
 refine aft_normal (wa_ (wa_ (wc_region (w_ (a_ (h:=wo_nil (e_ (h:=aft_normal (wc_block (?_))))))))))
 refine wc_loop (l_to_Ets l h (0,List.replicate l.length ⟨[],0⟩) (by simp) _ (by simp [normE,ets_zero])) ?_
 refine blk_exit (aft_normal (wa_ (wc_region (w_ (m_ (h:=w_ (a_ (h:=wo_nil (e_ (h:=aft_normal (wc_ret (?_))))))))))))
 all_goals (refine fin_ (hr:=(res_tmp rfl res_nil)) (h:=?_);(focus (first | (simp_all;done) | (simp_all <;> omega) | (simp_all <;> split <;> simp_all <;> omega))))
theorem eq_Et (x y : Et) (h : w_Et x < 2000000) (h2 : w_Et y < 2000000) : oc.call 66 [x.v false,y.v false] = some (.bool (decide (x = y)),[]) := by
 refine fun_s rfl cd66 rfl rfl rfl (by simp;rfl) (by simp;rfl) ?_
 unfold w_Et at h h2
 refine wa_ (wc_region (w_ (bx (h:=w_ (bx (h:=w_ (a_ (h:=wo_nil (e_ (h:=aft_normal (wa_ (wa_ (wc_region (w_ (f_ (h:=w_ (l_ (h:=?_))))))))))))))))))
 refine w_ (f_ (h:=w_ (l_ (h:=w_ (ca (hc:=e_eqI x.row y.row 0 0 (by omega) (by omega)) (h:=w_ (u_ (h:=wo_nil (e_ (h:=aft_normal (?_)))))))))))
 refine c_ (h1:=?_) (h2:=?_)
 rotate_right 1
 focus
  intro c1
  refine wc_skip (?_)
 rotate_right 1
 focus
  intro c1
  refine wa_ (wc_region (w_ (a_ (h:=wo_nil (e_ (h:=aft_normal (wc_ret (?_))))))))
 all_goals first
 | refine aft_ret ?_
 | (
  refine aft_normal ?_
  refine wa_ (wa_ (wc_region (w_ (f_ (h:=w_ (l_ (h:=w_ (f_ (h:=w_ (l_ (h:=w_ (bE (h:=wo_nil (e_ (h:=aft_normal (?_))))))))))))))))
  refine c_ (h1:=?_) (h2:=?_)
  rotate_right 1
  focus
   intro c2
   refine wc_skip (?_)
  rotate_right 1
  focus
   intro c2
   refine wa_ (wc_region (w_ (a_ (h:=wo_nil (e_ (h:=aft_normal (wc_ret (?_))))))))
  all_goals first
  | refine aft_ret ?_
  | (
   refine aft_normal ?_
   refine wa_ (wc_region (w_ (a_ (h:=wo_nil (e_ (h:=aft_normal (wc_ret (?_))))))))
   )
  )
 all_goals (refine fin_ (hr:=(res_tmp rfl res_nil)) (h:=?_);(focus (first | (simp_all [Et.eq_iff];done) | (simp [Et.eq_iff] at *;grind))))
theorem l_eq_Ets (l m : List Et) (h : w_Ets l < 2000000) (h2 : w_Ets m < 2000000) (hlm : l.length = m.length) : ∀ i : Nat,(i ≤ l.length) → ∀ s,normE 2 (some [0,1,5]) s = ⟨[(0,.lst false 0 (ets false l)),(1,.lst false 0 (ets false m)),(5,.int .i64 i)],[],2⟩ →
 oc.loop 26 4 s = some (if l.drop i = m.drop i then (.exit 0,⟨[],[],2⟩) else (.ret,⟨[(4,.bool false)],[],2⟩)) := by
 refine loop_ind (σ:=Nat) (fun i => l.length - i) _ (fun i => ⟨[(0,.lst false 0 (ets false l)),(1,.lst false 0 (ets false m)),(5,.int .i64 i)],[],2⟩) _ ?_
 intro i hi ih s hs
 refine loop_s cd26 rfl rfl hs ?_
 have hl1 := w_Ets_len (l:=l)
 refine wa_ (wa_ (wc_region (w_ (m_ (h:=w_ (m_ (h:=w_ (le (h:=w_ (b_ (h:=wo_nil (e_ (h:=aft_normal (?_))))))))))))))
 refine c_ (h1:=?_) (h2:=?_)
 rotate_right 1
 focus
  intro c1
  simp at c1;have : i = l.length := (by omega);subst this
  refine wc_exit (?_)
 rotate_right 1
 focus
  intro c1
  simp at c1;have hw := wrap_succ (i:=i) (by omega);obtain ⟨x,hx,d1,g1⟩ := ets_cut (t:=false) c1;obtain ⟨y,hy,d2,g2⟩ := ets_cut (t:=false) (l:=m) (i:=i) (by omega);have m1 := w_Ets_mem (List.mem_of_getElem? hx);have m2 := w_Ets_mem (List.mem_of_getElem? hy)
  refine wc_skip (?_)
 all_goals first
 | refine aft_exit ?_
 | (
  refine aft_normal ?_
  refine wa_ (wc_block (wa_ (wc_draw (y_ (m_ (h:=ax_ (h:=y_ (m_ (h:=ax_ (h:=y_ (x_ (h:=ax_ (h:=y_ (l_ (h:=ax_ (h:=y_ (m_ (h:=ax_ (h:=y_ (m_ (h:=ax_ (h:=y_ (x_ (h:=ax_ (h:=y_ (l_ (h:=ax_ (h:=?_))))))))))))))))))))))))))))
  refine y_ (ca (hc:=eq_Et x y (by omega) (by omega)) (h:=ax_ (h:=y_ (u_ (h:=ax_ (h:=wo_nil (ed (h:=aft_normal (?_)))))))))
  refine c_ (h1:=?_) (h2:=?_)
  rotate_right 1
  focus
   intro c2
   refine wc_skip (?_)
  rotate_right 1
  focus
   intro c2
   refine wa_ (wc_region (w_ (a_ (h:=wo_nil (e_ (h:=aft_normal (wc_ret (?_))))))))
  all_goals first | refine blk_normal ?_ | refine blk_ret ?_
  all_goals first
  | refine aft_ret ?_
  | (
   refine aft_normal ?_
   refine wc_region (w_ (m_ (h:=w_ (b_ (h:=w_ (a_ (h:=wo_nil (e_ (h:=?_)))))))))
   )
  )
 all_goals first
 | (refine (ih (i + 1) (by omega) ?_ _ ?_).trans ?_;(focus (first | omega | (simp;done) | (simp;omega)));(focus (simp [normE,hw];done));(focus (simp at c2;rw [d1,d2];simp [c2])))
 | (apply end_leaf (ex:=Ext.ret) 2 (some [4]);(focus (simp [normE];rfl));(focus (simp at c2;rw [d1,d2];simp [c2])))
 | (apply end_leaf (ex:=(Ext.exit 0)) 2 (some [4]);(focus (simp [normE];rfl));(focus (rw [if_pos (by simp [hlm])])))
theorem eq_Ets (l m : List Et) (h : w_Ets l < 2000000) (h2 : w_Ets m < 2000000) : oc.call 26 [.lst false 0 (ets false l),.lst false 0 (ets false m)] = some (.bool (decide (l = m)),[]) := by
 refine fun_s rfl cd26 rfl rfl rfl (by simp;rfl) (by simp;rfl) ?_
 refine wa_ (wc_region (w_ (a_ (h:=wo_nil (e_ (h:=aft_normal (wa_ (wa_ (wc_region (w_ (m_ (h:=w_ (le (h:=w_ (m_ (h:=w_ (le (h:=?_))))))))))))))))))
 refine w_ (bE (h:=wo_nil (e_ (h:=aft_normal (?_)))))
 refine c_ (h1:=?_) (h2:=?_)
 rotate_right 1
 focus
  intro c1
  simp at c1
  refine wc_skip (?_)
 rotate_right 1
 focus
  intro c1
  simp at c1;have hne : l ≠ m := (by rintro rfl;exact c1 rfl)
  refine wa_ (wc_region (w_ (a_ (h:=wo_nil (e_ (h:=aft_normal (wc_ret (?_))))))))
 all_goals first
 | refine aft_ret ?_
 | (
  refine aft_normal ?_
  refine wa_ (wa_ (wc_region (w_ (a_ (h:=wo_nil (e_ (h:=aft_normal (wc_block (?_)))))))))
  refine wc_loopI (l_eq_Ets l m h h2 (by omega) 0 (by omega) _ (by simp [normE])) ?_ ?_
  rotate_right 1
  focus
   intro c2
   skip
  rotate_right 1
  focus
   intro c2
   skip
  all_goals first | refine blk_ret ?_ | refine blk_exit ?_
  all_goals first
  | refine aft_ret ?_
  | (
   refine aft_normal ?_
   refine wa_ (wc_region (w_ (a_ (h:=wo_nil (e_ (h:=aft_normal (wc_ret (?_))))))))
   )
  )
 all_goals (refine fin_ (hr:=(res_tmp rfl res_nil)) (h:=?_);(focus (first | (simp_all;done) | (simp_all <;> omega) | (simp_all <;> split <;> simp_all <;> omega))))
def w_Fr (x : Fr) : Nat := w_Ets x.set + x.news.length
def w_Frs (l : List Fr) : Nat := l.length + wS w_Fr l
theorem w_Frs_mem {l : List Fr} {x : Fr} (h : x ∈ l) : l.length + w_Fr x ≤ w_Frs l := by
  have := wS_mem (f:=w_Fr) h;unfold w_Frs;omega
theorem w_Frs_len {l : List Fr} : l.length ≤ w_Frs l := by unfold w_Frs;omega
theorem eq_Fr (x y : Fr) (h : w_Fr x < 2000000) (h2 : w_Fr y < 2000000) : oc.call 111 [x.v false,y.v false] = some (.bool (decide (x = y)),[]) := by
 refine fun_s rfl cd111 rfl rfl rfl (by simp;rfl) (by simp;rfl) ?_
 unfold w_Fr at h h2
 refine wa_ (wc_region (w_ (bx (h:=w_ (bx (h:=w_ (a_ (h:=wo_nil (e_ (h:=aft_normal (wa_ (wa_ (wc_region (w_ (f_ (h:=w_ (l_ (h:=?_))))))))))))))))))
 refine w_ (f_ (h:=w_ (l_ (h:=w_ (bE (h:=wo_nil (e_ (h:=aft_normal (?_)))))))))
 refine c_ (h1:=?_) (h2:=?_)
 rotate_right 1
 focus
  intro c1
  refine wc_skip (?_)
 rotate_right 1
 focus
  intro c1
  refine wa_ (wc_region (w_ (a_ (h:=wo_nil (e_ (h:=aft_normal (wc_ret (?_))))))))
 all_goals first
 | refine aft_ret ?_
 | (
  refine aft_normal ?_
  refine wa_ (wa_ (wc_region (w_ (f_ (h:=w_ (l_ (h:=w_ (f_ (h:=w_ (l_ (h:=w_ (bE (h:=wo_nil (e_ (h:=aft_normal (?_))))))))))))))))
  refine c_ (h1:=?_) (h2:=?_)
  rotate_right 1
  focus
   intro c2
   refine wc_skip (?_)
  rotate_right 1
  focus
   intro c2
   refine wa_ (wc_region (w_ (a_ (h:=wo_nil (e_ (h:=aft_normal (wc_ret (?_))))))))
  all_goals first
  | refine aft_ret ?_
  | (
   refine aft_normal ?_
   refine wa_ (wa_ (wc_region (w_ (f_ (h:=w_ (l_ (h:=w_ (f_ (h:=w_ (l_ (h:=w_ (bE (h:=wo_nil (e_ (h:=aft_normal (?_))))))))))))))))
   refine c_ (h1:=?_) (h2:=?_)
   rotate_right 1
   focus
    intro c3
    refine wc_skip (?_)
   rotate_right 1
   focus
    intro c3
    refine wa_ (wc_region (w_ (a_ (h:=wo_nil (e_ (h:=aft_normal (wc_ret (?_))))))))
   all_goals first
   | refine aft_ret ?_
   | (
    refine aft_normal ?_
    refine wa_ (wa_ (wc_region (w_ (f_ (h:=w_ (l_ (h:=w_ (f_ (h:=w_ (l_ (h:=w_ (bE (h:=wo_nil (e_ (h:=aft_normal (?_))))))))))))))))
    refine c_ (h1:=?_) (h2:=?_)
    rotate_right 1
    focus
     intro c4
     refine wc_skip (?_)
    rotate_right 1
    focus
     intro c4
     refine wa_ (wc_region (w_ (a_ (h:=wo_nil (e_ (h:=aft_normal (wc_ret (?_))))))))
    all_goals first
    | refine aft_ret ?_
    | (
     refine aft_normal ?_
     refine wa_ (wa_ (wc_region (w_ (f_ (h:=w_ (l_ (h:=w_ (f_ (h:=w_ (l_ (h:=w_ (ca (hc:=eq_Ets x.set y.set (by omega) (by omega)) (h:=w_ (u_ (h:=wo_nil (e_ (h:=aft_normal (?_))))))))))))))))))
     refine c_ (h1:=?_) (h2:=?_)
     rotate_right 1
     focus
      intro c5
      refine wc_skip (?_)
     rotate_right 1
     focus
      intro c5
      refine wa_ (wc_region (w_ (a_ (h:=wo_nil (e_ (h:=aft_normal (wc_ret (?_))))))))
     all_goals first
     | refine aft_ret ?_
     | (
      refine aft_normal ?_
      refine wa_ (wa_ (wc_region (w_ (f_ (h:=w_ (l_ (h:=w_ (f_ (h:=w_ (l_ (h:=w_ (ca (hc:=eq_Cts x.news y.news (by omega) (by omega)) (h:=w_ (u_ (h:=wo_nil (e_ (h:=aft_normal (?_))))))))))))))))))
      refine c_ (h1:=?_) (h2:=?_)
      rotate_right 1
      focus
       intro c6
       refine wc_skip (?_)
      rotate_right 1
      focus
       intro c6
       refine wa_ (wc_region (w_ (a_ (h:=wo_nil (e_ (h:=aft_normal (wc_ret (?_))))))))
      all_goals first
      | refine aft_ret ?_
      | (
       refine aft_normal ?_
       refine wa_ (wc_region (w_ (a_ (h:=wo_nil (e_ (h:=aft_normal (wc_ret (?_))))))))
       )
      )
     )
    )
   )
  )
 all_goals (refine fin_ (hr:=(res_tmp rfl res_nil)) (h:=?_);(focus (first | (simp_all [Fr.eq_iff];done) | (simp [Fr.eq_iff] at *;grind))))
theorem l_eq_Frs (l m : List Fr) (h : w_Frs l < 2000000) (h2 : w_Frs m < 2000000) (hlm : l.length = m.length) : ∀ i : Nat,(i ≤ l.length) → ∀ s,normE 2 (some [0,1,5]) s = ⟨[(0,.lst false 0 (frs false l)),(1,.lst false 0 (frs false m)),(5,.int .i64 i)],[],2⟩ →
 oc.loop 63 4 s = some (if l.drop i = m.drop i then (.exit 0,⟨[],[],2⟩) else (.ret,⟨[(4,.bool false)],[],2⟩)) := by
 refine loop_ind (σ:=Nat) (fun i => l.length - i) _ (fun i => ⟨[(0,.lst false 0 (frs false l)),(1,.lst false 0 (frs false m)),(5,.int .i64 i)],[],2⟩) _ ?_
 intro i hi ih s hs
 refine loop_s cd63 rfl rfl hs ?_
 have hl1 := w_Frs_len (l:=l)
 refine wa_ (wa_ (wc_region (w_ (m_ (h:=w_ (m_ (h:=w_ (le (h:=w_ (b_ (h:=wo_nil (e_ (h:=aft_normal (?_))))))))))))))
 refine c_ (h1:=?_) (h2:=?_)
 rotate_right 1
 focus
  intro c1
  simp at c1;have : i = l.length := (by omega);subst this
  refine wc_exit (?_)
 rotate_right 1
 focus
  intro c1
  simp at c1;have hw := wrap_succ (i:=i) (by omega);obtain ⟨x,hx,d1,g1⟩ := frs_cut (t:=false) c1;obtain ⟨y,hy,d2,g2⟩ := frs_cut (t:=false) (l:=m) (i:=i) (by omega);have m1 := w_Frs_mem (List.mem_of_getElem? hx);have m2 := w_Frs_mem (List.mem_of_getElem? hy)
  refine wc_skip (?_)
 all_goals first
 | refine aft_exit ?_
 | (
  refine aft_normal ?_
  refine wa_ (wc_block (wa_ (wc_draw (y_ (m_ (h:=ax_ (h:=y_ (m_ (h:=ax_ (h:=y_ (x_ (h:=ax_ (h:=y_ (l_ (h:=ax_ (h:=y_ (m_ (h:=ax_ (h:=y_ (m_ (h:=ax_ (h:=y_ (x_ (h:=ax_ (h:=y_ (l_ (h:=ax_ (h:=?_))))))))))))))))))))))))))))
  refine y_ (ca (hc:=eq_Fr x y (by omega) (by omega)) (h:=ax_ (h:=y_ (u_ (h:=ax_ (h:=wo_nil (ed (h:=aft_normal (?_)))))))))
  refine c_ (h1:=?_) (h2:=?_)
  rotate_right 1
  focus
   intro c2
   refine wc_skip (?_)
  rotate_right 1
  focus
   intro c2
   refine wa_ (wc_region (w_ (a_ (h:=wo_nil (e_ (h:=aft_normal (wc_ret (?_))))))))
  all_goals first | refine blk_normal ?_ | refine blk_ret ?_
  all_goals first
  | refine aft_ret ?_
  | (
   refine aft_normal ?_
   refine wc_region (w_ (m_ (h:=w_ (b_ (h:=w_ (a_ (h:=wo_nil (e_ (h:=?_)))))))))
   )
  )
 all_goals first
 | (refine (ih (i + 1) (by omega) ?_ _ ?_).trans ?_;(focus (first | omega | (simp;done) | (simp;omega)));(focus (simp [normE,hw];done));(focus (simp at c2;rw [d1,d2];simp [c2])))
 | (apply end_leaf (ex:=Ext.ret) 2 (some [4]);(focus (simp [normE];rfl));(focus (simp at c2;rw [d1,d2];simp [c2])))
 | (apply end_leaf (ex:=(Ext.exit 0)) 2 (some [4]);(focus (simp [normE];rfl));(focus (rw [if_pos (by simp [hlm])])))
theorem eq_Frs (l m : List Fr) (h : w_Frs l < 2000000) (h2 : w_Frs m < 2000000) : oc.call 63 [.lst false 0 (frs false l),.lst false 0 (frs false m)] = some (.bool (decide (l = m)),[]) := by
 refine fun_s rfl cd63 rfl rfl rfl (by simp;rfl) (by simp;rfl) ?_
 refine wa_ (wc_region (w_ (a_ (h:=wo_nil (e_ (h:=aft_normal (wa_ (wa_ (wc_region (w_ (m_ (h:=w_ (le (h:=w_ (m_ (h:=w_ (le (h:=?_))))))))))))))))))
 refine w_ (bE (h:=wo_nil (e_ (h:=aft_normal (?_)))))
 refine c_ (h1:=?_) (h2:=?_)
 rotate_right 1
 focus
  intro c1
  simp at c1
  refine wc_skip (?_)
 rotate_right 1
 focus
  intro c1
  simp at c1;have hne : l ≠ m := (by rintro rfl;exact c1 rfl)
  refine wa_ (wc_region (w_ (a_ (h:=wo_nil (e_ (h:=aft_normal (wc_ret (?_))))))))
 all_goals first
 | refine aft_ret ?_
 | (
  refine aft_normal ?_
  refine wa_ (wa_ (wc_region (w_ (a_ (h:=wo_nil (e_ (h:=aft_normal (wc_block (?_)))))))))
  refine wc_loopI (l_eq_Frs l m h h2 (by omega) 0 (by omega) _ (by simp [normE])) ?_ ?_
  rotate_right 1
  focus
   intro c2
   skip
  rotate_right 1
  focus
   intro c2
   skip
  all_goals first | refine blk_ret ?_ | refine blk_exit ?_
  all_goals first
  | refine aft_ret ?_
  | (
   refine aft_normal ?_
   refine wa_ (wc_region (w_ (a_ (h:=wo_nil (e_ (h:=aft_normal (wc_ret (?_))))))))
   )
  )
 all_goals (refine fin_ (hr:=(res_tmp rfl res_nil)) (h:=?_);(focus (first | (simp_all;done) | (simp_all <;> omega) | (simp_all <;> split <;> simp_all <;> omega))))
end Go.Proofs.Ytbcgenkegnmkhaa.Ev
namespace Go.Proofs.Ytbcgenkegnmkhaa.Ev
open Go
set_option maxRecDepth 100000
set_option linter.unusedSimpArgs false
set_option linter.unusedVariables false
set_option maxHeartbeats 2000000
theorem oc_ok : CallOK Try.prog oc.call := by
  unfold oc
  exact or_sound (by kernel_rfl) tb
def i64ok (m : Int) : Prop := -9223372036854775808 ≤ m ∧ m ≤ 9223372036854775807
theorem dInt {n : Nat} {v : V} (h : hasT Try.prog (n + 1) 2 v) : ∃ m,v = .int .i64 m ∧ i64ok m := by
  obtain ⟨m,e,h1,h2⟩ := dec_int Try.underlying2 h
  exact ⟨m,e,by simpa [i64ok,IntKind.min,IntKind.max,IntKind.signed,IntKind.bits] using ⟨h1,h2⟩⟩
theorem dInts {n : Nat} {v : V} (h : hasT Try.prog (n + 2) 48 v) : ∃ l,v = .lst false 0 (ints l) ∧ l.length ≤ 140737488351232 ∧ ∀ m ∈ l,i64ok m := by
  obtain ⟨xs,e,h1,h2⟩ := dec_slice Try.underlying48 h
  obtain ⟨l,e2,h3⟩ := dec_list (f:=fun m => V.int .i64 m) (p:=i64ok) (fun x hx => dInt (h2 x hx))
  exact ⟨l,by rw [e,e2];rfl,by rw [e2] at h1;simpa using h1,h3⟩
theorem dNode {n : Nat} {v : V} (h : hasT Try.prog (n + 3) 82 v) : ∃ d : Nd,v = d.v false 0 ∧ d.cells.length ≤ 140737488351232 := by
  obtain ⟨xs,e,x1,q1,rfl,t1,x2,q2,rfl,t2,x3,q3,rfl,t3,x4,q4,rfl,t4,x5,q5,rfl,t5,x6,q6,rfl,t6,x7,q7,rfl,t7,hq⟩ := dec_struct Try.underlying82 h
  obtain ⟨a1,rfl,_⟩ := dInt t1;obtain ⟨a2,rfl,_⟩ := dInt t2;obtain ⟨a3,rfl,_⟩ := dInt t3;obtain ⟨a4,rfl,_⟩ := dInt t4;obtain ⟨a5,rfl,_⟩ := dInt t5;obtain ⟨a6,rfl,_⟩ := dInt t6
  obtain ⟨l,rfl,hl,_⟩ := dInts t7
  simp only [List.map_nil,hasL] at hq
  subst hq
  exact ⟨⟨a1,a2,a3,a4,a5,a6,l⟩,e,hl⟩
theorem dNodes {n : Nat} {v : V} (h : hasT Try.prog (n + 4) 43 v) : ∃ l,v = .lst false 0 (nds false 0 l) ∧ okB l := by
  obtain ⟨xs,e,h1,h2⟩ := dec_slice Try.underlying43 h
  obtain ⟨l,e2,h3⟩ := dec_list (f:=Nd.v false 0) (p:=fun d => d.cells.length ≤ 140737488351232) (fun x hx => dNode (h2 x hx))
  exact ⟨l,by rw [e,e2];rfl,by rw [e2] at h1;simpa using h1,h3⟩
theorem dEt {n : Nat} {v : V} (h : hasT Try.prog (n + 3) 85 v) : ∃ d : Et,v = d.v false ∧ bg_Et d := by
  obtain ⟨xs,e,x0,q0,rfl,t0,x1,q1,rfl,t1,hq⟩ := dec_struct Try.underlying85 h
  obtain ⟨a0,rfl,b0,_⟩ := dInts t0
  obtain ⟨a1,rfl,_⟩ := dInt t1
  simp only [List.map_nil,hasL] at hq
  subst hq
  exact ⟨⟨a0,a1⟩,e,b0⟩
theorem dEts {n : Nat} {v : V} (h : hasT Try.prog (n + 4) 44 v) : ∃ l,v = .lst false 0 (ets false l) ∧ bg_Ets l := by
  obtain ⟨xs,e,h1,h2⟩ := dec_slice Try.underlying44 h
  obtain ⟨l,e2,h3⟩ := dec_list (f:=Et.v false) (p:=bg_Et) (fun x hx => dEt (h2 x hx))
  exact ⟨l,by rw [e,e2];rfl,by rw [e2] at h1;simpa using h1,h3⟩
theorem l_eqG (a b : List Int) (z z' : Nat) (ha : a.length < 4000000000) (hab : a.length = b.length) : ∀ i : Nat,i ≤ a.length → ∀ s,normE 2 (some [0,1,12,13]) s = ⟨[(0,.lst false z (ints a)),(1,.lst false z' (ints b)),(12,.int .i64 a.length),(13,.int .i64 i)],[],2⟩ →
 oc.loop 118 4 s = some (if a.drop i = b.drop i then (.exit 0,⟨[],[],2⟩) else (.ret,⟨[(4,.bool false)],[],2⟩)) := by
 refine loop_ind (fun i => a.length - i) _ (fun i => ⟨[(0,.lst false z (ints a)),(1,.lst false z' (ints b)),(12,.int .i64 a.length),(13,.int .i64 i)],[],2⟩) _ ?_
 intro i hi ih s hs
 refine loop_s cd118 rfl rfl hs ?_
 refine wa_ (wc_region (w_ (b_ (h:=wo_nil (e_ (h:=aft_normal (wa_ (?_))))))))
 refine c_ (h1:=?_) (h2:=?_)
 rotate_right 1
 focus
  intro c1
  simp at c1;have : i = a.length := (by omega);subst this
  refine wc_exit (?_)
 rotate_right 1
 focus
  intro c1
  simp at c1;have hw := wrap_succ (i:=i) (by omega);obtain ⟨x,_,d1,g1⟩ := ints_cut c1;obtain ⟨y,_,d2,g2⟩ := ints_cut (l:=b) (i:=i) (by omega)
  refine wc_skip (?_)
 all_goals first
 | refine aft_exit ?_
 | (
  refine aft_normal ?_
  refine wa_ (wc_block (wa_ (wc_region (w_ (m_ (h:=w_ (a_ (h:=wo_nil (e_ (h:=aft_normal (wa_ (wc_draw (y_ (m_ (h:=ax_ (h:=y_ (m_ (h:=ax_ (h:=?_)))))))))))))))))))
  refine y_ (x_ (h:=ax_ (h:=y_ (l_ (h:=ax_ (h:=y_ (m_ (h:=ax_ (h:=y_ (m_ (h:=ax_ (h:=y_ (x_ (h:=ax_ (h:=y_ (l_ (h:=ax_ (h:=y_ (bE (h:=ax_ (h:=wo_nil (ed (h:=aft_normal (?_))))))))))))))))))))))))
  refine c_ (h1:=?_) (h2:=?_)
  rotate_right 1
  focus
   intro c2
   refine wc_skip (?_)
  rotate_right 1
  focus
   intro c2
   refine wa_ (wc_region (w_ (a_ (h:=wo_nil (e_ (h:=aft_normal (wc_ret (?_))))))))
  all_goals first | refine blk_normal ?_ | refine blk_ret ?_
  all_goals first
  | refine aft_ret ?_
  | (
   refine aft_normal ?_
   refine wc_region (w_ (b_ (h:=w_ (m_ (h:=wo_nil (e_ (h:=?_)))))))
   )
  )
 all_goals first
 | (refine (ih (i + 1) (by omega) ?_ _ ?_).trans ?_;(focus (first | omega | (simp;done) | (simp;omega)));(focus (simp [normE,hw];done));(focus (simp at c2;rw [d1,d2];simp [c2])))
 | (apply end_leaf (ex:=Ext.ret) 2 (some [4]);(focus (simp [normE];rfl));(focus (simp at c2;rw [d1,d2];simp [c2])))
 | (apply end_leaf (ex:=(Ext.exit 0)) 2 (some [4]);(focus (simp [normE];rfl));(focus (rw [if_pos (by simp [hab])])))
theorem e_eqG (a b : List Int) (z z' : Nat) (ha : a.length < 4000000000) (hb : b.length < 4000000000) : oc.call 118 [.lst false z (ints a),.lst false z' (ints b)] = some (.bool (decide (a = b)),[]) := by
 refine fun_s rfl cd118 rfl rfl rfl (by simp;rfl) (by simp;rfl) ?_
 refine wa_ (wc_region (w_ (a_ (h:=wo_nil (e_ (h:=aft_normal (wa_ (wa_ (wc_region (w_ (m_ (h:=w_ (le (h:=w_ (m_ (h:=w_ (le (h:=?_))))))))))))))))))
 refine w_ (bE (h:=wo_nil (e_ (h:=aft_normal (?_)))))
 refine c_ (h1:=?_) (h2:=?_)
 rotate_right 1
 focus
  intro c1
  simp at c1
  refine wc_skip (?_)
 rotate_right 1
 focus
  intro c1
  simp at c1;have hne : a ≠ b := (by rintro rfl;exact c1 rfl)
  refine wa_ (wc_region (w_ (a_ (h:=wo_nil (e_ (h:=aft_normal (wc_ret (?_))))))))
 all_goals first
 | refine aft_ret ?_
 | (
  refine aft_normal ?_
  refine wa_ (wa_ (wc_region (w_ (m_ (h:=w_ (le (h:=w_ (m_ (h:=wo_nil (e_ (h:=aft_normal (wc_block (?_)))))))))))))
  refine wc_loopI (l_eqG a b z z' ha (by omega) 0 (by omega) _ (by simp [normE])) ?_ ?_
  rotate_right 1
  focus
   intro c2
   skip
  rotate_right 1
  focus
   intro c2
   skip
  all_goals first | refine blk_ret ?_ | refine blk_exit ?_
  all_goals first
  | refine aft_ret ?_
  | (
   refine aft_normal ?_
   refine wa_ (wc_region (w_ (a_ (h:=wo_nil (e_ (h:=aft_normal (wc_ret (?_))))))))
   )
  )
 all_goals (refine fin_ (hr:=(res_tmp rfl res_nil)) (h:=?_);(focus (first | (simp_all;done) | (simp_all <;> omega) | (simp_all <;> split <;> simp_all <;> omega))))
theorem e_same (z z' : Nat) (d g : Nd) (ha : d.cells.length < 4000000) (hb : g.cells.length < 4000000) : oc.call 81 [d.v false z,g.v false z'] = some (.bool (decide (d = g)),[]) := by
 refine fun_s rfl cd81 rfl rfl rfl (by simp;rfl) (by simp;rfl) ?_
 refine wa_ (wc_region (w_ (bx (h:=w_ (bx (h:=w_ (a_ (h:=wo_nil (e_ (h:=aft_normal (wa_ (wc_region (w_ (f_ (h:=w_ (l_ (h:=w_ (f_ (h:=?_)))))))))))))))))))
 refine w_ (l_ (h:=w_ (bE (h:=w_ (m_ (h:=?_))))))
 refine gw_ (h1:=?_) (h2:=?_)
 rotate_right 1
 focus
  intro c1
  first
  | exact dn c1
  | (
   have d1 := c1;try simp at d1
   refine go_ (h:=go_ (h:=go_ (h:=go_ (h:=go_ (h:=?_)))))
   )
 rotate_right 1
 focus
  intro c1
  first
  | exact dn c1
  | (
   have d1 := c1;try simp at d1
   refine g_ (h:=w_ (f_ (h:=g_ (h:=w_ (l_ (h:=g_ (h:=w_ (f_ (h:=g_ (h:=w_ (l_ (h:=g_ (h:=w_ (bE (h:=?_)))))))))))))))
   )
 all_goals
  refine w_ (pk (h:=w_ (m_ (h:=?_))))
  refine gw_ (h1:=?_) (h2:=?_)
  rotate_right 1
  focus
   intro c2
   first
   | exact dn c2
   | (
    have d2 := c2;try simp at d2
    refine go_ (h:=go_ (h:=go_ (h:=go_ (h:=go_ (h:=?_)))))
    )
  rotate_right 1
  focus
   intro c2
   first
   | exact dn c2
   | (
    have d2 := c2;try simp at d2
    refine g_ (h:=w_ (f_ (h:=g_ (h:=w_ (l_ (h:=g_ (h:=w_ (f_ (h:=g_ (h:=w_ (l_ (h:=g_ (h:=w_ (bE (h:=?_)))))))))))))))
    )
  all_goals
   refine w_ (pk (h:=w_ (m_ (h:=?_))))
   refine gw_ (h1:=?_) (h2:=?_)
   rotate_right 1
   focus
    intro c3
    first
    | exact dn c3
    | (
     have d3 := c3;try simp at d3
     refine go_ (h:=go_ (h:=go_ (h:=go_ (h:=go_ (h:=?_)))))
     )
   rotate_right 1
   focus
    intro c3
    first
    | exact dn c3
    | (
     have d3 := c3;try simp at d3
     refine g_ (h:=w_ (f_ (h:=g_ (h:=w_ (l_ (h:=g_ (h:=w_ (f_ (h:=g_ (h:=w_ (l_ (h:=g_ (h:=w_ (bE (h:=?_)))))))))))))))
     )
   all_goals
    refine w_ (pk (h:=w_ (m_ (h:=?_))))
    refine gw_ (h1:=?_) (h2:=?_)
    rotate_right 1
    focus
     intro c4
     first
     | exact dn c4
     | (
      have d4 := c4;try simp at d4
      refine go_ (h:=go_ (h:=go_ (h:=go_ (h:=go_ (h:=?_)))))
      )
    rotate_right 1
    focus
     intro c4
     first
     | exact dn c4
     | (
      have d4 := c4;try simp at d4
      refine g_ (h:=w_ (f_ (h:=g_ (h:=w_ (l_ (h:=g_ (h:=w_ (f_ (h:=g_ (h:=w_ (l_ (h:=g_ (h:=w_ (bE (h:=?_)))))))))))))))
      )
    all_goals
     refine w_ (pk (h:=w_ (m_ (h:=?_))))
     refine gw_ (h1:=?_) (h2:=?_)
     rotate_right 1
     focus
      intro c5
      first
      | exact dn c5
      | (
       have d5 := c5;try simp at d5
       refine go_ (h:=go_ (h:=go_ (h:=go_ (h:=go_ (h:=?_)))))
       )
     rotate_right 1
     focus
      intro c5
      first
      | exact dn c5
      | (
       have d5 := c5;try simp at d5
       refine g_ (h:=w_ (f_ (h:=g_ (h:=w_ (l_ (h:=g_ (h:=w_ (f_ (h:=g_ (h:=w_ (l_ (h:=g_ (h:=w_ (bE (h:=?_)))))))))))))))
       )
     all_goals
      refine w_ (pk (h:=w_ (m_ (h:=?_))))
      refine gw_ (h1:=?_) (h2:=?_)
      rotate_right 1
      focus
       intro c6
       first
       | exact dn c6
       | (
        have d6 := c6;try simp at d6
        refine go_ (h:=go_ (h:=go_ (h:=go_ (h:=go_ (h:=?_)))))
        )
      rotate_right 1
      focus
       intro c6
       first
       | exact dn c6
       | (
        have d6 := c6;try simp at d6
        refine g_ (h:=w_ (f_ (h:=g_ (h:=w_ (l_ (h:=g_ (h:=w_ (f_ (h:=g_ (h:=w_ (l_ (h:=g_ (h:=w_ (ca (hc:=e_eqG _ _ _ _ (by omega) (by omega)) (h:=?_)))))))))))))))
        )
      all_goals
       refine w_ (pk (h:=w_ (a_ (h:=wo_nil (e_ (h:=?_))))))
 all_goals first
 | (
  refine aft_normal ?_
  refine wc_ret (?_)
  )
 all_goals (refine fin_ (hr:=(res_tmp rfl res_nil)) (h:=?_);(focus (simp [Nd.eq_iff];grind)))
def readsN (d : Nd) : List Int := if d.op = 1 then [] else if d.op = 4 ∨ d.op = 6 then [d.a,d.b] else [d.a]
theorem e_reads (z : Nat) (d : Nd) : oc.call 83 [d.v false z] = some (.lst true 1 (ints (readsN d)),[]) := by
 refine fun_s rfl cd83 rfl rfl rfl (by simp;rfl) (by simp;rfl) ?_
 refine wa_ (wc_region (w_ (bx (h:=w_ (aN (h:=wo_nil (e_ (h:=aft_normal (wa_ (wc_block (wa_ (wc_region (w_ (f_ (h:=w_ (l_ (h:=?_)))))))))))))))))
 refine w_ (bE (h:=w_ (a_ (h:=wo_nil (e_ (h:=aft_normal (?_)))))))
 refine c_ (h1:=?_) (h2:=?_)
 rotate_right 1
 focus
  intro c1
  first
  | exact dn c1
  | (
   have d1 := c1;try simp at d1
   refine wa_ (wc_region (w_ (f_ (h:=w_ (l_ (h:=w_ (ca (hc:=e_two _) (h:=w_ (a_ (h:=wo_nil (e_ (h:=aft_normal (?_)))))))))))))
   refine c_ (h1:=?_) (h2:=?_)
   rotate_right 1
   focus
    intro c2
    first
    | exact dn c2
    | (
     have d2 := c2;try simp at d2
     refine wc_skip (?_)
     )
   rotate_right 1
   focus
    intro c2
    first
    | exact dn c2
    | (
     have d2 := c2;try simp at d2
     refine wa_ (wc_region (w_ (f_ (h:=w_ (l_ (h:=w_ (f_ (h:=w_ (l_ (h:=w_ (bs (h:=w_ (a_ (h:=wo_nil (e_ (h:=aft_normal (wc_ret (?_))))))))))))))))))
     )
   )
 rotate_right 1
 focus
  intro c1
  first
  | exact dn c1
  | (
   have d1 := c1;try simp at d1
   refine wa_ (wc_region (w_ (aN (h:=wo_nil (e_ (h:=aft_normal (wc_ret (?_))))))))
   )
 all_goals first | refine blk_normal ?_ | refine blk_ret ?_
 all_goals first
 | refine aft_ret ?_
 | (
  refine aft_normal ?_
  refine wa_ (wc_region (w_ (f_ (h:=w_ (l_ (h:=w_ (bs (h:=w_ (a_ (h:=wo_nil (e_ (h:=aft_normal (wc_ret (?_))))))))))))))
  )
 all_goals (refine fin_ (hr:=(res_tmp rfl res_nil)) (h:=?_);(focus (simp_all [readsN])))
def plainN (d : Nd) : Nd := ⟨d.op,if d.op = 1 then 0 else d.a,if d.op = 4 ∨ d.op = 6 then d.b else 0,if d.op = 1 ∨ d.op = 2 ∨ 6 ≤ d.op ∧ d.op ≤ 10 then d.col else 0,if d.op = 2 then d.test else 0,if d.op = 2 then d.value else 0,if d.op = 3 then d.cells else []⟩
theorem e_plain3 (z : Nat) (d : Nd) (h : d.op = 3) : oc.call 82 [d.v false z] = some ((plainN d).v false z,[]) := by
 refine fun_s rfl cd82 rfl rfl rfl (by simp;rfl) (by simp;rfl) ?_
 refine wa_ (wc_region (w_ (bx (h:=w_ (al (h:=wo_nil (e_ (h:=aft_normal (wa_ (wc_region (w_ (f_ (h:=w_ (l_ (h:=w_ (bd (h:=w_ (al (h:=?_)))))))))))))))))))
 refine w0 (s_ (h:=wo_nil (e_ (h:=aft_normal (wa_ (wa_ (wc_region (w_ (f_ (h:=w_ (l_ (h:=w_ (bE (h:=wo_nil (e_ (h:=aft_normal (?_)))))))))))))))))
 refine c_ (h1:=?_) (h2:=?_)
 rotate_right 1
 focus
  intro c1
  first
  | exact dn c1
  | (
   have d1 := c1;try simp at d1
   refine wc_skip (?_)
   )
 rotate_right 1
 focus
  intro c1
  first
  | exact dn c1
  | (
   have d1 := c1;try simp at d1
   refine wc_region (w_ (f_ (h:=w_ (l_ (h:=w_ (f_ (h:=w0 (s_ (h:=wo_nil (e_ (h:=?_)))))))))))
   )
 all_goals first
 | (
  refine aft_normal ?_
  refine wa_ (wa_ (wc_region (w_ (f_ (h:=w_ (l_ (h:=w_ (ca (hc:=e_two _) (h:=wo_nil (e_ (h:=aft_normal (?_))))))))))))
  refine c_ (h1:=?_) (h2:=?_)
  rotate_right 1
  focus
   intro c2
   first
   | exact dn c2
   | (
    have d2 := c2;try simp at d2
    refine wc_skip (?_)
    )
  rotate_right 1
  focus
   intro c2
   first
   | exact dn c2
   | (
    have d2 := c2;try simp at d2
    refine wc_region (w_ (f_ (h:=w_ (l_ (h:=w_ (f_ (h:=w0 (s_ (h:=wo_nil (e_ (h:=?_)))))))))))
    )
  all_goals first
  | (
   refine aft_normal ?_
   refine wa_ (wa_ (wc_region (w_ (f_ (h:=w_ (l_ (h:=wo_nil (e_ (h:=aft_normal (wc_block (wa_ (wa_ (wc_region (w_ (bE (h:=?_))))))))))))))))
   refine w_ (a_ (h:=wo_nil (e_ (h:=aft_normal (?_)))))
   refine c_ (h1:=?_) (h2:=?_)
   rotate_right 1
   focus
    intro c3
    first
    | exact dn c3
    | (
     have d3 := c3;try simp at d3
     refine wa_ (wc_region (w_ (bE (h:=w_ (a_ (h:=wo_nil (e_ (h:=aft_normal (?_)))))))))
     refine c_ (h1:=?_) (h2:=?_)
     rotate_right 1
     focus
      intro c4
      first
      | exact dn c4
      | (
       have d4 := c4;try simp at d4
       refine wa_ (wc_region (w_ (bE (h:=w_ (a_ (h:=wo_nil (e_ (h:=aft_normal (?_)))))))))
       refine c_ (h1:=?_) (h2:=?_)
       rotate_right 1
       focus
        intro c5
        first
        | exact dn c5
        | (
         have d5 := c5;try simp at d5
         refine wa_ (wc_region (w_ (bE (h:=w_ (a_ (h:=wo_nil (e_ (h:=aft_normal (?_)))))))))
         refine c_ (h1:=?_) (h2:=?_)
         rotate_right 1
         focus
          intro c6
          first
          | exact dn c6
          | (
           have d6 := c6;try simp at d6
           refine wa_ (wc_region (w_ (bE (h:=w_ (a_ (h:=wo_nil (e_ (h:=aft_normal (?_)))))))))
           refine c_ (h1:=?_) (h2:=?_)
           rotate_right 1
           focus
            intro c7
            first
            | exact dn c7
            | (
             have d7 := c7;try simp at d7
             refine wc_region (w_ (bE (h:=w_ (a_ (h:=wo_nil (e_ (h:=?_)))))))
             )
           rotate_right 1
           focus
            intro c7
            first
            | exact dn c7
            | (
             have d7 := c7;try simp at d7
             refine wc_skip (?_)
             )
           )
         rotate_right 1
         focus
          intro c6
          first
          | exact dn c6
          | (
           have d6 := c6;try simp at d6
           refine wc_skip (?_)
           )
         )
       rotate_right 1
       focus
        intro c5
        first
        | exact dn c5
        | (
         have d5 := c5;try simp at d5
         refine wc_skip (?_)
         )
       )
     rotate_right 1
     focus
      intro c4
      first
      | exact dn c4
      | (
       have d4 := c4;try simp at d4
       refine wc_skip (?_)
       )
     )
   rotate_right 1
   focus
    intro c3
    first
    | exact dn c3
    | (
     have d3 := c3;try simp at d3
     refine wc_skip (?_)
     )
   all_goals first
   | (
    refine aft_normal ?_
    refine c_ (h1:=?_) (h2:=?_)
    rotate_right 1
    focus
     intro c8
     first
     | exact dn c8
     | (
      have d8 := c8;try simp at d8
      refine wa_ (wc_region (w_ (bE (h:=w_ (a_ (h:=wo_nil (e_ (h:=aft_normal (?_)))))))))
      refine c_ (h1:=?_) (h2:=?_)
      rotate_right 1
      focus
       intro c9
       first
       | exact dn c9
       | (
        have d9 := c9;try simp at d9
        refine wa_ (wc_region (w_ (bE (h:=w_ (a_ (h:=wo_nil (e_ (h:=aft_normal (?_)))))))))
        refine c_ (h1:=?_) (h2:=?_)
        rotate_right 1
        focus
         intro c10
         first
         | exact dn c10
         | (
          have d10 := c10;try simp at d10
          refine wc_skip (?_)
          )
        rotate_right 1
        focus
         intro c10
         first
         | exact dn c10
         | (
          have d10 := c10;try simp at d10
          refine wc_region (w_ (f_ (h:=w_ (l_ (h:=w_ (f_ (h:=w0 (s_ (h:=wo_nil (e_ (h:=?_)))))))))))
          )
        )
      rotate_right 1
      focus
       intro c9
       first
       | exact dn c9
       | (
        have d9 := c9;try simp at d9
        refine wc_draw (y_ (f_ (h:=ax_ (h:=y_ (l_ (h:=ax_ (h:=y_ (f_ (h:=ax_ (h:=y_ (l_ (h:=ax_ (h:=y_ (f_ (h:=ax_ (h:=y_ (l_ (h:=ax_ (h:=y_ (f_ (h:=ax_ (h:=y0 (s_ (h:=ax_ (h:=y_ (f_ (h:=ax_ (h:=y0 (s_ (h:=ax_ (h:=y_ (f_ (h:=ax_ (h:=?_))))))))))))))))))))))))))))))))))
        refine y0 (s_ (h:=ax_ (h:=wo_nil (ed (h:=?_)))))
        )
      )
    rotate_right 1
    focus
     intro c8
     first
     | exact dn c8
     | (
      have d8 := c8;try simp at d8
      refine wc_region (w_ (f_ (h:=w_ (l_ (h:=w_ (f_ (h:=w0 (s_ (h:=wo_nil (e_ (h:=?_)))))))))))
      )
    )
   all_goals refine blk_normal ?_
   all_goals first
   | (
    refine aft_normal ?_
    refine wa_ (wc_region (w_ (l_ (h:=w0 (s_ (h:=wo_nil (e_ (h:=aft_normal (wc_ret (?_))))))))))
    )
   )
  )
 all_goals (refine fin_ (hr:=(res_cell (tys_ok.zero _ _ rfl) rfl (by simp;rfl) (by rfl) res_nil)) (h:=?_);(focus (simp [Nd.v,plainN];grind)))
theorem e_plain (z : Nat) (d : Nd) (h : d.op ≠ 3) : oc.call 82 [d.v false z] = some ((plainN d).v true 1,[]) := by
 refine fun_s rfl cd82 rfl rfl rfl (by simp;rfl) (by simp;rfl) ?_
 refine wa_ (wc_region (w_ (bx (h:=w_ (al (h:=wo_nil (e_ (h:=aft_normal (wa_ (wc_region (w_ (f_ (h:=w_ (l_ (h:=w_ (bd (h:=w_ (al (h:=?_)))))))))))))))))))
 refine w0 (s_ (h:=wo_nil (e_ (h:=aft_normal (wa_ (wa_ (wc_region (w_ (f_ (h:=w_ (l_ (h:=w_ (bE (h:=wo_nil (e_ (h:=aft_normal (?_)))))))))))))))))
 refine c_ (h1:=?_) (h2:=?_)
 rotate_right 1
 focus
  intro c1
  first
  | exact dn c1
  | (
   have d1 := c1;try simp at d1
   refine wc_skip (?_)
   )
 rotate_right 1
 focus
  intro c1
  first
  | exact dn c1
  | (
   have d1 := c1;try simp at d1
   refine wc_region (w_ (f_ (h:=w_ (l_ (h:=w_ (f_ (h:=w0 (s_ (h:=wo_nil (e_ (h:=?_)))))))))))
   )
 all_goals first
 | (
  refine aft_normal ?_
  refine wa_ (wa_ (wc_region (w_ (f_ (h:=w_ (l_ (h:=w_ (ca (hc:=e_two _) (h:=wo_nil (e_ (h:=aft_normal (?_))))))))))))
  refine c_ (h1:=?_) (h2:=?_)
  rotate_right 1
  focus
   intro c2
   first
   | exact dn c2
   | (
    have d2 := c2;try simp at d2
    refine wc_skip (?_)
    )
  rotate_right 1
  focus
   intro c2
   first
   | exact dn c2
   | (
    have d2 := c2;try simp at d2
    refine wc_region (w_ (f_ (h:=w_ (l_ (h:=w_ (f_ (h:=w0 (s_ (h:=wo_nil (e_ (h:=?_)))))))))))
    )
  all_goals first
  | (
   refine aft_normal ?_
   refine wa_ (wa_ (wc_region (w_ (f_ (h:=w_ (l_ (h:=wo_nil (e_ (h:=aft_normal (wc_block (wa_ (wa_ (wc_region (w_ (bE (h:=?_))))))))))))))))
   refine w_ (a_ (h:=wo_nil (e_ (h:=aft_normal (?_)))))
   refine c_ (h1:=?_) (h2:=?_)
   rotate_right 1
   focus
    intro c3
    first
    | exact dn c3
    | (
     have d3 := c3;try simp at d3
     refine wa_ (wc_region (w_ (bE (h:=w_ (a_ (h:=wo_nil (e_ (h:=aft_normal (?_)))))))))
     refine c_ (h1:=?_) (h2:=?_)
     rotate_right 1
     focus
      intro c4
      first
      | exact dn c4
      | (
       have d4 := c4;try simp at d4
       refine wa_ (wc_region (w_ (bE (h:=w_ (a_ (h:=wo_nil (e_ (h:=aft_normal (?_)))))))))
       refine c_ (h1:=?_) (h2:=?_)
       rotate_right 1
       focus
        intro c5
        first
        | exact dn c5
        | (
         have d5 := c5;try simp at d5
         refine wa_ (wc_region (w_ (bE (h:=w_ (a_ (h:=wo_nil (e_ (h:=aft_normal (?_)))))))))
         refine c_ (h1:=?_) (h2:=?_)
         rotate_right 1
         focus
          intro c6
          first
          | exact dn c6
          | (
           have d6 := c6;try simp at d6
           refine wa_ (wc_region (w_ (bE (h:=w_ (a_ (h:=wo_nil (e_ (h:=aft_normal (?_)))))))))
           refine c_ (h1:=?_) (h2:=?_)
           rotate_right 1
           focus
            intro c7
            first
            | exact dn c7
            | (
             have d7 := c7;try simp at d7
             refine wc_region (w_ (bE (h:=w_ (a_ (h:=wo_nil (e_ (h:=?_)))))))
             )
           rotate_right 1
           focus
            intro c7
            first
            | exact dn c7
            | (
             have d7 := c7;try simp at d7
             refine wc_skip (?_)
             )
           )
         rotate_right 1
         focus
          intro c6
          first
          | exact dn c6
          | (
           have d6 := c6;try simp at d6
           refine wc_skip (?_)
           )
         )
       rotate_right 1
       focus
        intro c5
        first
        | exact dn c5
        | (
         have d5 := c5;try simp at d5
         refine wc_skip (?_)
         )
       )
     rotate_right 1
     focus
      intro c4
      first
      | exact dn c4
      | (
       have d4 := c4;try simp at d4
       refine wc_skip (?_)
       )
     )
   rotate_right 1
   focus
    intro c3
    first
    | exact dn c3
    | (
     have d3 := c3;try simp at d3
     refine wc_skip (?_)
     )
   all_goals first
   | (
    refine aft_normal ?_
    refine c_ (h1:=?_) (h2:=?_)
    rotate_right 1
    focus
     intro c8
     first
     | exact dn c8
     | (
      have d8 := c8;try simp at d8
      refine wa_ (wc_region (w_ (bE (h:=w_ (a_ (h:=wo_nil (e_ (h:=aft_normal (?_)))))))))
      refine c_ (h1:=?_) (h2:=?_)
      rotate_right 1
      focus
       intro c9
       first
       | exact dn c9
       | (
        have d9 := c9;try simp at d9
        refine wa_ (wc_region (w_ (bE (h:=w_ (a_ (h:=wo_nil (e_ (h:=aft_normal (?_)))))))))
        refine c_ (h1:=?_) (h2:=?_)
        rotate_right 1
        focus
         intro c10
         first
         | exact dn c10
         | (
          have d10 := c10;try simp at d10
          refine wc_skip (?_)
          )
        rotate_right 1
        focus
         intro c10
         first
         | exact dn c10
         | (
          have d10 := c10;try simp at d10
          refine wc_region (w_ (f_ (h:=w_ (l_ (h:=w_ (f_ (h:=w0 (s_ (h:=wo_nil (e_ (h:=?_)))))))))))
          )
        )
      rotate_right 1
      focus
       intro c9
       first
       | exact dn c9
       | (
        have d9 := c9;try simp at d9
        refine wc_draw (y_ (f_ (h:=ax_ (h:=y_ (l_ (h:=ax_ (h:=y_ (f_ (h:=ax_ (h:=y_ (l_ (h:=ax_ (h:=y_ (f_ (h:=ax_ (h:=y_ (l_ (h:=ax_ (h:=y_ (f_ (h:=ax_ (h:=y0 (s_ (h:=ax_ (h:=y_ (f_ (h:=ax_ (h:=y0 (s_ (h:=ax_ (h:=y_ (f_ (h:=ax_ (h:=?_))))))))))))))))))))))))))))))))))
        refine y0 (s_ (h:=ax_ (h:=wo_nil (ed (h:=?_)))))
        )
      )
    rotate_right 1
    focus
     intro c8
     first
     | exact dn c8
     | (
      have d8 := c8;try simp at d8
      refine wc_region (w_ (f_ (h:=w_ (l_ (h:=w_ (f_ (h:=w0 (s_ (h:=wo_nil (e_ (h:=?_)))))))))))
      )
    )
   all_goals refine blk_normal ?_
   all_goals first
   | (
    refine aft_normal ?_
    refine wa_ (wc_region (w_ (l_ (h:=w0 (s_ (h:=wo_nil (e_ (h:=aft_normal (wc_ret (?_))))))))))
    )
   )
  )
 all_goals (refine fin_ (hr:=(res_cell (tys_ok.zero _ _ rfl) rfl (by simp;rfl) (by rfl) res_nil)) (h:=?_);(focus (simp [Nd.v,plainN,h];grind)))
def at0 (w : List Int) (a : Int) : Int := w.getD a.toNat 0
theorem ints_ix {w : List Int} {a : Int} (h0 : 0 ≤ a) (h : a < w.length) : (ints w)[a.toNat]? = some (.int .i64 (at0 w a)) := by
  have : a.toNat < w.length := by omega
  simp [ints,at0,this]
def widthN (d : Nd) (w : List Int) : Int :=
  if d.op = 1 then d.col else if d.op = 3 then d.cells.length else if d.op = 6 then IntKind.i64.wrap (IntKind.i64.wrap (at0 w d.a + at0 w d.b) - d.col) else if inI d.op 7 10 then IntKind.i64.wrap (d.col + 1) else at0 w d.a
def fitN (d : Nd) (m : Nat) : Prop := (d.op ≠ 1 → 0 ≤ d.a ∧ d.a < m) ∧ (d.op = 4 ∨ d.op = 6 → 0 ≤ d.b ∧ d.b < m)
theorem e_width (z z' : Nat) (d : Nd) (w : List Int) (hd : d.cells.length < 4000000) (h : fitN d w.length) : oc.call 85 [d.v false z,.lst false z' (ints w)] = some (.int .i64 (widthN d w),[]) := by
 refine fun_s rfl cd85 rfl rfl rfl (by simp;rfl) (by simp;rfl) ?_
 obtain ⟨h1,h2⟩ := h
 refine wa_ (wc_region (w_ (bx (h:=w_ (a_ (h:=wo_nil (e_ (h:=aft_normal (wa_ (wc_block (wa_ (wc_region (w_ (f_ (h:=w_ (l_ (h:=?_)))))))))))))))))
 refine w_ (bE (h:=w_ (a_ (h:=wo_nil (e_ (h:=aft_normal (?_)))))))
 refine c_ (h1:=?_) (h2:=?_)
 rotate_right 1
 focus
  intro c1
  first
  | exact dn c1
  | (
   have d1 := c1;try simp at d1
   refine wa_ (wc_region (w_ (f_ (h:=w_ (l_ (h:=w_ (bE (h:=w_ (a_ (h:=wo_nil (e_ (h:=aft_normal (?_)))))))))))))
   refine c_ (h1:=?_) (h2:=?_)
   rotate_right 1
   focus
    intro c2
    first
    | exact dn c2
    | (
     have d2 := c2;try simp at d2
     refine wa_ (wc_region (w_ (f_ (h:=w_ (l_ (h:=w_ (bE (h:=w_ (a_ (h:=wo_nil (e_ (h:=aft_normal (?_)))))))))))))
     refine c_ (h1:=?_) (h2:=?_)
     rotate_right 1
     focus
      intro c3
      first
      | exact dn c3
      | (
       have d3 := c3;try simp at d3
       refine wa_ (wc_region (w_ (f_ (h:=w_ (l_ (h:=w_ (ca (hc:=e_grouped _) (h:=w_ (a_ (h:=wo_nil (e_ (h:=aft_normal (?_)))))))))))))
       refine c_ (h1:=?_) (h2:=?_)
       rotate_right 1
       focus
        intro c4
        first
        | exact dn c4
        | (
         have d4 := c4;try simp at d4
         have h3 := (h1 (by omega)).1;have h4 := (h1 (by omega)).2;have g1 := ints_ix h3 h4
         refine wc_skip (?_)
         )
       rotate_right 1
       focus
        intro c4
        first
        | exact dn c4
        | (
         have d4 := c4;try simp at d4
         refine wa_ (wc_region (w_ (f_ (h:=w_ (l_ (h:=w_ (b_ (h:=w_ (a_ (h:=wo_nil (e_ (h:=aft_normal (wc_ret (?_))))))))))))))
         )
       )
     rotate_right 1
     focus
      intro c3
      first
      | exact dn c3
      | (
       have d3 := c3;try simp at d3
       obtain ⟨h3,h4⟩ := h1 (by omega);obtain ⟨h5,h6⟩ := h2 (by omega);have g1 := ints_ix h3 h4;have g2 := ints_ix h5 h6
       refine wa_ (wc_draw (y_ (m_ (h:=ax_ (h:=y_ (f_ (h:=ax_ (h:=y_ (l_ (h:=ax_ (h:=y_ (x_ (h:=ax_ (h:=y_ (l_ (h:=ax_ (h:=y_ (m_ (h:=ax_ (h:=y_ (f_ (h:=ax_ (h:=y_ (l_ (h:=ax_ (h:=y_ (x_ (h:=ax_ (h:=y_ (l_ (h:=ax_ (h:=?_))))))))))))))))))))))))))))))))
       refine y_ (b_ (h:=ax_ (h:=y_ (f_ (h:=ax_ (h:=y_ (l_ (h:=ax_ (h:=y_ (b_ (h:=ax_ (h:=y_ (a_ (h:=ax_ (h:=wo_nil (ed (h:=aft_normal (wc_ret (?_)))))))))))))))))))
       )
     )
   rotate_right 1
   focus
    intro c2
    first
    | exact dn c2
    | (
     have d2 := c2;try simp at d2
     refine wa_ (wc_region (w_ (f_ (h:=w_ (l_ (h:=w_ (ca (hc:=e_size 0 (ints d.cells) (by simp;omega)) (h:=w_ (a_ (h:=wo_nil (e_ (h:=aft_normal (wc_ret (?_))))))))))))))
     )
   )
 rotate_right 1
 focus
  intro c1
  first
  | exact dn c1
  | (
   have d1 := c1;try simp at d1
   refine wa_ (wc_region (w_ (f_ (h:=w_ (l_ (h:=w_ (a_ (h:=wo_nil (e_ (h:=aft_normal (wc_ret (?_))))))))))))
   )
 all_goals first | refine blk_normal ?_ | refine blk_ret ?_
 all_goals first
 | refine aft_ret ?_
 | (
  refine aft_normal ?_
  refine wa_ (wc_region (w_ (m_ (h:=w_ (f_ (h:=w_ (l_ (h:=w_ (x_ (h:=w_ (l_ (h:=w_ (a_ (h:=wo_nil (e_ (h:=aft_normal (wc_ret (?_))))))))))))))))))
  )
 all_goals (refine fin_ (hr:=(res_tmp rfl res_nil)) (h:=?_);(focus (simp [widthN];grind [inI])))
def faultN (d : Nd) (w : List Int) : Int :=
  if d.op = 1 then (if inI d.col 1 3 then 0 else 3)
  else if d.op = 2 then (if inI d.col 0 (IntKind.i64.wrap (at0 w d.a - 1)) && (inI d.test 0 2 && inI d.value (-1000000000) 1000000000) then 0 else 3)
  else if d.op = 3 then (if inI d.cells.length 1 4 then (if d.cells.all fun c => inI c 0 (IntKind.i64.wrap (at0 w d.a - 1)) then 0 else 3) else 2)
  else if d.op = 4 then (if at0 w d.a = at0 w d.b then 0 else 1)
  else if d.op = 6 then (if inI d.col 1 (min (at0 w d.a) (at0 w d.b)) then (if 4 < widthN d w then 2 else 0) else 3)
  else if d.op = 7 then (if inI d.col 0 (min (at0 w d.a) 3) then 0 else 3)
  else if 8 ≤ d.op ∧ d.op ≤ 10 then (if inI d.col 0 (IntKind.i64.wrap (at0 w d.a - 1)) then 0 else 3)
  else 0
theorem l_cells (z z' : Nat) (d : Nd) (w : List Int) (hd : d.cells.length < 4000000) (h0 : 0 ≤ d.a) (h1 : d.a < w.length) : ∀ i : Nat,i ≤ d.cells.length → ∀ s,normE 2 (some [1,2,47,48,49]) s = ⟨[(1,.lst false z' (ints w)),(2,.ptr 2 0 []),(47,.lst false z (ints d.cells)),(48,.int .i64 d.cells.length),(49,.int .i64 i)],[(2,⟨true,false,7,[d.v false z],0⟩)],3⟩ →
 oc.loop 84 12 s = some (if ((d.cells.drop i).all fun c => inI c 0 (IntKind.i64.wrap (at0 w d.a - 1))) = true then (.exit 1,⟨[],[],2⟩) else (.ret,⟨[(4,.int .i64 3)],[],2⟩)) := by
 refine loop_ind (fun i => d.cells.length - i) _ (fun i => ⟨[(1,.lst false z' (ints w)),(2,.ptr 2 0 []),(47,.lst false z (ints d.cells)),(48,.int .i64 d.cells.length),(49,.int .i64 i)],[(2,⟨true,false,7,[d.v false z],0⟩)],3⟩) _ ?_
 intro i hi ih s hs
 refine loop_s cd84 rfl rfl hs ?_
 refine wa_ (wc_region (w_ (b_ (h:=wo_nil (e_ (h:=aft_normal (wa_ (?_))))))))
 refine c_ (h1:=?_) (h2:=?_)
 rotate_right 1
 focus
  intro c1
  simp at c1;have : i = d.cells.length := (by omega);subst this
  refine wc_exit (?_)
 rotate_right 1
 focus
  intro c1
  simp at c1;have hw := wrap_succ (i:=i) (by omega);obtain ⟨x,_,d1,g1⟩ := ints_cut c1;have g2 := ints_ix h0 h1
  refine wc_skip (?_)
 all_goals first
 | refine aft_exit ?_
 | (
  refine aft_normal ?_
  refine wa_ (wc_block (wa_ (wc_region (w_ (x_ (h:=w_ (l_ (h:=w_ (a_ (h:=wo_nil (e_ (h:=aft_normal (wa_ (wc_region (w_ (m_ (h:=?_)))))))))))))))))
  refine w_ (m_ (h:=w_ (f_ (h:=w_ (l_ (h:=w_ (x_ (h:=w_ (l_ (h:=w_ (b_ (h:=w_ (ca (hc:=e_in _ _ _) (h:=w_ (u_ (h:=wo_nil (e_ (h:=aft_normal (?_)))))))))))))))))))
  refine c_ (h1:=?_) (h2:=?_)
  rotate_right 1
  focus
   intro c2
   refine wc_skip (?_)
  rotate_right 1
  focus
   intro c2
   refine wa_ (wc_region (w_ (a_ (h:=wo_nil (e_ (h:=aft_normal (wc_ret (?_))))))))
  all_goals first | refine blk_normal ?_ | refine blk_ret ?_
  all_goals first
  | refine aft_ret ?_
  | (
   refine aft_normal ?_
   refine wc_region (w_ (b_ (h:=w_ (m_ (h:=wo_nil (e_ (h:=?_)))))))
   )
  )
 all_goals first
 | (refine (ih (i + 1) (by omega) ?_ _ ?_).trans ?_;(focus (first | omega | (simp;done) | (simp;omega)));(focus (simp [normE,hw];done));(focus (rw [d1];simp at c2 ⊢;grind)))
 | (apply end_leaf (ex:=Ext.ret) 2 (some [4]);(focus (simp [normE];rfl));(focus (rw [d1];simp at c2 ⊢;grind)))
 | (apply end_leaf (ex:=(Ext.exit 1)) 2 (some [4]);(focus (simp [normE];rfl));(focus (simp)))
theorem e_fault (z z' : Nat) (d : Nd) (w : List Int) (hd : d.cells.length < 4000000) (h : fitN d w.length) (ho : 1 ≤ d.op ∧ d.op ≤ 12) : oc.call 84 [d.v false z,.lst false z' (ints w)] = some (.int .i64 (faultN d w),[]) := by
 refine fun_s rfl cd84 rfl rfl rfl (by simp;rfl) (by simp;rfl) ?_
 obtain ⟨k1,k2⟩ := h
 refine wa_ (wc_region (w_ (bx (h:=w_ (a_ (h:=wo_nil (e_ (h:=aft_normal (wa_ (wa_ (wc_region (w_ (f_ (h:=w_ (l_ (h:=wo_nil (e_ (h:=?_))))))))))))))))))
 refine aft_normal (wc_block (wa_ (wc_region (w_ (bE (h:=w_ (a_ (h:=wo_nil (e_ (h:=aft_normal (?_)))))))))))
 refine c_ (h1:=?_) (h2:=?_)
 rotate_right 1
 focus
  intro c1
  first
  | exact dn c1
  | (
   have d1 := c1;try simp at d1
   refine wa_ (wc_region (w_ (bE (h:=w_ (a_ (h:=wo_nil (e_ (h:=aft_normal (?_)))))))))
   refine c_ (h1:=?_) (h2:=?_)
   rotate_right 1
   focus
    intro c2
    first
    | exact dn c2
    | (
     have d2 := c2;try simp at d2
     refine wa_ (wc_region (w_ (bE (h:=w_ (a_ (h:=wo_nil (e_ (h:=aft_normal (?_)))))))))
     refine c_ (h1:=?_) (h2:=?_)
     rotate_right 1
     focus
      intro c3
      first
      | exact dn c3
      | (
       have d3 := c3;try simp at d3
       refine wa_ (wc_region (w_ (bE (h:=w_ (a_ (h:=wo_nil (e_ (h:=aft_normal (?_)))))))))
       refine c_ (h1:=?_) (h2:=?_)
       rotate_right 1
       focus
        intro c4
        first
        | exact dn c4
        | (
         have d4 := c4;try simp at d4
         refine wa_ (wc_region (w_ (bE (h:=w_ (a_ (h:=wo_nil (e_ (h:=aft_normal (?_)))))))))
         refine c_ (h1:=?_) (h2:=?_)
         rotate_right 1
         focus
          intro c5
          first
          | exact dn c5
          | (
           have d5 := c5;try simp at d5
           refine wa_ (wc_region (w_ (bE (h:=w_ (a_ (h:=wo_nil (e_ (h:=aft_normal (?_)))))))))
           refine c_ (h1:=?_) (h2:=?_)
           rotate_right 1
           focus
            intro c6
            first
            | exact dn c6
            | (
             have d6 := c6;try simp at d6
             refine wa_ (wa_ (wc_region (w_ (bE (h:=w_ (a_ (h:=wo_nil (e_ (h:=aft_normal (?_))))))))))
             refine c_ (h1:=?_) (h2:=?_)
             rotate_right 1
             focus
              intro c7
              first
              | exact dn c7
              | (
               have d7 := c7;try simp at d7
               refine wa_ (wc_region (w_ (bE (h:=w_ (a_ (h:=wo_nil (e_ (h:=aft_normal (?_)))))))))
               refine c_ (h1:=?_) (h2:=?_)
               rotate_right 1
               focus
                intro c8
                first
                | exact dn c8
                | (
                 have d8 := c8;try simp at d8
                 refine wc_region (w_ (bE (h:=w_ (a_ (h:=wo_nil (e_ (h:=?_)))))))
                 )
               rotate_right 1
               focus
                intro c8
                first
                | exact dn c8
                | (
                 have d8 := c8;try simp at d8
                 refine wc_skip (?_)
                 )
               )
             rotate_right 1
             focus
              intro c7
              first
              | exact dn c7
              | (
               have d7 := c7;try simp at d7
               refine wc_skip (?_)
               )
             all_goals first
             | (
              refine aft_normal ?_
              refine c_ (h1:=?_) (h2:=?_)
              rotate_right 1
              focus
               intro c9
               first
               | exact dn c9
               | (
                have d9 := c9;try simp at d9
                refine wc_skip (?_)
                )
              rotate_right 1
              focus
               intro c9
               first
               | exact dn c9
               | (
                have d9 := c9;try simp at d9
                obtain ⟨h3,h4⟩ := k1 (by omega);have g1 := ints_ix h3 h4
                refine wa_ (wc_draw (y_ (f_ (h:=ax_ (h:=y_ (l_ (h:=ax_ (h:=y_ (m_ (h:=ax_ (h:=y_ (f_ (h:=ax_ (h:=y_ (l_ (h:=ax_ (h:=y_ (x_ (h:=ax_ (h:=y_ (l_ (h:=ax_ (h:=y_ (b_ (h:=ax_ (h:=y_ (ca (hc:=e_in _ _ _) (h:=ax_ (h:=y_ (u_ (h:=ax_ (h:=?_))))))))))))))))))))))))))))))))
                refine wo_nil (ed (h:=aft_normal (?_)))
                refine c_ (h1:=?_) (h2:=?_)
                rotate_right 1
                focus
                 intro c10
                 first
                 | exact dn c10
                 | (
                  have d10 := c10;try simp at d10
                  refine wc_skip (?_)
                  )
                rotate_right 1
                focus
                 intro c10
                 first
                 | exact dn c10
                 | (
                  have d10 := c10;try simp at d10
                  refine wa_ (wc_region (w_ (a_ (h:=wo_nil (e_ (h:=aft_normal (wc_ret (?_))))))))
                  )
                )
              )
             )
           rotate_right 1
           focus
            intro c6
            first
            | exact dn c6
            | (
             have d6 := c6;try simp at d6
             obtain ⟨h3,h4⟩ := k1 (by omega);have g1 := ints_ix h3 h4
             refine wa_ (wc_draw (y_ (f_ (h:=ax_ (h:=y_ (l_ (h:=ax_ (h:=y_ (m_ (h:=ax_ (h:=y_ (f_ (h:=ax_ (h:=y_ (l_ (h:=ax_ (h:=y_ (x_ (h:=ax_ (h:=y_ (l_ (h:=ax_ (h:=y_ (mi (h:=ax_ (h:=y_ (ca (hc:=e_in _ _ _) (h:=ax_ (h:=y_ (u_ (h:=ax_ (h:=?_))))))))))))))))))))))))))))))))
             refine wo_nil (ed (h:=aft_normal (?_)))
             refine c_ (h1:=?_) (h2:=?_)
             rotate_right 1
             focus
              intro c11
              first
              | exact dn c11
              | (
               have d11 := c11;try simp at d11
               refine wc_skip (?_)
               )
             rotate_right 1
             focus
              intro c11
              first
              | exact dn c11
              | (
               have d11 := c11;try simp at d11
               refine wa_ (wc_region (w_ (a_ (h:=wo_nil (e_ (h:=aft_normal (wc_ret (?_))))))))
               )
             )
           )
         rotate_right 1
         focus
          intro c5
          first
          | exact dn c5
          | (
           have d5 := c5;try simp at d5
           obtain ⟨h3,h4⟩ := k1 (by omega);have g1 := ints_ix h3 h4;obtain ⟨h5,h6⟩ := k2 (by omega);have g2 := ints_ix h5 h6
           refine wa_ (wa_ (wc_draw (y_ (f_ (h:=ax_ (h:=y_ (l_ (h:=ax_ (h:=y_ (m_ (h:=ax_ (h:=y_ (f_ (h:=ax_ (h:=y_ (l_ (h:=ax_ (h:=y_ (x_ (h:=ax_ (h:=y_ (l_ (h:=ax_ (h:=y_ (m_ (h:=ax_ (h:=y_ (f_ (h:=ax_ (h:=?_))))))))))))))))))))))))))))))
           refine y_ (l_ (h:=ax_ (h:=y_ (x_ (h:=ax_ (h:=y_ (l_ (h:=ax_ (h:=y_ (mi (h:=ax_ (h:=y_ (ca (hc:=e_in _ _ _) (h:=ax_ (h:=y_ (u_ (h:=ax_ (h:=wo_nil (ed (h:=aft_normal (?_)))))))))))))))))))))
           refine c_ (h1:=?_) (h2:=?_)
           rotate_right 1
           focus
            intro c12
            first
            | exact dn c12
            | (
             have d12 := c12;try simp at d12
             refine wc_skip (?_)
             )
           rotate_right 1
           focus
            intro c12
            first
            | exact dn c12
            | (
             have d12 := c12;try simp at d12
             refine wa_ (wc_region (w_ (a_ (h:=wo_nil (e_ (h:=aft_normal (wc_ret (?_))))))))
             )
           all_goals first
           | refine aft_ret ?_
           | (
            refine aft_normal ?_
            refine wa_ (wc_region (w_ (l_ (h:=w_ (m_ (h:=w_ (ca (hc:=e_width 0 0 d w hd ⟨k1,k2⟩) (h:=w_ (b_ (h:=wo_nil (e_ (h:=aft_normal (?_)))))))))))))
            refine c_ (h1:=?_) (h2:=?_)
            rotate_right 1
            focus
             intro c13
             first
             | exact dn c13
             | (
              have d13 := c13;try simp at d13
              refine wc_skip (?_)
              )
            rotate_right 1
            focus
             intro c13
             first
             | exact dn c13
             | (
              have d13 := c13;try simp at d13
              refine wa_ (wc_region (w_ (a_ (h:=wo_nil (e_ (h:=aft_normal (wc_ret (?_))))))))
              )
            )
           )
         )
       rotate_right 1
       focus
        intro c4
        first
        | exact dn c4
        | (
         have d4 := c4;try simp at d4
         obtain ⟨h3,h4⟩ := k1 (by omega);have g1 := ints_ix h3 h4;obtain ⟨h5,h6⟩ := k2 (by omega);have g2 := ints_ix h5 h6
         refine wa_ (wc_draw (y_ (m_ (h:=ax_ (h:=y_ (f_ (h:=ax_ (h:=y_ (l_ (h:=ax_ (h:=y_ (x_ (h:=ax_ (h:=y_ (l_ (h:=ax_ (h:=y_ (m_ (h:=ax_ (h:=y_ (f_ (h:=ax_ (h:=y_ (l_ (h:=ax_ (h:=y_ (x_ (h:=ax_ (h:=y_ (l_ (h:=ax_ (h:=?_))))))))))))))))))))))))))))))))
         refine y_ (bE (h:=ax_ (h:=wo_nil (ed (h:=aft_normal (?_))))))
         refine c_ (h1:=?_) (h2:=?_)
         rotate_right 1
         focus
          intro c14
          first
          | exact dn c14
          | (
           have d14 := c14;try simp at d14
           refine wc_skip (?_)
           )
         rotate_right 1
         focus
          intro c14
          first
          | exact dn c14
          | (
           have d14 := c14;try simp at d14
           refine wa_ (wc_region (w_ (a_ (h:=wo_nil (e_ (h:=aft_normal (wc_ret (?_))))))))
           )
         )
       )
     rotate_right 1
     focus
      intro c3
      first
      | exact dn c3
      | (
       have d3 := c3;try simp at d3
       obtain ⟨h3,h4⟩ := k1 (by omega);have g1 := ints_ix h3 h4
       refine wa_ (wa_ (wc_region (w_ (f_ (h:=w_ (l_ (h:=w_ (ca (hc:=e_size 0 (ints d.cells) (by simp;omega)) (h:=w_ (ca (hc:=e_in _ _ _) (h:=w_ (u_ (h:=wo_nil (e_ (h:=aft_normal (?_))))))))))))))))
       refine c_ (h1:=?_) (h2:=?_)
       rotate_right 1
       focus
        intro c15
        first
        | exact dn c15
        | (
         have d15 := c15;try simp at d15
         refine wc_skip (?_)
         )
       rotate_right 1
       focus
        intro c15
        first
        | exact dn c15
        | (
         have d15 := c15;try simp at d15
         refine wa_ (wc_region (w_ (a_ (h:=wo_nil (e_ (h:=aft_normal (wc_ret (?_))))))))
         )
       all_goals first
       | refine aft_ret ?_
       | (
        refine aft_normal ?_
        refine wa_ (wc_region (w_ (f_ (h:=w_ (l_ (h:=w_ (le (h:=w_ (m_ (h:=wo_nil (e_ (h:=aft_normal (wc_block (?_))))))))))))))
        refine wc_loopI (l_cells z z' d w hd h3 h4 0 (by omega) _ (by simp [normE])) ?_ ?_
        rotate_right 1
        focus
         intro c16
         first
         | exact dn c16
         | (
          have d16 := c16;try simp at d16
          skip
          )
        rotate_right 1
        focus
         intro c16
         first
         | exact dn c16
         | (
          have d16 := c16;try simp at d16
          skip
          )
        all_goals first | refine blk_ret ?_ | refine blk_exit ?_
        )
       )
     )
   rotate_right 1
   focus
    intro c2
    first
    | exact dn c2
    | (
     have d2 := c2;try simp at d2
     obtain ⟨h3,h4⟩ := k1 (by omega);have g1 := ints_ix h3 h4
     refine wa_ (wc_draw (y_ (f_ (h:=ax_ (h:=y_ (l_ (h:=ax_ (h:=y_ (m_ (h:=ax_ (h:=y_ (f_ (h:=ax_ (h:=y_ (l_ (h:=ax_ (h:=y_ (x_ (h:=ax_ (h:=y_ (l_ (h:=ax_ (h:=y_ (b_ (h:=ax_ (h:=y_ (ca (hc:=e_in _ _ _) (h:=ax_ (h:=y_ (u_ (h:=ax_ (h:=?_))))))))))))))))))))))))))))))))
     refine y_ (m_ (h:=ax_ (h:=?_)))
     refine gw_ (h1:=?_) (h2:=?_)
     rotate_right 1
     focus
      intro c17
      first
      | exact dn c17
      | (
       have d17 := c17;try simp at d17
       refine gd_ (h:=gd_ (h:=gd_ (h:=gd_ (h:=?_))))
       )
     rotate_right 1
     focus
      intro c17
      first
      | exact dn c17
      | (
       have d17 := c17;try simp at d17
       refine g_ (h:=y_ (f_ (h:=ax_ (h:=g_ (h:=y_ (l_ (h:=ax_ (h:=g_ (h:=y_ (ca (hc:=e_in _ _ _) (h:=ax_ (h:=g_ (h:=y_ (u_ (h:=ax_ (h:=?_))))))))))))))))
       )
     all_goals
      refine y_ (pk (h:=ax_ (h:=y_ (m_ (h:=ax_ (h:=?_))))))
      refine gw_ (h1:=?_) (h2:=?_)
      rotate_right 1
      focus
       intro c18
       first
       | exact dn c18
       | (
        have d18 := c18;try simp at d18
        refine gd_ (h:=gd_ (h:=gd_ (h:=gd_ (h:=?_))))
        )
      rotate_right 1
      focus
       intro c18
       first
       | exact dn c18
       | (
        have d18 := c18;try simp at d18
        refine g_ (h:=y_ (f_ (h:=ax_ (h:=g_ (h:=y_ (l_ (h:=ax_ (h:=g_ (h:=y_ (ca (hc:=e_in _ _ _) (h:=ax_ (h:=g_ (h:=y_ (u_ (h:=ax_ (h:=?_))))))))))))))))
        )
      all_goals
       refine y_ (pk (h:=ax_ (h:=wo_nil (ed (h:=?_)))))
     all_goals first
     | (
      refine aft_normal ?_
      refine c_ (h1:=?_) (h2:=?_)
      rotate_right 1
      focus
       intro c19
       first
       | exact dn c19
       | (
        have d19 := c19;try simp at d19
        refine wc_skip (?_)
        )
      rotate_right 1
      focus
       intro c19
       first
       | exact dn c19
       | (
        have d19 := c19;try simp at d19
        refine wa_ (wc_region (w_ (a_ (h:=wo_nil (e_ (h:=aft_normal (wc_ret (?_))))))))
        )
      )
     )
   )
 rotate_right 1
 focus
  intro c1
  first
  | exact dn c1
  | (
   have d1 := c1;try simp at d1
   refine wa_ (wc_region (w_ (f_ (h:=w_ (l_ (h:=w_ (ca (hc:=e_in _ _ _) (h:=w_ (u_ (h:=wo_nil (e_ (h:=aft_normal (?_)))))))))))))
   refine c_ (h1:=?_) (h2:=?_)
   rotate_right 1
   focus
    intro c20
    first
    | exact dn c20
    | (
     have d20 := c20;try simp at d20
     refine wc_skip (?_)
     )
   rotate_right 1
   focus
    intro c20
    first
    | exact dn c20
    | (
     have d20 := c20;try simp at d20
     refine wa_ (wc_region (w_ (a_ (h:=wo_nil (e_ (h:=aft_normal (wc_ret (?_))))))))
     )
   )
 all_goals first | refine blk_normal ?_ | refine blk_ret ?_
 all_goals first
 | refine aft_ret ?_
 | (
  refine aft_normal ?_
  refine wa_ (wc_region (w_ (a_ (h:=wo_nil (e_ (h:=aft_normal (wc_ret (?_))))))))
  )
 all_goals (refine fin_ (hr:=(res_tmp rfl res_nil)) (h:=?_);(focus (simp [faultN];grind)))
end Go.Proofs.Ytbcgenkegnmkhaa.Ev
namespace Go.Proofs.Ytbcgenkegnmkhaa.Ev
open Go
set_option maxRecDepth 100000
set_option linter.unusedSimpArgs false
set_option linter.unusedVariables false
set_option maxHeartbeats 2000000
def opAt (l : List Nd) (a : Int) : Int := (l[a.toNat]?).elim 0 Nd.op
theorem nds_ix {t : Bool} {s : Nat} {l : List Nd} {a : Int} (h0 : 0 ≤ a) (h : a < l.length) : ∃ d,(nds t s l)[a.toNat]? = some (Nd.v t s d) ∧ opAt l a = Nd.op d := by
  have : a.toNat < l.length := by omega
  exact ⟨l[a.toNat],by simp [nds,this],by simp [opAt,this]⟩
def okR (pl : List Nd) (i : Nat) (k : Int) : Bool := inI k 0 (IntKind.i64.wrap ((i : Int) - 1)) && !decide (opAt pl k = 12)
theorem l_reads (pl : List Nd) (out rs : List Int) (d : Nd) (i : Nat) (hp : pl.length < 2000000) (hi : i ≤ pl.length) (hr : rs.length < 10) : ∀ j : Nat,j ≤ rs.length → ∀ s,normE 1 (some [0,4,5,6,15,16,17,34,35,36]) s = ⟨[(0,.lst false 0 (nds false 0 pl)),(4,.ref 1 0 out.length),(5,.int .i64 i),(6,.ptr 2 0 []),(15,.lst false 0 (nds false 0 pl)),(16,.int .i64 pl.length),(17,.int .i64 i),(34,.ref 3 0 rs.length),(35,.int .i64 rs.length),(36,.int .i64 j)],[(1,⟨false,false,1,ints out,0⟩),(2,⟨true,false,7,[d.v false 0],0⟩),(3,⟨false,false,1,ints rs,0⟩)],4⟩ →
 oc.loop 37 12 s = some (if (rs.drop j).all (okR pl i) = true then (.exit 3,⟨[(0,.lst false 0 (nds false 0 pl)),(4,.ref 1 0 out.length),(6,.ptr 2 0 []),(15,.lst false 0 (nds false 0 pl)),(16,.int .i64 pl.length),(17,.int .i64 i)],[(1,⟨false,false,1,ints out,0⟩),(2,⟨true,false,7,[d.v false 0],0⟩)],3⟩)
  else (.ret,⟨[(0,.lst false 0 (nds false 0 pl)),(2,.lst true 1 []),(3,.int .i64 3),(4,.ref 1 0 out.length),(6,.ptr 2 0 []),(15,.lst false 0 (nds false 0 pl)),(16,.int .i64 pl.length),(17,.int .i64 i)],[(1,⟨false,false,1,ints out,0⟩),(2,⟨true,false,7,[d.v false 0],0⟩)],3⟩)) := by
 refine loop_ind (fun j => rs.length - j) _ (fun j => ⟨[(0,.lst false 0 (nds false 0 pl)),(4,.ref 1 0 out.length),(5,.int .i64 i),(6,.ptr 2 0 []),(15,.lst false 0 (nds false 0 pl)),(16,.int .i64 pl.length),(17,.int .i64 i),(34,.ref 3 0 rs.length),(35,.int .i64 rs.length),(36,.int .i64 j)],[(1,⟨false,false,1,ints out,0⟩),(2,⟨true,false,7,[d.v false 0],0⟩),(3,⟨false,false,1,ints rs,0⟩)],4⟩) _ ?_
 intro j hj ih s hs
 have hw2 : IntKind.i64.wrap ((i : Int) - 1) = i - 1 := wrap_id (by omega) (by omega)
 refine loop_s cd37 rfl rfl hs ?_
 refine wa_ (wc_region (w_ (b_ (h:=wo_nil (e_ (h:=aft_normal (wa_ (?_))))))))
 refine c_ (h1:=?_) (h2:=?_)
 rotate_right 1
 focus
  intro c1
  first
  | exact dn c1
  | (
   have d1 := c1;try simp at d1
   have : j = rs.length := (by omega);subst this
   refine wc_exit (?_)
   )
 rotate_right 1
 focus
  intro c1
  first
  | exact dn c1
  | (
   have d1 := c1;try simp at d1
   have hw := wrap_succ (i:=j) (by omega);obtain ⟨x,_,e1,g1⟩ := ints_cut (l:=rs) (i:=j) (by omega);simp at g1
   refine wc_skip (?_)
   )
 all_goals first
 | refine aft_exit ?_
 | (
  refine aft_normal ?_
  refine wa_ (wc_block (wa_ (wc_region (w_ (x_ (h:=w_ (l_ (h:=w_ (a_ (h:=wo_nil (e_ (h:=aft_normal (wa_ (wc_region (w_ (m_ (h:=?_)))))))))))))))))
  refine w_ (m_ (h:=w_ (b_ (h:=w_ (ca (hc:=e_in _ _ _) (h:=w_ (u_ (h:=w_ (m_ (h:=?_))))))))))
  refine gw_ (h1:=?_) (h2:=?_)
  rotate_right 1
  focus
   intro c2
   first
   | exact dn c2
   | (
    have d2 := c2;try simp at d2
    refine go_ (h:=go_ (h:=go_ (h:=go_ (h:=go_ (h:=go_ (h:=?_))))))
    )
  rotate_right 1
  focus
   intro c2
   first
   | exact dn c2
   | (
    have d2 := c2;try simp at d2
    simp [inI,hw2] at d2;obtain ⟨h3,h4⟩ := d2;obtain ⟨e,g2,g3⟩ := nds_ix (t:=false) (s:=0) (l:=pl) h3 (by omega)
    refine g_ (h:=w_ (m_ (h:=g_ (h:=w_ (m_ (h:=g_ (h:=w_ (x_ (h:=g_ (h:=w_ (f_ (h:=g_ (h:=w_ (l_ (h:=g_ (h:=w_ (bE (h:=?_))))))))))))))))))
    )
  all_goals
   refine w_ (pk (h:=wo_nil (e_ (h:=?_))))
  all_goals first
  | (
   refine aft_normal ?_
   refine c_ (h1:=?_) (h2:=?_)
   rotate_right 1
   focus
    intro c3
    first
    | exact dn c3
    | (
     have d3 := c3;try simp at d3
     refine wc_skip (?_)
     )
   rotate_right 1
   focus
    intro c3
    first
    | exact dn c3
    | (
     have d3 := c3;try simp at d3
     refine wa_ (wc_region (w_ (aN (h:=w_ (a_ (h:=wo_nil (e_ (h:=aft_normal (wc_ret (?_))))))))))
     )
   )
  all_goals first | refine blk_normal ?_ | refine blk_ret ?_
  all_goals first
  | refine aft_ret ?_
  | (
   refine aft_normal ?_
   refine wc_region (w_ (b_ (h:=w_ (m_ (h:=wo_nil (e_ (h:=?_)))))))
   )
  )
 all_goals first
 | (refine (ih (j + 1) (by omega) ?_ _ ?_).trans ?_;(focus (first | omega | (simp;done) | (simp;omega)));(focus (simp [normE,hw];done));(focus (rw [e1];simp [okR] at *;grind)))
 | (apply end_leaf (ex:=Ext.ret) 1 (some [0,2,3,4,6,15,16,17]);(focus (simp [normE];rfl));(focus (rw [e1];simp [okR] at *;grind)))
 | (apply end_leaf (ex:=(Ext.exit 3)) 1 (some [0,2,3,4,6,15,16,17]);(focus (simp [normE];rfl));(focus (simp)))
theorem fit_of {pl : List Nd} {d : Nd} {i : Nat} (hi : i < 2000000) (h : (readsN d).all (okR pl i) = true) : fitN d i := by
  have hw2 : IntKind.i64.wrap ((i : Int) - 1) = i - 1 := wrap_id (by omega) (by omega)
  have key : ∀ k ∈ readsN d,0 ≤ k ∧ k < i := by
    intro k hk
    have := List.all_eq_true.mp h k hk
    simp [okR,inI,hw2] at this
    omega
  unfold readsN at key
  constructor
  · intro h1
    rw [if_neg h1] at key
    split at key <;> exact key _ (by simp)
  · intro h1
    rw [if_neg (by omega),if_pos h1] at key
    exact key _ (by simp)
theorem plain_len (d : Nd) : (plainN d).cells.length ≤ d.cells.length := by
  simp only [plainN]
  split <;> simp
def stepC (pl : List Nd) (d : Nd) (out : List Int) : Int :=
  if inI d.op 1 12 = false then 5 else if d ≠ plainN d then 1 else if (readsN d).all (okR pl out.length) = false then 3 else faultN d out
def lookR (pl : List Nd) : List Nd → List Int → List Int × Int
  | [],out => (out,0)
  | d :: r,out => if stepC pl d out = 0 then lookR pl r (out ++ [widthN d out]) else (out,stepC pl d out)
def lookE (q : List Int × Int) : Ext × St :=
  if q.2 = 0 then (.exit 0,⟨[(4,.ref 1 0 q.1.length)],[(1,⟨false,false,1,ints q.1,0⟩)],2⟩) else (.ret,⟨[(2,.lst true 1 []),(3,.int .i64 q.2),(4,.ref 1 0 q.1.length)],[(1,⟨false,false,1,ints q.1,0⟩)],2⟩)
theorem look_stop {pl r : List Nd} {d : Nd} {out : List Int} {i : Nat} {c : Int} (e : pl.drop i = d :: r) (h : stepC pl d out = c) (hc : c ≠ 0) : lookE (lookR pl (pl.drop i) out) = (.ret,⟨[(2,.lst true 1 []),(3,.int .i64 c),(4,.ref 1 0 out.length)],[(1,⟨false,false,1,ints out,0⟩)],2⟩) := by
  subst h
  rw [e,lookR,if_neg hc,lookE,if_neg hc]
theorem look_go {pl r : List Nd} {d : Nd} {out : List Int} {i : Nat} (e : pl.drop i = d :: r) (h : stepC pl d out = 0) : lookR pl (pl.drop i) out = lookR pl r (out ++ [widthN d out]) := by
  rw [e,lookR,if_pos h]
theorem l_look (pl : List Nd) (hp : pl.length < 2000000) (hk : okN pl) : ∀ out : List Int,out.length ≤ pl.length → ∀ s,normE 1 (some [0,4,15,16,17]) s = ⟨[(0,.lst false 0 (nds false 0 pl)),(4,.ref 1 0 out.length),(15,.lst false 0 (nds false 0 pl)),(16,.int .i64 pl.length),(17,.int .i64 out.length)],[(1,⟨false,false,1,ints out,0⟩)],2⟩ →
 oc.loop 37 5 s = some (lookE (lookR pl (pl.drop out.length) out)) := by
 refine loop_ind (fun out => pl.length - out.length) _ (fun out => ⟨[(0,.lst false 0 (nds false 0 pl)),(4,.ref 1 0 out.length),(15,.lst false 0 (nds false 0 pl)),(16,.int .i64 pl.length),(17,.int .i64 out.length)],[(1,⟨false,false,1,ints out,0⟩)],2⟩) _ ?_
 intro out hi ih s hs
 refine loop_s cd37 rfl rfl hs ?_
 refine wa_ (wc_region (w_ (b_ (h:=wo_nil (e_ (h:=aft_normal (wa_ (?_))))))))
 refine c_ (h1:=?_) (h2:=?_)
 rotate_right 1
 focus
  intro c1
  first
  | exact dn c1
  | (
   have d1 := c1;try simp at d1
   have hn : pl.length = out.length := (by omega)
   refine wc_exit (?_)
   )
 rotate_right 1
 focus
  intro c1
  first
  | exact dn c1
  | (
   have d1 := c1;try simp at d1
   have hw := wrap_succ (i:=out.length) (by omega);obtain ⟨d,hx,e1,g1⟩ := nds_cut (t:=false) (s:=0) (l:=pl) (i:=out.length) (by omega);simp at g1;have hd := hk d (List.mem_of_getElem? hx);by_cases h3 : d.op = 3
   all_goals
    refine wc_skip (?_)
   )
 all_goals first
 | refine aft_exit ?_
 | (
  refine aft_normal ?_
  refine wa_ (wc_block (wa_ (wc_region (w_ (m_ (h:=w_ (x_ (h:=w_ (l_ (h:=w_ (al (h:=w_ (a_ (h:=w0 (s_ (h:=wo_nil (e_ (h:=aft_normal (?_)))))))))))))))))))
  refine wa_ (wc_block (wa_ (wc_region (w_ (f_ (h:=w_ (l_ (h:=w_ (ca (hc:=e_in _ _ _) (h:=w_ (u_ (h:=w_ (a_ (h:=wo_nil (e_ (h:=aft_normal (?_)))))))))))))))))
  refine c_ (h1:=?_) (h2:=?_)
  rotate_right 1
  focus
   intro c2
   first
   | exact dn c2
   | (
    have d2 := c2;try simp at d2
    refine wa_ (wc_draw (y_ (l_ (h:=ax_ (h:=y_ (l_ (h:=ax_ (h:=?_))))))))
    first | refine y_ (ca (hc:=e_plain3 0 d h3) (h:=?_)) | refine y_ (ca (hc:=e_plain 0 d h3) (h:=?_))
    refine ax_ (h:=y_ (ca (hc:=e_same 0 0 d (plainN d) (by omega) (by have := plain_len d;omega)) (h:=ax_ (h:=y_ (u_ (h:=ax_ (h:=y_ (a_ (h:=ax_ (h:=wo_nil (ed (h:=aft_normal (?_)))))))))))))
    refine c_ (h1:=?_) (h2:=?_)
    rotate_right 1
    focus
     intro c3
     first
     | exact dn c3
     | (
      have d3 := c3;try simp at d3
      refine wc_skip (?_)
      )
    rotate_right 1
    focus
     intro c3
     first
     | exact dn c3
     | (
      have d3 := c3;try simp at d3
      refine wa_ (wc_region (w_ (aN (h:=w_ (a_ (h:=wo_nil (e_ (h:=aft_normal (wc_ret (?_))))))))))
      )
    )
  rotate_right 1
  focus
   intro c2
   first
   | exact dn c2
   | (
    have d2 := c2;try simp at d2
    refine wa_ (wc_region (w_ (aN (h:=w_ (a_ (h:=wo_nil (e_ (h:=aft_normal (wc_ret (?_))))))))))
    )
  all_goals first | refine blk_normal ?_ | refine blk_ret ?_
  all_goals first
  | refine aft_ret ?_
  | (
   refine aft_normal ?_
   refine wa_ (wa_ (wc_region (w_ (l_ (h:=w_ (ca (hc:=e_reads 0 d) (h:=w_ (le (h:=w_ (m_ (h:=wo_nil (e_ (h:=aft_normal (wc_block (?_)))))))))))))))
   refine wc_loopI (l_reads pl out (readsN d) d out.length (by omega) (by omega) (by unfold readsN;split;simp;split <;> simp) 0 (by omega) _ (by simp [normE])) ?_ ?_
   rotate_right 1
   focus
    intro c4
    first
    | exact dn c4
    | (
     have d4 := c4;try simp at d4
     have d4' : (readsN d).all (okR pl out.length) = false := (by simpa using c4)
     skip
     )
   rotate_right 1
   focus
    intro c4
    first
    | exact dn c4
    | (
     have d4 := c4;try simp at d4
     have d4' : (readsN d).all (okR pl out.length) = true := (by simpa using c4);have hf := fit_of (i:=out.length) (by omega) (by simpa using c4)
     skip
     )
   all_goals first | refine blk_ret ?_ | refine blk_exit ?_
   all_goals first
   | refine aft_ret ?_
   | (
    refine aft_normal ?_
    refine wa_ (wa_ (wc_region (w_ (l_ (h:=w_ (m_ (h:=w_ (ca (hc:=e_fault 0 0 d out (by omega) hf (by simp [inI] at d2;omega)) (h:=w_ (a_ (h:=wo_nil (e_ (h:=aft_normal (wa_ (wc_region (w_ (m_ (h:=?_))))))))))))))))))
    refine w_ (bE (h:=wo_nil (e_ (h:=aft_normal (?_)))))
    refine c_ (h1:=?_) (h2:=?_)
    rotate_right 1
    focus
     intro c5
     first
     | exact dn c5
     | (
      have d5 := c5;try simp at d5
      refine wc_skip (?_)
      )
    rotate_right 1
    focus
     intro c5
     first
     | exact dn c5
     | (
      have d5 := c5;try simp at d5
      refine wa_ (wc_region (w_ (m_ (h:=w_ (aN (h:=w_ (a_ (h:=wo_nil (e_ (h:=aft_normal (wc_ret (?_))))))))))))
      )
    all_goals first
    | refine aft_ret ?_
    | (
     refine aft_normal ?_
     refine wc_region (w_ (m_ (h:=w_ (l_ (h:=w_ (m_ (h:=w_ (ca (hc:=e_width 0 0 d out (by omega) hf) (h:=w_ (bs (h:=w_ (ap (h:=w_ (a_ (h:=wo_nil (e_ (h:=?_)))))))))))))))))
     )
    )
   )
  all_goals first | refine blk_normal ?_ | refine blk_ret ?_
  all_goals first
  | refine aft_ret ?_
  | (
   refine aft_normal ?_
   refine wc_region (w_ (b_ (h:=w_ (m_ (h:=wo_nil (e_ (h:=?_)))))))
   )
  )
 all_goals first
 | (refine (ih (out ++ [widthN d out]) (by simp;omega) ?_ _ ?_).trans ?_;(focus (first | omega | (simp;done) | (simp;omega)));(focus (simp [normE,hw];done));(focus (rw [look_go e1 (by grind [stepC])];simp)))
 | (apply end_leaf (ex:=Ext.ret) 1 (some [2,3,4]);(focus (simp [normE];rfl));(focus (exact (look_stop e1 (c:=5) (by grind [stepC]) (by decide)).symm)))
 | (apply end_leaf (ex:=Ext.ret) 1 (some [2,3,4]);(focus (simp [normE];rfl));(focus (exact (look_stop e1 (c:=1) (by grind [stepC]) (by decide)).symm)))
 | (apply end_leaf (ex:=Ext.ret) 1 (some [2,3,4]);(focus (simp [normE];rfl));(focus (exact (look_stop e1 (c:=3) (by grind [stepC]) (by decide)).symm)))
 | (apply end_leaf (ex:=Ext.ret) 1 (some [2,3,4]);(focus (simp [normE];rfl));(focus (exact (look_stop e1 (c:=faultN d out) (by grind [stepC]) (by omega)).symm)))
 | (apply end_leaf (ex:=(Ext.exit 0)) 1 (some [2,3,4]);(focus (simp [normE];rfl));(focus (rw [List.drop_eq_nil_of_le (by omega)];simp [lookR,lookE])))
def lookN (pl : List Nd) : List Int × Int :=
  if inI pl.length 1 8 = false then ([],2) else if (lookR pl pl []).2 = 0 then lookR pl pl [] else ([],(lookR pl pl []).2)
theorem e_looked (pl : List Nd) (hp : pl.length < 2000000) (hk : okN pl) : oc.call 37 [.lst false 0 (nds false 0 pl)] = some (.tup [.lst true 1 (ints (lookN pl).1),.int .i64 (lookN pl).2],[]) := by
 refine fun_s rfl cd37 rfl rfl rfl (by simp;rfl) (by simp;rfl) ?_
 refine wa_ (wc_region (w_ (aN (h:=w_ (a_ (h:=wo_nil (e_ (h:=aft_normal (wa_ (wa_ (wc_region (w_ (m_ (h:=w_ (ca (hc:=e_sizeN _ _ (by simp;omega)) (h:=w_ (ca (hc:=e_in _ _ _) (h:=?_))))))))))))))))))
 refine w_ (u_ (h:=wo_nil (e_ (h:=aft_normal (?_)))))
 refine c_ (h1:=?_) (h2:=?_)
 rotate_right 1
 focus
  intro c1
  refine wc_skip (?_)
 rotate_right 1
 focus
  intro c1
  refine wa_ (wc_region (w_ (aN (h:=w_ (a_ (h:=wo_nil (e_ (h:=aft_normal (wc_ret (?_))))))))))
 all_goals first
 | refine aft_ret ?_
 | (
  refine aft_normal ?_
  refine wa_ (wc_region (w_ (bs (h:=w_ (a_ (h:=wo_nil (e_ (h:=aft_normal (wa_ (wa_ (wc_region (w_ (m_ (h:=w_ (le (h:=w_ (m_ (h:=?_))))))))))))))))))
  refine wo_nil (e_ (h:=aft_normal (wc_block (?_))))
  refine wc_loopI ((l_look pl hp hk [] (by simp) _ (by simp [normE])).trans (by rw [lookE])) ?_ ?_
  rotate_right 1
  focus
   intro c2
   skip
  rotate_right 1
  focus
   intro c2
   skip
  all_goals first | refine blk_ret ?_ | refine blk_exit ?_
  all_goals first
  | refine aft_ret ?_
  | (
   refine aft_normal ?_
   refine wa_ (wc_region (w_ (m_ (h:=w_ (a_ (h:=w_ (a_ (h:=wo_nil (e_ (h:=aft_normal (wc_ret (?_))))))))))))
   )
  )
 all_goals (refine fin_ (hr:=(res_tmp rfl (res_tmp rfl res_nil))) (h:=?_);(focus (simp_all [lookN])))
def Good (pl : List Nd) (ws : List Int) : Prop := ∀ n : Nat,n < ws.length → ∃ d,pl[n]? = some d ∧ at0 ws n = widthN d (ws.take n) ∧ fitN d n ∧ d.cells.length < 2000000
theorem at0_take {ws : List Int} {n : Nat} {a : Int} (h : a.toNat < n) : at0 (ws.take n) a = at0 ws a := by
  simp only [at0,List.getD_eq_getElem?_getD,List.getElem?_take,if_pos h]
theorem e_l3Width (pl : List Nd) (ws : List Int) (hp : pl.length < 2000000) (G : Good pl ws) : ∀ n : Nat,n < ws.length → oc.call 55 [.lst false 0 (nds false 0 pl),.int .i64 n] = some (.int .i64 (at0 ws n),[]) := by
  intro n
  induction n using Nat.strongRecOn with
  | ind n ih =>
    intro hn
    obtain ⟨d,hx,hv,⟨h1,h2⟩,hd⟩ := G n hn
    have hrec : ∀ a : Int,0 ≤ a → a < n → oc.call 55 [.lst false 0 (nds false 0 pl),.int .i64 a] = some (.int .i64 (at0 (ws.take n) a),[]) := by
      intro a h3 h4
      have := ih a.toNat (by omega) (by omega)
      rw [at0_take (by omega)]
      rw [Int.toNat_of_nonneg h3] at this
      exact this
    have g1 : (nds false 0 pl)[(n : Int).toNat]? = some (d.v false 0) := nds_get (by simpa using hx)
    rw [hv]
    refine fun_s rfl cd55 rfl rfl rfl (by simp;rfl) (by simp;rfl) ?_
    refine wa_ (wc_region (w_ (a_ (h:=wo_nil (e_ (h:=aft_normal (wa_ (wc_region (w_ (m_ (h:=w_ (m_ (h:=w_ (x_ (h:=w_ (l_ (h:=w_ (al (h:=?_)))))))))))))))))))
    refine w0 (s_ (h:=wo_nil (e_ (h:=aft_normal (wa_ (wa_ (wc_region (w_ (f_ (h:=w_ (l_ (h:=wo_nil (e_ (h:=aft_normal (wc_block (wa_ (?_)))))))))))))))))
    refine wc_region (w_ (bE (h:=w_ (a_ (h:=wo_nil (e_ (h:=aft_normal (?_))))))))
    refine c_ (h1:=?_) (h2:=?_)
    rotate_right 1
    focus
     intro c1
     first
     | exact dn c1
     | (have d1 := c1;try simp at d1
        refine wa_ (wc_region (w_ (bE (h:=w_ (a_ (h:=wo_nil (e_ (h:=aft_normal (?_)))))))))
        refine c_ (h1:=?_) (h2:=?_)
        rotate_right 1
        focus
         intro c2
         first
         | exact dn c2
         | (have d2 := c2;try simp at d2
            refine wa_ (wc_region (w_ (bE (h:=w_ (a_ (h:=wo_nil (e_ (h:=aft_normal (?_)))))))))
            refine c_ (h1:=?_) (h2:=?_)
            rotate_right 1
            focus
             intro c3
             first
             | exact dn c3
             | (have d3 := c3;try simp at d3
                refine wa_ (wa_ (wc_region (w_ (bE (h:=w_ (a_ (h:=wo_nil (e_ (h:=aft_normal (?_))))))))))
                refine c_ (h1:=?_) (h2:=?_)
                rotate_right 1
                focus
                 intro c4
                 first
                 | exact dn c4
                 | (have d4 := c4;try simp at d4
                    refine wa_ (wc_region (w_ (bE (h:=w_ (a_ (h:=wo_nil (e_ (h:=aft_normal (?_)))))))))
                    refine c_ (h1:=?_) (h2:=?_)
                    rotate_right 1
                    focus
                     intro c5
                     first
                     | exact dn c5
                     | (have d5 := c5;try simp at d5
                        refine wa_ (wc_region (w_ (bE (h:=w_ (a_ (h:=wo_nil (e_ (h:=aft_normal (?_)))))))))
                        refine c_ (h1:=?_) (h2:=?_)
                        rotate_right 1
                        focus
                         intro c6
                         first
                         | exact dn c6
                         | (have d6 := c6;try simp at d6
                            refine wc_region (w_ (bE (h:=w_ (a_ (h:=wo_nil (e_ (h:=?_)))))))
                            )
                        rotate_right 1
                        focus
                         intro c6
                         first
                         | exact dn c6
                         | (have d6 := c6;try simp at d6
                            refine wc_skip (?_)
                            )
                        )
                    rotate_right 1
                    focus
                     intro c5
                     first
                     | exact dn c5
                     | (have d5 := c5;try simp at d5
                        refine wc_skip (?_)
                        )
                    )
                rotate_right 1
                focus
                 intro c4
                 first
                 | exact dn c4
                 | (have d4 := c4;try simp at d4
                    refine wc_skip (?_)
                    )
                all_goals first
                | (refine aft_normal ?_
                   refine c_ (h1:=?_) (h2:=?_)
                   rotate_right 1
                   focus
                    intro c7
                    first
                    | exact dn c7
                    | (have d7 := c7;try simp at d7
                       obtain ⟨h3,h4⟩ := h1 (by omega)
                       refine wc_skip (?_)
                       )
                   rotate_right 1
                   focus
                    intro c7
                    first
                    | exact dn c7
                    | (have d7 := c7;try simp at d7
                       refine wa_ (wc_region (w_ (f_ (h:=w_ (l_ (h:=w_ (b_ (h:=w_ (a_ (h:=wo_nil (e_ (h:=aft_normal (wc_ret (?_))))))))))))))
                       )
                   )
                )
            rotate_right 1
            focus
             intro c3
             first
             | exact dn c3
             | (have d3 := c3;try simp at d3
                obtain ⟨h3,h4⟩ := h1 (by omega);obtain ⟨h5,h6⟩ := h2 (by omega)
                refine wa_ (wc_draw (y_ (m_ (h:=ax_ (h:=y_ (f_ (h:=ax_ (h:=y_ (l_ (h:=ax_ (h:=y_ (ca (hc:=hrec _ h3 h4) (h:=ax_ (h:=y_ (m_ (h:=ax_ (h:=y_ (f_ (h:=ax_ (h:=y_ (l_ (h:=ax_ (h:=y_ (ca (hc:=hrec _ h5 h6) (h:=ax_ (h:=y_ (b_ (h:=ax_ (h:=y_ (f_ (h:=ax_ (h:=?_))))))))))))))))))))))))))))))))
                refine y_ (l_ (h:=ax_ (h:=y_ (b_ (h:=ax_ (h:=y_ (a_ (h:=ax_ (h:=wo_nil (ed (h:=aft_normal (wc_ret (?_)))))))))))))
                )
            )
        rotate_right 1
        focus
         intro c2
         first
         | exact dn c2
         | (have d2 := c2;try simp at d2
            refine wa_ (wc_region (w_ (f_ (h:=w_ (l_ (h:=w_ (le (h:=w_ (a_ (h:=wo_nil (e_ (h:=aft_normal (wc_ret (?_))))))))))))))
            )
        )
    rotate_right 1
    focus
     intro c1
     first
     | exact dn c1
     | (have d1 := c1;try simp at d1
        refine wa_ (wc_region (w_ (f_ (h:=w_ (l_ (h:=w_ (a_ (h:=wo_nil (e_ (h:=aft_normal (wc_ret (?_))))))))))))
        )
    all_goals first | refine blk_normal ?_ | refine blk_ret ?_
    all_goals first
    | refine aft_ret ?_
    | (refine aft_normal ?_
       refine wa_ (wc_region (w_ (m_ (h:=w_ (f_ (h:=w_ (l_ (h:=w_ (ca (hc:=hrec _ h3 h4) (h:=w_ (a_ (h:=wo_nil (e_ (h:=aft_normal (wc_ret (?_))))))))))))))))
       )
    all_goals (refine fin_ (hr:=(res_tmp rfl res_nil)) (h:=?_);(focus (clear ih hrec hv G;simp [widthN];grind [inI])))
theorem e_l3Named (d : Nd) (hd : d.cells.length < 2000000) (ho : 1 ≤ d.op ∧ d.op ≤ 12) : oc.call 74 [d.v false 0] = some (.bool (decide (d = plainN d)),[]) := by
 refine fun_s rfl cd74 rfl rfl rfl (by simp;rfl) (by simp;rfl) ?_
 refine wa_ (wc_region (w_ (bx (h:=w_ (a_ (h:=wo_nil (e_ (h:=aft_normal (wa_ (wa_ (wc_region (w_ (f_ (h:=w_ (l_ (h:=w_ (ca (hc:=e_l3Reads _) (h:=?_))))))))))))))))))
 refine w_ (b_ (h:=w_ (m_ (h:=?_))))
 refine gw_ (h1:=?_) (h2:=?_)
 rotate_right 1
 focus
  intro c1
  first
  | exact dn c1
  | (
   have d1 := c1;try simp at d1
   refine go_ (h:=go_ (h:=go_ (h:=?_)))
   )
 rotate_right 1
 focus
  intro c1
  first
  | exact dn c1
  | (
   have d1 := c1;try simp at d1
   refine g_ (h:=w_ (f_ (h:=g_ (h:=w_ (l_ (h:=g_ (h:=w_ (bE (h:=?_)))))))))
   )
 all_goals
  refine w_ (pk (h:=w_ (m_ (h:=?_))))
  refine gw_ (h1:=?_) (h2:=?_)
  rotate_right 1
  focus
   intro c2
   first
   | exact dn c2
   | (
    have d2 := c2;try simp at d2
    refine go_ (h:=go_ (h:=go_ (h:=go_ (h:=go_ (h:=?_)))))
    )
  rotate_right 1
  focus
   intro c2
   first
   | exact dn c2
   | (
    have d2 := c2;try simp at d2
    refine g_ (h:=w_ (f_ (h:=g_ (h:=w_ (l_ (h:=g_ (h:=w_ (ca (hc:=e_l3Reads _) (h:=g_ (h:=w_ (b_ (h:=g_ (h:=w_ (m_ (h:=?_)))))))))))))))
    )
  all_goals
   first
   | (
    skip
    refine goN (h:=goN (h:=goN (h:=?_)))
    )
   | (
    refine gw_ (h1:=?_) (h2:=?_)
    rotate_right 1
    focus
     intro c3
     first
     | exact dn c3
     | (
      have d3 := c3;try simp at d3
      refine go_ (h:=go_ (h:=go_ (h:=?_)))
      )
    rotate_right 1
    focus
     intro c3
     first
     | exact dn c3
     | (
      have d3 := c3;try simp at d3
      refine g_ (h:=w_ (f_ (h:=g_ (h:=w_ (l_ (h:=g_ (h:=w_ (bE (h:=?_)))))))))
      )
    )
   all_goals
    first
    | (
     skip
     refine g_ (h:=w_ (pk (h:=?_)))
     )
    | (
     skip
     refine go_ (h:=?_)
     )
    all_goals
     refine w_ (pk (h:=wo_nil (e_ (h:=?_))))
 all_goals first
 | (
  refine aft_normal ?_
  refine c_ (h1:=?_) (h2:=?_)
  rotate_right 1
  focus
   intro c4
   first
   | exact dn c4
   | (
    have d4 := c4;try simp at d4
    refine wc_skip (?_)
    )
  rotate_right 1
  focus
   intro c4
   first
   | exact dn c4
   | (
    have d4 := c4;try simp at d4
    refine wa_ (wc_region (w_ (a_ (h:=wo_nil (e_ (h:=aft_normal (wc_ret (?_))))))))
    )
  )
 all_goals first
 | refine aft_ret ?_
 | (
  refine aft_normal ?_
  refine wa_ (wa_ (wc_region (w_ (f_ (h:=w_ (l_ (h:=w_ (bE (h:=w_ (m_ (h:=?_)))))))))))
  refine gw_ (h1:=?_) (h2:=?_)
  rotate_right 1
  focus
   intro c5
   first
   | exact dn c5
   | (
    have d5 := c5;try simp at d5
    refine go_ (h:=go_ (h:=go_ (h:=go_ (h:=?_))))
    )
  rotate_right 1
  focus
   intro c5
   first
   | exact dn c5
   | (
    have d5 := c5;try simp at d5
    refine g_ (h:=w_ (f_ (h:=g_ (h:=w_ (l_ (h:=g_ (h:=w_ (bE (h:=g_ (h:=w_ (m_ (h:=?_))))))))))))
    )
  all_goals
   first
   | (
    skip
    refine goN (h:=goN (h:=goN (h:=?_)))
    )
   | (
    refine gw_ (h1:=?_) (h2:=?_)
    rotate_right 1
    focus
     intro c6
     first
     | exact dn c6
     | (
      have d6 := c6;try simp at d6
      refine go_ (h:=go_ (h:=go_ (h:=?_)))
      )
    rotate_right 1
    focus
     intro c6
     first
     | exact dn c6
     | (
      have d6 := c6;try simp at d6
      refine g_ (h:=w_ (f_ (h:=g_ (h:=w_ (l_ (h:=g_ (h:=w_ (bE (h:=?_)))))))))
      )
    )
   all_goals
    first
    | (
     skip
     refine g_ (h:=w_ (pk (h:=?_)))
     )
    | (
     skip
     refine go_ (h:=?_)
     )
    all_goals
     refine w_ (pk (h:=w_ (m_ (h:=?_))))
     refine gw_ (h1:=?_) (h2:=?_)
     rotate_right 1
     focus
      intro c7
      first
      | exact dn c7
      | (
       have d7 := c7;try simp at d7
       refine go_ (h:=go_ (h:=go_ (h:=go_ (h:=?_))))
       )
     rotate_right 1
     focus
      intro c7
      first
      | exact dn c7
      | (
       have d7 := c7;try simp at d7
       refine g_ (h:=w_ (f_ (h:=g_ (h:=w_ (l_ (h:=g_ (h:=w_ (bE (h:=g_ (h:=w_ (m_ (h:=?_))))))))))))
       )
     all_goals
      first
      | (
       skip
       refine goN (h:=goN (h:=goN (h:=goN (h:=?_))))
       )
      | (
       refine gw_ (h1:=?_) (h2:=?_)
       rotate_right 1
       focus
        intro c8
        first
        | exact dn c8
        | (
         have d8 := c8;try simp at d8
         refine go_ (h:=go_ (h:=go_ (h:=go_ (h:=?_))))
         )
       rotate_right 1
       focus
        intro c8
        first
        | exact dn c8
        | (
         have d8 := c8;try simp at d8
         refine g_ (h:=w_ (f_ (h:=g_ (h:=w_ (l_ (h:=g_ (h:=w_ (le (h:=g_ (h:=w_ (b_ (h:=?_))))))))))))
         )
       )
      all_goals
       first
       | (
        skip
        refine g_ (h:=w_ (pk (h:=?_)))
        )
       | (
        skip
        refine go_ (h:=?_)
        )
       all_goals
        refine w_ (pk (h:=wo_nil (e_ (h:=?_))))
  all_goals first
  | (
   refine aft_normal ?_
   refine c_ (h1:=?_) (h2:=?_)
   rotate_right 1
   focus
    intro c9
    first
    | exact dn c9
    | (
     have d9 := c9;try simp at d9
     refine wc_skip (?_)
     )
   rotate_right 1
   focus
    intro c9
    first
    | exact dn c9
    | (
     have d9 := c9;try simp at d9
     refine wa_ (wc_region (w_ (a_ (h:=wo_nil (e_ (h:=aft_normal (wc_ret (?_))))))))
     )
   )
  all_goals first
  | refine aft_ret ?_
  | (
   refine aft_normal ?_
   refine wa_ (wa_ (wc_region (w_ (f_ (h:=w_ (l_ (h:=wo_nil (e_ (h:=aft_normal (wc_block (wa_ (wa_ (wc_region (w_ (bE (h:=?_))))))))))))))))
   refine w_ (a_ (h:=wo_nil (e_ (h:=aft_normal (?_)))))
   refine c_ (h1:=?_) (h2:=?_)
   rotate_right 1
   focus
    intro c10
    first
    | exact dn c10
    | (
     have d10 := c10;try simp at d10
     refine wa_ (wc_region (w_ (bE (h:=w_ (a_ (h:=wo_nil (e_ (h:=aft_normal (?_)))))))))
     refine c_ (h1:=?_) (h2:=?_)
     rotate_right 1
     focus
      intro c11
      first
      | exact dn c11
      | (
       have d11 := c11;try simp at d11
       refine wa_ (wc_region (w_ (bE (h:=w_ (a_ (h:=wo_nil (e_ (h:=aft_normal (?_)))))))))
       refine c_ (h1:=?_) (h2:=?_)
       rotate_right 1
       focus
        intro c12
        first
        | exact dn c12
        | (
         have d12 := c12;try simp at d12
         refine wa_ (wc_region (w_ (bE (h:=w_ (a_ (h:=wo_nil (e_ (h:=aft_normal (?_)))))))))
         refine c_ (h1:=?_) (h2:=?_)
         rotate_right 1
         focus
          intro c13
          first
          | exact dn c13
          | (
           have d13 := c13;try simp at d13
           refine wc_region (w_ (bE (h:=w_ (a_ (h:=wo_nil (e_ (h:=?_)))))))
           )
         rotate_right 1
         focus
          intro c13
          first
          | exact dn c13
          | (
           have d13 := c13;try simp at d13
           refine wc_skip (?_)
           )
         )
       rotate_right 1
       focus
        intro c12
        first
        | exact dn c12
        | (
         have d12 := c12;try simp at d12
         refine wc_skip (?_)
         )
       )
     rotate_right 1
     focus
      intro c11
      first
      | exact dn c11
      | (
       have d11 := c11;try simp at d11
       refine wc_skip (?_)
       )
     )
   rotate_right 1
   focus
    intro c10
    first
    | exact dn c10
    | (
     have d10 := c10;try simp at d10
     refine wc_skip (?_)
     )
   all_goals first
   | (
    refine aft_normal ?_
    refine c_ (h1:=?_) (h2:=?_)
    rotate_right 1
    focus
     intro c14
     first
     | exact dn c14
     | (
      have d14 := c14;try simp at d14
      refine wc_skip (?_)
      )
    rotate_right 1
    focus
     intro c14
     first
     | exact dn c14
     | (
      have d14 := c14;try simp at d14
      refine wa_ (wc_region (w_ (f_ (h:=w_ (l_ (h:=w_ (bE (h:=w_ (a_ (h:=wo_nil (e_ (h:=aft_normal (wc_ret (?_))))))))))))))
      )
    )
   all_goals first | refine blk_normal ?_ | refine blk_ret ?_
   all_goals first
   | refine aft_ret ?_
   | (
    refine aft_normal ?_
    refine wa_ (wc_region (w_ (a_ (h:=wo_nil (e_ (h:=aft_normal (wc_ret (?_))))))))
    )
   )
  )
 all_goals (refine fin_ (hr:=(res_tmp rfl res_nil)) (h:=?_);(focus (simp [Nd.eq_iff,plainN];grind)))
theorem reads_len (d : Nd) : ((readsN d).length : Int) = if d.op = 1 then 0 else if d.op = 4 ∨ d.op = 6 then 2 else 1 := by
  unfold readsN
  split
  · simp
  · split <;> simp
theorem reads_at {d : Nd} {k : Nat} (h : k < (readsN d).length) : (readsN d).drop k = (if k = 1 then d.b else d.a) :: (readsN d).drop (k + 1) := by
  rw [List.drop_eq_getElem_cons h]
  congr 1
  unfold readsN at h ⊢
  split at h
  · simp at h
  · split at h
    · simp at h
      rcases k with _ | _ | k
      · simp [*]
      · simp [*]
      · omega
    · simp at h
      subst h
      simp [*]
theorem l_readsS (pl : List Nd) (d : Nd) (i : Nat) (hp : pl.length < 2000000) (hi : i ≤ pl.length) : ∀ k : Nat,k ≤ (readsN d).length → ∀ s,normE 2 (some [0,1,5,6]) s = ⟨[(0,.lst false 0 (nds false 0 pl)),(1,.int .i64 i),(5,.ptr 2 0 []),(6,.int .i64 k)],[(2,⟨true,false,7,[d.v false 0],0⟩)],3⟩ →
 oc.loop 34 7 s = some (if ((readsN d).drop k).all (okR pl i) = true then (.exit 0,⟨[(0,.lst false 0 (nds false 0 pl)),(5,.ptr 2 0 [])],[(2,⟨true,false,7,[d.v false 0],0⟩)],3⟩)
  else (.ret,⟨[(0,.lst false 0 (nds false 0 pl)),(4,.int .i64 3),(5,.ptr 2 0 [])],[(2,⟨true,false,7,[d.v false 0],0⟩)],3⟩)) := by
 refine loop_ind (fun k => (readsN d).length - k) _ (fun k => ⟨[(0,.lst false 0 (nds false 0 pl)),(1,.int .i64 i),(5,.ptr 2 0 []),(6,.int .i64 k)],[(2,⟨true,false,7,[d.v false 0],0⟩)],3⟩) _ ?_
 intro k hk ih s hs
 have hw2 : IntKind.i64.wrap ((i : Int) - 1) = i - 1 := wrap_id (by omega) (by omega)
 have hlen := reads_len d
 have hle : (readsN d).length ≤ 2 := by unfold readsN;split;simp;split <;> simp
 have hw := wrap_succ (i:=k) (by omega)
 refine loop_s cd34 rfl rfl hs ?_
 refine wa_ (wa_ (wc_region (w_ (m_ (h:=w_ (f_ (h:=w_ (l_ (h:=w_ (ca (hc:=e_l3Reads _) (h:=w_ (b_ (h:=wo_nil (e_ (h:=aft_normal (?_))))))))))))))))
 refine c_ (h1:=?_) (h2:=?_)
 rotate_right 1
 focus
  intro c1
  first
  | exact dn c1
  | (
   have d1 := c1;try simp at d1
   rw [← hlen] at d1;have : k = (readsN d).length := (by omega)
   refine wc_exit (?_)
   )
 rotate_right 1
 focus
  intro c1
  first
  | exact dn c1
  | (
   have d1 := c1;try simp at d1
   rw [← hlen] at d1;have e1 := reads_at (d:=d) (k:=k) (by omega)
   refine wc_skip (?_)
   )
 all_goals first
 | refine aft_exit ?_
 | (
  refine aft_normal ?_
  refine wa_ (wc_block (wa_ (wc_region (w_ (f_ (h:=w_ (l_ (h:=w_ (a_ (h:=wo_nil (e_ (h:=aft_normal (wa_ (wa_ (wc_region (?_))))))))))))))))
  refine w_ (m_ (h:=w_ (bE (h:=wo_nil (e_ (h:=aft_normal (?_)))))))
  refine c_ (h1:=?_) (h2:=?_)
  rotate_right 1
  focus
   intro c2
   first
   | exact dn c2
   | (
    have d2 := c2;try simp at d2
    refine wc_skip (?_)
    )
  rotate_right 1
  focus
   intro c2
   first
   | exact dn c2
   | (
    have d2 := c2;try simp at d2
    refine wc_region (w_ (f_ (h:=w_ (l_ (h:=w_ (a_ (h:=wo_nil (e_ (h:=?_)))))))))
    )
  all_goals first
  | (
   refine aft_normal ?_
   refine wa_ (wc_region (w_ (m_ (h:=w_ (m_ (h:=w_ (b_ (h:=w_ (ca (hc:=e_l1In _ _ _) (h:=w_ (u_ (h:=w_ (m_ (h:=?_))))))))))))))
   refine gw_ (h1:=?_) (h2:=?_)
   rotate_right 1
   focus
    intro c3
    first
    | exact dn c3
    | (
     have d3 := c3;try simp at d3
     refine go_ (h:=go_ (h:=go_ (h:=go_ (h:=go_ (h:=go_ (h:=?_))))))
     )
   rotate_right 1
   focus
    intro c3
    first
    | exact dn c3
    | (
     have d3 := c3;try simp at d3
     simp [inI,hw2] at d3;obtain ⟨h3,h4⟩ := d3;obtain ⟨e,g2,g3⟩ := nds_ix (t:=false) (s:=0) (l:=pl) h3 (by omega)
     refine g_ (h:=w_ (m_ (h:=g_ (h:=w_ (m_ (h:=g_ (h:=w_ (x_ (h:=g_ (h:=w_ (f_ (h:=g_ (h:=w_ (l_ (h:=g_ (h:=w_ (bE (h:=?_))))))))))))))))))
     )
   all_goals
    refine w_ (pk (h:=wo_nil (e_ (h:=?_))))
   all_goals first
   | (
    refine aft_normal ?_
    refine c_ (h1:=?_) (h2:=?_)
    rotate_right 1
    focus
     intro c4
     first
     | exact dn c4
     | (
      have d4 := c4;try simp at d4
      refine wc_skip (?_)
      )
    rotate_right 1
    focus
     intro c4
     first
     | exact dn c4
     | (
      have d4 := c4;try simp at d4
      refine wa_ (wc_region (w_ (a_ (h:=wo_nil (e_ (h:=aft_normal (wc_ret (?_))))))))
      )
    )
   )
  all_goals first | refine blk_normal ?_ | refine blk_ret ?_
  all_goals first
  | refine aft_ret ?_
  | (
   refine aft_normal ?_
   refine wc_region (w_ (m_ (h:=w_ (b_ (h:=w_ (a_ (h:=wo_nil (e_ (h:=?_)))))))))
   )
  )
 all_goals first
 | (refine (ih (k + 1) (by omega) ?_ _ ?_).trans ?_;(focus (first | omega | (simp;done) | (simp;omega)));(focus (simp [normE,hw];done));(focus (rw [e1];simp [okR] at *;grind)))
 | (apply end_leaf (ex:=Ext.ret) 2 (some [0,4,5]);(focus (simp [normE];rfl));(focus (rw [e1];simp [okR] at *;grind)))
 | (apply end_leaf (ex:=(Ext.exit 0)) 2 (some [0,4,5]);(focus (simp [normE];rfl));(focus (rw [List.drop_eq_nil_of_le (by omega)];simp)))
theorem l_cellsS (d : Nd) (v : Int) (hd : d.cells.length < 2000000) : ∀ i : Nat,i ≤ d.cells.length → ∀ s,normE 2 (some [5,8,9]) s = ⟨[(5,.ptr 2 0 []),(8,.int .i64 v),(9,.int .i64 i)],[(2,⟨true,false,7,[d.v false 0],0⟩)],3⟩ →
 oc.loop 34 27 s = some (if ((d.cells.drop i).all fun c => inI c 0 (IntKind.i64.wrap (v - 1))) = true then (.exit 3,⟨[],[],2⟩) else (.ret,⟨[(4,.int .i64 3)],[],2⟩)) := by
 refine loop_ind (fun i => d.cells.length - i) _ (fun i => ⟨[(5,.ptr 2 0 []),(8,.int .i64 v),(9,.int .i64 i)],[(2,⟨true,false,7,[d.v false 0],0⟩)],3⟩) _ ?_
 intro i hi ih s hs
 refine loop_s cd34 rfl rfl hs ?_
 refine wa_ (wa_ (wc_region (w_ (m_ (h:=w_ (f_ (h:=w_ (l_ (h:=w_ (le (h:=w_ (b_ (h:=wo_nil (e_ (h:=aft_normal (?_))))))))))))))))
 refine c_ (h1:=?_) (h2:=?_)
 rotate_right 1
 focus
  intro c1
  simp at c1;have : i = d.cells.length := (by omega);subst this
  refine wc_exit (?_)
 rotate_right 1
 focus
  intro c1
  simp at c1;have hw := wrap_succ (i:=i) (by omega);obtain ⟨x,_,d1,g1⟩ := ints_cut c1
  refine wc_skip (?_)
 all_goals first
 | refine aft_exit ?_
 | (
  refine aft_normal ?_
  refine wa_ (wc_block (wa_ (wc_region (w_ (f_ (h:=w_ (l_ (h:=w_ (m_ (h:=w_ (x_ (h:=w_ (l_ (h:=w_ (m_ (h:=w_ (b_ (h:=w_ (ca (hc:=e_l1In _ _ _) (h:=?_))))))))))))))))))))
  refine w_ (u_ (h:=wo_nil (e_ (h:=aft_normal (?_)))))
  refine c_ (h1:=?_) (h2:=?_)
  rotate_right 1
  focus
   intro c2
   refine wc_skip (?_)
  rotate_right 1
  focus
   intro c2
   refine wa_ (wc_region (w_ (a_ (h:=wo_nil (e_ (h:=aft_normal (wc_ret (?_))))))))
  all_goals first | refine blk_normal ?_ | refine blk_ret ?_
  all_goals first
  | refine aft_ret ?_
  | (
   refine aft_normal ?_
   refine wc_region (w_ (m_ (h:=w_ (b_ (h:=w_ (a_ (h:=wo_nil (e_ (h:=?_)))))))))
   )
  )
 all_goals first
 | (refine (ih (i + 1) (by omega) ?_ _ ?_).trans ?_;(focus (first | omega | (simp;done) | (simp;omega)));(focus (simp [normE,hw];done));(focus (rw [d1];simp at c2 ⊢;grind)))
 | (apply end_leaf (ex:=Ext.ret) 2 (some [4]);(focus (simp [normE];rfl));(focus (rw [d1];simp at c2 ⊢;grind)))
 | (apply end_leaf (ex:=(Ext.exit 3)) 2 (some [4]);(focus (simp [normE];rfl));(focus (simp)))
theorem e_l3WidthI (pl : List Nd) (ws : List Int) (hp : pl.length < 2000000) (G : Good pl ws) (a : Int) (h0 : 0 ≤ a) (h1 : a < ws.length) : oc.call 55 [.lst false 0 (nds false 0 pl),.int .i64 a] = some (.int .i64 (at0 ws a),[]) := by
  have := e_l3Width pl ws hp G a.toNat (by omega)
  rwa [Int.toNat_of_nonneg h0] at this
def Hid (p : Prop) : Prop := p
theorem e_l3Node (pl : List Nd) (ws : List Int) (d : Nd) (hp : pl.length < 2000000) (hk : okN pl) (G : Good pl ws) (hx : pl[ws.length]? = some d) : oc.call 34 [.lst false 0 (nds false 0 pl),.int .i64 ws.length] = some (.int .i64 (stepC pl d ws),[]) := by
 have hd := hk d (List.mem_of_getElem? hx)
 have hlt : ws.length < pl.length := (List.getElem?_eq_some_iff.mp hx).1
 have g1 : (nds false 0 pl)[(ws.length : Int).toNat]? = some (d.v false 0) := nds_get (by simpa using hx)
 refine fun_s rfl cd34 rfl rfl rfl (by simp;rfl) (by simp;rfl) ?_
 refine wa_ (wc_region (w_ (a_ (h:=wo_nil (e_ (h:=aft_normal (wa_ (wc_region (w_ (m_ (h:=w_ (m_ (h:=w_ (x_ (h:=w_ (l_ (h:=w_ (al (h:=?_)))))))))))))))))))
 refine w0 (s_ (h:=wo_nil (e_ (h:=aft_normal (wa_ (wa_ (wc_region (w_ (f_ (h:=w_ (l_ (h:=w_ (ca (hc:=e_l1In _ _ _) (h:=w_ (u_ (h:=wo_nil (e_ (h:=aft_normal (?_)))))))))))))))))))
 refine c_ (h1:=?_) (h2:=?_)
 rotate_right 1
 focus
  intro c1
  first
  | exact dn c1
  | (
   have d1 := c1;try simp at d1
   refine wc_skip (?_)
   )
 rotate_right 1
 focus
  intro c1
  first
  | exact dn c1
  | (
   have d1 := c1;try simp at d1
   refine wa_ (wc_region (w_ (a_ (h:=wo_nil (e_ (h:=aft_normal (wc_ret (?_))))))))
   )
 all_goals first
 | refine aft_ret ?_
 | (
  refine aft_normal ?_
  refine wa_ (wa_ (wc_region (w_ (l_ (h:=w_ (ca (hc:=e_l3Named d hd (by simp [inI] at d1;omega)) (h:=w_ (u_ (h:=wo_nil (e_ (h:=aft_normal (?_))))))))))))
  refine c_ (h1:=?_) (h2:=?_)
  rotate_right 1
  focus
   intro c2
   first
   | exact dn c2
   | (
    have d2 := c2;try simp at d2
    have hpl : Hid (d = plainN d) := d2;clear d2 c2
    refine wc_skip (?_)
    )
  rotate_right 1
  focus
   intro c2
   first
   | exact dn c2
   | (
    have d2 := c2;try simp at d2
    refine wa_ (wc_region (w_ (a_ (h:=wo_nil (e_ (h:=aft_normal (wc_ret (?_))))))))
    )
  all_goals first
  | refine aft_ret ?_
  | (
   refine aft_normal ?_
   refine wa_ (wa_ (wc_region (w_ (a_ (h:=wo_nil (e_ (h:=aft_normal (wc_block (?_)))))))))
   refine wc_loopI (l_readsS pl d ws.length (by omega) (by omega) 0 (by omega) _ (by simp [normE])) ?_ ?_
   rotate_right 1
   focus
    intro c3
    first
    | exact dn c3
    | (
     have d3 := c3;try simp at d3
     have d3' : (readsN d).all (okR pl ws.length) = false := (by simpa using c3)
     skip
     )
   rotate_right 1
   focus
    intro c3
    first
    | exact dn c3
    | (
     have d3 := c3;try simp at d3
     have d3' : (readsN d).all (okR pl ws.length) = true := (by simpa using c3);obtain ⟨k1,k2⟩ := fit_of (i:=ws.length) (by omega) (by simpa using c3)
     skip
     )
   all_goals first | refine blk_ret ?_ | refine blk_exit ?_
   all_goals first
   | refine aft_ret ?_
   | (
    refine aft_normal ?_
    refine wa_ (wa_ (wc_region (w_ (f_ (h:=w_ (l_ (h:=w_ (bE (h:=wo_nil (e_ (h:=aft_normal (?_))))))))))))
    refine c_ (h1:=?_) (h2:=?_)
    rotate_right 1
    focus
     intro c4
     first
     | exact dn c4
     | (
      have d4 := c4;try simp at d4
      obtain ⟨h3,h4⟩ := k1 (by omega)
      refine wc_skip (?_)
      )
    rotate_right 1
    focus
     intro c4
     first
     | exact dn c4
     | (
      have d4 := c4;try simp at d4
      refine wa_ (wa_ (wc_region (w_ (f_ (h:=w_ (l_ (h:=w_ (ca (hc:=e_l1In _ _ _) (h:=w_ (u_ (h:=wo_nil (e_ (h:=aft_normal (?_))))))))))))))
      refine c_ (h1:=?_) (h2:=?_)
      rotate_right 1
      focus
       intro c5
       first
       | exact dn c5
       | (
        have d5 := c5;try simp at d5
        refine wc_skip (?_)
        )
      rotate_right 1
      focus
       intro c5
       first
       | exact dn c5
       | (
        have d5 := c5;try simp at d5
        refine wa_ (wc_region (w_ (a_ (h:=wo_nil (e_ (h:=aft_normal (wc_ret (?_))))))))
        )
      all_goals first
      | refine aft_ret ?_
      | (
       refine aft_normal ?_
       refine wa_ (wc_region (w_ (a_ (h:=wo_nil (e_ (h:=aft_normal (wc_ret (?_))))))))
       )
      )
    all_goals first
    | refine aft_ret ?_
    | (
     refine aft_normal ?_
     refine wa_ (wc_region (w_ (m_ (h:=w_ (f_ (h:=w_ (l_ (h:=w_ (ca (hc:=e_l3WidthI pl ws hp G _ h3 h4) (h:=w_ (a_ (h:=wo_nil (e_ (h:=aft_normal (wa_ (wa_ (wc_region (?_))))))))))))))))))
     refine w_ (f_ (h:=w_ (l_ (h:=wo_nil (e_ (h:=aft_normal (wc_block (wa_ (wc_region (w_ (bE (h:=w_ (a_ (h:=wo_nil (e_ (h:=aft_normal (?_)))))))))))))))))
     refine c_ (h1:=?_) (h2:=?_)
     rotate_right 1
     focus
      intro c6
      first
      | exact dn c6
      | (
       have d6 := c6;try simp at d6
       refine wa_ (wc_region (w_ (bE (h:=w_ (a_ (h:=wo_nil (e_ (h:=aft_normal (?_)))))))))
       refine c_ (h1:=?_) (h2:=?_)
       rotate_right 1
       focus
        intro c7
        first
        | exact dn c7
        | (
         have d7 := c7;try simp at d7
         refine wa_ (wc_region (w_ (bE (h:=w_ (a_ (h:=wo_nil (e_ (h:=aft_normal (?_)))))))))
         refine c_ (h1:=?_) (h2:=?_)
         rotate_right 1
         focus
          intro c8
          first
          | exact dn c8
          | (
           have d8 := c8;try simp at d8
           refine wa_ (wc_region (w_ (bE (h:=w_ (a_ (h:=wo_nil (e_ (h:=aft_normal (?_)))))))))
           refine c_ (h1:=?_) (h2:=?_)
           rotate_right 1
           focus
            intro c9
            first
            | exact dn c9
            | (
             have d9 := c9;try simp at d9
             refine wa_ (wc_region (w_ (bE (h:=w_ (a_ (h:=wo_nil (e_ (h:=aft_normal (?_)))))))))
             refine c_ (h1:=?_) (h2:=?_)
             rotate_right 1
             focus
              intro c10
              first
              | exact dn c10
              | (
               have d10 := c10;try simp at d10
               refine wa_ (wa_ (wc_region (w_ (bE (h:=w_ (a_ (h:=wo_nil (e_ (h:=aft_normal (?_))))))))))
               refine c_ (h1:=?_) (h2:=?_)
               rotate_right 1
               focus
                intro c11
                first
                | exact dn c11
                | (
                 have d11 := c11;try simp at d11
                 refine wa_ (wc_region (w_ (bE (h:=w_ (a_ (h:=wo_nil (e_ (h:=aft_normal (?_)))))))))
                 refine c_ (h1:=?_) (h2:=?_)
                 rotate_right 1
                 focus
                  intro c12
                  first
                  | exact dn c12
                  | (
                   have d12 := c12;try simp at d12
                   refine wc_region (w_ (bE (h:=w_ (a_ (h:=wo_nil (e_ (h:=?_)))))))
                   )
                 rotate_right 1
                 focus
                  intro c12
                  first
                  | exact dn c12
                  | (
                   have d12 := c12;try simp at d12
                   refine wc_skip (?_)
                   )
                 )
               rotate_right 1
               focus
                intro c11
                first
                | exact dn c11
                | (
                 have d11 := c11;try simp at d11
                 refine wc_skip (?_)
                 )
               all_goals first
               | (
                refine aft_normal ?_
                refine c_ (h1:=?_) (h2:=?_)
                rotate_right 1
                focus
                 intro c13
                 first
                 | exact dn c13
                 | (
                  have d13 := c13;try simp at d13
                  refine wc_skip (?_)
                  )
                rotate_right 1
                focus
                 intro c13
                 first
                 | exact dn c13
                 | (
                  have d13 := c13;try simp at d13
                  refine wa_ (wc_region (w_ (f_ (h:=w_ (l_ (h:=w_ (m_ (h:=w_ (b_ (h:=w_ (ca (hc:=e_l1In _ _ _) (h:=w_ (u_ (h:=wo_nil (e_ (h:=aft_normal (?_)))))))))))))))))
                  refine c_ (h1:=?_) (h2:=?_)
                  rotate_right 1
                  focus
                   intro c14
                   first
                   | exact dn c14
                   | (
                    have d14 := c14;try simp at d14
                    refine wc_skip (?_)
                    )
                  rotate_right 1
                  focus
                   intro c14
                   first
                   | exact dn c14
                   | (
                    have d14 := c14;try simp at d14
                    refine wa_ (wc_region (w_ (a_ (h:=wo_nil (e_ (h:=aft_normal (wc_ret (?_))))))))
                    )
                  )
                )
               )
             rotate_right 1
             focus
              intro c10
              first
              | exact dn c10
              | (
               have d10 := c10;try simp at d10
               refine wa_ (wc_draw (y_ (f_ (h:=ax_ (h:=y_ (l_ (h:=ax_ (h:=y_ (m_ (h:=ax_ (h:=y_ (ca (hc:=e_l1Min _ _) (h:=ax_ (h:=y_ (ca (hc:=e_l1In _ _ _) (h:=ax_ (h:=y_ (u_ (h:=ax_ (h:=wo_nil (ed (h:=aft_normal (?_)))))))))))))))))))))))
               refine c_ (h1:=?_) (h2:=?_)
               rotate_right 1
               focus
                intro c15
                first
                | exact dn c15
                | (
                 have d15 := c15;try simp at d15
                 refine wc_skip (?_)
                 )
               rotate_right 1
               focus
                intro c15
                first
                | exact dn c15
                | (
                 have d15 := c15;try simp at d15
                 refine wa_ (wc_region (w_ (a_ (h:=wo_nil (e_ (h:=aft_normal (wc_ret (?_))))))))
                 )
               )
             )
           rotate_right 1
           focus
            intro c9
            first
            | exact dn c9
            | (
             have d9 := c9;try simp at d9
             obtain ⟨h5,h6⟩ := k2 (by omega)
             refine wa_ (wc_region (w_ (m_ (h:=w_ (f_ (h:=w_ (l_ (h:=w_ (ca (hc:=e_l3WidthI pl ws hp G _ h5 h6) (h:=w_ (a_ (h:=wo_nil (e_ (h:=aft_normal (wa_ (wa_ (wc_draw (?_))))))))))))))))))
             refine y_ (f_ (h:=ax_ (h:=y_ (l_ (h:=ax_ (h:=y_ (m_ (h:=ax_ (h:=y_ (m_ (h:=ax_ (h:=y_ (ca (hc:=e_l1Min _ _) (h:=ax_ (h:=y_ (ca (hc:=e_l1In _ _ _) (h:=ax_ (h:=y_ (u_ (h:=ax_ (h:=wo_nil (ed (h:=aft_normal (?_))))))))))))))))))))))))
             refine c_ (h1:=?_) (h2:=?_)
             rotate_right 1
             focus
              intro c16
              first
              | exact dn c16
              | (
               have d16 := c16;try simp at d16
               refine wc_skip (?_)
               )
             rotate_right 1
             focus
              intro c16
              first
              | exact dn c16
              | (
               have d16 := c16;try simp at d16
               refine wa_ (wc_region (w_ (a_ (h:=wo_nil (e_ (h:=aft_normal (wc_ret (?_))))))))
               )
             all_goals first
             | refine aft_ret ?_
             | (
              refine aft_normal ?_
              refine wa_ (wc_region (w_ (m_ (h:=w_ (m_ (h:=w_ (b_ (h:=w_ (f_ (h:=w_ (l_ (h:=w_ (b_ (h:=w_ (b_ (h:=wo_nil (e_ (h:=aft_normal (?_)))))))))))))))))))
              refine c_ (h1:=?_) (h2:=?_)
              rotate_right 1
              focus
               intro c17
               first
               | exact dn c17
               | (
                have d17 := c17;try simp at d17
                refine wc_skip (?_)
                )
              rotate_right 1
              focus
               intro c17
               first
               | exact dn c17
               | (
                have d17 := c17;try simp at d17
                refine wa_ (wc_region (w_ (a_ (h:=wo_nil (e_ (h:=aft_normal (wc_ret (?_))))))))
                )
              )
             )
           )
         rotate_right 1
         focus
          intro c8
          first
          | exact dn c8
          | (
           have d8 := c8;try simp at d8
           obtain ⟨h5,h6⟩ := k2 (by omega)
           refine wa_ (wc_region (w_ (m_ (h:=w_ (m_ (h:=w_ (f_ (h:=w_ (l_ (h:=w_ (ca (hc:=e_l3WidthI pl ws hp G _ h5 h6) (h:=w_ (bE (h:=wo_nil (e_ (h:=aft_normal (?_)))))))))))))))))
           refine c_ (h1:=?_) (h2:=?_)
           rotate_right 1
           focus
            intro c18
            first
            | exact dn c18
            | (
             have d18 := c18;try simp at d18
             refine wc_skip (?_)
             )
           rotate_right 1
           focus
            intro c18
            first
            | exact dn c18
            | (
             have d18 := c18;try simp at d18
             refine wa_ (wc_region (w_ (a_ (h:=wo_nil (e_ (h:=aft_normal (wc_ret (?_))))))))
             )
           )
         )
       rotate_right 1
       focus
        intro c7
        first
        | exact dn c7
        | (
         have d7 := c7;try simp at d7
         refine wa_ (wa_ (wc_region (w_ (f_ (h:=w_ (l_ (h:=w_ (le (h:=w_ (b_ (h:=w_ (m_ (h:=?_)))))))))))))
         refine gw_ (h1:=?_) (h2:=?_)
         rotate_right 1
         focus
          intro c19
          first
          | exact dn c19
          | (
           have d19 := c19;try simp at d19
           refine go_ (h:=go_ (h:=go_ (h:=go_ (h:=?_))))
           )
         rotate_right 1
         focus
          intro c19
          first
          | exact dn c19
          | (
           have d19 := c19;try simp at d19
           refine g_ (h:=w_ (f_ (h:=g_ (h:=w_ (l_ (h:=g_ (h:=w_ (le (h:=g_ (h:=w_ (b_ (h:=?_))))))))))))
           )
         all_goals
          refine w_ (pk (h:=wo_nil (e_ (h:=?_))))
         all_goals first
         | (
          refine aft_normal ?_
          refine c_ (h1:=?_) (h2:=?_)
          rotate_right 1
          focus
           intro c20
           first
           | exact dn c20
           | (
            have d20 := c20;try simp at d20
            refine wc_skip (?_)
            )
          rotate_right 1
          focus
           intro c20
           first
           | exact dn c20
           | (
            have d20 := c20;try simp at d20
            refine wa_ (wc_region (w_ (a_ (h:=wo_nil (e_ (h:=aft_normal (wc_ret (?_))))))))
            )
          )
         all_goals first
         | refine aft_ret ?_
         | (
          refine aft_normal ?_
          refine wa_ (wc_region (w_ (a_ (h:=wo_nil (e_ (h:=aft_normal (wc_block (?_))))))))
          refine wc_loopI (l_cellsS d (at0 ws d.a) hd 0 (by omega) _ (by simp [normE])) ?_ ?_
          rotate_right 1
          focus
           intro c21
           first
           | exact dn c21
           | (
            have d21 := c21;try simp at d21
            skip
            )
          rotate_right 1
          focus
           intro c21
           first
           | exact dn c21
           | (
            have d21 := c21;try simp at d21
            skip
            )
          all_goals first | refine blk_ret ?_ | refine blk_exit ?_
          )
         )
       )
     rotate_right 1
     focus
      intro c6
      first
      | exact dn c6
      | (
       have d6 := c6;try simp at d6
       refine wa_ (wc_region (w_ (f_ (h:=w_ (l_ (h:=w_ (m_ (h:=w_ (b_ (h:=w_ (ca (hc:=e_l1In _ _ _) (h:=w_ (u_ (h:=w_ (m_ (h:=?_))))))))))))))))
       refine gw_ (h1:=?_) (h2:=?_)
       rotate_right 1
       focus
        intro c22
        first
        | exact dn c22
        | (
         have d22 := c22;try simp at d22
         refine go_ (h:=go_ (h:=go_ (h:=go_ (h:=?_))))
         )
       rotate_right 1
       focus
        intro c22
        first
        | exact dn c22
        | (
         have d22 := c22;try simp at d22
         refine g_ (h:=w_ (f_ (h:=g_ (h:=w_ (l_ (h:=g_ (h:=w_ (ca (hc:=e_l1In _ _ _) (h:=g_ (h:=w_ (u_ (h:=?_))))))))))))
         )
       all_goals
        refine w_ (pk (h:=w_ (m_ (h:=?_))))
        refine gw_ (h1:=?_) (h2:=?_)
        rotate_right 1
        focus
         intro c23
         first
         | exact dn c23
         | (
          have d23 := c23;try simp at d23
          refine go_ (h:=go_ (h:=go_ (h:=go_ (h:=?_))))
          )
        rotate_right 1
        focus
         intro c23
         first
         | exact dn c23
         | (
          have d23 := c23;try simp at d23
          refine g_ (h:=w_ (f_ (h:=g_ (h:=w_ (l_ (h:=g_ (h:=w_ (ca (hc:=e_l1In _ _ _) (h:=g_ (h:=w_ (u_ (h:=?_))))))))))))
          )
        all_goals
         refine w_ (pk (h:=wo_nil (e_ (h:=?_))))
       all_goals first
       | (
        refine aft_normal ?_
        refine c_ (h1:=?_) (h2:=?_)
        rotate_right 1
        focus
         intro c24
         first
         | exact dn c24
         | (
          have d24 := c24;try simp at d24
          refine wc_skip (?_)
          )
        rotate_right 1
        focus
         intro c24
         first
         | exact dn c24
         | (
          have d24 := c24;try simp at d24
          refine wa_ (wc_region (w_ (a_ (h:=wo_nil (e_ (h:=aft_normal (wc_ret (?_))))))))
          )
        )
       )
     all_goals first | refine blk_normal ?_ | refine blk_ret ?_
     all_goals first
     | refine aft_ret ?_
     | (
      refine aft_normal ?_
      refine wa_ (wc_region (w_ (a_ (h:=wo_nil (e_ (h:=aft_normal (wc_ret (?_))))))))
      )
     )
    )
   )
  )
 all_goals (refine fin_ (hr:=(res_tmp rfl res_nil)) (h:=?_);(focus (clear hk G;simp only [Hid] at *;simp [stepC,faultN,widthN];grind [inI])))
end Go.Proofs.Ytbcgenkegnmkhaa.Ev
