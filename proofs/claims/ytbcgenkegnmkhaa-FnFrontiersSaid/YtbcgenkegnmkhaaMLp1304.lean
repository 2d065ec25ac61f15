/- Part 4 of the proof that the law named in the last part returns true at every argument: an evaluator of the program, shown sound, and its runs. No further conditions. -/
import Derived.Test.YtbcgenkegnmkhaaMLp1303
import Derived.Test.YtbcgenkegnmkhaaProg
import Derived.KernelRfl
namespace Go.Proofs.Ytbcgenkegnmkhaa.Ev
open Go
set_option maxRecDepth 100000
def tyZ : List (Nat × V) := [
  (1,.und),
  (2,.int .i64 0),
  (3,.int .i64 0),
  (4,.bool false),
  (5,.int .u8 0),
  (6,.int .u8 0),
  (12,.int .u64 0),
  (22,.lst true 1 []),
  (24,.lst true 7 []),
  (29,.lst true 3 []),
  (33,.agg [.int .i64 0,.lst true 3 []]),
  (38,.agg [.int .i64 0,.int .i64 0]),
  (42,.agg [.int .i64 0,.int .i64 0,.int .i64 0]),
  (43,.lst true 7 []),
  (44,.lst true 2 []),
  (47,.lst true 6 []),
  (48,.lst true 1 []),
  (50,.agg [.int .i64 0,.lst true 6 [],.lst true 1 []]),
  (53,.lst true 2 []),
  (62,.und),
  (82,.agg [.int .i64 0,.int .i64 0,.int .i64 0,.int .i64 0,.int .i64 0,.int .i64 0,.lst true 1 []]),
  (85,.agg [.lst true 1 [],.int .i64 0]),
  (91,.agg [.int .i64 0,.int .i64 0,.int .i64 0,.int .i64 0,.int .i64 0,.int .i64 0,.lst true 1 []]),
  (93,.agg [.lst true 1 [],.int .i64 0]),
  (104,.agg [.lst true 1 [],.int .i64 0]),
  (111,.und),
  (114,.und),
  (117,.und),
  (119,.und),
  (124,.lst true 1 []),
  (127,.agg [.int .i64 0,.int .i64 0,.int .i64 0,.int .i64 0,.lst true 2 [],.lst true 3 []]),
  (137,.lst true 1 []),
  (153,.lst true 1 []),
  (155,.int .u64 0)]
def tyE : List (Nat × TypeId) := [(22,5),(24,91),(29,42),(43,82),(44,85),(47,127),(48,2),(53,93),(124,53),(137,29),(153,3)]
def tyF : List (Nat × List (Nat × TypeId)) := [
  (33,[(0,2),(1,29)]),
  (38,[(0,2),(1,2)]),
  (42,[(0,2),(1,2),(2,2)]),
  (50,[(0,2),(1,47),(2,48)]),
  (82,[(0,2),(1,2),(2,2),(3,2),(4,2),(5,2),(6,48)]),
  (85,[(0,48),(1,2)]),
  (91,[(0,2),(1,2),(2,2),(3,2),(4,2),(5,2),(6,48)]),
  (93,[(0,48),(1,2)]),
  (104,[(0,22),(1,2)]),
  (127,[(0,2),(1,2),(2,2),(3,2),(4,53),(5,29)])]
def tyI : List (Nat × IntKind) := [(2,.i64),(3,.i64),(5,.u8),(6,.u8),(12,.u64),(155,.u64)]
abbrev tys : Tys := ⟨geta tyZ,geta tyE,geta tyF,geta tyI⟩
def keepT : FuncId→Nat→Option (List Nat)
  | 3,8 => some [3,6,7]
  | 3,13 => some [3,6,7,8]
  | 3,19 => some [3,6,7,8,9]
  | 8,4 => some [0,3]
  | 12,7 => some [0,1,2,6,23,24,25]
  | 13,7 => some [0,1,2,6,8]
  | 18,5 => some [0,1,5]
  | 19,5 => some [0,1,5]
  | 21,3 => some [0,3,4]
  | 22,3 => some [0,3,4]
  | 25,4 => some [0,1,5]
  | 26,4 => some [0,1,5]
  | 27,2 => some [0,1,5]
  | 28,2 => some [0,1,5]
  | 34,7 => some [0,1,5,6]
  | 34,27 => some [5,8,9]
  | 37,5 => some [0,4,15,16,17]
  | 37,12 => some [0,4,5,6,15,16,17,34,35,36]
  | 39,3 => some [0,1,5,6]
  | 43,4 => some [6,7,17,18,19]
  | 44,7 => some [0,1,6]
  | 46,3 => some [1,6,7]
  | 46,7 => some [1,6,7,8,9]
  | 46,14 => some [6,10,11]
  | 47,4 => some [0,1,10,11,12]
  | 48,3 => some [0,2,8,9,12,13,14]
  | 54,5 => some [0,1,6]
  | 56,5 => some [0,1,2,3,4,5,14,15,16,17]
  | 56,9 => some [0,1,2,3,4,5,14,15,16,17,18,19]
  | 56,14 => some [0,1,2,3,4,5,14,15,16,17,18,19,20,21]
  | 61,5 => some [1,13,14,15]
  | 62,3 => some [2,5,6,7,8,10,11,16,17,28,29,30]
  | 62,6 => some [2,5,6,7,8,10,11,16,17,19,28,29,30,38,39,40]
  | 62,10 => some [2,5,6,7,8,10,11,16,17,19,20,28,29,30,38,39,40,51,52,53]
  | 63,4 => some [0,1,5]
  | 64,4 => some [0,1,5]
  | 67,2 => some [0,1,5]
  | 68,2 => some [0,1,5]
  | 69,2 => some [0,1,5]
  | 70,2 => some [0,1,5]
  | 71,5 => some [0,3,4]
  | 79,3 => some [1,5,9,10,11]
  | 84,12 => some [1,2,47,48,49]
  | 88,3 => some [0,3,9,10,11]
  | 88,11 => some [6,25,26,27]
  | 91,5 => some [0,1,5,6]
  | 100,4 => some [0,3]
  | 101,3 => some [0,1,5,6]
  | 103,3 => some [0,1,2,3,4,11,12]
  | 104,3 => some [0,3,4]
  | 106,4 => some [0,9,10,11]
  | 108,3 => some [2,7,13,14,15]
  | 112,2 => some [0,1,5]
  | 113,2 => some [0,1,5]
  | 114,2 => some [0,1,5]
  | 115,11 => some [0,4,6,7,8]
  | 116,2 => some [0,1,7,8]
  | 118,4 => some [0,1,12,13]
  | 122,2 => some [0,1,2,6,7,8]
  | 122,7 => some [0,1,2,6]
  | 122,9 => some [0,1,2,6,7,8]
  | 123,3 => some [3,6,7,8]
  | 125,2 => some [0,1,7,8]
  | 126,4 => some [0,3]
  | 127,2 => some [0,1,5]
  | 131,4 => some [8,9,10]
  | 132,2 => some [0,1,11,12]
  | 137,4 => some [0,1,5]
  | 138,2 => some [0,1,7,8]
  | 139,1 => some [0,1,2,3,8]
  | 139,4 => some [0,1,2,3,8,9]
  | 140,3 => some [0,1,4,10,11]
  | 140,9 => some [0,10,13]
  | 140,15 => some [0,2,4,14,15]
  | 140,21 => some [0,14,17]
  | 140,33 => some [0,1,2,3,4,18,19,20,21,22]
  | 147,3 => some [3,6,7,8]
  | 149,2 => some [0,2,4,10,11]
  | 151,3 => some [0,3,4]
  | 153,1 => some [0,1,2,3,10]
  | _,_ => none
def outT : FuncId→Nat→Option (List Nat)
  | 3,8 => some [2]
  | 3,13 => some [2,3,6,7]
  | 3,19 => some [2,3,6,7,8]
  | 8,4 => some [2]
  | 12,7 => some [1,2,6]
  | 13,7 => some [1,2,6]
  | 18,5 => some [1,4]
  | 19,5 => some [1,4]
  | 21,3 => some [3]
  | 22,3 => some [3]
  | 25,4 => some [4]
  | 26,4 => some [4]
  | 27,2 => some [1]
  | 28,2 => some [1]
  | 34,7 => some [0,4,5]
  | 34,27 => some [4]
  | 37,5 => some [2,3,4]
  | 37,12 => some [0,2,3,4,6,15,16,17]
  | 39,3 => some [5]
  | 43,4 => some [7]
  | 44,7 => some [4]
  | 46,3 => some [6]
  | 46,7 => some [1,6,7,8,9]
  | 46,14 => some [4,5,10]
  | 47,4 => some [4]
  | 48,3 => some [8,9]
  | 54,5 => some [4]
  | 56,5 => some [14,15]
  | 56,9 => some [0,1,2,3,4,5,14,15,16,17]
  | 56,14 => some [0,1,2,3,4,5,14,15,16,17,18,19]
  | 61,5 => some [4]
  | 62,3 => some [16,17]
  | 62,6 => some [2,5,6,7,8,10,11,16,17,28,29,30]
  | 62,10 => some [2,5,6,7,8,10,11,16,17,19,28,29,30,38,39,40]
  | 63,4 => some [4]
  | 64,4 => some [4]
  | 67,2 => some [1]
  | 68,2 => some [1]
  | 69,2 => some [1,4]
  | 70,2 => some [1,4]
  | 71,5 => some [3]
  | 79,3 => some [5]
  | 84,12 => some [4]
  | 88,3 => some [0,3]
  | 88,11 => some [6]
  | 91,5 => some [0,5]
  | 100,4 => some [2]
  | 101,3 => some [5]
  | 103,3 => some [11]
  | 104,3 => some [3]
  | 106,4 => some [2]
  | 108,3 => some [7]
  | 112,2 => some [1]
  | 113,2 => some [1,4]
  | 114,2 => some [1,4]
  | 115,11 => some [4,6]
  | 116,2 => some [4]
  | 118,4 => some [4]
  | 122,2 => some [0,1,2,6,7]
  | 122,7 => some []
  | 122,9 => some [0,1,2,6,7]
  | 123,3 => some [2,3]
  | 125,2 => some [4]
  | 126,4 => some [2]
  | 127,2 => some [0,1,4]
  | 131,4 => some [2]
  | 132,2 => some [0,1,4]
  | 137,4 => some [4]
  | 138,2 => some [4]
  | 139,1 => some []
  | 139,4 => some [0,1,2,3,8]
  | 140,3 => some [0,1,10]
  | 140,9 => some []
  | 140,15 => some [0,2,14]
  | 140,21 => some []
  | 140,33 => some [0,1,2,3,4,18,19,20]
  | 147,3 => some [3]
  | 149,2 => some [0,2,4,10]
  | 151,3 => some [3]
  | 153,1 => some []
  | _,_ => none
def mdT : FuncId→List Md
  | 27 => [.io]
  | 28 => [.io]
  | 32 => [.io]
  | 33 => [.io]
  | 39 => [.io]
  | 40 => [.io]
  | 41 => [.io,.take]
  | 67 => [.io]
  | 68 => [.io]
  | 71 => [.io]
  | 72 => [.io]
  | 86 => [.io]
  | 89 => [.io]
  | 91 => [.take]
  | 112 => [.io]
  | 122 => [.io]
  | 139 => [.io]
  | 140 => [.io]
  | 149 => [.io]
  | 153 => [.io]
  | _ => []
def nilT : FuncId→Bool
  | 133 => true
  | _ => false
def inT : FuncId→Bool
  | 27 => true
  | 28 => true
  | 29 => true
  | 31 => true
  | 38 => true
  | 67 => true
  | 68 => true
  | 112 => true
  | 115 => true
  | 121 => true
  | _ => false
def plT : FuncId→Bool
  | 27 => true
  | 28 => true
  | 67 => true
  | 68 => true
  | 112 => true
  | _ => false
def hsT : FuncId→Bool
  | 11 => true
  | 32 => true
  | _ => false
def fsT : FuncId→Bool
  | 32 => true
  | _ => false
def alT : FuncId→Nat→Nat
  | 71,7 => 1
  | 71,8 => 1
  | 71,9 => 2
  | _,_ => 0
def tb : Tab := ⟨mdT,keepT,outT,nilT,inT,plT,hsT,fsT,alT⟩
theorem table_of {α : Type} {f : Nat→Option α} : ∀ {l : List (Nat × α)},l.map (fun p => f p.1) = l.map (fun p => some p.2)→∀ {t : Nat} {z : α},geta l t = some z→f t = some z
  | [],_,t,z,h => by cases h
  | (k,x) :: r,e,t,z,h => by
    simp only [List.map_cons,List.cons.injEq] at e
    simp only [geta] at h
    split at h
    · rename_i hk;subst hk;rw [← h];exact e.1
    · exact table_of e.2 h
@[irreducible] noncomputable def cf : Cfg := cfgOf Try.prog tb
@[irreducible] noncomputable def oc : Orc := Or Try.prog tb
theorem tys_ok : TysOK tys cf where
  zero t z h := table_of (f:=cf.zero) (by unfold cf;kernel_rfl) h
  elem t z h := table_of (f:=cf.elem) (by unfold cf;kernel_rfl) h
  flds t z h := table_of (f:=cf.flds) (by unfold cf;kernel_rfl) h
  ints t z h := table_of (f:=cf.ints) (by unfold cf;kernel_rfl) h
theorem cf_md : cf.md = mdT := by unfold cf;rfl
theorem cf_in : cf.inB = inT := by unfold cf;rfl
theorem cf_pl : cf.plB = plT := by unfold cf;rfl
theorem cf_al : cf.alR = alT := by unfold cf;rfl
theorem code_of {f : FuncId} {fn : Func} (h : Try.prog.funcs[f]? = some fn) (h2 : fnOk fn = true) : cf.code f = some fn := by
  unfold cf
  simp only [cfgOf,h,h2,if_true]
theorem cd4 : cf.code 4 = some Try.f4 := code_of Try.func4 (by kernel_rfl)
theorem cd6 : cf.code 6 = some Try.f6 := code_of Try.func6 (by kernel_rfl)
theorem cd8 : cf.code 8 = some Try.f8 := code_of Try.func8 (by kernel_rfl)
theorem cd9 : cf.code 9 = some Try.f9 := code_of Try.func9 (by kernel_rfl)
theorem cd10 : cf.code 10 = some Try.f10 := code_of Try.func10 (by kernel_rfl)
theorem cd11 : cf.code 11 = some Try.f11 := code_of Try.func11 (by kernel_rfl)
theorem cd12 : cf.code 12 = some Try.f12 := code_of Try.func12 (by kernel_rfl)
theorem cd13 : cf.code 13 = some Try.f13 := code_of Try.func13 (by kernel_rfl)
theorem cd14 : cf.code 14 = some Try.f14 := code_of Try.func14 (by kernel_rfl)
theorem cd15 : cf.code 15 = some Try.f15 := code_of Try.func15 (by kernel_rfl)
theorem cd16 : cf.code 16 = some Try.f16 := code_of Try.func16 (by kernel_rfl)
theorem cd17 : cf.code 17 = some Try.f17 := code_of Try.func17 (by kernel_rfl)
theorem cd31 : cf.code 31 = some Try.f31 := code_of Try.func31 (by kernel_rfl)
theorem cd32 : cf.code 32 = some Try.f32 := code_of Try.func32 (by kernel_rfl)
theorem cd34 : cf.code 34 = some Try.f34 := code_of Try.func34 (by kernel_rfl)
theorem cd35 : cf.code 35 = some Try.f35 := code_of Try.func35 (by kernel_rfl)
theorem cd36 : cf.code 36 = some Try.f36 := code_of Try.func36 (by kernel_rfl)
theorem cd37 : cf.code 37 = some Try.f37 := code_of Try.func37 (by kernel_rfl)
theorem cd38 : cf.code 38 = some Try.f38 := code_of Try.func38 (by kernel_rfl)
theorem cd39 : cf.code 39 = some Try.f39 := code_of Try.func39 (by kernel_rfl)
theorem cd40 : cf.code 40 = some Try.f40 := code_of Try.func40 (by kernel_rfl)
theorem cd41 : cf.code 41 = some Try.f41 := code_of Try.func41 (by kernel_rfl)
theorem cd42 : cf.code 42 = some Try.f42 := code_of Try.func42 (by kernel_rfl)
theorem cd43 : cf.code 43 = some Try.f43 := code_of Try.func43 (by kernel_rfl)
theorem cd44 : cf.code 44 = some Try.f44 := code_of Try.func44 (by kernel_rfl)
theorem cd45 : cf.code 45 = some Try.f45 := code_of Try.func45 (by kernel_rfl)
theorem cd46 : cf.code 46 = some Try.f46 := code_of Try.func46 (by kernel_rfl)
theorem cd47 : cf.code 47 = some Try.f47 := code_of Try.func47 (by kernel_rfl)
theorem cd48 : cf.code 48 = some Try.f48 := code_of Try.func48 (by kernel_rfl)
theorem cd49 : cf.code 49 = some Try.f49 := code_of Try.func49 (by kernel_rfl)
theorem cd53 : cf.code 53 = some Try.f53 := code_of Try.func53 (by kernel_rfl)
theorem cd55 : cf.code 55 = some Try.f55 := code_of Try.func55 (by kernel_rfl)
theorem cd60 : cf.code 60 = some Try.f60 := code_of Try.func60 (by kernel_rfl)
theorem cd71 : cf.code 71 = some Try.f71 := code_of Try.func71 (by kernel_rfl)
theorem cd72 : cf.code 72 = some Try.f72 := code_of Try.func72 (by kernel_rfl)
theorem cd73 : cf.code 73 = some Try.f73 := code_of Try.func73 (by kernel_rfl)
theorem cd74 : cf.code 74 = some Try.f74 := code_of Try.func74 (by kernel_rfl)
theorem cd75 : cf.code 75 = some Try.f75 := code_of Try.func75 (by kernel_rfl)
theorem cd76 : cf.code 76 = some Try.f76 := code_of Try.func76 (by kernel_rfl)
theorem cd77 : cf.code 77 = some Try.f77 := code_of Try.func77 (by kernel_rfl)
theorem cd78 : cf.code 78 = some Try.f78 := code_of Try.func78 (by kernel_rfl)
theorem cd79 : cf.code 79 = some Try.f79 := code_of Try.func79 (by kernel_rfl)
theorem cd80 : cf.code 80 = some Try.f80 := code_of Try.func80 (by kernel_rfl)
theorem cd81 : cf.code 81 = some Try.f81 := code_of Try.func81 (by kernel_rfl)
theorem cd82 : cf.code 82 = some Try.f82 := code_of Try.func82 (by kernel_rfl)
theorem cd83 : cf.code 83 = some Try.f83 := code_of Try.func83 (by kernel_rfl)
theorem cd84 : cf.code 84 = some Try.f84 := code_of Try.func84 (by kernel_rfl)
theorem cd85 : cf.code 85 = some Try.f85 := code_of Try.func85 (by kernel_rfl)
theorem cd86 : cf.code 86 = some Try.f86 := code_of Try.func86 (by kernel_rfl)
theorem cd87 : cf.code 87 = some Try.f87 := code_of Try.func87 (by kernel_rfl)
theorem cd88 : cf.code 88 = some Try.f88 := code_of Try.func88 (by kernel_rfl)
theorem cd89 : cf.code 89 = some Try.f89 := code_of Try.func89 (by kernel_rfl)
theorem cd90 : cf.code 90 = some Try.f90 := code_of Try.func90 (by kernel_rfl)
theorem cd91 : cf.code 91 = some Try.f91 := code_of Try.func91 (by kernel_rfl)
theorem cd92 : cf.code 92 = some Try.f92 := code_of Try.func92 (by kernel_rfl)
theorem cd93 : cf.code 93 = some Try.f93 := code_of Try.func93 (by kernel_rfl)
theorem cd94 : cf.code 94 = some Try.f94 := code_of Try.func94 (by kernel_rfl)
theorem cd95 : cf.code 95 = some Try.f95 := code_of Try.func95 (by kernel_rfl)
theorem cd96 : cf.code 96 = some Try.f96 := code_of Try.func96 (by kernel_rfl)
theorem cd97 : cf.code 97 = some Try.f97 := code_of Try.func97 (by kernel_rfl)
theorem cd107 : cf.code 107 = some Try.f107 := code_of Try.func107 (by kernel_rfl)
theorem cd115 : cf.code 115 = some Try.f115 := code_of Try.func115 (by kernel_rfl)
theorem cd116 : cf.code 116 = some Try.f116 := code_of Try.func116 (by kernel_rfl)
theorem cd117 : cf.code 117 = some Try.f117 := code_of Try.func117 (by kernel_rfl)
theorem cd118 : cf.code 118 = some Try.f118 := code_of Try.func118 (by kernel_rfl)
theorem cd119 : cf.code 119 = some Try.f119 := code_of Try.func119 (by kernel_rfl)
theorem cd120 : cf.code 120 = some Try.f120 := code_of Try.func120 (by kernel_rfl)
theorem cd121 : cf.code 121 = some Try.f121 := code_of Try.func121 (by kernel_rfl)
theorem cd122 : cf.code 122 = some Try.f122 := code_of Try.func122 (by kernel_rfl)
theorem cd123 : cf.code 123 = some Try.f123 := code_of Try.func123 (by kernel_rfl)
theorem cd124 : cf.code 124 = some Try.f124 := code_of Try.func124 (by kernel_rfl)
theorem cd125 : cf.code 125 = some Try.f125 := code_of Try.func125 (by kernel_rfl)
theorem cd138 : cf.code 138 = some Try.f138 := code_of Try.func138 (by kernel_rfl)
theorem cd139 : cf.code 139 = some Try.f139 := code_of Try.func139 (by kernel_rfl)
theorem cd140 : cf.code 140 = some Try.f140 := code_of Try.func140 (by kernel_rfl)
theorem cd141 : cf.code 141 = some Try.f141 := code_of Try.func141 (by kernel_rfl)
theorem cd149 : cf.code 149 = some Try.f149 := code_of Try.func149 (by kernel_rfl)
theorem cd153 : cf.code 153 = some Try.f153 := code_of Try.func153 (by kernel_rfl)
end Go.Proofs.Ytbcgenkegnmkhaa.Ev
namespace Go.Proofs.Ytbcgenkegnmkhaa.Ev
open Go
abbrev St.re (e : List (Nat × V)) (s : St) : St := ⟨e,s.obs,s.nxt⟩
theorem at_re (e : List (Nat × V)) (s : St) (o i : Nat) (fs : List Nat) (ver n : Nat) : St.at (s.re e) o i fs ver n = St.at s o i fs ver n := rfl
theorem take_re (e : List (Nat × V)) (s : St) (o i : Nat) (fs : List Nat) (ver n : Nat) : St.take (s.re e) o i fs ver n = mp (s.take o i fs ver n) fun r => (r.1,r.2.1,r.2.2.re e) := by
  unfold St.take
  rw [at_re]
  cases s.at o i fs ver n with
  | none => rfl
  | some a => cases h : a.2.2.set i fs .und <;> simp [mp,h]
theorem takeQ_re (e : List (Nat × V)) (s : St) (o i : Nat) (fs : List Nat) (ver n : Nat) : St.takeQ (s.re e) o i fs ver n = mp (s.takeQ o i fs ver n) fun r => (r.1,r.2.1,r.2.2.re e) := by
  unfold St.takeQ
  rw [at_re]
  cases s.at o i fs ver n with
  | none => rfl
  | some a => cases h : a.2.2.set i fs .und <;> simp [mp,h]
theorem give_re (e : List (Nat × V)) (s : St) (o lo n : Nat) : St.give (s.re e) o lo n = mp (s.give o lo n) fun r => (r.1,r.2.1,r.2.2.re e) := by
  unfold St.give
  show (match geta s.obs o with | none => none | some ob => _) = _
  cases geta s.obs o with
  | none => rfl
  | some ob =>
    simp only
    by_cases h : ob.bx = false∧ob.fx = false∧lo + n≤ob.xs.length
    · rw [if_pos h,if_pos h];rfl
    · rw [if_neg h,if_neg h];rfl
theorem moveRow_re (e : List (Nat × V)) (s : St) (o lo n : Nat) : St.moveRow (s.re e) o lo n = mp (s.moveRow o lo n) fun r => (r.1,r.2.re e) := by
  unfold St.moveRow
  show (match geta s.obs o with | none => none | some ob => _) = _
  cases geta s.obs o with
  | none => rfl
  | some ob =>
    simp only
    by_cases h : ob.bx = false∧lo + n≤ob.xs.length
    · rw [if_pos h,if_pos h];rfl
    · rw [if_neg h,if_neg h];rfl
theorem copyRow_re (e : List (Nat × V)) (s : St) (o lo n : Nat) : St.copyRow (s.re e) o lo n = mp (s.copyRow o lo n) fun r => (r.1,r.2.re e) := by
  unfold St.copyRow
  show (match geta s.obs o with | none => none | some ob => _) = _
  cases geta s.obs o with
  | none => rfl
  | some ob =>
    simp only
    by_cases h : ob.bx = false∧lo + n≤ob.xs.length
    · rw [if_pos h,if_pos h];rfl
    · rw [if_neg h,if_neg h];rfl
theorem copyPlc_re (e : List (Nat × V)) (s : St) (o i : Nat) (fs : List Nat) (ver n : Nat) : St.copyPlc (s.re e) o i fs ver n = mp (s.copyPlc o i fs ver n) fun r => (r.1,r.2.re e) := by
  unfold St.copyPlc
  rw [at_re]
  cases s.at o i fs ver n with
  | none => rfl
  | some a => cases h : a.2.2.set i fs (.lst false 0 (V.shareL a.2.1)) <;> simp [mp,h]
mutual
theorem fz_re (e : List (Nat × V)) : ∀ (v : V) (s : St),V.fz v (s.re e) = mp (V.fz v s) fun r => (r.1,r.2.re e)
  | .int _ _,s => rfl
  | .bool _,s => rfl
  | .str _,s => rfl
  | .lst false _ _,s => by simp [V.fz,mp]
  | .lst true _ [],s => by simp [V.fz,mp]
  | .lst true _ (_ :: _),s => by simp [V.fz,mp]
  | .emp _,s => rfl
  | .agg xs,s => by
    simp only [V.fz,fzL_re e xs s]
    cases V.fzL xs s <;> simp [mp]
  | .ref o lo n,s => by
    simp only [V.fz,give_re]
    cases s.give o lo n <;> simp [mp]
  | .plc o i fs ver n,s => by
    simp only [V.fz,takeQ_re]
    cases s.takeQ o i fs ver n <;> simp [mp]
  | .tup _,s => by simp [V.fz,mp]
  | .und,s => by simp [V.fz,mp]
  | .ptr ..,s => by simp [V.fz,mp]
  | .vptr _,s => by simp [V.fz,mp]
  | .clo ..,s => by simp [V.fz,mp]
  | .iol ..,s => by simp [V.fz,mp]
  | .iop _,s => by simp [V.fz,mp]
theorem fzL_re (e : List (Nat × V)) : ∀ (l : List V) (s : St),V.fzL l (s.re e) = mp (V.fzL l s) fun r => (r.1,r.2.re e)
  | [],s => rfl
  | x :: r,s => by
    simp only [V.fzL,fz_re e x s]
    cases x.fz s with
    | none => rfl
    | some a =>
      simp only [mp,Option.map_some]
      have := fzL_re e r a.2
      rw [this]
      cases V.fzL r a.2 <;> simp [mp]
end
theorem elems_re (e : List (Nat × V)) (s : St) (base : Nat) : ∀ v : V,St.elems (s.re e) base v = mp (s.elems base v) fun r => (r.1,r.2.re e)
  | .lst false _ _ => rfl
  | .lst true _ [] => rfl
  | .emp _ => rfl
  | .ref o lo n => by
    simp only [St.elems]
    split
    · rw [give_re];cases s.give o lo n <;> simp [mp]
    · split
      · exact moveRow_re e s o lo n
      · exact copyRow_re e s o lo n
  | .plc o i fs ver n => copyPlc_re e s o i fs ver n
  | .lst true _ (_ :: _) => rfl
  | .int .. => rfl
  | .bool _ => rfl
  | .str _ => rfl
  | .agg _ => rfl
  | .tup _ => rfl
  | .und => rfl
  | .ptr .. => rfl
  | .vptr _ => rfl
  | .clo .. => rfl
  | .iol .. => rfl
  | .iop _ => rfl
theorem base_re (e : List (Nat × V)) (s : St) (v : V) : St.base (s.re e) v = mp (s.base v) fun r => (r.1,r.2.1,r.2.2.re e) := by
  unfold St.base
  split
  · simp [mp]
  · exact give_re ..
  · exact take_re ..
  · rfl
theorem store_re (e : List (Nat × V)) (s : St) (z v : V) : ∀ x : V,storeV (s.re e) z x v = mp (storeV s z x v) fun r => r.re e
  | .ptr o i fs => by
    simp only [storeV]
    show (match geta s.obs o with | none => none | some ob => _) = _
    cases geta s.obs o with
    | none => rfl
    | some ob =>
      simp only
      cases ob.get i fs with
      | none => rfl
      | some old =>
        simp only
        by_cases h : old.alike v = true∧z.alike v = true
        · rw [if_pos h,if_pos h]
          by_cases hb : ob.bx = true
          · rw [if_pos hb,if_pos hb]
            by_cases ht : v.isTup = true
            · rw [if_pos ht,if_pos ht];rfl
            · rw [if_neg ht,if_neg ht]
              cases ob.set i fs v <;> simp [mp]
          · rw [if_neg hb,if_neg hb,fz_re]
            cases v.fz s with
            | none => rfl
            | some r =>
              simp only [mp,Option.map_some]
              cases geta r.2.obs o with
              | none => rfl
              | some ob2 =>
                simp only
                cases ob2.get i fs with
                | none => rfl
                | some old2 =>
                  simp only
                  by_cases h2 : old2.alike r.1 = true
                  · rw [if_pos h2,if_pos h2]
                    cases ob2.set i fs r.1 <;> simp
                  · rw [if_neg h2,if_neg h2];rfl
        · rw [if_neg h,if_neg h];rfl
  | .lst .. => rfl
  | .emp _ => rfl
  | .ref .. => rfl
  | .plc .. => rfl
  | .int .. => rfl
  | .bool _ => rfl
  | .str _ => rfl
  | .agg _ => rfl
  | .tup _ => rfl
  | .und => rfl
  | .vptr _ => rfl
  | .clo .. => rfl
  | .iol .. => rfl
  | .iop _ => rfl
mutual
theorem fzI_re (e : List (Nat × V)) : ∀ (v : V) (s : St),V.fzI v (s.re e) = mp (V.fzI v s) fun r => (r.1,r.2.re e)
  | .lst true _ _,s => by simp [V.fzI,mp]
  | .lst false a b,s => by simp only [V.fzI];exact fz_re e _ s
  | .agg xs,s => by
    simp only [V.fzI,fzIL_re e xs s]
    cases V.fzIL xs s <;> simp [mp]
  | .int a b,s => by simp only [V.fzI];exact fz_re e _ s
  | .bool a,s => by simp only [V.fzI];exact fz_re e _ s
  | .str a,s => by simp only [V.fzI];exact fz_re e _ s
  | .emp a,s => by simp only [V.fzI];exact fz_re e _ s
  | .ref a b c,s => by simp only [V.fzI];exact fz_re e _ s
  | .plc a b c d f,s => by simp only [V.fzI];exact fz_re e _ s
  | .tup a,s => by simp only [V.fzI];exact fz_re e _ s
  | .und,s => by simp only [V.fzI];exact fz_re e _ s
  | .ptr a b c,s => by simp only [V.fzI];exact fz_re e _ s
  | .vptr a,s => by simp only [V.fzI];exact fz_re e _ s
  | .clo a b,s => by simp only [V.fzI];exact fz_re e _ s
  | .iol a b,s => by simp only [V.fzI];exact fz_re e _ s
  | .iop a,s => by simp only [V.fzI];exact fz_re e _ s
theorem fzIL_re (e : List (Nat × V)) : ∀ (l : List V) (s : St),V.fzIL l (s.re e) = mp (V.fzIL l s) fun r => (r.1,r.2.re e)
  | [],s => rfl
  | x :: r,s => by
    simp only [V.fzIL,fzI_re e x s]
    cases x.fzI s with
    | none => rfl
    | some a =>
      simp only [mp,Option.map_some]
      have := fzIL_re e r a.2
      rw [this]
      cases V.fzIL r a.2 <;> simp [mp]
end
theorem outs_re (e : List (Nat × V)) : ∀ (l : List V) (i : Nat) (s : St),outsV i l (s.re e) = outsV i l s
  | [],_,_ => rfl
  | v :: r,i,s => by
    have ih := outs_re e r (i + 1)
    cases v with
    | iol sz xs =>
      simp only [outsV]
      cases geta s.obs i with
      | none => rfl
      | some ob =>
        simp only
        rw [show outsV (i + 1) r { s.re e with obs := dela s.obs i } = outsV (i + 1) r { s with obs := dela s.obs i } from ih { s with obs := dela s.obs i }]
    | iop x =>
      simp only [outsV]
      cases geta s.obs i with
      | none => rfl
      | some ob =>
        simp only
        cases ob.xs with
        | nil => rfl
        | cons y l =>
          cases l with
          | nil =>
            simp only
            rw [show y.fzI { s.re e with obs := dela s.obs i } = _ from fzI_re e y { s with obs := dela s.obs i }]
            cases y.fzI { s with obs := dela s.obs i } with
            | none => rfl
            | some a => simp only [mp,Option.map_some,ih a.2]
          | cons _ _ => rfl
    | _ => exact ih s
mutual
theorem snap_re (e : List (Nat × V)) (s : St) : ∀ v : V,V.snap (s.re e) v = V.snap s v
  | .int .. => rfl
  | .bool _ => rfl
  | .str _ => rfl
  | .lst .. => rfl
  | .emp _ => rfl
  | .agg xs => by simp only [V.snap,snapL_re e s xs]
  | .ref .. => rfl
  | .plc .. => rfl
  | .vptr _ => rfl
  | .tup _ => rfl
  | .und => rfl
  | .ptr .. => rfl
  | .clo .. => rfl
  | .iol .. => rfl
  | .iop _ => rfl
theorem snapL_re (e : List (Nat × V)) (s : St) : ∀ l : List V,V.snapL (s.re e) l = V.snapL s l
  | [] => rfl
  | x :: r => by simp only [V.snapL,snap_re e s x,snapL_re e s r]
end
theorem snapP_re (e : List (Nat × V)) (s : St) (v : V) : V.snapP (s.re e) v = V.snapP s v := by
  unfold V.snapP
  split
  · simp only [snap_re]
  · exact snap_re e s _
theorem snapPL_re (e : List (Nat × V)) (s : St) : ∀ l : List V,V.snapPL (s.re e) l = V.snapPL s l
  | [] => rfl
  | x :: r => by simp only [V.snapPL,snapP_re e s x,snapPL_re e s r]
theorem snapA_re (e : List (Nat × V)) (s : St) (v : V) : V.snapA (s.re e) v = V.snapA s v := by
  unfold V.snapA
  split
  · simp only [snapPL_re]
  · exact snapP_re e s _
theorem snaps_re (e : List (Nat × V)) (s : St) : ∀ (m : List Md) (l : List V),snapsV (s.re e) m l = snapsV s m l
  | _,[] => rfl
  | m,v :: r => by simp only [snapsV,snapA_re e s v,snaps_re e s m.tail r]
theorem sA_int (s : St) (k : IntKind) (a : Int) : V.snapA s (.int k a) = some (.int k a) := rfl
theorem sA_bool (s : St) (a : Bool) : V.snapA s (.bool a) = some (.bool a) := rfl
theorem sA_lst (s : St) (a : Bool) (b : Nat) (xs : List V) : V.snapA s (.lst a b xs) = some (.lst false 0 (V.shareL xs)) := rfl
theorem sA_emp (s : St) (a : Bool) : V.snapA s (.emp a) = some (.lst false 0 []) := rfl
theorem sA_agg (s : St) (xs : List V) : V.snapA s (.agg xs) = mp (V.snapL s xs) .agg := rfl
theorem sA_ref (s : St) (o lo n : Nat) : V.snapA s (.ref o lo n) = mp (rowOf s.obs o lo n) fun r => .lst false 0 (V.shareL r.2) := rfl
theorem sA_plc (s : St) (o i : Nat) (fs : List Nat) (ver n : Nat) : V.snapA s (.plc o i fs ver n) = mp (s.at o i fs ver n) fun a => .lst false 0 (V.shareL a.2.1) := rfl
theorem sA_vptr (s : St) (x : V) : V.snapA s (.vptr x) = some (.vptr x) := rfl
theorem sA_clo (s : St) (f : FuncId) (cs : List V) : V.snapA s (.clo f cs) = mp (V.snapPL s cs) (.clo f) := rfl
theorem sA_ptr (s : St) (o i : Nat) (fs : List Nat) : V.snapA s (.ptr o i fs) = V.snapP s (.ptr o i fs) := rfl
theorem sP_int (s : St) (k : IntKind) (a : Int) : V.snapP s (.int k a) = some (.int k a) := rfl
theorem sP_bool (s : St) (a : Bool) : V.snapP s (.bool a) = some (.bool a) := rfl
theorem sP_lst (s : St) (a : Bool) (b : Nat) (xs : List V) : V.snapP s (.lst a b xs) = some (.lst false 0 (V.shareL xs)) := rfl
theorem sP_emp (s : St) (a : Bool) : V.snapP s (.emp a) = some (.lst false 0 []) := rfl
theorem sP_agg (s : St) (xs : List V) : V.snapP s (.agg xs) = mp (V.snapL s xs) .agg := rfl
theorem sP_ref (s : St) (o lo n : Nat) : V.snapP s (.ref o lo n) = mp (rowOf s.obs o lo n) fun r => .lst false 0 (V.shareL r.2) := rfl
theorem sP_plc (s : St) (o i : Nat) (fs : List Nat) (ver n : Nat) : V.snapP s (.plc o i fs ver n) = mp (s.at o i fs ver n) fun a => .lst false 0 (V.shareL a.2.1) := rfl
theorem sP_vptr (s : St) (x : V) : V.snapP s (.vptr x) = some (.vptr x) := rfl
theorem sP_ptr (s : St) (o i : Nat) (fs : List Nat) : V.snapP s (.ptr o i fs) = match geta s.obs o with | none => none | some ob => match ob.get i fs with | none => none | some x => if ob.bx = true∨x.mention.isEmpty = true then mp (x.snap s) .vptr else none := rfl
end Go.Proofs.Ytbcgenkegnmkhaa.Ev
namespace Go.Proofs.Ytbcgenkegnmkhaa.Ev
open Go
set_option maxRecDepth 100000
theorem fun_s {f : FuncId} {fn : Func} {body : Code} {args : List V} {x : V × List V} {e : List (Nat × V)} {o : List (Nat × Ob)} {n : Nat} (hn : nilT f = false) (hf : cf.code f = some fn) (hb : fn.body = some body) (hl : args.length = n) (hl2 : n = fn.params.size + fn.nfree) (he : (bindArgs 0 args).1 = e) (ho : (bindArgs 0 args).2 = o)
    (h : wpC oc cf f body ⟨e,o,n⟩ (fun e s => (e = .normal∨e = .ret)∧∃ vs,resL cf s fn.results.toList = some vs∧∃ r,V.fzL vs ⟨[],s.obs,s.nxt⟩ = r∧∃ q,r = some q∧∃ os,outsV 0 args q.2 = some os∧(oneV q.1,os) = x)) (hh : hsT f = false := by rfl) : oc.call f args = some x := by
  unfold cf oc at *
  subst hl he ho
  refine wp_fun hn hh hf hb hl2 ?_
  obtain ⟨r,h1,h2,vs,h3,q,h4,u,h5,os,h6,h7⟩ := h
  refine ⟨r,h1,h2,vs,h3,(u.1,u.2.re r.2.env),?_,os,?_,h7⟩
  · have := fzL_re r.2.env vs ⟨[],r.2.obs,r.2.nxt⟩
    rw [h4,h5] at this
    exact this
  · rw [outs_re];exact h6
theorem run_s {f : FuncId} {fn : Func} {body : Code} {args : List V} {x : V × List V} {e : List (Nat × V)} {o : List (Nat × Ob)} {n : Nat} (hf : cf.code f = some fn) (hb : fn.body = some body) (hl : args.length = n) (hl2 : n = fn.params.size + fn.nfree) (he : (bindArgs 0 args).1 = e) (ho : (bindArgs 0 args).2 = o)
    (h : wpC oc cf f body ⟨e,o,n⟩ (fun e s => (e = .normal∨e = .ret)∧∃ vs,resL cf s fn.results.toList = some vs∧∃ r,V.fzL vs ⟨[],s.obs,s.nxt⟩ = r∧∃ q,r = some q∧∃ os,outsV 0 args q.2 = some os∧(oneV q.1,os) = x)) : runE oc cf f args = some x := by
  subst hl he ho
  obtain ⟨r,h1,h2,vs,h3,q,h4,u,h5,os,h6,h7⟩ := h
  have h4' : V.fzL vs r.2 = some (u.1,u.2.re r.2.env) := by
    have := fzL_re r.2.env vs ⟨[],r.2.obs,r.2.nxt⟩
    rw [h4,h5] at this
    exact this
  have h6' : outsV 0 args (u.2.re r.2.env) = some os := by rw [outs_re];exact h6
  unfold runE
  simp only [hf,hb,if_pos hl2,h1,if_pos h2,h3,h4',h6',mp_some,h7]
theorem half_s {f : FuncId} {args : List V} {x : V × List V} (hn : nilT f = false) (hh : hsT f = true) (h : runE oc cf f args = some x) (hf : fsT f = false := by rfl) : oc.call f args = some (x.1.half,x.2) := by
  unfold cf oc at *
  exact or_callH h hn hh hf
theorem full_s {f : FuncId} {args : List V} {x : V × List V} (hn : nilT f = false) (hh : hsT f = true) (hf : fsT f = true) (h : runE oc cf f args = some x) : oc.call f args = some (x.1.full,x.2) := by
  unfold cf oc at *
  exact or_callF h hn hh hf
theorem end_leaf {ex : Ext} (np : Nat) (out : Option (List Nat)) {s s1 : St} {r : Ext × St} (h1 : normE np out s = s1) (h2 : (ex,s1) = r) : (ex,normE np out s) = r := by subst h1;exact h2
theorem res_nil {cfg : Cfg} {s : St} : resL cfg s [] = some [] := rfl
theorem res_tmp {cfg : Cfg} {s : St} {t : Nat} {l : List ResultVar} {v : V} {vs : List V} (h : opV s.env (.tmp t) = some v) (h2 : resL cfg s l = some vs) : resL cfg s (.tmp t :: l) = some (v :: vs) := by
  simp only [resL,resV,h,h2,mp_some]
theorem res_cell {cfg : Cfg} {e : List (Nat × V)} {o : List (Nat × Ob)} {n : Nat} {t : Nat} {ty : TypeId} {l : List ResultVar} {z vx v : V} {vs : List V} {r : Option V} (hz : cfg.zero ty = some z) (h : opV e (.tmp t) = some vx) (hv : loadV ⟨[],o,n⟩ z vx = r) (hr : r = some v) (h2 : resL cfg ⟨e,o,n⟩ l = some vs) : resL cfg ⟨e,o,n⟩ (.cell t ty :: l) = some (v :: vs) := by
  have : loadV ⟨e,o,n⟩ z vx = some v := by
    rw [← hr,← hv]
    cases vx <;> rfl
  simp only [resL,resV,h,hz,h2,mp_some,this]
theorem loop_s {f k : Nat} {fn : Func} {body full : Code} {s s0 : St} {r : Ext × St} (hf : cf.code f = some fn) (hb : fn.body = some full) (hk : findLoop k full = some body) (hs : normE (fn.params.size + fn.nfree) (keepT f k) s = s0)
    (h : wpC oc cf f body s0 (fun e s' => match e with
      | .normal => oc.loop f k s' = some r
      | e => (e,normE (fn.params.size + fn.nfree) (outT f k) s') = r)) : oc.loop f k s = some r := by
  unfold cf oc at *
  exact wp_round hf hb hk hs h
theorem loop_ind {σ : Type} {f k np : Nat} {keep : Option (List Nat)} (μ : σ→Nat) (P : σ→Prop) (H : σ→St) (R : σ→Ext × St)
    (step : ∀ x,P x→(∀ y,P y→μ y < μ x→∀ s',normE np keep s' = H y→oc.loop f k s' = some (R y))→∀ s,normE np keep s = H x→oc.loop f k s = some (R x)) :
    ∀ x,P x→∀ s,normE np keep s = H x→oc.loop f k s = some (R x) := by
  have key : ∀ m x,μ x < m→P x→∀ s,normE np keep s = H x→oc.loop f k s = some (R x) := by
    intro m
    induction m with
    | zero => intro x h;omega
    | succ m ih => intro x h hp;exact step x hp (fun y hy hm => ih y (by omega) hy)
  intro x
  exact key (μ x + 1) x (by omega)
theorem wc_loopI {fn : FuncId} {b : Code} {s : St} {Q : Ext→St→Prop} {c : Prop} [Decidable c] {e1 e2 : Ext} {s1 s2 : St} (h : oc.loop fn (keyOf b) s = some (if c then (e1,s1) else (e2,s2))) (h1 : c→Q e1 s1) (h2 : ¬ c→Q e2 s2) : wpC oc cf fn (.loop b) s Q := by
  by_cases hc : c
  · rw [if_pos hc] at h;exact ⟨_,h,h1 hc⟩
  · rw [if_neg hc] at h;exact ⟨_,h,h2 hc⟩
section
variable {call : Call} {cfg : Cfg} {id base : Nat} {e : List (Nat × V)} {o : List (Nat × Ob)} {n : Nat} {t : TypeId} {K : V→List (Nat × Ob)→Prop}
theorem k_callS {args : Array Operand} {ts : Array TypeId} {fo : Operand} {f : FuncId} {cs vs qs : List V} {sr : Option (List V)} {rv v : V} {ro : List V} {o1 : List (Nat × Ob)} {id' : Nat} (hx : opsV e args.toList = some vs) (hf : opV e fo = some (.clo f cs)) (hB : cfg.inB f = false) (hk : V.capsOk cs = true) (hl : lendV (cfg.md f) (vs ++ cs) ⟨e,o,n⟩ = some (vs ++ cs,⟨e,o,n⟩,[]))
    (hs : snapsV ⟨[],o,n⟩ (cfg.md f) (vs ++ cs) = sr) (hsr : sr = some qs) (hc : call f qs = some (rv,ro)) (hro : ro = []) (hid : id = id') (hw : ((plainM (cfg.md f) (vs ++ cs)).isEmpty = true∨rv.tidy = true∧V.tidyL ro = true)∧(rv.thaw id').2.2≤id' + 32) (hv : (rv.thaw id').1 = v) (ho : (rv.thaw id').2.1 ++ o = o1)
    (h : K v o1) : opK call cfg id base e o n t (.call ⟨.value fo,args,ts⟩) K := by
  subst hro hv ho
  have hs : snapsV ⟨e,o,n⟩ (cfg.md f) (vs ++ cs) = some qs := by
    have := snaps_re e ⟨[],o,n⟩ (cfg.md f) (vs ++ cs)
    rw [hs,hsr] at this
    exact this
  exact k_call hx hf hB hk hl hs hc hid hw rfl rfl h
theorem k_indexQ {t' el : TypeId} {x ix : Operand} {k : IntKind} {a : Int} {q lo m j : Nat} {ob : Ob} {z y : V} (he : cfg.elem t' = some el) (hz : cfg.zero el = some z) (hx : opV e x = some (.ref q lo m)) (hi : opV e ix = some (.int k a)) (ho : geta o q = some ob) (hb : ob.bx = false) (h0 : 0≤a) (hj : lo + a.toNat = j) (hm : a.toNat < m)
    (hy : ob.xs[j]? = some y) (hc : y.cells = z.cells) (h : K (.ptr q j []) o) : opK call cfg id base e o n t (.indexAddr t' x ix) K := by
  subst hj;exact k_indexR he hz hx hi ho hb h0 hm hy hc h
theorem k_storeS {t' : TypeId} {x y : Operand} {z vx vy : V} {o' : List (Nat × Ob)} {r : Option St} (hz : cfg.zero t' = some z) (hx : opV e x = some vx) (hy : opV e y = some vy) (hv : storeV ⟨[],o,n⟩ z vx vy = r) (hr : r = some ⟨[],o',n⟩) (h : K .und o') : opK call cfg id base e o n t (.store t' x y) K := by
  refine k_store hz hx hy ?_ h
  have := store_re e ⟨[],o,n⟩ z vy vx
  rw [hv,hr] at this
  exact this
theorem k_storeE {t' : TypeId} {x y : Operand} {z vy old old1 w : V} {q i v : Nat} {ob ob1 : Ob} {ws : List V} {o1 : List (Nat × Ob)} {r : Option (V × St)} (hz : cfg.zero t' = some z) (hx : opV e x = some (.ptr q i [])) (hy : opV e y = some vy) (ho : geta o q = some ob) (hb : ob.bx = false) (hg : ob.xs[i]? = some old) (ha : old.alike vy = true) (hz2 : z.alike vy = true)
    (hf : vy.fz ⟨[],o,n⟩ = r) (hr : r = some (w,⟨[],o1,n⟩)) (ho1 : geta o1 q = some ob1) (hg1 : ob1.xs[i]? = some old1) (ha1 : old1.alike w = true) (hs : ob1.xs.set i w = ws) (hv : (if (old1.scal && vy.scal) = true then ob1.ver else ob1.ver + 1) = v)
    (h : K .und ((q,⟨ob1.bx,ob1.fx,ob1.sz,ws,v⟩) :: o1)) : opK call cfg id base e o n t (.store t' x y) K := by
  subst hr hs hv
  have hf : vy.fz ⟨e,o,n⟩ = some (w,⟨e,o1,n⟩) := by
    have := fz_re e vy ⟨[],o,n⟩
    rw [hf] at this
    exact this
  refine k_store hz hx hy ?_ h
  simp only [storeV,ho,Ob.get,hg,getF,ha,hz2,and_self,if_true,hb,Bool.false_eq_true,if_false,hf,ho1,hg1,ha1,Ob.set,setF,mp_some,puta]
theorem set_at {α : Type} {l : List α} {i : Nat} {x y : α} (h : l[i]? = some x) : (l.set i y)[i]? = some y := by
  have := (List.getElem?_eq_some_iff.1 h).1
  simp [this]
theorem k_loadF {t' : TypeId} {x : Operand} {z y y0 w : V} {q i : Nat} {fs : List Nat} {ob : Ob} (hz : cfg.zero t' = some z) (hx : opV e x = some (.ptr q i fs)) (ho : geta o q = some ob) (hg : ob.xs[i]? = some y0) (hgf : getF y0 fs = some y) (hu : y ≠ .und) (ha : z.alike y = true) (hl : y.lod q i ob.ver fs = w) (h : K w o) : opK call cfg id base e o n t (.load t' x) K := by
  subst hl
  refine k_load hz hx ?_ h
  cases y <;> first | exact absurd rfl hu | simp only [loadV,ho,Ob.get,hg,hgf,ha,if_true]
theorem k_fieldAddrF {t' : TypeId} {x : Operand} {i k j : Nat} {fs : List Nat} {ob : Ob} {y y0 : V} (hx : opV e x = some (.ptr k j fs)) (ho : geta o k = some ob) (hg : ob.xs[j]? = some y0) (hgf : getF y0 fs = some y) (hf : fieldOk cfg t' y i = true) (h : K (.ptr k j (fs ++ [i])) o) : opK call cfg id base e o n t (.fieldAddr t' x i) K :=
  k_fieldAddrP hx ho (show ob.get j fs = some y by simp only [Ob.get,hg,hgf]) hf h
theorem k_storeF {t' : TypeId} {x y : Operand} {z vy old x0 x1 : V} {q i : Nat} {fs : List Nat} {ob : Ob} {ws : List V} (hz : cfg.zero t' = some z) (hx : opV e x = some (.ptr q i fs)) (hy : opV e y = some vy) (ho : geta o q = some ob) (hb : ob.bx = false) (hg : ob.xs[i]? = some x0) (hgf : getF x0 fs = some old) (ha : old.alike vy = true) (hz2 : z.alike vy = true)
    (hs1 : old.scal = true) (hs2 : vy.scal = true) (hsf : setF x0 fs vy = some x1) (hs : ob.xs.set i x1 = ws) (h : K .und ((q,⟨false,ob.fx,ob.sz,ws,ob.ver⟩) :: o)) : opK call cfg id base e o n t (.store t' x y) K := by
  subst hs
  refine k_store hz hx hy ?_ h
  simp only [storeV,ho,Ob.get,hg,hgf,ha,hz2,and_self,if_true,hb,Bool.false_eq_true,if_false,fz_scal hs2,Ob.set,hsf,mp_some,puta,hs1,hs2,Bool.and_self]
theorem k_loadS {t' : TypeId} {x : Operand} {z vx v : V} {r : Option V} (hz : cfg.zero t' = some z) (hx : opV e x = some vx) (hv : loadV ⟨[],o,n⟩ z vx = r) (hr : r = some v) (h : K v o) : opK call cfg id base e o n t (.load t' x) K := by
  refine k_load hz hx ?_ h
  rw [← hr,← hv]
  cases vx <;> rfl
theorem k_loadE {t' : TypeId} {x : Operand} {z y w : V} {q i : Nat} {ob : Ob} (hz : cfg.zero t' = some z) (hx : opV e x = some (.ptr q i [])) (ho : geta o q = some ob) (hg : ob.xs[i]? = some y) (hu : y ≠ .und) (ha : z.alike y = true) (hl : y.lod q i ob.ver [] = w) (h : K w o) : opK call cfg id base e o n t (.load t' x) K := by
  subst hl
  refine k_load hz hx ?_ h
  cases y <;> first | exact absurd rfl hu | simp only [loadV,ho,Ob.get,hg,getF,ha,if_true]
theorem k_appendS {args : Array Operand} {ts : Array TypeId} {t1 t2 e1 e2 : TypeId} {x y z : V} {ys ws bs : List V} {r1 : Option (List V × St)} {r2 : Option (Nat × List V × St)} {sz : Nat} {o1 o2 : List (Nat × Ob)} {id' m : Nat} (hx : opsV e args.toList = some [x,y]) (h1 : ts[0]? = some t1) (h2 : ts[1]? = some t2) (he1 : cfg.elem t1 = some e1) (hz : cfg.zero e1 = some z) (he2 : cfg.elem t2 = some e2)
    (hel : St.elems ⟨[],o,n⟩ base y = r1) (hel2 : r1 = some (ys,⟨[],o1,n⟩)) (hb : St.base ⟨[],o1,n⟩ (x.asRow z.cells) = r2) (hb2 : r2 = some (sz,bs,⟨[],o2,n⟩)) (hid : id = id') (hsz : sz = z.cells) (hc : V.cellsAll z.cells ys = true) (hw : bs ++ ys = ws) (hm : ws.length = m) (hlen : m < maxV)
    (h : K (.ref id' 0 m) ((id',⟨false,false,z.cells,ws,0⟩) :: o2)) : opK call cfg id base e o n t (.call ⟨.builtin .append,args,ts⟩) K := by
  subst hw hm
  have h3 : St.elems ⟨e,o,n⟩ base y = some (ys,⟨e,o1,n⟩) := by
    have := elems_re e ⟨[],o,n⟩ base y
    rw [hel,hel2] at this
    exact this
  have h4 : St.base ⟨e,o1,n⟩ (x.asRow z.cells) = some (sz,bs,⟨e,o2,n⟩) := by
    have := base_re e ⟨[],o1,n⟩ (x.asRow z.cells)
    rw [hb,hb2] at this
    exact this
  exact k_append (b:=(sz,bs,⟨e,o2,n⟩)) hx h1 h2 he1 hz he2 h3 h4 rfl hid hsz hc hlen h
theorem k_buildSliceS {t' el : TypeId} {m : Nat} {ps : Array (Nat × Operand)} {z : V} {l : List (Nat × V)} {ys : List V} {o1 : List (Nat × Ob)} {id' : Nat} {r : Option (List V × St)} (he : cfg.elem t' = some el) (hz : cfg.zero el = some z) (hp : partsV e ps.toList = some l) (hc : l.map (·.1) = List.range m∧m * z.cells≤16777216∧l.all (fun e => z.alike e.2) = true)
    (hf : V.fzL (l.map (·.2)) ⟨[],o,n⟩ = r) (hr : r = some (ys,⟨[],o1,n⟩)) (hid : id = id') (h : K (.ref id' 0 m) ((id',⟨false,false,z.cells,ys,0⟩) :: o1)) : opK call cfg id base e o n t (.buildSlice t' m ps) K :=
  k_buildSlice he hz hp hc (by
    have := fzL_re e (l.map (·.2)) ⟨[],o,n⟩
    rw [hf,hr] at this
    exact this) hid h
end
theorem bA_nil (i : Nat) : bindArgs i [] = ([],[]) := rfl
theorem bA_int (i : Nat) (k : IntKind) (a : Int) (r : List V) : bindArgs i (.int k a :: r) = ((i,.int k a) :: (bindArgs (i + 1) r).1,(bindArgs (i + 1) r).2) := rfl
theorem bA_bool (i : Nat) (a : Bool) (r : List V) : bindArgs i (.bool a :: r) = ((i,.bool a) :: (bindArgs (i + 1) r).1,(bindArgs (i + 1) r).2) := rfl
theorem bA_lstF (i : Nat) (s : Nat) (xs : List V) (r : List V) : bindArgs i (.lst false s xs :: r) = ((i,.lst false s xs) :: (bindArgs (i + 1) r).1,(bindArgs (i + 1) r).2) := rfl
theorem bA_lstT (i : Nat) (s : Nat) (xs : List V) (r : List V) : bindArgs i (.lst true s xs :: r) = ((i,.ref i 0 xs.length) :: (bindArgs (i + 1) r).1,(i,⟨false,false,s,xs,0⟩) :: (bindArgs (i + 1) r).2) := rfl
theorem bA_iol (i : Nat) (s : Nat) (xs : List V) (r : List V) : bindArgs i (.iol s xs :: r) = ((i,.ref i 0 xs.length) :: (bindArgs (i + 1) r).1,(i,⟨false,true,s,xs,0⟩) :: (bindArgs (i + 1) r).2) := rfl
theorem bA_iop (i : Nat) (x : V) (r : List V) : bindArgs i (.iop x :: r) = ((i,.ptr i 0 []) :: (bindArgs (i + 1) r).1,(i,⟨true,false,x.cells,[x],0⟩) :: (bindArgs (i + 1) r).2) := rfl
theorem bA_agg (i : Nat) (xs : List V) (r : List V) : bindArgs i (.agg xs :: r) = ((i,.agg xs) :: (bindArgs (i + 1) r).1,(bindArgs (i + 1) r).2) := rfl
theorem bA_clo (i : Nat) (f : FuncId) (xs : List V) (r : List V) : bindArgs i (.clo f xs :: r) = ((i,.clo f xs) :: (bindArgs (i + 1) r).1,(bindArgs (i + 1) r).2) := rfl
theorem bA_vptr (i : Nat) (x : V) (r : List V) : bindArgs i (.vptr x :: r) = ((i,.vptr x) :: (bindArgs (i + 1) r).1,(bindArgs (i + 1) r).2) := rfl
theorem wrap_nat {i : Nat} (h : i < 4611686018427387904) : IntKind.i64.wrap (i : Int) = i := by
  unfold IntKind.wrap;simp [IntKind.bits,IntKind.signed];omega
theorem wrap_succ {i : Nat} (h : i < 4611686018427387903) : IntKind.i64.wrap ((i : Int) + 1) = ((i + 1 : Nat) : Int) := wrap_nat (i:=i + 1) (by omega)
theorem wrap_id {a : Int} (h1 : -4611686018427387904≤a) (h2 : a < 4611686018427387904) : IntKind.i64.wrap a = a := by
  unfold IntKind.wrap;simp [IntKind.bits,IntKind.signed];omega
def inI (a b c : Int) : Bool := decide (b≤a) && decide (a≤c)
def ints (l : List Int) : List V := l.map (.int .i64)
@[simp] theorem ints_len (l : List Int) : (ints l).length = l.length := by simp [ints]
@[simp] theorem ints_nil : ints [] = [] := rfl
@[simp] theorem ints_cons (x : Int) (l : List Int) : ints (x :: l) = .int .i64 x :: ints l := rfl
@[simp] theorem ints_snoc (l : List Int) (x : Int) : ints l ++ [.int .i64 x] = ints (l ++ [x]) := by simp [ints]
@[simp] theorem ints_join (l m : List Int) : ints l ++ ints m = ints (l ++ m) := by simp [ints]
theorem ints_get {l : List Int} {i : Nat} {x : Int} (h : l[i]? = some x) : (ints l)[i]? = some (.int .i64 x) := by simp [ints,h]
theorem ints_at {l : List Int} {i : Nat} (h : i < l.length) : (ints l)[(i : Int).toNat]? = some (.int .i64 l[i]) := ints_get (by simp [h])
theorem ints_cut {l : List Int} {i : Nat} (h : i < l.length) : ∃ x,l[i]? = some x∧l.drop i = x :: l.drop (i + 1)∧(ints l)[(i : Int).toNat]? = some (.int .i64 x) :=
  ⟨l[i],by simp [h],List.drop_eq_getElem_cons h,ints_at h⟩
@[simp] theorem ints_set (l : List Int) (i : Nat) (x : Int) : (ints l).set i (.int .i64 x) = ints (l.set i x) := by simp [ints,List.map_set]
@[simp] theorem replicate_ints (m : Nat) (x : Int) : List.replicate m (V.int .i64 x) = ints (List.replicate m x) := by simp [ints]
@[simp] theorem ints_take (n : Nat) (l : List Int) : (ints l).take n = ints (l.take n) := by simp [ints,List.map_take]
@[simp] theorem ints_drop (n : Nat) (l : List Int) : (ints l).drop n = ints (l.drop n) := by simp [ints,List.map_drop]
@[simp] theorem ints_share (l : List Int) : V.shareL (ints l) = ints l := by
  induction l with
  | nil => rfl
  | cons x l ih => simp [V.shareL,V.share,ih]
structure Nd where
  op : Int
  a : Int
  b : Int
  col : Int
  test : Int
  value : Int
  cells : List Int
  deriving DecidableEq
theorem Nd.eq_iff {d g : Nd} : d = g↔d.op = g.op∧d.a = g.a∧d.b = g.b∧d.col = g.col∧d.test = g.test∧d.value = g.value∧d.cells = g.cells := by
  cases d;cases g;simp
def Nd.v (t : Bool) (s : Nat) (n : Nd) : V := .agg [.int .i64 n.op,.int .i64 n.a,.int .i64 n.b,.int .i64 n.col,.int .i64 n.test,.int .i64 n.value,.lst t s (ints n.cells)]
def nds (t : Bool) (s : Nat) (l : List Nd) : List V := l.map (Nd.v t s)
@[simp] theorem nds_len (t : Bool) (s : Nat) (l : List Nd) : (nds t s l).length = l.length := by simp [nds]
@[simp] theorem nds_nil (t : Bool) (s : Nat) : nds t s [] = [] := rfl
@[simp] theorem nds_cons (t : Bool) (s : Nat) (x : Nd) (l : List Nd) : nds t s (x :: l) = x.v t s :: nds t s l := rfl
@[simp] theorem nds_snoc (t : Bool) (s : Nat) (l : List Nd) (x : Nd) : nds t s l ++ [x.v t s] = nds t s (l ++ [x]) := by simp [nds]
theorem nds_get {t : Bool} {s : Nat} {l : List Nd} {i : Nat} {x : Nd} (h : l[i]? = some x) : (nds t s l)[i]? = some (x.v t s) := by simp [nds,h]
theorem nds_at {t : Bool} {s : Nat} {l : List Nd} {i : Nat} (h : i < l.length) : (nds t s l)[(i : Int).toNat]? = some (l[i].v t s) := nds_get (by simp [h])
theorem nds_cut {t : Bool} {s : Nat} {l : List Nd} {i : Nat} (h : i < l.length) : ∃ x,l[i]? = some x∧l.drop i = x :: l.drop (i + 1)∧(nds t s l)[(i : Int).toNat]? = some (x.v t s) :=
  ⟨l[i],by simp [h],List.drop_eq_getElem_cons h,nds_at h⟩
@[simp] theorem Nd.share (t : Bool) (s : Nat) (n : Nd) : (n.v t s).share = n.v false 0 := by simp [Nd.v,V.share,V.shareL]
@[simp] theorem Nd.snap (t : Bool) (s : Nat) (n : Nd) (q : St) : V.snap q (n.v t s) = some (n.v false 0) := by simp [Nd.v,V.snap,V.snapL,mp]
@[simp] theorem Nd.snapA (t : Bool) (s : Nat) (n : Nd) (q : St) : V.snapA q (n.v t s) = some (n.v false 0) := Nd.snap t s n q
@[simp] theorem Nd.snapP (t : Bool) (s : Nat) (n : Nd) (q : St) : V.snapP q (n.v t s) = some (n.v false 0) := Nd.snap t s n q
@[simp] theorem Nd.mention (t : Bool) (s : Nat) (n : Nd) : V.mention (n.v t s) = [] := by simp [Nd.v,V.mention,V.mentionL]
theorem Nd.thawT (s : Nat) (n : Nd) (id : Nat) : V.thaw id (n.v true s) = (.agg [.int .i64 n.op,.int .i64 n.a,.int .i64 n.b,.int .i64 n.col,.int .i64 n.test,.int .i64 n.value,.ref id 0 n.cells.length],[(id,⟨false,false,s,ints n.cells,0⟩)],id + 1) := by simp [Nd.v,V.thaw,V.thawL]
theorem Nd.thawF (s : Nat) (n : Nd) (id : Nat) : V.thaw id (n.v false s) = (n.v false s,[],id) := by simp [Nd.v,V.thaw,V.thawL]
theorem ints_tidy (l : List Int) : V.tidyL (ints l) = true := by
  induction l with
  | nil => rfl
  | cons x l ih => simp [V.tidyL,V.tidy,ih]
attribute [simp] Nd.thawT Nd.thawF ints_tidy
@[simp] theorem nds_setA (t : Bool) (s : Nat) (q : List Nd) (i : Nat) (a b c d e f : Int) (l : List Int) : (nds t s q).set i (V.agg [.int .i64 a,.int .i64 b,.int .i64 c,.int .i64 d,.int .i64 e,.int .i64 f,.lst t s (ints l)]) = nds t s (q.set i ⟨a,b,c,d,e,f,l⟩) := by simp [nds,Nd.v,List.map_set]
@[simp] theorem nds_take (t : Bool) (s n : Nat) (l : List Nd) : (nds t s l).take n = nds t s (l.take n) := by simp [nds,List.map_take]
@[simp] theorem nds_drop (t : Bool) (s n : Nat) (l : List Nd) : (nds t s l).drop n = nds t s (l.drop n) := by simp [nds,List.map_drop]
@[simp] theorem bA_nd (i : Nat) (t : Bool) (s : Nat) (n : Nd) (r : List V) : bindArgs i (n.v t s :: r) = ((i,n.v t s) :: (bindArgs (i + 1) r).1,(bindArgs (i + 1) r).2) := rfl
@[simp] theorem Nd.lodF (s : Nat) (n : Nd) (o i ver : Nat) (fs : List Nat) : V.lod o i ver fs (n.v false s) = n.v false s := by simp [Nd.v,V.lod,V.lodL]
@[simp] theorem Nd.accM (t : Bool) (s : Nat) (n : Nd) : V.accM (n.v t s) = [] := by simp [Nd.v,V.accM,V.accML]
@[simp] theorem Nd.accF (t : Bool) (s : Nat) (n : Nd) : V.accF (n.v t s) = [] := by simp [Nd.v,V.accF,V.accFL]
@[simp] theorem Nd.ren (t : Bool) (s : Nat) (n : Nd) (ρ : Nat→Option Nat) (vr : Nat→Nat) : V.ren ρ vr (n.v t s) = n.v t s := by simp [Nd.v,V.ren,V.renL]
@[simp] theorem nds_share (t : Bool) (s : Nat) (l : List Nd) : V.shareL (nds t s l) = nds false 0 l := by
  induction l with
  | nil => rfl
  | cons x l ih => simp [V.shareL,ih]
@[simp] theorem Nd.cells_v (t : Bool) (s : Nat) (n : Nd) : (n.v t s).cells = 7 := rfl
end Go.Proofs.Ytbcgenkegnmkhaa.Ev
namespace Go.Proofs.Ytbcgenkegnmkhaa.Ev
open Go
set_option linter.unusedVariables false
set_option linter.unusedSectionVars false
set_option maxRecDepth 100000
section
variable {orc : Orc} {fn : FuncId} {s : St} {Q : Ext→St→Prop}
theorem wc_region {id : Nat} {ops : Array Oper} (h : wpO orc.call cf false ops.toList s.nxt 0 ops.toList s [] (endQ Q)) (hal : cf.alR fn id = 0 := by (rw [cf_al];rfl)) : wpC orc cf fn (.region id ops false) s Q := wc_regionG hal h
theorem wc_draw {id : Nat} {ops : Array Oper} (h : wpO orc.call cf true ops.toList s.nxt 0 ops.toList s [] (endD Q (s.nxt + 32 * ops.toList.length) (beforeE ops.toList 0 ops.toList []) (ops.toList.length - 1))) (hal : cf.alR fn id = 0 := by (rw [cf_al];rfl)) : wpC orc cf fn (.region id ops true) s Q := wc_drawG hal h
end
section
variable {call : Call} {draw : Bool} {all rest : List Oper} {base i : Nat} {tr : List (List (Nat × Acc))} {Q : St→List (List (Nat × Acc))→Prop} {e : List (Nat × V)} {o : List (Nat × Ob)} {n : Nat} {d : Nat} {op : Op} {t : TypeId} {p : String} {af : Array Edge}
theorem w_ (h : opK call cf n base e o n t op (fun v o' => wpO call cf false all base (i + 1) rest ⟨(d,v) :: e,o',n + 32⟩ [] Q)) : wpO call cf false all base i (⟨some d,op,t,p,af,none⟩ :: rest) ⟨e,o,n⟩ [] Q := wo_k h
theorem w0 (h : opK call cf n base e o n t op (fun _ o' => wpO call cf false all base (i + 1) rest ⟨e,o',n + 32⟩ [] Q)) : wpO call cf false all base i (⟨none,op,t,p,af,none⟩ :: rest) ⟨e,o,n⟩ [] Q := wo_k0 h
theorem y_ (h : opK call.noI cf (base + 32 * i) base e o n t op (fun v o' => ∃ ac,accE cf (base + 32 * i) base ⟨e,o,n⟩ v op = ac∧wpO call cf true all base (i + 1) rest ⟨(d,v) :: e,o',n⟩ (ac :: tr) Q)) : wpO call cf true all base i (⟨some d,op,t,p,af,none⟩ :: rest) ⟨e,o,n⟩ tr Q := wd_k h
theorem y0 (h : opK call.noI cf (base + 32 * i) base e o n t op (fun v o' => ∃ ac,accE cf (base + 32 * i) base ⟨e,o,n⟩ v op = ac∧wpO call cf true all base (i + 1) rest ⟨e,o',n⟩ (ac :: tr) Q)) : wpO call cf true all base i (⟨none,op,t,p,af,none⟩ :: rest) ⟨e,o,n⟩ tr Q := wd_k0 h
theorem ax_ {id base : Nat} {s : St} {v : V} {op : Op} {ac : List (Nat × Acc)} {q : List (Nat × Acc)→Prop} (h1 : accE cf id base s v op = ac := by (simp [cf_md,mdT];rfl)) (h : q ac) : ∃ c,accE cf id base s v op = c∧q c := ⟨ac,h1,h⟩
theorem i_ {args : Array Operand} {ts : Array TypeId} {fo : Operand} {f : FuncId} {cs vs : List V} {v : V} {o' : List (Nat × Ob)} {m m' : Nat} (hx : opsV e args.toList = some vs := by exact rfl) (hf : opV e fo = some (.clo f cs) := by exact rfl) (hB : cf.inB f = true := by (rw [cf_in];rfl)) (hk : V.capsOk cs = true := by exact rfl)
    (hc : call.i f (vs ++ cs) ⟨e,o,n⟩ n = some (v,⟨e,o',m⟩)) (hm : max n m + 32 = m' := by (simp;rfl)) (h : wpO call cf false all base (i + 1) rest ⟨(d,v) :: e,o',m'⟩ [] Q) : wpO call cf false all base i (⟨some d,.call ⟨.value fo,args,ts⟩,t,p,af,none⟩ :: rest) ⟨e,o,n⟩ [] Q := wo_i hx hf hB hk hc hm h
theorem g_ {j : Nat} {want b : Bool} {dd : Option Tmp} (hb : ((all[j]?).bind (·.dst)).bind (geta e) = some (.bool b) := by exact rfl) (hw : b = want := by first | exact rfl | assumption) (h : wpO call cf draw all base i (⟨dd,op,t,p,af,none⟩ :: rest) ⟨e,o,n⟩ tr Q) : wpO call cf draw all base i (⟨dd,op,t,p,af,some (j,want)⟩ :: rest) ⟨e,o,n⟩ tr Q := wo_on hb hw h
theorem go_ {j : Nat} {want b : Bool} (hb : ((all[j]?).bind (·.dst)).bind (geta e) = some (.bool b) := by exact rfl) (hw : b = !want := by first | exact rfl | assumption) (h : wpO call cf false all base (i + 1) rest ⟨(d,.iop .und) :: e,o,n + 32⟩ [] Q) : wpO call cf false all base i (⟨some d,op,t,p,af,some (j,want)⟩ :: rest) ⟨e,o,n⟩ tr Q := wo_off hb hw h
theorem gd_ {j : Nat} {want b : Bool} (hb : ((all[j]?).bind (·.dst)).bind (geta e) = some (.bool b) := by exact rfl) (hw : b = !want := by first | exact rfl | assumption) (h : wpO call cf true all base (i + 1) rest ⟨(d,.iop .und) :: e,o,n⟩ ([] :: tr) Q) : wpO call cf true all base i (⟨some d,op,t,p,af,some (j,want)⟩ :: rest) ⟨e,o,n⟩ tr Q := wd_off hb hw h
theorem goN {j : Nat} {want : Bool} {y : V} (hb : ((all[j]?).bind (·.dst)).bind (geta e) = some (.iop y) := by exact rfl) (h : wpO call cf false all base (i + 1) rest ⟨(d,.iop .und) :: e,o,n + 32⟩ [] Q) : wpO call cf false all base i (⟨some d,op,t,p,af,some (j,want)⟩ :: rest) ⟨e,o,n⟩ tr Q := wo_offN hb h
theorem gw_ {j : Nat} {want b : Bool} {dd : Option Tmp} (hb : ((all[j]?).bind (·.dst)).bind (geta e) = some (.bool b) := by exact rfl)
    (h1 : b = want→wpO call cf draw all base i (⟨dd,op,t,p,af,some (j,want)⟩ :: rest) ⟨e,o,n⟩ tr Q) (h2 : b = !want→wpO call cf draw all base i (⟨dd,op,t,p,af,some (j,want)⟩ :: rest) ⟨e,o,n⟩ tr Q) :
    wpO call cf draw all base i (⟨dd,op,t,p,af,some (j,want)⟩ :: rest) ⟨e,o,n⟩ tr Q := wo_ways hb h1 h2
end
theorem oc_inl {f : FuncId} {args : List V} {s : St} {id : Nat} {x : V × St} (hp : cf.plB f = false) (h : inlE oc.call cf f args s id = some x) : oc.call.i f args s id = some x := by
  unfold cf oc at *
  exact or_inl hp h
theorem inl_s {f : FuncId} {fn : Func} {body : Code} {args : List V} {e ev : List (Nat × V)} {o o' : List (Nat × Ob)} {n id m : Nat} {v : V} (hp : cf.plB f = false) (hf : cf.code f = some fn) (hb : fn.body = some body) (hl : args.length = fn.params.size + fn.nfree) (he : rawArgs 0 args = ev)
    (h : wpC ⟨oc.call,loopU oc.call cf 6⟩ cf f body ⟨ev,o,id⟩ (fun t s => (t = .normal∨t = .ret)∧∃ vs,resL cf s fn.results.toList = some vs∧vs.all (fun v => !v.isTup) = true∧(oneV vs,(⟨e,s.obs,s.nxt⟩ : St)) = (v,⟨e,o',m⟩))) : oc.call.i f args ⟨e,o,n⟩ id = some (v,⟨e,o',m⟩) := by
  subst he
  refine oc_inl hp ?_
  obtain ⟨r,h1,h2,vs,h3,h4,h5⟩ := h
  unfold inlE
  simp only [hf,hb,if_pos hl,h1,if_pos h2,h3,if_pos h4,h5]
section
variable {all rest : List Oper} {base i : Nat} {Q : St→List (List (Nat × Acc))→Prop} {e : List (Nat × V)} {o : List (Nat × Ob)} {n : Nat} {d : Nat} {t : TypeId} {p : String} {af : Array Edge}
theorem iE {call : Call} {args : Array Operand} {ts : Array TypeId} {fo : Operand} {f : FuncId} {cs vs : List V} (hx : opsV e args.toList = some vs := by exact rfl) (hf : opV e fo = some (.clo f cs) := by exact rfl) (hB : cf.inB f = true := by (rw [cf_in];rfl)) (hk : V.capsOk cs = true := by exact rfl)
    (h : ∃ v o' m,call.i f (vs ++ cs) ⟨e,o,n⟩ n = some (v,⟨e,o',m⟩)∧∃ m',max n m + 32 = m'∧wpO call cf false all base (i + 1) rest ⟨(d,v) :: e,o',m'⟩ [] Q) : wpO call cf false all base i (⟨some d,.call ⟨.value fo,args,ts⟩,t,p,af,none⟩ :: rest) ⟨e,o,n⟩ [] Q := by
  obtain ⟨v,o',m,hc,m',hm,h⟩ := h
  exact i_ hx hf hB hk hc hm h
end
section
variable {call : Call} {id base : Nat} {e : List (Nat × V)} {o : List (Nat × Ob)} {n : Nat} {t : TypeId} {K : V→List (Nat × Ob)→Prop}
theorem k_eq {op : Op} {v : V} (h1 : opK call cf id base e o n t op (fun v' o' => v' = v∧o' = o)) (h : K v o) : opK call cf id base e o n t op K := by
  obtain ⟨v',o',h2,rfl,rfl⟩ := h1;exact ⟨_,_,h2,h⟩
theorem m_ {x : Operand} {v : V} (hx : opV e x = some v := by exact rfl) (hn : nilC x = false := by exact rfl) (h : K v o) : opK call cf id base e o n t (.move x) K := k_move hx hn h
theorem a_ {x : Operand} {v : V} (hx : opV e x = some v := by exact rfl) (hn : nilC x = false := by exact rfl) (h : K v o) : opK call cf id base e o n t (.assign x) K := k_assign hx hn h
theorem aP (h : K .und o) : opK call cf id base e o n t (.assign (.const (.pointer none))) K := k_nilP h
theorem aN {el : TypeId} {z : V} (he : cf.elem t = some el := by exact tys_ok.elem _ _ rfl) (hz : cf.zero el = some z := by exact tys_ok.zero _ _ rfl) (h : K (.lst true z.cells []) o) : opK call cf id base e o n t (.assign (.const (.slice none 0 0))) K := k_nil he hz h
theorem b_ {op : BinOp} {t' t2 : TypeId} {x y : Operand} {k : IntKind} {a b : Int} {v : V} (hx : opV e x = some (.int k a) := by exact rfl) (hy : opV e y = some (.int k b) := by exact rfl) (hn : nilC y = false := by exact rfl) (hv : intV op k a b = some v := by first | exact rfl | (simp only [intV];rw [if_neg (by first | assumption | omega)])) (h : K v o) : opK call cf id base e o n t (.binOp op t' x y t2) K := k_bin hx hy hn hv h
theorem bE {op : BinOp} {t' t2 : TypeId} {x y : Operand} {v : V}
    (h1 : opK call cf id base e o n t (.binOp op t' x y t2) (fun v' o' => v' = v∧o' = o) := by
      first
      | exact k_bin rfl rfl rfl rfl ⟨rfl,rfl⟩
      | exact k_binB (tys_ok.zero _ _ rfl) rfl rfl rfl (.inl ⟨rfl,rfl⟩) ⟨rfl,rfl⟩
      | exact k_binB (tys_ok.zero _ _ rfl) rfl rfl rfl (.inr ⟨rfl,rfl⟩) ⟨rfl,rfl⟩) (h : K v o) : opK call cf id base e o n t (.binOp op t' x y t2) K := k_eq h1 h
theorem sh {op : BinOp} {t' t2 : TypeId} {x y : Operand} {vx vy v : V} (hx : opV e x = some vx := by exact rfl) (hy : opV e y = some vy := by exact rfl) (hn : nilC y = false := by exact rfl) (ho : op = .shl∨op = .shr := by simp) (hv : shiftV op vx vy = some v := by exact rfl) (h : K v o) : opK call cf id base e o n t (.binOp op t' x y t2) K := k_shift hx hy hn ho hv h
theorem u_ {op : UnOp} {t' : TypeId} {x : Operand} {vx v : V} (hx : opV e x = some vx := by exact rfl) (hv : unV op vx = some v := by exact rfl) (h : K v o) : opK call cf id base e o n t (.unOp op t' x) K := k_un hx hv h
theorem l_ {t' : TypeId} {x : Operand} {v : V}
    (h1 : opK call cf id base e o n t (.load t' x) (fun v' o' => v' = v∧o' = o) := by
      first
      | exact k_load (tys_ok.zero _ _ rfl) rfl rfl ⟨rfl,rfl⟩
      | exact k_loadE (tys_ok.zero _ _ rfl) rfl rfl (by assumption) (by simp [Nd.v]) (by first | rfl | simp) (by first | rfl | (simp;rfl)) ⟨rfl,rfl⟩
      | exact k_loadF (tys_ok.zero _ _ rfl) rfl rfl (by first | assumption | exact set_at (by assumption)) rfl (by simp) rfl rfl ⟨rfl,rfl⟩
      | exact k_loadS (tys_ok.zero _ _ rfl) rfl (by simp [*];rfl) (by rfl) ⟨rfl,rfl⟩) (h : K v o) : opK call cf id base e o n t (.load t' x) K := k_eq h1 h
theorem s_ {t' : TypeId} {x y : Operand} {o1 : List (Nat × Ob)}
    (h1 : opK call cf id base e o n t (.store t' x y) (fun v' o' => v' = .und∧o' = o1) := by
      first
      | exact k_storeE (tys_ok.zero _ _ rfl) rfl rfl rfl rfl (by assumption) (by first | rfl | simp) (by first | rfl | simp) (by simp;rfl) (by rfl) (by rfl) (by assumption) (by first | rfl | simp) (by simp;rfl) (by simp;rfl) ⟨rfl,rfl⟩
      | exact k_storeF (tys_ok.zero _ _ rfl) rfl rfl rfl rfl (by first | assumption | exact set_at (by assumption)) rfl rfl rfl rfl rfl rfl (by (try simp only [List.set_set]);rfl) ⟨rfl,rfl⟩
      | exact k_storeS (tys_ok.zero _ _ rfl) rfl rfl (by simp [*];rfl) (by rfl) ⟨rfl,rfl⟩) (h : K .und o1) : opK call cf id base e o n t (.store t' x y) K := by
  obtain ⟨v',o',h2,rfl,rfl⟩ := h1;exact ⟨_,_,h2,h⟩
theorem f_ {t' : TypeId} {x : Operand} {i : Nat} {v : V}
    (h1 : opK call cf id base e o n t (.fieldAddr t' x i) (fun v' o' => v' = v∧o' = o) := by
      first
      | exact k_fieldAddrP rfl rfl rfl (fieldT_ok tys_ok (Y:=tys) rfl) ⟨rfl,rfl⟩
      | exact k_fieldAddrV rfl (fieldT_ok tys_ok (Y:=tys) rfl) rfl ⟨rfl,rfl⟩
      | exact k_fieldAddrF rfl rfl (by first | assumption | exact set_at (by assumption)) rfl (fieldT_ok tys_ok (Y:=tys) rfl) ⟨rfl,rfl⟩) (h : K v o) : opK call cf id base e o n t (.fieldAddr t' x i) K := k_eq h1 h
theorem fi {t' : TypeId} {x : Operand} {i : Nat} {xs : List V} {y : V} (hx : opV e x = some (.agg xs) := by exact rfl) (hf : fieldOk cf t' (.agg xs) i = true := by exact (fieldT_ok tys_ok (Y:=tys) rfl)) (hy : xs[i]? = some y := by exact rfl) (h : K y o) : opK call cf id base e o n t (.field t' x i) K := k_field hx hf hy h
theorem x_ {t' : TypeId} {x ix : Operand} {v : V}
    (h1 : opK call cf id base e o n t (.indexAddr t' x ix) (fun v' o' => v' = v∧o' = o) := by
      first
      | exact k_index (tys_ok.elem _ _ rfl) (tys_ok.zero _ _ rfl) rfl rfl (by omega) (by assumption) (by first | rfl | (simp [*] <;> fail)) ⟨rfl,rfl⟩
      | exact k_index (tys_ok.elem _ _ rfl) (tys_ok.zero _ _ rfl) rfl rfl (by omega) (by simp [*]) (by first | rfl | (simp [*] <;> fail)) ⟨rfl,rfl⟩
      | exact k_indexQ (tys_ok.elem _ _ rfl) (tys_ok.zero _ _ rfl) rfl rfl rfl rfl (by omega) (by simp;rfl) (by first | omega | simp [*]) (by assumption) (by first | rfl | (simp [*] <;> fail)) ⟨rfl,rfl⟩
      | exact k_indexQ (tys_ok.elem _ _ rfl) (tys_ok.zero _ _ rfl) rfl rfl rfl rfl (by omega) (by simp;rfl) (by first | omega | simp [*]) (by exact set_at (by assumption)) (by first | rfl | simp) ⟨rfl,rfl⟩
      | exact k_indexQ (tys_ok.elem _ _ rfl) (tys_ok.zero _ _ rfl) rfl rfl rfl rfl (by omega) (by simp;rfl) (by first | omega | simp [*]) (by simp [*];rfl) (by first | rfl | (simp [*] <;> fail)) ⟨rfl,rfl⟩) (h : K v o) : opK call cf id base e o n t (.indexAddr t' x ix) K := k_eq h1 h
theorem al {t' : TypeId} {z : V} {id' : Nat} (hz : cf.zero t' = some z := by exact tys_ok.zero _ _ rfl) (hid : id = id' := by ((try simp);rfl)) (h : K (.ptr id' 0 []) ((id',⟨true,false,z.cells,[z],0⟩) :: o)) : opK call cf id base e o n t (.alloc t') K := k_alloc hz hid h
theorem bx {t' : TypeId} {x : Operand} {v z : V} {id' : Nat} (hx : opV e x = some v := by exact rfl) (hz : cf.zero t' = some z := by exact tys_ok.zero _ _ rfl) (hid : id = id' := by ((try simp);rfl)) (hc : z.alike v = true := by exact rfl) (ht : v.isTup = false := by exact rfl) (h : K (.ptr id' 0 []) ((id',⟨true,false,z.cells,[v],0⟩) :: o)) : opK call cf id base e o n t (.box t' x) K := k_box hx hz hid hc ht h
theorem pk {c x y : Operand} {v : V}
    (h1 : opK call cf id base e o n t (.pick c x y) (fun v' o' => v' = v∧o' = o) := by
      first
      | exact k_pickT rfl (by first | rfl | assumption) rfl ⟨rfl,rfl⟩
      | exact k_pickF rfl (by first | rfl | assumption) rfl ⟨rfl,rfl⟩) (h : K v o) : opK call cf id base e o n t (.pick c x y) K := k_eq h1 h
theorem ex {x : Operand} {i : Nat} {xs : List V} {y : V} (hx : opV e x = some (.tup xs) := by exact rfl) (hy : xs[i]? = some y := by exact rfl) (h : K y o) : opK call cf id base e o n t (.extract x i) K := k_extract hx hy h
theorem nc {x : Operand} {v : V}
    (h1 : opK call cf id base e o n t (.nilCheck x) (fun v' o' => v' = v∧o' = o) := by
      first
      | exact k_nilCheckV rfl ⟨rfl,rfl⟩
      | exact k_nilCheckP rfl ⟨rfl,rfl⟩) (h : K v o) : opK call cf id base e o n t (.nilCheck x) K := k_eq h1 h
theorem cv {ts t' : TypeId} {x : Operand} {k0 k k1 : IntKind} {a : Int} (h0 : cf.ints ts = some k0 := by exact tys_ok.ints _ _ rfl) (h1 : cf.ints t' = some k := by exact tys_ok.ints _ _ rfl) (hx : opV e x = some (.int k1 a) := by exact rfl) (h : K (.int k (k.wrap a)) o) : opK call cf id base e o n t (.convert ts t' x) K := k_convert h0 h1 hx h
theorem mf {f : FuncId} {caps : Array Operand} {cs : List V} (hx : opsV e caps.toList = some cs := by exact rfl) (hk : V.capsOk cs = true := by exact rfl) (h : K (.clo f cs) o) : opK call cf id base e o n t (.makeFunc (.func f) #[] caps) K := k_makeFunc hx hk h
theorem mk {t' el : TypeId} {x y : Operand} {k k' : IntKind} {a : Int} {z : V} {id' : Nat} (hx : opV e x = some (.int k a) := by exact rfl) (hy : opV e y = some (.int k' a) := by exact rfl) (he : cf.elem t' = some el := by exact tys_ok.elem _ _ rfl) (hz : cf.zero el = some z := by exact tys_ok.zero _ _ rfl) (hid : id = id' := by ((try simp);rfl)) (h0 : 0≤a := by (simp [*];try omega)) (h1 : a < maxV := by (simp [*];try omega))
    (h : K (.ref id' 0 a.toNat) ((id',⟨false,false,z.cells,List.replicate a.toNat z,0⟩) :: o)) : opK call cf id base e o n t (.makeSlice t' x y) K := k_makeSlice hx hy he hz hid h0 h1 h
theorem sl {t' el : TypeId} {x : Operand} {lo hi : Option Operand} {vx z v : V} {vl vh : Option V} {m a b : Int} (hx : opV e x = some vx := by exact rfl) (hl : optV e lo = some vl := by exact rfl) (hh : optV e hi = some vh := by exact rfl) (he : cf.elem t' = some el := by exact tys_ok.elem _ _ rfl) (hz : cf.zero el = some z := by exact tys_ok.zero _ _ rfl) (hm : lenV vx = some m := by exact rfl)
    (ha : bound vl 0 = some a := by exact rfl) (hb : bound vh m = some b := by exact rfl) (hc : 0≤a∧a≤b∧b≤m := by first | omega | (simp [*];done) | (simp [*];omega)) (hv : cutV ⟨e,o,n⟩ z.cells vx a b = some v := by first | exact rfl | (simp [*];rfl)) (h : K v o) : opK call cf id base e o n t (.slice t' x lo hi none) K := k_slice hx hl hh he hz hm ha hb hc hv h
theorem le {args : Array Operand} {ts : Array TypeId} {t' el : TypeId} {x : V} {m : Int} (hx : opsV e args.toList = some [x] := by exact rfl) (ht : ts[0]? = some t' := by exact rfl) (he : cf.elem t' = some el := by exact tys_ok.elem _ _ rfl) (hm : lenV x = some m := by exact rfl) (h : K (.int .i64 m) o) : opK call cf id base e o n t (.call ⟨.builtin .len,args,ts⟩) K := k_len hx ht he hm h
theorem cl {args : Array Operand} {ts : Array TypeId} {t1 e1 : TypeId} {z : V} {q lo m : Nat} {ob : Ob} {ws : List V} (hx : opsV e args.toList = some [.ref q lo m] := by exact rfl) (h1 : ts[0]? = some t1 := by exact rfl) (he : cf.elem t1 = some e1 := by exact tys_ok.elem _ _ rfl) (hz : cf.zero e1 = some z := by exact tys_ok.zero _ _ rfl) (ho : geta o q = some ob := by exact rfl) (hb : ob.bx = false := by rfl) (hf : ob.fx = false := by rfl) (hs : ob.sz = z.cells := by rfl) (hm : 0 < m := by omega) (hl : lo + m = ob.xs.length := by (simp <;> omega)) (hw : ob.xs.take lo = ws := by ((try simp);rfl))
    (h : K .und ((q,⟨ob.bx,ob.fx,ob.sz,ws,ob.ver + 1⟩) :: o)) : opK call cf id base e o n t (.call ⟨.builtin .clear,args,ts⟩) K := by
  subst hw
  exact k_clear hx h1 he hz ho ⟨hb,hf,hs,hm,hl⟩ h
theorem cc {args : Array Operand} {ts : Array TypeId} {t' el : TypeId} (hx : opsV e args.toList = some [.emp true] := by exact rfl) (ht : ts[0]? = some t' := by exact rfl) (he : cf.elem t' = some el := by exact tys_ok.elem _ _ rfl) (h : K (.int .i64 0) o) : opK call cf id base e o n t (.call ⟨.builtin .cap,args,ts⟩) K := k_cap hx ht he h
theorem mi {args : Array Operand} {ts : Array TypeId} {vs : List V} {v : V} (hx : opsV e args.toList = some vs := by exact rfl) (hv : minV vs = some v := by exact rfl) (h : K v o) : opK call cf id base e o n t (.call ⟨.builtin .min,args,ts⟩) K := k_min hx hv h
theorem ap {args : Array Operand} {ts : Array TypeId} {t1 t2 e1 e2 : TypeId} {x y z : V} {ys ws bs : List V} {r1 : Option (List V × St)} {r2 : Option (Nat × List V × St)} {sz : Nat} {o1 o2 : List (Nat × Ob)} {id' m : Nat} (hx : opsV e args.toList = some [x,y] := by exact rfl) (h1 : ts[0]? = some t1 := by exact rfl) (h2 : ts[1]? = some t2 := by exact rfl) (he1 : cf.elem t1 = some e1 := by exact tys_ok.elem _ _ rfl) (hz : cf.zero e1 = some z := by exact tys_ok.zero _ _ rfl) (he2 : cf.elem t2 = some e2 := by exact tys_ok.elem _ _ rfl)
    (hel : St.elems ⟨[],o,n⟩ base y = r1 := by (simp;rfl)) (hel2 : r1 = some (ys,⟨[],o1,n⟩) := by rfl) (hb : St.base ⟨[],o1,n⟩ (x.asRow z.cells) = r2 := by (simp;rfl)) (hb2 : r2 = some (sz,bs,⟨[],o2,n⟩) := by rfl) (hid : id = id' := by ((try simp);rfl)) (hsz : sz = z.cells := by rfl) (hc : V.cellsAll z.cells ys = true := by (simp [*];try rfl)) (hw : bs ++ ys = ws := by ((try simp);rfl)) (hm : ws.length = m := by ((try simp);rfl)) (hlen : m < maxV := by (simp <;> omega))
    (h : K (.ref id' 0 m) ((id',⟨false,false,z.cells,ws,0⟩) :: o2)) : opK call cf id base e o n t (.call ⟨.builtin .append,args,ts⟩) K := k_appendS hx h1 h2 he1 hz he2 hel hel2 hb hb2 hid hsz hc hw hm hlen h
theorem apZ {args : Array Operand} {ts : Array TypeId} {t1 t2 e1 : TypeId} {z : V} {k k2 : IntKind} {m : Int} {id' : Nat} (hx : opsV e args.toList = some [.emp true,.int k m] := by exact rfl) (h1 : ts[0]? = some t1 := by exact rfl) (h2 : ts[1]? = some t2 := by exact rfl) (he1 : cf.elem t1 = some e1 := by exact tys_ok.elem _ _ rfl) (hz : cf.zero e1 = some z := by exact tys_ok.zero _ _ rfl) (hi : cf.ints t2 = some k2 := by exact tys_ok.ints _ _ rfl) (hid : id = id' := by ((try simp);rfl)) (h0 : 0 < m := by first | assumption | omega) (hm : m < maxV := by first | (unfold maxV;omega) | (simp <;> omega))
    (h : K (.ref id' 0 m.toNat) ((id',⟨false,false,z.cells,List.replicate m.toNat z,0⟩) :: o)) : opK call cf id base e o n t (.call ⟨.builtin .append,args,ts⟩) K := k_appendZ hx h1 h2 he1 hz hi hid h0 hm h
theorem bd {t' : TypeId} {ps : Array (Nat × Operand)} {zs xs : List V} {l : List (Nat × V)} {fl : List (Nat × TypeId)} (hz : cf.zero t' = some (.agg zs) := by exact tys_ok.zero _ _ rfl) (hf : cf.flds t' = some fl := by exact tys_ok.flds _ _ rfl) (hp : partsV e ps.toList = some l := by exact rfl) (hv : setParts cf t' zs l = some xs := by exact (partsT_ok tys_ok (Y:=tys) rfl)) (h : K (.agg xs) o) : opK call cf id base e o n t (.build t' ps) K := k_build hz hf hp hv h
theorem bs {t' el : TypeId} {m : Nat} {ps : Array (Nat × Operand)} {z : V} {l : List (Nat × V)} {ys : List V} {o1 : List (Nat × Ob)} {id' : Nat} {r : Option (List V × St)} (he : cf.elem t' = some el := by exact tys_ok.elem _ _ rfl) (hz : cf.zero el = some z := by exact tys_ok.zero _ _ rfl) (hp : partsV e ps.toList = some l := by exact rfl) (hc : l.map (·.1) = List.range m∧m * z.cells≤16777216∧l.all (fun e => z.alike e.2) = true := by exact ⟨rfl,by first | decide | simp,by simp⟩)
    (hf : V.fzL (l.map (·.2)) ⟨[],o,n⟩ = r := by (simp;rfl)) (hr : r = some (ys,⟨[],o1,n⟩) := by rfl) (hid : id = id' := by ((try simp);rfl)) (h : K (.ref id' 0 m) ((id',⟨false,false,z.cells,ys,0⟩) :: o1)) : opK call cf id base e o n t (.buildSlice t' m ps) K := k_buildSliceS he hz hp hc hf hr hid h
theorem ca {args : Array Operand} {ts : Array TypeId} {fo : Operand} {f : FuncId} {cs vs qs : List V} {sr : Option (List V)} {rv v : V} {o1 : List (Nat × Ob)} {id' : Nat} (hx : opsV e args.toList = some vs := by exact rfl) (hf : opV e fo = some (.clo f cs) := by exact rfl) (hB : cf.inB f = false := by (rw [cf_in];rfl)) (hk : V.capsOk cs = true := by exact rfl) (hl : lendV (cf.md f) (vs ++ cs) ⟨e,o,n⟩ = some (vs ++ cs,⟨e,o,n⟩,[]) := by (rw [cf_md];rfl))
    (hs : snapsV ⟨[],o,n⟩ (cf.md f) (vs ++ cs) = sr := by (simp [cf_md,mdT];rfl)) (hsr : sr = some qs := by first | rfl | (simp [*] <;> fail)) (hc : call f qs = some (rv,[])) (hid : id = id' := by ((try simp);rfl)) (hw : ((plainM (cf.md f) (vs ++ cs)).isEmpty = true∨rv.tidy = true∧V.tidyL ([] : List V) = true)∧(rv.thaw id').2.2≤id' + 32 := by simp [cf_md,mdT]) (hv : (rv.thaw id').1 = v := by (simp;rfl)) (ho : (rv.thaw id').2.1 ++ o = o1 := by (simp;rfl))
    (h : K v o1) : opK call cf id base e o n t (.call ⟨.value fo,args,ts⟩) K := k_callS hx hf hB hk hl hs hsr hc rfl hid hw hv ho h
end
section
variable {orc : Orc} {fn : FuncId} {Q : Ext→St→Prop} {s : St}
theorem e_ {ev : List (Nat × V)} {o : List (Nat × Ob)} {m n' : Nat} {tr : List (List (Nat × Acc))} (hn : m = n' := by ((try simp);rfl)) (h : Q .normal ⟨ev,o,n'⟩) : endQ Q ⟨ev,o,m⟩ tr := end_mk hn h
theorem ed {ev : List (Nat × V)} {o : List (Nat × Ob)} {m n n' k : Nat} {bits : List Nat} {tr : List (List (Nat × Acc))} (hn : n = n' := by (simp;rfl)) (hc : calmE bits k tr = true := by first | rfl | simp) (h : Q .normal ⟨ev,o,n'⟩) : endD Q n bits k ⟨ev,o,m⟩ tr := endD_mk hn hc h
theorem c_ {c : Operand} {a b : Code} {v : Bool} (hc : opV s.env c = some (.bool v) := by exact rfl) (h1 : v = true→wpC orc cf fn a s Q) (h2 : v = false→wpC orc cf fn b s Q) : wpC orc cf fn (.cond c a b) s Q := wc_cond hc h1 h2
theorem fin_ {e : Ext} {s : St} {fn : Func} {args : List V} {x : V × List V} {vs : List V} {r : Option (List V × St)} {q : List V × St} {os : List V} (he : e = .normal∨e = .ret := by simp)
    (hr : resL cf s fn.results.toList = some vs)
    (hz : V.fzL vs ⟨[],s.obs,s.nxt⟩ = r := by (simp;rfl)) (hq : r = some q := by rfl) (ho : outsV 0 args q.2 = some os := by (simp;rfl)) (h : (oneV q.1,os) = x) :
    (e = .normal∨e = .ret)∧∃ vs,resL cf s fn.results.toList = some vs∧∃ r,V.fzL vs ⟨[],s.obs,s.nxt⟩ = r∧∃ q,r = some q∧∃ os,outsV 0 args q.2 = some os∧(oneV q.1,os) = x :=
  ⟨he,vs,hr,r,hz,q,hq,os,ho,h⟩
theorem dn {p c : Prop} (h : c) (hf : c→False := by first | (simp;done) | (intro c;(try simp at c);omega)) : p := (hf h).elim
theorem wa_ {a b : Code} (h : wpC orc cf fn a s (aftQ orc cf fn b Q)) : wpC orc cf fn (.seq a b) s Q := wc_seq h
end
attribute [simp] rawArgs mp_some mp_none V.aggOf St.copyRow St.moveRow St.copyPlc backOne cutV rowAddr opE opV constV geta puta dela intV binV shiftV unV bA_nil bA_int bA_bool bA_lstF bA_lstT bA_iol bA_iop bA_agg bA_clo bA_vptr resL resV V.fz V.fzL V.fzI V.fzIL outsV opsV partsV setParts builtinV lenV callV lendV lendOne snapsV plainM backs V.snap V.snapL sA_int sA_bool sA_lst sA_emp sA_agg sA_ref sA_plc sA_vptr sA_clo sA_ptr sP_int sP_bool sP_lst sP_emp sP_agg sP_ref sP_plc sP_vptr sP_ptr V.snapPL V.thaw V.thawL V.tidy V.tidyL V.share V.shareL indexAddrV fieldAddrV loadV storeV V.cells V.cellsL keepEnv liveIds nodups posOf renOf renObs verOf sortObs V.ren V.renL V.mention V.mentionL keyOf boxesOf boxF findLoop St.put St.new St.at St.take St.takeQ St.give St.elems St.base appendV Ob.get Ob.set getF setF V.alike V.alikeL V.scal V.scalL V.lod V.lodL fieldOk offs rowOf oneV guardE sliceV bound optV accE accOne accLend accSnap accS V.accM V.accML V.accF V.accFL accArgs accAll calmE clashL Acc.clash beforeE maxV nilC opT V.isTup V.capsOk V.argOk V.bare V.bareL V.cellsAll V.asRow V.asRow
end Go.Proofs.Ytbcgenkegnmkhaa.Ev
namespace Go.Proofs.Ytbcgenkegnmkhaa.Ev
open Go
set_option maxRecDepth 100000
set_option linter.unusedSimpArgs false
set_option linter.unusedVariables false
set_option maxHeartbeats 2000000
theorem e_in (a b c : Int) : oc.call 60 [.int .i64 a,.int .i64 b,.int .i64 c] = some (.bool (inI a b c),[]) := by
 refine fun_s rfl cd60 rfl rfl rfl (by simp;rfl) (by simp;rfl) ?_
 refine wa_ (wc_region (w_ (a_ (h:=wo_nil (e_ (h:=aft_normal (wa_ (wc_region (w_ (m_ (h:=w_ (m_ (h:=w_ (b_ (h:=w_ (m_ (h:=?_)))))))))))))))))
 refine gw_ (h1:=?_) (h2:=?_)
 rotate_right 1
 focus
  intro c1
  refine go_ (h:=go_ (h:=go_ (h:=?_)))
 rotate_right 1
 focus
  intro c1
  refine g_ (h:=w_ (m_ (h:=g_ (h:=w_ (m_ (h:=g_ (h:=w_ (b_ (h:=?_)))))))))
 all_goals
  refine w_ (pk (h:=w_ (a_ (h:=wo_nil (e_ (h:=?_))))))
 all_goals first
 | (
  refine aft_normal ?_
  refine wc_ret (?_)
  )
 all_goals (refine fin_ (hr:=(res_tmp rfl res_nil)) (h:=?_);(focus (simp_all [inI] <;> omega)))
theorem e_l1In (a b c : Int) : oc.call 53 [.int .i64 a,.int .i64 b,.int .i64 c] = some (.bool (inI a b c),[]) := by
 refine fun_s rfl cd53 rfl rfl rfl (by simp;rfl) (by simp;rfl) ?_
 refine wa_ (wc_region (w_ (a_ (h:=wo_nil (e_ (h:=aft_normal (wa_ (wc_region (w_ (m_ (h:=w_ (m_ (h:=w_ (b_ (h:=w_ (m_ (h:=?_)))))))))))))))))
 refine gw_ (h1:=?_) (h2:=?_)
 rotate_right 1
 focus
  intro c1
  refine go_ (h:=go_ (h:=go_ (h:=?_)))
 rotate_right 1
 focus
  intro c1
  refine g_ (h:=w_ (m_ (h:=g_ (h:=w_ (m_ (h:=g_ (h:=w_ (b_ (h:=?_)))))))))
 all_goals
  refine w_ (pk (h:=w_ (a_ (h:=wo_nil (e_ (h:=?_))))))
 all_goals first
 | (
  refine aft_normal ?_
  refine wc_ret (?_)
  )
 all_goals (refine fin_ (hr:=(res_tmp rfl res_nil)) (h:=?_);(focus (simp_all [inI] <;> omega)))
theorem e_l1Min (a b : Int) : oc.call 76 [.int .i64 a,.int .i64 b] = some (.int .i64 (if a < b then a else b),[]) := by
 refine fun_s rfl cd76 rfl rfl rfl (by simp;rfl) (by simp;rfl) ?_
 refine wa_ (wc_region (w_ (a_ (h:=wo_nil (e_ (h:=aft_normal (wa_ (wa_ (wc_region (w_ (m_ (h:=w_ (m_ (h:=w_ (b_ (h:=wo_nil (e_ (h:=?_))))))))))))))))))
 refine aft_normal (?_)
 refine c_ (h1:=?_) (h2:=?_)
 rotate_right 1
 focus
  intro c1
  refine wc_skip (?_)
 rotate_right 1
 focus
  intro c1
  refine wa_ (wc_region (w_ (m_ (h:=w_ (a_ (h:=wo_nil (e_ (h:=aft_normal (wc_ret (?_))))))))))
 all_goals first
 | refine aft_ret ?_
 | (
  refine aft_normal ?_
  refine wa_ (wc_region (w_ (m_ (h:=w_ (a_ (h:=wo_nil (e_ (h:=aft_normal (wc_ret (?_))))))))))
  )
 all_goals (refine fin_ (hr:=(res_tmp rfl res_nil)) (h:=?_);(focus (first | (simp_all;done) | (simp_all <;> omega) | (simp_all <;> split <;> simp_all <;> omega))))
theorem e_two (a : Int) : oc.call 119 [.int .i64 a] = some (.bool (decide (a = 4) || decide (a = 6)),[]) := by
 refine fun_s rfl cd119 rfl rfl rfl (by simp;rfl) (by simp;rfl) ?_
 refine wa_ (wc_region (w_ (a_ (h:=wo_nil (e_ (h:=aft_normal (wa_ (wc_region (w_ (m_ (h:=w_ (bE (h:=w_ (m_ (h:=?_)))))))))))))))
 refine gw_ (h1:=?_) (h2:=?_)
 rotate_right 1
 focus
  intro c1
  refine go_ (h:=go_ (h:=?_))
 rotate_right 1
 focus
  intro c1
  refine g_ (h:=w_ (m_ (h:=g_ (h:=w_ (bE (h:=?_))))))
 all_goals
  refine w_ (pk (h:=w_ (a_ (h:=wo_nil (e_ (h:=?_))))))
 all_goals first
 | (
  refine aft_normal ?_
  refine wc_ret (?_)
  )
 all_goals (refine fin_ (hr:=(res_tmp rfl res_nil)) (h:=?_);(focus (first | (simp_all;done) | (simp_all <;> omega) | (simp_all <;> split <;> simp_all <;> omega))))
theorem e_grouped (a : Int) : oc.call 120 [.int .i64 a] = some (.bool (inI a 7 10),[]) := by
 refine fun_s rfl cd120 rfl rfl rfl (by simp;rfl) (by simp;rfl) ?_
 refine wa_ (wc_region (w_ (a_ (h:=wo_nil (e_ (h:=aft_normal (wa_ (wc_region (w_ (m_ (h:=w_ (ca (hc:=e_in _ _ _) (h:=w_ (a_ (h:=wo_nil (e_ (h:=aft_normal (?_))))))))))))))))))
 refine wc_ret (?_)
 all_goals (refine fin_ (hr:=(res_tmp rfl res_nil)) (h:=?_);(focus (first | (simp_all;done) | (simp_all <;> omega) | (simp_all <;> split <;> simp_all <;> omega))))
theorem e_l3Reads (a : Int) : oc.call 75 [.int .i64 a] = some (.int .i64 (if a = 1 then 0 else if a = 4∨a = 6 then 2 else 1),[]) := by
 refine fun_s rfl cd75 rfl rfl rfl (by simp;rfl) (by simp;rfl) ?_
 refine wa_ (wc_region (w_ (a_ (h:=wo_nil (e_ (h:=aft_normal (wa_ (wa_ (wc_region (w_ (m_ (h:=wo_nil (e_ (h:=aft_normal (wc_block (?_))))))))))))))))
 refine wa_ (wc_region (w_ (bE (h:=w_ (a_ (h:=wo_nil (e_ (h:=aft_normal (?_)))))))))
 refine c_ (h1:=?_) (h2:=?_)
 rotate_right 1
 focus
  intro c1
  refine wa_ (wa_ (wc_region (w_ (bE (h:=w_ (a_ (h:=wo_nil (e_ (h:=aft_normal (?_))))))))))
  refine c_ (h1:=?_) (h2:=?_)
  rotate_right 1
  focus
   intro c2
   refine wc_region (w_ (bE (h:=w_ (a_ (h:=wo_nil (e_ (h:=?_)))))))
  rotate_right 1
  focus
   intro c2
   refine wc_skip (?_)
  all_goals first
  | (
   refine aft_normal ?_
   refine c_ (h1:=?_) (h2:=?_)
   rotate_right 1
   focus
    intro c3
    refine wc_skip (?_)
   rotate_right 1
   focus
    intro c3
    refine wa_ (wc_region (w_ (a_ (h:=wo_nil (e_ (h:=aft_normal (wc_ret (?_))))))))
   )
 rotate_right 1
 focus
  intro c1
  refine wa_ (wc_region (w_ (a_ (h:=wo_nil (e_ (h:=aft_normal (wc_ret (?_))))))))
 all_goals first | refine blk_normal ?_ | refine blk_ret ?_
 all_goals first
 | refine aft_ret ?_
 | (
  refine aft_normal ?_
  refine wa_ (wc_region (w_ (a_ (h:=wo_nil (e_ (h:=aft_normal (wc_ret (?_))))))))
  )
 all_goals (refine fin_ (hr:=(res_tmp rfl res_nil)) (h:=?_);(focus (first | (simp_all;done) | (simp_all <;> omega) | (simp_all <;> split <;> simp_all <;> omega))))
theorem e_size (sz : Nat) (l : List V) (h : l.length < 4611686018427387904) : oc.call 107 [.lst false sz l] = some (.int .i64 l.length,[]) := by
 refine fun_s rfl cd107 rfl rfl rfl (by simp;rfl) (by simp;rfl) ?_
 refine wa_ (wc_region (w_ (a_ (h:=wo_nil (e_ (h:=aft_normal (wa_ (wc_region (w_ (m_ (h:=w_ (le (h:=w_ (a_ (h:=wo_nil (e_ (h:=aft_normal (?_))))))))))))))))))
 refine wc_ret (?_)
 all_goals (refine fin_ (hr:=(res_tmp rfl res_nil)) (h:=?_);(focus (first | (simp_all;done) | (simp_all <;> omega) | (simp_all <;> split <;> simp_all <;> omega))))
theorem e_sizeN (sz : Nat) (l : List V) (h : l.length < 4611686018427387904) : oc.call 77 [.lst false sz l] = some (.int .i64 l.length,[]) := by
 refine fun_s rfl cd77 rfl rfl rfl (by simp;rfl) (by simp;rfl) ?_
 refine wa_ (wc_region (w_ (a_ (h:=wo_nil (e_ (h:=aft_normal (wa_ (wc_region (w_ (m_ (h:=w_ (le (h:=w_ (a_ (h:=wo_nil (e_ (h:=aft_normal (?_))))))))))))))))))
 refine wc_ret (?_)
 all_goals (refine fin_ (hr:=(res_tmp rfl res_nil)) (h:=?_);(focus (first | (simp_all;done) | (simp_all <;> omega) | (simp_all <;> split <;> simp_all <;> omega))))
theorem e_isWeight (a : Int) : oc.call 87 [.int .i64 a] = some (.bool (inI a (-1000000000000) 1000000000000),[]) := by
 refine fun_s rfl cd87 rfl rfl rfl (by simp;rfl) (by simp;rfl) ?_
 refine wa_ (wc_region (w_ (a_ (h:=wo_nil (e_ (h:=aft_normal (wa_ (wc_region (w_ (m_ (h:=w_ (ca (hc:=e_in _ _ _) (h:=w_ (a_ (h:=wo_nil (e_ (h:=aft_normal (?_))))))))))))))))))
 refine wc_ret (?_)
 all_goals (refine fin_ (hr:=(res_tmp rfl res_nil)) (h:=?_);(focus (first | (simp_all;done) | (simp_all <;> omega) | (simp_all <;> split <;> simp_all <;> omega))))
theorem e_l1Weight (a : Int) : oc.call 97 [.int .i64 a] = some (.bool (inI a (-1000000000000) 1000000000000),[]) := by
 refine fun_s rfl cd97 rfl rfl rfl (by simp;rfl) (by simp;rfl) ?_
 refine wa_ (wc_region (w_ (a_ (h:=wo_nil (e_ (h:=aft_normal (wa_ (wc_region (w_ (m_ (h:=w_ (ca (hc:=e_l1In _ _ _) (h:=w_ (a_ (h:=wo_nil (e_ (h:=aft_normal (?_))))))))))))))))))
 refine wc_ret (?_)
 all_goals (refine fin_ (hr:=(res_tmp rfl res_nil)) (h:=?_);(focus (first | (simp_all;done) | (simp_all <;> omega) | (simp_all <;> split <;> simp_all <;> omega))))
def okN (l : List Nd) : Prop := ∀ d∈l,d.cells.length < 2000000
end Go.Proofs.Ytbcgenkegnmkhaa.Ev
namespace Go.Proofs.Ytbcgenkegnmkhaa.Ev
open Go
set_option maxRecDepth 100000
set_option linter.unusedSimpArgs false
set_option linter.unusedVariables false
set_option maxHeartbeats 2000000
def lz (t : Bool) (n : Nat) : Nat := match t with | true => n | false => 0
@[simp] theorem lz_t (n : Nat) : lz true n = n := rfl
@[simp] theorem lz_f (n : Nat) : lz false n = 0 := rfl
theorem lst_share (t : Bool) (s : Nat) (xs : List V) : (V.lst t s xs).share = .lst false 0 (V.shareL xs) := by cases t <;> rfl
theorem lst_mention (t : Bool) (s : Nat) (xs : List V) : (V.lst t s xs).mention = [] := by cases t <;> rfl
structure Ct where
  pl : Int
  ep : Int
  n : Int
  deriving DecidableEq
theorem Ct.eq_iff {d g : Ct} : d = g↔d.pl = g.pl∧d.ep = g.ep∧d.n = g.n := by
  cases d;cases g;simp
def Ct.v (x : Ct) : V := .agg [.int .i64 x.pl,.int .i64 x.ep,.int .i64 x.n]
def cts (l : List Ct) : List V := l.map (Ct.v)
@[simp] theorem cts_len (l : List Ct) : (cts l).length = l.length := by simp [cts]
@[simp] theorem cts_nil : cts [] = [] := rfl
@[simp] theorem cts_cons (x : Ct) (l : List Ct) : cts (x :: l) = x.v :: cts l := rfl
@[simp] theorem cts_join (l m : List Ct) : cts l ++ cts m = cts (l ++ m) := by simp [cts]
@[simp] theorem cts_snoc (l : List Ct) (x : Ct) : cts l ++ [x.v] = cts (l ++ [x]) := by simp [cts]
@[simp] theorem cts_snoc2 (l : List Ct) (a : Int) (b : Int) (c : Int) : cts l ++ [V.agg [.int .i64 a,.int .i64 b,.int .i64 c]] = cts (l ++ [⟨a,b,c⟩]) := by simp [cts,Ct.v]
@[simp] theorem cts_set2 (l : List Ct) (j : Nat) (a : Int) (b : Int) (c : Int) : (cts l).set j (V.agg [.int .i64 a,.int .i64 b,.int .i64 c]) = cts (l.set j ⟨a,b,c⟩) := by simp [cts,Ct.v,List.map_set]
@[simp] theorem cts_set (l : List Ct) (i : Nat) (x : Ct) : (cts l).set i (x.v) = cts (l.set i x) := by simp [cts,List.map_set]
theorem cts_get {l : List Ct} {i : Nat} {x : Ct} (h : l[i]? = some x) : (cts l)[i]? = some (x.v) := by simp [cts,h]
theorem cts_at {l : List Ct} {i : Nat} (h : i < l.length) : (cts l)[(i : Int).toNat]? = some (l[i].v) := cts_get (by simp [h])
theorem cts_cut {l : List Ct} {i : Nat} (h : i < l.length) : ∃ x,l[i]? = some x∧l.drop i = x :: l.drop (i + 1)∧(cts l)[(i : Int).toNat]? = some (x.v) :=
  ⟨l[i],by simp [h],List.drop_eq_getElem_cons h,cts_at h⟩
@[simp] theorem cts_take (n : Nat) (l : List Ct) : (cts l).take n = cts (l.take n) := by simp [cts,List.map_take]
@[simp] theorem cts_drop (n : Nat) (l : List Ct) : (cts l).drop n = cts (l.drop n) := by simp [cts,List.map_drop]
@[simp] theorem Ct.cells_v (x : Ct) : (x.v).cells = 3 := rfl
@[simp] theorem Ct.mention (x : Ct) : V.mention (x.v) = [] := by simp [Ct.v,V.mention,V.mentionL,lst_mention]
@[simp] theorem Ct.share (x : Ct) : (x.v).share = x.v := by simp [Ct.v,V.share,V.shareL,lst_share]
@[simp] theorem cts_shareL (l : List Ct) : V.shareL (cts l) = cts l := by
  induction l with
  | nil => rfl
  | cons x l ih => simp [V.shareL,ih]
@[simp] theorem Ct.snap (x : Ct) (q : St) : V.snap q (x.v) = some (x.v) := by simp [Ct.v,V.snap,V.snapL,mp]
@[simp] theorem Ct.snapA (x : Ct) (q : St) : V.snapA q (x.v) = some (x.v) := Ct.snap x q
@[simp] theorem Ct.snapP (x : Ct) (q : St) : V.snapP q (x.v) = some (x.v) := Ct.snap x q
@[simp] theorem Ct.accM (x : Ct) : V.accM (x.v) = [] := by simp [Ct.v,V.accM,V.accML]
@[simp] theorem Ct.accF (x : Ct) : V.accF (x.v) = [] := by simp [Ct.v,V.accF,V.accFL]
@[simp] theorem Ct.ren (x : Ct) (ρ : Nat→Option Nat) (vr : Nat→Nat) : V.ren ρ vr (x.v) = x.v := by simp [Ct.v,V.ren,V.renL]
@[simp] theorem Ct.bA (i : Nat) (x : Ct) (r : List V) : bindArgs i (x.v :: r) = ((i,x.v) :: (bindArgs (i + 1) r).1,(bindArgs (i + 1) r).2) := rfl
@[simp] theorem Ct.lodF (x : Ct) (o i ver : Nat) (fs : List Nat) : V.lod o i ver fs (x.v) = x.v := by simp [Ct.v,V.lod,V.lodL]
@[simp] theorem Ct.fz (x : Ct) (s : St) : V.fz x.v s = some (x.v,s) := by simp [Ct.v,V.fz,V.fzL,mp]
@[simp] theorem Ct.fzI (x : Ct) (s : St) : V.fzI x.v s = some (x.v,s) := by simp [Ct.v,V.fz,V.fzI,V.fzIL,mp]
@[simp] theorem Ct.scal (x : Ct) : V.scal (x.v) = true := by simp [Ct.v,V.scal,V.scalL]
@[simp] theorem Ct.isTup (x : Ct) : (x.v).isTup = false := rfl
@[simp] theorem Ct.tidyT (x : Ct) : V.tidy (x.v) = true := by simp [Ct.v,V.tidy,V.tidyL]
@[simp] theorem cts_tidyT (l : List Ct) : V.tidyL (cts l) = true := by
  induction l with
  | nil => rfl
  | cons x l ih => simp [V.tidyL,ih]
@[simp] theorem Ct.thaw (x : Ct) (id : Nat) : V.thaw id x.v = (x.v,[],id) := by simp [Ct.v,V.thaw,V.thawL]
structure Et where
  row : List Int
  w : Int
  deriving DecidableEq
theorem Et.eq_iff {d g : Et} : d = g↔d.row = g.row∧d.w = g.w := by
  cases d;cases g;simp
def Et.v (t : Bool) (x : Et) : V := .agg [.lst t (lz t 1) (ints x.row),.int .i64 x.w]
def ets (t : Bool) (l : List Et) : List V := l.map (Et.v t)
@[simp] theorem ets_len (t : Bool) (l : List Et) : (ets t l).length = l.length := by simp [ets]
@[simp] theorem ets_nil (t : Bool) : ets t [] = [] := rfl
@[simp] theorem ets_cons (t : Bool) (x : Et) (l : List Et) : ets t (x :: l) = x.v t :: ets t l := rfl
@[simp] theorem ets_join (t : Bool) (l m : List Et) : ets t l ++ ets t m = ets t (l ++ m) := by simp [ets]
@[simp] theorem ets_snoc (t : Bool) (l : List Et) (x : Et) : ets t l ++ [x.v t] = ets t (l ++ [x]) := by simp [ets]
@[simp] theorem ets_snocT2 (l : List Et) (a : List Int) (b : Int) : ets true l ++ [V.agg [.lst true 1 (ints a),.int .i64 b]] = ets true (l ++ [⟨a,b⟩]) := by simp [ets,Et.v]
@[simp] theorem ets_setT2 (l : List Et) (j : Nat) (a : List Int) (b : Int) : (ets true l).set j (V.agg [.lst true 1 (ints a),.int .i64 b]) = ets true (l.set j ⟨a,b⟩) := by simp [ets,Et.v,List.map_set]
@[simp] theorem ets_snocF2 (l : List Et) (a : List Int) (b : Int) : ets false l ++ [V.agg [.lst false 0 (ints a),.int .i64 b]] = ets false (l ++ [⟨a,b⟩]) := by simp [ets,Et.v]
@[simp] theorem ets_setF2 (l : List Et) (j : Nat) (a : List Int) (b : Int) : (ets false l).set j (V.agg [.lst false 0 (ints a),.int .i64 b]) = ets false (l.set j ⟨a,b⟩) := by simp [ets,Et.v,List.map_set]
@[simp] theorem ets_set (t : Bool) (l : List Et) (i : Nat) (x : Et) : (ets t l).set i (x.v t) = ets t (l.set i x) := by simp [ets,List.map_set]
@[simp] theorem ets_take (t : Bool) (n : Nat) (l : List Et) : (ets t l).take n = ets t (l.take n) := by simp [ets,List.map_take]
@[simp] theorem ets_drop (t : Bool) (n : Nat) (l : List Et) : (ets t l).drop n = ets t (l.drop n) := by simp [ets,List.map_drop]
@[simp] theorem Et.cells_v (t : Bool) (x : Et) : (x.v t).cells = 2 := rfl
@[simp] theorem Et.mention (t : Bool) (x : Et) : V.mention (x.v t) = [] := by simp [Et.v,V.mention,V.mentionL,lst_mention]
@[simp] theorem Et.share (t : Bool) (x : Et) : (x.v t).share = x.v false := by simp [Et.v,V.share,V.shareL,lst_share,ints_share]
@[simp] theorem ets_shareL (t : Bool) (l : List Et) : V.shareL (ets t l) = ets false l := by
  induction l with
  | nil => rfl
  | cons x l ih => simp [V.shareL,ih]
@[simp] theorem Et.snap (t : Bool) (x : Et) (q : St) : V.snap q (x.v t) = some (x.v false) := by simp [Et.v,V.snap,V.snapL,mp,ints_share]
@[simp] theorem Et.snapA (t : Bool) (x : Et) (q : St) : V.snapA q (x.v t) = some (x.v false) := Et.snap t x q
@[simp] theorem Et.snapP (t : Bool) (x : Et) (q : St) : V.snapP q (x.v t) = some (x.v false) := Et.snap t x q
@[simp] theorem Et.accM (t : Bool) (x : Et) : V.accM (x.v t) = [] := by simp [Et.v,V.accM,V.accML]
@[simp] theorem Et.accF (t : Bool) (x : Et) : V.accF (x.v t) = [] := by simp [Et.v,V.accF,V.accFL]
@[simp] theorem Et.ren (t : Bool) (x : Et) (ρ : Nat→Option Nat) (vr : Nat→Nat) : V.ren ρ vr (x.v t) = x.v t := by simp [Et.v,V.ren,V.renL]
@[simp] theorem Et.bA (i : Nat) (t : Bool) (x : Et) (r : List V) : bindArgs i (x.v t :: r) = ((i,x.v t) :: (bindArgs (i + 1) r).1,(bindArgs (i + 1) r).2) := rfl
@[simp] theorem Et.lodF (x : Et) (o i ver : Nat) (fs : List Nat) : V.lod o i ver fs (x.v false) = x.v false := by simp [Et.v,V.lod,V.lodL]
@[simp] theorem Et.fzF (x : Et) (s : St) : V.fz (x.v false) s = some (x.v false,s) := by simp [Et.v,V.fz,V.fzL,mp]
@[simp] theorem Et.fzI (t : Bool) (x : Et) (s : St) : V.fzI (x.v t) s = some (x.v t,s) := by cases t <;> simp [Et.v,V.fz,V.fzI,V.fzIL,mp]
@[simp] theorem Et.scal (t : Bool) (x : Et) : V.scal (x.v t) = false := by simp [Et.v,V.scal,V.scalL]
@[simp] theorem Et.isTup (t : Bool) (x : Et) : (x.v t).isTup = false := rfl
@[simp] theorem Et.tidyT (x : Et) : V.tidy (x.v true) = true := by simp [Et.v,V.tidy,V.tidyL,ints_tidy]
@[simp] theorem ets_tidyT (l : List Et) : V.tidyL (ets true l) = true := by
  induction l with
  | nil => rfl
  | cons x l ih => simp [V.tidyL,ih]
@[simp] theorem Et.thawF (x : Et) (id : Nat) : V.thaw id (x.v false) = (x.v false,[],id) := by simp [Et.v,V.thaw,V.thawL]
@[simp] theorem Et.thawT (x : Et) (id : Nat) : V.thaw id (x.v true) = (.agg [.ref (id) 0 x.row.length,.int .i64 x.w],[(id,⟨false,false,1,ints x.row,0⟩)],id + 1) := by simp [Et.v,V.thaw,V.thawL]
structure Fr where
  kind : Int
  node : Int
  side : Int
  ep : Int
  set : List Et
  news : List Ct
  deriving DecidableEq
theorem Fr.eq_iff {d g : Fr} : d = g↔d.kind = g.kind∧d.node = g.node∧d.side = g.side∧d.ep = g.ep∧d.set = g.set∧d.news = g.news := by
  cases d;cases g;simp
def Fr.v (t : Bool) (x : Fr) : V := .agg [.int .i64 x.kind,.int .i64 x.node,.int .i64 x.side,.int .i64 x.ep,.lst t (lz t 2) (ets t x.set),.lst t (lz t 3) (cts x.news)]
def frs (t : Bool) (l : List Fr) : List V := l.map (Fr.v t)
@[simp] theorem frs_len (t : Bool) (l : List Fr) : (frs t l).length = l.length := by simp [frs]
@[simp] theorem frs_nil (t : Bool) : frs t [] = [] := rfl
@[simp] theorem frs_cons (t : Bool) (x : Fr) (l : List Fr) : frs t (x :: l) = x.v t :: frs t l := rfl
@[simp] theorem frs_join (t : Bool) (l m : List Fr) : frs t l ++ frs t m = frs t (l ++ m) := by simp [frs]
@[simp] theorem frs_snoc (t : Bool) (l : List Fr) (x : Fr) : frs t l ++ [x.v t] = frs t (l ++ [x]) := by simp [frs]
@[simp] theorem frs_snocT2 (l : List Fr) (a : Int) (b : Int) (c : Int) (d : Int) (e : List Et) (f : List Ct) : frs true l ++ [V.agg [.int .i64 a,.int .i64 b,.int .i64 c,.int .i64 d,.lst true 2 (ets true e),.lst true 3 (cts f)]] = frs true (l ++ [⟨a,b,c,d,e,f⟩]) := by simp [frs,Fr.v]
@[simp] theorem frs_setT2 (l : List Fr) (j : Nat) (a : Int) (b : Int) (c : Int) (d : Int) (e : List Et) (f : List Ct) : (frs true l).set j (V.agg [.int .i64 a,.int .i64 b,.int .i64 c,.int .i64 d,.lst true 2 (ets true e),.lst true 3 (cts f)]) = frs true (l.set j ⟨a,b,c,d,e,f⟩) := by simp [frs,Fr.v,List.map_set]
@[simp] theorem frs_snocF2 (l : List Fr) (a : Int) (b : Int) (c : Int) (d : Int) (e : List Et) (f : List Ct) : frs false l ++ [V.agg [.int .i64 a,.int .i64 b,.int .i64 c,.int .i64 d,.lst false 0 (ets false e),.lst false 0 (cts f)]] = frs false (l ++ [⟨a,b,c,d,e,f⟩]) := by simp [frs,Fr.v]
@[simp] theorem frs_setF2 (l : List Fr) (j : Nat) (a : Int) (b : Int) (c : Int) (d : Int) (e : List Et) (f : List Ct) : (frs false l).set j (V.agg [.int .i64 a,.int .i64 b,.int .i64 c,.int .i64 d,.lst false 0 (ets false e),.lst false 0 (cts f)]) = frs false (l.set j ⟨a,b,c,d,e,f⟩) := by simp [frs,Fr.v,List.map_set]
@[simp] theorem frs_set (t : Bool) (l : List Fr) (i : Nat) (x : Fr) : (frs t l).set i (x.v t) = frs t (l.set i x) := by simp [frs,List.map_set]
@[simp] theorem frs_take (t : Bool) (n : Nat) (l : List Fr) : (frs t l).take n = frs t (l.take n) := by simp [frs,List.map_take]
@[simp] theorem frs_drop (t : Bool) (n : Nat) (l : List Fr) : (frs t l).drop n = frs t (l.drop n) := by simp [frs,List.map_drop]
@[simp] theorem Fr.cells_v (t : Bool) (x : Fr) : (x.v t).cells = 6 := rfl
@[simp] theorem Fr.mention (t : Bool) (x : Fr) : V.mention (x.v t) = [] := by simp [Fr.v,V.mention,V.mentionL,lst_mention]
@[simp] theorem Fr.share (t : Bool) (x : Fr) : (x.v t).share = x.v false := by simp [Fr.v,V.share,V.shareL,lst_share,ets_shareL,cts_shareL]
@[simp] theorem frs_shareL (t : Bool) (l : List Fr) : V.shareL (frs t l) = frs false l := by
  induction l with
  | nil => rfl
  | cons x l ih => simp [V.shareL,ih]
@[simp] theorem Fr.snap (t : Bool) (x : Fr) (q : St) : V.snap q (x.v t) = some (x.v false) := by simp [Fr.v,V.snap,V.snapL,mp,ets_shareL,cts_shareL]
@[simp] theorem Fr.snapA (t : Bool) (x : Fr) (q : St) : V.snapA q (x.v t) = some (x.v false) := Fr.snap t x q
@[simp] theorem Fr.snapP (t : Bool) (x : Fr) (q : St) : V.snapP q (x.v t) = some (x.v false) := Fr.snap t x q
@[simp] theorem Fr.accM (t : Bool) (x : Fr) : V.accM (x.v t) = [] := by simp [Fr.v,V.accM,V.accML]
@[simp] theorem Fr.accF (t : Bool) (x : Fr) : V.accF (x.v t) = [] := by simp [Fr.v,V.accF,V.accFL]
@[simp] theorem Fr.ren (t : Bool) (x : Fr) (ρ : Nat→Option Nat) (vr : Nat→Nat) : V.ren ρ vr (x.v t) = x.v t := by simp [Fr.v,V.ren,V.renL]
@[simp] theorem Fr.bA (i : Nat) (t : Bool) (x : Fr) (r : List V) : bindArgs i (x.v t :: r) = ((i,x.v t) :: (bindArgs (i + 1) r).1,(bindArgs (i + 1) r).2) := rfl
@[simp] theorem Fr.lodF (x : Fr) (o i ver : Nat) (fs : List Nat) : V.lod o i ver fs (x.v false) = x.v false := by simp [Fr.v,V.lod,V.lodL]
@[simp] theorem Fr.fzF (x : Fr) (s : St) : V.fz (x.v false) s = some (x.v false,s) := by simp [Fr.v,V.fz,V.fzL,mp]
@[simp] theorem Fr.fzI (t : Bool) (x : Fr) (s : St) : V.fzI (x.v t) s = some (x.v t,s) := by cases t <;> simp [Fr.v,V.fz,V.fzI,V.fzIL,mp]
@[simp] theorem Fr.scal (t : Bool) (x : Fr) : V.scal (x.v t) = false := by simp [Fr.v,V.scal,V.scalL]
@[simp] theorem Fr.isTup (t : Bool) (x : Fr) : (x.v t).isTup = false := rfl
@[simp] theorem Fr.tidyT (x : Fr) : V.tidy (x.v true) = true := by simp [Fr.v,V.tidy,V.tidyL,ets_tidyT,cts_tidyT]
@[simp] theorem frs_tidyT (l : List Fr) : V.tidyL (frs true l) = true := by
  induction l with
  | nil => rfl
  | cons x l ih => simp [V.tidyL,ih]
@[simp] theorem Fr.thawF (x : Fr) (id : Nat) : V.thaw id (x.v false) = (x.v false,[],id) := by simp [Fr.v,V.thaw,V.thawL]
@[simp] theorem Fr.thawT (x : Fr) (id : Nat) : V.thaw id (x.v true) = (.agg [.int .i64 x.kind,.int .i64 x.node,.int .i64 x.side,.int .i64 x.ep,.ref (id) 0 x.set.length,.ref (id + 1) 0 x.news.length],[(id,⟨false,false,2,ets true x.set,0⟩),(id + 1,⟨false,false,3,cts x.news,0⟩)],id + 1 + 1) := by simp [Fr.v,V.thaw,V.thawL]
structure Bt where
  side : Int
  ep : Int
  set : List Et
  deriving DecidableEq
theorem Bt.eq_iff {d g : Bt} : d = g↔d.side = g.side∧d.ep = g.ep∧d.set = g.set := by
  cases d;cases g;simp
def Bt.v (t : Bool) (x : Bt) : V := .agg [.int .i64 x.side,.int .i64 x.ep,.lst t (lz t 2) (ets t x.set)]
def bts (t : Bool) (l : List Bt) : List V := l.map (Bt.v t)
@[simp] theorem bts_len (t : Bool) (l : List Bt) : (bts t l).length = l.length := by simp [bts]
@[simp] theorem bts_nil (t : Bool) : bts t [] = [] := rfl
@[simp] theorem bts_cons (t : Bool) (x : Bt) (l : List Bt) : bts t (x :: l) = x.v t :: bts t l := rfl
@[simp] theorem bts_join (t : Bool) (l m : List Bt) : bts t l ++ bts t m = bts t (l ++ m) := by simp [bts]
@[simp] theorem bts_snoc (t : Bool) (l : List Bt) (x : Bt) : bts t l ++ [x.v t] = bts t (l ++ [x]) := by simp [bts]
@[simp] theorem bts_snocT2 (l : List Bt) (a : Int) (b : Int) (c : List Et) : bts true l ++ [V.agg [.int .i64 a,.int .i64 b,.lst true 2 (ets true c)]] = bts true (l ++ [⟨a,b,c⟩]) := by simp [bts,Bt.v]
@[simp] theorem bts_setT2 (l : List Bt) (j : Nat) (a : Int) (b : Int) (c : List Et) : (bts true l).set j (V.agg [.int .i64 a,.int .i64 b,.lst true 2 (ets true c)]) = bts true (l.set j ⟨a,b,c⟩) := by simp [bts,Bt.v,List.map_set]
@[simp] theorem bts_snocF2 (l : List Bt) (a : Int) (b : Int) (c : List Et) : bts false l ++ [V.agg [.int .i64 a,.int .i64 b,.lst false 0 (ets false c)]] = bts false (l ++ [⟨a,b,c⟩]) := by simp [bts,Bt.v]
@[simp] theorem bts_setF2 (l : List Bt) (j : Nat) (a : Int) (b : Int) (c : List Et) : (bts false l).set j (V.agg [.int .i64 a,.int .i64 b,.lst false 0 (ets false c)]) = bts false (l.set j ⟨a,b,c⟩) := by simp [bts,Bt.v,List.map_set]
@[simp] theorem bts_set (t : Bool) (l : List Bt) (i : Nat) (x : Bt) : (bts t l).set i (x.v t) = bts t (l.set i x) := by simp [bts,List.map_set]
@[simp] theorem bts_take (t : Bool) (n : Nat) (l : List Bt) : (bts t l).take n = bts t (l.take n) := by simp [bts,List.map_take]
@[simp] theorem bts_drop (t : Bool) (n : Nat) (l : List Bt) : (bts t l).drop n = bts t (l.drop n) := by simp [bts,List.map_drop]
@[simp] theorem Bt.cells_v (t : Bool) (x : Bt) : (x.v t).cells = 3 := rfl
@[simp] theorem Bt.mention (t : Bool) (x : Bt) : V.mention (x.v t) = [] := by simp [Bt.v,V.mention,V.mentionL,lst_mention]
@[simp] theorem Bt.share (t : Bool) (x : Bt) : (x.v t).share = x.v false := by simp [Bt.v,V.share,V.shareL,lst_share,ets_shareL]
@[simp] theorem bts_shareL (t : Bool) (l : List Bt) : V.shareL (bts t l) = bts false l := by
  induction l with
  | nil => rfl
  | cons x l ih => simp [V.shareL,ih]
@[simp] theorem Bt.snap (t : Bool) (x : Bt) (q : St) : V.snap q (x.v t) = some (x.v false) := by simp [Bt.v,V.snap,V.snapL,mp,ets_shareL]
@[simp] theorem Bt.snapA (t : Bool) (x : Bt) (q : St) : V.snapA q (x.v t) = some (x.v false) := Bt.snap t x q
@[simp] theorem Bt.snapP (t : Bool) (x : Bt) (q : St) : V.snapP q (x.v t) = some (x.v false) := Bt.snap t x q
@[simp] theorem Bt.accM (t : Bool) (x : Bt) : V.accM (x.v t) = [] := by simp [Bt.v,V.accM,V.accML]
@[simp] theorem Bt.accF (t : Bool) (x : Bt) : V.accF (x.v t) = [] := by simp [Bt.v,V.accF,V.accFL]
@[simp] theorem Bt.ren (t : Bool) (x : Bt) (ρ : Nat→Option Nat) (vr : Nat→Nat) : V.ren ρ vr (x.v t) = x.v t := by simp [Bt.v,V.ren,V.renL]
@[simp] theorem Bt.bA (i : Nat) (t : Bool) (x : Bt) (r : List V) : bindArgs i (x.v t :: r) = ((i,x.v t) :: (bindArgs (i + 1) r).1,(bindArgs (i + 1) r).2) := rfl
@[simp] theorem Bt.lodF (x : Bt) (o i ver : Nat) (fs : List Nat) : V.lod o i ver fs (x.v false) = x.v false := by simp [Bt.v,V.lod,V.lodL]
@[simp] theorem Bt.fzF (x : Bt) (s : St) : V.fz (x.v false) s = some (x.v false,s) := by simp [Bt.v,V.fz,V.fzL,mp]
@[simp] theorem Bt.fzI (t : Bool) (x : Bt) (s : St) : V.fzI (x.v t) s = some (x.v t,s) := by cases t <;> simp [Bt.v,V.fz,V.fzI,V.fzIL,mp]
@[simp] theorem Bt.scal (t : Bool) (x : Bt) : V.scal (x.v t) = false := by simp [Bt.v,V.scal,V.scalL]
@[simp] theorem Bt.isTup (t : Bool) (x : Bt) : (x.v t).isTup = false := rfl
@[simp] theorem Bt.tidyT (x : Bt) : V.tidy (x.v true) = true := by simp [Bt.v,V.tidy,V.tidyL,ets_tidyT]
@[simp] theorem bts_tidyT (l : List Bt) : V.tidyL (bts true l) = true := by
  induction l with
  | nil => rfl
  | cons x l ih => simp [V.tidyL,ih]
@[simp] theorem Bt.thawF (x : Bt) (id : Nat) : V.thaw id (x.v false) = (x.v false,[],id) := by simp [Bt.v,V.thaw,V.thawL]
@[simp] theorem Bt.thawT (x : Bt) (id : Nat) : V.thaw id (x.v true) = (.agg [.int .i64 x.side,.int .i64 x.ep,.ref (id) 0 x.set.length],[(id,⟨false,false,2,ets true x.set,0⟩)],id + 1) := by simp [Bt.v,V.thaw,V.thawL]
structure Hd where
  oldA : List Et
  oldB : List Et
  waits : List Bt
  told : Int
  deriving DecidableEq
theorem Hd.eq_iff {d g : Hd} : d = g↔d.oldA = g.oldA∧d.oldB = g.oldB∧d.waits = g.waits∧d.told = g.told := by
  cases d;cases g;simp
def Hd.v (t : Bool) (x : Hd) : V := .agg [.lst t (lz t 2) (ets t x.oldA),.lst t (lz t 2) (ets t x.oldB),.lst t (lz t 3) (bts t x.waits),.int .i64 x.told]
def hds (t : Bool) (l : List Hd) : List V := l.map (Hd.v t)
@[simp] theorem hds_len (t : Bool) (l : List Hd) : (hds t l).length = l.length := by simp [hds]
@[simp] theorem hds_nil (t : Bool) : hds t [] = [] := rfl
@[simp] theorem hds_cons (t : Bool) (x : Hd) (l : List Hd) : hds t (x :: l) = x.v t :: hds t l := rfl
@[simp] theorem hds_join (t : Bool) (l m : List Hd) : hds t l ++ hds t m = hds t (l ++ m) := by simp [hds]
@[simp] theorem hds_snoc (t : Bool) (l : List Hd) (x : Hd) : hds t l ++ [x.v t] = hds t (l ++ [x]) := by simp [hds]
@[simp] theorem hds_snocT2 (l : List Hd) (a : List Et) (b : List Et) (c : List Bt) (d : Int) : hds true l ++ [V.agg [.lst true 2 (ets true a),.lst true 2 (ets true b),.lst true 3 (bts true c),.int .i64 d]] = hds true (l ++ [⟨a,b,c,d⟩]) := by simp [hds,Hd.v]
@[simp] theorem hds_setT2 (l : List Hd) (j : Nat) (a : List Et) (b : List Et) (c : List Bt) (d : Int) : (hds true l).set j (V.agg [.lst true 2 (ets true a),.lst true 2 (ets true b),.lst true 3 (bts true c),.int .i64 d]) = hds true (l.set j ⟨a,b,c,d⟩) := by simp [hds,Hd.v,List.map_set]
@[simp] theorem hds_snocF2 (l : List Hd) (a : List Et) (b : List Et) (c : List Bt) (d : Int) : hds false l ++ [V.agg [.lst false 0 (ets false a),.lst false 0 (ets false b),.lst false 0 (bts false c),.int .i64 d]] = hds false (l ++ [⟨a,b,c,d⟩]) := by simp [hds,Hd.v]
@[simp] theorem hds_setF2 (l : List Hd) (j : Nat) (a : List Et) (b : List Et) (c : List Bt) (d : Int) : (hds false l).set j (V.agg [.lst false 0 (ets false a),.lst false 0 (ets false b),.lst false 0 (bts false c),.int .i64 d]) = hds false (l.set j ⟨a,b,c,d⟩) := by simp [hds,Hd.v,List.map_set]
@[simp] theorem hds_set (t : Bool) (l : List Hd) (i : Nat) (x : Hd) : (hds t l).set i (x.v t) = hds t (l.set i x) := by simp [hds,List.map_set]
@[simp] theorem hds_take (t : Bool) (n : Nat) (l : List Hd) : (hds t l).take n = hds t (l.take n) := by simp [hds,List.map_take]
@[simp] theorem hds_drop (t : Bool) (n : Nat) (l : List Hd) : (hds t l).drop n = hds t (l.drop n) := by simp [hds,List.map_drop]
@[simp] theorem Hd.cells_v (t : Bool) (x : Hd) : (x.v t).cells = 4 := rfl
@[simp] theorem Hd.mention (t : Bool) (x : Hd) : V.mention (x.v t) = [] := by simp [Hd.v,V.mention,V.mentionL,lst_mention]
@[simp] theorem Hd.share (t : Bool) (x : Hd) : (x.v t).share = x.v false := by simp [Hd.v,V.share,V.shareL,lst_share,ets_shareL,ets_shareL,bts_shareL]
@[simp] theorem hds_shareL (t : Bool) (l : List Hd) : V.shareL (hds t l) = hds false l := by
  induction l with
  | nil => rfl
  | cons x l ih => simp [V.shareL,ih]
@[simp] theorem Hd.snap (t : Bool) (x : Hd) (q : St) : V.snap q (x.v t) = some (x.v false) := by simp [Hd.v,V.snap,V.snapL,mp,ets_shareL,ets_shareL,bts_shareL]
@[simp] theorem Hd.snapA (t : Bool) (x : Hd) (q : St) : V.snapA q (x.v t) = some (x.v false) := Hd.snap t x q
@[simp] theorem Hd.snapP (t : Bool) (x : Hd) (q : St) : V.snapP q (x.v t) = some (x.v false) := Hd.snap t x q
@[simp] theorem Hd.accM (t : Bool) (x : Hd) : V.accM (x.v t) = [] := by simp [Hd.v,V.accM,V.accML]
@[simp] theorem Hd.accF (t : Bool) (x : Hd) : V.accF (x.v t) = [] := by simp [Hd.v,V.accF,V.accFL]
@[simp] theorem Hd.ren (t : Bool) (x : Hd) (ρ : Nat→Option Nat) (vr : Nat→Nat) : V.ren ρ vr (x.v t) = x.v t := by simp [Hd.v,V.ren,V.renL]
@[simp] theorem Hd.bA (i : Nat) (t : Bool) (x : Hd) (r : List V) : bindArgs i (x.v t :: r) = ((i,x.v t) :: (bindArgs (i + 1) r).1,(bindArgs (i + 1) r).2) := rfl
@[simp] theorem Hd.lodF (x : Hd) (o i ver : Nat) (fs : List Nat) : V.lod o i ver fs (x.v false) = x.v false := by simp [Hd.v,V.lod,V.lodL]
@[simp] theorem Hd.fzF (x : Hd) (s : St) : V.fz (x.v false) s = some (x.v false,s) := by simp [Hd.v,V.fz,V.fzL,mp]
@[simp] theorem Hd.fzI (t : Bool) (x : Hd) (s : St) : V.fzI (x.v t) s = some (x.v t,s) := by cases t <;> simp [Hd.v,V.fz,V.fzI,V.fzIL,mp]
@[simp] theorem Hd.scal (t : Bool) (x : Hd) : V.scal (x.v t) = false := by simp [Hd.v,V.scal,V.scalL]
@[simp] theorem Hd.isTup (t : Bool) (x : Hd) : (x.v t).isTup = false := rfl
@[simp] theorem Hd.tidyT (x : Hd) : V.tidy (x.v true) = true := by simp [Hd.v,V.tidy,V.tidyL,ets_tidyT,ets_tidyT,bts_tidyT]
@[simp] theorem hds_tidyT (l : List Hd) : V.tidyL (hds true l) = true := by
  induction l with
  | nil => rfl
  | cons x l ih => simp [V.tidyL,ih]
@[simp] theorem Hd.thawF (x : Hd) (id : Nat) : V.thaw id (x.v false) = (x.v false,[],id) := by simp [Hd.v,V.thaw,V.thawL]
@[simp] theorem Hd.thawT (x : Hd) (id : Nat) : V.thaw id (x.v true) = (.agg [.ref (id) 0 x.oldA.length,.ref (id + 1) 0 x.oldB.length,.ref (id + 1 + 1) 0 x.waits.length,.int .i64 x.told],[(id,⟨false,false,2,ets true x.oldA,0⟩),(id + 1,⟨false,false,2,ets true x.oldB,0⟩),(id + 1 + 1,⟨false,false,3,bts true x.waits,0⟩)],id + 1 + 1 + 1) := by simp [Hd.v,V.thaw,V.thawL]
structure Rl where
  node : Int
  ep : Int
  set : List Et
  deriving DecidableEq
theorem Rl.eq_iff {d g : Rl} : d = g↔d.node = g.node∧d.ep = g.ep∧d.set = g.set := by
  cases d;cases g;simp
def Rl.v (t : Bool) (x : Rl) : V := .agg [.int .i64 x.node,.int .i64 x.ep,.lst t (lz t 2) (ets t x.set)]
def rls (t : Bool) (l : List Rl) : List V := l.map (Rl.v t)
@[simp] theorem rls_len (t : Bool) (l : List Rl) : (rls t l).length = l.length := by simp [rls]
@[simp] theorem rls_nil (t : Bool) : rls t [] = [] := rfl
@[simp] theorem rls_cons (t : Bool) (x : Rl) (l : List Rl) : rls t (x :: l) = x.v t :: rls t l := rfl
@[simp] theorem rls_join (t : Bool) (l m : List Rl) : rls t l ++ rls t m = rls t (l ++ m) := by simp [rls]
@[simp] theorem rls_snoc (t : Bool) (l : List Rl) (x : Rl) : rls t l ++ [x.v t] = rls t (l ++ [x]) := by simp [rls]
@[simp] theorem rls_snocT2 (l : List Rl) (a : Int) (b : Int) (c : List Et) : rls true l ++ [V.agg [.int .i64 a,.int .i64 b,.lst true 2 (ets true c)]] = rls true (l ++ [⟨a,b,c⟩]) := by simp [rls,Rl.v]
@[simp] theorem rls_setT2 (l : List Rl) (j : Nat) (a : Int) (b : Int) (c : List Et) : (rls true l).set j (V.agg [.int .i64 a,.int .i64 b,.lst true 2 (ets true c)]) = rls true (l.set j ⟨a,b,c⟩) := by simp [rls,Rl.v,List.map_set]
@[simp] theorem rls_snocF2 (l : List Rl) (a : Int) (b : Int) (c : List Et) : rls false l ++ [V.agg [.int .i64 a,.int .i64 b,.lst false 0 (ets false c)]] = rls false (l ++ [⟨a,b,c⟩]) := by simp [rls,Rl.v]
@[simp] theorem rls_setF2 (l : List Rl) (j : Nat) (a : Int) (b : Int) (c : List Et) : (rls false l).set j (V.agg [.int .i64 a,.int .i64 b,.lst false 0 (ets false c)]) = rls false (l.set j ⟨a,b,c⟩) := by simp [rls,Rl.v,List.map_set]
@[simp] theorem rls_set (t : Bool) (l : List Rl) (i : Nat) (x : Rl) : (rls t l).set i (x.v t) = rls t (l.set i x) := by simp [rls,List.map_set]
@[simp] theorem rls_take (t : Bool) (n : Nat) (l : List Rl) : (rls t l).take n = rls t (l.take n) := by simp [rls,List.map_take]
@[simp] theorem rls_drop (t : Bool) (n : Nat) (l : List Rl) : (rls t l).drop n = rls t (l.drop n) := by simp [rls,List.map_drop]
@[simp] theorem Rl.cells_v (t : Bool) (x : Rl) : (x.v t).cells = 3 := rfl
@[simp] theorem Rl.mention (t : Bool) (x : Rl) : V.mention (x.v t) = [] := by simp [Rl.v,V.mention,V.mentionL,lst_mention]
@[simp] theorem Rl.share (t : Bool) (x : Rl) : (x.v t).share = x.v false := by simp [Rl.v,V.share,V.shareL,lst_share,ets_shareL]
@[simp] theorem rls_shareL (t : Bool) (l : List Rl) : V.shareL (rls t l) = rls false l := by
  induction l with
  | nil => rfl
  | cons x l ih => simp [V.shareL,ih]
@[simp] theorem Rl.snap (t : Bool) (x : Rl) (q : St) : V.snap q (x.v t) = some (x.v false) := by simp [Rl.v,V.snap,V.snapL,mp,ets_shareL]
@[simp] theorem Rl.snapA (t : Bool) (x : Rl) (q : St) : V.snapA q (x.v t) = some (x.v false) := Rl.snap t x q
@[simp] theorem Rl.snapP (t : Bool) (x : Rl) (q : St) : V.snapP q (x.v t) = some (x.v false) := Rl.snap t x q
@[simp] theorem Rl.accM (t : Bool) (x : Rl) : V.accM (x.v t) = [] := by simp [Rl.v,V.accM,V.accML]
@[simp] theorem Rl.accF (t : Bool) (x : Rl) : V.accF (x.v t) = [] := by simp [Rl.v,V.accF,V.accFL]
@[simp] theorem Rl.ren (t : Bool) (x : Rl) (ρ : Nat→Option Nat) (vr : Nat→Nat) : V.ren ρ vr (x.v t) = x.v t := by simp [Rl.v,V.ren,V.renL]
@[simp] theorem Rl.bA (i : Nat) (t : Bool) (x : Rl) (r : List V) : bindArgs i (x.v t :: r) = ((i,x.v t) :: (bindArgs (i + 1) r).1,(bindArgs (i + 1) r).2) := rfl
@[simp] theorem Rl.lodF (x : Rl) (o i ver : Nat) (fs : List Nat) : V.lod o i ver fs (x.v false) = x.v false := by simp [Rl.v,V.lod,V.lodL]
@[simp] theorem Rl.fzF (x : Rl) (s : St) : V.fz (x.v false) s = some (x.v false,s) := by simp [Rl.v,V.fz,V.fzL,mp]
@[simp] theorem Rl.fzI (t : Bool) (x : Rl) (s : St) : V.fzI (x.v t) s = some (x.v t,s) := by cases t <;> simp [Rl.v,V.fz,V.fzI,V.fzIL,mp]
@[simp] theorem Rl.scal (t : Bool) (x : Rl) : V.scal (x.v t) = false := by simp [Rl.v,V.scal,V.scalL]
@[simp] theorem Rl.isTup (t : Bool) (x : Rl) : (x.v t).isTup = false := rfl
@[simp] theorem Rl.tidyT (x : Rl) : V.tidy (x.v true) = true := by simp [Rl.v,V.tidy,V.tidyL,ets_tidyT]
@[simp] theorem rls_tidyT (l : List Rl) : V.tidyL (rls true l) = true := by
  induction l with
  | nil => rfl
  | cons x l ih => simp [V.tidyL,ih]
@[simp] theorem Rl.thawF (x : Rl) (id : Nat) : V.thaw id (x.v false) = (x.v false,[],id) := by simp [Rl.v,V.thaw,V.thawL]
@[simp] theorem Rl.thawT (x : Rl) (id : Nat) : V.thaw id (x.v true) = (.agg [.int .i64 x.node,.int .i64 x.ep,.ref (id) 0 x.set.length],[(id,⟨false,false,2,ets true x.set,0⟩)],id + 1) := by simp [Rl.v,V.thaw,V.thawL]
structure Wk where
  inbox : List Fr
  counts : List Ct
  nodes : List Hd
  ep : Int
  top : Int
  outs : List Rl
  bad : Bool
  deriving DecidableEq
theorem Wk.eq_iff {d g : Wk} : d = g↔d.inbox = g.inbox∧d.counts = g.counts∧d.nodes = g.nodes∧d.ep = g.ep∧d.top = g.top∧d.outs = g.outs∧d.bad = g.bad := by
  cases d;cases g;simp
def Wk.v (t : Bool) (x : Wk) : V := .agg [.lst t (lz t 6) (frs t x.inbox),.lst t (lz t 3) (cts x.counts),.lst t (lz t 4) (hds t x.nodes),.int .i64 x.ep,.int .i64 x.top,.lst t (lz t 3) (rls t x.outs),.bool x.bad]
def wks (t : Bool) (l : List Wk) : List V := l.map (Wk.v t)
@[simp] theorem wks_len (t : Bool) (l : List Wk) : (wks t l).length = l.length := by simp [wks]
@[simp] theorem wks_nil (t : Bool) : wks t [] = [] := rfl
@[simp] theorem wks_cons (t : Bool) (x : Wk) (l : List Wk) : wks t (x :: l) = x.v t :: wks t l := rfl
@[simp] theorem wks_join (t : Bool) (l m : List Wk) : wks t l ++ wks t m = wks t (l ++ m) := by simp [wks]
@[simp] theorem wks_snoc (t : Bool) (l : List Wk) (x : Wk) : wks t l ++ [x.v t] = wks t (l ++ [x]) := by simp [wks]
@[simp] theorem wks_snocT2 (l : List Wk) (a : List Fr) (b : List Ct) (c : List Hd) (d : Int) (e : Int) (f : List Rl) (g : Bool) : wks true l ++ [V.agg [.lst true 6 (frs true a),.lst true 3 (cts b),.lst true 4 (hds true c),.int .i64 d,.int .i64 e,.lst true 3 (rls true f),.bool g]] = wks true (l ++ [⟨a,b,c,d,e,f,g⟩]) := by simp [wks,Wk.v]
@[simp] theorem wks_setT2 (l : List Wk) (j : Nat) (a : List Fr) (b : List Ct) (c : List Hd) (d : Int) (e : Int) (f : List Rl) (g : Bool) : (wks true l).set j (V.agg [.lst true 6 (frs true a),.lst true 3 (cts b),.lst true 4 (hds true c),.int .i64 d,.int .i64 e,.lst true 3 (rls true f),.bool g]) = wks true (l.set j ⟨a,b,c,d,e,f,g⟩) := by simp [wks,Wk.v,List.map_set]
@[simp] theorem wks_snocF2 (l : List Wk) (a : List Fr) (b : List Ct) (c : List Hd) (d : Int) (e : Int) (f : List Rl) (g : Bool) : wks false l ++ [V.agg [.lst false 0 (frs false a),.lst false 0 (cts b),.lst false 0 (hds false c),.int .i64 d,.int .i64 e,.lst false 0 (rls false f),.bool g]] = wks false (l ++ [⟨a,b,c,d,e,f,g⟩]) := by simp [wks,Wk.v]
@[simp] theorem wks_setF2 (l : List Wk) (j : Nat) (a : List Fr) (b : List Ct) (c : List Hd) (d : Int) (e : Int) (f : List Rl) (g : Bool) : (wks false l).set j (V.agg [.lst false 0 (frs false a),.lst false 0 (cts b),.lst false 0 (hds false c),.int .i64 d,.int .i64 e,.lst false 0 (rls false f),.bool g]) = wks false (l.set j ⟨a,b,c,d,e,f,g⟩) := by simp [wks,Wk.v,List.map_set]
@[simp] theorem wks_set (t : Bool) (l : List Wk) (i : Nat) (x : Wk) : (wks t l).set i (x.v t) = wks t (l.set i x) := by simp [wks,List.map_set]
@[simp] theorem wks_take (t : Bool) (n : Nat) (l : List Wk) : (wks t l).take n = wks t (l.take n) := by simp [wks,List.map_take]
@[simp] theorem wks_drop (t : Bool) (n : Nat) (l : List Wk) : (wks t l).drop n = wks t (l.drop n) := by simp [wks,List.map_drop]
@[simp] theorem Wk.cells_v (t : Bool) (x : Wk) : (x.v t).cells = 7 := rfl
@[simp] theorem Wk.mention (t : Bool) (x : Wk) : V.mention (x.v t) = [] := by simp [Wk.v,V.mention,V.mentionL,lst_mention]
@[simp] theorem Wk.share (t : Bool) (x : Wk) : (x.v t).share = x.v false := by simp [Wk.v,V.share,V.shareL,lst_share,frs_shareL,cts_shareL,hds_shareL,rls_shareL]
@[simp] theorem wks_shareL (t : Bool) (l : List Wk) : V.shareL (wks t l) = wks false l := by
  induction l with
  | nil => rfl
  | cons x l ih => simp [V.shareL,ih]
@[simp] theorem Wk.snap (t : Bool) (x : Wk) (q : St) : V.snap q (x.v t) = some (x.v false) := by simp [Wk.v,V.snap,V.snapL,mp,frs_shareL,cts_shareL,hds_shareL,rls_shareL]
@[simp] theorem Wk.snapA (t : Bool) (x : Wk) (q : St) : V.snapA q (x.v t) = some (x.v false) := Wk.snap t x q
@[simp] theorem Wk.snapP (t : Bool) (x : Wk) (q : St) : V.snapP q (x.v t) = some (x.v false) := Wk.snap t x q
@[simp] theorem Wk.accM (t : Bool) (x : Wk) : V.accM (x.v t) = [] := by simp [Wk.v,V.accM,V.accML]
@[simp] theorem Wk.accF (t : Bool) (x : Wk) : V.accF (x.v t) = [] := by simp [Wk.v,V.accF,V.accFL]
@[simp] theorem Wk.ren (t : Bool) (x : Wk) (ρ : Nat→Option Nat) (vr : Nat→Nat) : V.ren ρ vr (x.v t) = x.v t := by simp [Wk.v,V.ren,V.renL]
@[simp] theorem Wk.bA (i : Nat) (t : Bool) (x : Wk) (r : List V) : bindArgs i (x.v t :: r) = ((i,x.v t) :: (bindArgs (i + 1) r).1,(bindArgs (i + 1) r).2) := rfl
@[simp] theorem Wk.lodF (x : Wk) (o i ver : Nat) (fs : List Nat) : V.lod o i ver fs (x.v false) = x.v false := by simp [Wk.v,V.lod,V.lodL]
@[simp] theorem Wk.fzF (x : Wk) (s : St) : V.fz (x.v false) s = some (x.v false,s) := by simp [Wk.v,V.fz,V.fzL,mp]
@[simp] theorem Wk.fzI (t : Bool) (x : Wk) (s : St) : V.fzI (x.v t) s = some (x.v t,s) := by cases t <;> simp [Wk.v,V.fz,V.fzI,V.fzIL,mp]
@[simp] theorem Wk.scal (t : Bool) (x : Wk) : V.scal (x.v t) = false := by simp [Wk.v,V.scal,V.scalL]
@[simp] theorem Wk.isTup (t : Bool) (x : Wk) : (x.v t).isTup = false := rfl
@[simp] theorem Wk.tidyT (x : Wk) : V.tidy (x.v true) = true := by simp [Wk.v,V.tidy,V.tidyL,frs_tidyT,cts_tidyT,hds_tidyT,rls_tidyT]
@[simp] theorem wks_tidyT (l : List Wk) : V.tidyL (wks true l) = true := by
  induction l with
  | nil => rfl
  | cons x l ih => simp [V.tidyL,ih]
@[simp] theorem Wk.thawF (x : Wk) (id : Nat) : V.thaw id (x.v false) = (x.v false,[],id) := by simp [Wk.v,V.thaw,V.thawL]
@[simp] theorem Wk.thawT (x : Wk) (id : Nat) : V.thaw id (x.v true) = (.agg [.ref (id) 0 x.inbox.length,.ref (id + 1) 0 x.counts.length,.ref (id + 1 + 1) 0 x.nodes.length,.int .i64 x.ep,.int .i64 x.top,.ref (id + 1 + 1 + 1) 0 x.outs.length,.bool x.bad],[(id,⟨false,false,6,frs true x.inbox,0⟩),(id + 1,⟨false,false,3,cts x.counts,0⟩),(id + 1 + 1,⟨false,false,4,hds true x.nodes,0⟩),(id + 1 + 1 + 1,⟨false,false,3,rls true x.outs,0⟩)],id + 1 + 1 + 1 + 1) := by simp [Wk.v,V.thaw,V.thawL]
def wS {α : Type} (f : α→Nat) (l : List α) : Nat := (l.map f).sum
@[simp] theorem wS_nil {α : Type} (f : α→Nat) : wS f [] = 0 := rfl
@[simp] theorem wS_cons {α : Type} (f : α→Nat) (x : α) (l : List α) : wS f (x :: l) = f x + wS f l := by simp [wS]
end Go.Proofs.Ytbcgenkegnmkhaa.Ev
namespace Go.Proofs.Ytbcgenkegnmkhaa.Ev
open Go
set_option maxRecDepth 100000
set_option linter.unusedSimpArgs false
set_option linter.unusedVariables false
set_option maxHeartbeats 2000000
theorem oc_ok : CallOK Try.prog oc.call := by
  unfold oc
  exact or_sound (by kernel_rfl) tb
def etss (t : Bool) (l : List (List Et)) : List V := l.map fun x => .lst t (lz t 2) (ets t x)
@[simp] theorem etss_len (t : Bool) (l : List (List Et)) : (etss t l).length = l.length := by simp [etss]
@[simp] theorem etss_nil (t : Bool) : etss t [] = [] := rfl
@[simp] theorem etss_cons (t : Bool) (x : List Et) (l : List (List Et)) : etss t (x :: l) = .lst t (lz t 2) (ets t x) :: etss t l := rfl
@[simp] theorem etss_join (t : Bool) (l m : List (List Et)) : etss t l ++ etss t m = etss t (l ++ m) := by simp [etss]
@[simp] theorem etss_snocT (l : List (List Et)) (x : List Et) : etss true l ++ [.lst true 2 (ets true x)] = etss true (l ++ [x]) := by simp [etss]
@[simp] theorem etss_snocF (l : List (List Et)) (x : List Et) : etss false l ++ [.lst false 0 (ets false x)] = etss false (l ++ [x]) := by simp [etss]
@[simp] theorem etss_setT (l : List (List Et)) (i : Nat) (x : List Et) : (etss true l).set i (.lst true 2 (ets true x)) = etss true (l.set i x) := by simp [etss,List.map_set]
@[simp] theorem etss_setF (l : List (List Et)) (i : Nat) (x : List Et) : (etss false l).set i (.lst false 0 (ets false x)) = etss false (l.set i x) := by simp [etss,List.map_set]
@[simp] theorem etss_take (t : Bool) (n : Nat) (l : List (List Et)) : (etss t l).take n = etss t (l.take n) := by simp [etss,List.map_take]
@[simp] theorem etss_drop (t : Bool) (n : Nat) (l : List (List Et)) : (etss t l).drop n = etss t (l.drop n) := by simp [etss,List.map_drop]
@[simp] theorem etss_shareL (t : Bool) (l : List (List Et)) : V.shareL (etss t l) = etss false l := by
  induction l with
  | nil => rfl
  | cons x l ih => simp [V.shareL,ih,lst_share]
@[simp] theorem etss_tidyT (l : List (List Et)) : V.tidyL (etss true l) = true := by
  induction l with
  | nil => rfl
  | cons x l ih => simp [V.tidyL,V.tidy,ih]
theorem alikeL_lss {α β : Type} {f : α→V} {g : β→V} (hf : ∀ x y,(f x).alike (g y) = true) : ∀ {a : List α} {b : List β},V.alikeL (a.map f) (b.map g) = decide (a.length = b.length)
  | [],[] => rfl
  | [],_ :: _ => by simp [V.alikeL]
  | _ :: _,[] => by simp [V.alikeL]
  | x :: a,y :: b => by simp only [List.map_cons,V.alikeL,hf,Bool.true_and,alikeL_lss hf (a:=a) (b:=b),List.length_cons,Nat.add_right_cancel_iff]
@[simp] theorem alike_etss (t u : Bool) (a b : List (List Et)) : V.alikeL (etss t a) (etss u b) = decide (a.length = b.length) := alikeL_lss (fun _ _ => rfl)
def frss (t : Bool) (l : List (List Fr)) : List V := l.map fun x => .lst t (lz t 6) (frs t x)
@[simp] theorem frss_len (t : Bool) (l : List (List Fr)) : (frss t l).length = l.length := by simp [frss]
@[simp] theorem frss_nil (t : Bool) : frss t [] = [] := rfl
@[simp] theorem frss_cons (t : Bool) (x : List Fr) (l : List (List Fr)) : frss t (x :: l) = .lst t (lz t 6) (frs t x) :: frss t l := rfl
@[simp] theorem frss_join (t : Bool) (l m : List (List Fr)) : frss t l ++ frss t m = frss t (l ++ m) := by simp [frss]
@[simp] theorem frss_snocT (l : List (List Fr)) (x : List Fr) : frss true l ++ [.lst true 6 (frs true x)] = frss true (l ++ [x]) := by simp [frss]
@[simp] theorem frss_snocF (l : List (List Fr)) (x : List Fr) : frss false l ++ [.lst false 0 (frs false x)] = frss false (l ++ [x]) := by simp [frss]
@[simp] theorem frss_setT (l : List (List Fr)) (i : Nat) (x : List Fr) : (frss true l).set i (.lst true 6 (frs true x)) = frss true (l.set i x) := by simp [frss,List.map_set]
@[simp] theorem frss_setF (l : List (List Fr)) (i : Nat) (x : List Fr) : (frss false l).set i (.lst false 0 (frs false x)) = frss false (l.set i x) := by simp [frss,List.map_set]
@[simp] theorem frss_take (t : Bool) (n : Nat) (l : List (List Fr)) : (frss t l).take n = frss t (l.take n) := by simp [frss,List.map_take]
@[simp] theorem frss_drop (t : Bool) (n : Nat) (l : List (List Fr)) : (frss t l).drop n = frss t (l.drop n) := by simp [frss,List.map_drop]
@[simp] theorem frss_shareL (t : Bool) (l : List (List Fr)) : V.shareL (frss t l) = frss false l := by
  induction l with
  | nil => rfl
  | cons x l ih => simp [V.shareL,ih,lst_share]
@[simp] theorem frss_tidyT (l : List (List Fr)) : V.tidyL (frss true l) = true := by
  induction l with
  | nil => rfl
  | cons x l ih => simp [V.tidyL,V.tidy,ih]
@[simp] theorem alike_frss (t u : Bool) (a b : List (List Fr)) : V.alikeL (frss t a) (frss u b) = decide (a.length = b.length) := alikeL_lss (fun _ _ => rfl)
end Go.Proofs.Ytbcgenkegnmkhaa.Ev
namespace Go.Proofs.Ytbcgenkegnmkhaa.Ev
open Go
set_option maxRecDepth 100000
set_option linter.unusedSimpArgs false
set_option linter.unusedVariables false
set_option maxHeartbeats 2000000
theorem l_eqG (a b : List Int) (z z' : Nat) (ha : a.length < 4000000000) (hab : a.length = b.length) : ∀ i : Nat,i≤a.length→∀ s,normE 2 (some [0,1,12,13]) s = ⟨[(0,.lst false z (ints a)),(1,.lst false z' (ints b)),(12,.int .i64 a.length),(13,.int .i64 i)],[],2⟩ →
 oc.loop 118 4 s = some (if a.drop i = b.drop i then (.exit 0,⟨[],[],2⟩) else (.ret,⟨[(4,.bool false)],[],2⟩)) := by
 refine loop_ind (fun i => a.length - i) _ (fun i => ⟨[(0,.lst false z (ints a)),(1,.lst false z' (ints b)),(12,.int .i64 a.length),(13,.int .i64 i)],[],2⟩) _ ?_
 intro i hi ih s hs
 refine loop_s cd118 rfl rfl hs ?_
 refine wa_ (wc_region (w_ (b_ (h:=wo_nil (e_ (h:=aft_normal (wa_ (?_))))))))
 refine c_ (h1:=?_) (h2:=?_)
 rotate_right 1
 focus
  intro c1
  simp at c1;have : i = a.length := (by omega);subst this
  refine wc_exit (?_)
 rotate_right 1
 focus
  intro c1
  simp at c1;have hw := wrap_succ (i:=i) (by omega);obtain ⟨x,_,d1,g1⟩ := ints_cut c1;obtain ⟨y,_,d2,g2⟩ := ints_cut (l:=b) (i:=i) (by omega)
  refine wc_skip (?_)
 all_goals first
 | refine aft_exit ?_
 | (
  refine aft_normal ?_
  refine wa_ (wc_block (wa_ (wc_region (w_ (m_ (h:=w_ (a_ (h:=wo_nil (e_ (h:=aft_normal (wa_ (wc_draw (y_ (m_ (h:=ax_ (h:=y_ (m_ (h:=ax_ (h:=?_)))))))))))))))))))
  refine y_ (x_ (h:=ax_ (h:=y_ (l_ (h:=ax_ (h:=y_ (m_ (h:=ax_ (h:=y_ (m_ (h:=ax_ (h:=y_ (x_ (h:=ax_ (h:=y_ (l_ (h:=ax_ (h:=y_ (bE (h:=ax_ (h:=wo_nil (ed (h:=aft_normal (?_))))))))))))))))))))))))
  refine c_ (h1:=?_) (h2:=?_)
  rotate_right 1
  focus
   intro c2
   refine wc_skip (?_)
  rotate_right 1
  focus
   intro c2
   refine wa_ (wc_region (w_ (a_ (h:=wo_nil (e_ (h:=aft_normal (wc_ret (?_))))))))
  all_goals first | refine blk_normal ?_ | refine blk_ret ?_
  all_goals first
  | refine aft_ret ?_
  | (
   refine aft_normal ?_
   refine wc_region (w_ (b_ (h:=w_ (m_ (h:=wo_nil (e_ (h:=?_)))))))
   )
  )
 all_goals first
 | (refine (ih (i + 1) (by omega) ?_ _ ?_).trans ?_;(focus (first | omega | (simp;done) | (simp;omega)));(focus (simp [normE,hw];done));(focus (simp at c2;rw [d1,d2];simp [c2])))
 | (apply end_leaf (ex:=Ext.ret) 2 (some [4]);(focus (simp [normE];rfl));(focus (simp at c2;rw [d1,d2];simp [c2])))
 | (apply end_leaf (ex:=(Ext.exit 0)) 2 (some [4]);(focus (simp [normE];rfl));(focus (rw [if_pos (by simp [hab])])))
theorem e_eqG (a b : List Int) (z z' : Nat) (ha : a.length < 4000000000) (hb : b.length < 4000000000) : oc.call 118 [.lst false z (ints a),.lst false z' (ints b)] = some (.bool (decide (a = b)),[]) := by
 refine fun_s rfl cd118 rfl rfl rfl (by simp;rfl) (by simp;rfl) ?_
 refine wa_ (wc_region (w_ (a_ (h:=wo_nil (e_ (h:=aft_normal (wa_ (wa_ (wc_region (w_ (m_ (h:=w_ (le (h:=w_ (m_ (h:=w_ (le (h:=?_))))))))))))))))))
 refine w_ (bE (h:=wo_nil (e_ (h:=aft_normal (?_)))))
 refine c_ (h1:=?_) (h2:=?_)
 rotate_right 1
 focus
  intro c1
  simp at c1
  refine wc_skip (?_)
 rotate_right 1
 focus
  intro c1
  simp at c1;have hne : a ≠ b := (by rintro rfl;exact c1 rfl)
  refine wa_ (wc_region (w_ (a_ (h:=wo_nil (e_ (h:=aft_normal (wc_ret (?_))))))))
 all_goals first
 | refine aft_ret ?_
 | (
  refine aft_normal ?_
  refine wa_ (wa_ (wc_region (w_ (m_ (h:=w_ (le (h:=w_ (m_ (h:=wo_nil (e_ (h:=aft_normal (wc_block (?_)))))))))))))
  refine wc_loopI (l_eqG a b z z' ha (by omega) 0 (by omega) _ (by simp [normE])) ?_ ?_
  rotate_right 1
  focus
   intro c2
   skip
  rotate_right 1
  focus
   intro c2
   skip
  all_goals first | refine blk_ret ?_ | refine blk_exit ?_
  all_goals first
  | refine aft_ret ?_
  | (
   refine aft_normal ?_
   refine wa_ (wc_region (w_ (a_ (h:=wo_nil (e_ (h:=aft_normal (wc_ret (?_))))))))
   )
  )
 all_goals (refine fin_ (hr:=(res_tmp rfl res_nil)) (h:=?_);(focus (first | (simp_all;done) | (simp_all <;> omega) | (simp_all <;> split <;> simp_all <;> omega))))
theorem e_same (z z' : Nat) (d g : Nd) (ha : d.cells.length < 4000000) (hb : g.cells.length < 4000000) : oc.call 81 [d.v false z,g.v false z'] = some (.bool (decide (d = g)),[]) := by
 refine fun_s rfl cd81 rfl rfl rfl (by simp;rfl) (by simp;rfl) ?_
 refine wa_ (wc_region (w_ (bx (h:=w_ (bx (h:=w_ (a_ (h:=wo_nil (e_ (h:=aft_normal (wa_ (wc_region (w_ (f_ (h:=w_ (l_ (h:=w_ (f_ (h:=?_)))))))))))))))))))
 refine w_ (l_ (h:=w_ (bE (h:=w_ (m_ (h:=?_))))))
 refine gw_ (h1:=?_) (h2:=?_)
 rotate_right 1
 focus
  intro c1
  first
  | exact dn c1
  | (
   have d1 := c1;try simp at d1
   refine go_ (h:=go_ (h:=go_ (h:=go_ (h:=go_ (h:=?_)))))
   )
 rotate_right 1
 focus
  intro c1
  first
  | exact dn c1
  | (
   have d1 := c1;try simp at d1
   refine g_ (h:=w_ (f_ (h:=g_ (h:=w_ (l_ (h:=g_ (h:=w_ (f_ (h:=g_ (h:=w_ (l_ (h:=g_ (h:=w_ (bE (h:=?_)))))))))))))))
   )
 all_goals
  refine w_ (pk (h:=w_ (m_ (h:=?_))))
  refine gw_ (h1:=?_) (h2:=?_)
  rotate_right 1
  focus
   intro c2
   first
   | exact dn c2
   | (
    have d2 := c2;try simp at d2
    refine go_ (h:=go_ (h:=go_ (h:=go_ (h:=go_ (h:=?_)))))
    )
  rotate_right 1
  focus
   intro c2
   first
   | exact dn c2
   | (
    have d2 := c2;try simp at d2
    refine g_ (h:=w_ (f_ (h:=g_ (h:=w_ (l_ (h:=g_ (h:=w_ (f_ (h:=g_ (h:=w_ (l_ (h:=g_ (h:=w_ (bE (h:=?_)))))))))))))))
    )
  all_goals
   refine w_ (pk (h:=w_ (m_ (h:=?_))))
   refine gw_ (h1:=?_) (h2:=?_)
   rotate_right 1
   focus
    intro c3
    first
    | exact dn c3
    | (
     have d3 := c3;try simp at d3
     refine go_ (h:=go_ (h:=go_ (h:=go_ (h:=go_ (h:=?_)))))
     )
   rotate_right 1
   focus
    intro c3
    first
    | exact dn c3
    | (
     have d3 := c3;try simp at d3
     refine g_ (h:=w_ (f_ (h:=g_ (h:=w_ (l_ (h:=g_ (h:=w_ (f_ (h:=g_ (h:=w_ (l_ (h:=g_ (h:=w_ (bE (h:=?_)))))))))))))))
     )
   all_goals
    refine w_ (pk (h:=w_ (m_ (h:=?_))))
    refine gw_ (h1:=?_) (h2:=?_)
    rotate_right 1
    focus
     intro c4
     first
     | exact dn c4
     | (
      have d4 := c4;try simp at d4
      refine go_ (h:=go_ (h:=go_ (h:=go_ (h:=go_ (h:=?_)))))
      )
    rotate_right 1
    focus
     intro c4
     first
     | exact dn c4
     | (
      have d4 := c4;try simp at d4
      refine g_ (h:=w_ (f_ (h:=g_ (h:=w_ (l_ (h:=g_ (h:=w_ (f_ (h:=g_ (h:=w_ (l_ (h:=g_ (h:=w_ (bE (h:=?_)))))))))))))))
      )
    all_goals
     refine w_ (pk (h:=w_ (m_ (h:=?_))))
     refine gw_ (h1:=?_) (h2:=?_)
     rotate_right 1
     focus
      intro c5
      first
      | exact dn c5
      | (
       have d5 := c5;try simp at d5
       refine go_ (h:=go_ (h:=go_ (h:=go_ (h:=go_ (h:=?_)))))
       )
     rotate_right 1
     focus
      intro c5
      first
      | exact dn c5
      | (
       have d5 := c5;try simp at d5
       refine g_ (h:=w_ (f_ (h:=g_ (h:=w_ (l_ (h:=g_ (h:=w_ (f_ (h:=g_ (h:=w_ (l_ (h:=g_ (h:=w_ (bE (h:=?_)))))))))))))))
       )
     all_goals
      refine w_ (pk (h:=w_ (m_ (h:=?_))))
      refine gw_ (h1:=?_) (h2:=?_)
      rotate_right 1
      focus
       intro c6
       first
       | exact dn c6
       | (
        have d6 := c6;try simp at d6
        refine go_ (h:=go_ (h:=go_ (h:=go_ (h:=go_ (h:=?_)))))
        )
      rotate_right 1
      focus
       intro c6
       first
       | exact dn c6
       | (
        have d6 := c6;try simp at d6
        refine g_ (h:=w_ (f_ (h:=g_ (h:=w_ (l_ (h:=g_ (h:=w_ (f_ (h:=g_ (h:=w_ (l_ (h:=g_ (h:=w_ (ca (hc:=e_eqG _ _ _ _ (by omega) (by omega)) (h:=?_)))))))))))))))
        )
      all_goals
       refine w_ (pk (h:=w_ (a_ (h:=wo_nil (e_ (h:=?_))))))
 all_goals first
 | (
  refine aft_normal ?_
  refine wc_ret (?_)
  )
 all_goals (refine fin_ (hr:=(res_tmp rfl res_nil)) (h:=?_);(focus (simp [Nd.eq_iff];grind)))
def readsN (d : Nd) : List Int := if d.op = 1 then [] else if d.op = 4∨d.op = 6 then [d.a,d.b] else [d.a]
theorem e_reads (z : Nat) (d : Nd) : oc.call 83 [d.v false z] = some (.lst true 1 (ints (readsN d)),[]) := by
 refine fun_s rfl cd83 rfl rfl rfl (by simp;rfl) (by simp;rfl) ?_
 refine wa_ (wc_region (w_ (bx (h:=w_ (aN (h:=wo_nil (e_ (h:=aft_normal (wa_ (wc_block (wa_ (wc_region (w_ (f_ (h:=w_ (l_ (h:=?_)))))))))))))))))
 refine w_ (bE (h:=w_ (a_ (h:=wo_nil (e_ (h:=aft_normal (?_)))))))
 refine c_ (h1:=?_) (h2:=?_)
 rotate_right 1
 focus
  intro c1
  first
  | exact dn c1
  | (
   have d1 := c1;try simp at d1
   refine wa_ (wc_region (w_ (f_ (h:=w_ (l_ (h:=w_ (ca (hc:=e_two _) (h:=w_ (a_ (h:=wo_nil (e_ (h:=aft_normal (?_)))))))))))))
   refine c_ (h1:=?_) (h2:=?_)
   rotate_right 1
   focus
    intro c2
    first
    | exact dn c2
    | (
     have d2 := c2;try simp at d2
     refine wc_skip (?_)
     )
   rotate_right 1
   focus
    intro c2
    first
    | exact dn c2
    | (
     have d2 := c2;try simp at d2
     refine wa_ (wc_region (w_ (f_ (h:=w_ (l_ (h:=w_ (f_ (h:=w_ (l_ (h:=w_ (bs (h:=w_ (a_ (h:=wo_nil (e_ (h:=aft_normal (wc_ret (?_))))))))))))))))))
     )
   )
 rotate_right 1
 focus
  intro c1
  first
  | exact dn c1
  | (
   have d1 := c1;try simp at d1
   refine wa_ (wc_region (w_ (aN (h:=wo_nil (e_ (h:=aft_normal (wc_ret (?_))))))))
   )
 all_goals first | refine blk_normal ?_ | refine blk_ret ?_
 all_goals first
 | refine aft_ret ?_
 | (
  refine aft_normal ?_
  refine wa_ (wc_region (w_ (f_ (h:=w_ (l_ (h:=w_ (bs (h:=w_ (a_ (h:=wo_nil (e_ (h:=aft_normal (wc_ret (?_))))))))))))))
  )
 all_goals (refine fin_ (hr:=(res_tmp rfl res_nil)) (h:=?_);(focus (simp_all [readsN])))
def plainN (d : Nd) : Nd := ⟨d.op,if d.op = 1 then 0 else d.a,if d.op = 4∨d.op = 6 then d.b else 0,if d.op = 1∨d.op = 2∨6≤d.op∧d.op≤10 then d.col else 0,if d.op = 2 then d.test else 0,if d.op = 2 then d.value else 0,if d.op = 3 then d.cells else []⟩
theorem e_plain3 (z : Nat) (d : Nd) (h : d.op = 3) : oc.call 82 [d.v false z] = some ((plainN d).v false z,[]) := by
 refine fun_s rfl cd82 rfl rfl rfl (by simp;rfl) (by simp;rfl) ?_
 refine wa_ (wc_region (w_ (bx (h:=w_ (al (h:=wo_nil (e_ (h:=aft_normal (wa_ (wc_region (w_ (f_ (h:=w_ (l_ (h:=w_ (bd (h:=w_ (al (h:=?_)))))))))))))))))))
 refine w0 (s_ (h:=wo_nil (e_ (h:=aft_normal (wa_ (wa_ (wc_region (w_ (f_ (h:=w_ (l_ (h:=w_ (bE (h:=wo_nil (e_ (h:=aft_normal (?_)))))))))))))))))
 refine c_ (h1:=?_) (h2:=?_)
 rotate_right 1
 focus
  intro c1
  first
  | exact dn c1
  | (
   have d1 := c1;try simp at d1
   refine wc_skip (?_)
   )
 rotate_right 1
 focus
  intro c1
  first
  | exact dn c1
  | (
   have d1 := c1;try simp at d1
   refine wc_region (w_ (f_ (h:=w_ (l_ (h:=w_ (f_ (h:=w0 (s_ (h:=wo_nil (e_ (h:=?_)))))))))))
   )
 all_goals first
 | (
  refine aft_normal ?_
  refine wa_ (wa_ (wc_region (w_ (f_ (h:=w_ (l_ (h:=w_ (ca (hc:=e_two _) (h:=wo_nil (e_ (h:=aft_normal (?_))))))))))))
  refine c_ (h1:=?_) (h2:=?_)
  rotate_right 1
  focus
   intro c2
   first
   | exact dn c2
   | (
    have d2 := c2;try simp at d2
    refine wc_skip (?_)
    )
  rotate_right 1
  focus
   intro c2
   first
   | exact dn c2
   | (
    have d2 := c2;try simp at d2
    refine wc_region (w_ (f_ (h:=w_ (l_ (h:=w_ (f_ (h:=w0 (s_ (h:=wo_nil (e_ (h:=?_)))))))))))
    )
  all_goals first
  | (
   refine aft_normal ?_
   refine wa_ (wa_ (wc_region (w_ (f_ (h:=w_ (l_ (h:=wo_nil (e_ (h:=aft_normal (wc_block (wa_ (wa_ (wc_region (w_ (bE (h:=?_))))))))))))))))
   refine w_ (a_ (h:=wo_nil (e_ (h:=aft_normal (?_)))))
   refine c_ (h1:=?_) (h2:=?_)
   rotate_right 1
   focus
    intro c3
    first
    | exact dn c3
    | (
     have d3 := c3;try simp at d3
     refine wa_ (wc_region (w_ (bE (h:=w_ (a_ (h:=wo_nil (e_ (h:=aft_normal (?_)))))))))
     refine c_ (h1:=?_) (h2:=?_)
     rotate_right 1
     focus
      intro c4
      first
      | exact dn c4
      | (
       have d4 := c4;try simp at d4
       refine wa_ (wc_region (w_ (bE (h:=w_ (a_ (h:=wo_nil (e_ (h:=aft_normal (?_)))))))))
       refine c_ (h1:=?_) (h2:=?_)
       rotate_right 1
       focus
        intro c5
        first
        | exact dn c5
        | (
         have d5 := c5;try simp at d5
         refine wa_ (wc_region (w_ (bE (h:=w_ (a_ (h:=wo_nil (e_ (h:=aft_normal (?_)))))))))
         refine c_ (h1:=?_) (h2:=?_)
         rotate_right 1
         focus
          intro c6
          first
          | exact dn c6
          | (
           have d6 := c6;try simp at d6
           refine wa_ (wc_region (w_ (bE (h:=w_ (a_ (h:=wo_nil (e_ (h:=aft_normal (?_)))))))))
           refine c_ (h1:=?_) (h2:=?_)
           rotate_right 1
           focus
            intro c7
            first
            | exact dn c7
            | (
             have d7 := c7;try simp at d7
             refine wc_region (w_ (bE (h:=w_ (a_ (h:=wo_nil (e_ (h:=?_)))))))
             )
           rotate_right 1
           focus
            intro c7
            first
            | exact dn c7
            | (
             have d7 := c7;try simp at d7
             refine wc_skip (?_)
             )
           )
         rotate_right 1
         focus
          intro c6
          first
          | exact dn c6
          | (
           have d6 := c6;try simp at d6
           refine wc_skip (?_)
           )
         )
       rotate_right 1
       focus
        intro c5
        first
        | exact dn c5
        | (
         have d5 := c5;try simp at d5
         refine wc_skip (?_)
         )
       )
     rotate_right 1
     focus
      intro c4
      first
      | exact dn c4
      | (
       have d4 := c4;try simp at d4
       refine wc_skip (?_)
       )
     )
   rotate_right 1
   focus
    intro c3
    first
    | exact dn c3
    | (
     have d3 := c3;try simp at d3
     refine wc_skip (?_)
     )
   all_goals first
   | (
    refine aft_normal ?_
    refine c_ (h1:=?_) (h2:=?_)
    rotate_right 1
    focus
     intro c8
     first
     | exact dn c8
     | (
      have d8 := c8;try simp at d8
      refine wa_ (wc_region (w_ (bE (h:=w_ (a_ (h:=wo_nil (e_ (h:=aft_normal (?_)))))))))
      refine c_ (h1:=?_) (h2:=?_)
      rotate_right 1
      focus
       intro c9
       first
       | exact dn c9
       | (
        have d9 := c9;try simp at d9
        refine wa_ (wc_region (w_ (bE (h:=w_ (a_ (h:=wo_nil (e_ (h:=aft_normal (?_)))))))))
        refine c_ (h1:=?_) (h2:=?_)
        rotate_right 1
        focus
         intro c10
         first
         | exact dn c10
         | (
          have d10 := c10;try simp at d10
          refine wc_skip (?_)
          )
        rotate_right 1
        focus
         intro c10
         first
         | exact dn c10
         | (
          have d10 := c10;try simp at d10
          refine wc_region (w_ (f_ (h:=w_ (l_ (h:=w_ (f_ (h:=w0 (s_ (h:=wo_nil (e_ (h:=?_)))))))))))
          )
        )
      rotate_right 1
      focus
       intro c9
       first
       | exact dn c9
       | (
        have d9 := c9;try simp at d9
        refine wc_draw (y_ (f_ (h:=ax_ (h:=y_ (l_ (h:=ax_ (h:=y_ (f_ (h:=ax_ (h:=y_ (l_ (h:=ax_ (h:=y_ (f_ (h:=ax_ (h:=y_ (l_ (h:=ax_ (h:=y_ (f_ (h:=ax_ (h:=y0 (s_ (h:=ax_ (h:=y_ (f_ (h:=ax_ (h:=y0 (s_ (h:=ax_ (h:=y_ (f_ (h:=ax_ (h:=?_))))))))))))))))))))))))))))))))))
        refine y0 (s_ (h:=ax_ (h:=wo_nil (ed (h:=?_)))))
        )
      )
    rotate_right 1
    focus
     intro c8
     first
     | exact dn c8
     | (
      have d8 := c8;try simp at d8
      refine wc_region (w_ (f_ (h:=w_ (l_ (h:=w_ (f_ (h:=w0 (s_ (h:=wo_nil (e_ (h:=?_)))))))))))
      )
    )
   all_goals refine blk_normal ?_
   all_goals first
   | (
    refine aft_normal ?_
    refine wa_ (wc_region (w_ (l_ (h:=w0 (s_ (h:=wo_nil (e_ (h:=aft_normal (wc_ret (?_))))))))))
    )
   )
  )
 all_goals (refine fin_ (hr:=(res_cell (tys_ok.zero _ _ rfl) rfl (by simp;rfl) (by rfl) res_nil)) (h:=?_);(focus (simp [Nd.v,plainN];grind)))
theorem e_plain (z : Nat) (d : Nd) (h : d.op ≠ 3) : oc.call 82 [d.v false z] = some ((plainN d).v true 1,[]) := by
 refine fun_s rfl cd82 rfl rfl rfl (by simp;rfl) (by simp;rfl) ?_
 refine wa_ (wc_region (w_ (bx (h:=w_ (al (h:=wo_nil (e_ (h:=aft_normal (wa_ (wc_region (w_ (f_ (h:=w_ (l_ (h:=w_ (bd (h:=w_ (al (h:=?_)))))))))))))))))))
 refine w0 (s_ (h:=wo_nil (e_ (h:=aft_normal (wa_ (wa_ (wc_region (w_ (f_ (h:=w_ (l_ (h:=w_ (bE (h:=wo_nil (e_ (h:=aft_normal (?_)))))))))))))))))
 refine c_ (h1:=?_) (h2:=?_)
 rotate_right 1
 focus
  intro c1
  first
  | exact dn c1
  | (
   have d1 := c1;try simp at d1
   refine wc_skip (?_)
   )
 rotate_right 1
 focus
  intro c1
  first
  | exact dn c1
  | (
   have d1 := c1;try simp at d1
   refine wc_region (w_ (f_ (h:=w_ (l_ (h:=w_ (f_ (h:=w0 (s_ (h:=wo_nil (e_ (h:=?_)))))))))))
   )
 all_goals first
 | (
  refine aft_normal ?_
  refine wa_ (wa_ (wc_region (w_ (f_ (h:=w_ (l_ (h:=w_ (ca (hc:=e_two _) (h:=wo_nil (e_ (h:=aft_normal (?_))))))))))))
  refine c_ (h1:=?_) (h2:=?_)
  rotate_right 1
  focus
   intro c2
   first
   | exact dn c2
   | (
    have d2 := c2;try simp at d2
    refine wc_skip (?_)
    )
  rotate_right 1
  focus
   intro c2
   first
   | exact dn c2
   | (
    have d2 := c2;try simp at d2
    refine wc_region (w_ (f_ (h:=w_ (l_ (h:=w_ (f_ (h:=w0 (s_ (h:=wo_nil (e_ (h:=?_)))))))))))
    )
  all_goals first
  | (
   refine aft_normal ?_
   refine wa_ (wa_ (wc_region (w_ (f_ (h:=w_ (l_ (h:=wo_nil (e_ (h:=aft_normal (wc_block (wa_ (wa_ (wc_region (w_ (bE (h:=?_))))))))))))))))
   refine w_ (a_ (h:=wo_nil (e_ (h:=aft_normal (?_)))))
   refine c_ (h1:=?_) (h2:=?_)
   rotate_right 1
   focus
    intro c3
    first
    | exact dn c3
    | (
     have d3 := c3;try simp at d3
     refine wa_ (wc_region (w_ (bE (h:=w_ (a_ (h:=wo_nil (e_ (h:=aft_normal (?_)))))))))
     refine c_ (h1:=?_) (h2:=?_)
     rotate_right 1
     focus
      intro c4
      first
      | exact dn c4
      | (
       have d4 := c4;try simp at d4
       refine wa_ (wc_region (w_ (bE (h:=w_ (a_ (h:=wo_nil (e_ (h:=aft_normal (?_)))))))))
       refine c_ (h1:=?_) (h2:=?_)
       rotate_right 1
       focus
        intro c5
        first
        | exact dn c5
        | (
         have d5 := c5;try simp at d5
         refine wa_ (wc_region (w_ (bE (h:=w_ (a_ (h:=wo_nil (e_ (h:=aft_normal (?_)))))))))
         refine c_ (h1:=?_) (h2:=?_)
         rotate_right 1
         focus
          intro c6
          first
          | exact dn c6
          | (
           have d6 := c6;try simp at d6
           refine wa_ (wc_region (w_ (bE (h:=w_ (a_ (h:=wo_nil (e_ (h:=aft_normal (?_)))))))))
           refine c_ (h1:=?_) (h2:=?_)
           rotate_right 1
           focus
            intro c7
            first
            | exact dn c7
            | (
             have d7 := c7;try simp at d7
             refine wc_region (w_ (bE (h:=w_ (a_ (h:=wo_nil (e_ (h:=?_)))))))
             )
           rotate_right 1
           focus
            intro c7
            first
            | exact dn c7
            | (
             have d7 := c7;try simp at d7
             refine wc_skip (?_)
             )
           )
         rotate_right 1
         focus
          intro c6
          first
          | exact dn c6
          | (
           have d6 := c6;try simp at d6
           refine wc_skip (?_)
           )
         )
       rotate_right 1
       focus
        intro c5
        first
        | exact dn c5
        | (
         have d5 := c5;try simp at d5
         refine wc_skip (?_)
         )
       )
     rotate_right 1
     focus
      intro c4
      first
      | exact dn c4
      | (
       have d4 := c4;try simp at d4
       refine wc_skip (?_)
       )
     )
   rotate_right 1
   focus
    intro c3
    first
    | exact dn c3
    | (
     have d3 := c3;try simp at d3
     refine wc_skip (?_)
     )
   all_goals first
   | (
    refine aft_normal ?_
    refine c_ (h1:=?_) (h2:=?_)
    rotate_right 1
    focus
     intro c8
     first
     | exact dn c8
     | (
      have d8 := c8;try simp at d8
      refine wa_ (wc_region (w_ (bE (h:=w_ (a_ (h:=wo_nil (e_ (h:=aft_normal (?_)))))))))
      refine c_ (h1:=?_) (h2:=?_)
      rotate_right 1
      focus
       intro c9
       first
       | exact dn c9
       | (
        have d9 := c9;try simp at d9
        refine wa_ (wc_region (w_ (bE (h:=w_ (a_ (h:=wo_nil (e_ (h:=aft_normal (?_)))))))))
        refine c_ (h1:=?_) (h2:=?_)
        rotate_right 1
        focus
         intro c10
         first
         | exact dn c10
         | (
          have d10 := c10;try simp at d10
          refine wc_skip (?_)
          )
        rotate_right 1
        focus
         intro c10
         first
         | exact dn c10
         | (
          have d10 := c10;try simp at d10
          refine wc_region (w_ (f_ (h:=w_ (l_ (h:=w_ (f_ (h:=w0 (s_ (h:=wo_nil (e_ (h:=?_)))))))))))
          )
        )
      rotate_right 1
      focus
       intro c9
       first
       | exact dn c9
       | (
        have d9 := c9;try simp at d9
        refine wc_draw (y_ (f_ (h:=ax_ (h:=y_ (l_ (h:=ax_ (h:=y_ (f_ (h:=ax_ (h:=y_ (l_ (h:=ax_ (h:=y_ (f_ (h:=ax_ (h:=y_ (l_ (h:=ax_ (h:=y_ (f_ (h:=ax_ (h:=y0 (s_ (h:=ax_ (h:=y_ (f_ (h:=ax_ (h:=y0 (s_ (h:=ax_ (h:=y_ (f_ (h:=ax_ (h:=?_))))))))))))))))))))))))))))))))))
        refine y0 (s_ (h:=ax_ (h:=wo_nil (ed (h:=?_)))))
        )
      )
    rotate_right 1
    focus
     intro c8
     first
     | exact dn c8
     | (
      have d8 := c8;try simp at d8
      refine wc_region (w_ (f_ (h:=w_ (l_ (h:=w_ (f_ (h:=w0 (s_ (h:=wo_nil (e_ (h:=?_)))))))))))
      )
    )
   all_goals refine blk_normal ?_
   all_goals first
   | (
    refine aft_normal ?_
    refine wa_ (wc_region (w_ (l_ (h:=w0 (s_ (h:=wo_nil (e_ (h:=aft_normal (wc_ret (?_))))))))))
    )
   )
  )
 all_goals (refine fin_ (hr:=(res_cell (tys_ok.zero _ _ rfl) rfl (by simp;rfl) (by rfl) res_nil)) (h:=?_);(focus (simp [Nd.v,plainN,h];grind)))
def at0 (w : List Int) (a : Int) : Int := w.getD a.toNat 0
theorem ints_ix {w : List Int} {a : Int} (h0 : 0≤a) (h : a < w.length) : (ints w)[a.toNat]? = some (.int .i64 (at0 w a)) := by
  have : a.toNat < w.length := by omega
  simp [ints,at0,this]
def widthN (d : Nd) (w : List Int) : Int :=
  if d.op = 1 then d.col else if d.op = 3 then d.cells.length else if d.op = 6 then IntKind.i64.wrap (IntKind.i64.wrap (at0 w d.a + at0 w d.b) - d.col) else if inI d.op 7 10 then IntKind.i64.wrap (d.col + 1) else at0 w d.a
def fitN (d : Nd) (m : Nat) : Prop := (d.op ≠ 1→0≤d.a∧d.a < m)∧(d.op = 4∨d.op = 6→0≤d.b∧d.b < m)
theorem e_width (z z' : Nat) (d : Nd) (w : List Int) (hd : d.cells.length < 4000000) (h : fitN d w.length) : oc.call 85 [d.v false z,.lst false z' (ints w)] = some (.int .i64 (widthN d w),[]) := by
 refine fun_s rfl cd85 rfl rfl rfl (by simp;rfl) (by simp;rfl) ?_
 obtain ⟨h1,h2⟩ := h
 refine wa_ (wc_region (w_ (bx (h:=w_ (a_ (h:=wo_nil (e_ (h:=aft_normal (wa_ (wc_block (wa_ (wc_region (w_ (f_ (h:=w_ (l_ (h:=?_)))))))))))))))))
 refine w_ (bE (h:=w_ (a_ (h:=wo_nil (e_ (h:=aft_normal (?_)))))))
 refine c_ (h1:=?_) (h2:=?_)
 rotate_right 1
 focus
  intro c1
  first
  | exact dn c1
  | (
   have d1 := c1;try simp at d1
   refine wa_ (wc_region (w_ (f_ (h:=w_ (l_ (h:=w_ (bE (h:=w_ (a_ (h:=wo_nil (e_ (h:=aft_normal (?_)))))))))))))
   refine c_ (h1:=?_) (h2:=?_)
   rotate_right 1
   focus
    intro c2
    first
    | exact dn c2
    | (
     have d2 := c2;try simp at d2
     refine wa_ (wc_region (w_ (f_ (h:=w_ (l_ (h:=w_ (bE (h:=w_ (a_ (h:=wo_nil (e_ (h:=aft_normal (?_)))))))))))))
     refine c_ (h1:=?_) (h2:=?_)
     rotate_right 1
     focus
      intro c3
      first
      | exact dn c3
      | (
       have d3 := c3;try simp at d3
       refine wa_ (wc_region (w_ (f_ (h:=w_ (l_ (h:=w_ (ca (hc:=e_grouped _) (h:=w_ (a_ (h:=wo_nil (e_ (h:=aft_normal (?_)))))))))))))
       refine c_ (h1:=?_) (h2:=?_)
       rotate_right 1
       focus
        intro c4
        first
        | exact dn c4
        | (
         have d4 := c4;try simp at d4
         have h3 := (h1 (by omega)).1;have h4 := (h1 (by omega)).2;have g1 := ints_ix h3 h4
         refine wc_skip (?_)
         )
       rotate_right 1
       focus
        intro c4
        first
        | exact dn c4
        | (
         have d4 := c4;try simp at d4
         refine wa_ (wc_region (w_ (f_ (h:=w_ (l_ (h:=w_ (b_ (h:=w_ (a_ (h:=wo_nil (e_ (h:=aft_normal (wc_ret (?_))))))))))))))
         )
       )
     rotate_right 1
     focus
      intro c3
      first
      | exact dn c3
      | (
       have d3 := c3;try simp at d3
       obtain ⟨h3,h4⟩ := h1 (by omega);obtain ⟨h5,h6⟩ := h2 (by omega);have g1 := ints_ix h3 h4;have g2 := ints_ix h5 h6
       refine wa_ (wc_draw (y_ (m_ (h:=ax_ (h:=y_ (f_ (h:=ax_ (h:=y_ (l_ (h:=ax_ (h:=y_ (x_ (h:=ax_ (h:=y_ (l_ (h:=ax_ (h:=y_ (m_ (h:=ax_ (h:=y_ (f_ (h:=ax_ (h:=y_ (l_ (h:=ax_ (h:=y_ (x_ (h:=ax_ (h:=y_ (l_ (h:=ax_ (h:=?_))))))))))))))))))))))))))))))))
       refine y_ (b_ (h:=ax_ (h:=y_ (f_ (h:=ax_ (h:=y_ (l_ (h:=ax_ (h:=y_ (b_ (h:=ax_ (h:=y_ (a_ (h:=ax_ (h:=wo_nil (ed (h:=aft_normal (wc_ret (?_)))))))))))))))))))
       )
     )
   rotate_right 1
   focus
    intro c2
    first
    | exact dn c2
    | (
     have d2 := c2;try simp at d2
     refine wa_ (wc_region (w_ (f_ (h:=w_ (l_ (h:=w_ (ca (hc:=e_size 0 (ints d.cells) (by simp;omega)) (h:=w_ (a_ (h:=wo_nil (e_ (h:=aft_normal (wc_ret (?_))))))))))))))
     )
   )
 rotate_right 1
 focus
  intro c1
  first
  | exact dn c1
  | (
   have d1 := c1;try simp at d1
   refine wa_ (wc_region (w_ (f_ (h:=w_ (l_ (h:=w_ (a_ (h:=wo_nil (e_ (h:=aft_normal (wc_ret (?_))))))))))))
   )
 all_goals first | refine blk_normal ?_ | refine blk_ret ?_
 all_goals first
 | refine aft_ret ?_
 | (
  refine aft_normal ?_
  refine wa_ (wc_region (w_ (m_ (h:=w_ (f_ (h:=w_ (l_ (h:=w_ (x_ (h:=w_ (l_ (h:=w_ (a_ (h:=wo_nil (e_ (h:=aft_normal (wc_ret (?_))))))))))))))))))
  )
 all_goals (refine fin_ (hr:=(res_tmp rfl res_nil)) (h:=?_);(focus (simp [widthN];grind [inI])))
def faultN (d : Nd) (w : List Int) : Int :=
  if d.op = 1 then (if inI d.col 1 3 then 0 else 3)
  else if d.op = 2 then (if inI d.col 0 (IntKind.i64.wrap (at0 w d.a - 1)) && (inI d.test 0 2 && inI d.value (-1000000000) 1000000000) then 0 else 3)
  else if d.op = 3 then (if inI d.cells.length 1 4 then (if d.cells.all fun c => inI c 0 (IntKind.i64.wrap (at0 w d.a - 1)) then 0 else 3) else 2)
  else if d.op = 4 then (if at0 w d.a = at0 w d.b then 0 else 1)
  else if d.op = 6 then (if inI d.col 1 (min (at0 w d.a) (at0 w d.b)) then (if 4 < widthN d w then 2 else 0) else 3)
  else if d.op = 7 then (if inI d.col 0 (min (at0 w d.a) 3) then 0 else 3)
  else if 8≤d.op∧d.op≤10 then (if inI d.col 0 (IntKind.i64.wrap (at0 w d.a - 1)) then 0 else 3)
  else 0
theorem l_cells (z z' : Nat) (d : Nd) (w : List Int) (hd : d.cells.length < 4000000) (h0 : 0≤d.a) (h1 : d.a < w.length) : ∀ i : Nat,i≤d.cells.length→∀ s,normE 2 (some [1,2,47,48,49]) s = ⟨[(1,.lst false z' (ints w)),(2,.ptr 2 0 []),(47,.lst false z (ints d.cells)),(48,.int .i64 d.cells.length),(49,.int .i64 i)],[(2,⟨true,false,7,[d.v false z],0⟩)],3⟩ →
 oc.loop 84 12 s = some (if ((d.cells.drop i).all fun c => inI c 0 (IntKind.i64.wrap (at0 w d.a - 1))) = true then (.exit 1,⟨[],[],2⟩) else (.ret,⟨[(4,.int .i64 3)],[],2⟩)) := by
 refine loop_ind (fun i => d.cells.length - i) _ (fun i => ⟨[(1,.lst false z' (ints w)),(2,.ptr 2 0 []),(47,.lst false z (ints d.cells)),(48,.int .i64 d.cells.length),(49,.int .i64 i)],[(2,⟨true,false,7,[d.v false z],0⟩)],3⟩) _ ?_
 intro i hi ih s hs
 refine loop_s cd84 rfl rfl hs ?_
 refine wa_ (wc_region (w_ (b_ (h:=wo_nil (e_ (h:=aft_normal (wa_ (?_))))))))
 refine c_ (h1:=?_) (h2:=?_)
 rotate_right 1
 focus
  intro c1
  simp at c1;have : i = d.cells.length := (by omega);subst this
  refine wc_exit (?_)
 rotate_right 1
 focus
  intro c1
  simp at c1;have hw := wrap_succ (i:=i) (by omega);obtain ⟨x,_,d1,g1⟩ := ints_cut c1;have g2 := ints_ix h0 h1
  refine wc_skip (?_)
 all_goals first
 | refine aft_exit ?_
 | (
  refine aft_normal ?_
  refine wa_ (wc_block (wa_ (wc_region (w_ (x_ (h:=w_ (l_ (h:=w_ (a_ (h:=wo_nil (e_ (h:=aft_normal (wa_ (wc_region (w_ (m_ (h:=?_)))))))))))))))))
  refine w_ (m_ (h:=w_ (f_ (h:=w_ (l_ (h:=w_ (x_ (h:=w_ (l_ (h:=w_ (b_ (h:=w_ (ca (hc:=e_in _ _ _) (h:=w_ (u_ (h:=wo_nil (e_ (h:=aft_normal (?_)))))))))))))))))))
  refine c_ (h1:=?_) (h2:=?_)
  rotate_right 1
  focus
   intro c2
   refine wc_skip (?_)
  rotate_right 1
  focus
   intro c2
   refine wa_ (wc_region (w_ (a_ (h:=wo_nil (e_ (h:=aft_normal (wc_ret (?_))))))))
  all_goals first | refine blk_normal ?_ | refine blk_ret ?_
  all_goals first
  | refine aft_ret ?_
  | (
   refine aft_normal ?_
   refine wc_region (w_ (b_ (h:=w_ (m_ (h:=wo_nil (e_ (h:=?_)))))))
   )
  )
 all_goals first
 | (refine (ih (i + 1) (by omega) ?_ _ ?_).trans ?_;(focus (first | omega | (simp;done) | (simp;omega)));(focus (simp [normE,hw];done));(focus (rw [d1];simp at c2 ⊢;grind)))
 | (apply end_leaf (ex:=Ext.ret) 2 (some [4]);(focus (simp [normE];rfl));(focus (rw [d1];simp at c2 ⊢;grind)))
 | (apply end_leaf (ex:=(Ext.exit 1)) 2 (some [4]);(focus (simp [normE];rfl));(focus (simp)))
theorem e_fault (z z' : Nat) (d : Nd) (w : List Int) (hd : d.cells.length < 4000000) (h : fitN d w.length) (ho : 1≤d.op∧d.op≤12) : oc.call 84 [d.v false z,.lst false z' (ints w)] = some (.int .i64 (faultN d w),[]) := by
 refine fun_s rfl cd84 rfl rfl rfl (by simp;rfl) (by simp;rfl) ?_
 obtain ⟨k1,k2⟩ := h
 refine wa_ (wc_region (w_ (bx (h:=w_ (a_ (h:=wo_nil (e_ (h:=aft_normal (wa_ (wa_ (wc_region (w_ (f_ (h:=w_ (l_ (h:=wo_nil (e_ (h:=?_))))))))))))))))))
 refine aft_normal (wc_block (wa_ (wc_region (w_ (bE (h:=w_ (a_ (h:=wo_nil (e_ (h:=aft_normal (?_)))))))))))
 refine c_ (h1:=?_) (h2:=?_)
 rotate_right 1
 focus
  intro c1
  first
  | exact dn c1
  | (
   have d1 := c1;try simp at d1
   refine wa_ (wc_region (w_ (bE (h:=w_ (a_ (h:=wo_nil (e_ (h:=aft_normal (?_)))))))))
   refine c_ (h1:=?_) (h2:=?_)
   rotate_right 1
   focus
    intro c2
    first
    | exact dn c2
    | (
     have d2 := c2;try simp at d2
     refine wa_ (wc_region (w_ (bE (h:=w_ (a_ (h:=wo_nil (e_ (h:=aft_normal (?_)))))))))
     refine c_ (h1:=?_) (h2:=?_)
     rotate_right 1
     focus
      intro c3
      first
      | exact dn c3
      | (
       have d3 := c3;try simp at d3
       refine wa_ (wc_region (w_ (bE (h:=w_ (a_ (h:=wo_nil (e_ (h:=aft_normal (?_)))))))))
       refine c_ (h1:=?_) (h2:=?_)
       rotate_right 1
       focus
        intro c4
        first
        | exact dn c4
        | (
         have d4 := c4;try simp at d4
         refine wa_ (wc_region (w_ (bE (h:=w_ (a_ (h:=wo_nil (e_ (h:=aft_normal (?_)))))))))
         refine c_ (h1:=?_) (h2:=?_)
         rotate_right 1
         focus
          intro c5
          first
          | exact dn c5
          | (
           have d5 := c5;try simp at d5
           refine wa_ (wc_region (w_ (bE (h:=w_ (a_ (h:=wo_nil (e_ (h:=aft_normal (?_)))))))))
           refine c_ (h1:=?_) (h2:=?_)
           rotate_right 1
           focus
            intro c6
            first
            | exact dn c6
            | (
             have d6 := c6;try simp at d6
             refine wa_ (wa_ (wc_region (w_ (bE (h:=w_ (a_ (h:=wo_nil (e_ (h:=aft_normal (?_))))))))))
             refine c_ (h1:=?_) (h2:=?_)
             rotate_right 1
             focus
              intro c7
              first
              | exact dn c7
              | (
               have d7 := c7;try simp at d7
               refine wa_ (wc_region (w_ (bE (h:=w_ (a_ (h:=wo_nil (e_ (h:=aft_normal (?_)))))))))
               refine c_ (h1:=?_) (h2:=?_)
               rotate_right 1
               focus
                intro c8
                first
                | exact dn c8
                | (
                 have d8 := c8;try simp at d8
                 refine wc_region (w_ (bE (h:=w_ (a_ (h:=wo_nil (e_ (h:=?_)))))))
                 )
               rotate_right 1
               focus
                intro c8
                first
                | exact dn c8
                | (
                 have d8 := c8;try simp at d8
                 refine wc_skip (?_)
                 )
               )
             rotate_right 1
             focus
              intro c7
              first
              | exact dn c7
              | (
               have d7 := c7;try simp at d7
               refine wc_skip (?_)
               )
             all_goals first
             | (
              refine aft_normal ?_
              refine c_ (h1:=?_) (h2:=?_)
              rotate_right 1
              focus
               intro c9
               first
               | exact dn c9
               | (
                have d9 := c9;try simp at d9
                refine wc_skip (?_)
                )
              rotate_right 1
              focus
               intro c9
               first
               | exact dn c9
               | (
                have d9 := c9;try simp at d9
                obtain ⟨h3,h4⟩ := k1 (by omega);have g1 := ints_ix h3 h4
                refine wa_ (wc_draw (y_ (f_ (h:=ax_ (h:=y_ (l_ (h:=ax_ (h:=y_ (m_ (h:=ax_ (h:=y_ (f_ (h:=ax_ (h:=y_ (l_ (h:=ax_ (h:=y_ (x_ (h:=ax_ (h:=y_ (l_ (h:=ax_ (h:=y_ (b_ (h:=ax_ (h:=y_ (ca (hc:=e_in _ _ _) (h:=ax_ (h:=y_ (u_ (h:=ax_ (h:=?_))))))))))))))))))))))))))))))))
                refine wo_nil (ed (h:=aft_normal (?_)))
                refine c_ (h1:=?_) (h2:=?_)
                rotate_right 1
                focus
                 intro c10
                 first
                 | exact dn c10
                 | (
                  have d10 := c10;try simp at d10
                  refine wc_skip (?_)
                  )
                rotate_right 1
                focus
                 intro c10
                 first
                 | exact dn c10
                 | (
                  have d10 := c10;try simp at d10
                  refine wa_ (wc_region (w_ (a_ (h:=wo_nil (e_ (h:=aft_normal (wc_ret (?_))))))))
                  )
                )
              )
             )
           rotate_right 1
           focus
            intro c6
            first
            | exact dn c6
            | (
             have d6 := c6;try simp at d6
             obtain ⟨h3,h4⟩ := k1 (by omega);have g1 := ints_ix h3 h4
             refine wa_ (wc_draw (y_ (f_ (h:=ax_ (h:=y_ (l_ (h:=ax_ (h:=y_ (m_ (h:=ax_ (h:=y_ (f_ (h:=ax_ (h:=y_ (l_ (h:=ax_ (h:=y_ (x_ (h:=ax_ (h:=y_ (l_ (h:=ax_ (h:=y_ (mi (h:=ax_ (h:=y_ (ca (hc:=e_in _ _ _) (h:=ax_ (h:=y_ (u_ (h:=ax_ (h:=?_))))))))))))))))))))))))))))))))
             refine wo_nil (ed (h:=aft_normal (?_)))
             refine c_ (h1:=?_) (h2:=?_)
             rotate_right 1
             focus
              intro c11
              first
              | exact dn c11
              | (
               have d11 := c11;try simp at d11
               refine wc_skip (?_)
               )
             rotate_right 1
             focus
              intro c11
              first
              | exact dn c11
              | (
               have d11 := c11;try simp at d11
               refine wa_ (wc_region (w_ (a_ (h:=wo_nil (e_ (h:=aft_normal (wc_ret (?_))))))))
               )
             )
           )
         rotate_right 1
         focus
          intro c5
          first
          | exact dn c5
          | (
           have d5 := c5;try simp at d5
           obtain ⟨h3,h4⟩ := k1 (by omega);have g1 := ints_ix h3 h4;obtain ⟨h5,h6⟩ := k2 (by omega);have g2 := ints_ix h5 h6
           refine wa_ (wa_ (wc_draw (y_ (f_ (h:=ax_ (h:=y_ (l_ (h:=ax_ (h:=y_ (m_ (h:=ax_ (h:=y_ (f_ (h:=ax_ (h:=y_ (l_ (h:=ax_ (h:=y_ (x_ (h:=ax_ (h:=y_ (l_ (h:=ax_ (h:=y_ (m_ (h:=ax_ (h:=y_ (f_ (h:=ax_ (h:=?_))))))))))))))))))))))))))))))
           refine y_ (l_ (h:=ax_ (h:=y_ (x_ (h:=ax_ (h:=y_ (l_ (h:=ax_ (h:=y_ (mi (h:=ax_ (h:=y_ (ca (hc:=e_in _ _ _) (h:=ax_ (h:=y_ (u_ (h:=ax_ (h:=wo_nil (ed (h:=aft_normal (?_)))))))))))))))))))))
           refine c_ (h1:=?_) (h2:=?_)
           rotate_right 1
           focus
            intro c12
            first
            | exact dn c12
            | (
             have d12 := c12;try simp at d12
             refine wc_skip (?_)
             )
           rotate_right 1
           focus
            intro c12
            first
            | exact dn c12
            | (
             have d12 := c12;try simp at d12
             refine wa_ (wc_region (w_ (a_ (h:=wo_nil (e_ (h:=aft_normal (wc_ret (?_))))))))
             )
           all_goals first
           | refine aft_ret ?_
           | (
            refine aft_normal ?_
            refine wa_ (wc_region (w_ (l_ (h:=w_ (m_ (h:=w_ (ca (hc:=e_width 0 0 d w hd ⟨k1,k2⟩) (h:=w_ (b_ (h:=wo_nil (e_ (h:=aft_normal (?_)))))))))))))
            refine c_ (h1:=?_) (h2:=?_)
            rotate_right 1
            focus
             intro c13
             first
             | exact dn c13
             | (
              have d13 := c13;try simp at d13
              refine wc_skip (?_)
              )
            rotate_right 1
            focus
             intro c13
             first
             | exact dn c13
             | (
              have d13 := c13;try simp at d13
              refine wa_ (wc_region (w_ (a_ (h:=wo_nil (e_ (h:=aft_normal (wc_ret (?_))))))))
              )
            )
           )
         )
       rotate_right 1
       focus
        intro c4
        first
        | exact dn c4
        | (
         have d4 := c4;try simp at d4
         obtain ⟨h3,h4⟩ := k1 (by omega);have g1 := ints_ix h3 h4;obtain ⟨h5,h6⟩ := k2 (by omega);have g2 := ints_ix h5 h6
         refine wa_ (wc_draw (y_ (m_ (h:=ax_ (h:=y_ (f_ (h:=ax_ (h:=y_ (l_ (h:=ax_ (h:=y_ (x_ (h:=ax_ (h:=y_ (l_ (h:=ax_ (h:=y_ (m_ (h:=ax_ (h:=y_ (f_ (h:=ax_ (h:=y_ (l_ (h:=ax_ (h:=y_ (x_ (h:=ax_ (h:=y_ (l_ (h:=ax_ (h:=?_))))))))))))))))))))))))))))))))
         refine y_ (bE (h:=ax_ (h:=wo_nil (ed (h:=aft_normal (?_))))))
         refine c_ (h1:=?_) (h2:=?_)
         rotate_right 1
         focus
          intro c14
          first
          | exact dn c14
          | (
           have d14 := c14;try simp at d14
           refine wc_skip (?_)
           )
         rotate_right 1
         focus
          intro c14
          first
          | exact dn c14
          | (
           have d14 := c14;try simp at d14
           refine wa_ (wc_region (w_ (a_ (h:=wo_nil (e_ (h:=aft_normal (wc_ret (?_))))))))
           )
         )
       )
     rotate_right 1
     focus
      intro c3
      first
      | exact dn c3
      | (
       have d3 := c3;try simp at d3
       obtain ⟨h3,h4⟩ := k1 (by omega);have g1 := ints_ix h3 h4
       refine wa_ (wa_ (wc_region (w_ (f_ (h:=w_ (l_ (h:=w_ (ca (hc:=e_size 0 (ints d.cells) (by simp;omega)) (h:=w_ (ca (hc:=e_in _ _ _) (h:=w_ (u_ (h:=wo_nil (e_ (h:=aft_normal (?_))))))))))))))))
       refine c_ (h1:=?_) (h2:=?_)
       rotate_right 1
       focus
        intro c15
        first
        | exact dn c15
        | (
         have d15 := c15;try simp at d15
         refine wc_skip (?_)
         )
       rotate_right 1
       focus
        intro c15
        first
        | exact dn c15
        | (
         have d15 := c15;try simp at d15
         refine wa_ (wc_region (w_ (a_ (h:=wo_nil (e_ (h:=aft_normal (wc_ret (?_))))))))
         )
       all_goals first
       | refine aft_ret ?_
       | (
        refine aft_normal ?_
        refine wa_ (wc_region (w_ (f_ (h:=w_ (l_ (h:=w_ (le (h:=w_ (m_ (h:=wo_nil (e_ (h:=aft_normal (wc_block (?_))))))))))))))
        refine wc_loopI (l_cells z z' d w hd h3 h4 0 (by omega) _ (by simp [normE])) ?_ ?_
        rotate_right 1
        focus
         intro c16
         first
         | exact dn c16
         | (
          have d16 := c16;try simp at d16
          skip
          )
        rotate_right 1
        focus
         intro c16
         first
         | exact dn c16
         | (
          have d16 := c16;try simp at d16
          skip
          )
        all_goals first | refine blk_ret ?_ | refine blk_exit ?_
        )
       )
     )
   rotate_right 1
   focus
    intro c2
    first
    | exact dn c2
    | (
     have d2 := c2;try simp at d2
     obtain ⟨h3,h4⟩ := k1 (by omega);have g1 := ints_ix h3 h4
     refine wa_ (wc_draw (y_ (f_ (h:=ax_ (h:=y_ (l_ (h:=ax_ (h:=y_ (m_ (h:=ax_ (h:=y_ (f_ (h:=ax_ (h:=y_ (l_ (h:=ax_ (h:=y_ (x_ (h:=ax_ (h:=y_ (l_ (h:=ax_ (h:=y_ (b_ (h:=ax_ (h:=y_ (ca (hc:=e_in _ _ _) (h:=ax_ (h:=y_ (u_ (h:=ax_ (h:=?_))))))))))))))))))))))))))))))))
     refine y_ (m_ (h:=ax_ (h:=?_)))
     refine gw_ (h1:=?_) (h2:=?_)
     rotate_right 1
     focus
      intro c17
      first
      | exact dn c17
      | (
       have d17 := c17;try simp at d17
       refine gd_ (h:=gd_ (h:=gd_ (h:=gd_ (h:=?_))))
       )
     rotate_right 1
     focus
      intro c17
      first
      | exact dn c17
      | (
       have d17 := c17;try simp at d17
       refine g_ (h:=y_ (f_ (h:=ax_ (h:=g_ (h:=y_ (l_ (h:=ax_ (h:=g_ (h:=y_ (ca (hc:=e_in _ _ _) (h:=ax_ (h:=g_ (h:=y_ (u_ (h:=ax_ (h:=?_))))))))))))))))
       )
     all_goals
      refine y_ (pk (h:=ax_ (h:=y_ (m_ (h:=ax_ (h:=?_))))))
      refine gw_ (h1:=?_) (h2:=?_)
      rotate_right 1
      focus
       intro c18
       first
       | exact dn c18
       | (
        have d18 := c18;try simp at d18
        refine gd_ (h:=gd_ (h:=gd_ (h:=gd_ (h:=?_))))
        )
      rotate_right 1
      focus
       intro c18
       first
       | exact dn c18
       | (
        have d18 := c18;try simp at d18
        refine g_ (h:=y_ (f_ (h:=ax_ (h:=g_ (h:=y_ (l_ (h:=ax_ (h:=g_ (h:=y_ (ca (hc:=e_in _ _ _) (h:=ax_ (h:=g_ (h:=y_ (u_ (h:=ax_ (h:=?_))))))))))))))))
        )
      all_goals
       refine y_ (pk (h:=ax_ (h:=wo_nil (ed (h:=?_)))))
     all_goals first
     | (
      refine aft_normal ?_
      refine c_ (h1:=?_) (h2:=?_)
      rotate_right 1
      focus
       intro c19
       first
       | exact dn c19
       | (
        have d19 := c19;try simp at d19
        refine wc_skip (?_)
        )
      rotate_right 1
      focus
       intro c19
       first
       | exact dn c19
       | (
        have d19 := c19;try simp at d19
        refine wa_ (wc_region (w_ (a_ (h:=wo_nil (e_ (h:=aft_normal (wc_ret (?_))))))))
        )
      )
     )
   )
 rotate_right 1
 focus
  intro c1
  first
  | exact dn c1
  | (
   have d1 := c1;try simp at d1
   refine wa_ (wc_region (w_ (f_ (h:=w_ (l_ (h:=w_ (ca (hc:=e_in _ _ _) (h:=w_ (u_ (h:=wo_nil (e_ (h:=aft_normal (?_)))))))))))))
   refine c_ (h1:=?_) (h2:=?_)
   rotate_right 1
   focus
    intro c20
    first
    | exact dn c20
    | (
     have d20 := c20;try simp at d20
     refine wc_skip (?_)
     )
   rotate_right 1
   focus
    intro c20
    first
    | exact dn c20
    | (
     have d20 := c20;try simp at d20
     refine wa_ (wc_region (w_ (a_ (h:=wo_nil (e_ (h:=aft_normal (wc_ret (?_))))))))
     )
   )
 all_goals first | refine blk_normal ?_ | refine blk_ret ?_
 all_goals first
 | refine aft_ret ?_
 | (
  refine aft_normal ?_
  refine wa_ (wc_region (w_ (a_ (h:=wo_nil (e_ (h:=aft_normal (wc_ret (?_))))))))
  )
 all_goals (refine fin_ (hr:=(res_tmp rfl res_nil)) (h:=?_);(focus (simp [faultN];grind)))
def opAt (l : List Nd) (a : Int) : Int := (l[a.toNat]?).elim 0 Nd.op
theorem nds_ix {t : Bool} {s : Nat} {l : List Nd} {a : Int} (h0 : 0≤a) (h : a < l.length) : ∃ d,(nds t s l)[a.toNat]? = some (Nd.v t s d)∧opAt l a = Nd.op d := by
  have : a.toNat < l.length := by omega
  exact ⟨l[a.toNat],by simp [nds,this],by simp [opAt,this]⟩
def okR (pl : List Nd) (i : Nat) (k : Int) : Bool := inI k 0 (IntKind.i64.wrap ((i : Int) - 1)) && !decide (opAt pl k = 12)
theorem l_reads (pl : List Nd) (out rs : List Int) (d : Nd) (i : Nat) (hp : pl.length < 2000000) (hi : i≤pl.length) (hr : rs.length < 10) : ∀ j : Nat,j≤rs.length→∀ s,normE 1 (some [0,4,5,6,15,16,17,34,35,36]) s = ⟨[(0,.lst false 0 (nds false 0 pl)),(4,.ref 1 0 out.length),(5,.int .i64 i),(6,.ptr 2 0 []),(15,.lst false 0 (nds false 0 pl)),(16,.int .i64 pl.length),(17,.int .i64 i),(34,.ref 3 0 rs.length),(35,.int .i64 rs.length),(36,.int .i64 j)],[(1,⟨false,false,1,ints out,0⟩),(2,⟨true,false,7,[d.v false 0],0⟩),(3,⟨false,false,1,ints rs,0⟩)],4⟩ →
 oc.loop 37 12 s = some (if (rs.drop j).all (okR pl i) = true then (.exit 3,⟨[(0,.lst false 0 (nds false 0 pl)),(4,.ref 1 0 out.length),(6,.ptr 2 0 []),(15,.lst false 0 (nds false 0 pl)),(16,.int .i64 pl.length),(17,.int .i64 i)],[(1,⟨false,false,1,ints out,0⟩),(2,⟨true,false,7,[d.v false 0],0⟩)],3⟩)
  else (.ret,⟨[(0,.lst false 0 (nds false 0 pl)),(2,.lst true 1 []),(3,.int .i64 3),(4,.ref 1 0 out.length),(6,.ptr 2 0 []),(15,.lst false 0 (nds false 0 pl)),(16,.int .i64 pl.length),(17,.int .i64 i)],[(1,⟨false,false,1,ints out,0⟩),(2,⟨true,false,7,[d.v false 0],0⟩)],3⟩)) := by
 refine loop_ind (fun j => rs.length - j) _ (fun j => ⟨[(0,.lst false 0 (nds false 0 pl)),(4,.ref 1 0 out.length),(5,.int .i64 i),(6,.ptr 2 0 []),(15,.lst false 0 (nds false 0 pl)),(16,.int .i64 pl.length),(17,.int .i64 i),(34,.ref 3 0 rs.length),(35,.int .i64 rs.length),(36,.int .i64 j)],[(1,⟨false,false,1,ints out,0⟩),(2,⟨true,false,7,[d.v false 0],0⟩),(3,⟨false,false,1,ints rs,0⟩)],4⟩) _ ?_
 intro j hj ih s hs
 have hw2 : IntKind.i64.wrap ((i : Int) - 1) = i - 1 := wrap_id (by omega) (by omega)
 refine loop_s cd37 rfl rfl hs ?_
 refine wa_ (wc_region (w_ (b_ (h:=wo_nil (e_ (h:=aft_normal (wa_ (?_))))))))
 refine c_ (h1:=?_) (h2:=?_)
 rotate_right 1
 focus
  intro c1
  first
  | exact dn c1
  | (
   have d1 := c1;try simp at d1
   have : j = rs.length := (by omega);subst this
   refine wc_exit (?_)
   )
 rotate_right 1
 focus
  intro c1
  first
  | exact dn c1
  | (
   have d1 := c1;try simp at d1
   have hw := wrap_succ (i:=j) (by omega);obtain ⟨x,_,e1,g1⟩ := ints_cut (l:=rs) (i:=j) (by omega);simp at g1
   refine wc_skip (?_)
   )
 all_goals first
 | refine aft_exit ?_
 | (
  refine aft_normal ?_
  refine wa_ (wc_block (wa_ (wc_region (w_ (x_ (h:=w_ (l_ (h:=w_ (a_ (h:=wo_nil (e_ (h:=aft_normal (wa_ (wc_region (w_ (m_ (h:=?_)))))))))))))))))
  refine w_ (m_ (h:=w_ (b_ (h:=w_ (ca (hc:=e_in _ _ _) (h:=w_ (u_ (h:=w_ (m_ (h:=?_))))))))))
  refine gw_ (h1:=?_) (h2:=?_)
  rotate_right 1
  focus
   intro c2
   first
   | exact dn c2
   | (
    have d2 := c2;try simp at d2
    refine go_ (h:=go_ (h:=go_ (h:=go_ (h:=go_ (h:=go_ (h:=?_))))))
    )
  rotate_right 1
  focus
   intro c2
   first
   | exact dn c2
   | (
    have d2 := c2;try simp at d2
    simp [inI,hw2] at d2;obtain ⟨h3,h4⟩ := d2;obtain ⟨e,g2,g3⟩ := nds_ix (t:=false) (s:=0) (l:=pl) h3 (by omega)
    refine g_ (h:=w_ (m_ (h:=g_ (h:=w_ (m_ (h:=g_ (h:=w_ (x_ (h:=g_ (h:=w_ (f_ (h:=g_ (h:=w_ (l_ (h:=g_ (h:=w_ (bE (h:=?_))))))))))))))))))
    )
  all_goals
   refine w_ (pk (h:=wo_nil (e_ (h:=?_))))
  all_goals first
  | (
   refine aft_normal ?_
   refine c_ (h1:=?_) (h2:=?_)
   rotate_right 1
   focus
    intro c3
    first
    | exact dn c3
    | (
     have d3 := c3;try simp at d3
     refine wc_skip (?_)
     )
   rotate_right 1
   focus
    intro c3
    first
    | exact dn c3
    | (
     have d3 := c3;try simp at d3
     refine wa_ (wc_region (w_ (aN (h:=w_ (a_ (h:=wo_nil (e_ (h:=aft_normal (wc_ret (?_))))))))))
     )
   )
  all_goals first | refine blk_normal ?_ | refine blk_ret ?_
  all_goals first
  | refine aft_ret ?_
  | (
   refine aft_normal ?_
   refine wc_region (w_ (b_ (h:=w_ (m_ (h:=wo_nil (e_ (h:=?_)))))))
   )
  )
 all_goals first
 | (refine (ih (j + 1) (by omega) ?_ _ ?_).trans ?_;(focus (first | omega | (simp;done) | (simp;omega)));(focus (simp [normE,hw];done));(focus (rw [e1];simp [okR] at *;grind)))
 | (apply end_leaf (ex:=Ext.ret) 1 (some [0,2,3,4,6,15,16,17]);(focus (simp [normE];rfl));(focus (rw [e1];simp [okR] at *;grind)))
 | (apply end_leaf (ex:=(Ext.exit 3)) 1 (some [0,2,3,4,6,15,16,17]);(focus (simp [normE];rfl));(focus (simp)))
theorem fit_of {pl : List Nd} {d : Nd} {i : Nat} (hi : i < 2000000) (h : (readsN d).all (okR pl i) = true) : fitN d i := by
  have hw2 : IntKind.i64.wrap ((i : Int) - 1) = i - 1 := wrap_id (by omega) (by omega)
  have key : ∀ k∈readsN d,0≤k∧k < i := by
    intro k hk
    have := List.all_eq_true.mp h k hk
    simp [okR,inI,hw2] at this
    omega
  unfold readsN at key
  constructor
  · intro h1
    rw [if_neg h1] at key
    split at key <;> exact key _ (by simp)
  · intro h1
    rw [if_neg (by omega),if_pos h1] at key
    exact key _ (by simp)
theorem plain_len (d : Nd) : (plainN d).cells.length≤d.cells.length := by
  simp only [plainN]
  split <;> simp
def stepC (pl : List Nd) (d : Nd) (out : List Int) : Int :=
  if inI d.op 1 12 = false then 5 else if d ≠ plainN d then 1 else if (readsN d).all (okR pl out.length) = false then 3 else faultN d out
def lookR (pl : List Nd) : List Nd→List Int→List Int × Int
  | [],out => (out,0)
  | d :: r,out => if stepC pl d out = 0 then lookR pl r (out ++ [widthN d out]) else (out,stepC pl d out)
def lookE (q : List Int × Int) : Ext × St :=
  if q.2 = 0 then (.exit 0,⟨[(4,.ref 1 0 q.1.length)],[(1,⟨false,false,1,ints q.1,0⟩)],2⟩) else (.ret,⟨[(2,.lst true 1 []),(3,.int .i64 q.2),(4,.ref 1 0 q.1.length)],[(1,⟨false,false,1,ints q.1,0⟩)],2⟩)
theorem look_stop {pl r : List Nd} {d : Nd} {out : List Int} {i : Nat} {c : Int} (e : pl.drop i = d :: r) (h : stepC pl d out = c) (hc : c ≠ 0) : lookE (lookR pl (pl.drop i) out) = (.ret,⟨[(2,.lst true 1 []),(3,.int .i64 c),(4,.ref 1 0 out.length)],[(1,⟨false,false,1,ints out,0⟩)],2⟩) := by
  subst h
  rw [e,lookR,if_neg hc,lookE,if_neg hc]
theorem look_go {pl r : List Nd} {d : Nd} {out : List Int} {i : Nat} (e : pl.drop i = d :: r) (h : stepC pl d out = 0) : lookR pl (pl.drop i) out = lookR pl r (out ++ [widthN d out]) := by
  rw [e,lookR,if_pos h]
theorem l_look (pl : List Nd) (hp : pl.length < 2000000) (hk : okN pl) : ∀ out : List Int,out.length≤pl.length→∀ s,normE 1 (some [0,4,15,16,17]) s = ⟨[(0,.lst false 0 (nds false 0 pl)),(4,.ref 1 0 out.length),(15,.lst false 0 (nds false 0 pl)),(16,.int .i64 pl.length),(17,.int .i64 out.length)],[(1,⟨false,false,1,ints out,0⟩)],2⟩ →
 oc.loop 37 5 s = some (lookE (lookR pl (pl.drop out.length) out)) := by
 refine loop_ind (fun out => pl.length - out.length) _ (fun out => ⟨[(0,.lst false 0 (nds false 0 pl)),(4,.ref 1 0 out.length),(15,.lst false 0 (nds false 0 pl)),(16,.int .i64 pl.length),(17,.int .i64 out.length)],[(1,⟨false,false,1,ints out,0⟩)],2⟩) _ ?_
 intro out hi ih s hs
 refine loop_s cd37 rfl rfl hs ?_
 refine wa_ (wc_region (w_ (b_ (h:=wo_nil (e_ (h:=aft_normal (wa_ (?_))))))))
 refine c_ (h1:=?_) (h2:=?_)
 rotate_right 1
 focus
  intro c1
  first
  | exact dn c1
  | (
   have d1 := c1;try simp at d1
   have hn : pl.length = out.length := (by omega)
   refine wc_exit (?_)
   )
 rotate_right 1
 focus
  intro c1
  first
  | exact dn c1
  | (
   have d1 := c1;try simp at d1
   have hw := wrap_succ (i:=out.length) (by omega);obtain ⟨d,hx,e1,g1⟩ := nds_cut (t:=false) (s:=0) (l:=pl) (i:=out.length) (by omega);simp at g1;have hd := hk d (List.mem_of_getElem? hx);by_cases h3 : d.op = 3
   all_goals
    refine wc_skip (?_)
   )
 all_goals first
 | refine aft_exit ?_
 | (
  refine aft_normal ?_
  refine wa_ (wc_block (wa_ (wc_region (w_ (m_ (h:=w_ (x_ (h:=w_ (l_ (h:=w_ (al (h:=w_ (a_ (h:=w0 (s_ (h:=wo_nil (e_ (h:=aft_normal (?_)))))))))))))))))))
  refine wa_ (wc_block (wa_ (wc_region (w_ (f_ (h:=w_ (l_ (h:=w_ (ca (hc:=e_in _ _ _) (h:=w_ (u_ (h:=w_ (a_ (h:=wo_nil (e_ (h:=aft_normal (?_)))))))))))))))))
  refine c_ (h1:=?_) (h2:=?_)
  rotate_right 1
  focus
   intro c2
   first
   | exact dn c2
   | (
    have d2 := c2;try simp at d2
    refine wa_ (wc_draw (y_ (l_ (h:=ax_ (h:=y_ (l_ (h:=ax_ (h:=?_))))))))
    first | refine y_ (ca (hc:=e_plain3 0 d h3) (h:=?_)) | refine y_ (ca (hc:=e_plain 0 d h3) (h:=?_))
    refine ax_ (h:=y_ (ca (hc:=e_same 0 0 d (plainN d) (by omega) (by have := plain_len d;omega)) (h:=ax_ (h:=y_ (u_ (h:=ax_ (h:=y_ (a_ (h:=ax_ (h:=wo_nil (ed (h:=aft_normal (?_)))))))))))))
    refine c_ (h1:=?_) (h2:=?_)
    rotate_right 1
    focus
     intro c3
     first
     | exact dn c3
     | (
      have d3 := c3;try simp at d3
      refine wc_skip (?_)
      )
    rotate_right 1
    focus
     intro c3
     first
     | exact dn c3
     | (
      have d3 := c3;try simp at d3
      refine wa_ (wc_region (w_ (aN (h:=w_ (a_ (h:=wo_nil (e_ (h:=aft_normal (wc_ret (?_))))))))))
      )
    )
  rotate_right 1
  focus
   intro c2
   first
   | exact dn c2
   | (
    have d2 := c2;try simp at d2
    refine wa_ (wc_region (w_ (aN (h:=w_ (a_ (h:=wo_nil (e_ (h:=aft_normal (wc_ret (?_))))))))))
    )
  all_goals first | refine blk_normal ?_ | refine blk_ret ?_
  all_goals first
  | refine aft_ret ?_
  | (
   refine aft_normal ?_
   refine wa_ (wa_ (wc_region (w_ (l_ (h:=w_ (ca (hc:=e_reads 0 d) (h:=w_ (le (h:=w_ (m_ (h:=wo_nil (e_ (h:=aft_normal (wc_block (?_)))))))))))))))
   refine wc_loopI (l_reads pl out (readsN d) d out.length (by omega) (by omega) (by unfold readsN;split;simp;split <;> simp) 0 (by omega) _ (by simp [normE])) ?_ ?_
   rotate_right 1
   focus
    intro c4
    first
    | exact dn c4
    | (
     have d4 := c4;try simp at d4
     have d4' : (readsN d).all (okR pl out.length) = false := (by simpa using c4)
     skip
     )
   rotate_right 1
   focus
    intro c4
    first
    | exact dn c4
    | (
     have d4 := c4;try simp at d4
     have d4' : (readsN d).all (okR pl out.length) = true := (by simpa using c4);have hf := fit_of (i:=out.length) (by omega) (by simpa using c4)
     skip
     )
   all_goals first | refine blk_ret ?_ | refine blk_exit ?_
   all_goals first
   | refine aft_ret ?_
   | (
    refine aft_normal ?_
    refine wa_ (wa_ (wc_region (w_ (l_ (h:=w_ (m_ (h:=w_ (ca (hc:=e_fault 0 0 d out (by omega) hf (by simp [inI] at d2;omega)) (h:=w_ (a_ (h:=wo_nil (e_ (h:=aft_normal (wa_ (wc_region (w_ (m_ (h:=?_))))))))))))))))))
    refine w_ (bE (h:=wo_nil (e_ (h:=aft_normal (?_)))))
    refine c_ (h1:=?_) (h2:=?_)
    rotate_right 1
    focus
     intro c5
     first
     | exact dn c5
     | (
      have d5 := c5;try simp at d5
      refine wc_skip (?_)
      )
    rotate_right 1
    focus
     intro c5
     first
     | exact dn c5
     | (
      have d5 := c5;try simp at d5
      refine wa_ (wc_region (w_ (m_ (h:=w_ (aN (h:=w_ (a_ (h:=wo_nil (e_ (h:=aft_normal (wc_ret (?_))))))))))))
      )
    all_goals first
    | refine aft_ret ?_
    | (
     refine aft_normal ?_
     refine wc_region (w_ (m_ (h:=w_ (l_ (h:=w_ (m_ (h:=w_ (ca (hc:=e_width 0 0 d out (by omega) hf) (h:=w_ (bs (h:=w_ (ap (h:=w_ (a_ (h:=wo_nil (e_ (h:=?_)))))))))))))))))
     )
    )
   )
  all_goals first | refine blk_normal ?_ | refine blk_ret ?_
  all_goals first
  | refine aft_ret ?_
  | (
   refine aft_normal ?_
   refine wc_region (w_ (b_ (h:=w_ (m_ (h:=wo_nil (e_ (h:=?_)))))))
   )
  )
 all_goals first
 | (refine (ih (out ++ [widthN d out]) (by simp;omega) ?_ _ ?_).trans ?_;(focus (first | omega | (simp;done) | (simp;omega)));(focus (simp [normE,hw];done));(focus (rw [look_go e1 (by grind [stepC])];simp)))
 | (apply end_leaf (ex:=Ext.ret) 1 (some [2,3,4]);(focus (simp [normE];rfl));(focus (exact (look_stop e1 (c:=5) (by grind [stepC]) (by decide)).symm)))
 | (apply end_leaf (ex:=Ext.ret) 1 (some [2,3,4]);(focus (simp [normE];rfl));(focus (exact (look_stop e1 (c:=1) (by grind [stepC]) (by decide)).symm)))
 | (apply end_leaf (ex:=Ext.ret) 1 (some [2,3,4]);(focus (simp [normE];rfl));(focus (exact (look_stop e1 (c:=3) (by grind [stepC]) (by decide)).symm)))
 | (apply end_leaf (ex:=Ext.ret) 1 (some [2,3,4]);(focus (simp [normE];rfl));(focus (exact (look_stop e1 (c:=faultN d out) (by grind [stepC]) (by omega)).symm)))
 | (apply end_leaf (ex:=(Ext.exit 0)) 1 (some [2,3,4]);(focus (simp [normE];rfl));(focus (rw [List.drop_eq_nil_of_le (by omega)];simp [lookR,lookE])))
def lookN (pl : List Nd) : List Int × Int :=
  if inI pl.length 1 8 = false then ([],2) else if (lookR pl pl []).2 = 0 then lookR pl pl [] else ([],(lookR pl pl []).2)
theorem e_looked (pl : List Nd) (hp : pl.length < 2000000) (hk : okN pl) : oc.call 37 [.lst false 0 (nds false 0 pl)] = some (.tup [.lst true 1 (ints (lookN pl).1),.int .i64 (lookN pl).2],[]) := by
 refine fun_s rfl cd37 rfl rfl rfl (by simp;rfl) (by simp;rfl) ?_
 refine wa_ (wc_region (w_ (aN (h:=w_ (a_ (h:=wo_nil (e_ (h:=aft_normal (wa_ (wa_ (wc_region (w_ (m_ (h:=w_ (ca (hc:=e_sizeN _ _ (by simp;omega)) (h:=w_ (ca (hc:=e_in _ _ _) (h:=?_))))))))))))))))))
 refine w_ (u_ (h:=wo_nil (e_ (h:=aft_normal (?_)))))
 refine c_ (h1:=?_) (h2:=?_)
 rotate_right 1
 focus
  intro c1
  refine wc_skip (?_)
 rotate_right 1
 focus
  intro c1
  refine wa_ (wc_region (w_ (aN (h:=w_ (a_ (h:=wo_nil (e_ (h:=aft_normal (wc_ret (?_))))))))))
 all_goals first
 | refine aft_ret ?_
 | (
  refine aft_normal ?_
  refine wa_ (wc_region (w_ (bs (h:=w_ (a_ (h:=wo_nil (e_ (h:=aft_normal (wa_ (wa_ (wc_region (w_ (m_ (h:=w_ (le (h:=w_ (m_ (h:=?_))))))))))))))))))
  refine wo_nil (e_ (h:=aft_normal (wc_block (?_))))
  refine wc_loopI ((l_look pl hp hk [] (by simp) _ (by simp [normE])).trans (by rw [lookE])) ?_ ?_
  rotate_right 1
  focus
   intro c2
   skip
  rotate_right 1
  focus
   intro c2
   skip
  all_goals first | refine blk_ret ?_ | refine blk_exit ?_
  all_goals first
  | refine aft_ret ?_
  | (
   refine aft_normal ?_
   refine wa_ (wc_region (w_ (m_ (h:=w_ (a_ (h:=w_ (a_ (h:=wo_nil (e_ (h:=aft_normal (wc_ret (?_))))))))))))
   )
  )
 all_goals (refine fin_ (hr:=(res_tmp rfl (res_tmp rfl res_nil))) (h:=?_);(focus (simp_all [lookN])))
theorem e_planI (pl : List Nd) (hp : pl.length < 2000000) (hk : okN pl) : oc.call 10 [.lst false 0 (nds false 0 pl)] = some (.int .i64 (lookN pl).2,[]) := by
 refine fun_s rfl cd10 rfl rfl rfl (by simp;rfl) (by simp;rfl) ?_
 refine wa_ (wc_region (w_ (a_ (h:=wo_nil (e_ (h:=aft_normal (wa_ (wc_region (w_ (m_ (h:=w_ (ca (hc:=e_looked pl hp hk) (h:=w_ (m_ (h:=w_ (ex (h:=w_ (ex (h:=?_)))))))))))))))))))
 refine w_ (a_ (h:=w_ (a_ (h:=wo_nil (e_ (h:=aft_normal (wa_ (wc_region (w_ (m_ (h:=w_ (a_ (h:=wo_nil (e_ (h:=aft_normal (wc_ret (?_)))))))))))))))))
 all_goals (refine fin_ (hr:=(res_tmp rfl res_nil)) (h:=?_);(focus (first | (simp_all;done) | (simp_all <;> omega) | (simp_all <;> split <;> simp_all <;> omega))))
end Go.Proofs.Ytbcgenkegnmkhaa.Ev
namespace Go.Proofs.Ytbcgenkegnmkhaa.Ev
open Go
set_option maxRecDepth 100000
set_option linter.unusedSimpArgs false
set_option linter.unusedVariables false
set_option maxHeartbeats 2000000
def Good (pl : List Nd) (ws : List Int) : Prop := ∀ n : Nat,n < ws.length→∃ d,pl[n]? = some d∧at0 ws n = widthN d (ws.take n)∧fitN d n∧d.cells.length < 2000000
theorem at0_take {ws : List Int} {n : Nat} {a : Int} (h : a.toNat < n) : at0 (ws.take n) a = at0 ws a := by
  simp only [at0,List.getD_eq_getElem?_getD,List.getElem?_take,if_pos h]
theorem e_l3Width (pl : List Nd) (ws : List Int) (hp : pl.length < 2000000) (G : Good pl ws) : ∀ n : Nat,n < ws.length→oc.call 55 [.lst false 0 (nds false 0 pl),.int .i64 n] = some (.int .i64 (at0 ws n),[]) := by
  intro n
  induction n using Nat.strongRecOn with
  | ind n ih =>
    intro hn
    obtain ⟨d,hx,hv,⟨h1,h2⟩,hd⟩ := G n hn
    have hrec : ∀ a : Int,0≤a→a < n→oc.call 55 [.lst false 0 (nds false 0 pl),.int .i64 a] = some (.int .i64 (at0 (ws.take n) a),[]) := by
      intro a h3 h4
      have := ih a.toNat (by omega) (by omega)
      rw [at0_take (by omega)]
      rw [Int.toNat_of_nonneg h3] at this
      exact this
    have g1 : (nds false 0 pl)[(n : Int).toNat]? = some (d.v false 0) := nds_get (by simpa using hx)
    rw [hv]
    refine fun_s rfl cd55 rfl rfl rfl (by simp;rfl) (by simp;rfl) ?_
    refine wa_ (wc_region (w_ (a_ (h:=wo_nil (e_ (h:=aft_normal (wa_ (wc_region (w_ (m_ (h:=w_ (m_ (h:=w_ (x_ (h:=w_ (l_ (h:=w_ (al (h:=?_)))))))))))))))))))
    refine w0 (s_ (h:=wo_nil (e_ (h:=aft_normal (wa_ (wa_ (wc_region (w_ (f_ (h:=w_ (l_ (h:=wo_nil (e_ (h:=aft_normal (wc_block (wa_ (?_)))))))))))))))))
    refine wc_region (w_ (bE (h:=w_ (a_ (h:=wo_nil (e_ (h:=aft_normal (?_))))))))
    refine c_ (h1:=?_) (h2:=?_)
    rotate_right 1
    focus
     intro c1
     first
     | exact dn c1
     | (have d1 := c1;try simp at d1
        refine wa_ (wc_region (w_ (bE (h:=w_ (a_ (h:=wo_nil (e_ (h:=aft_normal (?_)))))))))
        refine c_ (h1:=?_) (h2:=?_)
        rotate_right 1
        focus
         intro c2
         first
         | exact dn c2
         | (have d2 := c2;try simp at d2
            refine wa_ (wc_region (w_ (bE (h:=w_ (a_ (h:=wo_nil (e_ (h:=aft_normal (?_)))))))))
            refine c_ (h1:=?_) (h2:=?_)
            rotate_right 1
            focus
             intro c3
             first
             | exact dn c3
             | (have d3 := c3;try simp at d3
                refine wa_ (wa_ (wc_region (w_ (bE (h:=w_ (a_ (h:=wo_nil (e_ (h:=aft_normal (?_))))))))))
                refine c_ (h1:=?_) (h2:=?_)
                rotate_right 1
                focus
                 intro c4
                 first
                 | exact dn c4
                 | (have d4 := c4;try simp at d4
                    refine wa_ (wc_region (w_ (bE (h:=w_ (a_ (h:=wo_nil (e_ (h:=aft_normal (?_)))))))))
                    refine c_ (h1:=?_) (h2:=?_)
                    rotate_right 1
                    focus
                     intro c5
                     first
                     | exact dn c5
                     | (have d5 := c5;try simp at d5
                        refine wa_ (wc_region (w_ (bE (h:=w_ (a_ (h:=wo_nil (e_ (h:=aft_normal (?_)))))))))
                        refine c_ (h1:=?_) (h2:=?_)
                        rotate_right 1
                        focus
                         intro c6
                         first
                         | exact dn c6
                         | (have d6 := c6;try simp at d6
                            refine wc_region (w_ (bE (h:=w_ (a_ (h:=wo_nil (e_ (h:=?_)))))))
                            )
                        rotate_right 1
                        focus
                         intro c6
                         first
                         | exact dn c6
                         | (have d6 := c6;try simp at d6
                            refine wc_skip (?_)
                            )
                        )
                    rotate_right 1
                    focus
                     intro c5
                     first
                     | exact dn c5
                     | (have d5 := c5;try simp at d5
                        refine wc_skip (?_)
                        )
                    )
                rotate_right 1
                focus
                 intro c4
                 first
                 | exact dn c4
                 | (have d4 := c4;try simp at d4
                    refine wc_skip (?_)
                    )
                all_goals first
                | (refine aft_normal ?_
                   refine c_ (h1:=?_) (h2:=?_)
                   rotate_right 1
                   focus
                    intro c7
                    first
                    | exact dn c7
                    | (have d7 := c7;try simp at d7
                       obtain ⟨h3,h4⟩ := h1 (by omega)
                       refine wc_skip (?_)
                       )
                   rotate_right 1
                   focus
                    intro c7
                    first
                    | exact dn c7
                    | (have d7 := c7;try simp at d7
                       refine wa_ (wc_region (w_ (f_ (h:=w_ (l_ (h:=w_ (b_ (h:=w_ (a_ (h:=wo_nil (e_ (h:=aft_normal (wc_ret (?_))))))))))))))
                       )
                   )
                )
            rotate_right 1
            focus
             intro c3
             first
             | exact dn c3
             | (have d3 := c3;try simp at d3
                obtain ⟨h3,h4⟩ := h1 (by omega);obtain ⟨h5,h6⟩ := h2 (by omega)
                refine wa_ (wc_draw (y_ (m_ (h:=ax_ (h:=y_ (f_ (h:=ax_ (h:=y_ (l_ (h:=ax_ (h:=y_ (ca (hc:=hrec _ h3 h4) (h:=ax_ (h:=y_ (m_ (h:=ax_ (h:=y_ (f_ (h:=ax_ (h:=y_ (l_ (h:=ax_ (h:=y_ (ca (hc:=hrec _ h5 h6) (h:=ax_ (h:=y_ (b_ (h:=ax_ (h:=y_ (f_ (h:=ax_ (h:=?_))))))))))))))))))))))))))))))))
                refine y_ (l_ (h:=ax_ (h:=y_ (b_ (h:=ax_ (h:=y_ (a_ (h:=ax_ (h:=wo_nil (ed (h:=aft_normal (wc_ret (?_)))))))))))))
                )
            )
        rotate_right 1
        focus
         intro c2
         first
         | exact dn c2
         | (have d2 := c2;try simp at d2
            refine wa_ (wc_region (w_ (f_ (h:=w_ (l_ (h:=w_ (le (h:=w_ (a_ (h:=wo_nil (e_ (h:=aft_normal (wc_ret (?_))))))))))))))
            )
        )
    rotate_right 1
    focus
     intro c1
     first
     | exact dn c1
     | (have d1 := c1;try simp at d1
        refine wa_ (wc_region (w_ (f_ (h:=w_ (l_ (h:=w_ (a_ (h:=wo_nil (e_ (h:=aft_normal (wc_ret (?_))))))))))))
        )
    all_goals first | refine blk_normal ?_ | refine blk_ret ?_
    all_goals first
    | refine aft_ret ?_
    | (refine aft_normal ?_
       refine wa_ (wc_region (w_ (m_ (h:=w_ (f_ (h:=w_ (l_ (h:=w_ (ca (hc:=hrec _ h3 h4) (h:=w_ (a_ (h:=wo_nil (e_ (h:=aft_normal (wc_ret (?_))))))))))))))))
       )
    all_goals (refine fin_ (hr:=(res_tmp rfl res_nil)) (h:=?_);(focus (clear ih hrec hv G;simp [widthN];grind [inI])))
theorem e_l3Named (d : Nd) (hd : d.cells.length < 2000000) (ho : 1≤d.op∧d.op≤12) : oc.call 74 [d.v false 0] = some (.bool (decide (d = plainN d)),[]) := by
 refine fun_s rfl cd74 rfl rfl rfl (by simp;rfl) (by simp;rfl) ?_
 refine wa_ (wc_region (w_ (bx (h:=w_ (a_ (h:=wo_nil (e_ (h:=aft_normal (wa_ (wa_ (wc_region (w_ (f_ (h:=w_ (l_ (h:=w_ (ca (hc:=e_l3Reads _) (h:=?_))))))))))))))))))
 refine w_ (b_ (h:=w_ (m_ (h:=?_))))
 refine gw_ (h1:=?_) (h2:=?_)
 rotate_right 1
 focus
  intro c1
  first
  | exact dn c1
  | (
   have d1 := c1;try simp at d1
   refine go_ (h:=go_ (h:=go_ (h:=?_)))
   )
 rotate_right 1
 focus
  intro c1
  first
  | exact dn c1
  | (
   have d1 := c1;try simp at d1
   refine g_ (h:=w_ (f_ (h:=g_ (h:=w_ (l_ (h:=g_ (h:=w_ (bE (h:=?_)))))))))
   )
 all_goals
  refine w_ (pk (h:=w_ (m_ (h:=?_))))
  refine gw_ (h1:=?_) (h2:=?_)
  rotate_right 1
  focus
   intro c2
   first
   | exact dn c2
   | (
    have d2 := c2;try simp at d2
    refine go_ (h:=go_ (h:=go_ (h:=go_ (h:=go_ (h:=?_)))))
    )
  rotate_right 1
  focus
   intro c2
   first
   | exact dn c2
   | (
    have d2 := c2;try simp at d2
    refine g_ (h:=w_ (f_ (h:=g_ (h:=w_ (l_ (h:=g_ (h:=w_ (ca (hc:=e_l3Reads _) (h:=g_ (h:=w_ (b_ (h:=g_ (h:=w_ (m_ (h:=?_)))))))))))))))
    )
  all_goals
   first
   | (
    skip
    refine goN (h:=goN (h:=goN (h:=?_)))
    )
   | (
    refine gw_ (h1:=?_) (h2:=?_)
    rotate_right 1
    focus
     intro c3
     first
     | exact dn c3
     | (
      have d3 := c3;try simp at d3
      refine go_ (h:=go_ (h:=go_ (h:=?_)))
      )
    rotate_right 1
    focus
     intro c3
     first
     | exact dn c3
     | (
      have d3 := c3;try simp at d3
      refine g_ (h:=w_ (f_ (h:=g_ (h:=w_ (l_ (h:=g_ (h:=w_ (bE (h:=?_)))))))))
      )
    )
   all_goals
    first
    | (
     skip
     refine g_ (h:=w_ (pk (h:=?_)))
     )
    | (
     skip
     refine go_ (h:=?_)
     )
    all_goals
     refine w_ (pk (h:=wo_nil (e_ (h:=?_))))
 all_goals first
 | (
  refine aft_normal ?_
  refine c_ (h1:=?_) (h2:=?_)
  rotate_right 1
  focus
   intro c4
   first
   | exact dn c4
   | (
    have d4 := c4;try simp at d4
    refine wc_skip (?_)
    )
  rotate_right 1
  focus
   intro c4
   first
   | exact dn c4
   | (
    have d4 := c4;try simp at d4
    refine wa_ (wc_region (w_ (a_ (h:=wo_nil (e_ (h:=aft_normal (wc_ret (?_))))))))
    )
  )
 all_goals first
 | refine aft_ret ?_
 | (
  refine aft_normal ?_
  refine wa_ (wa_ (wc_region (w_ (f_ (h:=w_ (l_ (h:=w_ (bE (h:=w_ (m_ (h:=?_)))))))))))
  refine gw_ (h1:=?_) (h2:=?_)
  rotate_right 1
  focus
   intro c5
   first
   | exact dn c5
   | (
    have d5 := c5;try simp at d5
    refine go_ (h:=go_ (h:=go_ (h:=go_ (h:=?_))))
    )
  rotate_right 1
  focus
   intro c5
   first
   | exact dn c5
   | (
    have d5 := c5;try simp at d5
    refine g_ (h:=w_ (f_ (h:=g_ (h:=w_ (l_ (h:=g_ (h:=w_ (bE (h:=g_ (h:=w_ (m_ (h:=?_))))))))))))
    )
  all_goals
   first
   | (
    skip
    refine goN (h:=goN (h:=goN (h:=?_)))
    )
   | (
    refine gw_ (h1:=?_) (h2:=?_)
    rotate_right 1
    focus
     intro c6
     first
     | exact dn c6
     | (
      have d6 := c6;try simp at d6
      refine go_ (h:=go_ (h:=go_ (h:=?_)))
      )
    rotate_right 1
    focus
     intro c6
     first
     | exact dn c6
     | (
      have d6 := c6;try simp at d6
      refine g_ (h:=w_ (f_ (h:=g_ (h:=w_ (l_ (h:=g_ (h:=w_ (bE (h:=?_)))))))))
      )
    )
   all_goals
    first
    | (
     skip
     refine g_ (h:=w_ (pk (h:=?_)))
     )
    | (
     skip
     refine go_ (h:=?_)
     )
    all_goals
     refine w_ (pk (h:=w_ (m_ (h:=?_))))
     refine gw_ (h1:=?_) (h2:=?_)
     rotate_right 1
     focus
      intro c7
      first
      | exact dn c7
      | (
       have d7 := c7;try simp at d7
       refine go_ (h:=go_ (h:=go_ (h:=go_ (h:=?_))))
       )
     rotate_right 1
     focus
      intro c7
      first
      | exact dn c7
      | (
       have d7 := c7;try simp at d7
       refine g_ (h:=w_ (f_ (h:=g_ (h:=w_ (l_ (h:=g_ (h:=w_ (bE (h:=g_ (h:=w_ (m_ (h:=?_))))))))))))
       )
     all_goals
      first
      | (
       skip
       refine goN (h:=goN (h:=goN (h:=goN (h:=?_))))
       )
      | (
       refine gw_ (h1:=?_) (h2:=?_)
       rotate_right 1
       focus
        intro c8
        first
        | exact dn c8
        | (
         have d8 := c8;try simp at d8
         refine go_ (h:=go_ (h:=go_ (h:=go_ (h:=?_))))
         )
       rotate_right 1
       focus
        intro c8
        first
        | exact dn c8
        | (
         have d8 := c8;try simp at d8
         refine g_ (h:=w_ (f_ (h:=g_ (h:=w_ (l_ (h:=g_ (h:=w_ (le (h:=g_ (h:=w_ (b_ (h:=?_))))))))))))
         )
       )
      all_goals
       first
       | (
        skip
        refine g_ (h:=w_ (pk (h:=?_)))
        )
       | (
        skip
        refine go_ (h:=?_)
        )
       all_goals
        refine w_ (pk (h:=wo_nil (e_ (h:=?_))))
  all_goals first
  | (
   refine aft_normal ?_
   refine c_ (h1:=?_) (h2:=?_)
   rotate_right 1
   focus
    intro c9
    first
    | exact dn c9
    | (
     have d9 := c9;try simp at d9
     refine wc_skip (?_)
     )
   rotate_right 1
   focus
    intro c9
    first
    | exact dn c9
    | (
     have d9 := c9;try simp at d9
     refine wa_ (wc_region (w_ (a_ (h:=wo_nil (e_ (h:=aft_normal (wc_ret (?_))))))))
     )
   )
  all_goals first
  | refine aft_ret ?_
  | (
   refine aft_normal ?_
   refine wa_ (wa_ (wc_region (w_ (f_ (h:=w_ (l_ (h:=wo_nil (e_ (h:=aft_normal (wc_block (wa_ (wa_ (wc_region (w_ (bE (h:=?_))))))))))))))))
   refine w_ (a_ (h:=wo_nil (e_ (h:=aft_normal (?_)))))
   refine c_ (h1:=?_) (h2:=?_)
   rotate_right 1
   focus
    intro c10
    first
    | exact dn c10
    | (
     have d10 := c10;try simp at d10
     refine wa_ (wc_region (w_ (bE (h:=w_ (a_ (h:=wo_nil (e_ (h:=aft_normal (?_)))))))))
     refine c_ (h1:=?_) (h2:=?_)
     rotate_right 1
     focus
      intro c11
      first
      | exact dn c11
      | (
       have d11 := c11;try simp at d11
       refine wa_ (wc_region (w_ (bE (h:=w_ (a_ (h:=wo_nil (e_ (h:=aft_normal (?_)))))))))
       refine c_ (h1:=?_) (h2:=?_)
       rotate_right 1
       focus
        intro c12
        first
        | exact dn c12
        | (
         have d12 := c12;try simp at d12
         refine wa_ (wc_region (w_ (bE (h:=w_ (a_ (h:=wo_nil (e_ (h:=aft_normal (?_)))))))))
         refine c_ (h1:=?_) (h2:=?_)
         rotate_right 1
         focus
          intro c13
          first
          | exact dn c13
          | (
           have d13 := c13;try simp at d13
           refine wc_region (w_ (bE (h:=w_ (a_ (h:=wo_nil (e_ (h:=?_)))))))
           )
         rotate_right 1
         focus
          intro c13
          first
          | exact dn c13
          | (
           have d13 := c13;try simp at d13
           refine wc_skip (?_)
           )
         )
       rotate_right 1
       focus
        intro c12
        first
        | exact dn c12
        | (
         have d12 := c12;try simp at d12
         refine wc_skip (?_)
         )
       )
     rotate_right 1
     focus
      intro c11
      first
      | exact dn c11
      | (
       have d11 := c11;try simp at d11
       refine wc_skip (?_)
       )
     )
   rotate_right 1
   focus
    intro c10
    first
    | exact dn c10
    | (
     have d10 := c10;try simp at d10
     refine wc_skip (?_)
     )
   all_goals first
   | (
    refine aft_normal ?_
    refine c_ (h1:=?_) (h2:=?_)
    rotate_right 1
    focus
     intro c14
     first
     | exact dn c14
     | (
      have d14 := c14;try simp at d14
      refine wc_skip (?_)
      )
    rotate_right 1
    focus
     intro c14
     first
     | exact dn c14
     | (
      have d14 := c14;try simp at d14
      refine wa_ (wc_region (w_ (f_ (h:=w_ (l_ (h:=w_ (bE (h:=w_ (a_ (h:=wo_nil (e_ (h:=aft_normal (wc_ret (?_))))))))))))))
      )
    )
   all_goals first | refine blk_normal ?_ | refine blk_ret ?_
   all_goals first
   | refine aft_ret ?_
   | (
    refine aft_normal ?_
    refine wa_ (wc_region (w_ (a_ (h:=wo_nil (e_ (h:=aft_normal (wc_ret (?_))))))))
    )
   )
  )
 all_goals (refine fin_ (hr:=(res_tmp rfl res_nil)) (h:=?_);(focus (simp [Nd.eq_iff,plainN];grind)))
theorem reads_len (d : Nd) : ((readsN d).length : Int) = if d.op = 1 then 0 else if d.op = 4∨d.op = 6 then 2 else 1 := by
  unfold readsN
  split
  · simp
  · split <;> simp
theorem reads_at {d : Nd} {k : Nat} (h : k < (readsN d).length) : (readsN d).drop k = (if k = 1 then d.b else d.a) :: (readsN d).drop (k + 1) := by
  rw [List.drop_eq_getElem_cons h]
  congr 1
  unfold readsN at h ⊢
  split at h
  · simp at h
  · split at h
    · simp at h
      rcases k with _ | _ | k
      · simp [*]
      · simp [*]
      · omega
    · simp at h
      subst h
      simp [*]
theorem l_readsS (pl : List Nd) (d : Nd) (i : Nat) (hp : pl.length < 2000000) (hi : i≤pl.length) : ∀ k : Nat,k≤(readsN d).length→∀ s,normE 2 (some [0,1,5,6]) s = ⟨[(0,.lst false 0 (nds false 0 pl)),(1,.int .i64 i),(5,.ptr 2 0 []),(6,.int .i64 k)],[(2,⟨true,false,7,[d.v false 0],0⟩)],3⟩ →
 oc.loop 34 7 s = some (if ((readsN d).drop k).all (okR pl i) = true then (.exit 0,⟨[(0,.lst false 0 (nds false 0 pl)),(5,.ptr 2 0 [])],[(2,⟨true,false,7,[d.v false 0],0⟩)],3⟩)
  else (.ret,⟨[(0,.lst false 0 (nds false 0 pl)),(4,.int .i64 3),(5,.ptr 2 0 [])],[(2,⟨true,false,7,[d.v false 0],0⟩)],3⟩)) := by
 refine loop_ind (fun k => (readsN d).length - k) _ (fun k => ⟨[(0,.lst false 0 (nds false 0 pl)),(1,.int .i64 i),(5,.ptr 2 0 []),(6,.int .i64 k)],[(2,⟨true,false,7,[d.v false 0],0⟩)],3⟩) _ ?_
 intro k hk ih s hs
 have hw2 : IntKind.i64.wrap ((i : Int) - 1) = i - 1 := wrap_id (by omega) (by omega)
 have hlen := reads_len d
 have hle : (readsN d).length≤2 := by unfold readsN;split;simp;split <;> simp
 have hw := wrap_succ (i:=k) (by omega)
 refine loop_s cd34 rfl rfl hs ?_
 refine wa_ (wa_ (wc_region (w_ (m_ (h:=w_ (f_ (h:=w_ (l_ (h:=w_ (ca (hc:=e_l3Reads _) (h:=w_ (b_ (h:=wo_nil (e_ (h:=aft_normal (?_))))))))))))))))
 refine c_ (h1:=?_) (h2:=?_)
 rotate_right 1
 focus
  intro c1
  first
  | exact dn c1
  | (
   have d1 := c1;try simp at d1
   rw [← hlen] at d1;have : k = (readsN d).length := (by omega)
   refine wc_exit (?_)
   )
 rotate_right 1
 focus
  intro c1
  first
  | exact dn c1
  | (
   have d1 := c1;try simp at d1
   rw [← hlen] at d1;have e1 := reads_at (d:=d) (k:=k) (by omega)
   refine wc_skip (?_)
   )
 all_goals first
 | refine aft_exit ?_
 | (
  refine aft_normal ?_
  refine wa_ (wc_block (wa_ (wc_region (w_ (f_ (h:=w_ (l_ (h:=w_ (a_ (h:=wo_nil (e_ (h:=aft_normal (wa_ (wa_ (wc_region (?_))))))))))))))))
  refine w_ (m_ (h:=w_ (bE (h:=wo_nil (e_ (h:=aft_normal (?_)))))))
  refine c_ (h1:=?_) (h2:=?_)
  rotate_right 1
  focus
   intro c2
   first
   | exact dn c2
   | (
    have d2 := c2;try simp at d2
    refine wc_skip (?_)
    )
  rotate_right 1
  focus
   intro c2
   first
   | exact dn c2
   | (
    have d2 := c2;try simp at d2
    refine wc_region (w_ (f_ (h:=w_ (l_ (h:=w_ (a_ (h:=wo_nil (e_ (h:=?_)))))))))
    )
  all_goals first
  | (
   refine aft_normal ?_
   refine wa_ (wc_region (w_ (m_ (h:=w_ (m_ (h:=w_ (b_ (h:=w_ (ca (hc:=e_l1In _ _ _) (h:=w_ (u_ (h:=w_ (m_ (h:=?_))))))))))))))
   refine gw_ (h1:=?_) (h2:=?_)
   rotate_right 1
   focus
    intro c3
    first
    | exact dn c3
    | (
     have d3 := c3;try simp at d3
     refine go_ (h:=go_ (h:=go_ (h:=go_ (h:=go_ (h:=go_ (h:=?_))))))
     )
   rotate_right 1
   focus
    intro c3
    first
    | exact dn c3
    | (
     have d3 := c3;try simp at d3
     simp [inI,hw2] at d3;obtain ⟨h3,h4⟩ := d3;obtain ⟨e,g2,g3⟩ := nds_ix (t:=false) (s:=0) (l:=pl) h3 (by omega)
     refine g_ (h:=w_ (m_ (h:=g_ (h:=w_ (m_ (h:=g_ (h:=w_ (x_ (h:=g_ (h:=w_ (f_ (h:=g_ (h:=w_ (l_ (h:=g_ (h:=w_ (bE (h:=?_))))))))))))))))))
     )
   all_goals
    refine w_ (pk (h:=wo_nil (e_ (h:=?_))))
   all_goals first
   | (
    refine aft_normal ?_
    refine c_ (h1:=?_) (h2:=?_)
    rotate_right 1
    focus
     intro c4
     first
     | exact dn c4
     | (
      have d4 := c4;try simp at d4
      refine wc_skip (?_)
      )
    rotate_right 1
    focus
     intro c4
     first
     | exact dn c4
     | (
      have d4 := c4;try simp at d4
      refine wa_ (wc_region (w_ (a_ (h:=wo_nil (e_ (h:=aft_normal (wc_ret (?_))))))))
      )
    )
   )
  all_goals first | refine blk_normal ?_ | refine blk_ret ?_
  all_goals first
  | refine aft_ret ?_
  | (
   refine aft_normal ?_
   refine wc_region (w_ (m_ (h:=w_ (b_ (h:=w_ (a_ (h:=wo_nil (e_ (h:=?_)))))))))
   )
  )
 all_goals first
 | (refine (ih (k + 1) (by omega) ?_ _ ?_).trans ?_;(focus (first | omega | (simp;done) | (simp;omega)));(focus (simp [normE,hw];done));(focus (rw [e1];simp [okR] at *;grind)))
 | (apply end_leaf (ex:=Ext.ret) 2 (some [0,4,5]);(focus (simp [normE];rfl));(focus (rw [e1];simp [okR] at *;grind)))
 | (apply end_leaf (ex:=(Ext.exit 0)) 2 (some [0,4,5]);(focus (simp [normE];rfl));(focus (rw [List.drop_eq_nil_of_le (by omega)];simp)))
theorem l_cellsS (d : Nd) (v : Int) (hd : d.cells.length < 2000000) : ∀ i : Nat,i≤d.cells.length→∀ s,normE 2 (some [5,8,9]) s = ⟨[(5,.ptr 2 0 []),(8,.int .i64 v),(9,.int .i64 i)],[(2,⟨true,false,7,[d.v false 0],0⟩)],3⟩ →
 oc.loop 34 27 s = some (if ((d.cells.drop i).all fun c => inI c 0 (IntKind.i64.wrap (v - 1))) = true then (.exit 3,⟨[],[],2⟩) else (.ret,⟨[(4,.int .i64 3)],[],2⟩)) := by
 refine loop_ind (fun i => d.cells.length - i) _ (fun i => ⟨[(5,.ptr 2 0 []),(8,.int .i64 v),(9,.int .i64 i)],[(2,⟨true,false,7,[d.v false 0],0⟩)],3⟩) _ ?_
 intro i hi ih s hs
 refine loop_s cd34 rfl rfl hs ?_
 refine wa_ (wa_ (wc_region (w_ (m_ (h:=w_ (f_ (h:=w_ (l_ (h:=w_ (le (h:=w_ (b_ (h:=wo_nil (e_ (h:=aft_normal (?_))))))))))))))))
 refine c_ (h1:=?_) (h2:=?_)
 rotate_right 1
 focus
  intro c1
  simp at c1;have : i = d.cells.length := (by omega);subst this
  refine wc_exit (?_)
 rotate_right 1
 focus
  intro c1
  simp at c1;have hw := wrap_succ (i:=i) (by omega);obtain ⟨x,_,d1,g1⟩ := ints_cut c1
  refine wc_skip (?_)
 all_goals first
 | refine aft_exit ?_
 | (
  refine aft_normal ?_
  refine wa_ (wc_block (wa_ (wc_region (w_ (f_ (h:=w_ (l_ (h:=w_ (m_ (h:=w_ (x_ (h:=w_ (l_ (h:=w_ (m_ (h:=w_ (b_ (h:=w_ (ca (hc:=e_l1In _ _ _) (h:=?_))))))))))))))))))))
  refine w_ (u_ (h:=wo_nil (e_ (h:=aft_normal (?_)))))
  refine c_ (h1:=?_) (h2:=?_)
  rotate_right 1
  focus
   intro c2
   refine wc_skip (?_)
  rotate_right 1
  focus
   intro c2
   refine wa_ (wc_region (w_ (a_ (h:=wo_nil (e_ (h:=aft_normal (wc_ret (?_))))))))
  all_goals first | refine blk_normal ?_ | refine blk_ret ?_
  all_goals first
  | refine aft_ret ?_
  | (
   refine aft_normal ?_
   refine wc_region (w_ (m_ (h:=w_ (b_ (h:=w_ (a_ (h:=wo_nil (e_ (h:=?_)))))))))
   )
  )
 all_goals first
 | (refine (ih (i + 1) (by omega) ?_ _ ?_).trans ?_;(focus (first | omega | (simp;done) | (simp;omega)));(focus (simp [normE,hw];done));(focus (rw [d1];simp at c2 ⊢;grind)))
 | (apply end_leaf (ex:=Ext.ret) 2 (some [4]);(focus (simp [normE];rfl));(focus (rw [d1];simp at c2 ⊢;grind)))
 | (apply end_leaf (ex:=(Ext.exit 3)) 2 (some [4]);(focus (simp [normE];rfl));(focus (simp)))
theorem e_l3WidthI (pl : List Nd) (ws : List Int) (hp : pl.length < 2000000) (G : Good pl ws) (a : Int) (h0 : 0≤a) (h1 : a < ws.length) : oc.call 55 [.lst false 0 (nds false 0 pl),.int .i64 a] = some (.int .i64 (at0 ws a),[]) := by
  have := e_l3Width pl ws hp G a.toNat (by omega)
  rwa [Int.toNat_of_nonneg h0] at this
def Hid (p : Prop) : Prop := p
theorem e_l3Node (pl : List Nd) (ws : List Int) (d : Nd) (hp : pl.length < 2000000) (hk : okN pl) (G : Good pl ws) (hx : pl[ws.length]? = some d) : oc.call 34 [.lst false 0 (nds false 0 pl),.int .i64 ws.length] = some (.int .i64 (stepC pl d ws),[]) := by
 have hd := hk d (List.mem_of_getElem? hx)
 have hlt : ws.length < pl.length := (List.getElem?_eq_some_iff.mp hx).1
 have g1 : (nds false 0 pl)[(ws.length : Int).toNat]? = some (d.v false 0) := nds_get (by simpa using hx)
 refine fun_s rfl cd34 rfl rfl rfl (by simp;rfl) (by simp;rfl) ?_
 refine wa_ (wc_region (w_ (a_ (h:=wo_nil (e_ (h:=aft_normal (wa_ (wc_region (w_ (m_ (h:=w_ (m_ (h:=w_ (x_ (h:=w_ (l_ (h:=w_ (al (h:=?_)))))))))))))))))))
 refine w0 (s_ (h:=wo_nil (e_ (h:=aft_normal (wa_ (wa_ (wc_region (w_ (f_ (h:=w_ (l_ (h:=w_ (ca (hc:=e_l1In _ _ _) (h:=w_ (u_ (h:=wo_nil (e_ (h:=aft_normal (?_)))))))))))))))))))
 refine c_ (h1:=?_) (h2:=?_)
 rotate_right 1
 focus
  intro c1
  first
  | exact dn c1
  | (
   have d1 := c1;try simp at d1
   refine wc_skip (?_)
   )
 rotate_right 1
 focus
  intro c1
  first
  | exact dn c1
  | (
   have d1 := c1;try simp at d1
   refine wa_ (wc_region (w_ (a_ (h:=wo_nil (e_ (h:=aft_normal (wc_ret (?_))))))))
   )
 all_goals first
 | refine aft_ret ?_
 | (
  refine aft_normal ?_
  refine wa_ (wa_ (wc_region (w_ (l_ (h:=w_ (ca (hc:=e_l3Named d hd (by simp [inI] at d1;omega)) (h:=w_ (u_ (h:=wo_nil (e_ (h:=aft_normal (?_))))))))))))
  refine c_ (h1:=?_) (h2:=?_)
  rotate_right 1
  focus
   intro c2
   first
   | exact dn c2
   | (
    have d2 := c2;try simp at d2
    have hpl : Hid (d = plainN d) := d2;clear d2 c2
    refine wc_skip (?_)
    )
  rotate_right 1
  focus
   intro c2
   first
   | exact dn c2
   | (
    have d2 := c2;try simp at d2
    refine wa_ (wc_region (w_ (a_ (h:=wo_nil (e_ (h:=aft_normal (wc_ret (?_))))))))
    )
  all_goals first
  | refine aft_ret ?_
  | (
   refine aft_normal ?_
   refine wa_ (wa_ (wc_region (w_ (a_ (h:=wo_nil (e_ (h:=aft_normal (wc_block (?_)))))))))
   refine wc_loopI (l_readsS pl d ws.length (by omega) (by omega) 0 (by omega) _ (by simp [normE])) ?_ ?_
   rotate_right 1
   focus
    intro c3
    first
    | exact dn c3
    | (
     have d3 := c3;try simp at d3
     have d3' : (readsN d).all (okR pl ws.length) = false := (by simpa using c3)
     skip
     )
   rotate_right 1
   focus
    intro c3
    first
    | exact dn c3
    | (
     have d3 := c3;try simp at d3
     have d3' : (readsN d).all (okR pl ws.length) = true := (by simpa using c3);obtain ⟨k1,k2⟩ := fit_of (i:=ws.length) (by omega) (by simpa using c3)
     skip
     )
   all_goals first | refine blk_ret ?_ | refine blk_exit ?_
   all_goals first
   | refine aft_ret ?_
   | (
    refine aft_normal ?_
    refine wa_ (wa_ (wc_region (w_ (f_ (h:=w_ (l_ (h:=w_ (bE (h:=wo_nil (e_ (h:=aft_normal (?_))))))))))))
    refine c_ (h1:=?_) (h2:=?_)
    rotate_right 1
    focus
     intro c4
     first
     | exact dn c4
     | (
      have d4 := c4;try simp at d4
      obtain ⟨h3,h4⟩ := k1 (by omega)
      refine wc_skip (?_)
      )
    rotate_right 1
    focus
     intro c4
     first
     | exact dn c4
     | (
      have d4 := c4;try simp at d4
      refine wa_ (wa_ (wc_region (w_ (f_ (h:=w_ (l_ (h:=w_ (ca (hc:=e_l1In _ _ _) (h:=w_ (u_ (h:=wo_nil (e_ (h:=aft_normal (?_))))))))))))))
      refine c_ (h1:=?_) (h2:=?_)
      rotate_right 1
      focus
       intro c5
       first
       | exact dn c5
       | (
        have d5 := c5;try simp at d5
        refine wc_skip (?_)
        )
      rotate_right 1
      focus
       intro c5
       first
       | exact dn c5
       | (
        have d5 := c5;try simp at d5
        refine wa_ (wc_region (w_ (a_ (h:=wo_nil (e_ (h:=aft_normal (wc_ret (?_))))))))
        )
      all_goals first
      | refine aft_ret ?_
      | (
       refine aft_normal ?_
       refine wa_ (wc_region (w_ (a_ (h:=wo_nil (e_ (h:=aft_normal (wc_ret (?_))))))))
       )
      )
    all_goals first
    | refine aft_ret ?_
    | (
     refine aft_normal ?_
     refine wa_ (wc_region (w_ (m_ (h:=w_ (f_ (h:=w_ (l_ (h:=w_ (ca (hc:=e_l3WidthI pl ws hp G _ h3 h4) (h:=w_ (a_ (h:=wo_nil (e_ (h:=aft_normal (wa_ (wa_ (wc_region (?_))))))))))))))))))
     refine w_ (f_ (h:=w_ (l_ (h:=wo_nil (e_ (h:=aft_normal (wc_block (wa_ (wc_region (w_ (bE (h:=w_ (a_ (h:=wo_nil (e_ (h:=aft_normal (?_)))))))))))))))))
     refine c_ (h1:=?_) (h2:=?_)
     rotate_right 1
     focus
      intro c6
      first
      | exact dn c6
      | (
       have d6 := c6;try simp at d6
       refine wa_ (wc_region (w_ (bE (h:=w_ (a_ (h:=wo_nil (e_ (h:=aft_normal (?_)))))))))
       refine c_ (h1:=?_) (h2:=?_)
       rotate_right 1
       focus
        intro c7
        first
        | exact dn c7
        | (
         have d7 := c7;try simp at d7
         refine wa_ (wc_region (w_ (bE (h:=w_ (a_ (h:=wo_nil (e_ (h:=aft_normal (?_)))))))))
         refine c_ (h1:=?_) (h2:=?_)
         rotate_right 1
         focus
          intro c8
          first
          | exact dn c8
          | (
           have d8 := c8;try simp at d8
           refine wa_ (wc_region (w_ (bE (h:=w_ (a_ (h:=wo_nil (e_ (h:=aft_normal (?_)))))))))
           refine c_ (h1:=?_) (h2:=?_)
           rotate_right 1
           focus
            intro c9
            first
            | exact dn c9
            | (
             have d9 := c9;try simp at d9
             refine wa_ (wc_region (w_ (bE (h:=w_ (a_ (h:=wo_nil (e_ (h:=aft_normal (?_)))))))))
             refine c_ (h1:=?_) (h2:=?_)
             rotate_right 1
             focus
              intro c10
              first
              | exact dn c10
              | (
               have d10 := c10;try simp at d10
               refine wa_ (wa_ (wc_region (w_ (bE (h:=w_ (a_ (h:=wo_nil (e_ (h:=aft_normal (?_))))))))))
               refine c_ (h1:=?_) (h2:=?_)
               rotate_right 1
               focus
                intro c11
                first
                | exact dn c11
                | (
                 have d11 := c11;try simp at d11
                 refine wa_ (wc_region (w_ (bE (h:=w_ (a_ (h:=wo_nil (e_ (h:=aft_normal (?_)))))))))
                 refine c_ (h1:=?_) (h2:=?_)
                 rotate_right 1
                 focus
                  intro c12
                  first
                  | exact dn c12
                  | (
                   have d12 := c12;try simp at d12
                   refine wc_region (w_ (bE (h:=w_ (a_ (h:=wo_nil (e_ (h:=?_)))))))
                   )
                 rotate_right 1
                 focus
                  intro c12
                  first
                  | exact dn c12
                  | (
                   have d12 := c12;try simp at d12
                   refine wc_skip (?_)
                   )
                 )
               rotate_right 1
               focus
                intro c11
                first
                | exact dn c11
                | (
                 have d11 := c11;try simp at d11
                 refine wc_skip (?_)
                 )
               all_goals first
               | (
                refine aft_normal ?_
                refine c_ (h1:=?_) (h2:=?_)
                rotate_right 1
                focus
                 intro c13
                 first
                 | exact dn c13
                 | (
                  have d13 := c13;try simp at d13
                  refine wc_skip (?_)
                  )
                rotate_right 1
                focus
                 intro c13
                 first
                 | exact dn c13
                 | (
                  have d13 := c13;try simp at d13
                  refine wa_ (wc_region (w_ (f_ (h:=w_ (l_ (h:=w_ (m_ (h:=w_ (b_ (h:=w_ (ca (hc:=e_l1In _ _ _) (h:=w_ (u_ (h:=wo_nil (e_ (h:=aft_normal (?_)))))))))))))))))
                  refine c_ (h1:=?_) (h2:=?_)
                  rotate_right 1
                  focus
                   intro c14
                   first
                   | exact dn c14
                   | (
                    have d14 := c14;try simp at d14
                    refine wc_skip (?_)
                    )
                  rotate_right 1
                  focus
                   intro c14
                   first
                   | exact dn c14
                   | (
                    have d14 := c14;try simp at d14
                    refine wa_ (wc_region (w_ (a_ (h:=wo_nil (e_ (h:=aft_normal (wc_ret (?_))))))))
                    )
                  )
                )
               )
             rotate_right 1
             focus
              intro c10
              first
              | exact dn c10
              | (
               have d10 := c10;try simp at d10
               refine wa_ (wc_draw (y_ (f_ (h:=ax_ (h:=y_ (l_ (h:=ax_ (h:=y_ (m_ (h:=ax_ (h:=y_ (ca (hc:=e_l1Min _ _) (h:=ax_ (h:=y_ (ca (hc:=e_l1In _ _ _) (h:=ax_ (h:=y_ (u_ (h:=ax_ (h:=wo_nil (ed (h:=aft_normal (?_)))))))))))))))))))))))
               refine c_ (h1:=?_) (h2:=?_)
               rotate_right 1
               focus
                intro c15
                first
                | exact dn c15
                | (
                 have d15 := c15;try simp at d15
                 refine wc_skip (?_)
                 )
               rotate_right 1
               focus
                intro c15
                first
                | exact dn c15
                | (
                 have d15 := c15;try simp at d15
                 refine wa_ (wc_region (w_ (a_ (h:=wo_nil (e_ (h:=aft_normal (wc_ret (?_))))))))
                 )
               )
             )
           rotate_right 1
           focus
            intro c9
            first
            | exact dn c9
            | (
             have d9 := c9;try simp at d9
             obtain ⟨h5,h6⟩ := k2 (by omega)
             refine wa_ (wc_region (w_ (m_ (h:=w_ (f_ (h:=w_ (l_ (h:=w_ (ca (hc:=e_l3WidthI pl ws hp G _ h5 h6) (h:=w_ (a_ (h:=wo_nil (e_ (h:=aft_normal (wa_ (wa_ (wc_draw (?_))))))))))))))))))
             refine y_ (f_ (h:=ax_ (h:=y_ (l_ (h:=ax_ (h:=y_ (m_ (h:=ax_ (h:=y_ (m_ (h:=ax_ (h:=y_ (ca (hc:=e_l1Min _ _) (h:=ax_ (h:=y_ (ca (hc:=e_l1In _ _ _) (h:=ax_ (h:=y_ (u_ (h:=ax_ (h:=wo_nil (ed (h:=aft_normal (?_))))))))))))))))))))))))
             refine c_ (h1:=?_) (h2:=?_)
             rotate_right 1
             focus
              intro c16
              first
              | exact dn c16
              | (
               have d16 := c16;try simp at d16
               refine wc_skip (?_)
               )
             rotate_right 1
             focus
              intro c16
              first
              | exact dn c16
              | (
               have d16 := c16;try simp at d16
               refine wa_ (wc_region (w_ (a_ (h:=wo_nil (e_ (h:=aft_normal (wc_ret (?_))))))))
               )
             all_goals first
             | refine aft_ret ?_
             | (
              refine aft_normal ?_
              refine wa_ (wc_region (w_ (m_ (h:=w_ (m_ (h:=w_ (b_ (h:=w_ (f_ (h:=w_ (l_ (h:=w_ (b_ (h:=w_ (b_ (h:=wo_nil (e_ (h:=aft_normal (?_)))))))))))))))))))
              refine c_ (h1:=?_) (h2:=?_)
              rotate_right 1
              focus
               intro c17
               first
               | exact dn c17
               | (
                have d17 := c17;try simp at d17
                refine wc_skip (?_)
                )
              rotate_right 1
              focus
               intro c17
               first
               | exact dn c17
               | (
                have d17 := c17;try simp at d17
                refine wa_ (wc_region (w_ (a_ (h:=wo_nil (e_ (h:=aft_normal (wc_ret (?_))))))))
                )
              )
             )
           )
         rotate_right 1
         focus
          intro c8
          first
          | exact dn c8
          | (
           have d8 := c8;try simp at d8
           obtain ⟨h5,h6⟩ := k2 (by omega)
           refine wa_ (wc_region (w_ (m_ (h:=w_ (m_ (h:=w_ (f_ (h:=w_ (l_ (h:=w_ (ca (hc:=e_l3WidthI pl ws hp G _ h5 h6) (h:=w_ (bE (h:=wo_nil (e_ (h:=aft_normal (?_)))))))))))))))))
           refine c_ (h1:=?_) (h2:=?_)
           rotate_right 1
           focus
            intro c18
            first
            | exact dn c18
            | (
             have d18 := c18;try simp at d18
             refine wc_skip (?_)
             )
           rotate_right 1
           focus
            intro c18
            first
            | exact dn c18
            | (
             have d18 := c18;try simp at d18
             refine wa_ (wc_region (w_ (a_ (h:=wo_nil (e_ (h:=aft_normal (wc_ret (?_))))))))
             )
           )
         )
       rotate_right 1
       focus
        intro c7
        first
        | exact dn c7
        | (
         have d7 := c7;try simp at d7
         refine wa_ (wa_ (wc_region (w_ (f_ (h:=w_ (l_ (h:=w_ (le (h:=w_ (b_ (h:=w_ (m_ (h:=?_)))))))))))))
         refine gw_ (h1:=?_) (h2:=?_)
         rotate_right 1
         focus
          intro c19
          first
          | exact dn c19
          | (
           have d19 := c19;try simp at d19
           refine go_ (h:=go_ (h:=go_ (h:=go_ (h:=?_))))
           )
         rotate_right 1
         focus
          intro c19
          first
          | exact dn c19
          | (
           have d19 := c19;try simp at d19
           refine g_ (h:=w_ (f_ (h:=g_ (h:=w_ (l_ (h:=g_ (h:=w_ (le (h:=g_ (h:=w_ (b_ (h:=?_))))))))))))
           )
         all_goals
          refine w_ (pk (h:=wo_nil (e_ (h:=?_))))
         all_goals first
         | (
          refine aft_normal ?_
          refine c_ (h1:=?_) (h2:=?_)
          rotate_right 1
          focus
           intro c20
           first
           | exact dn c20
           | (
            have d20 := c20;try simp at d20
            refine wc_skip (?_)
            )
          rotate_right 1
          focus
           intro c20
           first
           | exact dn c20
           | (
            have d20 := c20;try simp at d20
            refine wa_ (wc_region (w_ (a_ (h:=wo_nil (e_ (h:=aft_normal (wc_ret (?_))))))))
            )
          )
         all_goals first
         | refine aft_ret ?_
         | (
          refine aft_normal ?_
          refine wa_ (wc_region (w_ (a_ (h:=wo_nil (e_ (h:=aft_normal (wc_block (?_))))))))
          refine wc_loopI (l_cellsS d (at0 ws d.a) hd 0 (by omega) _ (by simp [normE])) ?_ ?_
          rotate_right 1
          focus
           intro c21
           first
           | exact dn c21
           | (
            have d21 := c21;try simp at d21
            skip
            )
          rotate_right 1
          focus
           intro c21
           first
           | exact dn c21
           | (
            have d21 := c21;try simp at d21
            skip
            )
          all_goals first | refine blk_ret ?_ | refine blk_exit ?_
          )
         )
       )
     rotate_right 1
     focus
      intro c6
      first
      | exact dn c6
      | (
       have d6 := c6;try simp at d6
       refine wa_ (wc_region (w_ (f_ (h:=w_ (l_ (h:=w_ (m_ (h:=w_ (b_ (h:=w_ (ca (hc:=e_l1In _ _ _) (h:=w_ (u_ (h:=w_ (m_ (h:=?_))))))))))))))))
       refine gw_ (h1:=?_) (h2:=?_)
       rotate_right 1
       focus
        intro c22
        first
        | exact dn c22
        | (
         have d22 := c22;try simp at d22
         refine go_ (h:=go_ (h:=go_ (h:=go_ (h:=?_))))
         )
       rotate_right 1
       focus
        intro c22
        first
        | exact dn c22
        | (
         have d22 := c22;try simp at d22
         refine g_ (h:=w_ (f_ (h:=g_ (h:=w_ (l_ (h:=g_ (h:=w_ (ca (hc:=e_l1In _ _ _) (h:=g_ (h:=w_ (u_ (h:=?_))))))))))))
         )
       all_goals
        refine w_ (pk (h:=w_ (m_ (h:=?_))))
        refine gw_ (h1:=?_) (h2:=?_)
        rotate_right 1
        focus
         intro c23
         first
         | exact dn c23
         | (
          have d23 := c23;try simp at d23
          refine go_ (h:=go_ (h:=go_ (h:=go_ (h:=?_))))
          )
        rotate_right 1
        focus
         intro c23
         first
         | exact dn c23
         | (
          have d23 := c23;try simp at d23
          refine g_ (h:=w_ (f_ (h:=g_ (h:=w_ (l_ (h:=g_ (h:=w_ (ca (hc:=e_l1In _ _ _) (h:=g_ (h:=w_ (u_ (h:=?_))))))))))))
          )
        all_goals
         refine w_ (pk (h:=wo_nil (e_ (h:=?_))))
       all_goals first
       | (
        refine aft_normal ?_
        refine c_ (h1:=?_) (h2:=?_)
        rotate_right 1
        focus
         intro c24
         first
         | exact dn c24
         | (
          have d24 := c24;try simp at d24
          refine wc_skip (?_)
          )
        rotate_right 1
        focus
         intro c24
         first
         | exact dn c24
         | (
          have d24 := c24;try simp at d24
          refine wa_ (wc_region (w_ (a_ (h:=wo_nil (e_ (h:=aft_normal (wc_ret (?_))))))))
          )
        )
       )
     all_goals first | refine blk_normal ?_ | refine blk_ret ?_
     all_goals first
     | refine aft_ret ?_
     | (
      refine aft_normal ?_
      refine wa_ (wc_region (w_ (a_ (h:=wo_nil (e_ (h:=aft_normal (wc_ret (?_))))))))
      )
     )
    )
   )
  )
 all_goals (refine fin_ (hr:=(res_tmp rfl res_nil)) (h:=?_);(focus (clear hk G;simp only [Hid] at *;simp [stepC,faultN,widthN];grind [inI])))
theorem good_nil (pl : List Nd) : Good pl [] := fun n h => by simp at h
theorem step_ok {pl : List Nd} {d : Nd} {out : List Int} (hl : out.length < 2000000) (h : stepC pl d out = 0) : fitN d out.length := by
  unfold stepC at h
  split at h
  · cases h
  · split at h
    · cases h
    · split at h
      · cases h
      · rename_i h1 h2 h3
        exact fit_of hl (by simpa using h3)
theorem good_snoc {pl : List Nd} {d : Nd} {ws : List Int} (hk : okN pl) (hl : ws.length < 2000000) (G : Good pl ws) (hx : pl[ws.length]? = some d) (h : stepC pl d ws = 0) : Good pl (ws ++ [widthN d ws]) := by
  intro n hn
  by_cases hlt : n < ws.length
  · obtain ⟨e,h1,h2,h3⟩ := G n hlt
    refine ⟨e,h1,?_,h3⟩
    rw [List.take_append_of_le_length (by omega),← h2]
    simp only [at0,List.getD_eq_getElem?_getD]
    rw [List.getElem?_append_left (by omega)]
  · have : n = ws.length := by simp at hn;omega
    subst this
    refine ⟨d,hx,?_,step_ok hl h,hk d (List.mem_of_getElem? hx)⟩
    rw [List.take_left]
    simp [at0,List.getD_eq_getElem?_getD]
theorem l_planS (pl : List Nd) (hp : pl.length < 2000000) (hk : okN pl) : ∀ ws : List Int,(Good pl ws∧ws.length≤pl.length)→∀ s,normE 1 (some [0,3]) s = ⟨[(0,.lst false 0 (nds false 0 pl)),(3,.int .i64 ws.length)],[],1⟩ →
 oc.loop 8 4 s = some (if (lookR pl (pl.drop ws.length) ws).2 = 0 then (.exit 0,⟨[],[],1⟩) else (.ret,⟨[(2,.int .i64 (lookR pl (pl.drop ws.length) ws).2)],[],1⟩)) := by
 refine loop_ind (σ:=List Int) (fun ws => pl.length - ws.length) _ (fun ws => ⟨[(0,.lst false 0 (nds false 0 pl)),(3,.int .i64 ws.length)],[],1⟩) _ ?_
 rintro ws ⟨G,hi⟩ ih s hs
 refine loop_s cd8 rfl rfl hs ?_
 refine wa_ (wa_ (wc_region (w_ (m_ (h:=w_ (m_ (h:=w_ (le (h:=w_ (b_ (h:=wo_nil (e_ (h:=aft_normal (?_))))))))))))))
 refine c_ (h1:=?_) (h2:=?_)
 rotate_right 1
 focus
  intro c1
  first
  | exact dn c1
  | (
   have d1 := c1;try simp at d1
   refine wc_exit (?_)
   )
 rotate_right 1
 focus
  intro c1
  first
  | exact dn c1
  | (
   have d1 := c1;try simp at d1
   have hw := wrap_succ (i:=ws.length) (by omega);obtain ⟨d,hx,e1,g1⟩ := nds_cut (t:=false) (s:=0) (l:=pl) (i:=ws.length) (by omega)
   refine wc_skip (?_)
   )
 all_goals first
 | refine aft_exit ?_
 | (
  refine aft_normal ?_
  refine wa_ (wc_block (wa_ (wc_region (w_ (m_ (h:=w_ (m_ (h:=w_ (ca (hc:=e_l3Node pl ws d hp hk G hx) (h:=w_ (a_ (h:=wo_nil (e_ (h:=aft_normal (wa_ (wc_region (?_)))))))))))))))))
  refine w_ (m_ (h:=w_ (bE (h:=wo_nil (e_ (h:=aft_normal (?_)))))))
  refine c_ (h1:=?_) (h2:=?_)
  rotate_right 1
  focus
   intro c2
   first
   | exact dn c2
   | (
    have d2 := c2;try simp at d2
    refine wc_skip (?_)
    )
  rotate_right 1
  focus
   intro c2
   first
   | exact dn c2
   | (
    have d2 := c2;try simp at d2
    refine wa_ (wc_region (w_ (m_ (h:=w_ (a_ (h:=wo_nil (e_ (h:=aft_normal (wc_ret (?_))))))))))
    )
  all_goals first | refine blk_normal ?_ | refine blk_ret ?_
  all_goals first
  | refine aft_ret ?_
  | (
   refine aft_normal ?_
   refine wc_region (w_ (m_ (h:=w_ (b_ (h:=w_ (a_ (h:=wo_nil (e_ (h:=?_)))))))))
   )
  )
 all_goals first
 | (refine (ih (ws ++ [widthN d ws]) (⟨good_snoc hk (by omega) G hx d2,by simp;omega⟩) ?_ _ ?_).trans ?_;(focus (first | omega | (simp;done) | (simp;omega)));(focus (simp [normE,hw];done));(focus (rw [look_go e1 d2];simp)))
 | (apply end_leaf (ex:=Ext.ret) 1 (some [2]);(focus (simp [normE];rfl));(focus (rw [e1,lookR,if_neg d2];simp [d2])))
 | (apply end_leaf (ex:=(Ext.exit 0)) 1 (some [2]);(focus (simp [normE];rfl));(focus (rw [List.drop_eq_nil_of_le (by omega)];simp [lookR])))
theorem e_planS (pl : List Nd) (hp : pl.length < 2000000) (hk : okN pl) : oc.call 8 [.lst false 0 (nds false 0 pl)] = some (.int .i64 (lookN pl).2,[]) := by
 refine fun_s rfl cd8 rfl rfl rfl (by simp;rfl) (by simp;rfl) ?_
 refine wa_ (wc_region (w_ (a_ (h:=wo_nil (e_ (h:=aft_normal (wa_ (wa_ (wc_region (w_ (m_ (h:=w_ (le (h:=w_ (b_ (h:=w_ (m_ (h:=?_))))))))))))))))))
 refine gw_ (h1:=?_) (h2:=?_)
 rotate_right 1
 focus
  intro c1
  first
  | exact dn c1
  | (
   have d1 := c1;try simp at d1
   refine go_ (h:=go_ (h:=go_ (h:=?_)))
   )
 rotate_right 1
 focus
  intro c1
  first
  | exact dn c1
  | (
   have d1 := c1;try simp at d1
   refine g_ (h:=w_ (m_ (h:=g_ (h:=w_ (le (h:=g_ (h:=w_ (b_ (h:=?_)))))))))
   )
 all_goals
  refine w_ (pk (h:=wo_nil (e_ (h:=?_))))
 all_goals first
 | (
  refine aft_normal ?_
  refine c_ (h1:=?_) (h2:=?_)
  rotate_right 1
  focus
   intro c2
   first
   | exact dn c2
   | (
    have d2 := c2;try simp at d2
    refine wc_skip (?_)
    )
  rotate_right 1
  focus
   intro c2
   first
   | exact dn c2
   | (
    have d2 := c2;try simp at d2
    refine wa_ (wc_region (w_ (a_ (h:=wo_nil (e_ (h:=aft_normal (wc_ret (?_))))))))
    )
  )
 all_goals first
 | refine aft_ret ?_
 | (
  refine aft_normal ?_
  refine wa_ (wa_ (wc_region (w_ (a_ (h:=wo_nil (e_ (h:=aft_normal (wc_block (?_)))))))))
  refine wc_loopI (l_planS pl hp hk [] ⟨good_nil pl,by simp⟩ _ (by simp [normE])) ?_ ?_
  rotate_right 1
  focus
   intro c3
   first
   | exact dn c3
   | (
    have d3 := c3;try simp at d3
    skip
    )
  rotate_right 1
  focus
   intro c3
   first
   | exact dn c3
   | (
    have d3 := c3;try simp at d3
    skip
    )
  all_goals first | refine blk_ret ?_ | refine blk_exit ?_
  all_goals first
  | refine aft_ret ?_
  | (
   refine aft_normal ?_
   refine wa_ (wc_region (w_ (a_ (h:=wo_nil (e_ (h:=aft_normal (wc_ret (?_))))))))
   )
  )
 all_goals (refine fin_ (hr:=(res_tmp rfl res_nil)) (h:=?_);(focus (clear hk;first | (simp_all [lookN,inI];done) | (simp_all [lookN,inI] <;> grind))))
end Go.Proofs.Ytbcgenkegnmkhaa.Ev
namespace Go.Proofs.Ytbcgenkegnmkhaa.Ev
open Go
set_option maxRecDepth 100000
set_option linter.unusedSimpArgs false
set_option linter.unusedVariables false
set_option maxHeartbeats 2000000
def readsFrom (d : Nd) (a : Int) : Bool := (readsN d).contains a
def rdFrom (a : Int) (i : Nat) : List Nd→List Int
  | [] => []
  | d :: r => if readsFrom d a = true then (i : Int) :: rdFrom a (i + 1) r else rdFrom a (i + 1) r
def isPl (pl : List Nd) (a : Int) : Bool := inI a 0 (2 * (pl.length : Int) - 1)
theorem e_isPlace (pl : List Nd) (a : Int) (hp : pl.length < 2000000) : oc.call 35 [.lst false 0 (nds false 0 pl),.int .i64 a] = some (.bool (isPl pl a),[]) := by
 refine fun_s rfl cd35 rfl rfl rfl (by simp;rfl) (by simp;rfl) ?_
 have h1 : IntKind.i64.wrap (2 * (pl.length : Int)) = 2 * pl.length := wrap_id (by omega) (by omega)
 have h2 : IntKind.i64.wrap (2 * (pl.length : Int) - 1) = 2 * pl.length - 1 := wrap_id (by omega) (by omega)
 refine wa_ (wc_region (w_ (a_ (h:=wo_nil (e_ (h:=aft_normal (wa_ (wc_region (w_ (m_ (h:=w_ (m_ (h:=w_ (ca (hc:=e_sizeN _ _ (by simp;omega)) (h:=w_ (b_ (h:=w_ (b_ (h:=?_)))))))))))))))))))
 refine w_ (ca (hc:=e_in _ _ _) (h:=w_ (a_ (h:=wo_nil (e_ (h:=aft_normal (wc_ret (?_))))))))
 all_goals (refine fin_ (hr:=(res_tmp rfl res_nil)) (h:=?_);(focus (simp [isPl,h1,h2])))
theorem e_l7Place (pl : List Nd) (a : Int) (hp : pl.length < 2000000) : oc.call 96 [.lst false 0 (nds false 0 pl),.int .i64 a] = some (.bool (isPl pl a),[]) := by
 refine fun_s rfl cd96 rfl rfl rfl (by simp;rfl) (by simp;rfl) ?_
 have h1 : IntKind.i64.wrap (2 * (pl.length : Int)) = 2 * pl.length := wrap_id (by omega) (by omega)
 have h2 : IntKind.i64.wrap (2 * (pl.length : Int) - 1) = 2 * pl.length - 1 := wrap_id (by omega) (by omega)
 refine wa_ (wc_region (w_ (a_ (h:=wo_nil (e_ (h:=aft_normal (wa_ (wc_region (w_ (m_ (h:=w_ (m_ (h:=w_ (le (h:=w_ (b_ (h:=w_ (b_ (h:=?_)))))))))))))))))))
 refine w_ (ca (hc:=e_l1In _ _ _) (h:=w_ (a_ (h:=wo_nil (e_ (h:=aft_normal (wc_ret (?_))))))))
 all_goals (refine fin_ (hr:=(res_tmp rfl res_nil)) (h:=?_);(focus (simp [isPl,h1,h2])))
def idxF (v : Int) (i : Nat) : List Int→Int
  | [] => -1
  | x :: r => if v = x then i else idxF v (i + 1) r
theorem idxF_neg {v : Int} : ∀ {l : List Int} {i : Nat},0≤idxF v i l↔v∈l
  | [],i => by simp [idxF]
  | x :: r,i => by
    unfold idxF
    by_cases h : v = x
    · simp [h]
    · simp [h,idxF_neg (l:=r) (i:=i + 1)]
theorem l_index (l : List Int) (v : Int) (hl : l.length < 2000000) : ∀ i : Nat,i≤l.length→∀ s,normE 2 (some [0,1,7,8]) s = ⟨[(0,.lst false 0 (ints l)),(1,.int .i64 v),(7,.int .i64 l.length),(8,.int .i64 i)],[],2⟩ →
 oc.loop 138 2 s = some (if 0≤idxF v i (l.drop i) then (.ret,⟨[(4,.int .i64 (idxF v i (l.drop i)))],[],2⟩) else (.exit 0,⟨[],[],2⟩)) := by
 refine loop_ind (fun i => l.length - i) _ (fun i => ⟨[(0,.lst false 0 (ints l)),(1,.int .i64 v),(7,.int .i64 l.length),(8,.int .i64 i)],[],2⟩) _ ?_
 intro i hi ih s hs
 refine loop_s cd138 rfl rfl hs ?_
 refine wa_ (wc_region (w_ (b_ (h:=wo_nil (e_ (h:=aft_normal (wa_ (?_))))))))
 refine c_ (h1:=?_) (h2:=?_)
 rotate_right 1
 focus
  intro c1
  first
  | exact dn c1
  | (
   have d1 := c1;try simp at d1
   refine wc_exit (?_)
   )
 rotate_right 1
 focus
  intro c1
  first
  | exact dn c1
  | (
   have d1 := c1;try simp at d1
   have hw := wrap_succ (i:=i) (by omega);obtain ⟨x,hx,e1,g1⟩ := ints_cut (l:=l) (i:=i) (by omega)
   refine wc_skip (?_)
   )
 all_goals first
 | refine aft_exit ?_
 | (
  refine aft_normal ?_
  refine wa_ (wc_block (wa_ (wc_region (w_ (m_ (h:=w_ (a_ (h:=wo_nil (e_ (h:=aft_normal (wa_ (wc_region (w_ (m_ (h:=w_ (m_ (h:=?_)))))))))))))))))
  refine w_ (m_ (h:=w_ (x_ (h:=w_ (l_ (h:=w_ (bE (h:=wo_nil (e_ (h:=aft_normal (?_)))))))))))
  refine c_ (h1:=?_) (h2:=?_)
  rotate_right 1
  focus
   intro c2
   first
   | exact dn c2
   | (
    have d2 := c2;try simp at d2
    refine wc_skip (?_)
    )
  rotate_right 1
  focus
   intro c2
   first
   | exact dn c2
   | (
    have d2 := c2;try simp at d2
    refine wa_ (wc_region (w_ (m_ (h:=w_ (a_ (h:=wo_nil (e_ (h:=aft_normal (wc_ret (?_))))))))))
    )
  all_goals first | refine blk_normal ?_ | refine blk_ret ?_
  all_goals first
  | refine aft_ret ?_
  | (
   refine aft_normal ?_
   refine wc_region (w_ (b_ (h:=w_ (m_ (h:=wo_nil (e_ (h:=?_)))))))
   )
  )
 all_goals first
 | (refine (ih (i + 1) (by omega) ?_ _ ?_).trans ?_;(focus (first | omega | (simp;done) | (simp;omega)));(focus (simp [normE,hw];done));(focus (rw [e1];simp only [idxF,if_neg d2])))
 | (apply end_leaf (ex:=Ext.ret) 2 (some [4]);(focus (simp [normE];rfl));(focus (rw [e1];simp [idxF,d2])))
 | (apply end_leaf (ex:=(Ext.exit 0)) 2 (some [4]);(focus (simp [normE];rfl));(focus (rw [List.drop_eq_nil_of_le (by omega)];simp [idxF])))
theorem e_index (l : List Int) (v : Int) (hl : l.length < 2000000) : oc.call 138 [.lst false 0 (ints l),.int .i64 v] = some (.int .i64 (if 0≤idxF v 0 l then idxF v 0 l else -1),[]) := by
 refine fun_s rfl cd138 rfl rfl rfl (by simp;rfl) (by simp;rfl) ?_
 refine wa_ (wc_region (w_ (a_ (h:=wo_nil (e_ (h:=aft_normal (wa_ (wa_ (wc_region (w_ (m_ (h:=w_ (le (h:=w_ (m_ (h:=wo_nil (e_ (h:=?_))))))))))))))))))
 refine aft_normal (wc_block (?_))
 refine wc_loopI (l_index l v hl 0 (by omega) _ (by simp [normE])) ?_ ?_
 rotate_right 1
 focus
  intro c1
  skip
 rotate_right 1
 focus
  intro c1
  skip
 all_goals first | refine blk_ret ?_ | refine blk_exit ?_
 all_goals first
 | refine aft_ret ?_
 | (
  refine aft_normal ?_
  refine wa_ (wc_region (w_ (a_ (h:=wo_nil (e_ (h:=aft_normal (wc_ret (?_))))))))
  )
 all_goals (refine fin_ (hr:=(res_tmp rfl res_nil)) (h:=?_);(focus (first | (simp_all;done) | (simp_all <;> omega) | (simp_all <;> split <;> simp_all <;> omega))))
theorem e_contains (l : List Int) (v : Int) (hl : l.length < 2000000) : oc.call 117 [.lst false 0 (ints l),.int .i64 v] = some (.bool (l.contains v),[]) := by
 refine fun_s rfl cd117 rfl rfl rfl (by simp;rfl) (by simp;rfl) ?_
 refine wa_ (wc_region (w_ (a_ (h:=wo_nil (e_ (h:=aft_normal (wa_ (wc_region (w_ (m_ (h:=w_ (m_ (h:=w_ (ca (hc:=e_index _ _ hl) (h:=w_ (b_ (h:=w_ (a_ (h:=?_)))))))))))))))))))
 refine wo_nil (e_ (h:=aft_normal (wc_ret (?_))))
 all_goals (refine fin_ (hr:=(res_tmp rfl res_nil)) (h:=?_);(focus (simp;have := idxF_neg (v:=v) (l:=l) (i:=0);grind)))
end Go.Proofs.Ytbcgenkegnmkhaa.Ev
namespace Go.Proofs.Ytbcgenkegnmkhaa.Ev
open Go
set_option maxRecDepth 100000
set_option linter.unusedSimpArgs false
set_option linter.unusedVariables false
set_option maxHeartbeats 2000000
theorem l_readersI (pl : List Nd) (a : Int) (hp : pl.length < 2000000) (hk : okN pl) : ∀ x : Nat × List Int,(x.1≤pl.length∧x.2.length≤x.1)→∀ s,normE 2 (some [1,5,9,10,11]) s = ⟨[(1,.int .i64 a),(5,.ref 2 0 x.2.length),(9,.lst false 0 (nds false 0 pl)),(10,.int .i64 pl.length),(11,.int .i64 x.1)],[(2,⟨false,false,1,ints x.2,0⟩)],3⟩ →
 oc.loop 79 3 s = some (.exit 0,⟨[(5,.ref 2 0 (x.2 ++ rdFrom a x.1 (pl.drop x.1)).length)],[(2,⟨false,false,1,ints (x.2 ++ rdFrom a x.1 (pl.drop x.1)),0⟩)],3⟩) := by
 refine loop_ind (σ:=Nat × List Int) (fun x => pl.length - x.1) _ (fun x => ⟨[(1,.int .i64 a),(5,.ref 2 0 x.2.length),(9,.lst false 0 (nds false 0 pl)),(10,.int .i64 pl.length),(11,.int .i64 x.1)],[(2,⟨false,false,1,ints x.2,0⟩)],3⟩) _ ?_
 rintro ⟨i,out⟩ ⟨hi,ho⟩ ih s hs
 simp only at hi ho
 refine loop_s cd79 rfl rfl hs ?_
 refine wa_ (wc_region (w_ (b_ (h:=wo_nil (e_ (h:=aft_normal (wa_ (?_))))))))
 refine c_ (h1:=?_) (h2:=?_)
 rotate_right 1
 focus
  intro c1
  first
  | exact dn c1
  | (
   have d1 := c1;try simp at d1
   refine wc_exit (?_)
   )
 rotate_right 1
 focus
  intro c1
  first
  | exact dn c1
  | (
   have d1 := c1;try simp at d1
   have hw := wrap_succ (i:=i) (by omega);obtain ⟨d,hx,e1,g1⟩ := nds_cut (t:=false) (s:=0) (l:=pl) (i:=i) (by omega);have hd := hk d (List.mem_of_getElem? hx);have hle : (readsN d).length < 2000000 := (by have : (readsN d).length≤2 := (by unfold readsN;split;simp;split <;> simp);omega)
   refine wc_skip (?_)
   )
 all_goals first
 | refine aft_exit ?_
 | (
  refine aft_normal ?_
  refine wa_ (wc_block (wa_ (wc_region (w_ (m_ (h:=w_ (x_ (h:=w_ (l_ (h:=w_ (al (h:=w_ (a_ (h:=w0 (s_ (h:=wo_nil (e_ (h:=aft_normal (?_)))))))))))))))))))
  refine wa_ (wc_region (w_ (l_ (h:=w_ (ca (hc:=e_reads 0 d) (h:=w_ (m_ (h:=w_ (ca (hc:=e_contains (readsN d) a hle) (h:=wo_nil (e_ (h:=aft_normal (?_)))))))))))))
  refine c_ (h1:=?_) (h2:=?_)
  rotate_right 1
  focus
   intro c2
   first
   | exact dn c2
   | (
    have d2 := c2;try simp at d2
    refine wc_skip (?_)
    )
  rotate_right 1
  focus
   intro c2
   first
   | exact dn c2
   | (
    have d2 := c2;try simp at d2
    refine wc_region (w_ (m_ (h:=w_ (m_ (h:=w_ (bs (h:=w_ (ap (h:=w_ (a_ (h:=wo_nil (e_ (h:=?_)))))))))))))
    )
  all_goals refine blk_normal ?_
  all_goals first
  | (
   refine aft_normal ?_
   refine wc_region (w_ (b_ (h:=w_ (m_ (h:=wo_nil (e_ (h:=?_)))))))
   )
  )
 all_goals first
 | (refine (ih ((i + 1,out ++ [(i : Int)])) (⟨by simp;omega,by simp;omega⟩) ?_ _ ?_).trans ?_;(focus (first | omega | (simp;done) | (simp;omega)));(focus (simp [normE,hw];done));(focus (have d3 : readsFrom d a = true := (by simpa [readsFrom] using d2);simp only [e1,rdFrom,d3,if_true];simp)))
 | (refine (ih ((i + 1,out)) (⟨by simp;omega,by simp;omega⟩) ?_ _ ?_).trans ?_;(focus (first | omega | (simp;done) | (simp;omega)));(focus (simp [normE,hw];done));(focus (have d3 : readsFrom d a = false := (by simpa [readsFrom] using d2);simp only [e1,rdFrom,d3];simp)))
 | (apply end_leaf (ex:=(Ext.exit 0)) 2 (some [5]);(focus (simp [normE];rfl));(focus (simp only [List.drop_eq_nil_of_le (show pl.length≤i by omega),rdFrom];simp)))
theorem e_readersI (pl : List Nd) (a : Int) (hp : pl.length < 2000000) (hk : okN pl) : oc.call 79 [.lst false 0 (nds false 0 pl),.int .i64 a] = some (.lst true 1 (ints (rdFrom a 0 pl)),[]) := by
 refine fun_s rfl cd79 rfl rfl rfl (by simp;rfl) (by simp;rfl) ?_
 refine wa_ (wc_region (w_ (aN (h:=wo_nil (e_ (h:=aft_normal (wa_ (wc_region (w_ (bs (h:=w_ (a_ (h:=wo_nil (e_ (h:=aft_normal (wa_ (?_)))))))))))))))))
 refine wa_ (wc_region (w_ (m_ (h:=w_ (le (h:=w_ (m_ (h:=wo_nil (e_ (h:=aft_normal (wc_block (?_))))))))))))
 refine wc_loop (l_readersI pl a hp hk (0,[]) (by simp) _ (by simp [normE])) ?_
 refine blk_exit (aft_normal (wa_ (wc_region (w_ (m_ (h:=w_ (a_ (h:=wo_nil (e_ (h:=aft_normal (wc_ret (?_))))))))))))
 all_goals (refine fin_ (hr:=(res_tmp rfl res_nil)) (h:=?_);(focus (first | (simp_all;done) | (simp_all <;> omega) | (simp_all <;> split <;> simp_all <;> omega))))
def idxP (p : Int→Bool) (i : Nat) : List Int→Int
  | [] => -1
  | x :: r => if p x = true then i else idxP p (i + 1) r
theorem idxP_any {p : Int→Bool} : ∀ {l : List Int} {i : Nat},decide (0≤idxP p i l) = l.any p
  | [],i => by simp [idxP]
  | x :: r,i => by
    unfold idxP
    by_cases h : p x = true
    · simp [h]
    · simp only [if_neg h,List.any_cons,idxP_any (l:=r) (i:=i + 1)];simp [h]
theorem l_indexP (l : List Int) (pl : List Nd) (to : Int) (p : Int→Bool) (hl : l.length < 2000000) (hc : ∀ x∈l,oc.call 80 [.int .i64 x,.vptr (.lst false 0 (nds false 0 pl)),.vptr (.int .i64 to)] = some (.bool (p x),[])) : ∀ i : Nat,i≤l.length→∀ s,normE 2 (some [0,1,7,8]) s = ⟨[(0,.lst false 0 (ints l)),(1,.clo 80 [.vptr (.lst false 0 (nds false 0 pl)),.vptr (.int .i64 to)]),(7,.int .i64 l.length),(8,.int .i64 i)],[],2⟩ →
 oc.loop 116 2 s = some (if 0≤idxP p i (l.drop i) then (.ret,⟨[(4,.int .i64 (idxP p i (l.drop i)))],[],2⟩) else (.exit 0,⟨[],[],2⟩)) := by
 refine loop_ind (fun i => l.length - i) _ (fun i => ⟨[(0,.lst false 0 (ints l)),(1,.clo 80 [.vptr (.lst false 0 (nds false 0 pl)),.vptr (.int .i64 to)]),(7,.int .i64 l.length),(8,.int .i64 i)],[],2⟩) _ ?_
 intro i hi ih s hs
 refine loop_s cd116 rfl rfl hs ?_
 refine wa_ (wc_region (w_ (b_ (h:=wo_nil (e_ (h:=aft_normal (wa_ (?_))))))))
 refine c_ (h1:=?_) (h2:=?_)
 rotate_right 1
 focus
  intro c1
  first
  | exact dn c1
  | (
   have d1 := c1;try simp at d1
   refine wc_exit (?_)
   )
 rotate_right 1
 focus
  intro c1
  first
  | exact dn c1
  | (
   have d1 := c1;try simp at d1
   have hw := wrap_succ (i:=i) (by omega);obtain ⟨x,hx,e1,g1⟩ := ints_cut (l:=l) (i:=i) (by omega);have hq := hc x (List.mem_of_getElem? hx)
   refine wc_skip (?_)
   )
 all_goals first
 | refine aft_exit ?_
 | (
  refine aft_normal ?_
  refine wa_ (wc_block (wa_ (wc_region (w_ (m_ (h:=w_ (a_ (h:=wo_nil (e_ (h:=aft_normal (wa_ (wc_region (w_ (m_ (h:=w_ (m_ (h:=?_)))))))))))))))))
  refine w_ (m_ (h:=w_ (x_ (h:=w_ (l_ (h:=w_ (?_)))))))
  refine k_callS rfl rfl (by rw [cf_in];rfl) rfl (by rw [cf_md];rfl) (by simp [cf_md,mdT];rfl) (by first | rfl | simp [*]) hq rfl (by simp;rfl) (by simp [cf_md,mdT]) (by simp;rfl) (by simp;rfl) ?_
  refine wo_nil (e_ (h:=aft_normal (?_)))
  refine c_ (h1:=?_) (h2:=?_)
  rotate_right 1
  focus
   intro c2
   first
   | exact dn c2
   | (
    have d2 := c2;try simp at d2
    refine wc_skip (?_)
    )
  rotate_right 1
  focus
   intro c2
   first
   | exact dn c2
   | (
    have d2 := c2;try simp at d2
    refine wa_ (wc_region (w_ (m_ (h:=w_ (a_ (h:=wo_nil (e_ (h:=aft_normal (wc_ret (?_))))))))))
    )
  all_goals first | refine blk_normal ?_ | refine blk_ret ?_
  all_goals first
  | refine aft_ret ?_
  | (
   refine aft_normal ?_
   refine wc_region (w_ (b_ (h:=w_ (m_ (h:=wo_nil (e_ (h:=?_)))))))
   )
  )
 all_goals first
 | (refine (ih (i + 1) (by omega) ?_ _ ?_).trans ?_;(focus (first | omega | (simp;done) | (simp;omega)));(focus (simp [normE,hw];done));(focus (rw [e1];simp only [idxP,if_neg (show ¬ p x = true by simp [d2])])))
 | (apply end_leaf (ex:=Ext.ret) 2 (some [4]);(focus (simp [normE];rfl));(focus (rw [e1];simp [idxP,d2])))
 | (apply end_leaf (ex:=(Ext.exit 0)) 2 (some [4]);(focus (simp [normE];rfl));(focus (rw [List.drop_eq_nil_of_le (by omega)];simp [idxP])))
theorem e_indexP (l : List Int) (pl : List Nd) (to : Int) (p : Int→Bool) (hl : l.length < 2000000) (hc : ∀ x∈l,oc.call 80 [.int .i64 x,.vptr (.lst false 0 (nds false 0 pl)),.vptr (.int .i64 to)] = some (.bool (p x),[])) : oc.call 116 [.lst false 0 (ints l),.clo 80 [.vptr (.lst false 0 (nds false 0 pl)),.vptr (.int .i64 to)]] = some (.int .i64 (if 0≤idxP p 0 l then idxP p 0 l else -1),[]) := by
 refine fun_s rfl cd116 rfl rfl rfl (by simp;rfl) (by simp;rfl) ?_
 refine wa_ (wc_region (w_ (a_ (h:=wo_nil (e_ (h:=aft_normal (wa_ (wa_ (wc_region (w_ (m_ (h:=w_ (le (h:=w_ (m_ (h:=wo_nil (e_ (h:=?_))))))))))))))))))
 refine aft_normal (wc_block (?_))
 refine wc_loopI (l_indexP l pl to p hl hc 0 (by omega) _ (by simp [normE])) ?_ ?_
 rotate_right 1
 focus
  intro c1
  skip
 rotate_right 1
 focus
  intro c1
  skip
 all_goals first | refine blk_ret ?_ | refine blk_exit ?_
 all_goals first
 | refine aft_ret ?_
 | (
  refine aft_normal ?_
  refine wa_ (wc_region (w_ (a_ (h:=wo_nil (e_ (h:=aft_normal (wc_ret (?_))))))))
  )
 all_goals (refine fin_ (hr:=(res_tmp rfl res_nil)) (h:=?_);(focus (clear hc;first | (simp_all;done) | (simp_all <;> omega))))
theorem e_anyP (l : List Int) (pl : List Nd) (to : Int) (p : Int→Bool) (hl : l.length < 2000000) (hc : ∀ x∈l,oc.call 80 [.int .i64 x,.vptr (.lst false 0 (nds false 0 pl)),.vptr (.int .i64 to)] = some (.bool (p x),[])) : oc.call 78 [.lst false 0 (ints l),.clo 80 [.vptr (.lst false 0 (nds false 0 pl)),.vptr (.int .i64 to)]] = some (.bool (l.any p),[]) := by
 refine fun_s rfl cd78 rfl rfl rfl (by simp;rfl) (by simp;rfl) ?_
 refine wa_ (wc_region (w_ (a_ (h:=wo_nil (e_ (h:=aft_normal (wa_ (wc_region (w_ (m_ (h:=w_ (m_ (h:=w_ (ca (hc:=e_indexP l pl to p hl hc) (h:=w_ (b_ (h:=w_ (a_ (h:=?_)))))))))))))))))))
 refine wo_nil (e_ (h:=aft_normal (wc_ret (?_))))
 all_goals (refine fin_ (hr:=(res_tmp rfl res_nil)) (h:=?_);(focus (clear hc;rw [← idxP_any (i:=0)];simp;grind)))
end Go.Proofs.Ytbcgenkegnmkhaa.Ev
namespace Go.Proofs.Ytbcgenkegnmkhaa.Ev
open Go
set_option maxRecDepth 100000
set_option linter.unusedSimpArgs false
set_option linter.unusedVariables false
set_option maxHeartbeats 2000000
def Wf (pl : List Nd) : Prop := ∀ (n : Nat) d,pl[n]? = some d→fitN d n
theorem lookR_wf {pl : List Nd} (hp : pl.length < 2000000) : ∀ (r : List Nd) (ws : List Int),r = pl.drop ws.length→(lookR pl r ws).2 = 0→∀ (n : Nat) d,ws.length≤n→pl[n]? = some d→fitN d n
  | [],ws,e,_,n,d,hn,hd => by
    have : pl.length≤ws.length := by
      have := congrArg List.length e;simp at this;omega
    have := (List.getElem?_eq_some_iff.mp hd).1
    omega
  | x :: r,ws,e,h,n,d,hn,hd => by
    unfold lookR at h
    have hx : pl[ws.length]? = some x := by
      have := congrArg (fun l => l[0]?) e
      simpa using this.symm
    have hr : r = pl.drop (ws.length + 1) := by
      have := congrArg List.tail e
      simpa [List.tail_drop] using this
    split at h
    · rename_i hs
      by_cases hc : n = ws.length
      · subst hc
        rw [hx] at hd
        cases hd
        exact step_ok (by have := (List.getElem?_eq_some_iff.mp hx).1;omega) hs
      · exact lookR_wf hp r (ws ++ [widthN x ws]) (by simpa using hr) h n d (by simp;omega) hd
    · exact absurd h ‹_›
theorem look_wf {pl : List Nd} (h : (lookN pl).2 = 0) : Wf pl := by
  unfold lookN at h
  split at h
  · cases h
  · rename_i hl
    simp [inI] at hl
    split at h
    · exact fun n d hd => lookR_wf (by omega) pl [] rfl h n d (by simp) hd
    · exact absurd h ‹_›
theorem rd_mem {a m : Int} : ∀ {l : List Nd} {i : Nat},m∈rdFrom a i l→∃ (k : Nat) (d : Nd),m = ((i + k : Nat) : Int)∧l[k]? = some d∧readsFrom d a = true
  | [],i,h => by simp [rdFrom] at h
  | d :: r,i,h => by
    unfold rdFrom at h
    split at h
    · rename_i hd
      rcases List.mem_cons.mp h with h | h
      · exact ⟨0,d,by simpa using h,rfl,hd⟩
      · obtain ⟨k,e,h1,h2,h3⟩ := rd_mem h
        exact ⟨k + 1,e,by rw [h1];congr 1;omega,by simpa using h2,h3⟩
    · obtain ⟨k,e,h1,h2,h3⟩ := rd_mem h
      exact ⟨k + 1,e,by rw [h1];congr 1;omega,by simpa using h2,h3⟩
theorem reads_fit {d : Nd} {n : Nat} {a : Int} (h : fitN d n) (hr : readsFrom d a = true) : 0≤a∧a < n := by
  obtain ⟨h1,h2⟩ := h
  unfold readsFrom readsN at hr
  split at hr
  · simp at hr
  · split at hr
    · simp at hr
      rcases hr with rfl | rfl
      · exact h1 ‹_›
      · exact h2 ‹_›
    · simp at hr
      subst hr
      exact h1 ‹_›
theorem rd_gt {pl : List Nd} (W : Wf pl) {a m : Int} (h : m∈rdFrom a 0 pl) : 0≤a∧a < m∧m < pl.length := by
  obtain ⟨k,d,rfl,h2,h3⟩ := rd_mem h
  have := reads_fit (W k d h2) h3
  have := (List.getElem?_eq_some_iff.mp h2).1
  simp only [Nat.zero_add]
  omega
theorem rd_len (a : Int) : ∀ (l : List Nd) (i : Nat),(rdFrom a i l).length≤l.length
  | [],i => by simp [rdFrom]
  | d :: r,i => by
    unfold rdFrom
    have := rd_len a r (i + 1)
    split <;> simp <;> omega
def leadsF (pl : List Nd) (to : Int) : Nat→Int→Bool
  | 0,_ => false
  | n + 1,a => if a = to then true else if a.tmod 2 = 0 then leadsF pl to n (a + 1) else (rdFrom (a / 2) 0 pl).any fun m => leadsF pl to n (2 * m)
theorem e_leads (pl : List Nd) (to : Int) (hp : pl.length < 2000000) (hk : okN pl) (W : Wf pl) : ∀ (n : Nat) (a : Int),0≤a→a < 2 * pl.length→2 * pl.length - a≤n→oc.call 36 [.lst false 0 (nds false 0 pl),.int .i64 a,.int .i64 to] = some (.bool (leadsF pl to n a),[]) := by
  intro n
  induction n with
  | zero => intro a h0 h1 h2;omega
  | succ n ih =>
    intro a h0 h1 h2
    have ih' : ∀ b : Int,a < b→b < 2 * pl.length→oc.call 36 [.lst false 0 (nds false 0 pl),.int .i64 b,.int .i64 to] = some (.bool (leadsF pl to n b),[]) := fun b h3 h4 => ih b (by omega) h4 (by omega)
    have hm : a.tmod 2 = a % 2 := Int.tmod_eq_emod_of_nonneg h0
    have hd : a.tdiv 2 = a / 2 := Int.tdiv_eq_ediv_of_nonneg h0
    have hw : IntKind.i64.wrap (a + 1) = a + 1 := wrap_id (by omega) (by omega)
    have hw2 : IntKind.i64.wrap (a / 2) = a / 2 := wrap_id (by omega) (by omega)
    have hclo : ∀ x∈rdFrom (a / 2) 0 pl,a % 2 ≠ 0→oc.call 80 [.int .i64 x,.vptr (.lst false 0 (nds false 0 pl)),.vptr (.int .i64 to)] = some (.bool (leadsF pl to n (2 * x)),[]) := by
      intro x hx ho
      have hg := rd_gt W hx
      have hw3 : IntKind.i64.wrap (2 * x) = 2 * x := wrap_id (by omega) (by omega)
      refine fun_s rfl cd80 rfl rfl rfl (by simp;rfl) (by simp;rfl) ?_
      refine wa_ (wc_region (w_ (a_ (h:=wo_nil (e_ (h:=aft_normal (wa_ (wc_region (w_ (l_ (h:=w_ (m_ (h:=w_ (b_ (h:=w_ (l_ (h:=w_ (ca (hc:=(hw3.symm ▸ ih' (2 * x) (by omega) (by omega))) (h:=?_)))))))))))))))))))
      refine w_ (a_ (h:=wo_nil (e_ (h:=aft_normal (wc_ret (?_))))))
      all_goals (refine fin_ (hr:=(res_tmp rfl res_nil)) (h:=?_);(focus (first | (simp_all;done) | (simp_all <;> omega) | (simp_all <;> split <;> simp_all <;> omega))))
    refine fun_s rfl cd36 rfl rfl rfl (by simp;rfl) (by simp;rfl) ?_
    refine wa_ (wc_region (w_ (bx (h:=w_ (bx (h:=w_ (a_ (h:=wo_nil (e_ (h:=aft_normal (wa_ (wa_ (wc_region (w_ (m_ (h:=w_ (l_ (h:=?_))))))))))))))))))
    refine w_ (bE (h:=wo_nil (e_ (h:=aft_normal (?_)))))
    refine c_ (h1:=?_) (h2:=?_)
    rotate_right 1
    focus
     intro c1
     refine wc_skip (?_)
    rotate_right 1
    focus
     intro c1
     refine wa_ (wc_region (w_ (a_ (h:=wo_nil (e_ (h:=aft_normal (wc_ret (?_))))))))
    all_goals first
    | refine aft_ret ?_
    | (refine aft_normal ?_
       refine wa_ (wa_ (wc_region (w_ (m_ (h:=w_ (b_ (h:=w_ (bE (h:=wo_nil (e_ (h:=aft_normal (?_))))))))))))
       refine c_ (h1:=?_) (h2:=?_)
       rotate_right 1
       focus
        intro c2
        simp [hm] at c2
        refine wc_skip (?_)
       rotate_right 1
       focus
        intro c2
        simp [hm] at c2
        refine wa_ (wc_region (w_ (l_ (h:=w_ (m_ (h:=w_ (b_ (h:=w_ (l_ (h:=w_ (ca (hc:=(hw.symm ▸ ih' (a + 1) (by omega) (by omega))) (h:=w_ (a_ (h:=wo_nil (e_ (h:=aft_normal (wc_ret (?_))))))))))))))))))
       all_goals first
       | refine aft_ret ?_
       | (refine aft_normal ?_
          refine wa_ (wc_region (w_ (l_ (h:=w_ (m_ (h:=w_ (b_ (h:=w_ (ca (hc:=(by rw [hd,hw2];exact e_readersI pl (a / 2) hp hk)) (h:=w_ (mf (h:=w_ (ca (hc:=e_anyP (rdFrom (a / 2) 0 pl) pl to (fun m => leadsF pl to n (2 * m)) (by have := rd_len (a / 2) pl 0;omega) (fun x hx => hclo x hx (by omega))) (h:=w_ (a_ (h:=wo_nil (e_ (h:=aft_normal (wc_ret (?_))))))))))))))))))))
          )
       )
    all_goals (refine fin_ (hr:=(res_tmp rfl res_nil)) (h:=?_);(focus (clear ih ih' hclo hk W;first | (simp_all [leadsF];done) | grind [leadsF])))
def leadsN (pl : List Nd) (a to : Int) : Bool := decide ((lookN pl).2 = 0) && (isPl pl a && (isPl pl to && leadsF pl to (2 * pl.length) a))
theorem e_leadsToI (pl : List Nd) (a to : Int) (hp : pl.length < 2000000) (hk : okN pl) : oc.call 9 [.lst false 0 (nds false 0 pl),.int .i64 a,.int .i64 to] = some (.bool (leadsN pl a to),[]) := by
 refine fun_s rfl cd9 rfl rfl rfl (by simp;rfl) (by simp;rfl) ?_
 refine wa_ (wc_region (w_ (a_ (h:=wo_nil (e_ (h:=aft_normal (wa_ (wc_region (w_ (m_ (h:=w_ (ca (hc:=e_planI pl hp hk) (h:=w_ (bE (h:=w_ (m_ (h:=?_)))))))))))))))))
 refine gw_ (h1:=?_) (h2:=?_)
 rotate_right 1
 focus
  intro c1
  first
  | exact dn c1
  | (
   have d1 := c1;try simp at d1
   refine go_ (h:=go_ (h:=go_ (h:=?_)))
   )
 rotate_right 1
 focus
  intro c1
  first
  | exact dn c1
  | (
   have d1 := c1;try simp at d1
   refine g_ (h:=w_ (m_ (h:=g_ (h:=w_ (m_ (h:=g_ (h:=w_ (ca (hc:=e_isPlace pl _ hp) (h:=?_)))))))))
   )
 all_goals
  refine w_ (pk (h:=w_ (m_ (h:=?_))))
  refine gw_ (h1:=?_) (h2:=?_)
  rotate_right 1
  focus
   intro c2
   first
   | exact dn c2
   | (
    have d2 := c2;try simp at d2
    refine go_ (h:=go_ (h:=go_ (h:=?_)))
    )
  rotate_right 1
  focus
   intro c2
   first
   | exact dn c2
   | (
    have d2 := c2;try simp at d2
    refine g_ (h:=w_ (m_ (h:=g_ (h:=w_ (m_ (h:=g_ (h:=w_ (ca (hc:=e_isPlace pl _ hp) (h:=?_)))))))))
    )
  all_goals
   refine w_ (pk (h:=w_ (m_ (h:=?_))))
   refine gw_ (h1:=?_) (h2:=?_)
   rotate_right 1
   focus
    intro c3
    first
    | exact dn c3
    | (
     have d3 := c3;try simp at d3
     refine go_ (h:=go_ (h:=go_ (h:=go_ (h:=?_))))
     )
   rotate_right 1
   focus
    intro c3
    first
    | exact dn c3
    | (
     have d3 := c3;try simp at d3
     simp [isPl,inI] at d2 d3
     refine g_ (h:=w_ (m_ (h:=g_ (h:=w_ (m_ (h:=g_ (h:=w_ (m_ (h:=g_ (h:=w_ (ca (hc:=e_leads pl to hp hk (look_wf d1) (2 * pl.length) a (by omega) (by omega) (by omega)) (h:=?_))))))))))))
     )
   all_goals
    refine w_ (pk (h:=w_ (a_ (h:=wo_nil (e_ (h:=?_))))))
 all_goals first
 | (
  refine aft_normal ?_
  refine wc_ret (?_)
  )
 all_goals (refine fin_ (hr:=(res_tmp rfl res_nil)) (h:=?_);(focus (simp;grind [leadsN])))
end Go.Proofs.Ytbcgenkegnmkhaa.Ev
namespace Go.Proofs.Ytbcgenkegnmkhaa.Ev
open Go
set_option maxRecDepth 100000
set_option linter.unusedSimpArgs false
set_option linter.unusedVariables false
set_option maxHeartbeats 2000000
def cmpI (a b : Int) : Int := if a < b then -1 else if b < a then 1 else 0
theorem e_nan (a : Int) : oc.call 141 [.int .i64 a] = some (.bool false,[]) := by
 refine fun_s rfl cd141 rfl rfl rfl (by simp;rfl) (by simp;rfl) ?_
 refine wa_ (wc_region (w_ (a_ (h:=wo_nil (e_ (h:=aft_normal (wa_ (wc_region (w_ (m_ (h:=w_ (m_ (h:=w_ (bE (h:=w_ (a_ (h:=wo_nil (e_ (h:=?_)))))))))))))))))))
 refine aft_normal (wc_ret (?_))
 all_goals (refine fin_ (hr:=(res_tmp rfl res_nil)) (h:=?_);(focus (first | (simp_all;done) | (simp_all <;> omega) | (simp_all <;> split <;> simp_all <;> omega))))
theorem e_cmp (a b : Int) : oc.call 124 [.int .i64 a,.int .i64 b] = some (.int .i64 (cmpI a b),[]) := by
 refine fun_s rfl cd124 rfl rfl rfl (by simp;rfl) (by simp;rfl) ?_
 refine wa_ (wc_region (w_ (a_ (h:=wo_nil (e_ (h:=aft_normal (wa_ (wc_region (w_ (m_ (h:=w_ (ca (hc:=e_nan _) (h:=w_ (a_ (h:=wo_nil (e_ (h:=aft_normal (?_))))))))))))))))))
 refine wa_ (wc_region (w_ (m_ (h:=w_ (ca (hc:=e_nan _) (h:=w_ (a_ (h:=wo_nil (e_ (h:=aft_normal (wa_ (wa_ (wc_region (w_ (m_ (h:=wo_nil (e_ (h:=?_))))))))))))))))))
 refine aft_normal (?_)
 refine c_ (h1:=?_) (h2:=?_)
 rotate_right 1
 focus
  intro c1
  first
  | exact dn c1
  | (
   have d1 := c1;try simp at d1
   refine wc_skip (?_)
   )
 rotate_right 1
 focus
  intro c1
  first
  | exact dn c1
  | (
   have d1 := c1;try simp at d1
   refine wa_ (wa_ (wc_region (w_ (m_ (h:=wo_nil (e_ (h:=aft_normal (?_))))))))
   refine c_ (h1:=?_) (h2:=?_)
   rotate_right 1
   focus
    intro c2
    first
    | exact dn c2
    | (
     have d2 := c2;try simp at d2
     refine wc_skip (?_)
     )
   rotate_right 1
   focus
    intro c2
    first
    | exact dn c2
    | (
     have d2 := c2;try simp at d2
     refine wa_ (wc_region (w_ (a_ (h:=wo_nil (e_ (h:=aft_normal (wc_ret (?_))))))))
     )
   all_goals first
   | refine aft_ret ?_
   | (
    refine aft_normal ?_
    refine wa_ (wc_region (w_ (a_ (h:=wo_nil (e_ (h:=aft_normal (wc_ret (?_))))))))
    )
   )
 all_goals first
 | refine aft_ret ?_
 | (
  refine aft_normal ?_
  refine wa_ (wa_ (wc_region (w_ (m_ (h:=wo_nil (e_ (h:=aft_normal (?_))))))))
  refine c_ (h1:=?_) (h2:=?_)
  rotate_right 1
  focus
   intro c3
   first
   | exact dn c3
   | (
    have d3 := c3;try simp at d3
    refine wc_skip (?_)
    )
  rotate_right 1
  focus
   intro c3
   first
   | exact dn c3
   | (
    have d3 := c3;try simp at d3
    refine wa_ (wc_region (w_ (a_ (h:=wo_nil (e_ (h:=aft_normal (wc_ret (?_))))))))
    )
  all_goals first
  | refine aft_ret ?_
  | (
   refine aft_normal ?_
   refine wa_ (wa_ (wc_region (w_ (m_ (h:=w_ (m_ (h:=w_ (b_ (h:=wo_nil (e_ (h:=aft_normal (?_))))))))))))
   refine c_ (h1:=?_) (h2:=?_)
   rotate_right 1
   focus
    intro c4
    first
    | exact dn c4
    | (
     have d4 := c4;try simp at d4
     refine wc_skip (?_)
     )
   rotate_right 1
   focus
    intro c4
    first
    | exact dn c4
    | (
     have d4 := c4;try simp at d4
     refine wa_ (wc_region (w_ (a_ (h:=wo_nil (e_ (h:=aft_normal (wc_ret (?_))))))))
     )
   all_goals first
   | refine aft_ret ?_
   | (
    refine aft_normal ?_
    refine wa_ (wa_ (wc_region (w_ (m_ (h:=w_ (m_ (h:=w_ (b_ (h:=wo_nil (e_ (h:=aft_normal (?_))))))))))))
    refine c_ (h1:=?_) (h2:=?_)
    rotate_right 1
    focus
     intro c5
     first
     | exact dn c5
     | (
      have d5 := c5;try simp at d5
      refine wc_skip (?_)
      )
    rotate_right 1
    focus
     intro c5
     first
     | exact dn c5
     | (
      have d5 := c5;try simp at d5
      refine wa_ (wc_region (w_ (a_ (h:=wo_nil (e_ (h:=aft_normal (wc_ret (?_))))))))
      )
    all_goals first
    | refine aft_ret ?_
    | (
     refine aft_normal ?_
     refine wa_ (wc_region (w_ (a_ (h:=wo_nil (e_ (h:=aft_normal (wc_ret (?_))))))))
     )
    )
   )
  )
 all_goals (refine fin_ (hr:=(res_tmp rfl res_nil)) (h:=?_);(focus (simp [cmpI];grind)))
theorem l_or (a b : Int) : ∀ i : Nat,(i≤2)→∀ s,normE 1 (some [3,6,7,8]) s = ⟨[(3,.int .i64 0),(6,.lst false 0 (ints [a,b])),(7,.int .i64 2),(8,.int .i64 i)],[],1⟩ →
 oc.loop 123 3 s = some (if ([a,b].drop i).all (fun x => decide (x = 0)) = true then (.exit 0,⟨[(3,.int .i64 0)],[],1⟩) else (.ret,⟨[(2,.int .i64 (if i = 0∧a ≠ 0 then a else b)),(3,.int .i64 0)],[],1⟩)) := by
 refine loop_ind (σ:=Nat) (fun i => 2 - i) _ (fun i => ⟨[(3,.int .i64 0),(6,.lst false 0 (ints [a,b])),(7,.int .i64 2),(8,.int .i64 i)],[],1⟩) _ ?_
 intro i hi ih s hs
 refine loop_s cd123 rfl rfl hs ?_
 refine wa_ (wc_region (w_ (b_ (h:=wo_nil (e_ (h:=aft_normal (wa_ (?_))))))))
 refine c_ (h1:=?_) (h2:=?_)
 rotate_right 1
 focus
  intro c1
  first
  | exact dn c1
  | (
   have d1 := c1;try simp at d1
   have : i = 2 := (by omega);subst this
   refine wc_exit (?_)
   )
 rotate_right 1
 focus
  intro c1
  first
  | exact dn c1
  | (
   have d1 := c1;try simp at d1
   have hw := wrap_succ (i:=i) (by omega);obtain ⟨x,hx,e1,g1⟩ := ints_cut (l:=[a,b]) (i:=i) (by simp;omega)
   refine wc_skip (?_)
   )
 all_goals first
 | refine aft_exit ?_
 | (
  refine aft_normal ?_
  refine wa_ (wc_block (wa_ (wc_region (w_ (x_ (h:=w_ (l_ (h:=w_ (a_ (h:=wo_nil (e_ (h:=aft_normal (wa_ (wc_region (w_ (m_ (h:=?_)))))))))))))))))
  refine w_ (m_ (h:=w_ (bE (h:=wo_nil (e_ (h:=aft_normal (?_)))))))
  refine c_ (h1:=?_) (h2:=?_)
  rotate_right 1
  focus
   intro c2
   first
   | exact dn c2
   | (
    have d2 := c2;try simp at d2
    refine wc_skip (?_)
    )
  rotate_right 1
  focus
   intro c2
   first
   | exact dn c2
   | (
    have d2 := c2;try simp at d2
    refine wa_ (wc_region (w_ (m_ (h:=w_ (a_ (h:=wo_nil (e_ (h:=aft_normal (wc_ret (?_))))))))))
    )
  all_goals first | refine blk_normal ?_ | refine blk_ret ?_
  all_goals first
  | refine aft_ret ?_
  | (
   refine aft_normal ?_
   refine wc_region (w_ (b_ (h:=w_ (m_ (h:=wo_nil (e_ (h:=?_)))))))
   )
  )
 all_goals first
 | (refine (ih (i + 1) (by omega) ?_ _ ?_).trans ?_;(focus (first | omega | (simp;done) | (simp;omega)));(focus (simp [normE,hw];done));(focus (rcases i with _ | _ | i <;> simp at * <;> grind)))
 | (apply end_leaf (ex:=Ext.ret) 1 (some [2,3]);(focus (simp [normE];rfl));(focus (rcases i with _ | _ | i <;> simp at * <;> grind)))
 | (apply end_leaf (ex:=(Ext.exit 0)) 1 (some [2,3]);(focus (simp [normE];rfl));(focus (simp)))
theorem e_or (a b : Int) : oc.call 123 [.lst false 0 (ints [a,b])] = some (.int .i64 (if a = 0 then b else a),[]) := by
 refine fun_s rfl cd123 rfl rfl rfl (by simp;rfl) (by simp;rfl) ?_
 refine wa_ (wc_region (w_ (a_ (h:=wo_nil (e_ (h:=aft_normal (wa_ (wc_region (w_ (a_ (h:=wo_nil (e_ (h:=aft_normal (wa_ (wa_ (?_))))))))))))))))
 refine wc_region (w_ (m_ (h:=w_ (le (h:=w_ (m_ (h:=wo_nil (e_ (h:=aft_normal (wc_block (?_)))))))))))
 refine wc_loopI (l_or a b 0 (by omega) _ (by simp [normE])) ?_ ?_
 rotate_right 1
 focus
  intro c1
  skip
 rotate_right 1
 focus
  intro c1
  skip
 all_goals first | refine blk_ret ?_ | refine blk_exit ?_
 all_goals first
 | refine aft_ret ?_
 | (
  refine aft_normal ?_
  refine wa_ (wc_region (w_ (m_ (h:=w_ (a_ (h:=wo_nil (e_ (h:=aft_normal (wc_ret (?_))))))))))
  )
 all_goals (refine fin_ (hr:=(res_tmp rfl res_nil)) (h:=?_);(focus (simp at * <;> grind)))
def byC (a b : Ct) : Int := if cmpI a.pl b.pl = 0 then cmpI a.ep b.ep else cmpI a.pl b.pl
theorem e_byC (a b : Ct) : oc.call 90 [a.v,b.v] = some (.int .i64 (byC a b),[]) := by
 refine fun_s rfl cd90 rfl rfl rfl (by simp;rfl) (by simp;rfl) ?_
 refine wa_ (wc_region (w_ (bx (h:=w_ (bx (h:=w_ (a_ (h:=wo_nil (e_ (h:=aft_normal (wa_ (wc_draw (y_ (f_ (h:=ax_ (h:=y_ (l_ (h:=ax_ (h:=y_ (f_ (h:=ax_ (h:=?_))))))))))))))))))))))
 refine y_ (l_ (h:=ax_ (h:=y_ (ca (hc:=e_cmp _ _) (h:=ax_ (h:=y_ (f_ (h:=ax_ (h:=y_ (l_ (h:=ax_ (h:=y_ (f_ (h:=ax_ (h:=y_ (l_ (h:=ax_ (h:=y_ (ca (hc:=e_cmp _ _) (h:=ax_ (h:=y_ (bs (h:=ax_ (h:=y_ (ca (hc:=e_or _ _) (h:=ax_ (h:=y_ (a_ (h:=ax_ (h:=wo_nil (ed (h:=aft_normal (?_)))))))))))))))))))))))))))))))))
 refine wc_ret (?_)
 all_goals (refine fin_ (hr:=(res_tmp rfl res_nil)) (h:=?_);(focus (simp [byC])))
def ahead (a b : Ct) : Bool := if a.pl = b.pl then decide (a.ep < b.ep) else decide (a.pl < b.pl)
theorem e_ahead (a b : Ct) : oc.call 95 [a.v,b.v] = some (.bool (ahead a b),[]) := by
 refine fun_s rfl cd95 rfl rfl rfl (by simp;rfl) (by simp;rfl) ?_
 refine wa_ (wc_region (w_ (bx (h:=w_ (bx (h:=w_ (a_ (h:=wo_nil (e_ (h:=aft_normal (wa_ (wa_ (wc_region (w_ (f_ (h:=w_ (l_ (h:=?_))))))))))))))))))
 refine w_ (f_ (h:=w_ (l_ (h:=w_ (bE (h:=wo_nil (e_ (h:=aft_normal (?_)))))))))
 refine c_ (h1:=?_) (h2:=?_)
 rotate_right 1
 focus
  intro c1
  refine wc_skip (?_)
 rotate_right 1
 focus
  intro c1
  refine wa_ (wc_region (w_ (f_ (h:=w_ (l_ (h:=w_ (f_ (h:=w_ (l_ (h:=w_ (b_ (h:=w_ (a_ (h:=wo_nil (e_ (h:=aft_normal (wc_ret (?_))))))))))))))))))
 all_goals first
 | refine aft_ret ?_
 | (
  refine aft_normal ?_
  refine wa_ (wc_region (w_ (f_ (h:=w_ (l_ (h:=w_ (f_ (h:=w_ (l_ (h:=w_ (b_ (h:=w_ (a_ (h:=wo_nil (e_ (h:=aft_normal (wc_ret (?_))))))))))))))))))
  )
 all_goals (refine fin_ (hr:=(res_tmp rfl res_nil)) (h:=?_);(focus (simp [ahead] at * <;> grind)))
theorem byC_ahead (a b : Ct) : (0≤byC a b) = (ahead a b = false) := by
  simp only [byC,cmpI,ahead];grind
theorem ahead_f {a b : Ct} (h : 0≤byC a b) : ahead a b = false := by rw [byC_ahead] at h;exact h
theorem ahead_t {a b : Ct} (h : byC a b < 0) : ahead a b = true := by
  cases h2 : ahead a b with
  | true => rfl
  | false => rw [← byC_ahead] at h2;omega
def rightC (pl : List Nd) (c : Ct) : Bool := isPl pl c.pl && (inI c.ep 0 1000 && inI c.n (-1000000000000) 1000000000000)
theorem e_isCount (pl : List Nd) (c : Ct) (hp : pl.length < 2000000) : oc.call 42 [.lst false 0 (nds false 0 pl),c.v] = some (.bool (rightC pl c),[]) := by
 refine fun_s rfl cd42 rfl rfl rfl (by simp;rfl) (by simp;rfl) ?_
 refine wa_ (wc_region (w_ (bx (h:=w_ (a_ (h:=wo_nil (e_ (h:=aft_normal (wa_ (wc_region (w_ (m_ (h:=w_ (f_ (h:=w_ (l_ (h:=w_ (ca (hc:=e_isPlace pl _ hp) (h:=?_)))))))))))))))))))
 refine w_ (m_ (h:=?_))
 refine gw_ (h1:=?_) (h2:=?_)
 rotate_right 1
 focus
  intro c1
  refine go_ (h:=go_ (h:=go_ (h:=?_)))
 rotate_right 1
 focus
  intro c1
  refine g_ (h:=w_ (f_ (h:=g_ (h:=w_ (l_ (h:=g_ (h:=w_ (ca (hc:=e_in _ _ _) (h:=?_)))))))))
 all_goals
  refine w_ (pk (h:=w_ (m_ (h:=?_))))
  refine gw_ (h1:=?_) (h2:=?_)
  rotate_right 1
  focus
   intro c2
   refine go_ (h:=go_ (h:=go_ (h:=?_)))
  rotate_right 1
  focus
   intro c2
   refine g_ (h:=w_ (f_ (h:=g_ (h:=w_ (l_ (h:=g_ (h:=w_ (ca (hc:=e_isWeight _) (h:=?_)))))))))
  all_goals
   refine w_ (pk (h:=w_ (a_ (h:=wo_nil (e_ (h:=?_))))))
 all_goals first
 | (
  refine aft_normal ?_
  refine wc_ret (?_)
  )
 all_goals (refine fin_ (hr:=(res_tmp rfl res_nil)) (h:=?_);(focus (simp [rightC] at * <;> grind)))
theorem e_l7Right (pl : List Nd) (c : Ct) (hp : pl.length < 2000000) : oc.call 45 [.lst false 0 (nds false 0 pl),c.v] = some (.bool (rightC pl c),[]) := by
 refine fun_s rfl cd45 rfl rfl rfl (by simp;rfl) (by simp;rfl) ?_
 refine wa_ (wc_region (w_ (bx (h:=w_ (a_ (h:=wo_nil (e_ (h:=aft_normal (wa_ (wc_region (w_ (m_ (h:=w_ (f_ (h:=w_ (l_ (h:=w_ (ca (hc:=e_l7Place pl _ hp) (h:=?_)))))))))))))))))))
 refine w_ (m_ (h:=?_))
 refine gw_ (h1:=?_) (h2:=?_)
 rotate_right 1
 focus
  intro c1
  refine go_ (h:=go_ (h:=go_ (h:=?_)))
 rotate_right 1
 focus
  intro c1
  refine g_ (h:=w_ (f_ (h:=g_ (h:=w_ (l_ (h:=g_ (h:=w_ (ca (hc:=e_l1In _ _ _) (h:=?_)))))))))
 all_goals
  refine w_ (pk (h:=w_ (m_ (h:=?_))))
  refine gw_ (h1:=?_) (h2:=?_)
  rotate_right 1
  focus
   intro c2
   refine go_ (h:=go_ (h:=go_ (h:=?_)))
  rotate_right 1
  focus
   intro c2
   refine g_ (h:=w_ (f_ (h:=g_ (h:=w_ (l_ (h:=g_ (h:=w_ (ca (hc:=e_l1Weight _) (h:=?_)))))))))
  all_goals
   refine w_ (pk (h:=w_ (a_ (h:=wo_nil (e_ (h:=?_))))))
 all_goals first
 | (
  refine aft_normal ?_
  refine wc_ret (?_)
  )
 all_goals (refine fin_ (hr:=(res_tmp rfl res_nil)) (h:=?_);(focus (simp [rightC] at * <;> grind)))
def ctsR (pl : List Nd) : Option Ct→List Ct→Int
  | _,[] => 0
  | p,c :: r => if rightC pl c = false∨c.n = 0 then 3 else if (p.elim false fun q => !ahead q c) = true then 1 else ctsR pl (some c) r
def prevAt (l : List Ct) (i : Nat) : Option Ct := if i = 0 then none else l[i - 1]?
theorem prevAt_succ {l : List Ct} {i : Nat} {c : Ct} (h : l[i]? = some c) : prevAt l (i + 1) = some c := by simp [prevAt,h]
theorem prevAt_pos {l : List Ct} {i : Nat} (h0 : 0 < i) (h : i≤l.length) (hi : i < 2000000000) : ∃ q,prevAt l i = some q∧(cts l)[(IntKind.i64.wrap ((i : Int) - 1)).toNat]? = some q.v∧0≤IntKind.i64.wrap ((i : Int) - 1) := by
  have hw : IntKind.i64.wrap ((i : Int) - 1) = ((i - 1 : Nat) : Int) := by rw [wrap_id (by omega) (by omega)];omega
  have hlt : i - 1 < l.length := by omega
  refine ⟨l[i - 1],?_,?_,by rw [hw];omega⟩
  · unfold prevAt;rw [if_neg (by omega)];simp [hlt]
  · rw [hw];exact cts_at hlt
def ctsF (pl : List Nd) (l : List Ct) : Int := if 200 < l.length then 2 else ctsR pl none l
theorem ctsR_3 {pl : List Nd} {p : Option Ct} {c : Ct} {r : List Ct} (h : rightC pl c = false∨c.n = 0) : ctsR pl p (c :: r) = 3 := by rw [ctsR,if_pos h]
theorem ctsR_1 {pl : List Nd} {p : Option Ct} {c : Ct} {r : List Ct} (h : ¬ (rightC pl c = false∨c.n = 0)) (h2 : (p.elim false fun q => !ahead q c) = true) : ctsR pl p (c :: r) = 1 := by rw [ctsR,if_neg h,if_pos h2]
theorem ctsR_0 {pl : List Nd} {p : Option Ct} {c : Ct} {r : List Ct} (h : ¬ (rightC pl c = false∨c.n = 0)) (h2 : ¬ (p.elim false fun q => !ahead q c) = true) : ctsR pl p (c :: r) = ctsR pl (some c) r := by rw [ctsR,if_neg h,if_neg h2]
theorem l_ctsI (pl : List Nd) (l : List Ct) (hp : pl.length < 2000000) (hl : l.length≤200) : ∀ i : Nat,(i≤l.length)→∀ s,normE 2 (some [0,1,10,11,12]) s = ⟨[(0,.lst false 0 (nds false 0 pl)),(1,.lst false 0 (cts l)),(10,.lst false 0 (cts l)),(11,.int .i64 l.length),(12,.int .i64 i)],[],2⟩ →
 oc.loop 47 4 s = some (if ctsR pl (prevAt l i) (l.drop i) = 0 then (.exit 0,⟨[],[],2⟩) else (.ret,⟨[(4,.int .i64 (ctsR pl (prevAt l i) (l.drop i)))],[],2⟩)) := by
 refine loop_ind (σ:=Nat) (fun i => l.length - i) _ (fun i => ⟨[(0,.lst false 0 (nds false 0 pl)),(1,.lst false 0 (cts l)),(10,.lst false 0 (cts l)),(11,.int .i64 l.length),(12,.int .i64 i)],[],2⟩) _ ?_
 intro i hi ih s hs
 refine loop_s cd47 rfl rfl hs ?_
 refine wa_ (wc_region (w_ (b_ (h:=wo_nil (e_ (h:=aft_normal (wa_ (?_))))))))
 refine c_ (h1:=?_) (h2:=?_)
 rotate_right 1
 focus
  intro c1
  first
  | exact dn c1
  | (
   have d1 := c1;try simp at d1
   refine wc_exit (?_)
   )
 rotate_right 1
 focus
  intro c1
  first
  | exact dn c1
  | (
   have d1 := c1;try simp at d1
   have hw := wrap_succ (i:=i) (by omega);obtain ⟨c,hx,e1,g1⟩ := cts_cut (l:=l) (i:=i) (by omega);have hs1 := prevAt_succ hx
   refine wc_skip (?_)
   )
 all_goals first
 | refine aft_exit ?_
 | (
  refine aft_normal ?_
  refine wa_ (wc_block (wa_ (wc_region (w_ (m_ (h:=w_ (x_ (h:=w_ (l_ (h:=w_ (al (h:=w_ (a_ (h:=w0 (s_ (h:=wo_nil (e_ (h:=aft_normal (?_)))))))))))))))))))
  refine wa_ (wa_ (wc_region (w_ (m_ (h:=w_ (l_ (h:=w_ (ca (hc:=e_isCount pl c hp) (h:=w_ (u_ (h:=w_ (m_ (h:=?_)))))))))))))
  refine gw_ (h1:=?_) (h2:=?_)
  rotate_right 1
  focus
   intro c2
   first
   | exact dn c2
   | (
    have d2 := c2;try simp at d2
    refine go_ (h:=go_ (h:=go_ (h:=?_)))
    )
  rotate_right 1
  focus
   intro c2
   first
   | exact dn c2
   | (
    have d2 := c2;try simp at d2
    refine g_ (h:=w_ (f_ (h:=g_ (h:=w_ (l_ (h:=g_ (h:=w_ (bE (h:=?_)))))))))
    )
  all_goals
   refine w_ (pk (h:=wo_nil (e_ (h:=?_))))
  all_goals first
  | (
   refine aft_normal ?_
   refine c_ (h1:=?_) (h2:=?_)
   rotate_right 1
   focus
    intro c3
    first
    | exact dn c3
    | (
     have d3 := c3;try simp at d3
     refine wc_skip (?_)
     )
   rotate_right 1
   focus
    intro c3
    first
    | exact dn c3
    | (
     have d3 := c3;try simp at d3
     refine wa_ (wc_region (w_ (a_ (h:=wo_nil (e_ (h:=aft_normal (wc_ret (?_))))))))
     )
   )
  all_goals first
  | refine aft_ret ?_
  | (
   refine aft_normal ?_
   refine wa_ (wc_draw (y_ (m_ (h:=ax_ (h:=y_ (b_ (h:=ax_ (h:=y_ (m_ (h:=ax_ (h:=?_)))))))))))
   refine gw_ (h1:=?_) (h2:=?_)
   rotate_right 1
   focus
    intro c4
    first
    | exact dn c4
    | (
     have d4 := c4;try simp at d4
     refine gd_ (h:=gd_ (h:=gd_ (h:=gd_ (h:=gd_ (h:=gd_ (h:=gd_ (h:=gd_ (h:=?_))))))))
     )
   rotate_right 1
   focus
    intro c4
    first
    | exact dn c4
    | (
     have d4 := c4;try simp at d4
     obtain ⟨q,hq,g2,g3⟩ := prevAt_pos (l:=l) (i:=i) (by omega) (by omega) (by omega)
     refine g_ (h:=y_ (m_ (h:=ax_ (h:=g_ (h:=y_ (m_ (h:=ax_ (h:=g_ (h:=y_ (b_ (h:=ax_ (h:=g_ (h:=y_ (x_ (h:=ax_ (h:=g_ (h:=y_ (l_ (h:=ax_ (h:=g_ (h:=y_ (l_ (h:=ax_ (h:=g_ (h:=y_ (ca (hc:=e_byC q c) (h:=ax_ (h:=g_ (h:=y_ (b_ (h:=ax_ (h:=?_))))))))))))))))))))))))))))))))
     )
   all_goals
    refine y_ (pk (h:=ax_ (h:=wo_nil (ed (h:=?_)))))
   all_goals first
   | (
    refine aft_normal ?_
    refine c_ (h1:=?_) (h2:=?_)
    rotate_right 1
    focus
     intro c5
     first
     | exact dn c5
     | (
      have d5 := c5;try simp at d5
      refine wc_skip (?_)
      )
    rotate_right 1
    focus
     intro c5
     first
     | exact dn c5
     | (
      have d5 := c5;try simp at d5
      refine wa_ (wc_region (w_ (a_ (h:=wo_nil (e_ (h:=aft_normal (wc_ret (?_))))))))
      )
    )
   )
  all_goals first | refine blk_normal ?_ | refine blk_ret ?_
  all_goals first
  | refine aft_ret ?_
  | (
   refine aft_normal ?_
   refine wc_region (w_ (b_ (h:=w_ (m_ (h:=wo_nil (e_ (h:=?_)))))))
   )
  )
 all_goals first
 | (refine (ih (i + 1) (by omega) ?_ _ ?_).trans ?_;(focus (first | omega | (simp;done) | (simp;omega)));(focus (simp [normE,hw];done));(focus (rw [hs1,e1,ctsR_0 (by simp [d2,d3]) (by first | (rw [hq];simp [ahead_t d5];done) | (subst d4;simp [prevAt]))])))
 | (apply end_leaf (ex:=Ext.ret) 2 (some [4]);(focus (simp [normE];rfl));(focus (rw [e1,ctsR_3 (by first | exact .inl d2 | exact .inr d3)];simp)))
 | (apply end_leaf (ex:=Ext.ret) 2 (some [4]);(focus (simp [normE];rfl));(focus (rw [e1,ctsR_1 (by simp [d2,d3]) (by rw [hq];simp [ahead_f d5])];simp)))
 | (apply end_leaf (ex:=(Ext.exit 0)) 2 (some [4]);(focus (simp [normE];rfl));(focus (rw [List.drop_eq_nil_of_le (by omega)];simp [ctsR])))
theorem e_ctsF (pl : List Nd) (l : List Ct) (hp : pl.length < 2000000) : oc.call 47 [.lst false 0 (nds false 0 pl),.lst false 0 (cts l)] = some (.int .i64 (ctsF pl l),[]) := by
 refine fun_s rfl cd47 rfl rfl rfl (by simp;rfl) (by simp;rfl) ?_
 refine wa_ (wc_region (w_ (a_ (h:=wo_nil (e_ (h:=aft_normal (wa_ (wa_ (wc_region (w_ (m_ (h:=w_ (le (h:=w_ (b_ (h:=wo_nil (e_ (h:=?_))))))))))))))))))
 refine aft_normal (?_)
 refine c_ (h1:=?_) (h2:=?_)
 rotate_right 1
 focus
  intro c1
  first
  | exact dn c1
  | (
   have d1 := c1;try simp at d1
   refine wc_skip (?_)
   )
 rotate_right 1
 focus
  intro c1
  first
  | exact dn c1
  | (
   have d1 := c1;try simp at d1
   refine wa_ (wc_region (w_ (a_ (h:=wo_nil (e_ (h:=aft_normal (wc_ret (?_))))))))
   )
 all_goals first
 | refine aft_ret ?_
 | (
  refine aft_normal ?_
  refine wa_ (wa_ (wc_region (w_ (m_ (h:=w_ (le (h:=w_ (m_ (h:=wo_nil (e_ (h:=aft_normal (wc_block (?_)))))))))))))
  refine wc_loopI (l_ctsI pl l hp (by omega) 0 (by omega) _ (by simp [normE])) ?_ ?_
  rotate_right 1
  focus
   intro c2
   first
   | exact dn c2
   | (
    have d2 := c2;try simp at d2
    skip
    )
  rotate_right 1
  focus
   intro c2
   first
   | exact dn c2
   | (
    have d2 := c2;try simp at d2
    skip
    )
  all_goals first | refine blk_ret ?_ | refine blk_exit ?_
  all_goals first
  | refine aft_ret ?_
  | (
   refine aft_normal ?_
   refine wa_ (wc_region (w_ (a_ (h:=wo_nil (e_ (h:=aft_normal (wc_ret (?_))))))))
   )
  )
 all_goals (refine fin_ (hr:=(res_tmp rfl res_nil)) (h:=?_);(focus (simp [ctsF,prevAt] at * <;> grind)))
theorem l_ctsS (pl : List Nd) (l : List Ct) (hp : pl.length < 2000000) (hl : l.length≤200) : ∀ i : Nat,(i≤l.length)→∀ s,normE 2 (some [0,1,6]) s = ⟨[(0,.lst false 0 (nds false 0 pl)),(1,.lst false 0 (cts l)),(6,.int .i64 i)],[],2⟩ →
 oc.loop 44 7 s = some (if ctsR pl (prevAt l i) (l.drop i) = 0 then (.exit 0,⟨[],[],2⟩) else (.ret,⟨[(4,.int .i64 (ctsR pl (prevAt l i) (l.drop i)))],[],2⟩)) := by
 refine loop_ind (σ:=Nat) (fun i => l.length - i) _ (fun i => ⟨[(0,.lst false 0 (nds false 0 pl)),(1,.lst false 0 (cts l)),(6,.int .i64 i)],[],2⟩) _ ?_
 intro i hi ih s hs
 refine loop_s cd44 rfl rfl hs ?_
 refine wa_ (wa_ (wc_region (w_ (m_ (h:=w_ (m_ (h:=w_ (le (h:=w_ (b_ (h:=wo_nil (e_ (h:=aft_normal (?_))))))))))))))
 refine c_ (h1:=?_) (h2:=?_)
 rotate_right 1
 focus
  intro c1
  first
  | exact dn c1
  | (
   have d1 := c1;try simp at d1
   refine wc_exit (?_)
   )
 rotate_right 1
 focus
  intro c1
  first
  | exact dn c1
  | (
   have d1 := c1;try simp at d1
   have hw := wrap_succ (i:=i) (by omega);obtain ⟨c,hx,e1,g1⟩ := cts_cut (l:=l) (i:=i) (by omega);have hs1 := prevAt_succ hx
   refine wc_skip (?_)
   )
 all_goals first
 | refine aft_exit ?_
 | (
  refine aft_normal ?_
  refine wa_ (wc_block (wa_ (wa_ (wc_region (w_ (m_ (h:=w_ (m_ (h:=w_ (m_ (h:=w_ (x_ (h:=w_ (l_ (h:=w_ (ca (hc:=e_l7Right pl c hp) (h:=w_ (u_ (h:=?_)))))))))))))))))))
  refine w_ (m_ (h:=?_))
  refine gw_ (h1:=?_) (h2:=?_)
  rotate_right 1
  focus
   intro c2
   first
   | exact dn c2
   | (
    have d2 := c2;try simp at d2
    refine go_ (h:=go_ (h:=go_ (h:=go_ (h:=go_ (h:=go_ (h:=?_))))))
    )
  rotate_right 1
  focus
   intro c2
   first
   | exact dn c2
   | (
    have d2 := c2;try simp at d2
    refine g_ (h:=w_ (m_ (h:=g_ (h:=w_ (m_ (h:=g_ (h:=w_ (x_ (h:=g_ (h:=w_ (f_ (h:=g_ (h:=w_ (l_ (h:=g_ (h:=w_ (bE (h:=?_))))))))))))))))))
    )
  all_goals
   refine w_ (pk (h:=wo_nil (e_ (h:=?_))))
  all_goals first
  | (
   refine aft_normal ?_
   refine c_ (h1:=?_) (h2:=?_)
   rotate_right 1
   focus
    intro c3
    first
    | exact dn c3
    | (
     have d3 := c3;try simp at d3
     refine wc_skip (?_)
     )
   rotate_right 1
   focus
    intro c3
    first
    | exact dn c3
    | (
     have d3 := c3;try simp at d3
     refine wa_ (wc_region (w_ (a_ (h:=wo_nil (e_ (h:=aft_normal (wc_ret (?_))))))))
     )
   )
  all_goals first
  | refine aft_ret ?_
  | (
   refine aft_normal ?_
   refine wa_ (wc_draw (y_ (m_ (h:=ax_ (h:=y_ (b_ (h:=ax_ (h:=y_ (m_ (h:=ax_ (h:=?_)))))))))))
   refine gw_ (h1:=?_) (h2:=?_)
   rotate_right 1
   focus
    intro c4
    first
    | exact dn c4
    | (
     have d4 := c4;try simp at d4
     refine gd_ (h:=gd_ (h:=gd_ (h:=gd_ (h:=gd_ (h:=gd_ (h:=gd_ (h:=gd_ (h:=gd_ (h:=gd_ (h:=gd_ (h:=?_)))))))))))
     )
   rotate_right 1
   focus
    intro c4
    first
    | exact dn c4
    | (
     have d4 := c4;try simp at d4
     obtain ⟨q,hq,g2,g3⟩ := prevAt_pos (l:=l) (i:=i) (by omega) (by omega) (by omega)
     refine g_ (h:=y_ (m_ (h:=ax_ (h:=g_ (h:=y_ (m_ (h:=ax_ (h:=g_ (h:=y_ (b_ (h:=ax_ (h:=g_ (h:=y_ (x_ (h:=ax_ (h:=g_ (h:=y_ (l_ (h:=ax_ (h:=g_ (h:=y_ (m_ (h:=ax_ (h:=g_ (h:=y_ (m_ (h:=ax_ (h:=g_ (h:=y_ (x_ (h:=ax_ (h:=g_ (h:=y_ (l_ (h:=ax_ (h:=g_ (h:=y_ (ca (hc:=e_ahead q c) (h:=ax_ (h:=g_ (h:=y_ (u_ (h:=ax_ (h:=?_))))))))))))))))))))))))))))))))))))))))))))
     )
   all_goals
    refine y_ (pk (h:=ax_ (h:=wo_nil (ed (h:=?_)))))
   all_goals first
   | (
    refine aft_normal ?_
    refine c_ (h1:=?_) (h2:=?_)
    rotate_right 1
    focus
     intro c5
     first
     | exact dn c5
     | (
      have d5 := c5;try simp at d5
      refine wc_skip (?_)
      )
    rotate_right 1
    focus
     intro c5
     first
     | exact dn c5
     | (
      have d5 := c5;try simp at d5
      refine wa_ (wc_region (w_ (a_ (h:=wo_nil (e_ (h:=aft_normal (wc_ret (?_))))))))
      )
    )
   )
  all_goals first | refine blk_normal ?_ | refine blk_ret ?_
  all_goals first
  | refine aft_ret ?_
  | (
   refine aft_normal ?_
   refine wc_region (w_ (m_ (h:=w_ (b_ (h:=w_ (a_ (h:=wo_nil (e_ (h:=?_)))))))))
   )
  )
 all_goals first
 | (refine (ih (i + 1) (by omega) ?_ _ ?_).trans ?_;(focus (first | omega | (simp;done) | (simp;omega)));(focus (simp [normE,hw];done));(focus (rw [hs1,e1,ctsR_0 (by simp [d2,d3]) (by first | (rw [hq];simp [d5];done) | (subst d4;simp [prevAt]))])))
 | (apply end_leaf (ex:=Ext.ret) 2 (some [4]);(focus (simp [normE];rfl));(focus (rw [e1,ctsR_3 (by first | exact .inl d2 | exact .inr d3)];simp)))
 | (apply end_leaf (ex:=Ext.ret) 2 (some [4]);(focus (simp [normE];rfl));(focus (rw [e1,ctsR_1 (by simp [d2,d3]) (by rw [hq];simp [d5])];simp)))
 | (apply end_leaf (ex:=(Ext.exit 0)) 2 (some [4]);(focus (simp [normE];rfl));(focus (rw [List.drop_eq_nil_of_le (by omega)];simp [ctsR])))
def ctsN (pl : List Nd) (l : List Ct) : Int := if (lookN pl).2 = 0 then ctsF pl l else (lookN pl).2
theorem e_ctsFS (pl : List Nd) (l : List Ct) (hp : pl.length < 2000000) (hk : okN pl) : oc.call 44 [.lst false 0 (nds false 0 pl),.lst false 0 (cts l)] = some (.int .i64 (ctsN pl l),[]) := by
 refine fun_s rfl cd44 rfl rfl rfl (by simp;rfl) (by simp;rfl) ?_
 refine wa_ (wc_region (w_ (a_ (h:=wo_nil (e_ (h:=aft_normal (wa_ (wa_ (wc_region (w_ (m_ (h:=w_ (ca (hc:=e_planS pl hp hk) (h:=w_ (a_ (h:=wo_nil (e_ (h:=?_))))))))))))))))))
 refine aft_normal (wa_ (wc_region (w_ (m_ (h:=w_ (bE (h:=wo_nil (e_ (h:=aft_normal (?_))))))))))
 refine c_ (h1:=?_) (h2:=?_)
 rotate_right 1
 focus
  intro c1
  first
  | exact dn c1
  | (
   have d1 := c1;try simp at d1
   refine wc_skip (?_)
   )
 rotate_right 1
 focus
  intro c1
  first
  | exact dn c1
  | (
   have d1 := c1;try simp at d1
   refine wa_ (wc_region (w_ (m_ (h:=w_ (a_ (h:=wo_nil (e_ (h:=aft_normal (wc_ret (?_))))))))))
   )
 all_goals first
 | refine aft_ret ?_
 | (
  refine aft_normal ?_
  refine wa_ (wa_ (wc_region (w_ (m_ (h:=w_ (le (h:=w_ (b_ (h:=wo_nil (e_ (h:=aft_normal (?_))))))))))))
  refine c_ (h1:=?_) (h2:=?_)
  rotate_right 1
  focus
   intro c2
   first
   | exact dn c2
   | (
    have d2 := c2;try simp at d2
    refine wc_skip (?_)
    )
  rotate_right 1
  focus
   intro c2
   first
   | exact dn c2
   | (
    have d2 := c2;try simp at d2
    refine wa_ (wc_region (w_ (a_ (h:=wo_nil (e_ (h:=aft_normal (wc_ret (?_))))))))
    )
  all_goals first
  | refine aft_ret ?_
  | (
   refine aft_normal ?_
   refine wa_ (wa_ (wc_region (w_ (a_ (h:=wo_nil (e_ (h:=aft_normal (wc_block (?_)))))))))
   refine wc_loopI (l_ctsS pl l hp (by omega) 0 (by omega) _ (by simp [normE])) ?_ ?_
   rotate_right 1
   focus
    intro c3
    first
    | exact dn c3
    | (
     have d3 := c3;try simp at d3
     skip
     )
   rotate_right 1
   focus
    intro c3
    first
    | exact dn c3
    | (
     have d3 := c3;try simp at d3
     skip
     )
   all_goals first | refine blk_ret ?_ | refine blk_exit ?_
   all_goals first
   | refine aft_ret ?_
   | (
    refine aft_normal ?_
    refine wa_ (wc_region (w_ (a_ (h:=wo_nil (e_ (h:=aft_normal (wc_ret (?_))))))))
    )
   )
  )
 all_goals (refine fin_ (hr:=(res_tmp rfl res_nil)) (h:=?_);(focus (clear hk;simp [ctsN,ctsF,prevAt] at * <;> grind)))
theorem e_ctsFI (pl : List Nd) (l : List Ct) (hp : pl.length < 2000000) (hk : okN pl) : oc.call 14 [.lst false 0 (nds false 0 pl),.lst false 0 (cts l)] = some (.int .i64 (ctsN pl l),[]) := by
 refine fun_s rfl cd14 rfl rfl rfl (by simp;rfl) (by simp;rfl) ?_
 refine wa_ (wc_region (w_ (a_ (h:=wo_nil (e_ (h:=aft_normal (wa_ (wa_ (wc_region (w_ (m_ (h:=w_ (ca (hc:=e_planI pl hp hk) (h:=w_ (a_ (h:=wo_nil (e_ (h:=?_))))))))))))))))))
 refine aft_normal (wa_ (wc_region (w_ (m_ (h:=w_ (bE (h:=wo_nil (e_ (h:=aft_normal (?_))))))))))
 refine c_ (h1:=?_) (h2:=?_)
 rotate_right 1
 focus
  intro c1
  first
  | exact dn c1
  | (
   have d1 := c1;try simp at d1
   refine wc_skip (?_)
   )
 rotate_right 1
 focus
  intro c1
  first
  | exact dn c1
  | (
   have d1 := c1;try simp at d1
   refine wa_ (wc_region (w_ (m_ (h:=w_ (a_ (h:=wo_nil (e_ (h:=aft_normal (wc_ret (?_))))))))))
   )
 all_goals first
 | refine aft_ret ?_
 | (
  refine aft_normal ?_
  refine wa_ (wc_region (w_ (m_ (h:=w_ (m_ (h:=w_ (ca (hc:=e_ctsF pl l hp) (h:=w_ (a_ (h:=wo_nil (e_ (h:=aft_normal (wc_ret (?_))))))))))))))
  )
 all_goals (refine fin_ (hr:=(res_tmp rfl res_nil)) (h:=?_);(focus (clear hk;simp [ctsN] at * <;> grind)))
end Go.Proofs.Ytbcgenkegnmkhaa.Ev
