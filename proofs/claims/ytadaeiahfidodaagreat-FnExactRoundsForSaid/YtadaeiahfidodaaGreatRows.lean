/-
  No cell of these rows narrows 'for every input' (looked for: loops, veiled, ifaces, maps, wideKeys, modest, calm, conditions, laid).
  DERIVED. THE GIVEN ROWS OF THIS SEAT. 3 by the template 'for every input the law returns true; each argument reads behind the call as it read before'; 0 by the template 'total and deterministic' (their statements: YtadaeiahfidodaaGreatTotals.lean).
  GIVEN WITH THE SEED: the statements are not yours to turn. If you find one false, say at which input.
  Laid BY PROGRAM, IN A SANDBOX (cutbox-rows.mjs): the forced cells as the released guide's own fill.sh prints them over the translation 60facd1686f0604a… (all of the seat's roots in one cut). By AI agents, Wed Nov 11 2026. No macro, syntax, notation, axiom, sorry.
-/
import Derived.Test.YtadaeiahfidodaaGreatChecked
import GoSem.Claim
import GoSem.ClaimJoined
import GoSem.ClaimMapViews
import Derived.JoinedTies
import Derived.KernelRfl
namespace Go.Proofs.YtadaeiahfidodaaGreat
/- THE CELL 'sum', in the pinned program and in every row, IS THE sha256 OF THE DUMP (.gsa) THAT YtadaeiahfidodaaGreatProg.lean LOADS. Nothing in Lean hashes anything: it is a label: what it is worth is what the hold of that sum in a sandbox is worth. -/
noncomputable def Tryz.pinned : Pinned := { name := "ytadaeiahfidodaagreat", sum := "60facd1686f0604ab4496d11c1d73ffb099e3b0d5aa1268f6da2e2f4b29814af", checked := Tryz.checked }
namespace Rows
def none {H : Type} : Left H := { results := [], args := [] }

/-- 'laws.FnExactInFlight': WHATEVER THE INPUT: true; the input reads as it did. -/
def fnExactInFlightSpec : ChangeSpec := { name := "fnExactInFlight", fn := fun _ => fun
  | [d] => { results := [.lit (.bool true)], args := [d] }
  | _ => none }
def fnExactInFlightRow : OpenClaim := { program := "ytadaeiahfidodaagreat", sum := "60facd1686f0604ab4496d11c1d73ffb099e3b0d5aa1268f6da2e2f4b29814af", func := "loop.example/g00160/laws.FnExactInFlight", spec := "fnExactInFlight", unfollowed := true, recurses := true, apart := false }
def FnExactInFlightSaid : Prop := fnExactInFlightRow.holds Tryz.pinned (OpenSpec.ofChange fnExactInFlightSpec)

/-- ITS FALSE NEIGHBOUR: 'it returns false'. Refute it at one input. -/
def fnExactInFlightWrong : ChangeSpec := { name := "fnExactInFlight", fn := fun _ => fun
  | [d] => { results := [.lit (.bool false)], args := [d] }
  | _ => none }
def FnExactInFlightWrongFalsely : Prop := fnExactInFlightRow.holds Tryz.pinned (OpenSpec.ofChange fnExactInFlightWrong)

/-- 'laws.FnExactToldBy': WHATEVER THE INPUT: true; the input reads as it did. -/
def fnExactToldBySpec : ChangeSpec := { name := "fnExactToldBy", fn := fun _ => fun
  | [d1, d2] => { results := [.lit (.bool true)], args := [d1, d2] }
  | _ => none }
def fnExactToldByRow : OpenClaim := { program := "ytadaeiahfidodaagreat", sum := "60facd1686f0604ab4496d11c1d73ffb099e3b0d5aa1268f6da2e2f4b29814af", func := "loop.example/g00160/laws.FnExactToldBy", spec := "fnExactToldBy", unfollowed := true, recurses := true, apart := false }
def FnExactToldBySaid : Prop := fnExactToldByRow.holds Tryz.pinned (OpenSpec.ofChange fnExactToldBySpec)

/-- ITS FALSE NEIGHBOUR: 'it returns false'. Refute it at one input. -/
def fnExactToldByWrong : ChangeSpec := { name := "fnExactToldBy", fn := fun _ => fun
  | [d1, d2] => { results := [.lit (.bool false)], args := [d1, d2] }
  | _ => none }
def FnExactToldByWrongFalsely : Prop := fnExactToldByRow.holds Tryz.pinned (OpenSpec.ofChange fnExactToldByWrong)

/-- 'laws.FnExactRoundsFor': WHATEVER THE INPUT: true; the input reads as it did. -/
def fnExactRoundsForSpec : ChangeSpec := { name := "fnExactRoundsFor", fn := fun _ => fun
  | [d] => { results := [.lit (.bool true)], args := [d] }
  | _ => none }
def fnExactRoundsForRow : OpenClaim := { program := "ytadaeiahfidodaagreat", sum := "60facd1686f0604ab4496d11c1d73ffb099e3b0d5aa1268f6da2e2f4b29814af", func := "loop.example/g00160/laws.FnExactRoundsFor", spec := "fnExactRoundsFor", unfollowed := true, recurses := true, apart := false }
def FnExactRoundsForSaid : Prop := fnExactRoundsForRow.holds Tryz.pinned (OpenSpec.ofChange fnExactRoundsForSpec)

/-- ITS FALSE NEIGHBOUR: 'it returns false'. Refute it at one input. -/
def fnExactRoundsForWrong : ChangeSpec := { name := "fnExactRoundsFor", fn := fun _ => fun
  | [d] => { results := [.lit (.bool false)], args := [d] }
  | _ => none }
def FnExactRoundsForWrongFalsely : Prop := fnExactRoundsForRow.holds Tryz.pinned (OpenSpec.ofChange fnExactRoundsForWrong)

/- THE SECOND FORM. 'bulk': how many values and letters a reading holds, each counted each time it is reached (what is shared counts as often as it is met; a slice's spare places count too). A statement '..UptoSaid' is the law's where the arguments, and the package variables that the reading takes, are together of bulk at most 1048576: NARROWER than '..Said'. Prove '..Said' where nothing that the law and all that it calls make is longer than what came in: it says more and counts as full. Else prove '..UptoSaid'. A law counts once. -/
mutual
def uptoBulk {H : Type} : DataW H → Nat
  | .lit (.string bytes) => bytes.length + 1
  | .lit _ => 1
  | .nil => 1
  | .ptr d => uptoBulk d + 1
  | .slice elems spare => uptoBulkAll elems + uptoBulkAll spare + 1
  | .agg parts => uptoBulkAll parts + 1
  | .iface _ d => uptoBulk d + 1
  | .map entries => uptoBulkEntries entries + 1
  | .held _ => 1
def uptoBulkAll {H : Type} : List (DataW H) → Nat
  | [] => 0
  | d :: r => uptoBulk d + uptoBulkAll r
def uptoBulkEntries {H : Type} : List (Lit × DataW H) → Nat
  | [] => 0
  | x :: r => uptoBulkEntry x + uptoBulkEntries r
def uptoBulkEntry {H : Type} : Lit × DataW H → Nat
  | (.string bytes, d) => bytes.length + uptoBulk d + 1
  | (_, d) => uptoBulk d + 1
 end
def uptoSmall : (H : Type) → List (DataW H) → Bool := fun _ ds => decide (uptoBulkAll ds ≤ 1048576)
def OpenSpec.upto (s : _root_.Go.ChangeSpec) : _root_.Go.OpenSpec := { _root_.Go.OpenSpec.ofChange s with cond := some uptoSmall }

/-- 'laws.FnExactInFlight', WHERE WHAT IT READS IS OF BULK AT MOST 1048576: true; the input reads as it did. -/
def fnExactInFlightUptoRow : OpenClaim := { program := "ytadaeiahfidodaagreat", sum := "60facd1686f0604ab4496d11c1d73ffb099e3b0d5aa1268f6da2e2f4b29814af", func := "loop.example/g00160/laws.FnExactInFlight", spec := "fnExactInFlight", unfollowed := true, recurses := true, apart := false, narrowed := true }
def FnExactInFlightUptoSaid : Prop := fnExactInFlightUptoRow.holds Tryz.pinned (OpenSpec.upto fnExactInFlightSpec)

/-- 'laws.FnExactToldBy', WHERE WHAT IT READS IS OF BULK AT MOST 1048576: true; the input reads as it did. -/
def fnExactToldByUptoRow : OpenClaim := { program := "ytadaeiahfidodaagreat", sum := "60facd1686f0604ab4496d11c1d73ffb099e3b0d5aa1268f6da2e2f4b29814af", func := "loop.example/g00160/laws.FnExactToldBy", spec := "fnExactToldBy", unfollowed := true, recurses := true, apart := false, narrowed := true }
def FnExactToldByUptoSaid : Prop := fnExactToldByUptoRow.holds Tryz.pinned (OpenSpec.upto fnExactToldBySpec)

/-- 'laws.FnExactRoundsFor', WHERE WHAT IT READS IS OF BULK AT MOST 1048576: true; the input reads as it did. -/
def fnExactRoundsForUptoRow : OpenClaim := { program := "ytadaeiahfidodaagreat", sum := "60facd1686f0604ab4496d11c1d73ffb099e3b0d5aa1268f6da2e2f4b29814af", func := "loop.example/g00160/laws.FnExactRoundsFor", spec := "fnExactRoundsFor", unfollowed := true, recurses := true, apart := false, narrowed := true }
def FnExactRoundsForUptoSaid : Prop := fnExactRoundsForUptoRow.holds Tryz.pinned (OpenSpec.upto fnExactRoundsForSpec)

end Rows
end Go.Proofs.YtadaeiahfidodaaGreat
