/-
  No cell of these rows narrows 'for every input' (looked for: loops, veiled, ifaces, maps, wideKeys, modest, calm, conditions, laid).
  DERIVED. THE GIVEN ROWS OF THIS SEAT. 3 by the template 'for every input the law returns true; each argument reads behind the call as it read before'; 0 by the template 'total and deterministic' (their statements: YtgkbmiaimjpbfaaGreatTotals.lean).
  GIVEN WITH THE SEED: the statements are not yours to turn. If you find one false, say at which input.
  Laid BY PROGRAM, IN A SANDBOX (cutbox-rows.mjs): the forced cells as the released guide's own fill.sh prints them over the translation 56e98ea03d502b3a… (all of the seat's roots in one cut). By AI agents, Wed Nov 11 2026. No macro, syntax, notation, axiom, sorry.
-/
import Derived.Test.YtgkbmiaimjpbfaaGreatChecked
import GoSem.Claim
import GoSem.ClaimJoined
import GoSem.ClaimMapViews
import Derived.JoinedTies
import Derived.KernelRfl
namespace Go.Proofs.YtgkbmiaimjpbfaaGreat
/- THE CELL 'sum', in the pinned program and in every row, IS THE sha256 OF THE DUMP (.gsa) THAT YtgkbmiaimjpbfaaGreatProg.lean LOADS. Nothing in Lean hashes anything: it is a label: what it is worth is what the hold of that sum in a sandbox is worth. -/
noncomputable def Tryz.pinned : Pinned := { name := "ytgkbmiaimjpbfaagreat", sum := "56e98ea03d502b3a4a36fd55b5d380ed8f0d5ef6c0f948f866a468578b533ce5", checked := Tryz.checked }
namespace Rows
def none {H : Type} : Left H := { results := [], args := [] }

/-- 'laws.FnExactWorkerFault': WHATEVER THE INPUT: true; the input reads as it did. -/
def fnExactWorkerFaultSpec : ChangeSpec := { name := "fnExactWorkerFault", fn := fun _ => fun
  | [d1, d2] => { results := [.lit (.bool true)], args := [d1, d2] }
  | _ => none }
def fnExactWorkerFaultRow : OpenClaim := { program := "ytgkbmiaimjpbfaagreat", sum := "56e98ea03d502b3a4a36fd55b5d380ed8f0d5ef6c0f948f866a468578b533ce5", func := "loop.example/g00160/laws.FnExactWorkerFault", spec := "fnExactWorkerFault", recurses := true, apart := false }
def FnExactWorkerFaultSaid : Prop := fnExactWorkerFaultRow.holds Tryz.pinned (OpenSpec.ofChange fnExactWorkerFaultSpec)

/-- ITS FALSE NEIGHBOUR: 'it returns false'. Refute it at one input. -/
def fnExactWorkerFaultWrong : ChangeSpec := { name := "fnExactWorkerFault", fn := fun _ => fun
  | [d1, d2] => { results := [.lit (.bool false)], args := [d1, d2] }
  | _ => none }
def FnExactWorkerFaultWrongFalsely : Prop := fnExactWorkerFaultRow.holds Tryz.pinned (OpenSpec.ofChange fnExactWorkerFaultWrong)

/-- 'laws.FnExactClusterFault': WHATEVER THE INPUT: true; the input reads as it did. -/
def fnExactClusterFaultSpec : ChangeSpec := { name := "fnExactClusterFault", fn := fun _ => fun
  | [d] => { results := [.lit (.bool true)], args := [d] }
  | _ => none }
def fnExactClusterFaultRow : OpenClaim := { program := "ytgkbmiaimjpbfaagreat", sum := "56e98ea03d502b3a4a36fd55b5d380ed8f0d5ef6c0f948f866a468578b533ce5", func := "loop.example/g00160/laws.FnExactClusterFault", spec := "fnExactClusterFault", unfollowed := true, recurses := true, apart := false }
def FnExactClusterFaultSaid : Prop := fnExactClusterFaultRow.holds Tryz.pinned (OpenSpec.ofChange fnExactClusterFaultSpec)

/-- ITS FALSE NEIGHBOUR: 'it returns false'. Refute it at one input. -/
def fnExactClusterFaultWrong : ChangeSpec := { name := "fnExactClusterFault", fn := fun _ => fun
  | [d] => { results := [.lit (.bool false)], args := [d] }
  | _ => none }
def FnExactClusterFaultWrongFalsely : Prop := fnExactClusterFaultRow.holds Tryz.pinned (OpenSpec.ofChange fnExactClusterFaultWrong)

/-- 'laws.FnExactInFlight': WHATEVER THE INPUT: true; the input reads as it did. -/
def fnExactInFlightSpec : ChangeSpec := { name := "fnExactInFlight", fn := fun _ => fun
  | [d] => { results := [.lit (.bool true)], args := [d] }
  | _ => none }
def fnExactInFlightRow : OpenClaim := { program := "ytgkbmiaimjpbfaagreat", sum := "56e98ea03d502b3a4a36fd55b5d380ed8f0d5ef6c0f948f866a468578b533ce5", func := "loop.example/g00160/laws.FnExactInFlight", spec := "fnExactInFlight", unfollowed := true, recurses := true, apart := false }
def FnExactInFlightSaid : Prop := fnExactInFlightRow.holds Tryz.pinned (OpenSpec.ofChange fnExactInFlightSpec)

/-- ITS FALSE NEIGHBOUR: 'it returns false'. Refute it at one input. -/
def fnExactInFlightWrong : ChangeSpec := { name := "fnExactInFlight", fn := fun _ => fun
  | [d] => { results := [.lit (.bool false)], args := [d] }
  | _ => none }
def FnExactInFlightWrongFalsely : Prop := fnExactInFlightRow.holds Tryz.pinned (OpenSpec.ofChange fnExactInFlightWrong)

/- THE SECOND FORM. 'bulk': how many values and letters a reading holds, each counted each time it is reached (what is shared counts as often as it is met; a slice's spare places count too). A statement '..UptoSaid' is the law's where the arguments, and the package variables that the reading takes, are together of bulk at most 1048576: NARROWER than '..Said'. Prove '..Said' where nothing that the law and all that it calls make is longer than what came in: it says more and counts as full. Else prove '..UptoSaid'. A law counts once. -/
mutual
def uptoBulk {H : Type} : DataW H → Nat
  | .lit (.string bytes) => bytes.length + 1
  | .lit _ => 1
  | .nil => 1
  | .ptr d => uptoBulk d + 1
  | .slice elems spare => uptoBulkAll elems + uptoBulkAll spare + 1
  | .agg parts => uptoBulkAll parts + 1
  | .iface _ d => uptoBulk d + 1
  | .map entries => uptoBulkEntries entries + 1
  | .held _ => 1
def uptoBulkAll {H : Type} : List (DataW H) → Nat
  | [] => 0
  | d :: r => uptoBulk d + uptoBulkAll r
def uptoBulkEntries {H : Type} : List (Lit × DataW H) → Nat
  | [] => 0
  | x :: r => uptoBulkEntry x + uptoBulkEntries r
def uptoBulkEntry {H : Type} : Lit × DataW H → Nat
  | (.string bytes, d) => bytes.length + uptoBulk d + 1
  | (_, d) => uptoBulk d + 1
 end
def uptoSmall : (H : Type) → List (DataW H) → Bool := fun _ ds => decide (uptoBulkAll ds ≤ 1048576)
def OpenSpec.upto (s : _root_.Go.ChangeSpec) : _root_.Go.OpenSpec := { _root_.Go.OpenSpec.ofChange s with cond := some uptoSmall }

/-- 'laws.FnExactWorkerFault', WHERE WHAT IT READS IS OF BULK AT MOST 1048576: true; the input reads as it did. -/
def fnExactWorkerFaultUptoRow : OpenClaim := { program := "ytgkbmiaimjpbfaagreat", sum := "56e98ea03d502b3a4a36fd55b5d380ed8f0d5ef6c0f948f866a468578b533ce5", func := "loop.example/g00160/laws.FnExactWorkerFault", spec := "fnExactWorkerFault", recurses := true, apart := false, narrowed := true }
def FnExactWorkerFaultUptoSaid : Prop := fnExactWorkerFaultUptoRow.holds Tryz.pinned (OpenSpec.upto fnExactWorkerFaultSpec)

/-- 'laws.FnExactClusterFault', WHERE WHAT IT READS IS OF BULK AT MOST 1048576: true; the input reads as it did. -/
def fnExactClusterFaultUptoRow : OpenClaim := { program := "ytgkbmiaimjpbfaagreat", sum := "56e98ea03d502b3a4a36fd55b5d380ed8f0d5ef6c0f948f866a468578b533ce5", func := "loop.example/g00160/laws.FnExactClusterFault", spec := "fnExactClusterFault", unfollowed := true, recurses := true, apart := false, narrowed := true }
def FnExactClusterFaultUptoSaid : Prop := fnExactClusterFaultUptoRow.holds Tryz.pinned (OpenSpec.upto fnExactClusterFaultSpec)

/-- 'laws.FnExactInFlight', WHERE WHAT IT READS IS OF BULK AT MOST 1048576: true; the input reads as it did. -/
def fnExactInFlightUptoRow : OpenClaim := { program := "ytgkbmiaimjpbfaagreat", sum := "56e98ea03d502b3a4a36fd55b5d380ed8f0d5ef6c0f948f866a468578b533ce5", func := "loop.example/g00160/laws.FnExactInFlight", spec := "fnExactInFlight", unfollowed := true, recurses := true, apart := false, narrowed := true }
def FnExactInFlightUptoSaid : Prop := fnExactInFlightUptoRow.holds Tryz.pinned (OpenSpec.upto fnExactInFlightSpec)

end Rows
end Go.Proofs.YtgkbmiaimjpbfaaGreat
