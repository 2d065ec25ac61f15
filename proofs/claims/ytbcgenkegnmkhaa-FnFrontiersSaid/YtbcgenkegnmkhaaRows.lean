/-
  No cell of these rows narrows 'for every input' (looked for: loops, veiled, ifaces, maps, wideKeys, modest, calm, conditions, laid).
  DERIVED. THE GIVEN ROWS OF THIS SEAT. 3 by the template 'for every input the law returns true; each argument reads behind the call as it read before'; 0 by the template 'total and deterministic' (their statements: YtbcgenkegnmkhaaTotals.lean).
  GIVEN WITH THE SEED: the statements are not yours to turn. If you find one false, say at which input.
  Laid BY PROGRAM, IN A SANDBOX (cutbox-rows.mjs): the forced cells as the released guide's own fill.sh prints them over the translation f9510bf7a78d4300… (all of the seat's roots in one cut). By AI agents, Wed Nov 11 2026. No macro, syntax, notation, axiom, sorry.
-/
import Derived.Test.YtbcgenkegnmkhaaChecked
import GoSem.Claim
import GoSem.ClaimJoined
import GoSem.ClaimMapViews
import Derived.JoinedTies
import Derived.KernelRfl
namespace Go.Proofs.Ytbcgenkegnmkhaa
/- THE CELL 'sum', in the pinned program and in every row, IS THE sha256 OF THE DUMP (.gsa) THAT YtbcgenkegnmkhaaProg.lean LOADS. Nothing in Lean hashes anything: it is a label: what it is worth is what the hold of that sum in a sandbox is worth. -/
noncomputable def Try.pinned : Pinned := { name := "ytbcgenkegnmkhaa", sum := "f9510bf7a78d4300e8b134b6116eb48d9a5db6baecb1ddccc4988be9ffb55517", checked := Try.checked }
namespace Rows
def none {H : Type} : Left H := { results := [], args := [] }

/-- 'laws.FnLeads': WHATEVER THE INPUT: true; the input reads as it did. -/
def fnLeadsSpec : ChangeSpec := { name := "fnLeads", fn := fun _ => fun
  | [d] => { results := [.lit (.bool true)], args := [d] }
  | _ => none }
def fnLeadsRow : OpenClaim := { program := "ytbcgenkegnmkhaa", sum := "f9510bf7a78d4300e8b134b6116eb48d9a5db6baecb1ddccc4988be9ffb55517", func := "loop.example/g00160/laws.FnLeads", spec := "fnLeads", unfollowed := true, recurses := true, apart := false }
def FnLeadsSaid : Prop := fnLeadsRow.holds Try.pinned (OpenSpec.ofChange fnLeadsSpec)

/-- ITS FALSE NEIGHBOUR: 'it returns false'. Refute it at one input. -/
def fnLeadsWrong : ChangeSpec := { name := "fnLeads", fn := fun _ => fun
  | [d] => { results := [.lit (.bool false)], args := [d] }
  | _ => none }
def FnLeadsWrongFalsely : Prop := fnLeadsRow.holds Try.pinned (OpenSpec.ofChange fnLeadsWrong)

/-- 'laws.FnFrontiers': WHATEVER THE INPUT: true; the input reads as it did. -/
def fnFrontiersSpec : ChangeSpec := { name := "fnFrontiers", fn := fun _ => fun
  | [d] => { results := [.lit (.bool true)], args := [d] }
  | _ => none }
def fnFrontiersRow : OpenClaim := { program := "ytbcgenkegnmkhaa", sum := "f9510bf7a78d4300e8b134b6116eb48d9a5db6baecb1ddccc4988be9ffb55517", func := "loop.example/g00160/laws.FnFrontiers", spec := "fnFrontiers", unfollowed := true, recurses := true, apart := false }
def FnFrontiersSaid : Prop := fnFrontiersRow.holds Try.pinned (OpenSpec.ofChange fnFrontiersSpec)

/-- ITS FALSE NEIGHBOUR: 'it returns false'. Refute it at one input. -/
def fnFrontiersWrong : ChangeSpec := { name := "fnFrontiers", fn := fun _ => fun
  | [d] => { results := [.lit (.bool false)], args := [d] }
  | _ => none }
def FnFrontiersWrongFalsely : Prop := fnFrontiersRow.holds Try.pinned (OpenSpec.ofChange fnFrontiersWrong)

/-- 'laws.FnExactSendsOf': WHATEVER THE INPUT: true; the input reads as it did. -/
def fnExactSendsOfSpec : ChangeSpec := { name := "fnExactSendsOf", fn := fun _ => fun
  | [d1, d2, d3, d4, d5, d6] => { results := [.lit (.bool true)], args := [d1, d2, d3, d4, d5, d6] }
  | _ => none }
def fnExactSendsOfRow : OpenClaim := { program := "ytbcgenkegnmkhaa", sum := "f9510bf7a78d4300e8b134b6116eb48d9a5db6baecb1ddccc4988be9ffb55517", func := "loop.example/g00160/laws.FnExactSendsOf", spec := "fnExactSendsOf", unfollowed := true, recurses := true, apart := false }
def FnExactSendsOfSaid : Prop := fnExactSendsOfRow.holds Try.pinned (OpenSpec.ofChange fnExactSendsOfSpec)

/-- ITS FALSE NEIGHBOUR: 'it returns false'. Refute it at one input. -/
def fnExactSendsOfWrong : ChangeSpec := { name := "fnExactSendsOf", fn := fun _ => fun
  | [d1, d2, d3, d4, d5, d6] => { results := [.lit (.bool false)], args := [d1, d2, d3, d4, d5, d6] }
  | _ => none }
def FnExactSendsOfWrongFalsely : Prop := fnExactSendsOfRow.holds Try.pinned (OpenSpec.ofChange fnExactSendsOfWrong)

/- THE SECOND FORM. 'bulk': how many values and letters a reading holds, each counted each time it is reached (what is shared counts as often as it is met; a slice's spare places count too). A statement '..UptoSaid' is the law's where the arguments, and the package variables that the reading takes, are together of bulk at most 1048576: NARROWER than '..Said'. Prove '..Said' where nothing that the law and all that it calls make is longer than what came in: it says more and counts as full. Else prove '..UptoSaid'. A law counts once. -/
mutual
def uptoBulk {H : Type} : DataW H → Nat
  | .lit (.string bytes) => bytes.length + 1
  | .lit _ => 1
  | .nil => 1
  | .ptr d => uptoBulk d + 1
  | .slice elems spare => uptoBulkAll elems + uptoBulkAll spare + 1
  | .agg parts => uptoBulkAll parts + 1
  | .iface _ d => uptoBulk d + 1
  | .map entries => uptoBulkEntries entries + 1
  | .held _ => 1
def uptoBulkAll {H : Type} : List (DataW H) → Nat
  | [] => 0
  | d :: r => uptoBulk d + uptoBulkAll r
def uptoBulkEntries {H : Type} : List (Lit × DataW H) → Nat
  | [] => 0
  | x :: r => uptoBulkEntry x + uptoBulkEntries r
def uptoBulkEntry {H : Type} : Lit × DataW H → Nat
  | (.string bytes, d) => bytes.length + uptoBulk d + 1
  | (_, d) => uptoBulk d + 1
 end
def uptoSmall : (H : Type) → List (DataW H) → Bool := fun _ ds => decide (uptoBulkAll ds ≤ 1048576)
def OpenSpec.upto (s : _root_.Go.ChangeSpec) : _root_.Go.OpenSpec := { _root_.Go.OpenSpec.ofChange s with cond := some uptoSmall }

/-- 'laws.FnLeads', WHERE WHAT IT READS IS OF BULK AT MOST 1048576: true; the input reads as it did. -/
def fnLeadsUptoRow : OpenClaim := { program := "ytbcgenkegnmkhaa", sum := "f9510bf7a78d4300e8b134b6116eb48d9a5db6baecb1ddccc4988be9ffb55517", func := "loop.example/g00160/laws.FnLeads", spec := "fnLeads", unfollowed := true, recurses := true, apart := false, narrowed := true }
def FnLeadsUptoSaid : Prop := fnLeadsUptoRow.holds Try.pinned (OpenSpec.upto fnLeadsSpec)

/-- 'laws.FnFrontiers', WHERE WHAT IT READS IS OF BULK AT MOST 1048576: true; the input reads as it did. -/
def fnFrontiersUptoRow : OpenClaim := { program := "ytbcgenkegnmkhaa", sum := "f9510bf7a78d4300e8b134b6116eb48d9a5db6baecb1ddccc4988be9ffb55517", func := "loop.example/g00160/laws.FnFrontiers", spec := "fnFrontiers", unfollowed := true, recurses := true, apart := false, narrowed := true }
def FnFrontiersUptoSaid : Prop := fnFrontiersUptoRow.holds Try.pinned (OpenSpec.upto fnFrontiersSpec)

/-- 'laws.FnExactSendsOf', WHERE WHAT IT READS IS OF BULK AT MOST 1048576: true; the input reads as it did. -/
def fnExactSendsOfUptoRow : OpenClaim := { program := "ytbcgenkegnmkhaa", sum := "f9510bf7a78d4300e8b134b6116eb48d9a5db6baecb1ddccc4988be9ffb55517", func := "loop.example/g00160/laws.FnExactSendsOf", spec := "fnExactSendsOf", unfollowed := true, recurses := true, apart := false, narrowed := true }
def FnExactSendsOfUptoSaid : Prop := fnExactSendsOfUptoRow.holds Try.pinned (OpenSpec.upto fnExactSendsOfSpec)

end Rows
end Go.Proofs.Ytbcgenkegnmkhaa
