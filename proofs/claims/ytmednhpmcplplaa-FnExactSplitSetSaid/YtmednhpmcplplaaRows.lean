/-
  No cell of these rows narrows 'for every input' (looked for: loops, veiled, ifaces, maps, wideKeys, modest, calm, conditions, laid).
  DERIVED. THE GIVEN ROWS OF THIS SEAT. 12 by the template 'for every input the law returns true; each argument reads behind the call as it read before'; 0 by the template 'total and deterministic' (their statements: YtmednhpmcplplaaTotals.lean).
  GIVEN WITH THE SEED: the statements are not yours to turn. If you find one false, say at which input.
  Laid BY PROGRAM, IN A SANDBOX (cutbox-rows.mjs): the forced cells as the released guide's own fill.sh prints them over the translation 97c178e783ccb277… (all of the seat's roots in one cut). By AI agents, Wed Nov 11 2026. No macro, syntax, notation, axiom, sorry.
-/
import Derived.Test.YtmednhpmcplplaaChecked
import GoSem.Claim
import GoSem.ClaimJoined
import GoSem.ClaimMapViews
import Derived.JoinedTies
import Derived.KernelRfl
namespace Go.Proofs.Ytmednhpmcplplaa
/- THE CELL 'sum', in the pinned program and in every row, IS THE sha256 OF THE DUMP (.gsa) THAT YtmednhpmcplplaaProg.lean LOADS. Nothing in Lean hashes anything: it is a label: what it is worth is what the hold of that sum in a sandbox is worth. -/
noncomputable def Try.pinned : Pinned := { name := "ytmednhpmcplplaa", sum := "97c178e783ccb277569f0d9fefea233aca118d196ad9ab12ed6c77b96645f6d2", checked := Try.checked }
namespace Rows
def none {H : Type} : Left H := { results := [], args := [] }

/-- 'laws.FnExactShardOf': WHATEVER THE INPUT: true; the input reads as it did. -/
def fnExactShardOfSpec : ChangeSpec := { name := "fnExactShardOf", fn := fun _ => fun
  | [d1, d2, d3] => { results := [.lit (.bool true)], args := [d1, d2, d3] }
  | _ => none }
def fnExactShardOfRow : OpenClaim := { program := "ytmednhpmcplplaa", sum := "97c178e783ccb277569f0d9fefea233aca118d196ad9ab12ed6c77b96645f6d2", func := "loop.example/g00160/laws.FnExactShardOf", spec := "fnExactShardOf", apart := false }
def FnExactShardOfSaid : Prop := fnExactShardOfRow.holds Try.pinned (OpenSpec.ofChange fnExactShardOfSpec)

/-- ITS FALSE NEIGHBOUR: 'it returns false'. Refute it at one input. -/
def fnExactShardOfWrong : ChangeSpec := { name := "fnExactShardOf", fn := fun _ => fun
  | [d1, d2, d3] => { results := [.lit (.bool false)], args := [d1, d2, d3] }
  | _ => none }
def FnExactShardOfWrongFalsely : Prop := fnExactShardOfRow.holds Try.pinned (OpenSpec.ofChange fnExactShardOfWrong)

/-- 'laws.FnExactSplitSet': WHATEVER THE INPUT: true; the input reads as it did. -/
def fnExactSplitSetSpec : ChangeSpec := { name := "fnExactSplitSet", fn := fun _ => fun
  | [d1, d2, d3] => { results := [.lit (.bool true)], args := [d1, d2, d3] }
  | _ => none }
def fnExactSplitSetRow : OpenClaim := { program := "ytmednhpmcplplaa", sum := "97c178e783ccb277569f0d9fefea233aca118d196ad9ab12ed6c77b96645f6d2", func := "loop.example/g00160/laws.FnExactSplitSet", spec := "fnExactSplitSet", unfollowed := true, recurses := true, apart := false }
def FnExactSplitSetSaid : Prop := fnExactSplitSetRow.holds Try.pinned (OpenSpec.ofChange fnExactSplitSetSpec)

/-- ITS FALSE NEIGHBOUR: 'it returns false'. Refute it at one input. -/
def fnExactSplitSetWrong : ChangeSpec := { name := "fnExactSplitSet", fn := fun _ => fun
  | [d1, d2, d3] => { results := [.lit (.bool false)], args := [d1, d2, d3] }
  | _ => none }
def FnExactSplitSetWrongFalsely : Prop := fnExactSplitSetRow.holds Try.pinned (OpenSpec.ofChange fnExactSplitSetWrong)

/-- 'laws.FnLeads': WHATEVER THE INPUT: true; the input reads as it did. -/
def fnLeadsSpec : ChangeSpec := { name := "fnLeads", fn := fun _ => fun
  | [d] => { results := [.lit (.bool true)], args := [d] }
  | _ => none }
def fnLeadsRow : OpenClaim := { program := "ytmednhpmcplplaa", sum := "97c178e783ccb277569f0d9fefea233aca118d196ad9ab12ed6c77b96645f6d2", func := "loop.example/g00160/laws.FnLeads", spec := "fnLeads", unfollowed := true, recurses := true, apart := false }
def FnLeadsSaid : Prop := fnLeadsRow.holds Try.pinned (OpenSpec.ofChange fnLeadsSpec)

/-- ITS FALSE NEIGHBOUR: 'it returns false'. Refute it at one input. -/
def fnLeadsWrong : ChangeSpec := { name := "fnLeads", fn := fun _ => fun
  | [d] => { results := [.lit (.bool false)], args := [d] }
  | _ => none }
def FnLeadsWrongFalsely : Prop := fnLeadsRow.holds Try.pinned (OpenSpec.ofChange fnLeadsWrong)

/-- 'laws.FnExactLeadsTo': WHATEVER THE INPUT: true; the input reads as it did. -/
def fnExactLeadsToSpec : ChangeSpec := { name := "fnExactLeadsTo", fn := fun _ => fun
  | [d1, d2, d3] => { results := [.lit (.bool true)], args := [d1, d2, d3] }
  | _ => none }
def fnExactLeadsToRow : OpenClaim := { program := "ytmednhpmcplplaa", sum := "97c178e783ccb277569f0d9fefea233aca118d196ad9ab12ed6c77b96645f6d2", func := "loop.example/g00160/laws.FnExactLeadsTo", spec := "fnExactLeadsTo", unfollowed := true, recurses := true, apart := false }
def FnExactLeadsToSaid : Prop := fnExactLeadsToRow.holds Try.pinned (OpenSpec.ofChange fnExactLeadsToSpec)

/-- ITS FALSE NEIGHBOUR: 'it returns false'. Refute it at one input. -/
def fnExactLeadsToWrong : ChangeSpec := { name := "fnExactLeadsTo", fn := fun _ => fun
  | [d1, d2, d3] => { results := [.lit (.bool false)], args := [d1, d2, d3] }
  | _ => none }
def FnExactLeadsToWrongFalsely : Prop := fnExactLeadsToRow.holds Try.pinned (OpenSpec.ofChange fnExactLeadsToWrong)

/-- 'laws.FnExactCountsFault': WHATEVER THE INPUT: true; the input reads as it did. -/
def fnExactCountsFaultSpec : ChangeSpec := { name := "fnExactCountsFault", fn := fun _ => fun
  | [d1, d2] => { results := [.lit (.bool true)], args := [d1, d2] }
  | _ => none }
def fnExactCountsFaultRow : OpenClaim := { program := "ytmednhpmcplplaa", sum := "97c178e783ccb277569f0d9fefea233aca118d196ad9ab12ed6c77b96645f6d2", func := "loop.example/g00160/laws.FnExactCountsFault", spec := "fnExactCountsFault", recurses := true, apart := false }
def FnExactCountsFaultSaid : Prop := fnExactCountsFaultRow.holds Try.pinned (OpenSpec.ofChange fnExactCountsFaultSpec)

/-- ITS FALSE NEIGHBOUR: 'it returns false'. Refute it at one input. -/
def fnExactCountsFaultWrong : ChangeSpec := { name := "fnExactCountsFault", fn := fun _ => fun
  | [d1, d2] => { results := [.lit (.bool false)], args := [d1, d2] }
  | _ => none }
def FnExactCountsFaultWrongFalsely : Prop := fnExactCountsFaultRow.holds Try.pinned (OpenSpec.ofChange fnExactCountsFaultWrong)

/-- 'laws.FnExactGoesTo': WHATEVER THE INPUT: true; the input reads as it did. -/
def fnExactGoesToSpec : ChangeSpec := { name := "fnExactGoesTo", fn := fun _ => fun
  | [d1, d2, d3, d4, d5] => { results := [.lit (.bool true)], args := [d1, d2, d3, d4, d5] }
  | _ => none }
def fnExactGoesToRow : OpenClaim := { program := "ytmednhpmcplplaa", sum := "97c178e783ccb277569f0d9fefea233aca118d196ad9ab12ed6c77b96645f6d2", func := "loop.example/g00160/laws.FnExactGoesTo", spec := "fnExactGoesTo", recurses := true, apart := false }
def FnExactGoesToSaid : Prop := fnExactGoesToRow.holds Try.pinned (OpenSpec.ofChange fnExactGoesToSpec)

/-- ITS FALSE NEIGHBOUR: 'it returns false'. Refute it at one input. -/
def fnExactGoesToWrong : ChangeSpec := { name := "fnExactGoesTo", fn := fun _ => fun
  | [d1, d2, d3, d4, d5] => { results := [.lit (.bool false)], args := [d1, d2, d3, d4, d5] }
  | _ => none }
def FnExactGoesToWrongFalsely : Prop := fnExactGoesToRow.holds Try.pinned (OpenSpec.ofChange fnExactGoesToWrong)

/-- 'laws.FnExactFirstCounts': WHATEVER THE INPUT: true; the input reads as it did. -/
def fnExactFirstCountsSpec : ChangeSpec := { name := "fnExactFirstCounts", fn := fun _ => fun
  | [d1, d2] => { results := [.lit (.bool true)], args := [d1, d2] }
  | _ => none }
def fnExactFirstCountsRow : OpenClaim := { program := "ytmednhpmcplplaa", sum := "97c178e783ccb277569f0d9fefea233aca118d196ad9ab12ed6c77b96645f6d2", func := "loop.example/g00160/laws.FnExactFirstCounts", spec := "fnExactFirstCounts", recurses := true, apart := false }
def FnExactFirstCountsSaid : Prop := fnExactFirstCountsRow.holds Try.pinned (OpenSpec.ofChange fnExactFirstCountsSpec)

/-- ITS FALSE NEIGHBOUR: 'it returns false'. Refute it at one input. -/
def fnExactFirstCountsWrong : ChangeSpec := { name := "fnExactFirstCounts", fn := fun _ => fun
  | [d1, d2] => { results := [.lit (.bool false)], args := [d1, d2] }
  | _ => none }
def FnExactFirstCountsWrongFalsely : Prop := fnExactFirstCountsRow.holds Try.pinned (OpenSpec.ofChange fnExactFirstCountsWrong)

/-- 'laws.FnExactMergeSets': WHATEVER THE INPUT: true; the input reads as it did. -/
def fnExactMergeSetsSpec : ChangeSpec := { name := "fnExactMergeSets", fn := fun _ => fun
  | [d] => { results := [.lit (.bool true)], args := [d] }
  | _ => none }
def fnExactMergeSetsRow : OpenClaim := { program := "ytmednhpmcplplaa", sum := "97c178e783ccb277569f0d9fefea233aca118d196ad9ab12ed6c77b96645f6d2", func := "loop.example/g00160/laws.FnExactMergeSets", spec := "fnExactMergeSets", unfollowed := true, recurses := true, apart := false }
def FnExactMergeSetsSaid : Prop := fnExactMergeSetsRow.holds Try.pinned (OpenSpec.ofChange fnExactMergeSetsSpec)

/-- ITS FALSE NEIGHBOUR: 'it returns false'. Refute it at one input. -/
def fnExactMergeSetsWrong : ChangeSpec := { name := "fnExactMergeSets", fn := fun _ => fun
  | [d] => { results := [.lit (.bool false)], args := [d] }
  | _ => none }
def FnExactMergeSetsWrongFalsely : Prop := fnExactMergeSetsRow.holds Try.pinned (OpenSpec.ofChange fnExactMergeSetsWrong)

/-- 'laws.FnShards': WHATEVER THE INPUT: true; the input reads as it did. -/
def fnShardsSpec : ChangeSpec := { name := "fnShards", fn := fun _ => fun
  | [d] => { results := [.lit (.bool true)], args := [d] }
  | _ => none }
def fnShardsRow : OpenClaim := { program := "ytmednhpmcplplaa", sum := "97c178e783ccb277569f0d9fefea233aca118d196ad9ab12ed6c77b96645f6d2", func := "loop.example/g00160/laws.FnShards", spec := "fnShards", unfollowed := true, recurses := true, apart := false }
def FnShardsSaid : Prop := fnShardsRow.holds Try.pinned (OpenSpec.ofChange fnShardsSpec)

/-- ITS FALSE NEIGHBOUR: 'it returns false'. Refute it at one input. -/
def fnShardsWrong : ChangeSpec := { name := "fnShards", fn := fun _ => fun
  | [d] => { results := [.lit (.bool false)], args := [d] }
  | _ => none }
def FnShardsWrongFalsely : Prop := fnShardsRow.holds Try.pinned (OpenSpec.ofChange fnShardsWrong)

/-- 'laws.FnExactPastAt': WHATEVER THE INPUT: true; the input reads as it did. -/
def fnExactPastAtSpec : ChangeSpec := { name := "fnExactPastAt", fn := fun _ => fun
  | [d1, d2, d3, d4] => { results := [.lit (.bool true)], args := [d1, d2, d3, d4] }
  | _ => none }
def fnExactPastAtRow : OpenClaim := { program := "ytmednhpmcplplaa", sum := "97c178e783ccb277569f0d9fefea233aca118d196ad9ab12ed6c77b96645f6d2", func := "loop.example/g00160/laws.FnExactPastAt", spec := "fnExactPastAt", unfollowed := true, recurses := true, apart := false }
def FnExactPastAtSaid : Prop := fnExactPastAtRow.holds Try.pinned (OpenSpec.ofChange fnExactPastAtSpec)

/-- ITS FALSE NEIGHBOUR: 'it returns false'. Refute it at one input. -/
def fnExactPastAtWrong : ChangeSpec := { name := "fnExactPastAt", fn := fun _ => fun
  | [d1, d2, d3, d4] => { results := [.lit (.bool false)], args := [d1, d2, d3, d4] }
  | _ => none }
def FnExactPastAtWrongFalsely : Prop := fnExactPastAtRow.holds Try.pinned (OpenSpec.ofChange fnExactPastAtWrong)

/-- 'laws.FnExactFrontierAt': WHATEVER THE INPUT: true; the input reads as it did. -/
def fnExactFrontierAtSpec : ChangeSpec := { name := "fnExactFrontierAt", fn := fun _ => fun
  | [d1, d2, d3] => { results := [.lit (.bool true)], args := [d1, d2, d3] }
  | _ => none }
def fnExactFrontierAtRow : OpenClaim := { program := "ytmednhpmcplplaa", sum := "97c178e783ccb277569f0d9fefea233aca118d196ad9ab12ed6c77b96645f6d2", func := "loop.example/g00160/laws.FnExactFrontierAt", spec := "fnExactFrontierAt", unfollowed := true, recurses := true, apart := false }
def FnExactFrontierAtSaid : Prop := fnExactFrontierAtRow.holds Try.pinned (OpenSpec.ofChange fnExactFrontierAtSpec)

/-- ITS FALSE NEIGHBOUR: 'it returns false'. Refute it at one input. -/
def fnExactFrontierAtWrong : ChangeSpec := { name := "fnExactFrontierAt", fn := fun _ => fun
  | [d1, d2, d3] => { results := [.lit (.bool false)], args := [d1, d2, d3] }
  | _ => none }
def FnExactFrontierAtWrongFalsely : Prop := fnExactFrontierAtRow.holds Try.pinned (OpenSpec.ofChange fnExactFrontierAtWrong)

/-- 'laws.FnExactFrameFault': WHATEVER THE INPUT: true; the input reads as it did. -/
def fnExactFrameFaultSpec : ChangeSpec := { name := "fnExactFrameFault", fn := fun _ => fun
  | [d1, d2] => { results := [.lit (.bool true)], args := [d1, d2] }
  | _ => none }
def fnExactFrameFaultRow : OpenClaim := { program := "ytmednhpmcplplaa", sum := "97c178e783ccb277569f0d9fefea233aca118d196ad9ab12ed6c77b96645f6d2", func := "loop.example/g00160/laws.FnExactFrameFault", spec := "fnExactFrameFault", recurses := true, apart := false }
def FnExactFrameFaultSaid : Prop := fnExactFrameFaultRow.holds Try.pinned (OpenSpec.ofChange fnExactFrameFaultSpec)

/-- ITS FALSE NEIGHBOUR: 'it returns false'. Refute it at one input. -/
def fnExactFrameFaultWrong : ChangeSpec := { name := "fnExactFrameFault", fn := fun _ => fun
  | [d1, d2] => { results := [.lit (.bool false)], args := [d1, d2] }
  | _ => none }
def FnExactFrameFaultWrongFalsely : Prop := fnExactFrameFaultRow.holds Try.pinned (OpenSpec.ofChange fnExactFrameFaultWrong)

/- THE SECOND FORM. 'bulk': how many values and letters a reading holds, each counted each time it is reached (what is shared counts as often as it is met; a slice's spare places count too). A statement '..UptoSaid' is the law's where the arguments, and the package variables that the reading takes, are together of bulk at most 1048576: NARROWER than '..Said'. Prove '..Said' where nothing that the law and all that it calls make is longer than what came in: it says more and counts as full. Else prove '..UptoSaid'. A law counts once. -/
mutual
def uptoBulk {H : Type} : DataW H → Nat
  | .lit (.string bytes) => bytes.length + 1
  | .lit _ => 1
  | .nil => 1
  | .ptr d => uptoBulk d + 1
  | .slice elems spare => uptoBulkAll elems + uptoBulkAll spare + 1
  | .agg parts => uptoBulkAll parts + 1
  | .iface _ d => uptoBulk d + 1
  | .map entries => uptoBulkEntries entries + 1
  | .held _ => 1
def uptoBulkAll {H : Type} : List (DataW H) → Nat
  | [] => 0
  | d :: r => uptoBulk d + uptoBulkAll r
def uptoBulkEntries {H : Type} : List (Lit × DataW H) → Nat
  | [] => 0
  | x :: r => uptoBulkEntry x + uptoBulkEntries r
def uptoBulkEntry {H : Type} : Lit × DataW H → Nat
  | (.string bytes, d) => bytes.length + uptoBulk d + 1
  | (_, d) => uptoBulk d + 1
 end
def uptoSmall : (H : Type) → List (DataW H) → Bool := fun _ ds => decide (uptoBulkAll ds ≤ 1048576)
def OpenSpec.upto (s : _root_.Go.ChangeSpec) : _root_.Go.OpenSpec := { _root_.Go.OpenSpec.ofChange s with cond := some uptoSmall }

/-- 'laws.FnExactShardOf', WHERE WHAT IT READS IS OF BULK AT MOST 1048576: true; the input reads as it did. -/
def fnExactShardOfUptoRow : OpenClaim := { program := "ytmednhpmcplplaa", sum := "97c178e783ccb277569f0d9fefea233aca118d196ad9ab12ed6c77b96645f6d2", func := "loop.example/g00160/laws.FnExactShardOf", spec := "fnExactShardOf", apart := false, narrowed := true }
def FnExactShardOfUptoSaid : Prop := fnExactShardOfUptoRow.holds Try.pinned (OpenSpec.upto fnExactShardOfSpec)

/-- 'laws.FnExactSplitSet', WHERE WHAT IT READS IS OF BULK AT MOST 1048576: true; the input reads as it did. -/
def fnExactSplitSetUptoRow : OpenClaim := { program := "ytmednhpmcplplaa", sum := "97c178e783ccb277569f0d9fefea233aca118d196ad9ab12ed6c77b96645f6d2", func := "loop.example/g00160/laws.FnExactSplitSet", spec := "fnExactSplitSet", unfollowed := true, recurses := true, apart := false, narrowed := true }
def FnExactSplitSetUptoSaid : Prop := fnExactSplitSetUptoRow.holds Try.pinned (OpenSpec.upto fnExactSplitSetSpec)

/-- 'laws.FnLeads', WHERE WHAT IT READS IS OF BULK AT MOST 1048576: true; the input reads as it did. -/
def fnLeadsUptoRow : OpenClaim := { program := "ytmednhpmcplplaa", sum := "97c178e783ccb277569f0d9fefea233aca118d196ad9ab12ed6c77b96645f6d2", func := "loop.example/g00160/laws.FnLeads", spec := "fnLeads", unfollowed := true, recurses := true, apart := false, narrowed := true }
def FnLeadsUptoSaid : Prop := fnLeadsUptoRow.holds Try.pinned (OpenSpec.upto fnLeadsSpec)

/-- 'laws.FnExactLeadsTo', WHERE WHAT IT READS IS OF BULK AT MOST 1048576: true; the input reads as it did. -/
def fnExactLeadsToUptoRow : OpenClaim := { program := "ytmednhpmcplplaa", sum := "97c178e783ccb277569f0d9fefea233aca118d196ad9ab12ed6c77b96645f6d2", func := "loop.example/g00160/laws.FnExactLeadsTo", spec := "fnExactLeadsTo", unfollowed := true, recurses := true, apart := false, narrowed := true }
def FnExactLeadsToUptoSaid : Prop := fnExactLeadsToUptoRow.holds Try.pinned (OpenSpec.upto fnExactLeadsToSpec)

/-- 'laws.FnExactCountsFault', WHERE WHAT IT READS IS OF BULK AT MOST 1048576: true; the input reads as it did. -/
def fnExactCountsFaultUptoRow : OpenClaim := { program := "ytmednhpmcplplaa", sum := "97c178e783ccb277569f0d9fefea233aca118d196ad9ab12ed6c77b96645f6d2", func := "loop.example/g00160/laws.FnExactCountsFault", spec := "fnExactCountsFault", recurses := true, apart := false, narrowed := true }
def FnExactCountsFaultUptoSaid : Prop := fnExactCountsFaultUptoRow.holds Try.pinned (OpenSpec.upto fnExactCountsFaultSpec)

/-- 'laws.FnExactGoesTo', WHERE WHAT IT READS IS OF BULK AT MOST 1048576: true; the input reads as it did. -/
def fnExactGoesToUptoRow : OpenClaim := { program := "ytmednhpmcplplaa", sum := "97c178e783ccb277569f0d9fefea233aca118d196ad9ab12ed6c77b96645f6d2", func := "loop.example/g00160/laws.FnExactGoesTo", spec := "fnExactGoesTo", recurses := true, apart := false, narrowed := true }
def FnExactGoesToUptoSaid : Prop := fnExactGoesToUptoRow.holds Try.pinned (OpenSpec.upto fnExactGoesToSpec)

/-- 'laws.FnExactFirstCounts', WHERE WHAT IT READS IS OF BULK AT MOST 1048576: true; the input reads as it did. -/
def fnExactFirstCountsUptoRow : OpenClaim := { program := "ytmednhpmcplplaa", sum := "97c178e783ccb277569f0d9fefea233aca118d196ad9ab12ed6c77b96645f6d2", func := "loop.example/g00160/laws.FnExactFirstCounts", spec := "fnExactFirstCounts", recurses := true, apart := false, narrowed := true }
def FnExactFirstCountsUptoSaid : Prop := fnExactFirstCountsUptoRow.holds Try.pinned (OpenSpec.upto fnExactFirstCountsSpec)

/-- 'laws.FnExactMergeSets', WHERE WHAT IT READS IS OF BULK AT MOST 1048576: true; the input reads as it did. -/
def fnExactMergeSetsUptoRow : OpenClaim := { program := "ytmednhpmcplplaa", sum := "97c178e783ccb277569f0d9fefea233aca118d196ad9ab12ed6c77b96645f6d2", func := "loop.example/g00160/laws.FnExactMergeSets", spec := "fnExactMergeSets", unfollowed := true, recurses := true, apart := false, narrowed := true }
def FnExactMergeSetsUptoSaid : Prop := fnExactMergeSetsUptoRow.holds Try.pinned (OpenSpec.upto fnExactMergeSetsSpec)

/-- 'laws.FnShards', WHERE WHAT IT READS IS OF BULK AT MOST 1048576: true; the input reads as it did. -/
def fnShardsUptoRow : OpenClaim := { program := "ytmednhpmcplplaa", sum := "97c178e783ccb277569f0d9fefea233aca118d196ad9ab12ed6c77b96645f6d2", func := "loop.example/g00160/laws.FnShards", spec := "fnShards", unfollowed := true, recurses := true, apart := false, narrowed := true }
def FnShardsUptoSaid : Prop := fnShardsUptoRow.holds Try.pinned (OpenSpec.upto fnShardsSpec)

/-- 'laws.FnExactPastAt', WHERE WHAT IT READS IS OF BULK AT MOST 1048576: true; the input reads as it did. -/
def fnExactPastAtUptoRow : OpenClaim := { program := "ytmednhpmcplplaa", sum := "97c178e783ccb277569f0d9fefea233aca118d196ad9ab12ed6c77b96645f6d2", func := "loop.example/g00160/laws.FnExactPastAt", spec := "fnExactPastAt", unfollowed := true, recurses := true, apart := false, narrowed := true }
def FnExactPastAtUptoSaid : Prop := fnExactPastAtUptoRow.holds Try.pinned (OpenSpec.upto fnExactPastAtSpec)

/-- 'laws.FnExactFrontierAt', WHERE WHAT IT READS IS OF BULK AT MOST 1048576: true; the input reads as it did. -/
def fnExactFrontierAtUptoRow : OpenClaim := { program := "ytmednhpmcplplaa", sum := "97c178e783ccb277569f0d9fefea233aca118d196ad9ab12ed6c77b96645f6d2", func := "loop.example/g00160/laws.FnExactFrontierAt", spec := "fnExactFrontierAt", unfollowed := true, recurses := true, apart := false, narrowed := true }
def FnExactFrontierAtUptoSaid : Prop := fnExactFrontierAtUptoRow.holds Try.pinned (OpenSpec.upto fnExactFrontierAtSpec)

/-- 'laws.FnExactFrameFault', WHERE WHAT IT READS IS OF BULK AT MOST 1048576: true; the input reads as it did. -/
def fnExactFrameFaultUptoRow : OpenClaim := { program := "ytmednhpmcplplaa", sum := "97c178e783ccb277569f0d9fefea233aca118d196ad9ab12ed6c77b96645f6d2", func := "loop.example/g00160/laws.FnExactFrameFault", spec := "fnExactFrameFault", recurses := true, apart := false, narrowed := true }
def FnExactFrameFaultUptoSaid : Prop := fnExactFrameFaultUptoRow.holds Try.pinned (OpenSpec.upto fnExactFrameFaultSpec)

end Rows
end Go.Proofs.Ytmednhpmcplplaa
