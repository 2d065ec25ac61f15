/-
  No cell of these rows narrows 'for every input' (looked for: loops, veiled, ifaces, maps, wideKeys, modest, calm, conditions, laid).
  DERIVED. THE GIVEN ROWS OF THIS SEAT. 9 by the template 'for every input the law returns true; each argument reads behind the call as it read before'; 0 by the template 'total and deterministic' (their statements: YtgkbmiaimjpbfaaTotals.lean).
  GIVEN WITH THE SEED: the statements are not yours to turn. If you find one false, say at which input.
  Laid BY PROGRAM, IN A SANDBOX (cutbox-rows.mjs): the forced cells as the released guide's own fill.sh prints them over the translation 4f5147a53d553d4c… (all of the seat's roots in one cut). By AI agents, Wed Nov 11 2026. No macro, syntax, notation, axiom, sorry.
-/
import Derived.Test.YtgkbmiaimjpbfaaChecked
import GoSem.Claim
import GoSem.ClaimJoined
import GoSem.ClaimMapViews
import Derived.JoinedTies
import Derived.KernelRfl
namespace Go.Proofs.Ytgkbmiaimjpbfaa
/- THE CELL 'sum', in the pinned program and in every row, IS THE sha256 OF THE DUMP (.gsa) THAT YtgkbmiaimjpbfaaProg.lean LOADS. Nothing in Lean hashes anything: it is a label: what it is worth is what the hold of that sum in a sandbox is worth. -/
noncomputable def Try.pinned : Pinned := { name := "ytgkbmiaimjpbfaa", sum := "4f5147a53d553d4c17d1468019be58cc3c0369e8d0b47ff176969e8b87d7c30f", checked := Try.checked }
namespace Rows
def none {H : Type} : Left H := { results := [], args := [] }

/-- 'laws.FnExactSplitSet': WHATEVER THE INPUT: true; the input reads as it did. -/
def fnExactSplitSetSpec : ChangeSpec := { name := "fnExactSplitSet", fn := fun _ => fun
  | [d1, d2, d3] => { results := [.lit (.bool true)], args := [d1, d2, d3] }
  | _ => none }
def fnExactSplitSetRow : OpenClaim := { program := "ytgkbmiaimjpbfaa", sum := "4f5147a53d553d4c17d1468019be58cc3c0369e8d0b47ff176969e8b87d7c30f", func := "loop.example/g00160/laws.FnExactSplitSet", spec := "fnExactSplitSet", unfollowed := true, recurses := true, apart := false }
def FnExactSplitSetSaid : Prop := fnExactSplitSetRow.holds Try.pinned (OpenSpec.ofChange fnExactSplitSetSpec)

/-- ITS FALSE NEIGHBOUR: 'it returns false'. Refute it at one input. -/
def fnExactSplitSetWrong : ChangeSpec := { name := "fnExactSplitSet", fn := fun _ => fun
  | [d1, d2, d3] => { results := [.lit (.bool false)], args := [d1, d2, d3] }
  | _ => none }
def FnExactSplitSetWrongFalsely : Prop := fnExactSplitSetRow.holds Try.pinned (OpenSpec.ofChange fnExactSplitSetWrong)

/-- 'laws.FnLeads': WHATEVER THE INPUT: true; the input reads as it did. -/
def fnLeadsSpec : ChangeSpec := { name := "fnLeads", fn := fun _ => fun
  | [d] => { results := [.lit (.bool true)], args := [d] }
  | _ => none }
def fnLeadsRow : OpenClaim := { program := "ytgkbmiaimjpbfaa", sum := "4f5147a53d553d4c17d1468019be58cc3c0369e8d0b47ff176969e8b87d7c30f", func := "loop.example/g00160/laws.FnLeads", spec := "fnLeads", unfollowed := true, recurses := true, apart := false }
def FnLeadsSaid : Prop := fnLeadsRow.holds Try.pinned (OpenSpec.ofChange fnLeadsSpec)

/-- ITS FALSE NEIGHBOUR: 'it returns false'. Refute it at one input. -/
def fnLeadsWrong : ChangeSpec := { name := "fnLeads", fn := fun _ => fun
  | [d] => { results := [.lit (.bool false)], args := [d] }
  | _ => none }
def FnLeadsWrongFalsely : Prop := fnLeadsRow.holds Try.pinned (OpenSpec.ofChange fnLeadsWrong)

/-- 'laws.FnExactMergeSets': WHATEVER THE INPUT: true; the input reads as it did. -/
def fnExactMergeSetsSpec : ChangeSpec := { name := "fnExactMergeSets", fn := fun _ => fun
  | [d] => { results := [.lit (.bool true)], args := [d] }
  | _ => none }
def fnExactMergeSetsRow : OpenClaim := { program := "ytgkbmiaimjpbfaa", sum := "4f5147a53d553d4c17d1468019be58cc3c0369e8d0b47ff176969e8b87d7c30f", func := "loop.example/g00160/laws.FnExactMergeSets", spec := "fnExactMergeSets", unfollowed := true, recurses := true, apart := false }
def FnExactMergeSetsSaid : Prop := fnExactMergeSetsRow.holds Try.pinned (OpenSpec.ofChange fnExactMergeSetsSpec)

/-- ITS FALSE NEIGHBOUR: 'it returns false'. Refute it at one input. -/
def fnExactMergeSetsWrong : ChangeSpec := { name := "fnExactMergeSets", fn := fun _ => fun
  | [d] => { results := [.lit (.bool false)], args := [d] }
  | _ => none }
def FnExactMergeSetsWrongFalsely : Prop := fnExactMergeSetsRow.holds Try.pinned (OpenSpec.ofChange fnExactMergeSetsWrong)

/-- 'laws.FnShards': WHATEVER THE INPUT: true; the input reads as it did. -/
def fnShardsSpec : ChangeSpec := { name := "fnShards", fn := fun _ => fun
  | [d] => { results := [.lit (.bool true)], args := [d] }
  | _ => none }
def fnShardsRow : OpenClaim := { program := "ytgkbmiaimjpbfaa", sum := "4f5147a53d553d4c17d1468019be58cc3c0369e8d0b47ff176969e8b87d7c30f", func := "loop.example/g00160/laws.FnShards", spec := "fnShards", unfollowed := true, recurses := true, apart := false }
def FnShardsSaid : Prop := fnShardsRow.holds Try.pinned (OpenSpec.ofChange fnShardsSpec)

/-- ITS FALSE NEIGHBOUR: 'it returns false'. Refute it at one input. -/
def fnShardsWrong : ChangeSpec := { name := "fnShards", fn := fun _ => fun
  | [d] => { results := [.lit (.bool false)], args := [d] }
  | _ => none }
def FnShardsWrongFalsely : Prop := fnShardsRow.holds Try.pinned (OpenSpec.ofChange fnShardsWrong)

/-- 'laws.FnExactHeldFault': WHATEVER THE INPUT: true; the input reads as it did. -/
def fnExactHeldFaultSpec : ChangeSpec := { name := "fnExactHeldFault", fn := fun _ => fun
  | [d1, d2, d3] => { results := [.lit (.bool true)], args := [d1, d2, d3] }
  | _ => none }
def fnExactHeldFaultRow : OpenClaim := { program := "ytgkbmiaimjpbfaa", sum := "4f5147a53d553d4c17d1468019be58cc3c0369e8d0b47ff176969e8b87d7c30f", func := "loop.example/g00160/laws.FnExactHeldFault", spec := "fnExactHeldFault", recurses := true, apart := false }
def FnExactHeldFaultSaid : Prop := fnExactHeldFaultRow.holds Try.pinned (OpenSpec.ofChange fnExactHeldFaultSpec)

/-- ITS FALSE NEIGHBOUR: 'it returns false'. Refute it at one input. -/
def fnExactHeldFaultWrong : ChangeSpec := { name := "fnExactHeldFault", fn := fun _ => fun
  | [d1, d2, d3] => { results := [.lit (.bool false)], args := [d1, d2, d3] }
  | _ => none }
def FnExactHeldFaultWrongFalsely : Prop := fnExactHeldFaultRow.holds Try.pinned (OpenSpec.ofChange fnExactHeldFaultWrong)

/-- 'laws.FnExactRouteSet': WHATEVER THE INPUT: true; the input reads as it did. -/
def fnExactRouteSetSpec : ChangeSpec := { name := "fnExactRouteSet", fn := fun _ => fun
  | [d1, d2, d3, d4, d5] => { results := [.lit (.bool true)], args := [d1, d2, d3, d4, d5] }
  | _ => none }
def fnExactRouteSetRow : OpenClaim := { program := "ytgkbmiaimjpbfaa", sum := "4f5147a53d553d4c17d1468019be58cc3c0369e8d0b47ff176969e8b87d7c30f", func := "loop.example/g00160/laws.FnExactRouteSet", spec := "fnExactRouteSet", unfollowed := true, recurses := true, apart := false }
def FnExactRouteSetSaid : Prop := fnExactRouteSetRow.holds Try.pinned (OpenSpec.ofChange fnExactRouteSetSpec)

/-- ITS FALSE NEIGHBOUR: 'it returns false'. Refute it at one input. -/
def fnExactRouteSetWrong : ChangeSpec := { name := "fnExactRouteSet", fn := fun _ => fun
  | [d1, d2, d3, d4, d5] => { results := [.lit (.bool false)], args := [d1, d2, d3, d4, d5] }
  | _ => none }
def FnExactRouteSetWrongFalsely : Prop := fnExactRouteSetRow.holds Try.pinned (OpenSpec.ofChange fnExactRouteSetWrong)

/-- 'laws.FnFrontiers': WHATEVER THE INPUT: true; the input reads as it did. -/
def fnFrontiersSpec : ChangeSpec := { name := "fnFrontiers", fn := fun _ => fun
  | [d] => { results := [.lit (.bool true)], args := [d] }
  | _ => none }
def fnFrontiersRow : OpenClaim := { program := "ytgkbmiaimjpbfaa", sum := "4f5147a53d553d4c17d1468019be58cc3c0369e8d0b47ff176969e8b87d7c30f", func := "loop.example/g00160/laws.FnFrontiers", spec := "fnFrontiers", unfollowed := true, recurses := true, apart := false }
def FnFrontiersSaid : Prop := fnFrontiersRow.holds Try.pinned (OpenSpec.ofChange fnFrontiersSpec)

/-- ITS FALSE NEIGHBOUR: 'it returns false'. Refute it at one input. -/
def fnFrontiersWrong : ChangeSpec := { name := "fnFrontiers", fn := fun _ => fun
  | [d] => { results := [.lit (.bool false)], args := [d] }
  | _ => none }
def FnFrontiersWrongFalsely : Prop := fnFrontiersRow.holds Try.pinned (OpenSpec.ofChange fnFrontiersWrong)

/-- 'laws.FnExactAddCounts': WHATEVER THE INPUT: true; the input reads as it did. -/
def fnExactAddCountsSpec : ChangeSpec := { name := "fnExactAddCounts", fn := fun _ => fun
  | [d1, d2, d3] => { results := [.lit (.bool true)], args := [d1, d2, d3] }
  | _ => none }
def fnExactAddCountsRow : OpenClaim := { program := "ytgkbmiaimjpbfaa", sum := "4f5147a53d553d4c17d1468019be58cc3c0369e8d0b47ff176969e8b87d7c30f", func := "loop.example/g00160/laws.FnExactAddCounts", spec := "fnExactAddCounts", unfollowed := true, recurses := true, apart := false }
def FnExactAddCountsSaid : Prop := fnExactAddCountsRow.holds Try.pinned (OpenSpec.ofChange fnExactAddCountsSpec)

/-- ITS FALSE NEIGHBOUR: 'it returns false'. Refute it at one input. -/
def fnExactAddCountsWrong : ChangeSpec := { name := "fnExactAddCounts", fn := fun _ => fun
  | [d1, d2, d3] => { results := [.lit (.bool false)], args := [d1, d2, d3] }
  | _ => none }
def FnExactAddCountsWrongFalsely : Prop := fnExactAddCountsRow.holds Try.pinned (OpenSpec.ofChange fnExactAddCountsWrong)

/-- 'laws.FnExactNewCluster': WHATEVER THE INPUT: true; the input reads as it did. -/
def fnExactNewClusterSpec : ChangeSpec := { name := "fnExactNewCluster", fn := fun _ => fun
  | [d1, d2] => { results := [.lit (.bool true)], args := [d1, d2] }
  | _ => none }
def fnExactNewClusterRow : OpenClaim := { program := "ytgkbmiaimjpbfaa", sum := "4f5147a53d553d4c17d1468019be58cc3c0369e8d0b47ff176969e8b87d7c30f", func := "loop.example/g00160/laws.FnExactNewCluster", spec := "fnExactNewCluster", recurses := true, apart := false }
def FnExactNewClusterSaid : Prop := fnExactNewClusterRow.holds Try.pinned (OpenSpec.ofChange fnExactNewClusterSpec)

/-- ITS FALSE NEIGHBOUR: 'it returns false'. Refute it at one input. -/
def fnExactNewClusterWrong : ChangeSpec := { name := "fnExactNewCluster", fn := fun _ => fun
  | [d1, d2] => { results := [.lit (.bool false)], args := [d1, d2] }
  | _ => none }
def FnExactNewClusterWrongFalsely : Prop := fnExactNewClusterRow.holds Try.pinned (OpenSpec.ofChange fnExactNewClusterWrong)

/- THE SECOND FORM. 'bulk': how many values and letters a reading holds, each counted each time it is reached (what is shared counts as often as it is met; a slice's spare places count too). A statement '..UptoSaid' is the law's where the arguments, and the package variables that the reading takes, are together of bulk at most 1048576: NARROWER than '..Said'. Prove '..Said' where nothing that the law and all that it calls make is longer than what came in: it says more and counts as full. Else prove '..UptoSaid'. A law counts once. -/
mutual
def uptoBulk {H : Type} : DataW H → Nat
  | .lit (.string bytes) => bytes.length + 1
  | .lit _ => 1
  | .nil => 1
  | .ptr d => uptoBulk d + 1
  | .slice elems spare => uptoBulkAll elems + uptoBulkAll spare + 1
  | .agg parts => uptoBulkAll parts + 1
  | .iface _ d => uptoBulk d + 1
  | .map entries => uptoBulkEntries entries + 1
  | .held _ => 1
def uptoBulkAll {H : Type} : List (DataW H) → Nat
  | [] => 0
  | d :: r => uptoBulk d + uptoBulkAll r
def uptoBulkEntries {H : Type} : List (Lit × DataW H) → Nat
  | [] => 0
  | x :: r => uptoBulkEntry x + uptoBulkEntries r
def uptoBulkEntry {H : Type} : Lit × DataW H → Nat
  | (.string bytes, d) => bytes.length + uptoBulk d + 1
  | (_, d) => uptoBulk d + 1
 end
def uptoSmall : (H : Type) → List (DataW H) → Bool := fun _ ds => decide (uptoBulkAll ds ≤ 1048576)
def OpenSpec.upto (s : _root_.Go.ChangeSpec) : _root_.Go.OpenSpec := { _root_.Go.OpenSpec.ofChange s with cond := some uptoSmall }

/-- 'laws.FnExactSplitSet', WHERE WHAT IT READS IS OF BULK AT MOST 1048576: true; the input reads as it did. -/
def fnExactSplitSetUptoRow : OpenClaim := { program := "ytgkbmiaimjpbfaa", sum := "4f5147a53d553d4c17d1468019be58cc3c0369e8d0b47ff176969e8b87d7c30f", func := "loop.example/g00160/laws.FnExactSplitSet", spec := "fnExactSplitSet", unfollowed := true, recurses := true, apart := false, narrowed := true }
def FnExactSplitSetUptoSaid : Prop := fnExactSplitSetUptoRow.holds Try.pinned (OpenSpec.upto fnExactSplitSetSpec)

/-- 'laws.FnLeads', WHERE WHAT IT READS IS OF BULK AT MOST 1048576: true; the input reads as it did. -/
def fnLeadsUptoRow : OpenClaim := { program := "ytgkbmiaimjpbfaa", sum := "4f5147a53d553d4c17d1468019be58cc3c0369e8d0b47ff176969e8b87d7c30f", func := "loop.example/g00160/laws.FnLeads", spec := "fnLeads", unfollowed := true, recurses := true, apart := false, narrowed := true }
def FnLeadsUptoSaid : Prop := fnLeadsUptoRow.holds Try.pinned (OpenSpec.upto fnLeadsSpec)

/-- 'laws.FnExactMergeSets', WHERE WHAT IT READS IS OF BULK AT MOST 1048576: true; the input reads as it did. -/
def fnExactMergeSetsUptoRow : OpenClaim := { program := "ytgkbmiaimjpbfaa", sum := "4f5147a53d553d4c17d1468019be58cc3c0369e8d0b47ff176969e8b87d7c30f", func := "loop.example/g00160/laws.FnExactMergeSets", spec := "fnExactMergeSets", unfollowed := true, recurses := true, apart := false, narrowed := true }
def FnExactMergeSetsUptoSaid : Prop := fnExactMergeSetsUptoRow.holds Try.pinned (OpenSpec.upto fnExactMergeSetsSpec)

/-- 'laws.FnShards', WHERE WHAT IT READS IS OF BULK AT MOST 1048576: true; the input reads as it did. -/
def fnShardsUptoRow : OpenClaim := { program := "ytgkbmiaimjpbfaa", sum := "4f5147a53d553d4c17d1468019be58cc3c0369e8d0b47ff176969e8b87d7c30f", func := "loop.example/g00160/laws.FnShards", spec := "fnShards", unfollowed := true, recurses := true, apart := false, narrowed := true }
def FnShardsUptoSaid : Prop := fnShardsUptoRow.holds Try.pinned (OpenSpec.upto fnShardsSpec)

/-- 'laws.FnExactHeldFault', WHERE WHAT IT READS IS OF BULK AT MOST 1048576: true; the input reads as it did. -/
def fnExactHeldFaultUptoRow : OpenClaim := { program := "ytgkbmiaimjpbfaa", sum := "4f5147a53d553d4c17d1468019be58cc3c0369e8d0b47ff176969e8b87d7c30f", func := "loop.example/g00160/laws.FnExactHeldFault", spec := "fnExactHeldFault", recurses := true, apart := false, narrowed := true }
def FnExactHeldFaultUptoSaid : Prop := fnExactHeldFaultUptoRow.holds Try.pinned (OpenSpec.upto fnExactHeldFaultSpec)

/-- 'laws.FnExactRouteSet', WHERE WHAT IT READS IS OF BULK AT MOST 1048576: true; the input reads as it did. -/
def fnExactRouteSetUptoRow : OpenClaim := { program := "ytgkbmiaimjpbfaa", sum := "4f5147a53d553d4c17d1468019be58cc3c0369e8d0b47ff176969e8b87d7c30f", func := "loop.example/g00160/laws.FnExactRouteSet", spec := "fnExactRouteSet", unfollowed := true, recurses := true, apart := false, narrowed := true }
def FnExactRouteSetUptoSaid : Prop := fnExactRouteSetUptoRow.holds Try.pinned (OpenSpec.upto fnExactRouteSetSpec)

/-- 'laws.FnFrontiers', WHERE WHAT IT READS IS OF BULK AT MOST 1048576: true; the input reads as it did. -/
def fnFrontiersUptoRow : OpenClaim := { program := "ytgkbmiaimjpbfaa", sum := "4f5147a53d553d4c17d1468019be58cc3c0369e8d0b47ff176969e8b87d7c30f", func := "loop.example/g00160/laws.FnFrontiers", spec := "fnFrontiers", unfollowed := true, recurses := true, apart := false, narrowed := true }
def FnFrontiersUptoSaid : Prop := fnFrontiersUptoRow.holds Try.pinned (OpenSpec.upto fnFrontiersSpec)

/-- 'laws.FnExactAddCounts', WHERE WHAT IT READS IS OF BULK AT MOST 1048576: true; the input reads as it did. -/
def fnExactAddCountsUptoRow : OpenClaim := { program := "ytgkbmiaimjpbfaa", sum := "4f5147a53d553d4c17d1468019be58cc3c0369e8d0b47ff176969e8b87d7c30f", func := "loop.example/g00160/laws.FnExactAddCounts", spec := "fnExactAddCounts", unfollowed := true, recurses := true, apart := false, narrowed := true }
def FnExactAddCountsUptoSaid : Prop := fnExactAddCountsUptoRow.holds Try.pinned (OpenSpec.upto fnExactAddCountsSpec)

/-- 'laws.FnExactNewCluster', WHERE WHAT IT READS IS OF BULK AT MOST 1048576: true; the input reads as it did. -/
def fnExactNewClusterUptoRow : OpenClaim := { program := "ytgkbmiaimjpbfaa", sum := "4f5147a53d553d4c17d1468019be58cc3c0369e8d0b47ff176969e8b87d7c30f", func := "loop.example/g00160/laws.FnExactNewCluster", spec := "fnExactNewCluster", recurses := true, apart := false, narrowed := true }
def FnExactNewClusterUptoSaid : Prop := fnExactNewClusterUptoRow.holds Try.pinned (OpenSpec.upto fnExactNewClusterSpec)

end Rows
end Go.Proofs.Ytgkbmiaimjpbfaa
