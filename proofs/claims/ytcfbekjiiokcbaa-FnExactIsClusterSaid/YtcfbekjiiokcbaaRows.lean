/-
  No cell of these rows narrows 'for every input' (looked for: loops, veiled, ifaces, maps, wideKeys, modest, calm, conditions, laid).
  DERIVED. THE GIVEN ROWS OF THIS SEAT. 9 by the template 'for every input the law returns true; each argument reads behind the call as it read before'; 0 by the template 'total and deterministic' (their statements: YtcfbekjiiokcbaaTotals.lean).
  GIVEN WITH THE SEED: the statements are not yours to turn. If you find one false, say at which input.
  Laid BY PROGRAM, IN A SANDBOX (cutbox-rows.mjs): the forced cells as the released guide's own fill.sh prints them over the translation 14858455e722d4d2… (all of the seat's roots in one cut). By AI agents, Wed Nov 11 2026. No macro, syntax, notation, axiom, sorry.
-/
import Derived.Test.YtcfbekjiiokcbaaChecked
import GoSem.Claim
import GoSem.ClaimJoined
import GoSem.ClaimMapViews
import Derived.JoinedTies
import Derived.KernelRfl
namespace Go.Proofs.Ytcfbekjiiokcbaa
/- THE CELL 'sum', in the pinned program and in every row, IS THE sha256 OF THE DUMP (.gsa) THAT YtcfbekjiiokcbaaProg.lean LOADS. Nothing in Lean hashes anything: it is a label: what it is worth is what the hold of that sum in a sandbox is worth. -/
noncomputable def Try.pinned : Pinned := { name := "ytcfbekjiiokcbaa", sum := "14858455e722d4d220dc74d6594bbfcf2307c637928faa9dfa67326e3ad18191", checked := Try.checked }
namespace Rows
def none {H : Type} : Left H := { results := [], args := [] }

/-- 'laws.FnExactDeliverAll': WHATEVER THE INPUT: true; the input reads as it did. -/
def fnExactDeliverAllSpec : ChangeSpec := { name := "fnExactDeliverAll", fn := fun _ => fun
  | [d1, d2] => { results := [.lit (.bool true)], args := [d1, d2] }
  | _ => none }
def fnExactDeliverAllRow : OpenClaim := { program := "ytcfbekjiiokcbaa", sum := "14858455e722d4d220dc74d6594bbfcf2307c637928faa9dfa67326e3ad18191", func := "loop.example/g01986/laws.FnExactDeliverAll", spec := "fnExactDeliverAll", apart := false }
def FnExactDeliverAllSaid : Prop := fnExactDeliverAllRow.holds Try.pinned (OpenSpec.ofChange fnExactDeliverAllSpec)

/-- ITS FALSE NEIGHBOUR: 'it returns false'. Refute it at one input. -/
def fnExactDeliverAllWrong : ChangeSpec := { name := "fnExactDeliverAll", fn := fun _ => fun
  | [d1, d2] => { results := [.lit (.bool false)], args := [d1, d2] }
  | _ => none }
def FnExactDeliverAllWrongFalsely : Prop := fnExactDeliverAllRow.holds Try.pinned (OpenSpec.ofChange fnExactDeliverAllWrong)

/-- 'laws.FnExactIsEvent': WHATEVER THE INPUT: true; the input reads as it did. -/
def fnExactIsEventSpec : ChangeSpec := { name := "fnExactIsEvent", fn := fun _ => fun
  | [d] => { results := [.lit (.bool true)], args := [d] }
  | _ => none }
def fnExactIsEventRow : OpenClaim := { program := "ytcfbekjiiokcbaa", sum := "14858455e722d4d220dc74d6594bbfcf2307c637928faa9dfa67326e3ad18191", func := "loop.example/g01986/laws.FnExactIsEvent", spec := "fnExactIsEvent", apart := false }
def FnExactIsEventSaid : Prop := fnExactIsEventRow.holds Try.pinned (OpenSpec.ofChange fnExactIsEventSpec)

/-- ITS FALSE NEIGHBOUR: 'it returns false'. Refute it at one input. -/
def fnExactIsEventWrong : ChangeSpec := { name := "fnExactIsEvent", fn := fun _ => fun
  | [d] => { results := [.lit (.bool false)], args := [d] }
  | _ => none }
def FnExactIsEventWrongFalsely : Prop := fnExactIsEventRow.holds Try.pinned (OpenSpec.ofChange fnExactIsEventWrong)

/-- 'laws.FnExactSortByField': WHATEVER THE INPUT: true; the input reads as it did. -/
def fnExactSortByFieldSpec : ChangeSpec := { name := "fnExactSortByField", fn := fun _ => fun
  | [d1, d2] => { results := [.lit (.bool true)], args := [d1, d2] }
  | _ => none }
def fnExactSortByFieldRow : OpenClaim := { program := "ytcfbekjiiokcbaa", sum := "14858455e722d4d220dc74d6594bbfcf2307c637928faa9dfa67326e3ad18191", func := "loop.example/g01986/laws.FnExactSortByField", spec := "fnExactSortByField", unfollowed := true, recurses := true, apart := false }
def FnExactSortByFieldSaid : Prop := fnExactSortByFieldRow.holds Try.pinned (OpenSpec.ofChange fnExactSortByFieldSpec)

/-- ITS FALSE NEIGHBOUR: 'it returns false'. Refute it at one input. -/
def fnExactSortByFieldWrong : ChangeSpec := { name := "fnExactSortByField", fn := fun _ => fun
  | [d1, d2] => { results := [.lit (.bool false)], args := [d1, d2] }
  | _ => none }
def FnExactSortByFieldWrongFalsely : Prop := fnExactSortByFieldRow.holds Try.pinned (OpenSpec.ofChange fnExactSortByFieldWrong)

/-- 'laws.FnExactEqualClusters': WHATEVER THE INPUT: true; the input reads as it did. -/
def fnExactEqualClustersSpec : ChangeSpec := { name := "fnExactEqualClusters", fn := fun _ => fun
  | [d1, d2] => { results := [.lit (.bool true)], args := [d1, d2] }
  | _ => none }
def fnExactEqualClustersRow : OpenClaim := { program := "ytcfbekjiiokcbaa", sum := "14858455e722d4d220dc74d6594bbfcf2307c637928faa9dfa67326e3ad18191", func := "loop.example/g01986/laws.FnExactEqualClusters", spec := "fnExactEqualClusters", unfollowed := true, recurses := true, apart := false }
def FnExactEqualClustersSaid : Prop := fnExactEqualClustersRow.holds Try.pinned (OpenSpec.ofChange fnExactEqualClustersSpec)

/-- ITS FALSE NEIGHBOUR: 'it returns false'. Refute it at one input. -/
def fnExactEqualClustersWrong : ChangeSpec := { name := "fnExactEqualClusters", fn := fun _ => fun
  | [d1, d2] => { results := [.lit (.bool false)], args := [d1, d2] }
  | _ => none }
def FnExactEqualClustersWrongFalsely : Prop := fnExactEqualClustersRow.holds Try.pinned (OpenSpec.ofChange fnExactEqualClustersWrong)

/-- 'laws.FnExactTopAlone': WHATEVER THE INPUT: true; the input reads as it did. -/
def fnExactTopAloneSpec : ChangeSpec := { name := "fnExactTopAlone", fn := fun _ => fun
  | [d1, d2, d3] => { results := [.lit (.bool true)], args := [d1, d2, d3] }
  | _ => none }
def fnExactTopAloneRow : OpenClaim := { program := "ytcfbekjiiokcbaa", sum := "14858455e722d4d220dc74d6594bbfcf2307c637928faa9dfa67326e3ad18191", func := "loop.example/g01986/laws.FnExactTopAlone", spec := "fnExactTopAlone", unfollowed := true, recurses := true, apart := false }
def FnExactTopAloneSaid : Prop := fnExactTopAloneRow.holds Try.pinned (OpenSpec.ofChange fnExactTopAloneSpec)

/-- ITS FALSE NEIGHBOUR: 'it returns false'. Refute it at one input. -/
def fnExactTopAloneWrong : ChangeSpec := { name := "fnExactTopAlone", fn := fun _ => fun
  | [d1, d2, d3] => { results := [.lit (.bool false)], args := [d1, d2, d3] }
  | _ => none }
def FnExactTopAloneWrongFalsely : Prop := fnExactTopAloneRow.holds Try.pinned (OpenSpec.ofChange fnExactTopAloneWrong)

/-- 'laws.FnJoins': WHATEVER THE INPUT: true; the input reads as it did. -/
def fnJoinsSpec : ChangeSpec := { name := "fnJoins", fn := fun _ => fun
  | [d] => { results := [.lit (.bool true)], args := [d] }
  | _ => none }
def fnJoinsRow : OpenClaim := { program := "ytcfbekjiiokcbaa", sum := "14858455e722d4d220dc74d6594bbfcf2307c637928faa9dfa67326e3ad18191", func := "loop.example/g01986/laws.FnJoins", spec := "fnJoins", unfollowed := true, recurses := true, apart := false }
def FnJoinsSaid : Prop := fnJoinsRow.holds Try.pinned (OpenSpec.ofChange fnJoinsSpec)

/-- ITS FALSE NEIGHBOUR: 'it returns false'. Refute it at one input. -/
def fnJoinsWrong : ChangeSpec := { name := "fnJoins", fn := fun _ => fun
  | [d] => { results := [.lit (.bool false)], args := [d] }
  | _ => none }
def FnJoinsWrongFalsely : Prop := fnJoinsRow.holds Try.pinned (OpenSpec.ofChange fnJoinsWrong)

/-- 'laws.FnExactTopShared': WHATEVER THE INPUT: true; the input reads as it did. -/
def fnExactTopSharedSpec : ChangeSpec := { name := "fnExactTopShared", fn := fun _ => fun
  | [d1, d2, d3, d4] => { results := [.lit (.bool true)], args := [d1, d2, d3, d4] }
  | _ => none }
def fnExactTopSharedRow : OpenClaim := { program := "ytcfbekjiiokcbaa", sum := "14858455e722d4d220dc74d6594bbfcf2307c637928faa9dfa67326e3ad18191", func := "loop.example/g01986/laws.FnExactTopShared", spec := "fnExactTopShared", unfollowed := true, recurses := true, apart := false }
def FnExactTopSharedSaid : Prop := fnExactTopSharedRow.holds Try.pinned (OpenSpec.ofChange fnExactTopSharedSpec)

/-- ITS FALSE NEIGHBOUR: 'it returns false'. Refute it at one input. -/
def fnExactTopSharedWrong : ChangeSpec := { name := "fnExactTopShared", fn := fun _ => fun
  | [d1, d2, d3, d4] => { results := [.lit (.bool false)], args := [d1, d2, d3, d4] }
  | _ => none }
def FnExactTopSharedWrongFalsely : Prop := fnExactTopSharedRow.holds Try.pinned (OpenSpec.ofChange fnExactTopSharedWrong)

/-- 'laws.FnExactNewCluster': WHATEVER THE INPUT: true; the input reads as it did. -/
def fnExactNewClusterSpec : ChangeSpec := { name := "fnExactNewCluster", fn := fun _ => fun
  | [d1, d2, d3] => { results := [.lit (.bool true)], args := [d1, d2, d3] }
  | _ => none }
def fnExactNewClusterRow : OpenClaim := { program := "ytcfbekjiiokcbaa", sum := "14858455e722d4d220dc74d6594bbfcf2307c637928faa9dfa67326e3ad18191", func := "loop.example/g01986/laws.FnExactNewCluster", spec := "fnExactNewCluster", apart := false }
def FnExactNewClusterSaid : Prop := fnExactNewClusterRow.holds Try.pinned (OpenSpec.ofChange fnExactNewClusterSpec)

/-- ITS FALSE NEIGHBOUR: 'it returns false'. Refute it at one input. -/
def fnExactNewClusterWrong : ChangeSpec := { name := "fnExactNewCluster", fn := fun _ => fun
  | [d1, d2, d3] => { results := [.lit (.bool false)], args := [d1, d2, d3] }
  | _ => none }
def FnExactNewClusterWrongFalsely : Prop := fnExactNewClusterRow.holds Try.pinned (OpenSpec.ofChange fnExactNewClusterWrong)

/-- 'laws.FnExactIsCluster': WHATEVER THE INPUT: true; the input reads as it did. -/
def fnExactIsClusterSpec : ChangeSpec := { name := "fnExactIsCluster", fn := fun _ => fun
  | [d] => { results := [.lit (.bool true)], args := [d] }
  | _ => none }
def fnExactIsClusterRow : OpenClaim := { program := "ytcfbekjiiokcbaa", sum := "14858455e722d4d220dc74d6594bbfcf2307c637928faa9dfa67326e3ad18191", func := "loop.example/g01986/laws.FnExactIsCluster", spec := "fnExactIsCluster", unfollowed := true, recurses := true, apart := false }
def FnExactIsClusterSaid : Prop := fnExactIsClusterRow.holds Try.pinned (OpenSpec.ofChange fnExactIsClusterSpec)

/-- ITS FALSE NEIGHBOUR: 'it returns false'. Refute it at one input. -/
def fnExactIsClusterWrong : ChangeSpec := { name := "fnExactIsCluster", fn := fun _ => fun
  | [d] => { results := [.lit (.bool false)], args := [d] }
  | _ => none }
def FnExactIsClusterWrongFalsely : Prop := fnExactIsClusterRow.holds Try.pinned (OpenSpec.ofChange fnExactIsClusterWrong)

/- THE SECOND FORM. 'bulk': how many values and letters a reading holds, each counted each time it is reached (what is shared counts as often as it is met; a slice's spare places count too). A statement '..UptoSaid' is the law's where the arguments, and the package variables that the reading takes, are together of bulk at most 1048576: NARROWER than '..Said'. Prove '..Said' where nothing that the law and all that it calls make is longer than what came in: it says more and counts as full. Else prove '..UptoSaid'. A law counts once. -/
mutual
def uptoBulk {H : Type} : DataW H → Nat
  | .lit (.string bytes) => bytes.length + 1
  | .lit _ => 1
  | .nil => 1
  | .ptr d => uptoBulk d + 1
  | .slice elems spare => uptoBulkAll elems + uptoBulkAll spare + 1
  | .agg parts => uptoBulkAll parts + 1
  | .iface _ d => uptoBulk d + 1
  | .map entries => uptoBulkEntries entries + 1
  | .held _ => 1
def uptoBulkAll {H : Type} : List (DataW H) → Nat
  | [] => 0
  | d :: r => uptoBulk d + uptoBulkAll r
def uptoBulkEntries {H : Type} : List (Lit × DataW H) → Nat
  | [] => 0
  | x :: r => uptoBulkEntry x + uptoBulkEntries r
def uptoBulkEntry {H : Type} : Lit × DataW H → Nat
  | (.string bytes, d) => bytes.length + uptoBulk d + 1
  | (_, d) => uptoBulk d + 1
 end
def uptoSmall : (H : Type) → List (DataW H) → Bool := fun _ ds => decide (uptoBulkAll ds ≤ 1048576)
def OpenSpec.upto (s : _root_.Go.ChangeSpec) : _root_.Go.OpenSpec := { _root_.Go.OpenSpec.ofChange s with cond := some uptoSmall }

/-- 'laws.FnExactDeliverAll', WHERE WHAT IT READS IS OF BULK AT MOST 1048576: true; the input reads as it did. -/
def fnExactDeliverAllUptoRow : OpenClaim := { program := "ytcfbekjiiokcbaa", sum := "14858455e722d4d220dc74d6594bbfcf2307c637928faa9dfa67326e3ad18191", func := "loop.example/g01986/laws.FnExactDeliverAll", spec := "fnExactDeliverAll", apart := false, narrowed := true }
def FnExactDeliverAllUptoSaid : Prop := fnExactDeliverAllUptoRow.holds Try.pinned (OpenSpec.upto fnExactDeliverAllSpec)

/-- 'laws.FnExactIsEvent', WHERE WHAT IT READS IS OF BULK AT MOST 1048576: true; the input reads as it did. -/
def fnExactIsEventUptoRow : OpenClaim := { program := "ytcfbekjiiokcbaa", sum := "14858455e722d4d220dc74d6594bbfcf2307c637928faa9dfa67326e3ad18191", func := "loop.example/g01986/laws.FnExactIsEvent", spec := "fnExactIsEvent", apart := false, narrowed := true }
def FnExactIsEventUptoSaid : Prop := fnExactIsEventUptoRow.holds Try.pinned (OpenSpec.upto fnExactIsEventSpec)

/-- 'laws.FnExactSortByField', WHERE WHAT IT READS IS OF BULK AT MOST 1048576: true; the input reads as it did. -/
def fnExactSortByFieldUptoRow : OpenClaim := { program := "ytcfbekjiiokcbaa", sum := "14858455e722d4d220dc74d6594bbfcf2307c637928faa9dfa67326e3ad18191", func := "loop.example/g01986/laws.FnExactSortByField", spec := "fnExactSortByField", unfollowed := true, recurses := true, apart := false, narrowed := true }
def FnExactSortByFieldUptoSaid : Prop := fnExactSortByFieldUptoRow.holds Try.pinned (OpenSpec.upto fnExactSortByFieldSpec)

/-- 'laws.FnExactEqualClusters', WHERE WHAT IT READS IS OF BULK AT MOST 1048576: true; the input reads as it did. -/
def fnExactEqualClustersUptoRow : OpenClaim := { program := "ytcfbekjiiokcbaa", sum := "14858455e722d4d220dc74d6594bbfcf2307c637928faa9dfa67326e3ad18191", func := "loop.example/g01986/laws.FnExactEqualClusters", spec := "fnExactEqualClusters", unfollowed := true, recurses := true, apart := false, narrowed := true }
def FnExactEqualClustersUptoSaid : Prop := fnExactEqualClustersUptoRow.holds Try.pinned (OpenSpec.upto fnExactEqualClustersSpec)

/-- 'laws.FnExactTopAlone', WHERE WHAT IT READS IS OF BULK AT MOST 1048576: true; the input reads as it did. -/
def fnExactTopAloneUptoRow : OpenClaim := { program := "ytcfbekjiiokcbaa", sum := "14858455e722d4d220dc74d6594bbfcf2307c637928faa9dfa67326e3ad18191", func := "loop.example/g01986/laws.FnExactTopAlone", spec := "fnExactTopAlone", unfollowed := true, recurses := true, apart := false, narrowed := true }
def FnExactTopAloneUptoSaid : Prop := fnExactTopAloneUptoRow.holds Try.pinned (OpenSpec.upto fnExactTopAloneSpec)

/-- 'laws.FnJoins', WHERE WHAT IT READS IS OF BULK AT MOST 1048576: true; the input reads as it did. -/
def fnJoinsUptoRow : OpenClaim := { program := "ytcfbekjiiokcbaa", sum := "14858455e722d4d220dc74d6594bbfcf2307c637928faa9dfa67326e3ad18191", func := "loop.example/g01986/laws.FnJoins", spec := "fnJoins", unfollowed := true, recurses := true, apart := false, narrowed := true }
def FnJoinsUptoSaid : Prop := fnJoinsUptoRow.holds Try.pinned (OpenSpec.upto fnJoinsSpec)

/-- 'laws.FnExactTopShared', WHERE WHAT IT READS IS OF BULK AT MOST 1048576: true; the input reads as it did. -/
def fnExactTopSharedUptoRow : OpenClaim := { program := "ytcfbekjiiokcbaa", sum := "14858455e722d4d220dc74d6594bbfcf2307c637928faa9dfa67326e3ad18191", func := "loop.example/g01986/laws.FnExactTopShared", spec := "fnExactTopShared", unfollowed := true, recurses := true, apart := false, narrowed := true }
def FnExactTopSharedUptoSaid : Prop := fnExactTopSharedUptoRow.holds Try.pinned (OpenSpec.upto fnExactTopSharedSpec)

/-- 'laws.FnExactNewCluster', WHERE WHAT IT READS IS OF BULK AT MOST 1048576: true; the input reads as it did. -/
def fnExactNewClusterUptoRow : OpenClaim := { program := "ytcfbekjiiokcbaa", sum := "14858455e722d4d220dc74d6594bbfcf2307c637928faa9dfa67326e3ad18191", func := "loop.example/g01986/laws.FnExactNewCluster", spec := "fnExactNewCluster", apart := false, narrowed := true }
def FnExactNewClusterUptoSaid : Prop := fnExactNewClusterUptoRow.holds Try.pinned (OpenSpec.upto fnExactNewClusterSpec)

/-- 'laws.FnExactIsCluster', WHERE WHAT IT READS IS OF BULK AT MOST 1048576: true; the input reads as it did. -/
def fnExactIsClusterUptoRow : OpenClaim := { program := "ytcfbekjiiokcbaa", sum := "14858455e722d4d220dc74d6594bbfcf2307c637928faa9dfa67326e3ad18191", func := "loop.example/g01986/laws.FnExactIsCluster", spec := "fnExactIsCluster", unfollowed := true, recurses := true, apart := false, narrowed := true }
def FnExactIsClusterUptoSaid : Prop := fnExactIsClusterUptoRow.holds Try.pinned (OpenSpec.upto fnExactIsClusterSpec)

end Rows
end Go.Proofs.Ytcfbekjiiokcbaa
