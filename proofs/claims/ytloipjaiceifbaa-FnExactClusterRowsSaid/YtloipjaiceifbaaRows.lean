/-
  No cell of these rows narrows 'for every input' (looked for: loops, veiled, ifaces, maps, wideKeys, modest, calm, conditions, laid).
  DERIVED. THE GIVEN ROWS OF THIS SEAT. 7 by the template 'for every input the law returns true; each argument reads behind the call as it read before'; 0 by the template 'total and deterministic' (their statements: YtloipjaiceifbaaTotals.lean).
  GIVEN WITH THE SEED: the statements are not yours to turn. If you find one false, say at which input.
  Laid BY PROGRAM, IN A SANDBOX (cutbox-rows.mjs): the forced cells as the released guide's own fill.sh prints them over the translation 2d90702af7ffe58c… (all of the seat's roots in one cut). By AI agents, Wed Nov 11 2026. No macro, syntax, notation, axiom, sorry.
-/
import Derived.Test.YtloipjaiceifbaaChecked
import GoSem.Claim
import GoSem.ClaimJoined
import GoSem.ClaimMapViews
import Derived.JoinedTies
import Derived.KernelRfl
namespace Go.Proofs.Ytloipjaiceifbaa
/- THE CELL 'sum', in the pinned program and in every row, IS THE sha256 OF THE DUMP (.gsa) THAT YtloipjaiceifbaaProg.lean LOADS. Nothing in Lean hashes anything: it is a label: what it is worth is what the hold of that sum in a sandbox is worth. -/
noncomputable def Try.pinned : Pinned := { name := "ytloipjaiceifbaa", sum := "2d90702af7ffe58cf3ca62cfcf62d38e26c130ad5dbf4405abd544d1b86a1e44", checked := Try.checked }
namespace Rows
def none {H : Type} : Left H := { results := [], args := [] }

/-- 'laws.FnExactSortByField': WHATEVER THE INPUT: true; the input reads as it did. -/
def fnExactSortByFieldSpec : ChangeSpec := { name := "fnExactSortByField", fn := fun _ => fun
  | [d1, d2] => { results := [.lit (.bool true)], args := [d1, d2] }
  | _ => none }
def fnExactSortByFieldRow : OpenClaim := { program := "ytloipjaiceifbaa", sum := "2d90702af7ffe58cf3ca62cfcf62d38e26c130ad5dbf4405abd544d1b86a1e44", func := "loop.example/g01986/laws.FnExactSortByField", spec := "fnExactSortByField", unfollowed := true, recurses := true, apart := false }
def FnExactSortByFieldSaid : Prop := fnExactSortByFieldRow.holds Try.pinned (OpenSpec.ofChange fnExactSortByFieldSpec)

/-- ITS FALSE NEIGHBOUR: 'it returns false'. Refute it at one input. -/
def fnExactSortByFieldWrong : ChangeSpec := { name := "fnExactSortByField", fn := fun _ => fun
  | [d1, d2] => { results := [.lit (.bool false)], args := [d1, d2] }
  | _ => none }
def FnExactSortByFieldWrongFalsely : Prop := fnExactSortByFieldRow.holds Try.pinned (OpenSpec.ofChange fnExactSortByFieldWrong)

/-- 'laws.FnExactTopAlone': WHATEVER THE INPUT: true; the input reads as it did. -/
def fnExactTopAloneSpec : ChangeSpec := { name := "fnExactTopAlone", fn := fun _ => fun
  | [d1, d2, d3] => { results := [.lit (.bool true)], args := [d1, d2, d3] }
  | _ => none }
def fnExactTopAloneRow : OpenClaim := { program := "ytloipjaiceifbaa", sum := "2d90702af7ffe58cf3ca62cfcf62d38e26c130ad5dbf4405abd544d1b86a1e44", func := "loop.example/g01986/laws.FnExactTopAlone", spec := "fnExactTopAlone", unfollowed := true, recurses := true, apart := false }
def FnExactTopAloneSaid : Prop := fnExactTopAloneRow.holds Try.pinned (OpenSpec.ofChange fnExactTopAloneSpec)

/-- ITS FALSE NEIGHBOUR: 'it returns false'. Refute it at one input. -/
def fnExactTopAloneWrong : ChangeSpec := { name := "fnExactTopAlone", fn := fun _ => fun
  | [d1, d2, d3] => { results := [.lit (.bool false)], args := [d1, d2, d3] }
  | _ => none }
def FnExactTopAloneWrongFalsely : Prop := fnExactTopAloneRow.holds Try.pinned (OpenSpec.ofChange fnExactTopAloneWrong)

/-- 'laws.FnExactTopShared': WHATEVER THE INPUT: true; the input reads as it did. -/
def fnExactTopSharedSpec : ChangeSpec := { name := "fnExactTopShared", fn := fun _ => fun
  | [d1, d2, d3, d4] => { results := [.lit (.bool true)], args := [d1, d2, d3, d4] }
  | _ => none }
def fnExactTopSharedRow : OpenClaim := { program := "ytloipjaiceifbaa", sum := "2d90702af7ffe58cf3ca62cfcf62d38e26c130ad5dbf4405abd544d1b86a1e44", func := "loop.example/g01986/laws.FnExactTopShared", spec := "fnExactTopShared", unfollowed := true, recurses := true, apart := false }
def FnExactTopSharedSaid : Prop := fnExactTopSharedRow.holds Try.pinned (OpenSpec.ofChange fnExactTopSharedSpec)

/-- ITS FALSE NEIGHBOUR: 'it returns false'. Refute it at one input. -/
def fnExactTopSharedWrong : ChangeSpec := { name := "fnExactTopShared", fn := fun _ => fun
  | [d1, d2, d3, d4] => { results := [.lit (.bool false)], args := [d1, d2, d3, d4] }
  | _ => none }
def FnExactTopSharedWrongFalsely : Prop := fnExactTopSharedRow.holds Try.pinned (OpenSpec.ofChange fnExactTopSharedWrong)

/-- 'laws.FnExactNewCluster': WHATEVER THE INPUT: true; the input reads as it did. -/
def fnExactNewClusterSpec : ChangeSpec := { name := "fnExactNewCluster", fn := fun _ => fun
  | [d1, d2, d3] => { results := [.lit (.bool true)], args := [d1, d2, d3] }
  | _ => none }
def fnExactNewClusterRow : OpenClaim := { program := "ytloipjaiceifbaa", sum := "2d90702af7ffe58cf3ca62cfcf62d38e26c130ad5dbf4405abd544d1b86a1e44", func := "loop.example/g01986/laws.FnExactNewCluster", spec := "fnExactNewCluster", apart := false }
def FnExactNewClusterSaid : Prop := fnExactNewClusterRow.holds Try.pinned (OpenSpec.ofChange fnExactNewClusterSpec)

/-- ITS FALSE NEIGHBOUR: 'it returns false'. Refute it at one input. -/
def fnExactNewClusterWrong : ChangeSpec := { name := "fnExactNewCluster", fn := fun _ => fun
  | [d1, d2, d3] => { results := [.lit (.bool false)], args := [d1, d2, d3] }
  | _ => none }
def FnExactNewClusterWrongFalsely : Prop := fnExactNewClusterRow.holds Try.pinned (OpenSpec.ofChange fnExactNewClusterWrong)

/-- 'laws.FnExactRecoverNode': WHATEVER THE INPUT: true; the input reads as it did. -/
def fnExactRecoverNodeSpec : ChangeSpec := { name := "fnExactRecoverNode", fn := fun _ => fun
  | [d1, d2] => { results := [.lit (.bool true)], args := [d1, d2] }
  | _ => none }
def fnExactRecoverNodeRow : OpenClaim := { program := "ytloipjaiceifbaa", sum := "2d90702af7ffe58cf3ca62cfcf62d38e26c130ad5dbf4405abd544d1b86a1e44", func := "loop.example/g01986/laws.FnExactRecoverNode", spec := "fnExactRecoverNode", unfollowed := true, recurses := true, apart := false }
def FnExactRecoverNodeSaid : Prop := fnExactRecoverNodeRow.holds Try.pinned (OpenSpec.ofChange fnExactRecoverNodeSpec)

/-- ITS FALSE NEIGHBOUR: 'it returns false'. Refute it at one input. -/
def fnExactRecoverNodeWrong : ChangeSpec := { name := "fnExactRecoverNode", fn := fun _ => fun
  | [d1, d2] => { results := [.lit (.bool false)], args := [d1, d2] }
  | _ => none }
def FnExactRecoverNodeWrongFalsely : Prop := fnExactRecoverNodeRow.holds Try.pinned (OpenSpec.ofChange fnExactRecoverNodeWrong)

/-- 'laws.FnExactFailNode': WHATEVER THE INPUT: true; the input reads as it did. -/
def fnExactFailNodeSpec : ChangeSpec := { name := "fnExactFailNode", fn := fun _ => fun
  | [d1, d2] => { results := [.lit (.bool true)], args := [d1, d2] }
  | _ => none }
def fnExactFailNodeRow : OpenClaim := { program := "ytloipjaiceifbaa", sum := "2d90702af7ffe58cf3ca62cfcf62d38e26c130ad5dbf4405abd544d1b86a1e44", func := "loop.example/g01986/laws.FnExactFailNode", spec := "fnExactFailNode", unfollowed := true, recurses := true, apart := false }
def FnExactFailNodeSaid : Prop := fnExactFailNodeRow.holds Try.pinned (OpenSpec.ofChange fnExactFailNodeSpec)

/-- ITS FALSE NEIGHBOUR: 'it returns false'. Refute it at one input. -/
def fnExactFailNodeWrong : ChangeSpec := { name := "fnExactFailNode", fn := fun _ => fun
  | [d1, d2] => { results := [.lit (.bool false)], args := [d1, d2] }
  | _ => none }
def FnExactFailNodeWrongFalsely : Prop := fnExactFailNodeRow.holds Try.pinned (OpenSpec.ofChange fnExactFailNodeWrong)

/-- 'laws.FnExactClusterRows': WHATEVER THE INPUT: true; the input reads as it did. -/
def fnExactClusterRowsSpec : ChangeSpec := { name := "fnExactClusterRows", fn := fun _ => fun
  | [d] => { results := [.lit (.bool true)], args := [d] }
  | _ => none }
def fnExactClusterRowsRow : OpenClaim := { program := "ytloipjaiceifbaa", sum := "2d90702af7ffe58cf3ca62cfcf62d38e26c130ad5dbf4405abd544d1b86a1e44", func := "loop.example/g01986/laws.FnExactClusterRows", spec := "fnExactClusterRows", unfollowed := true, recurses := true, apart := false }
def FnExactClusterRowsSaid : Prop := fnExactClusterRowsRow.holds Try.pinned (OpenSpec.ofChange fnExactClusterRowsSpec)

/-- ITS FALSE NEIGHBOUR: 'it returns false'. Refute it at one input. -/
def fnExactClusterRowsWrong : ChangeSpec := { name := "fnExactClusterRows", fn := fun _ => fun
  | [d] => { results := [.lit (.bool false)], args := [d] }
  | _ => none }
def FnExactClusterRowsWrongFalsely : Prop := fnExactClusterRowsRow.holds Try.pinned (OpenSpec.ofChange fnExactClusterRowsWrong)

/- THE SECOND FORM. 'bulk': how many values and letters a reading holds, each counted each time it is reached (what is shared counts as often as it is met; a slice's spare places count too). A statement '..UptoSaid' is the law's where the arguments, and the package variables that the reading takes, are together of bulk at most 1048576: NARROWER than '..Said'. Prove '..Said' where nothing that the law and all that it calls make is longer than what came in: it says more and counts as full. Else prove '..UptoSaid'. A law counts once. -/
mutual
def uptoBulk {H : Type} : DataW H → Nat
  | .lit (.string bytes) => bytes.length + 1
  | .lit _ => 1
  | .nil => 1
  | .ptr d => uptoBulk d + 1
  | .slice elems spare => uptoBulkAll elems + uptoBulkAll spare + 1
  | .agg parts => uptoBulkAll parts + 1
  | .iface _ d => uptoBulk d + 1
  | .map entries => uptoBulkEntries entries + 1
  | .held _ => 1
def uptoBulkAll {H : Type} : List (DataW H) → Nat
  | [] => 0
  | d :: r => uptoBulk d + uptoBulkAll r
def uptoBulkEntries {H : Type} : List (Lit × DataW H) → Nat
  | [] => 0
  | x :: r => uptoBulkEntry x + uptoBulkEntries r
def uptoBulkEntry {H : Type} : Lit × DataW H → Nat
  | (.string bytes, d) => bytes.length + uptoBulk d + 1
  | (_, d) => uptoBulk d + 1
 end
def uptoSmall : (H : Type) → List (DataW H) → Bool := fun _ ds => decide (uptoBulkAll ds ≤ 1048576)
def OpenSpec.upto (s : _root_.Go.ChangeSpec) : _root_.Go.OpenSpec := { _root_.Go.OpenSpec.ofChange s with cond := some uptoSmall }

/-- 'laws.FnExactSortByField', WHERE WHAT IT READS IS OF BULK AT MOST 1048576: true; the input reads as it did. -/
def fnExactSortByFieldUptoRow : OpenClaim := { program := "ytloipjaiceifbaa", sum := "2d90702af7ffe58cf3ca62cfcf62d38e26c130ad5dbf4405abd544d1b86a1e44", func := "loop.example/g01986/laws.FnExactSortByField", spec := "fnExactSortByField", unfollowed := true, recurses := true, apart := false, narrowed := true }
def FnExactSortByFieldUptoSaid : Prop := fnExactSortByFieldUptoRow.holds Try.pinned (OpenSpec.upto fnExactSortByFieldSpec)

/-- 'laws.FnExactTopAlone', WHERE WHAT IT READS IS OF BULK AT MOST 1048576: true; the input reads as it did. -/
def fnExactTopAloneUptoRow : OpenClaim := { program := "ytloipjaiceifbaa", sum := "2d90702af7ffe58cf3ca62cfcf62d38e26c130ad5dbf4405abd544d1b86a1e44", func := "loop.example/g01986/laws.FnExactTopAlone", spec := "fnExactTopAlone", unfollowed := true, recurses := true, apart := false, narrowed := true }
def FnExactTopAloneUptoSaid : Prop := fnExactTopAloneUptoRow.holds Try.pinned (OpenSpec.upto fnExactTopAloneSpec)

/-- 'laws.FnExactTopShared', WHERE WHAT IT READS IS OF BULK AT MOST 1048576: true; the input reads as it did. -/
def fnExactTopSharedUptoRow : OpenClaim := { program := "ytloipjaiceifbaa", sum := "2d90702af7ffe58cf3ca62cfcf62d38e26c130ad5dbf4405abd544d1b86a1e44", func := "loop.example/g01986/laws.FnExactTopShared", spec := "fnExactTopShared", unfollowed := true, recurses := true, apart := false, narrowed := true }
def FnExactTopSharedUptoSaid : Prop := fnExactTopSharedUptoRow.holds Try.pinned (OpenSpec.upto fnExactTopSharedSpec)

/-- 'laws.FnExactNewCluster', WHERE WHAT IT READS IS OF BULK AT MOST 1048576: true; the input reads as it did. -/
def fnExactNewClusterUptoRow : OpenClaim := { program := "ytloipjaiceifbaa", sum := "2d90702af7ffe58cf3ca62cfcf62d38e26c130ad5dbf4405abd544d1b86a1e44", func := "loop.example/g01986/laws.FnExactNewCluster", spec := "fnExactNewCluster", apart := false, narrowed := true }
def FnExactNewClusterUptoSaid : Prop := fnExactNewClusterUptoRow.holds Try.pinned (OpenSpec.upto fnExactNewClusterSpec)

/-- 'laws.FnExactRecoverNode', WHERE WHAT IT READS IS OF BULK AT MOST 1048576: true; the input reads as it did. -/
def fnExactRecoverNodeUptoRow : OpenClaim := { program := "ytloipjaiceifbaa", sum := "2d90702af7ffe58cf3ca62cfcf62d38e26c130ad5dbf4405abd544d1b86a1e44", func := "loop.example/g01986/laws.FnExactRecoverNode", spec := "fnExactRecoverNode", unfollowed := true, recurses := true, apart := false, narrowed := true }
def FnExactRecoverNodeUptoSaid : Prop := fnExactRecoverNodeUptoRow.holds Try.pinned (OpenSpec.upto fnExactRecoverNodeSpec)

/-- 'laws.FnExactFailNode', WHERE WHAT IT READS IS OF BULK AT MOST 1048576: true; the input reads as it did. -/
def fnExactFailNodeUptoRow : OpenClaim := { program := "ytloipjaiceifbaa", sum := "2d90702af7ffe58cf3ca62cfcf62d38e26c130ad5dbf4405abd544d1b86a1e44", func := "loop.example/g01986/laws.FnExactFailNode", spec := "fnExactFailNode", unfollowed := true, recurses := true, apart := false, narrowed := true }
def FnExactFailNodeUptoSaid : Prop := fnExactFailNodeUptoRow.holds Try.pinned (OpenSpec.upto fnExactFailNodeSpec)

/-- 'laws.FnExactClusterRows', WHERE WHAT IT READS IS OF BULK AT MOST 1048576: true; the input reads as it did. -/
def fnExactClusterRowsUptoRow : OpenClaim := { program := "ytloipjaiceifbaa", sum := "2d90702af7ffe58cf3ca62cfcf62d38e26c130ad5dbf4405abd544d1b86a1e44", func := "loop.example/g01986/laws.FnExactClusterRows", spec := "fnExactClusterRows", unfollowed := true, recurses := true, apart := false, narrowed := true }
def FnExactClusterRowsUptoSaid : Prop := fnExactClusterRowsUptoRow.holds Try.pinned (OpenSpec.upto fnExactClusterRowsSpec)

end Rows
end Go.Proofs.Ytloipjaiceifbaa
