/-
  No cell of these rows narrows 'for every input' (looked for: loops, veiled, ifaces, maps, wideKeys, modest, calm, conditions, laid).
  DERIVED. THE GIVEN ROWS OF THIS SEAT. 6 by the template 'for every input the law returns true; each argument reads behind the call as it read before'; 0 by the template 'total and deterministic' (their statements: YtbcbeppalbgniaaTotals.lean).
  GIVEN WITH THE SEED: the statements are not yours to turn. If you find one false, say at which input.
  Laid BY PROGRAM, IN A SANDBOX (cutbox-rows.mjs): the forced cells as the released guide's own fill.sh prints them over the translation 8a9f5da513fd353e… (all of the seat's roots in one cut). By AI agents, Wed Nov 11 2026. No macro, syntax, notation, axiom, sorry.
-/
import Derived.Test.YtbcbeppalbgniaaChecked
import GoSem.Claim
import GoSem.ClaimJoined
import GoSem.ClaimMapViews
import Derived.JoinedTies
import Derived.KernelRfl
namespace Go.Proofs.Ytbcbeppalbgniaa
/- THE CELL 'sum', in the pinned program and in every row, IS THE sha256 OF THE DUMP (.gsa) THAT YtbcbeppalbgniaaProg.lean LOADS. Nothing in Lean hashes anything: it is a label: what it is worth is what the hold of that sum in a sandbox is worth. -/
noncomputable def Try.pinned : Pinned := { name := "ytbcbeppalbgniaa", sum := "8a9f5da513fd353e3187107f2a850bd7b3af96f8233902ed000a28c5fc852bab", checked := Try.checked }
namespace Rows
def none {H : Type} : Left H := { results := [], args := [] }

/-- 'laws.FnExactBackupOf': WHATEVER THE INPUT: true; the input reads as it did. -/
def fnExactBackupOfSpec : ChangeSpec := { name := "fnExactBackupOf", fn := fun _ => fun
  | [d1, d2] => { results := [.lit (.bool true)], args := [d1, d2] }
  | _ => none }
def fnExactBackupOfRow : OpenClaim := { program := "ytbcbeppalbgniaa", sum := "8a9f5da513fd353e3187107f2a850bd7b3af96f8233902ed000a28c5fc852bab", func := "loop.example/g01986/laws.FnExactBackupOf", spec := "fnExactBackupOf", apart := false }
def FnExactBackupOfSaid : Prop := fnExactBackupOfRow.holds Try.pinned (OpenSpec.ofChange fnExactBackupOfSpec)

/-- ITS FALSE NEIGHBOUR: 'it returns false'. Refute it at one input. -/
def fnExactBackupOfWrong : ChangeSpec := { name := "fnExactBackupOf", fn := fun _ => fun
  | [d1, d2] => { results := [.lit (.bool false)], args := [d1, d2] }
  | _ => none }
def FnExactBackupOfWrongFalsely : Prop := fnExactBackupOfRow.holds Try.pinned (OpenSpec.ofChange fnExactBackupOfWrong)

/-- 'laws.FnExactHomeOf': WHATEVER THE INPUT: true; the input reads as it did. -/
def fnExactHomeOfSpec : ChangeSpec := { name := "fnExactHomeOf", fn := fun _ => fun
  | [d1, d2] => { results := [.lit (.bool true)], args := [d1, d2] }
  | _ => none }
def fnExactHomeOfRow : OpenClaim := { program := "ytbcbeppalbgniaa", sum := "8a9f5da513fd353e3187107f2a850bd7b3af96f8233902ed000a28c5fc852bab", func := "loop.example/g01986/laws.FnExactHomeOf", spec := "fnExactHomeOf", apart := false }
def FnExactHomeOfSaid : Prop := fnExactHomeOfRow.holds Try.pinned (OpenSpec.ofChange fnExactHomeOfSpec)

/-- ITS FALSE NEIGHBOUR: 'it returns false'. Refute it at one input. -/
def fnExactHomeOfWrong : ChangeSpec := { name := "fnExactHomeOf", fn := fun _ => fun
  | [d1, d2] => { results := [.lit (.bool false)], args := [d1, d2] }
  | _ => none }
def FnExactHomeOfWrongFalsely : Prop := fnExactHomeOfRow.holds Try.pinned (OpenSpec.ofChange fnExactHomeOfWrong)

/-- 'laws.FnExactEqualJoined': WHATEVER THE INPUT: true; the input reads as it did. -/
def fnExactEqualJoinedSpec : ChangeSpec := { name := "fnExactEqualJoined", fn := fun _ => fun
  | [d1, d2] => { results := [.lit (.bool true)], args := [d1, d2] }
  | _ => none }
def fnExactEqualJoinedRow : OpenClaim := { program := "ytbcbeppalbgniaa", sum := "8a9f5da513fd353e3187107f2a850bd7b3af96f8233902ed000a28c5fc852bab", func := "loop.example/g01986/laws.FnExactEqualJoined", spec := "fnExactEqualJoined", apart := false }
def FnExactEqualJoinedSaid : Prop := fnExactEqualJoinedRow.holds Try.pinned (OpenSpec.ofChange fnExactEqualJoinedSpec)

/-- ITS FALSE NEIGHBOUR: 'it returns false'. Refute it at one input. -/
def fnExactEqualJoinedWrong : ChangeSpec := { name := "fnExactEqualJoined", fn := fun _ => fun
  | [d1, d2] => { results := [.lit (.bool false)], args := [d1, d2] }
  | _ => none }
def FnExactEqualJoinedWrongFalsely : Prop := fnExactEqualJoinedRow.holds Try.pinned (OpenSpec.ofChange fnExactEqualJoinedWrong)

/-- 'laws.FnExactIsOutbox': WHATEVER THE INPUT: true; the input reads as it did. -/
def fnExactIsOutboxSpec : ChangeSpec := { name := "fnExactIsOutbox", fn := fun _ => fun
  | [d] => { results := [.lit (.bool true)], args := [d] }
  | _ => none }
def fnExactIsOutboxRow : OpenClaim := { program := "ytbcbeppalbgniaa", sum := "8a9f5da513fd353e3187107f2a850bd7b3af96f8233902ed000a28c5fc852bab", func := "loop.example/g01986/laws.FnExactIsOutbox", spec := "fnExactIsOutbox", apart := false }
def FnExactIsOutboxSaid : Prop := fnExactIsOutboxRow.holds Try.pinned (OpenSpec.ofChange fnExactIsOutboxSpec)

/-- ITS FALSE NEIGHBOUR: 'it returns false'. Refute it at one input. -/
def fnExactIsOutboxWrong : ChangeSpec := { name := "fnExactIsOutbox", fn := fun _ => fun
  | [d] => { results := [.lit (.bool false)], args := [d] }
  | _ => none }
def FnExactIsOutboxWrongFalsely : Prop := fnExactIsOutboxRow.holds Try.pinned (OpenSpec.ofChange fnExactIsOutboxWrong)

/-- 'laws.FnExactRouteJoined': WHATEVER THE INPUT: true; the input reads as it did. -/
def fnExactRouteJoinedSpec : ChangeSpec := { name := "fnExactRouteJoined", fn := fun _ => fun
  | [d1, d2] => { results := [.lit (.bool true)], args := [d1, d2] }
  | _ => none }
def fnExactRouteJoinedRow : OpenClaim := { program := "ytbcbeppalbgniaa", sum := "8a9f5da513fd353e3187107f2a850bd7b3af96f8233902ed000a28c5fc852bab", func := "loop.example/g01986/laws.FnExactRouteJoined", spec := "fnExactRouteJoined", apart := false }
def FnExactRouteJoinedSaid : Prop := fnExactRouteJoinedRow.holds Try.pinned (OpenSpec.ofChange fnExactRouteJoinedSpec)

/-- ITS FALSE NEIGHBOUR: 'it returns false'. Refute it at one input. -/
def fnExactRouteJoinedWrong : ChangeSpec := { name := "fnExactRouteJoined", fn := fun _ => fun
  | [d1, d2] => { results := [.lit (.bool false)], args := [d1, d2] }
  | _ => none }
def FnExactRouteJoinedWrongFalsely : Prop := fnExactRouteJoinedRow.holds Try.pinned (OpenSpec.ofChange fnExactRouteJoinedWrong)

/-- 'laws.FnExactEqualRouted': WHATEVER THE INPUT: true; the input reads as it did. -/
def fnExactEqualRoutedSpec : ChangeSpec := { name := "fnExactEqualRouted", fn := fun _ => fun
  | [d1, d2] => { results := [.lit (.bool true)], args := [d1, d2] }
  | _ => none }
def fnExactEqualRoutedRow : OpenClaim := { program := "ytbcbeppalbgniaa", sum := "8a9f5da513fd353e3187107f2a850bd7b3af96f8233902ed000a28c5fc852bab", func := "loop.example/g01986/laws.FnExactEqualRouted", spec := "fnExactEqualRouted", unfollowed := true, recurses := true, apart := false }
def FnExactEqualRoutedSaid : Prop := fnExactEqualRoutedRow.holds Try.pinned (OpenSpec.ofChange fnExactEqualRoutedSpec)

/-- ITS FALSE NEIGHBOUR: 'it returns false'. Refute it at one input. -/
def fnExactEqualRoutedWrong : ChangeSpec := { name := "fnExactEqualRouted", fn := fun _ => fun
  | [d1, d2] => { results := [.lit (.bool false)], args := [d1, d2] }
  | _ => none }
def FnExactEqualRoutedWrongFalsely : Prop := fnExactEqualRoutedRow.holds Try.pinned (OpenSpec.ofChange fnExactEqualRoutedWrong)

/- THE SECOND FORM. 'bulk': how many values and letters a reading holds, each counted each time it is reached (what is shared counts as often as it is met; a slice's spare places count too). A statement '..UptoSaid' is the law's where the arguments, and the package variables that the reading takes, are together of bulk at most 1048576: NARROWER than '..Said'. Prove '..Said' where nothing that the law and all that it calls make is longer than what came in: it says more and counts as full. Else prove '..UptoSaid'. A law counts once. -/
mutual
def uptoBulk {H : Type} : DataW H → Nat
  | .lit (.string bytes) => bytes.length + 1
  | .lit _ => 1
  | .nil => 1
  | .ptr d => uptoBulk d + 1
  | .slice elems spare => uptoBulkAll elems + uptoBulkAll spare + 1
  | .agg parts => uptoBulkAll parts + 1
  | .iface _ d => uptoBulk d + 1
  | .map entries => uptoBulkEntries entries + 1
  | .held _ => 1
def uptoBulkAll {H : Type} : List (DataW H) → Nat
  | [] => 0
  | d :: r => uptoBulk d + uptoBulkAll r
def uptoBulkEntries {H : Type} : List (Lit × DataW H) → Nat
  | [] => 0
  | x :: r => uptoBulkEntry x + uptoBulkEntries r
def uptoBulkEntry {H : Type} : Lit × DataW H → Nat
  | (.string bytes, d) => bytes.length + uptoBulk d + 1
  | (_, d) => uptoBulk d + 1
 end
def uptoSmall : (H : Type) → List (DataW H) → Bool := fun _ ds => decide (uptoBulkAll ds ≤ 1048576)
def OpenSpec.upto (s : _root_.Go.ChangeSpec) : _root_.Go.OpenSpec := { _root_.Go.OpenSpec.ofChange s with cond := some uptoSmall }

/-- 'laws.FnExactBackupOf', WHERE WHAT IT READS IS OF BULK AT MOST 1048576: true; the input reads as it did. -/
def fnExactBackupOfUptoRow : OpenClaim := { program := "ytbcbeppalbgniaa", sum := "8a9f5da513fd353e3187107f2a850bd7b3af96f8233902ed000a28c5fc852bab", func := "loop.example/g01986/laws.FnExactBackupOf", spec := "fnExactBackupOf", apart := false, narrowed := true }
def FnExactBackupOfUptoSaid : Prop := fnExactBackupOfUptoRow.holds Try.pinned (OpenSpec.upto fnExactBackupOfSpec)

/-- 'laws.FnExactHomeOf', WHERE WHAT IT READS IS OF BULK AT MOST 1048576: true; the input reads as it did. -/
def fnExactHomeOfUptoRow : OpenClaim := { program := "ytbcbeppalbgniaa", sum := "8a9f5da513fd353e3187107f2a850bd7b3af96f8233902ed000a28c5fc852bab", func := "loop.example/g01986/laws.FnExactHomeOf", spec := "fnExactHomeOf", apart := false, narrowed := true }
def FnExactHomeOfUptoSaid : Prop := fnExactHomeOfUptoRow.holds Try.pinned (OpenSpec.upto fnExactHomeOfSpec)

/-- 'laws.FnExactEqualJoined', WHERE WHAT IT READS IS OF BULK AT MOST 1048576: true; the input reads as it did. -/
def fnExactEqualJoinedUptoRow : OpenClaim := { program := "ytbcbeppalbgniaa", sum := "8a9f5da513fd353e3187107f2a850bd7b3af96f8233902ed000a28c5fc852bab", func := "loop.example/g01986/laws.FnExactEqualJoined", spec := "fnExactEqualJoined", apart := false, narrowed := true }
def FnExactEqualJoinedUptoSaid : Prop := fnExactEqualJoinedUptoRow.holds Try.pinned (OpenSpec.upto fnExactEqualJoinedSpec)

/-- 'laws.FnExactIsOutbox', WHERE WHAT IT READS IS OF BULK AT MOST 1048576: true; the input reads as it did. -/
def fnExactIsOutboxUptoRow : OpenClaim := { program := "ytbcbeppalbgniaa", sum := "8a9f5da513fd353e3187107f2a850bd7b3af96f8233902ed000a28c5fc852bab", func := "loop.example/g01986/laws.FnExactIsOutbox", spec := "fnExactIsOutbox", apart := false, narrowed := true }
def FnExactIsOutboxUptoSaid : Prop := fnExactIsOutboxUptoRow.holds Try.pinned (OpenSpec.upto fnExactIsOutboxSpec)

/-- 'laws.FnExactRouteJoined', WHERE WHAT IT READS IS OF BULK AT MOST 1048576: true; the input reads as it did. -/
def fnExactRouteJoinedUptoRow : OpenClaim := { program := "ytbcbeppalbgniaa", sum := "8a9f5da513fd353e3187107f2a850bd7b3af96f8233902ed000a28c5fc852bab", func := "loop.example/g01986/laws.FnExactRouteJoined", spec := "fnExactRouteJoined", apart := false, narrowed := true }
def FnExactRouteJoinedUptoSaid : Prop := fnExactRouteJoinedUptoRow.holds Try.pinned (OpenSpec.upto fnExactRouteJoinedSpec)

/-- 'laws.FnExactEqualRouted', WHERE WHAT IT READS IS OF BULK AT MOST 1048576: true; the input reads as it did. -/
def fnExactEqualRoutedUptoRow : OpenClaim := { program := "ytbcbeppalbgniaa", sum := "8a9f5da513fd353e3187107f2a850bd7b3af96f8233902ed000a28c5fc852bab", func := "loop.example/g01986/laws.FnExactEqualRouted", spec := "fnExactEqualRouted", unfollowed := true, recurses := true, apart := false, narrowed := true }
def FnExactEqualRoutedUptoSaid : Prop := fnExactEqualRoutedUptoRow.holds Try.pinned (OpenSpec.upto fnExactEqualRoutedSpec)

end Rows
end Go.Proofs.Ytbcbeppalbgniaa
