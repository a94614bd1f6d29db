/- Short forms of the rules of a region. No condition. -/
import Derived.Test.YtloipjaiceifbaaCV
namespace Go.Proofs.Ytloipjaiceifbaa.M
open Go Go.RowKit
section
variable {P : Program} {n : Nat} {ops : Array Oper} {σ : St} {QS : St → Prop} {o : Oper} {l : List Oper}
theorem RunS.s1 {L : Step} (h1 : RdL L.rs σ.s := by repeat (first | exact True.intro | refine And.intro rfl ?_)) (h2 : RdL L.rb σ.b := by repeat (first | exact True.intro | refine And.intro rfl ?_)) (x : Loc P n o L) (y : RunS P n ops QS l (σ.app L)) (hg : o.guard = none := by exact rfl) (ha : L.al = none := by exact rfl) : RunS P n ops QS (o :: l) σ :=
  RunS.step h1 h2 (LocG.of hg x) (fun d hd => by rw [ha] at hd; cases hd) y
theorem RunS.s2 {L : Step} {g s : Nat} {b c : Bool} (hg : o.guard = some (g, b) := by exact rfl) (hs : (ops[g]?).bind (·.dst) = some s := by exact rfl) (h1 : RdL ((s, RV.bool c) :: L.rs) σ.s := by repeat (first | exact True.intro | refine And.intro rfl ?_)) (h2 : RdL L.rb σ.b := by repeat (first | exact True.intro | refine And.intro rfl ?_)) (hb : c = b) (x : Loc P n o L) (y : RunS P n ops QS l (σ.app ⟨(s, RV.bool c) :: L.rs, L.rb, L.ws, L.wb, L.al⟩)) (hlt : s < n := by decide) (ha : L.al = none := by exact rfl) : RunS P n ops QS (o :: l) σ :=
  RunS.step (L := ⟨(s, RV.bool c) :: L.rs, L.rb, L.ws, L.wb, L.al⟩) h1 h2 (LocG.yes hg hs hlt hb x) (fun d hd => by have hd : L.al = some d := hd; rw [ha] at hd; cases hd) y
theorem RunS.s0f {g s d : Nat} {c : Bool} (hb : c = false) (h5 : RunS P n ops QS l (σ.app ⟨[(s, RV.bool c)], [], [(d, some RV.und)], [], none⟩)) (hg : o.guard = some (g, true) := by exact rfl) (hs : (ops[g]?).bind (·.dst) = some s := by exact rfl) (hlt : s < n := by decide) (hd : o.dst = some d := by exact rfl)
    (h1 : σ.s s = some (RV.bool c) := by exact rfl) : RunS P n ops QS (o :: l) σ :=
  RunS.step (L := ⟨[(s, RV.bool c)], [], [(d, some RV.und)], [], none⟩) ⟨h1, True.intro⟩ True.intro (LocG.no hg hs hlt hb hd) nofree h5
theorem RunS.s0t {g s d : Nat} {c : Bool} (hb : c = true) (h5 : RunS P n ops QS l (σ.app ⟨[(s, RV.bool c)], [], [(d, some RV.und)], [], none⟩)) (hg : o.guard = some (g, false) := by exact rfl) (hs : (ops[g]?).bind (·.dst) = some s := by exact rfl) (hlt : s < n := by decide) (hd : o.dst = some d := by exact rfl)
    (h1 : σ.s s = some (RV.bool c) := by exact rfl) : RunS P n ops QS (o :: l) σ :=
  RunS.step (L := ⟨[(s, RV.bool c)], [], [(d, some RV.und)], [], none⟩) ⟨h1, True.intro⟩ True.intro (LocG.no hg hs hlt hb hd) nofree h5
theorem RunS.su {g s d : Nat} {b : Bool} (h5 : RunS P n ops QS l (σ.app ⟨[(s, RV.und)], [], [(d, some RV.und)], [], none⟩)) (hg : o.guard = some (g, b) := by exact rfl) (hs : (ops[g]?).bind (·.dst) = some s := by exact rfl) (hd : o.dst = some d := by exact rfl)
    (h1 : σ.s s = some RV.und := by exact rfl) : RunS P n ops QS (o :: l) σ :=
  RunS.step (L := ⟨[(s, RV.und)], [], [(d, some RV.und)], [], none⟩) ⟨h1, True.intro⟩ True.intro (LocG.noU hg hs hd) nofree h5
end
theorem q1 {p : Prop} [Decidable p] : (decide p = true) = p := decide_eq_true_eq
theorem q2 {p : Prop} [Decidable p] : decide p = false ↔ ¬ p := decide_eq_false_iff_not
theorem q3 {α : Type} [BEq α] [LawfulBEq α] {a b : α} : (a != b) = true ↔ a ≠ b := bne_iff_ne
theorem q4 {α : Type} [BEq α] [LawfulBEq α] {a b : α} : (a == b) = true ↔ a = b := beq_iff_eq
theorem q5 {b : Bool} : ((!b) = true) = (b = false) := Bool.not_eq_true' b
theorem q6 {b : Bool} : ((!b) = false) = (b = true) := Bool.not_eq_false' b
theorem q7 {α : Type} {a b : α} : (a ≠ b) = ¬ a = b := ne_eq a b
theorem q8 {α : Type} [BEq α] [LawfulBEq α] {a b : α} : (a != b) = false ↔ a = b := bne_eq_false_iff_eq
theorem q9 {α : Type} [BEq α] [LawfulBEq α] {a b : α} : (a == b) = false ↔ a ≠ b := beq_eq_false_iff_ne
end Go.Proofs.Ytloipjaiceifbaa.M
