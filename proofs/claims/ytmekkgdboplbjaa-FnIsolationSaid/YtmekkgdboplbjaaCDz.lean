/- Definitions and their laws. No condition. -/
import Derived.Test.YtmekkgdboplbjaaCDw
set_option linter.unusedVariables false
set_option linter.unusedSimpArgs false
namespace Go.Proofs.Ytmekkgdboplbjaa
open Go Go.RowKit M
set_option maxRecDepth 10000
structure ConS where
 l : List Cond
 c : Cur
@[reducible] def conC1 (w : Int) (c : Cur) : Cur := (belowC c 2).2
@[reducible] def conLow (w : Int) (c : Cur) : Int := (belowC (belowC c 2).2 w).1
@[reducible] def conMid (w : Int) (c : Cur) : Int := min 99 (conLow w c + (belowC (belowC (belowC c 2).2 w).2 w).1)
@[reducible] def conC3 (w : Int) (c : Cur) : Cur := (belowC (belowC (belowC c 2).2 w).2 w).2
def conNext (w : Int) (f : Int) (s : ConS) : ConS :=
 if (belowC s.c 2).1 = 0 then
  ⟨s.l ++ [⟨f, conLow w s.c, if (belowC (conC3 w s.c) 3).1 = 0 then conLow w s.c else conMid w s.c⟩], (belowC (conC3 w s.c) 3).2⟩
 else ⟨s.l, (belowC s.c 2).2⟩
theorem conNext_a {w f : Int} {s : ConS} (h : (belowC s.c 2).1 = 0) (h2 : (belowC (conC3 w s.c) 3).1 = 0) : conNext w f s = ⟨s.l ++ [⟨f, conLow w s.c, conLow w s.c⟩], (belowC (conC3 w s.c) 3).2⟩ := by unfold conNext; rw [if_pos h, if_pos h2]
theorem conNext_b {w f : Int} {s : ConS} (h : (belowC s.c 2).1 = 0) (h2 : ¬ (belowC (conC3 w s.c) 3).1 = 0) : conNext w f s = ⟨s.l ++ [⟨f, conLow w s.c, conMid w s.c⟩], (belowC (conC3 w s.c) 3).2⟩ := by unfold conNext; rw [if_pos h, if_neg h2]
theorem conNext_c {w f : Int} {s : ConS} (h : ¬ (belowC s.c 2).1 = 0) : conNext w f s = ⟨s.l, (belowC s.c 2).2⟩ := by unfold conNext; rw [if_neg h]
def consTo (w : Int) (s : ConS) : Nat → ConS
 | 0 => s
 | k + 1 => conNext w (k : Int) (consTo w s k)
theorem consTo_len {w : Int} {s : ConS} : ∀ k, (consTo w s k).l.length ≤ s.l.length + k
 | 0 => Nat.le_refl _
 | k + 1 => by
  have ih := consTo_len (w := w) (s := s) k
  show (conNext w (k : Int) (consTo w s k)).l.length ≤ _
  unfold conNext
  split
  ·simp only [List.length_append, List.length_cons, List.length_nil]; omega
  ·dsimp only; omega
@[reducible] def queW (c : Cur) : Int × Cur := pickC (belowC c 4).2 [3, 6, 100]
def queS (c : Cur) : ConS := consTo (queW c).1 ⟨[], (queW c).2⟩ 3
def queN (c : Cur) : Int × Cur := belowC (queS c).c 3
def queO (c : Cur) : List Int × Cur := valsC 3 (queN c).2 (1 + (queN c).1).toNat
def queC (c : Cur) (id : Int) : Query × Cur := (⟨id, (belowC c 4).1, (queS c).l, (queO c).1⟩, (queO c).2)
theorem queN_le (c : Cur) : 0 ≤ (queN c).1 ∧ (queN c).1 ≤ 2 := by
 have h1 := belowC_ge (queS c).c 3
 have h2 := belowC_lt (queS c).c (n := 3) (by decide)
 unfold queN; omega
theorem queC_wt (c : Cur) (id : Int) : wtQuery (queC c id).1 ≤ 6 := by
 have h1 := consTo_len (w := (queW c).1) (s := ⟨[], (queW c).2⟩) 3
 have h2 := queN_le c
 have h3 : (queO c).1.length = (1 + (queN c).1).toNat := valsC_len
 have hc : ∀ l : List Cond, (l.map wtCond).sum = 0 := by
  intro l
  induction l with
  | nil => rfl
  | cons a c ih => rw [List.map_cons, List.sum_cons, ih]; rfl
 unfold queC wtQuery wtCondS
 simp only [wtIntS_len, wtInt, hc]
 have : (queS c).l.length ≤ 0 + 3 := h1
 omega
end Go.Proofs.Ytmekkgdboplbjaa
