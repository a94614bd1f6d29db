/- Definitions and their laws. No condition. -/
import Derived.Test.YtaomckpfgmhapaaCDw
set_option linter.unusedVariables false
set_option linter.unusedSimpArgs false
namespace Go.Proofs.Ytaomckpfgmhapaa
open Go Go.RowKit M
set_option maxRecDepth 10000
structure SetS where
  l : List Int
  x : Int
  c : Cur
def setNext (s : SetS) : SetS := if s.x < 24 then ⟨s.l ++ [s.x], s.x + 1 + (belowC s.c 3).1 * (belowC (belowC s.c 3).2 2).1, (belowC (belowC s.c 3).2 2).2⟩ else s
def setTo (s : SetS) : Nat → SetS
  | 0 => s
  | k + 1 => setNext (setTo s k)
theorem setNext_yes {s : SetS} (h : s.x < 24) : setNext s = ⟨s.l ++ [s.x], s.x + 1 + (belowC s.c 3).1 * (belowC (belowC s.c 3).2 2).1, (belowC (belowC s.c 3).2 2).2⟩ := if_pos h
theorem setTo_stop {s : SetS} {k : Nat} (h : ¬ (setTo s k).x < 24) : ∀ m, setTo s (k + m) = setTo s k
  | 0 => rfl
  | m + 1 => by
    show setNext (setTo s (k + m)) = _
    rw [setTo_stop h m]; exact if_neg h
theorem setTo_len {s : SetS} : ∀ k, (setTo s k).l.length ≤ s.l.length + k
  | 0 => Nat.le_refl _
  | k + 1 => by
    have ih := setTo_len (s := s) k
    show (setNext (setTo s k)).l.length ≤ _
    unfold setNext
    split
    · simp only [List.length_append, List.length_cons, List.length_nil]; omega
    · omega
theorem setTo_x {s : SetS} (h : 0 ≤ s.x ∧ s.x ≤ 26) : ∀ k, 0 ≤ (setTo s k).x ∧ (setTo s k).x ≤ 26
  | 0 => h
  | k + 1 => by
    have ih := setTo_x h k
    show 0 ≤ (setNext (setTo s k)).x ∧ (setNext (setTo s k)).x ≤ 26
    unfold setNext
    split
    · have h1 := belowC_ge (setTo s k).c 3
      have h2 := belowC_lt (setTo s k).c (n := 3) (by decide)
      have h3 := belowC_ge (belowC (setTo s k).c 3).2 2
      have h4 := belowC_lt (belowC (setTo s k).c 3).2 (n := 2) (by decide)
      have h5 : (belowC (belowC (setTo s k).c 3).2 2).1 = 0 ∨ (belowC (belowC (setTo s k).c 3).2 2).1 = 1 := by omega
      dsimp only
      rcases h5 with h5 | h5 <;> rw [h5] <;> omega
    · exact ih
def setS (c : Cur) : SetS := ⟨[], (belowC c 3).1, (belowC (belowC c 3).2 7).2⟩
def setN (c : Cur) : Nat := (belowC (belowC c 3).2 7).1.toNat
def setC (c : Cur) : List Int × Cur := ((setTo (setS c) (setN c)).l, (setTo (setS c) (setN c)).c)
theorem set_end {c : Cur} {k : Nat} (hk : k ≤ setN c) (h : k = setN c ∨ ¬ (setTo (setS c) k).x < 24) : setTo (setS c) k = setTo (setS c) (setN c) := by
  rcases h with rfl | h
  · rfl
  · have := setTo_stop h (setN c - k)
    rw [Nat.add_sub_cancel' hk] at this
    exact this.symm
theorem setN_le (c : Cur) : setN c ≤ 6 := by
  have h1 := belowC_ge (belowC c 3).2 7
  have h2 := belowC_lt (belowC c 3).2 (n := 7) (by decide)
  unfold setN; omega
theorem setC_len (c : Cur) : (setC c).1.length ≤ 6 := by
  have h1 := setTo_len (s := setS c) (setN c)
  have h2 := setN_le c
  unfold setC
  dsimp only
  have : (setS c).l.length = 0 := rfl
  omega
def anySetC (c : Cur) : List Int × Cur :=
  if (belowC (setC c).2 8).1 = 0 then ((setC c).1 ++ [(pickC (belowC (setC c).2 8).2 [-1, 0, 23, 24]).1], (pickC (belowC (setC c).2 8).2 [-1, 0, 23, 24]).2)
  else ((setC c).1, (belowC (setC c).2 8).2)
theorem anySet_0 {c : Cur} (h : (belowC (setC c).2 8).1 = 0) : anySetC c = ((setC c).1 ++ [(pickC (belowC (setC c).2 8).2 [-1, 0, 23, 24]).1], (pickC (belowC (setC c).2 8).2 [-1, 0, 23, 24]).2) := if_pos h
theorem anySet_1 {c : Cur} (h : ¬ (belowC (setC c).2 8).1 = 0) : anySetC c = ((setC c).1, (belowC (setC c).2 8).2) := if_neg h
theorem anySetC_len (c : Cur) : (anySetC c).1.length ≤ 7 := by
  have := setC_len c
  unfold anySetC
  split
  · simp only [List.length_append, List.length_cons, List.length_nil]; omega
  · dsimp only; omega
/-- A condition that is drawn for a field: none, or one. -/
structure ConS where
  l : List Cond
  c : Cur
@[reducible] def conC1 (w : Int) (c : Cur) : Cur := (belowC c 2).2
@[reducible] def conLow (w : Int) (c : Cur) : Int := (belowC (belowC c 2).2 w).1
@[reducible] def conMid (w : Int) (c : Cur) : Int := min 99 (conLow w c + (belowC (belowC (belowC c 2).2 w).2 w).1)
@[reducible] def conC3 (w : Int) (c : Cur) : Cur := (belowC (belowC (belowC c 2).2 w).2 w).2
def conNext (w : Int) (f : Int) (s : ConS) : ConS :=
  if (belowC s.c 2).1 = 0 then
    ⟨s.l ++ [⟨f, conLow w s.c, if (belowC (conC3 w s.c) 3).1 = 0 then conLow w s.c else conMid w s.c⟩], (belowC (conC3 w s.c) 3).2⟩
  else ⟨s.l, (belowC s.c 2).2⟩
theorem conNext_a {w f : Int} {s : ConS} (h : (belowC s.c 2).1 = 0) (h2 : (belowC (conC3 w s.c) 3).1 = 0) : conNext w f s = ⟨s.l ++ [⟨f, conLow w s.c, conLow w s.c⟩], (belowC (conC3 w s.c) 3).2⟩ := by unfold conNext; rw [if_pos h, if_pos h2]
theorem conNext_b {w f : Int} {s : ConS} (h : (belowC s.c 2).1 = 0) (h2 : ¬ (belowC (conC3 w s.c) 3).1 = 0) : conNext w f s = ⟨s.l ++ [⟨f, conLow w s.c, conMid w s.c⟩], (belowC (conC3 w s.c) 3).2⟩ := by unfold conNext; rw [if_pos h, if_neg h2]
theorem conNext_c {w f : Int} {s : ConS} (h : ¬ (belowC s.c 2).1 = 0) : conNext w f s = ⟨s.l, (belowC s.c 2).2⟩ := by unfold conNext; rw [if_neg h]
def consTo (w : Int) (s : ConS) : Nat → ConS
  | 0 => s
  | k + 1 => conNext w (k : Int) (consTo w s k)
theorem consTo_len {w : Int} {s : ConS} : ∀ k, (consTo w s k).l.length ≤ s.l.length + k
  | 0 => Nat.le_refl _
  | k + 1 => by
    have ih := consTo_len (w := w) (s := s) k
    show (conNext w (k : Int) (consTo w s k)).l.length ≤ _
    unfold conNext
    split
    · simp only [List.length_append, List.length_cons, List.length_nil]; omega
    · dsimp only; omega
@[reducible] def queW (c : Cur) : Int × Cur := pickC (belowC c 4).2 [3, 6, 100]
def queS (c : Cur) : ConS := consTo (queW c).1 ⟨[], (queW c).2⟩ 3
def queN (c : Cur) : Int × Cur := belowC (queS c).c 3
def queO (c : Cur) : List Int × Cur := valsC 3 (queN c).2 (1 + (queN c).1).toNat
def queC (c : Cur) (id : Int) : Query × Cur := (⟨id, (belowC c 4).1, (queS c).l, (queO c).1⟩, (queO c).2)
theorem queN_le (c : Cur) : 0 ≤ (queN c).1 ∧ (queN c).1 ≤ 2 := by
  have h1 := belowC_ge (queS c).c 3
  have h2 := belowC_lt (queS c).c (n := 3) (by decide)
  unfold queN; omega
theorem queC_wt (c : Cur) (id : Int) : wtQuery (queC c id).1 ≤ 6 := by
  have h1 := consTo_len (w := (queW c).1) (s := ⟨[], (queW c).2⟩) 3
  have h2 := queN_le c
  have h3 : (queO c).1.length = (1 + (queN c).1).toNat := valsC_len
  have hc : ∀ l : List Cond, (l.map wtCond).sum = 0 := by
    intro l
    induction l with
    | nil => rfl
    | cons a c ih => rw [List.map_cons, List.sum_cons, ih]; rfl
  unfold queC wtQuery wtCondS
  simp only [wtIntS_len, wtInt, hc]
  have : (queS c).l.length ≤ 0 + 3 := h1
  omega
structure QuesS where
  id : Int
  l : List Query
  c : Cur
def quesNext (s : QuesS) : QuesS := ⟨s.id + 1 + (belowC (queC s.c s.id).2 2).1, s.l ++ [(queC s.c s.id).1], (belowC (queC s.c s.id).2 2).2⟩
def quesTo (s : QuesS) : Nat → QuesS
  | 0 => s
  | k + 1 => quesNext (quesTo s k)
theorem quesTo_facts {s : QuesS} (h : 0 ≤ s.id) : ∀ k, (quesTo s k).l.length = s.l.length + k ∧ ((quesTo s k).l.map wtQuery).sum ≤ (s.l.map wtQuery).sum + 6 * k ∧ 0 ≤ (quesTo s k).id ∧ (quesTo s k).id ≤ s.id + 2 * k
  | 0 => by simp [quesTo, h]
  | k + 1 => by
    have ih := quesTo_facts h k
    have h1 := queC_wt (quesTo s k).c (quesTo s k).id
    have h2 := belowC_ge (queC (quesTo s k).c (quesTo s k).id).2 2
    have h3 := belowC_lt (queC (quesTo s k).c (quesTo s k).id).2 (n := 2) (by decide)
    simp only [quesTo, quesNext, List.length_append, List.length_cons, List.length_nil, List.map_append, List.sum_append, List.map_cons, List.map_nil, List.sum_cons, List.sum_nil]
    omega
def quesS (c : Cur) (most : Int) : QuesS := ⟨(belowC c 2).1, [], (belowC (belowC c 2).2 (most + 1)).2⟩
def quesN (c : Cur) (most : Int) : Nat := (belowC (belowC c 2).2 (most + 1)).1.toNat
def quesC (c : Cur) (most : Int) : List Query × Cur := ((quesTo (quesS c most) (quesN c most)).l, (quesTo (quesS c most) (quesN c most)).c)
theorem quesN_le (c : Cur) {most : Int} (h : 0 ≤ most) : (quesN c most : Int) ≤ most := by
  have h1 := belowC_ge (belowC c 2).2 (most + 1)
  have h2 := belowC_lt (belowC c 2).2 (n := most + 1) (by omega)
  unfold quesN; omega
theorem quesC_wt (c : Cur) {most : Int} (h : 0 ≤ most) : (wtQueryS (quesC c most).1 : Int) ≤ 7 * most := by
  have h1 := belowC_ge c 2
  have h2 := quesTo_facts (s := quesS c most) h1 (quesN c most)
  have h3 := quesN_le c h
  have h4 : (quesS c most).l = [] := rfl
  rw [h4] at h2
  simp only [List.map_nil, List.sum_nil, List.length_nil] at h2
  unfold wtQueryS quesC
  dsimp only
  omega

end Go.Proofs.Ytaomckpfgmhapaa
