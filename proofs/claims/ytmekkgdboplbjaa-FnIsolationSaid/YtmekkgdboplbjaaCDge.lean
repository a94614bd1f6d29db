/- Definitions and their laws. No condition. -/
import Derived.Test.YtmekkgdboplbjaaCDse
import Derived.Test.YtmekkgdboplbjaaCDhs
set_option linter.unusedVariables false
set_option linter.unusedSimpArgs false
namespace Go.Proofs.Ytmekkgdboplbjaa
open Go Go.RowKit M
set_option maxRecDepth 10000
def u0_ : Update := ⟨0, ⟨0, []⟩, 0, 0⟩
def qz_ : Query := ⟨0, 0, [], []⟩
def evtK (c : Cur) : Int × Cur := belowC c 6
def evtQ (c : Cur) : Query × Cur := queC (belowC (evtK c).2 6).2 (belowC (evtK c).2 6).1
def evtL (c : Cur) : Int × Cur := pickC (evtQ c).2 [0, 0, 1, 2]
def evtC (c : Cur) (s : Store) : Event × Cur :=
 if (evtK c).1 = 0 ∨ (evtK c).1 = 1 then (⟨1, (evtQ c).1, (evtL c).1, 0, u0_, 0⟩, (evtL c).2)
 else if (evtK c).1 = 2 then (⟨2, qz_, 0, (belowC (evtK c).2 6).1, u0_, 0⟩, (belowC (evtK c).2 6).2)
 else if (evtK c).1 = 3 then (⟨4, qz_, 0, 0, u0_, 1 + (belowC (evtK c).2 3).1⟩, (belowC (evtK c).2 3).2)
 else (⟨3, qz_, 0, 0, (updC (evtK c).2 s).1, 0⟩, (updC (evtK c).2 s).2)
theorem evtC_0 {c : Cur} {s : Store} (h : (evtK c).1 = 0 ∨ (evtK c).1 = 1) : evtC c s = (⟨1, (evtQ c).1, (evtL c).1, 0, u0_, 0⟩, (evtL c).2) := if_pos h
theorem evtC_2 {c : Cur} {s : Store} (h : ¬ ((evtK c).1 = 0 ∨ (evtK c).1 = 1)) (h2 : (evtK c).1 = 2) : evtC c s = (⟨2, qz_, 0, (belowC (evtK c).2 6).1, u0_, 0⟩, (belowC (evtK c).2 6).2) := by unfold evtC; rw [if_neg h, if_pos h2]
theorem evtC_3 {c : Cur} {s : Store} (h : ¬ ((evtK c).1 = 0 ∨ (evtK c).1 = 1)) (h2 : ¬ (evtK c).1 = 2) (h3 : (evtK c).1 = 3) : evtC c s = (⟨4, qz_, 0, 0, u0_, 1 + (belowC (evtK c).2 3).1⟩, (belowC (evtK c).2 3).2) := by unfold evtC; rw [if_neg h, if_neg h2, if_pos h3]
theorem evtC_4 {c : Cur} {s : Store} (h : ¬ ((evtK c).1 = 0 ∨ (evtK c).1 = 1)) (h2 : ¬ (evtK c).1 = 2) (h3 : ¬ (evtK c).1 = 3) : evtC c s = (⟨3, qz_, 0, 0, (updC (evtK c).2 s).1, 0⟩, (updC (evtK c).2 s).2) := by unfold evtC; rw [if_neg h, if_neg h2, if_neg h3]
theorem evtC_wt (c : Cur) (s : Store) : wtEvent (evtC c s).1 ≤ 10 := by
 unfold evtC
 have hq : wtQuery qz_ = 0 := rfl
 have hu : wtUpdate u0_ = 0 := rfl
 split
 ·have := queC_wt (belowC (evtK c).2 6).2 (belowC (evtK c).2 6).1
  have e : wtQuery (evtQ c).1 ≤ 6 := this
  unfold wtEvent; simp only [wtInt]; omega
 ·split
  ·unfold wtEvent; simp only [wtInt]; omega
  ·split
   ·unfold wtEvent; simp only [wtInt]; omega
   ·have := updC_wt (evtK c).2 s
    unfold wtEvent; simp only [wtInt]; omega
inductive EvtP (s : Store) : Event → Prop
 | adm (q : Query) (l : Int) (h1 : okQuery q = true) (h2 : 0 ≤ q.Id ∧ q.Id ≤ 5) (h3 : 0 ≤ l ∧ l ≤ 2) : EvtP s ⟨1, q, l, 0, u0_, 0⟩
 | can (i : Int) (h : 0 ≤ i ∧ i ≤ 5) : EvtP s ⟨2, qz_, 0, i, u0_, 0⟩
 | stp (n : Int) (h : 1 ≤ n ∧ n ≤ 3) : EvtP s ⟨4, qz_, 0, 0, u0_, n⟩
 | upd (u : Update) : EvtP s ⟨3, qz_, 0, 0, u, 0⟩
theorem EvtP.steps {s : Store} {x : Event} (h : EvtP s x) : 0 ≤ x.Steps ∧ x.Steps ≤ 3 := by cases h <;> dsimp only <;> omega
theorem evtC_p (c : Cur) (s : Store) : EvtP s (evtC c s).1 := by
 have b1 := belowC_ge (evtK c).2 6
 have b2 := belowC_lt (evtK c).2 (n := 6) (by decide)
 have b3 := belowC_ge (evtK c).2 3
 have b4 := belowC_lt (evtK c).2 (n := 3) (by decide)
 unfold evtC
 split
 ·have hp := pickC_mem (evtQ c).2 (l := [0, 0, 1, 2]) (by decide)
  simp at hp
  have hq : (evtQ c).1.Id = (belowC (evtK c).2 6).1 := rfl
  refine EvtP.adm _ _ (queC_ok ⟨b1, by omega⟩) (by omega) ?_
  unfold evtL; omega
 ·split
  ·exact EvtP.can _ (by omega)
  ·split
   ·exact EvtP.stp _ (by omega)
   ·exact EvtP.upd _
structure EvlS where
 l : List Event
 c : Cur
def evlNext (s : Store) (x : EvlS) : EvlS := ⟨x.l ++ [(evtC x.c s).1], (evtC x.c s).2⟩
def evlTo (s : Store) (c : Cur) : Nat → EvlS
 | 0 => ⟨[], c⟩
 | k + 1 => evlNext s (evlTo s c k)
def evlN (c : Cur) (most : Int) : Nat := (belowC c most).1.toNat
def evlC (c : Cur) (s : Store) (most : Int) : EvlS := evlTo s (belowC c most).2 (evlN c most)
theorem evlTo_len {s : Store} {c : Cur} : ∀ k, (evlTo s c k).l.length = k
 | 0 => rfl
 | k + 1 => by show ((evlTo s c k).l ++ [_]).length = _; rw [List.length_append, evlTo_len k]; rfl
theorem evlTo_wt {s : Store} {c : Cur} : ∀ k, ((evlTo s c k).l.map wtEvent).sum ≤ 10 * k
 | 0 => by show ([] : List Nat).sum ≤ _; simp
 | k + 1 => by
  have h1 := evlTo_wt (s := s) (c := c) k
  have h2 := evtC_wt (evlTo s c k).c s
  show (((evlTo s c k).l ++ [(evtC (evlTo s c k).c s).1]).map wtEvent).sum ≤ _
  rw [List.map_append, List.sum_append]
  simp only [List.map_cons, List.map_nil, List.sum_cons, List.sum_nil]; omega
theorem evlTo_p {s : Store} {c : Cur} : ∀ k, ∀ x ∈ (evlTo s c k).l, EvtP s x
 | 0, x, h => nomatch h
 | k + 1, x, h => by
  have h : x ∈ (evlTo s c k).l ++ [(evtC (evlTo s c k).c s).1] := h
  rcases List.mem_append.1 h with h | h
  ·exact evlTo_p k x h
  ·rw [List.mem_singleton.1 h]; exact evtC_p _ _
theorem evlN_lt (c : Cur) {most : Int} (h : 0 < most) : (evlN c most : Int) < most := by
 have b1 := belowC_ge c most
 have b2 := belowC_lt c (n := most) h
 unfold evlN; omega
theorem evlC_wt (c : Cur) (s : Store) {most : Int} (h : 0 < most ∧ most ≤ 100) : wtEventS (evlC c s most).l ≤ 1100 := by
 have h1 := evlTo_wt (s := s) (c := (belowC c most).2) (evlN c most)
 have h2 := evlTo_len (s := s) (c := (belowC c most).2) (evlN c most)
 have h3 := evlN_lt c h.1
 unfold evlC wtEventS
 omega
def newEng (s : Store) : Engine := ⟨s, 0, [0, 1, 2], [], [], [], 0⟩
def newEngF (s : Store) : Engine × Bool := if okStore s then (newEng s, true) else (⟨⟨[], 0⟩, 0, [], [], [], [], 0⟩, false)
def hisE (c : Cur) : Engine := newEng (stoC c).s
def hisL (c : Cur) : List Event := (evlC (stoC c).c (hisE c).Store 14).l
theorem hisE_B (c : Cur) : EngB 0 (hisE c) := new_B (stoC_ok c)
theorem hisE_0 (c : Cur) : (hisE c).Active = [] ∧ (hisE c).Done = [] ∧ (hisE c).Cursor = 0 := ⟨rfl, rfl, rfl⟩
theorem hisE_wt (c : Cur) : wtEngine (hisE c) ≤ 210 := by
 have := okSto_wt (stoC_ok c)
 unfold hisE newEng wtEngine
 dsimp only
 simp [wtInt, wtIntS_len, wtActiveS, wtFinishedS, wtChargeS]; omega
theorem hisL_wt (c : Cur) : wtEventS (hisL c) ≤ 1100 := evlC_wt _ _ (by decide)
theorem hisL_len (c : Cur) : (hisL c).length ≤ 13 := by
 have h2 := evlTo_len (s := (hisE c).Store) (c := (belowC (stoC c).c 14).2) (evlN (stoC c).c 14)
 have h3 := evlN_lt (stoC c).c (most := 14) (by decide)
 have e : (hisL c).length = evlN (stoC c).c 14 := h2
 omega
theorem hisL_p (c : Cur) : ∀ x ∈ hisL c, EvtP (hisE c).Store x := evlTo_p _
end Go.Proofs.Ytmekkgdboplbjaa
