/- Definitions and their laws. No condition. -/
import Derived.Test.YtmekkgdboplbjaaCDa
set_option linter.unusedVariables false
set_option linter.unusedSimpArgs false
namespace Go.Proofs.Ytmekkgdboplbjaa
open Go Go.RowKit M
set_option maxRecDepth 10000
def v0 : Version := ⟨0, [], 0, 0⟩
def verOk (now : Int) (v : Version) : Bool := okRow ⟨v.Id, v.Values⟩ && (inB v.Born 0 now && (decide (v.Died = -1) || inB v.Died (v.Born + 1) now))
def apartV (a b : Version) : Bool := !(a.Id == b.Id) || ((!(a.Died == -1) && decide (a.Died ≤ b.Born)) || (!(b.Died == -1) && decide (b.Died ≤ a.Born)))
def visV (v : Version) (t : Int) : Bool := decide (v.Born ≤ t) && (decide (v.Died = -1) || decide (v.Died > t))
def meetV (v w : Version) : Bool := visV v w.Born || visV w v.Born
theorem meet_apart {now : Int} {v w : Version} (hv : verOk now v = true) (hw : verOk now w = true) : (v.Id == w.Id && meetV v w) = !apartV v w := by
 have h1 : v.Died = -1 ∨ v.Born < v.Died := by simp [verOk, inB] at hv; omega
 have h2 : w.Died = -1 ∨ w.Born < w.Died := by simp [verOk, inB] at hw; omega
 have h3 : 0 ≤ v.Born ∧ 0 ≤ w.Born := by simp [verOk, inB] at hv hw; omega
 rw [Bool.eq_iff_iff]
 simp only [meetV, visV, apartV, Bool.and_eq_true, Bool.or_eq_true, Bool.not_eq_true', beq_iff_eq, decide_eq_true_eq, Bool.or_eq_false_iff, Bool.not_eq_false', Bool.and_eq_false_iff, decide_eq_false_iff_not]
 omega
def allV (s : Store) : List Version := s.Segments.flatten
def freeOf (L : List Version) (i k : Nat) : Bool := (List.range k).all fun m => apartV (L.getD i v0) (L.getD m v0)
def goodV (now : Int) (L : List Version) (i : Nat) : Bool := verOk now (L.getD i v0) && freeOf L i i
def goodTo (now : Int) (L : List Version) (i : Nat) : Bool := (List.range i).all (goodV now L)
def smallS (l : List Version) : Bool := decide ((l.length : Int) ≤ 4)
def stoPre (s : Store) : Bool := inB s.Segments.length 1 8 && inB s.Now 0 100000
def okStore (s : Store) : Bool := (stoPre s && s.Segments.all smallS) && goodTo s.Now (allV s) (allV s).length
theorem freeOf_succ {L : List Version} {i k : Nat} : freeOf L i (k + 1) = (freeOf L i k && apartV (L.getD i v0) (L.getD k v0)) := by simp [freeOf, List.range_succ]
theorem goodTo_succ {now : Int} {L : List Version} {i : Nat} : goodTo now L (i + 1) = (goodTo now L i && goodV now L i) := by simp [goodTo, List.range_succ]
theorem goodTo_at {now : Int} {L : List Version} {i j : Nat} (h : goodTo now L i = true) (hj : j < i) : verOk now (L.getD j v0) = true := by
 have := List.all_eq_true.1 h j (List.mem_range.2 hj)
 unfold goodV at this
 rw [Bool.and_eq_true] at this
 exact this.1
theorem sto_no {s : Store} {i : Nat} (hi : i < (allV s).length) (h : goodV s.Now (allV s) i = false) : okStore s = false := by
 have : goodTo s.Now (allV s) (allV s).length = false := by
  rw [← Bool.not_eq_true]
  intro hh
  have := List.all_eq_true.1 hh i (List.mem_range.2 hi)
  rw [h] at this; cases this
 unfold okStore; rw [this, Bool.and_false]
theorem good_no1 {now : Int} {L : List Version} {i : Nat} (h : verOk now (L.getD i v0) = false) : goodV now L i = false := by unfold goodV; rw [h]; rfl
theorem good_no2 {now : Int} {L : List Version} {i k : Nat} (hk : k < i) (h : apartV (L.getD i v0) (L.getD k v0) = false) : goodV now L i = false := by
 have : freeOf L i i = false := by
  rw [← Bool.not_eq_true]
  intro hh
  have := List.all_eq_true.1 hh k (List.mem_range.2 hk)
  rw [h] at this; cases this
 unfold goodV; rw [this, Bool.and_false]
theorem sto_big {s : Store} {k : Nat} (hk : k < s.Segments.length) (h : ¬ ((s.Segments[k].length : Int) ≤ 4)) : okStore s = false := by
 have : s.Segments.all smallS = false := all_no hk (by simpa [smallS] using h)
 unfold okStore; rw [this]; simp
def preN (s : Store) (k : Nat) : List Version := (s.Segments.take k).flatten
theorem preN_succ {s : Store} {k : Nat} (hk : k < s.Segments.length) : preN s (k + 1) = preN s k ++ s.Segments[k] := by
 unfold preN; rw [List.take_succ_eq_append_getElem hk, List.flatten_append]; simp
theorem allV_split {s : Store} {k : Nat} (hk : k < s.Segments.length) : allV s = preN s k ++ (s.Segments[k] ++ (s.Segments.drop (k + 1)).flatten) := by
 unfold allV preN
 rw [← List.flatten_cons, ← List.flatten_append, ← List.drop_eq_getElem_cons hk, List.take_append_drop]
theorem allV_end {s : Store} : preN s s.Segments.length = allV s := by unfold preN allV; rw [List.take_length]
theorem allV_get {s : Store} {k j : Nat} (hk : k < s.Segments.length) (hj : j < s.Segments[k].length) : (preN s k).length + j < (allV s).length ∧ (allV s).getD ((preN s k).length + j) v0 = s.Segments[k][j] := by
 rw [allV_split hk]
 refine ⟨by simp only [List.length_append]; omega, ?_⟩
 rw [List.getD_eq_getElem?_getD, List.getElem?_append_right (by omega), show (preN s k).length + j - (preN s k).length = j by omega, List.getElem?_append_left hj, List.getElem?_eq_getElem hj]
 rfl
theorem allV_take {s : Store} {k j : Nat} (hk : k < s.Segments.length) (hj : j ≤ s.Segments[k].length) : preN s k ++ s.Segments[k].take j = (allV s).take ((preN s k).length + j) := by
 rw [allV_split hk, List.take_length_add_append, List.take_append_of_le_length hj]
theorem allV_len (s : Store) : (allV s).length ≤ wtStore s := by
 unfold wtStore wtVersionSS allV
 rw [List.length_flatten]
 have : (s.Segments.map List.length).sum ≤ (s.Segments.map wtVersionS).sum := by
  generalize s.Segments = l
  induction l with
  | nil => simp
  | cons x l ih => simp only [List.map_cons, List.sum_cons]; unfold wtVersionS at *; omega
 omega
def rowOfV (v : Version) : Row := ⟨v.Id, v.Values⟩
theorem sto_facts {s : Store} (h : okStore s = true) : s.Segments.length ≤ 8 ∧ 1 ≤ s.Segments.length ∧ 0 ≤ s.Now ∧ s.Now ≤ 100000 ∧ (∀ g ∈ s.Segments, g.length ≤ 4) ∧ ∀ i, i < (allV s).length → verOk s.Now ((allV s).getD i v0) = true := by
 unfold okStore stoPre at h
 simp only [Bool.and_eq_true, inB, decide_eq_true_eq] at h
 refine ⟨by omega, by omega, by omega, by omega, fun g hg => ?_, fun i hi => goodTo_at h.2 hi⟩
 have := List.all_eq_true.1 h.1.2 g hg
 simp [smallS] at this; omega
theorem sto_ver {s : Store} (h : okStore s = true) {k j : Nat} (hk : k < s.Segments.length) (hj : j < s.Segments[k].length) : verOk s.Now s.Segments[k][j] = true := by
 have h1 := allV_get hk hj
 rw [← h1.2]
 exact (sto_facts h).2.2.2.2.2 _ h1.1
end Go.Proofs.Ytmekkgdboplbjaa
