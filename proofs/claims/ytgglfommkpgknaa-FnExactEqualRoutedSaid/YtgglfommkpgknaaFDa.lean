/- The types, as they are read. No condition. -/
import Derived.Test.YtgglfommkpgknaaFJ
import Derived.Test.YtgglfommkpgknaaFK
import Derived.Test.YtgglfommkpgknaaFL
set_option linter.unusedVariables false
set_option linter.unusedSimpArgs false
namespace Go.Proofs.Ytgglfommkpgknaa
open Go Go.RowKit M
set_option maxRecDepth 10000

section
variable {α : Type} {P : α → Bool} {xs ys : List α} {k : Nat}
theorem all_zero : (xs.take 0).all P = true := by simp
theorem all_succ (h : (xs.take k).all P = true) (hk : k < xs.length) (hp : P xs[k] = true) : (xs.take (k + 1)).all P = true := by
  rw [List.take_succ_eq_append_getElem hk, List.all_append, h]; simp [hp]
theorem all_no (hk : k < xs.length) (hp : P xs[k] = false) : xs.all P = false := by
  rw [List.all_eq_false]; exact ⟨_, List.getElem_mem hk, by rw [hp]; simp⟩
theorem all_end (h : (xs.take xs.length).all P = true) : xs.all P = true := by rwa [List.take_length] at h
theorem any_succ (h : (xs.take k).any P = false) (hk : k < xs.length) (hp : P xs[k] = false) : (xs.take (k + 1)).any P = false := by
  rw [List.take_succ_eq_append_getElem hk, List.any_append, h]; simp [hp]
theorem any_yes (hk : k < xs.length) (hp : P xs[k] = true) : xs.any P = true := by
  rw [List.any_eq_true]; exact ⟨_, List.getElem_mem hk, hp⟩
theorem any_end (h : (xs.take xs.length).any P = false) : xs.any P = false := by rwa [List.take_length] at h
theorem eq_succ (h : xs.take k = ys.take k) (hk : k < xs.length) (hk' : k < ys.length) (he : xs[k] = ys[k]) : xs.take (k + 1) = ys.take (k + 1) := by
  rw [List.take_succ_eq_append_getElem hk, List.take_succ_eq_append_getElem hk', h, he]
theorem eq_no (hk : k < xs.length) (hk' : k < ys.length) (he : ¬ xs[k] = ys[k]) : ¬ xs = ys := by
  rintro rfl; exact he rfl
theorem eq_end (hl : xs.length = ys.length) (h : xs.take xs.length = ys.take xs.length) : xs = ys := by
  rw [List.take_length] at h; rw [h, hl, List.take_length]
theorem wtk {f : α → Nat} (hk : k < xs.length) : ((xs.take (k + 1)).map f).sum = ((xs.take k).map f).sum + f xs[k] := by
  rw [List.take_succ_eq_append_getElem hk, List.map_append, List.sum_append]; simp
theorem wtk_le {f : α → Nat} (xs : List α) (k : Nat) : ((xs.take k).map f).sum ≤ (xs.map f).sum := by
  have h : xs = xs.take k ++ xs.drop k := (List.take_append_drop _ _).symm
  have e : (xs.map f).sum = ((xs.take k).map f).sum + ((xs.drop k).map f).sum := by
    rw [← List.sum_append, ← List.map_append, ← h]
  omega
theorem wt_mem {f : α → Nat} (hk : k < xs.length) : f xs[k] ≤ (xs.map f).sum := by
  have h1 := wtk (f := f) hk
  have h2 := wtk_le (f := f) xs (k + 1)
  omega
noncomputable def deq (x y : α) : Bool := @decide (x = y) (Classical.propDecidable _)
theorem deq_true {x y : α} (h : x = y) : deq x y = true := @decide_eq_true _ (Classical.propDecidable _) h
theorem deq_false {x y : α} (h : ¬ x = y) : deq x y = false := @decide_eq_false _ (Classical.propDecidable _) h
theorem deq_iff {x y : α} : deq x y = true ↔ x = y := @decide_eq_true_iff _ (Classical.propDecidable _)
theorem deq_self (x : α) : deq x x = true := deq_true rfl
end
def szR (l n : Int) : Int := if n ≤ l then l - n else -1
theorem szR_yes {l n : Int} (h : n ≤ l) : szR l n = l - n := if_pos h
theorem szR_no {l n : Int} (h : l < n) : szR l n = -1 := if_neg (by omega)
theorem szR_neg {l w : Int} (_h0 : 0 ≤ l) (h : szR l w < 0) : l < w := by unfold szR at h; split at h <;> omega
theorem szR_pos {l w : Int} (h : ¬ szR l w < 0) : w ≤ l := by unfold szR at h; split at h <;> omega
def cInt (x : Int) : List PV := [PV.val (vI x)]
def gdInt (x : Int) : Prop := I64 x
def wtInt (_x : Int) : Nat := 0
def cIntS (o0 : Option (Nat × Nat)) (x : List Int) : List PV := [PV.sl o0 (x.map cInt)]
def gdIntS (x : List Int) : Prop := ∀ y ∈ x, gdInt y
def wtIntS (x : List Int) : Nat := x.length + (x.map wtInt).sum
structure Joined where
  Left : Int
  Right : Int
  Set : List Int
def cJoined (o0 : Option (Nat × Nat)) (x : Joined) : List PV := [PV.val (vI x.Left), PV.val (vI x.Right), PV.sl o0 (x.Set.map cInt)]
def gdJoined (x : Joined) : Prop := gdInt x.Left ∧ gdInt x.Right ∧ gdIntS x.Set
def wtJoined (x : Joined) : Nat := wtInt x.Left + wtInt x.Right + wtIntS x.Set
theorem ext_Joined_iff {x y : Joined} : x = y ↔ x.Left = y.Left ∧ x.Right = y.Right ∧ x.Set = y.Set := by cases x; cases y; simp_all
theorem ext_Joined {x y : Joined} (h0 : x.Left = y.Left) (h1 : x.Right = y.Right) (h2 : x.Set = y.Set) : x = y := by cases x; cases y; simp_all
def cJoinedS (o0 o1 : Option (Nat × Nat)) (x : List Joined) : List PV := [PV.sl o0 (x.map (cJoined o1))]
def gdJoinedS (x : List Joined) : Prop := ∀ y ∈ x, gdJoined y
def wtJoinedS (x : List Joined) : Nat := x.length + (x.map wtJoined).sum
structure Row where
  Id : Int
  Values : List Int
def cRow (o0 : Option (Nat × Nat)) (x : Row) : List PV := [PV.val (vI x.Id), PV.sl o0 (x.Values.map cInt)]
def gdRow (x : Row) : Prop := gdInt x.Id ∧ gdIntS x.Values
def wtRow (x : Row) : Nat := wtInt x.Id + wtIntS x.Values
theorem ext_Row_iff {x y : Row} : x = y ↔ x.Id = y.Id ∧ x.Values = y.Values := by cases x; cases y; simp_all
theorem ext_Row {x y : Row} (h0 : x.Id = y.Id) (h1 : x.Values = y.Values) : x = y := by cases x; cases y; simp_all
def cRowS (o0 o1 : Option (Nat × Nat)) (x : List Row) : List PV := [PV.sl o0 (x.map (cRow o1))]
def gdRowS (x : List Row) : Prop := ∀ y ∈ x, gdRow y
def wtRowS (x : List Row) : Nat := x.length + (x.map wtRow).sum
structure Outbox where
  Rows : List Row
  Acked : Int
  Tries : Int
def cOutbox (o0 o1 : Option (Nat × Nat)) (x : Outbox) : List PV := [PV.sl o0 (x.Rows.map (cRow o1)), PV.val (vI x.Acked), PV.val (vI x.Tries)]
def gdOutbox (x : Outbox) : Prop := gdRowS x.Rows ∧ gdInt x.Acked ∧ gdInt x.Tries
def wtOutbox (x : Outbox) : Nat := wtRowS x.Rows + wtInt x.Acked + wtInt x.Tries
theorem ext_Outbox_iff {x y : Outbox} : x = y ↔ x.Rows = y.Rows ∧ x.Acked = y.Acked ∧ x.Tries = y.Tries := by cases x; cases y; simp_all
theorem ext_Outbox {x y : Outbox} (h0 : x.Rows = y.Rows) (h1 : x.Acked = y.Acked) (h2 : x.Tries = y.Tries) : x = y := by cases x; cases y; simp_all
structure Routed where
  Id : Int
  Rows : List Row
def cRouted (o0 o1 : Option (Nat × Nat)) (x : Routed) : List PV := [PV.val (vI x.Id), PV.sl o0 (x.Rows.map (cRow o1))]
def gdRouted (x : Routed) : Prop := gdInt x.Id ∧ gdRowS x.Rows
def wtRouted (x : Routed) : Nat := wtInt x.Id + wtRowS x.Rows
theorem ext_Routed_iff {x y : Routed} : x = y ↔ x.Id = y.Id ∧ x.Rows = y.Rows := by cases x; cases y; simp_all
theorem ext_Routed {x y : Routed} (h0 : x.Id = y.Id) (h1 : x.Rows = y.Rows) : x = y := by cases x; cases y; simp_all
def cRoutedS (o0 o1 o2 : Option (Nat × Nat)) (x : List Routed) : List PV := [PV.sl o0 (x.map (cRouted o1 o2))]
def gdRoutedS (x : List Routed) : Prop := ∀ y ∈ x, gdRouted y
def wtRoutedS (x : List Routed) : Nat := x.length + (x.map wtRouted).sum
structure Client where
  Next : Int
  Rows : List Row
def cClient (o0 o1 : Option (Nat × Nat)) (x : Client) : List PV := [PV.val (vI x.Next), PV.sl o0 (x.Rows.map (cRow o1))]
def gdClient (x : Client) : Prop := gdInt x.Next ∧ gdRowS x.Rows
def wtClient (x : Client) : Nat := wtInt x.Next + wtRowS x.Rows
theorem ext_Client_iff {x y : Client} : x = y ↔ x.Next = y.Next ∧ x.Rows = y.Rows := by cases x; cases y; simp_all
theorem ext_Client {x y : Client} (h0 : x.Next = y.Next) (h1 : x.Rows = y.Rows) : x = y := by cases x; cases y; simp_all
structure Annotated where
  Row : Row
  Set : List Int
def cAnnotated (o0 o1 : Option (Nat × Nat)) (x : Annotated) : List PV := [PV.val (vI x.Row.Id), PV.sl o0 (x.Row.Values.map cInt), PV.sl o1 (x.Set.map cInt)]
def gdAnnotated (x : Annotated) : Prop := gdRow x.Row ∧ gdIntS x.Set
def wtAnnotated (x : Annotated) : Nat := wtRow x.Row + wtIntS x.Set
theorem ext_Annotated_iff {x y : Annotated} : x = y ↔ x.Row = y.Row ∧ x.Set = y.Set := by cases x; cases y; simp_all
theorem ext_Annotated {x y : Annotated} (h0 : x.Row = y.Row) (h1 : x.Set = y.Set) : x = y := by cases x; cases y; simp_all
def cAnnotatedS (o0 o1 o2 : Option (Nat × Nat)) (x : List Annotated) : List PV := [PV.sl o0 (x.map (cAnnotated o1 o2))]
def gdAnnotatedS (x : List Annotated) : Prop := ∀ y ∈ x, gdAnnotated y
def wtAnnotatedS (x : List Annotated) : Nat := x.length + (x.map wtAnnotated).sum
def inB (n l h : Int) : Bool := decide (l ≤ n) && decide (n ≤ h)
def okVal (v : Int) : Bool := inB v 0 99
def okRow (r : Row) : Bool := r.Values.all okVal && (inB r.Id 0 999 && decide ((r.Values.length : Int) = 3))
def okRows (l : List Row) : Bool := l.all okRow && decide ((l.length : Int) ≤ 1000)
def okBox (o : Outbox) : Bool := okRows o.Rows && (inB o.Acked 0 o.Rows.length && inB o.Tries 0 100000)
theorem beq_dec {a b : Int} : (a == b) = decide (a = b) := rfl
end Go.Proofs.Ytgglfommkpgknaa
