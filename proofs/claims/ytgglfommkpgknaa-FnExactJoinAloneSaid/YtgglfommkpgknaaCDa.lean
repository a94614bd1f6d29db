/- The types, as they are read. No condition. -/
import Derived.Test.YtgglfommkpgknaaCJ
import Derived.Test.YtgglfommkpgknaaCS
set_option linter.unusedVariables false
set_option linter.unusedSimpArgs false
namespace Go.Proofs.Ytgglfommkpgknaa
open Go Go.RowKit M
set_option maxRecDepth 10000

section
variable {α : Type} {P : α → Bool} {xs ys : List α} {k : Nat}
theorem all_zero : (xs.take 0).all P = true := by simp
theorem all_succ (h : (xs.take k).all P = true) (hk : k < xs.length) (hp : P xs[k] = true) : (xs.take (k + 1)).all P = true := by
  rw [List.take_succ_eq_append_getElem hk, List.all_append, h]; simp [hp]
theorem all_no (hk : k < xs.length) (hp : P xs[k] = false) : xs.all P = false := by
  rw [List.all_eq_false]; exact ⟨_, List.getElem_mem hk, by rw [hp]; simp⟩
theorem all_end (h : (xs.take xs.length).all P = true) : xs.all P = true := by rwa [List.take_length] at h
theorem any_succ (h : (xs.take k).any P = false) (hk : k < xs.length) (hp : P xs[k] = false) : (xs.take (k + 1)).any P = false := by
  rw [List.take_succ_eq_append_getElem hk, List.any_append, h]; simp [hp]
theorem any_yes (hk : k < xs.length) (hp : P xs[k] = true) : xs.any P = true := by
  rw [List.any_eq_true]; exact ⟨_, List.getElem_mem hk, hp⟩
theorem any_end (h : (xs.take xs.length).any P = false) : xs.any P = false := by rwa [List.take_length] at h
theorem eq_succ (h : xs.take k = ys.take k) (hk : k < xs.length) (hk' : k < ys.length) (he : xs[k] = ys[k]) : xs.take (k + 1) = ys.take (k + 1) := by
  rw [List.take_succ_eq_append_getElem hk, List.take_succ_eq_append_getElem hk', h, he]
theorem eq_no (hk : k < xs.length) (hk' : k < ys.length) (he : ¬ xs[k] = ys[k]) : ¬ xs = ys := by
  rintro rfl; exact he rfl
theorem eq_end (hl : xs.length = ys.length) (h : xs.take xs.length = ys.take xs.length) : xs = ys := by
  rw [List.take_length] at h; rw [h, hl, List.take_length]
theorem wtk {f : α → Nat} (hk : k < xs.length) : ((xs.take (k + 1)).map f).sum = ((xs.take k).map f).sum + f xs[k] := by
  rw [List.take_succ_eq_append_getElem hk, List.map_append, List.sum_append]; simp
theorem wtk_le {f : α → Nat} (xs : List α) (k : Nat) : ((xs.take k).map f).sum ≤ (xs.map f).sum := by
  have h : xs = xs.take k ++ xs.drop k := (List.take_append_drop _ _).symm
  have e : (xs.map f).sum = ((xs.take k).map f).sum + ((xs.drop k).map f).sum := by
    rw [← List.sum_append, ← List.map_append, ← h]
  omega
theorem wt_mem {f : α → Nat} (hk : k < xs.length) : f xs[k] ≤ (xs.map f).sum := by
  have h1 := wtk (f := f) hk
  have h2 := wtk_le (f := f) xs (k + 1)
  omega
noncomputable def deq (x y : α) : Bool := @decide (x = y) (Classical.propDecidable _)
theorem deq_true {x y : α} (h : x = y) : deq x y = true := @decide_eq_true _ (Classical.propDecidable _) h
theorem deq_false {x y : α} (h : ¬ x = y) : deq x y = false := @decide_eq_false _ (Classical.propDecidable _) h
theorem deq_iff {x y : α} : deq x y = true ↔ x = y := @decide_eq_true_iff _ (Classical.propDecidable _)
theorem deq_self (x : α) : deq x x = true := deq_true rfl
end
def szR (l n : Int) : Int := if n ≤ l then l - n else -1
theorem szR_yes {l n : Int} (h : n ≤ l) : szR l n = l - n := if_pos h
theorem szR_no {l n : Int} (h : l < n) : szR l n = -1 := if_neg (by omega)
theorem szR_neg {l w : Int} (_h0 : 0 ≤ l) (h : szR l w < 0) : l < w := by unfold szR at h; split at h <;> omega
theorem szR_pos {l w : Int} (h : ¬ szR l w < 0) : w ≤ l := by unfold szR at h; split at h <;> omega
theorem us_1 {us : List Value} (h : us.length = 1) : ∃ v0, us = [v0] := by
  rcases us with _ | ⟨v0, _ | ⟨v1, vs⟩⟩ <;> first | exact ⟨_, rfl⟩ | (simp at h; try omega)
theorem us_2 {us : List Value} (h : us.length = 2) : ∃ v0 v1, us = [v0, v1] := by
  rcases us with _ | ⟨v0, _ | ⟨v1, _ | ⟨v2, vs⟩⟩⟩ <;> first | exact ⟨_, _, rfl⟩ | (simp at h; try omega)
theorem us_3 {us : List Value} (h : us.length = 3) : ∃ v0 v1 v2, us = [v0, v1, v2] := by
  rcases us with _ | ⟨v0, _ | ⟨v1, _ | ⟨v2, _ | ⟨v3, vs⟩⟩⟩⟩ <;> first | exact ⟨_, _, _, rfl⟩ | (simp at h; try omega)
def cInt (x : Int) : List PV := [PV.val (vI x)]
def gdInt (x : Int) : Prop := I64 x
def wtInt (_x : Int) : Nat := 0
def cIntS (o0 : Fl) (x : List Int) : List PV := [PV.sl o0 (x.map cInt)]
def gdIntS (x : List Int) : Prop := ∀ y ∈ x, gdInt y
def wtIntS (x : List Int) : Nat := x.length + (x.map wtInt).sum
structure Row where
  Id : Int
  Values : List Int
def cRow (o0 : Fl) (x : Row) : List PV := [PV.val (vI x.Id), PV.sl o0 (x.Values.map cInt)]
def gdRow (x : Row) : Prop := gdInt x.Id ∧ gdIntS x.Values
def wtRow (x : Row) : Nat := wtInt x.Id + wtIntS x.Values
theorem ext_Row {x y : Row} (h0 : x.Id = y.Id) (h1 : x.Values = y.Values) : x = y := by cases x; cases y; simp_all
structure Joined where
  Left : Int
  Right : Int
  Set : List Int
def cJoined (o0 : Fl) (x : Joined) : List PV := [PV.val (vI x.Left), PV.val (vI x.Right), PV.sl o0 (x.Set.map cInt)]
def gdJoined (x : Joined) : Prop := gdInt x.Left ∧ gdInt x.Right ∧ gdIntS x.Set
def wtJoined (x : Joined) : Nat := wtInt x.Left + wtInt x.Right + wtIntS x.Set
theorem ext_Joined {x y : Joined} (h0 : x.Left = y.Left) (h1 : x.Right = y.Right) (h2 : x.Set = y.Set) : x = y := by cases x; cases y; simp_all
structure Annotated where
  Row : Row
  Set : List Int
def cAnnotated (o0 o1 : Fl) (x : Annotated) : List PV := [PV.val (vI x.Row.Id), PV.sl o0 (x.Row.Values.map cInt), PV.sl o1 (x.Set.map cInt)]
def gdAnnotated (x : Annotated) : Prop := gdRow x.Row ∧ gdIntS x.Set
def wtAnnotated (x : Annotated) : Nat := wtRow x.Row + wtIntS x.Set
theorem ext_Annotated {x y : Annotated} (h0 : x.Row = y.Row) (h1 : x.Set = y.Set) : x = y := by cases x; cases y; simp_all
def cRowS (o0 o1 : Fl) (x : List Row) : List PV := [PV.sl o0 (x.map (cRow o1))]
def gdRowS (x : List Row) : Prop := ∀ y ∈ x, gdRow y
def wtRowS (x : List Row) : Nat := x.length + (x.map wtRow).sum
def cJoinedS (o0 o1 : Fl) (x : List Joined) : List PV := [PV.sl o0 (x.map (cJoined o1))]
def gdJoinedS (x : List Joined) : Prop := ∀ y ∈ x, gdJoined y
def wtJoinedS (x : List Joined) : Nat := x.length + (x.map wtJoined).sum
structure Outbox where
  Rows : List Row
  Acked : Int
  Tries : Int
def cOutbox (o0 o1 : Fl) (x : Outbox) : List PV := [PV.sl o0 (x.Rows.map (cRow o1)), PV.val (vI x.Acked), PV.val (vI x.Tries)]
def gdOutbox (x : Outbox) : Prop := gdRowS x.Rows ∧ gdInt x.Acked ∧ gdInt x.Tries
def wtOutbox (x : Outbox) : Nat := wtRowS x.Rows + wtInt x.Acked + wtInt x.Tries
theorem ext_Outbox {x y : Outbox} (h0 : x.Rows = y.Rows) (h1 : x.Acked = y.Acked) (h2 : x.Tries = y.Tries) : x = y := by cases x; cases y; simp_all
def cAnnotatedS (o0 o1 o2 : Fl) (x : List Annotated) : List PV := [PV.sl o0 (x.map (cAnnotated o1 o2))]
def gdAnnotatedS (x : List Annotated) : Prop := ∀ y ∈ x, gdAnnotated y
def wtAnnotatedS (x : List Annotated) : Nat := x.length + (x.map wtAnnotated).sum
structure Routed where
  Id : Int
  Rows : List Row
def cRouted (o0 o1 : Fl) (x : Routed) : List PV := [PV.val (vI x.Id), PV.sl o0 (x.Rows.map (cRow o1))]
def gdRouted (x : Routed) : Prop := gdInt x.Id ∧ gdRowS x.Rows
def wtRouted (x : Routed) : Nat := wtInt x.Id + wtRowS x.Rows
theorem ext_Routed {x y : Routed} (h0 : x.Id = y.Id) (h1 : x.Rows = y.Rows) : x = y := by cases x; cases y; simp_all
structure Client where
  Next : Int
  Rows : List Row
def cClient (o0 o1 : Fl) (x : Client) : List PV := [PV.val (vI x.Next), PV.sl o0 (x.Rows.map (cRow o1))]
def gdClient (x : Client) : Prop := gdInt x.Next ∧ gdRowS x.Rows
def wtClient (x : Client) : Nat := wtInt x.Next + wtRowS x.Rows
theorem ext_Client {x y : Client} (h0 : x.Next = y.Next) (h1 : x.Rows = y.Rows) : x = y := by cases x; cases y; simp_all
def cRoutedS (o0 o1 o2 : Fl) (x : List Routed) : List PV := [PV.sl o0 (x.map (cRouted o1 o2))]
def gdRoutedS (x : List Routed) : Prop := ∀ y ∈ x, gdRouted y
def wtRoutedS (x : List Routed) : Nat := x.length + (x.map wtRouted).sum
def mkE_Int (x : Int) (k : Int) : Int × Int := (k, (k + 1))
theorem mkE_Int_le (x : Int) (k : Int) : k ≤ (mkE_Int x k).2 := by
  show k ≤ (k + 1)
  omega
def mkV_Row (x : Row) (k : Int) : Row × Int := (⟨x.Id, (mkL mkE_Int x.Values k).1⟩, (mkL mkE_Int x.Values k).2)
theorem mkV_Row_le (x : Row) (k : Int) : k ≤ (mkV_Row x k).2 := by
  show k ≤ (mkL mkE_Int x.Values k).2
  have h0 := mkL_le mkE_Int_le x.Values k
  omega
def mkE_Joined (x : Joined) (k : Int) : Joined × Int := (⟨k, (k + 1), (mkL mkE_Int x.Set ((k + 1) + 1)).1⟩, (mkL mkE_Int x.Set ((k + 1) + 1)).2)
theorem mkE_Joined_le (x : Joined) (k : Int) : k ≤ (mkE_Joined x k).2 := by
  show k ≤ (mkL mkE_Int x.Set ((k + 1) + 1)).2
  have h0 := mkL_le mkE_Int_le x.Set ((k + 1) + 1)
  omega
def mkE_Row (x : Row) (k : Int) : Row × Int := (⟨k, (mkL mkE_Int x.Values (k + 1)).1⟩, (mkL mkE_Int x.Values (k + 1)).2)
theorem mkE_Row_le (x : Row) (k : Int) : k ≤ (mkE_Row x k).2 := by
  show k ≤ (mkL mkE_Int x.Values (k + 1)).2
  have h0 := mkL_le mkE_Int_le x.Values (k + 1)
  omega
def mkV_Outbox (x : Outbox) (k : Int) : Outbox × Int := (⟨(mkL mkE_Row x.Rows k).1, x.Acked, x.Tries⟩, (mkL mkE_Row x.Rows k).2)
theorem mkV_Outbox_le (x : Outbox) (k : Int) : k ≤ (mkV_Outbox x k).2 := by
  show k ≤ (mkL mkE_Row x.Rows k).2
  have h0 := mkL_le mkE_Row_le x.Rows k
  omega
def mkV_Client (x : Client) (k : Int) : Client × Int := (⟨x.Next, (mkL mkE_Row x.Rows k).1⟩, (mkL mkE_Row x.Rows k).2)
theorem mkV_Client_le (x : Client) (k : Int) : k ≤ (mkV_Client x k).2 := by
  show k ≤ (mkL mkE_Row x.Rows k).2
  have h0 := mkL_le mkE_Row_le x.Rows k
  omega
def mkE_Annotated (x : Annotated) (k : Int) : Annotated × Int := (⟨⟨k, (mkL mkE_Int x.Row.Values (k + 1)).1⟩, (mkL mkE_Int x.Set (mkL mkE_Int x.Row.Values (k + 1)).2).1⟩, (mkL mkE_Int x.Set (mkL mkE_Int x.Row.Values (k + 1)).2).2)
theorem mkE_Annotated_le (x : Annotated) (k : Int) : k ≤ (mkE_Annotated x k).2 := by
  show k ≤ (mkL mkE_Int x.Set (mkL mkE_Int x.Row.Values (k + 1)).2).2
  have h0 := mkL_le mkE_Int_le x.Row.Values (k + 1)
  have h1 := mkL_le mkE_Int_le x.Set (mkL mkE_Int x.Row.Values (k + 1)).2
  omega
theorem ctE_Int (x : Int) (k : Int) : (mkE_Int x k).2 ≤ k + 1 + 0 * (wtInt x : Int) := by simp [mkE_Int]
theorem ctL_IntS (x : List Int) (k : Int) : (mkL mkE_Int x k).2 ≤ k + 1 * (wtIntS x : Int) := ctL (s := 1) (c := 0) ctE_Int (by decide) (by decide) x k
theorem ctE_Row (x : Row) (k : Int) : (mkE_Row x k).2 ≤ k + 1 + 1 * (wtRow x : Int) := by
  show (mkL mkE_Int x.Values (k + 1)).2 ≤ _
  have h0 := ctL_IntS x.Values (k + 1)
  simp only [wtInt, wtRow, Int.natCast_add, Int.natCast_zero]
  omega
theorem ctV_Row (x : Row) (k : Int) : (mkV_Row x k).2 ≤ k + 0 + 1 * (wtRow x : Int) := by
  show (mkL mkE_Int x.Values k).2 ≤ _
  have h0 := ctL_IntS x.Values k
  simp only [wtInt, wtRow, Int.natCast_add, Int.natCast_zero]
  omega
theorem ctE_Joined (x : Joined) (k : Int) : (mkE_Joined x k).2 ≤ k + 2 + 1 * (wtJoined x : Int) := by
  show (mkL mkE_Int x.Set ((k + 1) + 1)).2 ≤ _
  have h0 := ctL_IntS x.Set ((k + 1) + 1)
  simp only [wtInt, wtJoined, Int.natCast_add, Int.natCast_zero]
  omega
theorem ctL_JoinedS (x : List Joined) (k : Int) : (mkL mkE_Joined x k).2 ≤ k + 2 * (wtJoinedS x : Int) := ctL (s := 2) (c := 1) ctE_Joined (by decide) (by decide) x k
theorem ctL_RowS (x : List Row) (k : Int) : (mkL mkE_Row x k).2 ≤ k + 1 * (wtRowS x : Int) := ctL (s := 1) (c := 1) ctE_Row (by decide) (by decide) x k
theorem ctV_Outbox (x : Outbox) (k : Int) : (mkV_Outbox x k).2 ≤ k + 0 + 1 * (wtOutbox x : Int) := by
  show (mkL mkE_Row x.Rows k).2 ≤ _
  have h0 := ctL_RowS x.Rows k
  simp only [wtInt, wtOutbox, Int.natCast_add, Int.natCast_zero]
  omega
theorem ctV_Client (x : Client) (k : Int) : (mkV_Client x k).2 ≤ k + 0 + 1 * (wtClient x : Int) := by
  show (mkL mkE_Row x.Rows k).2 ≤ _
  have h0 := ctL_RowS x.Rows k
  simp only [wtClient, wtInt, Int.natCast_add, Int.natCast_zero]
  omega
theorem ctE_Annotated (x : Annotated) (k : Int) : (mkE_Annotated x k).2 ≤ k + 1 + 1 * (wtAnnotated x : Int) := by
  show (mkL mkE_Int x.Set (mkL mkE_Int x.Row.Values (k + 1)).2).2 ≤ _
  have h0 := ctL_IntS x.Row.Values (k + 1)
  have h1 := ctL_IntS x.Set (mkL mkE_Int x.Row.Values (k + 1)).2
  simp only [wtAnnotated, wtInt, wtRow, Int.natCast_add, Int.natCast_zero]
  omega
theorem ctL_AnnotatedS (x : List Annotated) (k : Int) : (mkL mkE_Annotated x k).2 ≤ k + 1 * (wtAnnotatedS x : Int) := ctL (s := 1) (c := 1) ctE_Annotated (by decide) (by decide) x k
theorem fm_succ {α β : Type} {xs : List α} {g : α → List β} {k : Nat} (hk : k < xs.length) : (xs.take (k + 1)).flatMap g = (xs.take k).flatMap g ++ g xs[k] := by
  rw [List.take_succ_eq_append_getElem hk, List.flatMap_append]; simp
theorem fm_le {α β : Type} {xs : List α} {g : α → List β} (h : ∀ x, (g x).length ≤ 1) : (xs.flatMap g).length ≤ xs.length := by
  induction xs with
  | nil => simp
  | cons x xs ih => have := h x; simp only [List.flatMap_cons, List.length_append, List.length_cons]; omega
theorem fm_lek {α β : Type} {xs : List α} {g : α → List β} (h : ∀ x, (g x).length ≤ 1) (k : Nat) : ((xs.take k).flatMap g).length ≤ k := by
  have h1 := fm_le (xs := xs.take k) h
  rw [List.length_take] at h1
  omega
theorem tk_succ {α : Type} {xs : List α} {k : Nat} (hk : k < xs.length) : xs.take (k + 1) = xs.take k ++ [xs[k]] := List.take_succ_eq_append_getElem hk
theorem wt_drop {α : Type} {f : α → Nat} (xs : List α) (n : Nat) : (xs.drop n).length + ((xs.drop n).map f).sum ≤ xs.length + (xs.map f).sum := by
  have e : (xs.map f).sum = ((xs.take n).map f).sum + ((xs.drop n).map f).sum := by
    rw [← List.sum_append, ← List.map_append, List.take_append_drop]
  rw [List.length_drop]; omega
theorem wt_take {α : Type} {f : α → Nat} (xs : List α) (n : Nat) : (xs.take n).length + ((xs.take n).map f).sum ≤ xs.length + (xs.map f).sum := by
  have e : (xs.map f).sum = ((xs.take n).map f).sum + ((xs.drop n).map f).sum := by
    rw [← List.sum_append, ← List.map_append, List.take_append_drop]
  rw [List.length_take]; omega
theorem beq_dec {a b : Int} : (a == b) = decide (a = b) := rfl
theorem wtIntS_len (x : List Int) : wtIntS x = x.length := by
  have h : ∀ l : List Int, (l.map wtInt).sum = 0 := by
    intro l
    induction l with
    | nil => rfl
    | cons a l ih => rw [List.map_cons, List.sum_cons, ih]; rfl
  simp [wtIntS, h]
def hasI (xs : List Int) (x : Int) : Bool := xs.any (fun y => y == x)
def inB (n l h : Int) : Bool := decide (l ≤ n) && decide (n ≤ h)

def okVal (v : Int) : Bool := inB v 0 99
def okRow (r : Row) : Bool := r.Values.all okVal && (inB r.Id 0 999 && decide ((r.Values.length : Int) = 3))
def okRows (l : List Row) : Bool := l.all okRow && decide ((l.length : Int) ≤ 1000)
def routeOne (id : Int) (j : Joined) : List Joined := if hasI j.Set id then [⟨j.Left, j.Right, [0]⟩] else []
def routeAll (l : List Joined) (id : Int) : List Joined := l.flatMap (routeOne id)
theorem routeOne_le (id : Int) (j : Joined) : (routeOne id j).length ≤ 1 := by unfold routeOne; split <;> simp
theorem routeAll_wt (l : List Joined) (id : Int) : wtJoinedS (routeAll l id) ≤ 2 * l.length := by
  unfold wtJoinedS routeAll
  induction l with
  | nil => simp
  | cons j l ih =>
    simp only [List.flatMap_cons, List.length_append, List.map_append, List.sum_append, List.length_cons]
    have : (routeOne id j).length + ((routeOne id j).map wtJoined).sum ≤ 2 := by
      unfold routeOne
      split <;> simp [wtJoined, wtIntS_len, wtInt]
    omega
def asI (x : Int) : List (Bool × List PV) := [(false, [PV.val (vI x)])]
def rsB {γ : Type} (q : γ → Bool) (x : γ) : RV := RV.sv false [PV.val (.bool (q x))]
def okSet (l : List Int) : Bool := (List.range l.length).all fun i => inB (l.getD i 0) 0 23 && (i == 0 || decide (l.getD (i - 1) 0 < l.getD i 0))
def okSetTo (l : List Int) (k : Nat) : Bool := (List.range k).all fun i => inB (l.getD i 0) 0 23 && (i == 0 || decide (l.getD (i - 1) 0 < l.getD i 0))
theorem okSetTo_succ {l : List Int} {k : Nat} : okSetTo l (k + 1) = (okSetTo l k && (inB (l.getD k 0) 0 23 && (k == 0 || decide (l.getD (k - 1) 0 < l.getD k 0)))) := by
  simp [okSetTo, List.range_succ]
theorem okSetTo_no {l : List Int} {k : Nat} (hk : k < l.length) (h : (inB (l.getD k 0) 0 23 && (k == 0 || decide (l.getD (k - 1) 0 < l.getD k 0))) = false) : okSet l = false := by
  cases hs : okSet l with
  | false => rfl
  | true =>
    have := List.all_eq_true.1 hs k (List.mem_range.2 hk)
    rw [h] at this; cases this
theorem okStep {l : List Int} {k : Nat} : (inB (l.getD k 0) 0 23 && (k == 0 || decide (l.getD (k - 1) 0 < l.getD k 0))) = true ↔ (0 ≤ l.getD k 0 ∧ l.getD k 0 ≤ 23 ∧ (k = 0 ∨ l.getD (k - 1) 0 < l.getD k 0)) := by
  simp [inB, and_assoc]
def pickL (q : Int → Bool) (k : Nat) : List Int := ((List.range k).map fun i : Nat => (i : Int)).filter q
theorem pickL_succ {q : Int → Bool} {k : Nat} : pickL q (k + 1) = pickL q k ++ if q k then [(k : Int)] else [] := by
  simp only [pickL, List.range_succ, List.map_append, List.filter_append, List.map_cons, List.map_nil, List.filter_cons, List.filter_nil]
theorem pickL_len (q : Int → Bool) (k : Nat) : (pickL q k).length ≤ k := by
  have := List.length_filter_le q ((List.range k).map fun i : Nat => (i : Int))
  simpa [pickL] using this
def MeetSetsF (a b : List Int) : List Int := if okSet a && okSet b then pickL (fun x => hasI a x && hasI b x) 24 else []
def okBox (o : Outbox) : Bool := okRows o.Rows && (inB o.Acked 0 o.Rows.length && inB o.Tries 0 100000)
def newBox (l : List Row) : Outbox × Bool := if okRows l then (⟨l, 0, 0⟩, true) else (⟨[], 0, 0⟩, false)
def resume (o : Outbox) (n : Int) : List Row := if okBox o && inB n 0 o.Rows.length then o.Rows.drop n.toNat else []
def recvOk (c : Client) (n : Int) (r : Row) : Bool := (n == c.Next) && (okRow r && inB c.Next 0 100000)
def recv (c : Client) (n : Int) (r : Row) : Client × Int := if recvOk c n r then (⟨c.Next + 1, c.Rows ++ [r]⟩, c.Next + 1) else (c, c.Next)
def rowAt (l : List Row) (n : Int) : Row := l.getD n.toNat ⟨0, []⟩
def sendOk (o : Outbox) : Bool := okBox o && (!(o.Acked == (o.Rows.length : Int)) && !(o.Tries == 100000))
def sendTo (o : Outbox) (c : Client) (fate : Int) : Client × Int := if fate = 3 then recv (recv c o.Acked (rowAt o.Rows o.Acked)).1 o.Acked (rowAt o.Rows o.Acked) else recv c o.Acked (rowAt o.Rows o.Acked)
def send (o : Outbox) (c : Client) (fate : Int) : Outbox × Client × Bool :=
  if sendOk o then
    if fate = 1 then (⟨o.Rows, o.Acked, o.Tries + 1⟩, c, true)
    else (⟨o.Rows, if fate = 2 then o.Acked else max o.Acked (min (sendTo o c fate).2 o.Rows.length), o.Tries + 1⟩, (sendTo o c fate).1, true)
  else (o, c, false)
theorem okBox_facts {o : Outbox} (h : okBox o = true) : 0 ≤ o.Acked ∧ o.Acked ≤ o.Rows.length ∧ 0 ≤ o.Tries ∧ o.Tries ≤ 100000 := by
  simp [okBox, inB] at h; omega
theorem rowAt_eq {l : List Row} {n : Int} (h0 : 0 ≤ n) (h : n.toNat < l.length) : l[n.toNat] = rowAt l n := by simp [rowAt, h]
theorem wt_rowAt (l : List Row) (n : Int) : wtRow (rowAt l n) ≤ wtRowS l := by
  unfold rowAt wtRowS
  by_cases h : n.toNat < l.length
  · have := wt_mem (f := wtRow) h
    simp [h]; omega
  · rw [List.getD_eq_getElem?_getD, List.getElem?_eq_none (by omega)]
    simp [wtRow, wtInt, wtIntS_len]
theorem recv_wt (c : Client) (n : Int) (r : Row) : wtClient (recv c n r).1 ≤ wtClient c + 1 + wtRow r := by
  unfold recv
  split
  · simp [wtClient, wtRowS, wtInt]; omega
  · simp; omega
theorem sendOk_facts {o : Outbox} (h : sendOk o = true) : 0 ≤ o.Acked ∧ o.Acked.toNat < o.Rows.length ∧ 0 ≤ o.Tries ∧ o.Tries < 100000 := by
  simp only [sendOk, Bool.and_eq_true] at h
  have := okBox_facts h.1
  simp at h; omega
theorem newBox_wt (x : List Row) : wtOutbox (newBox x).1 ≤ wtRowS x := by
  unfold newBox
  split <;> simp [wtOutbox, wtInt, wtRowS]
theorem resume_wt (o : Outbox) (n : Int) : wtRowS (resume o n) ≤ wtOutbox o := by
  unfold resume
  split
  · have := wt_drop (f := wtRow) o.Rows n.toNat
    simp only [wtOutbox, wtRowS, wtInt]; omega
  · simp [wtRowS]
theorem send_wt1 (o : Outbox) (c : Client) (fate : Int) : wtOutbox (send o c fate).1 ≤ wtOutbox o := by
  unfold send
  split
  · split <;> simp [wtOutbox, wtInt]
  · simp
theorem send_wt2 (o : Outbox) (c : Client) (fate : Int) : wtClient (send o c fate).2.1 ≤ wtClient c + 2 + 2 * wtOutbox o := by
  have h1 := wt_rowAt o.Rows o.Acked
  have h2 := recv_wt c o.Acked (rowAt o.Rows o.Acked)
  have h3 := recv_wt (recv c o.Acked (rowAt o.Rows o.Acked)).1 o.Acked (rowAt o.Rows o.Acked)
  have h4 : wtRowS o.Rows ≤ wtOutbox o := by simp [wtOutbox, wtInt]
  unfold send
  split
  · split
    · simp; omega
    · simp only [sendTo]
      split <;> omega
  · simp; omega
def annOk (l : List Annotated) (f : Int) : Bool := l.all (fun a => okRow a.Row) && inB f 0 2
def valAt (r : Row) (f : Int) : Int := r.Values.getD f.toNat 0
theorem valAt_eq {r : Row} {f : Int} (h : f.toNat < r.Values.length) : r.Values[f.toNat] = valAt r f := by simp [valAt, h]
theorem okRow_len {r : Row} (h : okRow r = true) : r.Values.length = 3 := by simp [okRow, inB] at h; omega
theorem annOk_at {l : List Annotated} {f : Int} (h : annOk l f = true) {k : Nat} (hk : k < l.length) : f.toNat < l[k].Row.Values.length ∧ 0 ≤ f ∧ f ≤ 2 := by
  unfold annOk at h
  rw [Bool.and_eq_true] at h
  have h1 := okRow_len (List.all_eq_true.1 h.1 _ (List.getElem_mem hk))
  have h2 := h.2
  simp [inB] at h2
  omega
theorem mem_hasI {l : List Int} {x : Int} : hasI l x = true ↔ x ∈ l := by simp [hasI]
theorem okSet_at {l : List Int} (h : okSet l = true) {k : Nat} (hk : k < l.length) : 0 ≤ l[k] ∧ l[k] ≤ 23 ∧ (k = 0 ∨ l.getD (k - 1) 0 < l[k]) := by
  have := okStep.1 (List.all_eq_true.1 h k (List.mem_range.2 hk))
  rwa [show l.getD k 0 = l[k] by simp [hk]] at this
theorem okSet_lt {l : List Int} (h : okSet l = true) : ∀ (j i : Nat) (hj : j < l.length) (hi : i < j), l[i] < l[j]
  | 0, i, _, hi => by omega
  | j + 1, i, hj, hi => by
    have h1 := (okSet_at h hj).2.2
    have e : l.getD (j + 1 - 1) 0 = l[j] := by simp [show j < l.length by omega]
    rw [e] at h1
    rcases Nat.lt_or_ge i j with h2 | h2
    · have := okSet_lt h j i (by omega) h2
      omega
    · have : i = j := by omega
      subst this
      omega
theorem okSet_pw {l : List Int} (h : okSet l = true) : l.Pairwise (· < ·) := by
  rw [List.pairwise_iff_getElem]
  intro i j hi hj hij
  exact okSet_lt h j i hj hij
theorem filt_succ {m : Int} : ∀ {l : List Int}, l.Pairwise (· < ·) → l.filter (fun x => decide (x < m + 1)) = l.filter (fun x => decide (x < m)) ++ (if hasI l m then [m] else [])
  | [], _ => by simp [hasI]
  | x :: l, h => by
    rw [List.pairwise_cons] at h
    have ih := filt_succ (m := m) h.2
    have hhx : hasI (x :: l) m = (x == m || hasI l m) := by simp [hasI]
    by_cases h1 : x < m
    · have e1 : decide (x < m + 1) = true := by simp; omega
      have e2 : decide (x < m) = true := by simpa using h1
      rw [List.filter_cons, List.filter_cons, if_pos e1, if_pos e2, ih, hhx, show (x == m) = false by simp; omega, Bool.false_or]
      rfl
    · have hl : l.filter (fun x => decide (x < m)) = [] := by
        rw [List.filter_eq_nil_iff]; intro y hy; have := h.1 y hy; simp; omega
      have hl1 : l.filter (fun x => decide (x < m + 1)) = [] := by
        rw [List.filter_eq_nil_iff]; intro y hy; have := h.1 y hy; simp; omega
      have hm : hasI l m = false := by
        cases hc : hasI l m with
        | false => rfl
        | true => have := h.1 m (mem_hasI.1 hc); omega
      have e2 : ¬ decide (x < m) = true := by simpa using h1
      by_cases h2 : x = m
      · have e1 : decide (x < m + 1) = true := by simp; omega
        rw [List.filter_cons, List.filter_cons, if_pos e1, if_neg e2, hl, hl1, hhx, hm, show (x == m) = true by simpa using h2]
        simp [h2]
      · have e1 : ¬ decide (x < m + 1) = true := by simp; omega
        rw [List.filter_cons, List.filter_cons, if_neg e1, if_neg e2, hl, hl1, hhx, hm, show (x == m) = false by simpa using h2]
        simp
theorem pick_has {l : List Int} (h : okSet l = true) : ∀ m : Nat, pickL (fun x => hasI l x) m = l.filter (fun x => decide (x < (m : Int)))
  | 0 => by
    rw [show pickL (fun x => hasI l x) 0 = [] from rfl, eq_comm, List.filter_eq_nil_iff]
    intro y hy
    obtain ⟨k, hk, rfl⟩ := List.mem_iff_getElem.1 hy
    have := (okSet_at h hk).1
    simp; omega
  | m + 1 => by
    rw [pickL_succ, pick_has h m]
    have := filt_succ (m := (m : Int)) (okSet_pw h)
    rw [show ((m + 1 : Nat) : Int) = (m : Int) + 1 by omega, this]
theorem pick_all {l : List Int} (h : okSet l = true) : pickL (fun x => hasI l x) 24 = l := by
  rw [pick_has h, List.filter_eq_self]
  intro y hy
  obtain ⟨k, hk, rfl⟩ := List.mem_iff_getElem.1 hy
  have := (okSet_at h hk).2.1
  simp; omega
theorem okSet_len {l : List Int} (h : okSet l = true) : l.length ≤ 24 := by
  have := pickL_len (fun x => hasI l x) 24
  rwa [pick_all h] at this
theorem meet_eq {a b : List Int} (h : okSet a = true) : a.filter (fun x => hasI b x) = pickL (fun x => hasI a x && hasI b x) 24 := by
  conv => lhs; rw [← pick_all h]
  simp only [pickL, List.filter_filter]
  congr 1
  funext x
  exact Bool.and_comm _ _
theorem meet_end {a b : List Int} {k : Nat} (hk : 0 < k → (okSet a && okSet b) = true) (h : (k = a.length ∧ (okSet a && okSet b) = true) ∨ (k = 0 ∧ (a.length = 0 ∨ (okSet a && okSet b) = false))) : (a.take k).filter (fun x => hasI b x) = MeetSetsF a b := by
  unfold MeetSetsF
  rcases h with ⟨rfl, h⟩ | ⟨rfl, h⟩
  · rw [List.take_length, if_pos h]
    rw [Bool.and_eq_true] at h
    exact meet_eq h.1
  · split
    · rename_i h2
      rcases h with h | h
      · have : a = [] := List.eq_nil_of_length_eq_zero h
        subst this
        rw [Bool.and_eq_true] at h2
        rw [← meet_eq h2.1]; simp
      · rw [h] at h2; cases h2
    · simp
def joinOne (f g : Int) (x y : Annotated) : List Joined := if valAt x.Row f = valAt y.Row g ∧ MeetSetsF x.Set y.Set ≠ [] then [⟨x.Row.Id, y.Row.Id, MeetSetsF x.Set y.Set⟩] else []
def joinRow (b : List Annotated) (f g : Int) (x : Annotated) : List Joined := b.flatMap (joinOne f g x)
def joinAll (a b : List Annotated) (f g : Int) : List Joined := if annOk a f && annOk b g then a.flatMap (joinRow b f g) else []
theorem joinOne_le (f g : Int) (x y : Annotated) : (joinOne f g x y).length ≤ 1 := by unfold joinOne; split <;> simp
theorem flat_le {α β : Type} {g : α → List β} {m : Nat} (h : ∀ x, (g x).length ≤ m) : ∀ xs : List α, (xs.flatMap g).length ≤ xs.length * m
  | [] => by simp
  | x :: xs => by
    have h1 := h x
    have h2 := flat_le h xs
    rw [List.flatMap_cons, List.length_append, List.length_cons, Nat.succ_mul]; omega
theorem join_le {a b : List Annotated} {f g : Int} {k k2 : Nat} {x : Annotated} (ha : a.length ≤ 1048576) (hb : b.length ≤ 1048576) (hk : k < a.length) : ((a.take k).flatMap (joinRow b f g) ++ (b.take k2).flatMap (joinOne f g x)).length ≤ 1099511627776 := by
  have h1 : ((a.take k).flatMap (joinRow b f g)).length ≤ k * b.length := by
    have h2 := flat_le (g := joinRow b f g) (m := b.length) (fun x => fm_le (joinOne_le f g x)) (a.take k)
    rw [List.length_take, Nat.min_eq_left (by omega)] at h2
    exact h2
  have h3 : ((b.take k2).flatMap (joinOne f g x)).length ≤ b.length := Nat.le_trans (fm_le (joinOne_le f g x)) (by rw [List.length_take]; omega)
  have h4 : k * b.length + b.length ≤ 1048576 * 1048576 := by
    rw [← Nat.succ_mul]
    exact Nat.mul_le_mul (by omega) hb
  rw [List.length_append]; omega
theorem MeetSetsF_len (a b : List Int) : (MeetSetsF a b).length ≤ 24 := by
  unfold MeetSetsF
  split
  · exact pickL_len _ _
  · simp
theorem joinAll_wt {a b : List Annotated} {f g : Int} (ha : a.length ≤ 1048576) (hb : b.length ≤ 1048576) : wtJoinedS (joinAll a b f g) ≤ 30786325577728 := by
  have h1 : ∀ x y, (joinOne f g x y).length + ((joinOne f g x y).map wtJoined).sum ≤ 25 := by
    intro x y
    unfold joinOne
    split
    · have := MeetSetsF_len x.Set y.Set
      simp [wtJoined, wtIntS_len, wtInt]; omega
    · simp
  have h2 : ∀ {α : Type} (g : α → List Joined) (m : Nat) (_ : ∀ x, (g x).length + ((g x).map wtJoined).sum ≤ m) (xs : List α), (xs.flatMap g).length + ((xs.flatMap g).map wtJoined).sum ≤ xs.length * m := by
    intro α g m h xs
    induction xs with
    | nil => simp
    | cons x xs ih =>
      have h1 := h x
      simp only [List.flatMap_cons, List.length_append, List.map_append, List.sum_append, List.length_cons, Nat.succ_mul]; omega
  unfold joinAll wtJoinedS
  split
  · have h3 := h2 (joinRow b f g) (b.length * 25) (fun x => h2 (joinOne f g x) 25 (h1 x) b) a
    have h4 : a.length * (b.length * 25) ≤ 1048576 * (1048576 * 25) := Nat.mul_le_mul ha (Nat.mul_le_mul hb (Nat.le_refl _))
    omega
  · simp
def annAll (l : List Row) (n : Int) : List Annotated := l.map fun r => ⟨r, [n]⟩
theorem annAll_len (l : List Row) (n : Int) : (annAll l n).length = l.length := by simp [annAll]
theorem annAll_succ {l : List Row} {n : Int} {k : Nat} (h : k < l.length) : annAll (l.take (k + 1)) n = annAll (l.take k) n ++ [⟨l[k], [n]⟩] := by
  rw [List.take_succ_eq_append_getElem h]; simp only [annAll, List.map_append]; rfl
end Go.Proofs.Ytgglfommkpgknaa
