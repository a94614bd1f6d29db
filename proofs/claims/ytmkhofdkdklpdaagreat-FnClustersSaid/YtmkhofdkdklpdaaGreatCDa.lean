/- The types, as they are read. No condition. -/
import Derived.Test.YtmkhofdkdklpdaaGreatCF2
set_option linter.unusedVariables false
set_option linter.unusedSimpArgs false
namespace Go.Proofs.YtmkhofdkdklpdaaGreat
open Go Go.RowKit M
set_option maxRecDepth 10000

section
variable {α : Type} {P : α → Bool} {xs ys : List α} {k : Nat}
theorem all_succ (h : (xs.take k).all P = true) (hk : k < xs.length) (hp : P xs[k] = true) : (xs.take (k + 1)).all P = true := by
  rw [List.take_succ_eq_append_getElem hk, List.all_append, h]; simp [hp]
theorem all_no (hk : k < xs.length) (hp : P xs[k] = false) : xs.all P = false := by
  rw [List.all_eq_false]; exact ⟨_, List.getElem_mem hk, by rw [hp]; simp⟩
theorem all_end (h : (xs.take xs.length).all P = true) : xs.all P = true := by rwa [List.take_length] at h
theorem any_succ (h : (xs.take k).any P = false) (hk : k < xs.length) (hp : P xs[k] = false) : (xs.take (k + 1)).any P = false := by
  rw [List.take_succ_eq_append_getElem hk, List.any_append, h]; simp [hp]
theorem any_yes (hk : k < xs.length) (hp : P xs[k] = true) : xs.any P = true := by
  rw [List.any_eq_true]; exact ⟨_, List.getElem_mem hk, hp⟩
theorem any_end (h : (xs.take xs.length).any P = false) : xs.any P = false := by rwa [List.take_length] at h
theorem eq_succ (h : xs.take k = ys.take k) (hk : k < xs.length) (hk' : k < ys.length) (he : xs[k] = ys[k]) : xs.take (k + 1) = ys.take (k + 1) := by
  rw [List.take_succ_eq_append_getElem hk, List.take_succ_eq_append_getElem hk', h, he]
theorem eq_no (hk : k < xs.length) (hk' : k < ys.length) (he : ¬ xs[k] = ys[k]) : ¬ xs = ys := by
  rintro rfl; exact he rfl
theorem eq_end (hl : xs.length = ys.length) (h : xs.take xs.length = ys.take xs.length) : xs = ys := by
  rw [List.take_length] at h; rw [h, hl, List.take_length]
theorem wtk {f : α → Nat} (hk : k < xs.length) : ((xs.take (k + 1)).map f).sum = ((xs.take k).map f).sum + f xs[k] := by
  rw [List.take_succ_eq_append_getElem hk, List.map_append, List.sum_append]; simp
theorem wtk_le {f : α → Nat} (xs : List α) (k : Nat) : ((xs.take k).map f).sum ≤ (xs.map f).sum := by
  have h : xs = xs.take k ++ xs.drop k := (List.take_append_drop _ _).symm
  have e : (xs.map f).sum = ((xs.take k).map f).sum + ((xs.drop k).map f).sum := by
    rw [← List.sum_append, ← List.map_append, ← h]
  omega
theorem wt_mem {f : α → Nat} (hk : k < xs.length) : f xs[k] ≤ (xs.map f).sum := by
  have h1 := wtk (f := f) hk
  have h2 := wtk_le (f := f) xs (k + 1)
  omega
noncomputable def deq (x y : α) : Bool := @decide (x = y) (Classical.propDecidable _)
theorem deq_true {x y : α} (h : x = y) : deq x y = true := @decide_eq_true _ (Classical.propDecidable _) h
theorem deq_false {x y : α} (h : ¬ x = y) : deq x y = false := @decide_eq_false _ (Classical.propDecidable _) h
theorem deq_iff {x y : α} : deq x y = true ↔ x = y := @decide_eq_true_iff _ (Classical.propDecidable _)
theorem deq_self (x : α) : deq x x = true := deq_true rfl
end
def szR (l n : Int) : Int := if n ≤ l then l - n else -1
theorem us_1 {us : List Value} (h : us.length = 1) : ∃ v0, us = [v0] := by
  rcases us with _ | ⟨v0, _ | ⟨v1, vs⟩⟩ <;> first | exact ⟨_, rfl⟩ | (simp at h; try omega)
theorem us_11 {us : List Value} (h : us.length = 11) : ∃ v0 v1 v2 v3 v4 v5 v6 v7 v8 v9 v10, us = [v0, v1, v2, v3, v4, v5, v6, v7, v8, v9, v10] := by
  rcases us with _ | ⟨v0, _ | ⟨v1, _ | ⟨v2, _ | ⟨v3, _ | ⟨v4, _ | ⟨v5, _ | ⟨v6, _ | ⟨v7, _ | ⟨v8, _ | ⟨v9, _ | ⟨v10, _ | ⟨v11, vs⟩⟩⟩⟩⟩⟩⟩⟩⟩⟩⟩⟩ <;> first | exact ⟨_, _, _, _, _, _, _, _, _, _, _, rfl⟩ | (simp at h; try omega)
def cU8 (x : Int) : List PV := [PV.val (.int .u8 x)]
def gdU8 (_x : Int) : Prop := True
def wtU8 (_x : Int) : Nat := 0
def cU8S (o0 : Fl) (x : List Int) : List PV := [PV.sl o0 (x.map cU8)]
def gdU8S (x : List Int) : Prop := ∀ y ∈ x, gdU8 y
def wtU8S (x : List Int) : Nat := x.length + (x.map wtU8).sum
def cInt (x : Int) : List PV := [PV.val (vI x)]
def gdInt (x : Int) : Prop := I64 x
def wtInt (_x : Int) : Nat := 0
structure Cond where
  Field : Int
  Low : Int
  High : Int
def cCond (x : Cond) : List PV := [PV.val (vI x.Field), PV.val (vI x.Low), PV.val (vI x.High)]
def gdCond (x : Cond) : Prop := gdInt x.Field ∧ gdInt x.Low ∧ gdInt x.High
def wtCond (x : Cond) : Nat := wtInt x.Field + wtInt x.Low + wtInt x.High
def cCondS (o0 : Fl) (x : List Cond) : List PV := [PV.sl o0 (x.map cCond)]
def gdCondS (x : List Cond) : Prop := ∀ y ∈ x, gdCond y
def wtCondS (x : List Cond) : Nat := x.length + (x.map wtCond).sum
def cIntS (o0 : Fl) (x : List Int) : List PV := [PV.sl o0 (x.map cInt)]
def gdIntS (x : List Int) : Prop := ∀ y ∈ x, gdInt y
def wtIntS (x : List Int) : Nat := x.length + (x.map wtInt).sum
structure Query where
  Id : Int
  Tenant : Int
  Conds : List Cond
  Out : List Int
def cQuery (o0 o1 : Fl) (x : Query) : List PV := [PV.val (vI x.Id), PV.val (vI x.Tenant), PV.sl o0 (x.Conds.map cCond), PV.sl o1 (x.Out.map cInt)]
def gdQuery (x : Query) : Prop := gdInt x.Id ∧ gdInt x.Tenant ∧ gdCondS x.Conds ∧ gdIntS x.Out
def wtQuery (x : Query) : Nat := wtInt x.Id + wtInt x.Tenant + wtCondS x.Conds + wtIntS x.Out
structure Row where
  Id : Int
  Values : List Int
def cRow (o0 : Fl) (x : Row) : List PV := [PV.val (vI x.Id), PV.sl o0 (x.Values.map cInt)]
def gdRow (x : Row) : Prop := gdInt x.Id ∧ gdIntS x.Values
def wtRow (x : Row) : Nat := wtInt x.Id + wtIntS x.Values
def cRowS (o0 o1 : Fl) (x : List Row) : List PV := [PV.sl o0 (x.map (cRow o1))]
def gdRowS (x : List Row) : Prop := ∀ y ∈ x, gdRow y
def wtRowS (x : List Row) : Nat := x.length + (x.map wtRow).sum
def cRowSS (o0 o1 o2 : Fl) (x : List (List Row)) : List PV := [PV.sl o0 (x.map (cRowS o1 o2))]
def gdRowSS (x : List (List Row)) : Prop := ∀ y ∈ x, gdRowS y
def wtRowSS (x : List (List Row)) : Nat := x.length + (x.map wtRowS).sum
def cBool (x : Bool) : List PV := [PV.val (.bool x)]
def gdBool (_x : Bool) : Prop := True
def wtBool (_x : Bool) : Nat := 0
def cBoolS (o0 : Fl) (x : List Bool) : List PV := [PV.sl o0 (x.map cBool)]
def gdBoolS (x : List Bool) : Prop := ∀ y ∈ x, gdBool y
def wtBoolS (x : List Bool) : Nat := x.length + (x.map wtBool).sum
structure Cluster where
  Query : Query
  Parts : List (List Row)
  Up : List Bool
  At : List Int
  Pos : List Int
  Buffer : List (List Row)
  Done : List Int
  Rows : List (List Row)
def cCluster (o0 o1 o2 o3 o4 o5 o6 o7 o8 o9 o10 o11 o12 o13 o14 : Fl) (x : Cluster) : List PV := [PV.val (vI x.Query.Id), PV.val (vI x.Query.Tenant), PV.sl o0 (x.Query.Conds.map cCond), PV.sl o1 (x.Query.Out.map cInt), PV.sl o2 (x.Parts.map (cRowS o3 o4)), PV.sl o5 (x.Up.map cBool), PV.sl o6 (x.At.map cInt), PV.sl o7 (x.Pos.map cInt), PV.sl o8 (x.Buffer.map (cRowS o9 o10)), PV.sl o11 (x.Done.map cInt), PV.sl o12 (x.Rows.map (cRowS o13 o14))]
def gdCluster (x : Cluster) : Prop := gdQuery x.Query ∧ gdRowSS x.Parts ∧ gdBoolS x.Up ∧ gdIntS x.At ∧ gdIntS x.Pos ∧ gdRowSS x.Buffer ∧ gdIntS x.Done ∧ gdRowSS x.Rows
def wtCluster (x : Cluster) : Nat := wtQuery x.Query + wtRowSS x.Parts + wtBoolS x.Up + wtIntS x.At + wtIntS x.Pos + wtRowSS x.Buffer + wtIntS x.Done + wtRowSS x.Rows
theorem tk_succ {α : Type} {xs : List α} {k : Nat} (hk : k < xs.length) : xs.take (k + 1) = xs.take k ++ [xs[k]] := List.take_succ_eq_append_getElem hk
theorem wt_take {α : Type} {f : α → Nat} (xs : List α) (n : Nat) : (xs.take n).length + ((xs.take n).map f).sum ≤ xs.length + (xs.map f).sum := by
  have e : (xs.map f).sum = ((xs.take n).map f).sum + ((xs.drop n).map f).sum := by
    rw [← List.sum_append, ← List.map_append, List.take_append_drop]
  rw [List.length_take]; omega
theorem beq_dec {a b : Int} : (a == b) = decide (a = b) := rfl
theorem wtIntS_len (x : List Int) : wtIntS x = x.length := by
  have h : ∀ l : List Int, (l.map wtInt).sum = 0 := by
    intro l
    induction l with
    | nil => rfl
    | cons a l ih => rw [List.map_cons, List.sum_cons, ih]; rfl
  simp [wtIntS, h]
def hasI (xs : List Int) (x : Int) : Bool := xs.any (fun y => y == x)
def inB (n l h : Int) : Bool := decide (l ≤ n) && decide (n ≤ h)
def asI (x : Int) : List (Bool × List PV) := [(false, [PV.val (vI x)])]
def rsB {γ : Type} (q : γ → Bool) (x : γ) : RV := RV.sv false [PV.val (.bool (q x))]

def okVal (v : Int) : Bool := inB v 0 99
def okRow (r : Row) : Bool := r.Values.all okVal && (inB r.Id 0 999 && decide ((r.Values.length : Int) = 3))
def okRows (l : List Row) : Bool := l.all okRow && decide ((l.length : Int) ≤ 1000)
def adjTo {α : Type} (d : α) (p : α → Bool) (r : α → α → Bool) (l : List α) (k : Nat) : Bool := (List.range k).all fun i => p (l.getD i d) && (i == 0 || r (l.getD (i - 1) d) (l.getD i d))
def adjAll {α : Type} (d : α) (p : α → Bool) (r : α → α → Bool) (l : List α) : Bool := adjTo d p r l l.length
theorem adjTo_succ {α : Type} {d : α} {p : α → Bool} {r : α → α → Bool} {l : List α} {k : Nat} : adjTo d p r l (k + 1) = (adjTo d p r l k && (p (l.getD k d) && (k == 0 || r (l.getD (k - 1) d) (l.getD k d)))) := by
  simp [adjTo, List.range_succ]
theorem adjStep {α : Type} {d : α} {p : α → Bool} {r : α → α → Bool} {l : List α} {k : Nat} : (p (l.getD k d) && (k == 0 || r (l.getD (k - 1) d) (l.getD k d))) = true ↔ (p (l.getD k d) = true ∧ (k = 0 ∨ r (l.getD (k - 1) d) (l.getD k d) = true)) := by
  simp
theorem adj_no {α : Type} {d : α} {p : α → Bool} {r : α → α → Bool} {l : List α} {k : Nat} (hk : k < l.length) (h : (p (l.getD k d) && (k == 0 || r (l.getD (k - 1) d) (l.getD k d))) = false) : adjAll d p r l = false := by
  cases hs : adjAll d p r l with
  | false => rfl
  | true =>
    have := List.all_eq_true.1 hs k (List.mem_range.2 hk)
    rw [h] at this; cases this
theorem adj_end {α : Type} {d : α} {p : α → Bool} {r : α → α → Bool} {l : List α} {k : Nat} (h : adjTo d p r l k = true) (hk : k = l.length) : adjAll d p r l = true := by subst hk; exact h
theorem getD_at {α : Type} {d : α} {l : List α} {k : Nat} (h : k < l.length) : l.getD k d = l[k] := by simp [h]
def okCond (c : Cond) : Bool := inB c.Field 0 2 && (decide (0 ≤ c.Low) && (decide (c.Low ≤ c.High) && decide (c.High ≤ 99)))
def ltField (a b : Cond) : Bool := decide (a.Field < b.Field)
def okConds (l : List Cond) : Bool := adjAll ⟨0, 0, 0⟩ okCond ltField l
def okOut (v : Int) : Bool := inB v 0 2
def okFields (l : List Int) : Bool := l.all okOut && inB l.length 1 3
def okQuery (q : Query) : Bool := (inB q.Id 0 23 && (inB q.Tenant 0 3 && decide ((q.Conds.length : Int) ≤ 3))) && (okConds q.Conds && okFields q.Out)
theorem ext_Row_iff {x y : Row} : x = y ↔ x.Id = y.Id ∧ x.Values = y.Values := by cases x; cases y; simp_all
def as2 {α : Type} (f : α → Bool × List PV) (x : α × α) : List (Bool × List PV) := [f x.1, f x.2]
noncomputable def deq2 {α : Type} (x : α × α) : Bool := deq x.1 x.2
theorem deq_no {α : Type} {x y : α} : deq x y = false ↔ ¬ x = y := ⟨fun h e => (by rw [deq_true e] at h; simp at h), deq_false⟩
theorem ext_Cond_iff {x y : Cond} : x = y ↔ x.Field = y.Field ∧ x.Low = y.Low ∧ x.High = y.High := by cases x; cases y; simp [Cond.mk.injEq]
theorem ext_Query_iff {x y : Query} : x = y ↔ x.Id = y.Id ∧ x.Tenant = y.Tenant ∧ x.Conds = y.Conds ∧ x.Out = y.Out := by cases x; cases y; simp [Query.mk.injEq]
theorem ext_Cluster_iff {x y : Cluster} : x = y ↔ x.Query = y.Query ∧ x.Parts = y.Parts ∧ x.Up = y.Up ∧ x.At = y.At ∧ x.Pos = y.Pos ∧ x.Buffer = y.Buffer ∧ x.Done = y.Done ∧ x.Rows = y.Rows := by cases x; cases y; simp [Cluster.mk.injEq]
theorem inB_iff {n l h : Int} : inB n l h = true ↔ l ≤ n ∧ n ≤ h := by simp [inB]
theorem gDt {α : Type} {l : List α} {d : α} {i : Nat} (h : i < l.length) : l[i] = l.getD i d := by simp [h]
def atI (l : List Int) (f : Int) : Int := l.getD f.toNat 0
def condOk (r : Row) (c : Cond) : Bool := inB (atI r.Values c.Field) c.Low c.High
def matchRow (q : Query) (r : Row) : Bool := (okRow r && okQuery q) && q.Conds.all (condOk r)
def admC (f v : Int) (c : Cond) : Bool := !(c.Field == f) || inB v c.Low c.High
def admitsV (q : Query) (f v : Int) : Bool := q.Conds.all (admC f v)
theorem rowLen {r : Row} (h : okRow r = true) : r.Values.length = 3 := by simp [okRow, inB] at h; omega
theorem adjAt {α : Type} {d : α} {p : α → Bool} {r : α → α → Bool} {l : List α} (h : adjAll d p r l = true) {k : Nat} (hk : k < l.length) : p l[k] = true := by
  have := List.all_eq_true.1 h k (List.mem_range.2 hk)
  rw [Bool.and_eq_true, getD_at hk] at this
  exact this.1
theorem condField {q : Query} (h : okQuery q = true) {c : Cond} (hc : c ∈ q.Conds) : 0 ≤ c.Field ∧ c.Field ≤ 2 := by
  obtain ⟨k, hk, rfl⟩ := List.mem_iff_getElem.1 hc
  unfold okQuery okConds at h
  simp only [Bool.and_eq_true] at h
  have := adjAt h.2.1 hk
  simp [okCond, inB] at this
  omega
theorem match_yes {q : Query} {r : Row} (hq : okQuery q = true) (hr : okRow r = true) (h : ∀ i : Nat, i < r.Values.length → admitsV q (i : Int) (r.Values.getD i 0) = true) : matchRow q r = true := by
  unfold matchRow
  rw [hr, hq, Bool.and_self, Bool.true_and, List.all_eq_true]
  intro c hc
  have hf := condField hq hc
  have hl := rowLen hr
  have := List.all_eq_true.1 (h c.Field.toNat (by omega)) c hc
  unfold admC at this
  rw [Int.toNat_of_nonneg hf.1] at this
  simpa [condOk, atI] using this
theorem match_no {q : Query} {r : Row} {i : Nat} (h : admitsV q (i : Int) (r.Values.getD i 0) = false) : matchRow q r = false := by
  rw [← Bool.not_eq_true]
  intro hm
  unfold matchRow at hm
  rw [Bool.and_eq_true, List.all_eq_true] at hm
  have : admitsV q (i : Int) (r.Values.getD i 0) = true := by
    unfold admitsV
    rw [List.all_eq_true]
    intro c hc
    unfold admC
    by_cases he : c.Field = (i : Int)
    · have := hm.2 c hc
      simp only [condOk, atI, he, Int.toNat_natCast] at this
      rw [this, Bool.or_true]
    · simp [he]
  rw [h] at this; cases this
def homeOf (s n : Int) : Int := if inB n 2 4 = true ∧ 0 ≤ s then s.tmod n else -1
def backupOf (s n : Int) : Int := if inB n 2 4 = true ∧ 0 ≤ s then (s.tmod n + 1).tmod n else -1
theorem tmod_in {a b : Int} (h1 : 2 ≤ b) (h2 : b ≤ 4) (h3 : 0 ≤ a) : 0 ≤ a.tmod b ∧ a.tmod b < b := ⟨Int.tmod_nonneg b h3, Int.tmod_lt_of_pos a (by omega)⟩
def found (q : Query) (l : List Row) : List Row := l.filter (matchRow q)
theorem found_yes {q : Query} {l : List Row} {k : Nat} (hk : k < l.length) (h : matchRow q l[k] = true) : found q (l.take (k + 1)) = found q (l.take k) ++ [l[k]] := by
  unfold found; rw [List.take_succ_eq_append_getElem hk, List.filter_append]; simp [h]
theorem found_no {q : Query} {l : List Row} {k : Nat} (hk : k < l.length) (h : matchRow q l[k] = false) : found q (l.take (k + 1)) = found q (l.take k) := by
  unfold found; rw [List.take_succ_eq_append_getElem hk, List.filter_append]; simp [h]
theorem found_le {q : Query} {l : List Row} {k : Nat} : (found q (l.take k)).length ≤ k := by
  have h1 := List.length_filter_le (matchRow q) (l.take k)
  rw [List.length_take] at h1
  unfold found; omega
def segB (l : List Row) : Bool := decide ((l.length : Int) ≤ 4) && l.all okRow
def idsOf (l : List (List Row)) : List Int := l.flatten.map Row.Id
noncomputable def okParts (l : List (List Row)) : Bool := inB l.length 1 8 && (l.all segB && @decide ((idsOf l).Nodup) (Classical.propDecidable _))
theorem okParts_iff {l : List (List Row)} : okParts l = true ↔ inB l.length 1 8 = true ∧ (∀ s ∈ l, segB s = true) ∧ (idsOf l).Nodup := by
  unfold okParts
  rw [Bool.and_eq_true, Bool.and_eq_true, List.all_eq_true, @decide_eq_true_iff _ (Classical.propDecidable _)]
theorem okParts_no {l : List (List Row)} (h : ¬ (inB l.length 1 8 = true ∧ (∀ s ∈ l, segB s = true) ∧ (idsOf l).Nodup)) : okParts l = false := by
  rw [← Bool.not_eq_true, okParts_iff]; exact h
theorem okParts_seg {l : List (List Row)} {k : Nat} (hk : k < l.length) (h : segB l[k] = false) : okParts l = false :=
  okParts_no fun h' => by have := h'.2.1 _ (List.getElem_mem hk); rw [h] at this; cases this
theorem ids_app {a b_ : List (List Row)} : idsOf (a ++ b_) = idsOf a ++ idsOf b_ := by unfold idsOf; rw [List.flatten_append, List.map_append]
theorem ids_one {x : List Row} : idsOf [x] = x.map Row.Id := by unfold idsOf; rw [List.flatten_cons, List.flatten_nil, List.append_nil]
theorem ids_split {l : List (List Row)} {k : Nat} (hk : k < l.length) : idsOf l = idsOf (l.take k) ++ l[k].map Row.Id ++ idsOf (l.drop (k + 1)) := by
  rw [← ids_one, ← ids_app, ← ids_app, ← List.take_succ_eq_append_getElem hk, List.take_append_drop]
theorem row_split {l : List Row} {j : Nat} (hj : j < l.length) : l.map Row.Id = (l.take j).map Row.Id ++ [l[j].Id] ++ (l.drop (j + 1)).map Row.Id := by
  rw [show [l[j].Id] = [l[j]].map Row.Id from rfl, ← List.map_append, ← List.map_append, ← List.take_succ_eq_append_getElem hj, List.take_append_drop]
theorem idsOf_cut {l : List (List Row)} {k j : Nat} (hk : k < l.length) (hj : j < l[k].length) : ∃ t, idsOf l = (idsOf (l.take k) ++ (l[k].take j).map Row.Id) ++ [l[k][j].Id] ++ t := by
  refine ⟨(l[k].drop (j + 1)).map Row.Id ++ idsOf (l.drop (k + 1)), ?_⟩
  rw [ids_split hk, row_split hj]
  simp only [List.append_assoc]
theorem hasI_iff {l : List Int} {x : Int} : hasI l x = true ↔ x ∈ l := by simp [hasI]
theorem hasI_no {l : List Int} {x : Int} : hasI l x = false ↔ x ∉ l := by rw [← hasI_iff]; simp
theorem okParts_dup {l : List (List Row)} {k j : Nat} (hk : k < l.length) (hj : j < l[k].length) (h : hasI (idsOf (l.take k) ++ (l[k].take j).map Row.Id) l[k][j].Id = true) : okParts l = false :=
  okParts_no fun h' => by
    obtain ⟨t, ht⟩ := idsOf_cut hk hj
    have hn := h'.2.2
    rw [ht] at hn
    have := (List.nodup_append.1 (List.nodup_append.1 hn).1).2.2
    exact this _ (hasI_iff.1 h) _ (by simp) rfl
theorem nodup_snoc {l : List Int} {x : Int} (h : l.Nodup) (hx : hasI l x = false) : (l ++ [x]).Nodup := by
  rw [List.nodup_append]
  refine ⟨h, by simp, ?_⟩
  intro a ha b hb
  simp at hb; subst hb
  intro e; subst e
  exact hasI_no.1 hx ha
theorem ids_row {l : List (List Row)} {k j : Nat} (hk : k < l.length) (hj : j < l[k].length) : idsOf (l.take k) ++ (l[k].take (j + 1)).map Row.Id = (idsOf (l.take k) ++ (l[k].take j).map Row.Id) ++ [l[k][j].Id] := by
  rw [List.take_succ_eq_append_getElem hj, List.map_append, List.append_assoc]; rfl
theorem ids_seg {l : List (List Row)} {k : Nat} (hk : k < l.length) : idsOf (l.take (k + 1)) = idsOf (l.take k) ++ (l[k].take l[k].length).map Row.Id := by
  rw [List.take_succ_eq_append_getElem hk, List.take_length, ids_app, ids_one]
theorem ids_le {l : List (List Row)} : (idsOf l).length ≤ wtRowSS l := by
  unfold wtRowSS idsOf
  rw [List.length_map, List.length_flatten]
  have : (l.map List.length).sum ≤ (l.map wtRowS).sum := by
    induction l with
    | nil => simp
    | cons x l ih => simp only [List.map_cons, List.sum_cons]; unfold wtRowS at *; omega
  omega
theorem ids_le2 {l : List (List Row)} {k j : Nat} (hk : k < l.length) : (idsOf (l.take k) ++ (l[k].take j).map Row.Id).length ≤ wtRowSS l := by
  have h1 := ids_le (l := l)
  have e : idsOf l = idsOf (l.take k) ++ (l[k].take j).map Row.Id ++ ((l[k].drop j).map Row.Id ++ idsOf (l.drop (k + 1))) := by
    have e2 : l[k].map Row.Id = (l[k].take j).map Row.Id ++ (l[k].drop j).map Row.Id := by rw [← List.map_append, List.take_append_drop]
    rw [ids_split hk, e2]
    simp only [List.append_assoc]
  rw [e] at h1
  simp only [List.length_append] at h1 ⊢
  omega
def partAt (c : Cluster) (s : Int) : List Row := c.Parts.getD s.toNat []
def bufAt (c : Cluster) (n : Int) : List Row := c.Buffer.getD n.toNat []
def upAt (c : Cluster) (n : Int) : Bool := c.Up.getD n.toNat false
noncomputable def nodeB (c : Cluster) (n : Int) : Bool :=
  if atI c.At n = -1 then decide (atI c.Pos n = 0) && decide ((bufAt c n).length = 0)
  else inB (atI c.At n) 0 ((c.Parts.length : Int) - 1) && (upAt c n && (!hasI c.Done (atI c.At n) && ((decide (homeOf (atI c.At n) c.Up.length = n) || decide (backupOf (atI c.At n) c.Up.length = n)) &&
    (inB (atI c.Pos n) 0 ((partAt c (atI c.At n)).length : Int) && deq (bufAt c n) (found c.Query ((partAt c (atI c.At n)).take (atI c.Pos n).toNat))))))
def loneB (c : Cluster) (n : Int) : Bool := decide (atI c.At n = -1) || !hasI (c.At.take n.toNat) (atI c.At n)
noncomputable def nodeI (c : Cluster) (n : Int) : Bool := nodeB c n && loneB c n
theorem partAt_eq {c : Cluster} {s : Int} (h : s.toNat < c.Parts.length) : c.Parts[s.toNat] = partAt c s := gDt h
theorem bufAt_eq {c : Cluster} {s : Int} (h : s.toNat < c.Buffer.length) : c.Buffer[s.toNat] = bufAt c s := gDt h
theorem upAt_eq {c : Cluster} {s : Int} (h : s.toNat < c.Up.length) : c.Up[s.toNat] = upAt c s := gDt h
theorem atI_eq {l : List Int} {s : Int} (h : s.toNat < l.length) : l[s.toNat] = atI l s := gDt h
theorem part_wt {c : Cluster} {s : Int} (hb : wtRowSS c.Parts ≤ 68719476736) : wtRowS (partAt c s) ≤ 68719476736 := by
  unfold partAt
  by_cases h : s.toNat < c.Parts.length
  · have := wt_mem (f := wtRowS) h
    rw [← gDt h]; unfold wtRowSS at hb; omega
  · rw [List.getD_eq_getElem?_getD, List.getElem?_eq_none (by omega)]; simp [wtRowS]
theorem take_wt {l : List Row} {k : Nat} (hb : wtRowS l ≤ 68719476736) : wtRowS (l.take k) ≤ 68719476736 := by
  have := wt_take (f := wtRow) l k
  unfold wtRowS at *; omega
theorem found_end {q : Query} {l : List Row} {k : Nat} {n : Int} (h1 : k = 0 ∨ (k : Int) ≤ n) (h : n ≤ k ∨ k = l.length) : found q (l.take k) = found q (l.take n.toNat) := by
  rcases h with h | h
  · rw [show n.toNat = k by omega]
  · subst h
    rw [List.take_length, List.take_of_length_le (by omega)]
end Go.Proofs.YtmkhofdkdklpdaaGreat
