/- The types, as they are read. No condition. -/
import Derived.Test.YtcfbekjiiokcbaaCJ
import Derived.Test.YtcfbekjiiokcbaaCR
set_option linter.unusedVariables false
set_option linter.unusedSimpArgs false
namespace Go.Proofs.Ytcfbekjiiokcbaa
open Go Go.RowKit M
set_option maxRecDepth 10000

section
variable {α : Type} {P : α → Bool} {xs ys : List α} {k : Nat}
theorem all_zero : (xs.take 0).all P = true := by simp
theorem all_succ (h : (xs.take k).all P = true) (hk : k < xs.length) (hp : P xs[k] = true) : (xs.take (k + 1)).all P = true := by
  rw [List.take_succ_eq_append_getElem hk, List.all_append, h]; simp [hp]
theorem all_no (hk : k < xs.length) (hp : P xs[k] = false) : xs.all P = false := by
  rw [List.all_eq_false]; exact ⟨_, List.getElem_mem hk, by rw [hp]; simp⟩
theorem all_end (h : (xs.take xs.length).all P = true) : xs.all P = true := by rwa [List.take_length] at h
theorem any_succ (h : (xs.take k).any P = false) (hk : k < xs.length) (hp : P xs[k] = false) : (xs.take (k + 1)).any P = false := by
  rw [List.take_succ_eq_append_getElem hk, List.any_append, h]; simp [hp]
theorem any_yes (hk : k < xs.length) (hp : P xs[k] = true) : xs.any P = true := by
  rw [List.any_eq_true]; exact ⟨_, List.getElem_mem hk, hp⟩
theorem any_end (h : (xs.take xs.length).any P = false) : xs.any P = false := by rwa [List.take_length] at h
theorem eq_succ (h : xs.take k = ys.take k) (hk : k < xs.length) (hk' : k < ys.length) (he : xs[k] = ys[k]) : xs.take (k + 1) = ys.take (k + 1) := by
  rw [List.take_succ_eq_append_getElem hk, List.take_succ_eq_append_getElem hk', h, he]
theorem eq_no (hk : k < xs.length) (hk' : k < ys.length) (he : ¬ xs[k] = ys[k]) : ¬ xs = ys := by
  rintro rfl; exact he rfl
theorem eq_end (hl : xs.length = ys.length) (h : xs.take xs.length = ys.take xs.length) : xs = ys := by
  rw [List.take_length] at h; rw [h, hl, List.take_length]
theorem wtk {f : α → Nat} (hk : k < xs.length) : ((xs.take (k + 1)).map f).sum = ((xs.take k).map f).sum + f xs[k] := by
  rw [List.take_succ_eq_append_getElem hk, List.map_append, List.sum_append]; simp
theorem wtk_le {f : α → Nat} (xs : List α) (k : Nat) : ((xs.take k).map f).sum ≤ (xs.map f).sum := by
  have h : xs = xs.take k ++ xs.drop k := (List.take_append_drop _ _).symm
  have e : (xs.map f).sum = ((xs.take k).map f).sum + ((xs.drop k).map f).sum := by
    rw [← List.sum_append, ← List.map_append, ← h]
  omega
theorem wt_mem {f : α → Nat} (hk : k < xs.length) : f xs[k] ≤ (xs.map f).sum := by
  have h1 := wtk (f := f) hk
  have h2 := wtk_le (f := f) xs (k + 1)
  omega
noncomputable def deq (x y : α) : Bool := @decide (x = y) (Classical.propDecidable _)
theorem deq_true {x y : α} (h : x = y) : deq x y = true := @decide_eq_true _ (Classical.propDecidable _) h
theorem deq_false {x y : α} (h : ¬ x = y) : deq x y = false := @decide_eq_false _ (Classical.propDecidable _) h
theorem deq_iff {x y : α} : deq x y = true ↔ x = y := @decide_eq_true_iff _ (Classical.propDecidable _)
theorem deq_self (x : α) : deq x x = true := deq_true rfl
end
def szR (l n : Int) : Int := if n ≤ l then l - n else -1
theorem szR_yes {l n : Int} (h : n ≤ l) : szR l n = l - n := if_pos h
theorem szR_no {l n : Int} (h : l < n) : szR l n = -1 := if_neg (by omega)
theorem szR_neg {l w : Int} (_h0 : 0 ≤ l) (h : szR l w < 0) : l < w := by unfold szR at h; split at h <;> omega
theorem szR_pos {l w : Int} (h : ¬ szR l w < 0) : w ≤ l := by unfold szR at h; split at h <;> omega
theorem us_1 {us : List Value} (h : us.length = 1) : ∃ v0, us = [v0] := by
  rcases us with _ | ⟨v0, _ | ⟨v1, vs⟩⟩ <;> first | exact ⟨_, rfl⟩ | (simp at h; try omega)
theorem us_2 {us : List Value} (h : us.length = 2) : ∃ v0 v1, us = [v0, v1] := by
  rcases us with _ | ⟨v0, _ | ⟨v1, _ | ⟨v2, vs⟩⟩⟩ <;> first | exact ⟨_, _, rfl⟩ | (simp at h; try omega)
theorem us_3 {us : List Value} (h : us.length = 3) : ∃ v0 v1 v2, us = [v0, v1, v2] := by
  rcases us with _ | ⟨v0, _ | ⟨v1, _ | ⟨v2, _ | ⟨v3, vs⟩⟩⟩⟩ <;> first | exact ⟨_, _, _, rfl⟩ | (simp at h; try omega)
theorem us_4 {us : List Value} (h : us.length = 4) : ∃ v0 v1 v2 v3, us = [v0, v1, v2, v3] := by
  rcases us with _ | ⟨v0, _ | ⟨v1, _ | ⟨v2, _ | ⟨v3, _ | ⟨v4, vs⟩⟩⟩⟩⟩ <;> first | exact ⟨_, _, _, _, rfl⟩ | (simp at h; try omega)
theorem us_11 {us : List Value} (h : us.length = 11) : ∃ v0 v1 v2 v3 v4 v5 v6 v7 v8 v9 v10, us = [v0, v1, v2, v3, v4, v5, v6, v7, v8, v9, v10] := by
  rcases us with _ | ⟨v0, _ | ⟨v1, _ | ⟨v2, _ | ⟨v3, _ | ⟨v4, _ | ⟨v5, _ | ⟨v6, _ | ⟨v7, _ | ⟨v8, _ | ⟨v9, _ | ⟨v10, _ | ⟨v11, vs⟩⟩⟩⟩⟩⟩⟩⟩⟩⟩⟩⟩ <;> first | exact ⟨_, _, _, _, _, _, _, _, _, _, _, rfl⟩ | (simp at h; try omega)
def cInt (x : Int) : List PV := [PV.val (vI x)]
def gdInt (x : Int) : Prop := I64 x
def wtInt (_x : Int) : Nat := 0
structure Cond where
  Field : Int
  Low : Int
  High : Int
def cCond (x : Cond) : List PV := [PV.val (vI x.Field), PV.val (vI x.Low), PV.val (vI x.High)]
def gdCond (x : Cond) : Prop := gdInt x.Field ∧ gdInt x.Low ∧ gdInt x.High
def wtCond (x : Cond) : Nat := wtInt x.Field + wtInt x.Low + wtInt x.High
theorem ext_Cond {x y : Cond} (h0 : x.Field = y.Field) (h1 : x.Low = y.Low) (h2 : x.High = y.High) : x = y := by cases x; cases y; simp_all
def cBool (x : Bool) : List PV := [PV.val (.bool x)]
def gdBool (_x : Bool) : Prop := True
def wtBool (_x : Bool) : Nat := 0
def cBoolS (o0 : Fl) (x : List Bool) : List PV := [PV.sl o0 (x.map cBool)]
def gdBoolS (x : List Bool) : Prop := ∀ y ∈ x, gdBool y
def wtBoolS (x : List Bool) : Nat := x.length + (x.map wtBool).sum
def cIntS (o0 : Fl) (x : List Int) : List PV := [PV.sl o0 (x.map cInt)]
def gdIntS (x : List Int) : Prop := ∀ y ∈ x, gdInt y
def wtIntS (x : List Int) : Nat := x.length + (x.map wtInt).sum
def cCondS (o0 : Fl) (x : List Cond) : List PV := [PV.sl o0 (x.map cCond)]
def gdCondS (x : List Cond) : Prop := ∀ y ∈ x, gdCond y
def wtCondS (x : List Cond) : Nat := x.length + (x.map wtCond).sum
structure Row where
  Id : Int
  Values : List Int
def cRow (o0 : Fl) (x : Row) : List PV := [PV.val (vI x.Id), PV.sl o0 (x.Values.map cInt)]
def gdRow (x : Row) : Prop := gdInt x.Id ∧ gdIntS x.Values
def wtRow (x : Row) : Nat := wtInt x.Id + wtIntS x.Values
theorem ext_Row {x y : Row} (h0 : x.Id = y.Id) (h1 : x.Values = y.Values) : x = y := by cases x; cases y; simp_all
structure Update where
  Kind : Int
  Row : Row
  Field : Int
  Value : Int
def cUpdate (o0 : Fl) (x : Update) : List PV := [PV.val (vI x.Kind), PV.val (vI x.Row.Id), PV.sl o0 (x.Row.Values.map cInt), PV.val (vI x.Field), PV.val (vI x.Value)]
def gdUpdate (x : Update) : Prop := gdInt x.Kind ∧ gdRow x.Row ∧ gdInt x.Field ∧ gdInt x.Value
def wtUpdate (x : Update) : Nat := wtInt x.Kind + wtRow x.Row + wtInt x.Field + wtInt x.Value
theorem ext_Update {x y : Update} (h0 : x.Kind = y.Kind) (h1 : x.Row = y.Row) (h2 : x.Field = y.Field) (h3 : x.Value = y.Value) : x = y := by cases x; cases y; simp_all
def cRowS (o0 o1 : Fl) (x : List Row) : List PV := [PV.sl o0 (x.map (cRow o1))]
def gdRowS (x : List Row) : Prop := ∀ y ∈ x, gdRow y
def wtRowS (x : List Row) : Nat := x.length + (x.map wtRow).sum
structure Annotated where
  Row : Row
  Set : List Int
def cAnnotated (o0 o1 : Fl) (x : Annotated) : List PV := [PV.val (vI x.Row.Id), PV.sl o0 (x.Row.Values.map cInt), PV.sl o1 (x.Set.map cInt)]
def gdAnnotated (x : Annotated) : Prop := gdRow x.Row ∧ gdIntS x.Set
def wtAnnotated (x : Annotated) : Nat := wtRow x.Row + wtIntS x.Set
theorem ext_Annotated {x y : Annotated} (h0 : x.Row = y.Row) (h1 : x.Set = y.Set) : x = y := by cases x; cases y; simp_all
structure Query where
  Id : Int
  Tenant : Int
  Conds : List Cond
  Out : List Int
def cQuery (o0 o1 : Fl) (x : Query) : List PV := [PV.val (vI x.Id), PV.val (vI x.Tenant), PV.sl o0 (x.Conds.map cCond), PV.sl o1 (x.Out.map cInt)]
def gdQuery (x : Query) : Prop := gdInt x.Id ∧ gdInt x.Tenant ∧ gdCondS x.Conds ∧ gdIntS x.Out
def wtQuery (x : Query) : Nat := wtInt x.Id + wtInt x.Tenant + wtCondS x.Conds + wtIntS x.Out
theorem ext_Query {x y : Query} (h0 : x.Id = y.Id) (h1 : x.Tenant = y.Tenant) (h2 : x.Conds = y.Conds) (h3 : x.Out = y.Out) : x = y := by cases x; cases y; simp_all
def cAnnotatedS (o0 o1 o2 : Fl) (x : List Annotated) : List PV := [PV.sl o0 (x.map (cAnnotated o1 o2))]
def gdAnnotatedS (x : List Annotated) : Prop := ∀ y ∈ x, gdAnnotated y
def wtAnnotatedS (x : List Annotated) : Nat := x.length + (x.map wtAnnotated).sum
structure Event where
  Kind : Int
  Query : Query
  Limit : Int
  Id : Int
  Update : Update
  Steps : Int
def cEvent (o0 o1 o2 : Fl) (x : Event) : List PV := [PV.val (vI x.Kind), PV.val (vI x.Query.Id), PV.val (vI x.Query.Tenant), PV.sl o0 (x.Query.Conds.map cCond), PV.sl o1 (x.Query.Out.map cInt), PV.val (vI x.Limit), PV.val (vI x.Id), PV.val (vI x.Update.Kind), PV.val (vI x.Update.Row.Id), PV.sl o2 (x.Update.Row.Values.map cInt), PV.val (vI x.Update.Field), PV.val (vI x.Update.Value), PV.val (vI x.Steps)]
def gdEvent (x : Event) : Prop := gdInt x.Kind ∧ gdQuery x.Query ∧ gdInt x.Limit ∧ gdInt x.Id ∧ gdUpdate x.Update ∧ gdInt x.Steps
def wtEvent (x : Event) : Nat := wtInt x.Kind + wtQuery x.Query + wtInt x.Limit + wtInt x.Id + wtUpdate x.Update + wtInt x.Steps
theorem ext_Event {x y : Event} (h0 : x.Kind = y.Kind) (h1 : x.Query = y.Query) (h2 : x.Limit = y.Limit) (h3 : x.Id = y.Id) (h4 : x.Update = y.Update) (h5 : x.Steps = y.Steps) : x = y := by cases x; cases y; simp_all
def cRowSS (o0 o1 o2 : Fl) (x : List (List Row)) : List PV := [PV.sl o0 (x.map (cRowS o1 o2))]
def gdRowSS (x : List (List Row)) : Prop := ∀ y ∈ x, gdRowS y
def wtRowSS (x : List (List Row)) : Nat := x.length + (x.map wtRowS).sum
structure Cluster where
  Query : Query
  Parts : List (List Row)
  Up : List Bool
  At : List Int
  Pos : List Int
  Buffer : List (List Row)
  Done : List Int
  Rows : List (List Row)
def cCluster (o0 o1 o2 o3 o4 o5 o6 o7 o8 o9 o10 o11 o12 o13 o14 : Fl) (x : Cluster) : List PV := [PV.val (vI x.Query.Id), PV.val (vI x.Query.Tenant), PV.sl o0 (x.Query.Conds.map cCond), PV.sl o1 (x.Query.Out.map cInt), PV.sl o2 (x.Parts.map (cRowS o3 o4)), PV.sl o5 (x.Up.map cBool), PV.sl o6 (x.At.map cInt), PV.sl o7 (x.Pos.map cInt), PV.sl o8 (x.Buffer.map (cRowS o9 o10)), PV.sl o11 (x.Done.map cInt), PV.sl o12 (x.Rows.map (cRowS o13 o14))]
def gdCluster (x : Cluster) : Prop := gdQuery x.Query ∧ gdRowSS x.Parts ∧ gdBoolS x.Up ∧ gdIntS x.At ∧ gdIntS x.Pos ∧ gdRowSS x.Buffer ∧ gdIntS x.Done ∧ gdRowSS x.Rows
def wtCluster (x : Cluster) : Nat := wtQuery x.Query + wtRowSS x.Parts + wtBoolS x.Up + wtIntS x.At + wtIntS x.Pos + wtRowSS x.Buffer + wtIntS x.Done + wtRowSS x.Rows
theorem ext_Cluster {x y : Cluster} (h0 : x.Query = y.Query) (h1 : x.Parts = y.Parts) (h2 : x.Up = y.Up) (h3 : x.At = y.At) (h4 : x.Pos = y.Pos) (h5 : x.Buffer = y.Buffer) (h6 : x.Done = y.Done) (h7 : x.Rows = y.Rows) : x = y := by cases x; cases y; simp_all
structure Routed where
  Id : Int
  Rows : List Row
def cRouted (o0 o1 : Fl) (x : Routed) : List PV := [PV.val (vI x.Id), PV.sl o0 (x.Rows.map (cRow o1))]
def gdRouted (x : Routed) : Prop := gdInt x.Id ∧ gdRowS x.Rows
def wtRouted (x : Routed) : Nat := wtInt x.Id + wtRowS x.Rows
theorem ext_Routed {x y : Routed} (h0 : x.Id = y.Id) (h1 : x.Rows = y.Rows) : x = y := by cases x; cases y; simp_all
structure Outbox where
  Rows : List Row
  Acked : Int
  Tries : Int
def cOutbox (o0 o1 : Fl) (x : Outbox) : List PV := [PV.sl o0 (x.Rows.map (cRow o1)), PV.val (vI x.Acked), PV.val (vI x.Tries)]
def gdOutbox (x : Outbox) : Prop := gdRowS x.Rows ∧ gdInt x.Acked ∧ gdInt x.Tries
def wtOutbox (x : Outbox) : Nat := wtRowS x.Rows + wtInt x.Acked + wtInt x.Tries
theorem ext_Outbox {x y : Outbox} (h0 : x.Rows = y.Rows) (h1 : x.Acked = y.Acked) (h2 : x.Tries = y.Tries) : x = y := by cases x; cases y; simp_all
structure Client where
  Next : Int
  Rows : List Row
def cClient (o0 o1 : Fl) (x : Client) : List PV := [PV.val (vI x.Next), PV.sl o0 (x.Rows.map (cRow o1))]
def gdClient (x : Client) : Prop := gdInt x.Next ∧ gdRowS x.Rows
def wtClient (x : Client) : Nat := wtInt x.Next + wtRowS x.Rows
theorem ext_Client {x y : Client} (h0 : x.Next = y.Next) (h1 : x.Rows = y.Rows) : x = y := by cases x; cases y; simp_all
def cRoutedS (o0 o1 o2 : Fl) (x : List Routed) : List PV := [PV.sl o0 (x.map (cRouted o1 o2))]
def gdRoutedS (x : List Routed) : Prop := ∀ y ∈ x, gdRouted y
def wtRoutedS (x : List Routed) : Nat := x.length + (x.map wtRouted).sum
def cQueryS (o0 o1 o2 : Fl) (x : List Query) : List PV := [PV.sl o0 (x.map (cQuery o1 o2))]
def gdQueryS (x : List Query) : Prop := ∀ y ∈ x, gdQuery y
def wtQueryS (x : List Query) : Nat := x.length + (x.map wtQuery).sum
structure Span where
  From : Int
  To : Int
  Set : List Int
def cSpan (o0 : Fl) (x : Span) : List PV := [PV.val (vI x.From), PV.val (vI x.To), PV.sl o0 (x.Set.map cInt)]
def gdSpan (x : Span) : Prop := gdInt x.From ∧ gdInt x.To ∧ gdIntS x.Set
def wtSpan (x : Span) : Nat := wtInt x.From + wtInt x.To + wtIntS x.Set
theorem ext_Span {x y : Span} (h0 : x.From = y.From) (h1 : x.To = y.To) (h2 : x.Set = y.Set) : x = y := by cases x; cases y; simp_all
def cSpanS (o0 o1 : Fl) (x : List Span) : List PV := [PV.sl o0 (x.map (cSpan o1))]
def gdSpanS (x : List Span) : Prop := ∀ y ∈ x, gdSpan y
def wtSpanS (x : List Span) : Nat := x.length + (x.map wtSpan).sum
def cSpanSS (o0 o1 o2 : Fl) (x : List (List Span)) : List PV := [PV.sl o0 (x.map (cSpanS o1 o2))]
def gdSpanSS (x : List (List Span)) : Prop := ∀ y ∈ x, gdSpanS y
def wtSpanSS (x : List (List Span)) : Nat := x.length + (x.map wtSpanS).sum
structure Index where
  Queries : List Query
  Fields : List (List Span)
def cIndex (o0 o1 o2 o3 o4 o5 : Fl) (x : Index) : List PV := [PV.sl o0 (x.Queries.map (cQuery o1 o2)), PV.sl o3 (x.Fields.map (cSpanS o4 o5))]
def gdIndex (x : Index) : Prop := gdQueryS x.Queries ∧ gdSpanSS x.Fields
def wtIndex (x : Index) : Nat := wtQueryS x.Queries + wtSpanSS x.Fields
theorem ext_Index {x y : Index} (h0 : x.Queries = y.Queries) (h1 : x.Fields = y.Fields) : x = y := by cases x; cases y; simp_all
structure Joined where
  Left : Int
  Right : Int
  Set : List Int
def cJoined (o0 : Fl) (x : Joined) : List PV := [PV.val (vI x.Left), PV.val (vI x.Right), PV.sl o0 (x.Set.map cInt)]
def gdJoined (x : Joined) : Prop := gdInt x.Left ∧ gdInt x.Right ∧ gdIntS x.Set
def wtJoined (x : Joined) : Nat := wtInt x.Left + wtInt x.Right + wtIntS x.Set
theorem ext_Joined {x y : Joined} (h0 : x.Left = y.Left) (h1 : x.Right = y.Right) (h2 : x.Set = y.Set) : x = y := by cases x; cases y; simp_all
def cJoinedS (o0 o1 : Fl) (x : List Joined) : List PV := [PV.sl o0 (x.map (cJoined o1))]
def gdJoinedS (x : List Joined) : Prop := ∀ y ∈ x, gdJoined y
def wtJoinedS (x : List Joined) : Nat := x.length + (x.map wtJoined).sum
def mkE_Int (x : Int) (k : Int) : Int × Int := (k, (k + 1))
theorem mkE_Int_le (x : Int) (k : Int) : k ≤ (mkE_Int x k).2 := by
  show k ≤ (k + 1)
  omega
def mkE_Bool (x : Bool) (k : Int) : Bool × Int := ((decide ((k).tmod 3 = 0)), (k + 1))
theorem mkE_Bool_le (x : Bool) (k : Int) : k ≤ (mkE_Bool x k).2 := by
  show k ≤ (k + 1)
  omega
def mkE_Cond (x : Cond) (k : Int) : Cond × Int := (⟨k, (k + 1), ((k + 1) + 1)⟩, (((k + 1) + 1) + 1))
theorem mkE_Cond_le (x : Cond) (k : Int) : k ≤ (mkE_Cond x k).2 := by
  show k ≤ (((k + 1) + 1) + 1)
  omega
def mkE_Row (x : Row) (k : Int) : Row × Int := (⟨k, (mkL mkE_Int x.Values (k + 1)).1⟩, (mkL mkE_Int x.Values (k + 1)).2)
theorem mkE_Row_le (x : Row) (k : Int) : k ≤ (mkE_Row x k).2 := by
  show k ≤ (mkL mkE_Int x.Values (k + 1)).2
  have h0 := mkL_le mkE_Int_le x.Values (k + 1)
  omega
def mkV_Query (x : Query) (k : Int) : Query × Int := (⟨x.Id, x.Tenant, (mkL mkE_Cond x.Conds k).1, (mkL mkE_Int x.Out (mkL mkE_Cond x.Conds k).2).1⟩, (mkL mkE_Int x.Out (mkL mkE_Cond x.Conds k).2).2)
theorem mkV_Query_le (x : Query) (k : Int) : k ≤ (mkV_Query x k).2 := by
  show k ≤ (mkL mkE_Int x.Out (mkL mkE_Cond x.Conds k).2).2
  have h0 := mkL_le mkE_Cond_le x.Conds k
  have h1 := mkL_le mkE_Int_le x.Out (mkL mkE_Cond x.Conds k).2
  omega
def mkV_Outbox (x : Outbox) (k : Int) : Outbox × Int := (⟨(mkL mkE_Row x.Rows k).1, x.Acked, x.Tries⟩, (mkL mkE_Row x.Rows k).2)
theorem mkV_Outbox_le (x : Outbox) (k : Int) : k ≤ (mkV_Outbox x k).2 := by
  show k ≤ (mkL mkE_Row x.Rows k).2
  have h0 := mkL_le mkE_Row_le x.Rows k
  omega
def mkV_Client (x : Client) (k : Int) : Client × Int := (⟨x.Next, (mkL mkE_Row x.Rows k).1⟩, (mkL mkE_Row x.Rows k).2)
theorem mkV_Client_le (x : Client) (k : Int) : k ≤ (mkV_Client x k).2 := by
  show k ≤ (mkL mkE_Row x.Rows k).2
  have h0 := mkL_le mkE_Row_le x.Rows k
  omega
def mkE_Annotated (x : Annotated) (k : Int) : Annotated × Int := (⟨⟨k, (mkL mkE_Int x.Row.Values (k + 1)).1⟩, (mkL mkE_Int x.Set (mkL mkE_Int x.Row.Values (k + 1)).2).1⟩, (mkL mkE_Int x.Set (mkL mkE_Int x.Row.Values (k + 1)).2).2)
theorem mkE_Annotated_le (x : Annotated) (k : Int) : k ≤ (mkE_Annotated x k).2 := by
  show k ≤ (mkL mkE_Int x.Set (mkL mkE_Int x.Row.Values (k + 1)).2).2
  have h0 := mkL_le mkE_Int_le x.Row.Values (k + 1)
  have h1 := mkL_le mkE_Int_le x.Set (mkL mkE_Int x.Row.Values (k + 1)).2
  omega
def mkE_RowS (x : List Row) (k : Int) : (List Row) × Int := ((mkL mkE_Row x k).1, (mkL mkE_Row x k).2)
theorem mkE_RowS_le (x : List Row) (k : Int) : k ≤ (mkE_RowS x k).2 := by
  show k ≤ (mkL mkE_Row x k).2
  have h0 := mkL_le mkE_Row_le x k
  omega
def mkE_Routed (x : Routed) (k : Int) : Routed × Int := (⟨k, (mkL mkE_Row x.Rows (k + 1)).1⟩, (mkL mkE_Row x.Rows (k + 1)).2)
theorem mkE_Routed_le (x : Routed) (k : Int) : k ≤ (mkE_Routed x k).2 := by
  show k ≤ (mkL mkE_Row x.Rows (k + 1)).2
  have h0 := mkL_le mkE_Row_le x.Rows (k + 1)
  omega
def mkV_Cluster (x : Cluster) (k : Int) : Cluster × Int := (⟨⟨x.Query.Id, x.Query.Tenant, (mkL mkE_Cond x.Query.Conds k).1, (mkL mkE_Int x.Query.Out (mkL mkE_Cond x.Query.Conds k).2).1⟩, (mkL mkE_RowS x.Parts (mkL mkE_Int x.Query.Out (mkL mkE_Cond x.Query.Conds k).2).2).1, (mkL mkE_Bool x.Up (mkL mkE_RowS x.Parts (mkL mkE_Int x.Query.Out (mkL mkE_Cond x.Query.Conds k).2).2).2).1, (mkL mkE_Int x.At (mkL mkE_Bool x.Up (mkL mkE_RowS x.Parts (mkL mkE_Int x.Query.Out (mkL mkE_Cond x.Query.Conds k).2).2).2).2).1, (mkL mkE_Int x.Pos (mkL mkE_Int x.At (mkL mkE_Bool x.Up (mkL mkE_RowS x.Parts (mkL mkE_Int x.Query.Out (mkL mkE_Cond x.Query.Conds k).2).2).2).2).2).1, (mkL mkE_RowS x.Buffer (mkL mkE_Int x.Pos (mkL mkE_Int x.At (mkL mkE_Bool x.Up (mkL mkE_RowS x.Parts (mkL mkE_Int x.Query.Out (mkL mkE_Cond x.Query.Conds k).2).2).2).2).2).2).1, (mkL mkE_Int x.Done (mkL mkE_RowS x.Buffer (mkL mkE_Int x.Pos (mkL mkE_Int x.At (mkL mkE_Bool x.Up (mkL mkE_RowS x.Parts (mkL mkE_Int x.Query.Out (mkL mkE_Cond x.Query.Conds k).2).2).2).2).2).2).2).1, (mkL mkE_RowS x.Rows (mkL mkE_Int x.Done (mkL mkE_RowS x.Buffer (mkL mkE_Int x.Pos (mkL mkE_Int x.At (mkL mkE_Bool x.Up (mkL mkE_RowS x.Parts (mkL mkE_Int x.Query.Out (mkL mkE_Cond x.Query.Conds k).2).2).2).2).2).2).2).2).1⟩, (mkL mkE_RowS x.Rows (mkL mkE_Int x.Done (mkL mkE_RowS x.Buffer (mkL mkE_Int x.Pos (mkL mkE_Int x.At (mkL mkE_Bool x.Up (mkL mkE_RowS x.Parts (mkL mkE_Int x.Query.Out (mkL mkE_Cond x.Query.Conds k).2).2).2).2).2).2).2).2).2)
theorem mkV_Cluster_le (x : Cluster) (k : Int) : k ≤ (mkV_Cluster x k).2 := by
  show k ≤ (mkL mkE_RowS x.Rows (mkL mkE_Int x.Done (mkL mkE_RowS x.Buffer (mkL mkE_Int x.Pos (mkL mkE_Int x.At (mkL mkE_Bool x.Up (mkL mkE_RowS x.Parts (mkL mkE_Int x.Query.Out (mkL mkE_Cond x.Query.Conds k).2).2).2).2).2).2).2).2).2
  have h0 := mkL_le mkE_Cond_le x.Query.Conds k
  have h1 := mkL_le mkE_Int_le x.Query.Out (mkL mkE_Cond x.Query.Conds k).2
  have h2 := mkL_le mkE_RowS_le x.Parts (mkL mkE_Int x.Query.Out (mkL mkE_Cond x.Query.Conds k).2).2
  have h3 := mkL_le mkE_Bool_le x.Up (mkL mkE_RowS x.Parts (mkL mkE_Int x.Query.Out (mkL mkE_Cond x.Query.Conds k).2).2).2
  have h4 := mkL_le mkE_Int_le x.At (mkL mkE_Bool x.Up (mkL mkE_RowS x.Parts (mkL mkE_Int x.Query.Out (mkL mkE_Cond x.Query.Conds k).2).2).2).2
  have h5 := mkL_le mkE_Int_le x.Pos (mkL mkE_Int x.At (mkL mkE_Bool x.Up (mkL mkE_RowS x.Parts (mkL mkE_Int x.Query.Out (mkL mkE_Cond x.Query.Conds k).2).2).2).2).2
  have h6 := mkL_le mkE_RowS_le x.Buffer (mkL mkE_Int x.Pos (mkL mkE_Int x.At (mkL mkE_Bool x.Up (mkL mkE_RowS x.Parts (mkL mkE_Int x.Query.Out (mkL mkE_Cond x.Query.Conds k).2).2).2).2).2).2
  have h7 := mkL_le mkE_Int_le x.Done (mkL mkE_RowS x.Buffer (mkL mkE_Int x.Pos (mkL mkE_Int x.At (mkL mkE_Bool x.Up (mkL mkE_RowS x.Parts (mkL mkE_Int x.Query.Out (mkL mkE_Cond x.Query.Conds k).2).2).2).2).2).2).2
  have h8 := mkL_le mkE_RowS_le x.Rows (mkL mkE_Int x.Done (mkL mkE_RowS x.Buffer (mkL mkE_Int x.Pos (mkL mkE_Int x.At (mkL mkE_Bool x.Up (mkL mkE_RowS x.Parts (mkL mkE_Int x.Query.Out (mkL mkE_Cond x.Query.Conds k).2).2).2).2).2).2).2).2
  omega
theorem ctE_Int (x : Int) (k : Int) : (mkE_Int x k).2 ≤ k + 1 + 0 * (wtInt x : Int) := by simp [mkE_Int]
theorem ctL_IntS (x : List Int) (k : Int) : (mkL mkE_Int x k).2 ≤ k + 1 * (wtIntS x : Int) := ctL (s := 1) (c := 0) ctE_Int (by decide) (by decide) x k
theorem ctE_Cond (x : Cond) (k : Int) : (mkE_Cond x k).2 ≤ k + 3 + 0 * (wtCond x : Int) := by
  show (((k + 1) + 1) + 1) ≤ _
  simp only [wtCond, wtInt, Int.natCast_add, Int.natCast_zero]
  omega
theorem ctL_CondS (x : List Cond) (k : Int) : (mkL mkE_Cond x k).2 ≤ k + 3 * (wtCondS x : Int) := ctL (s := 3) (c := 0) ctE_Cond (by decide) (by decide) x k
theorem ctE_Row (x : Row) (k : Int) : (mkE_Row x k).2 ≤ k + 1 + 1 * (wtRow x : Int) := by
  show (mkL mkE_Int x.Values (k + 1)).2 ≤ _
  have h0 := ctL_IntS x.Values (k + 1)
  simp only [wtInt, wtRow, Int.natCast_add, Int.natCast_zero]
  omega
theorem ctL_RowS (x : List Row) (k : Int) : (mkL mkE_Row x k).2 ≤ k + 1 * (wtRowS x : Int) := ctL (s := 1) (c := 1) ctE_Row (by decide) (by decide) x k
theorem ctV_Query (x : Query) (k : Int) : (mkV_Query x k).2 ≤ k + 0 + 3 * (wtQuery x : Int) := by
  show (mkL mkE_Int x.Out (mkL mkE_Cond x.Conds k).2).2 ≤ _
  have h0 := ctL_CondS x.Conds k
  have h1 := ctL_IntS x.Out (mkL mkE_Cond x.Conds k).2
  simp only [wtInt, wtQuery, Int.natCast_add, Int.natCast_zero]
  omega
theorem ctV_Outbox (x : Outbox) (k : Int) : (mkV_Outbox x k).2 ≤ k + 0 + 1 * (wtOutbox x : Int) := by
  show (mkL mkE_Row x.Rows k).2 ≤ _
  have h0 := ctL_RowS x.Rows k
  simp only [wtInt, wtOutbox, Int.natCast_add, Int.natCast_zero]
  omega
theorem ctV_Client (x : Client) (k : Int) : (mkV_Client x k).2 ≤ k + 0 + 1 * (wtClient x : Int) := by
  show (mkL mkE_Row x.Rows k).2 ≤ _
  have h0 := ctL_RowS x.Rows k
  simp only [wtClient, wtInt, Int.natCast_add, Int.natCast_zero]
  omega
theorem ctE_Annotated (x : Annotated) (k : Int) : (mkE_Annotated x k).2 ≤ k + 1 + 1 * (wtAnnotated x : Int) := by
  show (mkL mkE_Int x.Set (mkL mkE_Int x.Row.Values (k + 1)).2).2 ≤ _
  have h0 := ctL_IntS x.Row.Values (k + 1)
  have h1 := ctL_IntS x.Set (mkL mkE_Int x.Row.Values (k + 1)).2
  simp only [wtAnnotated, wtInt, wtRow, Int.natCast_add, Int.natCast_zero]
  omega
theorem ctL_AnnotatedS (x : List Annotated) (k : Int) : (mkL mkE_Annotated x k).2 ≤ k + 1 * (wtAnnotatedS x : Int) := ctL (s := 1) (c := 1) ctE_Annotated (by decide) (by decide) x k
theorem ctE_RowS (x : List Row) (k : Int) : (mkE_RowS x k).2 ≤ k + 0 + 1 * (wtRowS x : Int) := by
  have h := ctL_RowS x k
  show (mkL mkE_Row x k).2 ≤ _
  omega
theorem ctL_RowSS (x : List (List Row)) (k : Int) : (mkL mkE_RowS x k).2 ≤ k + 1 * (wtRowSS x : Int) := ctL (s := 0) (c := 1) ctE_RowS (by decide) (by decide) x k
theorem ctE_Routed (x : Routed) (k : Int) : (mkE_Routed x k).2 ≤ k + 1 + 1 * (wtRouted x : Int) := by
  show (mkL mkE_Row x.Rows (k + 1)).2 ≤ _
  have h0 := ctL_RowS x.Rows (k + 1)
  simp only [wtInt, wtRouted, Int.natCast_add, Int.natCast_zero]
  omega
theorem ctL_RoutedS (x : List Routed) (k : Int) : (mkL mkE_Routed x k).2 ≤ k + 1 * (wtRoutedS x : Int) := ctL (s := 1) (c := 1) ctE_Routed (by decide) (by decide) x k
theorem fm_succ {α β : Type} {xs : List α} {g : α → List β} {k : Nat} (hk : k < xs.length) : (xs.take (k + 1)).flatMap g = (xs.take k).flatMap g ++ g xs[k] := by
  rw [List.take_succ_eq_append_getElem hk, List.flatMap_append]; simp
theorem fm_le {α β : Type} {xs : List α} {g : α → List β} (h : ∀ x, (g x).length ≤ 1) : (xs.flatMap g).length ≤ xs.length := by
  induction xs with
  | nil => simp
  | cons x xs ih => have := h x; simp only [List.flatMap_cons, List.length_append, List.length_cons]; omega
theorem fm_lek {α β : Type} {xs : List α} {g : α → List β} (h : ∀ x, (g x).length ≤ 1) (k : Nat) : ((xs.take k).flatMap g).length ≤ k := by
  have h1 := fm_le (xs := xs.take k) h
  rw [List.length_take] at h1
  omega
theorem tk_succ {α : Type} {xs : List α} {k : Nat} (hk : k < xs.length) : xs.take (k + 1) = xs.take k ++ [xs[k]] := List.take_succ_eq_append_getElem hk
theorem wt_drop {α : Type} {f : α → Nat} (xs : List α) (n : Nat) : (xs.drop n).length + ((xs.drop n).map f).sum ≤ xs.length + (xs.map f).sum := by
  have e : (xs.map f).sum = ((xs.take n).map f).sum + ((xs.drop n).map f).sum := by
    rw [← List.sum_append, ← List.map_append, List.take_append_drop]
  rw [List.length_drop]; omega
theorem wt_take {α : Type} {f : α → Nat} (xs : List α) (n : Nat) : (xs.take n).length + ((xs.take n).map f).sum ≤ xs.length + (xs.map f).sum := by
  have e : (xs.map f).sum = ((xs.take n).map f).sum + ((xs.drop n).map f).sum := by
    rw [← List.sum_append, ← List.map_append, List.take_append_drop]
  rw [List.length_take]; omega
theorem beq_dec {a b : Int} : (a == b) = decide (a = b) := rfl
theorem wtIntS_len (x : List Int) : wtIntS x = x.length := by
  have h : ∀ l : List Int, (l.map wtInt).sum = 0 := by
    intro l
    induction l with
    | nil => rfl
    | cons a l ih => rw [List.map_cons, List.sum_cons, ih]; rfl
  simp [wtIntS, h]
def hasI (xs : List Int) (x : Int) : Bool := xs.any (fun y => y == x)
def inB (n l h : Int) : Bool := decide (l ≤ n) && decide (n ≤ h)

def okVal (v : Int) : Bool := inB v 0 99
def okRow (r : Row) : Bool := r.Values.all okVal && (inB r.Id 0 999 && decide ((r.Values.length : Int) = 3))
def okRows (l : List Row) : Bool := l.all okRow && decide ((l.length : Int) ≤ 1000)
def routeOne (id : Int) (j : Joined) : List Joined := if hasI j.Set id then [⟨j.Left, j.Right, [0]⟩] else []
def routeAll (l : List Joined) (id : Int) : List Joined := l.flatMap (routeOne id)
theorem routeOne_le (id : Int) (j : Joined) : (routeOne id j).length ≤ 1 := by unfold routeOne; split <;> simp
theorem routeAll_wt (l : List Joined) (id : Int) : wtJoinedS (routeAll l id) ≤ 2 * l.length := by
  unfold wtJoinedS routeAll
  induction l with
  | nil => simp
  | cons j l ih =>
    simp only [List.flatMap_cons, List.length_append, List.map_append, List.sum_append, List.length_cons]
    have : (routeOne id j).length + ((routeOne id j).map wtJoined).sum ≤ 2 := by
      unfold routeOne
      split <;> simp [wtJoined, wtIntS_len, wtInt]
    omega
def okBox (o : Outbox) : Bool := okRows o.Rows && (inB o.Acked 0 o.Rows.length && inB o.Tries 0 100000)
def newBox (l : List Row) : Outbox × Bool := if okRows l then (⟨l, 0, 0⟩, true) else (⟨[], 0, 0⟩, false)
def resume (o : Outbox) (n : Int) : List Row := if okBox o && inB n 0 o.Rows.length then o.Rows.drop n.toNat else []
def recvOk (c : Client) (n : Int) (r : Row) : Bool := (n == c.Next) && (okRow r && inB c.Next 0 100000)
def recv (c : Client) (n : Int) (r : Row) : Client × Int := if recvOk c n r then (⟨c.Next + 1, c.Rows ++ [r]⟩, c.Next + 1) else (c, c.Next)
def rowAt (l : List Row) (n : Int) : Row := l.getD n.toNat ⟨0, []⟩
def sendOk (o : Outbox) : Bool := okBox o && (!(o.Acked == (o.Rows.length : Int)) && !(o.Tries == 100000))
def sendTo (o : Outbox) (c : Client) (fate : Int) : Client × Int := if fate = 3 then recv (recv c o.Acked (rowAt o.Rows o.Acked)).1 o.Acked (rowAt o.Rows o.Acked) else recv c o.Acked (rowAt o.Rows o.Acked)
def send (o : Outbox) (c : Client) (fate : Int) : Outbox × Client × Bool :=
  if sendOk o then
    if fate = 1 then (⟨o.Rows, o.Acked, o.Tries + 1⟩, c, true)
    else (⟨o.Rows, if fate = 2 then o.Acked else max o.Acked (min (sendTo o c fate).2 o.Rows.length), o.Tries + 1⟩, (sendTo o c fate).1, true)
  else (o, c, false)
theorem okBox_facts {o : Outbox} (h : okBox o = true) : 0 ≤ o.Acked ∧ o.Acked ≤ o.Rows.length ∧ 0 ≤ o.Tries ∧ o.Tries ≤ 100000 := by
  simp [okBox, inB] at h; omega
theorem rowAt_eq {l : List Row} {n : Int} (h0 : 0 ≤ n) (h : n.toNat < l.length) : l[n.toNat] = rowAt l n := by simp [rowAt, h]
theorem wt_rowAt (l : List Row) (n : Int) : wtRow (rowAt l n) ≤ wtRowS l := by
  unfold rowAt wtRowS
  by_cases h : n.toNat < l.length
  · have := wt_mem (f := wtRow) h
    simp [h]; omega
  · rw [List.getD_eq_getElem?_getD, List.getElem?_eq_none (by omega)]
    simp [wtRow, wtInt, wtIntS_len]
theorem recv_wt (c : Client) (n : Int) (r : Row) : wtClient (recv c n r).1 ≤ wtClient c + 1 + wtRow r := by
  unfold recv
  split
  · simp [wtClient, wtRowS, wtInt]; omega
  · simp; omega
theorem sendOk_facts {o : Outbox} (h : sendOk o = true) : 0 ≤ o.Acked ∧ o.Acked.toNat < o.Rows.length ∧ 0 ≤ o.Tries ∧ o.Tries < 100000 := by
  simp only [sendOk, Bool.and_eq_true] at h
  have := okBox_facts h.1
  simp at h; omega
theorem newBox_wt (x : List Row) : wtOutbox (newBox x).1 ≤ wtRowS x := by
  unfold newBox
  split <;> simp [wtOutbox, wtInt, wtRowS]
theorem send_wt1 (o : Outbox) (c : Client) (fate : Int) : wtOutbox (send o c fate).1 ≤ wtOutbox o := by
  unfold send
  split
  · split <;> simp [wtOutbox, wtInt]
  · simp
theorem send_wt2 (o : Outbox) (c : Client) (fate : Int) : wtClient (send o c fate).2.1 ≤ wtClient c + 2 + 2 * wtOutbox o := by
  have h1 := wt_rowAt o.Rows o.Acked
  have h2 := recv_wt c o.Acked (rowAt o.Rows o.Acked)
  have h3 := recv_wt (recv c o.Acked (rowAt o.Rows o.Acked)).1 o.Acked (rowAt o.Rows o.Acked)
  have h4 : wtRowS o.Rows ≤ wtOutbox o := by simp [wtOutbox, wtInt]
  unfold send
  split
  · split
    · simp; omega
    · simp only [sendTo]
      split <;> omega
  · simp; omega
def dstep (s : Outbox × Client) (fate : Int) : Outbox × Client := ((send s.1 s.2 fate).1, (send s.1 s.2 fate).2.1)
def run1 (s : Outbox × Client) (l : List Int) (k : Nat) : Outbox × Client := (l.take k).foldl dstep s
theorem run1_succ {s : Outbox × Client} {l : List Int} {k : Nat} (h : k < l.length) : run1 s l (k + 1) = dstep (run1 s l k) l[k] := by
  unfold run1; rw [List.take_succ_eq_append_getElem h, List.foldl_append]; rfl
theorem run1_succ2 {s : Outbox × Client} {l : List Int} {m k : Nat} (h : k < (l.take m).length) (h2 : k < l.length) : run1 s (l.take m) (k + 1) = dstep (run1 s (l.take m) k) l[k] := by
  rw [run1_succ h, List.getElem_take]
def drive : Nat → Outbox × Client → Outbox × Client
  | 0, s => s
  | n + 1, s => if s.1.Acked < s.1.Rows.length then drive n (dstep s 0) else s
def deliverAll (rows : List Row) (fates : List Int) : Outbox × Client := if okRows rows then drive 2000 (run1 (⟨rows, 0, 0⟩, ⟨0, []⟩) (fates.take 200) (fates.take 200).length) else (⟨[], 0, 0⟩, ⟨0, []⟩)
theorem dstep_wt {s : Outbox × Client} {fate : Int} (h : wtOutbox s.1 ≤ 1048576) : wtOutbox (dstep s fate).1 ≤ wtOutbox s.1 ∧ wtClient (dstep s fate).2 ≤ wtClient s.2 + 2097154 := by
  have h1 := send_wt1 s.1 s.2 fate
  have h2 := send_wt2 s.1 s.2 fate
  unfold dstep; dsimp only; omega
theorem run1_wt {s : Outbox × Client} {l : List Int} (h : wtOutbox s.1 ≤ 1048576) : ∀ k, k ≤ l.length → wtOutbox (run1 s l k).1 ≤ 1048576 ∧ wtClient (run1 s l k).2 ≤ wtClient s.2 + k * 2097154
  | 0, _ => ⟨by simpa [run1] using h, by simp [run1]⟩
  | k + 1, hk => by
    have h1 := run1_wt (l := l) h k (by omega)
    have h2 := dstep_wt (fate := l[k]) h1.1
    rw [run1_succ (by omega)]
    constructor <;> omega
theorem drive_wt : ∀ (n : Nat) (s : Outbox × Client), wtOutbox s.1 ≤ 1048576 → wtOutbox (drive n s).1 ≤ 1048576 ∧ wtClient (drive n s).2 ≤ wtClient s.2 + n * 2097154
  | 0, s, h => ⟨h, by simp [drive]⟩
  | n + 1, s, h => by
    unfold drive
    split
    · have h2 := dstep_wt (s := s) (fate := 0) h
      have h1 := drive_wt n (dstep s 0) (by omega)
      constructor <;> omega
    · constructor <;> omega
theorem deliverAll_wt {rows : List Row} {fates : List Int} (h : wtRowS rows ≤ 1048576) : wtOutbox (deliverAll rows fates).1 ≤ 1048576 ∧ wtClient (deliverAll rows fates).2 ≤ 17179869184 := by
  unfold deliverAll
  split
  · have h0 : wtOutbox (⟨rows, 0, 0⟩ : Outbox) ≤ 1048576 := by simp [wtOutbox, wtInt]; omega
    have h00 : wtClient (⟨0, []⟩ : Client) = 0 := by simp [wtClient, wtRowS, wtInt]
    have hl : (fates.take 200).length ≤ 200 := by rw [List.length_take]; omega
    have h1 := run1_wt (s := (⟨rows, 0, 0⟩, ⟨0, []⟩)) (l := fates.take 200) h0 _ (Nat.le_refl _)
    have h2 := drive_wt 2000 _ h1.1
    dsimp only at h1
    rw [h00] at h1
    constructor <;> omega
  · simp [wtOutbox, wtClient, wtRowS, wtInt]
end Go.Proofs.Ytcfbekjiiokcbaa
