/- The types, as they are read. No condition. -/
import Derived.Test.YteflgldonmgejaaGreatCF2
set_option linter.unusedVariables false
set_option linter.unusedSimpArgs false
namespace Go.Proofs.YteflgldonmgejaaGreat
open Go Go.RowKit M
set_option maxRecDepth 10000
section
variable {α : Type} {P : α → Bool} {xs ys : List α} {k : Nat}
theorem all_succ (h : (xs.take k).all P = true) (hk : k < xs.length) (hp : P xs[k] = true) : (xs.take (k + 1)).all P = true := by
 rw [List.take_succ_eq_append_getElem hk, List.all_append, h]; simp [hp]
theorem all_no (hk : k < xs.length) (hp : P xs[k] = false) : xs.all P = false := by
 rw [List.all_eq_false]; exact ⟨_, List.getElem_mem hk, by rw [hp]; simp⟩
theorem all_end (h : (xs.take xs.length).all P = true) : xs.all P = true := by rwa [List.take_length] at h
theorem any_succ (h : (xs.take k).any P = false) (hk : k < xs.length) (hp : P xs[k] = false) : (xs.take (k + 1)).any P = false := by
 rw [List.take_succ_eq_append_getElem hk, List.any_append, h]; simp [hp]
theorem any_yes (hk : k < xs.length) (hp : P xs[k] = true) : xs.any P = true := by
 rw [List.any_eq_true]; exact ⟨_, List.getElem_mem hk, hp⟩
theorem any_end (h : (xs.take xs.length).any P = false) : xs.any P = false := by rwa [List.take_length] at h
theorem eq_succ (h : xs.take k = ys.take k) (hk : k < xs.length) (hk' : k < ys.length) (he : xs[k] = ys[k]) : xs.take (k + 1) = ys.take (k + 1) := by
 rw [List.take_succ_eq_append_getElem hk, List.take_succ_eq_append_getElem hk', h, he]
theorem eq_no (hk : k < xs.length) (hk' : k < ys.length) (he : ¬ xs[k] = ys[k]) : ¬ xs = ys := by
 rintro rfl; exact he rfl
theorem eq_end (hl : xs.length = ys.length) (h : xs.take xs.length = ys.take xs.length) : xs = ys := by
 rw [List.take_length] at h; rw [h, hl, List.take_length]
theorem wtk {f : α → Nat} (hk : k < xs.length) : ((xs.take (k + 1)).map f).sum = ((xs.take k).map f).sum + f xs[k] := by
 rw [List.take_succ_eq_append_getElem hk, List.map_append, List.sum_append]; simp
theorem wtk_le {f : α → Nat} (xs : List α) (k : Nat) : ((xs.take k).map f).sum ≤ (xs.map f).sum := by
 have h : xs = xs.take k ++ xs.drop k := (List.take_append_drop _ _).symm
 have e : (xs.map f).sum = ((xs.take k).map f).sum + ((xs.drop k).map f).sum := by
  rw [← List.sum_append, ← List.map_append, ← h]
 omega
theorem wt_mem {f : α → Nat} (hk : k < xs.length) : f xs[k] ≤ (xs.map f).sum := by
 have h1 := wtk (f := f) hk
 have h2 := wtk_le (f := f) xs (k + 1)
 omega
noncomputable def deq (x y : α) : Bool := @decide (x = y) (Classical.propDecidable _)
theorem deq_true {x y : α} (h : x = y) : deq x y = true := @decide_eq_true _ (Classical.propDecidable _) h
theorem deq_false {x y : α} (h : ¬ x = y) : deq x y = false := @decide_eq_false _ (Classical.propDecidable _) h
theorem deq_iff {x y : α} : deq x y = true ↔ x = y := @decide_eq_true_iff _ (Classical.propDecidable _)
theorem deq_self (x : α) : deq x x = true := deq_true rfl
end
def szR (l n : Int) : Int := if n ≤ l then l - n else -1
theorem szR_yes {l n : Int} (h : n ≤ l) : szR l n = l - n := if_pos h
theorem szR_no {l n : Int} (h : l < n) : szR l n = -1 := if_neg (by omega)
theorem szR_neg {l w : Int} (_h0 : 0 ≤ l) (h : szR l w < 0) : l < w := by unfold szR at h; split at h <;> omega
theorem szR_pos {l w : Int} (h : ¬ szR l w < 0) : w ≤ l := by unfold szR at h; split at h <;> omega
theorem us_1 {us : List Value} (h : us.length = 1) : ∃ v0, us = [v0] := by
 rcases us with _ | ⟨v0, _ | ⟨v1, vs⟩⟩ <;> first | exact ⟨_, rfl⟩ | (simp at h; try omega)
theorem us_2 {us : List Value} (h : us.length = 2) : ∃ v0 v1, us = [v0, v1] := by
 rcases us with _ | ⟨v0, _ | ⟨v1, _ | ⟨v2, vs⟩⟩⟩ <;> first | exact ⟨_, _, rfl⟩ | (simp at h; try omega)
theorem us_4 {us : List Value} (h : us.length = 4) : ∃ v0 v1 v2 v3, us = [v0, v1, v2, v3] := by
 rcases us with _ | ⟨v0, _ | ⟨v1, _ | ⟨v2, _ | ⟨v3, _ | ⟨v4, vs⟩⟩⟩⟩⟩ <;> first | exact ⟨_, _, _, _, rfl⟩ | (simp at h; try omega)
theorem us_5 {us : List Value} (h : us.length = 5) : ∃ v0 v1 v2 v3 v4, us = [v0, v1, v2, v3, v4] := by
 rcases us with _ | ⟨v0, _ | ⟨v1, _ | ⟨v2, _ | ⟨v3, _ | ⟨v4, _ | ⟨v5, vs⟩⟩⟩⟩⟩⟩ <;> first | exact ⟨_, _, _, _, _, rfl⟩ | (simp at h; try omega)
theorem us_7 {us : List Value} (h : us.length = 7) : ∃ v0 v1 v2 v3 v4 v5 v6, us = [v0, v1, v2, v3, v4, v5, v6] := by
 rcases us with _ | ⟨v0, _ | ⟨v1, _ | ⟨v2, _ | ⟨v3, _ | ⟨v4, _ | ⟨v5, _ | ⟨v6, _ | ⟨v7, vs⟩⟩⟩⟩⟩⟩⟩⟩ <;> first | exact ⟨_, _, _, _, _, _, _, rfl⟩ | (simp at h; try omega)
theorem us_8 {us : List Value} (h : us.length = 8) : ∃ v0 v1 v2 v3 v4 v5 v6 v7, us = [v0, v1, v2, v3, v4, v5, v6, v7] := by
 rcases us with _ | ⟨v0, _ | ⟨v1, _ | ⟨v2, _ | ⟨v3, _ | ⟨v4, _ | ⟨v5, _ | ⟨v6, _ | ⟨v7, _ | ⟨v8, vs⟩⟩⟩⟩⟩⟩⟩⟩⟩ <;> first | exact ⟨_, _, _, _, _, _, _, _, rfl⟩ | (simp at h; try omega)
theorem us_10 {us : List Value} (h : us.length = 10) : ∃ v0 v1 v2 v3 v4 v5 v6 v7 v8 v9, us = [v0, v1, v2, v3, v4, v5, v6, v7, v8, v9] := by
 rcases us with _ | ⟨v0, _ | ⟨v1, _ | ⟨v2, _ | ⟨v3, _ | ⟨v4, _ | ⟨v5, _ | ⟨v6, _ | ⟨v7, _ | ⟨v8, _ | ⟨v9, _ | ⟨v10, vs⟩⟩⟩⟩⟩⟩⟩⟩⟩⟩⟩ <;> first | exact ⟨_, _, _, _, _, _, _, _, _, _, rfl⟩ | (simp at h; try omega)
def cInt (x : Int) : List PV := [PV.val (vI x)]
def gdInt (x : Int) : Prop := I64 x
def wtInt (_x : Int) : Nat := 0
def cIntS (o0 : Fl) (x : List Int) : List PV := [PV.sl o0 (x.map cInt)]
def gdIntS (x : List Int) : Prop := ∀ y ∈ x, gdInt y
def wtIntS (x : List Int) : Nat := x.length + (x.map wtInt).sum
structure Cond where
 Field : Int
 Low : Int
 High : Int
def cCond (x : Cond) : List PV := [PV.val (vI x.Field), PV.val (vI x.Low), PV.val (vI x.High)]
def gdCond (x : Cond) : Prop := gdInt x.Field ∧ gdInt x.Low ∧ gdInt x.High
def wtCond (x : Cond) : Nat := wtInt x.Field + wtInt x.Low + wtInt x.High
theorem ext_Cond {x y : Cond} (h0 : x.Field = y.Field) (h1 : x.Low = y.Low) (h2 : x.High = y.High) : x = y := by cases x; cases y; simp_all
structure Charge where
 Segment : Int
 Base : Int
 Ids : List Int
 Tenants : List Int
 Rows : List Int
def cCharge (o0 o1 o2 : Fl) (x : Charge) : List PV := [PV.val (vI x.Segment), PV.val (vI x.Base), PV.sl o0 (x.Ids.map cInt), PV.sl o1 (x.Tenants.map cInt), PV.sl o2 (x.Rows.map cInt)]
def gdCharge (x : Charge) : Prop := gdInt x.Segment ∧ gdInt x.Base ∧ gdIntS x.Ids ∧ gdIntS x.Tenants ∧ gdIntS x.Rows
def wtCharge (x : Charge) : Nat := wtInt x.Segment + wtInt x.Base + wtIntS x.Ids + wtIntS x.Tenants + wtIntS x.Rows
theorem ext_Charge {x y : Charge} (h0 : x.Segment = y.Segment) (h1 : x.Base = y.Base) (h2 : x.Ids = y.Ids) (h3 : x.Tenants = y.Tenants) (h4 : x.Rows = y.Rows) : x = y := by cases x; cases y; simp_all
structure Row where
 Id : Int
 Values : List Int
def cRow (o0 : Fl) (x : Row) : List PV := [PV.val (vI x.Id), PV.sl o0 (x.Values.map cInt)]
def gdRow (x : Row) : Prop := gdInt x.Id ∧ gdIntS x.Values
def wtRow (x : Row) : Nat := wtInt x.Id + wtIntS x.Values
theorem ext_Row {x y : Row} (h0 : x.Id = y.Id) (h1 : x.Values = y.Values) : x = y := by cases x; cases y; simp_all
def cCondS (o0 : Fl) (x : List Cond) : List PV := [PV.sl o0 (x.map cCond)]
def gdCondS (x : List Cond) : Prop := ∀ y ∈ x, gdCond y
def wtCondS (x : List Cond) : Nat := x.length + (x.map wtCond).sum
structure Version where
 Id : Int
 Values : List Int
 Born : Int
 Died : Int
def cVersion (o0 : Fl) (x : Version) : List PV := [PV.val (vI x.Id), PV.sl o0 (x.Values.map cInt), PV.val (vI x.Born), PV.val (vI x.Died)]
def gdVersion (x : Version) : Prop := gdInt x.Id ∧ gdIntS x.Values ∧ gdInt x.Born ∧ gdInt x.Died
def wtVersion (x : Version) : Nat := wtInt x.Id + wtIntS x.Values + wtInt x.Born + wtInt x.Died
theorem ext_Version {x y : Version} (h0 : x.Id = y.Id) (h1 : x.Values = y.Values) (h2 : x.Born = y.Born) (h3 : x.Died = y.Died) : x = y := by cases x; cases y; simp_all
structure Query where
 Id : Int
 Tenant : Int
 Conds : List Cond
 Out : List Int
def cQuery (o0 o1 : Fl) (x : Query) : List PV := [PV.val (vI x.Id), PV.val (vI x.Tenant), PV.sl o0 (x.Conds.map cCond), PV.sl o1 (x.Out.map cInt)]
def gdQuery (x : Query) : Prop := gdInt x.Id ∧ gdInt x.Tenant ∧ gdCondS x.Conds ∧ gdIntS x.Out
def wtQuery (x : Query) : Nat := wtInt x.Id + wtInt x.Tenant + wtCondS x.Conds + wtIntS x.Out
theorem ext_Query {x y : Query} (h0 : x.Id = y.Id) (h1 : x.Tenant = y.Tenant) (h2 : x.Conds = y.Conds) (h3 : x.Out = y.Out) : x = y := by cases x; cases y; simp_all
def cVersionS (o0 o1 : Fl) (x : List Version) : List PV := [PV.sl o0 (x.map (cVersion o1))]
def gdVersionS (x : List Version) : Prop := ∀ y ∈ x, gdVersion y
def wtVersionS (x : List Version) : Nat := x.length + (x.map wtVersion).sum
def cRowS (o0 o1 : Fl) (x : List Row) : List PV := [PV.sl o0 (x.map (cRow o1))]
def gdRowS (x : List Row) : Prop := ∀ y ∈ x, gdRow y
def wtRowS (x : List Row) : Nat := x.length + (x.map wtRow).sum
def cChargeS (o0 o1 o2 o3 : Fl) (x : List Charge) : List PV := [PV.sl o0 (x.map (cCharge o1 o2 o3))]
def gdChargeS (x : List Charge) : Prop := ∀ y ∈ x, gdCharge y
def wtChargeS (x : List Charge) : Nat := x.length + (x.map wtCharge).sum
structure Update where
 Kind : Int
 Row : Row
 Field : Int
 Value : Int
def cUpdate (o0 : Fl) (x : Update) : List PV := [PV.val (vI x.Kind), PV.val (vI x.Row.Id), PV.sl o0 (x.Row.Values.map cInt), PV.val (vI x.Field), PV.val (vI x.Value)]
def gdUpdate (x : Update) : Prop := gdInt x.Kind ∧ gdRow x.Row ∧ gdInt x.Field ∧ gdInt x.Value
def wtUpdate (x : Update) : Nat := wtInt x.Kind + wtRow x.Row + wtInt x.Field + wtInt x.Value
structure Finished where
 Query : Query
 Time : Int
 Steps : Int
 Rows : List Row
def cFinished (o0 o1 o2 o3 : Fl) (x : Finished) : List PV := [PV.val (vI x.Query.Id), PV.val (vI x.Query.Tenant), PV.sl o0 (x.Query.Conds.map cCond), PV.sl o1 (x.Query.Out.map cInt), PV.val (vI x.Time), PV.val (vI x.Steps), PV.sl o2 (x.Rows.map (cRow o3))]
def gdFinished (x : Finished) : Prop := gdQuery x.Query ∧ gdInt x.Time ∧ gdInt x.Steps ∧ gdRowS x.Rows
def wtFinished (x : Finished) : Nat := wtQuery x.Query + wtInt x.Time + wtInt x.Steps + wtRowS x.Rows
theorem ext_Finished {x y : Finished} (h0 : x.Query = y.Query) (h1 : x.Time = y.Time) (h2 : x.Steps = y.Steps) (h3 : x.Rows = y.Rows) : x = y := by cases x; cases y; simp_all
def cVersionSS (o0 o1 o2 : Fl) (x : List (List Version)) : List PV := [PV.sl o0 (x.map (cVersionS o1 o2))]
def gdVersionSS (x : List (List Version)) : Prop := ∀ y ∈ x, gdVersionS y
def wtVersionSS (x : List (List Version)) : Nat := x.length + (x.map wtVersionS).sum
structure Event where
 Kind : Int
 Query : Query
 Limit : Int
 Id : Int
 Update : Update
 Steps : Int
def cEvent (o0 o1 o2 : Fl) (x : Event) : List PV := [PV.val (vI x.Kind), PV.val (vI x.Query.Id), PV.val (vI x.Query.Tenant), PV.sl o0 (x.Query.Conds.map cCond), PV.sl o1 (x.Query.Out.map cInt), PV.val (vI x.Limit), PV.val (vI x.Id), PV.val (vI x.Update.Kind), PV.val (vI x.Update.Row.Id), PV.sl o2 (x.Update.Row.Values.map cInt), PV.val (vI x.Update.Field), PV.val (vI x.Update.Value), PV.val (vI x.Steps)]
def gdEvent (x : Event) : Prop := gdInt x.Kind ∧ gdQuery x.Query ∧ gdInt x.Limit ∧ gdInt x.Id ∧ gdUpdate x.Update ∧ gdInt x.Steps
def wtEvent (x : Event) : Nat := wtInt x.Kind + wtQuery x.Query + wtInt x.Limit + wtInt x.Id + wtUpdate x.Update + wtInt x.Steps
structure Active where
 Query : Query
 Time : Int
 Todo : List Int
 Age : Int
 Sent : Int
 Cap : Int
 Rows : List Row
def cActive (o0 o1 o2 o3 o4 : Fl) (x : Active) : List PV := [PV.val (vI x.Query.Id), PV.val (vI x.Query.Tenant), PV.sl o0 (x.Query.Conds.map cCond), PV.sl o1 (x.Query.Out.map cInt), PV.val (vI x.Time), PV.sl o2 (x.Todo.map cInt), PV.val (vI x.Age), PV.val (vI x.Sent), PV.val (vI x.Cap), PV.sl o3 (x.Rows.map (cRow o4))]
def gdActive (x : Active) : Prop := gdQuery x.Query ∧ gdInt x.Time ∧ gdIntS x.Todo ∧ gdInt x.Age ∧ gdInt x.Sent ∧ gdInt x.Cap ∧ gdRowS x.Rows
def wtActive (x : Active) : Nat := wtQuery x.Query + wtInt x.Time + wtIntS x.Todo + wtInt x.Age + wtInt x.Sent + wtInt x.Cap + wtRowS x.Rows
theorem ext_Active {x y : Active} (h0 : x.Query = y.Query) (h1 : x.Time = y.Time) (h2 : x.Todo = y.Todo) (h3 : x.Age = y.Age) (h4 : x.Sent = y.Sent) (h5 : x.Cap = y.Cap) (h6 : x.Rows = y.Rows) : x = y := by cases x; cases y; simp_all
def cActiveS (o0 o1 o2 o3 o4 o5 : Fl) (x : List Active) : List PV := [PV.sl o0 (x.map (cActive o1 o2 o3 o4 o5))]
def gdActiveS (x : List Active) : Prop := ∀ y ∈ x, gdActive y
def wtActiveS (x : List Active) : Nat := x.length + (x.map wtActive).sum
structure Store where
 Segments : List (List Version)
 Now : Int
def cStore (o0 o1 o2 : Fl) (x : Store) : List PV := [PV.sl o0 (x.Segments.map (cVersionS o1 o2)), PV.val (vI x.Now)]
def gdStore (x : Store) : Prop := gdVersionSS x.Segments ∧ gdInt x.Now
def wtStore (x : Store) : Nat := wtVersionSS x.Segments + wtInt x.Now
theorem ext_Store {x y : Store} (h0 : x.Segments = y.Segments) (h1 : x.Now = y.Now) : x = y := by cases x; cases y; simp_all
def cEventS (o0 o1 o2 o3 : Fl) (x : List Event) : List PV := [PV.sl o0 (x.map (cEvent o1 o2 o3))]
def gdEventS (x : List Event) : Prop := ∀ y ∈ x, gdEvent y
def wtEventS (x : List Event) : Nat := x.length + (x.map wtEvent).sum
def cFinishedS (o0 o1 o2 o3 o4 : Fl) (x : List Finished) : List PV := [PV.sl o0 (x.map (cFinished o1 o2 o3 o4))]
def gdFinishedS (x : List Finished) : Prop := ∀ y ∈ x, gdFinished y
def wtFinishedS (x : List Finished) : Nat := x.length + (x.map wtFinished).sum
structure Engine where
 Store : Store
 Cursor : Int
 Order : List Int
 Active : List Active
 Done : List Finished
 Ledger : List Charge
 Steps : Int
def cEngine (o0 o1 o2 o3 o4 o5 o6 o7 o8 o9 o10 o11 o12 o13 o14 o15 o16 o17 o18 : Fl) (x : Engine) : List PV := [PV.sl o0 (x.Store.Segments.map (cVersionS o1 o2)), PV.val (vI x.Store.Now), PV.val (vI x.Cursor), PV.sl o3 (x.Order.map cInt), PV.sl o4 (x.Active.map (cActive o5 o6 o7 o8 o9)), PV.sl o10 (x.Done.map (cFinished o11 o12 o13 o14)), PV.sl o15 (x.Ledger.map (cCharge o16 o17 o18)), PV.val (vI x.Steps)]
def gdEngine (x : Engine) : Prop := gdStore x.Store ∧ gdInt x.Cursor ∧ gdIntS x.Order ∧ gdActiveS x.Active ∧ gdFinishedS x.Done ∧ gdChargeS x.Ledger ∧ gdInt x.Steps
def wtEngine (x : Engine) : Nat := wtStore x.Store + wtInt x.Cursor + wtIntS x.Order + wtActiveS x.Active + wtFinishedS x.Done + wtChargeS x.Ledger + wtInt x.Steps
theorem ext_Engine {x y : Engine} (h0 : x.Store = y.Store) (h1 : x.Cursor = y.Cursor) (h2 : x.Order = y.Order) (h3 : x.Active = y.Active) (h4 : x.Done = y.Done) (h5 : x.Ledger = y.Ledger) (h6 : x.Steps = y.Steps) : x = y := by cases x; cases y; simp_all
def cQueryS (o0 o1 o2 : Fl) (x : List Query) : List PV := [PV.sl o0 (x.map (cQuery o1 o2))]
def gdQueryS (x : List Query) : Prop := ∀ y ∈ x, gdQuery y
def wtQueryS (x : List Query) : Nat := x.length + (x.map wtQuery).sum
structure Span where
 From : Int
 To : Int
 Set : List Int
def cSpan (o0 : Fl) (x : Span) : List PV := [PV.val (vI x.From), PV.val (vI x.To), PV.sl o0 (x.Set.map cInt)]
def gdSpan (x : Span) : Prop := gdInt x.From ∧ gdInt x.To ∧ gdIntS x.Set
def wtSpan (x : Span) : Nat := wtInt x.From + wtInt x.To + wtIntS x.Set
def cSpanS (o0 o1 : Fl) (x : List Span) : List PV := [PV.sl o0 (x.map (cSpan o1))]
def gdSpanS (x : List Span) : Prop := ∀ y ∈ x, gdSpan y
def wtSpanS (x : List Span) : Nat := x.length + (x.map wtSpan).sum
def cSpanSS (o0 o1 o2 : Fl) (x : List (List Span)) : List PV := [PV.sl o0 (x.map (cSpanS o1 o2))]
def gdSpanSS (x : List (List Span)) : Prop := ∀ y ∈ x, gdSpanS y
def wtSpanSS (x : List (List Span)) : Nat := x.length + (x.map wtSpanS).sum
structure Index where
 Queries : List Query
 Fields : List (List Span)
def cIndex (o0 o1 o2 o3 o4 o5 : Fl) (x : Index) : List PV := [PV.sl o0 (x.Queries.map (cQuery o1 o2)), PV.sl o3 (x.Fields.map (cSpanS o4 o5))]
def gdIndex (x : Index) : Prop := gdQueryS x.Queries ∧ gdSpanSS x.Fields
def wtIndex (x : Index) : Nat := wtQueryS x.Queries + wtSpanSS x.Fields
def mkE_Int (x : Int) (k : Int) : Int × Int := (k, (k + 1))
theorem mkE_Int_le (x : Int) (k : Int) : k ≤ (mkE_Int x k).2 := by
 show k ≤ (k + 1)
 omega
def mkE_Cond (x : Cond) (k : Int) : Cond × Int := (⟨k, (k + 1), ((k + 1) + 1)⟩, (((k + 1) + 1) + 1))
theorem mkE_Cond_le (x : Cond) (k : Int) : k ≤ (mkE_Cond x k).2 := by
 show k ≤ (((k + 1) + 1) + 1)
 omega
def mkV_Row (x : Row) (k : Int) : Row × Int := (⟨x.Id, (mkL mkE_Int x.Values k).1⟩, (mkL mkE_Int x.Values k).2)
def mkE_Charge (x : Charge) (k : Int) : Charge × Int := (⟨k, (k + 1), (mkL mkE_Int x.Ids ((k + 1) + 1)).1, (mkL mkE_Int x.Tenants (mkL mkE_Int x.Ids ((k + 1) + 1)).2).1, (mkL mkE_Int x.Rows (mkL mkE_Int x.Tenants (mkL mkE_Int x.Ids ((k + 1) + 1)).2).2).1⟩, (mkL mkE_Int x.Rows (mkL mkE_Int x.Tenants (mkL mkE_Int x.Ids ((k + 1) + 1)).2).2).2)
theorem mkE_Charge_le (x : Charge) (k : Int) : k ≤ (mkE_Charge x k).2 := by
 show k ≤ (mkL mkE_Int x.Rows (mkL mkE_Int x.Tenants (mkL mkE_Int x.Ids ((k + 1) + 1)).2).2).2
 have h0 := mkL_le mkE_Int_le x.Ids ((k + 1) + 1)
 have h1 := mkL_le mkE_Int_le x.Tenants (mkL mkE_Int x.Ids ((k + 1) + 1)).2
 have h2 := mkL_le mkE_Int_le x.Rows (mkL mkE_Int x.Tenants (mkL mkE_Int x.Ids ((k + 1) + 1)).2).2
 omega
def mkV_Query (x : Query) (k : Int) : Query × Int := (⟨x.Id, x.Tenant, (mkL mkE_Cond x.Conds k).1, (mkL mkE_Int x.Out (mkL mkE_Cond x.Conds k).2).1⟩, (mkL mkE_Int x.Out (mkL mkE_Cond x.Conds k).2).2)
def mkV_Update (x : Update) (k : Int) : Update × Int := (⟨x.Kind, ⟨x.Row.Id, (mkL mkE_Int x.Row.Values k).1⟩, x.Field, x.Value⟩, (mkL mkE_Int x.Row.Values k).2)
def mkE_Row (x : Row) (k : Int) : Row × Int := (⟨k, (mkL mkE_Int x.Values (k + 1)).1⟩, (mkL mkE_Int x.Values (k + 1)).2)
theorem mkE_Row_le (x : Row) (k : Int) : k ≤ (mkE_Row x k).2 := by
 show k ≤ (mkL mkE_Int x.Values (k + 1)).2
 have h0 := mkL_le mkE_Int_le x.Values (k + 1)
 omega
def mkE_Version (x : Version) (k : Int) : Version × Int := (⟨k, (mkL mkE_Int x.Values (k + 1)).1, (mkL mkE_Int x.Values (k + 1)).2, ((mkL mkE_Int x.Values (k + 1)).2 + 1)⟩, (((mkL mkE_Int x.Values (k + 1)).2 + 1) + 1))
theorem mkE_Version_le (x : Version) (k : Int) : k ≤ (mkE_Version x k).2 := by
 show k ≤ (((mkL mkE_Int x.Values (k + 1)).2 + 1) + 1)
 have h0 := mkL_le mkE_Int_le x.Values (k + 1)
 omega
def mkV_Event (x : Event) (k : Int) : Event × Int := (⟨x.Kind, ⟨x.Query.Id, x.Query.Tenant, (mkL mkE_Cond x.Query.Conds k).1, (mkL mkE_Int x.Query.Out (mkL mkE_Cond x.Query.Conds k).2).1⟩, x.Limit, x.Id, ⟨x.Update.Kind, ⟨x.Update.Row.Id, (mkL mkE_Int x.Update.Row.Values (mkL mkE_Int x.Query.Out (mkL mkE_Cond x.Query.Conds k).2).2).1⟩, x.Update.Field, x.Update.Value⟩, x.Steps⟩, (mkL mkE_Int x.Update.Row.Values (mkL mkE_Int x.Query.Out (mkL mkE_Cond x.Query.Conds k).2).2).2)
def mkE_VersionS (x : List Version) (k : Int) : (List Version) × Int := ((mkL mkE_Version x k).1, (mkL mkE_Version x k).2)
theorem mkE_VersionS_le (x : List Version) (k : Int) : k ≤ (mkE_VersionS x k).2 := by
 show k ≤ (mkL mkE_Version x k).2
 have h0 := mkL_le mkE_Version_le x k
 omega
def mkE_Event (x : Event) (k : Int) : Event × Int := (⟨k, ⟨(k + 1), ((k + 1) + 1), (mkL mkE_Cond x.Query.Conds (((k + 1) + 1) + 1)).1, (mkL mkE_Int x.Query.Out (mkL mkE_Cond x.Query.Conds (((k + 1) + 1) + 1)).2).1⟩, (mkL mkE_Int x.Query.Out (mkL mkE_Cond x.Query.Conds (((k + 1) + 1) + 1)).2).2, ((mkL mkE_Int x.Query.Out (mkL mkE_Cond x.Query.Conds (((k + 1) + 1) + 1)).2).2 + 1), ⟨(((mkL mkE_Int x.Query.Out (mkL mkE_Cond x.Query.Conds (((k + 1) + 1) + 1)).2).2 + 1) + 1), ⟨((((mkL mkE_Int x.Query.Out (mkL mkE_Cond x.Query.Conds (((k + 1) + 1) + 1)).2).2 + 1) + 1) + 1), (mkL mkE_Int x.Update.Row.Values (((((mkL mkE_Int x.Query.Out (mkL mkE_Cond x.Query.Conds (((k + 1) + 1) + 1)).2).2 + 1) + 1) + 1) + 1)).1⟩, (mkL mkE_Int x.Update.Row.Values (((((mkL mkE_Int x.Query.Out (mkL mkE_Cond x.Query.Conds (((k + 1) + 1) + 1)).2).2 + 1) + 1) + 1) + 1)).2, ((mkL mkE_Int x.Update.Row.Values (((((mkL mkE_Int x.Query.Out (mkL mkE_Cond x.Query.Conds (((k + 1) + 1) + 1)).2).2 + 1) + 1) + 1) + 1)).2 + 1)⟩, (((mkL mkE_Int x.Update.Row.Values (((((mkL mkE_Int x.Query.Out (mkL mkE_Cond x.Query.Conds (((k + 1) + 1) + 1)).2).2 + 1) + 1) + 1) + 1)).2 + 1) + 1)⟩, ((((mkL mkE_Int x.Update.Row.Values (((((mkL mkE_Int x.Query.Out (mkL mkE_Cond x.Query.Conds (((k + 1) + 1) + 1)).2).2 + 1) + 1) + 1) + 1)).2 + 1) + 1) + 1))
def mkV_Store (x : Store) (k : Int) : Store × Int := (⟨(mkL mkE_VersionS x.Segments k).1, x.Now⟩, (mkL mkE_VersionS x.Segments k).2)
def mkE_Active (x : Active) (k : Int) : Active × Int := (⟨⟨k, (k + 1), (mkL mkE_Cond x.Query.Conds ((k + 1) + 1)).1, (mkL mkE_Int x.Query.Out (mkL mkE_Cond x.Query.Conds ((k + 1) + 1)).2).1⟩, (mkL mkE_Int x.Query.Out (mkL mkE_Cond x.Query.Conds ((k + 1) + 1)).2).2, (mkL mkE_Int x.Todo ((mkL mkE_Int x.Query.Out (mkL mkE_Cond x.Query.Conds ((k + 1) + 1)).2).2 + 1)).1, (mkL mkE_Int x.Todo ((mkL mkE_Int x.Query.Out (mkL mkE_Cond x.Query.Conds ((k + 1) + 1)).2).2 + 1)).2, ((mkL mkE_Int x.Todo ((mkL mkE_Int x.Query.Out (mkL mkE_Cond x.Query.Conds ((k + 1) + 1)).2).2 + 1)).2 + 1), (((mkL mkE_Int x.Todo ((mkL mkE_Int x.Query.Out (mkL mkE_Cond x.Query.Conds ((k + 1) + 1)).2).2 + 1)).2 + 1) + 1), (mkL mkE_Row x.Rows ((((mkL mkE_Int x.Todo ((mkL mkE_Int x.Query.Out (mkL mkE_Cond x.Query.Conds ((k + 1) + 1)).2).2 + 1)).2 + 1) + 1) + 1)).1⟩, (mkL mkE_Row x.Rows ((((mkL mkE_Int x.Todo ((mkL mkE_Int x.Query.Out (mkL mkE_Cond x.Query.Conds ((k + 1) + 1)).2).2 + 1)).2 + 1) + 1) + 1)).2)
theorem mkE_Active_le (x : Active) (k : Int) : k ≤ (mkE_Active x k).2 := by
 show k ≤ (mkL mkE_Row x.Rows ((((mkL mkE_Int x.Todo ((mkL mkE_Int x.Query.Out (mkL mkE_Cond x.Query.Conds ((k + 1) + 1)).2).2 + 1)).2 + 1) + 1) + 1)).2
 have h0 := mkL_le mkE_Cond_le x.Query.Conds ((k + 1) + 1)
 have h1 := mkL_le mkE_Int_le x.Query.Out (mkL mkE_Cond x.Query.Conds ((k + 1) + 1)).2
 have h2 := mkL_le mkE_Int_le x.Todo ((mkL mkE_Int x.Query.Out (mkL mkE_Cond x.Query.Conds ((k + 1) + 1)).2).2 + 1)
 have h3 := mkL_le mkE_Row_le x.Rows ((((mkL mkE_Int x.Todo ((mkL mkE_Int x.Query.Out (mkL mkE_Cond x.Query.Conds ((k + 1) + 1)).2).2 + 1)).2 + 1) + 1) + 1)
 omega
def mkE_Finished (x : Finished) (k : Int) : Finished × Int := (⟨⟨k, (k + 1), (mkL mkE_Cond x.Query.Conds ((k + 1) + 1)).1, (mkL mkE_Int x.Query.Out (mkL mkE_Cond x.Query.Conds ((k + 1) + 1)).2).1⟩, (mkL mkE_Int x.Query.Out (mkL mkE_Cond x.Query.Conds ((k + 1) + 1)).2).2, ((mkL mkE_Int x.Query.Out (mkL mkE_Cond x.Query.Conds ((k + 1) + 1)).2).2 + 1), (mkL mkE_Row x.Rows (((mkL mkE_Int x.Query.Out (mkL mkE_Cond x.Query.Conds ((k + 1) + 1)).2).2 + 1) + 1)).1⟩, (mkL mkE_Row x.Rows (((mkL mkE_Int x.Query.Out (mkL mkE_Cond x.Query.Conds ((k + 1) + 1)).2).2 + 1) + 1)).2)
theorem mkE_Finished_le (x : Finished) (k : Int) : k ≤ (mkE_Finished x k).2 := by
 show k ≤ (mkL mkE_Row x.Rows (((mkL mkE_Int x.Query.Out (mkL mkE_Cond x.Query.Conds ((k + 1) + 1)).2).2 + 1) + 1)).2
 have h0 := mkL_le mkE_Cond_le x.Query.Conds ((k + 1) + 1)
 have h1 := mkL_le mkE_Int_le x.Query.Out (mkL mkE_Cond x.Query.Conds ((k + 1) + 1)).2
 have h2 := mkL_le mkE_Row_le x.Rows (((mkL mkE_Int x.Query.Out (mkL mkE_Cond x.Query.Conds ((k + 1) + 1)).2).2 + 1) + 1)
 omega
def mkV_Engine (x : Engine) (k : Int) : Engine × Int := (⟨⟨(mkL mkE_VersionS x.Store.Segments k).1, x.Store.Now⟩, x.Cursor, (mkL mkE_Int x.Order (mkL mkE_VersionS x.Store.Segments k).2).1, (mkL mkE_Active x.Active (mkL mkE_Int x.Order (mkL mkE_VersionS x.Store.Segments k).2).2).1, (mkL mkE_Finished x.Done (mkL mkE_Active x.Active (mkL mkE_Int x.Order (mkL mkE_VersionS x.Store.Segments k).2).2).2).1, (mkL mkE_Charge x.Ledger (mkL mkE_Finished x.Done (mkL mkE_Active x.Active (mkL mkE_Int x.Order (mkL mkE_VersionS x.Store.Segments k).2).2).2).2).1, x.Steps⟩, (mkL mkE_Charge x.Ledger (mkL mkE_Finished x.Done (mkL mkE_Active x.Active (mkL mkE_Int x.Order (mkL mkE_VersionS x.Store.Segments k).2).2).2).2).2)
theorem mkV_Engine_le (x : Engine) (k : Int) : k ≤ (mkV_Engine x k).2 := by
 show k ≤ (mkL mkE_Charge x.Ledger (mkL mkE_Finished x.Done (mkL mkE_Active x.Active (mkL mkE_Int x.Order (mkL mkE_VersionS x.Store.Segments k).2).2).2).2).2
 have h0 := mkL_le mkE_VersionS_le x.Store.Segments k
 have h1 := mkL_le mkE_Int_le x.Order (mkL mkE_VersionS x.Store.Segments k).2
 have h2 := mkL_le mkE_Active_le x.Active (mkL mkE_Int x.Order (mkL mkE_VersionS x.Store.Segments k).2).2
 have h3 := mkL_le mkE_Finished_le x.Done (mkL mkE_Active x.Active (mkL mkE_Int x.Order (mkL mkE_VersionS x.Store.Segments k).2).2).2
 have h4 := mkL_le mkE_Charge_le x.Ledger (mkL mkE_Finished x.Done (mkL mkE_Active x.Active (mkL mkE_Int x.Order (mkL mkE_VersionS x.Store.Segments k).2).2).2).2
 omega
theorem ctE_Int (x : Int) (k : Int) : (mkE_Int x k).2 ≤ k + 1 + 0 * (wtInt x : Int) := by simp [mkE_Int]
theorem ctL_IntS (x : List Int) (k : Int) : (mkL mkE_Int x k).2 ≤ k + 1 * (wtIntS x : Int) := ctL (s := 1) (c := 0) ctE_Int (by decide) (by decide) x k
theorem ctE_Cond (x : Cond) (k : Int) : (mkE_Cond x k).2 ≤ k + 3 + 0 * (wtCond x : Int) := by
 show (((k + 1) + 1) + 1) ≤ _
 simp only [wtCond, wtInt, Int.natCast_add, Int.natCast_zero]
 omega
theorem ctL_CondS (x : List Cond) (k : Int) : (mkL mkE_Cond x k).2 ≤ k + 3 * (wtCondS x : Int) := ctL (s := 3) (c := 0) ctE_Cond (by decide) (by decide) x k
theorem ctE_Row (x : Row) (k : Int) : (mkE_Row x k).2 ≤ k + 1 + 1 * (wtRow x : Int) := by
 show (mkL mkE_Int x.Values (k + 1)).2 ≤ _
 have h0 := ctL_IntS x.Values (k + 1)
 simp only [wtInt, wtRow, Int.natCast_add, Int.natCast_zero]
 omega
theorem ctE_Charge (x : Charge) (k : Int) : (mkE_Charge x k).2 ≤ k + 2 + 1 * (wtCharge x : Int) := by
 show (mkL mkE_Int x.Rows (mkL mkE_Int x.Tenants (mkL mkE_Int x.Ids ((k + 1) + 1)).2).2).2 ≤ _
 have h0 := ctL_IntS x.Ids ((k + 1) + 1)
 have h1 := ctL_IntS x.Tenants (mkL mkE_Int x.Ids ((k + 1) + 1)).2
 have h2 := ctL_IntS x.Rows (mkL mkE_Int x.Tenants (mkL mkE_Int x.Ids ((k + 1) + 1)).2).2
 simp only [wtCharge, wtInt, Int.natCast_add, Int.natCast_zero]
 omega
theorem ctL_ChargeS (x : List Charge) (k : Int) : (mkL mkE_Charge x k).2 ≤ k + 2 * (wtChargeS x : Int) := ctL (s := 2) (c := 1) ctE_Charge (by decide) (by decide) x k
theorem ctL_RowS (x : List Row) (k : Int) : (mkL mkE_Row x k).2 ≤ k + 1 * (wtRowS x : Int) := ctL (s := 1) (c := 1) ctE_Row (by decide) (by decide) x k
theorem ctE_Version (x : Version) (k : Int) : (mkE_Version x k).2 ≤ k + 3 + 1 * (wtVersion x : Int) := by
 show (((mkL mkE_Int x.Values (k + 1)).2 + 1) + 1) ≤ _
 have h0 := ctL_IntS x.Values (k + 1)
 simp only [wtInt, wtVersion, Int.natCast_add, Int.natCast_zero]
 omega
theorem ctL_VersionS (x : List Version) (k : Int) : (mkL mkE_Version x k).2 ≤ k + 3 * (wtVersionS x : Int) := ctL (s := 3) (c := 1) ctE_Version (by decide) (by decide) x k
theorem ctE_VersionS (x : List Version) (k : Int) : (mkE_VersionS x k).2 ≤ k + 0 + 3 * (wtVersionS x : Int) := by
 have h := ctL_VersionS x k
 show (mkL mkE_Version x k).2 ≤ _
 omega
theorem ctL_VersionSS (x : List (List Version)) (k : Int) : (mkL mkE_VersionS x k).2 ≤ k + 3 * (wtVersionSS x : Int) := ctL (s := 0) (c := 3) ctE_VersionS (by decide) (by decide) x k
theorem ctE_Active (x : Active) (k : Int) : (mkE_Active x k).2 ≤ k + 6 + 3 * (wtActive x : Int) := by
 show (mkL mkE_Row x.Rows ((((mkL mkE_Int x.Todo ((mkL mkE_Int x.Query.Out (mkL mkE_Cond x.Query.Conds ((k + 1) + 1)).2).2 + 1)).2 + 1) + 1) + 1)).2 ≤ _
 have h0 := ctL_CondS x.Query.Conds ((k + 1) + 1)
 have h1 := ctL_IntS x.Query.Out (mkL mkE_Cond x.Query.Conds ((k + 1) + 1)).2
 have h2 := ctL_IntS x.Todo ((mkL mkE_Int x.Query.Out (mkL mkE_Cond x.Query.Conds ((k + 1) + 1)).2).2 + 1)
 have h3 := ctL_RowS x.Rows ((((mkL mkE_Int x.Todo ((mkL mkE_Int x.Query.Out (mkL mkE_Cond x.Query.Conds ((k + 1) + 1)).2).2 + 1)).2 + 1) + 1) + 1)
 simp only [wtActive, wtInt, wtQuery, Int.natCast_add, Int.natCast_zero]
 omega
theorem ctL_ActiveS (x : List Active) (k : Int) : (mkL mkE_Active x k).2 ≤ k + 6 * (wtActiveS x : Int) := ctL (s := 6) (c := 3) ctE_Active (by decide) (by decide) x k
theorem ctE_Finished (x : Finished) (k : Int) : (mkE_Finished x k).2 ≤ k + 4 + 3 * (wtFinished x : Int) := by
 show (mkL mkE_Row x.Rows (((mkL mkE_Int x.Query.Out (mkL mkE_Cond x.Query.Conds ((k + 1) + 1)).2).2 + 1) + 1)).2 ≤ _
 have h0 := ctL_CondS x.Query.Conds ((k + 1) + 1)
 have h1 := ctL_IntS x.Query.Out (mkL mkE_Cond x.Query.Conds ((k + 1) + 1)).2
 have h2 := ctL_RowS x.Rows (((mkL mkE_Int x.Query.Out (mkL mkE_Cond x.Query.Conds ((k + 1) + 1)).2).2 + 1) + 1)
 simp only [wtFinished, wtInt, wtQuery, Int.natCast_add, Int.natCast_zero]
 omega
theorem ctL_FinishedS (x : List Finished) (k : Int) : (mkL mkE_Finished x k).2 ≤ k + 4 * (wtFinishedS x : Int) := ctL (s := 4) (c := 3) ctE_Finished (by decide) (by decide) x k
theorem ctV_Engine (x : Engine) (k : Int) : (mkV_Engine x k).2 ≤ k + 0 + 6 * (wtEngine x : Int) := by
 show (mkL mkE_Charge x.Ledger (mkL mkE_Finished x.Done (mkL mkE_Active x.Active (mkL mkE_Int x.Order (mkL mkE_VersionS x.Store.Segments k).2).2).2).2).2 ≤ _
 have h0 := ctL_VersionSS x.Store.Segments k
 have h1 := ctL_IntS x.Order (mkL mkE_VersionS x.Store.Segments k).2
 have h2 := ctL_ActiveS x.Active (mkL mkE_Int x.Order (mkL mkE_VersionS x.Store.Segments k).2).2
 have h3 := ctL_FinishedS x.Done (mkL mkE_Active x.Active (mkL mkE_Int x.Order (mkL mkE_VersionS x.Store.Segments k).2).2).2
 have h4 := ctL_ChargeS x.Ledger (mkL mkE_Finished x.Done (mkL mkE_Active x.Active (mkL mkE_Int x.Order (mkL mkE_VersionS x.Store.Segments k).2).2).2).2
 simp only [wtEngine, wtInt, wtStore, Int.natCast_add, Int.natCast_zero]
 omega
theorem tk_succ {α : Type} {xs : List α} {k : Nat} (hk : k < xs.length) : xs.take (k + 1) = xs.take k ++ [xs[k]] := List.take_succ_eq_append_getElem hk
theorem gDt_ {α : Type} {l : List α} {d : α} {i : Nat} (h : i < l.length) : l[i] = l.getD i d := by simp [h]
theorem map_take_succ {α β : Type} {l : List α} {f : α → β} {k : Nat} (h : k < l.length) : (l.take (k + 1)).map f = (l.take k).map f ++ [f l[k]] := by
 rw [List.take_succ_eq_append_getElem h, List.map_append]; rfl
theorem beq_dec {a b : Int} : (a == b) = decide (a = b) := rfl
theorem wtIntS_len (x : List Int) : wtIntS x = x.length := by
 have h : ∀ l : List Int, (l.map wtInt).sum = 0 := by
  intro l
  induction l with
  | nil => rfl
  | cons a l ih => rw [List.map_cons, List.sum_cons, ih]; rfl
 simp [wtIntS, h]
def hasI (xs : List Int) (x : Int) : Bool := xs.any (fun y => y == x)
def inB (n l h : Int) : Bool := decide (l ≤ n) && decide (n ≤ h)
def asI (x : Int) : List (Bool × List PV) := [(false, [PV.val (vI x)])]
def rsB {γ : Type} (q : γ → Bool) (x : γ) : RV := RV.sv false [PV.val (.bool (q x))]
def okVal (v : Int) : Bool := inB v 0 99
def okRow (r : Row) : Bool := r.Values.all okVal && (inB r.Id 0 999 && decide ((r.Values.length : Int) = 3))
def okRows (l : List Row) : Bool := l.all okRow && decide ((l.length : Int) ≤ 1000)
def as2 {α : Type} (f : α → Bool × List PV) (x : α × α) : List (Bool × List PV) := [f x.1, f x.2]
noncomputable def deq2 {α : Type} (x : α × α) : Bool := deq x.1 x.2
def okSet (l : List Int) : Bool := (List.range l.length).all fun i => inB (l.getD i 0) 0 23 && (i == 0 || decide (l.getD (i - 1) 0 < l.getD i 0))
def okSetTo (l : List Int) (k : Nat) : Bool := (List.range k).all fun i => inB (l.getD i 0) 0 23 && (i == 0 || decide (l.getD (i - 1) 0 < l.getD i 0))
theorem okSetTo_succ {l : List Int} {k : Nat} : okSetTo l (k + 1) = (okSetTo l k && (inB (l.getD k 0) 0 23 && (k == 0 || decide (l.getD (k - 1) 0 < l.getD k 0)))) := by
 simp [okSetTo, List.range_succ]
theorem okSetTo_no {l : List Int} {k : Nat} (hk : k < l.length) (h : (inB (l.getD k 0) 0 23 && (k == 0 || decide (l.getD (k - 1) 0 < l.getD k 0))) = false) : okSet l = false := by
 cases hs : okSet l with
 | false => rfl
 | true =>
  have := List.all_eq_true.1 hs k (List.mem_range.2 hk)
  rw [h] at this; cases this
theorem okStep {l : List Int} {k : Nat} : (inB (l.getD k 0) 0 23 && (k == 0 || decide (l.getD (k - 1) 0 < l.getD k 0))) = true ↔ (0 ≤ l.getD k 0 ∧ l.getD k 0 ≤ 23 ∧ (k = 0 ∨ l.getD (k - 1) 0 < l.getD k 0)) := by
 simp [inB, and_assoc]
def pickL (q : Int → Bool) (k : Nat) : List Int := ((List.range k).map fun i : Nat => (i : Int)).filter q
theorem pickL_succ {q : Int → Bool} {k : Nat} : pickL q (k + 1) = pickL q k ++ if q k then [(k : Int)] else [] := by
 simp only [pickL, List.range_succ, List.map_append, List.filter_append, List.map_cons, List.map_nil, List.filter_cons, List.filter_nil]
theorem pickL_len (q : Int → Bool) (k : Nat) : (pickL q k).length ≤ k := by
 have := List.length_filter_le q ((List.range k).map fun i : Nat => (i : Int))
 simpa [pickL] using this
def MeetSetsF (a b : List Int) : List Int := if okSet a && okSet b then pickL (fun x => hasI a x && hasI b x) 24 else []
theorem mem_hasI {l : List Int} {x : Int} : hasI l x = true ↔ x ∈ l := by simp [hasI]
theorem okSet_at {l : List Int} (h : okSet l = true) {k : Nat} (hk : k < l.length) : 0 ≤ l[k] ∧ l[k] ≤ 23 ∧ (k = 0 ∨ l.getD (k - 1) 0 < l[k]) := by
 have := okStep.1 (List.all_eq_true.1 h k (List.mem_range.2 hk))
 rwa [show l.getD k 0 = l[k] by simp [hk]] at this
theorem okSet_lt {l : List Int} (h : okSet l = true) : ∀ (j i : Nat) (hj : j < l.length) (hi : i < j), l[i] < l[j]
 | 0, i, _, hi => by omega
 | j + 1, i, hj, hi => by
  have h1 := (okSet_at h hj).2.2
  have e : l.getD (j + 1 - 1) 0 = l[j] := by simp [show j < l.length by omega]
  rw [e] at h1
  rcases Nat.lt_or_ge i j with h2 | h2
  ·have := okSet_lt h j i (by omega) h2
   omega
  ·have : i = j := by omega
   subst this
   omega
theorem okSet_pw {l : List Int} (h : okSet l = true) : l.Pairwise (· < ·) := by
 rw [List.pairwise_iff_getElem]
 intro i j hi hj hij
 exact okSet_lt h j i hj hij
theorem filt_succ {m : Int} : ∀ {l : List Int}, l.Pairwise (· < ·) → l.filter (fun x => decide (x < m + 1)) = l.filter (fun x => decide (x < m)) ++ (if hasI l m then [m] else [])
 | [], _ => by simp [hasI]
 | x :: l, h => by
  rw [List.pairwise_cons] at h
  have ih := filt_succ (m := m) h.2
  have hhx : hasI (x :: l) m = (x == m || hasI l m) := by simp [hasI]
  by_cases h1 : x < m
  ·have e1 : decide (x < m + 1) = true := by simp; omega
   have e2 : decide (x < m) = true := by simpa using h1
   rw [List.filter_cons, List.filter_cons, if_pos e1, if_pos e2, ih, hhx, show (x == m) = false by simp; omega, Bool.false_or]
   rfl
  ·have hl : l.filter (fun x => decide (x < m)) = [] := by
    rw [List.filter_eq_nil_iff]; intro y hy; have := h.1 y hy; simp; omega
   have hl1 : l.filter (fun x => decide (x < m + 1)) = [] := by
    rw [List.filter_eq_nil_iff]; intro y hy; have := h.1 y hy; simp; omega
   have hm : hasI l m = false := by
    cases hc : hasI l m with
    | false => rfl
    | true => have := h.1 m (mem_hasI.1 hc); omega
   have e2 : ¬ decide (x < m) = true := by simpa using h1
   by_cases h2 : x = m
   ·have e1 : decide (x < m + 1) = true := by simp; omega
    rw [List.filter_cons, List.filter_cons, if_pos e1, if_neg e2, hl, hl1, hhx, hm, show (x == m) = true by simpa using h2]
    simp [h2]
   ·have e1 : ¬ decide (x < m + 1) = true := by simp; omega
    rw [List.filter_cons, List.filter_cons, if_neg e1, if_neg e2, hl, hl1, hhx, hm, show (x == m) = false by simpa using h2]
    simp
theorem pick_has {l : List Int} (h : okSet l = true) : ∀ m : Nat, pickL (fun x => hasI l x) m = l.filter (fun x => decide (x < (m : Int)))
 | 0 => by
  rw [show pickL (fun x => hasI l x) 0 = [] from rfl, eq_comm, List.filter_eq_nil_iff]
  intro y hy
  obtain ⟨k, hk, rfl⟩ := List.mem_iff_getElem.1 hy
  have := (okSet_at h hk).1
  simp; omega
 | m + 1 => by
  rw [pickL_succ, pick_has h m]
  have := filt_succ (m := (m : Int)) (okSet_pw h)
  rw [show ((m + 1 : Nat) : Int) = (m : Int) + 1 by omega, this]
theorem pick_all {l : List Int} (h : okSet l = true) : pickL (fun x => hasI l x) 24 = l := by
 rw [pick_has h, List.filter_eq_self]
 intro y hy
 obtain ⟨k, hk, rfl⟩ := List.mem_iff_getElem.1 hy
 have := (okSet_at h hk).2.1
 simp; omega
theorem okSet_len {l : List Int} (h : okSet l = true) : l.length ≤ 24 := by
 have := pickL_len (fun x => hasI l x) 24
 rwa [pick_all h] at this
theorem meet_eq {a b : List Int} (h : okSet a = true) : a.filter (fun x => hasI b x) = pickL (fun x => hasI a x && hasI b x) 24 := by
 conv => lhs; rw [← pick_all h]
 simp only [pickL, List.filter_filter]
 congr 1
 funext x
 exact Bool.and_comm _ _
theorem meet_end {a b : List Int} {k : Nat} (hk : 0 < k → (okSet a && okSet b) = true) (h : (k = a.length ∧ (okSet a && okSet b) = true) ∨ (k = 0 ∧ (a.length = 0 ∨ (okSet a && okSet b) = false))) : (a.take k).filter (fun x => hasI b x) = MeetSetsF a b := by
 unfold MeetSetsF
 rcases h with ⟨rfl, h⟩ | ⟨rfl, h⟩
 ·rw [List.take_length, if_pos h]
  rw [Bool.and_eq_true] at h
  exact meet_eq h.1
 ·split
  ·rename_i h2
   rcases h with h | h
   ·have : a = [] := List.eq_nil_of_length_eq_zero h
    subst this
    rw [Bool.and_eq_true] at h2
    rw [← meet_eq h2.1]; simp
   ·rw [h] at h2; cases h2
  ·simp
theorem MeetSetsF_len (a b : List Int) : (MeetSetsF a b).length ≤ 24 := by
 unfold MeetSetsF
 split
 ·exact pickL_len _ _
 ·simp
def adjTo {α : Type} (d : α) (p : α → Bool) (r : α → α → Bool) (l : List α) (k : Nat) : Bool := (List.range k).all fun i => p (l.getD i d) && (i == 0 || r (l.getD (i - 1) d) (l.getD i d))
def adjAll {α : Type} (d : α) (p : α → Bool) (r : α → α → Bool) (l : List α) : Bool := adjTo d p r l l.length
theorem adjTo_succ {α : Type} {d : α} {p : α → Bool} {r : α → α → Bool} {l : List α} {k : Nat} : adjTo d p r l (k + 1) = (adjTo d p r l k && (p (l.getD k d) && (k == 0 || r (l.getD (k - 1) d) (l.getD k d)))) := by
 simp [adjTo, List.range_succ]
theorem adjStep {α : Type} {d : α} {p : α → Bool} {r : α → α → Bool} {l : List α} {k : Nat} : (p (l.getD k d) && (k == 0 || r (l.getD (k - 1) d) (l.getD k d))) = true ↔ (p (l.getD k d) = true ∧ (k = 0 ∨ r (l.getD (k - 1) d) (l.getD k d) = true)) := by
 simp
theorem adj_no {α : Type} {d : α} {p : α → Bool} {r : α → α → Bool} {l : List α} {k : Nat} (hk : k < l.length) (h : (p (l.getD k d) && (k == 0 || r (l.getD (k - 1) d) (l.getD k d))) = false) : adjAll d p r l = false := by
 cases hs : adjAll d p r l with
 | false => rfl
 | true =>
  have := List.all_eq_true.1 hs k (List.mem_range.2 hk)
  rw [h] at this; cases this
theorem adj_end {α : Type} {d : α} {p : α → Bool} {r : α → α → Bool} {l : List α} {k : Nat} (h : adjTo d p r l k = true) (hk : k = l.length) : adjAll d p r l = true := by subst hk; exact h
theorem getD_at {α : Type} {d : α} {l : List α} {k : Nat} (h : k < l.length) : l.getD k d = l[k] := by simp [h]
def okCond (c : Cond) : Bool := inB c.Field 0 2 && (decide (0 ≤ c.Low) && (decide (c.Low ≤ c.High) && decide (c.High ≤ 99)))
def ltField (a b : Cond) : Bool := decide (a.Field < b.Field)
def okConds (l : List Cond) : Bool := adjAll ⟨0, 0, 0⟩ okCond ltField l
def okOut (v : Int) : Bool := inB v 0 2
def okFields (l : List Int) : Bool := l.all okOut && inB l.length 1 3
def okQuery (q : Query) : Bool := (inB q.Id 0 23 && (inB q.Tenant 0 3 && decide ((q.Conds.length : Int) ≤ 3))) && (okConds q.Conds && okFields q.Out)
def bareRow (r : Row) : Bool := inB r.Id 0 999 && decide (r.Values.length = 0)
def okUpdate (u : Update) : Bool :=
 if u.Kind = 1 then okRow u.Row && (decide (u.Field = 0) && decide (u.Value = 0))
 else if u.Kind = 2 then bareRow u.Row && (decide (u.Field = 0) && decide (u.Value = 0))
 else if u.Kind = 3 then bareRow u.Row && (inB u.Field 0 2 && inB u.Value 0 99) else false
theorem inB_iff {n l h : Int} : inB n l h = true ↔ l ≤ n ∧ n ≤ h := by simp [inB]
theorem gDt {α : Type} {l : List α} {d : α} {i : Nat} (h : i < l.length) : l[i] = l.getD i d := by simp [h]
def atI (l : List Int) (f : Int) : Int := l.getD f.toNat 0
def condOk (r : Row) (c : Cond) : Bool := inB (atI r.Values c.Field) c.Low c.High
def matchRow (q : Query) (r : Row) : Bool := (okRow r && okQuery q) && q.Conds.all (condOk r)
def admC (f v : Int) (c : Cond) : Bool := !(c.Field == f) || inB v c.Low c.High
def admitsV (q : Query) (f v : Int) : Bool := q.Conds.all (admC f v)
theorem rowLen {r : Row} (h : okRow r = true) : r.Values.length = 3 := by simp [okRow, inB] at h; omega
theorem adjAt {α : Type} {d : α} {p : α → Bool} {r : α → α → Bool} {l : List α} (h : adjAll d p r l = true) {k : Nat} (hk : k < l.length) : p l[k] = true := by
 have := List.all_eq_true.1 h k (List.mem_range.2 hk)
 rw [Bool.and_eq_true, getD_at hk] at this
 exact this.1
theorem condField {q : Query} (h : okQuery q = true) {c : Cond} (hc : c ∈ q.Conds) : 0 ≤ c.Field ∧ c.Field ≤ 2 := by
 obtain ⟨k, hk, rfl⟩ := List.mem_iff_getElem.1 hc
 unfold okQuery okConds at h
 simp only [Bool.and_eq_true] at h
 have := adjAt h.2.1 hk
 simp [okCond, inB] at this
 omega
theorem match_yes {q : Query} {r : Row} (hq : okQuery q = true) (hr : okRow r = true) (h : ∀ i : Nat, i < r.Values.length → admitsV q (i : Int) (r.Values.getD i 0) = true) : matchRow q r = true := by
 unfold matchRow
 rw [hr, hq, Bool.and_self, Bool.true_and, List.all_eq_true]
 intro c hc
 have hf := condField hq hc
 have hl := rowLen hr
 have := List.all_eq_true.1 (h c.Field.toNat (by omega)) c hc
 unfold admC at this
 rw [Int.toNat_of_nonneg hf.1] at this
 simpa [condOk, atI] using this
theorem match_no {q : Query} {r : Row} {i : Nat} (h : admitsV q (i : Int) (r.Values.getD i 0) = false) : matchRow q r = false := by
 rw [← Bool.not_eq_true]
 intro hm
 unfold matchRow at hm
 rw [Bool.and_eq_true, List.all_eq_true] at hm
 have : admitsV q (i : Int) (r.Values.getD i 0) = true := by
  unfold admitsV
  rw [List.all_eq_true]
  intro c hc
  unfold admC
  by_cases he : c.Field = (i : Int)
  ·have := hm.2 c hc
   simp only [condOk, atI, he, Int.toNat_natCast] at this
   rw [this, Bool.or_true]
  ·simp [he]
 rw [h] at this; cases this
theorem ext_Span_iff {x y : Span} : x = y ↔ x.From = y.From ∧ x.To = y.To ∧ x.Set = y.Set := by cases x; cases y; simp [Span.mk.injEq]
end Go.Proofs.YteflgldonmgejaaGreat
