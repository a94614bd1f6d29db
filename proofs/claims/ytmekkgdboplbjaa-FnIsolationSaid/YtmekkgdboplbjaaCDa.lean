/- The types, as they are read. No condition. -/
import Derived.Test.YtmekkgdboplbjaaCF2
set_option linter.unusedVariables false
set_option linter.unusedSimpArgs false
namespace Go.Proofs.Ytmekkgdboplbjaa
open Go Go.RowKit M
set_option maxRecDepth 10000
section
variable {α : Type} {P : α → Bool} {xs ys : List α} {k : Nat}
theorem all_succ (h : (xs.take k).all P = true) (hk : k < xs.length) (hp : P xs[k] = true) : (xs.take (k + 1)).all P = true := by
 rw [List.take_succ_eq_append_getElem hk, List.all_append, h]; simp [hp]
theorem all_no (hk : k < xs.length) (hp : P xs[k] = false) : xs.all P = false := by
 rw [List.all_eq_false]; exact ⟨_, List.getElem_mem hk, by rw [hp]; simp⟩
theorem all_end (h : (xs.take xs.length).all P = true) : xs.all P = true := by rwa [List.take_length] at h
theorem any_succ (h : (xs.take k).any P = false) (hk : k < xs.length) (hp : P xs[k] = false) : (xs.take (k + 1)).any P = false := by
 rw [List.take_succ_eq_append_getElem hk, List.any_append, h]; simp [hp]
theorem any_yes (hk : k < xs.length) (hp : P xs[k] = true) : xs.any P = true := by
 rw [List.any_eq_true]; exact ⟨_, List.getElem_mem hk, hp⟩
theorem any_end (h : (xs.take xs.length).any P = false) : xs.any P = false := by rwa [List.take_length] at h
theorem eq_succ (h : xs.take k = ys.take k) (hk : k < xs.length) (hk' : k < ys.length) (he : xs[k] = ys[k]) : xs.take (k + 1) = ys.take (k + 1) := by
 rw [List.take_succ_eq_append_getElem hk, List.take_succ_eq_append_getElem hk', h, he]
theorem eq_no (hk : k < xs.length) (hk' : k < ys.length) (he : ¬ xs[k] = ys[k]) : ¬ xs = ys := by
 rintro rfl; exact he rfl
theorem eq_end (hl : xs.length = ys.length) (h : xs.take xs.length = ys.take xs.length) : xs = ys := by
 rw [List.take_length] at h; rw [h, hl, List.take_length]
theorem wtk {f : α → Nat} (hk : k < xs.length) : ((xs.take (k + 1)).map f).sum = ((xs.take k).map f).sum + f xs[k] := by
 rw [List.take_succ_eq_append_getElem hk, List.map_append, List.sum_append]; simp
theorem wtk_le {f : α → Nat} (xs : List α) (k : Nat) : ((xs.take k).map f).sum ≤ (xs.map f).sum := by
 have h : xs = xs.take k ++ xs.drop k := (List.take_append_drop _ _).symm
 have e : (xs.map f).sum = ((xs.take k).map f).sum + ((xs.drop k).map f).sum := by
  rw [← List.sum_append, ← List.map_append, ← h]
 omega
theorem wt_mem {f : α → Nat} (hk : k < xs.length) : f xs[k] ≤ (xs.map f).sum := by
 have h1 := wtk (f := f) hk
 have h2 := wtk_le (f := f) xs (k + 1)
 omega
noncomputable def deq (x y : α) : Bool := @decide (x = y) (Classical.propDecidable _)
theorem deq_true {x y : α} (h : x = y) : deq x y = true := @decide_eq_true _ (Classical.propDecidable _) h
theorem deq_false {x y : α} (h : ¬ x = y) : deq x y = false := @decide_eq_false _ (Classical.propDecidable _) h
theorem deq_iff {x y : α} : deq x y = true ↔ x = y := @decide_eq_true_iff _ (Classical.propDecidable _)
theorem deq_self (x : α) : deq x x = true := deq_true rfl
end
def szR (l n : Int) : Int := if n ≤ l then l - n else -1
theorem us_1 {us : List Value} (h : us.length = 1) : ∃ v0, us = [v0] := by
 rcases us with _ | ⟨v0, _ | ⟨v1, vs⟩⟩ <;> first | exact ⟨_, rfl⟩ | (simp at h; try omega)
theorem us_2 {us : List Value} (h : us.length = 2) : ∃ v0 v1, us = [v0, v1] := by
 rcases us with _ | ⟨v0, _ | ⟨v1, _ | ⟨v2, vs⟩⟩⟩ <;> first | exact ⟨_, _, rfl⟩ | (simp at h; try omega)
theorem us_8 {us : List Value} (h : us.length = 8) : ∃ v0 v1 v2 v3 v4 v5 v6 v7, us = [v0, v1, v2, v3, v4, v5, v6, v7] := by
 rcases us with _ | ⟨v0, _ | ⟨v1, _ | ⟨v2, _ | ⟨v3, _ | ⟨v4, _ | ⟨v5, _ | ⟨v6, _ | ⟨v7, _ | ⟨v8, vs⟩⟩⟩⟩⟩⟩⟩⟩⟩ <;> first | exact ⟨_, _, _, _, _, _, _, _, rfl⟩ | (simp at h; try omega)
def cU8 (x : Int) : List PV := [PV.val (.int .u8 x)]
def gdU8 (x : Int) : Prop := 0 ≤ x ∧ x ≤ 255
def wtU8 (_x : Int) : Nat := 0
def cU8S (o0 : Fl) (x : List Int) : List PV := [PV.sl o0 (x.map cU8)]
def gdU8S (x : List Int) : Prop := ∀ y ∈ x, gdU8 y
def wtU8S (x : List Int) : Nat := x.length + (x.map wtU8).sum
def cInt (x : Int) : List PV := [PV.val (vI x)]
def gdInt (x : Int) : Prop := I64 x
def wtInt (_x : Int) : Nat := 0
structure Cond where
 Field : Int
 Low : Int
 High : Int
def cCond (x : Cond) : List PV := [PV.val (vI x.Field), PV.val (vI x.Low), PV.val (vI x.High)]
def gdCond (x : Cond) : Prop := gdInt x.Field ∧ gdInt x.Low ∧ gdInt x.High
def wtCond (x : Cond) : Nat := wtInt x.Field + wtInt x.Low + wtInt x.High
def cCondS (o0 : Fl) (x : List Cond) : List PV := [PV.sl o0 (x.map cCond)]
def gdCondS (x : List Cond) : Prop := ∀ y ∈ x, gdCond y
def wtCondS (x : List Cond) : Nat := x.length + (x.map wtCond).sum
def cIntS (o0 : Fl) (x : List Int) : List PV := [PV.sl o0 (x.map cInt)]
def gdIntS (x : List Int) : Prop := ∀ y ∈ x, gdInt y
def wtIntS (x : List Int) : Nat := x.length + (x.map wtInt).sum
structure Query where
 Id : Int
 Tenant : Int
 Conds : List Cond
 Out : List Int
def cQuery (o0 o1 : Fl) (x : Query) : List PV := [PV.val (vI x.Id), PV.val (vI x.Tenant), PV.sl o0 (x.Conds.map cCond), PV.sl o1 (x.Out.map cInt)]
def gdQuery (x : Query) : Prop := gdInt x.Id ∧ gdInt x.Tenant ∧ gdCondS x.Conds ∧ gdIntS x.Out
def wtQuery (x : Query) : Nat := wtInt x.Id + wtInt x.Tenant + wtCondS x.Conds + wtIntS x.Out
structure Row where
 Id : Int
 Values : List Int
def cRow (o0 : Fl) (x : Row) : List PV := [PV.val (vI x.Id), PV.sl o0 (x.Values.map cInt)]
def gdRow (x : Row) : Prop := gdInt x.Id ∧ gdIntS x.Values
def wtRow (x : Row) : Nat := wtInt x.Id + wtIntS x.Values
def cRowS (o0 o1 : Fl) (x : List Row) : List PV := [PV.sl o0 (x.map (cRow o1))]
def gdRowS (x : List Row) : Prop := ∀ y ∈ x, gdRow y
def wtRowS (x : List Row) : Nat := x.length + (x.map wtRow).sum
structure Active where
 Query : Query
 Time : Int
 Todo : List Int
 Age : Int
 Sent : Int
 Cap : Int
 Rows : List Row
def cActive (o0 o1 o2 o3 o4 : Fl) (x : Active) : List PV := [PV.val (vI x.Query.Id), PV.val (vI x.Query.Tenant), PV.sl o0 (x.Query.Conds.map cCond), PV.sl o1 (x.Query.Out.map cInt), PV.val (vI x.Time), PV.sl o2 (x.Todo.map cInt), PV.val (vI x.Age), PV.val (vI x.Sent), PV.val (vI x.Cap), PV.sl o3 (x.Rows.map (cRow o4))]
def gdActive (x : Active) : Prop := gdQuery x.Query ∧ gdInt x.Time ∧ gdIntS x.Todo ∧ gdInt x.Age ∧ gdInt x.Sent ∧ gdInt x.Cap ∧ gdRowS x.Rows
def wtActive (x : Active) : Nat := wtQuery x.Query + wtInt x.Time + wtIntS x.Todo + wtInt x.Age + wtInt x.Sent + wtInt x.Cap + wtRowS x.Rows
def cActiveS (o0 o1 o2 o3 o4 o5 : Fl) (x : List Active) : List PV := [PV.sl o0 (x.map (cActive o1 o2 o3 o4 o5))]
def gdActiveS (x : List Active) : Prop := ∀ y ∈ x, gdActive y
def wtActiveS (x : List Active) : Nat := x.length + (x.map wtActive).sum
structure Charge where
 Segment : Int
 Base : Int
 Ids : List Int
 Tenants : List Int
 Rows : List Int
def cCharge (o0 o1 o2 : Fl) (x : Charge) : List PV := [PV.val (vI x.Segment), PV.val (vI x.Base), PV.sl o0 (x.Ids.map cInt), PV.sl o1 (x.Tenants.map cInt), PV.sl o2 (x.Rows.map cInt)]
def gdCharge (x : Charge) : Prop := gdInt x.Segment ∧ gdInt x.Base ∧ gdIntS x.Ids ∧ gdIntS x.Tenants ∧ gdIntS x.Rows
def wtCharge (x : Charge) : Nat := wtInt x.Segment + wtInt x.Base + wtIntS x.Ids + wtIntS x.Tenants + wtIntS x.Rows
def cChargeS (o0 o1 o2 o3 : Fl) (x : List Charge) : List PV := [PV.sl o0 (x.map (cCharge o1 o2 o3))]
def gdChargeS (x : List Charge) : Prop := ∀ y ∈ x, gdCharge y
def wtChargeS (x : List Charge) : Nat := x.length + (x.map wtCharge).sum
structure Version where
 Id : Int
 Values : List Int
 Born : Int
 Died : Int
def cVersion (o0 : Fl) (x : Version) : List PV := [PV.val (vI x.Id), PV.sl o0 (x.Values.map cInt), PV.val (vI x.Born), PV.val (vI x.Died)]
def gdVersion (x : Version) : Prop := gdInt x.Id ∧ gdIntS x.Values ∧ gdInt x.Born ∧ gdInt x.Died
def wtVersion (x : Version) : Nat := wtInt x.Id + wtIntS x.Values + wtInt x.Born + wtInt x.Died
def cVersionS (o0 o1 : Fl) (x : List Version) : List PV := [PV.sl o0 (x.map (cVersion o1))]
def gdVersionS (x : List Version) : Prop := ∀ y ∈ x, gdVersion y
def wtVersionS (x : List Version) : Nat := x.length + (x.map wtVersion).sum
def cVersionSS (o0 o1 o2 : Fl) (x : List (List Version)) : List PV := [PV.sl o0 (x.map (cVersionS o1 o2))]
def gdVersionSS (x : List (List Version)) : Prop := ∀ y ∈ x, gdVersionS y
def wtVersionSS (x : List (List Version)) : Nat := x.length + (x.map wtVersionS).sum
structure Store where
 Segments : List (List Version)
 Now : Int
def cStore (o0 o1 o2 : Fl) (x : Store) : List PV := [PV.sl o0 (x.Segments.map (cVersionS o1 o2)), PV.val (vI x.Now)]
def gdStore (x : Store) : Prop := gdVersionSS x.Segments ∧ gdInt x.Now
def wtStore (x : Store) : Nat := wtVersionSS x.Segments + wtInt x.Now
structure Finished where
 Query : Query
 Time : Int
 Steps : Int
 Rows : List Row
def cFinished (o0 o1 o2 o3 : Fl) (x : Finished) : List PV := [PV.val (vI x.Query.Id), PV.val (vI x.Query.Tenant), PV.sl o0 (x.Query.Conds.map cCond), PV.sl o1 (x.Query.Out.map cInt), PV.val (vI x.Time), PV.val (vI x.Steps), PV.sl o2 (x.Rows.map (cRow o3))]
def gdFinished (x : Finished) : Prop := gdQuery x.Query ∧ gdInt x.Time ∧ gdInt x.Steps ∧ gdRowS x.Rows
def wtFinished (x : Finished) : Nat := wtQuery x.Query + wtInt x.Time + wtInt x.Steps + wtRowS x.Rows
def cFinishedS (o0 o1 o2 o3 o4 : Fl) (x : List Finished) : List PV := [PV.sl o0 (x.map (cFinished o1 o2 o3 o4))]
def gdFinishedS (x : List Finished) : Prop := ∀ y ∈ x, gdFinished y
def wtFinishedS (x : List Finished) : Nat := x.length + (x.map wtFinished).sum
structure Engine where
 Store : Store
 Cursor : Int
 Order : List Int
 Active : List Active
 Done : List Finished
 Ledger : List Charge
 Steps : Int
def cEngine (o0 o1 o2 o3 o4 o5 o6 o7 o8 o9 o10 o11 o12 o13 o14 o15 o16 o17 o18 : Fl) (x : Engine) : List PV := [PV.sl o0 (x.Store.Segments.map (cVersionS o1 o2)), PV.val (vI x.Store.Now), PV.val (vI x.Cursor), PV.sl o3 (x.Order.map cInt), PV.sl o4 (x.Active.map (cActive o5 o6 o7 o8 o9)), PV.sl o10 (x.Done.map (cFinished o11 o12 o13 o14)), PV.sl o15 (x.Ledger.map (cCharge o16 o17 o18)), PV.val (vI x.Steps)]
def gdEngine (x : Engine) : Prop := gdStore x.Store ∧ gdInt x.Cursor ∧ gdIntS x.Order ∧ gdActiveS x.Active ∧ gdFinishedS x.Done ∧ gdChargeS x.Ledger ∧ gdInt x.Steps
def wtEngine (x : Engine) : Nat := wtStore x.Store + wtInt x.Cursor + wtIntS x.Order + wtActiveS x.Active + wtFinishedS x.Done + wtChargeS x.Ledger + wtInt x.Steps
structure Update where
 Kind : Int
 Row : Row
 Field : Int
 Value : Int
def cUpdate (o0 : Fl) (x : Update) : List PV := [PV.val (vI x.Kind), PV.val (vI x.Row.Id), PV.sl o0 (x.Row.Values.map cInt), PV.val (vI x.Field), PV.val (vI x.Value)]
def gdUpdate (x : Update) : Prop := gdInt x.Kind ∧ gdRow x.Row ∧ gdInt x.Field ∧ gdInt x.Value
def wtUpdate (x : Update) : Nat := wtInt x.Kind + wtRow x.Row + wtInt x.Field + wtInt x.Value
structure Event where
 Kind : Int
 Query : Query
 Limit : Int
 Id : Int
 Update : Update
 Steps : Int
def cEvent (o0 o1 o2 : Fl) (x : Event) : List PV := [PV.val (vI x.Kind), PV.val (vI x.Query.Id), PV.val (vI x.Query.Tenant), PV.sl o0 (x.Query.Conds.map cCond), PV.sl o1 (x.Query.Out.map cInt), PV.val (vI x.Limit), PV.val (vI x.Id), PV.val (vI x.Update.Kind), PV.val (vI x.Update.Row.Id), PV.sl o2 (x.Update.Row.Values.map cInt), PV.val (vI x.Update.Field), PV.val (vI x.Update.Value), PV.val (vI x.Steps)]
def gdEvent (x : Event) : Prop := gdInt x.Kind ∧ gdQuery x.Query ∧ gdInt x.Limit ∧ gdInt x.Id ∧ gdUpdate x.Update ∧ gdInt x.Steps
def wtEvent (x : Event) : Nat := wtInt x.Kind + wtQuery x.Query + wtInt x.Limit + wtInt x.Id + wtUpdate x.Update + wtInt x.Steps
def cEventS (o0 o1 o2 o3 : Fl) (x : List Event) : List PV := [PV.sl o0 (x.map (cEvent o1 o2 o3))]
def gdEventS (x : List Event) : Prop := ∀ y ∈ x, gdEvent y
def wtEventS (x : List Event) : Nat := x.length + (x.map wtEvent).sum
theorem tk_succ {α : Type} {xs : List α} {k : Nat} (hk : k < xs.length) : xs.take (k + 1) = xs.take k ++ [xs[k]] := List.take_succ_eq_append_getElem hk
theorem gDt_ {α : Type} {l : List α} {d : α} {i : Nat} (h : i < l.length) : l[i] = l.getD i d := by simp [h]
theorem map_take_succ {α β : Type} {l : List α} {f : α → β} {k : Nat} (h : k < l.length) : (l.take (k + 1)).map f = (l.take k).map f ++ [f l[k]] := by
 rw [List.take_succ_eq_append_getElem h, List.map_append]; rfl
theorem beq_dec {a b : Int} : (a == b) = decide (a = b) := rfl
theorem wtIntS_len (x : List Int) : wtIntS x = x.length := by
 have h : ∀ l : List Int, (l.map wtInt).sum = 0 := by
  intro l
  induction l with
  | nil => rfl
  | cons a l ih => rw [List.map_cons, List.sum_cons, ih]; rfl
 simp [wtIntS, h]
def hasI (xs : List Int) (x : Int) : Bool := xs.any (fun y => y == x)
def inB (n l h : Int) : Bool := decide (l ≤ n) && decide (n ≤ h)
def asI (x : Int) : List (Bool × List PV) := [(false, [PV.val (vI x)])]
def rsB {γ : Type} (q : γ → Bool) (x : γ) : RV := RV.sv false [PV.val (.bool (q x))]
def okVal (v : Int) : Bool := inB v 0 99
def okRow (r : Row) : Bool := r.Values.all okVal && (inB r.Id 0 999 && decide ((r.Values.length : Int) = 3))
def okRows (l : List Row) : Bool := l.all okRow && decide ((l.length : Int) ≤ 1000)
theorem ext_Row_iff {x y : Row} : x = y ↔ x.Id = y.Id ∧ x.Values = y.Values := by cases x; cases y; simp_all
def as2 {α : Type} (f : α → Bool × List PV) (x : α × α) : List (Bool × List PV) := [f x.1, f x.2]
noncomputable def deq2 {α : Type} (x : α × α) : Bool := deq x.1 x.2
def okSet (l : List Int) : Bool := (List.range l.length).all fun i => inB (l.getD i 0) 0 23 && (i == 0 || decide (l.getD (i - 1) 0 < l.getD i 0))
def okSetTo (l : List Int) (k : Nat) : Bool := (List.range k).all fun i => inB (l.getD i 0) 0 23 && (i == 0 || decide (l.getD (i - 1) 0 < l.getD i 0))
theorem okSetTo_succ {l : List Int} {k : Nat} : okSetTo l (k + 1) = (okSetTo l k && (inB (l.getD k 0) 0 23 && (k == 0 || decide (l.getD (k - 1) 0 < l.getD k 0)))) := by
 simp [okSetTo, List.range_succ]
theorem okSetTo_no {l : List Int} {k : Nat} (hk : k < l.length) (h : (inB (l.getD k 0) 0 23 && (k == 0 || decide (l.getD (k - 1) 0 < l.getD k 0))) = false) : okSet l = false := by
 cases hs : okSet l with
 | false => rfl
 | true =>
  have := List.all_eq_true.1 hs k (List.mem_range.2 hk)
  rw [h] at this; cases this
theorem okStep {l : List Int} {k : Nat} : (inB (l.getD k 0) 0 23 && (k == 0 || decide (l.getD (k - 1) 0 < l.getD k 0))) = true ↔ (0 ≤ l.getD k 0 ∧ l.getD k 0 ≤ 23 ∧ (k = 0 ∨ l.getD (k - 1) 0 < l.getD k 0)) := by
 simp [inB, and_assoc]
def pickL (q : Int → Bool) (k : Nat) : List Int := ((List.range k).map fun i : Nat => (i : Int)).filter q
def adjTo {α : Type} (d : α) (p : α → Bool) (r : α → α → Bool) (l : List α) (k : Nat) : Bool := (List.range k).all fun i => p (l.getD i d) && (i == 0 || r (l.getD (i - 1) d) (l.getD i d))
def adjAll {α : Type} (d : α) (p : α → Bool) (r : α → α → Bool) (l : List α) : Bool := adjTo d p r l l.length
theorem adjTo_succ {α : Type} {d : α} {p : α → Bool} {r : α → α → Bool} {l : List α} {k : Nat} : adjTo d p r l (k + 1) = (adjTo d p r l k && (p (l.getD k d) && (k == 0 || r (l.getD (k - 1) d) (l.getD k d)))) := by
 simp [adjTo, List.range_succ]
theorem adjStep {α : Type} {d : α} {p : α → Bool} {r : α → α → Bool} {l : List α} {k : Nat} : (p (l.getD k d) && (k == 0 || r (l.getD (k - 1) d) (l.getD k d))) = true ↔ (p (l.getD k d) = true ∧ (k = 0 ∨ r (l.getD (k - 1) d) (l.getD k d) = true)) := by
 simp
theorem adj_no {α : Type} {d : α} {p : α → Bool} {r : α → α → Bool} {l : List α} {k : Nat} (hk : k < l.length) (h : (p (l.getD k d) && (k == 0 || r (l.getD (k - 1) d) (l.getD k d))) = false) : adjAll d p r l = false := by
 cases hs : adjAll d p r l with
 | false => rfl
 | true =>
  have := List.all_eq_true.1 hs k (List.mem_range.2 hk)
  rw [h] at this; cases this
theorem adj_end {α : Type} {d : α} {p : α → Bool} {r : α → α → Bool} {l : List α} {k : Nat} (h : adjTo d p r l k = true) (hk : k = l.length) : adjAll d p r l = true := by subst hk; exact h
theorem getD_at {α : Type} {d : α} {l : List α} {k : Nat} (h : k < l.length) : l.getD k d = l[k] := by simp [h]
def okCond (c : Cond) : Bool := inB c.Field 0 2 && (decide (0 ≤ c.Low) && (decide (c.Low ≤ c.High) && decide (c.High ≤ 99)))
def ltField (a b : Cond) : Bool := decide (a.Field < b.Field)
def okConds (l : List Cond) : Bool := adjAll ⟨0, 0, 0⟩ okCond ltField l
def okOut (v : Int) : Bool := inB v 0 2
def okFields (l : List Int) : Bool := l.all okOut && inB l.length 1 3
def okQuery (q : Query) : Bool := (inB q.Id 0 23 && (inB q.Tenant 0 3 && decide ((q.Conds.length : Int) ≤ 3))) && (okConds q.Conds && okFields q.Out)
theorem inB_iff {n l h : Int} : inB n l h = true ↔ l ≤ n ∧ n ≤ h := by simp [inB]
theorem gDt {α : Type} {l : List α} {d : α} {i : Nat} (h : i < l.length) : l[i] = l.getD i d := by simp [h]
def atI (l : List Int) (f : Int) : Int := l.getD f.toNat 0
def condOk (r : Row) (c : Cond) : Bool := inB (atI r.Values c.Field) c.Low c.High
def matchRow (q : Query) (r : Row) : Bool := (okRow r && okQuery q) && q.Conds.all (condOk r)
def admC (f v : Int) (c : Cond) : Bool := !(c.Field == f) || inB v c.Low c.High
def admitsV (q : Query) (f v : Int) : Bool := q.Conds.all (admC f v)
theorem rowLen {r : Row} (h : okRow r = true) : r.Values.length = 3 := by simp [okRow, inB] at h; omega
theorem adjAt {α : Type} {d : α} {p : α → Bool} {r : α → α → Bool} {l : List α} (h : adjAll d p r l = true) {k : Nat} (hk : k < l.length) : p l[k] = true := by
 have := List.all_eq_true.1 h k (List.mem_range.2 hk)
 rw [Bool.and_eq_true, getD_at hk] at this
 exact this.1
theorem condField {q : Query} (h : okQuery q = true) {c : Cond} (hc : c ∈ q.Conds) : 0 ≤ c.Field ∧ c.Field ≤ 2 := by
 obtain ⟨k, hk, rfl⟩ := List.mem_iff_getElem.1 hc
 unfold okQuery okConds at h
 simp only [Bool.and_eq_true] at h
 have := adjAt h.2.1 hk
 simp [okCond, inB] at this
 omega
theorem match_yes {q : Query} {r : Row} (hq : okQuery q = true) (hr : okRow r = true) (h : ∀ i : Nat, i < r.Values.length → admitsV q (i : Int) (r.Values.getD i 0) = true) : matchRow q r = true := by
 unfold matchRow
 rw [hr, hq, Bool.and_self, Bool.true_and, List.all_eq_true]
 intro c hc
 have hf := condField hq hc
 have hl := rowLen hr
 have := List.all_eq_true.1 (h c.Field.toNat (by omega)) c hc
 unfold admC at this
 rw [Int.toNat_of_nonneg hf.1] at this
 simpa [condOk, atI] using this
theorem match_no {q : Query} {r : Row} {i : Nat} (h : admitsV q (i : Int) (r.Values.getD i 0) = false) : matchRow q r = false := by
 rw [← Bool.not_eq_true]
 intro hm
 unfold matchRow at hm
 rw [Bool.and_eq_true, List.all_eq_true] at hm
 have : admitsV q (i : Int) (r.Values.getD i 0) = true := by
  unfold admitsV
  rw [List.all_eq_true]
  intro c hc
  unfold admC
  by_cases he : c.Field = (i : Int)
  ·have := hm.2 c hc
   simp only [condOk, atI, he, Int.toNat_natCast] at this
   rw [this, Bool.or_true]
  ·simp [he]
 rw [h] at this; cases this
def bareRow (r : Row) : Bool := inB r.Id 0 999 && decide (r.Values.length = 0)
def okUpdate (u : Update) : Bool :=
 if u.Kind = 1 then okRow u.Row && (decide (u.Field = 0) && decide (u.Value = 0))
 else if u.Kind = 2 then bareRow u.Row && (decide (u.Field = 0) && decide (u.Value = 0))
 else if u.Kind = 3 then bareRow u.Row && (inB u.Field 0 2 && inB u.Value 0 99) else false
theorem deq_no {α : Type} {x y : α} : deq x y = false ↔ ¬ x = y := ⟨fun h e => (by rw [deq_true e] at h; simp at h), deq_false⟩
theorem ext_Cond_iff {x y : Cond} : x = y ↔ x.Field = y.Field ∧ x.Low = y.Low ∧ x.High = y.High := by cases x; cases y; simp [Cond.mk.injEq]
theorem ext_Query_iff {x y : Query} : x = y ↔ x.Id = y.Id ∧ x.Tenant = y.Tenant ∧ x.Conds = y.Conds ∧ x.Out = y.Out := by cases x; cases y; simp [Query.mk.injEq]
theorem ext_Update_iff {x y : Update} : x = y ↔ x.Kind = y.Kind ∧ x.Row = y.Row ∧ x.Field = y.Field ∧ x.Value = y.Value := by cases x; cases y; simp [Update.mk.injEq]
def zeroQ (q : Query) : Bool := decide (q.Id = 0) && (decide (q.Tenant = 0) && (decide (q.Conds.length = 0) && decide (q.Out.length = 0)))
def zeroU (u : Update) : Bool := decide (u.Kind = 0) && (decide (u.Row.Id = 0) && (decide (u.Row.Values.length = 0) && (decide (u.Field = 0) && decide (u.Value = 0))))
theorem deq_zeroQ (q : Query) : deq q ⟨0, 0, [], []⟩ = zeroQ q := by
 rw [Bool.eq_iff_iff, deq_iff]; cases q; simp [zeroQ, List.length_eq_zero_iff]
theorem deq_zeroU (u : Update) : deq u ⟨0, ⟨0, []⟩, 0, 0⟩ = zeroU u := by
 rw [Bool.eq_iff_iff, deq_iff]; rcases u with ⟨a, ⟨b, c⟩, d, e⟩; simp [zeroU, List.length_eq_zero_iff, and_assoc]
def okEvent (x : Event) : Bool :=
 if x.Kind = 1 then okQuery x.Query && (inB x.Limit 0 32 && (decide (x.Id = 0) && (zeroU x.Update && decide (x.Steps = 0))))
 else if x.Kind = 2 then zeroQ x.Query && (decide (x.Limit = 0) && (inB x.Id 0 23 && (zeroU x.Update && decide (x.Steps = 0))))
 else if x.Kind = 3 then zeroQ x.Query && (decide (x.Limit = 0) && (decide (x.Id = 0) && (okUpdate x.Update && decide (x.Steps = 0))))
 else if x.Kind = 4 then zeroQ x.Query && (decide (x.Limit = 0) && (decide (x.Id = 0) && (zeroU x.Update && inB x.Steps 1 100)))
 else false
end Go.Proofs.Ytmekkgdboplbjaa
