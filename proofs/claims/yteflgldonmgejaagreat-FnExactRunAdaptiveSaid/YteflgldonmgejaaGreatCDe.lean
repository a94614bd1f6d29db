/- Definitions and their laws. No condition. -/
import Derived.Test.YteflgldonmgejaaGreatCDi
import Derived.Test.YteflgldonmgejaaGreatCDs7
import Derived.Test.YteflgldonmgejaaGreatCDh
set_option linter.unusedVariables false
set_option linter.unusedSimpArgs false
namespace Go.Proofs.YteflgldonmgejaaGreat
open Go Go.RowKit M
set_option maxRecDepth 10000
def a0_ : Active := ⟨⟨0, 0, [], []⟩, 0, [], 0, 0, 0, []⟩
def ltA (a b : Active) : Bool := decide (a.Query.Id < b.Query.Id)
def todoP (n v : Int) : Bool := inB v 0 (n - 1)
def ltI_ (a b : Int) : Bool := decide (a < b)
def okTodo (l : List Int) (n : Int) : Bool := adjAll 0 (todoP n) ltI_ l && decide (0 < l.length)
def okActive (s : Store) (a : Active) : Bool := okTodo a.Todo s.Segments.length && (okQuery a.Query && (inB a.Time 0 s.Now && (inB a.Age 0 100000 && (inB a.Sent 0 1000 && (inB a.Cap 0 32 && okRows a.Rows)))))
def okFin (now : Int) (f : Finished) : Bool := okQuery f.Query && (inB f.Time 0 now && (inB f.Steps 0 100000 && okRows f.Rows))
def engPre (e : Engine) : Bool := (okStore e.Store && (inB e.Cursor 0 (e.Store.Segments.length - 1) && (okOrder e.Order && inB e.Steps 0 100000))) && (decide ((e.Active.length : Int) ≤ 8) && (decide ((e.Done.length : Int) ≤ 1000) && decide ((e.Ledger.length : Int) ≤ 1000)))
def okEngine (e : Engine) : Bool := engPre e && (adjAll a0_ (okActive e.Store) ltA e.Active && (e.Done.all (okFin e.Store.Now) && e.Ledger.all okCharge))
theorem eng_no1 {e : Engine} (h : engPre e = false) : okEngine e = false := by unfold okEngine; rw [h]; rfl
theorem eng_no2 {e : Engine} (h : adjAll a0_ (okActive e.Store) ltA e.Active = false) : okEngine e = false := by unfold okEngine; rw [h]; simp
theorem eng_no3 {e : Engine} (h : e.Done.all (okFin e.Store.Now) = false) : okEngine e = false := by unfold okEngine; rw [h]; simp
theorem eng_no4 {e : Engine} (h : e.Ledger.all okCharge = false) : okEngine e = false := by unfold okEngine; rw [h]; simp
theorem eng_yes {e : Engine} (h1 : engPre e = true) (h2 : adjAll a0_ (okActive e.Store) ltA e.Active = true) (h3 : e.Done.all (okFin e.Store.Now) = true) (h4 : e.Ledger.all okCharge = true) : okEngine e = true := by unfold okEngine; rw [h1, h2, h3, h4]; rfl
theorem eng_facts {e : Engine} (h : okEngine e = true) : okStore e.Store = true ∧ okOrder e.Order = true ∧ 0 ≤ e.Cursor ∧ e.Cursor.toNat < e.Store.Segments.length ∧ e.Active.length ≤ 8 ∧ e.Done.length ≤ 1000 ∧ e.Ledger.length ≤ 1000 ∧ 0 ≤ e.Steps ∧ e.Steps ≤ 100000 ∧ (∀ a ∈ e.Active, okActive e.Store a = true) ∧ (∀ f ∈ e.Done, okFin e.Store.Now f = true) ∧ ∀ c ∈ e.Ledger, okCharge c = true := by
 unfold okEngine engPre at h
 simp only [Bool.and_eq_true, inB, decide_eq_true_eq] at h
 obtain ⟨⟨⟨h1, h2, h3, h4⟩, h5, h6, h7⟩, h8, h9, h10⟩ := h
 refine ⟨h1, h3, by omega, by omega, by omega, by omega, by omega, by omega, by omega, fun a ha => ?_, List.all_eq_true.1 h9, List.all_eq_true.1 h10⟩
 obtain ⟨k, hk, rfl⟩ := List.mem_iff_getElem.1 ha
 exact adjAt h8 hk
def okOrdTo (o : List Int) (k : Nat) : Bool := (List.range k).all fun i => hasI o (i : Int)
theorem okOrdTo_succ {o : List Int} {k : Nat} : okOrdTo o (k + 1) = (okOrdTo o k && hasI o (k : Int)) := by simp [okOrdTo, List.range_succ]
theorem okOrd_eq {o : List Int} : (okOrdTo o 3 && decide (o.length = 3)) = okOrder o := by
 rw [Bool.and_comm, okOrder, okOrdTo_succ, okOrdTo_succ, okOrdTo_succ]
 show _ = (decide (o.length = 3) && (hasI o ((0 : Nat) : Int) && (hasI o ((1 : Nat) : Int) && hasI o ((2 : Nat) : Int))))
 simp [okOrdTo, Bool.and_assoc]
theorem okOrd_no {o : List Int} {k : Nat} (hk : k < 3) (h : hasI o (k : Int) = false) : okOrder o = false := by
 rw [← okOrd_eq]
 have : okOrdTo o 3 = false := by
  rw [← Bool.not_eq_true]
  intro hh
  have := List.all_eq_true.1 hh k (List.mem_range.2 hk)
  rw [h] at this; cases this
 rw [this]; rfl
def awake (a : Active) : Bool := decide (a.Cap = 0) || decide (a.Sent < a.Cap)
def isAwakeAt (e : Engine) (i : Int) : Bool := okEngine e && inB i 0 (e.Active.length - 1) && awake (e.Active.getD i.toNat a0_)
def partP (e : Engine) (a : Active) : Bool := awake a && hasI a.Todo e.Cursor
def partsOf (e : Engine) (l : List Active) : List Int := (l.filter (partP e)).map fun a => a.Query.Id
def parts (e : Engine) : List Int := if okEngine e then partsOf e e.Active else []
section
variable {e : Engine} {l : List Active} {k : Nat} {id : Int}
theorem isAwake_at (h : okEngine e = true) (hk : k < e.Active.length) : isAwakeAt e (k : Int) = awake e.Active[k] := by
 unfold isAwakeAt
 rw [h, show inB (k : Int) 0 (e.Active.length - 1) = true by simp [inB]; omega, Int.toNat_natCast, List.getD_eq_getElem?_getD, List.getElem?_eq_getElem hk]; rfl
theorem partsOf_yes (hk : k < l.length) (h : partP e l[k] = true) : partsOf e (l.take (k + 1)) = partsOf e (l.take k) ++ [l[k].Query.Id] := by
 unfold partsOf; rw [List.take_succ_eq_append_getElem hk, List.filter_append]; simp [h]
theorem partsOf_no (hk : k < l.length) (h : partP e l[k] = false) : partsOf e (l.take (k + 1)) = partsOf e (l.take k) := by
 unfold partsOf; rw [List.take_succ_eq_append_getElem hk, List.filter_append]; simp [h]
theorem partsOf_len : (partsOf e l).length ≤ l.length := by
 unfold partsOf; rw [List.length_map]; exact List.length_filter_le _ _
theorem parts_yes (h : okEngine e = true) : parts e = partsOf e e.Active := if_pos h
theorem parts_no (h : okEngine e = false) : parts e = [] := if_neg (by rw [h]; simp)
theorem parts_end (h : (k = e.Active.length ∧ okEngine e = true) ∨ (k = 0 ∧ (e.Active.length = 0 ∨ okEngine e = false))) : partsOf e (e.Active.take k) = parts e := by
 rcases h with ⟨rfl, h⟩ | ⟨rfl, h⟩
 ·rw [List.take_length, parts_yes h]
 ·rw [List.take_zero]
  rcases h with h | h
  ·unfold parts
   rw [List.eq_nil_of_length_eq_zero h]
   split <;> rfl
  ·rw [parts_no h]; rfl
theorem parts_len : (parts e).length ≤ e.Active.length := by
 unfold parts
 split
 ·exact partsOf_len
 ·exact Nat.zero_le _
def idP (id : Int) (a : Active) : Bool := a.Query.Id == id
def findA (l : List Active) (id : Int) : Int := if l.any (idP id) then ((l.findIdx (idP id) : Nat) : Int) else -1
theorem findA_yes (hk : k < l.length) (h : (l.take k).any (idP id) = false) (hy : idP id l[k] = true) : findA l id = (k : Int) := by
 have e : l.findIdx (idP id) = k := by
  rw [List.findIdx_eq hk]
  refine ⟨hy, fun j hj => ?_⟩
  rw [List.any_eq_false] at h
  have := h l[j] (by rw [List.mem_iff_getElem]; exact ⟨j, by rw [List.length_take]; omega, by simp⟩)
  simpa using this
 unfold findA
 rw [if_pos (any_yes hk hy), e]
theorem findA_no (h : l.any (idP id) = false) : findA l id = -1 := if_neg (by rw [h]; simp)
theorem findA_part (h : id ∈ partsOf e l) : 0 ≤ findA l id ∧ (findA l id).toNat < l.length := by
 unfold partsOf at h
 obtain ⟨a, ha, rfl⟩ := List.mem_map.1 h
 have ha := (List.mem_filter.1 ha).1
 have hany : l.any (idP a.Query.Id) = true := List.any_eq_true.2 ⟨a, ha, by simp [idP]⟩
 have hlt : l.findIdx (idP a.Query.Id) < l.length := List.findIdx_lt_length_of_exists ⟨a, ha, by simp [idP]⟩
 unfold findA
 rw [if_pos hany]
 omega
end
def partQ (l : List Active) (ids : List Int) : List Query := ids.map fun id => (l.getD (findA l id).toNat a0_).Query
def rowsAt (e : Engine) : List Row := (e.Store.Segments.getD e.Cursor.toNat []).map rowOfV
noncomputable def workOne (x : Index) (o : List Int) (r : Row) : Int := if okRow r then (probeAll x r o).2 else 0
noncomputable def workTo (x : Index) (o : List Int) (l : List Row) : Int := (l.map (workOne x o)).sum
noncomputable def workOf (x : Index) (l : List Row) (o : List Int) : Int := if okIndex x && okOrder o then workTo x o l else 0
theorem workTo_succ {x : Index} {o : List Int} {l : List Row} {k : Nat} (hk : k < l.length) : workTo x o (l.take (k + 1)) = workTo x o (l.take k) + workOne x o l[k] := by
 unfold workTo; rw [List.take_succ_eq_append_getElem hk, List.map_append, List.sum_append]; simp
theorem workOne_le {x : Index} {o : List Int} (hx : okIndex x = true) (ho : okOrder o = true) (r : Row) : 0 ≤ workOne x o r ∧ workOne x o r ≤ 75 := by
 unfold workOne
 split
 ·have h1 := probeAll_len (okQs (idx_facts hx).1).1 r o
  have h2 := (order_facts ho).1
  omega
 ·omega
theorem workTo_le {x : Index} {o : List Int} (hx : okIndex x = true) (ho : okOrder o = true) : ∀ l : List Row, 0 ≤ workTo x o l ∧ workTo x o l ≤ 75 * l.length
 | [] => by simp [workTo]
 | r :: l => by
  have h1 := workOne_le hx ho r
  have h2 := workTo_le hx ho l
  unfold workTo at h2 ⊢
  rw [List.map_cons, List.sum_cons, List.length_cons]
  omega
theorem work_end {x : Index} {o : List Int} {l : List Row} {k : Nat} (h : (k = l.length ∧ (okIndex x && okOrder o) = true) ∨ (k = 0 ∧ (l.length = 0 ∨ (okIndex x && okOrder o) = false))) : workTo x o (l.take k) = workOf x l o := by
 unfold workOf
 rcases h with ⟨rfl, h⟩ | ⟨rfl, h⟩
 ·rw [if_pos h, List.take_length]
 ·rw [List.take_zero]
  split
  ·rename_i h2
   rcases h with h | h
   ·rw [List.eq_nil_of_length_eq_zero h]
   ·rw [h] at h2; cases h2
  ·rfl
theorem rowsAt_len {e : Engine} (h : okEngine e = true) : (rowsAt e).length ≤ 4 := by
 have hef := eng_facts h
 have hcl := hef.2.2.2.1
 unfold rowsAt
 rw [List.length_map, List.getD_eq_getElem?_getD, List.getElem?_eq_getElem hcl]
 exact (sto_facts hef.1).2.2.2.2.1 _ (List.getElem_mem hcl)
def ordersL : List (List Int) := [[0, 1, 2], [0, 2, 1], [1, 0, 2], [1, 2, 0], [2, 0, 1], [2, 1, 0]]
noncomputable def bestTo (x : Index) (l : List Row) : Nat → List Int
 | 0 => [0, 1, 2]
 | k + 1 => if workOf x l (ordersL.getD k []) < workOf x l (bestTo x l k) then ordersL.getD k [] else bestTo x l k
noncomputable def bestOrder (x : Index) (l : List Row) : List Int := if okIndex x then bestTo x l 6 else []
noncomputable def spBest (x : Index) (l : List Row) (k : Nat) : List Int := if k = 0 then [] else bestTo x l k
noncomputable def spLeast (x : Index) (l : List Row) (k : Nat) : Int := if k = 0 then 0 else workOf x l (bestTo x l k)
theorem ordersL_3 {k : Nat} (h : k < ordersL.length) : ordersL[k].length = 3 := by
 have : ∀ o ∈ ordersL, o.length = 3 := by decide
 exact this _ (List.getElem_mem h)
theorem bestTo_3 {x : Index} {l : List Row} : ∀ k, k ≤ 6 → (bestTo x l k).length = 3
 | 0, _ => rfl
 | k + 1, h => by
  rw [bestTo]
  split
  ·have hk : k < ordersL.length := by show k < 6; omega
   rw [← gDt_ (d := ([] : List Int)) hk]; exact ordersL_3 hk
  ·exact bestTo_3 k (by omega)
theorem bestTo_yes {x : Index} {l : List Row} {k : Nat} (hk : k < ordersL.length) (h : workOf x l ordersL[k] < workOf x l (bestTo x l k)) : bestTo x l (k + 1) = ordersL[k] := by
 have e := gDt_ (d := ([] : List Int)) hk
 rw [bestTo, ← e, if_pos h]
theorem bestTo_no {x : Index} {l : List Row} {k : Nat} (hk : k < ordersL.length) (h : ¬ workOf x l ordersL[k] < workOf x l (bestTo x l k)) : bestTo x l (k + 1) = bestTo x l k := by
 have e := gDt_ (d := ([] : List Int)) hk
 rw [bestTo, ← e, if_neg h]
theorem spBest_yes {x : Index} {l : List Row} {k : Nat} (hk : k < ordersL.length) (h : k = 0 ∨ workOf x l ordersL[k] < spLeast x l k) : spBest x l (k + 1) = ordersL[k] ∧ spLeast x l (k + 1) = workOf x l ordersL[k] := by
 unfold spBest spLeast at *
 rw [if_neg (by omega), if_neg (by omega)]
 have hb : bestTo x l (k + 1) = ordersL[k] := by
  rcases h with rfl | h
  ·by_cases h2 : workOf x l ordersL[0] < workOf x l (bestTo x l 0)
   ·exact bestTo_yes hk h2
   ·rw [bestTo_no hk h2]; rfl
  ·by_cases h0 : k = 0
   ·subst h0
    by_cases h2 : workOf x l ordersL[0] < workOf x l (bestTo x l 0)
    ·exact bestTo_yes hk h2
    ·rw [bestTo_no hk h2]; rfl
   ·rw [if_neg h0] at h; exact bestTo_yes hk h
 rw [hb]; exact ⟨rfl, rfl⟩
theorem sp_k0 {x : Index} {l : List Row} {k : Nat} (hk : k ≤ 6) (h : (spBest x l k).length = 0) : k = 0 := by
 by_cases h0 : k = 0
 ·exact h0
 ·exfalso
  have := bestTo_3 (x := x) (l := l) k hk
  unfold spBest at h
  rw [if_neg h0] at h
  omega
theorem to_eqv_ {o : Fl} {es es' : List (List PV)} (h : es = es') : (PV.sl o es).To (PV.sl .v es') := by subst h; exact PV.to_none
theorem spBest_no {x : Index} {l : List Row} {k : Nat} (hk : k < ordersL.length) (h0 : k ≠ 0) (h : ¬ workOf x l ordersL[k] < spLeast x l k) : spBest x l (k + 1) = spBest x l k ∧ spLeast x l (k + 1) = spLeast x l k := by
 unfold spBest spLeast at *
 rw [if_neg h0] at h
 have e1 : ¬ k + 1 = 0 := by omega
 simp only [if_neg e1, if_neg h0, bestTo_no hk h, and_self]
theorem best_end {x : Index} {l : List Row} {k : Nat} (h : (k = ordersL.length ∧ okIndex x = true) ∨ (k = 0 ∧ (ordersL.length = 0 ∨ okIndex x = false))) : spBest x l k = bestOrder x l := by
 unfold bestOrder
 rcases h with ⟨rfl, h⟩ | ⟨rfl, h⟩
 ·rw [if_pos h]; rfl
 ·rcases h with h | h
  ·exact absurd h (by decide)
  ·rw [if_neg (by rw [h]; simp)]; rfl
noncomputable def chooseOrder (e : Engine) : List Int := if okEngine e then bestOrder (buildIdx (partQ e.Active (parts e))) (rowsAt e) else []
theorem chooseOrder_len (e : Engine) : (chooseOrder e).length ≤ 3 := by
 unfold chooseOrder bestOrder
 split
 ·split
  ·exact Nat.le_of_eq (bestTo_3 6 (Nat.le_refl _))
  ·exact Nat.zero_le _
 ·exact Nat.zero_le _
noncomputable def probeWork (e : Engine) : Int := if okEngine e then workOf (buildIdx (partQ e.Active (parts e))) (rowsAt e) e.Order else 0
end Go.Proofs.YteflgldonmgejaaGreat
