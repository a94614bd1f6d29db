/- Definitions and their laws. No condition. -/
import Derived.Test.YtmekkgdboplbjaaCDi
import Derived.Test.YtmekkgdboplbjaaCDs7
import Derived.Test.YtmekkgdboplbjaaCDh
set_option linter.unusedVariables false
set_option linter.unusedSimpArgs false
namespace Go.Proofs.Ytmekkgdboplbjaa
open Go Go.RowKit M
set_option maxRecDepth 10000
def a0_ : Active := ⟨⟨0, 0, [], []⟩, 0, [], 0, 0, 0, []⟩
def ltA (a b : Active) : Bool := decide (a.Query.Id < b.Query.Id)
def todoP (n v : Int) : Bool := inB v 0 (n - 1)
def ltI_ (a b : Int) : Bool := decide (a < b)
def okTodo (l : List Int) (n : Int) : Bool := adjAll 0 (todoP n) ltI_ l && decide (0 < l.length)
def okActive (s : Store) (a : Active) : Bool := okTodo a.Todo s.Segments.length && (okQuery a.Query && (inB a.Time 0 s.Now && (inB a.Age 0 100000 && (inB a.Sent 0 1000 && (inB a.Cap 0 32 && okRows a.Rows)))))
def okFin (now : Int) (f : Finished) : Bool := okQuery f.Query && (inB f.Time 0 now && (inB f.Steps 0 100000 && okRows f.Rows))
def engPre (e : Engine) : Bool := (okStore e.Store && (inB e.Cursor 0 (e.Store.Segments.length - 1) && (okOrder e.Order && inB e.Steps 0 100000))) && (decide ((e.Active.length : Int) ≤ 8) && (decide ((e.Done.length : Int) ≤ 1000) && decide ((e.Ledger.length : Int) ≤ 1000)))
def okEngine (e : Engine) : Bool := engPre e && (adjAll a0_ (okActive e.Store) ltA e.Active && (e.Done.all (okFin e.Store.Now) && e.Ledger.all okCharge))
theorem eng_no1 {e : Engine} (h : engPre e = false) : okEngine e = false := by unfold okEngine; rw [h]; rfl
theorem eng_no2 {e : Engine} (h : adjAll a0_ (okActive e.Store) ltA e.Active = false) : okEngine e = false := by unfold okEngine; rw [h]; simp
theorem eng_no3 {e : Engine} (h : e.Done.all (okFin e.Store.Now) = false) : okEngine e = false := by unfold okEngine; rw [h]; simp
theorem eng_no4 {e : Engine} (h : e.Ledger.all okCharge = false) : okEngine e = false := by unfold okEngine; rw [h]; simp
theorem eng_yes {e : Engine} (h1 : engPre e = true) (h2 : adjAll a0_ (okActive e.Store) ltA e.Active = true) (h3 : e.Done.all (okFin e.Store.Now) = true) (h4 : e.Ledger.all okCharge = true) : okEngine e = true := by unfold okEngine; rw [h1, h2, h3, h4]; rfl
theorem eng_facts {e : Engine} (h : okEngine e = true) : okStore e.Store = true ∧ okOrder e.Order = true ∧ 0 ≤ e.Cursor ∧ e.Cursor.toNat < e.Store.Segments.length ∧ e.Active.length ≤ 8 ∧ e.Done.length ≤ 1000 ∧ e.Ledger.length ≤ 1000 ∧ 0 ≤ e.Steps ∧ e.Steps ≤ 100000 ∧ (∀ a ∈ e.Active, okActive e.Store a = true) ∧ (∀ f ∈ e.Done, okFin e.Store.Now f = true) ∧ ∀ c ∈ e.Ledger, okCharge c = true := by
 unfold okEngine engPre at h
 simp only [Bool.and_eq_true, inB, decide_eq_true_eq] at h
 obtain ⟨⟨⟨h1, h2, h3, h4⟩, h5, h6, h7⟩, h8, h9, h10⟩ := h
 refine ⟨h1, h3, by omega, by omega, by omega, by omega, by omega, by omega, by omega, fun a ha => ?_, List.all_eq_true.1 h9, List.all_eq_true.1 h10⟩
 obtain ⟨k, hk, rfl⟩ := List.mem_iff_getElem.1 ha
 exact adjAt h8 hk
def okOrdTo (o : List Int) (k : Nat) : Bool := (List.range k).all fun i => hasI o (i : Int)
theorem okOrdTo_succ {o : List Int} {k : Nat} : okOrdTo o (k + 1) = (okOrdTo o k && hasI o (k : Int)) := by simp [okOrdTo, List.range_succ]
theorem okOrd_eq {o : List Int} : (okOrdTo o 3 && decide (o.length = 3)) = okOrder o := by
 rw [Bool.and_comm, okOrder, okOrdTo_succ, okOrdTo_succ, okOrdTo_succ]
 show _ = (decide (o.length = 3) && (hasI o ((0 : Nat) : Int) && (hasI o ((1 : Nat) : Int) && hasI o ((2 : Nat) : Int))))
 simp [okOrdTo, Bool.and_assoc]
theorem okOrd_no {o : List Int} {k : Nat} (hk : k < 3) (h : hasI o (k : Int) = false) : okOrder o = false := by
 rw [← okOrd_eq]
 have : okOrdTo o 3 = false := by
  rw [← Bool.not_eq_true]
  intro hh
  have := List.all_eq_true.1 hh k (List.mem_range.2 hk)
  rw [h] at this; cases this
 rw [this]; rfl
def awake (a : Active) : Bool := decide (a.Cap = 0) || decide (a.Sent < a.Cap)
def isAwakeAt (e : Engine) (i : Int) : Bool := okEngine e && inB i 0 (e.Active.length - 1) && awake (e.Active.getD i.toNat a0_)
def partP (e : Engine) (a : Active) : Bool := awake a && hasI a.Todo e.Cursor
def partsOf (e : Engine) (l : List Active) : List Int := (l.filter (partP e)).map fun a => a.Query.Id
def parts (e : Engine) : List Int := if okEngine e then partsOf e e.Active else []
section
variable {e : Engine} {l : List Active} {k : Nat} {id : Int}
theorem partsOf_yes (hk : k < l.length) (h : partP e l[k] = true) : partsOf e (l.take (k + 1)) = partsOf e (l.take k) ++ [l[k].Query.Id] := by
 unfold partsOf; rw [List.take_succ_eq_append_getElem hk, List.filter_append]; simp [h]
theorem partsOf_no (hk : k < l.length) (h : partP e l[k] = false) : partsOf e (l.take (k + 1)) = partsOf e (l.take k) := by
 unfold partsOf; rw [List.take_succ_eq_append_getElem hk, List.filter_append]; simp [h]
theorem partsOf_len : (partsOf e l).length ≤ l.length := by
 unfold partsOf; rw [List.length_map]; exact List.length_filter_le _ _
theorem parts_yes (h : okEngine e = true) : parts e = partsOf e e.Active := if_pos h
theorem parts_no (h : okEngine e = false) : parts e = [] := if_neg (by rw [h]; simp)
theorem parts_len : (parts e).length ≤ e.Active.length := by
 unfold parts
 split
 ·exact partsOf_len
 ·exact Nat.zero_le _
def idP (id : Int) (a : Active) : Bool := a.Query.Id == id
def findA (l : List Active) (id : Int) : Int := if l.any (idP id) then ((l.findIdx (idP id) : Nat) : Int) else -1
theorem findA_yes (hk : k < l.length) (h : (l.take k).any (idP id) = false) (hy : idP id l[k] = true) : findA l id = (k : Int) := by
 have e : l.findIdx (idP id) = k := by
  rw [List.findIdx_eq hk]
  refine ⟨hy, fun j hj => ?_⟩
  rw [List.any_eq_false] at h
  have := h l[j] (by rw [List.mem_iff_getElem]; exact ⟨j, by rw [List.length_take]; omega, by simp⟩)
  simpa using this
 unfold findA
 rw [if_pos (any_yes hk hy), e]
theorem findA_no (h : l.any (idP id) = false) : findA l id = -1 := if_neg (by rw [h]; simp)
end
end Go.Proofs.Ytmekkgdboplbjaa
