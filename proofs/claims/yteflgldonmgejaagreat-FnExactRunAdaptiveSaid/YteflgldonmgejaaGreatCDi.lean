/- Definitions and their laws. No condition. -/
import Derived.Test.YteflgldonmgejaaGreatCDa
set_option linter.unusedVariables false
set_option linter.unusedSimpArgs false
namespace Go.Proofs.YteflgldonmgejaaGreat
open Go Go.RowKit M
set_option maxRecDepth 10000
def q0_ : Query := ⟨0, 0, [], []⟩
def sp0 : Span := ⟨0, 0, []⟩
def ltQ (a b : Query) : Bool := decide (a.Id < b.Id)
def okQueries (l : List Query) : Bool := adjAll q0_ okQuery ltQ l && decide ((l.length : Int) ≤ 24)
theorem okQs {l : List Query} (h : okQueries l = true) : l.length ≤ 24 ∧ ∀ q ∈ l, okQuery q = true := by
 unfold okQueries at h
 rw [Bool.and_eq_true] at h
 refine ⟨by have := of_decide_eq_true h.2; omega, fun q hq => ?_⟩
 obtain ⟨k, hk, rfl⟩ := List.mem_iff_getElem.1 hq
 exact adjAt h.1 hk
theorem query_wt {q : Query} (h : okQuery q = true) : q.Conds.length ≤ 3 ∧ q.Out.length ≤ 3 := by
 unfold okQuery okFields at h
 simp only [Bool.and_eq_true, inB, decide_eq_true_eq] at h
 omega
def stabS (l : List Query) (f v : Int) : List Int := (l.filter fun q => admitsV q f v).map Query.Id
def stabSetF (l : List Query) (f v : Int) : List Int := if okQueries l && (inB f 0 2 && inB v 0 99) then stabS l f v else []
theorem stabS_yes {l : List Query} {f v : Int} {k : Nat} (hk : k < l.length) (h : admitsV l[k] f v = true) : stabS (l.take (k + 1)) f v = stabS (l.take k) f v ++ [l[k].Id] := by
 unfold stabS; rw [List.take_succ_eq_append_getElem hk, List.filter_append]; simp [h]
theorem stabS_no {l : List Query} {f v : Int} {k : Nat} (hk : k < l.length) (h : admitsV l[k] f v = false) : stabS (l.take (k + 1)) f v = stabS (l.take k) f v := by
 unfold stabS; rw [List.take_succ_eq_append_getElem hk, List.filter_append]; simp [h]
theorem stabS_len (l : List Query) (f v : Int) : (stabS l f v).length ≤ l.length := by
 unfold stabS; rw [List.length_map]; exact List.length_filter_le _ _
theorem stab_end {l : List Query} {f v : Int} {k : Nat} (h : (k = l.length ∧ (okQueries l && (inB f 0 2 && inB v 0 99)) = true) ∨ (k = 0 ∧ (l.length = 0 ∨ (okQueries l && (inB f 0 2 && inB v 0 99)) = false))) : stabS (l.take k) f v = stabSetF l f v := by
 unfold stabSetF
 rcases h with ⟨rfl, h⟩ | ⟨rfl, h⟩
 ·rw [if_pos h, List.take_length]
 ·split
  ·rename_i h2
   rcases h with h | h
   ·rw [List.eq_nil_of_length_eq_zero h]; rfl
   ·rw [h] at h2; cases h2
  ·rfl
noncomputable def lastIs (out : List Span) (s : List Int) : Bool := !(out.length == 0) && deq (out.getD (out.length - 1) sp0).Set s
theorem lastIs_yes {out : List Span} {s : List Int} (h0 : 0 < out.length) (h : deq (out.getD (out.length - 1) sp0).Set s = true) : lastIs out s = true := by
 unfold lastIs; rw [h, Bool.and_true]; simp; exact List.length_pos_iff.1 h0
noncomputable def spanNext (out : List Span) (v : Int) (s : List Int) : List Span := if lastIs out s then out.set (out.length - 1) ⟨(out.getD (out.length - 1) sp0).From, v, (out.getD (out.length - 1) sp0).Set⟩ else out ++ [⟨v, v, s⟩]
theorem spanNext_yes {out : List Span} {v : Int} {s : List Int} (h : lastIs out s = true) : spanNext out v s = out.set (out.length - 1) ⟨(out.getD (out.length - 1) sp0).From, v, (out.getD (out.length - 1) sp0).Set⟩ := if_pos h
theorem spanNext_no {out : List Span} {v : Int} {s : List Int} (h : lastIs out s = false) : spanNext out v s = out ++ [⟨v, v, s⟩] := if_neg (by rw [h]; simp)
noncomputable def spansTo (l : List Query) (f : Int) : Nat → List Span
 | 0 => []
 | k + 1 => spanNext (spansTo l f k) k (stabS l f k)
theorem spans_len (l : List Query) (f : Int) : ∀ k, (spansTo l f k).length ≤ k
 | 0 => Nat.le_refl _
 | k + 1 => by
  have := spans_len l f k
  rw [spansTo]
  unfold spanNext
  split
  ·rw [List.length_set]; omega
  ·rw [List.length_append]; simp; omega
theorem spans_set (l : List Query) (f : Int) : ∀ k, ∀ s ∈ spansTo l f k, s.Set.length ≤ l.length
 | 0, s, h => nomatch h
 | k + 1, s, h => by
  have ih := spans_set l f k
  rw [spansTo] at h
  unfold spanNext at h
  split at h
  ·rename_i hl
   rcases List.mem_or_eq_of_mem_set h with h | rfl
   ·exact ih s h
   ·have hne : 0 < (spansTo l f k).length := by
     unfold lastIs at hl
     rw [Bool.and_eq_true] at hl
     have := hl.1
     simp at this
     exact List.length_pos_iff.2 this
    have hlt : (spansTo l f k).length - 1 < (spansTo l f k).length := by omega
    show ((spansTo l f k).getD _ sp0).Set.length ≤ _
    rw [List.getD_eq_getElem?_getD, List.getElem?_eq_getElem hlt]
    exact ih _ (List.getElem_mem hlt)
  ·rcases List.mem_append.1 h with h | h
   ·exact ih s h
   ·simp at h; subst h; exact stabS_len _ _ _
noncomputable def stabIdx (l : List Query) (f : Int) : List Span := if okQueries l && inB f 0 2 then spansTo l f 100 else []
theorem stabIdx_len (l : List Query) (f : Int) : (stabIdx l f).length ≤ 100 ∧ ∀ s ∈ stabIdx l f, s.Set.length ≤ 24 := by
 unfold stabIdx
 split
 ·rename_i h
  rw [Bool.and_eq_true] at h
  have := okQs h.1
  exact ⟨spans_len _ _ _, fun s hs => Nat.le_trans (spans_set _ _ _ s hs) this.1⟩
 ·exact ⟨by simp, fun s hs => nomatch hs⟩
def inSpan (v : Int) (s : Span) : Bool := inB v s.From s.To
def findSpan (l : List Span) (v : Int) : List Int := match l.find? (inSpan v) with
 | some s => s.Set
 | none => []
theorem find_yes {l : List Span} {v : Int} {k : Nat} (hk : k < l.length) (h : (l.take k).any (inSpan v) = false) (hy : inSpan v l[k] = true) : findSpan l v = l[k].Set := by
 unfold findSpan
 have e : l = l.take k ++ l[k] :: l.drop (k + 1) := by rw [← List.drop_eq_getElem_cons hk, List.take_append_drop]
 have hn : (l.take k).find? (inSpan v) = none := by
  rw [List.find?_eq_none]
  intro x hx hp
  rw [List.any_eq_false] at h
  exact h x hx hp
 have : l.find? (inSpan v) = some l[k] := by
  conv => lhs; rw [e]
  rw [List.find?_append, hn, List.find?_cons_of_pos hy]
  rfl
 rw [this]
theorem find_no {l : List Span} {v : Int} (h : l.any (inSpan v) = false) : findSpan l v = [] := by
 unfold findSpan
 have hn : l.find? (inSpan v) = none := by
  rw [List.find?_eq_none]
  intro x hx hp
  rw [List.any_eq_false] at h
  exact h x hx hp
 rw [hn]
theorem find_len {l : List Span} {m : Nat} (h : ∀ s ∈ l, s.Set.length ≤ m) (v : Int) : (findSpan l v).length ≤ m := by
 unfold findSpan
 split
 ·rename_i s hs; exact h s (List.mem_of_find?_eq_some hs)
 ·exact Nat.zero_le _
noncomputable def idxTo (x : Index) (k : Nat) : Bool := (List.range k).all fun f => deq (x.Fields.getD f []) (stabIdx x.Queries (f : Int))
theorem idxTo_succ {x : Index} {k : Nat} : idxTo x (k + 1) = (idxTo x k && deq (x.Fields.getD k []) (stabIdx x.Queries (k : Int))) := by simp [idxTo, List.range_succ]
noncomputable def okIndex (x : Index) : Bool := (okQueries x.Queries && decide (x.Fields.length = 3)) && idxTo x 3
theorem idx_no {x : Index} {k : Nat} (hk : k < 3) (h : deq (x.Fields.getD k []) (stabIdx x.Queries (k : Int)) = false) : okIndex x = false := by
 have : idxTo x 3 = false := by
  rw [← Bool.not_eq_true]
  intro hh
  have := List.all_eq_true.1 hh k (List.mem_range.2 hk)
  rw [h] at this; cases this
 unfold okIndex; rw [this, Bool.and_false]
theorem idx_facts {x : Index} (h : okIndex x = true) : okQueries x.Queries = true ∧ x.Fields.length = 3 ∧ ∀ f, f < 3 → x.Fields.getD f [] = stabIdx x.Queries (f : Int) := by
 unfold okIndex at h
 simp only [Bool.and_eq_true, decide_eq_true_eq] at h
 exact ⟨h.1.1, h.1.2, fun f hf => deq_iff.1 (List.all_eq_true.1 h.2 f (List.mem_range.2 hf))⟩
noncomputable def buildIdx (l : List Query) : Index := if okQueries l then ⟨l, [stabIdx l 0, stabIdx l 1, stabIdx l 2]⟩ else ⟨[], []⟩
theorem buildIdx_ok {l : List Query} (h : okQueries l = true) : okIndex (buildIdx l) = true := by
 unfold buildIdx
 rw [if_pos h]
 unfold okIndex
 rw [h]
 simp only [List.length_cons, List.length_nil, Bool.true_and, Bool.and_eq_true, decide_eq_true_eq]
 refine ⟨by decide, ?_⟩
 unfold idxTo
 rw [List.all_eq_true]
 intro f hf
 have := List.mem_range.1 hf
 have : f = 0 ∨ f = 1 ∨ f = 2 := by omega
 rcases this with rfl | rfl | rfl <;> exact deq_true rfl
def fieldsAt (l : List Query) (k : Nat) : List Int := (List.range k).map fun f : Nat => (f : Int)
noncomputable def fieldsTo (l : List Query) (k : Nat) : List (List Span) := (List.range k).map fun f : Nat => stabIdx l (f : Int)
def idsQ (l : List Query) : List Int := l.map Query.Id
def okOrder (o : List Int) : Bool := decide (o.length = 3) && (hasI o 0 && (hasI o 1 && hasI o 2))
theorem order_facts {o : List Int} (h : okOrder o = true) : o.length = 3 ∧ ∀ f ∈ o, 0 ≤ f ∧ f ≤ 2 := by
 unfold okOrder at h
 simp only [Bool.and_eq_true, decide_eq_true_eq] at h
 obtain ⟨h1, h2, h3, h4⟩ := h
 match o, h1 with
 | [a, b, c], _ =>
  simp [hasI] at h2 h3 h4
  refine ⟨rfl, fun f hf => ?_⟩
  simp at hf
  omega
def ordTo (o : List Int) (k : Nat) : Bool := (List.range k).all fun i => inB (o.getD i 0) 0 2 && !hasI (o.take i) (o.getD i 0)
theorem ordTo_succ {o : List Int} {k : Nat} : ordTo o (k + 1) = (ordTo o k && (inB (o.getD k 0) 0 2 && !hasI (o.take k) (o.getD k 0))) := by simp [ordTo, List.range_succ]
theorem ord_eq {o : List Int} (h : o.length = 3) : ordTo o 3 = okOrder o := by
 match o, h with
 | [a, b, c], _ =>
  rw [Bool.eq_iff_iff]
  simp [ordTo, okOrder, hasI, inB, List.range_succ]
  omega
theorem ord_no {o : List Int} {k : Nat} (hl : o.length = 3) (hk : k < 3) (h : (inB (o.getD k 0) 0 2 && !hasI (o.take k) (o.getD k 0)) = false) : okOrder o = false := by
 rw [← ord_eq hl, ← Bool.not_eq_true]
 intro hh
 have := List.all_eq_true.1 hh k (List.mem_range.2 hk)
 rw [h] at this; cases this
def probeOne (x : Index) (r : Row) (s : List Int × Int) (f : Int) : List Int × Int := if s.1 = [] then s else (MeetSetsF s.1 (findSpan (x.Fields.getD f.toNat []) (atI r.Values f)), s.2 + 1 + min (s.1.length : Int) ((findSpan (x.Fields.getD f.toNat []) (atI r.Values f)).length : Int))
def probeTo (x : Index) (r : Row) (o : List Int) (k : Nat) : List Int × Int := (o.take k).foldl (probeOne x r) (idsQ x.Queries, 0)
theorem probeTo_succ {x : Index} {r : Row} {o : List Int} {k : Nat} (hk : k < o.length) (h : (probeTo x r o k).1 ≠ []) : probeTo x r o (k + 1) = (MeetSetsF (probeTo x r o k).1 (findSpan (x.Fields.getD o[k].toNat []) (atI r.Values o[k])), (probeTo x r o k).2 + 1 + min ((probeTo x r o k).1.length : Int) ((findSpan (x.Fields.getD o[k].toNat []) (atI r.Values o[k])).length : Int)) := by
 unfold probeTo
 rw [List.take_succ_eq_append_getElem hk, List.foldl_append]
 show probeOne x r (probeTo x r o k) o[k] = _
 unfold probeOne
 rw [if_neg h]; rfl
theorem probe_stop {x : Index} {r : Row} : ∀ (o : List Int) (s : List Int × Int), s.1 = [] → o.foldl (probeOne x r) s = s
 | [], s, _ => rfl
 | f :: o, s, h => by
  rw [List.foldl_cons]
  have : probeOne x r s f = s := if_pos h
  rw [this]; exact probe_stop o s h
noncomputable def probeAll (x : Index) (r : Row) (o : List Int) : List Int × Int := o.foldl (probeOne x r) (idsQ x.Queries, 0)
theorem probe_end {x : Index} {r : Row} {o : List Int} {k : Nat} (h : k = o.length ∨ (probeTo x r o k).1 = []) : probeTo x r o k = probeAll x r o := by
 rcases h with rfl | h
 ·unfold probeTo probeAll; rw [List.take_length]
 ·unfold probeAll
  have e : o = o.take k ++ o.drop k := (List.take_append_drop _ _).symm
  conv => rhs; rw [e, List.foldl_append]
  exact (probe_stop _ _ h).symm
theorem probe_len {x : Index} (hx : x.Queries.length ≤ 24) (r : Row) (o : List Int) : ∀ k, (probeTo x r o k).1.length ≤ 24 ∧ 0 ≤ (probeTo x r o k).2 ∧ (probeTo x r o k).2 ≤ 25 * k
 | 0 => by refine ⟨?_, ?_, ?_⟩ <;> simp [probeTo, idsQ]; exact hx
 | k + 1 => by
  have ih := probe_len hx r o k
  by_cases hk : k < o.length
  ·by_cases h : (probeTo x r o k).1 = []
   ·have e : probeTo x r o (k + 1) = probeTo x r o k := by
     unfold probeTo
     rw [List.take_succ_eq_append_getElem hk, List.foldl_append]
     exact if_pos h
    rw [e]; omega
   ·rw [probeTo_succ hk h]
    have := MeetSetsF_len (probeTo x r o k).1 (findSpan (x.Fields.getD o[k].toNat []) (atI r.Values o[k]))
    dsimp only; omega
  ·have e : probeTo x r o (k + 1) = probeTo x r o k := by
    unfold probeTo
    rw [List.take_of_length_le (by omega), List.take_of_length_le (by omega)]
   rw [e]; omega
noncomputable def probeSet (x : Index) (r : Row) (o : List Int) : List Int × Int := if okIndex x && (okRow r && okOrder o) then probeAll x r o else ([], 0)
theorem probeAll_len {x : Index} (hx : x.Queries.length ≤ 24) (r : Row) (o : List Int) : (probeAll x r o).1.length ≤ 24 ∧ 0 ≤ (probeAll x r o).2 ∧ (probeAll x r o).2 ≤ 25 * o.length := by
 have := probe_len hx r o o.length
 rwa [probe_end (.inl rfl)] at this
noncomputable def matchSet (x : Index) (r : Row) : List Int := (probeSet x r [0, 1, 2]).1
end Go.Proofs.YteflgldonmgejaaGreat
