/- Definitions and their laws. No condition. -/
import Derived.Test.YteflgldonmgejaaGreatCDe
set_option linter.unusedVariables false
set_option linter.unusedSimpArgs false
namespace Go.Proofs.YteflgldonmgejaaGreat
open Go Go.RowKit M
set_option maxRecDepth 10000
theorem adj_pw {α : Type} {d : α} {p : α → Bool} {key : α → Int} {l : List α} (h : adjAll d p (fun a b => decide (key a < key b)) l = true) : l.Pairwise (fun a b => key a < key b) := by
 have step : ∀ j : Nat, (hj : j + 1 < l.length) → key l[j] < key l[j + 1] := fun j hj => by
  have h1 := List.all_eq_true.1 h (j + 1) (List.mem_range.2 hj)
  rw [Bool.and_eq_true, getD_at hj, show j + 1 - 1 = j from rfl, getD_at (show j < l.length by omega)] at h1
  have h2 := h1.2
  simpa using h2
 have lt : ∀ (j i : Nat) (hj : j < l.length) (hi : i < j), key l[i] < key l[j] := by
  intro j
  induction j with
  | zero => intro i _ hi; omega
  | succ j ih =>
   intro i hj hi
   have h1 := step j hj
   rcases Nat.lt_or_ge i j with h2 | h2
   ·have := ih i (by omega) h2; omega
   ·have : i = j := by omega
    subst this; exact h1
 rw [List.pairwise_iff_getElem]
 exact fun i j hi hj hij => lt j i hj hij
theorem okSet_of {l : List Int} (h : ∀ x ∈ l, 0 ≤ x ∧ x ≤ 23) (hp : l.Pairwise (· < ·)) : okSet l = true := by
 unfold okSet
 rw [List.all_eq_true]
 intro i hi
 have hi := List.mem_range.1 hi
 rw [List.pairwise_iff_getElem] at hp
 refine okStep.2 ?_
 rw [show l.getD i 0 = l[i] by simp [hi]]
 have := h _ (List.getElem_mem hi)
 refine ⟨this.1, this.2, ?_⟩
 rcases Nat.eq_zero_or_pos i with h0 | h0
 ·exact .inl h0
 ·right
  rw [show l.getD (i - 1) 0 = l[i - 1]'(by omega) by simp [show i - 1 < l.length by omega]]
  exact hp (i - 1) i (by omega) hi (by omega)
theorem find_skip {l : List Span} {s : Span} {v : Int} (h : inSpan v s = false) : findSpan (l ++ [s]) v = findSpan l v := by
 unfold findSpan
 rw [List.find?_append]
 cases hf : l.find? (inSpan v) with
 | some t => rfl
 | none => simp [h]
theorem find_last {l : List Span} {s : Span} {v : Int} (hl : ∀ t ∈ l, inSpan v t = false) (h : inSpan v s = true) : findSpan (l ++ [s]) v = s.Set := by
 unfold findSpan
 rw [List.find?_append, List.find?_eq_none.2 (fun t ht => by simp [hl t ht])]
 simp [h]
structure SpanInv (l : List Query) (f : Int) (k : Nat) (out : List Span) : Prop where
 none : k = 0 → out = []
 some : 0 < k → ∃ (a : List Span) (s : Span), out = a ++ [s] ∧ s.To = (k : Int) - 1 ∧ s.From ≤ (k : Int) - 1 ∧ (∀ v : Int, s.From ≤ v → v ≤ (k : Int) - 1 → stabS l f v = s.Set) ∧ (∀ t ∈ a, t.To < s.From) ∧ (∀ v : Int, 0 ≤ v → v < s.From → findSpan a v = stabS l f v)
theorem SpanInv.find {l : List Query} {f : Int} {k : Nat} {out : List Span} (h : SpanInv l f k out) {v : Int} (h0 : 0 ≤ v) (hv : v < k) : findSpan out v = stabS l f v := by
 obtain ⟨a, s, rfl, h1, h2, h3, h4, h5⟩ := h.some (by omega)
 by_cases hc : s.From ≤ v
 ·rw [find_last (fun t ht => by have := h4 t ht; simp [inSpan, inB]; omega) (by simp [inSpan, inB]; omega), h3 v hc (by omega)]
 ·rw [find_skip (by simp [inSpan, inB]; omega), h5 v h0 (by omega)]
theorem spans_inv (l : List Query) (f : Int) : ∀ k : Nat, SpanInv l f k (spansTo l f k)
 | 0 => ⟨fun _ => rfl, fun h => absurd h (Nat.lt_irrefl 0)⟩
 | k + 1 => by
  have ih := spans_inv l f k
  refine ⟨fun h => by omega, fun _ => ?_⟩
  rw [spansTo]
  have fresh : ∃ (a : List Span) (s : Span), spansTo l f k ++ [⟨(k : Int), (k : Int), stabS l f k⟩] = a ++ [s] ∧ s.To = ((k + 1 : Nat) : Int) - 1 ∧ s.From ≤ ((k + 1 : Nat) : Int) - 1 ∧ (∀ v : Int, s.From ≤ v → v ≤ ((k + 1 : Nat) : Int) - 1 → stabS l f v = s.Set) ∧ (∀ t ∈ a, t.To < s.From) ∧ (∀ v : Int, 0 ≤ v → v < s.From → findSpan a v = stabS l f v) := by
   refine ⟨_, _, rfl, by dsimp only; omega, by dsimp only; omega, fun v h1 h2 => ?_, fun t ht => ?_, fun v h1 h2 => ih.find h1 h2⟩
   ·dsimp only at h1 ⊢
    rw [show v = (k : Int) by omega]
   ·dsimp only
    rcases Nat.eq_zero_or_pos k with h0 | h0
    ·rw [ih.none h0] at ht; cases ht
    ·obtain ⟨a, s, he, h1, h2, _, h4, _⟩ := ih.some h0
     rw [he] at ht
     rcases List.mem_append.1 ht with ht | ht
     ·have := h4 t ht; omega
     ·simp at ht; subst ht; omega
  unfold spanNext
  split
  ·rename_i hl
   rcases Nat.eq_zero_or_pos k with h0 | h0
   ·rw [ih.none h0] at hl; cases hl
   ·obtain ⟨a, s, he, h1, h2, h3, h4, h5⟩ := ih.some h0
    rw [he] at hl ⊢
    have hlen : (a ++ [s]).length - 1 = a.length := by simp
    have hg : (a ++ [s]).getD a.length sp0 = s := by simp
    unfold lastIs at hl
    rw [hlen, hg, Bool.and_eq_true] at hl
    have hs : s.Set = stabS l f k := deq_iff.1 hl.2
    rw [hlen, hg, List.set_append_right (h := Nat.le_refl _), Nat.sub_self, List.set_cons_zero]
    refine ⟨a, _, rfl, by dsimp only; omega, by dsimp only; omega, fun v k1 k2 => ?_, h4, h5⟩
    dsimp only at k1 ⊢
    by_cases hk : v = (k : Int)
    ·rw [hk, hs]
    ·exact h3 v k1 (by omega)
  ·exact fresh
theorem find_stab {l : List Query} {f v : Int} (hl : okQueries l = true) (hf : 0 ≤ f ∧ f ≤ 2) (hv : 0 ≤ v ∧ v ≤ 99) : findSpan (stabIdx l f) v = stabS l f v := by
 have hc : (okQueries l && inB f 0 2) = true := by rw [hl, Bool.true_and]; exact inB_iff.2 hf
 unfold stabIdx
 rw [if_pos hc]
 have h := spans_inv l f 100
 generalize spansTo l f 100 = out at h ⊢
 exact h.find hv.1 (by omega)
theorem queries_pw {l : List Query} (h : okQueries l = true) : l.Pairwise (fun a b => a.Id < b.Id) := by
 unfold okQueries at h
 rw [Bool.and_eq_true] at h
 exact adj_pw h.1
theorem query_id {q : Query} (h : okQuery q = true) : 0 ≤ q.Id ∧ q.Id ≤ 23 := by
 unfold okQuery at h
 simp only [Bool.and_eq_true, inB, decide_eq_true_eq] at h
 exact h.1.1
theorem okSet_ids {l : List Query} (h : okQueries l = true) (P : Query → Bool) : okSet ((l.filter P).map Query.Id) = true := by
 refine okSet_of (fun x hx => ?_) ?_
 ·obtain ⟨q, hq, rfl⟩ := List.mem_map.1 hx
  exact query_id ((okQs h).2 q (List.mem_filter.1 hq).1)
 ·rw [List.pairwise_map]
  exact (queries_pw h).filter P
theorem pw_inj {α : Type} {key : α → Int} {l : List α} (h : l.Pairwise (fun a b => key a < key b)) {a b : α} (ha : a ∈ l) (hb : b ∈ l) (he : key a = key b) : a = b := by
 obtain ⟨i, hi, rfl⟩ := List.mem_iff_getElem.1 ha
 obtain ⟨j, hj, rfl⟩ := List.mem_iff_getElem.1 hb
 rw [List.pairwise_iff_getElem] at h
 rcases Nat.lt_trichotomy i j with h1 | h1 | h1
 ·have := h i j hi hj h1; omega
 ·subst h1; rfl
 ·have := h j i hj hi h1; omega
theorem has_ids {l : List Query} (h : okQueries l = true) (P : Query → Bool) {q : Query} (hq : q ∈ l) : hasI ((l.filter P).map Query.Id) q.Id = P q := by
 rw [Bool.eq_iff_iff, mem_hasI, List.mem_map]
 constructor
 ·rintro ⟨r, hr, he⟩
  have hr := List.mem_filter.1 hr
  rw [← pw_inj (queries_pw h) hr.1 hq he]; exact hr.2
 ·intro hp
  exact ⟨q, List.mem_filter.2 ⟨hq, hp⟩, rfl⟩
theorem meet_ids {l : List Query} (h : okQueries l = true) (P A : Query → Bool) : MeetSetsF ((l.filter P).map Query.Id) ((l.filter A).map Query.Id) = (l.filter fun q => P q && A q).map Query.Id := by
 unfold MeetSetsF
 rw [okSet_ids h P, okSet_ids h A, Bool.and_self, if_pos rfl, ← meet_eq (okSet_ids h P), List.filter_map, List.filter_filter]
 congr 1
 refine List.filter_congr fun q hq => ?_
 show (hasI ((l.filter A).map Query.Id) q.Id && P q) = _
 rw [has_ids h A hq, Bool.and_comm]
theorem probe_fold {l : List Query} {x : Index} {r : Row} (hl : okQueries l = true) (hx : ∀ f : Int, 0 ≤ f → f ≤ 2 → x.Fields.getD f.toNat [] = stabIdx l f) (hv : ∀ f : Int, 0 ≤ f → f ≤ 2 → 0 ≤ atI r.Values f ∧ atI r.Values f ≤ 99) : ∀ (o : List Int) (P : Query → Bool) (s : List Int × Int), (∀ f ∈ o, 0 ≤ f ∧ f ≤ 2) → s.1 = (l.filter P).map Query.Id → (o.foldl (probeOne x r) s).1 = (l.filter fun q => P q && o.all fun f => admitsV q f (atI r.Values f)).map Query.Id
 | [], P, s, _, hs => by rw [List.foldl_nil, hs]; simp
 | f :: o, P, s, ho, hs => by
  rw [List.foldl_cons]
  have hf := ho f (List.mem_cons_self ..)
  have hn : (probeOne x r s f).1 = (l.filter fun q => P q && admitsV q f (atI r.Values f)).map Query.Id := by
   unfold probeOne
   split
   ·rename_i h0
    rw [h0] at hs
    rw [h0, eq_comm, List.map_eq_nil_iff, List.filter_eq_nil_iff]
    intro q hq hp
    rw [Bool.and_eq_true] at hp
    have : q.Id ∈ (l.filter P).map Query.Id := List.mem_map_of_mem (List.mem_filter.2 ⟨hq, hp.1⟩)
    rw [← hs] at this; cases this
   ·dsimp only
    rw [hs, hx f hf.1 hf.2, find_stab hl hf (hv f hf.1 hf.2)]
    exact meet_ids hl P _
  rw [probe_fold hl hx hv o _ _ (fun g hg => ho g (List.mem_cons_of_mem _ hg)) hn]
  congr 1
  refine List.filter_congr fun q _ => ?_
  rw [List.all_cons, Bool.and_assoc]
theorem order_all {o : List Int} (h : okOrder o = true) : (0 : Int) ∈ o ∧ (1 : Int) ∈ o ∧ (2 : Int) ∈ o := by
 unfold okOrder at h
 simp only [Bool.and_eq_true, mem_hasI] at h
 exact h.2
theorem row_val {r : Row} (h : okRow r = true) {f : Int} (h0 : 0 ≤ f) (h2 : f ≤ 2) : 0 ≤ atI r.Values f ∧ atI r.Values f ≤ 99 := by
 have hl := rowLen h
 unfold okRow at h
 simp only [Bool.and_eq_true] at h
 have hlt : f.toNat < r.Values.length := by omega
 have := List.all_eq_true.1 h.1 _ (List.getElem_mem hlt)
 unfold atI
 rw [getD_at hlt]
 exact inB_iff.1 this
theorem match_all {o : List Int} {q : Query} {r : Row} (ho : okOrder o = true) (hr : okRow r = true) (hq : okQuery q = true) : (o.all fun f => admitsV q f (atI r.Values f)) = matchRow q r := by
 rw [Bool.eq_iff_iff, List.all_eq_true]
 unfold matchRow
 rw [hr, hq, Bool.and_self, Bool.true_and, List.all_eq_true]
 constructor
 ·intro h c hc
  have hf := condField hq hc
  have hfo : c.Field ∈ o := by
   have := order_all ho
   have : c.Field = 0 ∨ c.Field = 1 ∨ c.Field = 2 := by omega
   rcases this with h | h | h <;> rw [h] <;> simp_all
  have := List.all_eq_true.1 (h _ hfo) c hc
  simpa [admC, condOk] using this
 ·intro h f _
  unfold admitsV
  rw [List.all_eq_true]
  intro c hc
  have := h c hc
  unfold admC
  by_cases he : c.Field = f
  ·subst he; unfold condOk at this; simp [this]
  ·simp [he]
theorem probe_has {l : List Query} {r : Row} {o : List Int} {q : Query} (hl : okQueries l = true) (hr : okRow r = true) (ho : okOrder o = true) (hq : q ∈ l) : hasI (probeAll (buildIdx l) r o).1 q.Id = matchRow q r := by
 have hb : buildIdx l = ⟨l, [stabIdx l 0, stabIdx l 1, stabIdx l 2]⟩ := if_pos hl
 rw [hb]
 unfold probeAll
 rw [probe_fold (l := l) hl (fun f h0 h2 => by
  have : f = 0 ∨ f = 1 ∨ f = 2 := by omega
  rcases this with rfl | rfl | rfl <;> rfl) (fun f h0 h2 => row_val hr h0 h2) o (fun _ => true) _ (order_facts ho).2 (by
   show l.map Query.Id = _
   rw [List.filter_eq_self.2 (fun _ _ => rfl)]), has_ids hl _ hq, Bool.true_and, match_all ho hr ((okQs hl).2 q hq)]
end Go.Proofs.YteflgldonmgejaaGreat
