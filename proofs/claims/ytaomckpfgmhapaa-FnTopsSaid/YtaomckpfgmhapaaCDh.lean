/- Definitions and their laws. No condition. -/
import Derived.Test.YtaomckpfgmhapaaCDg
set_option linter.unusedVariables false
set_option linter.unusedSimpArgs false
namespace Go.Proofs.Ytaomckpfgmhapaa
open Go Go.RowKit M
set_option maxRecDepth 10000
def mvc (b : Bool) (p : PV) : PV := bif b then p else PV.any
theorem lcl_mvc {L : Nat → Prop} {b : Bool} {p : PV} (h : p.Lcl L) : (mvc b p).Lcl L := by
  cases b with
  | false => exact PV.lcl_any
  | true => exact h
def mvs {α : Type} (S : List α) (i : Nat) : List (α × Bool) := (S.take i).map (fun x => (x, false)) ++ (S.drop i).map (fun x => (x, true))
section
variable {α : Type} {S : List α} {i : Nat}
theorem mvs_len : (mvs S i).length = S.length := by
  unfold mvs
  rw [List.length_append, List.length_map, List.length_map, ← List.length_append, List.take_append_drop]
theorem mvs_split (h : i < S.length) : mvs S i = (S.take i).map (fun x => (x, false)) ++ (S[i], true) :: (S.drop (i + 1)).map (fun x => (x, true)) := by
  unfold mvs
  rw [List.drop_eq_getElem_cons h]; rfl
theorem mvs_next (h : i < S.length) : mvs S (i + 1) = (S.take i).map (fun x => (x, false)) ++ (S[i], false) :: (S.drop (i + 1)).map (fun x => (x, true)) := by
  unfold mvs
  rw [List.take_succ_eq_append_getElem h, List.map_append, List.append_assoc]; rfl
theorem mvs_tlen (h : i < S.length) : ((S.take i).map fun x => (x, false)).length = i := by rw [List.length_map, List.length_take]; omega
theorem mvs_at (h : i < S.length) {h2 : i < (mvs S i).length} : (mvs S i)[i] = (S[i], true) := by
  have e : (mvs S i)[i]? = some (S[i], true) := by
    rw [mvs_split h, List.getElem?_append_right (by rw [mvs_tlen h]; exact Nat.le_refl _), mvs_tlen h, Nat.sub_self]; rfl
  exact (List.getElem?_eq_some_iff.1 e).2
theorem mvs_set (h : i < S.length) : (mvs S i).set i (S[i], false) = mvs S (i + 1) := by
  rw [mvs_split h, mvs_next h, List.set_append_right _ _ (by rw [mvs_tlen h]; exact Nat.le_refl _), mvs_tlen h, Nat.sub_self]; rfl
theorem mvs_zero {f : α → List PV} {g : α × Bool → List PV} (h : ∀ x, g (x, true) = f x) : (mvs S 0).map g = S.map f := by
  unfold mvs
  rw [List.take_zero, List.map_nil, List.nil_append, List.drop_zero, List.map_map]
  exact congrArg (fun q => S.map q) (funext h)
end
def alRows (S : List Annotated) (c n : Nat) : List Row := ((S.take n).take c).map fun a => a.Row
def topAlone (rows : List Row) (f c : Int) : List Row := if inB c 1 100 then alRows (sortF (annAll rows 0) f) c.toNat (sortF (annAll rows 0) f).length else []
section
variable {S : List Annotated} {c n : Nat}
theorem alRows_zero : alRows S c 0 = [] := by unfold alRows; simp
theorem alRows_len : (alRows S c n).length ≤ n := by
  unfold alRows
  rw [List.length_map, List.length_take, List.length_take]; omega
theorem alRows_le : (alRows S c n).length ≤ c := by
  unfold alRows
  rw [List.length_map, List.length_take]; omega
theorem alRows_yes (hn : n < S.length) (h : n < c) : alRows S c (n + 1) = alRows S c n ++ [S[n].Row] := by
  unfold alRows
  rw [List.take_take, List.take_take, Nat.min_eq_right (by omega), Nat.min_eq_right (by omega), List.take_succ_eq_append_getElem hn, List.map_append]; rfl
theorem alRows_no (h : c ≤ n) : alRows S c (n + 1) = alRows S c n := by
  unfold alRows
  rw [List.take_take, List.take_take, Nat.min_eq_left (by omega), Nat.min_eq_left (by omega)]
theorem topAlone_ok {rows : List Row} {f k : Int} (h : inB k 1 100 = true) : topAlone rows f k = alRows (sortF (annAll rows 0) f) k.toNat (sortF (annAll rows 0) f).length := if_pos h
theorem topAlone_no {rows : List Row} {f k : Int} (h : inB k 1 100 = false) : topAlone rows f k = [] := if_neg (by rw [h]; simp)
theorem stopN_fin {P : Nat → Bool} : ∀ (d n : Nat), P (stopN P d n) = true ∨ stopN P d n = n + d
  | 0, n => .inr rfl
  | d + 1, n => by
    rw [stopN]
    split
    · rename_i h; exact .inl h
    · rcases stopN_fin d (n + 1) with h | h
      · exact .inl h
      · exact .inr (by omega)
theorem topRows_all (h : ∀ a ∈ S, hasI a.Set 0 = true) : topRows S c 0 n = alRows S c n := by
  unfold topRows alRows
  rw [List.filter_eq_self.2 fun a ha => h a (List.mem_of_mem_take ha)]
theorem sortF_mem {l : List Annotated} {f : Int} {a : Annotated} (h : a ∈ sortF l f) : a ∈ l := by
  unfold sortF at h
  split at h
  · exact (perm_isort _).mem_iff.1 h
  · exact absurd h (List.not_mem_nil)
theorem annAll_has {rows : List Row} {f : Int} : ∀ a ∈ sortF (annAll rows 0) f, hasI a.Set 0 = true := fun a ha => by
  obtain ⟨r, _, rfl⟩ := List.mem_map.1 (sortF_mem ha)
  rfl
theorem topAlone_top {rows : List Row} {f k : Int} (h1 : annOk (annAll rows 0) f = true) (h3 : inB k 1 100 = true) : (topShared (annAll rows 0) [0] f k).1 = [⟨0, topAlone rows f k⟩] := by
  have hk : 1 ≤ k ∧ k ≤ 100 := by simpa [inB] using h3
  rw [topShared_ok h1 (by rfl) h3, topAlone_ok h3]
  show [(⟨0, topRows _ _ 0 _⟩ : Routed)] = _
  rw [topRows_all annAll_has]
  have hN := stopN_fin (P := topFull (sortF (annAll rows 0) f) k.toNat [0]) ((sortF (annAll rows 0) f).length - 0) 0
  rcases hN with hN | hN
  · have h4 := List.all_eq_true.1 hN 0 (by simp)
    rw [topRows_all annAll_has] at h4
    have h5 : k.toNat ≤ (alRows (sortF (annAll rows 0) f) k.toNat (topN (sortF (annAll rows 0) f) k.toNat [0])).length := of_decide_eq_true h4
    have e : alRows (sortF (annAll rows 0) f) k.toNat (topN (sortF (annAll rows 0) f) k.toNat [0]) = alRows (sortF (annAll rows 0) f) k.toNat (sortF (annAll rows 0) f).length := by
      unfold alRows at h5 ⊢
      rw [List.length_map, List.length_take, List.length_take] at h5
      rw [List.take_take, List.take_take, Nat.min_eq_left (by omega), Nat.min_eq_left (by omega)]
    rw [e]
  · have e : topN (sortF (annAll rows 0) f) k.toNat [0] = (sortF (annAll rows 0) f).length := by unfold topN; omega
    rw [e]
theorem topAlone_none {rows : List Row} {f k : Int} (h : ¬ (annOk (annAll rows 0) f = true ∧ inB k 1 100 = true)) : topAlone rows f k = [] ∧ (topShared (annAll rows 0) [0] f k).1 = [] := by
  refine ⟨?_, by rw [topShared_no fun hh => h ⟨hh.1, hh.2.2⟩]⟩
  by_cases h3 : inB k 1 100 = true
  · have h1 : annOk (annAll rows 0) f = false := by simpa using fun e => h ⟨e, h3⟩
    rw [topAlone_ok h3, sortF_no h1]; exact alRows_zero
  · exact topAlone_no (by simpa using h3)
theorem alRows_wt (S : List Annotated) (c n : Nat) : wtRowS (alRows S c n) ≤ wtAnnotatedS S := by
  have h1 : ((S.take n).take c).Sublist S := (List.take_sublist _ _).trans (List.take_sublist _ _)
  have h2 := sum_sub (h1.map wtAnnotated)
  have h3 := h1.length_le
  unfold wtRowS wtAnnotatedS alRows
  rw [List.length_map, List.map_map]
  have h4 : ∀ l : List Annotated, (l.map (wtRow ∘ fun a => a.Row)).sum ≤ (l.map wtAnnotated).sum := fun l => by
    induction l with
    | nil => exact Nat.le_refl _
    | cons a l ih =>
      have : wtRow a.Row ≤ wtAnnotated a := by unfold wtAnnotated; omega
      simp only [List.map_cons, List.sum_cons, Function.comp]
      have ih' : (l.map (wtRow ∘ fun a => a.Row)).sum ≤ (l.map wtAnnotated).sum := ih
      omega
  have h5 := h4 ((S.take n).take c)
  omega
theorem annAll_wt (rows : List Row) : wtAnnotatedS (annAll rows 0) ≤ 2 * wtRowS rows := by
  unfold wtAnnotatedS wtRowS
  rw [annAll_len]
  have h : ((annAll rows 0).map wtAnnotated).sum = (rows.map wtRow).sum + rows.length := by
    induction rows with
    | nil => rfl
    | cons r rows ih =>
      have e : ((annAll (r :: rows) 0).map wtAnnotated).sum = wtAnnotated ⟨r, [0]⟩ + ((annAll rows 0).map wtAnnotated).sum := rfl
      have e2 : wtAnnotated ⟨r, [0]⟩ = wtRow r + 1 := by simp [wtAnnotated, wtIntS_len]
      rw [e, ih, e2, List.map_cons, List.sum_cons, List.length_cons]; omega
  omega
theorem topAlone_wt (rows : List Row) (f k : Int) : wtRowS (topAlone rows f k) ≤ 2 * wtRowS rows := by
  unfold topAlone
  split
  · exact Nat.le_trans (Nat.le_trans (alRows_wt _ _ _) (sortF_wt _ _)) (annAll_wt rows)
  · exact Nat.zero_le _
end
def cMvA (x : Annotated × Bool) : List PV := [PV.val (vI x.1.Row.Id), mvc x.2 (PV.sl (.own 3 1) (x.1.Row.Values.map cInt)), mvc x.2 (PV.sl (.own 3 1) (x.1.Set.map cInt))]

end Go.Proofs.Ytaomckpfgmhapaa
