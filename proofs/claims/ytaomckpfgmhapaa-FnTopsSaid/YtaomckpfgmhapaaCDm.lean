/- Definitions and their laws. No condition. -/
import Derived.Test.YtaomckpfgmhapaaCDr
import Derived.Test.YtaomckpfgmhapaaCDi
set_option linter.unusedVariables false
set_option linter.unusedSimpArgs false
namespace Go.Proofs.Ytaomckpfgmhapaa
open Go Go.RowKit M
set_option maxRecDepth 10000
section
variable {β : Type} {lt : β → β → Bool}
theorem insL_head {x : β} : ∀ {m : List β}, (∀ z ∈ m, lt x z = true) → insL lt x m = x :: m
  | [], _ => rfl
  | y :: m, h => by rw [insL, if_pos (h y (List.mem_cons_self ..))]
theorem filter_ins (ho : Ord lt) {p : β → Bool} {x : β} (hp : p x = true) : ∀ {l : List β}, sortedL lt l → (insL lt x l).filter p = insL lt x (l.filter p)
  | [], _ => by simp [insL, hp]
  | y :: l, h => by
    have h' := List.pairwise_cons.1 h
    rw [insL]
    by_cases hxy : lt x y = true
    · rw [if_pos hxy, List.filter_cons, if_pos hp]
      have hl : ∀ z ∈ (y :: l).filter p, lt x z = true := fun z hz => by
        have hz := (List.mem_filter.1 hz).1
        rcases List.mem_cons.1 hz with rfl | hz
        · exact hxy
        · have h1 := h'.1 z hz
          by_cases k : lt x z = true
          · exact k
          · have := ho.ntrans (x := y) (y := z) (z := x) h1 (by simpa using k)
            rw [hxy] at this; cases this
      exact (insL_head hl).symm
    · rw [if_neg hxy, List.filter_cons, filter_ins ho hp h'.2, List.filter_cons]
      split
      · rw [insL, if_neg hxy]
      · rfl
theorem filter_ins_no {p : β → Bool} {x : β} (hp : p x = false) : ∀ l : List β, (insL lt x l).filter p = l.filter p
  | [] => by simp [insL, hp]
  | y :: l => by
    rw [insL]
    split
    · rw [List.filter_cons, if_neg (by rw [hp]; simp)]
    · rw [List.filter_cons, filter_ins_no hp l, List.filter_cons]
theorem filter_isort (ho : Ord lt) (hi : ∀ x, lt x x = false) (p : β → Bool) (l : List β) : (isort lt l).filter p = isort lt (l.filter p) := by
  refine snoc_ind (p := fun l => (isort lt l).filter p = isort lt (l.filter p)) rfl (fun l x ih => ?_) l
  rw [isort_snoc, List.filter_append]
  cases hp : p x with
  | true => rw [filter_ins ho hp (sorted_isort ho hi l), ih, List.filter_cons, if_pos hp, List.filter_nil, isort_snoc]
  | false => rw [filter_ins_no hp, ih, List.filter_cons, if_neg (by rw [hp]; simp), List.filter_nil, List.append_nil]
theorem stopN_le {P : Nat → Bool} : ∀ (d n : Nat), stopN P d n ≤ n + d
  | 0, n => Nat.le_refl _
  | d + 1, n => by
    rw [stopN]
    split
    · omega
    · have := stopN_le (P := P) d (n + 1)
      omega
end
section
variable {l : List Annotated} {ids : List Int} {f k id : Int} {S : List Annotated} {c N : Nat}
theorem topRows_stop (hid : id ∈ ids) (h : topFull S c ids N = true ∨ N = S.length) : topRows S c id N = topRows S c id S.length := by
  rcases h with h | h
  · have h1 : c ≤ (topRows S c id N).length := of_decide_eq_true (List.all_eq_true.1 h id hid)
    rw [topRows_len] at h1
    unfold topRows
    rw [List.take_length]
    have e : S.filter (fun a => hasI a.Set id) = (S.take N).filter (fun a => hasI a.Set id) ++ (S.drop N).filter (fun a => hasI a.Set id) := by
      rw [← List.filter_append, List.take_append_drop]
    rw [e, List.take_append_of_le_length (by omega)]
  · rw [h]
theorem annAll_route : annAll (routeR l id) 0 = (l.filter fun a => hasI a.Set id).map fun a => ⟨a.Row, [0]⟩ := by
  unfold annAll routeR
  rw [List.map_map]; rfl
theorem annOk_routed (h : annOk l f = true) : annOk (annAll (routeR l id) 0) f = true := by
  unfold annOk at h ⊢
  rw [Bool.and_eq_true] at h ⊢
  refine ⟨?_, h.2⟩
  rw [annAll_route]
  refine List.all_eq_true.2 fun a ha => ?_
  obtain ⟨b, hb, rfl⟩ := List.mem_map.1 ha
  exact List.all_eq_true.1 h.1 b (List.mem_filter.1 hb).1
theorem sortF_route (h : annOk l f = true) : sortF (annAll (routeR l id) 0) f = ((sortF l f).filter fun a => hasI a.Set id).map fun a => ⟨a.Row, [0]⟩ := by
  rw [sortF_ok (annOk_routed h), sortF_ok h, filter_isort (cmpF_ok f).ord (cmpF_ok f).irr, annAll_route]
  exact (isort_map (l1 := lessQ (cmpF f)) (l2 := lessQ (cmpF f)) (fun a : Annotated => (⟨a.Row, [0]⟩ : Annotated)) (fun _ _ => rfl) _).symm
theorem topAlone_route (h : annOk l f = true) (hk : inB k 1 100 = true) : topAlone (routeR l id) f k = topRows (sortF l f) k.toNat id (sortF l f).length := by
  rw [topAlone_ok hk]
  unfold alRows topRows
  rw [List.take_length, List.take_length, sortF_route h, ← List.map_take, List.map_map]; rfl
theorem topN_stop : topFull S c ids (topN S c ids) = true ∨ topN S c ids = S.length := by
  have := stopN_fin (P := topFull S c ids) (S.length - 0) 0
  unfold topN
  rcases this with h | h
  · exact .inl h
  · exact .inr (by omega)
theorem tops_at {i : Nat} (h : i < (topShared l ids f k).1.length) : ((topShared l ids f k).1[i]).Rows = topAlone (routeR l ((topShared l ids f k).1[i]).Id) f k ∧ (((topShared l ids f k).1[i]).Rows.length : Int) ≤ k := by
  by_cases h3 : annOk l f = true ∧ okSet ids = true ∧ inB k 1 100 = true
  · have hk : 1 ≤ k ∧ k ≤ 100 := by simpa [inB] using h3.2.2
    have hr := topShared_ok h3.1 h3.2.1 h3.2.2
    have hi : i < ids.length := by rw [hr] at h; exact topAt_len (S := sortF l f) ▸ h
    have e : (topShared l ids f k).1[i] = ⟨ids[i], topRows (sortF l f) k.toNat ids[i] (topN (sortF l f) k.toNat ids)⟩ := by
      have e2 : (topShared l ids f k).1[i]? = some ⟨ids[i], topRows (sortF l f) k.toNat ids[i] (topN (sortF l f) k.toNat ids)⟩ := by
        rw [hr]; unfold topAt
        rw [List.getElem?_map, List.getElem?_eq_getElem hi]; rfl
      exact (List.getElem?_eq_some_iff.1 e2).2
    rw [e]
    dsimp only
    rw [topAlone_route h3.1 h3.2.2]
    refine ⟨topRows_stop (List.getElem_mem hi) topN_stop, ?_⟩
    have := topRows_le (S := sortF l f) (c := k.toNat) (id := ids[i]) (n := topN (sortF l f) k.toNat ids)
    omega
  · rw [topShared_no h3] at h
    exact absurd h (Nat.not_lt_zero _)
theorem tops_fin : (topShared l ids f k).2 ≤ (l.length : Int) ∧ ((topShared l ids f k).1.length = 0 ∨ (topShared l ids f k).1.all (fun r => decide ((r.Rows.length : Int) = k)) = true ∨ (topShared l ids f k).2 = (l.length : Int)) := by
  by_cases h3 : annOk l f = true ∧ okSet ids = true ∧ inB k 1 100 = true
  · have hk : 1 ≤ k ∧ k ≤ 100 := by simpa [inB] using h3.2.2
    have hr := topShared_ok h3.1 h3.2.1 h3.2.2
    have hl : (sortF l f).length = l.length := by rw [sortF_ok h3.1, isort_len]
    have hle := stopN_le (P := topFull (sortF l f) k.toNat ids) ((sortF l f).length - 0) 0
    have hn : topN (sortF l f) k.toNat ids ≤ l.length := by unfold topN; omega
    rw [hr]
    refine ⟨by dsimp only; omega, ?_⟩
    rcases topN_stop (S := sortF l f) (c := k.toNat) (ids := ids) with h | h
    · refine .inr (.inl ?_)
      unfold topAt
      rw [List.all_map]
      refine List.all_eq_true.2 fun id hid => decide_eq_true ?_
      have h1 : k.toNat ≤ (topRows (sortF l f) k.toNat id (topN (sortF l f) k.toNat ids)).length := of_decide_eq_true (List.all_eq_true.1 h id hid)
      have h2 := topRows_le (S := sortF l f) (c := k.toNat) (id := id) (n := topN (sortF l f) k.toNat ids)
      dsimp only
      omega
    · exact .inr (.inr (by dsimp only; omega))
  · rw [topShared_no h3]
    exact ⟨by dsimp only; omega, .inl rfl⟩
theorem all_tk {α : Type} {P : α → Bool} {xs : List α} {k : Nat} (hk : k < xs.length) : (xs.take (k + 1)).all P = ((xs.take k).all P && P xs[k]) := by
  rw [List.take_succ_eq_append_getElem hk, List.all_append]; simp
end

end Go.Proofs.Ytaomckpfgmhapaa
