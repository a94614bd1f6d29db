/- Definitions and their laws. No condition. -/
import Derived.Test.YtmkhofdkdklpdaaGreatCDt
set_option linter.unusedVariables false
set_option linter.unusedSimpArgs false
namespace Go.Proofs.YtmkhofdkdklpdaaGreat
open Go Go.RowKit M
set_option maxRecDepth 10000
theorem at_set {l : List Int} {i k : Nat} {v : Int} (hi : i < l.length) : atI (l.set i v) (k : Int) = if k = i then v else atI l (k : Int) := by
  unfold atI
  rw [Int.toNat_natCast, List.getD_eq_getElem?_getD, List.getElem?_set, List.getD_eq_getElem?_getD]
  by_cases h : k = i
  · subst h; simp [hi]
  · rw [if_neg (fun e => h e.symm), if_neg h]
theorem getD_set {α : Type} {l : List α} {i k : Nat} {v d : α} (hi : i < l.length) : (l.set i v).getD k d = if k = i then v else l.getD k d := by
  rw [List.getD_eq_getElem?_getD, List.getElem?_set, List.getD_eq_getElem?_getD]
  by_cases h : k = i
  · subst h; simp [hi]
  · rw [if_neg (fun e => h e.symm), if_neg h]
def NodeP (c : Cluster) (n : Int) : Prop :=
  (atI c.At n = -1 ∧ atI c.Pos n = 0 ∧ bufAt c n = []) ∨
  (atI c.At n ≠ -1 ∧ (0 ≤ atI c.At n ∧ atI c.At n < c.Parts.length) ∧ upAt c n = true ∧ atI c.At n ∉ c.Done ∧ (homeOf (atI c.At n) c.Up.length = n ∨ backupOf (atI c.At n) c.Up.length = n) ∧
    (0 ≤ atI c.Pos n ∧ atI c.Pos n ≤ (partAt c (atI c.At n)).length) ∧ bufAt c n = found c.Query ((partAt c (atI c.At n)).take (atI c.Pos n).toNat))
theorem nodeB_iff {c : Cluster} {n : Int} : nodeB c n = true ↔ NodeP c n := by
  unfold nodeB NodeP
  by_cases h : atI c.At n = -1
  · rw [if_pos h]
    simp [h]
  · rw [if_neg h]
    simp only [Bool.and_eq_true, Bool.or_eq_true, decide_eq_true_eq, deq_iff, inB_iff, Bool.not_eq_true', hasI_no]
    constructor
    · rintro ⟨h1, h2, h3, h4, h5, h6⟩
      exact .inr ⟨h, by omega, h2, h3, h4, h5, h6⟩
    · rintro (⟨h1, _⟩ | ⟨_, h1, h2, h3, h4, h5, h6⟩)
      · exact absurd h1 h
      · exact ⟨by omega, h2, h3, h4, h5, h6⟩
theorem lone_iff {c : Cluster} {k : Nat} (hk : k < c.At.length) : loneB c (k : Int) = true ↔ (atI c.At (k : Int) ≠ -1 → ∀ j : Nat, j < k → atI c.At (j : Int) ≠ atI c.At (k : Int)) := by
  unfold loneB
  rw [Bool.or_eq_true, decide_eq_true_eq, Bool.not_eq_true', Int.toNat_natCast, hasI_no]
  constructor
  · rintro (h | h) hne j hj he
    · exact hne h
    · refine h (he ▸ ?_)
      rw [← atN (show j < c.At.length by omega)]
      exact List.mem_iff_getElem.2 ⟨j, by rw [List.length_take]; omega, List.getElem_take⟩
  · intro h
    by_cases hne : atI c.At (k : Int) = -1
    · exact .inl hne
    · right
      intro hm
      obtain ⟨j, hj, hx⟩ := List.mem_iff_getElem.1 hm
      rw [List.length_take] at hj
      rw [List.getElem_take, atN (by omega)] at hx
      exact h hne j (by omega) hx
structure ClF (c : Cluster) : Prop where
  head : headB c
  asc_ : asc c.Done
  don : ∀ x ∈ c.Done, 0 ≤ x ∧ x < c.Parts.length
  row : ∀ i : Nat, i < c.Parts.length → c.Rows.getD i [] = if (i : Int) ∈ c.Done then found c.Query (c.Parts.getD i []) else []
  node : ∀ k : Nat, k < c.Up.length → NodeP c (k : Int)
  lone : ∀ j k : Nat, j < k → k < c.Up.length → atI c.At (k : Int) ≠ -1 → atI c.At (j : Int) ≠ atI c.At (k : Int)
theorem rowOk_iff {c : Cluster} {i : Nat} : rowOk c (i : Int) = true ↔ c.Rows.getD i [] = if (i : Int) ∈ c.Done then found c.Query (c.Parts.getD i []) else [] := by
  unfold rowOk rowsAt partAt
  rw [deq_iff, Int.toNat_natCast]
  by_cases h : (i : Int) ∈ c.Done
  · rw [if_pos h, if_pos (hasI_iff.2 h)]
  · rw [if_neg h, if_neg (by rw [hasI_no.2 h]; simp)]
theorem clF_of {c : Cluster} (h : isCl c = true) : ClF c := by
  have h0 := isCl_iff.1 h
  have hl := clLen h
  refine ⟨h0.1, done_asc h, fun x hx => ?_, fun i hi => rowOk_iff.1 (h0.2.2.1 i hi), fun k hk => ?_, fun j k hj hk hne => ?_⟩
  · obtain ⟨i, hi, rfl⟩ := List.mem_iff_getElem.1 hx
    exact done_in h i hi
  · have := h0.2.2.2 k hk
    unfold nodeI at this
    rw [Bool.and_eq_true] at this
    exact nodeB_iff.1 this.1
  · have := h0.2.2.2 k hk
    unfold nodeI at this
    rw [Bool.and_eq_true] at this
    exact (lone_iff (by omega)).1 this.2 hne j hj
theorem of_clF {c : Cluster} (h : ClF c) : isCl c = true := by
  have hh := h.head
  refine isCl_iff.2 ⟨hh, ?_, fun i hi => rowOk_iff.2 (h.row i hi), fun k hk => ?_⟩
  · unfold adjAll adjTo
    rw [List.all_eq_true]
    intro i hi
    have hi := List.mem_range.1 hi
    refine adjStep.2 ⟨?_, ?_⟩
    · rw [getD_at hi]
      have := h.don _ (List.getElem_mem hi)
      exact inB_iff.2 (by omega)
    · rcases Nat.eq_zero_or_pos i with h0 | h0
      · exact .inl h0
      · right
        rw [getD_at hi, getD_at (show i - 1 < c.Done.length by omega)]
        have h1 := h.asc_ (i - 1) (by omega)
        have e : i - 1 + 1 = i := by omega
        simp only [e] at h1
        simpa [ltI] using h1
  · unfold nodeI
    rw [Bool.and_eq_true]
    have := hh.2.1
    exact ⟨nodeB_iff.2 (h.node k hk), (lone_iff (by omega)).2 fun hne j hj => h.lone j k hj hk hne⟩
theorem first_ok {P : Int → Bool} : ∀ {m lo : Nat}, firstIx P lo m ≠ -1 → ∃ i : Nat, firstIx P lo m = (i : Int) ∧ i < lo + m ∧ P (i : Int) = true
  | 0, lo, h => absurd rfl h
  | m + 1, lo, h => by
    rw [firstIx] at h ⊢
    by_cases hp : P (lo : Int) = true
    · rw [if_pos hp]; exact ⟨lo, rfl, by omega, hp⟩
    · rw [if_neg hp] at h ⊢
      obtain ⟨i, h1, h2, h3⟩ := first_ok h
      exact ⟨i, h1, by omega, h3⟩
theorem nextSeg_ok {c : Cluster} {n : Int} (h : nextSeg c n ≠ -1) : ∃ i : Nat, nextSeg c n = (i : Int) ∧ i < c.Parts.length ∧ (i : Int) ∉ c.Done ∧ (i : Int) ∉ c.At ∧ (homeOf (i : Int) c.Up.length = n ∨ backupOf (i : Int) c.Up.length = n) := by
  unfold nextSeg at h ⊢
  split at h
  · rename_i h0
    rw [if_pos h0]
    split at h
    · rename_i h1
      rw [if_pos h1]
      obtain ⟨i, e, hi, hp⟩ := first_ok h
      unfold backP freeB at hp
      simp only [Bool.and_eq_true, decide_eq_true_eq, Bool.not_eq_true', hasI_no] at hp
      exact ⟨i, e, by omega, hp.1.1, hp.1.2, .inr hp.2.1⟩
    · rename_i h1
      rw [if_neg h1]
      obtain ⟨i, e, hi, hp⟩ := first_ok h
      unfold homeP freeB at hp
      simp only [Bool.and_eq_true, decide_eq_true_eq, Bool.not_eq_true', hasI_no] at hp
      exact ⟨i, e, by omega, hp.1.1, hp.1.2, .inl hp.2⟩
  · exact absurd rfl h
theorem ins_mem {x y : Int} : ∀ {l : List Int}, y ∈ insP x l ↔ y = x ∨ y ∈ l
  | [] => by simp [insP]
  | z :: l => by
    rw [insP]
    split
    · rw [List.mem_cons, ins_mem (l := l), List.mem_cons]
      constructor
      · rintro (h | h | h) <;> simp [h]
      · rintro (h | h | h) <;> simp [h]
    · simp
theorem asc_pw {l : List Int} (h : asc l) : l.Pairwise (· < ·) := by
  have lt : ∀ (j i : Nat) (hj : j < l.length) (hi : i < j), l[i] < l[j] := by
    intro j
    induction j with
    | zero => intro i _ hi; omega
    | succ j ih =>
      intro i hj hi
      have h1 := h j hj
      rcases Nat.lt_or_ge i j with h2 | h2
      · have := ih i (by omega) h2; omega
      · have : i = j := by omega
        subst this; exact h1
  rw [List.pairwise_iff_getElem]
  exact fun i j hi hj hij => lt j i hj hij
theorem pw_asc {l : List Int} (h : l.Pairwise (· < ·)) : asc l := fun i hi => List.pairwise_iff_getElem.1 h i (i + 1) (by omega) hi (by omega)
theorem ins_pw {x : Int} : ∀ {l : List Int}, l.Pairwise (· < ·) → x ∉ l → (insP x l).Pairwise (· < ·)
  | [], _, _ => by simp [insP]
  | z :: l, h, hx => by
    rw [List.pairwise_cons] at h
    rw [insP]
    split
    · rename_i hz
      rw [List.pairwise_cons]
      refine ⟨fun y hy => ?_, ins_pw h.2 (fun hm => hx (List.mem_cons_of_mem _ hm))⟩
      rcases ins_mem.1 hy with rfl | hy
      · exact hz
      · exact h.1 y hy
    · rename_i hz
      have hne : x ≠ z := fun e => hx (e ▸ List.mem_cons_self ..)
      rw [List.pairwise_cons, List.pairwise_cons]
      refine ⟨fun y hy => ?_, h⟩
      rcases List.mem_cons.1 hy with rfl | hy
      · omega
      · have := h.1 y hy; omega
theorem NodeP.congr {c d : Cluster} {n : Int} (h : NodeP c n) (e1 : atI d.At n = atI c.At n) (e2 : atI d.Pos n = atI c.Pos n) (e3 : bufAt d n = bufAt c n) (e4 : upAt d n = upAt c n) (e5 : d.Parts = c.Parts) (e6 : d.Query = c.Query) (e7 : d.Up.length = c.Up.length) (e8 : atI c.At n ≠ -1 → atI c.At n ∉ c.Done → atI c.At n ∉ d.Done) : NodeP d n := by
  unfold NodeP partAt at *
  rw [e1, e2, e3, e4, e5, e6, e7]
  rcases h with h | ⟨h1, h2, h3, h4, h5⟩
  · exact .inl h
  · exact .inr ⟨h1, h2, h3, e8 h1 h4, h5⟩
theorem stop_ok {c : Cluster} {i : Nat} (h : ClF c) (hi : i < c.Up.length) (d : List Int) (rs : List (List Row)) (up : List Bool) (hup : up.length = c.Up.length ∧ ∀ k : Nat, k ≠ i → up.getD k false = c.Up.getD k false) (hd : asc d) (hdon : ∀ x ∈ d, 0 ≤ x ∧ x < c.Parts.length) (hrl : rs.length = c.Rows.length)
    (hrow : ∀ j : Nat, j < c.Parts.length → rs.getD j [] = if (j : Int) ∈ d then found c.Query (c.Parts.getD j []) else []) (hno : ∀ k : Nat, k ≠ i → k < c.Up.length → atI c.At (k : Int) ≠ -1 → atI c.At (k : Int) ∉ c.Done → atI c.At (k : Int) ∉ d) :
    ClF { c with At := c.At.set i (-1), Pos := c.Pos.set i 0, Buffer := c.Buffer.set i [], Done := d, Rows := rs, Up := up } := by
  obtain ⟨⟨h1, h2, h3⟩, h4, h5, h6, h7⟩ := h.head
  have hA : i < c.At.length := by omega
  have hP : i < c.Pos.length := by omega
  have hB : i < c.Buffer.length := by omega
  refine ⟨⟨⟨h1, h2, by rw [show (up.length : Int) = c.Up.length by rw [hup.1]]; exact h3⟩, ?_, ?_, ?_, ?_⟩, hd, hdon, hrow, fun k hk => ?_, fun j k hj hk hne => ?_⟩
  · show (c.At.set i (-1)).length = up.length; rw [List.length_set, hup.1]; exact h4
  · show (c.Pos.set i 0).length = up.length; rw [List.length_set, hup.1]; exact h5
  · show (c.Buffer.set i []).length = up.length; rw [List.length_set, hup.1]; exact h6
  · show rs.length = c.Parts.length; rw [hrl]; exact h7
  · have hk : k < up.length := hk
    rw [hup.1] at hk
    by_cases e : k = i
    · subst e
      left
      refine ⟨?_, ?_, ?_⟩
      · show atI (c.At.set k (-1)) (k : Int) = -1; rw [at_set hA, if_pos rfl]
      · show atI (c.Pos.set k 0) (k : Int) = 0; rw [at_set hP, if_pos rfl]
      · show (c.Buffer.set k []).getD (k : Int).toNat [] = []; rw [Int.toNat_natCast, getD_set hB, if_pos rfl]
    · refine (h.node k hk).congr ?_ ?_ ?_ ?_ rfl rfl hup.1 (hno k e hk)
      · show atI (c.At.set i (-1)) (k : Int) = _; rw [at_set hA, if_neg e]
      · show atI (c.Pos.set i 0) (k : Int) = _; rw [at_set hP, if_neg e]
      · show (c.Buffer.set i []).getD (k : Int).toNat [] = c.Buffer.getD (k : Int).toNat []; rw [Int.toNat_natCast, getD_set hB, if_neg e]
      · show up.getD (k : Int).toNat false = c.Up.getD (k : Int).toNat false; rw [Int.toNat_natCast]; exact hup.2 k e
  · have hk : k < up.length := hk
    rw [hup.1] at hk
    have hne : atI (c.At.set i (-1)) (k : Int) ≠ -1 := hne
    show atI (c.At.set i (-1)) (j : Int) ≠ atI (c.At.set i (-1)) (k : Int)
    rw [at_set hA] at hne ⊢
    rw [at_set hA]
    by_cases e : k = i
    · rw [if_pos e] at hne; exact absurd rfl hne
    · rw [if_neg e] at hne ⊢
      by_cases e2 : j = i
      · rw [if_pos e2]; exact fun x => hne x.symm
      · rw [if_neg e2]; exact h.lone j k hj hk hne
theorem step_ok {c : Cluster} {n : Int} (h : upOk c n = true) : isCl (stepNode c n).1 = true ∧ c.Done.length ≤ (stepNode c n).1.Done.length ∧ (stepNode c n).1.Done.length ≤ c.Done.length + 1 := by
  obtain ⟨h1, h2, h3⟩ := upOk_at h
  have hu := up_at h1 h2
  have hc := clF_of h1
  obtain ⟨i, hi⟩ : ∃ i : Nat, n = (i : Int) := ⟨n.toNat, by omega⟩
  subst hi
  rw [Int.toNat_natCast] at hu
  by_cases ha : atI c.At (i : Int) = -1
  · rw [step_at h ha]
    refine ⟨?_, Nat.le_refl _, by show c.Done.length ≤ _; omega⟩
    show isCl (setAt c (i : Int) (nextSeg c (i : Int))) = true
    by_cases hv : nextSeg c (i : Int) = -1
    · have : setAt c (i : Int) (nextSeg c (i : Int)) = c := by
        unfold setAt
        rw [hv, Int.toNat_natCast, ← ha, ← atN hu.2.2.1, List.set_getElem_self]
      rw [this]; exact h1
    · obtain ⟨v, ev, hv1, hv2, hv3, hv4⟩ := nextSeg_ok hv
      rw [ev]
      obtain ⟨⟨k1, k2, k3⟩, k4, k5, k6, k7⟩ := hc.head
      refine of_clF ⟨⟨⟨k1, k2, k3⟩, ?_, k5, k6, k7⟩, hc.asc_, hc.don, hc.row, fun k hk => ?_, fun j k hj hk hne => ?_⟩
      · show (c.At.set _ _).length = _; rw [List.length_set]; exact k4
      · have hk : k < c.Up.length := hk
        by_cases e : k = i
        · subst e
          right
          have e1 : atI (setAt c (k : Int) (v : Int)).At (k : Int) = (v : Int) := by show atI (c.At.set (k : Int).toNat (v : Int)) (k : Int) = _; rw [Int.toNat_natCast, at_set hu.2.2.1, if_pos rfl]
          obtain ⟨_, m2, m3⟩ := (hc.node k hk).resolve_right (fun x => x.1 ha)
          rw [e1]
          refine ⟨by omega, by show 0 ≤ (v : Int) ∧ (v : Int) < c.Parts.length; omega, h3, hv2, hv4, ?_, ?_⟩
          · show 0 ≤ atI c.Pos (k : Int) ∧ atI c.Pos (k : Int) ≤ _; rw [m2]; omega
          · show bufAt c (k : Int) = found c.Query ((partAt c (v : Int)).take (atI c.Pos (k : Int)).toNat); rw [m2, m3]; rfl
        · refine (hc.node k hk).congr ?_ rfl rfl rfl rfl rfl rfl (fun _ x => x)
          show atI (c.At.set (i : Int).toNat (v : Int)) (k : Int) = _; rw [Int.toNat_natCast, at_set hu.2.2.1, if_neg e]
      · have hk : k < c.Up.length := hk
        have hne : atI (c.At.set (i : Int).toNat (v : Int)) (k : Int) ≠ -1 := hne
        show atI (c.At.set (i : Int).toNat (v : Int)) (j : Int) ≠ atI (c.At.set (i : Int).toNat (v : Int)) (k : Int)
        rw [Int.toNat_natCast] at hne ⊢
        rw [at_set hu.2.2.1] at hne
        rw [at_set hu.2.2.1, at_set hu.2.2.1]
        have hmem : ∀ q : Nat, q < c.Up.length → atI c.At (q : Int) ≠ (v : Int) := fun q hq e => hv3 (by rw [← e, ← atN (show q < c.At.length by omega)]; exact List.getElem_mem _)
        by_cases e : k = i
        · rw [if_pos e, if_neg (by omega)]; exact hmem j (by omega)
        · rw [if_neg e] at hne ⊢
          by_cases e2 : j = i
          · rw [if_pos e2]; exact fun x => hmem k hk x.symm
          · rw [if_neg e2]; exact hc.lone j k hj hk hne
  · obtain ⟨_, m1, m2, m3, m4, m5, m6⟩ := (hc.node i hu.2.1).resolve_left (fun x => ha x.1)
    by_cases hp : atI c.Pos (i : Int) < (partAt c (atI c.At (i : Int))).length
    · rw [step_row h ha hp]
      obtain ⟨⟨k1, k2, k3⟩, k4, k5, k6, k7⟩ := hc.head
      have hpl : (atI c.Pos (i : Int)).toNat < (partAt c (atI c.At (i : Int))).length := by omega
      have hro : (partAt c (atI c.At (i : Int)))[(atI c.Pos (i : Int)).toNat] = rowOf (partAt c (atI c.At (i : Int))) (atI c.Pos (i : Int)) := rowOf_eq hpl
      have hpos : (atI c.Pos (i : Int) + 1).toNat = (atI c.Pos (i : Int)).toNat + 1 := by omega
      obtain ⟨bf, hbf, hbn⟩ : ∃ bf, stepRow c (i : Int) = { c with Buffer := c.Buffer.set i bf, Pos := c.Pos.set i (atI c.Pos (i : Int) + 1) } ∧ bf = found c.Query ((partAt c (atI c.At (i : Int))).take (atI c.Pos (i : Int) + 1).toNat) := by
        by_cases hm : matchRow c.Query (rowOf (partAt c (atI c.At (i : Int))) (atI c.Pos (i : Int))) = true
        · refine ⟨bufAt c (i : Int) ++ [rowOf (partAt c (atI c.At (i : Int))) (atI c.Pos (i : Int))], ?_, ?_⟩
          · rw [row_yes hm, Int.toNat_natCast]
          · rw [hpos, found_yes hpl (by rw [hro]; exact hm), hro, m6]
        · refine ⟨bufAt c (i : Int), ?_, ?_⟩
          · rw [row_no hm, Int.toNat_natCast]
            have : c.Buffer.set i (bufAt c (i : Int)) = c.Buffer := by
              unfold bufAt
              rw [Int.toNat_natCast, getD_at hu.2.2.2.2, List.set_getElem_self]
            rw [this]
          · rw [hpos, found_no hpl (by rw [hro]; simpa using hm), m6]
      refine ⟨?_, ?_, ?_⟩
      · show isCl (stepRow c (i : Int)) = true
        rw [hbf]
        refine of_clF ⟨⟨⟨k1, k2, k3⟩, k4, ?_, ?_, k7⟩, hc.asc_, hc.don, hc.row, fun k hk => ?_, hc.lone⟩
        · show (c.Pos.set _ _).length = _; rw [List.length_set]; exact k5
        · show (c.Buffer.set _ _).length = _; rw [List.length_set]; exact k6
        · have hk : k < c.Up.length := hk
          by_cases e : k = i
          · subst e
            right
            refine ⟨ha, m1, m2, m3, m4, ?_, ?_⟩
            · show 0 ≤ atI (c.Pos.set k _) (k : Int) ∧ atI (c.Pos.set k _) (k : Int) ≤ (partAt c (atI c.At (k : Int))).length
              rw [at_set hu.2.2.2.1, if_pos rfl]; omega
            · show (c.Buffer.set k bf).getD (k : Int).toNat [] = found c.Query ((partAt c (atI c.At (k : Int))).take (atI (c.Pos.set k _) (k : Int)).toNat)
              rw [Int.toNat_natCast, getD_set hu.2.2.2.2, if_pos rfl, at_set hu.2.2.2.1, if_pos rfl]; exact hbn
          · refine (hc.node k hk).congr rfl ?_ ?_ rfl rfl rfl rfl (fun _ x => x)
            · show atI (c.Pos.set i _) (k : Int) = _; rw [at_set hu.2.2.2.1, if_neg e]
            · show (c.Buffer.set i bf).getD (k : Int).toNat [] = c.Buffer.getD (k : Int).toNat []; rw [Int.toNat_natCast, getD_set hu.2.2.2.2, if_neg e]
      · show c.Done.length ≤ (stepRow c (i : Int)).Done.length; rw [hbf]; exact Nat.le_refl _
      · show (stepRow c (i : Int)).Done.length ≤ _; rw [hbf]; show c.Done.length ≤ _; omega
    · rw [step_end h ha hp]
      have hl : atI c.Pos (i : Int) = (partAt c (atI c.At (i : Int))).length := by omega
      have hbuf : bufAt c (i : Int) = found c.Query (partAt c (atI c.At (i : Int))) := by rw [m6, hl, Int.toNat_natCast, List.take_length]
      obtain ⟨s, hs⟩ : ∃ s : Nat, atI c.At (i : Int) = (s : Int) := ⟨(atI c.At (i : Int)).toNat, by omega⟩
      have hdl : (insP (atI c.At (i : Int)) c.Done).length = c.Done.length + 1 := insP_len
      obtain ⟨⟨k1, k2, k3⟩, k4, k5, k6, k7⟩ := hc.head
      refine ⟨?_, by show c.Done.length ≤ (insP _ _).length; omega, by show (insP _ _).length ≤ _; omega⟩
      show isCl (stopAt (endC c (i : Int)) (i : Int)) = true
      refine of_clF (stop_ok hc hu.2.1 (insP (atI c.At (i : Int)) c.Done) (c.Rows.set (atI c.At (i : Int)).toNat (bufAt c (i : Int))) c.Up ⟨rfl, fun _ _ => rfl⟩ (pw_asc (ins_pw (asc_pw hc.asc_) m3)) (fun x hx => ?_) List.length_set (fun j hj => ?_) (fun k hk hku hne hnd hx => ?_))
      · rcases ins_mem.1 hx with rfl | hx
        · exact m1
        · exact hc.don x hx
      · rw [hs, Int.toNat_natCast, getD_set (show s < c.Rows.length by omega)]
        by_cases e : j = s
        · subst e
          rw [if_pos rfl, if_pos (ins_mem.2 (.inl rfl)), hbuf, hs]
          unfold partAt; rw [Int.toNat_natCast]
        · rw [if_neg e, hc.row j hj]
          by_cases e2 : (j : Int) ∈ c.Done
          · rw [if_pos e2, if_pos (ins_mem.2 (.inr e2))]
          · rw [if_neg e2, if_neg (fun x => by rcases ins_mem.1 x with x | x; (· omega); (· exact e2 x))]
      · rcases ins_mem.1 hx with hx | hx
        · rcases Nat.lt_or_ge k i with hlt | hge
          · exact hc.lone k i hlt hu.2.1 ha hx
          · exact hc.lone i k (by omega) hku hne hx.symm
        · exact hnd hx
end Go.Proofs.YtmkhofdkdklpdaaGreat
