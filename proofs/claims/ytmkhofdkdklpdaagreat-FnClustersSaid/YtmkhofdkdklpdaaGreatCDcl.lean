/- Definitions and their laws. No condition. -/
import Derived.Test.YtmkhofdkdklpdaaGreatCDcd
set_option linter.unusedVariables false
set_option linter.unusedSimpArgs false
namespace Go.Proofs.YtmkhofdkdklpdaaGreat
open Go Go.RowKit M
set_option maxRecDepth 10000
theorem sum_one {f g : Nat → Int} {i : Nat} : ∀ {n : Nat}, i < n → (∀ j, j < n → j ≠ i → f j = g j) → ((List.range n).map f).sum = ((List.range n).map g).sum + (f i - g i)
  | 0, h, _ => absurd h (Nat.not_lt_zero _)
  | n + 1, h, he => by
    rw [List.range_succ, List.map_append, List.map_append, List.sum_append, List.sum_append]
    simp only [List.map_cons, List.map_nil, List.sum_cons, List.sum_nil]
    by_cases e : i = n
    · subst e
      have : ((List.range i).map f) = ((List.range i).map g) := List.map_congr_left fun j hj => he j (by have := List.mem_range.1 hj; omega) (by have := List.mem_range.1 hj; omega)
      rw [this]; omega
    · rw [sum_one (f := f) (g := g) (i := i) (n := n) (by omega) fun j hj hne => he j (by omega) hne, he n (by omega) (fun x => e x.symm)]; omega
theorem sum_bd {f : Nat → Int} {a b : Int} : ∀ {n : Nat}, (∀ j, j < n → a ≤ f j ∧ f j ≤ b) → a * n ≤ ((List.range n).map f).sum ∧ ((List.range n).map f).sum ≤ b * n
  | 0, _ => by simp
  | n + 1, h => by
    have ih := sum_bd (f := f) (a := a) (b := b) (n := n) fun j hj => h j (by omega)
    have h1 := h n (by omega)
    rw [List.range_succ, List.map_append, List.sum_append]
    simp only [List.map_cons, List.map_nil, List.sum_cons, List.sum_nil]
    rw [show ((n + 1 : Nat) : Int) = (n : Int) + 1 by omega, Int.mul_add, Int.mul_add]
    omega
def segW (c : Cluster) (i : Nat) : Int := if (i : Int) ∈ c.Done then 0 else ((c.Parts.getD i []).length : Int) + 2
def nodW (c : Cluster) (k : Nat) : Int := if atI c.At (k : Int) = -1 then 0 else atI c.Pos (k : Int) + 1
def muC (c : Cluster) : Int := ((List.range c.Parts.length).map (segW c)).sum - ((List.range c.Up.length).map (nodW c)).sum
theorem seg_len {c : Cluster} (h : isCl c = true) {i : Nat} (hi : i < c.Parts.length) : (c.Parts.getD i []).length ≤ 4 := by
  have h1 := (okParts_iff.1 (isCl_iff.1 h).1.1.2.1).2.1 _ (List.getElem_mem hi)
  rw [getD_at hi]
  unfold segB at h1
  simp only [Bool.and_eq_true, decide_eq_true_eq] at h1
  omega
theorem mu_bd {c : Cluster} (h : isCl c = true) : -20 ≤ muC c ∧ muC c ≤ 48 := by
  have hc := clF_of h
  have hl := clLen h
  have h1 := sum_bd (f := segW c) (a := 0) (b := 6) (n := c.Parts.length) fun j hj => by
    have := seg_len h hj
    unfold segW
    split <;> omega
  have h2 := sum_bd (f := nodW c) (a := 0) (b := 5) (n := c.Up.length) fun j hj => by
    unfold nodW
    rcases hc.node j hj with ⟨k1, _, _⟩ | ⟨k1, k2, _, _, _, k3, _⟩
    · rw [if_pos k1]; omega
    · rw [if_neg k1]
      have h3 := seg_len h (i := (atI c.At (j : Int)).toNat) (by omega)
      have h4 : (partAt c (atI c.At (j : Int))).length ≤ 4 := h3
      omega
  unfold muC
  omega
theorem set_ne {l : List Int} {i : Nat} {v : Int} (hi : i < l.length) (hv : v ≠ atI l (i : Int)) : l.set i v ≠ l := fun e => hv (by
  have := at_set (l := l) (k := i) (v := v) hi
  rw [e, if_pos rfl] at this; exact this.symm)
theorem step_mu {c : Cluster} {i : Nat} (h : isCl c = true) (hi : i < c.Up.length) : (stepNode c (i : Int)).1 = c ∨ (upOk c (i : Int) = true ∧ (stepNode c (i : Int)).1 ≠ c ∧ muC (stepNode c (i : Int)).1 = muC c - 1) := by
  cases hu : upOk c (i : Int) with
  | false => left; rw [step_no hu]
  | true =>
    have hc := clF_of h
    have hl := clLen h
    have hA : i < c.At.length := by omega
    have hP : i < c.Pos.length := by omega
    by_cases ha : atI c.At (i : Int) = -1
    · rw [step_at hu ha]
      show setAt c (i : Int) (nextSeg c (i : Int)) = c ∨ (true = true ∧ setAt c (i : Int) (nextSeg c (i : Int)) ≠ c ∧ muC (setAt c (i : Int) (nextSeg c (i : Int))) = _)
      by_cases hv : nextSeg c (i : Int) = -1
      · left
        unfold setAt
        rw [hv, Int.toNat_natCast, ← ha, ← atN hA, List.set_getElem_self]
      · right
        refine ⟨rfl, fun e => ?_, ?_⟩
        · have e2 : c.At.set (i : Int).toNat (nextSeg c (i : Int)) = c.At := congrArg Cluster.At e
          rw [Int.toNat_natCast] at e2
          exact set_ne hA (fun x => hv (by rw [x, ha])) e2
        · have hs : ((List.range c.Up.length).map (nodW (setAt c (i : Int) (nextSeg c (i : Int))))).sum = ((List.range c.Up.length).map (nodW c)).sum + (nodW (setAt c (i : Int) (nextSeg c (i : Int))) i - nodW c i) := sum_one hi fun j _ hne => by
            unfold nodW setAt
            dsimp only
            rw [Int.toNat_natCast, at_set hA, if_neg hne]
          have h0 : nodW c i = 0 := if_pos ha
          have h1 : nodW (setAt c (i : Int) (nextSeg c (i : Int))) i = 1 := by
            unfold nodW setAt
            dsimp only
            rw [Int.toNat_natCast, at_set hA, if_pos rfl, if_neg hv, ((hc.node i hi).resolve_right (fun x => x.1 ha)).2.1]; rfl
          show ((List.range c.Parts.length).map (segW c)).sum - ((List.range c.Up.length).map (nodW (setAt c (i : Int) (nextSeg c (i : Int))))).sum = _
          unfold muC
          omega
    · obtain ⟨_, m1, m2, m3, m4, m5, m6⟩ := (hc.node i hi).resolve_left (fun x => ha x.1)
      by_cases hp : atI c.Pos (i : Int) < (partAt c (atI c.At (i : Int))).length
      · rw [step_row hu ha hp]
        right
        have e0 : (stepRow c (i : Int)).Pos = c.Pos.set i (atI c.Pos (i : Int) + 1) := by unfold stepRow; rfl
        have e1 : (stepRow c (i : Int)).At = c.At := rfl
        refine ⟨rfl, fun e => ?_, ?_⟩
        · have e2 : (stepRow c (i : Int)).Pos = c.Pos := congrArg Cluster.Pos e
          rw [e0] at e2
          exact set_ne hP (by omega) e2
        · have hs : ((List.range c.Up.length).map (nodW (stepRow c (i : Int)))).sum = ((List.range c.Up.length).map (nodW c)).sum + (nodW (stepRow c (i : Int)) i - nodW c i) := sum_one hi fun j _ hne => by
            unfold nodW
            rw [e0, e1, at_set hP, if_neg hne]
          have h0 : nodW c i = atI c.Pos (i : Int) + 1 := if_neg ha
          have h1 : nodW (stepRow c (i : Int)) i = atI c.Pos (i : Int) + 2 := by
            unfold nodW
            rw [e0, e1, if_neg ha, at_set hP, if_pos rfl]; omega
          show ((List.range c.Parts.length).map (segW c)).sum - ((List.range c.Up.length).map (nodW (stepRow c (i : Int)))).sum = _
          unfold muC
          omega
      · rw [step_end hu ha hp]
        right
        obtain ⟨s, hs⟩ : ∃ s : Nat, atI c.At (i : Int) = (s : Int) := ⟨(atI c.At (i : Int)).toNat, by omega⟩
        have e0 : (stopAt (endC c (i : Int)) (i : Int)).At = c.At.set i (-1) := by unfold stopAt endC; rw [Int.toNat_natCast]
        have e1 : (stopAt (endC c (i : Int)) (i : Int)).Pos = c.Pos.set i 0 := by unfold stopAt endC; rw [Int.toNat_natCast]
        have e2 : (stopAt (endC c (i : Int)) (i : Int)).Done = insP (atI c.At (i : Int)) c.Done := rfl
        refine ⟨rfl, fun e => ?_, ?_⟩
        · have e3 : (stopAt (endC c (i : Int)) (i : Int)).At = c.At := congrArg Cluster.At e
          rw [e0] at e3
          exact set_ne hA (fun x => ha x.symm) e3
        · have hn : ((List.range c.Up.length).map (nodW (stopAt (endC c (i : Int)) (i : Int)))).sum = ((List.range c.Up.length).map (nodW c)).sum + (nodW (stopAt (endC c (i : Int)) (i : Int)) i - nodW c i) := sum_one hi fun j _ hne => by
            unfold nodW
            rw [e0, e1, at_set hP, if_neg hne, at_set hA, if_neg hne]
          have hg : ((List.range c.Parts.length).map (segW (stopAt (endC c (i : Int)) (i : Int)))).sum = ((List.range c.Parts.length).map (segW c)).sum + (segW (stopAt (endC c (i : Int)) (i : Int)) s - segW c s) := sum_one (by omega) fun j _ hne => by
            unfold segW
            rw [e2]
            show (if (j : Int) ∈ insP _ c.Done then (0 : Int) else ((c.Parts.getD j []).length : Int) + 2) = _
            by_cases hj : (j : Int) ∈ c.Done
            · rw [if_pos hj, if_pos (ins_mem.2 (.inr hj))]
            · rw [if_neg hj, if_neg (fun x => by rcases ins_mem.1 x with x | x; (· omega); (· exact hj x))]
          have hl2 : atI c.Pos (i : Int) = (partAt c (atI c.At (i : Int))).length := by omega
          have hps : (partAt c (atI c.At (i : Int))) = c.Parts.getD s [] := by unfold partAt; rw [hs, Int.toNat_natCast]
          have h0 : nodW c i = atI c.Pos (i : Int) + 1 := if_neg ha
          have h1 : nodW (stopAt (endC c (i : Int)) (i : Int)) i = 0 := by
            unfold nodW
            rw [e0, at_set hA, if_pos rfl, if_pos rfl]
          have h2 : segW c s = ((c.Parts.getD s []).length : Int) + 2 := if_neg (by rw [← hs]; exact m3)
          have h3 : segW (stopAt (endC c (i : Int)) (i : Int)) s = 0 := if_pos (by rw [e2, ← hs]; exact ins_mem.2 (.inl rfl))
          rw [hps] at hl2
          show ((List.range c.Parts.length).map (segW (stopAt (endC c (i : Int)) (i : Int)))).sum - ((List.range c.Up.length).map (nodW (stopAt (endC c (i : Int)) (i : Int)))).sum = _
          unfold muC
          omega
theorem first_no {P : Int → Bool} : ∀ {m lo : Nat}, firstIx P lo m = -1 → ∀ i : Nat, lo ≤ i → i < lo + m → P (i : Int) = false
  | 0, lo, _, i, h1, h2 => by omega
  | m + 1, lo, h, i, h1, h2 => by
    rw [firstIx] at h
    by_cases hp : P (lo : Int) = true
    · rw [if_pos hp] at h; omega
    · rw [if_neg hp] at h
      by_cases e : i = lo
      · subst e; simpa using hp
      · exact first_no h i (by omega) (by omega)
/-- A segment that is done, or that a node that is up takes care of. -/
def fineC (c : Cluster) (i : Nat) : Prop := (i : Int) ∈ c.Done ∨ upAt c (homeOf (i : Int) c.Up.length) = true ∨ upAt c (backupOf (i : Int) c.Up.length) = true
theorem back_in {c : Cluster} {i : Int} (h : isCl c = true) (hi : 0 ≤ i) : 0 ≤ backupOf i c.Up.length ∧ backupOf i c.Up.length < c.Up.length := by
  have hl := clLen h
  unfold backupOf
  rw [if_pos ⟨inB_iff.2 (by omega), hi⟩]
  exact tmod_in (by omega) (by omega) (by have := (tmod_in (a := i) (b := c.Up.length) (by omega) (by omega) hi).1; omega)
theorem upOk_of {c : Cluster} {k : Nat} (h : isCl c = true) (hk : k < c.Up.length) (hu : upAt c (k : Int) = true) : upOk c (k : Int) = true := by
  unfold upOk
  rw [h, hu, show inB (k : Int) 0 ((c.Up.length : Int) - 1) = true from inB_iff.2 (by omega)]; rfl
theorem stuck_done {c : Cluster} (h : isCl c = true) (hs : ∀ k : Nat, k < c.Up.length → (stepNode c (k : Int)).1 = c) {i : Nat} (hi : i < c.Parts.length) (hf : fineC c i) : (i : Int) ∈ c.Done := by
  have hc := clF_of h
  have hl := clLen h
  have quiet : ∀ k : Nat, k < c.Up.length → atI c.At (k : Int) = -1 ∧ (upAt c (k : Int) = true → nextSeg c (k : Int) = -1) := fun k hk => by
    cases hu : upAt c (k : Int) with
    | false =>
      refine ⟨?_, fun x => nomatch x⟩
      rcases hc.node k hk with ⟨k1, _, _⟩ | ⟨_, _, k3, _⟩
      · exact k1
      · rw [hu] at k3; cases k3
    | true =>
      have hok := upOk_of h hk hu
      have hst := hs k hk
      by_cases ha : atI c.At (k : Int) = -1
      · refine ⟨ha, fun _ => ?_⟩
        rw [step_at hok ha] at hst
        have e2 : c.At.set (k : Int).toNat (nextSeg c (k : Int)) = c.At := congrArg Cluster.At hst
        rw [Int.toNat_natCast] at e2
        exact Classical.byContradiction fun hv => set_ne (show k < c.At.length by omega) (fun x => hv (by rw [x, ha])) e2
      · exfalso
        by_cases hp : atI c.Pos (k : Int) < (partAt c (atI c.At (k : Int))).length
        · rw [step_row hok ha hp] at hst
          have e2 : (stepRow c (k : Int)).Pos = c.Pos := congrArg Cluster.Pos hst
          have e0 : (stepRow c (k : Int)).Pos = c.Pos.set k (atI c.Pos (k : Int) + 1) := by unfold stepRow; rfl
          rw [e0] at e2
          exact set_ne (show k < c.Pos.length by omega) (by omega) e2
        · rw [step_end hok ha hp] at hst
          have e3 : (stopAt (endC c (k : Int)) (k : Int)).At = c.At := congrArg Cluster.At hst
          have e0 : (stopAt (endC c (k : Int)) (k : Int)).At = c.At.set k (-1) := by unfold stopAt endC; rw [Int.toNat_natCast]
          rw [e0] at e3
          exact set_ne (show k < c.At.length by omega) (fun x => ha x.symm) e3
  refine Classical.byContradiction fun hd => ?_
  have hfree : freeB c (i : Int) = true := by
    unfold freeB
    rw [hasI_no.2 hd, hasI_no.2 (fun hm => by
      obtain ⟨k, hk, e⟩ := List.mem_iff_getElem.1 hm
      have := (quiet k (by omega)).1
      rw [← atN hk] at this; omega)]; rfl
  have none : ∀ k : Nat, k < c.Up.length → upAt c (k : Int) = true → homeP c (k : Int) (i : Int) = false ∧ backP c (k : Int) (i : Int) = false := fun k hk hu => by
    have hn := (quiet k hk).2 hu
    unfold nextSeg at hn
    rw [if_pos ⟨upOk_of h hk hu, (quiet k hk).1⟩] at hn
    by_cases h1 : firstIx (homeP c (k : Int)) 0 c.Parts.length = -1
    · rw [if_pos h1] at hn
      exact ⟨first_no h1 i (by omega) (by omega), first_no hn i (by omega) (by omega)⟩
    · rw [if_neg h1] at hn; exact absurd hn h1
  have hh := home_in h (show (0 : Int) ≤ (i : Int) by omega)
  have hb := back_in h (show (0 : Int) ≤ (i : Int) by omega)
  have e1 : ((homeOf (i : Int) c.Up.length).toNat : Int) = homeOf (i : Int) c.Up.length := by omega
  have e2 : ((backupOf (i : Int) c.Up.length).toNat : Int) = backupOf (i : Int) c.Up.length := by omega
  by_cases hu : upAt c (homeOf (i : Int) c.Up.length) = true
  · have := (none (homeOf (i : Int) c.Up.length).toNat (by omega) (by rw [e1]; exact hu)).1
    unfold homeP at this
    rw [hfree, e1] at this
    simp at this
  · rcases hf with hf | hf | hf
    · exact hd hf
    · exact hu hf
    · have := (none (backupOf (i : Int) c.Up.length).toNat (by omega) (by rw [e2]; exact hf)).2
      unfold backP at this
      rw [hfree, e2] at this
      simp [hu] at this
theorem step_keep {c : Cluster} {n : Int} : (stepNode c n).1.Up = c.Up ∧ (stepNode c n).1.Parts = c.Parts ∧ (stepNode c n).1.Query = c.Query := by
  unfold stepNode
  split
  · split
    · exact ⟨rfl, rfl, rfl⟩
    · split
      · exact ⟨rfl, rfl, rfl⟩
      · exact ⟨rfl, rfl, rfl⟩
  · exact ⟨rfl, rfl, rfl⟩
theorem step_done {c : Cluster} {k : Nat} (h : isCl c = true) (hk : k < c.Up.length) {x : Int} : (x ∈ c.Done → x ∈ (stepNode c (k : Int)).1.Done) ∧ (x ∈ (stepNode c (k : Int)).1.Done → x ∈ c.Done ∨ upAt c (homeOf x c.Up.length) = true ∨ upAt c (backupOf x c.Up.length) = true) := by
  cases hu : upOk c (k : Int) with
  | false => rw [step_no hu]; exact ⟨id, .inl⟩
  | true =>
    by_cases ha : atI c.At (k : Int) = -1
    · rw [step_at hu ha]; exact ⟨id, .inl⟩
    · by_cases hp : atI c.Pos (k : Int) < (partAt c (atI c.At (k : Int))).length
      · rw [step_row hu ha hp]; exact ⟨id, .inl⟩
      · rw [step_end hu ha hp]
        obtain ⟨_, m1, m2, m3, m4, _⟩ := ((clF_of h).node k hk).resolve_left (fun x => ha x.1)
        refine ⟨fun hx => ins_mem.2 (.inr hx), fun hx => ?_⟩
        rcases ins_mem.1 hx with rfl | hx
        · rcases m4 with m4 | m4
          · right; left; rw [m4]; exact m2
          · right; right; rw [m4]; exact m2
        · exact .inl hx
theorem goOn_of {c : Cluster} (h : isCl c = true) : goOn c = true ↔ c.Done.length < c.Parts.length := by
  unfold goOn
  rw [h, Bool.true_and, decide_eq_true_eq]; omega
theorem all_done {c : Cluster} (h : isCl c = true) (hn : ¬ c.Done.length < c.Parts.length) {i : Nat} (hi : i < c.Parts.length) : (i : Int) ∈ c.Done := by
  have hl : c.Done.length = c.Parts.length := by have := done_len h; omega
  have ha := done_asc h
  have h1 : ∀ j : Nat, (hj : j < c.Done.length) → c.Done[j] = (j : Int) := fun j hj => by
    have h2 := asc_ge ha (fun i hi => (done_in h i hi).1) hj
    have up : ∀ m : Nat, (hm : j + m < c.Done.length) → c.Done[j] + m ≤ c.Done[j + m] := by
      intro m
      induction m with
      | zero => intro hm; simp
      | succ m ih =>
        intro hm
        have h3 := ih (by omega)
        have h4 := ha (j + m) hm
        have e : c.Done[j + (m + 1)] = c.Done[j + m + 1] := rfl
        rw [e]; omega
    have h5 := up (c.Done.length - 1 - j) (by omega)
    have h6 := (done_in h (j + (c.Done.length - 1 - j)) (by omega)).2
    omega
  rw [← h1 i (by omega)]
  exact List.getElem_mem _
theorem stuck_fin {c : Cluster} (hs : ∀ k : Nat, k < c.Up.length → (stepNode c (k : Int)).1 = c) (hu : 0 < c.Up.length) : ∀ f k, finGo f k c = c
  | 0, _ => rfl
  | f + 1, k => by
    rw [finGo]
    split
    · have e : (stepNode c (Int.tmod (k : Int) (c.Up.length : Int))).1 = c := hs (k % c.Up.length) (Nat.mod_lt _ hu)
      rw [e]; exact stuck_fin hs hu f (k + 1)
    · rfl
theorem fin_run : ∀ (f k q : Nat) (c : Cluster), isCl c = true → q ≤ k → q < c.Up.length → (∀ t : Nat, t < k → k ≤ t + q → (stepNode c ((t % c.Up.length : Nat) : Int)).1 = c) → (c.Up.length : Int) * (muC c + 21) - q ≤ f →
    isCl (finGo f k c) = true ∧ (finGo f k c).Up = c.Up ∧ (finGo f k c).Parts = c.Parts ∧ (finGo f k c).Query = c.Query ∧ (∀ x : Int, x ∈ c.Done → x ∈ (finGo f k c).Done) ∧
    (∀ x : Int, x ∈ (finGo f k c).Done → x ∈ c.Done ∨ upAt c (homeOf x c.Up.length) = true ∨ upAt c (backupOf x c.Up.length) = true) ∧ ∀ i : Nat, i < c.Parts.length → fineC (finGo f k c) i → (i : Int) ∈ (finGo f k c).Done
  | 0, k, q, c, h, _, hq, _, hf => by
    have hb := (mu_bd h).1
    have hl := clLen h
    exfalso
    have : c.Up.length = 2 ∨ c.Up.length = 3 ∨ c.Up.length = 4 := by omega
    rcases this with e | e | e <;> rw [e] at hf hq <;> omega
  | f + 1, k, q, c, h, hqk, hq, hid, hf => by
    have hl := clLen h
    rw [finGo]
    by_cases hg : goOn c = true
    · rw [if_pos hg]
      have hm : k % c.Up.length < c.Up.length := Nat.mod_lt _ (by omega)
      have eT : (stepNode c (Int.tmod (k : Int) (c.Up.length : Int))).1 = (stepNode c ((k % c.Up.length : Nat) : Int)).1 := rfl
      rw [eT]
      rcases step_mu h hm with he | ⟨hu, hne, hmu⟩
      · rw [he]
        by_cases hq1 : q + 1 < c.Up.length
        · exact fin_run f (k + 1) (q + 1) c h (by omega) hq1 (fun t h1 h2 => by
            by_cases e : t = k
            · subst e; exact he
            · exact hid t (by omega) (by omega)) (by omega)
        · have hst : ∀ r : Nat, r < c.Up.length → (stepNode c (r : Int)).1 = c := fun r hr => by
            have look : ∀ t : Nat, t ≤ k → k ≤ t + q → (stepNode c ((t % c.Up.length : Nat) : Int)).1 = c := fun t h1 h2 => by
              by_cases e : t = k
              · subst e; exact he
              · exact hid t (by omega) (by omega)
            have hqe : q + 1 = c.Up.length := by omega
            have : c.Up.length = 2 ∨ c.Up.length = 3 ∨ c.Up.length = 4 := by omega
            rcases this with e | e | e
            · have hh := look (k - ((k + 2 - r) % 2)) (by omega) (by omega)
              rw [e, show (k - ((k + 2 - r) % 2)) % 2 = r by omega] at hh; exact hh
            · have hh := look (k - ((k + 3 - r) % 3)) (by omega) (by omega)
              rw [e, show (k - ((k + 3 - r) % 3)) % 3 = r by omega] at hh; exact hh
            · have hh := look (k - ((k + 4 - r) % 4)) (by omega) (by omega)
              rw [e, show (k - ((k + 4 - r) % 4)) % 4 = r by omega] at hh; exact hh
          rw [stuck_fin hst (by omega) f (k + 1)]
          exact ⟨h, rfl, rfl, rfl, fun _ x => x, fun _ x => .inl x, fun i hi hfi => stuck_done h hst hi hfi⟩
      · have hk := step_keep (c := c) (n := ((k % c.Up.length : Nat) : Int))
        have hcl := (step_ok hu).1
        have hd := fun x => step_done h hm (x := x)
        generalize (stepNode c ((k % c.Up.length : Nat) : Int)).1 = d at hne hmu hk hcl hd ⊢
        obtain ⟨k1, k2, k3⟩ := hk
        obtain ⟨r1, r2, r3, r4, r5, r6, r7⟩ := fin_run f (k + 1) 0 d hcl (by omega) (by rw [k1]; omega) (fun t h1 h2 => by omega) (by
          rw [k1, hmu]
          have : c.Up.length = 2 ∨ c.Up.length = 3 ∨ c.Up.length = 4 := by omega
          rcases this with e | e | e <;> rw [e] at hf hq ⊢ <;> omega)
        refine ⟨r1, r2.trans k1, r3.trans k2, r4.trans k3, fun x hx => r5 x ((hd x).1 hx), fun x hx => ?_, fun i hi hfi => r7 i (by rw [k2]; exact hi) hfi⟩
        have e1 : upAt d = upAt c := by unfold upAt; rw [k1]
        rcases r6 x hx with hx | hx | hx
        · exact (hd x).2 hx
        · rw [e1, k1] at hx; exact .inr (.inl hx)
        · rw [e1, k1] at hx; exact .inr (.inr hx)
    · rw [if_neg hg]
      exact ⟨h, rfl, rfl, rfl, fun _ x => x, fun _ x => .inl x, fun i hi _ => all_done h (fun x => hg ((goOn_of h).2 x)) hi⟩
theorem fin_law {c : Cluster} (h : isCl c = true) : isCl (finC c) = true ∧ (finC c).Up = c.Up ∧ (finC c).Parts = c.Parts ∧ (finC c).Query = c.Query ∧ ∀ i : Nat, i < c.Parts.length → ((i : Int) ∈ (finC c).Done ↔ fineC c i) := by
  have hl := clLen h
  have hb := (mu_bd h).2
  obtain ⟨r1, r2, r3, r4, r5, r6, r7⟩ := fin_run 400 0 0 c h (Nat.le_refl _) (by omega) (fun t h1 _ => by omega) (by
    have : c.Up.length = 2 ∨ c.Up.length = 3 ∨ c.Up.length = 4 := by omega
    rcases this with e | e | e <;> rw [e] <;> omega)
  refine ⟨r1, r2, r3, r4, fun i hi => ⟨r6 i, fun hf => r7 i hi ?_⟩⟩
  have e1 : upAt (finGo 400 0 c) = upAt c := by unfold upAt; rw [r2]
  rcases hf with hf | hf | hf
  · exact .inl (r5 i hf)
  · right; left; show upAt (finGo 400 0 c) (homeOf (i : Int) (finGo 400 0 c).Up.length) = true; rw [e1, r2]; exact hf
  · right; right; show upAt (finGo 400 0 c) (backupOf (i : Int) (finGo 400 0 c).Up.length) = true; rw [e1, r2]; exact hf
def partsOn (c x : Cluster) (k : Nat) : List Row := ((List.range k).map fun i : Nat => if hasI x.Done (i : Int) = true then c.Parts.getD i [] else []).flatten
theorem partsOn_succ {c x : Cluster} {k : Nat} : partsOn c x (k + 1) = partsOn c x k ++ (if hasI x.Done (k : Int) = true then c.Parts.getD k [] else []) := by
  unfold partsOn
  rw [List.range_succ, List.map_append, List.flatten_append]; simp
theorem found_flat {q : Query} : ∀ l : List (List Row), (l.map (found q)).flatten = found q l.flatten
  | [] => rfl
  | a :: l => by
    rw [List.map_cons, List.flatten_cons, List.flatten_cons, found_flat l]
    unfold found
    rw [List.filter_append]
theorem rows_done {x : Cluster} (h : isCl x = true) : x.Rows.flatten = found x.Query (partsOn x x x.Parts.length) := by
  have hc := clF_of h
  have hl := clLen h
  have e : x.Rows = ((List.range x.Parts.length).map fun i : Nat => if hasI x.Done (i : Int) = true then x.Parts.getD i [] else []).map (found x.Query) := by
    apply List.ext_getElem
    · simp; omega
    · intro i h1 h2
      rw [List.getElem_map, List.getElem_map, List.getElem_range]
      have := hc.row i (by omega)
      rw [getD_at h1] at this
      rw [this]
      by_cases hd : (i : Int) ∈ x.Done
      · rw [if_pos hd, if_pos (hasI_iff.2 hd)]
      · rw [if_neg hd, if_neg (by rw [hasI_no.2 hd]; simp)]; rfl
  rw [e, found_flat]; rfl
theorem partsOn_all {c x : Cluster} : ∀ {k : Nat}, k ≤ c.Parts.length → (∀ i : Nat, i < k → hasI x.Done (i : Int) = true) → partsOn c x k = (c.Parts.take k).flatten
  | 0, _, _ => rfl
  | k + 1, hk, h => by
    rw [partsOn_succ, partsOn_all (by omega) (fun i hi => h i (by omega)), if_pos (h k (by omega)), getD_at (show k < c.Parts.length by omega), List.take_succ_eq_append_getElem (show k < c.Parts.length by omega), List.flatten_append]
    simp

end Go.Proofs.YtmkhofdkdklpdaaGreat
