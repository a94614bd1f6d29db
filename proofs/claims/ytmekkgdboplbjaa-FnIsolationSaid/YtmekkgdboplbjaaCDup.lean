/- Definitions and their laws. No condition. -/
import Derived.Test.YtmekkgdboplbjaaCDrl
set_option linter.unusedVariables false
set_option linter.unusedSimpArgs false
namespace Go.Proofs.Ytmekkgdboplbjaa
open Go Go.RowKit M
set_option maxRecDepth 10000
def aliveP (id : Int) (v : Version) : Bool := decide (v.Id = id) && decide (v.Died = -1)
def hasAl (id : Int) (l : List Version) : Bool := l.any (aliveP id)
def segN (s : Store) (i : Nat) : List Version := s.Segments.getD i []
def findI (s : Store) (id : Int) : Int := if s.Segments.any (hasAl id) then ((s.Segments.findIdx (hasAl id) : Nat) : Int) else -1
def findK (s : Store) (id : Int) : Int := if s.Segments.any (hasAl id) then (((segN s (s.Segments.findIdx (hasAl id))).findIdx (aliveP id) : Nat) : Int) else -1
theorem fidx_at {α : Type} {P : α → Bool} {l : List α} {k : Nat} (hk : k < l.length) (h : (l.take k).any P = false) (hy : P l[k] = true) : l.findIdx P = k := by
 rw [List.findIdx_eq hk]
 refine ⟨hy, fun j hj => ?_⟩
 rw [List.any_eq_false] at h
 have := h l[j] (by rw [List.mem_iff_getElem]; exact ⟨j, by rw [List.length_take]; omega, by simp⟩)
 simpa using this
theorem find_at {s : Store} {id : Int} {i k : Nat} (hi : i < s.Segments.length) (h1 : (s.Segments.take i).any (hasAl id) = false) (hk : k < s.Segments[i].length) (h2 : (s.Segments[i].take k).any (aliveP id) = false) (hy : aliveP id s.Segments[i][k] = true) : findI s id = (i : Int) ∧ findK s id = (k : Int) := by
 have ha : hasAl id s.Segments[i] = true := any_yes hk hy
 have hany : s.Segments.any (hasAl id) = true := any_yes hi ha
 have e1 := fidx_at hi h1 ha
 have e2 := fidx_at hk h2 hy
 unfold findI findK segN
 rw [if_pos hany, if_pos hany, e1, List.getD_eq_getElem?_getD, List.getElem?_eq_getElem hi]
 exact ⟨rfl, by show ((s.Segments[i].findIdx (aliveP id) : Nat) : Int) = _; rw [e2]⟩
theorem find_none {s : Store} {id : Int} (h : s.Segments.any (hasAl id) = false) : findI s id = -1 ∧ findK s id = -1 := by
 unfold findI findK
 rw [if_neg (by rw [h]; simp), if_neg (by rw [h]; simp)]
 exact ⟨rfl, rfl⟩
theorem find_ge {s : Store} {id : Int} (h : 0 ≤ findI s id) : ∃ i k : Nat, ∃ hi : i < s.Segments.length, ∃ hk : k < s.Segments[i].length, findI s id = (i : Int) ∧ findK s id = (k : Int) ∧ aliveP id s.Segments[i][k] = true := by
 unfold findI at h
 split at h
 ·rename_i ha
  obtain ⟨l, hl, hp⟩ := List.any_eq_true.1 ha
  have hi : s.Segments.findIdx (hasAl id) < s.Segments.length := List.findIdx_lt_length_of_exists ⟨l, hl, hp⟩
  have hpi : hasAl id (s.Segments[s.Segments.findIdx (hasAl id)]) = true := List.findIdx_getElem (w := hi)
  obtain ⟨v, hv, hvp⟩ := List.any_eq_true.1 hpi
  have hk : s.Segments[s.Segments.findIdx (hasAl id)].findIdx (aliveP id) < s.Segments[s.Segments.findIdx (hasAl id)].length := List.findIdx_lt_length_of_exists ⟨v, hv, hvp⟩
  refine ⟨_, _, hi, hk, ?_, ?_, List.findIdx_getElem (w := hk)⟩
  ·unfold findI; rw [if_pos ha]
  ·unfold findK segN; rw [if_pos ha, List.getD_eq_getElem?_getD, List.getElem?_eq_getElem hi]; rfl
 ·omega
def smallV (l : List Version) : Bool := decide ((l.length : Int) < 4)
def roomN (L : List (List Version)) : Int := if L.any smallV then ((L.findIdx smallV : Nat) : Int) else -1
theorem room_at {L : List (List Version)} {k : Nat} (hk : k < L.length) (h : (L.take k).any smallV = false) (hy : smallV L[k] = true) : roomN L = (k : Int) := by
 unfold roomN; rw [if_pos (any_yes hk hy), fidx_at hk h hy]
theorem room_none {L : List (List Version)} (h : L.any smallV = false) : roomN L = -1 := if_neg (by rw [h]; simp)
theorem room_ge {L : List (List Version)} (h : 0 ≤ roomN L) : ∃ r : Nat, ∃ hr : r < L.length, roomN L = (r : Int) ∧ L[r].length < 4 := by
 unfold roomN at h
 split at h
 ·rename_i ha
  obtain ⟨l, hl, hp⟩ := List.any_eq_true.1 ha
  have hr : L.findIdx smallV < L.length := List.findIdx_lt_length_of_exists ⟨l, hl, hp⟩
  have hpi : smallV L[L.findIdx smallV] = true := List.findIdx_getElem (w := hr)
  refine ⟨_, hr, by unfold roomN; rw [if_pos ha], ?_⟩
  have : ∀ l : List Version, smallV l = true → l.length < 4 := fun l hl => by unfold smallV at hl; simp only [decide_eq_true_eq] at hl; omega
  exact this _ hpi
 ·omega
def killV (n : Int) (v : Version) : Version := ⟨v.Id, v.Values, v.Born, n⟩
def verKI (s : Store) (i k : Int) : Version := (segN s i.toNat).getD k.toNat v0
def upSegs (s : Store) (u : Update) : List (List Version) := if 0 ≤ findI s u.Row.Id then s.Segments.set (findI s u.Row.Id).toNat ((segN s (findI s u.Row.Id).toNat).set (findK s u.Row.Id).toNat (killV (s.Now + 1) (verKI s (findI s u.Row.Id) (findK s u.Row.Id)))) else s.Segments
def upVals (s : Store) (u : Update) : List Int := if 0 ≤ findI s u.Row.Id then (verKI s (findI s u.Row.Id) (findK s u.Row.Id)).Values else u.Row.Values
def upVals2 (s : Store) (u : Update) : List Int := if u.Kind = 3 then (upVals s u).set u.Field.toNat u.Value else upVals s u
def upNew (s : Store) (u : Update) : Version := ⟨u.Row.Id, upVals2 s u, s.Now + 1, -1⟩
def putV (L : List (List Version)) (r : Nat) (v : Version) : List (List Version) := L.set r (L.getD r [] ++ [v])
def applyOk (s : Store) (u : Update) : Bool := ((okStore s && okUpdate u) && decide (s.Now < 100000)) && (decide (0 ≤ findI s u.Row.Id) == !decide (u.Kind = 1) && (decide (u.Kind = 2) || decide (0 ≤ roomN s.Segments)))
def applyS (s : Store) (u : Update) : Store := ⟨if u.Kind = 2 then upSegs s u else putV (upSegs s u) (roomN s.Segments).toNat (upNew s u), s.Now + 1⟩
def applyU (s : Store) (u : Update) : Store × Bool := if applyOk s u then (applyS s u, true) else (s, false)
theorem apply_no {s : Store} {u : Update} (h : applyOk s u = false) : applyU s u = (s, false) := if_neg (by rw [h]; simp)
theorem apply_yes {s : Store} {u : Update} (h : applyOk s u = true) : applyU s u = (applyS s u, true) := if_pos h
theorem apply_del {s : Store} {u : Update} (h : applyOk s u = true) (hk : u.Kind = 2) : applyU s u = (⟨upSegs s u, s.Now + 1⟩, true) := by rw [apply_yes h]; unfold applyS; rw [if_pos hk]
theorem apply_put {s : Store} {u : Update} {r : Nat} (h : applyOk s u = true) (hk : ¬ u.Kind = 2) (hr : roomN s.Segments = (r : Int)) : applyU s u = (⟨putV (upSegs s u) r (upNew s u), s.Now + 1⟩, true) := by
 rw [apply_yes h]; unfold applyS; rw [if_neg hk, hr]; rfl
theorem up_yes {s : Store} {u : Update} {i k : Nat} (hi : i < s.Segments.length) (hk : k < s.Segments[i].length) (h1 : findI s u.Row.Id = (i : Int)) (h2 : findK s u.Row.Id = (k : Int)) : upSegs s u = s.Segments.set i (s.Segments[i].set k (killV (s.Now + 1) s.Segments[i][k])) ∧ upVals s u = s.Segments[i][k].Values := by
 have e1 : segN s i = s.Segments[i] := by unfold segN; simp [hi]
 unfold upSegs upVals verKI
 rw [h1, h2, if_pos (by omega), if_pos (by omega), Int.toNat_natCast, Int.toNat_natCast, e1]
 simp [hk]
theorem up_no {s : Store} {u : Update} (h : ¬ 0 ≤ findI s u.Row.Id) : upSegs s u = s.Segments ∧ upVals s u = u.Row.Values := by
 unfold upSegs upVals; rw [if_neg h, if_neg h]; exact ⟨rfl, rfl⟩
theorem up_lens (s : Store) (u : Update) : (upSegs s u).map List.length = s.Segments.map List.length := by
 by_cases h : 0 ≤ findI s u.Row.Id
 ·obtain ⟨i, k, hi, hk, h1, h2, _⟩ := find_ge h
  rw [(up_yes hi hk h1 h2).1]
  apply List.ext_getElem
  ·simp
  ·intro j hj1 hj2
   simp only [List.getElem_map, List.getElem_set]
   split
   ·rename_i hij; subst hij; simp
   ·rfl
 ·rw [(up_no h).1]
theorem up_len (s : Store) (u : Update) : (upSegs s u).length = s.Segments.length := by
 have := congrArg List.length (up_lens s u)
 simpa using this
theorem up_at (s : Store) (u : Update) {k : Nat} (hk : k < (upSegs s u).length) (hk2 : k < s.Segments.length) : (upSegs s u)[k].length = s.Segments[k].length := by
 have h := up_lens s u
 have := List.getElem_of_eq h (show k < ((upSegs s u).map List.length).length by rw [List.length_map]; exact hk)
 simpa using this
theorem kill_wt (n : Int) (v : Version) : wtVersion (killV n v) = wtVersion v := by unfold killV wtVersion; simp only [wtInt]
theorem set_sum {α : Type} {f : α → Nat} : ∀ {l : List α} {i : Nat} {x : α} (hi : i < l.length), ((l.set i x).map f).sum + f l[i] = (l.map f).sum + f x
 | y :: l, 0, x, _ => by simp; omega
 | y :: l, i + 1, x, h => by
  have := set_sum (f := f) (l := l) (i := i) (x := x) (by simpa using h)
  simp only [List.set_cons_succ, List.map_cons, List.sum_cons, List.getElem_cons_succ]
  omega
theorem up_wt (s : Store) (u : Update) : wtVersionSS (upSegs s u) = wtVersionSS s.Segments := by
 by_cases h : 0 ≤ findI s u.Row.Id
 ·obtain ⟨i, k, hi, hk, h1, h2, _⟩ := find_ge h
  rw [(up_yes hi hk h1 h2).1]
  have e1 := set_sum (f := wtVersionS) (x := s.Segments[i].set k (killV (s.Now + 1) s.Segments[i][k])) hi
  have e2 := set_sum (f := wtVersion) (x := killV (s.Now + 1) s.Segments[i][k]) hk
  rw [kill_wt] at e2
  have e3 : wtVersionS (s.Segments[i].set k (killV (s.Now + 1) s.Segments[i][k])) = wtVersionS s.Segments[i] := by unfold wtVersionS; rw [List.length_set]; omega
  unfold wtVersionSS
  rw [List.length_set]; omega
 ·rw [(up_no h).1]
theorem vals_le (s : Store) (u : Update) : (upVals2 s u).length ≤ wtStore s + wtUpdate u := by
 have h0 : (upVals2 s u).length = (upVals s u).length := by unfold upVals2; split <;> simp
 rw [h0]
 by_cases h : 0 ≤ findI s u.Row.Id
 ·obtain ⟨i, k, hi, hk, h1, h2, _⟩ := find_ge h
  rw [(up_yes hi hk h1 h2).2]
  have w1 := wt_mem (f := wtVersionS) hi
  have w2 := wt_mem (f := wtVersion) hk
  have w3 : wtVersionS s.Segments[i] = s.Segments[i].length + (s.Segments[i].map wtVersion).sum := rfl
  have w4 : wtVersion s.Segments[i][k] = s.Segments[i][k].Values.length := by simp only [wtVersion, wtIntS_len, wtInt]; omega
  unfold wtStore wtVersionSS
  simp only [wtInt]; omega
 ·rw [(up_no h).2]
  unfold wtUpdate wtRow
  simp only [wtIntS_len, wtInt]; omega
theorem vals_3 {s : Store} {u : Update} (hs : okStore s = true) (h : 0 ≤ findI s u.Row.Id) : (upVals s u).length = 3 := by
 obtain ⟨i, k, hi, hk, h1, h2, _⟩ := find_ge h
 rw [(up_yes hi hk h1 h2).2]
 have hv := sto_ver hs hi hk
 unfold verOk at hv
 rw [Bool.and_eq_true] at hv
 exact rowLen hv.1
theorem upd_3 {u : Update} (h : okUpdate u = true) (hk : u.Kind = 3) : 0 ≤ u.Field ∧ u.Field ≤ 2 := by
 unfold okUpdate at h
 rw [if_neg (by omega), if_neg (by omega), if_pos hk] at h
 simp only [Bool.and_eq_true, inB, decide_eq_true_eq] at h
 exact h.2.1
theorem applyOk_of {s : Store} {u : Update} (h1 : okStore s = true) (h2 : okUpdate u = true) (h3 : s.Now < 100000) (h4 : 0 ≤ findI s u.Row.Id ↔ ¬ u.Kind = 1) (h5 : u.Kind = 2 ∨ 0 ≤ roomN s.Segments) : applyOk s u = true := by
 unfold applyOk
 rw [h1, h2, decide_eq_true h3]
 have e1 : (decide (0 ≤ findI s u.Row.Id) == !decide (u.Kind = 1)) = true := by
  by_cases a : 0 ≤ findI s u.Row.Id <;> by_cases b : u.Kind = 1 <;> simp_all
 have e2 : (decide (u.Kind = 2) || decide (0 ≤ roomN s.Segments)) = true := by
  rcases h5 with h | h <;> simp [h]
 rw [e1, e2]; rfl
theorem applyOk_f {s : Store} {u : Update} (h : applyOk s u = true) : okStore s = true ∧ okUpdate u = true ∧ s.Now < 100000 ∧ (0 ≤ findI s u.Row.Id ↔ ¬ u.Kind = 1) ∧ (u.Kind = 2 ∨ 0 ≤ roomN s.Segments) := by
 unfold applyOk at h
 simp only [Bool.and_eq_true, Bool.or_eq_true, decide_eq_true_eq] at h
 obtain ⟨⟨⟨h1, h2⟩, h3⟩, h4, h5⟩ := h
 refine ⟨h1, h2, h3, ?_, h5⟩
 by_cases a : 0 ≤ findI s u.Row.Id <;> by_cases b : u.Kind = 1 <;> simp_all
theorem putV_eq {L : List (List Version)} {r : Nat} {v : Version} (hr : r < L.length) : putV L r v = L.set r (L[r] ++ [v]) := by unfold putV; simp [hr]
end Go.Proofs.Ytmekkgdboplbjaa
