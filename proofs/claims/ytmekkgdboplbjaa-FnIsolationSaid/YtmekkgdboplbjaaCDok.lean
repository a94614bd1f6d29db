/- Definitions and their laws. No condition. -/
import Derived.Test.YtmekkgdboplbjaaCDup
import Derived.Test.YtmekkgdboplbjaaCDsp
set_option linter.unusedVariables false
set_option linter.unusedSimpArgs false
namespace Go.Proofs.Ytmekkgdboplbjaa
open Go Go.RowKit M
set_option maxRecDepth 10000
structure StoOk (s : Store) : Prop where
 l1 : 1 ≤ s.Segments.length
 l8 : s.Segments.length ≤ 8
 n0 : 0 ≤ s.Now
 n1 : s.Now ≤ 100000
 sm : ∀ g ∈ s.Segments, g.length ≤ 4
 vs : ∀ v ∈ allV s, verOk s.Now v = true
 ap : (allV s).Pairwise fun a b => apartV a b = true
theorem apart_symm (a b : Version) : apartV a b = apartV b a := by
 unfold apartV
 rw [show (a.Id == b.Id) = (b.Id == a.Id) from by rw [Bool.eq_iff_iff]; simp only [beq_iff_eq]; exact eq_comm]
 rw [Bool.or_comm (_ && _) (_ && _)]
theorem gD_mem {α : Type} {l : List α} {d : α} {i : Nat} (h : i < l.length) : l.getD i d = l[i] := by
 rw [List.getD_eq_getElem?_getD, List.getElem?_eq_getElem h]; rfl
theorem okStore_iff {s : Store} : okStore s = true ↔ StoOk s := by
 constructor
 ·intro h
  obtain ⟨h1, h2, h3, h4, h5, h6⟩ := sto_facts h
  refine ⟨h2, h1, h3, h4, h5, fun v hv => ?_, ?_⟩
  ·obtain ⟨i, hi, rfl⟩ := List.mem_iff_getElem.1 hv
   have := h6 i hi
   rwa [gD_mem hi] at this
  ·rw [List.pairwise_iff_getElem]
   intro i j hi hj hij
   unfold okStore goodTo at h
   rw [Bool.and_eq_true] at h
   have hg := List.all_eq_true.1 h.2 j (List.mem_range.2 hj)
   unfold goodV freeOf at hg
   rw [Bool.and_eq_true] at hg
   have := List.all_eq_true.1 hg.2 i (List.mem_range.2 hij)
   rw [gD_mem hi, gD_mem hj] at this
   rw [apart_symm]; exact this
 ·intro h
  unfold okStore stoPre
  have e1 : s.Segments.all smallS = true := List.all_eq_true.2 fun g hg => by have := h.sm g hg; unfold smallS; rw [decide_eq_true_eq]; omega
  have e2 : goodTo s.Now (allV s) (allV s).length = true := by
   unfold goodTo
   refine List.all_eq_true.2 fun i hi => ?_
   have hi := List.mem_range.1 hi
   unfold goodV freeOf
   rw [gD_mem hi, Bool.and_eq_true]
   refine ⟨h.vs _ (List.getElem_mem hi), List.all_eq_true.2 fun m hm => ?_⟩
   have hm := List.mem_range.1 hm
   have := List.pairwise_iff_getElem.1 h.ap m i (by omega) hi hm
   rw [gD_mem (by omega), apart_symm]; exact this
  have l1 := h.l1; have l8 := h.l8; have n0 := h.n0; have n1 := h.n1
  rw [e1, e2]
  simp only [inB, Bool.and_eq_true, decide_eq_true_eq, and_true]
  omega
theorem kept_all (s : Store) (keep : List Int) (h : okStore s = true) : allV (reclaimS s keep) = (allV s).filter fun v => needV v keep := by
 rw [reclaim_yes h]
 unfold allV
 dsimp only
 generalize s.Segments = l
 induction l with
 | nil => rfl
 | cons x l ih => rw [List.map_cons, List.flatten_cons, List.flatten_cons, List.filter_append, ih]; rfl
theorem reclaim_ok {s : Store} (keep : List Int) (h : okStore s = true) : okStore (reclaimS s keep) = true := by
 have k := okStore_iff.1 h
 have e := kept_all s keep h
 rw [okStore_iff]
 have hr := reclaim_yes (keep := keep) h
 refine ⟨?_, ?_, ?_, ?_, ?_, ?_, ?_⟩
 ·rw [hr]; show 1 ≤ (s.Segments.map _).length; rw [List.length_map]; exact k.l1
 ·rw [hr]; show (s.Segments.map _).length ≤ 8; rw [List.length_map]; exact k.l8
 ·rw [hr]; exact k.n0
 ·rw [hr]; exact k.n1
 ·rw [hr]
  intro g hg
  obtain ⟨x, hx, rfl⟩ := List.mem_map.1 hg
  exact Nat.le_trans (List.length_filter_le _ _) (k.sm x hx)
 ·rw [e, show (reclaimS s keep).Now = s.Now by rw [hr]]
  intro v hv
  exact k.vs v (List.mem_filter.1 hv).1
 ·rw [e]; exact k.ap.filter _
theorem reclaim_len {s : Store} (keep : List Int) : (reclaimS s keep).Segments.length = s.Segments.length ∧ (reclaimS s keep).Now = s.Now := by
 unfold reclaimS
 split
 ·exact ⟨List.length_map _, rfl⟩
 ·exact ⟨rfl, rfl⟩
theorem kept_vis {keep : List Int} {t : Int} (ht : t ∈ keep) (l : List Version) : visL (keptL keep l) t = visL l t := by
 unfold visL keptL
 rw [List.filter_filter]
 congr 1
 refine List.filter_congr fun v _ => ?_
 cases hv : visV v t with
 | false => simp
 | true =>
  have : needV v keep = true := by
   unfold needV
   rw [Bool.or_eq_true]
   exact .inr (List.any_eq_true.2 ⟨t, ht, hv⟩)
  rw [this]; rfl
theorem segN_len {s : Store} {i : Nat} (h : ¬ i < s.Segments.length) : segN s i = [] := by
 unfold segN; rw [List.getD_eq_getElem?_getD, List.getElem?_eq_none (by omega)]; rfl
theorem segN_at {s : Store} {i : Nat} (h : i < s.Segments.length) : segN s i = s.Segments[i] := gD_mem h
theorem reclaim_seg {s : Store} {keep : List Int} (h : okStore s = true) (i : Nat) : segN (reclaimS s keep) i = keptL keep (segN s i) := by
 rw [reclaim_yes h]
 by_cases hi : i < s.Segments.length
 ·rw [segN_at (s := ⟨s.Segments.map (keptL keep), s.Now⟩) (by simpa using hi), segN_at hi]; simp
 ·rw [segN_len (s := ⟨s.Segments.map (keptL keep), s.Now⟩) (by simpa using hi), segN_len hi]; rfl
theorem reclaim_vis {s : Store} {keep : List Int} {t : Int} (h : okStore s = true) (ht : t ∈ keep) (i : Nat) : visL (segN (reclaimS s keep) i) t = visL (segN s i) t := by
 rw [reclaim_seg h, kept_vis ht]
theorem verOk_next {n : Int} {v : Version} (h : verOk n v = true) : verOk (n + 1) v = true := by
 unfold verOk at *
 simp only [Bool.and_eq_true, Bool.or_eq_true, inB, decide_eq_true_eq] at *
 exact ⟨h.1, by omega, by omega⟩
theorem set_cut {α : Type} {l : List α} {i : Nat} {x : α} (h : i < l.length) : l.set i x = l.take i ++ x :: l.drop (i + 1) := by
 rw [List.set_eq_take_append_cons_drop, if_pos h]
theorem allV_cut {s : Store} {i k : Nat} (hi : i < s.Segments.length) (hk : k < s.Segments[i].length) : allV s = ((s.Segments.take i).flatten ++ s.Segments[i].take k) ++ s.Segments[i][k] :: (s.Segments[i].drop (k + 1) ++ (s.Segments.drop (i + 1)).flatten) := by
 have e1 := allV_split hi
 have e2 : s.Segments[i] = s.Segments[i].take k ++ s.Segments[i][k] :: s.Segments[i].drop (k + 1) := by rw [← List.drop_eq_getElem_cons hk, List.take_append_drop]
 rw [e1]
 unfold preN
 conv => lhs; rw [e2]
 simp only [List.append_assoc, List.cons_append]
theorem allV_kill {s : Store} {i k : Nat} {v : Version} {n : Int} (hi : i < s.Segments.length) (hk : k < s.Segments[i].length) : allV ⟨s.Segments.set i (s.Segments[i].set k v), n⟩ = ((s.Segments.take i).flatten ++ s.Segments[i].take k) ++ v :: (s.Segments[i].drop (k + 1) ++ (s.Segments.drop (i + 1)).flatten) := by
 unfold allV
 dsimp only
 rw [set_cut hi, List.flatten_append, List.flatten_cons, set_cut hk]
 simp only [List.append_assoc, List.cons_append]
theorem allV_put {L : List (List Version)} {r : Nat} {v : Version} {n : Int} (hr : r < L.length) : (allV ⟨putV L r v, n⟩).Perm (v :: allV ⟨L, n⟩) := by
 unfold allV
 dsimp only
 rw [putV_eq hr, set_cut hr, List.flatten_append, List.flatten_cons]
 have e : L.flatten = (L.take r).flatten ++ (L[r] ++ (L.drop (r + 1)).flatten) := by
  rw [← List.flatten_cons, ← List.flatten_append, ← List.drop_eq_getElem_cons hr, List.take_append_drop]
 rw [e]
 have : (L.take r).flatten ++ (L[r] ++ [v] ++ (L.drop (r + 1)).flatten) = ((L.take r).flatten ++ L[r]) ++ v :: (L.drop (r + 1)).flatten := by simp only [List.append_assoc, List.cons_append, List.nil_append]
 rw [this]
 refine List.perm_middle.trans ?_
 rw [List.append_assoc]
theorem alive_iff {id : Int} {v : Version} : aliveP id v = true ↔ v.Id = id ∧ v.Died = -1 := by unfold aliveP; simp
theorem find_no {s : Store} {id : Int} (h : ¬ 0 ≤ findI s id) : ∀ v ∈ allV s, v.Id = id → v.Died ≠ -1 := by
 intro v hv hid hd
 have hall : s.Segments.any (hasAl id) = true := by
  unfold allV at hv
  obtain ⟨g, hg, hv⟩ := List.mem_flatten.1 hv
  exact List.any_eq_true.2 ⟨g, hg, List.any_eq_true.2 ⟨v, hv, alive_iff.2 ⟨hid, hd⟩⟩⟩
 unfold findI at h
 rw [if_pos hall] at h
 omega
theorem apart_id {a b : Version} (h : apartV a b = true) (hid : a.Id = b.Id) : (a.Died ≠ -1 ∧ a.Died ≤ b.Born) ∨ (b.Died ≠ -1 ∧ b.Died ≤ a.Born) := by
 unfold apartV at h
 simp only [hid, beq_self_eq_true, Bool.not_true, Bool.false_or, Bool.or_eq_true, Bool.and_eq_true, Bool.not_eq_true', beq_eq_false_iff_ne, decide_eq_true_eq] at h
 exact h
theorem apart_of {a b : Version} (h : a.Id = b.Id → (a.Died ≠ -1 ∧ a.Died ≤ b.Born) ∨ (b.Died ≠ -1 ∧ b.Died ≤ a.Born)) : apartV a b = true := by
 unfold apartV
 by_cases hid : a.Id = b.Id
 ·have := h hid
  simp only [hid, beq_self_eq_true, Bool.not_true, Bool.false_or, Bool.or_eq_true, Bool.and_eq_true, Bool.not_eq_true', beq_eq_false_iff_ne, decide_eq_true_eq]
  exact this
 ·rw [show (a.Id == b.Id) = false by rw [beq_eq_false_iff_ne]; exact hid]; rfl
theorem verOk_f {n : Int} {v : Version} (h : verOk n v = true) : okRow ⟨v.Id, v.Values⟩ = true ∧ 0 ≤ v.Born ∧ v.Born ≤ n ∧ (v.Died = -1 ∨ (v.Born + 1 ≤ v.Died ∧ v.Died ≤ n)) := by
 unfold verOk at h
 simp only [Bool.and_eq_true, Bool.or_eq_true, inB, decide_eq_true_eq] at h
 exact ⟨h.1, h.2.1.1, h.2.1.2, h.2.2⟩
theorem verOk_of {n : Int} {v : Version} (h : okRow ⟨v.Id, v.Values⟩ = true) (h1 : 0 ≤ v.Born ∧ v.Born ≤ n) (h2 : v.Died = -1 ∨ (v.Born + 1 ≤ v.Died ∧ v.Died ≤ n)) : verOk n v = true := by
 unfold verOk
 simp only [Bool.and_eq_true, Bool.or_eq_true, inB, decide_eq_true_eq]
 exact ⟨h, h1, h2⟩
theorem symm_ap : ∀ {a b : Version}, apartV a b = true → apartV b a = true := fun {a b} h => by rw [apart_symm]; exact h
structure UpOk (s : Store) (u : Update) : Prop where
 vs : ∀ v ∈ allV ⟨upSegs s u, s.Now + 1⟩, verOk (s.Now + 1) v = true
 ap : (allV ⟨upSegs s u, s.Now + 1⟩).Pairwise fun a b => apartV a b = true
 no : ∀ v ∈ allV ⟨upSegs s u, s.Now + 1⟩, v.Id = u.Row.Id → v.Died ≠ -1
theorem up_ok {s : Store} {u : Update} (h : okStore s = true) : UpOk s u := by
 have k := okStore_iff.1 h
 by_cases hf : 0 ≤ findI s u.Row.Id
 ·obtain ⟨i, j, hi, hj, h1, h2, ha⟩ := find_ge hf
  obtain ⟨hid, hdd⟩ := alive_iff.1 ha
  have e1 := allV_cut hi hj
  have e2 := allV_kill (v := killV (s.Now + 1) s.Segments[i][j]) (n := s.Now + 1) hi hj
  have kv := k.vs; have ka := k.ap
  rw [e1] at kv ka
  rw [List.pairwise_append, List.pairwise_cons] at ka
  obtain ⟨ka1, ⟨ka2, ka3⟩, ka4⟩ := ka
  have hv0 := verOk_f (kv s.Segments[i][j] (by simp))
  have mem : ∀ v ∈ ((s.Segments.take i).flatten ++ s.Segments[i].take j) ++ killV (s.Now + 1) s.Segments[i][j] :: (s.Segments[i].drop (j + 1) ++ (s.Segments.drop (i + 1)).flatten), v = killV (s.Now + 1) s.Segments[i][j] ∨ v ∈ ((s.Segments.take i).flatten ++ s.Segments[i].take j) ∨ v ∈ (s.Segments[i].drop (j + 1) ++ (s.Segments.drop (i + 1)).flatten) := by
   intro v hv
   rcases List.mem_append.1 hv with hv | hv
   ·exact .inr (.inl hv)
   ·rcases List.mem_cons.1 hv with hv | hv
    ·exact .inl hv
    ·exact .inr (.inr hv)
  have hk : ∀ w : Version, apartV s.Segments[i][j] w = true → apartV (killV (s.Now + 1) s.Segments[i][j]) w = true := by
   intro w hw
   refine apart_of fun he => ?_
   have := apart_id hw he
   rcases this with ⟨h3, _⟩ | ⟨h3, h4⟩
   ·exact absurd hdd h3
   ·exact .inr ⟨h3, h4⟩
  refine ⟨?_, ?_, ?_⟩
  ·rw [(up_yes hi hj h1 h2).1, e2]
   intro v hv
   rcases mem v hv with rfl | hv | hv
   ·exact verOk_of hv0.1 ⟨hv0.2.1, by show s.Segments[i][j].Born ≤ s.Now + 1; omega⟩ (.inr ⟨by show s.Segments[i][j].Born + 1 ≤ s.Now + 1; omega, Int.le_refl _⟩)
   ·exact verOk_next (kv v (List.mem_append.2 (.inl hv)))
   ·exact verOk_next (kv v (List.mem_append.2 (.inr (List.mem_cons_of_mem _ hv))))
  ·rw [(up_yes hi hj h1 h2).1, e2, List.pairwise_append, List.pairwise_cons]
   refine ⟨ka1, ⟨fun w hw => hk w (ka2 w hw), ka3⟩, fun a ha b hb => ?_⟩
   rcases List.mem_cons.1 hb with rfl | hb
   ·exact symm_ap (hk a (symm_ap (ka4 a ha _ List.mem_cons_self)))
   ·exact ka4 a ha b (List.mem_cons_of_mem _ hb)
  ·rw [(up_yes hi hj h1 h2).1, e2]
   intro v hv hvid
   rcases mem v hv with rfl | hv | hv
   ·show s.Now + 1 ≠ -1
    have := k.n0; omega
   ·have := apart_id (ka4 v hv _ List.mem_cons_self) (by rw [hvid, hid])
    rcases this with ⟨h3, _⟩ | ⟨h3, _⟩
    ·exact h3
    ·exact absurd hdd h3
   ·have := apart_id (ka2 v hv) (by rw [hvid, hid])
    rcases this with ⟨h3, _⟩ | ⟨h3, _⟩
    ·exact absurd hdd h3
    ·exact h3
 ·have e := (up_no hf).1
  have e3 : allV ⟨upSegs s u, s.Now + 1⟩ = allV s := by unfold allV; dsimp only; rw [e]
  have hn := find_no hf
  refine ⟨?_, ?_, ?_⟩
  ·rw [e3]; intro v hv; exact verOk_next (k.vs v hv)
  ·rw [e3]; exact k.ap
  ·rw [e3]; exact hn
theorem okU_set {u : Update} (h : okUpdate u = true) (hk : u.Kind = 3) : 0 ≤ u.Field ∧ u.Field ≤ 2 ∧ 0 ≤ u.Value ∧ u.Value ≤ 99 ∧ 0 ≤ u.Row.Id ∧ u.Row.Id ≤ 999 := by
 unfold okUpdate at h
 rw [if_neg (by omega), if_neg (by omega), if_pos hk] at h
 simp only [bareRow, Bool.and_eq_true, inB, decide_eq_true_eq] at h
 omega
theorem okU_ins {u : Update} (h : okUpdate u = true) (hk : u.Kind = 1) : okRow u.Row = true := by
 unfold okUpdate at h
 rw [if_pos hk] at h
 simp only [Bool.and_eq_true] at h
 exact h.1
theorem okU_kind {u : Update} (h : okUpdate u = true) : u.Kind = 1 ∨ u.Kind = 2 ∨ u.Kind = 3 := by
 unfold okUpdate at h
 by_cases h1 : u.Kind = 1
 ·exact .inl h1
 ·by_cases h2 : u.Kind = 2
  ·exact .inr (.inl h2)
  ·by_cases h3 : u.Kind = 3
   ·exact .inr (.inr h3)
   ·rw [if_neg h1, if_neg h2, if_neg h3] at h; cases h
theorem okRow_iff {r : Row} : okRow r = true ↔ (0 ≤ r.Id ∧ r.Id ≤ 999) ∧ r.Values.length = 3 ∧ ∀ x ∈ r.Values, 0 ≤ x ∧ x ≤ 99 := by
 unfold okRow okVal
 simp only [Bool.and_eq_true, inB, decide_eq_true_eq, List.all_eq_true]
 constructor
 ·rintro ⟨h1, h2, h3⟩; exact ⟨h2, by omega, h1⟩
 ·rintro ⟨h1, h2, h3⟩; exact ⟨h3, h1, by omega⟩
theorem newV_ok {s : Store} {u : Update} (h : applyOk s u = true) (hk : ¬ u.Kind = 2) : okRow ⟨u.Row.Id, upVals2 s u⟩ = true := by
 obtain ⟨h1, h2, h3, h4, h5⟩ := applyOk_f h
 have k := okStore_iff.1 h1
 rcases okU_kind h2 with k1 | k2 | k3
 ·have hr := okU_ins h2 k1
  have hf : ¬ 0 ≤ findI s u.Row.Id := fun hc => (h4.1 hc) k1
  unfold upVals2
  rw [if_neg (by omega), (up_no hf).2]
  exact hr
 ·exact absurd k2 hk
 ·have hu := okU_set h2 k3
  have hf : 0 ≤ findI s u.Row.Id := h4.2 (by omega)
  obtain ⟨i, j, hi, hj, e1, e2, ha⟩ := find_ge hf
  have hv := (verOk_f (sto_ver h1 hi hj)).1
  rw [okRow_iff] at hv
  unfold upVals2
  rw [if_pos k3, (up_yes hi hj e1 e2).2, okRow_iff]
  refine ⟨⟨hu.2.2.2.2.1, hu.2.2.2.2.2⟩, by rw [List.length_set]; exact hv.2.1, fun x hx => ?_⟩
  rcases List.mem_or_eq_of_mem_set hx with hx | rfl
  ·exact hv.2.2 x hx
  ·exact ⟨hu.2.2.1, hu.2.2.2.1⟩
theorem apply_ok (s : Store) (u : Update) (h : okStore s = true) : okStore (applyU s u).1 = true := by
 cases ha : applyOk s u with
 | false => rw [apply_no ha]; exact h
 | true =>
  obtain ⟨h1, h2, h3, h4, h5⟩ := applyOk_f ha
  have k := okStore_iff.1 h
  have hu := up_ok (u := u) h
  have hlen := up_len s u
  have hsm : ∀ g ∈ upSegs s u, g.length ≤ 4 := by
   intro g hg
   obtain ⟨i, hi, rfl⟩ := List.mem_iff_getElem.1 hg
   have hi2 : i < s.Segments.length := by omega
   rw [up_at s u hi hi2]; exact k.sm _ (List.getElem_mem hi2)
  by_cases hk : u.Kind = 2
  ·rw [apply_del ha hk, okStore_iff]
   exact ⟨by dsimp only; rw [hlen]; exact k.l1, by dsimp only; rw [hlen]; exact k.l8, by dsimp only; have := k.n0; omega, by dsimp only; omega, hsm, hu.vs, hu.ap⟩
  ·obtain ⟨r, hr, hrm, hr4⟩ := room_ge (h5.resolve_left hk)
   have hru : r < (upSegs s u).length := by omega
   rw [apply_put ha hk hrm, okStore_iff]
   have hp := allV_put (v := upNew s u) (n := s.Now + 1) hru
   have hnv : verOk (s.Now + 1) (upNew s u) = true := verOk_of (newV_ok ha hk) ⟨by show 0 ≤ s.Now + 1; have := k.n0; omega, Int.le_refl _⟩ (.inl rfl)
   refine ⟨?_, ?_, by dsimp only; have := k.n0; omega, by dsimp only; omega, ?_, ?_, ?_⟩
   ·dsimp only; rw [putV_eq hru, List.length_set, hlen]; exact k.l1
   ·dsimp only; rw [putV_eq hru, List.length_set, hlen]; exact k.l8
   ·dsimp only
    rw [putV_eq hru]
    intro g hg
    rcases List.mem_or_eq_of_mem_set hg with hg | rfl
    ·exact hsm g hg
    ·have h6 := up_at s u hru hr
     rw [List.length_append, h6]; simp; omega
   ·intro v hv
    rcases List.mem_cons.1 (hp.mem_iff.1 hv) with rfl | hv
    ·exact hnv
    ·exact hu.vs v hv
   ·rw [hp.pairwise_iff (fun h => symm_ap h), List.pairwise_cons]
    refine ⟨fun w hw => apart_of fun he => ?_, hu.ap⟩
    have h6 := hu.no w hw he.symm
    have h7 := verOk_f (hu.vs w hw)
    rcases h7.2.2.2 with h8 | h8
    ·exact absurd h8 h6
    ·exact .inr ⟨h6, h8.2⟩
end Go.Proofs.Ytmekkgdboplbjaa
