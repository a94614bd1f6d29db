/- Definitions and their laws. No condition. -/
import Derived.Test.YtmekkgdboplbjaaCDge
import Derived.Test.YtmekkgdboplbjaaCDat
set_option linter.unusedVariables false
set_option linter.unusedSimpArgs false
namespace Go.Proofs.Ytmekkgdboplbjaa
open Go Go.RowKit M
set_option maxRecDepth 10000
def snapI (s : Store) (t : Int) (i : Nat) : List Row := visL (segN s i) t
def rowsK (n c0 : Nat) (q : Query) (snap : Nat → List Row) : Nat → List Row
 | 0 => []
 | k + 1 => rowsK n c0 q snap k ++ (snap ((c0 + k) % n)).filter (matchRow q)
structure RecK (n c0 : Nat) (q : Query) (t : Int) (snap : Nat → List Row) (k : Nat) (e : Engine) (a : Active) : Prop where
 hq : a.Query = q
 ht : a.Time = t
 hc : a.Cap = 0
 ha : a.Age = k
 hr : a.Rows = rowsK n c0 q snap k
 td : ∀ i : Nat, (i : Int) ∈ a.Todo ↔ i < n ∧ ∀ j < k, i ≠ (c0 + j) % n
 tr : ∀ x ∈ a.Todo, 0 ≤ x ∧ x < n
 sn : ∀ i : Nat, (i : Int) ∈ a.Todo → visL (segN e.Store i) t = snap i
structure Iso (n c0 : Nat) (q : Query) (t : Int) (snap : Nat → List Row) (N k : Nat) (e : Engine) : Prop where
 b : EngB N e
 hn : e.Store.Segments.length = n
 hcu : e.Cursor = ((c0 + k) % n : Nat)
 htm : t ≤ e.Store.Now
 hst : (k < n ∧ (∃ a ∈ e.Active, RecK n c0 q t snap k e a) ∧ ∀ f ∈ e.Done, f.Query.Id ≠ q.Id) ∨
  (n ≤ k ∧ (∀ a ∈ e.Active, a.Query.Id ≠ q.Id) ∧ ∃ d1 d2, e.Done = d1 ++ ⟨q, t, n, rowsK n c0 q snap n⟩ :: d2 ∧ ∀ f ∈ d2, f.Query.Id ≠ q.Id)
theorem mod_cov {n c0 i : Nat} (hi : i < n) (hc : c0 < n) : ∃ j < n, i = (c0 + j) % n := by
 by_cases h : c0 ≤ i
 ·exact ⟨i - c0, by omega, by rw [show c0 + (i - c0) = i by omega, Nat.mod_eq_of_lt hi]⟩
 ·refine ⟨i + n - c0, by omega, ?_⟩
  rw [show c0 + (i + n - c0) = i + n by omega, Nat.add_mod_right, Nat.mod_eq_of_lt hi]
theorem mod_inj {n c0 j k : Nat} (hj : j < k) (hk : k < n) : (c0 + j) % n ≠ (c0 + k) % n := by
 intro h
 have hn : 0 < n := by omega
 have h1 := Nat.mod_add_div (c0 + j) n
 have h2 := Nat.mod_add_div (c0 + k) n
 rw [h] at h1
 have h3 : n * ((c0 + k) / n) - n * ((c0 + j) / n) = k - j := by omega
 rw [← Nat.mul_sub] at h3
 rcases Nat.eq_zero_or_pos ((c0 + k) / n - (c0 + j) / n) with h4 | h4
 ·rw [h4] at h3; omega
 ·have := Nat.le_mul_of_pos_right n h4; omega
theorem cur_succ {c0 k n : Nat} {e : Engine} (hn : 0 < n) (hcu : e.Cursor = ((c0 + k) % n : Nat)) (h0 : 0 ≤ e.Cursor) : (e.Cursor + 1).tmod (n : Int) = ((c0 + (k + 1)) % n : Nat) := by
 have h1 := Nat.mod_lt (c0 + k) hn
 rw [hcu] at h0 ⊢
 have e : ((((c0 + k) % n : Nat) : Int) + 1) = (((c0 + k) % n + 1 : Nat) : Int) := by omega
 rw [e, ← Int.ofNat_tmod]
 congr 1
 rw [show c0 + (k + 1) = (c0 + k) + 1 by omega, Nat.mod_add_mod]
section
variable {n c0 : Nat} {q : Query} {t : Int} {snap : Nat → List Row} {N k : Nat} {e : Engine}
theorem segV_n {e : Engine} {m : Nat} (hcu : e.Cursor = (m : Nat)) : segV e = segN e.Store m := by unfold segV segN; rw [hcu]; rfl
theorem step_acts2 {N : Nat} {e : Engine} (h : EngB N e) (hN : N ≤ 900) : (stepEng e).Active = (e.Active.map (nxA e)).filter (fun a => !endP a) ∧ (stepEng e).Done = e.Done ++ ((e.Active.map (nxA e)).filter endP).map finA := by
 rw [step_yes (stepOk_of h hN)]
 exact step_acts h.ok
theorem step_sto {N : Nat} {e : Engine} (h : EngB N e) (hN : N ≤ 900) : (stepEng e).Store = reclaimS e.Store (timesA (stepEng e).Active) ∧ (stepEng e).Cursor = (e.Cursor + 1).tmod (e.Store.Segments.length : Int) := by
 rw [step_yes (stepOk_of h hN)]
 exact ⟨rfl, rfl⟩
theorem Iso.step (h : Iso n c0 q t snap N k e) (hc : c0 < n) (hN : N ≤ 249) : Iso n c0 q t snap (N + 1) (k + 1) (stepEng e) := by
 have hb := step_B h.b hN
 obtain ⟨ea, ed⟩ := step_acts2 h.b (by omega)
 obtain ⟨es, ec⟩ := step_sto h.b (by omega)
 have hk := okEngine_iff.1 h.b.ok
 have hrl := reclaim_len (s := e.Store) (timesA (stepEng e).Active)
 have hcu := cur_succ (by omega) h.hcu hk.c0
 refine ⟨hb, by rw [es, hrl.1]; exact h.hn, by rw [ec, h.hn]; exact hcu, by rw [es, hrl.2]; exact h.htm, ?_⟩
 rcases h.hst with ⟨hkn, ⟨a, ha, hr⟩, hd⟩ | ⟨hkn, hno, d1, d2, he, hd2⟩
 ·
  have hm := Nat.mod_lt (c0 + k) (show 0 < n by omega)
  have hcur : ((((c0 + k) % n : Nat) : Int)) ∈ a.Todo := (hr.td _).2 ⟨hm, fun j hj => (mod_inj hj hkn).symm⟩
  have hp : partP e a = true := by
   unfold partP awake
   rw [hr.hc, h.hcu, hasI_iff.2 hcur]; rfl
  have hgot : gotA e a = (snap ((c0 + k) % n)).filter (matchRow q) := by
   unfold gotA
   rw [segV_n h.hcu, hr.ht, hr.sn _ hcur, hr.hq]
  have hx := nxA_q (e := e) (a := a)
  have hxr : (nxA e a).Rows = rowsK n c0 q snap (k + 1) := by rw [nxA_rows, if_pos hp, hgot, hr.hr]; rfl
  have hxt : (nxA e a).Todo = withoutI a.Todo e.Cursor := by rw [nxA_todo, if_pos hp]
  have htd : ∀ i : Nat, (i : Int) ∈ (nxA e a).Todo ↔ i < n ∧ ∀ j < k + 1, i ≠ (c0 + j) % n := by
   intro i
   rw [hxt, wthout_mem, hr.td, h.hcu]
   constructor
   ·rintro ⟨⟨h1, h2⟩, h3⟩
    refine ⟨h1, fun j hj => ?_⟩
    by_cases hjk : j = k
    ·subst hjk; omega
    ·exact h2 j (by omega)
   ·rintro ⟨h1, h2⟩
    refine ⟨⟨h1, fun j hj => h2 j (by omega)⟩, ?_⟩
    have := h2 k (by omega); omega
  have htr : ∀ x ∈ (nxA e a).Todo, 0 ≤ x ∧ x < n := fun x hx2 => by rw [hxt] at hx2; exact hr.tr x (wthout_mem.1 hx2).1
  have hmemx : nxA e a ∈ e.Active.map (nxA e) := List.mem_map.2 ⟨a, ha, rfl⟩
  have hother : ∀ b ∈ e.Active, b ≠ a → (nxA e b).Query.Id ≠ q.Id := by
   intro b hb2 hba hid
   rw [nxA_q.1] at hid
   exact hba (acts_eq h.b.ok hb2 ha (by rw [hid, hr.hq]))
  by_cases hlast : k + 1 < n
  ·left
   refine ⟨hlast, ⟨nxA e a, ?_, ?_⟩, ?_⟩
   ·rw [ea]
    refine List.mem_filter.2 ⟨hmemx, ?_⟩
    have : (((c0 + (k + 1)) % n : Nat) : Int) ∈ (nxA e a).Todo := (htd _).2 ⟨Nat.mod_lt _ (by omega), fun j hj => (mod_inj hj hlast).symm⟩
    have := List.length_pos_of_mem this
    unfold endP
    simp; intro h0; rw [h0] at this; simp at this
   ·refine ⟨by rw [hx.1]; exact hr.hq, by rw [hx.2.1]; exact hr.ht, by rw [hx.2.2.1]; exact hr.hc, by rw [hx.2.2.2, hr.ha]; omega, hxr, htd, htr, fun i hi => ?_⟩
    have hin : (i : Int) ∈ a.Todo := by rw [hxt] at hi; exact (wthout_mem.1 hi).1
    rw [es, reclaim_vis hk.so ?_ i]
    ·exact hr.sn i hin
    ·rw [ea]
     unfold timesA
     refine List.mem_map.2 ⟨nxA e a, List.mem_filter.2 ⟨hmemx, ?_⟩, by rw [hx.2.1]; exact hr.ht⟩
     have := List.length_pos_of_mem hi
     unfold endP
     simp; intro h0; rw [h0] at this; simp at this
   ·rw [ed]
    intro f hf
    rcases List.mem_append.1 hf with hf | hf
    ·exact hd f hf
    ·obtain ⟨b, hb2, rfl⟩ := List.mem_map.1 hf
     obtain ⟨hb2, he⟩ := List.mem_filter.1 hb2
     obtain ⟨b0, hb0, rfl⟩ := List.mem_map.1 hb2
     by_cases hba : b0 = a
     ·subst hba
      have : (((c0 + (k + 1)) % n : Nat) : Int) ∈ (nxA e b0).Todo := (htd _).2 ⟨Nat.mod_lt _ (by omega), fun j hj => (mod_inj hj hlast).symm⟩
      have := List.length_pos_of_mem this
      unfold endP at he
      simp at he; rw [he] at this; simp at this
     ·exact hother b0 hb0 hba
  ·right
   have hkn1 : k + 1 = n := by omega
   have hend : endP (nxA e a) = true := by
    unfold endP
    rw [decide_eq_true_eq]
    refine List.length_eq_zero_iff.2 (List.eq_nil_iff_forall_not_mem.2 fun x hx2 => ?_)
    have hx3 := htr x hx2
    have hx4 : ((x.toNat : Nat) : Int) ∈ (nxA e a).Todo := by rw [Int.toNat_of_nonneg hx3.1]; exact hx2
    have hx5 := (htd _).1 hx4
    obtain ⟨j, hj, hij⟩ := mod_cov hx5.1 hc
    exact hx5.2 j (by omega) hij
   have hfin : finA (nxA e a) = ⟨q, t, n, rowsK n c0 q snap n⟩ := by
    unfold finA
    rw [hx.1, hx.2.1, hx.2.2.2, hxr, hr.hq, hr.ht, hr.ha, hkn1]
    congr 1; omega
   refine ⟨by omega, ?_, ?_⟩
   ·rw [ea]
    intro b hb2
    obtain ⟨hb2, he⟩ := List.mem_filter.1 hb2
    obtain ⟨b0, hb0, rfl⟩ := List.mem_map.1 hb2
    by_cases hba : b0 = a
    ·subst hba; rw [hend] at he; cases he
    ·exact hother b0 hb0 hba
   ·obtain ⟨s1, s2, hsp⟩ := List.append_of_mem ha
    have hpw := hk.pw
    rw [hsp] at hpw
    rw [List.pairwise_append, List.pairwise_cons] at hpw
    rw [ed, hsp]
    refine ⟨e.Done ++ ((s1.map (nxA e)).filter endP).map finA, ((s2.map (nxA e)).filter endP).map finA, ?_, ?_⟩
    ·simp only [List.map_append, List.map_cons, List.filter_append, List.filter_cons, hend, if_true, hfin, List.append_assoc]
    ·intro f hf
     obtain ⟨b, hb2, rfl⟩ := List.mem_map.1 hf
     obtain ⟨b0, hb0, rfl⟩ := List.mem_map.1 (List.mem_filter.1 hb2).1
     have := hpw.2.1.1 b0 hb0
     show (nxA e b0).Query.Id ≠ q.Id
     rw [nxA_q.1]
     rw [hr.hq] at this; omega
 ·right
  refine ⟨by omega, ?_, d1, d2 ++ ((e.Active.map (nxA e)).filter endP).map finA, by rw [ed, he, List.append_assoc]; rfl, ?_⟩
  ·rw [ea]
   intro b hb2
   obtain ⟨b0, hb0, rfl⟩ := List.mem_map.1 (List.mem_filter.1 hb2).1
   rw [nxA_q.1]; exact hno b0 hb0
  ·intro f hf
   rcases List.mem_append.1 hf with hf | hf
   ·exact hd2 f hf
   ·obtain ⟨b, hb2, rfl⟩ := List.mem_map.1 hf
    obtain ⟨b0, hb0, rfl⟩ := List.mem_map.1 (List.mem_filter.1 hb2).1
    show (nxA e b0).Query.Id ≠ q.Id
    rw [nxA_q.1]; exact hno b0 hb0
theorem Iso.side {e2 : Engine} (h : Iso n c0 q t snap N k e) {M : Nat} (hb : EngB M e2) (h1 : e2.Store.Segments.length = e.Store.Segments.length) (h2 : e2.Cursor = e.Cursor) (h3 : e.Store.Now ≤ e2.Store.Now) (h4 : e2.Done = e.Done)
  (h5 : ∀ a : Active, a.Query.Id = q.Id → (a ∈ e2.Active ↔ a ∈ e.Active)) (h6 : ∀ a ∈ e2.Active, a.Query.Id = q.Id → ∀ i : Nat, visL (segN e2.Store i) t = visL (segN e.Store i) t) : Iso n c0 q t snap M k e2 := by
 refine ⟨hb, h1.trans h.hn, h2.trans h.hcu, Int.le_trans h.htm h3, ?_⟩
 rw [h4]
 rcases h.hst with ⟨hkn, ⟨a, ha, hr⟩, hd⟩ | ⟨hkn, hno, d⟩
 ·have hq : a.Query.Id = q.Id := by rw [hr.hq]
  have ha2 := (h5 a hq).2 ha
  exact .inl ⟨hkn, ⟨a, ha2, { hr with sn := fun i hi => (h6 a ha2 hq i).trans (hr.sn i hi) }⟩, hd⟩
 ·exact .inr ⟨hkn, fun a ha hid => hno a ((h5 a hid).1 ha) hid, d⟩
theorem Iso.le (h : Iso n c0 q t snap N k e) {M : Nat} (hM : N ≤ M) : Iso n c0 q t snap M k e := { h with b := h.b.le hM }
theorem Iso.admit (h : Iso n c0 q t snap N k e) (hN : N ≤ 900) {q2 : Query} {l : Int} (hid : q2.Id ≠ q.Id) : Iso n c0 q t snap (N + 1) k (admitE e q2 l).1 := by
 have hb := admit_B h.b hN q2 l
 cases ha : admitOk e q2 l with
 | false => rw [admit_no ha]; exact h.le (by omega)
 | true =>
  rw [admit_yes ha] at hb ⊢
  have hp := admAct_perm (q := q2) (l := l) (admitOk_f ha).1
  refine h.side hb rfl rfl (Int.le_refl _) rfl (fun a hq => ?_) fun _ _ _ _ => rfl
  show a ∈ admAct e q2 l ↔ _
  rw [hp.mem_iff, List.mem_cons]
  constructor
  ·rintro (rfl | ha2)
   ·exact absurd hq hid
   ·exact ha2
  ·exact .inr
theorem del_mem {e : Engine} (hok : okEngine e = true) {id : Int} (h0 : 0 ≤ findA e.Active id) {a : Active} (hne : a.Query.Id ≠ id) : a ∈ delZ e.Active (findA e.Active id).toNat ↔ a ∈ e.Active := by
 obtain ⟨i, hi, hf⟩ := findA_ge h0
 have hid : e.Active[i].Query.Id = id := by
  unfold findA at hf h0
  split at hf
  ·rename_i hany
   have hfi : e.Active.findIdx (idP id) = i := by omega
   obtain ⟨b, hb1, hb2⟩ := List.any_eq_true.1 hany
   have := List.findIdx_getElem (w := List.findIdx_lt_length_of_exists (p := idP id) ⟨b, hb1, hb2⟩)
   simp only [hfi] at this
   unfold idP at this
   simpa using this
  ·omega
 rw [hf, Int.toNat_natCast]
 have hp := delZ_perm hi
 rw [← hp.mem_iff, List.mem_append, List.mem_singleton]
 constructor
 ·exact .inl
 ·rintro (h | h)
  ·exact h
  ·rw [h] at hne; exact absurd hid hne
theorem Iso.reclaim (h : Iso n c0 q t snap N k e) : Iso n c0 q t snap N k (reclaimE e) := by
 have hk := okEngine_iff.1 h.b.ok
 have hr := reclaim_len (s := e.Store) (timesA e.Active)
 rcases h.hst with ⟨hkn, ⟨a, ha, hr2⟩, hd⟩ | ⟨hkn, hno, d⟩
 ·have hq : a.Query.Id = q.Id := by rw [hr2.hq]
  refine h.side h.b.reclaim hr.1 rfl (by show _ ≤ (reclaimS _ _).Now; rw [hr.2]; exact Int.le_refl _) rfl (fun _ _ => Iff.rfl) fun b hb hbq i => ?_
  have hba : b = a := acts_eq h.b.ok hb ha (by rw [hbq, hq])
  exact reclaim_vis hk.so (List.mem_map.2 ⟨a, ha, hr2.ht⟩) i
 ·exact ⟨h.b.reclaim, by show (reclaimS _ _).Segments.length = n; rw [hr.1]; exact h.hn, h.hcu, by show t ≤ (reclaimS _ _).Now; rw [hr.2]; exact h.htm, .inr ⟨hkn, hno, d⟩⟩
theorem Iso.cancel (h : Iso n c0 q t snap N k e) {id : Int} (hid : id ≠ q.Id) : Iso n c0 q t snap N k (cancelE e id).1 := by
 cases hc : cancelOk e id with
 | false => rw [cancel_no hc]; exact h
 | true =>
  have hb := cancel_B h.b id
  have h2 := hc
  unfold cancelOk at h2
  simp only [Bool.and_eq_true, decide_eq_true_eq] at h2
  rw [cancel_yes hc] at hb ⊢
  have hde : EngB N (delE e (findA e.Active id).toNat) := by
   have hk := okEngine_iff.1 h.b.ok
   have hs : (delZ e.Active (findA e.Active id).toNat).Sublist e.Active := by
    unfold delZ
    conv => rhs; rw [← List.take_append_drop (findA e.Active id).toNat e.Active]
    exact List.Sublist.append (List.Sublist.refl _) (by rw [List.drop_add_one_eq_tail_drop]; exact List.tail_sublist _)
   have hl := hs.length_le
   have hdn := h.b.dn; have a8 := hk.a8
   refine ⟨?_, h.b.st, h.b.ld, by show e.Done.length + (delZ e.Active _).length ≤ N; omega, fun a ha => h.b.ag a (hs.subset ha)⟩
   rw [okEngine_iff]
   exact ⟨hk.so, hk.c0, hk.c1, hk.od, hk.s0, hk.s1, by show (delZ e.Active _).length ≤ 8; omega, hk.d1, hk.l1, fun a ha => hk.as a (hs.subset ha), hk.pw.sublist hs, hk.fs, hk.cs⟩
  refine Iso.reclaim (h.side hde rfl rfl (Int.le_refl _) rfl (fun a hq => ?_) fun _ _ _ _ => rfl)
  exact del_mem h2.1 h2.2 (by rw [hq]; exact hid.symm)
theorem Iso.run (h : Iso n c0 q t snap N k e) (hc : c0 < n) : ∀ m, N + m ≤ 250 → Iso n c0 q t snap (N + m) (k + m) (runE e m)
 | 0, _ => h
 | m + 1, hm => (h.run hc m (by omega)).step hc (by omega)
end
structure FinS where
 e : Engine
def finStop (e : Engine) : Bool := !(okEngine e && decide (0 < e.Active.length))
def finTo (e : Engine) : Nat → Engine
 | 0 => e
 | k + 1 => if finStop (finTo e k) then finTo e k else stepEng (finTo e k)
def finEng (e : Engine) : Engine := finTo e 200
theorem finTo_stop {e : Engine} {k : Nat} (h : finStop (finTo e k) = true) : ∀ m, finTo e (k + m) = finTo e k
 | 0 => rfl
 | m + 1 => by
  show (if finStop (finTo e (k + m)) then finTo e (k + m) else _) = _
  rw [finTo_stop h m, if_pos h]
theorem fin_end {e : Engine} {k : Nat} (hk : k ≤ 200) (h : k = 200 ∨ finStop (finTo e k) = true) : finTo e k = finEng e := by
 rcases h with rfl | h
 ·rfl
 ·have := finTo_stop h (200 - k)
  rw [Nat.add_sub_cancel' hk] at this
  exact this.symm
def lastD (e : Engine) (id : Int) (k : Nat) : Option Finished := (e.Done.drop k).reverse.find? fun d => d.Query.Id == id
def fin0_ : Finished := ⟨⟨0, 0, [], []⟩, 0, 0, []⟩
def resultOf (e : Engine) (id : Int) : Finished × Bool := if okEngine e then (match e.Done.reverse.find? (fun d => d.Query.Id == id) with | some d => (d, true) | none => (fin0_, false)) else (fin0_, false)
theorem find_rev {d1 d2 : List Finished} {f : Finished} {id : Int} (hf : f.Query.Id = id) (h : ∀ g ∈ d2, g.Query.Id ≠ id) : (d1 ++ f :: d2).reverse.find? (fun d => d.Query.Id == id) = some f := by
 rw [List.reverse_append, List.find?_append, List.reverse_cons, List.find?_append]
 have h1 : d2.reverse.find? (fun d => d.Query.Id == id) = none := by
  rw [List.find?_eq_none]
  intro g hg
  have := h g (List.mem_reverse.1 hg)
  simpa using this
 rw [h1]
 simp [hf]
section
variable {n c0 : Nat} {q : Query} {t : Int} {snap : Nat → List Row} {N k : Nat} {e : Engine}
theorem Iso.res (h : Iso n c0 q t snap N k e) (hk : n ≤ k) : resultOf e q.Id = (⟨q, t, n, rowsK n c0 q snap n⟩, true) := by
 rcases h.hst with ⟨hkn, _⟩ | ⟨_, _, d1, d2, hd, h2⟩
 ·omega
 ·unfold resultOf
  rw [if_pos h.b.ok, hd, find_rev (f := ⟨q, t, n, rowsK n c0 q snap n⟩) (id := q.Id) rfl h2]
theorem Iso.fin (h : Iso n c0 q t snap N k e) (hc : c0 < n) (hN : N ≤ 50) : ∀ m, m ≤ 200 → ∃ k', Iso n c0 q t snap (N + m) k' (finTo e m) ∧ (k' = k + m ∨ n ≤ k')
 | 0, _ => ⟨k, h, .inl rfl⟩
 | m + 1, hm => by
  obtain ⟨k', h1, h2⟩ := h.fin hc hN m (by omega)
  show ∃ k', Iso n c0 q t snap (N + (m + 1)) k' (if finStop (finTo e m) then finTo e m else stepEng (finTo e m)) ∧ _
  cases hs : finStop (finTo e m) with
  | false =>
   rw [if_neg (by simp)]
   exact ⟨k' + 1, h1.step hc (by omega), by omega⟩
  | true =>
   rw [if_pos rfl]
   refine ⟨k', h1.le (by omega), ?_⟩
   unfold finStop at hs
   rw [h1.b.ok] at hs
   simp only [Bool.true_and, Bool.not_eq_true', decide_eq_false_iff_not] at hs
   rcases h1.hst with ⟨_, ⟨a, ha, _⟩, _⟩ | ⟨hk, _⟩
   ·have := List.length_pos_of_mem ha; omega
   ·exact .inr hk
theorem Iso.done (h : Iso n c0 q t snap N k e) (hc : c0 < n) (hN : N ≤ 50) (hn : n ≤ 8) : resultOf (finEng e) q.Id = (⟨q, t, n, rowsK n c0 q snap n⟩, true) := by
 obtain ⟨k', h1, h2⟩ := h.fin hc hN 200 (Nat.le_refl _)
 exact h1.res (by omega)
end
def isoQ (code : List Int) : Query := if (atB code 0).tmod 2 = 0 then ⟨23, 0, [⟨(atB code 1).tmod 3, 0, (atB code 2).tmod 6⟩], [0]⟩ else ⟨23, 0, [], [0]⟩
def isoA (a : Engine) (x : Event) : Engine := if x.Kind = 4 then runE a x.Steps.toNat else a
def isoB (b : Engine) (x : Event) : Engine := if x.Kind = 4 then runE b x.Steps.toNat else if x.Kind = 3 then b else (evE b x).1
def isoTo (f : Engine → Event → Engine) (e : Engine) (l : List Event) (k : Nat) : Engine := (l.take k).foldl f e
theorem isoTo_succ {f : Engine → Event → Engine} {e : Engine} {l : List Event} {k : Nat} (hk : k < l.length) : isoTo f e l (k + 1) = f (isoTo f e l k) l[k] := by
 unfold isoTo; rw [List.take_succ_eq_append_getElem hk, List.foldl_append]; rfl
section
variable {n : Nat} {q : Query} {t : Int} {snap : Nat → List Row} {N k : Nat} {a b : Engine} {s : Store} {x : Event}
theorem iso_next (hx : EvtP s x) (hq : q.Id = 23) (hn : 0 < n) (ha : Iso n 0 q t snap N k a) (hb : Iso n 0 q t snap N k b) (hN : N ≤ 200) : ∃ k', Iso n 0 q t snap (N + 3) k' (isoA a x) ∧ Iso n 0 q t snap (N + 3) k' (isoB b x) := by
 cases hx with
 | adm q2 l h1 h2 h3 =>
  refine ⟨k, ha.le (by omega), ?_⟩
  show Iso n 0 q t snap (N + 3) k (evE b _).1
  cases hok : okEngine b && okEvent ⟨1, q2, l, 0, u0_, 0⟩ with
  | false => rw [ev_no hok]; exact hb.le (by omega)
  | true => rw [ev_1 hok rfl]; exact (hb.admit (by omega) (by show q2.Id ≠ _; omega)).le (by omega)
 | can i h =>
  refine ⟨k, ha.le (by omega), ?_⟩
  show Iso n 0 q t snap (N + 3) k (evE b _).1
  cases hok : okEngine b && okEvent ⟨2, qz_, 0, i, u0_, 0⟩ with
  | false => rw [ev_no hok]; exact hb.le (by omega)
  | true => rw [ev_2 hok rfl]; exact (hb.cancel (by show i ≠ _; omega)).le (by omega)
 | stp m h =>
  refine ⟨k + m.toNat, (ha.run hn m.toNat (by omega)).le (by omega), (hb.run hn m.toNat (by omega)).le (by omega)⟩
 | upd u => exact ⟨k, ha.le (by omega), hb.le (by omega)⟩
end
theorem iso_all {n : Nat} {q : Query} {t : Int} {snap : Nat → List Row} {e : Engine} {l : List Event} {s : Store} (hl : ∀ x ∈ l, EvtP s x) (hq : q.Id = 23) (hn : 0 < n) (h : Iso n 0 q t snap 1 0 e) : ∀ k, k ≤ l.length → k ≤ 13 → ∃ k', Iso n 0 q t snap (1 + 3 * k) k' (isoTo isoA e l k) ∧ Iso n 0 q t snap (1 + 3 * k) k' (isoTo isoB e l k)
 | 0, _, _ => ⟨0, h, h⟩
 | k + 1, hk, h13 => by
  obtain ⟨k', h1, h2⟩ := iso_all hl hq hn h k (by omega) (by omega)
  rw [isoTo_succ (by omega), isoTo_succ (by omega)]
  have hN : 1 + 3 * k ≤ 200 := by omega
  exact iso_next (hl _ (List.getElem_mem (by omega))) hq hn h1 h2 hN
theorem isoQ_ok (code : List Int) (h : ∀ i, 0 ≤ i → 0 ≤ atB code i) : okQuery (isoQ code) = true ∧ (isoQ code).Id = 23 := by
 unfold isoQ
 have h1 := Int.tmod_nonneg 3 (h 1 (by decide))
 have h2 := Int.tmod_lt_of_pos (atB code 1) (show (0 : Int) < 3 by decide)
 have h3 := Int.tmod_nonneg 6 (h 2 (by decide))
 have h4 := Int.tmod_lt_of_pos (atB code 2) (show (0 : Int) < 6 by decide)
 split
 ·refine ⟨?_, rfl⟩
  unfold okQuery okConds
  have e1 : adjAll ⟨0, 0, 0⟩ okCond ltField [⟨(atB code 1).tmod 3, 0, (atB code 2).tmod 6⟩] = true := adjAll_of (fun x hx => by
   rw [List.mem_singleton.1 hx]
   unfold okCond inB
   simp only [Bool.and_eq_true, decide_eq_true_eq]
   omega) (List.pairwise_singleton _ _)
  dsimp only
  rw [e1]; rfl
 ·exact ⟨rfl, rfl⟩
theorem iso_new0 {e : Engine} {q : Query} (hq : okQuery q = true) (hB : EngB 0 e) (hA : e.Active = []) (hD : e.Done = []) (hC : e.Cursor = 0) : admitOk e q 0 = true ∧ Iso e.Store.Segments.length 0 q e.Store.Now (snapI e.Store e.Store.Now) 1 0 (admitE e q 0).1 := by
 have hk := okEngine_iff.1 hB.ok
 have hn := (okStore_iff.1 hk.so).l1
 have ha : admitOk e q 0 = true := by
  unfold admitOk
  rw [hB.ok, hq, hA]; rfl
 refine ⟨ha, ?_⟩
 have hb := admit_B hB (by decide) q 0
 rw [admit_yes ha] at hb ⊢
 have e1 : admAct e q 0 = [newAct e q 0] := by unfold admAct; rw [hA]; rfl
 refine ⟨hb, rfl, by show e.Cursor = _; rw [hC]; simp, Int.le_refl _, .inl ⟨by omega, ⟨newAct e q 0, by show _ ∈ admAct _ _ _; rw [e1]; simp, ?_⟩, by show ∀ f ∈ e.Done, _; rw [hD]; simp⟩⟩
 refine ⟨rfl, rfl, rfl, rfl, rfl, fun i => ?_, todoTo_get, fun i _ => rfl⟩
 show (i : Int) ∈ todoTo _ ↔ _
 constructor
 ·intro h
  have := todoTo_get _ h
  exact ⟨by omega, fun j hj => by omega⟩
 ·rintro ⟨h, _⟩
  exact List.mem_map.2 ⟨i, List.mem_range.2 h, rfl⟩
theorem iso_new {c : Cur} {q : Query} (hq : okQuery q = true) : admitOk (hisE c) q 0 = true ∧ Iso (hisE c).Store.Segments.length 0 q (hisE c).Store.Now (snapI (hisE c).Store (hisE c).Store.Now) 1 0 (admitE (hisE c) q 0).1 := iso_new0 hq (hisE_B c) (hisE_0 c).1 (hisE_0 c).2.1 (hisE_0 c).2.2
theorem iso_law {c : Cur} {code : List Int} (h : ∀ i, 0 ≤ i → 0 ≤ atB code i) {k : Nat} (hk : k = (hisL c).length) :
  resultOf (finEng (isoTo isoA (admitE (hisE c) (isoQ code) 0).1 (hisL c) k)) 23 = resultOf (finEng (isoTo isoB (admitE (hisE c) (isoQ code) 0).1 (hisL c) k)) 23 ∧ (resultOf (finEng (isoTo isoA (admitE (hisE c) (isoQ code) 0).1 (hisL c) k)) 23).2 = true := by
 obtain ⟨hq, hid⟩ := isoQ_ok code h
 obtain ⟨ha, h0⟩ := iso_new (c := c) hq
 have hok := okStore_iff.1 (okEngine_iff.1 (hisE_B c).ok).so
 have l1 := hok.l1; have l8 := hok.l8
 have hl := hisL_len c
 obtain ⟨k', h1, h2⟩ := iso_all (hisL_p c) hid (by omega) h0 k (by omega) (by omega)
 have e1 := h1.done (by omega) (by omega) l8
 have e2 := h2.done (by omega) (by omega) l8
 rw [hid] at e1 e2
 rw [e1, e2]
 exact ⟨rfl, rfl⟩
theorem finTo_wt (e : Engine) : ∀ k, wtEngine (finTo e k) ≤ wtEngine e + 200 * k
 | 0 => Nat.le_refl _
 | k + 1 => by
  have h1 := finTo_wt e k
  have h2 := stepEng_wt (finTo e k)
  show wtEngine (if finStop (finTo e k) then finTo e k else stepEng (finTo e k)) ≤ _
  split <;> omega
theorem finEng_wt (e : Engine) : wtEngine (finEng e) ≤ wtEngine e + 40000 := finTo_wt e 200
theorem fin_next {e : Engine} {k : Nat} (h : finStop (finTo e k) = false) : finTo e (k + 1) = stepEng (finTo e k) := by
 show (if finStop (finTo e k) then finTo e k else stepEng (finTo e k)) = _
 rw [if_neg (by rw [h]; simp)]
theorem isoA_wt (a : Engine) {x : Event} {s : Store} (h : EvtP s x) : wtEngine (isoA a x) ≤ wtEngine a + 40000 := by
 unfold isoA
 split
 ·have h1 := runE_wt a x.Steps.toNat
  have h2 : x.Steps.toNat ≤ 3 := by cases h <;> dsimp only <;> omega
  omega
 ·omega
theorem isoB_wt (a : Engine) {x : Event} {s : Store} (h : EvtP s x) : wtEngine (isoB a x) ≤ wtEngine a + 40000 := by
 unfold isoB
 split
 ·have h1 := runE_wt a x.Steps.toNat
  have h2 : x.Steps.toNat ≤ 3 := by cases h <;> dsimp only <;> omega
  omega
 ·split
  ·omega
  ·exact evE_wt a x
theorem isoTo_wtc {c : Nat} {f : Engine → Event → Engine} {s : Store} (hf : ∀ a x, EvtP s x → wtEngine (f a x) ≤ wtEngine a + c) (e : Engine) {l : List Event} (hl : ∀ x ∈ l, EvtP s x) : ∀ k, k ≤ l.length → wtEngine (isoTo f e l k) ≤ wtEngine e + c * k
 | 0, _ => by rw [Nat.mul_zero]; exact Nat.le_refl _
 | k + 1, hk => by
  have h1 := isoTo_wtc hf e hl k (by omega)
  have h2 := hf (isoTo f e l k) (l[k]'(by omega)) (hl _ (List.getElem_mem (by omega)))
  rw [isoTo_succ (by omega), Nat.mul_succ]
  omega
theorem isoTo_wt {f : Engine → Event → Engine} {s : Store} (hf : ∀ a x, EvtP s x → wtEngine (f a x) ≤ wtEngine a + 40000) (e : Engine) {l : List Event} (hl : ∀ x ∈ l, EvtP s x) (h13 : l.length ≤ 13) (k : Nat) (hk : k ≤ l.length) : wtEngine (isoTo f e l k) ≤ wtEngine e + 520000 := by
 have h1 := isoTo_wtc hf e hl k hk
 have h2 : 40000 * k ≤ 40000 * 13 := Nat.mul_le_mul_left _ (by omega)
 have h3 : 40000 * 13 = 520000 := by decide
 rw [h3] at h2
 exact Nat.le_trans h1 (Nat.add_le_add_left h2 _)
theorem res_all {e : Engine} {id : Int} {k : Nat} (hk : k < e.Done.length) (hok : okEngine e = true) (hn : ∀ f ∈ e.Done.drop (e.Done.length - k), f.Query.Id ≠ id) (hy : e.Done[e.Done.length - 1 - k].Query.Id = id) : resultOf e id = (e.Done[e.Done.length - 1 - k], true) := by
 have hd : e.Done = e.Done.take (e.Done.length - 1 - k) ++ e.Done[e.Done.length - 1 - k] :: e.Done.drop (e.Done.length - k) := by
  have h1 : e.Done.length - k = e.Done.length - 1 - k + 1 := by omega
  rw [h1, ← List.drop_eq_getElem_cons (by omega), List.take_append_drop]
 unfold resultOf
 rw [if_pos hok]
 have := find_rev (d1 := e.Done.take (e.Done.length - 1 - k)) hy hn
 rw [← hd] at this
 rw [this]
theorem res_none {e : Engine} {id : Int} (hok : okEngine e = true) (hn : ∀ f ∈ e.Done, f.Query.Id ≠ id) : resultOf e id = (fin0_, false) := by
 have : e.Done.reverse.find? (fun d => d.Query.Id == id) = none := by
  rw [List.find?_eq_none]
  intro g hg
  have := hn g (List.mem_reverse.1 hg)
  simpa using this
 unfold resultOf
 rw [if_pos hok, this]
theorem res_bad {e : Engine} {id : Int} (hok : okEngine e = false) : resultOf e id = (fin0_, false) := if_neg (by rw [hok]; simp)
theorem drop_next {e : Engine} {id : Int} {k : Nat} (hk : k < e.Done.length) (hn : ∀ f ∈ e.Done.drop (e.Done.length - k), f.Query.Id ≠ id) (hy : ¬ e.Done[e.Done.length - 1 - k].Query.Id = id) : ∀ f ∈ e.Done.drop (e.Done.length - (k + 1)), f.Query.Id ≠ id := by
 have h1 : e.Done.length - k = e.Done.length - (k + 1) + 1 := by omega
 have h2 : e.Done.length - 1 - k = e.Done.length - (k + 1) := by omega
 rw [List.drop_eq_getElem_cons (by omega), ← h1]
 intro f hf
 rcases List.mem_cons.1 hf with rfl | hf
 ·simp only [h2] at hy; exact hy
 ·exact hn f hf
end Go.Proofs.Ytmekkgdboplbjaa
