/- Definitions and their laws. No condition. -/
import Derived.Test.YtmekkgdboplbjaaGreatCI0
set_option linter.all false
namespace Go.Proofs.YtmekkgdboplbjaaGreat
open Go Go.RowKit M
set_option maxRecDepth 10000
structure abo (e : aA) : Prop where
 so : bQ e.Store = true
 c0 : 0 ≤ e.aeD
 c1 : e.aeD < e.Store.aey.length
 od : gw e.Order = true
 s0 : 0 ≤ e.Steps
 s1 : e.Steps ≤ 100000
 a8 : e.aez.length ≤ 8
 d1 : e.Done.length ≤ 1000
 l1 : e.aeL.length ≤ 1000
 aa : ∀ a ∈ e.aez, fc e.Store a = true
 pw : e.aez.Pairwise fun a b => a.aeA.Id < b.aeA.Id
 fs : ∀ f ∈ e.Done, gj e.Store.Now f = true
 cs : ∀ c ∈ e.aeL, bZ c = true
def fO {e : aA} : aX e = true ↔ abo e := by
 constructor
 ·intro h
  obtain ⟨h1, h2, h3, h4, h5, h6, h7, h8, h9, h10, h11, h12⟩ := gW h
  exact ⟨h1, h3, by omega, h2, h8, h9, h5, h6, h7, h10, oW h, h11, h12⟩
 ·intro h
  have c0 := h.c0; have c1 := h.c1; have s0 := h.s0; have s1 := h.s1; have a8 := h.a8; have d1 := h.d1; have l1 := h.l1
  refine QK ?_ (wJ h.aa (h.pw.imp fun {a b} k => by unfold ly; simpa using k)) (List.all_eq_true.2 h.fs) (List.all_eq_true.2 h.cs)
  unfold iY
  rw [h.so, h.od]
  simp only [aK, Bool.true_and, aS, decide_eq_true_eq]
  omega
structure abp (n : Nat) (now : Int) (a : aez) : Prop where
 t0 : 0 < a.aeI.length
 tp : a.aeI.Pairwise fun x y => x < y
 tr : ∀ x ∈ a.aeI, 0 ≤ x ∧ x < n
 q : ck a.aeA = true
 tm0 : 0 ≤ a.Time
 tm1 : a.Time ≤ now
 ag0 : 0 ≤ a.Age
 ag1 : a.Age ≤ 100000
 sn0 : 0 ≤ a.Sent
 sn1 : a.Sent ≤ 1000
 cp0 : 0 ≤ a.Cap
 cp1 : a.Cap ≤ 32
 rk : ∀ r ∈ a.Rows, cf r = true
 rl : a.Rows.length ≤ 1000
def abq {l : List Int} {n : Int} (h : dG 0 (kP n) kQ l = true) : l.Pairwise fun x y => x < y := by
 rw [List.pairwise_iff_getElem]
 have step : ∀ i (hi : i + 1 < l.length), l[i] < l[i + 1] := by
  intro i hi
  have := List.all_eq_true.1 h (i + 1) (List.mem_range.2 hi)
  rw [iz, show i + 1 - 1 = i from rfl, eO hi, eO (show i < l.length by omega)] at this
  rcases this.2 with h0 | h0
  ·omega
  ·unfold kQ at h0; simpa using h0
 intro i j hi hj hij
 induction j with
 | zero => omega
 | succ j ih =>
  by_cases he : i = j
  ·subst he; exact step i hj
  ·have h1 := ih (by omega) (by omega)
   have h2 := step j hj
   omega
def je {s : Store} {a : aez} : fc s a = true ↔ abp s.aey.length s.Now a := by
 constructor
 ·intro h
  unfold fc kR mG at h
  simp only [aS, aK, decide_eq_true_eq] at h
  obtain ⟨⟨h1, h2⟩, h3, h4, h5, h6, h7, h8, h9⟩ := h
  refine ⟨h2, abq h1, fun x hx => ?_, h3, h4.1, h4.2, h5.1, h5.2, h6.1, h6.2, h7.1, h7.2, List.all_eq_true.1 h8, by omega⟩
  obtain ⟨k, hk, rfl⟩ := List.mem_iff_getElem.1 hx
  have := wt h1 hk
  unfold kP aK at this
  simp only [aS, decide_eq_true_eq] at this
  omega
 ·intro h
  have t0 := h.t0; have tm0 := h.tm0; have tm1 := h.tm1; have ag0 := h.ag0; have ag1 := h.ag1; have sn0 := h.sn0; have sn1 := h.sn1; have cp0 := h.cp0; have cp1 := h.cp1; have rl := h.rl
  unfold fc kR mG
  have e1 : dG 0 (kP s.aey.length) kQ a.aeI = true := wJ (fun x hx => by have := h.tr x hx; unfold kP aK; simp only [aS, decide_eq_true_eq]; omega) (h.tp.imp fun {a b} k => by unfold kQ; simpa using k)
  rw [e1, h.q, List.all_eq_true.2 h.rk]
  simp only [aK, Bool.true_and, aS, decide_eq_true_eq]
  omega
def Gt {now : Int} {f : fi} : gj now f = true ↔ ck f.aeA = true ∧ (0 ≤ f.Time ∧ f.Time ≤ now) ∧ (0 ≤ f.Steps ∧ f.Steps ≤ 100000) ∧ (∀ r ∈ f.Rows, cf r = true) ∧ f.Rows.length ≤ 1000 := by
 unfold gj mG
 simp only [aS, aK, decide_eq_true_eq, iI]
 constructor
 ·rintro ⟨h1, h2, h3, h4, h5⟩; exact ⟨h1, h2, h3, h4, by omega⟩
 ·rintro ⟨h1, h2, h3, h4, h5⟩; exact ⟨h1, h2, h3, h4, by omega⟩
def SH {q : aeA} (h : ck q = true) : (0 ≤ q.Id ∧ q.Id ≤ 23) ∧ 0 ≤ q.aeE ∧ q.aeE ≤ 3 := by
 unfold ck at h
 simp only [aS, aK, decide_eq_true_eq] at h
 omega
def abr {e : aA} (h : aX e = true) {a b : aez} (ha : a ∈ e.aez) (hb : b ∈ e.aez) (hid : a.aeA.Id = b.aeA.Id) : a = b := by
 obtain ⟨i, hi, rfl⟩ := List.mem_iff_getElem.1 ha
 obtain ⟨j, hj, rfl⟩ := List.mem_iff_getElem.1 hb
 have := wI h hi hj hid
 subst this; rfl
def um {l : List Int} {x : Int} : bB l x = true ↔ x ∈ l := by unfold bB; simp
def abt {e : aA} (h : aX e = true) {a : aez} (ha : a ∈ e.aez) : bB (parts e) a.aeA.Id = ew e a := by
 rw [Bool.eq_iff_iff, um, pU h]
 unfold gM
 rw [ut]
 constructor
 ·rintro ⟨b, hb, hid⟩
  obtain ⟨hb, hp⟩ := List.mem_filter.1 hb
  rw [← abr h hb ha hid]; exact hp
 ·intro hp; exact ⟨a, List.mem_filter.2 ⟨ha, hp⟩, rfl⟩
def cY (e : aA) (a : aez) : aez := kl (e.Store.aey.length : Int) (if ew e a then lB e a else a)
def SI {e : aA} (h : aX e = true) : (gN e).aez = (e.aez.map (cY e)).filter (fun a => !dz a) ∧ (gN e).Done = e.Done ++ ((e.aez.map (cY e)).filter dz).map nC := by
 have hl := ud (e := e) (k := (parts e).length)
 have ht : (cR e (parts e).length).take e.aez.length = cR e (parts e).length := nP (by omega)
 have hs : cR e (parts e).length = e.aez.map (cY e) := by
  unfold cR bW
  rw [List.map_map, cj]
  refine List.map_congr_left fun a ha => ?_
  show kl _ (kk e (parts e) a) = cY e a
  unfold kk cY
  rw [abt h ha]
 unfold gN Fq ko gm
 dsimp only
 rw [ht, hs]
 exact ⟨rfl, rfl⟩
def abu {e : aA} (h : aX e = true) (a : aez) : ∀ r ∈ iC e a, cf r = true := by
 intro r hr
 unfold iC at hr
 exact Sc h a.Time r (List.mem_filter.1 hr).1
def oZ {e : aA} {a : aez} : (cY e a).aeA = a.aeA ∧ (cY e a).Time = a.Time ∧ (cY e a).Cap = a.Cap ∧ (cY e a).Age = a.Age + 1 := by
 unfold cY kl lB
 split <;> exact ⟨rfl, rfl, rfl, rfl⟩
def SJ {e : aA} {a : aez} : (cY e a).Rows = if ew e a then a.Rows ++ iC e a else a.Rows := by
 unfold cY kl lB
 split <;> rfl
def rO {e : aA} {a : aez} : (cY e a).aeI = if ew e a then fM a.aeI e.aeD else a.aeI := by
 unfold cY kl lB
 split <;> rfl
def Gu {e : aA} {a : aez} : (cY e a).Sent = if (a.Age + 1).tmod (e.Store.aey.length : Int) = 0 then 0 else if ew e a then a.Sent + ((iC e a).length : Int) else a.Sent := by
 unfold cY kl lB
 split <;> rfl
structure nK (N : Nat) (e : aA) : Prop where
 ok : aX e = true
 ld : e.aeL.length ≤ N
 dn : e.Done.length + e.aez.length ≤ N
 ag : ∀ a ∈ e.aez, a.Age ≤ N ∧ a.Sent ≤ 4 * N ∧ a.Rows.length ≤ 4 * N
structure gn (N : Nat) (e : aA) : Prop where
 ok : aX e = true
 st : e.Steps ≤ N
 ld : e.aeL.length ≤ N
 dn : e.Done.length + e.aez.length ≤ N
 ag : ∀ a ∈ e.aez, a.Age ≤ N ∧ a.Sent ≤ 4 * N ∧ a.Rows.length ≤ 4 * N
def gn.w {N : Nat} {e : aA} (h : gn N e) : nK N e := ⟨h.ok, h.ld, h.dn, h.ag⟩
def gn.le {N M : Nat} {e : aA} (h : gn N e) (hM : N ≤ M) : gn M e :=
 ⟨h.ok, by have := h.st; omega, by have := h.ld; omega, by have := h.dn; omega, fun a ha => by have := h.ag a ha; omega⟩
def nK.le {N M : Nat} {e : aA} (h : nK N e) (hM : N ≤ M) : nK M e :=
 ⟨h.ok, by have := h.ld; omega, by have := h.dn; omega, fun a ha => by have := h.ag a ha; omega⟩
def SK {N : Nat} {e : aA} (h : gn N e) (hN : N ≤ 900) : im e = true := by
 have h1 := h.st; have h2 := h.ld; have h3 := h.dn
 unfold im
 rw [h.ok]
 simp only [Bool.true_and, aS, decide_eq_true_eq]
 omega
def abv {e : aA} (h : aX e = true) (hp : 0 < (parts e).length) : bZ (ej e (parts e).length) = true := by
 have hk := fO.1 h
 have hl := Ao (e := e) (Nat.le_refl (parts e).length)
 have hpl := wD (e := e)
 have ha8 := hk.a8
 have hs8 := (kr.1 hk.so).l8
 have hc0 := hk.c0; have hc1 := hk.c1
 have hs4 := Ap h
 have hset : dM (parts e) = true := by
  have : dG 0 (fun x => aK x 0 23) (fun a b => decide (a < b)) (parts e) = true := wJ (fun x hx => by
   rw [pU h] at hx
   obtain ⟨a, ha, rfl⟩ := List.mem_map.1 hx
   have := SH (je.1 (hk.aa a (List.mem_filter.1 ha).1)).q
   unfold aK; simp only [aS, decide_eq_true_eq]; omega) ((Fr h).imp fun {a b} k => by simpa using k)
  exact this
 unfold bZ lx
 have e1 : (ej e (parts e).length).Ids = parts e := by unfold ej; rw [cj]
 have e2 : (ej e (parts e).length).Segment = e.aeD := rfl
 have e3 : (ej e (parts e).length).Base = ((cc e).length : Int) := rfl
 have e4 : oM (ej e (parts e).length) (ej e (parts e).length).Ids.length = true := by
  unfold oM
  refine List.all_eq_true.2 fun k hk2 => ?_
  have hk2 := List.mem_range.1 hk2
  rw [e1] at hk2
  unfold kg
  rw [e3]
  have t1 : (ej e (parts e).length).aeF.getD k 0 = ua e (parts e)[k] := by
   unfold ej; dsimp only; rw [cj, List.getD_eq_getElem?_getD, List.getElem?_map, List.getElem?_eq_getElem hk2]; rfl
  have t2 : (ej e (parts e).length).Rows.getD k 0 = ub e (parts e)[k] := by
   unfold ej; dsimp only; rw [cj, List.getD_eq_getElem?_getD, List.getElem?_map, List.getElem?_eq_getElem hk2]; rfl
  obtain ⟨i, hi, hf, hid, hpp⟩ := Ft h hk2
  have ha := Fv hi hf
  rw [t1, t2]
  unfold ua ub
  rw [ha]
  have h5 := SH (je.1 (hk.aa _ (List.getElem_mem hi))).q
  have h6 : (iC e e.aez[i]).length ≤ (cc e).length := Nat.le_trans (gP _ _) (uc _ _)
  simp only [aK, aS, decide_eq_true_eq]
  omega
 rw [e4, e1, e2, e3, hset]
 simp only [aK, Bool.true_and, Bool.and_true, aS, decide_eq_true_eq]
 exact ⟨⟨⟨by omega, by omega⟩, by omega, by omega⟩, ⟨by omega, by omega⟩, by omega, by omega⟩
def SL {e : aA} (h : aX e = true) : aX (dk e) = true := by
 have hk := fO.1 h
 have hr := Ax (s := e.Store) (eK e.aez)
 rw [fO]
 unfold dk
 refine ⟨aat _ hk.so, hk.c0, ?_, hk.od, hk.s0, hk.s1, hk.a8, hk.d1, hk.l1, fun a ha => ?_, hk.pw, fun f hf => ?_, hk.cs⟩
 ·dsimp only; rw [hr.1]; exact hk.c1
 ·dsimp only; rw [je, hr.1, hr.2, ← je]; exact hk.aa a ha
 ·dsimp only; rw [hr.2]; exact hk.fs f hf
def nK.reclaim {N : Nat} {e : aA} (h : nK N e) : nK N (dk e) := ⟨SL h.ok, h.ld, h.dn, h.ag⟩
def gn.reclaim {N : Nat} {e : aA} (h : gn N e) : gn N (dk e) := ⟨SL h.ok, h.st, h.ld, h.dn, h.ag⟩
def SM {l : List Int} {x y : Int} : y ∈ fM l x ↔ y ∈ l ∧ y ≠ x := by unfold fM; simp
def abw {c n : Int} (h0 : 0 ≤ c) (h1 : c < n) : (c + 1).tmod n = if c + 1 = n then 0 else c + 1 := by
 rw [Int.tmod_eq_emod_of_nonneg (by omega)]
 split
 ·rename_i h; rw [h, Int.emod_self]
 ·exact Int.emod_eq_of_lt (by omega) (by omega)
def abx {N : Nat} {e : aA} (h : nK N e) (hN : N ≤ 249) : nK (N + 1) (cz e) := by
 cases hso : im e with
 | false => rw [RU hso]; exact h.le (by omega)
 | true =>
 obtain ⟨_, hst, _, _⟩ := wH hso
 rw [Am hso]
 refine nK.reclaim ?_
 have hk := fO.1 h.ok
 obtain ⟨ea, ed⟩ := SI h.ok
 have hb := h.ag
 have hld := h.ld; have hdn := h.dn
 have c0 := hk.c0; have c1 := hk.c1
 have hcur := abw c0 c1
 have el : (gN e).aeL = gz e (parts e).length := rfl
 have hll : (gN e).aeL.length ≤ e.aeL.length + 1 := by
  rw [el]; unfold gz; split
  ·omega
  ·rw [aM]; simp
 have hrows : ∀ a ∈ e.aez, (cY e a).Rows.length ≤ 4 * (N + 1) ∧ ∀ r ∈ (cY e a).Rows, cf r = true := by
  intro a ha
  have h1 := hb a ha
  have h2 := Av h.ok a
  have h3 := je.1 (hk.aa a ha)
  rw [SJ]
  split
  ·rw [aM]
   refine ⟨by omega, fun r hr => ?_⟩
   rcases List.mem_append.1 hr with hr | hr
   ·exact h3.rk r hr
   ·exact abu h.ok a r hr
  ·exact ⟨by omega, h3.rk⟩
 have hsent : ∀ a ∈ e.aez, 0 ≤ (cY e a).Sent ∧ (cY e a).Sent ≤ 4 * ((N : Int) + 1) := by
  intro a ha
  have h1 := hb a ha
  have h2 := Av h.ok a
  have h3 := je.1 (hk.aa a ha)
  have h4 := h3.sn0
  rw [Gu]
  split
  ·omega
  ·split <;> omega
 have hsplit : ((e.aez.map (cY e)).filter fun a => !dz a).length + ((e.aez.map (cY e)).filter dz).length = e.aez.length := by
  have := FH (e.aez.map (cY e)); rw [aw] at this; exact this
 have mem : ∀ b, b ∈ (gN e).aez → ∃ a ∈ e.aez, b = cY e a ∧ dz b = false := by
  intro b hb2
  rw [ea] at hb2
  obtain ⟨hb2, he⟩ := List.mem_filter.1 hb2
  obtain ⟨a, ha, rfl⟩ := List.mem_map.1 hb2
  exact ⟨a, ha, rfl, by simpa using he⟩
 refine ⟨?_, by omega, ?_, ?_⟩
 ·rw [fO]
  refine ⟨hk.so, ?_, ?_, hk.od, by show 0 ≤ e.Steps + 1; have := hk.s0; omega, by show e.Steps + 1 ≤ 100000; omega, ?_, ?_, by omega, ?_, ?_, ?_, ?_⟩
  ·show 0 ≤ (e.aeD + 1).tmod _; rw [hcur]; split <;> omega
  ·show (e.aeD + 1).tmod (e.Store.aey.length : Int) < (e.Store.aey.length : Int); rw [hcur]; split <;> omega
  ·rw [ea]; have := hk.a8; omega
  ·rw [ed, aM, aw]; omega
  ·intro b hb2
   obtain ⟨a, ha, rfl, he⟩ := mem b hb2
   have h3 := je.1 (hk.aa a ha)
   have hq := oZ (e := e) (a := a)
   have h5 := hrows a ha; have h6 := hsent a ha; have h7 := hb a ha
   rw [je]
   have ht : (cY e a).aeI.Sublist a.aeI := by
    rw [rO]; split
    ·exact List.filter_sublist
    ·exact List.Sublist.refl _
   refine ⟨?_, h3.tp.sublist ht, fun x hx => h3.tr x (ht.subset hx), by rw [hq.1]; exact h3.q, by rw [hq.2.1]; exact h3.tm0, by rw [hq.2.1]; exact h3.tm1, by rw [hq.2.2.2]; have := h3.ag0; omega, by rw [hq.2.2.2]; omega, h6.1, by omega, by rw [hq.2.2.1]; exact h3.cp0, by rw [hq.2.2.1]; exact h3.cp1, h5.2, by omega⟩
   unfold dz at he
   simp only [decide_eq_false_iff_not] at he
   omega
  ·rw [ea]
   refine List.Pairwise.filter _ ?_
   rw [List.pairwise_map]
   refine hk.pw.imp fun {a b} k => ?_
   rw [oZ.1, oZ.1]; exact k
  ·rw [ed]
   intro f hf
   rcases List.mem_append.1 hf with hf | hf
   ·exact hk.fs f hf
   ·obtain ⟨b, hb2, rfl⟩ := List.mem_map.1 hf
    obtain ⟨hb2, _⟩ := List.mem_filter.1 hb2
    obtain ⟨a, ha, rfl⟩ := List.mem_map.1 hb2
    have h3 := je.1 (hk.aa a ha)
    have hq := oZ (e := e) (a := a)
    have h5 := hrows a ha; have h7 := hb a ha
    rw [Gt]
    unfold nC
    dsimp only
    rw [hq.1, hq.2.1, hq.2.2.2]
    have := h3.ag0
    exact ⟨h3.q, ⟨h3.tm0, h3.tm1⟩, ⟨by omega, by omega⟩, h5.2, by omega⟩
  ·rw [el]
   intro c hc
   unfold gz at hc
   split at hc
   ·exact hk.cs c hc
   ·rcases List.mem_append.1 hc with hc | hc
    ·exact hk.cs c hc
    ·rw [List.mem_singleton.1 hc]
     exact abv h.ok (by omega)
 ·rw [ea, ed, aM, aw]; omega
 ·intro b hb2
  obtain ⟨a, ha, rfl, he⟩ := mem b hb2
  have hq := oZ (e := e) (a := a)
  have h5 := hrows a ha; have h6 := hsent a ha; have h7 := hb a ha
  rw [hq.2.2.2]
  omega
def aby {N : Nat} {e : aA} (h : gn N e) (hN : N ≤ 249) : gn (N + 1) (cz e) := by
 have k := abx h.w hN
 have hst := h.st
 exact ⟨k.ok, by rw [Am (SK h (by omega))]; show e.Steps + 1 ≤ _; omega, k.ld, k.dn, k.ag⟩
def abz {N : Nat} {e : aA} (h : gn N e) (id : Int) : gn N (cK e id).1 := by
 cases hc : jG e id with
 | false => rw [wP hc]; exact h
 | true =>
  rw [Gj hc]
  refine gn.reclaim ?_
  have hk := fO.1 h.ok
  have hs : (eE e.aez (dy e.aez id).toNat).Sublist e.aez := by
   unfold eE
   conv => rhs; rw [← fg (dy e.aez id).toNat e.aez]
   exact List.Sublist.append (List.Sublist.refl _) (by rw [List.drop_add_one_eq_tail_drop]; exact List.tail_sublist _)
  have hl := hs.length_le
  have hdn := h.dn; have a8 := hk.a8
  refine ⟨?_, h.st, h.ld, by show e.Done.length + (eE e.aez _).length ≤ N; omega, fun a ha => h.ag a (hs.subset ha)⟩
  rw [fO]
  exact ⟨hk.so, hk.c0, hk.c1, hk.od, hk.s0, hk.s1, by show (eE e.aez _).length ≤ 8; omega, hk.d1, hk.l1, fun a ha => hk.aa a (hs.subset ha), hk.pw.sublist hs, hk.fs, hk.cs⟩
def abA {N : Nat} {e : aA} (h : gn N e) (u : aeC) : gn N (cD e u).1 := by
 cases hu : aX e && (cQ e.Store u).2 with
 | false => rw [AG hu]; exact h
 | true =>
  rw [AH hu]
  refine gn.reclaim ?_
  have hk := fO.1 h.ok
  have hs := FU e.Store u hk.so
  have hlen : (cQ e.Store u).1.aey.length = e.Store.aey.length ∧ e.Store.Now ≤ (cQ e.Store u).1.Now := by
   cases ha : gZ e.Store u with
   | false => rw [rE ha]; exact ⟨rfl, Int.le_refl _⟩
   | true =>
    by_cases hk2 : u.Kind = 2
    ·rw [oS ha hk2]; exact ⟨oT _ _, by dsimp only; omega⟩
    ·rw [zW ha]; unfold tY; rw [if_neg hk2]; unfold rD; dsimp only; rw [List.length_set, oT]; exact ⟨rfl, by omega⟩
  refine ⟨?_, h.st, h.ld, h.dn, h.ag⟩
  rw [fO]
  unfold qb
  refine ⟨hs, hk.c0, by dsimp only; rw [hlen.1]; exact hk.c1, hk.od, hk.s0, hk.s1, hk.a8, hk.d1, hk.l1, fun a ha => ?_, hk.pw, fun f hf => ?_, hk.cs⟩
  ·have h3 := je.1 (hk.aa a ha)
   dsimp only
   rw [je, hlen.1]
   exact { h3 with tm1 := by have := h3.tm1; omega }
  ·have := Gt.1 (hk.fs f hf)
   dsimp only
   rw [Gt]
   exact ⟨this.1, ⟨this.2.1.1, by omega⟩, this.2.2⟩
def abB {n : Nat} : ∀ x ∈ lC n, 0 ≤ x ∧ x < n := by
 intro x hx
 unfold lC at hx
 obtain ⟨i, hi, rfl⟩ := List.mem_map.1 hx
 have := List.mem_range.1 hi
 omega
def abC {e : aA} {q : aeA} {l : Int} (h : aX e = true) (hq : ck q = true) (hl : 0 ≤ l ∧ l ≤ 32) : fc e.Store (cJ e q l) = true := by
 have hk := fO.1 h
 have hs := kr.1 hk.so
 have l1 := hs.l1
 rw [je]
 unfold cJ
 refine ⟨by rw [wM]; omega, ?_, abB, hq, hs.n0, Int.le_refl _, Int.le_refl 0, by show (0 : Int) ≤ 100000; decide, Int.le_refl 0, by show (0 : Int) ≤ 1000; decide, hl.1, hl.2, by simp, by simp⟩
 unfold lC
 rw [List.pairwise_map]
 refine (List.pairwise_lt_range).imp fun {a b} k => by omega
def SN {e : aA} {q : aeA} {l : Int} (h : aX e = true) : (jD e q l).Perm (cJ e q l :: e.aez) := by
 have hc := ul (fun a : aez => a.aeA.Id) q.Id (oW h)
 have e1 : e.aez.filter (jd q.Id) = e.aez.take (dC e.aez q.Id) := hc
 unfold jD
 rw [e1]
 refine List.perm_middle.trans ?_
 rw [fg]
def abD {e : aA} {q : aeA} {l : Int} (h : aX e = true) (hf : dy e.aez q.Id < 0) : (jD e q l).Pairwise fun a b => a.aeA.Id < b.aeA.Id := by
 have hp := oW h
 have hc := ul (fun a : aez => a.aeA.Id) q.Id hp
 have e1 : e.aez.filter (jd q.Id) = e.aez.take (dC e.aez q.Id) := hc
 have hcut := fun (k : Nat) (hk : k < e.aez.length) => SD (x := q.Id) h hk
 have hge : ∀ b ∈ e.aez.drop (dC e.aez q.Id), q.Id < b.aeA.Id := by
  intro b hb
  obtain ⟨j, hj, rfl⟩ := List.mem_iff_getElem.1 hb
  rw [fH] at hj
  rw [List.getElem_drop]
  have h1 := hcut (dC e.aez q.Id + j) (by omega)
  have h2 := Gi hf (show dC e.aez q.Id + j < e.aez.length by omega)
  omega
 have hlt : ∀ b ∈ e.aez.take (dC e.aez q.Id), b.aeA.Id < q.Id := by
  intro b hb
  rw [← e1] at hb
  have := (List.mem_filter.1 hb).2
  unfold jd at this; simpa using this
 unfold jD
 rw [e1, List.pairwise_append, List.pairwise_cons]
 refine ⟨hp.sublist (List.take_sublist _ _), ⟨fun b hb => hge b hb, hp.sublist (List.drop_sublist _ _)⟩, fun a ha b hb => ?_⟩
 have h1 := hlt a ha
 rcases List.mem_cons.1 hb with rfl | hb
 ·exact h1
 ·have := hge b hb; omega
def abE {N : Nat} {e : aA} (h : gn N e) (hN : N ≤ 900) (q : aeA) (l : Int) : gn (N + 1) (eR e q l).1 := by
 cases ha : jE e q l with
 | false => rw [uk ha]; exact h.le (by omega)
 | true =>
  rw [wN ha]
  obtain ⟨h1, h2, h3, h4, h5⟩ := rN ha
  have hk := fO.1 h1
  have hp := SN (q := q) (l := l) h1
  have hl := hp.length_eq
  rw [List.length_cons] at hl
  have hdn := h.dn; have hst := h.st; have hld := h.ld
  have mem : ∀ a ∈ jD e q l, a = cJ e q l ∨ a ∈ e.aez := fun a ha => List.mem_cons.1 (hp.mem_iff.1 ha)
  refine ⟨?_, by dsimp only; omega, by dsimp only; omega, by dsimp only; omega, fun a ha => ?_⟩
  ·rw [fO]
   refine ⟨hk.so, hk.c0, hk.c1, hk.od, hk.s0, hk.s1, by dsimp only; omega, hk.d1, hk.l1, fun a ha => ?_, by exact abD (e := e) h1 h4, hk.fs, hk.cs⟩
   rcases mem a ha with rfl | ha
   ·exact abC (e := e) h1 h2 h3
   ·exact hk.aa a ha
  ·rcases mem a ha with rfl | ha
   ·unfold cJ; dsimp only; simp; omega
   ·have := h.ag a ha; omega
def abF {s : Store} (h : bQ s = true) : gn 0 ⟨s, 0, [0, 1, 2], [], [], [], 0⟩ := by
 have k := kr.1 h
 have l1 := k.l1
 refine ⟨?_, by simp, by simp, by simp, by simp⟩
 rw [fO]
 exact ⟨h, Int.le_refl 0, by dsimp only; omega, by show gw [0, 1, 2] = true; decide, Int.le_refl 0, by show (0 : Int) ≤ 100000; decide, by simp, by simp, by simp, by simp, by simp, by simp, by simp⟩
def mU : aeC := ⟨0, ⟨0, []⟩, 0, 0⟩
def ml : aeA := ⟨0, 0, [], []⟩
def cq (c : ba) : Int × ba := au c 6
def un (c : ba) : aeA × ba := jB (au (cq c).2 6).2 (au (cq c).2 6).1
def wR (c : ba) : Int × ba := bR (un c).2 [0, 0, 1, 2]
def cZ (c : ba) (s : Store) : et × ba :=
 if (cq c).1 = 0 ∨ (cq c).1 = 1 then (⟨1, (un c).1, (wR c).1, 0, mU, 0⟩, (wR c).2)
 else if (cq c).1 = 2 then (⟨2, ml, 0, (au (cq c).2 6).1, mU, 0⟩, (au (cq c).2 6).2)
 else if (cq c).1 = 3 then (⟨4, ml, 0, 0, mU, 1 + (au (cq c).2 3).1⟩, (au (cq c).2 3).2)
 else (⟨3, ml, 0, 0, (fG (cq c).2 s).1, 0⟩, (fG (cq c).2 s).2)
def SO {c : ba} {s : Store} (h : (cq c).1 = 0 ∨ (cq c).1 = 1) : cZ c s = (⟨1, (un c).1, (wR c).1, 0, mU, 0⟩, (wR c).2) := if_pos h
def SP {c : ba} {s : Store} (h : ¬ ((cq c).1 = 0 ∨ (cq c).1 = 1)) (h2 : (cq c).1 = 2) : cZ c s = (⟨2, ml, 0, (au (cq c).2 6).1, mU, 0⟩, (au (cq c).2 6).2) := by unfold cZ; rw [if_neg h, if_pos h2]
def SQ {c : ba} {s : Store} (h : ¬ ((cq c).1 = 0 ∨ (cq c).1 = 1)) (h2 : ¬ (cq c).1 = 2) (h3 : (cq c).1 = 3) : cZ c s = (⟨4, ml, 0, 0, mU, 1 + (au (cq c).2 3).1⟩, (au (cq c).2 3).2) := by unfold cZ; rw [if_neg h, if_neg h2, if_pos h3]
def SR {c : ba} {s : Store} (h : ¬ ((cq c).1 = 0 ∨ (cq c).1 = 1)) (h2 : ¬ (cq c).1 = 2) (h3 : ¬ (cq c).1 = 3) : cZ c s = (⟨3, ml, 0, 0, (fG (cq c).2 s).1, 0⟩, (fG (cq c).2 s).2) := by unfold cZ; rw [if_neg h, if_neg h2, if_neg h3]
def abG (c : ba) (s : Store) : lr (cZ c s).1 ≤ 10 := by
 unfold cZ
 have hq : eZ ml = 0 := rfl
 have hu : lp mU = 0 := rfl
 split
 ·have := Sl (au (cq c).2 6).2 (au (cq c).2 6).1
  have e : eZ (un c).1 ≤ 6 := this
  unfold lr; simp only [bf]; omega
 ·split
  ·unfold lr; simp only [bf]; omega
  ·split
   ·unfold lr; simp only [bf]; omega
   ·have := Sw (cq c).2 s
    unfold lr; simp only [bf]; omega
inductive kV (s : Store) : et → Prop
 | adm (q : aeA) (l : Int) (h1 : ck q = true) (h2 : 0 ≤ q.Id ∧ q.Id ≤ 5) (h3 : 0 ≤ l ∧ l ≤ 2) : kV s ⟨1, q, l, 0, mU, 0⟩
 | can (i : Int) (h : 0 ≤ i ∧ i ≤ 5) : kV s ⟨2, ml, 0, i, mU, 0⟩
 | stp (n : Int) (h : 1 ≤ n ∧ n ≤ 3) : kV s ⟨4, ml, 0, 0, mU, n⟩
 | upd (u : aeC) : kV s ⟨3, ml, 0, 0, u, 0⟩
def kV.steps {s : Store} {x : et} (h : kV s x) : 0 ≤ x.Steps ∧ x.Steps ≤ 3 := by cases h <;> dsimp only <;> omega
def abH (c : ba) (s : Store) : kV s (cZ c s).1 := by
 have b1 := dS (cq c).2 6
 have b2 := eA (cq c).2 (n := 6) (by decide)
 have b3 := dS (cq c).2 3
 have b4 := eA (cq c).2 (n := 3) (by decide)
 unfold cZ
 split
 ·have hp := AD (un c).2 (l := [0, 0, 1, 2]) (by decide)
  simp at hp
  have hq : (un c).1.Id = (au (cq c).2 6).1 := rfl
  refine kV.adm _ _ (aaU ⟨b1, by omega⟩) (by omega) ?_
  unfold wR; omega
 ·split
  ·exact kV.can _ (by omega)
  ·split
   ·exact kV.stp _ (by omega)
   ·exact kV.upd _
structure AL where
 l : List et
 c : ba
def SS (s : Store) (x : AL) : AL := ⟨x.l ++ [(cZ x.c s).1], (cZ x.c s).2⟩
def kW (s : Store) (c : ba) : Nat → AL
 | 0 => ⟨[], c⟩
 | k + 1 => SS s (kW s c k)
def pb (c : ba) (most : Int) : Nat := (au c most).1.toNat
def qc (c : ba) (s : Store) (most : Int) : AL := kW s (au c most).2 (pb c most)
def AM {s : Store} {c : ba} : ∀ k, (kW s c k).l.length = k
 | 0 => rfl
 | k + 1 => by show ((kW s c k).l ++ [_]).length = _; rw [aM, AM k]; rfl
def SU {s : Store} {c : ba} : ∀ k, ((kW s c k).l.map lr).sum ≤ 10 * k
 | 0 => by show ([] : List Nat).sum ≤ _; simp
 | k + 1 => by
  have h1 := SU (s := s) (c := c) k
  have h2 := abG (kW s c k).c s
  show (((kW s c k).l ++ [(cZ (kW s c k).c s).1]).map lr).sum ≤ _
  rw [bj, List.sum_append]
  simp only [List.map_cons, List.map_nil, List.sum_cons, List.sum_nil]; omega
def SV {s : Store} {c : ba} : ∀ k, ∀ x ∈ (kW s c k).l, kV s x
 | 0, x, h => nomatch h
 | k + 1, x, h => by
  have h : x ∈ (kW s c k).l ++ [(cZ (kW s c k).c s).1] := h
  rcases List.mem_append.1 h with h | h
  ·exact SV k x h
  ·rw [List.mem_singleton.1 h]; exact abH _ _
def SX (c : ba) {most : Int} (h : 0 < most) : (pb c most : Int) < most := by
 have b1 := dS c most
 have b2 := eA c (n := most) h
 unfold pb; omega
def abI (c : ba) (s : Store) {most : Int} (h : 0 < most ∧ most ≤ 100) : zy (qc c s most).l ≤ 1100 := by
 have h1 := SU (s := s) (c := (au c most).2) (pb c most)
 have h2 := AM (s := s) (c := (au c most).2) (pb c most)
 have h3 := SX c h.1
 unfold qc zy
 omega
def nL (s : Store) : aA := ⟨s, 0, [0, 1, 2], [], [], [], 0⟩
def aZ (c : ba) : aA := nL (jC c).s
def aQ (c : ba) : List et := (qc (jC c).c (aZ c).Store 14).l
def abJ (c : ba) : gn 0 (aZ c) := abF (Gg c)
def abK (c : ba) : bp (aZ c) ≤ 210 := by
 have := rL (Gg c)
 unfold aZ nL bp
 dsimp only
 simp [bf, dE, fB, fC, fV]; omega
def abL (c : ba) : zy (aQ c) ≤ 1100 := abI _ _ (by decide)
def Gv (c : ba) : (aQ c).length ≤ 13 := by
 have h2 := AM (s := (aZ c).Store) (c := (au (jC c).c 14).2) (pb (jC c).c 14)
 have h3 := SX (jC c).c (most := 14) (by decide)
 have e : (aQ c).length = pb (jC c).c 14 := h2
 omega
def Gw (c : ba) : ∀ x ∈ aQ c, kV (aZ c).Store x := SV _
section
section
variable {β : Type} (lt : β → β → Bool)
structure Ord : Prop where
 trans : ∀ {x y z : β}, lt x y = true → lt y z = true → lt x z = true
 ntrans : ∀ {x y z : β}, lt y x = false → lt z y = false → lt z x = false
def jf (x : β) : List β → List β
 | [] => [x]
 | y :: p => if lt x y then x :: y :: p else y :: jf x p
def dO (l : List β) : List β := l.foldl (fun p x => jf lt x p) []
def rP (l : List β) : Prop := l.Pairwise fun x y => lt y x = false
variable {lt}
def Gx {p : List β → Prop} (h0 : p []) (h1 : ∀ l x, p l → p (l ++ [x])) (l : List β) : p l := by
 rw [← List.reverse_reverse l]
 induction l.reverse with
 | nil => exact h0
 | cons x l ih => rw [List.reverse_cons]; exact h1 _ _ ih
def AN (l : List β) (x : β) : dO lt (l ++ [x]) = jf lt x (dO lt l) := by
 unfold dO; rw [List.foldl_append]; rfl
def SY (x : β) : ∀ l : List β, (jf lt x l).length = l.length + 1
 | [] => rfl
 | y :: p => by
  rw [jf]; split
  ·rfl
  ·rw [List.length_cons, SY x p, List.length_cons]
def abM (l : List β) : (dO lt l).length = l.length := by
 refine Gx (p := fun l => (dO lt l).length = l.length) rfl (fun l x ih => ?_) l
 rw [AN, SY, ih, aM]; rfl
def SZ {x y : β} : ∀ {l : List β}, y ∈ jf lt x l ↔ y = x ∨ y ∈ l
 | [] => by simp [jf]
 | z :: l => by
  rw [jf]; split
  ·simp
  ·simp only [iq, SZ (l := l)]
   constructor
   ·rintro (h | h | h) <;> simp [h]
   ·rintro (h | h | h) <;> simp [h]
def Ta (ho : Ord lt) (hi : ∀ x, lt x x = false) {x y : β} (h : lt x y = true) : lt y x = false := by
 cases k : lt y x with
 | false => rfl
 | true => have := ho.trans h k; rw [hi] at this; cases this
def Tb (ho : Ord lt) (hi : ∀ x, lt x x = false) (x : β) : ∀ {l : List β}, rP lt l → rP lt (jf lt x l)
 | [], _ => by simp [jf, rP]
 | y :: l, h => by
  have h' := List.pairwise_cons.1 h
  rw [jf]
  split
  ·rename_i hxy
   refine List.pairwise_cons.2 ⟨fun z hz => ?_, h⟩
   rcases List.mem_cons.1 hz with rfl | hz
   ·exact Ta ho hi hxy
   ·exact ho.ntrans (Ta ho hi hxy) (h'.1 z hz)
  ·rename_i hxy
   refine List.pairwise_cons.2 ⟨fun z hz => ?_, Tb ho hi x h'.2⟩
   rcases SZ.1 hz with rfl | hz
   ·simpa using hxy
   ·exact h'.1 z hz
def Gy (ho : Ord lt) (hi : ∀ x, lt x x = false) (l : List β) : rP lt (dO lt l) := by
 refine Gx (p := fun l => rP lt (dO lt l)) List.Pairwise.nil (fun l x ih => ?_) l
 rw [AN]; exact Tb ho hi x ih
def Tc {x : β} : ∀ {p : List β} {k : Nat}, k ≤ p.length → (∀ i : Nat, (h : i < k) → (h2 : i < p.length) → lt x p[i] = false) → (∀ h : k < p.length, lt x p[k] = true) → jf lt x p = p.take k ++ x :: p.drop k
 | [], k, hk, _, _ => by simp at hk; subst hk; rfl
 | y :: l, 0, _, _, h => by
  have : lt x y = true := h (by simp)
  rw [jf, if_pos this]; rfl
 | y :: l, k + 1, hk, h1, h2 => by
  have hy : lt x y = false := h1 0 (by omega) (by simp)
  rw [jf, if_neg (by rw [hy]; simp), Tc (k := k) (by simpa using hk) (fun i h h' => h1 (i + 1) (by omega) (by rw [List.length_cons]; omega)) (fun h => h2 (by rw [List.length_cons]; omega))]
  rfl
def abN {l : List β} (h : rP lt l) {i j : Nat} (hij : i < j) (hj : j < l.length) : lt l[j] (l[i]'(Nat.lt_trans hij hj)) = false := List.pairwise_iff_getElem.1 h i j (Nat.lt_trans hij hj) hj hij
def abO (ho : Ord lt) {x : β} {p : List β} {k : Nat} (hs : rP lt p) (hk : k ≤ p.length) (h1 : ∀ i : Nat, k ≤ i → (h : i < p.length) → lt x p[i] = true) (h2 : k = 0 ∨ ∀ h : k - 1 < p.length, lt x p[k - 1] = false) : jf lt x p = p.take k ++ x :: p.drop k := by
 refine Tc hk (fun i hi hi2 => ?_) (fun h => h1 k (Nat.le_refl _) h)
 rcases h2 with h2 | h2
 ·omega
 ·have h3 := h2 (by omega)
  by_cases e : i = k - 1
  ·subst e; exact h3
  ·exact ho.ntrans (abN hs (by omega : i < k - 1) (by omega)) h3
def Td (x : β) : ∀ l : List β, (jf lt x l).Perm (x :: l)
 | [] => List.Perm.refl _
 | y :: l => by
  rw [jf]; split
  ·exact List.Perm.refl _
  ·exact ((Td x l).cons y).trans (List.Perm.swap x y l)
def AO (l : List β) : (dO lt l).Perm l := by
 refine Gx (p := fun l => (dO lt l).Perm l) (List.Perm.refl _) (fun l x ih => ?_) l
 rw [AN]; exact (Td x _).trans ((ih.cons x).trans (List.perm_append_singleton x l).symm)
end
def dH {α : Type} (q : α × α → Int) (x y : α) : Bool := decide (q (x, y) < 0)
structure mV {α : Type} (q : α × α → Int) : Prop where
 anti : ∀ x y, q (y, x) = - q (x, y)
 le : ∀ x y z, q (x, y) ≤ 0 → q (y, z) ≤ 0 → q (x, z) ≤ 0
section
variable {α β : Type} {q : α × α → Int}
def mV.ord (h : mV q) : Ord (dH q) where
 trans {x y z} h1 h2 := by
  have h1 : q (x, y) < 0 := of_decide_eq_true h1
  have h2 : q (y, z) < 0 := of_decide_eq_true h2
  refine decide_eq_true ?_
  have a1 := h.anti x z
  have a2 := h.anti y z
  by_cases k : q (x, z) < 0
  ·exact k
  ·have := h.le z x y (by omega) (by omega)
   omega
 ntrans {x y z} h1 h2 := by
  have h1 : ¬ q (y, x) < 0 := of_decide_eq_false h1
  have h2 : ¬ q (z, y) < 0 := of_decide_eq_false h2
  refine decide_eq_false ?_
  have a1 := h.anti x y
  have a2 := h.anti y z
  have a3 := h.anti x z
  have := h.le x y z (by omega) (by omega)
  omega
def mV.irr (h : mV q) (x : α) : dH q x x = false := by
 have := h.anti x x
 exact decide_eq_false (by omega)
def mV.comap (f : β → α) (h : mV q) : mV fun p : β × β => q (f p.1, f p.2) := ⟨fun x y => h.anti (f x) (f y), fun x y z => h.le (f x) (f y) (f z)⟩
end
def fw (u v r : Int) : Int := if u < v then -1 else if v < u then 1 else r
def rQ (u v : Int) : Int := fw u v 0
def abP {α : Type} (k : α → Int) {r : α × α → Int} (h : mV r) : mV fun p => fw (k p.1) (k p.2) (r p) := ⟨fun x y => by
  have := h.anti x y
  show fw (k y) (k x) (r (y, x)) = - fw (k x) (k y) (r (x, y))
  unfold fw
  repeat' split
  all_goals omega, fun x y z => by
  have := h.le x y z
  show fw (k x) (k y) (r (x, y)) ≤ 0 → fw (k y) (k z) (r (y, z)) ≤ 0 → fw (k x) (k z) (r (x, z)) ≤ 0
  unfold fw
  repeat' split
  all_goals (intro h1 h2; omega)⟩
def eM : List Int → List Int → Int
 | [], [] => 0
 | [], _ :: _ => -1
 | _ :: _, [] => 1
 | x :: a, y :: b => fw x y (eM a b)
def Te : ∀ a b : List Int, eM b a = - eM a b
 | [], [] => rfl
 | [], _ :: _ => rfl
 | _ :: _, [] => rfl
 | x :: a, y :: b => by
  have := Te a b
  show fw y x (eM b a) = - fw x y (eM a b)
  unfold fw
  repeat' split
  all_goals omega
def Tf : ∀ a b c : List Int, eM a b ≤ 0 → eM b c ≤ 0 → eM a c ≤ 0
 | [], _, [], _, _ => Int.le_refl _
 | [], _, _ :: _, _, _ => by show (-1 : Int) ≤ 0; decide
 | _ :: _, [], _, h, _ => absurd h (by show ¬ (1 : Int) ≤ 0; decide)
 | _ :: _, _ :: _, [], _, h => absurd h (by show ¬ (1 : Int) ≤ 0; decide)
 | x :: a, y :: b, z :: c, h1, h2 => by
  have := Tf a b c
  revert h1 h2
  show fw x y (eM a b) ≤ 0 → fw y z (eM b c) ≤ 0 → fw x z (eM a c) ≤ 0
  unfold fw
  repeat' split
  all_goals (intro h1 h2; omega)
def abQ : mV fun p => eM p.1 p.2 := ⟨Te, Tf⟩
section
variable {x y : List Int} {k : Nat}
def Tg (hx : k < x.length) (hy : k < y.length) : eM (x.drop k) (y.drop k) = fw x[k] y[k] (eM (x.drop (k + 1)) (y.drop (k + 1))) := by
 rw [List.drop_eq_getElem_cons hx, List.drop_eq_getElem_cons hy]; rfl
def abR (hx : k < x.length) (hy : k < y.length) (h : x[k] = y[k]) : eM (x.drop k) (y.drop k) = eM (x.drop (k + 1)) (y.drop (k + 1)) := by
 rw [Tg hx hy, h]; unfold fw; rw [if_neg (by omega), if_neg (by omega)]
def abS (hx : k < x.length) (hy : k < y.length) (h : ¬ rQ x[k] y[k] = 0) : eM (x.drop k) (y.drop k) = rQ x[k] y[k] := by
 rw [Tg hx hy]; revert h; unfold rQ fw
 repeat' split
 all_goals simp
def abT {u v : Int} (h : rQ u v = 0) : u = v := by
 revert h; unfold rQ fw
 repeat' split
 all_goals omega
def abU (hx : k < x.length) (hy : y.length ≤ k) : eM (x.drop k) (y.drop k) = 1 := by
 rw [List.drop_eq_getElem_cons hx, List.drop_of_length_le hy]; rfl
def abV (hx : x.length ≤ k) (hy : k < y.length) : eM (x.drop k) (y.drop k) = -1 := by
 rw [List.drop_eq_getElem_cons hy, List.drop_of_length_le hx]; rfl
def abW (hx : x.length ≤ k) (hy : y.length ≤ k) : eM (x.drop k) (y.drop k) = 0 := by
 rw [List.drop_of_length_le hx, List.drop_of_length_le hy]; rfl
end
def dg (p : Row × Row) : Int := fw p.1.Id p.2.Id (eM p.1.Values p.2.Values)
def qd : mV dg := abP Row.Id (abQ.comap Row.Values)
end
def qe (g : List Int) (x : br) (k : Nat) : Int := if bB g (x.aeF.getD k 0) then x.Rows.getD k 0 else 0
def wS (g : List Int) (x : br) (k : Nat) : Bool := bB g (x.aeF.getD k 0)
def nM (g : List Int) (x : br) (k : Nat) : Int := ((List.range k).map (qe g x)).sum
def rR (g : List Int) (x : br) (k : Nat) : Bool := (List.range k).any (wS g x)
def jg (g : List Int) (x : br) : Int := if bZ x then (if rR g x x.aeF.length then x.Base + nM g x x.aeF.length else 0) else 0
def pc (l : List br) (g : List Int) : Int := (l.map (jg g)).sum
def Th {g : List Int} {x : br} {k : Nat} : nM g x (k + 1) = nM g x k + qe g x k := by unfold nM; exact ki
def Ti {g : List Int} {x : br} {k : Nat} : rR g x (k + 1) = (rR g x k || wS g x k) := by unfold rR; rw [List.range_succ, List.any_append]; simp
def Gz {g : List Int} {x : br} (h : bZ x = true) (k : Nat) (hk : k ≤ x.Ids.length) : 0 ≤ nM g x k ∧ nM g x k ≤ 32 := by
 obtain ⟨h1, h2, h3, h4⟩ := kh h
 have h5 := jy h1
 have := mO (f := qe g x) (m := 4) (n := x.Ids.length) (fun i hi => by have := h4 i hi; unfold qe; split <;> omega) k hk
 unfold nM; omega
def Tj (g : List Int) (x : br) : 0 ≤ jg g x ∧ jg g x ≤ 36 := by
 unfold jg
 split
 ·rename_i h
  obtain ⟨h1, h2, h3, h4⟩ := kh h
  have h5 := jy h1
  have := Gz (g := g) h x.aeF.length (by omega)
  split <;> omega
 ·omega
def abX (l : List br) (g : List Int) : 0 ≤ pc l g ∧ pc l g ≤ l.length * 36 := EG (fun x => Tj g x) (by decide)
def fx (b : Nat → Bool) (k : Nat) : List Int := ((List.range k).filter b).map fun i : Nat => (i : Int)
def mW (l : List br) (b : Nat → Bool) (k : Nat) : Int := ((List.range k).map fun t : Nat => if b t then fk l (t : Int) else 0).sum
def mX (l : List br) (k : Nat) : Int := ((List.range k).map fun t : Nat => fk l (t : Int)).sum
def Tk {b : Nat → Bool} {k : Nat} : fx b (k + 1) = if b k then fx b k ++ [(k : Int)] else fx b k := by
 unfold fx; rw [List.range_succ, dV]
 cases h : b k <;> simp [h]
def abY {b : Nat → Bool} {k : Nat} : (fx b k).length ≤ k := by
 unfold fx; rw [aw]; exact Nat.le_trans (gP _ _) (by simp)
def uo {l : List br} {b : Nat → Bool} {k : Nat} : mW l b (k + 1) = mW l b k + if b k then fk l (k : Int) else 0 := by unfold mW; exact ki
def wT {l : List br} {k : Nat} : mX l (k + 1) = mX l k + fk l (k : Int) := by unfold mX; exact ki
def abZ {l : List br} {b : Nat → Bool} (k : Nat) : 0 ≤ mW l b k ∧ mW l b k ≤ k * (l.length * 72) := mO (n := k) (fun i _ => by have := tX l (i : Int); split <;> omega) k (Nat.le_refl k)
def ab0 {l : List br} (k : Nat) : 0 ≤ mX l k ∧ mX l k ≤ k * (l.length * 72) := mO (n := k) (fun i _ => tX l (i : Int)) k (Nat.le_refl k)
def wU {b : Nat → Bool} {t : Nat} (ht : t < 4) : bB (fx b 4) (t : Int) = b t := by
 rw [Bool.eq_iff_iff]
 have hm : bB (fx b 4) (t : Int) = true ↔ (t : Int) ∈ fx b 4 := by unfold bB; simp
 rw [hm]
 unfold fx
 simp only [ut, List.mem_filter, List.mem_range]
 constructor
 ·rintro ⟨i, ⟨_, hb⟩, he⟩
  have : i = t := by omega
  rw [← this]; exact hb
 ·intro hb; exact ⟨t, ⟨ht, hb⟩, rfl⟩
def pd (P : Int → Bool) (x : br) (k : Nat) : Int := ((List.range k).map fun i : Nat => if P (x.aeF.getD i 0) then fZ x i else 0).sum
def ab1 {x : br} (h : bZ x = true) {k : Nat} (hk : k < x.Ids.length) : (fb x).getD k 0 = fZ x k := by
 unfold fb
 rw [if_pos h, List.getD_eq_getElem?_getD, List.getElem?_map, List.getElem?_range hk]; rfl
def nN (t : Int) (x : br) (k : Nat) : Int := ((List.range k).map (kO t x)).sum
def Tl {x : br} (h : bZ x = true) (b : Nat → Bool) : ∀ k, k ≤ x.Ids.length → (if b 0 then nN 0 x k else 0) + (if b 1 then nN 1 x k else 0) + (if b 2 then nN 2 x k else 0) + (if b 3 then nN 3 x k else 0) = pd (bB (fx b 4)) x k
 | 0, _ => by simp [nN, pd]
 | k + 1, hk => by
  have ih := Tl h b k (by omega)
  obtain ⟨h1, h2, h3, h4⟩ := kh h
  have hg := ab1 h (k := k) (by omega)
  have ht : 0 ≤ x.aeF.getD k 0 ∧ x.aeF.getD k 0 ≤ 3 := by
   unfold bZ at h
   simp only [aS] at h
   have := List.all_eq_true.1 h.1.2 k (List.mem_range.2 (by omega))
   unfold kg aK at this
   simp only [aS, decide_eq_true_eq] at this
   exact this.1
  have e : ∀ t : Int, nN t x (k + 1) = nN t x k + kO t x k := fun t => by unfold nN; exact ki
  have e2 : pd (bB (fx b 4)) x (k + 1) = pd (bB (fx b 4)) x k + (if bB (fx b 4) (x.aeF.getD k 0) then fZ x k else 0) := by unfold pd; exact ki
  have g0 := wU (b := b) (t := 0) (by decide)
  have g1 := wU (b := b) (t := 1) (by decide)
  have g2 := wU (b := b) (t := 2) (by decide)
  have g3 := wU (b := b) (t := 3) (by decide)
  rw [e, e, e, e, e2, ← ih]
  unfold kO
  rw [hg]
  have hc : x.aeF.getD k 0 = 0 ∨ x.aeF.getD k 0 = 1 ∨ x.aeF.getD k 0 = 2 ∨ x.aeF.getD k 0 = 3 := by omega
  rcases hc with hc | hc | hc | hc <;> rw [hc]
  ·have g0 : bB (fx b 4) 0 = b 0 := g0
   rw [g0]; cases b 0 <;> cases b 1 <;> cases b 2 <;> cases b 3 <;> simp <;> omega
  ·have g1 : bB (fx b 4) 1 = b 1 := g1
   rw [g1]; cases b 0 <;> cases b 1 <;> cases b 2 <;> cases b 3 <;> simp <;> omega
  ·have g2 : bB (fx b 4) 2 = b 2 := g2
   rw [g2]; cases b 0 <;> cases b 1 <;> cases b 2 <;> cases b 3 <;> simp <;> omega
  ·have g3 : bB (fx b 4) 3 = b 3 := g3
   rw [g3]; cases b 0 <;> cases b 1 <;> cases b 2 <;> cases b 3 <;> simp <;> omega
def Tm {q r : Int} (hr : 0 ≤ r) : ∀ k : Nat, ((List.range k).map fun i : Nat => q + (if (i : Int) < r then 1 else 0)).sum = k * q + min (k : Int) r
 | 0 => by simp; omega
 | k + 1 => by
  rw [ki (f := fun i : Nat => q + (if (i : Int) < r then 1 else 0)), Tm hr k]
  have e : ((k + 1 : Nat) : Int) * q = k * q + q := by rw [Int.natCast_add, Int.add_mul, Int.natCast_one, Int.one_mul]
  rw [e]
  split <;> omega
def GA {f g : Nat → Int} : ∀ k : Nat, ((List.range k).map fun i => f i + g i).sum = ((List.range k).map f).sum + ((List.range k).map g).sum
 | 0 => by simp
 | k + 1 => by rw [ki (f := fun i => f i + g i), ki, ki, GA k]; omega
def GB {f g : Nat → Int} : ∀ k : Nat, (∀ i, i < k → f i ≤ g i) → ((List.range k).map f).sum ≤ ((List.range k).map g).sum
 | 0, _ => by simp
 | k + 1, h => by
  have h1 := GB k (fun i hi => h i (by omega))
  have h2 := h k (by omega)
  rw [ki, ki]; omega
def Tn {x : br} (h : bZ x = true) : ((List.range x.Ids.length).map fun i : Nat => x.Base.tdiv x.Ids.length + (if (i : Int) < x.Base.tmod x.Ids.length then 1 else 0)).sum = x.Base := by
 obtain ⟨h1, h2, h3, h4⟩ := kh h
 have h5 := jy h1
 have hm0 : 0 ≤ x.Base.tmod x.Ids.length := Int.tmod_nonneg _ h2
 have hm1 : x.Base.tmod x.Ids.length < x.Ids.length := Int.tmod_lt_of_pos _ (by omega)
 have hd := Int.mul_tdiv_add_tmod x.Base x.Ids.length
 rw [Tm hm0]
 rw [Int.min_eq_right (by omega)]
 exact hd
def ab2 {x : br} (h : bZ x = true) {P : Int → Bool} (hP : ∀ t, 0 ≤ t → t ≤ 3 → P t = true) (ht : ∀ i, i < x.Ids.length → 0 ≤ x.aeF.getD i 0 ∧ x.aeF.getD i 0 ≤ 3) : pd P x x.Ids.length = jz x := by
 obtain ⟨h1, h2, h3, h4⟩ := kh h
 have h5 := jy h1
 unfold jz pd
 rw [if_pos h, h5.2.2.2]
 have e : ((List.range x.Ids.length).map fun i : Nat => if P (x.aeF.getD i 0) then fZ x i else 0) = (List.range x.Ids.length).map fun i : Nat => pT x i + (x.Base.tdiv x.Ids.length + (if (i : Int) < x.Base.tmod x.Ids.length then 1 else 0)) := by
  refine List.map_congr_left fun i hi => ?_
  have hi := List.mem_range.1 hi
  rw [if_pos (hP _ (ht i hi).1 (ht i hi).2)]
  unfold fZ pT; omega
 rw [e, GA, Tn h]; omega
def ab3 {x : br} (h : bZ x = true) (g : List Int) : pd (bB g) x x.Ids.length ≤ jg g x := by
 obtain ⟨h1, h2, h3, h4⟩ := kh h
 have h5 := jy h1
 unfold jg
 rw [if_pos h, h5.2.2.1]
 have hd := Int.tdiv_nonneg h2 (by omega : (0 : Int) ≤ x.Ids.length)
 cases ha : rR g x x.Ids.length with
 | true =>
  rw [if_pos rfl]
  have hb := Tn h
  unfold pd nM
  have := GB (f := fun i : Nat => if bB g (x.aeF.getD i 0) then fZ x i else 0) (g := fun i => (x.Base.tdiv x.Ids.length + (if (i : Int) < x.Base.tmod x.Ids.length then 1 else 0)) + qe g x i) x.Ids.length (fun i hi => by
   unfold qe
   split
   ·unfold fZ; omega
   ·split <;> omega)
  rw [GA, hb] at this
  exact this
 | false =>
  rw [if_neg (by simp)]
  unfold rR at ha
  rw [List.any_eq_false] at ha
  have := GB (f := fun i : Nat => if bB g (x.aeF.getD i 0) then fZ x i else 0) (g := fun _ => 0) x.Ids.length (fun i hi => by
   have := ha i (List.mem_range.2 hi)
   unfold wS at this
   rw [if_neg this]; omega)
  have hz : ((List.range x.Ids.length).map fun _ : Nat => (0 : Int)).sum = 0 := by
   have := mO (f := fun _ : Nat => (0 : Int)) (m := 0) (n := x.Ids.length) (fun _ _ => ⟨Int.le_refl _, Int.le_refl _⟩) _ (Nat.le_refl _)
   omega
  rw [hz] at this
  exact this
def Tp {x : br} (b : Nat → Bool) : (if b 0 then gx 0 x else 0) + (if b 1 then gx 1 x else 0) + (if b 2 then gx 2 x else 0) + (if b 3 then gx 3 x else 0) ≤ jg (fx b 4) x ∧ ((∀ t, t < 4 → b t = true) → gx 0 x + gx 1 x + gx 2 x + gx 3 x = jz x) := by
 cases h : bZ x with
 | false =>
  have e : ∀ t, gx t x = 0 := fun t => by unfold gx fb; rw [if_neg (by rw [h]; simp)]; rfl
  have e2 : jg (fx b 4) x = 0 := by unfold jg; rw [if_neg (by rw [h]; simp)]
  have e3 : jz x = 0 := by unfold jz; rw [if_neg (by rw [h]; simp)]
  rw [e, e, e, e, e2, e3]
  refine ⟨?_, fun _ => by omega⟩
  split <;> split <;> split <;> split <;> omega
 | true =>
  have hs := Tl h b x.Ids.length (Nat.le_refl _)
  have e : ∀ t, gx t x = nN t x x.Ids.length := fun t => by unfold gx nN; rw [(zQ x).2 h]
  rw [e, e, e, e]
  refine ⟨by rw [hs]; exact ab3 h _, fun hb => ?_⟩
  have b0 := hb 0 (by decide); have b1 := hb 1 (by decide); have b2 := hb 2 (by decide); have b3 := hb 3 (by decide)
  rw [if_pos b0, if_pos b1, if_pos b2, if_pos b3] at hs
  rw [hs]
  refine ab2 h (fun t t0 t3 => ?_) (fun i hi => ?_)
  ·have := wU (b := b) (t := t.toNat) (by omega)
   rw [show ((t.toNat : Nat) : Int) = t by omega] at this
   rw [this]; exact hb _ (by omega)
  ·unfold bZ at h
   simp only [aS] at h
   have := List.all_eq_true.1 h.1.2 i (List.mem_range.2 hi)
   unfold kg aK at this
   simp only [aS, decide_eq_true_eq] at this
   exact this.1
def ab4 (l : List br) (b : Nat → Bool) : mW l b 4 = (if b 0 then fk l 0 else 0) + (if b 1 then fk l 1 else 0) + (if b 2 then fk l 2 else 0) + (if b 3 then fk l 3 else 0) := by
 rw [uo, uo, uo, uo]
 have : mW l b 0 = 0 := rfl
 rw [this]
 show 0 + (if b 0 then fk l 0 else 0) + _ + _ + _ = _
 rw [Int.zero_add]; rfl
def ab5 (l : List br) (b : Nat → Bool) : mW l b 4 ≤ pc l (fx b 4) := by
 rw [ab4]
 induction l with
 | nil => unfold fk pc; simp
 | cons x l ih =>
  have h1 := (Tp (x := x) b).1
  have e : ∀ t, fk (x :: l) t = gx t x + fk l t := fun t => by unfold fk; rw [List.map_cons, List.sum_cons]
  have e2 : pc (x :: l) (fx b 4) = jg (fx b 4) x + pc l (fx b 4) := by unfold pc; rw [List.map_cons, List.sum_cons]
  rw [e, e, e, e, e2]
  revert h1 ih
  split <;> split <;> split <;> split <;> omega
def ab6 (l : List br) : mX l 4 = oN l := by
 have e0 : mX l 4 = fk l 0 + fk l 1 + fk l 2 + fk l 3 := by
  rw [wT, wT, wT, wT]
  have : mX l 0 = 0 := rfl
  rw [this, Int.zero_add]; rfl
 rw [e0]
 clear e0
 induction l with
 | nil => unfold fk oN; simp
 | cons x l ih =>
  have h1 := (Tp (x := x) (fun _ => true)).2 (fun _ _ => rfl)
  have e : ∀ t, fk (x :: l) t = gx t x + fk l t := fun t => by unfold fk; rw [List.map_cons, List.sum_cons]
  have e2 : oN (x :: l) = jz x + oN l := by unfold oN; rw [List.map_cons, List.sum_cons]
  rw [e, e, e, e, e2]; omega
def wV (n : Int) : Int := if aK n 1 8 then 4 * (1 + n) else 0
def ab7 {x : br} (h : bZ x = true) : jz x ≤ wV (x.Ids.length : Int) := by
 obtain ⟨h1, h2, h3, h4⟩ := kh h
 have h5 := jy h1
 have := mO (f := pT x) (m := 4) (n := x.Ids.length) (fun i hi => h4 i hi) x.Rows.length (by omega)
 unfold jz wV aK
 rw [if_pos h, if_pos (by simp; omega)]
 omega
section
def kw (q : aeA) (l : List Row) : List Row := l.filter (dN q)
def ab8 {q : aeA} {l : List Row} {k : Nat} (hk : k < l.length) (h : dN q l[k] = true) : kw q (l.take (k + 1)) = kw q (l.take k) ++ [l[k]] := by
 unfold kw; rw [cC hk, dV]; simp [h]
def ab9 {q : aeA} {l : List Row} {k : Nat} (hk : k < l.length) (h : dN q l[k] = false) : kw q (l.take (k + 1)) = kw q (l.take k) := by
 unfold kw; rw [cC hk, dV]; simp [h]
def aca {q : aeA} {l : List Row} {k : Nat} : (kw q (l.take k)).length ≤ k := by
 have h1 := gP (dN q) (l.take k)
 rw [bv] at h1
 unfold kw; omega
def Tq (q : aeA) : ∀ l : List Row, dj (kw q l) ≤ dj l
 | [] => Nat.le_refl _
 | r :: l => by
  have ih := Tq q l
  unfold kw at ih ⊢
  rw [List.filter_cons]
  unfold dj at ih ⊢
  split <;> simp only [List.length_cons, List.map_cons, List.sum_cons] <;> omega
def Tr : ∀ a b : List Int, eM a b = 0 → a = b
 | [], [], _ => rfl
 | [], _ :: _, h => by unfold eM at h; omega
 | _ :: _, [], h => by unfold eM at h; omega
 | x :: a, y :: b, h => by
  unfold eM fw at h
  split at h
  ·omega
  ·split at h
   ·omega
   ·rw [Tr a b h, show x = y by omega]
def acb {x y : Row} (h : dg (x, y) = 0) : x = y := by
 unfold dg fw at h
 dsimp only at h
 split at h
 ·omega
 ·split at h
  ·omega
  ·cases x; cases y; simp only [Row.mk.injEq]; exact ⟨by simp_all; omega, Tr _ _ h⟩
def iH (l : List Row) : List Row := dO (dH dg) l
def Ts {l m : List Row} (h : l.Perm m) : iH l = iH m := by
 unfold iH
 refine List.Perm.eq_of_pairwise (le := fun x y => dH dg y x = false) (fun x y _ _ h1 h2 => ?_) (Gy qd.ord qd.irr l) (Gy qd.ord qd.irr m) (((AO l).trans h).trans (AO m).symm)
 have h1 : ¬ dg (y, x) < 0 := of_decide_eq_false h1
 have h2 : ¬ dg (x, y) < 0 := of_decide_eq_false h2
 have := qd.anti x y
 exact acb (by omega)
def qf (s : Store) (t : Int) : List Row := if bQ s then iH (bV (bg s) t) else []
def up (q : aeA) (s : Store) : List Row := iH (kw q (qf s s.Now))
def ip (ids : List Int) (id : Int) : Nat → Int
 | 0 => -1
 | k + 1 => if ids.getD k 0 = id then (k : Int) else ip ids id k
def kX (ids : List Int) (id : Int) : Int := ip ids id ids.length
def AP (ids : List Int) (id : Int) : ∀ k : Nat, -1 ≤ ip ids id k ∧ ip ids id k < k
 | 0 => by unfold ip; omega
 | k + 1 => by have := AP ids id k; unfold ip; split <;> omega
def Tt {ids l : List Int} {id : Int} : ∀ k : Nat, k ≤ ids.length → ip (ids ++ l) id k = ip ids id k
 | 0, _ => rfl
 | k + 1, h => by
  unfold ip
  rw [Tt k (by omega), List.getD_eq_getElem?_getD, List.getElem?_append_left (by omega), ← List.getD_eq_getElem?_getD]
def Tu {ids : List Int} {x id : Int} : kX (ids ++ [x]) id = if x = id then (ids.length : Int) else kX ids id := by
 unfold kX
 rw [aM]
 show (if (ids ++ [x]).getD ids.length 0 = id then (ids.length : Int) else ip (ids ++ [x]) id ids.length) = _
 rw [Tt ids.length (Nat.le_refl _), List.getD_eq_getElem?_getD, List.getElem?_append_right (Nat.le_refl _), Nat.sub_self]
 rfl
def gQ (ids : List Int) (want : List (List Row)) (id : Int) (l : List Row) : Prop := 0 ≤ kX ids id ∧ want.getD (kX ids id).toNat [] = iH l
def gQ.snoc {ids : List Int} {want : List (List Row)} {id x : Int} {l w : List Row} (h : gQ ids want id l) (hl : ids.length = want.length) (hx : x ≠ id) : gQ (ids ++ [x]) (want ++ [w]) id l := by
 have h1 := AP ids id ids.length
 have h2 : kX ids id < ids.length := h1.2
 unfold gQ
 rw [Tu, if_neg hx]
 refine ⟨h.1, ?_⟩
 have h3 := h.1
 rw [List.getD_eq_getElem?_getD, List.getElem?_append_left (by omega), ← List.getD_eq_getElem?_getD]
 exact h.2
def gQ.new {ids : List Int} {want : List (List Row)} {id : Int} {l : List Row} (hl : ids.length = want.length) : gQ (ids ++ [id]) (want ++ [iH l]) id l := by
 unfold gQ
 rw [Tu, if_pos rfl]
 refine ⟨by omega, ?_⟩
 rw [show ((ids.length : Nat) : Int).toNat = ids.length from rfl, List.getD_eq_getElem?_getD, List.getElem?_append_right (by omega), hl, Nat.sub_self]; rfl
def rT (s : Store) (a : aez) (i : Int) : List Row := (bV (fv s i.toNat) a.Time).filter (dN a.aeA)
def kY (s : Store) (a : aez) : List Row := (a.aeI.map (rT s a)).flatten
def Tv {s s2 : Store} {a : aez} (h : ∀ i, bV (fv s2 i) a.Time = bV (fv s i) a.Time) : kY s2 a = kY s a := by
 unfold kY
 congr 1
 refine List.map_congr_left fun i _ => ?_
 unfold rT; rw [h]
def acd : ∀ {l : List Int} {x : Int}, x ∉ l → fM l x = l := fun {l x} h => by
 unfold fM
 refine List.filter_eq_self.2 fun y hy => ?_
 have : y ≠ x := fun e => h (e ▸ hy)
 simp [this]
def GC {x : Int} : ∀ {l : List Int}, (l.Pairwise fun a b => a < b) → x ∈ l → l.Perm (x :: fM l x)
 | y :: l, hp, hx => by
  rw [List.pairwise_cons] at hp
  by_cases h : y = x
  ·subst h
   have hn : y ∉ l := fun hy => by have := hp.1 y hy; omega
   have e : fM (y :: l) y = l := by
    have := acd hn
    unfold fM at this ⊢
    rw [List.filter_cons]; simp; simpa using this
   rw [e]
  ·have hx2 : x ∈ l := (List.mem_cons.1 hx).resolve_left (fun e => h e.symm)
   have ih := GC hp.2 hx2
   have e : fM (y :: l) x = y :: fM l x := by unfold fM; rw [List.filter_cons, if_pos (by simp [h])]
   rw [e]
   exact (ih.cons y).trans (List.Perm.swap x y _)
def Tw {x : Int} {l : List Int} (hp : l.Pairwise fun a b => a < b) (hx : x ∈ l) : (fM l x).length + 1 = l.length := by
 have := (GC hp hx).length_eq
 rw [List.length_cons] at this; omega
def Tx {e : aA} (h : aX e = true) {a : aez} (ha : a ∈ e.aez) : iH ((cY e a).Rows ++ kY e.Store (cY e a)) = iH (a.Rows ++ kY e.Store a) := by
 have hk := fO.1 h
 have hA := je.1 (hk.aa a ha)
 obtain ⟨hq, ht, _, _⟩ := oZ (e := e) (a := a)
 have hr : kY e.Store (cY e a) = ((cY e a).aeI.map (rT e.Store a)).flatten := by
  unfold kY
  congr 1
  refine List.map_congr_left fun i _ => ?_
  unfold rT; rw [hq, ht]
 rw [hr, SJ, rO]
 cases hp : ew e a with
 | false => rfl
 | true =>
  rw [if_pos rfl, if_pos rfl]
  have hc : e.aeD ∈ a.aeI := by
   unfold ew at hp
   rw [aS] at hp
   exact um.1 hp.2
  have e1 : iC e a = rT e.Store a e.aeD := rfl
  rw [e1]
  refine Ts ?_
  rw [bu]
  refine fP _ ?_
  have := ((GC hA.tp hc).map (rT e.Store a)).flatten
  rw [List.map_cons, List.flatten_cons] at this
  exact this.symm
structure uq (n : Nat) (cur : Int) (a : aez) : Prop where
 pr : ∃ c0 A : Nat, c0 < n ∧ a.Age = A ∧ cur = ((c0 + A) % n : Nat) ∧
  (a.Cap = 0 → ∀ j < A, (((c0 + j) % n : Nat) : Int) ∉ a.aeI) ∧
  (a.Cap ≠ 0 → a.aeI.length + A / n + 1 ≤ n ∨ (a.Sent = 0 ∧ a.aeI.length + A / n ≤ n ∧ ∀ j < A % n, (((c0 + j) % n : Nat) : Int) ∉ a.aeI))
def Ty {n c0 : Nat} {l : List Int} (hc : c0 < n) (hr : ∀ x ∈ l, 0 ≤ x ∧ x < n) (h : ∀ j < n, (((c0 + j) % n : Nat) : Int) ∉ l) : l = [] := by
 refine List.eq_nil_iff_forall_not_mem.2 fun x hx => ?_
 have h1 := hr x hx
 obtain ⟨j, hj, e⟩ : ∃ j < n, x.toNat = (c0 + j) % n := by
  by_cases hcx : c0 ≤ x.toNat
  ·exact ⟨x.toNat - c0, by omega, by rw [show c0 + (x.toNat - c0) = x.toNat by omega, Nat.mod_eq_of_lt (by omega)]⟩
  ·exact ⟨x.toNat + n - c0, by omega, by rw [show c0 + (x.toNat + n - c0) = x.toNat + n by omega, Nat.add_mod_right, Nat.mod_eq_of_lt (by omega)]⟩
 refine h j hj ?_
 rw [← e, Int.toNat_of_nonneg h1.1]; exact hx
def uq.age {n : Nat} {cur : Int} {a : aez} (h : uq n cur a) (h0 : 0 < a.aeI.length) (hr : ∀ x ∈ a.aeI, 0 ≤ x ∧ x < n) : a.Age < if a.Cap = 0 then (n : Int) else (n : Int) * n := by
 obtain ⟨c0, A, hc, hA, _, h1, h2⟩ := h.pr
 split
 ·rename_i hz
  rw [hA]
  refine Int.ofNat_lt.2 (Nat.lt_of_not_le fun hle => ?_)
  have := Ty hc hr fun j hj => h1 hz j (by omega)
  rw [this] at h0; simp at h0
 ·rename_i hz
  rw [hA, ← Int.natCast_mul]
  refine Int.ofNat_lt.2 ((Nat.div_lt_iff_lt_mul (by omega)).1 ?_)
  rcases h2 hz with h3 | ⟨_, h3, _⟩ <;> omega
def ace {n A : Nat} (hn : 0 < n) : (A % n + 1 < n ∧ (A + 1) / n = A / n ∧ (A + 1) % n = A % n + 1) ∨ (A % n + 1 = n ∧ (A + 1) / n = A / n + 1 ∧ (A + 1) % n = 0) := by
 have h1 := Nat.div_add_mod A n
 have h2 := Nat.mod_lt A hn
 by_cases h : A % n + 1 < n
 ·left
  have e : A + 1 = n * (A / n) + (A % n + 1) := by omega
  refine ⟨h, ?_, ?_⟩
  ·rw [e, Nat.mul_add_div hn, Nat.div_eq_of_lt h]; rfl
  ·conv => lhs; rw [e]
   rw [Nat.mul_add_mod, Nat.mod_eq_of_lt h]
 ·right
  have h3 : A % n + 1 = n := by omega
  have e : A + 1 = n * (A / n + 1) := by rw [Nat.mul_add, Nat.mul_one]; omega
  refine ⟨h3, ?_, ?_⟩
  ·rw [e, Nat.mul_div_cancel_left _ hn]
  ·conv => lhs; rw [e]
   exact Nat.mul_mod_right _ _
def acf {e : aA} (h : aX e = true) {a : aez} (ha : a ∈ e.aez) (hp : uq e.Store.aey.length e.aeD a) : uq e.Store.aey.length ((e.aeD + 1).tmod (e.Store.aey.length : Int)) (cY e a) := by
 have hk := fO.1 h
 have hA := je.1 (hk.aa a ha)
 generalize hn : e.Store.aey.length = n at *
 obtain ⟨c0, A, hc, hage, hcur, h1, h2⟩ := hp.pr
 have hn0 : 0 < n := by omega
 obtain ⟨hq, ht, hcap, hag⟩ := oZ (e := e) (a := a)
 have hcur2 : (e.aeD + 1).tmod (n : Int) = ((c0 + (A + 1)) % n : Nat) := by
  rw [hcur]
  have e1 : ((((c0 + A) % n : Nat) : Int) + 1) = (((c0 + A) % n + 1 : Nat) : Int) := by omega
  rw [e1, ← Int.ofNat_tmod]
  congr 1
  rw [show c0 + (A + 1) = (c0 + A) + 1 by omega, Nat.mod_add_mod]
 have hcr : (c0 + A) % n = (c0 + A % n) % n := by rw [Nat.add_mod_mod]
 have hsub : ∀ x, x ∈ (cY e a).aeI → x ∈ a.aeI := fun x hx => by
  rw [rO] at hx; split at hx
  ·exact (SM.1 hx).1
  ·exact hx
 have hlen : (cY e a).aeI.length ≤ a.aeI.length := by
  rw [rO]; split
  ·exact gP _ _
  ·exact Nat.le_refl _
 have hsent : (A + 1) % n = 0 → (cY e a).Sent = 0 := fun hz => by
  rw [Gu, hage, hn, if_pos]
  have e1 : ((A : Int) + 1) = ((A + 1 : Nat) : Int) := by omega
  rw [e1, ← Int.ofNat_tmod, hz]; rfl
 refine ⟨c0, A + 1, hc, by rw [hag, hage]; omega, hcur2, fun hz j hj => ?_, fun hz => ?_⟩
 ·rw [hcap] at hz
  by_cases hjA : j = A
  ·subst hjA
   rw [rO]
   have hpp : ew e a = bB a.aeI e.aeD := by unfold ew lz; rw [hz]; rfl
   rw [hpp]
   split
   ·intro hx; exact (SM.1 hx).2 hcur.symm
   ·rename_i hno
    intro hx; rw [← hcur] at hx; exact hno (um.2 hx)
  ·exact fun hx => h1 hz j (by omega) (hsub _ hx)
 ·rw [hcap] at hz
  rcases ace (A := A) hn0 with ⟨hr, hd, hm⟩ | ⟨hr, hd, hm⟩
  ·rcases h2 hz with h3 | ⟨h3, h4, h5⟩
   ·left; omega
   ·by_cases hin : e.aeD ∈ a.aeI
    ·left
     have hpp : ew e a = true := by
      unfold ew lz
      rw [um.2 hin, h3, Bool.and_true, Bool.or_eq_true]
      exact .inr (decide_eq_true (by have := hA.cp0; omega))
     have := Tw hA.tp hin
     rw [rO, if_pos hpp]; omega
    ·right
     have hpp : ew e a = false := by
      unfold ew
      rw [show bB a.aeI e.aeD = false from by rw [← Bool.not_eq_true]; exact fun h => hin (um.1 h), Bool.and_false]
     refine ⟨?_, by omega, fun j hj hx => ?_⟩
     ·rw [Gu, if_neg (c := ew e a = true) (by rw [hpp]; simp), h3]; split <;> rfl
     ·have hx := hsub _ hx
      rw [hm] at hj
      by_cases hjr : j = A % n
      ·subst hjr; rw [← hcr, ← hcur] at hx; exact hin hx
      ·exact h5 j (by omega) hx
  ·right
   refine ⟨hsent hm, ?_, fun j hj => by omega⟩
   rcases h2 hz with h3 | ⟨h3, h4, h5⟩
   ·omega
   ·by_cases hin : e.aeD ∈ a.aeI
    ·have hpp : ew e a = true := by
      unfold ew lz
      rw [um.2 hin, h3, Bool.and_true, Bool.or_eq_true]
      exact .inr (decide_eq_true (by have := hA.cp0; omega))
     have := Tw hA.tp hin
     rw [rO, if_pos hpp]; omega
    ·exfalso
     have := Ty hc hA.tr fun j hj hx => by
      by_cases hjr : j = A % n
      ·subst hjr; rw [← hcr, ← hcur] at hx; exact hin hx
      ·exact h5 j (by omega) hx
     have h0 := hA.t0
     rw [this] at h0; simp at h0
structure eS (N : Nat) (e : aA) (ids : List Int) (want : List (List Row)) : Prop where
 b : gn N e
 hl : ids.length = want.length
 an : ∀ a ∈ e.aez, gQ ids want a.aeA.Id (a.Rows ++ kY e.Store a)
 pm : ∀ a ∈ e.aez, uq e.Store.aey.length e.aeD a
 dn : ∀ f ∈ e.Done, f.Steps ≤ (e.Store.aey.length : Int) * e.Store.aey.length
def gC (e x : aA) (ids : List Int) (want : List (List Row)) : Prop := ∃ l, x.Done = e.Done ++ l ∧ ∀ f ∈ l, gQ ids want f.aeA.Id f.Rows
section
variable {N : Nat} {e : aA} {ids : List Int} {want : List (List Row)}
def eS.step (h : eS N e ids want) (hN : N ≤ 249) : eS (N + 1) (cz e) ids want ∧ gC e (cz e) ids want := by
 have hb := aby h.b hN
 have hok := h.b.ok
 have hk := fO.1 hok
 have hys := Am (SK h.b (by omega))
 obtain ⟨ea0, ed0⟩ := SI hok
 have ea : (cz e).aez = (e.aez.map (cY e)).filter (fun a => !dz a) := by rw [hys]; exact ea0
 have ed : (cz e).Done = e.Done ++ ((e.aez.map (cY e)).filter dz).map nC := by rw [hys]; exact ed0
 have es : (cz e).Store = eJ e.Store (eK (cz e).aez) := by rw [hys]; rfl
 have ec : (cz e).aeD = (e.aeD + 1).tmod (e.Store.aey.length : Int) := by rw [hys]; rfl
 have hrl := Ax (s := e.Store) (eK (cz e).aez)
 have hseg : (cz e).Store.aey.length = e.Store.aey.length := by rw [es]; exact hrl.1
 have hdone : ∀ f ∈ ((e.aez.map (cY e)).filter dz).map nC, gQ ids want f.aeA.Id f.Rows ∧ f.Steps ≤ (e.Store.aey.length : Int) * e.Store.aey.length := by
  intro f hf
  obtain ⟨b, hb2, rfl⟩ := List.mem_map.1 hf
  obtain ⟨hb2, he⟩ := List.mem_filter.1 hb2
  obtain ⟨a, ha, rfl⟩ := List.mem_map.1 hb2
  have hA := je.1 (hk.aa a ha)
  have hq := oZ (e := e) (a := a)
  have hg := h.an a ha
  have hs := Tx hok ha
  have hz : (cY e a).aeI = [] := List.length_eq_zero_iff.1 (by unfold dz at he; simpa using he)
  have hrz : kY e.Store (cY e a) = [] := by unfold kY; rw [hz]; rfl
  rw [hrz, dP] at hs
  refine ⟨⟨?_, ?_⟩, ?_⟩
  ·show 0 ≤ kX ids (cY e a).aeA.Id; rw [hq.1]; exact hg.1
  ·show want.getD (kX ids (cY e a).aeA.Id).toNat [] = iH (cY e a).Rows; rw [hq.1, hs]; exact hg.2
  ·show (cY e a).Age ≤ _
   have := (h.pm a ha).age hA.t0 hA.tr
   rw [hq.2.2.2]
   have hle : (e.Store.aey.length : Int) ≤ (e.Store.aey.length : Int) * e.Store.aey.length := by
    rw [← Int.natCast_mul]; exact Int.ofNat_le.2 (Nat.le_mul_self _)
   split at this <;> omega
 refine ⟨⟨hb, h.hl, fun b hb2 => ?_, fun b hb2 => ?_, fun f hf => ?_⟩, _, ed, fun f hf => (hdone f hf).1⟩
 ·have hb3 := hb2
  rw [ea] at hb2
  obtain ⟨hb2, he⟩ := List.mem_filter.1 hb2
  obtain ⟨a, ha, rfl⟩ := List.mem_map.1 hb2
  have hg := h.an a ha
  rw [Tv (s := e.Store) (fun i => by rw [es]; exact FN hk.so (by unfold eK; exact List.mem_map.2 ⟨_, hb3, rfl⟩) i)]
  unfold gQ
  rw [Tx hok ha, oZ.1]
  exact hg
 ·rw [ea] at hb2
  obtain ⟨a, ha, rfl⟩ := List.mem_map.1 (List.mem_filter.1 hb2).1
  rw [hseg, ec]
  exact acf hok ha (h.pm a ha)
 ·rw [hseg]
  rw [ed] at hf
  rcases List.mem_append.1 hf with hf | hf
  ·exact h.dn f hf
  ·exact (hdone f hf).2
def gC.refl : gC e e ids want := ⟨[], (dP _).symm, fun f hf => nomatch hf⟩
def gC.trans {x y : aA} (h : gC e x ids want) (k : gC x y ids want) : gC e y ids want := by
 obtain ⟨l, h1, h2⟩ := h
 obtain ⟨m, k1, k2⟩ := k
 exact ⟨l ++ m, by rw [k1, h1, bu], fun f hf => (List.mem_append.1 hf).elim (h2 f) (k2 f)⟩
def eS.run (h : eS N e ids want) : ∀ k, N + k ≤ 250 → eS (N + k) (iG e k) ids want ∧ gC e (iG e k) ids want
 | 0, _ => ⟨h, gC.refl⟩
 | k + 1, hk => by
  have h1 := eS.run h k (by omega)
  have h2 := h1.1.step (by omega)
  exact ⟨h2.1, h1.2.trans h2.2⟩
def eS.le (h : eS N e ids want) {M : Nat} (hM : N ≤ M) : eS M e ids want := { h with b := h.b.le hM }
def eS.side {e2 : aA} (h : eS N e ids want) {M : Nat} (hb : gn M e2) (h1 : e2.Store.aey.length = e.Store.aey.length) (h2 : e2.aeD = e.aeD) (h4 : e2.Done = e.Done)
  (h5 : ∀ a ∈ e2.aez, a ∈ e.aez) (h6 : ∀ a ∈ e2.aez, ∀ i : Nat, bV (fv e2.Store i) a.Time = bV (fv e.Store i) a.Time) : eS M e2 ids want ∧ gC e e2 ids want := by
 refine ⟨⟨hb, h.hl, fun a ha => ?_, fun a ha => ?_, fun f hf => ?_⟩, [], by rw [h4, dP], fun f hf => nomatch hf⟩
 ·rw [Tv (h6 a ha)]; exact h.an a (h5 a ha)
 ·rw [h1, h2]; exact h.pm a (h5 a ha)
 ·rw [h1]; rw [h4] at hf; exact h.dn f hf
def eS.cancel (h : eS N e ids want) (id : Int) : eS N (cK e id).1 ids want ∧ gC e (cK e id).1 ids want := by
 have hb := abz h.b id
 cases hc : jG e id with
 | false => rw [wP hc]; exact ⟨h, gC.refl⟩
 | true =>
  rw [Gj hc] at hb ⊢
  have hk := fO.1 h.b.ok
  refine h.side hb (Ax (s := e.Store) _).1 rfl rfl (fun a ha => ?_) fun a ha i => FN hk.so (by unfold eK; exact List.mem_map.2 ⟨a, ha, rfl⟩) i
  have ha : a ∈ eE e.aez (dy e.aez id).toNat := ha
  unfold eE at ha
  rcases List.mem_append.1 ha with ha | ha
  ·exact List.mem_of_mem_take ha
  ·exact List.mem_of_mem_drop ha
def eS.upd (h : eS N e ids want) (u : aeC) : eS N (cD e u).1 ids want ∧ gC e (cD e u).1 ids want := by
 have hb := abA h.b u
 cases hu : aX e && (cQ e.Store u).2 with
 | false => rw [AG hu]; exact ⟨h, gC.refl⟩
 | true =>
  rw [AH hu] at hb ⊢
  have hk := fO.1 h.b.ok
  have hs := FU e.Store u hk.so
  have hlen : (cQ e.Store u).1.aey.length = e.Store.aey.length := by
   cases ha : gZ e.Store u with
   | false => rw [rE ha]
   | true =>
    by_cases hk2 : u.Kind = 2
    ·rw [oS ha hk2]; exact oT _ _
    ·rw [zW ha]; unfold tY; rw [if_neg hk2]; unfold rD; dsimp only; rw [List.length_set, oT]
  refine h.side hb ((Ax (s := (cQ e.Store u).1) _).1.trans hlen) rfl rfl (fun a ha => ha) fun a ha i => ?_
  have ha2 : a ∈ e.aez := ha
  have hA := je.1 (hk.aa a ha2)
  refine (FN (s := (cQ e.Store u).1) hs (by unfold eK; exact List.mem_map.2 ⟨a, ha, rfl⟩) i).trans ?_
  exact aaH hk.so hA.tm1 i
def Tz (t : Int) : ∀ L : List (List aR), bV L.flatten t = (L.map fun l => bV l t).flatten
 | [] => rfl
 | x :: L => by
  rw [List.flatten_cons, List.map_cons, List.flatten_cons, ← Tz t L]
  unfold bV; rw [dV, bj]
def TA {α : Type} (p : α → Bool) : ∀ L : List (List α), L.flatten.filter p = (L.map fun l => l.filter p).flatten
 | [] => rfl
 | x :: L => by rw [List.flatten_cons, List.map_cons, List.flatten_cons, ← TA p L, dV]
def acg {e : aA} (h : aX e = true) (q : aeA) (l : Int) : up q e.Store = iH ((cJ e q l).Rows ++ kY e.Store (cJ e q l)) := by
 have hk := fO.1 h
 unfold up qf
 rw [if_pos hk.so]
 have e1 : (cJ e q l).Rows ++ kY e.Store (cJ e q l) = (bV (bg e.Store) e.Store.Now).filter (dN q) := by
  show [] ++ kY e.Store (cJ e q l) = _
  rw [List.nil_append]
  unfold kY cJ lC bg rT
  dsimp only
  rw [Tz, TA, List.map_map, List.map_map]
  congr 1
  refine List.ext_getElem (by simp) fun i h1 h2 => ?_
  simp only [aw, List.length_range] at h1
  simp only [List.getElem_map, List.getElem_range, Function.comp_apply]
  rw [show ((i : Nat) : Int).toNat = i from rfl, FL h1]
 rw [e1]
 refine Ts ?_
 unfold kw
 exact (AO _).filter _
def ach {e : aA} (h : aX e = true) (q : aeA) (l : Int) : uq e.Store.aey.length e.aeD (cJ e q l) := by
 have hk := fO.1 h
 have c0 := hk.c0; have c1 := hk.c1
 refine ⟨e.aeD.toNat, 0, by omega, rfl, ?_, fun _ j hj => by omega, fun _ => .inr ⟨rfl, ?_, fun j hj => by simp at hj⟩⟩
 ·rw [Nat.add_zero, Nat.mod_eq_of_lt (by omega)]; omega
 ·show (lC e.Store.aey.length).length + _ ≤ _
  rw [wM, Nat.zero_div]; omega
def eS.admit (h : eS N e ids want) (hN : N ≤ 900) (q : aeA) (l : Int) (hy : (eR e q l).2 = true) : eS (N + 1) (eR e q l).1 (ids ++ [q.Id]) (want ++ [up q e.Store]) ∧ gC e (eR e q l).1 (ids ++ [q.Id]) (want ++ [up q e.Store]) := by
 have hb := abE h.b hN q l
 cases ha : jE e q l with
 | false => rw [uk ha] at hy; cases hy
 | true =>
  rw [wN ha] at hb ⊢
  obtain ⟨h1, h2, h3, h4, h5⟩ := rN ha
  have hp := SN (q := q) (l := l) h1
  have mem : ∀ a ∈ jD e q l, a = cJ e q l ∨ a ∈ e.aez := fun a ha => List.mem_cons.1 (hp.mem_iff.1 ha)
  refine ⟨⟨hb, by rw [aM, aM, h.hl]; rfl, fun a ha => ?_, fun a ha => ?_, h.dn⟩, [], (dP _).symm, fun f hf => nomatch hf⟩
  ·rcases mem a ha with rfl | ha
   ·rw [acg h1 q l]
    exact gQ.new (id := q.Id) h.hl
   ·refine (h.an a ha).snoc h.hl fun he => ?_
    obtain ⟨i, hi, rfl⟩ := List.mem_iff_getElem.1 ha
    exact Gi h4 hi he.symm
  ·rcases mem a ha with rfl | ha
   ·exact ach h1 q l
   ·exact h.pm a ha
end
structure wW where
 e : aA
 ids : List Int
 want : List (List Row)
def jh (e : aA) (x : et) : Bool := (dl e x).2 && decide (x.Kind = 1)
def hE (s : wW) (x : et) : wW := if jh s.e x then ⟨(dl s.e x).1, s.ids ++ [x.aeA.Id], s.want ++ [up x.aeA s.e.Store]⟩ else ⟨(dl s.e x).1, s.ids, s.want⟩
def aY (e : aA) (l : List et) (k : Nat) : wW := (l.take k).foldl hE ⟨e, [], []⟩
def aci {s : wW} {x : et} : (hE s x).e = (dl s.e x).1 := by unfold hE; split <;> rfl
def wX {e : aA} {l : List et} {k : Nat} (hk : k < l.length) : aY e l (k + 1) = hE (aY e l k) l[k] := by
 unfold aY; rw [cC hk, List.foldl_append]; rfl
def TB {N : Nat} {s : wW} {t : Store} {x : et} (h : eS N s.e s.ids s.want) (hN : N ≤ 240) (hx : kV t x) : eS (N + 3) (hE s x).e (hE s x).ids (hE s x).want ∧ gC s.e (hE s x).e (hE s x).ids (hE s x).want := by
 have hno : jh s.e x = false → (eS (N + 3) (dl s.e x).1 s.ids s.want ∧ gC s.e (dl s.e x).1 s.ids s.want) → eS (N + 3) (hE s x).e (hE s x).ids (hE s x).want ∧ gC s.e (hE s x).e (hE s x).ids (hE s x).want := by
  intro h1 h2
  unfold hE
  rw [if_neg (by rw [h1]; simp)]
  exact h2
 cases hok : aX s.e && fp x with
 | false =>
  refine hno (by unfold jh; rw [wQ hok]; rfl) ?_
  rw [wQ hok]; exact ⟨h.le (by omega), gC.refl⟩
 | true =>
  cases hx with
  | adm q l h1 h2 h3 =>
   have e1 := AJ hok rfl
   cases hy : (eR s.e q l).2 with
   | true =>
    have := h.admit (by omega) q l hy
    unfold hE
    rw [if_pos (by unfold jh; rw [e1]; simp; exact hy)]
    dsimp only
    rw [e1]
    exact ⟨this.1.le (by omega), this.2⟩
   | false =>
    refine hno (by unfold jh; rw [e1]; simp; exact hy) ?_
    rw [e1]
    dsimp only
    cases ha : jE s.e q l with
    | true => rw [wN ha] at hy; cases hy
    | false => rw [uk ha]; exact ⟨h.le (by omega), gC.refl⟩
  | can i hi =>
   refine hno (by unfold jh; simp) ?_
   rw [AK hok rfl]
   have := h.cancel i
   exact ⟨this.1.le (by omega), this.2⟩
  | stp n hn =>
   refine hno (by unfold jh; simp) ?_
   rw [show dl s.e ⟨4, ml, 0, 0, mU, n⟩ = (gB s.e n, true) by unfold dl; rw [if_pos hok, if_neg (by dsimp only; omega), if_neg (by dsimp only; omega), if_neg (by dsimp only; omega)]]
   have hr : kt n ≤ 3 := by unfold kt; omega
   have := h.run (kt n) (by omega)
   exact ⟨this.1.le (by omega), this.2⟩
  | upd u =>
   refine hno (by unfold jh; simp) ?_
   rw [show dl s.e ⟨3, ml, 0, 0, u, 0⟩ = cD s.e u by unfold dl; rw [if_pos hok, if_neg (by dsimp only; omega), if_neg (by dsimp only; omega), if_pos rfl]]
   have := h.upd u
   exact ⟨this.1.le (by omega), this.2⟩
def wY {c : ba} : ∀ k, k ≤ (aQ c).length → eS (3 * k) (aY (aZ c) (aQ c) k).e (aY (aZ c) (aQ c) k).ids (aY (aZ c) (aQ c) k).want
 | 0, _ => by
  show eS 0 (aZ c) [] []
  exact ⟨abJ c, rfl, (fun a ha => absurd ha (List.not_mem_nil)), (fun a ha => absurd ha (List.not_mem_nil)), (fun f hf => absurd hf (List.not_mem_nil))⟩
 | k + 1, hk => by
  have ih := wY (c := c) k (by omega)
  have hl := Gv c
  rw [wX (by omega)]
  exact (TB ih (by omega) (Gw c _ (List.getElem_mem (by omega)))).1.le (by omega)
def acj {c : ba} {k : Nat} (hk : k < (aQ c).length) : gC (aY (aZ c) (aQ c) k).e (aY (aZ c) (aQ c) (k + 1)).e (aY (aZ c) (aQ c) (k + 1)).ids (aY (aZ c) (aQ c) (k + 1)).want := by
 have ih := wY (c := c) k (by omega)
 have hl := Gv c
 rw [wX hk]
 exact (TB ih (by omega) (Gw c _ (List.getElem_mem (by omega)))).2
def wZ (e : aA) (limit : Int) : Int := if aX e && aK limit 0 32 then (if limit = 0 then (e.Store.aey.length : Int) else (e.Store.aey.length : Int) * e.Store.aey.length) else 0
def qg (n : Int) (f : fi) : Bool := decide (f.Steps ≤ n * n)
def qh (e : aA) (a : aez) : Bool := decide (a.Age < wZ e a.Cap)
def rU (e : aA) : Bool := aX e && (e.Done.all (qg (e.Store.aey.length : Int)) && e.aez.all (qh e))
def ack {N : Nat} {e : aA} {ids : List Int} {want : List (List Row)} (h : eS N e ids want) : rU e = true := by
 have hk := fO.1 h.b.ok
 unfold rU
 rw [h.b.ok, Bool.true_and, aS, iI, iI]
 refine ⟨fun f hf => ?_, fun a ha => ?_⟩
 ·unfold qg; exact decide_eq_true (h.dn f hf)
 ·have hA := je.1 (hk.aa a ha)
  have := (h.pm a ha).age hA.t0 hA.tr
  unfold qh wZ
  rw [h.b.ok, show aK a.Cap 0 32 = true from by unfold aK; have := hA.cp0; have := hA.cp1; simp; omega]
  exact decide_eq_true this
def TC {e x : aA} {ids : List Int} {want : List (List Row)} (h : gC e x ids want) {k : Nat} (h1 : e.Done.length ≤ k) (h2 : k < x.Done.length) : gQ ids want x.Done[k].aeA.Id x.Done[k].Rows := by
 obtain ⟨l, e1, h3⟩ := h
 refine h3 _ ?_
 have e2 : x.Done[k] = (e.Done ++ l)[k]'(by rw [← e1]; exact h2) := by simp only [e1]
 rw [e2, List.getElem_append_right h1]
 exact List.getElem_mem _
def TD : ∀ L : List (List aR), co L.flatten ≤ (L.map co).sum
 | [] => Nat.le_refl _
 | x :: L => by
  have ih := TD L
  rw [List.flatten_cons, List.map_cons, List.sum_cons]
  unfold co at ih ⊢
  rw [bj, List.sum_append, aM]
  omega
def TE (s : Store) : co (bg s) ≤ cB s := by
 have := TD s.aey
 unfold bg cB fW
 omega
def GD : ∀ (l : List aR) (t : Int), dj (bV l t) ≤ co l
 | [], t => Nat.le_refl _
 | v :: l, t => by
  have ih := GD l t
  unfold bV at ih ⊢
  rw [List.filter_cons]
  unfold dj co at ih ⊢
  have hv : fJ (fF v) ≤ cw v := by unfold fJ cw fF; dsimp only; omega
  split <;> simp only [List.length_cons, List.map_cons, List.sum_cons] <;> omega
def nO (m : Nat) (t : Nat) : Bool := decide (ni (((m : Nat) : Int).fdiv (2 ^ t)) 1 = 1)
def acl (l : List Row) : dj (iH l) = dj l := by
 have hp : (iH l).Perm l := AO l
 unfold dj
 rw [hp.length_eq, (hp.map fJ).sum_nat]
def acm (s : Store) (t : Int) : dj (qf s t) ≤ cB s := by
 unfold qf
 split
 ·rw [acl]
  have h1 := GD (bg s) t
  have h2 := TE s
  omega
 ·exact Nat.zero_le _
def TF {e : aA} {l : List et} {k : Nat} (hk : k < l.length) (h : jh (aY e l k).e l[k] = true) : (aY e l (k + 1)).ids = (aY e l k).ids ++ [l[k].aeA.Id] ∧ (aY e l (k + 1)).want = (aY e l k).want ++ [up l[k].aeA (aY e l k).e.Store] := by
 rw [wX hk]; unfold hE; rw [if_pos h]; exact ⟨rfl, rfl⟩
def GF {e : aA} {l : List et} {k : Nat} (hk : k < l.length) (h : jh (aY e l k).e l[k] = false) : (aY e l (k + 1)).ids = (aY e l k).ids ∧ (aY e l (k + 1)).want = (aY e l k).want := by
 rw [wX hk]; unfold hE; rw [if_neg (by rw [h]; simp)]; exact ⟨rfl, rfl⟩
def TG {e : aA} {l : List et} {k : Nat} (hk : k < l.length) : (aY e l (k + 1)).e = (dl (aY e l k).e l[k]).1 := by rw [wX hk, aci]
def acn {ids : List Int} {id : Int} {k : Nat} (hk : k < ids.length) (h : ids[k] = id) : ip ids id (k + 1) = (k : Int) := by
 unfold ip; rw [List.getD_eq_getElem?_getD, List.getElem?_eq_getElem hk]; exact if_pos h
def aco {ids : List Int} {id : Int} {k : Nat} (hk : k < ids.length) (h : ¬ ids[k] = id) : ip ids id (k + 1) = ip ids id k := by
 conv => lhs; unfold ip
 rw [List.getD_eq_getElem?_getD, List.getElem?_eq_getElem hk]; exact if_neg h
def GG {e : aA} {l : List et} : ∀ k, k ≤ l.length → bp (aY e l k).e ≤ bp e + 40000 * k
 | 0, _ => Nat.le_refl _
 | k + 1, h => by
  have h1 := GG (e := e) (l := l) k (by omega)
  have h2 := abn (aY e l k).e l[k]
  rw [TG (by omega), Nat.mul_succ, ← Nat.add_assoc]
  exact Nat.le_trans h2 (Nat.add_le_add_right h1 _)
def GH {e : aA} {l : List et} : ∀ k, k ≤ l.length → (aY e l k).ids.length ≤ k ∧ (aY e l k).want.length ≤ k
 | 0, _ => ⟨Nat.le_refl _, Nat.le_refl _⟩
 | k + 1, h => by
  have h1 := GH (e := e) (l := l) k (by omega)
  cases ha : jh (aY e l k).e l[k] with
  | true =>
   obtain ⟨h2, h3⟩ := TF (by omega) ha
   rw [h2, h3, aM, aM]
   exact ⟨Nat.add_le_add_right h1.1 1, Nat.add_le_add_right h1.2 1⟩
  | false =>
   obtain ⟨h2, h3⟩ := GF (by omega) ha
   rw [h2, h3]; omega
def acp (e : aA) : cB e.Store ≤ bp e := by unfold bp; omega
def TH {l : List br} {k : Nat} (hk : k ≤ 4) (hl : l.length ≤ 1000) : (k : Int) * (l.length * 72) ≤ 288000 := by
 have h := Nat.mul_le_mul hk (Nat.mul_le_mul_right 72 hl)
 have e : (k : Int) * (l.length * 72) = ((k * (l.length * 72) : Nat) : Int) := by rw [Int.natCast_mul, Int.natCast_mul]; rfl
 rw [e]; exact Int.ofNat_le.2 h
def acq {l : List br} {k : Nat} (hk : k ≤ 4) (hl : l.length ≤ 1000) : 0 ≤ mX l k ∧ mX l k ≤ 288000 := by
 have h1 := ab0 (l := l) k
 have h2 := TH (l := l) hk hl
 exact ⟨h1.1, Int.le_trans h1.2 h2⟩
def acr {l : List br} {b : Nat → Bool} {k : Nat} (hk : k ≤ 4) (hl : l.length ≤ 1000) : 0 ≤ mW l b k ∧ mW l b k ≤ 288000 := by
 have h1 := abZ (l := l) (b := b) k
 have h2 := TH (l := l) hk hl
 exact ⟨h1.1, Int.le_trans h1.2 h2⟩
end
end Go.Proofs.YtmekkgdboplbjaaGreat
