/- Definitions and their laws. No condition. -/
import Derived.Test.YtmekkgdboplbjaaGreatCT0
set_option linter.unusedVariables false
set_option linter.unusedSimpArgs false
namespace Go.Proofs.YtmekkgdboplbjaaGreat
open Go Go.RowKit M
set_option maxRecDepth 10000
structure Tl (e : am) : Prop where
 so : bA e.Store = true
 c0 : 0 ≤ e.Cursor
 c1 : e.Cursor < e.Store.Segments.length
 od : bK e.Order = true
 s0 : 0 ≤ e.Steps
 s1 : e.Steps ≤ 100000
 a8 : e.Active.length ≤ 8
 d1 : e.Done.length ≤ 1000
 l1 : e.Ledger.length ≤ 1000
 aa : ∀ a ∈ e.Active, dt e.Store a = true
 pw : e.Active.Pairwise fun a b => a.Query.Id < b.Query.Id
 fs : ∀ f ∈ e.Done, ez e.Store.Now f = true
 cs : ∀ c ∈ e.Ledger, dQ c = true
theorem fB {e : am} : aH e = true ↔ Tl e := by
 constructor
 ·intro h
  obtain ⟨h1, h2, h3, h4, h5, h6, h7, h8, h9, h10, h11, h12⟩ := fg h
  exact ⟨h1, h3, by omega, h2, h8, h9, h5, h6, h7, h10, lP h, h11, h12⟩
 ·intro h
  have c0 := h.c0; have c1 := h.c1; have s0 := h.s0; have s1 := h.s1; have a8 := h.a8; have d1 := h.d1; have l1 := h.l1
  refine Ja ?_ (rT h.aa (h.pw.imp fun {a b} k => by unfold iR; simpa using k)) (List.all_eq_true.2 h.fs) (List.all_eq_true.2 h.cs)
  unfold f8
  rw [h.so, h.od]
  simp only [aB, Bool.true_and, Bool.and_eq_true, decide_eq_true_eq]
  omega
structure Tm (n : Nat) (now : Int) (a : Active) : Prop where
 t0 : 0 < a.Todo.length
 tp : a.Todo.Pairwise fun x y => x < y
 tr : ∀ x ∈ a.Todo, 0 ≤ x ∧ x < n
 q : bI a.Query = true
 tm0 : 0 ≤ a.Time
 tm1 : a.Time ≤ now
 ag0 : 0 ≤ a.Age
 ag1 : a.Age ≤ 100000
 sn0 : 0 ≤ a.Sent
 sn1 : a.Sent ≤ 1000
 cp0 : 0 ≤ a.Cap
 cp1 : a.Cap ≤ 32
 rk : ∀ r ∈ a.Rows, bm r = true
 rl : a.Rows.length ≤ 1000
theorem Tn {l : List Int} {n : Int} (h : cw 0 (iw n) ix l = true) : l.Pairwise fun x y => x < y := by
 rw [List.pairwise_iff_getElem]
 have step : ∀ i (hi : i + 1 < l.length), l[i] < l[i + 1] := by
  intro i hi
  have := List.all_eq_true.1 h (i + 1) (List.mem_range.2 hi)
  rw [gr, show i + 1 - 1 = i from rfl, cY hi, cY (show i < l.length by omega)] at this
  rcases this.2 with h0 | h0
  ·omega
  ·unfold ix at h0; simpa using h0
 intro i j hi hj hij
 induction j with
 | zero => omega
 | succ j ih =>
  by_cases he : i = j
  ·subst he; exact step i hj
  ·have h1 := ih (by omega) (by omega)
   have h2 := step j hj
   omega
theorem ju {s : Store} {a : Active} : dt s a = true ↔ Tm s.Segments.length s.Now a := by
 constructor
 ·intro h
  unfold dt iy jL at h
  simp only [Bool.and_eq_true, aB, decide_eq_true_eq] at h
  obtain ⟨⟨h1, h2⟩, h3, h4, h5, h6, h7, h8, h9⟩ := h
  refine ⟨h2, Tn h1, fun x hx => ?_, h3, h4.1, h4.2, h5.1, h5.2, h6.1, h6.2, h7.1, h7.2, List.all_eq_true.1 h8, by omega⟩
  obtain ⟨k, hk, rfl⟩ := List.mem_iff_getElem.1 hx
  have := rz h1 hk
  unfold iw aB at this
  simp only [Bool.and_eq_true, decide_eq_true_eq] at this
  omega
 ·intro h
  have t0 := h.t0; have tm0 := h.tm0; have tm1 := h.tm1; have ag0 := h.ag0; have ag1 := h.ag1; have sn0 := h.sn0; have sn1 := h.sn1; have cp0 := h.cp0; have cp1 := h.cp1; have rl := h.rl
  unfold dt iy jL
  have e1 : cw 0 (iw s.Segments.length) ix a.Todo = true := rT (fun x hx => by have := h.tr x hx; unfold iw aB; simp only [Bool.and_eq_true, decide_eq_true_eq]; omega) (h.tp.imp fun {a b} k => by unfold ix; simpa using k)
  rw [e1, h.q, List.all_eq_true.2 h.rk]
  simp only [aB, Bool.true_and, Bool.and_eq_true, decide_eq_true_eq]
  omega
theorem As {now : Int} {f : dP} : ez now f = true ↔ bI f.Query = true ∧ (0 ≤ f.Time ∧ f.Time ≤ now) ∧ (0 ≤ f.Steps ∧ f.Steps ≤ 100000) ∧ (∀ r ∈ f.Rows, bm r = true) ∧ f.Rows.length ≤ 1000 := by
 unfold ez jL
 simp only [Bool.and_eq_true, aB, decide_eq_true_eq, List.all_eq_true]
 constructor
 ·rintro ⟨h1, h2, h3, h4, h5⟩; exact ⟨h1, h2, h3, h4, by omega⟩
 ·rintro ⟨h1, h2, h3, h4, h5⟩; exact ⟨h1, h2, h3, h4, by omega⟩
theorem LI {q : Query} (h : bI q = true) : (0 ≤ q.Id ∧ q.Id ≤ 23) ∧ 0 ≤ q.Tenant ∧ q.Tenant ≤ 3 := by
 unfold bI at h
 simp only [Bool.and_eq_true, aB, decide_eq_true_eq] at h
 omega
theorem Tp {e : am} (h : aH e = true) {a b : Active} (ha : a ∈ e.Active) (hb : b ∈ e.Active) (hid : a.Query.Id = b.Query.Id) : a = b := by
 obtain ⟨i, hi, rfl⟩ := List.mem_iff_getElem.1 ha
 obtain ⟨j, hj, rfl⟩ := List.mem_iff_getElem.1 hb
 have := rQ h hi hj hid
 subst this; rfl
theorem LJ {l : List Int} {x : Int} : bh l x = true ↔ x ∈ l := by unfold bh; simp
theorem Tq {e : am} (h : aH e = true) {a : Active} (ha : a ∈ e.Active) : bh (parts e) a.Query.Id = fh e a := by
 rw [Bool.eq_iff_iff, LJ, jp h]
 unfold eA
 rw [List.mem_map]
 constructor
 ·rintro ⟨b, hb, hid⟩
  obtain ⟨hb, hp⟩ := List.mem_filter.1 hb
  rw [← Tp h hb ha hid]; exact hp
 ·intro hp; exact ⟨a, List.mem_filter.2 ⟨ha, hp⟩, rfl⟩
def d8 (e : am) (a : Active) : Active := gX (e.Store.Segments.length : Int) (if fh e a then iW e a else a)
theorem Tr {e : am} (h : aH e = true) : (eN e).Active = (e.Active.map (d8 e)).filter (fun a => !cH a) ∧ (eN e).Done = e.Done ++ ((e.Active.map (d8 e)).filter cH).map mB := by
 have hl := pB (e := e) (k := (parts e).length)
 have ht : (bL e (parts e).length).take e.Active.length = bL e (parts e).length := List.take_of_length_le (by omega)
 have hs : bL e (parts e).length = e.Active.map (d8 e) := by
  unfold bL bj
  rw [List.map_map, List.take_length]
  refine List.map_congr_left fun a ha => ?_
  show gX _ (gW e (parts e) a) = d8 e a
  unfold gW d8
  rw [Tq h ha]
 unfold eN pA fK dS
 dsimp only
 rw [ht, hs]
 exact ⟨rfl, rfl⟩
theorem Ts {e : am} (h : aH e = true) (a : Active) : ∀ r ∈ gk e a, bm r = true := by
 intro r hr
 unfold gk at hr
 exact KK h a.Time r (List.mem_filter.1 hr).1
theorem sb {e : am} {a : Active} : (d8 e a).Query = a.Query ∧ (d8 e a).Time = a.Time ∧ (d8 e a).Cap = a.Cap ∧ (d8 e a).Age = a.Age + 1 := by
 unfold d8 gX iW
 split <;> exact ⟨rfl, rfl, rfl, rfl⟩
theorem Tt {e : am} {a : Active} : (d8 e a).Rows = if fh e a then a.Rows ++ gk e a else a.Rows := by
 unfold d8 gX iW
 split <;> rfl
theorem Tu {e : am} {a : Active} : (d8 e a).Todo = if fh e a then iV a.Todo e.Cursor else a.Todo := by
 unfold d8 gX iW
 split <;> rfl
theorem Tv {e : am} {a : Active} : (d8 e a).Sent = if (a.Age + 1).tmod (e.Store.Segments.length : Int) = 0 then 0 else if fh e a then a.Sent + ((gk e a).length : Int) else a.Sent := by
 unfold d8 gX iW
 split <;> rfl
structure iC (N : Nat) (e : am) : Prop where
 ok : aH e = true
 ld : e.Ledger.length ≤ N
 dn : e.Done.length + e.Active.length ≤ N
 ag : ∀ a ∈ e.Active, a.Age ≤ N ∧ a.Sent ≤ 4 * N ∧ a.Rows.length ≤ 4 * N
structure dV (N : Nat) (e : am) : Prop where
 ok : aH e = true
 st : e.Steps ≤ N
 ld : e.Ledger.length ≤ N
 dn : e.Done.length + e.Active.length ≤ N
 ag : ∀ a ∈ e.Active, a.Age ≤ N ∧ a.Sent ≤ 4 * N ∧ a.Rows.length ≤ 4 * N
theorem dV.w {N : Nat} {e : am} (h : dV N e) : iC N e := ⟨h.ok, h.ld, h.dn, h.ag⟩
theorem dV.le {N M : Nat} {e : am} (h : dV N e) (hM : N ≤ M) : dV M e :=
 ⟨h.ok, by have := h.st; omega, by have := h.ld; omega, by have := h.dn; omega, fun a ha => by have := h.ag a ha; omega⟩
theorem iC.le {N M : Nat} {e : am} (h : iC N e) (hM : N ≤ M) : iC M e :=
 ⟨h.ok, by have := h.ld; omega, by have := h.dn; omega, fun a ha => by have := h.ag a ha; omega⟩
theorem Tw {N : Nat} {e : am} (h : dV N e) (hN : N ≤ 900) : eC e = true := by
 have h1 := h.st; have h2 := h.ld; have h3 := h.dn
 unfold eC
 rw [h.ok]
 simp only [Bool.true_and, Bool.and_eq_true, decide_eq_true_eq]
 omega
theorem Tx {e : am} (h : aH e = true) (hp : 0 < (parts e).length) : dQ (cz e (parts e).length) = true := by
 have hk := fB.1 h
 have hl := ve (e := e) (Nat.le_refl (parts e).length)
 have hpl := nN (e := e)
 have ha8 := hk.a8
 have hs8 := (jr.1 hk.so).l8
 have hc0 := hk.c0; have hc1 := hk.c1
 have hs4 := vf h
 have hset : cF (parts e) = true := by
  have : cw 0 (fun x => aB x 0 23) (fun a b => decide (a < b)) (parts e) = true := rT (fun x hx => by
   rw [jp h] at hx
   obtain ⟨a, ha, rfl⟩ := List.mem_map.1 hx
   have := LI (ju.1 (hk.aa a (List.mem_filter.1 ha).1)).q
   unfold aB; simp only [Bool.and_eq_true, decide_eq_true_eq]; omega) ((zz h).imp fun {a b} k => by simpa using k)
  exact this
 unfold dQ jo
 have e1 : (cz e (parts e).length).Ids = parts e := by unfold cz; rw [List.take_length]
 have e2 : (cz e (parts e).length).Segment = e.Cursor := rfl
 have e3 : (cz e (parts e).length).Base = ((bp e).length : Int) := rfl
 have e4 : lC (cz e (parts e).length) (cz e (parts e).length).Ids.length = true := by
  unfold lC
  refine List.all_eq_true.2 fun k hk2 => ?_
  have hk2 := List.mem_range.1 hk2
  rw [e1] at hk2
  unfold jn
  rw [e3]
  have t1 : (cz e (parts e).length).Tenants.getD k 0 = py e (parts e)[k] := by
   unfold cz; dsimp only; rw [List.take_length, List.getD_eq_getElem?_getD, List.getElem?_map, List.getElem?_eq_getElem hk2]; rfl
  have t2 : (cz e (parts e).length).Rows.getD k 0 = pz e (parts e)[k] := by
   unfold cz; dsimp only; rw [List.take_length, List.getD_eq_getElem?_getD, List.getElem?_map, List.getElem?_eq_getElem hk2]; rfl
  obtain ⟨i, hi, hf, hid, hpp⟩ := zA h hk2
  have ha := zC hi hf
  rw [t1, t2]
  unfold py pz
  rw [ha]
  have h5 := LI (ju.1 (hk.aa _ (List.getElem_mem hi))).q
  have h6 : (gk e e.Active[i]).length ≤ (bp e).length := Nat.le_trans (List.length_filter_le _ _) (rR _ _)
  simp only [aB, Bool.and_eq_true, decide_eq_true_eq]
  omega
 rw [e4, e1, e2, e3, hset]
 simp only [aB, Bool.true_and, Bool.and_true, Bool.and_eq_true, decide_eq_true_eq]
 exact ⟨⟨⟨by omega, by omega⟩, by omega, by omega⟩, ⟨by omega, by omega⟩, by omega, by omega⟩
theorem LK {e : am} (h : aH e = true) : aH (cf e) = true := by
 have hk := fB.1 h
 have hr := Sc (s := e.Store) (d3 e.Active)
 rw [fB]
 unfold cf
 refine ⟨Sb _ hk.so, hk.c0, ?_, hk.od, hk.s0, hk.s1, hk.a8, hk.d1, hk.l1, fun a ha => ?_, hk.pw, fun f hf => ?_, hk.cs⟩
 ·dsimp only; rw [hr.1]; exact hk.c1
 ·dsimp only; rw [ju, hr.1, hr.2, ← ju]; exact hk.aa a ha
 ·dsimp only; rw [hr.2]; exact hk.fs f hf
theorem iC.reclaim {N : Nat} {e : am} (h : iC N e) : iC N (cf e) := ⟨LK h.ok, h.ld, h.dn, h.ag⟩
theorem dV.reclaim {N : Nat} {e : am} (h : dV N e) : dV N (cf e) := ⟨LK h.ok, h.st, h.ld, h.dn, h.ag⟩
theorem Ty {c n : Int} (h0 : 0 ≤ c) (h1 : c < n) : (c + 1).tmod n = if c + 1 = n then 0 else c + 1 := by
 rw [Int.tmod_eq_emod_of_nonneg (by omega)]
 split
 ·rename_i h; rw [h, Int.emod_self]
 ·exact Int.emod_eq_of_lt (by omega) (by omega)
theorem LL {N : Nat} {e : am} (h : iC N e) (hN : N ≤ 249) : iC (N + 1) (bU e) := by
 cases hso : eC e with
 | false => rw [vc hso]; exact h.le (by omega)
 | true =>
 obtain ⟨_, hst, _, _⟩ := rP hso
 rw [rO hso]
 refine iC.reclaim ?_
 have hk := fB.1 h.ok
 obtain ⟨ea, ed⟩ := Tr h.ok
 have hb := h.ag
 have hld := h.ld; have hdn := h.dn
 have c0 := hk.c0; have c1 := hk.c1
 have hcur := Ty c0 c1
 have el : (eN e).Ledger = d4 e (parts e).length := rfl
 have hll : (eN e).Ledger.length ≤ e.Ledger.length + 1 := by
  rw [el]; unfold d4; split
  ·omega
  ·rw [List.length_append]; simp
 have hrows : ∀ a ∈ e.Active, (d8 e a).Rows.length ≤ 4 * (N + 1) ∧ ∀ r ∈ (d8 e a).Rows, bm r = true := by
  intro a ha
  have h1 := hb a ha
  have h2 := vk h.ok a
  have h3 := ju.1 (hk.aa a ha)
  rw [Tt]
  split
  ·rw [List.length_append]
   refine ⟨by omega, fun r hr => ?_⟩
   rcases List.mem_append.1 hr with hr | hr
   ·exact h3.rk r hr
   ·exact Ts h.ok a r hr
  ·exact ⟨by omega, h3.rk⟩
 have hsent : ∀ a ∈ e.Active, 0 ≤ (d8 e a).Sent ∧ (d8 e a).Sent ≤ 4 * ((N : Int) + 1) := by
  intro a ha
  have h1 := hb a ha
  have h2 := vk h.ok a
  have h3 := ju.1 (hk.aa a ha)
  have h4 := h3.sn0
  rw [Tv]
  split
  ·omega
  ·split <;> omega
 have hsplit : ((e.Active.map (d8 e)).filter fun a => !cH a).length + ((e.Active.map (d8 e)).filter cH).length = e.Active.length := by
  have := zK (e.Active.map (d8 e)); rw [List.length_map] at this; exact this
 have mem : ∀ b, b ∈ (eN e).Active → ∃ a ∈ e.Active, b = d8 e a ∧ cH b = false := by
  intro b hb2
  rw [ea] at hb2
  obtain ⟨hb2, he⟩ := List.mem_filter.1 hb2
  obtain ⟨a, ha, rfl⟩ := List.mem_map.1 hb2
  exact ⟨a, ha, rfl, by simpa using he⟩
 refine ⟨?_, by omega, ?_, ?_⟩
 ·rw [fB]
  refine ⟨hk.so, ?_, ?_, hk.od, by show 0 ≤ e.Steps + 1; have := hk.s0; omega, by show e.Steps + 1 ≤ 100000; omega, ?_, ?_, by omega, ?_, ?_, ?_, ?_⟩
  ·show 0 ≤ (e.Cursor + 1).tmod _; rw [hcur]; split <;> omega
  ·show (e.Cursor + 1).tmod (e.Store.Segments.length : Int) < (e.Store.Segments.length : Int); rw [hcur]; split <;> omega
  ·rw [ea]; have := hk.a8; omega
  ·rw [ed, List.length_append, List.length_map]; omega
  ·intro b hb2
   obtain ⟨a, ha, rfl, he⟩ := mem b hb2
   have h3 := ju.1 (hk.aa a ha)
   have hq := sb (e := e) (a := a)
   have h5 := hrows a ha; have h6 := hsent a ha; have h7 := hb a ha
   rw [ju]
   have ht : (d8 e a).Todo.Sublist a.Todo := by
    rw [Tu]; split
    ·exact List.filter_sublist
    ·exact List.Sublist.refl _
   refine ⟨?_, h3.tp.sublist ht, fun x hx => h3.tr x (ht.subset hx), by rw [hq.1]; exact h3.q, by rw [hq.2.1]; exact h3.tm0, by rw [hq.2.1]; exact h3.tm1, by rw [hq.2.2.2]; have := h3.ag0; omega, by rw [hq.2.2.2]; omega, h6.1, by omega, by rw [hq.2.2.1]; exact h3.cp0, by rw [hq.2.2.1]; exact h3.cp1, h5.2, by omega⟩
   unfold cH at he
   simp only [decide_eq_false_iff_not] at he
   omega
  ·rw [ea]
   refine List.Pairwise.filter _ ?_
   rw [List.pairwise_map]
   refine hk.pw.imp fun {a b} k => ?_
   rw [sb.1, sb.1]; exact k
  ·rw [ed]
   intro f hf
   rcases List.mem_append.1 hf with hf | hf
   ·exact hk.fs f hf
   ·obtain ⟨b, hb2, rfl⟩ := List.mem_map.1 hf
    obtain ⟨hb2, _⟩ := List.mem_filter.1 hb2
    obtain ⟨a, ha, rfl⟩ := List.mem_map.1 hb2
    have h3 := ju.1 (hk.aa a ha)
    have hq := sb (e := e) (a := a)
    have h5 := hrows a ha; have h7 := hb a ha
    rw [As]
    unfold mB
    dsimp only
    rw [hq.1, hq.2.1, hq.2.2.2]
    have := h3.ag0
    exact ⟨h3.q, ⟨h3.tm0, h3.tm1⟩, ⟨by omega, by omega⟩, h5.2, by omega⟩
  ·rw [el]
   intro c hc
   unfold d4 at hc
   split at hc
   ·exact hk.cs c hc
   ·rcases List.mem_append.1 hc with hc | hc
    ·exact hk.cs c hc
    ·rw [List.mem_singleton.1 hc]
     exact Tx h.ok (by omega)
 ·rw [ea, ed, List.length_append, List.length_map]; omega
 ·intro b hb2
  obtain ⟨a, ha, rfl, he⟩ := mem b hb2
  have hq := sb (e := e) (a := a)
  have h5 := hrows a ha; have h6 := hsent a ha; have h7 := hb a ha
  rw [hq.2.2.2]
  omega
theorem Tz {N : Nat} {e : am} (h : dV N e) (hN : N ≤ 249) : dV (N + 1) (bU e) := by
 have k := LL h.w hN
 have hst := h.st
 exact ⟨k.ok, by rw [rO (Tw h (by omega))]; show e.Steps + 1 ≤ _; omega, k.ld, k.dn, k.ag⟩
theorem TA {N : Nat} {e : am} (h : dV N e) (id : Int) : dV N (d6 e id).1 := by
 cases hc : iX e id with
 | false => rw [vq hc]; exact h
 | true =>
  rw [KT hc]
  refine dV.reclaim ?_
  have hk := fB.1 h.ok
  have hs : (fX e.Active (cm e.Active id).toNat).Sublist e.Active := by
   unfold fX
   conv => rhs; rw [← List.take_append_drop (cm e.Active id).toNat e.Active]
   exact List.Sublist.append (List.Sublist.refl _) (by rw [List.drop_add_one_eq_tail_drop]; exact List.tail_sublist _)
  have hl := hs.length_le
  have hdn := h.dn; have a8 := hk.a8
  refine ⟨?_, h.st, h.ld, by show e.Done.length + (fX e.Active _).length ≤ N; omega, fun a ha => h.ag a (hs.subset ha)⟩
  rw [fB]
  exact ⟨hk.so, hk.c0, hk.c1, hk.od, hk.s0, hk.s1, by show (fX e.Active _).length ≤ 8; omega, hk.d1, hk.l1, fun a ha => hk.aa a (hs.subset ha), hk.pw.sublist hs, hk.fs, hk.cs⟩
theorem TB {N : Nat} {e : am} (h : dV N e) (u : Update) : dV N (d7 e u).1 := by
 cases hu : aH e && (da e.Store u).2 with
 | false => rw [z0 hu]; exact h
 | true =>
  rw [z4 hu]
  refine dV.reclaim ?_
  have hk := fB.1 h.ok
  have hs := Ld e.Store u hk.so
  have hlen : (da e.Store u).1.Segments.length = e.Store.Segments.length ∧ e.Store.Now ≤ (da e.Store u).1.Now := by
   cases ha : gC e.Store u with
   | false => rw [rY ha]; exact ⟨rfl, Int.le_refl _⟩
   | true =>
    by_cases hk2 : u.Kind = 2
    ·rw [rZ ha hk2]; exact ⟨r5 _ _, by dsimp only; omega⟩
    ·rw [zW ha]; unfold rW; rw [if_neg hk2]; unfold pE; dsimp only; rw [List.length_set, r5]; exact ⟨rfl, by omega⟩
  refine ⟨?_, h.st, h.ld, h.dn, h.ag⟩
  rw [fB]
  unfold nY
  refine ⟨hs, hk.c0, by dsimp only; rw [hlen.1]; exact hk.c1, hk.od, hk.s0, hk.s1, hk.a8, hk.d1, hk.l1, fun a ha => ?_, hk.pw, fun f hf => ?_, hk.cs⟩
  ·have h3 := ju.1 (hk.aa a ha)
   dsimp only
   rw [ju, hlen.1]
   exact { h3 with tm1 := by have := h3.tm1; omega }
  ·have := As.1 (hk.fs f hf)
   dsimp only
   rw [As]
   exact ⟨this.1, ⟨this.2.1.1, by omega⟩, this.2.2⟩
theorem TC {n : Nat} : ∀ x ∈ kJ n, 0 ≤ x ∧ x < n := by
 intro x hx
 unfold kJ at hx
 obtain ⟨i, hi, rfl⟩ := List.mem_map.1 hx
 have := List.mem_range.1 hi
 omega
theorem TD {e : am} {q : Query} {l : Int} (h : aH e = true) (hq : bI q = true) (hl : 0 ≤ l ∧ l ≤ 32) : dt e.Store (d5 e q l) = true := by
 have hk := fB.1 h
 have hs := jr.1 hk.so
 have l1 := hs.l1
 rw [ju]
 unfold d5
 refine ⟨by rw [zO]; omega, ?_, TC, hq, hs.n0, Int.le_refl _, Int.le_refl 0, by show (0 : Int) ≤ 100000; decide, Int.le_refl 0, by show (0 : Int) ≤ 1000; decide, hl.1, hl.2, by simp, by simp⟩
 unfold kJ
 rw [List.pairwise_map]
 refine (List.pairwise_lt_range).imp fun {a b} k => by omega
theorem TE {e : am} {q : Query} {l : Int} (h : aH e = true) : (iA e q l).Perm (d5 e q l :: e.Active) := by
 have hc := pD (fun a : Active => a.Query.Id) q.Id (lP h)
 have e1 : e.Active.filter (kK q.Id) = e.Active.take (cT e.Active q.Id) := hc
 unfold iA
 rw [e1]
 refine List.perm_middle.trans ?_
 rw [List.take_append_drop]
theorem TF {e : am} {q : Query} {l : Int} (h : aH e = true) (hf : cm e.Active q.Id < 0) : (iA e q l).Pairwise fun a b => a.Query.Id < b.Query.Id := by
 have hp := lP h
 have hc := pD (fun a : Active => a.Query.Id) q.Id hp
 have e1 : e.Active.filter (kK q.Id) = e.Active.take (cT e.Active q.Id) := hc
 have hcut := fun (k : Nat) (hk : k < e.Active.length) => KR (x := q.Id) h hk
 have hge : ∀ b ∈ e.Active.drop (cT e.Active q.Id), q.Id < b.Query.Id := by
  intro b hb
  obtain ⟨j, hj, rfl⟩ := List.mem_iff_getElem.1 hb
  rw [List.length_drop] at hj
  rw [List.getElem_drop]
  have h1 := hcut (cT e.Active q.Id + j) (by omega)
  have h2 := KS hf (show cT e.Active q.Id + j < e.Active.length by omega)
  omega
 have hlt : ∀ b ∈ e.Active.take (cT e.Active q.Id), b.Query.Id < q.Id := by
  intro b hb
  rw [← e1] at hb
  have := (List.mem_filter.1 hb).2
  unfold kK at this; simpa using this
 unfold iA
 rw [e1, List.pairwise_append, List.pairwise_cons]
 refine ⟨hp.sublist (List.take_sublist _ _), ⟨fun b hb => hge b hb, hp.sublist (List.drop_sublist _ _)⟩, fun a ha b hb => ?_⟩
 have h1 := hlt a ha
 rcases List.mem_cons.1 hb with rfl | hb
 ·exact h1
 ·have := hge b hb; omega
theorem TG {N : Nat} {e : am} (h : dV N e) (hN : N ≤ 900) (q : Query) (l : Int) : dV (N + 1) (gz e q l).1 := by
 cases ha : jW e q l with
 | false => rw [zQ ha]; exact h.le (by omega)
 | true =>
  rw [zR ha]
  obtain ⟨h1, h2, h3, h4, h5⟩ := vp ha
  have hk := fB.1 h1
  have hp := TE (q := q) (l := l) h1
  have hl := hp.length_eq
  rw [List.length_cons] at hl
  have hdn := h.dn; have hst := h.st; have hld := h.ld
  have mem : ∀ a ∈ iA e q l, a = d5 e q l ∨ a ∈ e.Active := fun a ha => List.mem_cons.1 (hp.mem_iff.1 ha)
  refine ⟨?_, by dsimp only; omega, by dsimp only; omega, by dsimp only; omega, fun a ha => ?_⟩
  ·rw [fB]
   refine ⟨hk.so, hk.c0, hk.c1, hk.od, hk.s0, hk.s1, by dsimp only; omega, hk.d1, hk.l1, fun a ha => ?_, by exact TF (e := e) h1 h4, hk.fs, hk.cs⟩
   rcases mem a ha with rfl | ha
   ·exact TD (e := e) h1 h2 h3
   ·exact hk.aa a ha
  ·rcases mem a ha with rfl | ha
   ·unfold d5; dsimp only; simp; omega
   ·have := h.ag a ha; omega
theorem TH {s : Store} (h : bA s = true) : dV 0 ⟨s, 0, [0, 1, 2], [], [], [], 0⟩ := by
 have k := jr.1 h
 have l1 := k.l1
 refine ⟨?_, by simp, by simp, by simp, by simp⟩
 rw [fB]
 exact ⟨h, Int.le_refl 0, by dsimp only; omega, by show bK [0, 1, 2] = true; decide, Int.le_refl 0, by show (0 : Int) ≤ 100000; decide, by simp, by simp, by simp, by simp, by simp, by simp, by simp⟩
def At : Update := ⟨0, ⟨0, []⟩, 0, 0⟩
def Au : Query := ⟨0, 0, [], []⟩
inductive pN (s : Store) : yD → Prop
 | adm (q : Query) (l : Int) (h1 : bI q = true) (h2 : 0 ≤ q.Id ∧ q.Id ≤ 5) (h3 : 0 ≤ l ∧ l ≤ 2) : pN s ⟨1, q, l, 0, At, 0⟩
 | can (i : Int) (h : 0 ≤ i ∧ i ≤ 5) : pN s ⟨2, Au, 0, i, At, 0⟩
 | stp (n : Int) (h : 1 ≤ n ∧ n ≤ 3) : pN s ⟨4, Au, 0, 0, At, n⟩
 | upd (u : Update) : pN s ⟨3, Au, 0, 0, u, 0⟩
theorem pN.steps {s : Store} {x : yD} (h : pN s x) : 0 ≤ x.Steps ∧ x.Steps ≤ 3 := by cases h <;> dsimp only <;> omega
structure Un where
 l : List yD
 c : aC
def kR (s : Store) : am := ⟨s, 0, [0, 1, 2], [], [], [], 0⟩
def bN (c : aC) : Int × aC := aj c 7
def iY (c : aC) : Int × aC := aj (bN c).2 6
def lV (c : aC) : Query × aC := iB (iY c).2 (iY c).1
def n7 (c : aC) : Int × aC := aU (lV c).2 [0, 0, 1, 2]
structure jv where
 e : am
 c : aC
def iZ (x : jv) : jv :=
 if (bN x.c).1 = 0 ∨ (bN x.c).1 = 1 then ⟨(gz x.e (lV x.c).1 (n7 x.c).1).1, (n7 x.c).2⟩
 else if (bN x.c).1 = 2 then ⟨(d7 x.e (dy (bN x.c).2 x.e.Store).1).1, (dy (bN x.c).2 x.e.Store).2⟩
 else if (bN x.c).1 = 3 then ⟨(d6 x.e (iY x.c).1).1, (iY x.c).2⟩
 else ⟨bU x.e, (bN x.c).2⟩
theorem Av {x : jv} (h : (bN x.c).1 = 0 ∨ (bN x.c).1 = 1) : iZ x = ⟨(gz x.e (lV x.c).1 (n7 x.c).1).1, (n7 x.c).2⟩ := if_pos h
theorem LM {x : jv} (h : ¬ ((bN x.c).1 = 0 ∨ (bN x.c).1 = 1)) (h2 : (bN x.c).1 = 2) : iZ x = ⟨(d7 x.e (dy (bN x.c).2 x.e.Store).1).1, (dy (bN x.c).2 x.e.Store).2⟩ := by unfold iZ; rw [if_neg h, if_pos h2]
theorem LN {x : jv} (h : ¬ ((bN x.c).1 = 0 ∨ (bN x.c).1 = 1)) (h2 : ¬ (bN x.c).1 = 2) (h3 : (bN x.c).1 = 3) : iZ x = ⟨(d6 x.e (iY x.c).1).1, (iY x.c).2⟩ := by unfold iZ; rw [if_neg h, if_neg h2, if_pos h3]
theorem TI {x : jv} (h : ¬ ((bN x.c).1 = 0 ∨ (bN x.c).1 = 1)) (h2 : ¬ (bN x.c).1 = 2) (h3 : ¬ (bN x.c).1 = 3) : iZ x = ⟨bU x.e, (bN x.c).2⟩ := by unfold iZ; rw [if_neg h, if_neg h2, if_neg h3]
def bb (x : jv) : Nat → jv
 | 0 => x
 | k + 1 => iZ (bb x k)
def bc (c : aC) (most : Int) : jv := ⟨kR (gD c).s, (aj (gD c).c most).2⟩
def j3 (c : aC) (most : Int) : Nat := (aj (gD c).c most).1.toNat
def cB (c : aC) (most : Int) : jv := bb (bc c most) (j3 c most)
theorem Aw (c : aC) {most : Int} (h : 0 < most) : (j3 c most : Int) < most := by
 have b1 := di (gD c).c most
 have b2 := dw (gD c).c (n := most) h
 unfold j3; omega
theorem TJ (c : aC) (most : Int) : dV 0 (bc c most).e := TH (Am c)
theorem TK {N : Nat} {x : jv} (h : dV N x.e) (hN : N ≤ 249) : dV (N + 1) (iZ x).e := by
 unfold iZ
 split
 ·exact TG h (by omega) _ _
 ·split
  ·exact (TB h _).le (by omega)
  ·split
   ·exact (TA h _).le (by omega)
   ·exact Tz h hN
theorem Ax (c : aC) (most : Int) : ∀ k, k ≤ 200 → dV k (bb (bc c most) k).e
 | 0, _ => TJ c most
 | k + 1, h => TK (Ax c most k (by omega)) (by omega)
theorem TL (c : aC) (most : Int) : aO (bc c most).e ≤ 210 := by
 have := vE (Am c)
 unfold bc kR aO
 dsimp only
 simp [aV, cu, fp, gK, f4]; omega
theorem TM (x : jv) : aO (iZ x).e ≤ aO x.e + 200 := by
 unfold iZ
 split
 ·have h1 := RL x.e (lV x.c).1 (n7 x.c).1
  have h2 := Lb (iY x.c).2 (iY x.c).1
  have h3 : d9 (lV x.c).1 ≤ 6 := h2
  dsimp only; omega
 ·split
  ·have := RX x.e (dy (bN x.c).2 x.e.Store).1
   dsimp only; omega
  ·split
   ·have := RN x.e (iY x.c).1
    dsimp only; omega
   ·exact zN x.e
theorem Ay (c : aC) (most : Int) : ∀ k, aO (bb (bc c most) k).e ≤ 210 + 200 * k
 | 0 => TL c most
 | k + 1 => by
  have h1 := Ay c most k
  have h2 := TM (bb (bc c most) k)
  show aO (iZ (bb (bc c most) k)).e ≤ _
  omega
def lW (c : aC) : Int × aC := aj c 6
def kS (c : aC) : List Int := bi.getD (lW c).1.toNat []
def j4 (c : aC) : Int × aC := aj (lW c).2 12
def j5 (c : aC) : List Int × aC := if (j4 c).1 = 0 then ((kS c).set 0 (aU (j4 c).2 [-1, 0, 3]).1, (aU (j4 c).2 [-1, 0, 3]).2) else (kS c, (j4 c).2)
theorem TN {c : aC} (h : (j4 c).1 = 0) : j5 c = ((kS c).set 0 (aU (j4 c).2 [-1, 0, 3]).1, (aU (j4 c).2 [-1, 0, 3]).2) := if_pos h
theorem TO {c : aC} (h : ¬ (j4 c).1 = 0) : j5 c = (kS c, (j4 c).2) := if_neg h
theorem Az (c : aC) : (kS c).length = 3 := by
 have b1 := di c 6
 have b2 := dw c (n := 6) (by decide)
 have h6 : bi.length = 6 := rfl
 have hk : (lW c).1.toNat < bi.length := by unfold lW; omega
 unfold kS
 rw [pK hk]
 exact uR hk
theorem TP (c : aC) : (j5 c).1.length = 3 := by
 have := Az c
 unfold j5
 split
 ·dsimp only; rw [List.length_set]; exact this
 ·exact this
def cC (c : aC) : Int × aC := aj (cB c 14).c 16
def vF (e : am) (v : Int) : am := ⟨e.Store, v, e.Order, e.Active, e.Done, e.Ledger, e.Steps⟩
def vG (e : am) (v : Int) : am := ⟨e.Store, e.Cursor, e.Order, e.Active, e.Done, e.Ledger, v⟩
def vH (e : am) (v : Int) : am := ⟨⟨e.Store.Segments, v⟩, e.Cursor, e.Order, e.Active, e.Done, e.Ledger, e.Steps⟩
def cP (e : am) (o : List Int) : am := ⟨e.Store, e.Cursor, o, e.Active, e.Done, e.Ledger, e.Steps⟩
def aK (c : aC) : am × aC :=
 if (cC c).1 = 0 then (vF (cB c 14).e (aU (cC c).2 [-1, 8]).1, (aU (cC c).2 [-1, 8]).2)
 else if (cC c).1 = 1 then (vG (cB c 14).e (aU (cC c).2 [-1, 99999, 100000, 100001]).1, (aU (cC c).2 [-1, 99999, 100000, 100001]).2)
 else if (cC c).1 = 2 then (vH (cB c 14).e (-1), (cC c).2)
 else if (cC c).1 = 3 then (cP (cB c 14).e (j5 (cC c).2).1, (j5 (cC c).2).2)
 else ((cB c 14).e, (cC c).2)
theorem TQ {c : aC} (h : (cC c).1 = 0) : aK c = (vF (cB c 14).e (aU (cC c).2 [-1, 8]).1, (aU (cC c).2 [-1, 8]).2) := if_pos h
theorem TR {c : aC} (h0 : ¬ (cC c).1 = 0) (h : (cC c).1 = 1) : aK c = (vG (cB c 14).e (aU (cC c).2 [-1, 99999, 100000, 100001]).1, (aU (cC c).2 [-1, 99999, 100000, 100001]).2) := by unfold aK; rw [if_neg h0, if_pos h]
theorem TS {c : aC} (h0 : ¬ (cC c).1 = 0) (h1 : ¬ (cC c).1 = 1) (h : (cC c).1 = 2) : aK c = (vH (cB c 14).e (-1), (cC c).2) := by unfold aK; rw [if_neg h0, if_neg h1, if_pos h]
theorem TT {c : aC} (h0 : ¬ (cC c).1 = 0) (h1 : ¬ (cC c).1 = 1) (h2 : ¬ (cC c).1 = 2) (h : (cC c).1 = 3) : aK c = (cP (cB c 14).e (j5 (cC c).2).1, (j5 (cC c).2).2) := by unfold aK; rw [if_neg h0, if_neg h1, if_neg h2, if_pos h]
theorem TU {c : aC} (h0 : ¬ (cC c).1 = 0) (h1 : ¬ (cC c).1 = 1) (h2 : ¬ (cC c).1 = 2) (h3 : ¬ (cC c).1 = 3) : aK c = ((cB c 14).e, (cC c).2) := by unfold aK; rw [if_neg h0, if_neg h1, if_neg h2, if_neg h3]
theorem LO (c : aC) : aO (cB c 14).e ≤ 3010 := by
 have h1 := Ay c 14 (j3 c 14)
 have h2 := Aw c (most := 14) (by decide)
 unfold cB; omega
theorem vJ (c : aC) : aO (aK c).1 ≤ 3100 := by
 have h := LO c
 unfold aK
 split
 ·unfold vF aO at *; dsimp only at *; simp only [aV] at *; omega
 ·split
  ·unfold vG aO at *; dsimp only at *; simp only [aV] at *; omega
  ·split
   ·unfold vH aO cc at *; dsimp only at *; simp only [aV] at *; omega
   ·split
    ·have h3 := TP (cC c).2
     unfold cP aO at *; dsimp only at *; simp only [cu, aV] at *; omega
    ·dsimp only; omega
theorem TV (c : aC) : dV 13 (cB c 14).e := by
 have h2 := Aw c (most := 14) (by decide)
 exact (Ax c 14 (j3 c 14) (by omega)).le (by omega)
def fP (a b : am) : Prop := a.Ledger = b.Ledger ∧ a.Done = b.Done ∧ a.Active = b.Active
theorem fP.cur (e : am) (v : Int) : fP (vF e v) e := ⟨rfl, rfl, rfl⟩
theorem fP.stp (e : am) (v : Int) : fP (vG e v) e := ⟨rfl, rfl, rfl⟩
theorem fP.now (e : am) (v : Int) : fP (vH e v) e := ⟨rfl, rfl, rfl⟩
theorem fP.ord (e : am) (v : List Int) : fP (cP e v) e := ⟨rfl, rfl, rfl⟩
theorem fP.refl (e : am) : fP e e := ⟨rfl, rfl, rfl⟩
theorem fP.w {N : Nat} {a b : am} (h : fP a b) (k : dV N b) (ok : aH a = true) : iC N a :=
 ⟨ok, by rw [h.1]; exact k.ld, by rw [h.2.1, h.2.2]; exact k.dn, by rw [h.2.2]; exact k.ag⟩
theorem TW (c : aC) : fP (aK c).1 (cB c 14).e := by
 unfold aK
 generalize (cB c 14).e = e
 split
 ·exact fP.cur _ _
 ·split
  ·exact fP.stp _ _
  ·split
   ·exact fP.now _ _
   ·split
    ·exact fP.ord _ _
    ·exact fP.refl _
theorem TX (c : aC) (h : aH (aK c).1 = true) : iC 13 (aK c).1 := (TW c).w (TV c) h
theorem n8 {e : am} {o : List Int} (h : aH e = true) (ho : bK o = true) : aH (cP e o) = true := by
 have hk := fB.1 h
 rw [fB]
 exact ⟨hk.so, hk.c0, hk.c1, ho, hk.s0, hk.s1, hk.a8, hk.d1, hk.l1, hk.aa, hk.pw, hk.fs, hk.cs⟩
theorem LP {e : am} {o : List Int} (h : aH e = true) (ho : bK o = true) : parts (cP e o) = parts e := by
 rw [jp (n8 h ho), jp h]; rfl
theorem TY {e : am} {o : List Int} (h : aH e = true) (ho : bK o = true) : bU (cP e o) = cP (bU e) o := by
 have hp := LP h ho
 have hs : eC (cP e o) = eC e := by
  unfold eC
  rw [n8 h ho, h]; rfl
 cases hk : eC e with
 | false => rw [vc hk, vc (hs.trans hk)]
 | true =>
  rw [rO hk, rO (hs.trans hk)]
  unfold eN
  rw [hp]
  have e1 : ∀ k, bj (cP e o) k = bj e k := fun k => by unfold bj; rw [hp]; rfl
  have e2 : ∀ k, bL (cP e o) k = bL e k := fun k => by unfold bL; rw [e1]; rfl
  have e3 : ∀ k m, fK (cP e o) k m = fK e k m := fun k m => by unfold fK; rw [e2]
  have e4 : ∀ k m, dS (cP e o) k m = dS e k m := fun k m => by unfold dS; rw [e2]
  have e5 : ∀ k, cz (cP e o) k = cz e k := fun k => by unfold cz; rw [hp]; rfl
  have e6 : ∀ k, d4 (cP e o) k = d4 e k := fun k => by unfold d4; rw [hp, e5]; rfl
  have e7 : pA (cP e o) (parts e).length (cP e o).Active.length = cP (pA e (parts e).length e.Active.length) o := by
   unfold pA
   rw [e3, e4, e6]; rfl
  rw [e7]; rfl
theorem TZ {o : List Int} (h : bK o = true) : o ∈ bi := by
 unfold bK at h
 simp only [Bool.and_eq_true, decide_eq_true_eq, LJ] at h
 obtain ⟨hl, h0, h1, h2⟩ := h
 match o, hl with
 | [a, b, c], _ =>
  simp only [List.mem_cons, List.not_mem_nil, or_false] at h0 h1 h2
  rcases h0 with h0 | h0 | h0 <;> rcases h1 with h1 | h1 | h1 <;> rcases h2 with h2 | h2 | h2 <;> first | (exfalso; omega) | (subst h0; subst h1; subst h2; simp [bi])
theorem T0 : ∀ o ∈ bi, bK o = true := by decide
theorem LQ {x : bS} {l : List Row} : ∀ k, k ≤ 6 → eM x l k ∈ bi
 | 0, _ => by show [0, 1, 2] ∈ bi; simp [bi]
 | k + 1, h => by
  have h6 : bi.length = 6 := rfl
  have hk : k < bi.length := by omega
  by_cases hc : dR x l bi[k] < dR x l (eM x l k)
  ·rw [pp hk hc]; exact List.getElem_mem hk
  ·rw [pq hk hc]; exact LQ k (by omega)
theorem LR {x : bS} {l : List Row} : ∀ k, k ≤ 6 → ∀ j, (hj : j < k) → ∀ hj6 : j < bi.length, dR x l (eM x l k) ≤ dR x l bi[j]
 | 0, _, j, hj, _ => by omega
 | k + 1, h, j, hj, hj6 => by
  have h6 : bi.length = 6 := rfl
  have hk : k < bi.length := by omega
  have ih := fun j hj hj6 => LR (x := x) (l := l) k (by omega) j hj hj6
  by_cases hc : dR x l bi[k] < dR x l (eM x l k)
  ·rw [pp hk hc]
   by_cases hjk : j = k
   ·subst hjk; exact Int.le_refl _
   ·have := ih j (by omega) hj6; omega
  ·rw [pq hk hc]
   by_cases hjk : j = k
   ·subst hjk; omega
   ·exact ih j (by omega) hj6
theorem LS {e : am} (h : aH e = true) : cy (eW (eB e.Active (parts e))) = true := I0 (KN h)
theorem sd {e : am} (h : aH e = true) : bK (eY e) = true := by
 unfold eY kH
 rw [if_pos h, if_pos (LS h)]
 exact T0 _ (LQ 6 (Nat.le_refl _))
theorem LU {e : am} (h : aH e = true) : dh e = cP e (eY e) := by
 unfold dh
 rw [vm (by rw [h, sd h]; rfl)]; rfl
theorem T1 (e : am) : nO (dh e) ≤ nO e := by
 cases h : aH e with
 | false =>
  have : dh e = e := by unfold dh; rw [KP (by rw [h]; rfl)]
  rw [this]; exact Int.le_refl _
 | true =>
  have hk := fB.1 h
  have hw := n8 h (sd h)
  rw [LU h]
  unfold nO
  rw [if_pos hw, if_pos h, LP h (sd h)]
  have e1 : lG (cP e (eY e)) = lG e := rfl
  have e2 : (cP e (eY e)).Active = e.Active := rfl
  have e3 : (cP e (eY e)).Order = eY e := rfl
  rw [e1, e2, e3]
  obtain ⟨j, hj, he⟩ := List.mem_iff_getElem.1 (TZ hk.od)
  have h6 : bi.length = 6 := rfl
  have hm := LR (x := eW (eB e.Active (parts e))) (l := lG e) 6 (Nat.le_refl _) j (by omega) hj
  unfold eY kH
  rw [if_pos h, if_pos (LS h), ← he]
  exact hm
theorem LV {N : Nat} {e : am} (h : iC N e) : ∀ k, N + k ≤ 249 → iC (N + k) (dv e k) ∧ ∃ o, bK o = true ∧ eD e k = cP (dv e k) o
 | 0, _ => ⟨h, e.Order, (fB.1 h.ok).od, rfl⟩
 | k + 1, hk => by
  obtain ⟨h1, o, ho, he⟩ := LV h k (by omega)
  have h3 : N + k ≤ 249 := by omega
  refine ⟨LL h1 h3, eY (cP (dv e k) o), sd (n8 h1.ok ho), ?_⟩
  rw [eD, he, LU (n8 h1.ok ho)]
  have e1 : cP (cP (dv e k) o) (eY (cP (dv e k) o)) = cP (dv e k) (eY (cP (dv e k) o)) := rfl
  rw [e1, TY h1.ok (sd (n8 h1.ok ho))]; rfl
theorem AA {e : am} : ∀ k, (dv e k).Order = e.Order
 | 0 => rfl
 | k + 1 => by
  rw [dv, ← AA (e := e) k]
  unfold bU
  split <;> rfl
theorem T3 {c : aC} {n : Int} (hn : n ≤ 20) (h : aH (aK c).1 = true) : eh (eO (aK c).1 n) (fL (aK c).1 n).Order = (fL (aK c).1 n, true) := by
 have hw := TX c h
 have hr : du n ≤ 20 := by unfold du; omega
 obtain ⟨h1, o, ho, he⟩ := LV hw (du n) (by omega)
 unfold eO fL
 rw [he, AA]
 have hod := (fB.1 h).od
 rw [vm (by rw [n8 h1.ok ho, hod]; rfl)]
 have e1 : cP (cP (dv (aK c).1 (du n)) o) (aK c).1.Order = cP (dv (aK c).1 (du n)) (aK c).1.Order := rfl
 have e2 : cP (dv (aK c).1 (du n)) (aK c).1.Order = dv (aK c).1 (du n) := by rw [← AA (e := (aK c).1) (du n)]; rfl
 exact congrArg (fun z => (z, true)) (e1.trans e2)
end Go.Proofs.YtmekkgdboplbjaaGreat
