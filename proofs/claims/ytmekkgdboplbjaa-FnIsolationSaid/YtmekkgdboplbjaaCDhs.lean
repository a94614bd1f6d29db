/- Definitions and their laws. No condition. -/
import Derived.Test.YtmekkgdboplbjaaCDok
import Derived.Test.YtmekkgdboplbjaaCDev
set_option linter.unusedVariables false
set_option linter.unusedSimpArgs false
namespace Go.Proofs.Ytmekkgdboplbjaa
open Go Go.RowKit M
set_option maxRecDepth 10000
structure EngOk (e : Engine) : Prop where
 so : okStore e.Store = true
 c0 : 0 ≤ e.Cursor
 c1 : e.Cursor < e.Store.Segments.length
 od : okOrder e.Order = true
 s0 : 0 ≤ e.Steps
 s1 : e.Steps ≤ 100000
 a8 : e.Active.length ≤ 8
 d1 : e.Done.length ≤ 1000
 l1 : e.Ledger.length ≤ 1000
 as : ∀ a ∈ e.Active, okActive e.Store a = true
 pw : e.Active.Pairwise fun a b => a.Query.Id < b.Query.Id
 fs : ∀ f ∈ e.Done, okFin e.Store.Now f = true
 cs : ∀ c ∈ e.Ledger, okCharge c = true
theorem okEngine_iff {e : Engine} : okEngine e = true ↔ EngOk e := by
 constructor
 ·intro h
  obtain ⟨h1, h2, h3, h4, h5, h6, h7, h8, h9, h10, h11, h12⟩ := eng_facts h
  exact ⟨h1, h3, by omega, h2, h8, h9, h5, h6, h7, h10, acts_pw h, h11, h12⟩
 ·intro h
  have c0 := h.c0; have c1 := h.c1; have s0 := h.s0; have s1 := h.s1; have a8 := h.a8; have d1 := h.d1; have l1 := h.l1
  refine eng_yes ?_ (adjAll_of h.as (h.pw.imp fun {a b} k => by unfold ltA; simpa using k)) (List.all_eq_true.2 h.fs) (List.all_eq_true.2 h.cs)
  unfold engPre
  rw [h.so, h.od]
  simp only [inB, Bool.true_and, Bool.and_eq_true, decide_eq_true_eq]
  omega
structure ActOk (n : Nat) (now : Int) (a : Active) : Prop where
 t0 : 0 < a.Todo.length
 tp : a.Todo.Pairwise fun x y => x < y
 tr : ∀ x ∈ a.Todo, 0 ≤ x ∧ x < n
 q : okQuery a.Query = true
 tm0 : 0 ≤ a.Time
 tm1 : a.Time ≤ now
 ag0 : 0 ≤ a.Age
 ag1 : a.Age ≤ 100000
 sn0 : 0 ≤ a.Sent
 sn1 : a.Sent ≤ 1000
 cp0 : 0 ≤ a.Cap
 cp1 : a.Cap ≤ 32
 rk : ∀ r ∈ a.Rows, okRow r = true
 rl : a.Rows.length ≤ 1000
theorem adj_pw2 {l : List Int} {n : Int} (h : adjAll 0 (todoP n) ltI_ l = true) : l.Pairwise fun x y => x < y := by
 rw [List.pairwise_iff_getElem]
 have step : ∀ i (hi : i + 1 < l.length), l[i] < l[i + 1] := by
  intro i hi
  have := List.all_eq_true.1 h (i + 1) (List.mem_range.2 hi)
  rw [adjStep, show i + 1 - 1 = i from rfl, getD_at hi, getD_at (show i < l.length by omega)] at this
  rcases this.2 with h0 | h0
  ·omega
  ·unfold ltI_ at h0; simpa using h0
 intro i j hi hj hij
 induction j with
 | zero => omega
 | succ j ih =>
  by_cases he : i = j
  ·subst he; exact step i hj
  ·have h1 := ih (by omega) (by omega)
   have h2 := step j hj
   omega
theorem okActive_iff {s : Store} {a : Active} : okActive s a = true ↔ ActOk s.Segments.length s.Now a := by
 constructor
 ·intro h
  unfold okActive okTodo okRows at h
  simp only [Bool.and_eq_true, inB, decide_eq_true_eq] at h
  obtain ⟨⟨h1, h2⟩, h3, h4, h5, h6, h7, h8, h9⟩ := h
  refine ⟨h2, adj_pw2 h1, fun x hx => ?_, h3, h4.1, h4.2, h5.1, h5.2, h6.1, h6.2, h7.1, h7.2, List.all_eq_true.1 h8, by omega⟩
  obtain ⟨k, hk, rfl⟩ := List.mem_iff_getElem.1 hx
  have := adjAt h1 hk
  unfold todoP inB at this
  simp only [Bool.and_eq_true, decide_eq_true_eq] at this
  omega
 ·intro h
  have t0 := h.t0; have tm0 := h.tm0; have tm1 := h.tm1; have ag0 := h.ag0; have ag1 := h.ag1; have sn0 := h.sn0; have sn1 := h.sn1; have cp0 := h.cp0; have cp1 := h.cp1; have rl := h.rl
  unfold okActive okTodo okRows
  have e1 : adjAll 0 (todoP s.Segments.length) ltI_ a.Todo = true := adjAll_of (fun x hx => by have := h.tr x hx; unfold todoP inB; simp only [Bool.and_eq_true, decide_eq_true_eq]; omega) (h.tp.imp fun {a b} k => by unfold ltI_; simpa using k)
  rw [e1, h.q, List.all_eq_true.2 h.rk]
  simp only [inB, Bool.true_and, Bool.and_eq_true, decide_eq_true_eq]
  omega
theorem okFin_iff {now : Int} {f : Finished} : okFin now f = true ↔ okQuery f.Query = true ∧ (0 ≤ f.Time ∧ f.Time ≤ now) ∧ (0 ≤ f.Steps ∧ f.Steps ≤ 100000) ∧ (∀ r ∈ f.Rows, okRow r = true) ∧ f.Rows.length ≤ 1000 := by
 unfold okFin okRows
 simp only [Bool.and_eq_true, inB, decide_eq_true_eq, List.all_eq_true]
 constructor
 ·rintro ⟨h1, h2, h3, h4, h5⟩; exact ⟨h1, h2, h3, h4, by omega⟩
 ·rintro ⟨h1, h2, h3, h4, h5⟩; exact ⟨h1, h2, h3, h4, by omega⟩
theorem okQ_ten {q : Query} (h : okQuery q = true) : (0 ≤ q.Id ∧ q.Id ≤ 23) ∧ 0 ≤ q.Tenant ∧ q.Tenant ≤ 3 := by
 unfold okQuery at h
 simp only [Bool.and_eq_true, inB, decide_eq_true_eq] at h
 omega
theorem acts_eq {e : Engine} (h : okEngine e = true) {a b : Active} (ha : a ∈ e.Active) (hb : b ∈ e.Active) (hid : a.Query.Id = b.Query.Id) : a = b := by
 obtain ⟨i, hi, rfl⟩ := List.mem_iff_getElem.1 ha
 obtain ⟨j, hj, rfl⟩ := List.mem_iff_getElem.1 hb
 have := acts_idx h hi hj hid
 subst this; rfl
theorem hasI_iff {l : List Int} {x : Int} : hasI l x = true ↔ x ∈ l := by unfold hasI; simp
theorem part_iff {e : Engine} (h : okEngine e = true) {a : Active} (ha : a ∈ e.Active) : hasI (parts e) a.Query.Id = partP e a := by
 rw [Bool.eq_iff_iff, hasI_iff, parts_yes h]
 unfold partsOf
 rw [List.mem_map]
 constructor
 ·rintro ⟨b, hb, hid⟩
  obtain ⟨hb, hp⟩ := List.mem_filter.1 hb
  rw [← acts_eq h hb ha hid]; exact hp
 ·intro hp; exact ⟨a, List.mem_filter.2 ⟨ha, hp⟩, rfl⟩
def nxA (e : Engine) (a : Active) : Active := aged (e.Store.Segments.length : Int) (if partP e a then serve e a else a)
theorem step_acts {e : Engine} (h : okEngine e = true) : (stepE e).Active = (e.Active.map (nxA e)).filter (fun a => !endP a) ∧ (stepE e).Done = e.Done ++ ((e.Active.map (nxA e)).filter endP).map finA := by
 have hl := agedL_len (e := e) (k := (parts e).length)
 have ht : (agedL e (parts e).length).take e.Active.length = agedL e (parts e).length := List.take_of_length_le (by omega)
 have hs : agedL e (parts e).length = e.Active.map (nxA e) := by
  unfold agedL servedTo
  rw [List.map_map, List.take_length]
  refine List.map_congr_left fun a ha => ?_
  show aged _ (served e (parts e) a) = nxA e a
  unfold served nxA
  rw [part_iff h ha]
 unfold stepE stepTo restTo doneTo
 dsimp only
 rw [ht, hs]
 exact ⟨rfl, rfl⟩
theorem gotA_ok {e : Engine} (h : okEngine e = true) (a : Active) : ∀ r ∈ gotA e a, okRow r = true := by
 intro r hr
 unfold gotA at hr
 exact visL_ok h a.Time r (List.mem_filter.1 hr).1
theorem nxA_q {e : Engine} {a : Active} : (nxA e a).Query = a.Query ∧ (nxA e a).Time = a.Time ∧ (nxA e a).Cap = a.Cap ∧ (nxA e a).Age = a.Age + 1 := by
 unfold nxA aged serve
 split <;> exact ⟨rfl, rfl, rfl, rfl⟩
theorem nxA_rows {e : Engine} {a : Active} : (nxA e a).Rows = if partP e a then a.Rows ++ gotA e a else a.Rows := by
 unfold nxA aged serve
 split <;> rfl
theorem nxA_todo {e : Engine} {a : Active} : (nxA e a).Todo = if partP e a then withoutI a.Todo e.Cursor else a.Todo := by
 unfold nxA aged serve
 split <;> rfl
theorem nxA_sent {e : Engine} {a : Active} : (nxA e a).Sent = if (a.Age + 1).tmod (e.Store.Segments.length : Int) = 0 then 0 else if partP e a then a.Sent + ((gotA e a).length : Int) else a.Sent := by
 unfold nxA aged serve
 split <;> rfl
structure EngB (N : Nat) (e : Engine) : Prop where
 ok : okEngine e = true
 st : e.Steps ≤ N
 ld : e.Ledger.length ≤ N
 dn : e.Done.length + e.Active.length ≤ N
 ag : ∀ a ∈ e.Active, a.Age ≤ N ∧ a.Sent ≤ 4 * N ∧ a.Rows.length ≤ 4 * N
theorem EngB.le {N M : Nat} {e : Engine} (h : EngB N e) (hM : N ≤ M) : EngB M e :=
 ⟨h.ok, by have := h.st; omega, by have := h.ld; omega, by have := h.dn; omega, fun a ha => by have := h.ag a ha; omega⟩
theorem stepOk_of {N : Nat} {e : Engine} (h : EngB N e) (hN : N ≤ 900) : stepOk e = true := by
 have h1 := h.st; have h2 := h.ld; have h3 := h.dn
 unfold stepOk
 rw [h.ok]
 simp only [Bool.true_and, Bool.and_eq_true, decide_eq_true_eq]
 omega
theorem scg_ok {e : Engine} (h : okEngine e = true) (hp : 0 < (parts e).length) : okCharge (scgTo e (parts e).length) = true := by
 have hk := okEngine_iff.1 h
 have hl := chg_len (e := e) (Nat.le_refl (parts e).length)
 have hpl := parts_len (e := e)
 have ha8 := hk.a8
 have hs8 := (okStore_iff.1 hk.so).l8
 have hc0 := hk.c0; have hc1 := hk.c1
 have hs4 := segV_le h
 have hset : okSet (parts e) = true := by
  have : adjAll 0 (fun x => inB x 0 23) (fun a b => decide (a < b)) (parts e) = true := adjAll_of (fun x hx => by
   rw [parts_yes h] at hx
   obtain ⟨a, ha, rfl⟩ := List.mem_map.1 hx
   have := okQ_ten (okActive_iff.1 (hk.as a (List.mem_filter.1 ha).1)).q
   unfold inB; simp only [Bool.and_eq_true, decide_eq_true_eq]; omega) ((parts_pw h).imp fun {a b} k => by simpa using k)
  exact this
 unfold okCharge chgPre
 have e1 : (scgTo e (parts e).length).Ids = parts e := by unfold scgTo; rw [List.take_length]
 have e2 : (scgTo e (parts e).length).Segment = e.Cursor := rfl
 have e3 : (scgTo e (parts e).length).Base = ((segV e).length : Int) := rfl
 have e4 : chgTo (scgTo e (parts e).length) (scgTo e (parts e).length).Ids.length = true := by
  unfold chgTo
  refine List.all_eq_true.2 fun k hk2 => ?_
  have hk2 := List.mem_range.1 hk2
  rw [e1] at hk2
  unfold chgAt
  rw [e3]
  have t1 : (scgTo e (parts e).length).Tenants.getD k 0 = tenOf e (parts e)[k] := by
   unfold scgTo; dsimp only; rw [List.take_length, List.getD_eq_getElem?_getD, List.getElem?_map, List.getElem?_eq_getElem hk2]; rfl
  have t2 : (scgTo e (parts e).length).Rows.getD k 0 = gotN e (parts e)[k] := by
   unfold scgTo; dsimp only; rw [List.take_length, List.getD_eq_getElem?_getD, List.getElem?_map, List.getElem?_eq_getElem hk2]; rfl
  obtain ⟨i, hi, hf, hid, hpp⟩ := part_at h hk2
  have ha := act_at2 hi hf
  rw [t1, t2]
  unfold tenOf gotN
  rw [ha]
  have h5 := okQ_ten (okActive_iff.1 (hk.as _ (List.getElem_mem hi))).q
  have h6 : (gotA e e.Active[i]).length ≤ (segV e).length := Nat.le_trans (List.length_filter_le _ _) (visL_len _ _)
  simp only [inB, Bool.and_eq_true, decide_eq_true_eq]
  omega
 rw [e4, e1, e2, e3, hset]
 simp only [inB, Bool.true_and, Bool.and_true, Bool.and_eq_true, decide_eq_true_eq]
 exact ⟨⟨⟨by omega, by omega⟩, by omega, by omega⟩, ⟨by omega, by omega⟩, by omega, by omega⟩
theorem reclaimE_ok {e : Engine} (h : okEngine e = true) : okEngine (reclaimE e) = true := by
 have hk := okEngine_iff.1 h
 have hr := reclaim_len (s := e.Store) (timesA e.Active)
 rw [okEngine_iff]
 unfold reclaimE
 refine ⟨reclaim_ok _ hk.so, hk.c0, ?_, hk.od, hk.s0, hk.s1, hk.a8, hk.d1, hk.l1, fun a ha => ?_, hk.pw, fun f hf => ?_, hk.cs⟩
 ·dsimp only; rw [hr.1]; exact hk.c1
 ·dsimp only; rw [okActive_iff, hr.1, hr.2, ← okActive_iff]; exact hk.as a ha
 ·dsimp only; rw [hr.2]; exact hk.fs f hf
theorem EngB.reclaim {N : Nat} {e : Engine} (h : EngB N e) : EngB N (reclaimE e) := ⟨reclaimE_ok h.ok, h.st, h.ld, h.dn, h.ag⟩
theorem wthout_mem {l : List Int} {x y : Int} : y ∈ withoutI l x ↔ y ∈ l ∧ y ≠ x := by unfold withoutI; simp
theorem tmod_cur {c n : Int} (h0 : 0 ≤ c) (h1 : c < n) : (c + 1).tmod n = if c + 1 = n then 0 else c + 1 := by
 rw [Int.tmod_eq_emod_of_nonneg (by omega)]
 split
 ·rename_i h; rw [h, Int.emod_self]
 ·exact Int.emod_eq_of_lt (by omega) (by omega)
theorem step_B {N : Nat} {e : Engine} (h : EngB N e) (hN : N ≤ 249) : EngB (N + 1) (stepEng e) := by
 rw [step_yes (stepOk_of h (by omega))]
 refine EngB.reclaim ?_
 have hk := okEngine_iff.1 h.ok
 obtain ⟨ea, ed⟩ := step_acts h.ok
 have hb := h.ag
 have hst := h.st; have hld := h.ld; have hdn := h.dn
 have c0 := hk.c0; have c1 := hk.c1
 have hcur := tmod_cur c0 c1
 have el : (stepE e).Ledger = ledTo e (parts e).length := rfl
 have hll : (stepE e).Ledger.length ≤ e.Ledger.length + 1 := by
  rw [el]; unfold ledTo; split
  ·omega
  ·rw [List.length_append]; simp
 have hrows : ∀ a ∈ e.Active, (nxA e a).Rows.length ≤ 4 * (N + 1) ∧ ∀ r ∈ (nxA e a).Rows, okRow r = true := by
  intro a ha
  have h1 := hb a ha
  have h2 := gotA_len h.ok a
  have h3 := okActive_iff.1 (hk.as a ha)
  rw [nxA_rows]
  split
  ·rw [List.length_append]
   refine ⟨by omega, fun r hr => ?_⟩
   rcases List.mem_append.1 hr with hr | hr
   ·exact h3.rk r hr
   ·exact gotA_ok h.ok a r hr
  ·exact ⟨by omega, h3.rk⟩
 have hsent : ∀ a ∈ e.Active, 0 ≤ (nxA e a).Sent ∧ (nxA e a).Sent ≤ 4 * ((N : Int) + 1) := by
  intro a ha
  have h1 := hb a ha
  have h2 := gotA_len h.ok a
  have h3 := okActive_iff.1 (hk.as a ha)
  have h4 := h3.sn0
  rw [nxA_sent]
  split
  ·omega
  ·split <;> omega
 have hsplit : ((e.Active.map (nxA e)).filter fun a => !endP a).length + ((e.Active.map (nxA e)).filter endP).length = e.Active.length := by
  have := split_len (e.Active.map (nxA e)); rw [List.length_map] at this; exact this
 have mem : ∀ b, b ∈ (stepE e).Active → ∃ a ∈ e.Active, b = nxA e a ∧ endP b = false := by
  intro b hb2
  rw [ea] at hb2
  obtain ⟨hb2, he⟩ := List.mem_filter.1 hb2
  obtain ⟨a, ha, rfl⟩ := List.mem_map.1 hb2
  exact ⟨a, ha, rfl, by simpa using he⟩
 refine ⟨?_, by show e.Steps + 1 ≤ _; omega, by omega, ?_, ?_⟩
 ·rw [okEngine_iff]
  refine ⟨hk.so, ?_, ?_, hk.od, by show 0 ≤ e.Steps + 1; have := hk.s0; omega, by show e.Steps + 1 ≤ 100000; omega, ?_, ?_, by omega, ?_, ?_, ?_, ?_⟩
  ·show 0 ≤ (e.Cursor + 1).tmod _; rw [hcur]; split <;> omega
  ·show (e.Cursor + 1).tmod (e.Store.Segments.length : Int) < (e.Store.Segments.length : Int); rw [hcur]; split <;> omega
  ·rw [ea]; have := hk.a8; omega
  ·rw [ed, List.length_append, List.length_map]; omega
  ·intro b hb2
   obtain ⟨a, ha, rfl, he⟩ := mem b hb2
   have h3 := okActive_iff.1 (hk.as a ha)
   have hq := nxA_q (e := e) (a := a)
   have h5 := hrows a ha; have h6 := hsent a ha; have h7 := hb a ha
   rw [okActive_iff]
   have ht : (nxA e a).Todo.Sublist a.Todo := by
    rw [nxA_todo]; split
    ·exact List.filter_sublist
    ·exact List.Sublist.refl _
   refine ⟨?_, h3.tp.sublist ht, fun x hx => h3.tr x (ht.subset hx), by rw [hq.1]; exact h3.q, by rw [hq.2.1]; exact h3.tm0, by rw [hq.2.1]; exact h3.tm1, by rw [hq.2.2.2]; have := h3.ag0; omega, by rw [hq.2.2.2]; omega, h6.1, by omega, by rw [hq.2.2.1]; exact h3.cp0, by rw [hq.2.2.1]; exact h3.cp1, h5.2, by omega⟩
   unfold endP at he
   simp only [decide_eq_false_iff_not] at he
   omega
  ·rw [ea]
   refine List.Pairwise.filter _ ?_
   rw [List.pairwise_map]
   refine hk.pw.imp fun {a b} k => ?_
   rw [nxA_q.1, nxA_q.1]; exact k
  ·rw [ed]
   intro f hf
   rcases List.mem_append.1 hf with hf | hf
   ·exact hk.fs f hf
   ·obtain ⟨b, hb2, rfl⟩ := List.mem_map.1 hf
    obtain ⟨hb2, _⟩ := List.mem_filter.1 hb2
    obtain ⟨a, ha, rfl⟩ := List.mem_map.1 hb2
    have h3 := okActive_iff.1 (hk.as a ha)
    have hq := nxA_q (e := e) (a := a)
    have h5 := hrows a ha; have h7 := hb a ha
    rw [okFin_iff]
    unfold finA
    dsimp only
    rw [hq.1, hq.2.1, hq.2.2.2]
    have := h3.ag0
    exact ⟨h3.q, ⟨h3.tm0, h3.tm1⟩, ⟨by omega, by omega⟩, h5.2, by omega⟩
  ·rw [el]
   intro c hc
   unfold ledTo at hc
   split at hc
   ·exact hk.cs c hc
   ·rcases List.mem_append.1 hc with hc | hc
    ·exact hk.cs c hc
    ·rw [List.mem_singleton.1 hc]
     exact scg_ok h.ok (by omega)
 ·rw [ea, ed, List.length_append, List.length_map]; omega
 ·intro b hb2
  obtain ⟨a, ha, rfl, he⟩ := mem b hb2
  have hq := nxA_q (e := e) (a := a)
  have h5 := hrows a ha; have h6 := hsent a ha; have h7 := hb a ha
  rw [hq.2.2.2]
  omega
theorem cancel_B {N : Nat} {e : Engine} (h : EngB N e) (id : Int) : EngB N (cancelE e id).1 := by
 cases hc : cancelOk e id with
 | false => rw [cancel_no hc]; exact h
 | true =>
  rw [cancel_yes hc]
  refine EngB.reclaim ?_
  have hk := okEngine_iff.1 h.ok
  have hs : (delZ e.Active (findA e.Active id).toNat).Sublist e.Active := by
   unfold delZ
   conv => rhs; rw [← List.take_append_drop (findA e.Active id).toNat e.Active]
   exact List.Sublist.append (List.Sublist.refl _) (by rw [List.drop_add_one_eq_tail_drop]; exact List.tail_sublist _)
  have hl := hs.length_le
  have hdn := h.dn; have a8 := hk.a8
  refine ⟨?_, h.st, h.ld, by show e.Done.length + (delZ e.Active _).length ≤ N; omega, fun a ha => h.ag a (hs.subset ha)⟩
  rw [okEngine_iff]
  exact ⟨hk.so, hk.c0, hk.c1, hk.od, hk.s0, hk.s1, by show (delZ e.Active _).length ≤ 8; omega, hk.d1, hk.l1, fun a ha => hk.as a (hs.subset ha), hk.pw.sublist hs, hk.fs, hk.cs⟩
theorem todoTo_get {n : Nat} : ∀ x ∈ todoTo n, 0 ≤ x ∧ x < n := by
 intro x hx
 unfold todoTo at hx
 obtain ⟨i, hi, rfl⟩ := List.mem_map.1 hx
 have := List.mem_range.1 hi
 omega
theorem newAct_ok {e : Engine} {q : Query} {l : Int} (h : okEngine e = true) (hq : okQuery q = true) (hl : 0 ≤ l ∧ l ≤ 32) : okActive e.Store (newAct e q l) = true := by
 have hk := okEngine_iff.1 h
 have hs := okStore_iff.1 hk.so
 have l1 := hs.l1
 rw [okActive_iff]
 unfold newAct
 refine ⟨by rw [todoTo_len]; omega, ?_, todoTo_get, hq, hs.n0, Int.le_refl _, Int.le_refl 0, by show (0 : Int) ≤ 100000; decide, Int.le_refl 0, by show (0 : Int) ≤ 1000; decide, hl.1, hl.2, by simp, by simp⟩
 unfold todoTo
 rw [List.pairwise_map]
 refine (List.pairwise_lt_range).imp fun {a b} k => by omega
theorem admAct_perm {e : Engine} {q : Query} {l : Int} (h : okEngine e = true) : (admAct e q l).Perm (newAct e q l :: e.Active) := by
 have hc := filt_take (fun a : Active => a.Query.Id) q.Id (acts_pw h)
 have e1 : e.Active.filter (ltId q.Id) = e.Active.take (cutA e.Active q.Id) := hc
 unfold admAct
 rw [e1]
 refine List.perm_middle.trans ?_
 rw [List.take_append_drop]
theorem admAct_pw {e : Engine} {q : Query} {l : Int} (h : okEngine e = true) (hf : findA e.Active q.Id < 0) : (admAct e q l).Pairwise fun a b => a.Query.Id < b.Query.Id := by
 have hp := acts_pw h
 have hc := filt_take (fun a : Active => a.Query.Id) q.Id hp
 have e1 : e.Active.filter (ltId q.Id) = e.Active.take (cutA e.Active q.Id) := hc
 have hcut := fun (k : Nat) (hk : k < e.Active.length) => cut_lt (x := q.Id) h hk
 have hge : ∀ b ∈ e.Active.drop (cutA e.Active q.Id), q.Id < b.Query.Id := by
  intro b hb
  obtain ⟨j, hj, rfl⟩ := List.mem_iff_getElem.1 hb
  rw [List.length_drop] at hj
  rw [List.getElem_drop]
  have h1 := hcut (cutA e.Active q.Id + j) (by omega)
  have h2 := no_id hf (show cutA e.Active q.Id + j < e.Active.length by omega)
  omega
 have hlt : ∀ b ∈ e.Active.take (cutA e.Active q.Id), b.Query.Id < q.Id := by
  intro b hb
  rw [← e1] at hb
  have := (List.mem_filter.1 hb).2
  unfold ltId at this; simpa using this
 unfold admAct
 rw [e1, List.pairwise_append, List.pairwise_cons]
 refine ⟨hp.sublist (List.take_sublist _ _), ⟨fun b hb => hge b hb, hp.sublist (List.drop_sublist _ _)⟩, fun a ha b hb => ?_⟩
 have h1 := hlt a ha
 rcases List.mem_cons.1 hb with rfl | hb
 ·exact h1
 ·have := hge b hb; omega
theorem admit_B {N : Nat} {e : Engine} (h : EngB N e) (hN : N ≤ 900) (q : Query) (l : Int) : EngB (N + 1) (admitE e q l).1 := by
 cases ha : admitOk e q l with
 | false => rw [admit_no ha]; exact h.le (by omega)
 | true =>
  rw [admit_yes ha]
  obtain ⟨h1, h2, h3, h4, h5⟩ := admitOk_f ha
  have hk := okEngine_iff.1 h1
  have hp := admAct_perm (q := q) (l := l) h1
  have hl := hp.length_eq
  rw [List.length_cons] at hl
  have hdn := h.dn; have hst := h.st; have hld := h.ld
  have mem : ∀ a ∈ admAct e q l, a = newAct e q l ∨ a ∈ e.Active := fun a ha => List.mem_cons.1 (hp.mem_iff.1 ha)
  refine ⟨?_, by dsimp only; omega, by dsimp only; omega, by dsimp only; omega, fun a ha => ?_⟩
  ·rw [okEngine_iff]
   refine ⟨hk.so, hk.c0, hk.c1, hk.od, hk.s0, hk.s1, by dsimp only; omega, hk.d1, hk.l1, fun a ha => ?_, by exact admAct_pw (e := e) h1 h4, hk.fs, hk.cs⟩
   rcases mem a ha with rfl | ha
   ·exact newAct_ok (e := e) h1 h2 h3
   ·exact hk.as a ha
  ·rcases mem a ha with rfl | ha
   ·unfold newAct; dsimp only; simp; omega
   ·have := h.ag a ha; omega
theorem new_B {s : Store} (h : okStore s = true) : EngB 0 ⟨s, 0, [0, 1, 2], [], [], [], 0⟩ := by
 have k := okStore_iff.1 h
 have l1 := k.l1
 refine ⟨?_, by simp, by simp, by simp, by simp⟩
 rw [okEngine_iff]
 exact ⟨h, Int.le_refl 0, by dsimp only; omega, by show okOrder [0, 1, 2] = true; decide, Int.le_refl 0, by show (0 : Int) ≤ 100000; decide, by simp, by simp, by simp, by simp, by simp, by simp, by simp⟩
end Go.Proofs.Ytmekkgdboplbjaa
