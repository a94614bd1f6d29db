/- Values that are read out of the memory, and who owns the blocks that they lead to. No condition. -/
import Derived.WalkKit
import Derived.Laws.OwnMore
import Derived.Deep.OwnRows
import Derived.Laws.MakeOwn
import Derived.Orders
namespace Go.Proofs.Ytloipjaiceifbaa.M
open Go Go.RowKit

/-- Cells that stay as they are. -/
abbrev FzT := Nat → Nat → Prop
/-- From (Fz, w) to (Fz', w'): what stays as it is stays so. -/
def Keeps (Fz : FzT) (w : World) (Fz' : FzT) (w' : World) : Prop := ∀ b o, Fz b o → Fz' b o ∧ w'.cell? ⟨b, o, none⟩ = w.cell? ⟨b, o, none⟩
theorem Keeps.refl (Fz : FzT) (w : World) : Keeps Fz w Fz w := fun _ _ h => ⟨h, rfl⟩
theorem Keeps.trans {F1 F2 F3 : FzT} {w1 w2 w3 : World} (h : Keeps F1 w1 F2 w2) (k : Keeps F2 w2 F3 w3) : Keeps F1 w1 F3 w3 :=
  fun b o hb => ⟨(k b o (h b o hb).1).1, (k b o (h b o hb).1).2.trans (h b o hb).2⟩
/-- The blocks F are as they were, and no cell of theirs is newly said to stay. -/
def Holds (F : List Nat) (Fz : FzT) (w : World) (Fz' : FzT) (w' : World) : Prop := ∀ b, b ∈ F → w'.heap[b]? = w.heap[b]? ∧ ∀ o, Fz' b o → Fz b o
theorem Holds.refl (F : List Nat) (Fz : FzT) (w : World) : Holds F Fz w Fz w := fun _ _ => ⟨rfl, fun _ h => h⟩
theorem Holds.sub {F G : List Nat} {Fz Fz' : FzT} {w w' : World} (h : Holds F Fz w Fz' w') (hs : ∀ b, b ∈ G → b ∈ F) : Holds G Fz w Fz' w' := fun b hb => h b (hs b hb)

/-- A value of one cell, as it is known. own: with the blocks that are its own alone. -/
structure PV where
  rel : FzT → World → Value → Prop
  own : FzT → World → Value → List Nat → Prop
  one : ∀ {Fz : FzT} {w : World} {v : Value}, rel Fz w v → v.oneCell' = true
  toRel : ∀ {Fz : FzT} {w : World} {v : Value} {F : List Nat}, own Fz w v F → rel Fz w v
  relMono : ∀ {Fz Fz' : FzT} {w w' : World} {v : Value}, rel Fz w v → Keeps Fz w Fz' w' → rel Fz' w' v
  ownMono : ∀ {Fz Fz' : FzT} {w w' : World} {v : Value} {F : List Nat}, own Fz w v F → Keeps Fz w Fz' w' → Holds F Fz w Fz' w' → own Fz' w' v F
  lt : ∀ {Fz : FzT} {w : World} {v : Value} {F : List Nat}, own Fz w v F → ∀ b, b ∈ F → b < w.heap.size

/-- The value itself. -/
def PV.val (x : Value) : PV where
  rel _ _ v := v = x ∧ x.oneCell' = true
  own _ _ v F := (v = x ∧ x.oneCell' = true) ∧ F = []
  one h := by rw [h.1]; exact h.2
  toRel h := h.1
  relMono h _ := h
  ownMono h _ _ := h
  lt h := by rw [h.2]; simp

def RelL : List PV → FzT → World → List Value → Prop
  | [], _, _, vs => vs = []
  | p :: ps, Fz, w, vs => ∃ v vs', vs = v :: vs' ∧ p.rel Fz w v ∧ RelL ps Fz w vs'
def OwnL : List PV → FzT → World → List Value → List Nat → Prop
  | [], _, _, vs, F => vs = [] ∧ F = []
  | p :: ps, Fz, w, vs, F => ∃ v vs' F1 F2, vs = v :: vs' ∧ F = F1 ++ F2 ∧ p.own Fz w v F1 ∧ OwnL ps Fz w vs' F2
/-- Rows of e cells. -/
def OwnLL (e : Nat) : List (List PV) → FzT → World → List Value → List Nat → Prop
  | [], _, _, vs, F => vs = [] ∧ F = []
  | cs :: es, Fz, w, vs, F => ∃ c d F1 F2, vs = c ++ d ∧ F = F1 ++ F2 ∧ c.length = e ∧ OwnL cs Fz w c F1 ∧ OwnLL e es Fz w d F2

section
variable {Fz Fz' : FzT} {w w' : World}
theorem RelL.len : ∀ {ps : List PV} {vs : List Value}, RelL ps Fz w vs → vs.length = ps.length
  | [], vs, h => by rw [show vs = [] from h]; rfl
  | p :: ps, vs, h => by obtain ⟨v, vs', rfl, _, h2⟩ := h; simp [RelL.len h2]
theorem RelL.one : ∀ {ps : List PV} {vs : List Value}, RelL ps Fz w vs → ∀ v, v ∈ vs → v.oneCell' = true
  | [], vs, h => by rw [show vs = [] from h]; simp
  | p :: ps, vs, h => by
    obtain ⟨v, vs', rfl, h1, h2⟩ := h
    intro u hu
    rcases List.mem_cons.1 hu with rfl | hu
    · exact p.one h1
    · exact RelL.one h2 u hu
theorem RelL.mono : ∀ {ps : List PV} {vs : List Value}, RelL ps Fz w vs → Keeps Fz w Fz' w' → RelL ps Fz' w' vs
  | [], _, h, _ => h
  | p :: ps, vs, h, k => by obtain ⟨v, vs', rfl, h1, h2⟩ := h; exact ⟨v, vs', rfl, p.relMono h1 k, RelL.mono h2 k⟩
theorem RelL.at_ : ∀ {ps : List PV} {vs : List Value}, RelL ps Fz w vs → ∀ {j : Nat} {p : PV}, ps[j]? = some p → ∃ v, vs[j]? = some v ∧ p.rel Fz w v
  | [], vs, _, j, p, hp => by simp at hp
  | q :: ps, vs, h, 0, p, hp => by
    obtain ⟨v, vs', rfl, h1, _⟩ := h
    simp at hp; subst hp
    exact ⟨v, rfl, h1⟩
  | q :: ps, vs, h, j + 1, p, hp => by
    obtain ⟨v, vs', rfl, _, h2⟩ := h
    simp at hp
    simpa using RelL.at_ h2 hp
theorem RelL.of_at : ∀ {ps : List PV} {vs : List Value}, vs.length = ps.length → (∀ (j : Nat) (p : PV) (v : Value), ps[j]? = some p → vs[j]? = some v → p.rel Fz w v) → RelL ps Fz w vs
  | [], [], _, _ => rfl
  | p :: ps, v :: vs, hl, h => ⟨v, vs, rfl, h 0 p v rfl rfl, RelL.of_at (by simpa using hl) fun j q u hq hu => h (j + 1) q u (by simpa using hq) (by simpa using hu)⟩
theorem RelL.append : ∀ {ps qs : List PV} {vs us : List Value}, RelL ps Fz w vs → RelL qs Fz w us → RelL (ps ++ qs) Fz w (vs ++ us)
  | [], _, vs, _, h, k => by rw [show vs = [] from h]; exact k
  | p :: ps, _, vs, _, h, k => by obtain ⟨v, vs', rfl, h1, h2⟩ := h; exact ⟨v, _, rfl, h1, RelL.append h2 k⟩
theorem RelL.split : ∀ {ps qs : List PV} {vs : List Value}, RelL (ps ++ qs) Fz w vs → ∃ v1 v2, vs = v1 ++ v2 ∧ RelL ps Fz w v1 ∧ RelL qs Fz w v2
  | [], _, vs, h => ⟨[], vs, rfl, rfl, h⟩
  | p :: ps, _, vs, h => by
    obtain ⟨v, vs', rfl, h1, h2⟩ := h
    obtain ⟨v1, v2, rfl, k1, k2⟩ := RelL.split h2
    exact ⟨v :: v1, v2, rfl, ⟨v, v1, rfl, h1, k1⟩, k2⟩
theorem OwnL.rel : ∀ {ps : List PV} {vs : List Value} {F : List Nat}, OwnL ps Fz w vs F → RelL ps Fz w vs
  | [], _, _, h => h.1
  | p :: ps, vs, _, h => by obtain ⟨v, vs', F1, F2, rfl, _, h1, h2⟩ := h; exact ⟨v, vs', rfl, p.toRel h1, OwnL.rel h2⟩
theorem OwnL.len {ps : List PV} {vs : List Value} {F : List Nat} (h : OwnL ps Fz w vs F) : vs.length = ps.length := h.rel.len
theorem OwnL.one {ps : List PV} {vs : List Value} {F : List Nat} (h : OwnL ps Fz w vs F) : ∀ v, v ∈ vs → v.oneCell' = true := h.rel.one
theorem OwnL.mono : ∀ {ps : List PV} {vs : List Value} {F : List Nat}, OwnL ps Fz w vs F → Keeps Fz w Fz' w' → Holds F Fz w Fz' w' → OwnL ps Fz' w' vs F
  | [], _, _, h, _, _ => h
  | p :: ps, vs, _, h, k, hh => by
    obtain ⟨v, vs', F1, F2, rfl, rfl, h1, h2⟩ := h
    exact ⟨v, vs', F1, F2, rfl, rfl, p.ownMono h1 k (hh.sub fun b hb => by simp [hb]), OwnL.mono h2 k (hh.sub fun b hb => by simp [hb])⟩
theorem OwnL.lt : ∀ {ps : List PV} {vs : List Value} {F : List Nat}, OwnL ps Fz w vs F → ∀ b, b ∈ F → b < w.heap.size
  | [], _, _, h => by rw [h.2]; simp
  | p :: ps, vs, _, h => by
    obtain ⟨v, vs', F1, F2, rfl, rfl, h1, h2⟩ := h
    intro b hb
    rcases List.mem_append.1 hb with hb | hb
    · exact p.lt h1 b hb
    · exact OwnL.lt h2 b hb
theorem OwnL.append : ∀ {ps qs : List PV} {vs us : List Value} {F G : List Nat}, OwnL ps Fz w vs F → OwnL qs Fz w us G → OwnL (ps ++ qs) Fz w (vs ++ us) (F ++ G)
  | [], _, vs, _, F, _, h, k => by rw [show vs = [] from h.1, show F = [] from h.2]; exact k
  | p :: ps, _, vs, us, _, G, h, k => by
    obtain ⟨v, vs', F1, F2, rfl, rfl, h1, h2⟩ := h
    exact ⟨v, vs' ++ us, F1, F2 ++ G, rfl, by simp, h1, OwnL.append h2 k⟩
theorem OwnL.split : ∀ {ps qs : List PV} {vs : List Value} {F : List Nat}, OwnL (ps ++ qs) Fz w vs F → ∃ v1 v2 F1 F2, vs = v1 ++ v2 ∧ F = F1 ++ F2 ∧ OwnL ps Fz w v1 F1 ∧ OwnL qs Fz w v2 F2
  | [], _, vs, F, h => ⟨[], vs, [], F, rfl, rfl, ⟨rfl, rfl⟩, h⟩
  | p :: ps, _, vs, _, h => by
    obtain ⟨v, vs', G1, G2, rfl, rfl, h1, h2⟩ := h
    obtain ⟨v1, v2, F1, F2, rfl, rfl, k1, k2⟩ := OwnL.split h2
    exact ⟨v :: v1, v2, G1 ++ F1, F2, rfl, by simp, ⟨v, v1, G1, F1, rfl, rfl, h1, k1⟩, k2⟩
theorem OwnLL.len {e : Nat} : ∀ {es : List (List PV)} {vs : List Value} {F : List Nat}, OwnLL e es Fz w vs F → vs.length = es.length * e
  | [], vs, _, h => by rw [show vs = [] from h.1]; simp
  | cs :: es, vs, _, h => by
    obtain ⟨c, d, F1, F2, rfl, _, hl, _, h2⟩ := h
    rw [List.length_append, hl, OwnLL.len h2, List.length_cons, Nat.succ_mul]; omega
theorem OwnLL.one {e : Nat} : ∀ {es : List (List PV)} {vs : List Value} {F : List Nat}, OwnLL e es Fz w vs F → ∀ v, v ∈ vs → v.oneCell' = true
  | [], vs, _, h => by rw [show vs = [] from h.1]; simp
  | cs :: es, vs, _, h => by
    obtain ⟨c, d, F1, F2, rfl, _, _, h1, h2⟩ := h
    intro v hv
    rcases List.mem_append.1 hv with hv | hv
    · exact h1.one v hv
    · exact OwnLL.one h2 v hv
theorem OwnLL.mono {e : Nat} : ∀ {es : List (List PV)} {vs : List Value} {F : List Nat}, OwnLL e es Fz w vs F → Keeps Fz w Fz' w' → Holds F Fz w Fz' w' → OwnLL e es Fz' w' vs F
  | [], _, _, h, _, _ => h
  | cs :: es, vs, _, h, k, hh => by
    obtain ⟨c, d, F1, F2, rfl, rfl, hl, h1, h2⟩ := h
    exact ⟨c, d, F1, F2, rfl, rfl, hl, h1.mono k (hh.sub fun b hb => by simp [hb]), OwnLL.mono h2 k (hh.sub fun b hb => by simp [hb])⟩
theorem OwnLL.lt {e : Nat} : ∀ {es : List (List PV)} {vs : List Value} {F : List Nat}, OwnLL e es Fz w vs F → ∀ b, b ∈ F → b < w.heap.size
  | [], _, _, h => by rw [h.2]; simp
  | cs :: es, vs, _, h => by
    obtain ⟨c, d, F1, F2, rfl, rfl, _, h1, h2⟩ := h
    intro b hb
    rcases List.mem_append.1 hb with hb | hb
    · exact h1.lt b hb
    · exact OwnLL.lt h2 b hb
theorem OwnLL.append {e : Nat} : ∀ {es ds : List (List PV)} {vs us : List Value} {F G : List Nat}, OwnLL e es Fz w vs F → OwnLL e ds Fz w us G → OwnLL e (es ++ ds) Fz w (vs ++ us) (F ++ G)
  | [], _, vs, _, F, _, h, k => by rw [show vs = [] from h.1, show F = [] from h.2]; exact k
  | cs :: es, _, vs, us, _, G, h, k => by
    obtain ⟨c, d, F1, F2, rfl, rfl, hl, h1, h2⟩ := h
    exact ⟨c, d ++ us, F1, F2 ++ G, by simp, by simp, hl, h1, OwnLL.append h2 k⟩
theorem OwnLL.lens {e : Nat} : ∀ {es : List (List PV)} {vs : List Value} {F : List Nat}, OwnLL e es Fz w vs F → ∀ cs, cs ∈ es → cs.length = e
  | [], _, _, _ => by simp
  | cs :: es, vs, _, h => by
    obtain ⟨c, d, F1, F2, rfl, _, hl, h1, h2⟩ := h
    intro x hx
    rcases List.mem_cons.1 hx with rfl | hx
    · rw [← h1.len]; exact hl
    · exact OwnLL.lens h2 x hx
theorem OwnLL.at_ {e : Nat} : ∀ {es : List (List PV)} {vs : List Value} {F : List Nat}, OwnLL e es Fz w vs F → ∀ {i : Nat} {cs : List PV}, es[i]? = some cs →
    ∀ (j : Nat) (p : PV), cs[j]? = some p → ∃ v, vs[i * e + j]? = some v ∧ p.rel Fz w v
  | [], _, _, _, i, cs, hi => by simp at hi
  | ds :: es, vs, _, h, 0, cs, hi => by
    obtain ⟨c, d, F1, F2, rfl, _, hl, h1, h2⟩ := h
    simp at hi; subst hi
    intro j p hp
    obtain ⟨v, hv, hr⟩ := h1.rel.at_ hp
    refine ⟨v, ?_, hr⟩
    rw [Nat.zero_mul, Nat.zero_add, List.getElem?_append_left (List.getElem?_eq_some_iff.1 hv).1]; exact hv
  | ds :: es, vs, _, h, i + 1, cs, hi => by
    obtain ⟨c, d, F1, F2, rfl, _, hl, h1, h2⟩ := h
    intro j p hp
    obtain ⟨v, hv, hr⟩ := OwnLL.at_ h2 (by simpa using hi) j p hp
    refine ⟨v, ?_, hr⟩
    rw [Nat.succ_mul, List.getElem?_append_right (by omega), hl]
    rw [← hv]; congr 1; omega
/-- A row of rows, each read only. -/
theorem OwnLL.of_bor {e : Nat} : ∀ {es : List (List PV)} {vs : List Value}, vs.length = es.length * e → (∀ cs, cs ∈ es → cs.length = e) →
    (∀ i cs j p v, es[i]? = some cs → cs[j]? = some p → vs[i * e + j]? = some v → p.own Fz w v []) → OwnLL e es Fz w vs []
  | [], vs, hl, _, _ => ⟨List.eq_nil_of_length_eq_zero (by simpa using hl), rfl⟩
  | cs :: es, vs, hl, hc, h => by
    have h0 := hc cs (by simp)
    rw [List.length_cons, Nat.succ_mul] at hl
    have key : ∀ (ps : List PV) (us : List Value), us.length = ps.length → (∀ (j : Nat) (p : PV) (v : Value), ps[j]? = some p → us[j]? = some v → p.own Fz w v []) → OwnL ps Fz w us [] := by
      intro ps
      induction ps with
      | nil => intro us hu _; exact ⟨List.eq_nil_of_length_eq_zero (by simpa using hu), rfl⟩
      | cons p ps ih =>
        intro us hu hh
        cases us with
        | nil => simp at hu
        | cons u us => exact ⟨u, us, [], [], rfl, rfl, hh 0 p u rfl rfl, ih us (by simpa using hu) fun j q v hq hv => hh (j + 1) q v (by simpa using hq) (by simpa using hv)⟩
    refine ⟨vs.take e, vs.drop e, [], [], (List.take_append_drop _ _).symm, rfl, by rw [List.length_take]; omega, key cs _ (by rw [List.length_take]; omega) ?_, OwnLL.of_bor (by rw [List.length_drop]; omega) (fun c hc' => hc c (by simp [hc'])) ?_⟩
    · intro j p v hp hv
      have hj : j < e := by rw [← h0]; exact (List.getElem?_eq_some_iff.1 hp).1
      refine h 0 cs j p v rfl hp ?_
      rw [List.getElem?_take_of_lt hj] at hv
      simpa using hv
    · intro i ds j p v hi hp hv
      refine h (i + 1) ds j p v (by simpa using hi) hp ?_
      rw [List.getElem?_drop] at hv
      rw [← hv]; congr 1; rw [Nat.succ_mul]; omega
end

/-- A slice, read. -/
def SlRel (es : List (List PV)) (Fz : FzT) (w : World) (v : Value) : Prop :=
  ∃ (a : Option Addr) (c e : Nat) (u : Nat → Nat → Value), v = .slice a es.length c ∧ es.length ≤ c ∧ c ≤ maxLen ∧ (∀ cs, cs ∈ es → cs.length = e) ∧
    (es = [] ∨ ∃ b off, a = some ⟨b, off, none⟩ ∧ ∀ i j, i < es.length → j < e → Fz b (off + (i * e + j)) ∧ w.cell? ⟨b, off + (i * e + j), none⟩ = some (u i j)) ∧
    ∀ i cs j (p : PV), es[i]? = some cs → cs[j]? = some p → p.rel Fz w (u i j)
/-- Every cell of the array holds one cell. -/
def OneB (w : World) (v : Value) : Prop := ∀ g, v.ownBlock = some g → ∀ cur t o, w.heap[g]? = some (.cells cur t o) → ∀ x, x ∈ cur.toList → x.oneCell' = true
/-- A slice whose array is its own (t, e: an element's type and cells). -/
def SlOwn (t e : Nat) (es : List (List PV)) (Fz : FzT) (w : World) (v : Value) (F : List Nat) : Prop :=
  ∃ css F', w.ownsRow 0 t e v es.length css ∧ OwnLL e es Fz w css F' ∧ (∀ g, v.ownBlock = some g → ∀ o, Fz g o ↔ o < es.length * e) ∧ F = v.ownBlock.toList ++ F' ∧ OneB w v

theorem SlRel.mono {es : List (List PV)} {Fz Fz' : FzT} {w w' : World} {v : Value} (h : SlRel es Fz w v) (k : Keeps Fz w Fz' w') : SlRel es Fz' w' v := by
  obtain ⟨a, c, e, u, rfl, h1, h2, h3, h4, h5⟩ := h
  refine ⟨a, c, e, u, rfl, h1, h2, h3, ?_, fun i cs j p hi hj => p.relMono (h5 i cs j p hi hj) k⟩
  rcases h4 with h4 | ⟨b, off, ha, h4⟩
  · exact .inl h4
  · exact .inr ⟨b, off, ha, fun i j hi hj => ⟨(k _ _ (h4 i j hi hj).1).1, (k _ _ (h4 i j hi hj).1).2.trans (h4 i j hi hj).2⟩⟩
theorem SlOwn.rel {t e : Nat} {es : List (List PV)} {Fz : FzT} {w : World} {v : Value} {F : List Nat} (h : SlOwn t e es Fz w v F) : SlRel es Fz w v := by
  obtain ⟨css, F', ho, hl, hf, _, _⟩ := h
  have hlen := hl.len
  have hu : ∀ i cs j (p : PV), es[i]? = some cs → cs[j]? = some p → p.rel Fz w (css.getD (i * e + j) undef) := by
    intro i cs j p hi hj
    obtain ⟨x, hx, hr⟩ := hl.at_ hi j p hj
    rw [List.getD_eq_getElem?_getD, hx]; exact hr
  rcases ho.2 with ⟨rfl, hn⟩ | ⟨g, cap, cur, rfl, _, hg, hnc, hcm, hcs, htake⟩
  · have he : es = [] := List.eq_nil_of_length_eq_zero hn
    subst he
    exact ⟨none, 0, e, fun i j => css.getD (i * e + j) undef, rfl, Nat.le_refl _, Nat.zero_le _, by simp, .inl rfl, hu⟩
  · refine ⟨_, cap, e, fun i j => css.getD (i * e + j) undef, rfl, hnc, hcm, hl.lens, ?_, hu⟩
    by_cases he : es = []
    · exact .inl he
    · refine .inr ⟨g, 0, rfl, fun i j hi hj => ?_⟩
      have hlt : i * e + j < es.length * e := by
        have : (i + 1) * e ≤ es.length * e := Nat.mul_le_mul_right _ hi
        rw [Nat.succ_mul] at this; omega
      rw [Nat.zero_add]
      refine ⟨(hf g rfl _).2 hlt, ?_⟩
      show w.cell? ⟨g, i * e + j, none⟩ = some (css.getD (i * e + j) undef)
      rw [cell_of_row w g _ cur t (0, 0) hg, List.getD_eq_getElem?_getD, ← htake, List.getElem?_take_of_lt hlt]
      have hsz : i * e + j < cur.size := by rw [hcs]; exact Nat.lt_of_lt_of_le hlt (Nat.mul_le_mul_right _ hnc)
      simp [hsz]
theorem SlOwn.mono {t e : Nat} {es : List (List PV)} {Fz Fz' : FzT} {w w' : World} {v : Value} {F : List Nat} (h : SlOwn t e es Fz w v F) (k : Keeps Fz w Fz' w') (hh : Holds F Fz w Fz' w') : SlOwn t e es Fz' w' v F := by
  obtain ⟨css, F', ho, hl, hf, rfl, h1⟩ := h
  refine ⟨css, F', ⟨ho.1, ?_⟩, hl.mono k (hh.sub fun b hb => by simp [hb]), ?_, rfl, ?_⟩
  · rcases ho.2 with hn | ⟨g, cap, cur, rfl, hb, hg, rest⟩
    · exact .inl hn
    · exact .inr ⟨g, cap, cur, rfl, hb, (hh g (by simp [Value.ownBlock])).1.trans hg, rest⟩
  · intro g hg o
    refine ⟨fun h => (hf g hg o).1 ((hh g (by simp [hg])).2 o h), fun h => (k g o ((hf g hg o).2 h)).1⟩
  · intro g hg cur t' o hc
    rw [(hh g (by simp [hg])).1] at hc
    exact h1 g hg cur t' o hc
theorem SlOwn.lt {t e : Nat} {es : List (List PV)} {Fz : FzT} {w : World} {v : Value} {F : List Nat} (h : SlOwn t e es Fz w v F) : ∀ b, b ∈ F → b < w.heap.size := by
  obtain ⟨css, F', ho, hl, hf, rfl, _⟩ := h
  intro b hb
  rcases List.mem_append.1 hb with hb | hb
  · cases hv : v.ownBlock with
    | none => rw [hv] at hb; simp at hb
    | some g => rw [hv] at hb; simp at hb; subst hb; exact (ho.lt _ hv).2
  · exact hl.lt b hb

/-- Who has a slice's array: it is read only; it lies below L and is read only; it is its own (an element's type and cells). -/
inductive Fl where
  | v
  | lo (L : Nat)
  | own (t e : Nat)
def LowB : Fl → Nat → Value → Prop
  | .lo L, m, v => m = 0 ∨ ∀ g, v.ownBlock = some g → g < L
  | _, _, _ => True
/-- A slice. -/
def PV.sl (o : Fl) (es : List (List PV)) : PV where
  rel Fz w v := SlRel es Fz w v ∧ LowB o es.length v
  own Fz w v F := match o with
    | .v => SlRel es Fz w v ∧ F = []
    | .lo L => (SlRel es Fz w v ∧ LowB (.lo L) es.length v) ∧ F = []
    | .own t e => SlOwn t e es Fz w v F
  one h := by obtain ⟨⟨a, c, e, u, rfl, _⟩, _⟩ := h; rfl
  toRel h := by
    cases o with
    | v => exact ⟨h.1, True.intro⟩
    | lo L => exact h.1
    | own t e => exact ⟨SlOwn.rel h, True.intro⟩
  relMono h k := ⟨h.1.mono k, h.2⟩
  ownMono h k hh := by
    cases o with
    | v => exact ⟨h.1.mono k, h.2⟩
    | lo L => exact ⟨⟨h.1.1.mono k, h.1.2⟩, h.2⟩
    | own t e => exact SlOwn.mono h k hh
  lt h := by
    cases o with
    | v => rw [h.2]; simp
    | lo L => rw [h.2]; simp
    | own t e => exact SlOwn.lt h

/-- Read only: nothing is its own. -/
def PV.Bor (p : PV) : Prop := ∀ {Fz : FzT} {w : World} {v : Value}, p.rel Fz w v → p.own Fz w v []
theorem PV.bor_val (x : Value) : (PV.val x).Bor := fun h => ⟨h, rfl⟩
theorem PV.bor_sl (es : List (List PV)) : (PV.sl .v es).Bor := fun h => ⟨h.1, rfl⟩
theorem PV.bor_lo (L : Nat) (es : List (List PV)) : (PV.sl (.lo L) es).Bor := fun h => ⟨h, rfl⟩
/-- What is read as p is read as q. -/
def PV.To (p q : PV) : Prop := ∀ {Fz : FzT} {w : World} {v : Value}, p.rel Fz w v → q.rel Fz w v
def ToL : List PV → List PV → Prop
  | [], [] => True
  | p :: ps, q :: qs => p.To q ∧ ToL ps qs
  | _, _ => False
def BorL (ps : List PV) : Prop := ∀ p, p ∈ ps → p.Bor
theorem PV.To.refl (p : PV) : p.To p := fun h => h
theorem ToL.refl : ∀ ps : List PV, ToL ps ps
  | [] => True.intro
  | _ :: ps => ⟨fun h => h, ToL.refl ps⟩
theorem ToL.len : ∀ {ps qs : List PV}, ToL ps qs → ps.length = qs.length
  | [], [], _ => rfl
  | _ :: _, _ :: _, h => by simp [ToL.len h.2]
theorem ToL.rel {Fz : FzT} {w : World} : ∀ {ps qs : List PV} {vs : List Value}, ToL ps qs → RelL ps Fz w vs → RelL qs Fz w vs
  | [], [], _, _, h => h
  | p :: ps, q :: qs, _, k, h => by obtain ⟨v, vs', rfl, h1, h2⟩ := h; exact ⟨v, vs', rfl, k.1 h1, ToL.rel k.2 h2⟩
theorem BorL.own {Fz : FzT} {w : World} : ∀ {ps : List PV} {vs : List Value}, BorL ps → RelL ps Fz w vs → OwnL ps Fz w vs []
  | [], _, _, h => ⟨h, rfl⟩
  | p :: ps, _, k, h => by
    obtain ⟨v, vs', rfl, h1, h2⟩ := h
    exact ⟨v, vs', [], [], rfl, rfl, k p (by simp) h1, BorL.own (fun q hq => k q (by simp [hq])) h2⟩
theorem BorL.nil : BorL [] := fun p hp => by simp at hp
theorem BorL.cons {p : PV} {ps : List PV} (h : p.Bor) (k : BorL ps) : BorL (p :: ps) := fun q hq => by
  rcases List.mem_cons.1 hq with rfl | hq
  · exact h
  · exact k q hq
theorem PV.to_sl {o : Fl} {es ds : List (List PV)} (hl : es.length = ds.length) (h : ∀ (i : Nat) (cs cs' : List PV), es[i]? = some cs → ds[i]? = some cs' → ToL cs cs') : (PV.sl o es).To (PV.sl .v ds) := by
  intro Fz w v hr
  obtain ⟨⟨a, c, e, u, rfl, h1, h2, h3, h4, h5⟩, _⟩ := hr
  refine ⟨⟨a, c, e, u, by rw [hl], by omega, h2, ?_, ?_, ?_⟩, True.intro⟩
  · intro cs hcs
    obtain ⟨i, hi, rfl⟩ := List.mem_iff_getElem.1 hcs
    have hi' : i < es.length := by omega
    have := h i es[i] ds[i] (List.getElem?_eq_getElem hi') (List.getElem?_eq_getElem hi)
    rw [← this.len]; exact h3 _ (List.getElem_mem hi')
  · rcases h4 with rfl | ⟨b, off, ha, h4⟩
    · exact .inl (List.eq_nil_of_length_eq_zero (by simpa using hl.symm))
    · exact .inr ⟨b, off, ha, fun i j hi hj => h4 i j (by omega) hj⟩
  · intro i cs' j q hi hj
    have hi' : i < es.length := by rw [hl]; exact (List.getElem?_eq_some_iff.1 hi).1
    have ht := h i es[i] cs' (List.getElem?_eq_getElem hi') hi
    have key : ∀ (ps qs : List PV) (j : Nat), ToL ps qs → qs[j]? = some q → ∃ p, ps[j]? = some p ∧ p.To q := by
      intro ps
      induction ps with
      | nil => intro qs j ht hq; cases qs <;> simp_all [ToL]
      | cons p ps ih =>
        intro qs j ht hq
        cases qs with
        | nil => simp at hq
        | cons q' qs =>
          cases j with
          | zero => simp at hq; subst hq; exact ⟨p, rfl, ht.1⟩
          | succ j => simp at hq; simpa using ih qs j ht.2 hq
    obtain ⟨p, hp, hto⟩ := key _ _ j ht hj
    exact hto (h5 i es[i] j p (List.getElem?_eq_getElem hi') hp)
theorem PV.to_map {α : Type} {o : Fl} {xs : List α} {f g : α → List PV} (h : ∀ x, ToL (f x) (g x)) : (PV.sl o (xs.map f)).To (PV.sl .v (xs.map g)) :=
  PV.to_sl (by simp) fun i cs cs' hi hi' => by
    rw [List.getElem?_map] at hi hi'
    cases hx : xs[i]? with
    | none => rw [hx] at hi; simp at hi
    | some x => rw [hx] at hi hi'; simp at hi hi'; subst hi; subst hi'; exact h x
end Go.Proofs.Ytloipjaiceifbaa.M
