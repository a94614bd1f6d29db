/- Named values, low views, values that are turned in place, and calls that turn an own argument. No condition. -/
import Derived.Test.YtloipjaiceifbaaCI
set_option linter.unusedVariables false
namespace Go.Proofs.Ytloipjaiceifbaa.M
open Go Go.RowKit

/-! ### names -/
/-- The value u, known as p. -/
def PV.nv (u : Value) (p : PV) : PV where
  rel Fz w v := v = u ∧ p.rel Fz w v
  own Fz w v F := v = u ∧ p.own Fz w v F
  one h := p.one h.2
  toRel h := ⟨h.1, p.toRel h.2⟩
  relMono h k := ⟨h.1, p.relMono h.2 k⟩
  ownMono h k hh := ⟨h.1, p.ownMono h.2 k hh⟩
  lt h := p.lt h.2
theorem PV.nv_val {u : Value} {p : PV} : (PV.nv u p).To (PV.val u) := fun h => ⟨h.1, by have := p.one h.2; rwa [h.1] at this⟩
theorem PV.nv_to {u : Value} {p q : PV} (h : p.To q) : (PV.nv u p).To q := fun k => h k.2
theorem PV.bor_nv {u : Value} {p : PV} (h : p.Bor) : (PV.nv u p).Bor := fun k => ⟨k.1, h k.2⟩
/-- The cells' values are us. -/
def Nm (ps : List PV) (us : List Value) : Prop := ∀ {Fz : FzT} {w : World} {vs : List Value}, RelL ps Fz w vs → vs = us
theorem Nm.nil : Nm [] [] := fun h => h
theorem Nm.nv {u : Value} {p : PV} {ps : List PV} {us : List Value} (h : Nm ps us) : Nm (PV.nv u p :: ps) (u :: us) := fun hh => by
  obtain ⟨v, vs', rfl, h1, h2⟩ := hh
  rw [h1.1, h h2]
theorem Nm.val {u : Value} {ps : List PV} {us : List Value} (h : Nm ps us) : Nm (PV.val u :: ps) (u :: us) := fun hh => by
  obtain ⟨v, vs', rfl, h1, h2⟩ := hh
  rw [h1.1, h h2]
def nmL : List Value → List PV → List PV
  | u :: us, p :: ps => PV.nv u p :: nmL us ps
  | _, _ => []
theorem nmL_own {Fz : FzT} {w : World} : ∀ {us : List Value} {ps : List PV} {F : List Nat}, OwnL ps Fz w us F → OwnL (nmL us ps) Fz w us F
  | us, [], F, h => by obtain ⟨rfl, rfl⟩ := h; exact ⟨rfl, rfl⟩
  | us, p :: ps, F, h => by obtain ⟨v, vs', F1, F2, rfl, rfl, h1, h2⟩ := h; exact ⟨v, vs', F1, F2, rfl, rfl, ⟨rfl, h1⟩, nmL_own h2⟩
/-- What owns as ps owns as qs. -/
def OwnTo (ps qs : List PV) : Prop := ∀ {Fz : FzT} {w : World} {vs : List Value} {F : List Nat}, OwnL ps Fz w vs F → OwnL qs Fz w vs F
theorem OwnTo.nil : OwnTo [] [] := fun h => h
theorem OwnTo.nv {u : Value} {p : PV} {ps qs : List PV} (h : OwnTo ps qs) : OwnTo (PV.nv u p :: ps) (p :: qs) := fun hh => by
  obtain ⟨v, vs', F1, F2, rfl, rfl, h1, h2⟩ := hh
  exact ⟨v, vs', F1, F2, rfl, rfl, h1.2, h h2⟩
theorem OwnTo.same {p : PV} {ps qs : List PV} (h : OwnTo ps qs) : OwnTo (p :: ps) (p :: qs) := fun hh => by
  obtain ⟨v, vs', F1, F2, rfl, rfl, h1, h2⟩ := hh
  exact ⟨v, vs', F1, F2, rfl, rfl, h1, h h2⟩

/-! ### arguments lie low -/
def PV.ToB (L : Nat) (p q : PV) : Prop := ∀ {Fz : FzT} {w : World} {v : Value}, (∀ b o, Fz b o → b < L) → p.rel Fz w v → q.rel Fz w v
def ToBL (L : Nat) : List PV → List PV → Prop
  | [], [] => True
  | p :: ps, q :: qs => p.ToB L q ∧ ToBL L ps qs
  | _, _ => False
theorem PV.tob_refl {L : Nat} {p : PV} : p.ToB L p := fun _ h => h
theorem ToBL.nil {L : Nat} : ToBL L [] [] := True.intro
theorem ToBL.cons {L : Nat} {p q : PV} {ps qs : List PV} (h : p.ToB L q) (k : ToBL L ps qs) : ToBL L (p :: ps) (q :: qs) := ⟨h, k⟩
theorem ToBL.len {L : Nat} : ∀ {ps qs : List PV}, ToBL L ps qs → ps.length = qs.length
  | [], [], _ => rfl
  | _ :: _, _ :: _, h => by simp [ToBL.len h.2]
theorem ToBL.rel {L : Nat} {Fz : FzT} {w : World} (hz : ∀ b o, Fz b o → b < L) : ∀ {ps qs : List PV} {vs : List Value}, ToBL L ps qs → RelL ps Fz w vs → RelL qs Fz w vs
  | [], [], _, _, h => h
  | p :: ps, q :: qs, _, k, h => by obtain ⟨v, vs', rfl, h1, h2⟩ := h; exact ⟨v, vs', rfl, k.1 hz h1, ToBL.rel hz k.2 h2⟩
theorem ToBL.at_ {L : Nat} : ∀ {ps qs : List PV} {j : Nat} {q : PV}, ToBL L ps qs → qs[j]? = some q → ∃ p, ps[j]? = some p ∧ p.ToB L q
  | [], [], _, _, _, h => by simp at h
  | p :: ps, q' :: qs, 0, q, k, h => by simp at h; subst h; exact ⟨p, rfl, k.1⟩
  | p :: ps, q' :: qs, j + 1, q, k, h => by simp at h; simpa using ToBL.at_ k.2 h
theorem PV.tob_map {α : Type} {L : Nat} {o : Fl} {xs : List α} {f g : α → List PV} (hne : ∀ x, 0 < (f x).length) (h : ∀ x, ToBL L (f x) (g x)) : (PV.sl o (xs.map f)).ToB L (PV.sl (.lo L) (xs.map g)) := by
  intro Fz w v hz hr
  obtain ⟨⟨a, c, e, u, rfl, h1, h2, h3, h4, h5⟩, _⟩ := hr
  rw [List.length_map] at *
  refine ⟨⟨a, c, e, u, by rw [List.length_map], by rw [List.length_map]; exact h1, h2, ?_, ?_, ?_⟩, ?_⟩
  · intro cs hcs
    obtain ⟨x, hx, rfl⟩ := List.mem_map.1 hcs
    rw [← (h x).len]; exact h3 _ (List.mem_map.2 ⟨x, hx, rfl⟩)
  · rcases h4 with h4 | ⟨b, off, ha, h4⟩
    · left
      simpa using h4
    · exact .inr ⟨b, off, ha, fun i j hi hj => h4 i j (by simpa using hi) hj⟩
  · intro i cs' j q hi hj
    rw [List.getElem?_map] at hi
    cases hx : xs[i]? with
    | none => rw [hx] at hi; simp at hi
    | some x =>
      rw [hx] at hi; simp at hi; subst hi
      obtain ⟨p, hp, hto⟩ := (h x).at_ hj
      exact hto hz (h5 i (f x) j p (by rw [List.getElem?_map, hx]; rfl) hp)
  · show _ ∨ _
    rw [List.length_map]
    cases xs with
    | nil => exact .inl rfl
    | cons x xs =>
      right
      intro g hg
      rcases h4 with h4 | ⟨b, off, rfl, h4⟩
      · simp at h4
      · simp [Value.ownBlock] at hg
        subst hg
        have he : 0 < e := by rw [← h3 (f x) (by simp)]; exact hne x
        exact hz _ _ (h4 0 0 (by simp) he).1
def ToBT (L : Nat) : List (Bool × List PV) → List (Bool × List PV) → Prop
  | [], [] => True
  | p :: ps, q :: qs => (p.1 = q.1 ∧ ToBL L p.2 q.2) ∧ ToBT L ps qs
  | _, _ => False
theorem ToBT.rel {L : Nat} {Fz : FzT} {w : World} (hz : ∀ b o, Fz b o → b < L) : ∀ {ps qs : List (Bool × List PV)} {vs : List Value}, ToBT L ps qs → RelT ps Fz w vs → RelT qs Fz w vs
  | [], [], _, _, h => h
  | p :: ps, q :: qs, _, k, h => by
    obtain ⟨v, vs', rfl, h1, h2⟩ := h
    exact ⟨v, vs', rfl, ⟨h1.1.trans k.1.1, k.1.2.rel hz h1.2⟩, ToBT.rel hz k.2 h2⟩
theorem ToBT.len {L : Nat} : ∀ {ps qs : List (Bool × List PV)}, ToBT L ps qs → ps.length = qs.length
  | [], [], _ => rfl
  | _ :: _, _ :: _, h => by simp [ToBT.len h.2]

/-! ### what does not depend on others' blocks -/
def PV.Lcl (L : Nat) (p : PV) : Prop := ∀ {Fz Fz' : FzT} {w w' : World} {v : Value} {F : List Nat}, p.own Fz w v F → (∀ b, b < L ∨ b ∈ F → w'.heap[b]? = w.heap[b]? ∧ ∀ o, Fz' b o ↔ Fz b o) → p.own Fz' w' v F
def PV.LclR (L : Nat) (p : PV) : Prop := ∀ {Fz Fz' : FzT} {w w' : World} {v : Value}, p.rel Fz w v → (∀ b, b < L → w'.heap[b]? = w.heap[b]? ∧ ∀ o, Fz' b o ↔ Fz b o) → p.rel Fz' w' v
def LclC (L : Nat) (ps : List PV) : Prop := ∀ p, p ∈ ps → p.Lcl L
def LclRC (L : Nat) (ps : List PV) : Prop := ∀ p, p ∈ ps → p.LclR L
def RV.Lcl (L : Nat) (r : RV) : Prop := ∀ {φ : Nat → Nat} {Fz Fz' : FzT} {w w' : World} {v : Value} {F : List Nat}, r.holds φ Fz w v F → (∀ b, b < L ∨ b ∈ F → w'.heap[b]? = w.heap[b]? ∧ ∀ o, Fz' b o ↔ Fz b o) → r.holds φ Fz' w' v F
theorem PV.lcl_val {L : Nat} {x : Value} : (PV.val x).Lcl L := fun h _ => h
theorem PV.lclr_val {L : Nat} {x : Value} : (PV.val x).LclR L := fun h _ => h
theorem PV.lcl_nv {L : Nat} {u : Value} {p : PV} (h : p.Lcl L) : (PV.nv u p).Lcl L := fun k hk => ⟨k.1, h k.2 hk⟩
theorem LclC.nil {L : Nat} : LclC L [] := fun p hp => by simp at hp
theorem LclC.cons {L : Nat} {p : PV} {ps : List PV} (h : p.Lcl L) (k : LclC L ps) : LclC L (p :: ps) := fun q hq => by
  rcases List.mem_cons.1 hq with rfl | hq
  · exact h
  · exact k q hq
theorem LclC.app {L : Nat} {ps qs : List PV} (h : LclC L ps) (k : LclC L qs) : LclC L (ps ++ qs) := fun q hq => by
  rcases List.mem_append.1 hq with hq | hq
  · exact h q hq
  · exact k q hq
theorem LclC.flat {L : Nat} {es : List (List PV)} (h : ∀ cs, cs ∈ es → LclC L cs) : LclC L es.flatten := fun q hq => by
  obtain ⟨cs, h1, h2⟩ := List.mem_flatten.1 hq
  exact h cs h1 q h2
theorem LclC.map {L : Nat} {α : Type} {xs : List α} {f : α → List PV} (h : ∀ x, LclC L (f x)) : ∀ cs, cs ∈ xs.map f → LclC L cs := fun cs hcs => by
  obtain ⟨x, _, rfl⟩ := List.mem_map.1 hcs
  exact h x
theorem LclC.vals {L : Nat} {xs : List Value} : LclC L (xs.map PV.val) := fun p hp => by
  obtain ⟨x, _, rfl⟩ := List.mem_map.1 hp
  exact PV.lcl_val
theorem LclRC.nil {L : Nat} : LclRC L [] := fun p hp => by simp at hp
theorem LclRC.cons {L : Nat} {p : PV} {ps : List PV} (h : p.LclR L) (k : LclRC L ps) : LclRC L (p :: ps) := fun q hq => by
  rcases List.mem_cons.1 hq with rfl | hq
  · exact h
  · exact k q hq
theorem LclRC.map {L : Nat} {α : Type} {xs : List α} {f : α → List PV} (h : ∀ x, LclRC L (f x)) : ∀ cs, cs ∈ xs.map f → LclRC L cs := fun cs hcs => by
  obtain ⟨x, _, rfl⟩ := List.mem_map.1 hcs
  exact h x
theorem LclC.own {L : Nat} {Fz Fz' : FzT} {w w' : World} : ∀ {ps : List PV} {vs : List Value} {F : List Nat}, LclC L ps → OwnL ps Fz w vs F → (∀ b, b < L ∨ b ∈ F → w'.heap[b]? = w.heap[b]? ∧ ∀ o, Fz' b o ↔ Fz b o) → OwnL ps Fz' w' vs F
  | [], _, _, _, h, _ => h
  | p :: ps, vs, F, hl, h, hk => by
    obtain ⟨v, vs', F1, F2, rfl, rfl, h1, h2⟩ := h
    exact ⟨v, vs', F1, F2, rfl, rfl, hl p (by simp) h1 (fun b hb => hk b (by rcases hb with hb | hb <;> simp [hb])),
      LclC.own (fun q hq => hl q (by simp [hq])) h2 fun b hb => hk b (by rcases hb with hb | hb <;> simp [hb])⟩
theorem lcl_ll {L e : Nat} {Fz Fz' : FzT} {w w' : World} : ∀ {es : List (List PV)} {vs : List Value} {F : List Nat}, (∀ cs, cs ∈ es → LclC L cs) → OwnLL e es Fz w vs F → (∀ b, b < L ∨ b ∈ F → w'.heap[b]? = w.heap[b]? ∧ ∀ o, Fz' b o ↔ Fz b o) → OwnLL e es Fz' w' vs F
  | [], _, _, _, h, _ => h
  | cs :: es, vs, F, hl, h, hk => by
    obtain ⟨c, d, F1, F2, rfl, rfl, h0, h1, h2⟩ := h
    exact ⟨c, d, F1, F2, rfl, rfl, h0, (hl cs (by simp)).own h1 (fun b hb => hk b (by rcases hb with hb | hb <;> simp [hb])),
      lcl_ll (fun q hq => hl q (by simp [hq])) h2 fun b hb => hk b (by rcases hb with hb | hb <;> simp [hb])⟩
theorem PV.lcl_own {L t e : Nat} {es : List (List PV)} (h : ∀ cs, cs ∈ es → LclC L cs) : (PV.sl (.own t e) es).Lcl L := by
  intro Fz Fz' w w' v F hh hk
  obtain ⟨css, F', ho, hl, hf, rfl, h1⟩ := hh
  refine ⟨css, F', ⟨ho.1, ?_⟩, lcl_ll h hl (fun b hb => hk b (by rcases hb with hb | hb <;> simp [hb])), ?_, rfl, ?_⟩
  · rcases ho.2 with hn | ⟨g, cap, cur, rfl, hb, hg, rest⟩
    · exact .inl hn
    · exact .inr ⟨g, cap, cur, rfl, hb, (hk g (by simp [Value.ownBlock])).1.trans hg, rest⟩
  · intro g hg o
    rw [(hk g (by simp [hg])).2 o]; exact hf g hg o
  · intro g hg cur t' o hc
    rw [(hk g (by simp [hg])).1] at hc
    exact h1 g hg cur t' o hc
theorem PV.lclr_lo {L : Nat} {es : List (List PV)} (h : ∀ cs, cs ∈ es → LclRC L cs) : (PV.sl (.lo L) es).LclR L := by
  intro Fz Fz' w w' v hh hk
  obtain ⟨⟨a, c, e, u, rfl, h1, h2, h3, h4, h5⟩, hlo⟩ := hh
  refine ⟨⟨a, c, e, u, rfl, h1, h2, h3, ?_, fun i cs j p hi hj => h cs (List.mem_of_getElem? hi) p (List.mem_of_getElem? hj) (h5 i cs j p hi hj) hk⟩, hlo⟩
  rcases h4 with h4 | ⟨b, off, rfl, h4⟩
  · exact .inl h4
  · rcases hlo with hlo | hlo
    · exact .inl (List.eq_nil_of_length_eq_zero hlo)
    · refine .inr ⟨b, off, rfl, fun i j hi hj => ?_⟩
      have hbl := hk b (hlo b rfl)
      exact ⟨(hbl.2 _).2 (h4 i j hi hj).1, (World.cell?_of_block hbl.1).trans (h4 i j hi hj).2⟩
theorem PV.lcl_lo {L : Nat} {es : List (List PV)} (h : ∀ cs, cs ∈ es → LclRC L cs) : (PV.sl (.lo L) es).Lcl L := fun hh hk => ⟨PV.lclr_lo h hh.1 fun b hb => hk b (.inl hb), hh.2⟩
theorem RV.lcl_sv {L : Nat} {ag : Bool} {cs : List PV} (h : LclC L cs) : (RV.sv ag cs).Lcl L := fun hh hk => ⟨hh.1, h.own hh.2 hk⟩
theorem RV.lcl_ptr {L d off : Nat} : (RV.ptr d off).Lcl L := fun hh _ => hh
theorem RV.lcl_hdr {L d m c : Nat} : (RV.hdr d m c).Lcl L := fun hh _ => hh
end Go.Proofs.Ytloipjaiceifbaa.M
