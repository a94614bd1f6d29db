/- Turning an own slice in place, calls that do so, and functions whose arguments lie low. No condition. -/
import Derived.Test.YtloipjaiceifbaaCM
import Derived.Test.YtloipjaiceifbaaCL
set_option linter.unusedVariables false
namespace Go.Proofs.Ytloipjaiceifbaa.M
open Go Go.RowKit
section
variable {P : Program} {n : Nat} {h0 : Nat → Prop} {w0 : World} {Fz0 : FzT}

section
variable {σ : St} {a : Act} {w w' : World} {φ : Nat → Nat} {Fz Fz' : FzT} {Fp : Nat → List Nat} {L : Nat}
/-- The world turns in blocks that float; what is known elsewhere does not depend on them. -/
theorem ConcW.uworld (h : ConcW h0 w0 Fz0 n σ a w φ Fz Fp) (hos : w'.os = w.os) (htape : w'.tape = w.tape) (hout : w'.output = w.output) (hsz : w.heap.size ≤ w'.heap.size)
    (hb : ∀ b, b < w.heap.size → b ∉ Fp 0 → w'.heap[b]? = w.heap[b]? ∧ ∀ o, Fz' b o ↔ Fz b o) (hL : ∀ b, b < L → h0 b) (hls : ∀ i rv, σ.s i = some rv → rv.Lcl L) (hlb : ∀ d bx, σ.b d = some bx → LclC L bx.2)
    (hl : ∀ b o, Fz' b o → b < w'.heap.size) {X : List Nat} (hX : ∀ b, b ∈ X → b ∈ Fp 0 ∨ (w.heap.size ≤ b ∧ b < w'.heap.size)) (hn : X.Nodup) :
    ConcW h0 w0 Fz0 n σ a w' φ Fz' (fun x => if x = 0 then X else Fp x) := by
  have key : ∀ r, r ≠ 0 → ∀ b, b < L ∨ b ∈ Fp r → w'.heap[b]? = w.heap[b]? ∧ ∀ o, Fz' b o ↔ Fz b o := fun r hr b hbr => by
    rcases hbr with hbr | hbr
    · exact hb b (h.hlt b (hL b hbr)) fun hm => (h.low 0 b hm).1 (hL b hbr)
    · exact hb b (h.low r b hbr).2 (h.dis r 0 hr b hbr)
  have hmem : ∀ x b, b ∈ (if x = 0 then X else Fp x) → (x = 0 ∧ b ∈ X) ∨ (x ≠ 0 ∧ b ∈ Fp x) := by
    intro x b hb
    split at hb
    · rename_i hx; exact .inl ⟨hx, hb⟩
    · rename_i hx; exact .inr ⟨hx, hb⟩
  refine ⟨h.bel.trans ⟨hos, htape, hout, hsz, fun k hk' => (hb k (h.hlt k hk') fun hm => (h.low 0 k hm).1 hk').1⟩, h.dfr, h.siz, fun b hb' => Nat.lt_of_lt_of_le (h.hlt b hb') hsz, ?_, hl, ?_, ?_, ?_, h.inj, ?_, ?_, ?_⟩
  · intro b o hbl
    rw [← h.fz0 b o hbl]
    exact (hb b (h.hlt b hbl) fun hm => (h.low 0 b hm).1 hbl).2 o
  · intro i rv hi
    rw [if_neg (by omega)]
    exact hls i rv hi (h.slot i rv hi) (key _ (by omega))
  · intro d cs hd
    obtain ⟨cur, h1, h2⟩ := h.box d cs hd
    obtain ⟨k1, k2, k3⟩ := h.bxb d cs hd
    have hlt : φ d < w.heap.size := (Array.getElem?_eq_some_iff.1 h1).1
    rw [if_neg (by omega)]
    exact ⟨cur, (hb _ hlt (k3 0)).1.trans h1, (hlb d cs hd).own h2 (key _ (by omega))⟩
  · intro d cs hd
    obtain ⟨cur, h1, h2⟩ := h.box d cs hd
    obtain ⟨k1, k2, k3⟩ := h.bxb d cs hd
    have hlt : φ d < w.heap.size := (Array.getElem?_eq_some_iff.1 h1).1
    refine ⟨k1, fun o ho => k2 o (((hb _ hlt (k3 0)).2 o).1 ho), fun r hr => ?_⟩
    rcases hmem _ _ hr with ⟨rfl, hr⟩ | ⟨_, hr⟩
    · rcases hX _ hr with hr | hr
      · exact k3 0 hr
      · omega
    · exact k3 r hr
  · intro r r' hne b hr hr'
    rcases hmem _ _ hr with ⟨rfl, hr⟩ | ⟨e1, hr⟩ <;> rcases hmem _ _ hr' with ⟨rfl, hr'⟩ | ⟨e2, hr'⟩
    · exact hne rfl
    · rcases hX _ hr with hr | hr
      · exact h.dis 0 r' hne b hr hr'
      · have := (h.low r' b hr').2; omega
    · rcases hX _ hr' with hr' | hr'
      · exact h.dis r 0 hne b hr hr'
      · have := (h.low r b hr).2; omega
    · exact h.dis r r' hne b hr hr'
  · intro r
    split
    · exact hn
    · exact h.nod r
  · intro r b hr
    rcases hmem _ _ hr with ⟨rfl, hr⟩ | ⟨e1, hr⟩
    · rcases hX _ hr with hr | hr
      · exact ⟨(h.low 0 b hr).1, by have := (h.low 0 b hr).2; omega⟩
      · exact ⟨fun hh => by have := h.hlt b hh; omega, hr.2⟩
    · exact ⟨(h.low r b hr).1, by have := (h.low r b hr).2; omega⟩
/-- What slot s holds is known in other words. -/
theorem ConcW.reslot (h : ConcW h0 w0 Fz0 n σ a w φ Fz Fp) {s : Nat} {rv : RV} (hv : rv.holds φ Fz w (a.tmps.getD s undef) (Fp (2 * s + 1))) : ConcW h0 w0 Fz0 n (σ.set s (some rv)) a w φ Fz Fp :=
  { h with
    slot := fun i r hi => by
      rw [St.set_s] at hi
      split at hi
      · rename_i hs; subst hs; injection hi with hi; subst hi; exact hv
      · exact h.slot i r hi
    box := fun d bx hd => h.box d bx hd
    bxb := fun d bx hd => h.bxb d bx hd
    inj := fun d d' cs cs' h1 h2 => h.inj d d' cs cs' h1 h2 }
theorem ConcW.rebox (h : ConcW h0 w0 Fz0 n σ a w φ Fz Fp) {d t : Nat} {cs cs' : List PV} (hd : σ.b d = some (t, cs)) (hv : ∀ (cur : Array Value), OwnL cs Fz w cur.toList (Fp (2 * d + 2)) → w.heap[φ d]? = some (.cells cur t (0, 0)) → OwnL cs' Fz w cur.toList (Fp (2 * d + 2))) :
    ConcW h0 w0 Fz0 n (σ.setB d (some (t, cs'))) a w φ Fz Fp :=
  { h with
    slot := fun i r hi => h.slot i r hi
    box := fun e bx he => by
      rw [St.setB_b] at he
      split at he
      · rename_i hs; subst hs; injection he with he; subst he
        obtain ⟨cur, h1, h2⟩ := h.box _ _ hd
        exact ⟨cur, h1, hv cur h2 h1⟩
      · exact h.box e bx he
    bxb := fun e bx he => by
      rw [St.setB_b] at he
      split at he
      · rename_i hs; subst hs; exact h.bxb _ _ hd
      · exact h.bxb e bx he
    inj := fun e e' cs1 cs2 h1 h2 => by
      rw [St.setB_b] at h1 h2
      have f : ∀ x y, (if x = d then some (t, cs') else σ.b x) = some y → ∃ z, σ.b x = some z := by
        intro x y hx
        split at hx
        · rename_i hs; subst hs; exact ⟨_, hd⟩
        · exact ⟨y, hx⟩
      obtain ⟨z1, f1⟩ := f _ _ h1
      obtain ⟨z2, f2⟩ := f _ _ h2
      exact h.inj e e' z1 z2 f1 f2 }
end

section
variable {σ : St} {Q : Exit → St → Prop} {c : Code}
/-- The cells of a slot's value get names. -/
theorem sw_nmS {s : Nat} {ag : Bool} {cs : List PV} (hs : σ.s s = some (RV.sv ag cs)) (h : ∀ us : List Value, us.length = cs.length → SW P n h0 w0 Fz0 c (σ.set s (some (RV.sv ag (nmL us cs)))) Q) : SW P n h0 w0 Fz0 c σ Q := fun a w hc => by
  obtain ⟨φ, Fz, Fp, hc⟩ := hc
  have hv := hc.slot s _ hs
  refine h (a.tmps.getD s undef).cells.toList hv.2.len a w ⟨φ, Fz, Fp, hc.reslot ⟨hv.1, nmL_own hv.2⟩⟩
theorem own_mid {Fz : FzT} {w : World} {A ms B : List PV} {vs : List Value} {F : List Nat} (h : OwnL (A ++ (ms ++ B)) Fz w vs F) : ∃ vA vM vB FA FM FB, vs = vA ++ (vM ++ vB) ∧ F = FA ++ (FM ++ FB) ∧ OwnL A Fz w vA FA ∧ OwnL ms Fz w vM FM ∧ OwnL B Fz w vB FB := by
  obtain ⟨v1, v2, F1, F2, rfl, rfl, k1, k2⟩ := OwnL.split h
  obtain ⟨v3, v4, F3, F4, rfl, rfl, k3, k4⟩ := OwnL.split k2
  exact ⟨_, _, _, _, _, _, rfl, rfl, k1, k3, k4⟩
/-- Cells of a variable get names. -/
theorem sw_nmB {d t : Nat} {A ms B : List PV} (hd : σ.b d = some (t, A ++ (ms ++ B))) (h : ∀ us : List Value, us.length = ms.length → SW P n h0 w0 Fz0 c (σ.setB d (some (t, A ++ (nmL us ms ++ B)))) Q) : SW P n h0 w0 Fz0 c σ Q := fun a w hc => by
  obtain ⟨φ, Fz, Fp, hc⟩ := hc
  obtain ⟨cur, h1, h2⟩ := hc.box d _ hd
  obtain ⟨vA, vM, vB, FA, FM, FB, e1, e2, kA, kM, kB⟩ := own_mid h2
  refine h vM kM.len a w ⟨φ, Fz, Fp, hc.rebox hd fun cur' h2' h1' => ?_⟩
  rw [h1] at h1'
  injection h1' with h1'
  injection h1' with h1'
  subst h1'
  rw [e1, e2]
  exact kA.append ((nmL_own kM).append kB)
/-- The same cells, in other words. -/
theorem sw_boxEq {d t : Nat} {cs cs' : List PV} (hd : σ.b d = some (t, cs)) (he : cs = cs') (h : SW P n h0 w0 Fz0 c (σ.setB d (some (t, cs'))) Q) : SW P n h0 w0 Fz0 c σ Q := fun a w hc => by
  obtain ⟨φ, Fz, Fp, hc⟩ := hc
  exact h a w ⟨φ, Fz, Fp, hc.rebox hd fun _ k _ => he ▸ k⟩
def LclS (L s : Nat) : List (Nat × RV) → Prop
  | [] => True
  | p :: l => (p.1 = s ∨ p.2.Lcl L) ∧ LclS L s l
def LclB (L d : Nat) : List (Nat × (Nat × List PV)) → Prop
  | [] => True
  | p :: l => (p.1 = d ∨ LclC L p.2.2) ∧ LclB L d l
theorem LclS.mem {L s : Nat} : ∀ {l : List (Nat × RV)}, LclS L s l → ∀ p, p ∈ l → p.1 = s ∨ p.2.Lcl L
  | [], _, p, hp => by simp at hp
  | q :: l, h, p, hp => by
    rcases List.mem_cons.1 hp with rfl | hp
    · exact h.1
    · exact LclS.mem h.2 p hp
theorem LclB.mem {L s : Nat} : ∀ {l : List (Nat × (Nat × List PV))}, LclB L s l → ∀ p, p ∈ l → p.1 = s ∨ LclC L p.2.2
  | [], _, p, hp => by simp at hp
  | q :: l, h, p, hp => by
    rcases List.mem_cons.1 hp with rfl | hp
    · exact h.1
    · exact LclB.mem h.2 p hp
/-- The value u, known as r. -/
def RV.nm (u : Value) (r : RV) : RV where
  holds φ Fz w v F := v = u ∧ r.holds φ Fz w v F
  men := r.men
  mono h k hh hφ := ⟨h.1, r.mono h.2 k hh hφ⟩
  lt h := r.lt h.2
theorem RV.lcl_nm {L : Nat} {u : Value} {r : RV} (h : r.Lcl L) : (RV.nm u r).Lcl L := fun hh hk => ⟨hh.1, h hh.2 hk⟩
theorem Cp.nm {u : Value} {r r' : RV} (h : Cp r r') : Cp (RV.nm u r) r' := fun k => h k.2
theorem OwnLL.flat {e : Nat} {Fz : FzT} {w : World} : ∀ {es : List (List PV)} {vs : List Value} {F : List Nat}, OwnLL e es Fz w vs F → OwnL es.flatten Fz w vs F
  | [], _, _, h => h
  | cs :: es, vs, F, h => by
    obtain ⟨c, d, F1, F2, rfl, rfl, h0, h1, h2⟩ := h
    exact h1.append (OwnLL.flat h2)
/-- The array of an own slice becomes a variable. -/
theorem sw_thaw {l : List (Nat × RV)} {b : List (Nat × (Nat × List PV))} {L s D E e : Nat} {u : Value} {es : List (List PV)} (hs : lk l s = some (RV.sv false [PV.nv u (PV.sl (.own E e) es)])) (hne : es ≠ []) (hD : lk b D = none) (hfr : (l.all fun p => !p.2.men D) = true)
    (hL : ∀ x, x < L → h0 x) (hls : LclS L s l) (hlb : LclB L D b) (hes : ∀ cs, cs ∈ es → LclC L cs)
    (h : ∀ (cp : Nat) (jk : List Value), es.length ≤ 9223372036854775807 → es.length ≤ cp → es.length * e + jk.length = cp * e → SW P n h0 w0 Fz0 c (((St.of l b).set s (some (RV.nm u (RV.hdr D es.length cp)))).setB D (some (E, es.flatten ++ jk.map PV.val))) Q) : SW P n h0 w0 Fz0 c (St.of l b) Q := fun a w hc => by
  obtain ⟨φ, Fz, Fp, hc⟩ := hc
  have hv := (SvOwn.atom (hc.slot s _ hs))
  obtain ⟨hu, css, F', ho, hl, hf, hF, h1⟩ := hv
  rcases ho.2 with ⟨_, hn⟩ | ⟨g, cap, cur, hval, _, hg, hnc, hcm, hcs, htake⟩
  · exact absurd (List.eq_nil_of_length_eq_zero hn) hne
  have hob : (a.tmps.getD s undef).ownBlock = some g := by rw [hval]; rfl
  rw [hob] at hF hf
  have hF : Fp (2 * s + 1) = g :: F' := hF
  have hgl := hc.low (2 * s + 1) g (by rw [hF]; simp)
  have c1 := hc.pull s
  have e0 : mv Fp (2 * s + 1) 0 = g :: F' ++ Fp 0 := by simp [mv, hF]
  have hnd := c1.nod 0
  rw [e0] at hnd
  -- the block's cells are no longer said to stay
  have c2 := c1.uworld (w' := w) (Fz' := fun x o => Fz x o ∧ x ≠ g) (L := L) rfl rfl rfl (Nat.le_refl _)
    (fun x hx h0' => ⟨rfl, fun o => ⟨fun k => k.1, fun k => ⟨k, fun e => h0' (by rw [e0, e]; simp)⟩⟩⟩) hL
    (fun i rv hi => by
      rw [St.set_s] at hi
      split at hi
      · cases hi
      · rename_i hne'
        rcases hls.mem _ (lk_mem hi) with e | k
        · exact absurd e hne'
        · exact k)
    (fun d bx hd => by
      rcases hlb.mem _ (lk_mem hd) with e | k
      · have e : d = D := e
        rw [e] at hd
        have hd' : lk b D = some bx := hd
        rw [hD] at hd'; cases hd'
      · exact k)
    (fun x o k => hc.fzl x o k.1) (X := mv Fp (2 * s + 1) 0) (fun x hx => .inl hx) (c1.nod 0)
  have hgF : g ∉ F' := by
    have := (List.nodup_append.1 hnd).1
    exact (List.nodup_cons.1 this).1
  have hl2 : OwnLL e es (fun x o => Fz x o ∧ x ≠ g) w css F' := lcl_ll (L := L) hes hl (fun x hx => ⟨rfl, fun o => ⟨fun k => k.1, fun k => ⟨k, fun e => by
      rcases hx with hx | hx
      · exact hgl.1 (e ▸ hL x hx)
      · rw [e] at hx; exact hgF hx⟩⟩⟩)
  have hone := h1 g hob cur E (0, 0) hg
  have hcl : css.length = es.length * e := hl.len
  have hjl : es.length * e + (cur.toList.drop (es.length * e)).length = cap * e := by
    have hle : es.length * e ≤ cap * e := Nat.mul_le_mul_right _ hnc
    rw [List.length_drop, show cur.toList.length = cap * e from by rw [← hcs]; simp]; omega
  have hcur : OwnL (es.flatten ++ (cur.toList.drop (es.length * e)).map PV.val) (fun x o => Fz x o ∧ x ≠ g) w cur.toList F' := by
    have k := (OwnLL.flat hl2).append (own_vals (Fz := fun x o => Fz x o ∧ x ≠ g) (w := w) (vs := cur.toList.drop (es.length * e)) fun v hv => hone v (List.mem_of_mem_drop hv))
    rw [← htake, List.take_append_drop, List.append_nil] at k
    exact k
  have c3 := c2.pushB (d := D) (g := g) (t := E) (cs := es.flatten ++ (cur.toList.drop (es.length * e)).map PV.val) (F := F') (X := Fp 0) hD hg hcur (fun o k => k.2 rfl)
    (fun x hx => by
      simp only [if_true]
      rw [e0]
      rcases List.mem_append.1 hx with hx | hx
      · simp [hx]
      · rcases List.mem_cons.1 hx with rfl | hx
        · simp
        · simp [hx])
    (by
      simp only [List.cons_append, List.nodup_cons, List.mem_append] at hnd
      rw [List.nodup_append] at hnd ⊢
      obtain ⟨k1, k2, k3, k4⟩ := hnd
      refine ⟨k2, List.nodup_cons.2 ⟨fun hh => k1 (.inr hh), k3⟩, fun x hx y hy e => ?_⟩
      rcases List.mem_cons.1 hy with rfl | hy
      · exact k1 (.inl (e ▸ hx))
      · exact k4 x hx y hy e)
    (.inr fun i rv hi => by
      rw [St.set_s] at hi
      split at hi
      · cases hi
      · have := List.all_eq_true.1 hfr _ (lk_mem hi)
        simpa using this)
  have c4 := c3.reslot (s := s) (rv := RV.nm u (RV.hdr D es.length cap)) ⟨hu, ⟨by rw [hval]; simp, hnc, hcm⟩, by simp only [give, mv]; rw [if_neg (by omega), if_neg (by omega), if_neg (by omega), if_neg (by omega), if_pos True.intro]⟩
  exact h cap _ (by unfold maxLen at hcm; omega) hnc hjl a w (Conc.eqv ⟨_, _, _, c4⟩ (fun i => by
    simp only [St.set_s, St.setB_s]
    split <;> rfl) (fun d => rfl))
/-- The variable is the array of the slice that slot s has, again. -/
theorem sw_freeze {s D E e m cp : Nat} {u : Value} {es : List (List PV)} {jk : List Value} (hs : σ.s s = some (RV.nm u (RV.hdr D m cp))) (hb : σ.b D = some (E, es.flatten ++ jk.map PV.val)) (hl : es.length = m) (he : ∀ c, c ∈ es → c.length = e) (hj : m * e + jk.length = cp * e)
    (h : SW P n h0 w0 Fz0 c ((σ.setB D none).set s (some (RV.sv false [PV.nv u (PV.sl (.own E e) es)]))) Q) : SW P n h0 w0 Fz0 c σ Q := fun a w hc => by
  obtain ⟨φ, Fz, Fp, hc⟩ := hc
  obtain ⟨hu, ⟨ev, hmc, hmx⟩, _⟩ := hc.slot s _ hs
  obtain ⟨Fz', Fp', c3, hsl, hX, hnd, hs0⟩ := hc.freeze (s := s) hb hmc hmx hl he hj
  have hself : a.put (some s) (a.tmps.getD s undef) = a := by
    have : a.tmps.setIfInBounds s (a.tmps.getD s undef) = a.tmps := by
      apply Array.ext_getElem?
      intro i
      by_cases hi : s = i
      · subst hi
        by_cases hlt : s < a.tmps.size
        · rw [Array.getElem?_setIfInBounds_self_of_lt hlt, Array.getD_eq_getD_getElem?, Array.getElem?_eq_getElem hlt]; rfl
        · rw [Array.setIfInBounds_eq_of_size_le (by omega)]
      · rw [Array.getElem?_setIfInBounds_ne hi]
    show Act.mk (a.tmps.setIfInBounds s (a.tmps.getD s undef)) a.defers = a
    rw [this]
  have hsn : s < n := by
    rcases Nat.lt_or_ge s n with h | h
    · exact h
    · exfalso
      rw [Array.getD_eq_getD_getElem?, Array.getElem?_eq_none (by rw [hc.siz]; exact h)] at ev
      simp [undef] at ev
  have c4 := c3.push (i := s) (rv := RV.sv false [PV.nv u (PV.sl (.own E e) es)]) (v := a.tmps.getD s undef) (F := φ D :: Fp (2 * D + 2)) (X := []) hsn
    (SvOwn.of_atom (p := PV.nv u (PV.sl (.own E e) es)) ⟨hu, by rw [ev]; exact hsl⟩) (fun x hx => hX x (by simpa using hx)) (by simpa using hnd)
  rw [hself] at c4
  exact h a w (Conc.eqv ⟨_, _, _, c4⟩ (fun i => by simp only [St.set_s]; split <;> rfl) (fun d => rfl))
end

/-! ### calls that turn their first argument -/
/-- The function turns what its first argument owns: from qs to qs'; it returns r. -/
def UCall (P : Program) (f : FuncId) (ag : Bool) (qs qs' : List PV) (args : List (Bool × List PV)) (r : Value) : Prop :=
  ∀ (w : World) (v : Value) (vs : List Value) (Fz : FzT) (F : List Nat), (∀ b o, Fz b o → b < w.heap.size) → SvOwn ag qs Fz w v F → F.Nodup → RelT args Fz w vs →
    Calls P f (v :: vs).toArray w fun e w' => ∃ (Fz' : FzT) (F' : List Nat), e = .returned r ∧ w'.os = w.os ∧ w'.tape = w.tape ∧ w'.output = w.output ∧ w.heap.size ≤ w'.heap.size ∧
      (∀ b, b < w.heap.size → b ∉ F → w'.heap[b]? = w.heap[b]? ∧ ∀ o, Fz' b o ↔ Fz b o) ∧ (∀ b o, Fz' b o → b < w'.heap.size) ∧ SvOwn ag qs' Fz' w' v F' ∧ F'.Nodup ∧
      ∀ b, b ∈ F' → b ∈ F ∨ (w.heap.size ≤ b ∧ b < w'.heap.size)
def OutU : List ResultVar → Value → St → Prop
  | [], r, _ => r = .tuple #[]
  | [.tmp t], r, τ => τ.s t = some (RV.sc r)
  | _, _, _ => False
/-- The end: slot 0, or a variable, has the first argument's cells. -/
def EndU (rs : List ResultVar) (us : List Value) (ag : Bool) (qs' : List PV) (r : Value) (τ : St) : Prop :=
  OutU rs r τ ∧ ∃ ms, (τ.s 0 = some (RV.sv ag ms) ∨ ∃ d T, τ.b d = some (T, ms)) ∧ Nm ms us ∧ OwnTo ms qs'
def endU (rs : List ResultVar) (us : List Value) (ag : Bool) (qs' : List PV) (r : Value) : Exit → St → Prop
  | .normal, τ => EndU rs us ag qs' r τ
  | .ret, τ => EndU rs us ag qs' r τ
  | _, _ => False
theorem cells_eq {v v' : Value} (h : isAg v = isAg v') (hc : v.cells.toList = v'.cells.toList) (h1 : isAg v = false → v.oneCell' = true) (h1' : isAg v' = false → v'.oneCell' = true) : v = v' := by
  cases hv : isAg v with
  | true =>
    rw [hv] at h
    cases v <;> simp [isAg] at hv
    cases v' <;> simp [isAg] at h
    simp only [Value.cells] at hc
    congr 1
    exact Array.toList_inj.1 hc
  | false =>
    have k1 := (cells_of_one (h1 hv)).1
    have k2 := (cells_of_one (h1' (by rw [← h]; exact hv))).1
    rw [k1, k2] at hc
    injection hc
theorem ucall_of {f : FuncId} {fn : Func} {c : Code} {ag : Bool} {qs qs' : List PV} {args : List (Bool × List PV)} {r : Value} (hf : P.funcs[f]? = some fn) (hb : fn.body = some c) (hn : args.length + 1 ≤ fn.ntmps) (hbor : ∀ q, q ∈ args → BorL q.2)
    (h : ∀ (us : List Value) (h0 : Nat → Prop) (w0 : World) (Fz0 : FzT), us.length = qs.length → SW P fn.ntmps h0 w0 Fz0 c (St.of ((0, RV.sv ag (nmL us qs)) :: argsL 1 args) []) (endU fn.results.toList us ag qs' r)) : UCall P f ag qs qs' args r := by
  intro w v vs Fz F hz hown hnd hrel
  have hvl := hrel.len
  refine calls_of_wp hf hb ?_
  have hFlt : ∀ b, b ∈ F → b < w.heap.size := fun b hb => hown.2.lt b hb
  have hc : Conc (fun b => b < w.heap.size ∧ b ∉ F) w Fz fn.ntmps (St.of ((0, RV.sv ag (nmL v.cells.toList qs)) :: argsL 1 args) []) { tmps := (v :: vs).toArray ++ Array.replicate (fn.ntmps - (v :: vs).toArray.size) undef, defers := [] } w := by
    refine ⟨fun _ => 0, Fz, fun x => if x = 1 then F else [], ⟨BelowO.refl _ _, rfl, by simp; omega, fun _ hb => hb.1, fun _ _ _ => Iff.rfl, hz, fun i rv hi => ?_, fun d cs hd => (by cases hd), fun d cs hd => (by cases hd), fun d d' cs cs' hd => (by cases hd), ?_, ?_, ?_⟩⟩
    · by_cases hi0 : i = 0
      · subst hi0
        have hi' : RV.sv ag (nmL v.cells.toList qs) = rv := by injection hi
        subst hi'
        have : ((v :: vs).toArray ++ Array.replicate (fn.ntmps - (v :: vs).toArray.size) undef).getD 0 undef = v := by
          rw [Array.getD_eq_getD_getElem?, Array.getElem?_append_left (by simp)]
          simp
        rw [this]
        exact ⟨hown.1, nmL_own hown.2⟩
      · have hi' : lk (argsL 1 args) i = some rv := by
          have : (bif Nat.beq i 0 then some (RV.sv ag (nmL v.cells.toList qs)) else lk (argsL 1 args) i) = some rv := hi
          rw [beq_eq] at this
          simpa [hi0] using this
        obtain ⟨j, u, e1, e2, e3, e4⟩ := BorT.own (φ := fun _ => 0) hbor hrel hi'
        subst e1
        have : ((v :: vs).toArray ++ Array.replicate (fn.ntmps - (v :: vs).toArray.size) undef).getD (1 + j) undef = u := by
          rw [Array.getD_eq_getD_getElem?, Array.getElem?_append_left (by simp; omega)]
          rw [Nat.add_comm]
          simp [e3]
        rw [this, if_neg (by omega)]; exact e4
    · intro x y hxy b hbx hby
      split at hbx
      · split at hby
        · omega
        · simp at hby
      · simp at hbx
    · intro x
      split
      · exact hnd
      · exact List.nodup_nil
    · intro x b hbx
      split at hbx
      · exact ⟨fun k => k.2 hbx, hFlt b hbx⟩
      · simp at hbx
  refine wp_mono (h v.cells.toList _ w Fz hown.2.len _ w hc) fun e a' w' ⟨τ, hq, hc'⟩ => ?_
  obtain ⟨φ, Fz', Fp, hc'⟩ := hc'
  have hres : EndU fn.results.toList v.cells.toList ag qs' r τ → a'.defers = [] ∧ ∃ v2, (results fn a'.tmps).run P w' = .ok v2 w' ∧ ∃ (Fz' : FzT) (F' : List Nat), Ending.returned v2 = .returned r ∧ w'.os = w.os ∧ w'.tape = w.tape ∧ w'.output = w.output ∧ w.heap.size ≤ w'.heap.size ∧
      (∀ b, b < w.heap.size → b ∉ F → w'.heap[b]? = w.heap[b]? ∧ ∀ o, Fz' b o ↔ Fz b o) ∧ (∀ b o, Fz' b o → b < w'.heap.size) ∧ SvOwn ag qs' Fz' w' v F' ∧ F'.Nodup ∧
      ∀ b, b ∈ F' → b ∈ F ∨ (w.heap.size ≤ b ∧ b < w'.heap.size) := by
    rintro ⟨hout, ms, hms, hnm, hto⟩
    refine ⟨hc'.dfr, r, ?_, ?_⟩
    · rw [results_eq, Array.mapM_eq_mapM_toList]
      revert hout
      generalize fn.results.toList = rs
      intro hout
      match rs, hout with
      | [], hout => simp only [show r = .tuple #[] from hout]; simp
      | [.tmp t], hout =>
        have := (SvOwn.sc (hc'.slot t _ hout)).1
        simp [resF, this]
    · have hlow : ∀ {x b}, b ∈ Fp x → b ∈ F ∨ (w.heap.size ≤ b ∧ b < w'.heap.size) := fun {x b} hx => by
        have := hc'.low x b hx
        by_cases hbF : b ∈ F
        · exact .inl hbF
        · exact .inr ⟨Nat.le_of_not_lt fun hlt => this.1 ⟨hlt, hbF⟩, this.2⟩
      have common : ∀ (x : Nat) (ws : List Value), OwnL ms Fz' w' ws (Fp x) → ∃ (Fz' : FzT) (F' : List Nat), Ending.returned r = .returned r ∧ w'.os = w.os ∧ w'.tape = w.tape ∧ w'.output = w.output ∧ w.heap.size ≤ w'.heap.size ∧
          (∀ b, b < w.heap.size → b ∉ F → w'.heap[b]? = w.heap[b]? ∧ ∀ o, Fz' b o ↔ Fz b o) ∧ (∀ b o, Fz' b o → b < w'.heap.size) ∧ SvOwn ag qs' Fz' w' v F' ∧ F'.Nodup ∧
          ∀ b, b ∈ F' → b ∈ F ∨ (w.heap.size ≤ b ∧ b < w'.heap.size) := fun x ws hw => by
        have e := hnm hw.rel
        subst e
        exact ⟨Fz', Fp x, rfl, hc'.bel.os, hc'.bel.tape, hc'.bel.output, hc'.bel.size, fun b h1 h2 => ⟨hc'.bel.block b ⟨h1, h2⟩, fun o => hc'.fz0 b o ⟨h1, h2⟩⟩, hc'.fzl, ⟨hown.1, hto hw⟩, hc'.nod x, fun b hb => hlow hb⟩
      rcases hms with hms | ⟨d, T, hms⟩
      · exact common _ _ (hc'.slot 0 _ hms).2
      · obtain ⟨cur, _, ho⟩ := hc'.box d _ hms
        exact common _ _ ho
  cases e with
  | normal => exact hres hq
  | ret => exact hres hq
  | _ => exact hq.elim
end
end Go.Proofs.Ytloipjaiceifbaa.M
