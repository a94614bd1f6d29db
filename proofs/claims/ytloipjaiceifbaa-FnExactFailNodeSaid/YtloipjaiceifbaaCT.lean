/- Elements of own slices, wherever the slice lies, are turned in place. No condition. -/
import Derived.Test.YtloipjaiceifbaaCW
set_option linter.unusedVariables false
namespace Go.Proofs.Ytloipjaiceifbaa.M
open Go Go.RowKit
section
variable {P : Program} {n : Nat} {h0 : Nat → Prop} {w0 : World} {Fz0 : FzT}
/-- The value u is the slice of all m elements of variable D. -/
def RV.gat (u : Value) (D m cp : Nat) : RV where
  holds φ _ _ _ F := (u = .slice (some ⟨φ D, 0, none⟩) m cp ∧ m ≤ cp ∧ cp ≤ maxLen) ∧ F = []
  men x := Nat.beq x D
  mono h _ _ hφ := ⟨⟨by rw [hφ D (by simp)]; exact h.1.1, h.1.2⟩, h.2⟩
  lt h := by rw [h.2]; simp
theorem RV.lcl_gat {L : Nat} {u : Value} {D m cp : Nat} : (RV.gat u D m cp).Lcl L := fun h _ => h
/-- Some value of one cell. -/
def PV.any : PV where
  rel _ _ v := v.oneCell' = true
  own _ _ v F := v.oneCell' = true ∧ F = []
  one h := h
  toRel h := h.1
  relMono h _ := h
  ownMono h _ _ := h
  lt h := by rw [h.2]; simp
theorem PV.to_any {p : PV} : p.To PV.any := fun h => p.one h
theorem PV.bor_any : PV.any.Bor := fun h => ⟨h, rfl⟩
theorem PV.lcl_any {L : Nat} : PV.any.Lcl L := fun h _ => h
theorem give_refl {Fp : Nat → List Nat} {r b : Nat} {F X : List Nat} (hX : ∀ b, b ∈ F ++ X → b ∈ Fp 0) (x : Nat) (h : b ∈ give Fp r F X x) : (∃ y, b ∈ Fp y) := by
  rcases give_mem h with ⟨_, k⟩ | ⟨_, _, k⟩ | ⟨_, _, k⟩
  · exact ⟨0, hX _ (by simp [k])⟩
  · exact ⟨0, hX _ (by simp [k])⟩
  · exact ⟨x, k⟩
section
variable {σ : St} {a : Act} {w : World} {φ : Nat → Nat} {Fz : FzT} {Fp : Nat → List Nat}
/-- The array of a slice that floats becomes variable D. -/
theorem ConcW.thawF (hc : ConcW h0 w0 Fz0 n σ a w φ Fz Fp) {D G E e L : Nat} {u : Value} {es : List (List PV)} {F X : List Nat} (ho : SlOwn E e es Fz w u F) (hne : es ≠ []) (hX : ∀ b, b ∈ F ++ X → b ∈ Fp 0) (hn : (F ++ X).Nodup)
    (hD : σ.b D = none) (hG : σ.s G = none) (hm : ∀ i rv, σ.s i = some rv → rv.men D = false) (hL : ∀ x, x < L → h0 x) (hls : ∀ i rv, σ.s i = some rv → rv.Lcl L) (hlb : ∀ d bx, σ.b d = some bx → LclC L bx.2) (hes : ∀ cs, cs ∈ es → LclC L cs) :
    ∃ (cp : Nat) (jk : List Value), es.length ≤ 9223372036854775807 ∧ es.length ≤ cp ∧ es.length * e + jk.length = cp * e ∧ Conc h0 w0 Fz0 n ((σ.setB D (some (E, es.flatten ++ jk.map PV.val))).set G (some (RV.gat u D es.length cp))) a w := by
  obtain ⟨css, F', ho, hl, hf, hF, h1⟩ := ho
  rcases ho.2 with ⟨_, hn0⟩ | ⟨g, cap, cur, hval, _, hg, hnc, hcm, hcs, htake⟩
  · exact absurd (List.eq_nil_of_length_eq_zero hn0) hne
  have hob : u.ownBlock = some g := by rw [hval]; rfl
  rw [hob] at hF hf
  have hF : F = g :: F' := hF
  subst hF
  have hg0 : g ∈ Fp 0 := hX g (by simp)
  have hgl := hc.low 0 g hg0
  -- the block's cells are no longer said to stay
  have c2 := hc.uworld (w' := w) (Fz' := fun x o => Fz x o ∧ x ≠ g) (L := L) rfl rfl rfl (Nat.le_refl _)
    (fun x hx h0' => ⟨rfl, fun o => ⟨fun k => k.1, fun k => ⟨k, fun e => h0' (by rw [e]; exact hg0)⟩⟩⟩) hL hls hlb
    (fun x o k => hc.fzl x o k.1) (X := g :: F' ++ X) (fun x hx => .inl (hX x hx)) hn
  have hgF : g ∉ F' := by
    have := (List.nodup_append.1 hn).1
    exact (List.nodup_cons.1 this).1
  have hl2 : OwnLL e es (fun x o => Fz x o ∧ x ≠ g) w css F' := lcl_ll (L := L) hes hl (fun x hx => ⟨rfl, fun o => ⟨fun k => k.1, fun k => ⟨k, fun e => by
      rcases hx with hx | hx
      · exact hgl.1 (e ▸ hL x hx)
      · rw [e] at hx; exact hgF hx⟩⟩⟩)
  have hone := h1 g hob cur E (0, 0) hg
  have hjl : es.length * e + (cur.toList.drop (es.length * e)).length = cap * e := by
    have hle : es.length * e ≤ cap * e := Nat.mul_le_mul_right _ hnc
    rw [List.length_drop, show cur.toList.length = cap * e from by rw [← hcs]; simp]; omega
  have hcur : OwnL (es.flatten ++ (cur.toList.drop (es.length * e)).map PV.val) (fun x o => Fz x o ∧ x ≠ g) w cur.toList F' := by
    have k := (OwnLL.flat hl2).append (own_vals (Fz := fun x o => Fz x o ∧ x ≠ g) (w := w) (vs := cur.toList.drop (es.length * e)) fun v hv => hone v (List.mem_of_mem_drop hv))
    rw [← htake, List.take_append_drop, List.append_nil] at k
    exact k
  have c3 := c2.pushB (d := D) (g := g) (t := E) (cs := es.flatten ++ (cur.toList.drop (es.length * e)).map PV.val) (F := F') (X := X) hD hg hcur (fun o k => k.2 rfl)
    (fun x hx => by
      simp only [if_true]
      rcases List.mem_append.1 hx with hx | hx
      · simp [hx]
      · rcases List.mem_cons.1 hx with rfl | hx
        · simp
        · simp [hx])
    (by
      simp only [List.cons_append, List.nodup_cons, List.mem_append] at hn
      rw [List.nodup_append] at hn ⊢
      obtain ⟨k1, k2, k3, k4⟩ := hn
      refine ⟨k2, List.nodup_cons.2 ⟨fun hh => k1 (.inr hh), k3⟩, fun x hx y hy e => ?_⟩
      rcases List.mem_cons.1 hy with rfl | hy
      · exact k1 (.inl (e ▸ hx))
      · exact k4 x hx y hy e)
    (.inr hm)
  have c4 := (c3.pull G).reslot (s := G) (rv := RV.gat u D es.length cap) ⟨⟨by rw [hval]; simp, hnc, hcm⟩, by simp [mv]⟩
  refine ⟨cap, _, by unfold maxLen at hcm; omega, hnc, hjl, Conc.eqv ⟨_, _, _, c4⟩ (fun i => by
    simp only [St.set_s, St.setB_s]
    split <;> rfl) (fun d => rfl)⟩
end
variable {Q : Exit → St → Prop} {c : Code}
def LclBA2 (L : Nat) : List (Nat × (Nat × List PV)) → Prop
  | [] => True
  | p :: l => LclC L p.2.2 ∧ LclBA2 L l
theorem LclBA2.mem {L : Nat} : ∀ {l : List (Nat × (Nat × List PV))}, LclBA2 L l → ∀ p, p ∈ l → LclC L p.2.2
  | [], _, p, hp => by simp at hp
  | q :: l, h, p, hp => by
    rcases List.mem_cons.1 hp with rfl | hp
    · exact h.1
    · exact LclBA2.mem h.2 p hp
def LclS2 (L : Nat) : List (Nat × RV) → Prop
  | [] => True
  | p :: l => p.2.Lcl L ∧ LclS2 L l
theorem LclS2.mem {L : Nat} : ∀ {l : List (Nat × RV)}, LclS2 L l → ∀ p, p ∈ l → p.2.Lcl L
  | [], _, p, hp => by simp at hp
  | q :: l, h, p, hp => by
    rcases List.mem_cons.1 hp with rfl | hp
    · exact h.1
    · exact LclS2.mem h.2 p hp
/-- The array of an own slice inside a variable becomes a variable. -/
theorem sw_thawB {l : List (Nat × RV)} {b : List (Nat × (Nat × List PV))} (d t D G E e L : Nat) (A B : List PV) {es : List (List PV)} (hd : lk b d = some (t, A ++ ([PV.sl (.own E e) es] ++ B))) (hne : es ≠ []) (hD : lk b D = none) (hG : lk l G = none) (hdD : Nat.beq D d = false) (hfr : (l.all fun p => !p.2.men D) = true)
    (hL : ∀ x, x < L → h0 x) (hls : LclS2 L l) (hlb : LclB L d b) (hA : LclC L A) (hB : LclC L B) (hes : ∀ cs, cs ∈ es → LclC L cs)
    (h : ∀ (u : Value) (cp : Nat) (jk : List Value), es.length ≤ 9223372036854775807 → es.length ≤ cp → es.length * e + jk.length = cp * e → SW P n h0 w0 Fz0 c ((((St.of l b).setB d (some (t, A ++ ([PV.val u] ++ B)))).setB D (some (E, es.flatten ++ jk.map PV.val))).set G (some (RV.gat u D es.length cp))) Q) : SW P n h0 w0 Fz0 c (St.of l b) Q := fun a w hc => by
  obtain ⟨φ, Fz, Fp, hc⟩ := hc
  have hd' : (St.of l b).b d = some (t, A ++ ([PV.sl (.own E e) es] ++ B)) := hd
  obtain ⟨cur, hg, ho⟩ := hc.box d _ hd'
  obtain ⟨k1, k2, k3⟩ := hc.bxb d _ hd'
  obtain ⟨vA, vM, vB, FA, FM, FB, e1, e2, kA, kM, kB⟩ := own_mid ho
  obtain ⟨u, vs', F1, F2, rfl, rfl, hu, hu2, hu3⟩ := kM
  subst hu2 hu3
  have hu : SlOwn E e es Fz w u F1 := hu
  have c1 := hc.pullB hd'
  generalize hFp1 : (fun x => if x = 0 then φ d :: mv Fp (2 * d + 2) 0 else mv Fp (2 * d + 2) x) = Fp1 at c1
  have e0 : Fp1 0 = φ d :: ((FA ++ ((F1 ++ []) ++ FB)) ++ Fp 0) := by rw [← hFp1]; simp only [if_true]; congr 1; simp only [mv, if_true]; rw [e2]
  have hnd := c1.nod 0
  have hone : u.oneCell' = true := (PV.sl (.own E e) es).one (Fz := Fz) (w := w) ⟨hu.rel, True.intro⟩
  have c2 := c1.pushB (d := d) (g := φ d) (t := t) (cs := A ++ ([PV.val u] ++ B)) (cur := cur) (F := FA ++ ([] ++ FB)) (X := F1 ++ Fp 0) (by simp [St.setB_b]) hg
    (by rw [e1]; exact kA.append (OwnL.append (ps := [PV.val u]) ⟨u, [], [], [], rfl, rfl, ⟨⟨rfl, hone⟩, rfl⟩, rfl, rfl⟩ kB)) k2
    (fun x hx => by
      rw [e0]
      simp only [List.mem_append, List.mem_cons, List.append_nil, List.nil_append] at hx ⊢
      rcases hx with (hx | hx) | hx | hx | hx <;> simp [hx])
    (by
      rw [e0] at hnd
      refine (List.Perm.nodup_iff ?_).2 hnd
      simp only [List.append_nil, List.nil_append, List.append_assoc]
      rw [← List.append_assoc]
      refine List.perm_middle.trans (List.Perm.cons _ ?_)
      simp only [List.append_assoc]
      refine List.Perm.append_left FA ?_
      rw [← List.append_assoc, ← List.append_assoc]
      exact List.Perm.append_right _ List.perm_append_comm) (.inl rfl)
  have hst : ∀ i rv, (((St.of l b).setB d none).setB d (some (t, A ++ ([PV.val u] ++ B)))).s i = some rv → (i, rv) ∈ l := fun i rv hi => lk_mem hi
  obtain ⟨cp, jk, q1, q2, q3, c5⟩ := c2.thawF (D := D) (G := G) (L := L) (F := F1) (X := Fp 0) (es := es) (u := u) (E := E) (e := e) hu hne
    (fun x hx => by simp only [give, if_true]; rw [if_neg (by omega)]; exact hx)
    (by
      have := c2.nod 0
      simp only [give, if_true] at this
      rw [if_neg (by omega)] at this
      exact this)
    (by
      rw [St.setB_b, if_neg (fun e => by rw [e] at hdD; simp at hdD), St.setB_b, if_neg (fun e => by rw [e] at hdD; simp at hdD)]
      exact hD)
    hG (fun i rv hi => by
      have := List.all_eq_true.1 hfr _ (hst i rv hi)
      simpa using this) hL (fun i rv hi => hls.mem _ (hst i rv hi))
    (fun d' bx hb' => by
      rw [St.setB_b] at hb'
      split at hb'
      · injection hb' with hb'; subst hb'
        exact LclC.app hA (LclC.app (LclC.cons PV.lcl_val LclC.nil) hB)
      · rename_i hne'
        rw [St.setB_b, if_neg hne'] at hb'
        rcases hlb.mem _ (lk_mem hb') with e | k
        · exact absurd e hne'
        · exact k) hes
  refine h u cp jk q1 q2 q3 a w (Conc.eqv c5 (fun i => rfl) (fun x => by
    simp only [St.set_b, St.setB_b]
    split
    · rfl
    · split
      · rfl
      · rfl))
/-- The variable is the array of the slice again. -/
theorem sw_frzIn {σ : St} {d t D G E e m cp : Nat} {A B : List PV} {u : Value} {es : List (List PV)} {jk : List Value} (hd : σ.b d = some (t, A ++ ([PV.val u] ++ B))) (hG : σ.s G = some (RV.gat u D m cp)) (hb : σ.b D = some (E, es.flatten ++ jk.map PV.val)) (hdD : Nat.beq D d = false) (hl : es.length = m) (he : ∀ c, c ∈ es → c.length = e) (hj : m * e + jk.length = cp * e)
    (h : SW P n h0 w0 Fz0 c (((σ.setB D none).set G none).setB d (some (t, A ++ ([PV.sl (.own E e) es] ++ B)))) Q) : SW P n h0 w0 Fz0 c σ Q := fun a w hc => by
  obtain ⟨φ, Fz, Fp, hc⟩ := hc
  obtain ⟨⟨ev, hmc, hmx⟩, _⟩ := hc.slot G _ hG
  have hne' : ¬ d = D := fun e => by rw [e] at hdD; simp at hdD
  obtain ⟨Fz', Fp', c3, hsl, hX, hnd, hs0⟩ := hc.freeze (s := G) hb hmc hmx hl he hj
  have hd3 : ((σ.setB D none).set G none).b d = some (t, A ++ ([PV.val u] ++ B)) := by rw [St.set_b, St.setB_b, if_neg hne']; exact hd
  obtain ⟨cur, hg, ho⟩ := c3.box d _ hd3
  obtain ⟨k1, k2, k3⟩ := c3.bxb d _ hd3
  obtain ⟨vA, vM, vB, FA, FM, FB, e1, e2, kA, kM, kB⟩ := own_mid ho
  obtain ⟨u', vs', F1, F2, rfl, rfl, hu, hu2, hu3⟩ := kM
  subst hu2 hu3
  obtain ⟨⟨rfl, hone⟩, rfl⟩ := hu
  have c4 := c3.pullB hd3
  generalize hFp1 : (fun x => if x = 0 then φ d :: mv Fp' (2 * d + 2) 0 else mv Fp' (2 * d + 2) x) = Fp1 at c4
  have e0 : Fp1 0 = φ d :: ((FA ++ (([] ++ []) ++ FB)) ++ Fp' 0) := by rw [← hFp1]; simp only [if_true]; congr 1; simp only [mv, if_true]; rw [e2]
  have hnd0 := c4.nod 0
  rw [e0] at hnd0
  simp only [List.nil_append] at hnd0 e0
  have hdis : ∀ x, x ∈ φ D :: Fp (2 * D + 2) → x ≠ φ d ∧ x ∉ FA ++ FB := fun x hx => by
    have hx' := hX x hx
    rw [List.nodup_cons, List.nodup_append] at hnd0
    exact ⟨fun e => hnd0.1 (by rw [← e]; simp [hx']), fun hh => hnd0.2.2.2 x hh x hx' rfl⟩
  have c5 := c4.pushB (d := d) (g := φ d) (t := t) (cs := A ++ ([PV.sl (.own E e) es] ++ B)) (cur := cur) (F := FA ++ ((φ D :: Fp (2 * D + 2)) ++ FB)) (X := []) (by simp [St.setB_b]) hg
    (by rw [e1]; exact kA.append (OwnL.append (ps := [PV.sl (.own E e) es]) ⟨u', [], φ D :: Fp (2 * D + 2), [], rfl, by simp, by rw [ev]; exact hsl, rfl, rfl⟩ kB)) k2
    (fun x hx => by
      rw [e0]
      simp only [List.mem_append, List.mem_cons, List.not_mem_nil, or_false] at hx ⊢
      rcases hx with (hx | (hx | hx) | hx) | hx
      · simp [hx]
      · exact .inr (.inr (hX x (by simp [hx])))
      · exact .inr (.inr (hX x (by simp [hx])))
      · simp [hx]
      · simp [hx])
    (by
      have hn1 : (FA ++ FB).Nodup := by
        rw [List.nodup_cons, List.nodup_append] at hnd0
        exact hnd0.2.1
      have hn2 : φ d ∉ FA ++ FB := fun hh => by
        rw [List.nodup_cons] at hnd0
        exact hnd0.1 (List.mem_append.2 (.inl hh))
      have hp : (FA ++ ((φ D :: Fp (2 * D + 2)) ++ FB) ++ [φ d]).Perm ((φ D :: Fp (2 * D + 2)) ++ (φ d :: (FA ++ FB))) := by
        have p1 : (FA ++ ((φ D :: Fp (2 * D + 2)) ++ FB)).Perm ((φ D :: Fp (2 * D + 2)) ++ (FA ++ FB)) := by
          rw [← List.append_assoc, ← List.append_assoc]
          exact List.Perm.append_right _ List.perm_append_comm
        refine (List.perm_append_singleton _ _).trans ?_
        refine (List.Perm.cons _ p1).trans ?_
        exact List.perm_middle.symm
      refine (List.Perm.nodup_iff hp).2 ?_
      rw [List.nodup_append]
      refine ⟨hnd, List.nodup_cons.2 ⟨hn2, hn1⟩, fun x hx y hy e => ?_⟩
      subst e
      rcases List.mem_cons.1 hy with hy | hy
      · exact (hdis x hx).1 hy
      · exact (hdis x hx).2 hy) (.inl rfl)
  refine h a w (Conc.eqv ⟨_, _, _, c5⟩ (fun i => rfl) (fun x => by
    simp only [St.set_b, St.setB_b]
    split <;> rfl))
/-- The array of an own slice in a slot becomes a variable. -/
theorem sw_thawS {l : List (Nat × RV)} {b : List (Nat × (Nat × List PV))} (s D G E e L : Nat) {es : List (List PV)} (hs : lk l s = some (RV.sv false [PV.sl (.own E e) es])) (hne : es ≠ []) (hD : lk b D = none) (hG : lk l G = none) (hsG : Nat.beq G s = false) (hfr : (l.all fun p => !p.2.men D) = true)
    (hL : ∀ x, x < L → h0 x) (hls : LclS L s l) (hlb : LclBA2 L b) (hes : ∀ cs, cs ∈ es → LclC L cs)
    (h : ∀ (u : Value) (cp : Nat) (jk : List Value), es.length ≤ 9223372036854775807 → es.length ≤ cp → es.length * e + jk.length = cp * e → SW P n h0 w0 Fz0 c ((((St.of l b).set s (some (RV.sc u))).setB D (some (E, es.flatten ++ jk.map PV.val))).set G (some (RV.gat u D es.length cp))) Q) : SW P n h0 w0 Fz0 c (St.of l b) Q := fun a w hc => by
  obtain ⟨φ, Fz, Fp, hc⟩ := hc
  have hv : SlOwn E e es Fz w (a.tmps.getD s undef) (Fp (2 * s + 1)) := (SvOwn.atom (hc.slot s _ hs))
  have hone : (a.tmps.getD s undef).oneCell' = true := (PV.sl (.own E e) es).one (Fz := Fz) (w := w) ⟨hv.rel, True.intro⟩
  have e0 : mv Fp (2 * s + 1) 0 = Fp (2 * s + 1) ++ Fp 0 := by simp [mv]
  have hGs : ¬ G = s := fun e => by rw [e] at hsG; simp at hsG
  have c1 := (hc.pull s).reslot (s := s) (rv := RV.sc (a.tmps.getD s undef)) (by
    have : mv Fp (2 * s + 1) (2 * s + 1) = [] := by simp [mv]
    rw [this]
    exact SvOwn.of_sc hone)
  have hst : ∀ i rv, i ≠ s → (((St.of l b).set s none).set s (some (RV.sc (a.tmps.getD s undef)))).s i = some rv → (i, rv) ∈ l := fun i rv hi k => by
    rw [St.set_s, if_neg hi, St.set_s, if_neg hi] at k
    exact lk_mem k
  have hss : ∀ rv, (((St.of l b).set s none).set s (some (RV.sc (a.tmps.getD s undef)))).s s = some rv → rv = RV.sc (a.tmps.getD s undef) := fun rv k => by
    rw [St.set_s, if_pos rfl] at k
    exact (Option.some.inj k).symm
  obtain ⟨cp, jk, q1, q2, q3, c5⟩ := c1.thawF (D := D) (G := G) (L := L) (F := Fp (2 * s + 1)) (X := Fp 0) (es := es) (u := a.tmps.getD s undef) (E := E) (e := e) hv hne
    (fun x hx => by rw [e0]; exact hx) (by have := (hc.pull s).nod 0; rw [e0] at this; exact this) hD
    (by rw [St.set_s, if_neg hGs, St.set_s, if_neg hGs]; exact hG)
    (fun i rv hi => by
      by_cases k : i = s
      · subst k; rw [hss rv hi]; rfl
      · have := List.all_eq_true.1 hfr _ (hst i rv k hi)
        simpa using this) hL
    (fun i rv hi => by
      by_cases k : i = s
      · subst k; rw [hss rv hi]; exact RV.lcl_sv (LclC.cons PV.lcl_val LclC.nil)
      · rcases hls.mem _ (hst i rv k hi) with q | q
        · exact absurd q k
        · exact q)
    (fun d bx hb => LclBA2.mem hlb _ (lk_mem hb)) hes
  refine h _ cp jk q1 q2 q3 a w (Conc.eqv c5 (fun i => by
    simp only [St.set_s, St.setB_s]
    split
    · rfl
    · split
      · rfl
      · rfl) (fun x => rfl))
/-- The slot has the slice again. -/
theorem sw_frzS {σ : St} {s D G E e m cp : Nat} {u : Value} {es : List (List PV)} {jk : List Value} (hs : σ.s s = some (RV.sc u)) (hG : σ.s G = some (RV.gat u D m cp)) (hb : σ.b D = some (E, es.flatten ++ jk.map PV.val)) (hsG : Nat.beq G s = false) (hsn : s < n) (hl : es.length = m) (he : ∀ c, c ∈ es → c.length = e) (hj : m * e + jk.length = cp * e)
    (h : SW P n h0 w0 Fz0 c (((σ.setB D none).set G none).set s (some (RV.sv false [PV.sl (.own E e) es]))) Q) : SW P n h0 w0 Fz0 c σ Q := fun a w hc => by
  obtain ⟨φ, Fz, Fp, hc⟩ := hc
  obtain ⟨⟨ev, hmc, hmx⟩, _⟩ := hc.slot G _ hG
  have hu := (hc.one_ hs).1
  obtain ⟨Fz', Fp', c3, hsl, hX, hnd, hs0⟩ := hc.freeze (s := G) hb hmc hmx hl he hj
  have hself : a.put (some s) (a.tmps.getD s undef) = a := put_self
  have c3' := c3.pull s
  have c4 := c3'.push (i := s) (rv := RV.sv false [PV.sl (.own E e) es]) (v := a.tmps.getD s undef) (F := φ D :: Fp (2 * D + 2)) (X := []) hsn
    (SvOwn.of_atom (p := PV.sl (.own E e) es) (by rw [hu, ev]; exact hsl)) (fun x hx => by
      have := hX x (by simpa using hx)
      simp only [mv, if_true]
      simp [this]) (by simpa using hnd)
  rw [hself] at c4
  exact h a w (Conc.eqv ⟨_, _, _, c4⟩ (fun i => by simp only [St.set_s]; split <;> rfl) (fun d => rfl))
/-- An element set apart. -/
theorem at_split {α : Type} {xs : List α} {f : α → List PV} {J : List PV} {k : Nat} (hk : k < xs.length) : (xs.map f).flatten ++ J = ((xs.take k).map f).flatten ++ (f xs[k] ++ (((xs.drop (k + 1)).map f).flatten ++ J)) := by
  conv => lhs; rw [← List.take_append_drop k xs, List.drop_eq_getElem_cons hk]
  simp only [List.map_append, List.map_cons, List.flatten_append, List.flatten_cons, List.append_assoc]
theorem at_join {α : Type} {xs : List α} {f : α → List PV} {J cs : List PV} {k : Nat} (y : α) (hk : k < xs.length) (hy : cs = f y) : ((xs.take k).map f).flatten ++ (cs ++ (((xs.drop (k + 1)).map f).flatten ++ J)) = ((xs.set k y).map f).flatten ++ J := by
  subst hy
  rw [List.set_eq_take_append_cons_drop, if_pos hk]
  simp only [List.map_append, List.map_cons, List.flatten_append, List.flatten_cons, List.append_assoc]
theorem map_ne {α β : Type} {xs : List α} {f : α → β} {k : Nat} (hk : k < xs.length) : xs.map f ≠ [] := fun e => by
  have := congrArg List.length e
  rw [List.length_map, List.length_nil] at this; omega
theorem at_len {α : Type} {xs : List α} {f : α → List PV} {k e : Nat} (hf : ∀ x, (f x).length = e) (hk : k ≤ xs.length) : ((xs.take k).map f).flatten.length = k * e := by
  rw [flatten_len (e := e) (fun cs hcs => by obtain ⟨x, _, rfl⟩ := List.mem_map.1 hcs; exact hf x), List.length_map, List.length_take, Nat.min_eq_left hk]
section
variable {ops : Array Oper}
theorem loc_gidx {T E e bs d s G D m cp k : Nat} {i : Operand} {ty : TypeId} {pos : String} {af : Array Edge} {g : Option (Nat × Bool)} {u : Value} {q : Int} (hd : d < n) (hT : sliceI P T = some (E, e, bs)) (hi : OpOk i (RV.int q)) (hq : q = (k : Int)) (hk : k < m) :
    Loc P n ⟨some d, .indexAddr T (.tmp s) i, ty, pos, af, g⟩ ⟨(s, RV.sc u) :: (G, RV.gat u D m cp) :: opR i (RV.int q), [], [(d, some (RV.ptr D (k * e)))], [], none⟩ := by
  intro h0 w0 Fz0 σ a w K Q hc hr _ _ h5
  obtain ⟨φ, Fz, Fp, hc⟩ := hc
  subst hq
  have ei := hc.sc hr.2.2 hi
  obtain ⟨⟨eu, _⟩, _⟩ := hc.slot G _ hr.2.1
  have ev := (hc.one_ hr.1).1
  obtain ⟨hu, inf, hinf, hsz, _⟩ := sliceI_spec hT
  refine wp_val (v := .pointer (some ⟨φ D, k * e, none⟩)) (w' := w) ?_ (h5 _ _ (hc.put0 hd ⟨rfl, rfl⟩))
  unfold execOp
  have es' : a.eval (.tmp s) = .slice (some ⟨φ D, 0, none⟩) m cp := by rw [← eu]; exact ev
  have hlt' : (0 : Int) ≤ (k : Int) ∧ (k : Int) < (m : Int) := by omega
  simp only [es', ei, Instr.indexAt, asIntOf, Sem.run_bind, Sem.run_pure, Result.andThen_ok, run_underlying hu]
  simp [hlt', sizeOf, typeInfo, hinf, hsz, add_lit]
theorem loc_glen {T E e bs d s G D m cp : Nat} {ty : TypeId} {pos : String} {af : Array Edge} {g : Option (Nat × Bool)} {u : Value} (hd : d < n) (hT : sliceI P T = some (E, e, bs)) :
    Loc P n ⟨some d, .call { callee := .builtin .len, args := #[.tmp s], argTypes := #[T] }, ty, pos, af, g⟩ ⟨[(s, RV.sc u), (G, RV.gat u D m cp)], [], [(d, some (RV.int (m : Int)))], [], none⟩ := by
  intro h0 w0 Fz0 σ a w K Q hc hr _ _ h5
  obtain ⟨φ, Fz, Fp, hc⟩ := hc
  obtain ⟨⟨eu, _⟩, _⟩ := hc.slot G _ hr.2.1
  have ev := (hc.one_ hr.1).1
  obtain ⟨hu, _⟩ := sliceI_spec hT
  refine wp_val (v := .int .i64 (m : Int)) (w' := w) ?_ (h5 _ _ (hc.put0 hd (SvOwn.of_sc rfl)))
  have es' : a.eval (.tmp s) = .slice (some ⟨φ D, 0, none⟩) m cp := by rw [← eu]; exact ev
  unfold execOp
  simp [resolve, invoke, builtin, es', Builtin.len_, run_underlying hu, goInt]
theorem loc_ltakeM {T d p b off t o : Nat} {ty : TypeId} {pos : String} {af : Array Edge} {g : Option (Nat × Bool)} {ag : Bool} {k : Nat} {A m B ms qs : List PV} (hoff : off = A.length + o) (hd : d < n) (hT : tyI P T = some (ag, k)) (h1 : ag = false → k = 1) (hk : o + k ≤ m.length)
    (hm : (m.drop o).take k = ms) (ht : ToL ms qs) (hb : BorL qs) :
    Loc P n ⟨some d, .load T (.tmp p), ty, pos, af, g⟩ ⟨[(p, RV.ptr b off)], [(b, (t, A ++ (m ++ B)))], [(d, some (RV.sv ag ms))], [(b, some (t, A ++ ((m.take o ++ (qs ++ m.drop (o + k))) ++ B)))], none⟩ := by
  have h : Loc P n ⟨some d, .load T (.tmp p), ty, pos, af, g⟩ ⟨[(p, RV.ptr b off)], [(b, (t, A ++ (m ++ B)))], [(d, some (RV.sv ag ms))], [(b, some (t, (A ++ (m ++ B)).take off ++ (qs ++ (A ++ (m ++ B)).drop (off + k))))], none⟩ :=
    loc_ltake hd hT h1 (by rw [hoff]; simp only [List.length_append]; omega) (by
      rw [hoff, mid_drop (by omega), List.take_append_of_le_length (by rw [List.length_drop]; omega)]; exact hm) ht hb
  have e : (A ++ (m ++ B)).take off ++ (qs ++ (A ++ (m ++ B)).drop (off + k)) = A ++ ((m.take o ++ (qs ++ m.drop (o + k))) ++ B) := by
    rw [hoff, mid_take (by omega), show A.length + o + k = A.length + (o + k) by omega, mid_drop hk]
    simp only [List.append_assoc]
  rw [e] at h
  exact @h
end
end
end Go.Proofs.Ytloipjaiceifbaa.M
