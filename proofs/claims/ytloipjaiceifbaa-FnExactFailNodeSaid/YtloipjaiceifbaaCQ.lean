/- What a variable owns is lent to a ghost, and comes back where its value has gone. No condition. -/
import Derived.Test.YtloipjaiceifbaaCP
set_option linter.unusedVariables false
namespace Go.Proofs.Ytloipjaiceifbaa.M
open Go Go.RowKit
/-- The cells us, wherever they are, own as cs. -/
def RV.gh (us : List Value) (cs : List PV) : RV where
  holds _ Fz w _ F := OwnL cs Fz w us F
  men _ := false
  mono h k hh _ := h.mono k hh
  lt h := h.lt
theorem RV.lcl_gh {L : Nat} {us : List Value} {cs : List PV} (h : LclC L cs) : (RV.gh us cs).Lcl L := fun hh hk => h.own hh hk
def valL (us : List Value) : List PV := us.map PV.val
theorem own_valL {Fz : FzT} {w : World} {us : List Value} (h : ∀ u, u ∈ us → u.oneCell' = true) : OwnL (valL us) Fz w us [] := own_vals h
section
variable {P : Program} {n : Nat} {h0 : Nat → Prop} {w0 : World} {Fz0 : FzT} {σ : St} {Q : Exit → St → Prop} {c : Code}
/-- What lies at region r moves to region q, which is empty. -/
def swp (Fp : Nat → List Nat) (r q : Nat) : Nat → List Nat := fun x => if x = q then Fp r else if x = r then [] else Fp x
theorem swp_mem {Fp : Nat → List Nat} {r q x b : Nat} (h : b ∈ swp Fp r q x) : (x = q ∧ b ∈ Fp r) ∨ (x ≠ q ∧ x ≠ r ∧ b ∈ Fp x) := by
  unfold swp at h
  split at h
  · rename_i e; exact .inl ⟨e, h⟩
  · split at h
    · simp at h
    · rename_i e1 e2; exact .inr ⟨e1, e2, h⟩
theorem swp_dis {Fp : Nat → List Nat} {r q : Nat} (dis : ∀ r r', r ≠ r' → ∀ b, b ∈ Fp r → b ∉ Fp r') : ∀ x y, x ≠ y → ∀ b, b ∈ swp Fp r q x → b ∉ swp Fp r q y := by
  intro x y hxy b hb hb'
  rcases swp_mem hb with ⟨e1, h1⟩ | ⟨e1, e2, h1⟩ <;> rcases swp_mem hb' with ⟨f1, h2⟩ | ⟨f1, f2, h2⟩
  · omega
  · exact dis _ _ (fun e => f2 e.symm) b h1 h2
  · exact dis _ _ e2 b h1 h2
  · exact dis _ _ hxy b h1 h2
theorem swp_nod {Fp : Nat → List Nat} {r q : Nat} (nod : ∀ r, (Fp r).Nodup) : ∀ x, (swp Fp r q x).Nodup := by
  intro x
  unfold swp
  split
  · exact nod r
  · split
    · exact List.nodup_nil
    · exact nod x
theorem relval {cs : List PV} {us : List Value} {j : Nat} {x u : Value} (h : ∃ Fz w, RelL cs Fz w us) (hc : cs[j]? = some (PV.val x)) (hu : us[j]? = some u) : u = x := by
  obtain ⟨Fz, w, h⟩ := h
  obtain ⟨v, h1, h2⟩ := h.at_ hc
  rw [hu] at h1
  injection h1 with h1
  rw [h1]; exact h2.1
theorem sw_lendB {d t G : Nat} {cs : List PV} (hd : σ.b d = some (t, cs)) (hG : σ.s G = none) (h : ∀ us : List Value, us.length = cs.length → (∃ Fz w, RelL cs Fz w us) → SW P n h0 w0 Fz0 c ((σ.setB d (some (t, valL us))).set G (some (RV.gh us cs))) Q) : SW P n h0 w0 Fz0 c σ Q := fun a w hc => by
  obtain ⟨φ, Fz, Fp, hc⟩ := hc
  obtain ⟨cur, h1, h2⟩ := hc.box d _ hd
  have k0 := hc.pull G
  have e0 : ∀ i rv, (σ.set G none).s i = some rv → i ≠ G ∧ σ.s i = some rv := fun i rv hi => by
    rw [St.set_s] at hi
    split at hi
    · cases hi
    · rename_i hne; exact ⟨hne, hi⟩
  have hne : mv Fp (2 * G + 1) (2 * d + 2) = Fp (2 * d + 2) := by
    simp only [mv]; rw [if_neg (by omega), if_neg (by omega)]
  have hgn : mv Fp (2 * G + 1) (2 * G + 1) = [] := by simp [mv]
  generalize hFp1 : mv Fp (2 * G + 1) = Fp1 at k0 hne hgn
  refine h cur.toList h2.len ⟨Fz, w, h2.rel⟩ a w ⟨φ, Fz, swp Fp1 (2 * d + 2) (2 * G + 1), ?_⟩
  have hsub : ∀ r b, b ∈ swp Fp1 (2 * d + 2) (2 * G + 1) r → ∃ r', b ∈ Fp1 r' := fun r b hb => by
    rcases swp_mem hb with ⟨_, k⟩ | ⟨_, _, k⟩
    · exact ⟨_, k⟩
    · exact ⟨_, k⟩
  exact { k0 with
    slot := fun i rv hi => by
      rw [St.set_s] at hi
      split at hi
      · rename_i e
        subst e
        injection hi with hi
        subst hi
        show OwnL cs Fz w cur.toList (swp Fp1 (2 * d + 2) (2 * i + 1) (2 * i + 1))
        simp only [swp, if_true]
        rw [hne]; exact h2
      · rename_i e
        have := k0.slot i rv (by rw [St.set_s, if_neg e]; exact hi)
        simp only [swp]
        rw [if_neg (by omega), if_neg (by omega)]
        exact this
    box := fun e bx he => by
      rw [St.set_b, St.setB_b] at he
      split at he
      · rename_i e'; subst e'; injection he with he; subst he
        refine ⟨cur, h1, ?_⟩
        simp only [swp]
        rw [if_neg (by omega), if_pos (by trivial)]
        exact own_valL fun u hu => h2.one u hu
      · rename_i e'
        obtain ⟨cur', k1, k2⟩ := k0.box e bx he
        refine ⟨cur', k1, ?_⟩
        simp only [swp]
        rw [if_neg (by omega), if_neg (by omega)]
        exact k2
    bxb := fun e bx he => by
      have : ∃ z, (σ.set G none).b e = some z := by
        rw [St.set_b, St.setB_b] at he
        split at he
        · rename_i e'; subst e'; exact ⟨_, hd⟩
        · exact ⟨_, he⟩
      obtain ⟨z, hz⟩ := this
      obtain ⟨g1, g2, g3⟩ := k0.bxb e z hz
      exact ⟨g1, g2, fun r hr => by obtain ⟨r', h'⟩ := hsub r _ hr; exact g3 r' h'⟩
    inj := fun e e' c1 c2 he he' => by
      have f : ∀ x y, ((σ.setB d (some (t, valL cur.toList))).set G (some (RV.gh cur.toList cs))).b x = some y → ∃ z, (σ.set G none).b x = some z := by
        intro x y hx
        rw [St.set_b, St.setB_b] at hx
        split at hx
        · rename_i e'; subst e'; exact ⟨_, hd⟩
        · exact ⟨_, hx⟩
      obtain ⟨z1, f1⟩ := f _ _ he
      obtain ⟨z2, f2⟩ := f _ _ he'
      exact k0.inj e e' z1 z2 f1 f2
    dis := swp_dis k0.dis
    nod := swp_nod k0.nod
    low := fun r b hb => by obtain ⟨r', h'⟩ := hsub r b hb; exact k0.low r' b h' }
/-- The value is in a variable now: it owns again. -/
theorem sw_backB {d t G : Nat} {us : List Value} {ps cs : List PV} (hd : σ.b d = some (t, ps)) (hn : Nm ps us) (hG : σ.s G = some (RV.gh us cs)) (h : SW P n h0 w0 Fz0 c ((σ.set G none).setB d (some (t, cs))) Q) : SW P n h0 w0 Fz0 c σ Q := fun a w hc => by
  obtain ⟨φ, Fz, Fp, hc⟩ := hc
  have hg : OwnL cs Fz w us (Fp (2 * G + 1)) := hc.slot G _ hG
  have c1 := hc.pull G
  have e0 : mv Fp (2 * G + 1) 0 = Fp (2 * G + 1) ++ Fp 0 := by simp [mv]
  obtain ⟨cur, h1, h2⟩ := c1.box d (t, ps) hd
  obtain ⟨g1, g2, g3⟩ := c1.bxb d (t, ps) hd
  have hu : cur.toList = us := hn h2.rel
  have c2 := c1.pullB (d := d) (cs := (t, ps)) hd
  generalize hFp1 : mv Fp (2 * G + 1) = Fp1 at c1 c2 e0 h2 g3
  have hnd := c2.nod 0
  simp only [if_true] at hnd
  have em : mv Fp1 (2 * d + 2) 0 = Fp1 (2 * d + 2) ++ Fp1 0 := by simp [mv]
  rw [em, e0] at hnd
  have c3 := c2.pushB (d := d) (g := φ d) (t := t) (cs := cs) (F := Fp (2 * G + 1)) (X := Fp 0) (by rw [St.setB_b, if_pos rfl]) h1 (by rw [hu]; exact hg) g2
    (fun x hx => by
      simp only [if_true]
      rw [em, e0]
      rcases List.mem_append.1 hx with hx | hx
      · simp [hx]
      · rcases List.mem_cons.1 hx with rfl | hx
        · simp
        · simp [hx])
    (by
      simp only [List.nodup_cons, List.mem_append] at hnd
      obtain ⟨m0, m1⟩ := hnd
      have m2 := (List.nodup_append.1 m1).2.1
      rw [List.nodup_append] at m2 ⊢
      refine ⟨m2.1, List.nodup_cons.2 ⟨fun hh => m0 (.inr (.inr hh)), m2.2.1⟩, fun x hx y hy e => ?_⟩
      rcases List.mem_cons.1 hy with rfl | hy
      · exact m0 (.inr (.inl (e ▸ hx)))
      · exact m2.2.2 x hx y hy e)
    (.inl rfl)
  exact h a w (Conc.eqv ⟨_, _, _, c3⟩ (fun i => rfl) (fun e => by
    simp only [St.setB_b, St.set_b]
    split <;> rfl))
/-- The value is in a slot now. -/
theorem sw_backS {s G : Nat} {us : List Value} {ag : Bool} {ps cs : List PV} (hs : σ.s s = some (RV.sv ag ps)) (hn : Nm ps us) (hsG : Nat.beq s G = false) (hsn : s < n) (hG : σ.s G = some (RV.gh us cs)) (h : SW P n h0 w0 Fz0 c ((σ.set G none).set s (some (RV.sv ag cs))) Q) : SW P n h0 w0 Fz0 c σ Q := fun a w hc => by
  rw [beq_eq, decide_eq_false_iff_not] at hsG
  obtain ⟨φ, Fz, Fp, hc⟩ := hc
  have hg : OwnL cs Fz w us (Fp (2 * G + 1)) := hc.slot G _ hG
  have hv := hc.slot s _ hs
  have hu : (a.tmps.getD s undef).cells.toList = us := hn hv.2.rel
  have c1 := hc.pull s
  have c2 := c1.pull G
  have e1 : mv Fp (2 * s + 1) (2 * G + 1) = Fp (2 * G + 1) := by simp only [mv]; rw [if_neg (by omega), if_neg (by omega)]
  have e2 : mv (mv Fp (2 * s + 1)) (2 * G + 1) 0 = Fp (2 * G + 1) ++ mv Fp (2 * s + 1) 0 := by
    rw [← e1]; simp [mv]
  have hnd := c2.nod 0
  rw [e2] at hnd
  have c3 := c2.push (i := s) (rv := RV.sv ag cs) (v := a.tmps.getD s undef) (F := Fp (2 * G + 1)) (X := mv Fp (2 * s + 1) 0) hsn ⟨hv.1, by rw [hu]; exact hg⟩ (fun x hx => by rw [e2]; exact hx) hnd
  rw [put_self] at c3
  exact h a w (Conc.eqv ⟨_, _, _, c3⟩ (fun i => by
    simp only [St.set_s]
    split
    · rfl
    · split
      · rfl
      · rfl) (fun e => rfl))
end
section
variable {P : Program} {n : Nat}
def optR : Option Operand → RV → List (Nat × RV)
  | none, _ => []
  | some x, r => opR x r
def optOk : Option Operand → Prop → RV → Prop
  | none, p, _ => p
  | some x, _, r => OpOk x r
/-- A part of a slice. -/
theorem loc_sliceM {α : Type} {T E e bs d s : Nat} {lo hi : Option Operand} {ty : TypeId} {pos : String} {af : Array Edge} {g : Option (Nat × Bool)} {o : Fl} {xs ys : List α} {f : α → List PV} {i j : Nat} {q r : Int} (hd : d < n) (hT : sliceI P T = some (E, e, bs))
    (hlo : optOk lo (i = 0) (RV.int q)) (hhi : optOk hi (j = xs.length) (RV.int r)) (hq : q = (i : Int)) (hr : r = (j : Int)) (hij : i ≤ j) (hj : j ≤ xs.length) (he : ∀ x, (f x).length = e) (hy : (xs.take j).drop i = ys) :
    Loc P n ⟨some d, .slice T (.tmp s) lo hi none, ty, pos, af, g⟩ ⟨(s, RV.slc o (xs.map f)) :: (optR lo (RV.int q) ++ optR hi (RV.int r)), [], [(d, some (RV.slc .v (ys.map f)))], [], none⟩ := by
  subst hq hr hy
  rw [List.map_drop, List.map_take]
  have hj' : j ≤ (xs.map f).length := by simpa using hj
  have he' : ∀ cs, cs ∈ xs.map f → cs.length = e := fun cs hcs => by obtain ⟨x, _, rfl⟩ := List.mem_map.1 hcs; exact he x
  intro h0 w0 Fz0 σ a w K Q hc hr hb hf hk
  cases lo with
  | none => cases hi with
    | none => exact loc_slice (lo := none) (hi := none) (o := o) (es := xs.map f) (i := i) (j := j) hd hT hlo (by rw [List.length_map]; exact hhi) hij hj' he' hc hr hb hf hk
    | some y => exact loc_slice (lo := none) (hi := some y) (o := o) (es := xs.map f) (i := i) (j := j) hd hT hlo hhi hij hj' he' hc hr hb hf hk
  | some x => cases hi with
    | none => exact loc_slice (lo := some x) (hi := none) (o := o) (es := xs.map f) (i := i) (j := j) hd hT hlo (by rw [List.length_map]; exact hhi) hij hj' he' hc hr hb hf hk
    | some y => exact loc_slice (lo := some x) (hi := some y) (o := o) (es := xs.map f) (i := i) (j := j) hd hT hlo hhi hij hj' he' hc hr hb hf hk
end
end Go.Proofs.Ytloipjaiceifbaa.M
