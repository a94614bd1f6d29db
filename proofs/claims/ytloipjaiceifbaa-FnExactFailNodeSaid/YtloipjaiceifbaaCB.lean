/- What the slots and the boxes of a call hold, and the call as a whole. No condition. -/
import Derived.Test.YtloipjaiceifbaaCA
namespace Go.Proofs.Ytloipjaiceifbaa.M
open Go Go.RowKit

/-- What a slot holds. -/
structure RV where
  holds : (Nat → Nat) → FzT → World → Value → List Nat → Prop
  men : Nat → Bool
  mono : ∀ {φ φ' : Nat → Nat} {Fz Fz' : FzT} {w w' : World} {v : Value} {F : List Nat}, holds φ Fz w v F → Keeps Fz w Fz' w' → Holds F Fz w Fz' w' →
    (∀ d, men d = true → φ' d = φ d) → holds φ' Fz' w' v F
  lt : ∀ {φ : Nat → Nat} {Fz : FzT} {w : World} {v : Value} {F : List Nat}, holds φ Fz w v F → ∀ b, b ∈ F → b < w.heap.size

def isAg : Value → Bool
  | .agg _ => true
  | _ => false
/-- A value of the cells cs; ag: a struct. -/
def SvOwn (ag : Bool) (cs : List PV) (Fz : FzT) (w : World) (v : Value) (F : List Nat) : Prop := isAg v = ag ∧ OwnL cs Fz w v.cells.toList F
def SvRel (ag : Bool) (cs : List PV) (Fz : FzT) (w : World) (v : Value) : Prop := isAg v = ag ∧ RelL cs Fz w v.cells.toList
def RV.sv (ag : Bool) (cs : List PV) : RV where
  holds _ Fz w v F := SvOwn ag cs Fz w v F
  men _ := false
  mono h k hh _ := ⟨h.1, h.2.mono k hh⟩
  lt h := h.2.lt
def OwnT : List (Bool × List PV) → FzT → World → List Value → List Nat → Prop
  | [], _, _, vs, F => vs = [] ∧ F = []
  | p :: ps, Fz, w, vs, F => ∃ v vs' F1 F2, vs = v :: vs' ∧ F = F1 ++ F2 ∧ SvOwn p.1 p.2 Fz w v F1 ∧ OwnT ps Fz w vs' F2
theorem OwnT.mono {Fz Fz' : FzT} {w w' : World} : ∀ {l : List (Bool × List PV)} {vs : List Value} {F : List Nat}, OwnT l Fz w vs F → Keeps Fz w Fz' w' → Holds F Fz w Fz' w' → OwnT l Fz' w' vs F
  | [], _, _, h, _, _ => h
  | p :: ps, vs, _, h, k, hh => by
    obtain ⟨v, vs', F1, F2, rfl, rfl, h1, h2⟩ := h
    exact ⟨v, vs', F1, F2, rfl, rfl, ⟨h1.1, h1.2.mono k (hh.sub fun b hb => by simp [hb])⟩, OwnT.mono h2 k (hh.sub fun b hb => by simp [hb])⟩
theorem OwnT.lt {Fz : FzT} {w : World} : ∀ {l : List (Bool × List PV)} {vs : List Value} {F : List Nat}, OwnT l Fz w vs F → ∀ b, b ∈ F → b < w.heap.size
  | [], _, _, h => by rw [h.2]; simp
  | p :: ps, vs, _, h => by
    obtain ⟨v, vs', F1, F2, rfl, rfl, h1, h2⟩ := h
    intro b hb
    rcases List.mem_append.1 hb with hb | hb
    · exact h1.2.lt b hb
    · exact OwnT.lt h2 b hb
theorem OwnT.len {Fz : FzT} {w : World} : ∀ {l : List (Bool × List PV)} {vs : List Value} {F : List Nat}, OwnT l Fz w vs F → vs.length = l.length
  | [], _, _, h => by rw [h.1]; rfl
  | p :: ps, vs, _, h => by obtain ⟨v, vs', F1, F2, rfl, _, _, h2⟩ := h; simp [OwnT.len h2]
/-- Several results. -/
def RV.tup (l : List (Bool × List PV)) : RV where
  holds _ Fz w v F := ∃ vs, v = .tuple vs ∧ OwnT l Fz w vs.toList F
  men _ := false
  mono h k hh _ := by obtain ⟨vs, rfl, h⟩ := h; exact ⟨vs, rfl, h.mono k hh⟩
  lt h := by obtain ⟨vs, rfl, h⟩ := h; exact h.lt
/-- A pointer into the variable that is made at d. -/
def RV.ptr (d off : Nat) : RV where
  holds φ _ _ v F := v = .pointer (some ⟨φ d, off, none⟩) ∧ F = []
  men x := Nat.beq x d
  mono h _ _ hφ := ⟨by rw [hφ d (by simp)]; exact h.1, h.2⟩
  lt h := by rw [h.2]; simp
/-- A pointer at cells that are read only. -/
def RV.eptr (cs : List PV) : RV where
  holds _ Fz w v F := (∃ b off vs, v = .pointer (some ⟨b, off, none⟩) ∧ RelL cs Fz w vs ∧ ∀ (j : Nat) u, vs[j]? = some u → Fz b (off + j) ∧ w.cell? ⟨b, off + j, none⟩ = some u) ∧ F = []
  men _ := false
  mono h k _ _ := by
    obtain ⟨⟨b, off, vs, hv, hr, hc⟩, hF⟩ := h
    exact ⟨⟨b, off, vs, hv, hr.mono k, fun j u hu => ⟨(k _ _ (hc j u hu).1).1, (k _ _ (hc j u hu).1).2.trans (hc j u hu).2⟩⟩, hF⟩
  lt h := by rw [h.2]; simp
/-- Known if b. -/
def RV.opt (b : Bool) (r : RV) : RV where
  holds φ Fz w v F := (b = true → r.holds φ Fz w v F) ∧ (b = false → F = [])
  men := r.men
  mono h k hh hφ := ⟨fun hb => r.mono (h.1 hb) k hh hφ, h.2⟩
  lt h := by
    intro x hx
    by_cases hb : b = true
    · exact r.lt (h.1 hb) x hx
    · rw [h.2 (by simpa using hb)] at hx; simp at hx

/-- What is known of the slots and of the variables in memory. -/
structure St where
  s : Nat → Option RV
  b : Nat → Option (Nat × List PV)
def St.set (σ : St) (i : Nat) (r : Option RV) : St := ⟨fun x => bif Nat.beq x i then r else σ.s x, σ.b⟩
def St.setB (σ : St) (d : Nat) (cs : Option (Nat × List PV)) : St := ⟨σ.s, fun x => bif Nat.beq x d then cs else σ.b x⟩
theorem beq_eq {x y : Nat} : Nat.beq x y = decide (x = y) := by
  rw [Bool.eq_iff_iff]; simp [Nat.beq_eq]
theorem St.set_s (σ : St) (i : Nat) (r : Option RV) (x : Nat) : (σ.set i r).s x = if x = i then r else σ.s x := by
  simp only [St.set, beq_eq]
  by_cases h : x = i <;> simp [h]
theorem St.setB_b (σ : St) (i : Nat) (r : Option (Nat × List PV)) (x : Nat) : (σ.setB i r).b x = if x = i then r else σ.b x := by
  simp only [St.setB, beq_eq]
  by_cases h : x = i <;> simp [h]
theorem St.set_b (σ : St) (i : Nat) (r : Option RV) : (σ.set i r).b = σ.b := rfl
theorem St.setB_s (σ : St) (i : Nat) (r : Option (Nat × List PV)) : (σ.setB i r).s = σ.s := rfl

/-- Of the blocks h0 nothing has turned. -/
structure BelowO (h0 : Nat → Prop) (w w' : World) : Prop where
  os : w'.os = w.os
  tape : w'.tape = w.tape
  output : w'.output = w.output
  size : w.heap.size ≤ w'.heap.size
  block : ∀ k, h0 k → w'.heap[k]? = w.heap[k]?
theorem BelowO.refl (h0 : Nat → Prop) (w : World) : BelowO h0 w w := ⟨rfl, rfl, rfl, Nat.le_refl _, fun _ _ => rfl⟩
theorem BelowO.trans {h0 : Nat → Prop} {a b c : World} (h : BelowO h0 a b) (k : BelowO h0 b c) : BelowO h0 a c :=
  ⟨k.os.trans h.os, k.tape.trans h.tape, k.output.trans h.output, Nat.le_trans h.size k.size, fun i hi => (k.block i hi).trans (h.block i hi)⟩
/-- Fp 0: blocks that no slot and no variable has; Fp (2i+1): the own blocks of slot i; Fp (2d+2): those of variable d. -/
structure ConcW (h0 : Nat → Prop) (w0 : World) (Fz0 : FzT) (n : Nat) (σ : St) (a : Act) (w : World) (φ : Nat → Nat) (Fz : FzT) (Fp : Nat → List Nat) : Prop where
  bel : BelowO h0 w0 w
  dfr : a.defers = []
  siz : a.tmps.size = n
  hlt : ∀ b, h0 b → b < w.heap.size
  fz0 : ∀ b o, h0 b → (Fz b o ↔ Fz0 b o)
  fzl : ∀ b o, Fz b o → b < w.heap.size
  slot : ∀ i rv, σ.s i = some rv → rv.holds φ Fz w (a.tmps.getD i undef) (Fp (2 * i + 1))
  box : ∀ d bx, σ.b d = some bx → ∃ cur, w.heap[φ d]? = some (.cells cur bx.1 (0, 0)) ∧ OwnL bx.2 Fz w cur.toList (Fp (2 * d + 2))
  bxb : ∀ d cs, σ.b d = some cs → ¬ h0 (φ d) ∧ (∀ o, ¬ Fz (φ d) o) ∧ ∀ r, φ d ∉ Fp r
  inj : ∀ d d' cs cs', σ.b d = some cs → σ.b d' = some cs' → φ d = φ d' → d = d'
  dis : ∀ r r', r ≠ r' → ∀ b, b ∈ Fp r → b ∉ Fp r'
  nod : ∀ r, (Fp r).Nodup
  low : ∀ r b, b ∈ Fp r → ¬ h0 b ∧ b < w.heap.size
def Conc (h0 : Nat → Prop) (w0 : World) (Fz0 : FzT) (n : Nat) (σ : St) (a : Act) (w : World) : Prop := ∃ φ Fz Fp, ConcW h0 w0 Fz0 n σ a w φ Fz Fp

section
variable {h0 : Nat → Prop} {n : Nat} {w0 w w' : World} {Fz0 Fz Fz' : FzT} {σ : St} {a : Act} {φ : Nat → Nat} {Fp : Nat → List Nat}

def mv (Fp : Nat → List Nat) (r : Nat) : Nat → List Nat := fun x => if x = 0 then Fp r ++ Fp 0 else if x = r then [] else Fp x
theorem mv_mem {r x b : Nat} (h : b ∈ mv Fp r x) : (x = 0 ∧ (b ∈ Fp r ∨ b ∈ Fp 0)) ∨ (x ≠ r ∧ b ∈ Fp x) := by
  unfold mv at h
  split at h
  · rename_i hx; exact .inl ⟨hx, List.mem_append.1 h⟩
  · split at h
    · simp at h
    · rename_i hx; exact .inr ⟨hx, h⟩
theorem mv_dis {r : Nat} (hr : r ≠ 0) (dis : ∀ r r', r ≠ r' → ∀ b, b ∈ Fp r → b ∉ Fp r') : ∀ x y, x ≠ y → ∀ b, b ∈ mv Fp r x → b ∉ mv Fp r y := by
  intro x y hxy b hb hb'
  rcases mv_mem hb with ⟨hx, k⟩ | ⟨hx, k⟩ <;> rcases mv_mem hb' with ⟨hy, k'⟩ | ⟨hy, k'⟩
  · omega
  · subst hx
    rcases k with k | k
    · exact dis _ _ (fun e => hy e.symm) b k k'
    · exact dis _ _ hxy b k k'
  · subst hy
    rcases k' with k' | k'
    · exact dis _ _ hx b k k'
    · exact dis _ _ hxy b k k'
  · exact dis _ _ hxy b k k'
theorem mv_nod {r : Nat} (hr : r ≠ 0) (dis : ∀ r r', r ≠ r' → ∀ b, b ∈ Fp r → b ∉ Fp r') (nod : ∀ r, (Fp r).Nodup) : ∀ x, (mv Fp r x).Nodup := by
  intro x
  unfold mv
  split
  · rw [List.nodup_append]
    exact ⟨nod _, nod _, fun u hu v hv e => dis _ _ hr u hu (e ▸ hv)⟩
  · split
    · exact List.nodup_nil
    · exact nod x
/-- A slot's own blocks float. -/
theorem ConcW.pull (h : ConcW h0 w0 Fz0 n σ a w φ Fz Fp) (i : Nat) : ConcW h0 w0 Fz0 n (σ.set i none) a w φ Fz (mv Fp (2 * i + 1)) where
  bel := h.bel
  dfr := h.dfr
  siz := h.siz
  hlt := h.hlt
  fz0 := h.fz0
  fzl := h.fzl
  slot j rv hj := by
    rw [St.set_s] at hj
    split at hj
    · cases hj
    · rename_i hne
      have := h.slot j rv hj
      unfold mv
      rw [if_neg (by omega), if_neg (by omega)]; exact this
  box d cs hd := by
    obtain ⟨cur, h1, h2⟩ := h.box d cs hd
    refine ⟨cur, h1, ?_⟩
    unfold mv
    rw [if_neg (by omega), if_neg (by omega)]; exact h2
  bxb d cs hd := by
    obtain ⟨h1, h2, h3⟩ := h.bxb d cs hd
    refine ⟨h1, h2, fun r hr => ?_⟩
    rcases mv_mem hr with ⟨_, hr | hr⟩ | ⟨_, hr⟩ <;> exact h3 _ hr
  inj d d' cs cs' := h.inj d d' cs cs'
  dis := mv_dis (by omega) h.dis
  nod := mv_nod (by omega) h.dis h.nod
  low r b hb := by rcases mv_mem hb with ⟨_, hr | hr⟩ | ⟨_, hr⟩ <;> exact h.low _ _ hr

/-- Part of what floats goes to r. -/
def give (Fp : Nat → List Nat) (r : Nat) (F X : List Nat) : Nat → List Nat := fun x => if x = r then F else if x = 0 then X else Fp x
theorem give_mem {r x b : Nat} {F X : List Nat} (h : b ∈ give Fp r F X x) : (x = r ∧ b ∈ F) ∨ (x ≠ r ∧ x = 0 ∧ b ∈ X) ∨ (x ≠ r ∧ x ≠ 0 ∧ b ∈ Fp x) := by
  unfold give at h
  split at h
  · rename_i hx; exact .inl ⟨hx, h⟩
  · split at h
    · rename_i h1 h2; exact .inr (.inl ⟨h1, h2, h⟩)
    · rename_i h1 h2; exact .inr (.inr ⟨h1, h2, h⟩)
theorem give_dis {r : Nat} (hr : r ≠ 0) {F X : List Nat} (hX : ∀ b, b ∈ F ++ X → b ∈ Fp 0) (hn : (F ++ X).Nodup) (dis : ∀ r r', r ≠ r' → ∀ b, b ∈ Fp r → b ∉ Fp r') :
    ∀ x y, x ≠ y → ∀ b, b ∈ give Fp r F X x → b ∉ give Fp r F X y := by
  intro x y hxy b hb hb'
  rw [List.nodup_append] at hn
  rcases give_mem hb with ⟨e1, hb⟩ | ⟨e1, e2, hb⟩ | ⟨e1, e2, hb⟩ <;> rcases give_mem hb' with ⟨f1, hb'⟩ | ⟨f1, f2, hb'⟩ | ⟨f1, f2, hb'⟩
  · omega
  · exact hn.2.2 b hb b hb' rfl
  · exact dis 0 y (by omega) b (hX b (by simp [hb])) hb'
  · exact hn.2.2 b hb' b hb rfl
  · omega
  · exact dis 0 y (by omega) b (hX b (by simp [hb])) hb'
  · exact dis x 0 (by omega) b hb (hX b (by simp [hb']))
  · exact dis x 0 (by omega) b hb (hX b (by simp [hb']))
  · exact dis x y hxy b hb hb'
theorem give_nod {r : Nat} {F X : List Nat} (hn : (F ++ X).Nodup) (nod : ∀ r, (Fp r).Nodup) : ∀ x, (give Fp r F X x).Nodup := by
  intro x
  rw [List.nodup_append] at hn
  unfold give
  split
  · exact hn.1
  · split
    · exact hn.2.1
    · exact nod x
theorem getD_put (t : Array Value) (i j : Nat) (v : Value) (hi : i < t.size) : (t.setIfInBounds i v).getD j undef = if j = i then v else t.getD j undef := by
  by_cases h : j = i
  · subst h; simp [hi]
  · rw [if_neg h]
    rw [Array.getD_eq_getD_getElem?, Array.getD_eq_getD_getElem?, Array.getElem?_setIfInBounds_ne (by omega)]
/-- A slot gets a value, with own blocks out of what floats. The slot was empty. -/
theorem ConcW.push (h : ConcW h0 w0 Fz0 n σ a w φ Fz Fp) {i : Nat} {rv : RV} {v : Value} {F X : List Nat} (hi : i < n) (hv : rv.holds φ Fz w v F) (hX : ∀ b, b ∈ F ++ X → b ∈ Fp 0) (hn : (F ++ X).Nodup) :
    ConcW h0 w0 Fz0 n (σ.set i (some rv)) (a.put (some i) v) w φ Fz (give Fp (2 * i + 1) F X) where
  bel := h.bel
  dfr := h.dfr
  siz := by simp [Act.put, h.siz]
  hlt := h.hlt
  fz0 := h.fz0
  fzl := h.fzl
  slot j rv' hj := by
    rw [St.set_s] at hj
    show rv'.holds φ Fz w ((a.tmps.setIfInBounds i v).getD j undef) _
    rw [getD_put _ _ _ _ (by rw [h.siz]; exact hi)]
    split at hj
    · rename_i hji
      subst hji
      injection hj with hj
      subst hj
      rw [if_pos rfl]
      unfold give
      rw [if_pos rfl]; exact hv
    · rename_i hne
      rw [if_neg hne]
      unfold give
      rw [if_neg (by omega), if_neg (by omega)]
      exact h.slot j rv' hj
  box d cs hd := by
    obtain ⟨cur, h1, h2⟩ := h.box d cs hd
    refine ⟨cur, h1, ?_⟩
    unfold give
    rw [if_neg (by omega), if_neg (by omega)]; exact h2
  bxb d cs hd := by
    obtain ⟨h1, h2, h3⟩ := h.bxb d cs hd
    refine ⟨h1, h2, fun r hr => ?_⟩
    rcases give_mem hr with ⟨_, hr⟩ | ⟨_, _, hr⟩ | ⟨_, _, hr⟩
    · exact h3 0 (hX _ (by simp [hr]))
    · exact h3 0 (hX _ (by simp [hr]))
    · exact h3 _ hr
  inj d d' cs cs' := h.inj d d' cs cs'
  dis := give_dis (by omega) hX hn h.dis
  nod := give_nod hn h.nod
  low r b hb := by
    rcases give_mem hb with ⟨_, hr⟩ | ⟨_, _, hr⟩ | ⟨_, _, hr⟩
    · exact h.low 0 b (hX _ (by simp [hr]))
    · exact h.low 0 b (hX _ (by simp [hr]))
    · exact h.low _ b hr
/-- A slot's number is written over, and nothing is known of it. -/
theorem ConcW.wipe (h : ConcW h0 w0 Fz0 n σ a w φ Fz Fp) (i : Nat) (v : Value) : ConcW h0 w0 Fz0 n (σ.set i none) (a.put (some i) v) w φ Fz (mv Fp (2 * i + 1)) :=
  let k := h.pull i
  { k with
    siz := by simp [Act.put, h.siz]
    slot := fun j rv hj => by
      have hj' := hj
      rw [St.set_s] at hj
      split at hj
      · cases hj
      · rename_i hne
        have := k.slot j rv hj'
        show rv.holds φ Fz w ((a.tmps.setIfInBounds i v).getD j undef) _
        have e : (a.tmps.setIfInBounds i v).getD j undef = a.tmps.getD j undef := by
          rw [Array.getD_eq_getD_getElem?, Array.getD_eq_getD_getElem?, Array.getElem?_setIfInBounds_ne (by omega)]
        rw [e]; exact this }
/-- The world turns, but only in what floats. -/
theorem ConcW.world (h : ConcW h0 w0 Fz0 n σ a w φ Fz Fp) (hos : w'.os = w.os) (htape : w'.tape = w.tape) (hout : w'.output = w.output) (hsz : w.heap.size ≤ w'.heap.size)
    (hb : ∀ b, b < w.heap.size → b ∉ Fp 0 → w'.heap[b]? = w.heap[b]? ∧ ∀ o, Fz' b o → Fz b o) (hk : Keeps Fz w Fz' w') (hl : ∀ b o, Fz' b o → b < w'.heap.size)
    {X : List Nat} (hX : ∀ b, b ∈ X → b ∈ Fp 0 ∨ (w.heap.size ≤ b ∧ b < w'.heap.size)) (hn : X.Nodup) :
    ConcW h0 w0 Fz0 n σ a w' φ Fz' (fun x => if x = 0 then X else Fp x) := by
  have key : ∀ r, r ≠ 0 → Holds (Fp r) Fz w Fz' w' := fun r hr b hbr => hb b (h.low r b hbr).2 (h.dis r 0 hr b hbr)
  have hmem : ∀ x b, b ∈ (if x = 0 then X else Fp x) → (x = 0 ∧ b ∈ X) ∨ (x ≠ 0 ∧ b ∈ Fp x) := by
    intro x b hb
    split at hb
    · rename_i hx; exact .inl ⟨hx, hb⟩
    · rename_i hx; exact .inr ⟨hx, hb⟩
  refine ⟨h.bel.trans ⟨hos, htape, hout, hsz, fun k hk' => (hb k (h.hlt k hk') fun hm => (h.low 0 k hm).1 hk').1⟩, h.dfr, h.siz, fun b hb' => Nat.lt_of_lt_of_le (h.hlt b hb') hsz, ?_, hl, ?_, ?_, ?_, h.inj, ?_, ?_, ?_⟩
  · intro b o hbl
    rw [← h.fz0 b o hbl]
    exact ⟨fun hh => (hb b (h.hlt b hbl) fun hm => (h.low 0 b hm).1 hbl).2 o hh, fun hh => (hk b o hh).1⟩
  · intro i rv hi
    rw [if_neg (by omega)]
    exact rv.mono (h.slot i rv hi) hk (key _ (by omega)) fun _ _ => rfl
  · intro d cs hd
    obtain ⟨cur, h1, h2⟩ := h.box d cs hd
    obtain ⟨k1, k2, k3⟩ := h.bxb d cs hd
    have hlt : φ d < w.heap.size := (Array.getElem?_eq_some_iff.1 h1).1
    rw [if_neg (by omega)]
    exact ⟨cur, (hb _ hlt (k3 0)).1.trans h1, h2.mono hk (key _ (by omega))⟩
  · intro d cs hd
    obtain ⟨cur, h1, h2⟩ := h.box d cs hd
    obtain ⟨k1, k2, k3⟩ := h.bxb d cs hd
    have hlt : φ d < w.heap.size := (Array.getElem?_eq_some_iff.1 h1).1
    refine ⟨k1, fun o ho => k2 o ((hb _ hlt (k3 0)).2 o ho), fun r hr => ?_⟩
    rcases hmem _ _ hr with ⟨rfl, hr⟩ | ⟨_, hr⟩
    · rcases hX _ hr with hr | hr
      · exact k3 0 hr
      · omega
    · exact k3 r hr
  · intro r r' hne b hr hr'
    rcases hmem _ _ hr with ⟨rfl, hr⟩ | ⟨e1, hr⟩ <;> rcases hmem _ _ hr' with ⟨rfl, hr'⟩ | ⟨e2, hr'⟩
    · exact hne rfl
    · rcases hX _ hr with hr | hr
      · exact h.dis 0 r' hne b hr hr'
      · have := (h.low r' b hr').2; omega
    · rcases hX _ hr' with hr' | hr'
      · exact h.dis r 0 hne b hr hr'
      · have := (h.low r b hr).2; omega
    · exact h.dis r r' hne b hr hr'
  · intro r
    split
    · exact hn
    · exact h.nod r
  · intro r b hr
    rcases hmem _ _ hr with ⟨rfl, hr⟩ | ⟨e1, hr⟩
    · rcases hX _ hr with hr | hr
      · exact ⟨(h.low 0 b hr).1, by have := (h.low 0 b hr).2; omega⟩
      · exact ⟨fun hh => by have := h.hlt b hh; omega, hr.2⟩
    · exact ⟨(h.low r b hr).1, by have := (h.low r b hr).2; omega⟩
/-- A variable's block, and what it owns, float. -/
theorem ConcW.pullB (h : ConcW h0 w0 Fz0 n σ a w φ Fz Fp) {d : Nat} {cs : Nat × List PV} (hd : σ.b d = some cs) :
    ConcW h0 w0 Fz0 n (σ.setB d none) a w φ Fz (fun x => if x = 0 then φ d :: mv Fp (2 * d + 2) 0 else mv Fp (2 * d + 2) x) := by
  obtain ⟨cur, h1, h2⟩ := h.box d cs hd
  obtain ⟨k1, k2, k3⟩ := h.bxb d cs hd
  have hlt : φ d < w.heap.size := (Array.getElem?_eq_some_iff.1 h1).1
  have km : ∀ r, φ d ∉ mv Fp (2 * d + 2) r := by
    intro r hr
    rcases mv_mem hr with ⟨_, hr | hr⟩ | ⟨_, hr⟩ <;> exact k3 _ hr
  have hmem : ∀ x b, b ∈ (if x = 0 then φ d :: mv Fp (2 * d + 2) 0 else mv Fp (2 * d + 2) x) → (x = 0 ∧ b = φ d) ∨ b ∈ mv Fp (2 * d + 2) x := by
    intro x b hb
    split at hb
    · rename_i hx
      subst hx
      rcases List.mem_cons.1 hb with hb | hb
      · exact .inl ⟨rfl, hb⟩
      · exact .inr hb
    · exact .inr hb
  refine ⟨h.bel, h.dfr, h.siz, h.hlt, h.fz0, h.fzl, ?_, ?_, ?_, ?_, ?_, ?_, ?_⟩
  · intro i rv hi
    rw [if_neg (by omega)]
    unfold mv
    rw [if_neg (by omega), if_neg (by omega)]
    exact h.slot i rv hi
  · intro e cs' he
    rw [St.setB_b] at he
    split at he
    · cases he
    · rename_i hne
      obtain ⟨cur, h1, h2⟩ := h.box e cs' he
      refine ⟨cur, h1, ?_⟩
      rw [if_neg (by omega)]
      unfold mv
      rw [if_neg (by omega), if_neg (by omega)]; exact h2
  · intro e cs' he
    rw [St.setB_b] at he
    split at he
    · cases he
    · rename_i hne
      obtain ⟨h1, h2, h3⟩ := h.bxb e cs' he
      refine ⟨h1, h2, fun r hr => ?_⟩
      rcases hmem _ _ hr with ⟨_, hr⟩ | hr
      · exact hne (h.inj e d cs' cs he hd hr)
      · rcases mv_mem hr with ⟨_, hr | hr⟩ | ⟨_, hr⟩ <;> exact h3 _ hr
  · intro e e' cs1 cs2 h1 h2
    rw [St.setB_b] at h1 h2
    split at h1
    · cases h1
    · split at h2
      · cases h2
      · exact h.inj e e' cs1 cs2 h1 h2
  · intro x y hxy b hb hb'
    rcases hmem _ _ hb with ⟨e1, hb⟩ | hb <;> rcases hmem _ _ hb' with ⟨e2, hb'⟩ | hb'
    · omega
    · subst hb; exact km _ hb'
    · subst hb'; exact km _ hb
    · exact mv_dis (by omega) h.dis x y hxy b hb hb'
  · intro x
    have hnd := mv_nod (r := 2 * d + 2) (by omega) h.dis h.nod
    split
    · exact List.nodup_cons.2 ⟨km 0, hnd 0⟩
    · exact hnd x
  · intro x b hb
    rcases hmem _ _ hb with ⟨_, rfl⟩ | hb
    · exact ⟨k1, hlt⟩
    · rcases mv_mem hb with ⟨_, hr | hr⟩ | ⟨_, hr⟩ <;> exact h.low _ _ hr
/-- A block that floats becomes variable d. -/
theorem ConcW.pushB (h : ConcW h0 w0 Fz0 n σ a w φ Fz Fp) {d g t : Nat} {cs : List PV} {cur : Array Value} {F X : List Nat} (hd : σ.b d = none)
    (hg : w.heap[g]? = some (.cells cur t (0, 0))) (ho : OwnL cs Fz w cur.toList F) (hf : ∀ o, ¬ Fz g o) (hX : ∀ b, b ∈ F ++ g :: X → b ∈ Fp 0) (hn : (F ++ g :: X).Nodup)
    (hm : φ d = g ∨ ∀ i rv, σ.s i = some rv → rv.men d = false) :
    ConcW h0 w0 Fz0 n (σ.setB d (some (t, cs))) a w (fun x => if x = d then g else φ x) Fz (give Fp (2 * d + 2) F X) := by
  have hg0 : g ∈ Fp 0 := hX g (by simp)
  have hn' : (F ++ X).Nodup := by
    rw [List.nodup_append] at hn ⊢
    exact ⟨hn.1, (List.nodup_cons.1 hn.2.1).2, fun u hu v hv => hn.2.2 u hu v (by simp [hv])⟩
  have hX' : ∀ b, b ∈ F ++ X → b ∈ Fp 0 := fun b hb => hX b (by
    rcases List.mem_append.1 hb with hb | hb <;> simp [hb])
  have hgn : ∀ r, g ∉ give Fp (2 * d + 2) F X r := by
    intro r hr
    rw [List.nodup_append] at hn
    rcases give_mem hr with ⟨_, hr⟩ | ⟨_, _, hr⟩ | ⟨_, e2, hr⟩
    · exact hn.2.2 g hr g (by simp) rfl
    · exact (List.nodup_cons.1 hn.2.1).1 hr
    · exact h.dis 0 r (by omega) g hg0 hr
  refine ⟨h.bel, h.dfr, h.siz, h.hlt, h.fz0, h.fzl, ?_, ?_, ?_, ?_, give_dis (by omega) hX' hn' h.dis, give_nod hn' h.nod, ?_⟩
  · intro i rv hi
    have hi' : σ.s i = some rv := hi
    unfold give
    rw [if_neg (by omega), if_neg (by omega)]
    refine rv.mono (h.slot i rv hi') (Keeps.refl _ _) (Holds.refl _ _ _) fun e he => ?_
    by_cases hed : e = d
    · subst hed
      rw [if_pos rfl]
      rcases hm with hm | hm
      · exact hm.symm
      · rw [hm i rv hi'] at he; cases he
    · rw [if_neg hed]
  · intro e cs' he
    rw [St.setB_b] at he
    split at he
    · rename_i hed
      subst hed
      injection he with he; subst he
      rw [if_pos rfl]
      unfold give
      rw [if_pos rfl]
      exact ⟨cur, hg, ho⟩
    · rename_i hed
      rw [if_neg hed]
      unfold give
      rw [if_neg (by omega), if_neg (by omega)]
      exact h.box e cs' he
  · intro e cs' he
    rw [St.setB_b] at he
    split at he
    · rename_i hed
      subst hed
      rw [if_pos rfl]
      exact ⟨(h.low 0 g hg0).1, hf, hgn⟩
    · rename_i hed
      rw [if_neg hed]
      obtain ⟨h1, h2, h3⟩ := h.bxb e cs' he
      refine ⟨h1, h2, fun r hr => ?_⟩
      rcases give_mem hr with ⟨_, hr⟩ | ⟨_, _, hr⟩ | ⟨_, _, hr⟩
      · exact h3 0 (hX' _ (by simp [hr]))
      · exact h3 0 (hX' _ (by simp [hr]))
      · exact h3 _ hr
  · intro e e' cs1 cs2 h1 h2 hee
    rw [St.setB_b] at h1 h2
    by_cases he : e = d <;> by_cases he' : e' = d
    · omega
    · rw [if_pos he, if_neg he'] at hee
      rw [if_neg he'] at h2
      exact absurd (hee ▸ hg0) ((h.bxb e' cs2 h2).2.2 0)
    · rw [if_neg he, if_pos he'] at hee
      rw [if_neg he] at h1
      exact absurd (hee ▸ hg0) ((h.bxb e cs1 h1).2.2 0)
    · rw [if_neg he, if_neg he'] at hee
      rw [if_neg he] at h1
      rw [if_neg he'] at h2
      exact h.inj e e' cs1 cs2 h1 h2 hee
  · intro r b hb
    rcases give_mem hb with ⟨_, hr⟩ | ⟨_, _, hr⟩ | ⟨_, _, hr⟩
    · exact h.low 0 b (hX' _ (by simp [hr]))
    · exact h.low 0 b (hX' _ (by simp [hr]))
    · exact h.low _ b hr
/-- Less is known. -/
theorem ConcW.less {τ : St} (h : ConcW h0 w0 Fz0 n σ a w φ Fz Fp) (hs : ∀ i rv, τ.s i = some rv → σ.s i = some rv) (hb : ∀ d cs, τ.b d = some cs → σ.b d = some cs) : ConcW h0 w0 Fz0 n τ a w φ Fz Fp :=
  { h with
    slot := fun i rv hi => h.slot i rv (hs i rv hi)
    box := fun d cs hd => h.box d cs (hb d cs hd)
    bxb := fun d cs hd => h.bxb d cs (hb d cs hd)
    inj := fun d d' cs cs' h1 h2 => h.inj d d' cs cs' (hb d cs h1) (hb d' cs' h2) }
theorem Conc.less {τ : St} (h : Conc h0 w0 Fz0 n σ a w) (hs : ∀ i rv, τ.s i = some rv → σ.s i = some rv) (hb : ∀ d cs, τ.b d = some cs → σ.b d = some cs) : Conc h0 w0 Fz0 n τ a w := by
  obtain ⟨φ, Fz, Fp, h⟩ := h
  exact ⟨φ, Fz, Fp, h.less hs hb⟩
/-- A draw. -/
theorem Conc.drew (h : Conc h0 w0 Fz0 n σ a w) : Conc h0 w0 Fz0 n σ a { w with drawn := w.drawn + 1 } := by
  obtain ⟨φ, Fz, Fp, h⟩ := h
  exact ⟨φ, Fz, _, h.world (w' := { w with drawn := w.drawn + 1 }) rfl rfl rfl (Nat.le_refl _) (fun b _ _ => ⟨rfl, fun _ h => h⟩) (fun _ _ h => ⟨h, rfl⟩) h.fzl (X := Fp 0) (fun b hb => .inl hb) (h.nod 0)⟩
end
end Go.Proofs.Ytloipjaiceifbaa.M
