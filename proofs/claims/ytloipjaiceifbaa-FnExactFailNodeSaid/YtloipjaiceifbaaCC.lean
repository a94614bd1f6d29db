/- The operations of a region, in the text's order and in a drawn order. No condition. -/
import Derived.Test.YtloipjaiceifbaaCB
namespace Go.Proofs.Ytloipjaiceifbaa.M
open Go Go.RowKit

/-- One operation, as it is known: what it reads of slots and variables, what it writes, the variable that it makes. -/
structure Step where
  rs : List (Nat × RV)
  rb : List (Nat × (Nat × List PV))
  ws : List (Nat × Option RV)
  wb : List (Nat × Option (Nat × List PV))
  al : Option Nat
section
variable {β γ : Type}
def setL : List (Nat × β) → (Nat → β) → Nat → β
  | [], f => f
  | (k, v) :: l, f => setL l (fun y => bif Nat.beq y k then v else f y)
def RdL : List (Nat × β) → (Nat → Option β) → Prop
  | [], _ => True
  | (k, v) :: l, f => f k = some v ∧ RdL l f
def inL (l : List (Nat × β)) (x : Nat) : Bool := l.any fun p => Nat.beq p.1 x
def meet (l : List (Nat × β)) (m : List (Nat × γ)) : Bool := l.any fun p => inL m p.1
theorem inL_nil (x : Nat) : inL ([] : List (Nat × β)) x = false := rfl
theorem inL_cons (p : Nat × β) (l : List (Nat × β)) (x : Nat) : inL (p :: l) x = (Nat.beq p.1 x || inL l x) := rfl
theorem setL_out : ∀ {l : List (Nat × β)} {f : Nat → β} {x : Nat}, inL l x = false → setL l f x = f x
  | [], _, _, _ => rfl
  | (k, v) :: l, f, x, h => by
    rw [inL_cons, Bool.or_eq_false_iff, beq_eq, decide_eq_false_iff_not] at h
    have e := setL_out (l := l) (f := fun y => bif Nat.beq y k then v else f y) h.2
    rw [setL, e]
    simp only [beq_eq]
    rw [decide_eq_false (fun e => h.1 e.symm)]; rfl
theorem setL_in : ∀ {l : List (Nat × β)} {f g : Nat → β} {x : Nat}, (inL l x = true ∨ f x = g x) → setL l f x = setL l g x
  | [], f, g, x, h => by
    rcases h with h | h
    · cases h
    · exact h
  | (k, v) :: l, f, g, x, h => by
    rw [setL, setL]
    apply setL_in
    by_cases hp : x = k
    · right; simp [hp]
    · rcases h with h | h
      · rw [inL_cons, beq_eq, decide_eq_false (fun e => hp e.symm), Bool.false_or] at h
        exact .inl h
      · right; simp only [beq_eq, decide_eq_false hp]; exact h
theorem RdL.mem : ∀ {l : List (Nat × β)} {f : Nat → Option β}, RdL l f → ∀ p, p ∈ l → f p.1 = some p.2
  | [], _, _, p, hp => by simp at hp
  | (k, v) :: l, f, h, p, hp => by
    rcases List.mem_cons.1 hp with rfl | hp
    · exact h.1
    · exact RdL.mem h.2 p hp
theorem RdL.of_mem : ∀ {l : List (Nat × β)} {f : Nat → Option β}, (∀ p, p ∈ l → f p.1 = some p.2) → RdL l f
  | [], _, _ => True.intro
  | (k, v) :: l, f, h => ⟨h (k, v) (by simp), RdL.of_mem fun p hp => h p (by simp [hp])⟩
theorem inL_mem {l : List (Nat × β)} {p : Nat × β} (h : p ∈ l) : inL l p.1 = true := by
  unfold inL; rw [List.any_eq_true]; exact ⟨p, h, by simp⟩
theorem meet_false {l : List (Nat × β)} {m : List (Nat × γ)} (h : meet l m = false) (x : Nat) (h1 : inL l x = true) : inL m x = false := by
  unfold meet at h
  unfold inL at h1
  rw [List.any_eq_true] at h1
  obtain ⟨p, hp, hx⟩ := h1
  rw [beq_eq, decide_eq_true_iff] at hx
  subst hx
  rw [List.any_eq_false] at h
  simpa using h p hp
/-- A finite list read as a function. -/
def lk : List (Nat × β) → Nat → Option β
  | [], _ => none
  | (k, v) :: l, x => bif Nat.beq x k then some v else lk l x
theorem lk_mem : ∀ {l : List (Nat × β)} {x : Nat} {v : β}, lk l x = some v → (x, v) ∈ l
  | [], _, _, h => by cases h
  | (k, u) :: l, x, v, h => by
    rw [lk, beq_eq] at h
    by_cases hx : x = k
    · rw [decide_eq_true hx] at h
      simp only [cond_true, Option.some.injEq] at h
      subst hx; subst h; simp
    · rw [decide_eq_false hx] at h
      exact List.mem_cons_of_mem _ (lk_mem h)
end
def St.of (l : List (Nat × RV)) (b : List (Nat × (Nat × List PV))) : St := ⟨lk l, lk b⟩
def St.app (σ : St) (L : Step) : St := ⟨setL L.ws σ.s, setL L.wb σ.b⟩
/-- No slot points into variable d. -/
def Free (d : Nat) (σ : St) : Prop := ∀ i rv, σ.s i = some rv → rv.men d = false
theorem Free.of_ {d : Nat} {l : List (Nat × RV)} {b : List (Nat × (Nat × List PV))} (h : (l.all fun p => !p.2.men d) = true) : Free d (St.of l b) := fun i rv hi => by
  have := List.all_eq_true.1 h _ (lk_mem hi)
  simpa using this
theorem Free.app {d : Nat} {σ : St} {L : Step} (h : Free d σ) (hL : (L.ws.all fun p => match p.2 with | none => true | some rv => !rv.men d) = true) : Free d (σ.app L) := by
  intro i rv hi
  have key : ∀ (l : List (Nat × Option RV)) (f : Nat → Option RV), (∀ i rv, f i = some rv → rv.men d = false) → (l.all fun p => match p.2 with | none => true | some rv => !rv.men d) = true →
      ∀ i rv, setL l f i = some rv → rv.men d = false := by
    intro l
    induction l with
    | nil => intro f hf _ i rv hi; exact hf i rv hi
    | cons p l ih =>
      intro f hf hl i rv hi
      rw [List.all_cons, Bool.and_eq_true] at hl
      refine ih _ ?_ hl.2 i rv hi
      intro j rv' hj
      rw [beq_eq] at hj
      by_cases hjp : j = p.1
      · rw [decide_eq_true hjp] at hj
        simp only [cond_true] at hj
        have := hl.1
        rw [hj] at this
        simpa using this
      · rw [decide_eq_false hjp] at hj
        exact hf j rv' hj
  exact key _ _ h hL i rv hi

/-- The operation does what the step says. -/
def LocG (P : Program) (n : Nat) (ops : Array Oper) (o : Oper) (L : Step) : Prop :=
  ∀ {h0 : Nat → Prop} {w0 : World} {Fz0 : FzT} {σ : St} {a : Act} {w : World} {K : Act → World → Prop} {Q : Exit → Act → World → Prop}, Conc h0 w0 Fz0 n σ a w → RdL L.rs σ.s → RdL L.rb σ.b →
    (∀ d, L.al = some d → Free d σ) → (∀ a' w', Conc h0 w0 Fz0 n (σ.app L) a' w' → K a' w') → if Region.wanted o (yielded ops a.tmps) = true then o.wp P a w K Q else K (a.put o.dst undef) w

def menW (d : Nat) (ws : List (Nat × Option RV)) : Bool := ws.all fun p => match p.2 with | none => true | some rv => !rv.men d
/-- What x writes does not point into what y makes. -/
def freeOf (x y : Step) : Bool := match y.al with | none => true | some d => menW d x.ws
def apartB (x y : Step) : Bool :=
  !meet x.ws y.rs && !meet y.ws x.rs && !meet x.ws y.ws && (!meet x.wb y.rb && !meet y.wb x.rb && !meet x.wb y.wb) && freeOf y x
def chk (m : Nat) (L : Step) : List (Nat × Step) → Nat → Bool
  | [], _ => true
  | p :: l, j => (freeOf p.2 L && (m.testBit j || apartB p.2 L)) && chk m L l (j + 1)
def maskOf : List Edge → List (Nat × Step) → Nat
  | [], _ => 0
  | e :: l, acc => bif Region.binds .any e then (maskOf l acc ||| 2 ^ e.on) ||| ((acc[e.on]?).map (·.1)).getD 0 else maskOf l acc
def edgesB (l : List Edge) (n : Nat) : Bool := l.all fun e => !Region.binds .any e || Nat.blt e.on n
def chkE (m : Nat) (o : Oper) (L : Step) (acc : List (Nat × Step)) : Bool := edgesB o.after.toList acc.length && (Nat.beq m (maskOf o.after.toList acc) && chk m L acc 0)

/-- One operation behind the other. -/
def RunS (P : Program) (n : Nat) (ops : Array Oper) (Q : St → Prop) : List Oper → St → Prop
  | [], σ => Q σ
  | o :: l, σ => ∃ L : Step, LocG P n ops o L ∧ RdL L.rs σ.s ∧ RdL L.rb σ.b ∧ (∀ d, L.al = some d → Free d σ) ∧ RunS P n ops Q l (σ.app L)
/-- The same, where the order is drawn: what is not in order does not meet. -/
def Run (P : Program) (n : Nat) (ops : Array Oper) (σ0 : St) (C : Nat → Step → Prop) (Q : St → Prop) : List Oper → List (Nat × Step) → St → Prop
  | [], _, σ => Q σ
  | o :: l, acc, σ => ∃ (m : Nat) (L : Step), LocG P n ops o L ∧ RdL L.rs σ.s ∧ RdL L.rb σ.b ∧ (∀ d, L.al = some d → Free d σ0) ∧ chkE m o L acc = true ∧ C acc.length L ∧ Run P n ops σ0 C Q l (acc ++ [(m, L)]) (σ.app L)

section
variable {P : Program} {n : Nat} {ops : Array Oper} {h0 : Nat → Prop} {w0 : World} {Fz0 : FzT}

/-- In the text's order. -/
theorem run_list {QS : St → Prop} {Q : Exit → Act → World → Prop} (hQ : ∀ σ a w, QS σ → Conc h0 w0 Fz0 n σ a w → Q .normal a w) : ∀ (l : List Oper) (σ : St) (a : Act) (w : World),
    RunS P n ops QS l σ → Conc h0 w0 Fz0 n σ a w → wpList P ops Q l a w := by
  intro l
  induction l with
  | nil => intro σ a w h hc; exact hQ σ a w h hc
  | cons o l ih =>
    intro σ a w h hc
    obtain ⟨L, hL, h1, h2, h3, h5⟩ := h
    have k := hL (K := wpList P ops Q l) (Q := Q) hc h1 h2 h3 (fun a' w' hc' => ih _ a' w' h5 hc')
    unfold wpList
    split
    · rename_i hw; rw [if_pos hw] at k; exact .inl k
    · rename_i hw; rw [if_neg hw] at k; exact k

/-! ### any order -/
section
variable {β : Type}
def lw (pr : Step → List (Nat × β)) (S : Nat → Bool) : List (Nat × Step) → Nat → (Nat → β) → Nat → β
  | [], _, f => f
  | p :: A, i, f => lw pr S A (i + 1) (bif S i then setL (pr p.2) f else f)
theorem lw_congr (pr : Step → List (Nat × β)) {S S' : Nat → Bool} {x : Nat} : ∀ (A : List (Nat × Step)) (k : Nat) (f g : Nat → β),
    (∀ i p, A[i]? = some p → inL (pr p.2) x = true → S (k + i) = S' (k + i)) → f x = g x → lw pr S A k f x = lw pr S' A k g x := by
  intro A
  induction A with
  | nil => intro k f g _ h; exact h
  | cons p A ih =>
    intro k f g h hf
    rw [lw, lw]
    refine ih (k + 1) _ _ (fun i q hq hx => by have := h (i + 1) q (by simpa using hq) hx; rw [show k + 1 + i = k + (i + 1) by omega]; exact this) ?_
    by_cases hx : inL (pr p.2) x = true
    · have := h 0 p rfl hx
      rw [Nat.add_zero] at this
      rw [← this]
      cases S k
      · exact hf
      · exact setL_in (.inl hx)
    · have hx' : inL (pr p.2) x = false := by simpa using hx
      have e1 : ∀ (b : Bool) (f : Nat → β), (bif b then setL (pr p.2) f else f) x = f x := by
        intro b f
        cases b
        · rfl
        · exact setL_out hx'
      rw [e1, e1]; exact hf
theorem lw_last (pr : Step → List (Nat × β)) {S : Nat → Bool} {x : Nat} : ∀ (A : List (Nat × Step)) (k i : Nat) (p : Nat × Step) (f g : Nat → β), A[i]? = some p → S (k + i) = true → inL (pr p.2) x = true →
    (∀ j q, i < j → A[j]? = some q → inL (pr q.2) x = true → S (k + j) = false) → lw pr S A k f x = setL (pr p.2) g x := by
  intro A
  induction A with
  | nil => intro k i p f g hi; simp at hi
  | cons q A ih =>
    intro k i p f g hi hS hx hl
    rw [lw]
    cases i with
    | zero =>
      simp only [List.getElem?_cons_zero, Option.some.injEq] at hi
      subst hi
      rw [Nat.add_zero] at hS
      rw [hS]
      have : lw pr S A (k + 1) (setL (pr q.2) f) x = lw pr (fun _ => false) A (k + 1) (setL (pr q.2) f) x := by
        refine lw_congr pr A _ _ _ (fun j r hr hxr => ?_) rfl
        have := hl (j + 1) r (by omega) (by simpa using hr) hxr
        rw [show k + 1 + j = k + (j + 1) by omega]; exact this
      rw [show (bif true then setL (pr q.2) f else f) = setL (pr q.2) f from rfl, this]
      have e : ∀ (A : List (Nat × Step)) (k : Nat) (h : Nat → β), lw pr (fun _ => false) A k h x = h x := by
        intro A
        induction A with
        | nil => intro k h; rfl
        | cons r A ih => intro k h; rw [lw]; exact ih _ _
      rw [e]
      exact setL_in (.inl hx)
    | succ i =>
      refine ih (k + 1) i p _ g (by simpa using hi) (by rw [show k + 1 + i = k + (i + 1) by omega]; exact hS) hx fun j r hj hr hxr => ?_
      have := hl (j + 1) r (by omega) (by simpa using hr) hxr
      rw [show k + 1 + j = k + (j + 1) by omega]; exact this
theorem lw_snoc (pr : Step → List (Nat × β)) (S : Nat → Bool) (p : Nat × Step) : ∀ (A : List (Nat × Step)) (k : Nat) (f : Nat → β), lw pr S (A ++ [p]) k f = (bif S (k + A.length) then setL (pr p.2) (lw pr S A k f) else lw pr S A k f) := by
  intro A
  induction A with
  | nil => intro k f; rfl
  | cons q A ih =>
    intro k f
    rw [List.cons_append, lw, ih, lw, List.length_cons, show k + 1 + A.length = k + (A.length + 1) by omega]
end
def stB (A : List (Nat × Step)) (S : Nat → Bool) (σ : St) : St := ⟨lw Step.ws S A 0 σ.s, lw Step.wb S A 0 σ.b⟩

structure Good (P : Program) (n : Nat) (ops : Array Oper) (σ0 : St) (ex : Nat → Bool) (A : List (Nat × Step)) (i : Nat) (o : Oper) (p : Nat × Step) : Prop where
  loc : ex i = true → LocG P n ops o p.2
  rs : ex i = true → RdL p.2.rs (stB A (fun j => Nat.blt j i) σ0).s
  rb : ex i = true → RdL p.2.rb (stB A (fun j => Nat.blt j i) σ0).b
  fr : ex i = true → ∀ d, p.2.al = some d → Free d σ0
  mask : p.1 = maskOf o.after.toList (A.take i)
  edges : edgesB o.after.toList i = true
  ch : ∀ j q, j < i → A[j]? = some q → freeOf q.2 p.2 = true ∧ (p.1.testBit j = true ∨ apartB q.2 p.2 = true)
theorem chk_spec (m : Nat) (L : Step) : ∀ (A : List (Nat × Step)) (k : Nat), chk m L A k = true → ∀ j q, A[j]? = some q → freeOf q.2 L = true ∧ (m.testBit (k + j) = true ∨ apartB q.2 L = true) := by
  intro A
  induction A with
  | nil => intro k _ j q hq; simp at hq
  | cons p A ih =>
    intro k h j q hq
    rw [chk, Bool.and_eq_true, Bool.and_eq_true, Bool.or_eq_true] at h
    cases j with
    | zero => simp at hq; subst hq; exact h.1
    | succ j =>
      have := ih (k + 1) h.2 j q (by simpa using hq)
      rw [show k + 1 + j = k + (j + 1) by omega] at this; exact this
theorem blt_eq {x y : Nat} : Nat.blt x y = decide (x < y) := by
  rw [Bool.eq_iff_iff, decide_eq_true_iff]; simp [Nat.blt_eq]
theorem stB_take_snoc (A : List (Nat × Step)) (p : Nat × Step) (σ : St) {i : Nat} (hi : i ≤ A.length) : stB (A ++ [p]) (fun j => Nat.blt j i) σ = stB A (fun j => Nat.blt j i) σ := by
  have e : Nat.blt (0 + A.length) i = false := by rw [blt_eq, decide_eq_false]; omega
  unfold stB
  rw [lw_snoc, lw_snoc, e]; rfl
theorem stB_full (A : List (Nat × Step)) (p : Nat × Step) (σ : St) : stB (A ++ [p]) (fun _ => true) σ = (stB A (fun _ => true) σ).app p.2 := by
  unfold stB St.app
  rw [lw_snoc, lw_snoc]; rfl
theorem stB_all (A : List (Nat × Step)) {S : Nat → Bool} (σ : St) (h : ∀ i, i < A.length → S i = true) : stB A S σ = stB A (fun _ => true) σ := by
  have e : ∀ {β : Type} (pr : Step → List (Nat × β)) (f : Nat → β), lw pr S A 0 f = lw pr (fun _ => true) A 0 f := by
    intro β pr f
    funext x
    refine lw_congr pr A 0 f f (fun i p hi _ => ?_) rfl
    rw [Nat.zero_add]; exact h i (List.getElem?_eq_some_iff.1 hi).1
  unfold stB
  rw [e, e]
theorem run_good {σ0 : St} {ex : Nat → Bool} {C : Nat → Step → Prop} {QS : St → Prop} : ∀ (l : List Oper) (rest : List Oper) (pre : List Oper) (acc : List (Nat × Step)) (σ : St), ops.toList = pre ++ (l ++ rest) → acc.length = pre.length → σ = stB acc (fun _ => true) σ0 →
    (∀ i o p, ops[i]? = some o → acc[i]? = some p → Good P n ops σ0 ex acc i o p) → Run P n ops σ0 C QS l acc σ →
    ∃ A : List (Nat × Step), A.length + rest.length = ops.size ∧ A.take acc.length = acc ∧ QS (stB A (fun _ => true) σ0) ∧ (∀ (i : Nat) (p : Nat × Step), acc.length ≤ i → A[i]? = some p → C i p.2) ∧ ∀ i o p, ops[i]? = some o → A[i]? = some p → Good P n ops σ0 ex A i o p := by
  intro l
  induction l with
  | nil =>
    intro rest pre acc σ ho hl hσ hg h
    refine ⟨acc, ?_, List.take_length, hσ ▸ h, fun i p hi hp => by have := (List.getElem?_eq_some_iff.1 hp).1; omega, hg⟩
    have := congrArg List.length ho
    simp at this; omega
  | cons o l ih =>
    intro rest pre acc σ ho hl hσ hg h
    obtain ⟨m, L, hL, h1, h2, h3, h4, hC, h5⟩ := h
    suffices hs : _ by
      obtain ⟨A, hA1, hA2, hA3, hA4, hA5⟩ := ih rest (pre ++ [o]) _ _ (by rw [ho]; simp) (by simp [hl]) (by rw [stB_full, hσ]) hs h5
      refine ⟨A, hA1, ?_, hA3, fun i p hi hp => ?_, hA5⟩
      rotate_left
      · rcases Nat.lt_or_ge acc.length i with h | h
        · exact hA4 i p (by simp; omega) hp
        · have hie : i = acc.length := by omega
          subst hie
          have e5 : (A.take (acc ++ [(m, L)]).length)[acc.length]? = some (m, L) := by rw [hA2]; simp
          rw [List.getElem?_take_of_lt (by simp), hp] at e5
          injection e5 with e5
          rw [e5]; exact hC
      have e3 := congrArg (List.take acc.length) hA2
      rw [List.take_take, List.take_left] at e3
      have e4 : min acc.length (acc ++ [(m, L)]).length = acc.length := by simp
      rw [e4] at e3
      exact e3
    intro i o' p hi hp
    have hi' : i ≤ acc.length := by
      have := (List.getElem?_eq_some_iff.1 hp).1
      simp at this; omega
    by_cases he : i = acc.length
    · subst he
      rw [List.getElem?_append_right (Nat.le_refl _), Nat.sub_self] at hp
      simp at hp; subst hp
      have ho' : o' = o := by
        have : ops.toList[acc.length]? = some o' := by simpa using hi
        rw [ho, hl, List.getElem?_append_right (Nat.le_refl _), Nat.sub_self] at this
        simpa using this.symm
      subst ho'
      have h4' := h4
      unfold chkE at h4'
      rw [Bool.and_eq_true, Bool.and_eq_true, Nat.beq_eq] at h4'
      obtain ⟨k1, k2, k3⟩ := h4'
      have hst : stB (acc ++ [(m, L)]) (fun j => Nat.blt j acc.length) σ0 = σ := by
        rw [stB_take_snoc _ _ _ (Nat.le_refl _), hσ]
        refine stB_all acc σ0 (S := fun j => Nat.blt j acc.length) fun i hi => ?_
        rw [blt_eq, decide_eq_true hi]
      refine ⟨fun _ => hL, fun _ => by rw [hst]; exact h1, fun _ => by rw [hst]; exact h2, fun _ => h3, by rw [List.take_left]; exact k2, k1, fun j q hj hq => ?_⟩
      rw [List.getElem?_append_left hj] at hq
      have := chk_spec _ _ _ 0 k3 j q hq
      rw [Nat.zero_add] at this; exact this
    · have hlt : i < acc.length := by omega
      rw [List.getElem?_append_left hlt] at hp
      have g := hg i o' p hi hp
      refine ⟨g.loc, fun hlo => by rw [stB_take_snoc _ _ _ hi']; exact g.rs hlo, fun hlo => by rw [stB_take_snoc _ _ _ hi']; exact g.rb hlo, g.fr, by rw [List.take_append_of_le_length hi']; exact g.mask, g.edges, fun j q hj hq => ?_⟩
      rw [List.getElem?_append_left (by omega)] at hq
      exact g.ch j q hj hq

theorem maskOf_spec (A : List (Nat × Step)) (j : Nat) : ∀ (l : List Edge), (maskOf l A).testBit j = true → ∃ e, e ∈ l ∧ Region.binds .any e = true ∧ (e.on = j ∨ ∃ q, A[e.on]? = some q ∧ q.1.testBit j = true) := by
  intro l
  induction l with
  | nil => intro h; simp [maskOf] at h
  | cons e l ih =>
    intro h
    rw [maskOf] at h
    cases hb : Region.binds .any e
    · rw [hb] at h
      obtain ⟨e', h1, h2⟩ := ih h
      exact ⟨e', by simp [h1], h2⟩
    · rw [hb, cond_true, Nat.testBit_or, Nat.testBit_or, Bool.or_eq_true, Bool.or_eq_true, Nat.testBit_two_pow] at h
      rcases h with (h | h) | h
      · obtain ⟨e', h1, h2⟩ := ih h
        exact ⟨e', by simp [h1], h2⟩
      · exact ⟨e, by simp, hb, .inl (by simpa using h)⟩
      · cases hq : A[e.on]? with
        | none => rw [hq] at h; simp at h
        | some q => rw [hq] at h; exact ⟨e, by simp, hb, .inr ⟨q, hq, by simpa using h⟩⟩

section
variable {σ0 : St} {ex : Nat → Bool} {A : List (Nat × Step)} (hA : A.length ≤ ops.size) (hG : ∀ i o p, ops[i]? = some o → A[i]? = some p → Good P n ops σ0 ex A i o p)
include hA hG
/-- Whoever is listed has all before it listed. -/
theorem closed_of {S : Nat → Bool} (hS : ∀ i o, ops[i]? = some o → S i = true → ∀ e, e ∈ o.after.toList → Region.binds .any e = true → S e.on = true) :
    ∀ (i : Nat) (o : Oper) (p : Nat × Step), ops[i]? = some o → A[i]? = some p → (∀ e, e ∈ o.after.toList → Region.binds .any e = true → S e.on = true) → ∀ j, p.1.testBit j = true → S j = true := by
  intro i
  induction i using Nat.strongRecOn with
  | _ i ih =>
    intro o p ho hp he j hj
    have g := hG i o p ho hp
    rw [g.mask] at hj
    obtain ⟨e, h1, h2, h3⟩ := maskOf_spec _ _ _ hj
    have hon : e.on < i := by
      have := List.all_eq_true.1 g.edges e h1
      rw [h2, Bool.not_true, Bool.false_or, blt_eq, decide_eq_true_iff] at this
      exact this
    rcases h3 with h3 | ⟨q, hq, hqj⟩
    · rw [← h3]; exact he e h1 h2
    · rw [List.getElem?_take_of_lt hon] at hq
      have hoe : e.on < ops.size := Nat.lt_of_lt_of_le (List.getElem?_eq_some_iff.1 hq).1 hA
      exact ih e.on hon ops[e.on] q (Array.getElem?_eq_getElem hoe) hq (hS e.on _ (Array.getElem?_eq_getElem hoe) (he e h1 h2)) j hqj

theorem lw_reads {β : Type} (pr : Step → List (Nat × Option β)) (rd : Step → List (Nat × β)) {S : Nat → Bool} {i : Nat} {o : Oper} {p : Nat × Step} (ho : ops[i]? = some o) (hp : A[i]? = some p)
    (hS : ∀ i o, ops[i]? = some o → S i = true → ∀ e, e ∈ o.after.toList → Region.binds .any e = true → S e.on = true) (hi : S i = false) (he : ∀ e, e ∈ o.after.toList → Region.binds .any e = true → S e.on = true)
    (hap : ∀ x y : Step, apartB x y = true → meet (pr x) (rd y) = false ∧ meet (pr y) (rd x) = false) (f : Nat → Option β) (h : RdL (rd p.2) (lw pr (fun j => Nat.blt j i) A 0 f)) : RdL (rd p.2) (lw pr S A 0 f) := by
  have hi' : i < A.length := (List.getElem?_eq_some_iff.1 hp).1
  refine RdL.of_mem fun q hq => ?_
  rw [← h.mem q hq]
  refine lw_congr pr A 0 f f (fun j r hr hx => ?_) rfl
  rw [Nat.zero_add]
  show S j = Nat.blt j i
  rw [blt_eq]
  have hj : j < A.length := (List.getElem?_eq_some_iff.1 hr).1
  have hoj := Array.getElem?_eq_getElem (show j < ops.size by omega)
  have hin := inL_mem hq
  by_cases hji : j < i
  · rw [decide_eq_true hji]
    rcases ((hG i o p ho hp).ch j r hji hr).2 with hm | hm
    · exact closed_of hA hG hS i o p ho hp he j hm
    · have := meet_false (hap _ _ hm).1 q.1 hx
      rw [hin] at this; cases this
  · rw [decide_eq_false hji]
    by_cases hje : j = i
    · rw [hje]; exact hi
    · have hij : i < j := by omega
      cases hSj : S j
      · rfl
      · rcases ((hG j _ r hoj hr).ch i p hij hp).2 with hm | hm
        · have := closed_of hA hG hS j _ r hoj hr (hS j _ hoj hSj) i hm
          rw [hi] at this; cases this
        · have := meet_false (hap _ _ hm).2 q.1 hx
          rw [hin] at this; cases this
theorem lw_writes {β : Type} (pr : Step → List (Nat × Option β)) {S : Nat → Bool} {i : Nat} {o : Oper} {p : Nat × Step} (_ho : ops[i]? = some o) (hp : A[i]? = some p)
    (hS : ∀ i o, ops[i]? = some o → S i = true → ∀ e, e ∈ o.after.toList → Region.binds .any e = true → S e.on = true) (hi : S i = false)
    (hap : ∀ x y : Step, apartB x y = true → meet (pr x) (pr y) = false) (f : Nat → Option β) : setL (pr p.2) (lw pr S A 0 f) = lw pr (fun j => bif Nat.beq j i then true else S j) A 0 f := by
  funext x
  have hi' : i < A.length := (List.getElem?_eq_some_iff.1 hp).1
  by_cases hx : inL (pr p.2) x = true
  · refine (lw_last pr A 0 i p f _ hp (by simp) hx fun j q hij hq hxq => ?_).symm
    have hj : j < A.length := (List.getElem?_eq_some_iff.1 hq).1
    have hoj := Array.getElem?_eq_getElem (show j < ops.size by omega)
    rw [Nat.zero_add]
    simp only [beq_eq]
    rw [decide_eq_false (by omega), cond_false]
    cases hSj : S j
    · rfl
    · rcases ((hG j _ q hoj hq).ch i p hij hp).2 with hm | hm
      · have := closed_of hA hG hS j _ q hoj hq (hS j _ hoj hSj) i hm
        rw [hi] at this; cases this
      · have := meet_false (hap _ _ hm) x hx
        rw [hxq] at this; cases this
  · rw [setL_out (by simpa using hx)]
    refine lw_congr pr A 0 f f (fun j q hq hxq => ?_) rfl
    rw [Nat.zero_add]
    simp only [beq_eq]
    by_cases hji : j = i
    · subst hji
      rw [hp] at hq
      injection hq with hq
      subst hq
      exact absurd hxq hx
    · rw [decide_eq_false hji, cond_false]
theorem free_lw {S : Nat → Bool} {i : Nat} {o : Oper} {p : Nat × Step} (ho : ops[i]? = some o) (hp : A[i]? = some p)
    (hS : ∀ i o, ops[i]? = some o → S i = true → ∀ e, e ∈ o.after.toList → Region.binds .any e = true → S e.on = true) (hi : S i = false) (hlo : ex i = true) {d : Nat} (hd : p.2.al = some d) : Free d (stB A S σ0) := by
  have key : ∀ (B : List (Nat × Step)) (k : Nat) (f : Nat → Option RV), (∀ i rv, f i = some rv → rv.men d = false) → (∀ j q, B[j]? = some q → S (k + j) = true → menW d q.2.ws = true) → ∀ i rv, lw Step.ws S B k f i = some rv → rv.men d = false := by
    intro B
    induction B with
    | nil => intro k f hf _ i rv hi; exact hf i rv hi
    | cons q B ih =>
      intro k f hf hB i rv hi
      refine ih (k + 1) _ ?_ (fun j r hr hs => hB (j + 1) r (by simpa using hr) (by rw [show k + (j + 1) = k + 1 + j by omega]; exact hs)) i rv hi
      cases hs : S k
      · exact hf
      · exact Free.app (σ := ⟨f, fun _ => none⟩) (L := q.2) hf (hB 0 q rfl (by rw [Nat.add_zero]; exact hs))
  refine key A 0 σ0.s ((hG i o p ho hp).fr hlo d hd) fun j q hq hs => ?_
  rw [Nat.zero_add] at hs
  have hj : j < A.length := (List.getElem?_eq_some_iff.1 hq).1
  have hi' : i < A.length := (List.getElem?_eq_some_iff.1 hp).1
  have hoj := Array.getElem?_eq_getElem (show j < ops.size by omega)
  have hne : j ≠ i := fun e => by rw [e, hi] at hs; cases hs
  have hf : freeOf q.2 p.2 = true := by
    by_cases hji : j < i
    · exact ((hG i o p ho hp).ch j q hji hq).1
    · rcases ((hG j _ q hoj hq).ch i p (by omega) hp).2 with hm | hm
      · have := closed_of hA hG hS j _ q hoj hq (hS j _ hoj hs) i hm
        rw [hi] at this; cases this
      · unfold apartB at hm
        simp only [Bool.and_eq_true] at hm
        exact hm.2
  unfold freeOf at hf
  rw [hd] at hf
  exact hf
end
theorem apart_rs (x y : Step) (h : apartB x y = true) : meet x.ws y.rs = false ∧ meet y.ws x.rs = false := by
  unfold apartB at h; simp only [Bool.and_eq_true, Bool.not_eq_true'] at h; exact ⟨h.1.1.1.1, h.1.1.1.2⟩
theorem apart_rb (x y : Step) (h : apartB x y = true) : meet x.wb y.rb = false ∧ meet y.wb x.rb = false := by
  unfold apartB at h; simp only [Bool.and_eq_true, Bool.not_eq_true'] at h; exact ⟨h.1.2.1.1, h.1.2.1.2⟩
theorem apart_ws (x y : Step) (h : apartB x y = true) : meet x.ws y.ws = false := by
  unfold apartB at h; simp only [Bool.and_eq_true, Bool.not_eq_true'] at h; exact h.1.1.2
theorem apart_wb (x y : Step) (h : apartB x y = true) : meet x.wb y.wb = false := by
  unfold apartB at h; simp only [Bool.and_eq_true, Bool.not_eq_true'] at h; exact h.1.2.2

/-- In whatever order the edges let, up to an operation of which nothing is known (ex). -/
theorem any_gen {σ0 : St} {ex : Nat → Bool} {ini : Nat → Bool} {A : List (Nat × Step)} {Q : Exit → Act → World → Prop} (hA : A.length = ops.size) (hG : ∀ i o p, ops[i]? = some o → A[i]? = some p → Good P n ops σ0 ex A i o p)
    (hpick : ∀ (fuel : Nat) (listed : Array Bool) (a : Act) (w : World), listed.size = ops.size → (List.range ops.size).countP (fun i => !listed.getD i false) ≤ fuel + 1 → (∀ i, ex i = false → listed.getD i false = ini i) →
      (∀ i o, ops[i]? = some o → listed.getD i false = true → ∀ e, e ∈ o.after.toList → Region.binds .any e = true → listed.getD e.on false = true) → Conc h0 w0 Fz0 n (stB A (fun i => listed.getD i false) σ0) a w →
      ∀ i, i < ops.size → listed.getD i false = false → ex i = false → (∀ o, ops[i]? = some o → ∀ e, e ∈ o.after.toList → Region.binds .any e = true → listed.getD e.on false = true) → wpOp P ops Q i (wpAny P .any ops Q fuel (listed.setIfInBounds i true)) a w)
    (hend : ∀ (listed : Array Bool) (a : Act) (w : World), (∀ i, i < ops.size → listed.getD i false = true) → (∀ i, ex i = false → listed.getD i false = ini i) → Conc h0 w0 Fz0 n (stB A (fun _ => true) σ0) a w → Q .normal a w) : ∀ (fuel : Nat) (listed : Array Bool) (a : Act) (w : World), listed.size = ops.size →
    (List.range ops.size).countP (fun i => !listed.getD i false) ≤ fuel →
    (∀ i o, ops[i]? = some o → listed.getD i false = true → ∀ e, e ∈ o.after.toList → Region.binds .any e = true → listed.getD e.on false = true) →
    (∀ i, ex i = false → listed.getD i false = ini i) →
    Conc h0 w0 Fz0 n (stB A (fun i => listed.getD i false) σ0) a w → wpAny P .any ops Q fuel listed a w := by
  have hready : ∀ (listed : Array Bool), listed.size = ops.size → Region.ready .any ops listed = [] → ∀ i, i < ops.size → listed.getD i false = true := by
    intro listed hsz hr i
    induction i using Nat.strongRecOn with
    | _ i ih =>
      intro hi
      cases hl : listed.getD i false
      · exfalso
        have : i ∈ Region.ready .any ops listed := by
          unfold Region.ready
          rw [List.mem_filter]
          refine ⟨List.mem_range.2 hi, ?_⟩
          have hlt : listed.getD i true = false := by
            rw [Array.getD_eq_getD_getElem?] at hl ⊢
            rw [Array.getElem?_eq_getElem (by omega)] at hl ⊢
            exact hl
          rw [hlt, Array.getElem?_eq_getElem hi]
          simp only [Bool.not_false, Bool.true_and, Option.map_some, Option.getD_some]
          rw [Array.all_eq_true_iff_forall_mem]
          intro e he
          cases hb : Region.binds .any e
          · rfl
          · have g := hG i _ _ (Array.getElem?_eq_getElem hi) (List.getElem?_eq_getElem (by omega))
            have := List.all_eq_true.1 g.edges e (Array.mem_toList_iff.2 he)
            rw [hb, Bool.not_true, Bool.false_or, blt_eq, decide_eq_true_iff] at this
            rw [ih e.on this (by omega)]; rfl
        rw [hr] at this; simp at this
      · rfl
  have hfin : ∀ (listed : Array Bool) (a : Act) (w : World), listed.size = ops.size → Region.ready .any ops listed = [] → (∀ i, ex i = false → listed.getD i false = ini i) → Conc h0 w0 Fz0 n (stB A (fun i => listed.getD i false) σ0) a w → Q .normal a w := by
    intro listed a w hsz hr hini hc
    refine hend listed a w (hready listed hsz hr) hini ?_
    rw [← stB_all A (S := fun i => listed.getD i false) σ0 fun i hi => hready listed hsz hr i (by omega)]
    exact hc
  intro fuel
  induction fuel with
  | zero =>
    intro listed a w hsz hcnt hcl hini hc
    have hr : Region.ready .any ops listed = [] := by
      unfold Region.ready
      rw [List.filter_eq_nil_iff]
      intro i hi
      have h0 := List.countP_eq_zero.1 (Nat.le_zero.1 hcnt) i hi
      have hlt := List.mem_range.1 hi
      have : listed.getD i true = true := by
        rw [Array.getD_eq_getD_getElem?] at h0 ⊢
        rw [Array.getElem?_eq_getElem (by omega)] at h0 ⊢
        simpa using h0
      rw [this]; simp
    exact ⟨hr, hfin listed a w hsz hr hini hc⟩
  | succ fuel ih =>
    intro listed a w hsz hcnt hcl hini hc
    refine ⟨fun hr => hfin listed a w hsz hr hini hc, fun i hi => ?_⟩
    unfold Region.ready at hi
    rw [List.mem_filter, List.mem_range, Bool.and_eq_true] at hi
    obtain ⟨hlt, hnl, hed⟩ := hi
    have ho := Array.getElem?_eq_getElem hlt
    have hli : listed.getD i false = false := by
      rw [Array.getD_eq_getD_getElem?] at hnl ⊢
      rw [Array.getElem?_eq_getElem (by omega)] at hnl ⊢
      simpa using hnl
    have he : ∀ e, e ∈ ops[i].after.toList → Region.binds .any e = true → listed.getD e.on false = true := by
      intro e he hb
      rw [ho] at hed
      simp only [Option.map_some, Option.getD_some] at hed
      rw [Array.all_eq_true_iff_forall_mem] at hed
      have := hed e (Array.mem_toList_iff.1 he)
      rw [hb, Bool.not_true, Bool.false_or] at this
      exact this
    cases hex : ex i
    · exact hpick fuel listed a w hsz hcnt hini hcl hc i hlt hli hex fun o ho' => by
        rw [ho] at ho'
        injection ho' with ho'
        subst ho'
        exact he
    have hi' : i < A.length := by omega
    have hp := List.getElem?_eq_getElem hi'
    have g := hG i _ _ ho hp
    have hset : ∀ j, (listed.setIfInBounds i true).getD j false = (bif Nat.beq j i then true else listed.getD j false) := by
      intro j
      rw [beq_eq]
      by_cases hj : j = i
      · subst hj
        rw [decide_eq_true rfl, cond_true, Array.getD_eq_getD_getElem?, Array.getElem?_setIfInBounds_self]
        rw [if_pos (by omega)]; rfl
      · rw [decide_eq_false hj, cond_false, Array.getD_eq_getD_getElem?, Array.getD_eq_getD_getElem?, Array.getElem?_setIfInBounds_ne (by omega)]
    have hst : (stB A (fun i => listed.getD i false) σ0).app A[i].2 = stB A (fun j => (listed.setIfInBounds i true).getD j false) σ0 := by
      unfold St.app stB
      have e1 := lw_writes (Nat.le_of_eq hA) hG Step.ws (S := fun i => listed.getD i false) ho hp hcl hli apart_ws σ0.s
      have e2 := lw_writes (Nat.le_of_eq hA) hG Step.wb (S := fun i => listed.getD i false) ho hp hcl hli apart_wb σ0.b
      simp only [hset]
      rw [← e1, ← e2]
    unfold wpOp
    rw [ho]
    have k := g.loc hex (K := wpAny P .any ops Q fuel (listed.setIfInBounds i true)) (Q := Q) hc
      (lw_reads (Nat.le_of_eq hA) hG Step.ws Step.rs (S := fun i => listed.getD i false) ho hp hcl hli he apart_rs σ0.s (g.rs hex))
      (lw_reads (Nat.le_of_eq hA) hG Step.wb Step.rb (S := fun i => listed.getD i false) ho hp hcl hli he apart_rb σ0.b (g.rb hex))
      (fun d hd => free_lw (Nat.le_of_eq hA) hG (S := fun i => listed.getD i false) ho hp hcl hli hex hd)
      (fun a' w' hc' => by
        rw [hst] at hc'
        refine ih _ a' w' (by simpa using hsz) ?_ ?_ ?_ hc'
        · have hc1 : (List.range ops.size).countP (fun j => !(listed.setIfInBounds i true).getD j false) + 1 ≤ (List.range ops.size).countP (fun j => !listed.getD j false) := by
            have key : ∀ (l : List Nat), l.Nodup → i ∈ l → l.countP (fun j => !(listed.setIfInBounds i true).getD j false) + 1 ≤ l.countP (fun j => !listed.getD j false) := by
              have mono : ∀ (l : List Nat), l.countP (fun j => !(listed.setIfInBounds i true).getD j false) ≤ l.countP (fun j => !listed.getD j false) := by
                intro l
                refine List.countP_mono_left fun j _ hj => ?_
                rw [hset, beq_eq] at hj
                by_cases hji : j = i
                · rw [decide_eq_true hji] at hj; simp at hj
                · rw [decide_eq_false hji] at hj; exact hj
              intro l
              induction l with
              | nil => intro _ h; simp at h
              | cons x l ihl =>
                intro hnd hm
                rw [List.countP_cons, List.countP_cons]
                rcases List.mem_cons.1 hm with rfl | hm
                · have := mono l
                  rw [hset i, beq_eq, decide_eq_true rfl, hli]
                  exact Nat.add_le_add_right this 1
                · have := ihl (List.nodup_cons.1 hnd).2 hm
                  have hxi : x ≠ i := fun e => (List.nodup_cons.1 hnd).1 (e ▸ hm)
                  rw [hset x, beq_eq, decide_eq_false hxi, cond_false]
                  omega
            exact key _ List.nodup_range (List.mem_range.2 hlt)
          omega
        · intro j o hj hs e he' hb
          rw [hset] at hs ⊢
          rw [beq_eq] at hs ⊢
          by_cases hji : j = i
          · subst hji
            rw [ho] at hj
            injection hj with hj
            subst hj
            rw [he e he' hb]; simp
          · rw [decide_eq_false hji, cond_false] at hs
            rw [hcl j o hj hs e he' hb]; simp
        · intro j hj
          rw [hset, beq_eq, decide_eq_false (by intro e; rw [e, hex] at hj; cases hj), cond_false]; exact hini j hj)
    show if _ then _ else _
    by_cases hw : Region.wanted ops[i] (yielded ops a.tmps) = true
    · rw [if_pos hw] at k ⊢; exact .inl k
    · rw [if_neg hw] at k ⊢; exact k


/-- A region in the text's order. -/
theorem region_seq {id : Nat} {σ : St} {QS : St → Prop} {Q : Exit → Act → World → Prop} {a : Act} {w : World} (hc : Conc h0 w0 Fz0 n σ a w)
    (hr : RunS P n ops QS ops.toList σ) (hQ : ∀ τ a w, QS τ → Conc h0 w0 Fz0 n τ a w → Q .normal a w) : (Code.region id ops false).wp P Q a w := wp_region_list (run_list hQ _ σ a w hr hc)
/-- A region whose order is drawn. -/
theorem region_run {id : Nat} {σ : St} {QS : St → Prop} {Q : Exit → Act → World → Prop} {a : Act} {w : World} (hm : P.follows .mixedOrders = true) (hc : Conc h0 w0 Fz0 n σ a w)
    (hr : Run P n ops σ (fun _ _ => True) QS ops.toList [] σ) (hQ : ∀ τ a w, QS τ → Conc h0 w0 Fz0 n τ a w → Q .normal a w) : (Code.region id ops true).wp P Q a w := by
  obtain ⟨A, hA, _, hqs, _, hG⟩ := run_good (P := P) (n := n) (ex := fun _ => true) ops.toList [] [] [] σ (by simp) rfl rfl (fun i o p _ hp => by simp at hp) hr
  have hA : A.length = ops.size := by simpa using hA
  refine wp_region_any hm (any_gen (ini := fun _ => false) hA hG (fun fuel listed a w _ _ _ _ _ i _ _ hex _ => by cases hex) (fun listed a w _ _ hc' => hQ _ a w hqs hc') ops.size _ a _ (by simp) ?_ ?_ (fun i hi => by cases hi) ?_)
  · exact Nat.le_trans List.countP_le_length (by simp)
  · intro i o _ hs
    rw [Array.getD_eq_getD_getElem?, Array.getElem?_replicate] at hs
    split at hs <;> simp at hs
  · have e : stB A (fun i => (Array.replicate ops.size false).getD i false) σ = σ := by
      have e : ∀ {β : Type} (pr : Step → List (Nat × β)) (f : Nat → β), lw pr (fun i => (Array.replicate ops.size false).getD i false) A 0 f = f := by
        intro β pr f
        have : (fun i => (Array.replicate ops.size false).getD i false) = fun _ => false := by
          funext i
          rw [Array.getD_eq_getD_getElem?, Array.getElem?_replicate]
          split <;> rfl
        rw [this]
        have e : ∀ (A : List (Nat × Step)) (k : Nat) (h : Nat → β), lw pr (fun _ => false) A k h = h := by
          intro A
          induction A with
          | nil => intro k h; rfl
          | cons r A ih => intro k h; rw [lw]; exact ih _ _
        exact e A 0 f
      unfold stB
      rw [e, e]
    rw [e]; exact hc.drew
end
end Go.Proofs.Ytloipjaiceifbaa.M
