/- Regions whose order is drawn, parted at a call of several results. No condition. -/
import Derived.Test.YtloipjaiceifbaaCQ
set_option linter.unusedVariables false
namespace Go.Proofs.Ytloipjaiceifbaa.M
open Go Go.RowKit
section
variable {P : Program} {n : Nat} {h0 : Nat → Prop} {w0 : World} {Fz0 : FzT} {ops : Array Oper}
def e0 : Step := ⟨[], [], [], [], none⟩
/-- What runs before, as steps of which nothing is known but their order. -/
def pre0 : List Oper → List (Nat × Step) → List (Nat × Step)
  | [], acc => acc
  | o :: l, acc => pre0 l (acc ++ [(maskOf o.after.toList acc, e0)])
def edges0 : List Oper → Nat → Bool
  | [], _ => true
  | o :: l, k => edgesB o.after.toList k && edges0 l (k + 1)
theorem pre0_len : ∀ (l : List Oper) (acc : List (Nat × Step)), (pre0 l acc).length = acc.length + l.length
  | [], acc => rfl
  | o :: l, acc => by rw [pre0, pre0_len l]; simp; omega
theorem pre0_pre : ∀ (l : List Oper) (acc : List (Nat × Step)), (pre0 l acc).take acc.length = acc
  | [], acc => List.take_length
  | o :: l, acc => by
    have := pre0_pre l (acc ++ [(maskOf o.after.toList acc, e0)])
    rw [pre0]
    have e := congrArg (List.take acc.length) this
    rw [List.take_take, List.take_left] at e
    have e4 : min acc.length (acc ++ [(maskOf o.after.toList acc, e0)]).length = acc.length := by simp
    rw [e4] at e
    exact e
theorem pre0_at : ∀ (l : List Oper) (acc : List (Nat × Step)) (i : Nat) (o : Oper) (p : Nat × Step), l[i]? = some o → (pre0 l acc)[acc.length + i]? = some p → p.2 = e0 ∧ p.1 = maskOf o.after.toList ((pre0 l acc).take (acc.length + i))
  | [], acc, i, o, p, h, _ => by simp at h
  | x :: l, acc, 0, o, p, h, hp => by
    simp at h; subst h
    rw [pre0] at hp ⊢
    have e := pre0_pre l (acc ++ [(maskOf x.after.toList acc, e0)])
    have e2 : (pre0 l (acc ++ [(maskOf x.after.toList acc, e0)]))[acc.length]? = some (maskOf x.after.toList acc, e0) := by
      have : ((pre0 l (acc ++ [(maskOf x.after.toList acc, e0)])).take (acc ++ [(maskOf x.after.toList acc, e0)]).length)[acc.length]? = some (maskOf x.after.toList acc, e0) := by rw [e]; simp
      rw [List.getElem?_take_of_lt (by simp)] at this
      exact this
    rw [Nat.add_zero, e2] at hp
    injection hp with hp
    subst hp
    refine ⟨rfl, ?_⟩
    have e3 := congrArg (List.take acc.length) e
    rw [List.take_take, List.take_left] at e3
    have e4 : min acc.length (acc ++ [(maskOf x.after.toList acc, e0)]).length = acc.length := by simp
    rw [e4] at e3
    rw [Nat.add_zero, e3]
  | x :: l, acc, i + 1, o, p, h, hp => by
    rw [pre0] at hp ⊢
    have := pre0_at l (acc ++ [(maskOf x.after.toList acc, e0)]) i o p (by simpa using h) (by rw [← hp]; congr 1; simp; omega)
    rw [show (acc ++ [(maskOf x.after.toList acc, e0)]).length + i = acc.length + (i + 1) by simp; omega] at this
    exact this
theorem edges0_at : ∀ (l : List Oper) (k i : Nat) (o : Oper), edges0 l k = true → l[i]? = some o → edgesB o.after.toList (k + i) = true
  | [], _, _, _, _, h => by simp at h
  | x :: l, k, 0, o, he, h => by
    simp at h; subst h
    unfold edges0 at he
    rw [Bool.and_eq_true] at he
    exact he.1
  | x :: l, k, i + 1, o, he, h => by
    unfold edges0 at he
    rw [Bool.and_eq_true] at he
    have := edges0_at l (k + 1) i o he.2 (by simpa using h)
    rw [show k + 1 + i = k + (i + 1) by omega] at this
    exact this
theorem lw_e0 {β : Type} (pr : Step → List (Nat × β)) (hpr : pr e0 = []) (S : Nat → Bool) : ∀ (B : List (Nat × Step)) (k : Nat) (f : Nat → β), (∀ j q, B[j]? = some q → S (k + j) = true → q.2 = e0) → lw pr S B k f = f
  | [], _, _, _ => rfl
  | q :: B, k, f, h => by
    rw [lw]
    have h1 : (bif S k then setL (pr q.2) f else f) = f := by
      cases hs : S k
      · rfl
      · rw [h 0 q rfl (by simpa using hs), hpr]; rfl
    rw [h1]
    exact lw_e0 pr hpr S B (k + 1) f fun j r hr hs => h (j + 1) r (by simpa using hr) (by rw [← hs]; congr 1; omega)
theorem apart_e0 (x : Step) : apartB x e0 = true ∧ apartB e0 x = true ∧ freeOf x e0 = true ∧ freeOf e0 x = true := by
  have h1 : ∀ {β γ : Type} (l : List (Nat × β)), meet l ([] : List (Nat × γ)) = false := by
    intro β γ l
    induction l with
    | nil => rfl
    | cons p l ih => unfold meet at ih ⊢; rw [List.any_cons, ih]; rfl
  have h2 : ∀ {β γ : Type} (l : List (Nat × γ)), meet ([] : List (Nat × β)) l = false := fun _ => rfl
  have hf : freeOf e0 x = true := by
    unfold freeOf
    cases x.al <;> rfl
  refine ⟨?_, ?_, rfl, hf⟩
  · unfold apartB
    simp only [e0] at hf ⊢
    simp [h1, h2, hf]
  · unfold apartB
    simp only [e0]
    simp [h1, h2]
    rfl
/-- Steps that are known by their number. -/
def stepF (AI : List (Nat × Step)) (j : Nat) : Step := (lk AI j).getD e0
def preF (F : Nat → Step) : List Oper → List (Nat × Step) → List (Nat × Step)
  | [], acc => acc
  | o :: l, acc => preF F l (acc ++ [(maskOf o.after.toList acc, F acc.length)])
theorem preF_app (F : Nat → Step) : ∀ (l : List Oper) (acc : List (Nat × Step)), ∃ B, preF F l acc = acc ++ B ∧ B.length = l.length
  | [], acc => ⟨[], by simp [preF]⟩
  | o :: l, acc => by
    obtain ⟨B, h1, h2⟩ := preF_app F l (acc ++ [(maskOf o.after.toList acc, F acc.length)])
    exact ⟨(maskOf o.after.toList acc, F acc.length) :: B, by rw [preF, h1]; simp, by simp [h2]⟩
theorem preF_at (F : Nat → Step) : ∀ (l : List Oper) (acc : List (Nat × Step)) (i : Nat) (o : Oper) (p : Nat × Step), l[i]? = some o → (preF F l acc)[acc.length + i]? = some p → p.2 = F (acc.length + i) ∧ p.1 = maskOf o.after.toList ((preF F l acc).take (acc.length + i))
  | [], acc, i, o, p, h, _ => by simp at h
  | x :: l, acc, 0, o, p, h, hp => by
    simp at h; subst h
    rw [preF] at hp ⊢
    obtain ⟨B, e, _⟩ := preF_app F l (acc ++ [(maskOf x.after.toList acc, F acc.length)])
    rw [e] at hp ⊢
    rw [Nat.add_zero] at hp ⊢
    rw [List.append_assoc, List.getElem?_append_right (Nat.le_refl _), Nat.sub_self] at hp
    simp at hp
    subst hp
    refine ⟨rfl, ?_⟩
    rw [List.append_assoc, List.take_left]
  | x :: l, acc, i + 1, o, p, h, hp => by
    rw [preF] at hp ⊢
    have := preF_at F l (acc ++ [(maskOf x.after.toList acc, F acc.length)]) i o p (by simpa using h) (by rw [← hp]; congr 1; simp; omega)
    rw [show (acc ++ [(maskOf x.after.toList acc, F acc.length)]).length + i = acc.length + (i + 1) by simp; omega] at this
    exact this
theorem lw_cat {β : Type} (pr : Step → List (Nat × β)) (S : Nat → Bool) : ∀ (A B : List (Nat × Step)) (k : Nat) (f : Nat → β), lw pr S (A ++ B) k f = lw pr S B (k + A.length) (lw pr S A k f)
  | [], B, k, f => rfl
  | p :: A, B, k, f => by
    show lw pr S (A ++ B) (k + 1) _ = _
    rw [lw_cat pr S A B (k + 1)]
    rw [show k + 1 + A.length = k + (p :: A).length by simp; omega]
    rfl
theorem lw_ext {β : Type} (pr : Step → List (Nat × β)) {S S' : Nat → Bool} : ∀ (A B : List (Nat × Step)) (k : Nat) (f : Nat → β), A.length = B.length → (∀ i, i < A.length → S (k + i) = S' (k + i)) → (∀ (i : Nat) (p q : Nat × Step), A[i]? = some p → B[i]? = some q → S (k + i) = true → p.2 = q.2) → lw pr S A k f = lw pr S' B k f
  | [], [], _, _, _, _, _ => rfl
  | [], _ :: _, _, _, h, _, _ => by simp at h
  | _ :: _, [], _, _, h, _, _ => by simp at h
  | p :: A, q :: B, k, f, hl, hS, h => by
    rw [lw, lw]
    have h0 := hS 0 (by simp)
    rw [Nat.add_zero] at h0
    have e : (bif S k then setL (pr p.2) f else f) = (bif S' k then setL (pr q.2) f else f) := by
      rw [← h0]
      cases hs : S k
      · rfl
      · rw [h 0 p q rfl rfl (by simpa using hs)]
    rw [e]
    exact lw_ext pr A B (k + 1) _ (by simpa using hl) (fun i hi => by have := hS (i + 1) (by simp; omega); rw [show k + 1 + i = k + (i + 1) by omega]; exact this) fun i p' q' h1 h2 hs => h (i + 1) p' q' (by simpa using h1) (by simpa using h2) (by rw [show k + (i + 1) = k + 1 + i by omega]; exact hs)
theorem setL_comm {β : Type} {u v : List (Nat × β)} (h : ∀ x, inL u x = true → inL v x = false) (f : Nat → β) : setL u (setL v f) = setL v (setL u f) := by
  funext x
  cases hu : inL u x
  · rw [setL_out hu]
    cases hv : inL v x
    · rw [setL_out hv, setL_out hv, setL_out hu]
    · exact setL_in (.inl hv)
  · have hv := h x hu
    rw [setL_out (l := v) hv]
    exact setL_in (.inl hu)
theorem lw_comm {β : Type} (pr : Step → List (Nat × β)) (S : Nat → Bool) {u : List (Nat × β)} : ∀ (A : List (Nat × Step)) (k : Nat) (f : Nat → β), (∀ (i : Nat) (p : Nat × Step), A[i]? = some p → S (k + i) = true → ∀ x, inL u x = true → inL (pr p.2) x = false) → setL u (lw pr S A k f) = lw pr S A k (setL u f)
  | [], _, _, _ => rfl
  | p :: A, k, f, h => by
    rw [lw, lw, lw_comm pr S A (k + 1) _ fun i q hq hs => h (i + 1) q (by simpa using hq) (by rw [show k + (i + 1) = k + 1 + i by omega]; exact hs)]
    congr 1
    cases hs : S k
    · rfl
    · exact setL_comm (h 0 p rfl (by simpa using hs)) f
/-- The state turns by the writes u. -/
def St.wr (σ : St) (u : List (Nat × Option RV)) : St := ⟨setL u σ.s, σ.b⟩
def keysB (AI : List (Nat × Step)) (ks : List Nat) : Bool := AI.all fun q => ks.all fun k => !inL q.2.ws k
/-- tau is sigma, but for what the steps AI write. -/
def Ext (AI : List (Nat × Step)) (σ τ : St) : Prop := ∀ x, (∀ q, q ∈ AI → inL q.2.ws x = false) → τ.s x = σ.s x
def Mid (P : Program) (n : Nat) (h0 : Nat → Prop) (w0 : World) (Fz0 : FzT) (ops : Array Oper) (AI : List (Nat × Step)) (oc : Oper) (post : List Oper) (acc : List (Nat × Step)) (QS : St → Prop) (σ : St) : Prop :=
  ∀ (τ : St) (a : Act) (w : World) (K : Act → World → Prop) (Q : Exit → Act → World → Prop), Conc h0 w0 Fz0 n τ a w → Ext AI σ τ →
    (∀ (u : List (Nat × Option RV)) a' w', Conc h0 w0 Fz0 n (τ.wr u) a' w' → (∀ q, q ∈ AI → ∀ x, inL u x = true → inL q.2.ws x = false) → Run P n ops (σ.wr u) (fun j L => ∀ L', lk AI j = some L' → L = L') QS post acc (σ.wr u) → K a' w') → oc.wp P a w K Q
def C1 (AI : List (Nat × Step)) (_ : Nat) (L : Step) : Prop := (AI.all fun q => freeOf L q.2 && apartB L q.2) = true
theorem edges0_take : ∀ (l : List Oper) (k c : Nat), edges0 l k = true → edges0 (l.take c) k = true
  | [], _, _, _ => by simp [edges0]
  | o :: l, k, 0, _ => by simp [edges0]
  | o :: l, k, c + 1, h => by
    unfold edges0 at h
    rw [Bool.and_eq_true] at h
    show (edgesB o.after.toList k && edges0 (l.take c) (k + 1)) = true
    rw [Bool.and_eq_true]
    exact ⟨h.1, edges0_take l (k + 1) c h.2⟩
theorem pre0_good {σ0 : St} {c : Nat} (hc : c ≤ ops.size) (he : edges0 (ops.toList.take c) 0 = true) : ∀ i o p, ops[i]? = some o → (pre0 (ops.toList.take c) [])[i]? = some p → Good P n ops σ0 (fun i => Nat.blt (c - 1) i && Nat.blt 0 c) (pre0 (ops.toList.take c) []) i o p := by
  intro i o p ho hp
  have hl : (pre0 (ops.toList.take c) []).length = c := by rw [pre0_len, List.length_take]; simp; omega
  have hi : i < c := by rw [← hl]; exact (List.getElem?_eq_some_iff.1 hp).1
  have ho' : (ops.toList.take c)[i]? = some o := by rw [List.getElem?_take_of_lt hi]; simpa using ho
  have k := pre0_at _ [] i o p ho' (by simpa using hp)
  simp only [List.length_nil, Nat.zero_add] at k
  have ke := edges0_at _ 0 i o he ho'
  rw [Nat.zero_add] at ke
  have hno : (Nat.blt (c - 1) i && Nat.blt 0 c) = true → False := fun h => by
    rw [Bool.and_eq_true, blt_eq, decide_eq_true_iff] at h; omega
  refine ⟨fun h => (hno h).elim, fun h => (hno h).elim, fun h => (hno h).elim, fun h => (hno h).elim, k.2, ke, fun j q hj hq => ?_⟩
  have hjc : j < c := by omega
  have hoj : (ops.toList.take c)[j]? = some ops[j] := by rw [List.getElem?_take_of_lt hjc]; simp
  have kj := pre0_at _ [] j _ q hoj (by simpa using hq)
  rw [kj.1, k.1]
  exact ⟨rfl, .inr (apart_e0 e0).1⟩
def allBits (m : Nat) : Nat → Bool
  | 0 => true
  | k + 1 => m.testBit k && allBits m k
theorem allBits_at {m : Nat} : ∀ {k j : Nat}, allBits m k = true → j < k → m.testBit j = true
  | 0, _, _, h => by omega
  | k + 1, j, h, hj => by
    unfold allBits at h
    rw [Bool.and_eq_true] at h
    rcases Nat.lt_or_ge j k with hk | hk
    · exact allBits_at h.2 hk
    · rw [show j = k by omega]; exact h.1
/-- Every operation behind number c waits for number c or for such a one, but for those of AI. -/
def lateB (AI : List (Nat × Step)) (c : Nat) : List Oper → Nat → Bool
  | [], _ => true
  | o :: l, i => (inL AI i || o.after.toList.any (fun e => Region.binds .any e && (Nat.blt c (e.on + 1) && !inL AI e.on))) && lateB AI c l (i + 1)
theorem lateB_at {AI : List (Nat × Step)} {c : Nat} : ∀ (l : List Oper) (k i : Nat) (o : Oper), lateB AI c l k = true → l[i]? = some o → inL AI (k + i) = false → ∃ e, e ∈ o.after.toList ∧ Region.binds .any e = true ∧ c ≤ e.on ∧ inL AI e.on = false
  | [], _, _, _, _, h, _ => by simp at h
  | x :: l, k, 0, o, he, h, hin => by
    simp at h; subst h
    unfold lateB at he
    rw [Nat.add_zero] at hin
    rw [Bool.and_eq_true, hin, Bool.false_or, List.any_eq_true] at he
    obtain ⟨⟨e, h1, h2⟩, _⟩ := he
    rw [Bool.and_eq_true, Bool.and_eq_true, blt_eq, decide_eq_true_iff, Bool.not_eq_true'] at h2
    exact ⟨e, h1, h2.1, by omega, h2.2.2⟩
  | x :: l, k, i + 1, o, he, h, hin => by
    unfold lateB at he
    rw [Bool.and_eq_true] at he
    exact lateB_at l (k + 1) i o he.2 (by simpa using h) (by rw [show k + 1 + i = k + (i + 1) by omega]; exact hin)
/-- The call in the middle: it comes behind all before it, and all behind it wait for it, but for those of AI, which read nothing. -/
def midB (ops : Array Oper) (AI : List (Nat × Step)) (c : Nat) (oc : Oper) (post : List Oper) : Bool :=
  edges0 ops.toList 0 && (allBits (maskOf oc.after.toList (pre0 (ops.toList.take c) [])) c && (lateB AI c post (c + 1) && ((AI.all fun q => Nat.blt c q.1 && (q.2.rs.isEmpty && q.2.rb.isEmpty)) && AI.all fun x => AI.all fun y => Nat.beq x.1 y.1 || (freeOf x.2 y.2 && apartB x.2 y.2))))
theorem maskOf_congr : ∀ (l : List Edge) (A B : List (Nat × Step)), A.map (·.1) = B.map (·.1) → maskOf l A = maskOf l B
  | [], _, _, _ => rfl
  | e :: l, A, B, h => by
    have h1 : (A[e.on]?).map (·.1) = (B[e.on]?).map (·.1) := by rw [← List.getElem?_map, ← List.getElem?_map, h]
    rw [maskOf, maskOf, maskOf_congr l A B h, h1]
theorem masks_eq {A B : List (Nat × Step)} (hl : A.length = B.length) (hA : ∀ (i : Nat) (p : Nat × Step), A[i]? = some p → ∃ o : Oper, ops[i]? = some o ∧ p.1 = maskOf o.after.toList (A.take i)) (hB : ∀ (i : Nat) (p : Nat × Step), B[i]? = some p → ∃ o : Oper, ops[i]? = some o ∧ p.1 = maskOf o.after.toList (B.take i)) : A.map (·.1) = B.map (·.1) := by
  have key : ∀ k, k ≤ A.length → (A.take k).map (·.1) = (B.take k).map (·.1) := by
    intro k
    induction k with
    | zero => intro _; simp
    | succ k ih =>
      intro hk
      have ihk := ih (by omega)
      have h1 : k < A.length := by omega
      have h2 : k < B.length := by omega
      obtain ⟨o1, e1, f1⟩ := hA k _ (List.getElem?_eq_getElem h1)
      obtain ⟨o2, e2, f2⟩ := hB k _ (List.getElem?_eq_getElem h2)
      rw [e1] at e2
      injection e2 with e2
      subst e2
      rw [List.take_succ_eq_append_getElem h1, List.take_succ_eq_append_getElem h2, List.map_append, List.map_append, ihk]
      simp only [List.map_cons, List.map_nil]
      rw [f1, f2, maskOf_congr _ _ _ ihk]
  have := key A.length (Nat.le_refl _)
  rw [List.take_length, hl, List.take_length] at this
  exact this
theorem sw_split {id c : Nat} {σ : St} {AI : List (Nat × Step)} {oc : Oper} {Q : Exit → St → Prop} {pre post : List Oper} (hm : P.follows .mixedOrders = true) (hpre : ops.toList.take c = pre) (hops : ops.toList = pre ++ ([oc] ++ post)) (hc : pre.length = c) (hg : oc.guard = none) (hmid : midB ops AI c oc post = true)
    (hAI : ∀ j L, lk AI j = some L → ∀ o, ops[j]? = some o → LocG P n ops o L) (hAF : ∀ j L, lk AI j = some L → ∀ d, L.al = some d → Free d σ)
    (h : Run P n ops σ (C1 AI) (fun τ => Mid P n h0 w0 Fz0 ops AI oc post (pre0 (ops.toList.take (c + 1)) []) (fun τ => Q .normal τ) τ) pre [] σ) : SW P n h0 w0 Fz0 (.region id ops true) σ Q := fun a w hcon => by
  unfold midB at hmid
  simp only [Bool.and_eq_true] at hmid
  obtain ⟨m1, m3, m5, m6, m7⟩ := hmid
  have hsz : ops.size = c + (1 + post.length) := by
    have := congrArg List.length hops
    simp at this; omega
  have hoc : ops[c]? = some oc := by
    have : ops.toList[c]? = some oc := by rw [hops, List.getElem?_append_right (by omega), hc]; simp
    simpa using this
  have hpost : ∀ i o, ops[i]? = some o → c + 1 ≤ i → post[i - (c + 1)]? = some o := by
    intro i o ho hi
    have : ops.toList[i]? = some o := by simpa using ho
    rw [hops, List.getElem?_append_right (by omega), List.getElem?_append_right (by simp; omega)] at this
    rw [← this]; congr 1; simp; omega
  have hAIm : ∀ {j L}, lk AI j = some L → (j, L) ∈ AI := fun h => lk_mem h
  have hAIc : ∀ q, q ∈ AI → c < q.1 ∧ q.2.rs = [] ∧ q.2.rb = [] := fun q hq => by
    have := List.all_eq_true.1 m6 q hq
    rw [Bool.and_eq_true, Bool.and_eq_true, blt_eq, decide_eq_true_iff] at this
    exact ⟨this.1, List.isEmpty_iff.1 this.2.1, List.isEmpty_iff.1 this.2.2⟩
  have hlkn : ∀ j, inL AI j = false → lk AI j = none := by
    intro j hj
    cases hl : lk AI j with
    | none => rfl
    | some L => have := inL_mem (hAIm hl); rw [hj] at this; cases this
  have hlks : ∀ j, inL AI j = true → ∃ L, lk AI j = some L := by
    have : ∀ (l : List (Nat × Step)) j, inL l j = true → ∃ L, lk l j = some L := by
      intro l j
      induction l with
      | nil => intro h; cases h
      | cons q l ih =>
        intro h
        rw [inL_cons, Bool.or_eq_true] at h
        show ∃ L, (bif Nat.beq j q.1 then some q.2 else lk l j) = some L
        cases hb : Nat.beq j q.1
        · rcases h with h | h
          · rw [Nat.beq_eq] at h
            rw [h, show Nat.beq j j = true from by rw [Nat.beq_eq]] at hb
            cases hb
          · exact ih h
        · exact ⟨_, rfl⟩
    exact this AI
  obtain ⟨A1, hA1, _, hqs, hC1, hG1⟩ := run_good (P := P) (n := n) (ex := fun _ => true) pre ([oc] ++ post) [] [] σ (by rw [hops]; simp) rfl rfl (fun i o p _ hp => by simp at hp) h
  have hAl : A1.length = c := by simp at hA1; omega
  obtain ⟨B, hAB, hBl⟩ := preF_app (stepF AI) ([oc] ++ post) A1
  generalize hA' : preF (stepF AI) ([oc] ++ post) A1 = A at hAB
  have hAlen : A.length = ops.size := by rw [hAB]; simp [hBl]; omega
  have hAlt : ∀ i, i < c → A[i]? = A1[i]? := fun i hi => by rw [hAB, List.getElem?_append_left (by omega)]
  have hAge : ∀ i o p, c ≤ i → ops[i]? = some o → A[i]? = some p → p.2 = stepF AI i ∧ p.1 = maskOf o.after.toList (A.take i) := by
    intro i o p hi ho hp
    have ho' : ([oc] ++ post)[i - c]? = some o := by
      have : ops.toList[i]? = some o := by simpa using ho
      rw [hops, List.getElem?_append_right (by omega), hc] at this
      exact this
    have := preF_at (stepF AI) ([oc] ++ post) A1 (i - c) o p ho' (by rw [hA', hAl, show c + (i - c) = i by omega]; exact hp)
    rw [hA', hAl, show c + (i - c) = i by omega] at this
    exact this
  have hstA : ∀ i, i ≤ c → stB A (fun j => Nat.blt j i) σ = stB A1 (fun j => Nat.blt j i) σ := by
    intro i hi
    have e : ∀ {β : Type} (pr : Step → List (Nat × β)) (f : Nat → β), lw pr (fun j => Nat.blt j i) A 0 f = lw pr (fun j => Nat.blt j i) A1 0 f := by
      intro β pr f
      rw [hAB, lw_cat]
      have : ∀ (B : List (Nat × Step)) (k : Nat) (g : Nat → β), i ≤ k → lw pr (fun j => Nat.blt j i) B k g = g := by
        intro B
        induction B with
        | nil => intro k g _; rfl
        | cons q B ihB =>
          intro k g hk
          rw [lw, blt_eq, decide_eq_false (by omega), cond_false]
          exact ihB (k + 1) g (by omega)
      exact this B _ _ (by omega)
    unfold stB
    rw [e, e]
  have hE0 : ∀ q : Nat × Step, q ∈ AI → ∀ j p, j < c → A1[j]? = some p → freeOf p.2 q.2 = true ∧ apartB p.2 q.2 = true := by
    intro q hq j p hj hp
    have := List.all_eq_true.1 (hC1 j p (Nat.zero_le _) hp) q hq
    rwa [Bool.and_eq_true] at this
  have hG : ∀ i o p, ops[i]? = some o → A[i]? = some p → Good P n ops σ (fun i => Nat.blt i c || inL AI i) A i o p := by
    intro i o p ho hp
    rcases Nat.lt_or_ge i c with hi | hi
    · have g := hG1 i o p ho (by rw [← hAlt i hi]; exact hp)
      refine ⟨fun _ => g.loc rfl, fun _ => by rw [hstA i (by omega)]; exact g.rs rfl, fun _ => by rw [hstA i (by omega)]; exact g.rb rfl, fun _ => g.fr rfl, ?_, g.edges, fun j q hj hq => g.ch j q hj (by rw [← hAlt j (by omega)]; exact hq)⟩
      rw [g.mask, hAB, List.take_append_of_le_length (by omega)]
    · obtain ⟨k1, k2⟩ := hAge i o p hi ho hp
      have ke := edges0_at ops.toList 0 i o m1 (by simpa using ho)
      rw [Nat.zero_add] at ke
      have hex : (Nat.blt i c || inL AI i) = true → ∃ L, lk AI i = some L ∧ p.2 = L := by
        intro hx
        rw [blt_eq, decide_eq_false (by omega), Bool.false_or] at hx
        obtain ⟨L, hL⟩ := hlks i hx
        exact ⟨L, hL, by rw [k1]; unfold stepF; rw [hL]; rfl⟩
      refine ⟨fun hx => ?_, fun hx => ?_, fun hx => ?_, fun hx => ?_, k2, ke, fun j q hj hq => ?_⟩
      · obtain ⟨L, h1, h2⟩ := hex hx
        rw [h2]; exact hAI i L h1 o ho
      · obtain ⟨L, h1, h2⟩ := hex hx
        rw [h2, (hAIc _ (hAIm h1)).2.1]; exact True.intro
      · obtain ⟨L, h1, h2⟩ := hex hx
        rw [h2, (hAIc _ (hAIm h1)).2.2]; exact True.intro
      · obtain ⟨L, h1, h2⟩ := hex hx
        rw [h2]; exact hAF i L h1
      · cases hli : lk AI i with
        | none =>
          have : p.2 = e0 := by rw [k1]; unfold stepF; rw [hli]; rfl
          rw [this]
          exact ⟨(apart_e0 _).2.2.1, .inr (apart_e0 _).1⟩
        | some L =>
          have hpL : p.2 = L := by rw [k1]; unfold stepF; rw [hli]; rfl
          rw [hpL]
          rcases Nat.lt_or_ge j c with hjc | hjc
          · obtain ⟨h1, h2⟩ := hE0 _ (hAIm hli) j q hjc (by rw [← hAlt j hjc]; exact hq)
            exact ⟨h1, .inr h2⟩
          · have hjo : j < ops.size := by have := (Array.getElem?_eq_some_iff.1 ho).1; omega
            obtain ⟨j1, _⟩ := hAge j _ q hjc (Array.getElem?_eq_getElem hjo) hq
            cases hlj : lk AI j with
            | none =>
              have : q.2 = e0 := by rw [j1]; unfold stepF; rw [hlj]; rfl
              rw [this]
              exact ⟨(apart_e0 _).2.2.2, .inr (apart_e0 _).2.1⟩
            | some L' =>
              have hqL : q.2 = L' := by rw [j1]; unfold stepF; rw [hlj]; rfl
              rw [hqL]
              have := List.all_eq_true.1 (List.all_eq_true.1 m7 _ (hAIm hlj)) _ (hAIm hli)
              simp only [Bool.or_eq_true, Nat.beq_eq, Bool.and_eq_true] at this
              rcases this with h | h
              · omega
              · exact ⟨h.1, .inr h.2⟩
  have hpl : (pre0 (ops.toList.take c) []).length = c := by rw [pre0_len, List.length_take]; simp; omega
  have m2 : edges0 (ops.toList.take c) 0 = true := edges0_take _ _ _ m1
  have hmk : (A.take c).map (·.1) = (pre0 (ops.toList.take c) []).map (·.1) := by
    refine masks_eq (ops := ops) (by rw [List.length_take, hpl]; omega) (fun i p hp => ?_) (fun i p hp => ?_)
    · have hi : i < c := by have := (List.getElem?_eq_some_iff.1 hp).1; rw [List.length_take] at this; omega
      have hio : i < ops.size := by omega
      rw [List.getElem?_take_of_lt hi] at hp
      refine ⟨_, Array.getElem?_eq_getElem hio, ?_⟩
      rw [(hG i _ p (Array.getElem?_eq_getElem hio) hp).mask, List.take_take, Nat.min_eq_left (by omega)]
    · have hi : i < c := by rw [← hpl]; exact (List.getElem?_eq_some_iff.1 hp).1
      have hio : i < ops.size := by omega
      exact ⟨_, Array.getElem?_eq_getElem hio, (pre0_good (P := P) (n := n) (σ0 := σ) (by omega) m2 i _ p (Array.getElem?_eq_getElem hio) hp).mask⟩
  have hmoc : maskOf oc.after.toList (A.take c) = maskOf oc.after.toList (pre0 (ops.toList.take c) []) := maskOf_congr _ _ _ hmk
  have hrepl : ∀ i, (Array.replicate ops.size false).getD i false = false := fun i => by
    rw [Array.getD_eq_getD_getElem?, Array.getElem?_replicate]
    split <;> rfl
  refine wp_region_any hm (any_gen (h0 := h0) (w0 := w0) (Fz0 := Fz0) (ini := fun _ => false) (Q := fun e a' w' => ∃ τ, Q e τ ∧ Conc h0 w0 Fz0 n τ a' w') hAlen hG ?_ ?_ ops.size _ a _ (by simp) ?_ ?_ (fun i _ => hrepl i) ?_)
  · intro fuel listed a' w' hsz' hcnt hini hcl hc' i hi hli hex he
    rw [Bool.or_eq_false_iff, blt_eq, decide_eq_false_iff_not] at hex
    obtain ⟨hic, hin⟩ := hex
    have hunl : ∀ j, c ≤ j → inL AI j = false → listed.getD j false = false := fun j hj hjn => hini j (by rw [Bool.or_eq_false_iff, blt_eq, decide_eq_false_iff_not]; exact ⟨by omega, hjn⟩)
    by_cases hic' : i = c
    · subst hic'
      unfold wpOp
      rw [hoc]
      have hall : ∀ j, j < i → listed.getD j false = true := by
        intro j hj
        have hp := List.getElem?_eq_getElem (show i < A.length by omega)
        have g := hG i oc _ hoc hp
        refine closed_of (Nat.le_of_eq hAlen) hG (S := fun i => listed.getD i false) hcl i oc _ hoc hp (he oc hoc) j ?_
        rw [g.mask, hmoc]
        exact allBits_at m3 hj
      have hset : ∀ j, (listed.setIfInBounds i true).getD j false = (if j = i then true else listed.getD j false) := by
        intro j
        by_cases hj : j = i
        · subst hj
          rw [if_pos rfl, Array.getD_eq_getD_getElem?, Array.getElem?_setIfInBounds_self]
          rw [if_pos (by omega)]; rfl
        · rw [if_neg hj, Array.getD_eq_getD_getElem?, Array.getD_eq_getD_getElem?, Array.getElem?_setIfInBounds_ne (by omega)]
      -- what is known here: the prefix, and what of AI is listed
      have hlwA : ∀ {β : Type} (pr : Step → List (Nat × β)) (f : Nat → β), lw pr (fun j => listed.getD j false) A 0 f = lw pr (fun j => listed.getD j false) B i (lw pr (fun _ => true) A1 0 f) := by
        intro β pr f
        rw [hAB, lw_cat, Nat.zero_add, hAl]
        congr 1
        exact lw_ext pr A1 A1 0 f rfl (fun j hj => by rw [Nat.zero_add]; exact hall j (by omega)) (fun j p q hp hq _ => by rw [hp] at hq; injection hq with hq; rw [hq])
      have hBe : ∀ k p, B[k]? = some p → listed.getD (i + k) false = true → (i + k, p.2) ∈ AI ∧ lk AI (i + k) = some p.2 := by
        intro k p hp hs
        have hik : i + k < ops.size := by have := (List.getElem?_eq_some_iff.1 hp).1; simp [hBl] at this; omega
        have hpA : A[i + k]? = some p := by rw [hAB, List.getElem?_append_right (by omega), hAl, show i + k - i = k by omega]; exact hp
        obtain ⟨k1, _⟩ := hAge (i + k) _ p (by omega) (Array.getElem?_eq_getElem hik) hpA
        cases hin' : inL AI (i + k)
        · rw [hunl (i + k) (by omega) hin'] at hs; cases hs
        · obtain ⟨L, hL⟩ := hlks _ hin'
          have : p.2 = L := by rw [k1]; unfold stepF; rw [hL]; rfl
          rw [this]
          exact ⟨hAIm hL, hL⟩
      have hExt : Ext AI (stB A1 (fun _ => true) σ) (stB A (fun j => listed.getD j false) σ) := by
        intro x hx
        show lw Step.ws (fun j => listed.getD j false) A 0 σ.s x = lw Step.ws (fun _ => true) A1 0 σ.s x
        rw [hlwA]
        have : ∀ (B : List (Nat × Step)) (k : Nat) (g : Nat → Option RV), (∀ (j : Nat) (p : Nat × Step), B[j]? = some p → listed.getD (k + j) false = true → inL p.2.ws x = false) → lw Step.ws (fun j => listed.getD j false) B k g x = g x := by
          intro B
          induction B with
          | nil => intro k g _; rfl
          | cons q B ihB =>
            intro k g hB
            rw [lw, ihB (k + 1) _ fun j p hp hs => hB (j + 1) p (by simpa using hp) (by rw [show k + (j + 1) = k + 1 + j by omega]; exact hs)]
            cases hs : listed.getD k false
            · rfl
            · exact setL_out (hB 0 q rfl (by simpa using hs))
        exact this B i _ fun j p hp hs => hx (i + j, p.2) (hBe j p hp hs).1
      have hmidK := hqs (stB A (fun j => listed.getD j false) σ) a' w' (wpAny P .any ops (fun e a' w' => ∃ τ, Q e τ ∧ Conc h0 w0 Fz0 n τ a' w') fuel (listed.setIfInBounds i true)) (fun e a' w' => ∃ τ, Q e τ ∧ Conc h0 w0 Fz0 n τ a' w') hc' hExt (fun u a2 w2 hc2 hu hrun => by
        have hp1 : (pre0 (ops.toList.take (i + 1)) []).length = i + 1 := by rw [pre0_len, List.length_take]; simp; omega
        have hall0 : ∀ (j : Nat) (q : Nat × Step), (pre0 (ops.toList.take (i + 1)) [])[j]? = some q → q.2 = e0 := by
          intro j q hq
          have hj : j < i + 1 := by rw [← hp1]; exact (List.getElem?_eq_some_iff.1 hq).1
          have hoj : (ops.toList.take (i + 1))[j]? = some ops[j] := by rw [List.getElem?_take_of_lt hj]; simp
          exact (pre0_at _ [] j _ q hoj (by simpa using hq)).1
        obtain ⟨A2, hA2, htk2, hqs2, hC2, hG2⟩ := run_good (P := P) (n := n) (ex := fun j => Nat.blt (i + 1 - 1) j && Nat.blt 0 (i + 1)) post [] (pre ++ [oc]) (pre0 (ops.toList.take (i + 1)) []) _ (by rw [hops]; simp) (by rw [hp1]; simp [hc]) (by
            unfold stB
            rw [lw_e0 Step.ws rfl _ _ _ _ fun j q hq _ => hall0 j q hq, lw_e0 Step.wb rfl _ _ _ _ fun j q hq _ => hall0 j q hq]) (pre0_good (by omega) (edges0_take _ _ _ m1)) hrun
        have hA2 : A2.length = ops.size := by simpa using hA2
        have hA2B : A2 = pre0 (ops.toList.take (i + 1)) [] ++ A2.drop (i + 1) := by
          rw [← htk2, hp1, List.take_append_drop]
        have hex2 : ∀ j, (Nat.blt (i + 1 - 1) j && Nat.blt 0 (i + 1)) = false → j < i + 1 := by
          intro j hj
          rw [blt_eq, blt_eq, decide_eq_true (show 0 < i + 1 by omega), Bool.and_true, decide_eq_false_iff_not] at hj
          omega
        refine any_gen (ini := fun _ => true) hA2 hG2 (fun fuel listed2 a w _ _ hini2 _ _ j hj hlj hexj _ => by rw [hini2 j hexj] at hlj; cases hlj) (fun listed a w _ _ hc' => ⟨_, hqs2, hc'⟩) fuel _ a2 w2 (by simpa using hsz') ?_ ?_ ?_ ?_
        · have hc1 : (List.range ops.size).countP (fun j => !(listed.setIfInBounds i true).getD j false) + 1 ≤ (List.range ops.size).countP (fun j => !listed.getD j false) := by
            have key : ∀ (l : List Nat), l.Nodup → i ∈ l → l.countP (fun j => !(listed.setIfInBounds i true).getD j false) + 1 ≤ l.countP (fun j => !listed.getD j false) := by
              have mono : ∀ (l : List Nat), l.countP (fun j => !(listed.setIfInBounds i true).getD j false) ≤ l.countP (fun j => !listed.getD j false) := by
                intro l
                refine List.countP_mono_left fun j _ hj => ?_
                rw [hset] at hj
                split at hj
                · simp at hj
                · exact hj
              intro l
              induction l with
              | nil => intro _ h; simp at h
              | cons x l ihl =>
                intro hnd hmm
                rw [List.countP_cons, List.countP_cons]
                rcases List.mem_cons.1 hmm with rfl | hmm
                · have := mono l
                  rw [hset i, if_pos rfl, hli]
                  exact Nat.add_le_add_right this 1
                · have := ihl (List.nodup_cons.1 hnd).2 hmm
                  have hxi : x ≠ i := fun e => (List.nodup_cons.1 hnd).1 (e ▸ hmm)
                  rw [hset x, if_neg hxi]
                  omega
            exact key _ List.nodup_range (List.mem_range.2 hi)
          omega
        · intro j o ho hs e he' hb
          rw [hset] at hs ⊢
          by_cases hji : j = i
          · subst hji
            have := he o ho e he' hb
            split
            · rfl
            · exact this
          · rw [if_neg hji] at hs
            have := hcl j o ho hs e he' hb
            split
            · rfl
            · exact this
        · intro j hj
          have := hex2 j hj
          rw [hset]
          split
          · rfl
          · exact hall j (by omega)
        · have hB1 : B.length = 1 + post.length := by simp [hBl]; omega
          have hB0 : ∃ b0 Bt, B = b0 :: Bt := by
            cases B with
            | nil => simp at hB1; omega
            | cons b0 Bt => exact ⟨b0, Bt, rfl⟩
          obtain ⟨b0, Bt, rfl⟩ := hB0
          have hBt : Bt.length = post.length := by simp at hB1; omega
          have heq : ∀ {β : Type} (pr : Step → List (Nat × β)) (hpr : pr e0 = []) (g : Nat → β), lw pr (fun j => (listed.setIfInBounds i true).getD j false) A2 0 g = lw pr (fun j => listed.getD j false) Bt (i + 1) g := by
            intro β pr hpr g
            rw [hA2B, lw_cat, lw_e0 pr hpr _ _ _ _ (fun j q hq _ => hall0 j q hq), Nat.zero_add, hp1]
            · refine lw_ext pr _ _ (i + 1) g ?_ (fun j _ => ?_) (fun j p q hp hq hs => ?_)
              · rw [List.length_drop, hA2, hBt]; omega
              · rw [hset, if_neg (by omega)]
              · rw [hset, if_neg (by omega)] at hs
                obtain ⟨_, h2⟩ := hBe (j + 1) q (by simpa using hq) (by rw [show i + (j + 1) = i + 1 + j by omega]; exact hs)
                rw [List.getElem?_drop] at hp
                exact hC2 (i + 1 + j) p (by rw [hp1]; omega) hp q.2 (by rw [show i + 1 + j = i + (j + 1) by omega]; exact h2)
          have hskip : ∀ {β : Type} (pr : Step → List (Nat × β)) (g : Nat → β), lw pr (fun j => listed.getD j false) (b0 :: Bt) i g = lw pr (fun j => listed.getD j false) Bt (i + 1) g := by
            intro β pr g
            rw [lw, hunl i (by omega) hin, cond_false]
          refine Conc.eqv hc2 (fun x => ?_) (fun x => ?_)
          · show lw Step.ws _ A2 0 (setL u (lw Step.ws (fun _ => true) A1 0 σ.s)) x = setL u (lw Step.ws (fun j => listed.getD j false) A 0 σ.s) x
            rw [heq Step.ws rfl, hlwA, hskip, lw_comm Step.ws _ Bt (i + 1) _ (fun j p hp hs y hy => ?_)]
            exact hu _ (hBe (j + 1) p (by simpa using hp) (by rw [show i + (j + 1) = i + 1 + j by omega]; exact hs)).1 y hy
          · show lw Step.wb _ A2 0 (lw Step.wb (fun _ => true) A1 0 σ.b) x = lw Step.wb (fun j => listed.getD j false) A 0 σ.b x
            rw [heq Step.wb rfl, hlwA, hskip])
      show if _ then _ else _
      have hw : Region.wanted oc (yielded ops a'.tmps) = true := by simp [Region.wanted, hg]
      rw [if_pos hw]
      exact .inl hmidK
    · exfalso
      have hio := Array.getElem?_eq_getElem hi
      obtain ⟨e, g1, g2, g3, g4⟩ := lateB_at post (c + 1) (i - (c + 1)) _ m5 (hpost i _ hio (by omega)) (by rw [show c + 1 + (i - (c + 1)) = i by omega]; exact hin)
      have := he _ hio e g1 g2
      rw [hunl _ g3 g4] at this; cases this
  · intro listed a' w' hall hini _
    have hin : inL AI c = false := by
      cases h : inL AI c
      · rfl
      · obtain ⟨L, hL⟩ := hlks c h
        have := (hAIc _ (hAIm hL)).1
        simp at this
    have h1 := hini c (by rw [Bool.or_eq_false_iff, blt_eq, decide_eq_false_iff_not]; exact ⟨by omega, hin⟩)
    rw [hall c (by omega)] at h1; cases h1
  · exact Nat.le_trans List.countP_le_length (by simp)
  · intro i o _ hs
    rw [hrepl] at hs; cases hs
  · have e : ∀ {β : Type} (pr : Step → List (Nat × β)) (f : Nat → β), lw pr (fun i => (Array.replicate ops.size false).getD i false) A 0 f = f := by
      intro β pr f
      have : (fun i => (Array.replicate ops.size false).getD i false) = fun _ => false := by
        funext i; exact hrepl i
      rw [this]
      have e : ∀ (A : List (Nat × Step)) (k : Nat) (h : Nat → β), lw pr (fun _ => false) A k h = h := by
        intro A
        induction A with
        | nil => intro k h; rfl
        | cons r A ih => intro k h; rw [lw]; exact ih _ _
      exact e A 0 f
    unfold stB
    rw [e, e]; exact hcon.drew
end
section
variable {P : Program} {n : Nat} {h0 : Nat → Prop} {w0 : World} {Fz0 : FzT} {ops : Array Oper}
/-- A ghost gets blocks that float. -/
theorem ConcW.pushG {σ : St} {a : Act} {w : World} {φ : Nat → Nat} {Fz : FzT} {Fp : Nat → List Nat} (h : ConcW h0 w0 Fz0 n σ a w φ Fz Fp) {G : Nat} {us : List Value} {cs : List PV} {F X : List Nat} (ho : OwnL cs Fz w us F) (hX : ∀ b, b ∈ F ++ X → b ∈ Fp 0) (hn : (F ++ X).Nodup) :
    ConcW h0 w0 Fz0 n (σ.set G (some (RV.gh us cs))) a w φ Fz (give Fp (2 * G + 1) F X) :=
  { h with
    slot := fun i rv hi => by
      rw [St.set_s] at hi
      split at hi
      · rename_i e
        subst e
        injection hi with hi
        subst hi
        simp only [give, if_true]
        exact ho
      · rename_i e
        simp only [give]
        rw [if_neg (by omega), if_neg (by omega)]
        exact h.slot i rv hi
    box := fun d bx hd => by
      obtain ⟨cur, h1, h2⟩ := h.box d bx hd
      refine ⟨cur, h1, ?_⟩
      simp only [give]
      rw [if_neg (by omega), if_neg (by omega)]
      exact h2
    bxb := fun d bx hd => by
      obtain ⟨g1, g2, g3⟩ := h.bxb d bx hd
      refine ⟨g1, g2, fun r hr => ?_⟩
      rcases give_mem hr with ⟨_, k⟩ | ⟨_, _, k⟩ | ⟨_, _, k⟩
      · exact g3 0 (hX _ (by simp [k]))
      · exact g3 0 (hX _ (by simp [k]))
      · exact g3 _ k
    inj := fun d d' cs cs' h1 h2 => h.inj d d' cs cs' h1 h2
    dis := give_dis (by omega) hX hn h.dis
    nod := give_nod hn h.nod
    low := fun r b hb => by
      rcases give_mem hb with ⟨_, k⟩ | ⟨_, _, k⟩ | ⟨_, _, k⟩
      · exact h.low 0 b (hX _ (by simp [k]))
      · exact h.low 0 b (hX _ (by simp [k]))
      · exact h.low r b k }
/-- Several results, of which the cells have names; what they own is lent to the ghosts G, G + 1, .. -/
def nmT : List (List Value) → List (Bool × List PV) → List (Bool × List PV)
  | us :: uss, q :: l => (q.1, valL us) :: nmT uss l
  | _, _ => []
def ghW : Nat → List (List Value) → List (Bool × List PV) → List (Nat × Option RV)
  | G, us :: uss, q :: l => (G, some (RV.gh us q.2)) :: ghW (G + 1) uss l
  | _, _, _ => []
def RelU (Fz : FzT) (w : World) : List (List Value) → List (Bool × List PV) → Prop
  | [], [] => True
  | us :: uss, q :: l => RelL q.2 Fz w us ∧ RelU Fz w uss l
  | _, _ => False
theorem RelU.tl {us : List Value} {uss : List (List Value)} {q : Bool × List PV} {l : List (Bool × List PV)} (h : ∃ Fz w, RelU Fz w (us :: uss) (q :: l)) : (∃ Fz w, RelL q.2 Fz w us) ∧ ∃ Fz w, RelU Fz w uss l := by
  obtain ⟨Fz, w, h⟩ := h
  exact ⟨⟨Fz, w, h.1⟩, ⟨Fz, w, h.2⟩⟩
theorem RelU.cons {uss : List (List Value)} {q : Bool × List PV} {l : List (Bool × List PV)} (h : ∃ Fz w, RelU Fz w uss (q :: l)) : ∃ us rest, uss = us :: rest ∧ us.length = q.2.length ∧ (∃ Fz w, RelL q.2 Fz w us) ∧ ∃ Fz w, RelU Fz w rest l := by
  obtain ⟨Fz, w, h⟩ := h
  cases uss with
  | nil => exact h.elim
  | cons us rest => exact ⟨us, rest, rfl, h.1.len, ⟨Fz, w, h.1⟩, ⟨Fz, w, h.2⟩⟩
theorem RelU.nil {uss : List (List Value)} (h : ∃ Fz w, RelU Fz w uss []) : uss = [] := by
  obtain ⟨Fz, w, h⟩ := h
  cases uss with
  | nil => rfl
  | cons _ _ => exact h.elim
theorem ownT_names {Fz : FzT} {w : World} : ∀ {l : List (Bool × List PV)} {vs : List Value} {F : List Nat}, OwnT l Fz w vs F → ∃ (uss : List (List Value)) (Fs : List (List Nat)), RelU Fz w uss l ∧ OwnT (nmT uss l) Fz w vs [] ∧ F = Fs.flatten ∧ (∀ (i : Nat) (us : List Value) (q : Bool × List PV), uss[i]? = some us → l[i]? = some q → ∃ Fi, Fs[i]? = some Fi ∧ OwnL q.2 Fz w us Fi) ∧ Fs.length = l.length
  | [], vs, F, h => ⟨[], [], True.intro, by obtain ⟨rfl, rfl⟩ := h; exact ⟨rfl, rfl⟩, h.2, by simp, rfl⟩
  | q :: l, vs, F, h => by
    obtain ⟨v, vs', F1, F2, rfl, rfl, h1, h2⟩ := h
    obtain ⟨uss, Fs, k1, k2, rfl, k4, k5⟩ := ownT_names h2
    refine ⟨v.cells.toList :: uss, F1 :: Fs, ⟨h1.2.rel, k1⟩, ⟨v, vs', [], [], rfl, rfl, ⟨h1.1, own_valL h1.2.one⟩, k2⟩, by simp, ?_, by simp [k5]⟩
    intro i us q' hu hq
    cases i with
    | zero => simp at hu hq; subst hu hq; exact ⟨F1, rfl, h1.2⟩
    | succ i => simpa using k4 i us q' (by simpa using hu) (by simpa using hq)
theorem ghosts_push : ∀ {l : List (Bool × List PV)} {uss : List (List Value)} {Fs : List (List Nat)} {X : List Nat} {G : Nat} {σ : St} {a : Act} {w : World} {φ : Nat → Nat} {Fz : FzT} {Fp : Nat → List Nat}, ConcW h0 w0 Fz0 n σ a w φ Fz Fp → RelU Fz w uss l →
    (∀ (i : Nat) (us : List Value) (q : Bool × List PV), uss[i]? = some us → l[i]? = some q → ∃ Fi, Fs[i]? = some Fi ∧ OwnL q.2 Fz w us Fi) → Fs.length = l.length → (∀ b, b ∈ Fs.flatten ++ X → b ∈ Fp 0) → (Fs.flatten ++ X).Nodup → Conc h0 w0 Fz0 n (σ.wr (ghW G uss l)) a w
  | [], [], _, _, _, _, _, _, _, _, _, h, _, _, _, _, _ => ⟨_, _, _, h⟩
  | q :: l, us :: uss, [], X, G, σ, a, w, φ, Fz, Fp, h, hr, ho, hl, hX, hn => by simp at hl
  | q :: l, us :: uss, F1 :: Fs, X, G, σ, a, w, φ, Fz, Fp, h, hr, ho, hl, hX, hn => by
    obtain ⟨Fi, e1, e2⟩ := ho 0 us q rfl rfl
    simp at e1
    subst e1
    rw [List.flatten_cons, List.append_assoc] at hX hn
    have k := h.pushG (G := G) (us := us) (cs := q.2) (F := F1) (X := Fs.flatten ++ X) e2 hX hn
    show Conc h0 w0 Fz0 n ((σ.set G (some (RV.gh us q.2))).wr (ghW (G + 1) uss l)) a w
    refine ghosts_push (X := X) k hr.2 (fun i us' q' hu hq => by simpa using ho (i + 1) us' q' (by simpa using hu) (by simpa using hq)) (by simpa using hl) ?_ ?_
    · intro b hb
      have : give Fp (2 * G + 1) F1 (Fs.flatten ++ X) 0 = Fs.flatten ++ X := by simp [give]
      rw [this]; exact hb
    · rw [List.nodup_append] at hn; exact hn.2.1
theorem ghW_in : ∀ {uss : List (List Value)} {l : List (Bool × List PV)} {G x : Nat}, inL (ghW G uss l) x = true → x ∈ List.range' G l.length
  | [], l, G, x, h => by cases l <;> simp [ghW, inL] at h
  | us :: uss, [], G, x, h => by simp [ghW, inL] at h
  | us :: uss, q :: l, G, x, h => by
    rw [ghW, inL_cons, Bool.or_eq_true, Nat.beq_eq] at h
    rw [List.length_cons, List.range'_succ, List.mem_cons]
    rcases h with h | h
    · exact .inl h.symm
    · exact .inr (ghW_in h)
theorem RdL.ext {AI : List (Nat × Step)} {σ τ : St} (h : Ext AI σ τ) : ∀ {l : List (Nat × RV)}, (AI.all fun q => !meet q.2.ws l) = true → RdL l σ.s → RdL l τ.s := by
  intro l hm hr
  refine RdL.of_mem fun p hp => ?_
  rw [h p.1 fun q hq => ?_]
  · exact hr.mem p hp
  · have := List.all_eq_true.1 hm q hq
    rw [Bool.not_eq_true'] at this
    cases hx : inL q.2.ws p.1
    · rfl
    · have h2 := meet_false this p.1 hx
      rw [inL_mem hp] at h2; cases h2
theorem mid_call {f d G : Nat} {AI : List (Nat × Step)} {args : Array Operand} {tys : Array TypeId} {ty : TypeId} {pos : String} {af : Array Edge} {post : List Oper} {acc : List (Nat × Step)} {QS : St → Prop} {σ : St} {qs as_ l : List (Bool × List PV)} (hd : d < n) (hf : callI P f = true) (hr : RdL (opsR args.toList qs) σ.s) (hok : OpsOk args.toList qs) (hto : ToT qs as_) (hs : SCall P f as_ (RV.tup l))
    (hk1 : (AI.all fun q => !meet q.2.ws (opsR args.toList qs)) = true) (hk2 : keysB AI (d :: List.range' G l.length) = true)
    (h : ∀ uss, (∃ Fz w, RelU Fz w uss l) → Run P n ops (σ.wr ((d, some (RV.tup (nmT uss l))) :: ghW G uss l)) (fun j L => ∀ L', lk AI j = some L' → L = L') QS post acc (σ.wr ((d, some (RV.tup (nmT uss l))) :: ghW G uss l))) :
    Mid P n h0 w0 Fz0 ops AI ⟨some d, .call { callee := .value (.func f), args := args, argTypes := tys }, ty, pos, af, none⟩ post acc QS σ := by
  intro τ a w K Q hc hExt h5
  obtain ⟨φ, Fz, Fp, hc⟩ := hc
  have hrel := hto.rel (hc.relT (hr.ext hExt hk1) hok)
  have hrun : (execOp a.eval ⟨some d, .call { callee := .value (.func f), args := args, argTypes := tys }, ty, pos, af, none⟩).run P w = .ok (.enter f (args.toList.map a.eval).toArray) w := by
    unfold execOp
    have e : (#[] ++ args.map a.eval ++ #[] : Array Value) = (args.toList.map a.eval).toArray := by apply Array.ext'; simp
    simp only [resolve, Act.eval, Deferred.ofValue, Sem.run_bind, Sem.run_pure, Result.andThen_ok, invoke]
    rw [run_call hf, e]
  unfold Oper.wp
  rw [hrun, Oper.upon_enter]
  refine (hs w _ Fz hc.fzl hrel).mono ?_
  rintro e w' ⟨v, Fz', F, rfl, hb, hz1, hz2, hv, hn, hF⟩
  obtain ⟨vs, rfl, hvs⟩ := hv φ
  obtain ⟨uss, Fs, k1, k2, rfl, k4, k5⟩ := ownT_names hvs
  have k := hc.world (w' := w') (Fz' := Fz') (X := Fs.flatten) hb.os hb.tape hb.output hb.size (fun b hb' _ => ⟨hb.block b hb', fun o ho => (hz1 b o hb').1 ho⟩)
    (fun b o ho => ⟨(hz1 b o (hc.fzl b o ho)).2 ho, World.cell?_of_block (hb.block b (hc.fzl b o ho))⟩) hz2 (fun b hb' => .inr (hF b hb')) hn
  have c1 := k.push (i := d) (rv := RV.tup (nmT uss l)) (v := .tuple vs) (F := []) (X := Fs.flatten) hd ⟨vs, rfl, k2⟩ (fun b hb => by simpa using hb) (by simpa using hn)
  have c2 : Conc h0 w0 Fz0 n ((τ.set d (some (RV.tup (nmT uss l)))).wr (ghW G uss l)) (a.put (some d) (.tuple vs)) w' := ghosts_push (G := G) (X := []) c1 k1 k4 k5 (fun b hb => by simpa [give] using hb) (by simpa using hn)
  refine h5 ((d, some (RV.tup (nmT uss l))) :: ghW G uss l) _ _ c2 (fun q hq x hx => ?_) (h uss ⟨Fz', w', k1⟩)
  have hk := List.all_eq_true.1 (List.all_eq_true.1 hk2 q hq) x (by
    rw [inL_cons, Bool.or_eq_true, Nat.beq_eq] at hx
    rcases hx with hx | hx
    · simp [← hx]
    · exact List.mem_cons_of_mem _ (ghW_in hx))
  simpa using hk
theorem Free.wr {d : Nat} {σ : St} {u : List (Nat × Option RV)} (h : Free d σ) (hu : menW d u = true) : Free d (σ.wr u) := Free.app (L := ⟨[], [], u, [], none⟩) h hu
theorem loc_extractb {t d i : Nat} {ty : TypeId} {pos : String} {af : Array Edge} {g : Option (Nat × Bool)} {l : List (Bool × List PV)} {ag : Bool} {cs : List PV} (hd : d < n) (hi : l[i]? = some (ag, cs)) (hb : BorL cs) :
    Loc P n ⟨some d, .extract (.tmp t) i, ty, pos, af, g⟩ ⟨[(t, RV.tup l)], [], [(d, some (RV.sv ag cs))], [], none⟩ := by
  intro h0 w0 Fz0 σ a w K Q hc hr _ _ h5
  obtain ⟨φ, Fz, Fp, hc⟩ := hc
  obtain ⟨vs, ev, hvs⟩ := hc.slot t _ hr.1
  obtain ⟨v, F1, F2, hv, h1, _⟩ := hvs.take hi (ToL.refl cs) hb (hc.nod _)
  have hown : SvOwn ag cs Fz w v [] := ⟨h1.1, hb.own h1.2.rel⟩
  refine wp_val (v := v) (w' := w) ?_ (h5 _ _ (hc.put0 hd hown))
  have ev' : a.eval (.tmp t) = .tuple vs := ev
  unfold execOp
  have hv' : vs[i]? = some v := by simpa using hv
  simp [ev', Instr.extract, hv']
end
end Go.Proofs.Ytloipjaiceifbaa.M
