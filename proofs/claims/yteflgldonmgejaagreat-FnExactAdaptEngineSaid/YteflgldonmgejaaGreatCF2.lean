/- Elements of own slices, wherever the slice lies, are turned in place. No condition. -/
import Derived.Test.YteflgldonmgejaaGreatCF1
import Derived.KernelRfl
import Derived.Laws.Strings3
import Derived.Laws.BytesString
import Derived.Laws.Concat
import Derived.Lib.LaidTab
import Derived.Lib.Join
import Derived.Lib.ItoaNum
import Derived.Lib.ItoaLen
import Derived.Sort.Grow
import Derived.Deep.Draws
import Derived.ProofKit
import Derived.OpenShut
import Derived.Carry
import Derived.Below
import Derived.ChangeSame
import Derived.ChangeArms
import Derived.WideKeyArgs
import Derived.Deep.Slices
set_option linter.unusedVariables false
namespace Go.Proofs.YteflgldonmgejaaGreat.M
open Go Go.RowKit
section
variable {P : Program} {n : Nat} {h0 : Nat → Prop} {w0 : World} {Fz0 : FzT}
/-- The value u is the slice of all m elements of variable D. -/
def RV.gat (u : Value) (D m cp : Nat) : RV where
  holds φ _ _ _ F := (u = .slice (some ⟨φ D, 0, none⟩) m cp ∧ m ≤ cp ∧ cp ≤ maxLen) ∧ F = []
  men x := Nat.beq x D
  mono h _ _ hφ := ⟨⟨by rw [hφ D (by simp)]; exact h.1.1, h.1.2⟩, h.2⟩
  lt h := by rw [h.2]; simp
theorem RV.lcl_gat {L : Nat → Prop} {u : Value} {D m cp : Nat} : (RV.gat u D m cp).Lcl L := fun h _ => h
/-- Some value of one cell. -/
def PV.any : PV where
  rel _ _ v := v.oneCell' = true
  own _ _ v F := v.oneCell' = true ∧ F = []
  one h := h
  toRel h := h.1
  relMono h _ := h
  ownMono h _ _ := h
  lt h := by rw [h.2]; simp
theorem PV.lcl_any {L : Nat → Prop} : PV.any.Lcl L := fun h _ => h
section
variable {σ : St} {a : Act} {w : World} {φ : Nat → Nat} {Fz : FzT} {Fp : Nat → List Nat}
/-- The array of a slice that floats becomes variable D. -/
theorem ConcW.thawF (hc : ConcW h0 w0 Fz0 n σ a w φ Fz Fp) {D G E e : Nat} {L : Nat → Prop} {u : Value} {es : List (List PV)} {F X : List Nat} (ho : SlOwn E e es Fz w u F) (hne : es ≠ []) (hX : ∀ b, b ∈ F ++ X → b ∈ Fp 0) (hn : (F ++ X).Nodup)
    (hD : σ.b D = none) (hG : σ.s G = none) (hm : ∀ i rv, σ.s i = some rv → rv.men D = false) (hL : ∀ x, L x → h0 x) (hls : ∀ i rv, σ.s i = some rv → rv.Lcl L) (hlb : ∀ d bx, σ.b d = some bx → LclC L bx.2) (hes : ∀ cs, cs ∈ es → LclC L cs) :
    ∃ (cp : Nat) (jk : List Value), es.length ≤ 9223372036854775807 ∧ es.length ≤ cp ∧ es.length * e + jk.length = cp * e ∧ Conc h0 w0 Fz0 n ((σ.setB D (some (E, es.flatten ++ jk.map PV.val))).set G (some (RV.gat u D es.length cp))) a w := by
  obtain ⟨css, F', ho, hl, hf, hF, h1⟩ := ho
  rcases ho.2 with ⟨_, hn0⟩ | ⟨g, cap, cur, hval, _, hg, hnc, hcm, hcs, htake⟩
  · exact absurd (List.eq_nil_of_length_eq_zero hn0) hne
  have hob : u.ownBlock = some g := by rw [hval]; rfl
  rw [hob] at hF hf
  have hF : F = g :: F' := hF
  subst hF
  have hg0 : g ∈ Fp 0 := hX g (by simp)
  have hgl := hc.low 0 g hg0
  -- the block's cells are no longer said to stay
  have c2 := hc.uworld (w' := w) (Fz' := fun x o => Fz x o ∧ x ≠ g) (L := L) rfl rfl rfl (Nat.le_refl _)
    (fun x hx h0' => ⟨rfl, fun o => ⟨fun k => k.1, fun k => ⟨k, fun e => h0' (by rw [e]; exact hg0)⟩⟩⟩) hL hls hlb
    (fun x o k => hc.fzl x o k.1) (X := g :: F' ++ X) (fun x hx => .inl (hX x hx)) hn
  have hgF : g ∉ F' := by
    have := (List.nodup_append.1 hn).1
    exact (List.nodup_cons.1 this).1
  have hl2 : OwnLL e es (fun x o => Fz x o ∧ x ≠ g) w css F' := lcl_ll (L := L) hes hl (fun x hx => ⟨rfl, fun o => ⟨fun k => k.1, fun k => ⟨k, fun e => by
      rcases hx with hx | hx
      · exact hgl.1 (e ▸ hL x hx)
      · rw [e] at hx; exact hgF hx⟩⟩⟩)
  have hone := h1 g hob cur E (0, 0) hg
  have hjl : es.length * e + (cur.toList.drop (es.length * e)).length = cap * e := by
    have hle : es.length * e ≤ cap * e := Nat.mul_le_mul_right _ hnc
    rw [List.length_drop, show cur.toList.length = cap * e from by rw [← hcs]; simp]; omega
  have hcur : OwnL (es.flatten ++ (cur.toList.drop (es.length * e)).map PV.val) (fun x o => Fz x o ∧ x ≠ g) w cur.toList F' := by
    have k := (OwnLL.flat hl2).append (own_vals (Fz := fun x o => Fz x o ∧ x ≠ g) (w := w) (vs := cur.toList.drop (es.length * e)) fun v hv => hone v (List.mem_of_mem_drop hv))
    rw [← htake, List.take_append_drop, List.append_nil] at k
    exact k
  have c3 := c2.pushB (d := D) (g := g) (t := E) (cs := es.flatten ++ (cur.toList.drop (es.length * e)).map PV.val) (F := F') (X := X) hD hg hcur (fun o k => k.2 rfl)
    (fun x hx => by
      simp only [if_true]
      rcases List.mem_append.1 hx with hx | hx
      · simp [hx]
      · rcases List.mem_cons.1 hx with rfl | hx
        · simp
        · simp [hx])
    (by
      simp only [List.cons_append, List.nodup_cons, List.mem_append] at hn
      rw [List.nodup_append] at hn ⊢
      obtain ⟨k1, k2, k3, k4⟩ := hn
      refine ⟨k2, List.nodup_cons.2 ⟨fun hh => k1 (.inr hh), k3⟩, fun x hx y hy e => ?_⟩
      rcases List.mem_cons.1 hy with rfl | hy
      · exact k1 (.inl (e ▸ hx))
      · exact k4 x hx y hy e)
    (.inr hm)
  have c4 := (c3.pull G).reslot (s := G) (rv := RV.gat u D es.length cap) ⟨⟨by rw [hval]; simp, hnc, hcm⟩, by simp [mv]⟩
  refine ⟨cap, _, by unfold maxLen at hcm; omega, hnc, hjl, Conc.eqv ⟨_, _, _, c4⟩ (fun i => by
    simp only [St.set_s, St.setB_s]
    split <;> rfl) (fun d => rfl)⟩
end
variable {Q : Exit → St → Prop} {c : Code}
def LclBA2 (L : Nat → Prop) : List (Nat × (Nat × List PV)) → Prop
  | [] => True
  | p :: l => LclC L p.2.2 ∧ LclBA2 L l
theorem LclBA2.mem {L : Nat → Prop} : ∀ {l : List (Nat × (Nat × List PV))}, LclBA2 L l → ∀ p, p ∈ l → LclC L p.2.2
  | [], _, p, hp => by simp at hp
  | q :: l, h, p, hp => by
    rcases List.mem_cons.1 hp with rfl | hp
    · exact h.1
    · exact LclBA2.mem h.2 p hp
def LclS2 (L : Nat → Prop) : List (Nat × RV) → Prop
  | [] => True
  | p :: l => p.2.Lcl L ∧ LclS2 L l
theorem LclS2.mem {L : Nat → Prop} : ∀ {l : List (Nat × RV)}, LclS2 L l → ∀ p, p ∈ l → p.2.Lcl L
  | [], _, p, hp => by simp at hp
  | q :: l, h, p, hp => by
    rcases List.mem_cons.1 hp with rfl | hp
    · exact h.1
    · exact LclS2.mem h.2 p hp
/-- The array of an own slice in a slot becomes a variable. -/
theorem sw_thawS {l : List (Nat × RV)} {b : List (Nat × (Nat × List PV))} (s D G E e : Nat) (L : Nat → Prop) {es : List (List PV)} (hs : lk l s = some (RV.sv false [PV.sl (.own E e) es])) (hne : es ≠ []) (hD : lk b D = none) (hG : lk l G = none) (hsG : Nat.beq G s = false) (hfr : (l.all fun p => !p.2.men D) = true)
    (hL : ∀ x, L x → h0 x) (hls : LclS L s l) (hlb : LclBA2 L b) (hes : ∀ cs, cs ∈ es → LclC L cs)
    (h : ∀ (u : Value) (cp : Nat) (jk : List Value), es.length ≤ 9223372036854775807 → es.length ≤ cp → es.length * e + jk.length = cp * e → SW P n h0 w0 Fz0 c ((((St.of l b).set s (some (RV.sc u))).setB D (some (E, es.flatten ++ jk.map PV.val))).set G (some (RV.gat u D es.length cp))) Q) : SW P n h0 w0 Fz0 c (St.of l b) Q := fun a w hc => by
  obtain ⟨φ, Fz, Fp, hc⟩ := hc
  have hv : SlOwn E e es Fz w (a.tmps.getD s undef) (Fp (2 * s + 1)) := (SvOwn.atom (hc.slot s _ hs))
  have hone : (a.tmps.getD s undef).oneCell' = true := (PV.sl (.own E e) es).one (Fz := Fz) (w := w) ⟨hv.rel, True.intro⟩
  have e0 : mv Fp (2 * s + 1) 0 = Fp (2 * s + 1) ++ Fp 0 := by simp [mv]
  have hGs : ¬ G = s := fun e => by rw [e] at hsG; simp at hsG
  have c1 := (hc.pull s).reslot (s := s) (rv := RV.sc (a.tmps.getD s undef)) (by
    have : mv Fp (2 * s + 1) (2 * s + 1) = [] := by simp [mv]
    rw [this]
    exact SvOwn.of_sc hone)
  have hst : ∀ i rv, i ≠ s → (((St.of l b).set s none).set s (some (RV.sc (a.tmps.getD s undef)))).s i = some rv → (i, rv) ∈ l := fun i rv hi k => by
    rw [St.set_s, if_neg hi, St.set_s, if_neg hi] at k
    exact lk_mem k
  have hss : ∀ rv, (((St.of l b).set s none).set s (some (RV.sc (a.tmps.getD s undef)))).s s = some rv → rv = RV.sc (a.tmps.getD s undef) := fun rv k => by
    rw [St.set_s, if_pos rfl] at k
    exact (Option.some.inj k).symm
  obtain ⟨cp, jk, q1, q2, q3, c5⟩ := c1.thawF (D := D) (G := G) (L := L) (F := Fp (2 * s + 1)) (X := Fp 0) (es := es) (u := a.tmps.getD s undef) (E := E) (e := e) hv hne
    (fun x hx => by rw [e0]; exact hx) (by have := (hc.pull s).nod 0; rw [e0] at this; exact this) hD
    (by rw [St.set_s, if_neg hGs, St.set_s, if_neg hGs]; exact hG)
    (fun i rv hi => by
      by_cases k : i = s
      · subst k; rw [hss rv hi]; rfl
      · have := List.all_eq_true.1 hfr _ (hst i rv k hi)
        simpa using this) hL
    (fun i rv hi => by
      by_cases k : i = s
      · subst k; rw [hss rv hi]; exact RV.lcl_sv (LclC.cons PV.lcl_val LclC.nil)
      · rcases hls.mem _ (hst i rv k hi) with q | q
        · exact absurd q k
        · exact q)
    (fun d bx hb => LclBA2.mem hlb _ (lk_mem hb)) hes
  refine h _ cp jk q1 q2 q3 a w (Conc.eqv c5 (fun i => by
    simp only [St.set_s, St.setB_s]
    split
    · rfl
    · split
      · rfl
      · rfl) (fun x => rfl))
/-- The slot has the slice again. -/
theorem sw_frzS {σ : St} {s D G E e m cp : Nat} {u : Value} {es : List (List PV)} {jk : List Value} (hs : σ.s s = some (RV.sc u)) (hG : σ.s G = some (RV.gat u D m cp)) (hb : σ.b D = some (E, es.flatten ++ jk.map PV.val)) (hsG : Nat.beq G s = false) (hsn : s < n) (hl : es.length = m) (he : ∀ c, c ∈ es → c.length = e) (hj : m * e + jk.length = cp * e)
    (h : SW P n h0 w0 Fz0 c (((σ.setB D none).set G none).set s (some (RV.sv false [PV.sl (.own E e) es]))) Q) : SW P n h0 w0 Fz0 c σ Q := fun a w hc => by
  obtain ⟨φ, Fz, Fp, hc⟩ := hc
  obtain ⟨⟨ev, hmc, hmx⟩, _⟩ := hc.slot G _ hG
  have hu := (hc.one_ hs).1
  obtain ⟨Fz', Fp', c3, hsl, hX, hnd, hs0⟩ := hc.freeze (s := G) hb hmc hmx hl he hj
  have hself : a.put (some s) (a.tmps.getD s undef) = a := put_self
  have c3' := c3.pull s
  have c4 := c3'.push (i := s) (rv := RV.sv false [PV.sl (.own E e) es]) (v := a.tmps.getD s undef) (F := φ D :: Fp (2 * D + 2)) (X := []) hsn
    (SvOwn.of_atom (p := PV.sl (.own E e) es) (by rw [hu, ev]; exact hsl)) (fun x hx => by
      have := hX x (by simpa using hx)
      simp only [mv, if_true]
      simp [this]) (by simpa using hnd)
  rw [hself] at c4
  exact h a w (Conc.eqv ⟨_, _, _, c4⟩ (fun i => by simp only [St.set_s]; split <;> rfl) (fun d => rfl))
/-- An element set apart. -/
theorem at_split {α : Type} {xs : List α} {f : α → List PV} {J : List PV} {k : Nat} (hk : k < xs.length) : (xs.map f).flatten ++ J = ((xs.take k).map f).flatten ++ (f xs[k] ++ (((xs.drop (k + 1)).map f).flatten ++ J)) := by
  conv => lhs; rw [← List.take_append_drop k xs, List.drop_eq_getElem_cons hk]
  simp only [List.map_append, List.map_cons, List.flatten_append, List.flatten_cons, List.append_assoc]
theorem at_join {α : Type} {xs : List α} {f : α → List PV} {J cs : List PV} {k : Nat} (y : α) (hk : k < xs.length) (hy : cs = f y) : ((xs.take k).map f).flatten ++ (cs ++ (((xs.drop (k + 1)).map f).flatten ++ J)) = ((xs.set k y).map f).flatten ++ J := by
  subst hy
  rw [List.set_eq_take_append_cons_drop, if_pos hk]
  simp only [List.map_append, List.map_cons, List.flatten_append, List.flatten_cons, List.append_assoc]
theorem map_ne {α β : Type} {xs : List α} {f : α → β} {k : Nat} (hk : k < xs.length) : xs.map f ≠ [] := fun e => by
  have := congrArg List.length e
  rw [List.length_map, List.length_nil] at this; omega
theorem at_len {α : Type} {xs : List α} {f : α → List PV} {k e : Nat} (hf : ∀ x, (f x).length = e) (hk : k ≤ xs.length) : ((xs.take k).map f).flatten.length = k * e := by
  rw [flatten_len (e := e) (fun cs hcs => by obtain ⟨x, _, rfl⟩ := List.mem_map.1 hcs; exact hf x), List.length_map, List.length_take, Nat.min_eq_left hk]
section
variable {ops : Array Oper}
theorem loc_gidx {T E e bs d s G D m cp k : Nat} {i : Operand} {ty : TypeId} {pos : String} {af : Array Edge} {g : Option (Nat × Bool)} {u : Value} {q : Int} (hd : d < n) (hT : sliceI P T = some (E, e, bs)) (hi : OpOk i (RV.int q)) (hq : q = (k : Int)) (hk : k < m) :
    Loc P n ⟨some d, .indexAddr T (.tmp s) i, ty, pos, af, g⟩ ⟨(s, RV.sc u) :: (G, RV.gat u D m cp) :: opR i (RV.int q), [], [(d, some (RV.ptr D (k * e)))], [], none⟩ := by
  intro h0 w0 Fz0 σ a w K Q hc hr _ _ h5
  obtain ⟨φ, Fz, Fp, hc⟩ := hc
  subst hq
  have ei := hc.sc hr.2.2 hi
  obtain ⟨⟨eu, _⟩, _⟩ := hc.slot G _ hr.2.1
  have ev := (hc.one_ hr.1).1
  obtain ⟨hu, inf, hinf, hsz, _⟩ := sliceI_spec hT
  refine wp_val (v := .pointer (some ⟨φ D, k * e, none⟩)) (w' := w) ?_ (h5 _ _ (hc.put0 hd ⟨rfl, rfl⟩))
  unfold execOp
  have es' : a.eval (.tmp s) = .slice (some ⟨φ D, 0, none⟩) m cp := by rw [← eu]; exact ev
  have hlt' : (0 : Int) ≤ (k : Int) ∧ (k : Int) < (m : Int) := by omega
  simp only [es', ei, Instr.indexAt, asIntOf, Sem.run_bind, Sem.run_pure, Result.andThen_ok, run_underlying hu]
  simp [hlt', sizeOf, typeInfo, hinf, hsz, add_lit]
end
end
end Go.Proofs.YteflgldonmgejaaGreat.M

/- Calls that take what their arguments own, and calls that turn a variable of the caller. No condition. -/
set_option linter.unusedVariables false
namespace Go.Proofs.YteflgldonmgejaaGreat.M
open Go Go.RowKit
section
variable {P : Program} {n : Nat} {h0 : Nat → Prop} {w0 : World} {Fz0 : FzT}
/-- What is common to the ends: nothing turned but in F (and g). -/
structure Turned (F : List Nat) (g : Option Nat) (Fz : FzT) (w : World) (Fz' : FzT) (w' : World) : Prop where
  os : w'.os = w.os
  tape : w'.tape = w.tape
  output : w'.output = w.output
  size : w.heap.size ≤ w'.heap.size
  same : ∀ b, b < w.heap.size → some b ≠ g → b ∉ F → w'.heap[b]? = w.heap[b]? ∧ ∀ o, Fz' b o ↔ Fz b o
  fzl : ∀ b o, Fz' b o → b < w'.heap.size
/-- The function takes its arguments with what they own, and returns r. -/
def OCall (P : Program) (f : FuncId) (args : List (Bool × List PV)) (r : RV) : Prop :=
  ∀ (w : World) (vs : List Value) (Fz : FzT) (F : List Nat), (∀ b o, Fz b o → b < w.heap.size) → OwnT args Fz w vs F → F.Nodup →
    Calls P f vs.toArray w fun e w' => ∃ (v : Value) (Fz' : FzT) (G : List Nat), e = .returned v ∧ Turned F none Fz w Fz' w' ∧ (∀ φ, r.holds φ Fz' w' v G) ∧ G.Nodup ∧ ∀ b, b ∈ G → b ∈ F ∨ (w.heap.size ≤ b ∧ b < w'.heap.size)
/-- The function turns the variable that its first argument points at: from cs to cs'. -/
def XCall (P : Program) (f : FuncId) (t : Nat) (cs cs' : List PV) (args : List (Bool × List PV)) (r : RV) : Prop :=
  ∀ (w : World) (g : Nat) (cur : Array Value) (vs : List Value) (Fz : FzT) (F1 F2 : List Nat), (∀ b o, Fz b o → b < w.heap.size) → w.heap[g]? = some (.cells cur t (0, 0)) → (∀ o, ¬ Fz g o) → OwnL cs Fz w cur.toList F1 → OwnT args Fz w vs F2 → (g :: (F1 ++ F2)).Nodup →
    Calls P f (.pointer (some ⟨g, 0, none⟩) :: vs).toArray w fun e w' => ∃ (v : Value) (Fz' : FzT) (cur' : Array Value) (F1' G : List Nat), e = .returned v ∧ Turned (F1 ++ F2) (some g) Fz w Fz' w' ∧ w'.heap[g]? = some (.cells cur' t (0, 0)) ∧ (∀ o, ¬ Fz' g o) ∧ OwnL cs' Fz' w' cur'.toList F1' ∧
      (∀ φ, r.holds φ Fz' w' v G) ∧ (g :: (F1' ++ G)).Nodup ∧ ∀ b, b ∈ F1' ++ G → b ∈ F1 ++ F2 ∨ (w.heap.size ≤ b ∧ b < w'.heap.size)
theorem OwnT.parts {Fz : FzT} {w : World} : ∀ {l : List (Bool × List PV)} {vs : List Value} {F : List Nat}, OwnT l Fz w vs F → ∃ ps : List (List Nat), ps.length = l.length ∧ F = ps.flatten ∧ ∀ (j : Nat) (q : Bool × List PV), l[j]? = some q → ∃ v, vs[j]? = some v ∧ SvOwn q.1 q.2 Fz w v (ps.getD j [])
  | [], vs, F, h => ⟨[], rfl, h.2, fun j q hq => by simp at hq⟩
  | p :: l, vs, F, h => by
    obtain ⟨v, vs', F1, F2, rfl, rfl, h1, h2⟩ := h
    obtain ⟨ps, e1, e2, e3⟩ := OwnT.parts h2
    refine ⟨F1 :: ps, by simp [e1], by rw [e2]; rfl, fun j q hq => ?_⟩
    cases j with
    | zero => simp at hq; subst hq; exact ⟨v, rfl, h1⟩
    | succ j => simpa using e3 j q (by simpa using hq)
/-- The own blocks of the arguments, from slot k on. -/
def argF (k : Nat) (ps : List (List Nat)) (x : Nat) : List Nat := if x % 2 = 1 ∧ k ≤ (x - 1) / 2 then ps.getD ((x - 1) / 2 - k) [] else []
/-- Where variable D lies. -/
def RV.phi (D g : Nat) : RV where
  holds φ _ _ _ F := φ D = g ∧ F = []
  men x := Nat.beq x D
  mono h _ _ hφ := ⟨by rw [hφ D (by simp)]; exact h.1, h.2⟩
  lt h := by rw [h.2]; simp
theorem RV.lcl_phi {L : Nat → Prop} {D g : Nat} : (RV.phi D g).Lcl L := fun h _ => h
/-- The end of a function that turns variable 0. -/
def EndX (P : Program) (rs : List ResultVar) (g t : Nat) (cs' : List PV) (qs : List (Bool × List PV)) (τ : St) : Prop := τ.b 0 = some (t, cs') ∧ τ.s 5000 = some (RV.phi 0 g) ∧ RetOk P rs qs (τ.setB 0 none)
def endX (P : Program) (rs : List ResultVar) (g t : Nat) (cs' : List PV) (qs : List (Bool × List PV)) : Exit → St → Prop
  | .normal, τ => EndX P rs g t cs' qs τ
  | .ret, τ => EndX P rs g t cs' qs τ
  | _, _ => False
end
end Go.Proofs.YteflgldonmgejaaGreat.M

/- The rules for calls that take what their arguments own, and for calls that turn a variable of the caller. No condition. -/
set_option linter.unusedVariables false
namespace Go.Proofs.YteflgldonmgejaaGreat.M
open Go Go.RowKit
section
variable {P : Program} {n : Nat} {h0 : Nat → Prop} {w0 : World} {Fz0 : FzT} {ops : Array Oper} {Q : Exit → St → Prop}
def PV.OTo (p q : PV) : Prop := ∀ {Fz : FzT} {w : World} {v : Value} {F : List Nat}, p.own Fz w v F → q.own Fz w v F
theorem OTo.refl {p : PV} : p.OTo p := fun h => h
theorem OTo.lo {L : Nat → Prop} {es : List (List PV)} : (PV.sl (.lo L) es).OTo (PV.sl .v es) := fun h => ⟨h.1.1, h.2⟩
theorem OTo.nv {u : Value} {p : PV} : (PV.nv u p).OTo p := fun h => h.2
theorem OwnTo.cons {p q : PV} {ps qs : List PV} (h : p.OTo q) (k : OwnTo ps qs) : OwnTo (p :: ps) (q :: qs) := fun hh => by
  obtain ⟨v, vs', F1, F2, rfl, rfl, h1, h2⟩ := hh
  exact ⟨v, vs', F1, F2, rfl, rfl, h h1, k h2⟩
def OwnToT : List (Bool × List PV) → List (Bool × List PV) → Prop
  | [], [] => True
  | p :: ps, q :: qs => (p.1 = q.1 ∧ OwnTo p.2 q.2) ∧ OwnToT ps qs
  | _, _ => False
theorem OwnToT.own {Fz : FzT} {w : World} : ∀ {ps qs : List (Bool × List PV)} {vs : List Value} {F : List Nat}, OwnToT ps qs → OwnT ps Fz w vs F → OwnT qs Fz w vs F
  | [], [], _, _, _, h => h
  | p :: ps, q :: qs, _, _, k, h => by
    obtain ⟨v, vs', F1, F2, rfl, rfl, h1, h2⟩ := h
    exact ⟨v, vs', F1, F2, rfl, rfl, ⟨k.1.1 ▸ h1.1, k.1.2 h1.2⟩, OwnToT.own k.2 h2⟩
def LclX (L : Nat → Prop) (ts : List Nat) : List (Nat × RV) → Prop
  | [] => True
  | p :: l => (p.1 ∈ ts ∨ p.2.Lcl L) ∧ LclX L ts l
theorem LclX.mem {L : Nat → Prop} {ts : List Nat} : ∀ {l : List (Nat × RV)}, LclX L ts l → ∀ p, p ∈ l → p.1 ∈ ts ∨ p.2.Lcl L
  | [], _, p, hp => by simp at hp
  | q :: l, h, p, hp => by
    rcases List.mem_cons.1 hp with rfl | hp
    · exact h.1
    · exact LclX.mem h.2 p hp
end
end Go.Proofs.YteflgldonmgejaaGreat.M

/- Slices that are made own at once; arrays whose elements are read and written at places that are known only as numbers; calls that turn the array of a slice. No condition. -/
set_option linter.unusedVariables false
namespace Go.Proofs.YteflgldonmgejaaGreat.M
open Go Go.RowKit
section
variable {P : Program} {n : Nat} {h0 : Nat → Prop} {w0 : World} {Fz0 : FzT} {ops : Array Oper} {Q : Exit → St → Prop}
def arr {α : Type} (f : α → List PV) (xs : List α) (jk : List Value) : List PV := (xs.map f).flatten ++ jk.map PV.val
/-- The function turns the array of the slice that is its first argument: from cs to cs'. -/
def ACall (P : Program) (f : FuncId) (t m cp : Nat) (cs cs' : List PV) (args : List (Bool × List PV)) (r : RV) : Prop :=
  ∀ (w : World) (g : Nat) (cur : Array Value) (vs : List Value) (Fz : FzT) (F1 F2 : List Nat), m ≤ cp → cp ≤ maxLen → (∀ b o, Fz b o → b < w.heap.size) → w.heap[g]? = some (.cells cur t (0, 0)) → (∀ o, ¬ Fz g o) → OwnL cs Fz w cur.toList F1 → OwnT args Fz w vs F2 → (g :: (F1 ++ F2)).Nodup →
    Calls P f (.slice (some ⟨g, 0, none⟩) m cp :: vs).toArray w fun e w' => ∃ (v : Value) (Fz' : FzT) (cur' : Array Value) (F1' G : List Nat), e = .returned v ∧ Turned (F1 ++ F2) (some g) Fz w Fz' w' ∧ w'.heap[g]? = some (.cells cur' t (0, 0)) ∧ (∀ o, ¬ Fz' g o) ∧ OwnL cs' Fz' w' cur'.toList F1' ∧
      (∀ φ, r.holds φ Fz' w' v G) ∧ (g :: (F1' ++ G)).Nodup ∧ ∀ b, b ∈ F1' ++ G → b ∈ F1 ++ F2 ∨ (w.heap.size ≤ b ∧ b < w'.heap.size)
end
end Go.Proofs.YteflgldonmgejaaGreat.M

/- Short forms of the rules. No condition. -/
set_option linter.unusedVariables false
namespace Go.Proofs.YteflgldonmgejaaGreat.M
open Go Go.RowKit
section
variable {P : Program} {n : Nat} {h0 : Nat → Prop} {w0 : World} {Fz0 : FzT} {ops : Array Oper} {σ σ0 : St} {QS : St → Prop} {Q : Exit → St → Prop} {o : Oper} {l : List Oper} {acc : List (Nat × Step)} {c : Code}
theorem rA {L : Step} (y : RunS P n ops QS l (σ.app L)) (h1 : RdL L.rs σ.s := by repeat (first | exact True.intro | refine And.intro rfl ?_)) (h2 : RdL L.rb σ.b := by repeat (first | exact True.intro | refine And.intro rfl ?_)) (x : Loc P n o L) (hg : o.guard = none := by exact rfl) (ha : L.al = none := by exact rfl) : RunS P n ops QS (o :: l) σ :=
  RunS.step h1 h2 (LocG.of hg x) (fun d hd => by rw [ha] at hd; cases hd) y
theorem rB {L : Step} {g s : Nat} {b c : Bool} (hb : c = b) (y : RunS P n ops QS l (σ.app ⟨(s, RV.bool c) :: L.rs, L.rb, L.ws, L.wb, L.al⟩)) (hg : o.guard = some (g, b) := by exact rfl) (hs : (ops[g]?).bind (·.dst) = some s := by exact rfl) (h1 : RdL ((s, RV.bool c) :: L.rs) σ.s := by repeat (first | exact True.intro | refine And.intro rfl ?_)) (h2 : RdL L.rb σ.b := by repeat (first | exact True.intro | refine And.intro rfl ?_)) (x : Loc P n o L) (hlt : s < n := by decide) (ha : L.al = none := by exact rfl) : RunS P n ops QS (o :: l) σ :=
  RunS.step (L := ⟨(s, RV.bool c) :: L.rs, L.rb, L.ws, L.wb, L.al⟩) h1 h2 (LocG.yes hg hs hlt hb x) (fun d hd => by have hd : L.al = some d := hd; rw [ha] at hd; cases hd) y
theorem dA {L : Step} (m : Nat) (y : Run P n ops σ0 (fun _ _ => True) QS l (acc ++ [(m, L)]) (σ.app L)) (h1 : RdL L.rs σ.s := by repeat (first | exact True.intro | refine And.intro rfl ?_)) (h2 : RdL L.rb σ.b := by repeat (first | exact True.intro | refine And.intro rfl ?_)) (x : Loc P n o L) (hg : o.guard = none := by exact rfl) (ha : L.al = none := by exact rfl) (h4 : chkE m o L acc = true := by kernel_rfl) : Run P n ops σ0 (fun _ _ => True) QS (o :: l) acc σ :=
  Run.step m h1 h2 (LocG.of hg x) (fun d hd => by rw [ha] at hd; cases hd) h4 y
theorem dB {L : Step} {g s : Nat} {b c : Bool} (m : Nat) (hb : c = b) (y : Run P n ops σ0 (fun _ _ => True) QS l (acc ++ [(m, ⟨(s, RV.bool c) :: L.rs, L.rb, L.ws, L.wb, L.al⟩)]) (σ.app ⟨(s, RV.bool c) :: L.rs, L.rb, L.ws, L.wb, L.al⟩)) (hg : o.guard = some (g, b) := by exact rfl) (hs : (ops[g]?).bind (·.dst) = some s := by exact rfl) (h1 : RdL ((s, RV.bool c) :: L.rs) σ.s := by repeat (first | exact True.intro | refine And.intro rfl ?_)) (h2 : RdL L.rb σ.b := by repeat (first | exact True.intro | refine And.intro rfl ?_)) (x : Loc P n o L) (hlt : s < n := by decide) (ha : L.al = none := by exact rfl)
    (h4 : chkE m o ⟨(s, RV.bool c) :: L.rs, L.rb, L.ws, L.wb, L.al⟩ acc = true := by kernel_rfl) : Run P n ops σ0 (fun _ _ => True) QS (o :: l) acc σ :=
  Run.step (L := ⟨(s, RV.bool c) :: L.rs, L.rb, L.ws, L.wb, L.al⟩) m h1 h2 (LocG.yes hg hs hlt hb x) (fun d hd => by have hd : L.al = some d := hd; rw [ha] at hd; cases hd) h4 y
theorem dF {g s d : Nat} {c : Bool} (m : Nat) (hb : c = false) (y : Run P n ops σ0 (fun _ _ => True) QS l (acc ++ [(m, ⟨[(s, RV.bool c)], [], [(d, some RV.und)], [], none⟩)]) (σ.app ⟨[(s, RV.bool c)], [], [(d, some RV.und)], [], none⟩)) (hg : o.guard = some (g, true) := by exact rfl) (hs : (ops[g]?).bind (·.dst) = some s := by exact rfl) (hlt : s < n := by decide) (hd : o.dst = some d := by exact rfl)
    (h1 : σ.s s = some (RV.bool c) := by exact rfl) (h4 : chkE m o ⟨[(s, RV.bool c)], [], [(d, some RV.und)], [], none⟩ acc = true := by kernel_rfl) : Run P n ops σ0 (fun _ _ => True) QS (o :: l) acc σ :=
  Run.step (L := ⟨[(s, RV.bool c)], [], [(d, some RV.und)], [], none⟩) m ⟨h1, True.intro⟩ True.intro (LocG.no hg hs hlt hb hd) nofree h4 y
theorem dT {g s d : Nat} {c : Bool} (m : Nat) (hb : c = true) (y : Run P n ops σ0 (fun _ _ => True) QS l (acc ++ [(m, ⟨[(s, RV.bool c)], [], [(d, some RV.und)], [], none⟩)]) (σ.app ⟨[(s, RV.bool c)], [], [(d, some RV.und)], [], none⟩)) (hg : o.guard = some (g, false) := by exact rfl) (hs : (ops[g]?).bind (·.dst) = some s := by exact rfl) (hlt : s < n := by decide) (hd : o.dst = some d := by exact rfl)
    (h1 : σ.s s = some (RV.bool c) := by exact rfl) (h4 : chkE m o ⟨[(s, RV.bool c)], [], [(d, some RV.und)], [], none⟩ acc = true := by kernel_rfl) : Run P n ops σ0 (fun _ _ => True) QS (o :: l) acc σ :=
  Run.step (L := ⟨[(s, RV.bool c)], [], [(d, some RV.und)], [], none⟩) m ⟨h1, True.intro⟩ True.intro (LocG.no hg hs hlt hb hd) nofree h4 y
theorem dU {g s d : Nat} {b : Bool} (m : Nat) (y : Run P n ops σ0 (fun _ _ => True) QS l (acc ++ [(m, ⟨[(s, RV.und)], [], [(d, some RV.und)], [], none⟩)]) (σ.app ⟨[(s, RV.und)], [], [(d, some RV.und)], [], none⟩)) (hg : o.guard = some (g, b) := by exact rfl) (hs : (ops[g]?).bind (·.dst) = some s := by exact rfl) (hd : o.dst = some d := by exact rfl)
    (h1 : σ.s s = some RV.und := by exact rfl) (h4 : chkE m o ⟨[(s, RV.und)], [], [(d, some RV.und)], [], none⟩ acc = true := by kernel_rfl) : Run P n ops σ0 (fun _ _ => True) QS (o :: l) acc σ :=
  Run.step (L := ⟨[(s, RV.und)], [], [(d, some RV.und)], [], none⟩) m ⟨h1, True.intro⟩ True.intro (LocG.noU hg hs hd) nofree h4 y
theorem sO (l : List (Nat × RV)) (b : List (Nat × (Nat × List PV))) (h : SW P n h0 w0 Fz0 c (St.of l b) Q) (hl : RdL l σ.s := by repeat (first | exact True.intro | refine And.intro rfl ?_)) (hb : RdL b σ.b := by repeat (first | exact True.intro | refine And.intro rfl ?_)) : SW P n h0 w0 Fz0 c σ Q := sw_of hl hb h
end
section
variable {P : Program} {n : Nat} {d x : Nat} {ty : TypeId} {pos : String} {af : Array Edge} {g : Option (Nat × Bool)}
theorem cM {r r' : RV} (hc : Cp r r') (hd : d < n := by decide) : Loc P n ⟨some d, .move (.tmp x), ty, pos, af, g⟩ ⟨[(x, r)], [], [(d, some r')], [], none⟩ := loc_copy (.inl rfl) hd hc
theorem cA {r r' : RV} (hc : Cp r r') (hd : d < n := by decide) : Loc P n ⟨some d, .assign (.tmp x), ty, pos, af, g⟩ ⟨[(x, r)], [], [(d, some r')], [], none⟩ := loc_copy (.inr rfl) hd hc
theorem sM {v : Value} (hd : d < n := by decide) : Loc P n ⟨some d, .move (.tmp x), ty, pos, af, g⟩ ⟨[(x, RV.sc v)], [], [(d, some (RV.sc v))], [], none⟩ := cM Cp.sc hd
theorem sA {v : Value} (hd : d < n := by decide) : Loc P n ⟨some d, .assign (.tmp x), ty, pos, af, g⟩ ⟨[(x, RV.sc v)], [], [(d, some (RV.sc v))], [], none⟩ := cA Cp.sc hd
theorem vM {cs : List PV} (ag : Bool) (qs : List PV) (ht : ToL cs qs := by repeat' (first | exact True.intro | exact PV.To.refl _ | exact PV.to_none | apply And.intro)) (hb : BorL qs := by repeat (first | exact BorL.nil | refine BorL.cons (PV.bor_val _) ?_ | refine BorL.cons (PV.bor_sl _) ?_ | refine BorL.cons (PV.bor_lo _ _) ?_)) (hd : d < n := by decide) :
    Loc P n ⟨some d, .move (.tmp x), ty, pos, af, g⟩ ⟨[(x, RV.sv ag cs)], [], [(d, some (RV.sv ag qs))], [], none⟩ := cM (Cp.sv ht hb) hd
theorem vA {cs : List PV} (ag : Bool) (qs : List PV) (ht : ToL cs qs := by repeat' (first | exact True.intro | exact PV.To.refl _ | exact PV.to_none | apply And.intro)) (hb : BorL qs := by repeat (first | exact BorL.nil | refine BorL.cons (PV.bor_val _) ?_ | refine BorL.cons (PV.bor_sl _) ?_ | refine BorL.cons (PV.bor_lo _ _) ?_)) (hd : d < n := by decide) :
    Loc P n ⟨some d, .assign (.tmp x), ty, pos, af, g⟩ ⟨[(x, RV.sv ag cs)], [], [(d, some (RV.sv ag qs))], [], none⟩ := cA (Cp.sv ht hb) hd
theorem tM {r : RV} (hd : d < n := by decide) : Loc P n ⟨some d, .move (.tmp x), ty, pos, af, g⟩ ⟨[(x, r)], [], [(x, none), (d, some r)], [], none⟩ := loc_take (.inl rfl) hd
theorem tA {r : RV} (hd : d < n := by decide) : Loc P n ⟨some d, .assign (.tmp x), ty, pos, af, g⟩ ⟨[(x, r)], [], [(x, none), (d, some r)], [], none⟩ := loc_take (.inr rfl) hd
theorem kM {v : Value} (h : v.oneCell' = true := by exact rfl) (hd : d < n := by decide) : Loc P n ⟨some d, .move (.const v), ty, pos, af, g⟩ ⟨[], [], [(d, some (RV.sc v))], [], none⟩ := loc_const (.inl rfl) hd (ok_sc h)
theorem kA {v : Value} (h : v.oneCell' = true := by exact rfl) (hd : d < n := by decide) : Loc P n ⟨some d, .assign (.const v), ty, pos, af, g⟩ ⟨[], [], [(d, some (RV.sc v))], [], none⟩ := loc_const (.inr rfl) hd (ok_sc h)
theorem lD {T p b off t : Nat} {ag : Bool} {k : Nat} {cs : List PV} (qs : List PV) (hT : tyI P T = some (ag, k)) (h1 : ag = false → k = 1 := by first | exact fun _ => rfl | exact fun h => nomatch h) (hk : off + k ≤ cs.length := by exact Nat.le_of_ble_eq_true rfl) (ht : ToL ((cs.drop off).take k) qs := by repeat' (first | exact True.intro | exact PV.To.refl _ | exact PV.to_none | apply And.intro))
    (hb : BorL qs := by repeat (first | exact BorL.nil | refine BorL.cons (PV.bor_val _) ?_ | refine BorL.cons (PV.bor_sl _) ?_ | refine BorL.cons (PV.bor_lo _ _) ?_)) (hd : d < n := by decide) :
    Loc P n ⟨some d, .load T (.tmp p), ty, pos, af, g⟩ ⟨[(p, RV.ptr b off)], [(b, (t, cs))], [(d, some (RV.sv ag qs))], [], none⟩ := loc_load hd hT h1 hk ht hb
theorem lE {T p : Nat} {ag : Bool} {k : Nat} {cs : List PV} (qs : List PV) (hT : tyI P T = some (ag, k)) (h1 : ag = false → k = 1 := by first | exact fun _ => rfl | exact fun h => nomatch h) (hk : k ≤ cs.length := by exact Nat.le_of_ble_eq_true rfl) (ht : ToL (cs.take k) qs := by repeat' (first | exact True.intro | exact PV.To.refl _ | exact PV.to_none | apply And.intro))
    (hb : BorL qs := by repeat (first | exact BorL.nil | refine BorL.cons (PV.bor_val _) ?_ | refine BorL.cons (PV.bor_sl _) ?_ | refine BorL.cons (PV.bor_lo _ _) ?_)) (hd : d < n := by decide) :
    Loc P n ⟨some d, .load T (.tmp p), ty, pos, af, g⟩ ⟨[(p, RV.eptr cs)], [], [(d, some (RV.sv ag qs))], [], none⟩ := loc_eload hd hT h1 hk ht hb
theorem lF {T p b off f fo : Nat} (hT : fieldI P T f = some fo) (hd : d < n := by decide) : Loc P n ⟨some d, .fieldAddr T (.tmp p) f, ty, pos, af, g⟩ ⟨[(p, RV.ptr b off)], [], [(d, some (RV.ptr b (off + fo)))], [], none⟩ := loc_field hd hT
theorem lN {T E e bs s m : Nat} {o : Fl} {es : List (List PV)} (hT : sliceI P T = some (E, e, bs)) (hm : es.length = m := by first | exact List.length_map _ | exact rfl) (hd : d < n := by decide) :
    Loc P n ⟨some d, .call { callee := .builtin .len, args := #[.tmp s], argTypes := #[T] }, ty, pos, af, g⟩ ⟨[(s, RV.slc o es)], [], [(d, some (RV.int (m : Int)))], [], none⟩ := loc_len hd hT hm
theorem nT {T : TypeId} {b : Bool} (hd : d < n := by decide) : Loc P n ⟨some d, .unOp .not T (.tmp x), ty, pos, af, g⟩ ⟨[(x, RV.bool b)], [], [(d, some (RV.bool !b))], [], none⟩ := loc_not hd
theorem pkT {c x y : Operand} {b : Bool} {r : RV} (hg : b = true) (hc : OpOk c (RV.bool b) := by exact True.intro) (hz : OpOk x r := by first | exact True.intro | exact ok_sc rfl) (hcp : Cp r r := by exact Cp.sc) (hd : d < n := by decide) : Loc P n ⟨some d, .pick c x y, ty, pos, af, g⟩ ⟨opR c (RV.bool b) ++ opR x r, [], [(d, some r)], [], none⟩ := loc_pick (z := x) hd (by rw [hg]; rfl) hc hz hcp
theorem pkF {c x y : Operand} {b : Bool} {r : RV} (hg : b = false) (hc : OpOk c (RV.bool b) := by exact True.intro) (hz : OpOk y r := by first | exact True.intro | exact ok_sc rfl) (hcp : Cp r r := by exact Cp.sc) (hd : d < n := by decide) : Loc P n ⟨some d, .pick c x y, ty, pos, af, g⟩ ⟨opR c (RV.bool b) ++ opR y r, [], [(d, some r)], [], none⟩ := loc_pick (z := y) hd (by rw [hg]; rfl) hc hz hcp
theorem cL {f : Nat} {args : Array Operand} {tys : Array TypeId} {r : RV} (qs as_ : List (Bool × List PV)) (hf : callI P f = true) (hok : OpsOk args.toList qs := by repeat' (first | exact True.intro | exact ok_sc rfl | exact ok_nilr | apply And.intro))
    (hto : ToT qs as_ := by repeat' (first | exact True.intro | exact rfl | exact PV.To.refl _ | exact PV.to_none | apply And.intro)) (hs : SCall P f as_ r) (hd : d < n := by decide) : Loc P n ⟨some d, .call { callee := .value (.func f), args := args, argTypes := tys }, ty, pos, af, g⟩ ⟨opsR args.toList qs, [], [(d, some r)], [], none⟩ := loc_call hd hf hok hto hs
section
variable {T T2 : TypeId} {x y : Operand} {i j : Int}
theorem B_lss (hx : OpOk x (RV.int i) := by first | exact True.intro | exact ok_sc rfl) (hy : OpOk y (RV.int j) := by first | exact True.intro | exact ok_sc rfl) (hd : d < n := by decide) : Loc P n ⟨some d, .binOp .lss T x y T2, ty, pos, af, g⟩ ⟨opR x (RV.int i) ++ opR y (RV.int j), [], [(d, some (RV.bool (decide (i < j))))], [], none⟩ := loc_lss hd hx hy
theorem B_leq (hx : OpOk x (RV.int i) := by first | exact True.intro | exact ok_sc rfl) (hy : OpOk y (RV.int j) := by first | exact True.intro | exact ok_sc rfl) (hd : d < n := by decide) : Loc P n ⟨some d, .binOp .leq T x y T2, ty, pos, af, g⟩ ⟨opR x (RV.int i) ++ opR y (RV.int j), [], [(d, some (RV.bool (decide (i ≤ j))))], [], none⟩ := loc_leq hd hx hy
theorem B_gtr (hx : OpOk x (RV.int i) := by first | exact True.intro | exact ok_sc rfl) (hy : OpOk y (RV.int j) := by first | exact True.intro | exact ok_sc rfl) (hd : d < n := by decide) : Loc P n ⟨some d, .binOp .gtr T x y T2, ty, pos, af, g⟩ ⟨opR x (RV.int i) ++ opR y (RV.int j), [], [(d, some (RV.bool (decide (i > j))))], [], none⟩ := loc_gtr hd hx hy
theorem B_geq (hx : OpOk x (RV.int i) := by first | exact True.intro | exact ok_sc rfl) (hy : OpOk y (RV.int j) := by first | exact True.intro | exact ok_sc rfl) (hd : d < n := by decide) : Loc P n ⟨some d, .binOp .geq T x y T2, ty, pos, af, g⟩ ⟨opR x (RV.int i) ++ opR y (RV.int j), [], [(d, some (RV.bool (decide (i ≥ j))))], [], none⟩ := loc_geq hd hx hy
theorem B_eql (hx : OpOk x (RV.int i) := by first | exact True.intro | exact ok_sc rfl) (hy : OpOk y (RV.int j) := by first | exact True.intro | exact ok_sc rfl) (hd : d < n := by decide) : Loc P n ⟨some d, .binOp .eql T x y T2, ty, pos, af, g⟩ ⟨opR x (RV.int i) ++ opR y (RV.int j), [], [(d, some (RV.bool (i == j)))], [], none⟩ := loc_eql hd hx hy
theorem B_neq (hx : OpOk x (RV.int i) := by first | exact True.intro | exact ok_sc rfl) (hy : OpOk y (RV.int j) := by first | exact True.intro | exact ok_sc rfl) (hd : d < n := by decide) : Loc P n ⟨some d, .binOp .neq T x y T2, ty, pos, af, g⟩ ⟨opR x (RV.int i) ++ opR y (RV.int j), [], [(d, some (RV.bool (i != j)))], [], none⟩ := loc_neq hd hx hy
theorem B_add (hx : OpOk x (RV.int i) := by first | exact True.intro | exact ok_sc rfl) (hy : OpOk y (RV.int j) := by first | exact True.intro | exact ok_sc rfl) (h : I64 (i + j) := by unfold I64; omega) (hd : d < n := by decide) : Loc P n ⟨some d, .binOp .add T x y T2, ty, pos, af, g⟩ ⟨opR x (RV.int i) ++ opR y (RV.int j), [], [(d, some (RV.int (i + j)))], [], none⟩ := loc_add hd hx hy h
theorem B_sub (hx : OpOk x (RV.int i) := by first | exact True.intro | exact ok_sc rfl) (hy : OpOk y (RV.int j) := by first | exact True.intro | exact ok_sc rfl) (h : I64 (i - j) := by unfold I64; omega) (hd : d < n := by decide) : Loc P n ⟨some d, .binOp .sub T x y T2, ty, pos, af, g⟩ ⟨opR x (RV.int i) ++ opR y (RV.int j), [], [(d, some (RV.int (i - j)))], [], none⟩ := loc_sub hd hx hy h
end
end
end Go.Proofs.YteflgldonmgejaaGreat.M

/- Rules for whole numbers of other kinds, for bytes of texts, and for conditions that are constants. No condition. -/
set_option linter.unusedVariables false
namespace Go.Proofs.YteflgldonmgejaaGreat.M
open Go Go.RowKit
section
variable {P : Program} {n : Nat}
section
variable {T : TypeId} {x y : Operand} {i j : Int} {k : IntKind} {w : World}
end
section
variable {T T2 : TypeId} {x y : Operand} {d : Nat} {ty : TypeId} {pos : String} {af : Array Edge} {g : Option (Nat × Bool)} {i j : Int} {k : IntKind}
end
section
variable {h0 : Nat → Prop} {w0 : World} {Fz0 : FzT} {σ : St} {Q : Exit → St → Prop} {c1 c2 : Code}
end
end
end Go.Proofs.YteflgldonmgejaaGreat.M

/- Arrays whose elements are lent by name; calls that turn them. No condition. -/
set_option linter.unusedVariables false
namespace Go.Proofs.YteflgldonmgejaaGreat.M
open Go Go.RowKit
def nvL : List Value → List PV → List PV
  | u :: us, p :: ps => PV.nv u p :: nvL us ps
  | _, _ => []
def nvI (h : Nat → Value) : Nat → List PV → List PV
  | _, [] => []
  | i, p :: ps => PV.nv (h i) p :: nvI h (i + 1) ps
def valsE {α : Type} (e : Nat) (zs : List (α × (Nat → Value))) : List Value := (zs.map fun z => (List.range e).map z.2).flatten
def flatM {α : Type} (f : α → List PV) (zs : List (α × (Nat → Value))) : List PV := (zs.map fun z => f z.1).flatten
def rsI {γ : Type} (q : γ → Int) (x : γ) : RV := RV.sv false [PV.val (vI (q x))]
section
variable {P : Program} {n : Nat} {h0 : Nat → Prop} {w0 : World} {Fz0 : FzT} {σ : St} {Q : Exit → St → Prop} {c : Code} {ops : Array Oper}
end
end Go.Proofs.YteflgldonmgejaaGreat.M

/- What a call returns, read only. No condition. -/
set_option linter.unusedVariables false
namespace Go.Proofs.YteflgldonmgejaaGreat.M
open Go Go.RowKit
end Go.Proofs.YteflgldonmgejaaGreat.M

/- From here on what is known lies low: what was made before is only read. No condition. -/
set_option linter.unusedVariables false
namespace Go.Proofs.YteflgldonmgejaaGreat.M
open Go Go.RowKit
def LowR (L : Nat → Prop) (r r' : RV) : Prop := ∀ {φ : Nat → Nat} {Fz : FzT} {w : World} {v : Value} {F : List Nat}, (∀ b o, Fz b o → L b) → r.holds φ Fz w v F → r'.holds φ Fz w v []
theorem LowR.sv {L : Nat → Prop} {ag : Bool} {cs qs : List PV} (ht : ToBL L cs qs) (hb : BorL qs) : LowR L (RV.sv ag cs) (RV.sv ag qs) := fun hz h => ⟨h.1, hb.own (ht.rel hz h.2.rel)⟩
theorem LowR.ptr {L : Nat → Prop} {d off : Nat} : LowR L (RV.ptr d off) (RV.ptr d off) := fun _ h => ⟨h.1, rfl⟩
def LowS (L : Nat → Prop) : List (Nat × RV) → List (Nat × RV) → Prop
  | [], [] => True
  | p :: l, q :: l' => (p.1 = q.1 ∧ LowR L p.2 q.2) ∧ LowS L l l'
  | _, _ => False
theorem LowS.cons {L : Nat → Prop} {i : Nat} {r r' : RV} {l l' : List (Nat × RV)} (h : LowR L r r') (k : LowS L l l') : LowS L ((i, r) :: l) ((i, r') :: l') := ⟨⟨rfl, h⟩, k⟩
theorem LowS.at_ {L : Nat → Prop} {i : Nat} {r' : RV} : ∀ {l l' : List (Nat × RV)}, LowS L l l' → lk l' i = some r' → ∃ r, lk l i = some r ∧ LowR L r r'
  | [], [], _, h => by cases h
  | (j, r) :: l, (j', q) :: l', k, h => by
    obtain ⟨⟨e, k1⟩, k2⟩ := k
    dsimp only at e
    subst e
    rw [lk, beq_eq] at h ⊢
    by_cases hx : i = j
    · rw [decide_eq_true hx] at h ⊢
      simp only [cond_true, Option.some.injEq] at h ⊢
      subst h
      exact ⟨r, rfl, k1⟩
    · rw [decide_eq_false hx] at h ⊢
      simp only [cond_false] at h ⊢
      exact LowS.at_ k2 h
section
variable {P : Program} {n : Nat} {h0 : Nat → Prop} {w0 : World} {Fz0 : FzT} {Q : Exit → St → Prop} {c : Code}
end
end Go.Proofs.YteflgldonmgejaaGreat.M

/- What a call returns is fixed for good: nothing of it turns any more, so that it lies low. No condition. -/
set_option linter.unusedVariables false
namespace Go.Proofs.YteflgldonmgejaaGreat.M
open Go Go.RowKit
/-- The blocks that are B's and not h0's. -/
def RV.lump (h0 B : Nat → Prop) : RV where
  holds _ _ w _ F := (∀ b, B b ↔ (h0 b ∨ b ∈ F)) ∧ ∀ b, b ∈ F → b < w.heap.size
  men _ := false
  mono h k hh _ := ⟨h.1, fun b hb => (Array.getElem?_eq_some_iff.1 ((hh b hb).1.trans (Array.getElem?_eq_getElem (h.2 b hb)))).1⟩
  lt h := h.2
def LclRT (L : Nat → Prop) : List (Bool × List PV) → Prop
  | [] => True
  | q :: qs => LclRC L q.2 ∧ LclRT L qs
section
variable {P : Program} {n : Nat} {h0 : Nat → Prop} {w0 : World} {Fz0 : FzT}
section
variable {σ : St} {a : Act} {w : World} {φ : Nat → Nat} {Fz : FzT} {Fp : Nat → List Nat}
/-- A ghost gets a part of what floats. -/
theorem ConcW.ghost (h : ConcW h0 w0 Fz0 n σ a w φ Fz Fp) {i : Nat} {rv : RV} {F X : List Nat} (hv : rv.holds φ Fz w (a.tmps.getD i undef) F) (hX : ∀ b, b ∈ F ++ X → b ∈ Fp 0) (hn : (F ++ X).Nodup) :
    ConcW h0 w0 Fz0 n (σ.set i (some rv)) a w φ Fz (give Fp (2 * i + 1) F X) where
  bel := h.bel
  dfr := h.dfr
  siz := h.siz
  hlt := h.hlt
  fz0 := h.fz0
  fzl := h.fzl
  slot j rv' hj := by
    rw [St.set_s] at hj
    split at hj
    · rename_i hji
      subst hji
      injection hj with hj
      subst hj
      unfold give
      rw [if_pos rfl]; exact hv
    · rename_i hne
      unfold give
      rw [if_neg (by omega), if_neg (by omega)]
      exact h.slot j rv' hj
  box d cs hd := by
    obtain ⟨cur, h1, h2⟩ := h.box d cs hd
    refine ⟨cur, h1, ?_⟩
    unfold give
    rw [if_neg (by omega), if_neg (by omega)]; exact h2
  bxb d cs hd := by
    obtain ⟨h1, h2, h3⟩ := h.bxb d cs hd
    refine ⟨h1, h2, fun r hr => ?_⟩
    rcases give_mem hr with ⟨_, hr⟩ | ⟨_, _, hr⟩ | ⟨_, _, hr⟩
    · exact h3 0 (hX _ (by simp [hr]))
    · exact h3 0 (hX _ (by simp [hr]))
    · exact h3 _ hr
  inj d d' cs cs' := h.inj d d' cs cs'
  dis := give_dis (by omega) hX hn h.dis
  nod := give_nod hn h.nod
  low r b hb := by
    rcases give_mem hb with ⟨_, hr⟩ | ⟨_, _, hr⟩ | ⟨_, _, hr⟩
    · exact h.low 0 b (hX _ (by simp [hr]))
    · exact h.low 0 b (hX _ (by simp [hr]))
    · exact h.low _ b hr
end
section
variable {ops : Array Oper} {Q : Exit → St → Prop}
end
def FixR (r r' : RV) : Prop := ∀ {φ : Nat → Nat} {Fz : FzT} {w : World} {v : Value} {F : List Nat}, r.holds φ Fz w v F → r'.holds φ Fz w v F
theorem FixR.refl {r : RV} : FixR r r := fun h => h
theorem FixR.sv {ag : Bool} {cs qs : List PV} (h : OwnTo cs qs) : FixR (RV.sv ag cs) (RV.sv ag qs) := fun hh => ⟨hh.1, h hh.2⟩
def FixL (f : Nat → Option RV) (G : Nat) : List (Nat × RV) → Prop
  | [] => True
  | p :: l' => (Nat.beq p.1 G = false ∧ ∃ r, f p.1 = some r ∧ FixR r p.2) ∧ FixL f G l'
theorem FixL.cons {f : Nat → Option RV} {G i : Nat} {r r' : RV} {l' : List (Nat × RV)} (h1 : Nat.beq i G = false) (h2 : f i = some r) (h3 : FixR r r') (k : FixL f G l') : FixL f G ((i, r') :: l') := ⟨⟨h1, r, h2, h3⟩, k⟩
theorem FixL.at_ {f : Nat → Option RV} {G i : Nat} {r' : RV} : ∀ {l' : List (Nat × RV)}, FixL f G l' → (i, r') ∈ l' → i ≠ G ∧ ∃ r, f i = some r ∧ FixR r r'
  | [], _, h => by simp at h
  | p :: l', k, h => by
    rcases List.mem_cons.1 h with rfl | h
    · exact ⟨fun e => by have := k.1.1; dsimp only at this; rw [e] at this; simp at this, k.1.2⟩
    · exact FixL.at_ k.2 h
variable {Q : Exit → St → Prop} {c : Code}
/-- What a slot owns is only read from here on. -/
theorem sw_weak {σ : St} {s : Nat} {ag : Bool} {cs : List PV} (qs : List PV) (hs : σ.s s = some (RV.sv ag cs)) (ht : ToL cs qs) (hb : BorL qs) (h : SW P n h0 w0 Fz0 c (σ.set s (some (RV.sv ag qs))) Q) : SW P n h0 w0 Fz0 c σ Q := fun a w hc => by
  obtain ⟨φ, Fz, Fp, hc⟩ := hc
  have hv : SvOwn ag cs Fz w (a.tmps.getD s undef) (Fp (2 * s + 1)) := hc.slot s _ hs
  have c1 := (hc.pull s).reslot (s := s) (rv := RV.sv ag qs) (by
    have : mv Fp (2 * s + 1) (2 * s + 1) = [] := by simp [mv]
    rw [this]
    exact ⟨hv.1, hb.own (ht.rel hv.2.rel)⟩)
  exact h a w (Conc.eqv ⟨φ, Fz, _, c1⟩ (fun i => by
    simp only [St.set_s]
    split <;> rfl) (fun d => rfl))
def LowB1 (L : Nat → Prop) : List (Nat × (Nat × List PV)) → List (Nat × (Nat × List PV)) → Prop
  | [], [] => True
  | p :: b, q :: b' => (p.1 = q.1 ∧ p.2.1 = q.2.1 ∧ ToBL L p.2.2 q.2.2 ∧ BorL q.2.2) ∧ LowB1 L b b'
  | _, _ => False
theorem LowB1.cons {L : Nat → Prop} {d t : Nat} {cs qs : List PV} {b b' : List (Nat × (Nat × List PV))} (h1 : ToBL L cs qs) (h2 : BorL qs) (k : LowB1 L b b') : LowB1 L ((d, (t, cs)) :: b) ((d, (t, qs)) :: b') := ⟨⟨rfl, rfl, h1, h2⟩, k⟩
theorem LowB1.at_ {L : Nat → Prop} {d t : Nat} {qs : List PV} : ∀ {b b' : List (Nat × (Nat × List PV))}, LowB1 L b b' → lk b' d = some (t, qs) → ∃ cs, lk b d = some (t, cs) ∧ ToBL L cs qs ∧ BorL qs
  | [], [], _, h => by cases h
  | (j, (s, r)) :: l, (j', (s', q)) :: l', k, h => by
    obtain ⟨⟨e, e2, k1⟩, k2⟩ := k
    dsimp only at e e2 k1
    subst e e2
    rw [lk, beq_eq] at h ⊢
    by_cases hx : d = j
    · rw [decide_eq_true hx] at h ⊢
      simp only [cond_true, Option.some.injEq, Prod.mk.injEq] at h ⊢
      obtain ⟨rfl, rfl⟩ := h
      exact ⟨r, ⟨rfl, rfl⟩, k1⟩
    · rw [decide_eq_false hx] at h ⊢
      simp only [cond_false] at h ⊢
      exact LowB1.at_ k2 h
end
end Go.Proofs.YteflgldonmgejaaGreat.M

/- Functions that return a new variable, and the integers' operations that wrap. No condition. -/
set_option linter.unusedVariables false
namespace Go.Proofs.YteflgldonmgejaaGreat.M
open Go Go.RowKit
/-- The function ends with a pointer to a new variable, which owns nothing. -/
def NCall (P : Program) (f : FuncId) (t : Nat) (args : List (Bool × List PV)) (cs : List PV) : Prop :=
  ∀ (w : World) (vs : List Value) (Fz : FzT), (∀ b o, Fz b o → b < w.heap.size) → RelT args Fz w vs → Calls P f vs.toArray w fun e w' => ∃ g Fz' cur, e = .returned (.pointer (some ⟨g, 0, none⟩)) ∧ Below w.heap.size w w' ∧
    (∀ b o, b < w.heap.size → (Fz' b o ↔ Fz b o)) ∧ (∀ b o, Fz' b o → b < w'.heap.size) ∧ w.heap.size ≤ g ∧ w'.heap[g]? = some (.cells cur t (0, 0)) ∧ (∀ o, ¬ Fz' g o) ∧ OwnL cs Fz' w' cur.toList []
def EndN (rs t : Nat) (cs : List PV) (τ : St) : Prop := ∃ D, τ.s rs = some (RV.ptr D 0) ∧ τ.b D = some (t, cs)
def endN (rs t : Nat) (cs : List PV) : Exit → St → Prop
  | .normal, τ => EndN rs t cs τ
  | .ret, τ => EndN rs t cs τ
  | _, _ => False
section
variable {P : Program} {n : Nat} {h0 : Nat → Prop} {w0 : World} {Fz0 : FzT}
end
theorem LowR.phi {L : Nat → Prop} {D g : Nat} : LowR L (RV.phi D g) (RV.phi D g) := fun _ h => ⟨h.1, rfl⟩
section
variable {P : Program} {n : Nat} {h0 : Nat → Prop} {w0 : World} {Fz0 : FzT} {σ : St} {Q : Exit → St → Prop} {c : Code}
end
/-! ### operations that wrap -/
def mulW (x y : Int) : Int := IntKind.i64.wrap (x * y)
def addW (x y : Int) : Int := IntKind.i64.wrap (x + y)
def andW (x y : Int) : Int := IntKind.i64.wrap (BitVec.ofInt 64 x &&& BitVec.ofInt 64 y).toNat
def xorW (x y : Int) : Int := IntKind.i64.wrap (BitVec.ofInt 64 x ^^^ BitVec.ofInt 64 y).toNat
section
variable {P : Program} {n : Nat} {T T2 : TypeId} {x y : Operand} {d : Nat} {ty : TypeId} {pos : String} {af : Array Edge} {g : Option (Nat × Bool)} {i j : Int}
end
end Go.Proofs.YteflgldonmgejaaGreat.M

/- Texts and their operations; functions that read tables of the library. No condition. -/
set_option linter.unusedVariables false
namespace Go.Proofs.YteflgldonmgejaaGreat.M
open Go Go.RowKit
abbrev Bytes := List UInt8
abbrev B (l : Bytes) : ByteArray := ⟨l.toArray⟩
abbrev RV.str (l : Bytes) : RV := RV.sc (.string (B l))
section
variable {P : Program} {n : Nat} {T T2 : TypeId} {x y : Operand} {d : Nat} {ty : TypeId} {pos : String} {af : Array Edge} {g : Option (Nat × Bool)} {s t : Bytes}
/-- The bytes that whole numbers stand for. -/
def bys (xs : List Int) : Bytes := xs.map fun n => UInt8.ofNat n.toNat
end
/-! ### what is known of the library's tables -/
/-- What is known of blocks that stay: of no slot. -/
structure Glob where
  rel : FzT → World → Prop
  mono : ∀ {Fz Fz' : FzT} {w w' : World}, rel Fz w → Keeps Fz w Fz' w' → rel Fz' w'
def RV.glob (G : Glob) : RV where
  holds _ Fz w _ F := G.rel Fz w ∧ F = []
  men _ := false
  mono h k _ _ := ⟨G.mono h.1 k, h.2⟩
  lt h := by rw [h.2]; simp
/-- As SCall, where G is known. -/
def GCall (P : Program) (G : Glob) (f : FuncId) (args : List (Bool × List PV)) (r : RV) : Prop :=
  ∀ (w : World) (vs : List Value) (Fz : FzT), (∀ b o, Fz b o → b < w.heap.size) → G.rel Fz w → RelT args Fz w vs → Calls P f vs.toArray w fun e w' => ∃ v Fz' F, e = .returned v ∧ Below w.heap.size w w' ∧
    (∀ b o, b < w.heap.size → (Fz' b o ↔ Fz b o)) ∧ (∀ b o, Fz' b o → b < w'.heap.size) ∧ (∀ φ, r.holds φ Fz' w' v F) ∧ F.Nodup ∧ ∀ b, b ∈ F → w.heap.size ≤ b ∧ b < w'.heap.size
theorem SCall.g {P : Program} {G : Glob} {f : FuncId} {args : List (Bool × List PV)} {r : RV} (h : SCall P f args r) : GCall P G f args r := fun w vs Fz hz _ hr => h w vs Fz hz hr
section
variable {P : Program} {n : Nat} {G : Glob}
end
/-! ### calls into the library -/
section
variable {P : Program} {G : Glob} {f : FuncId}
theorem SvRel.sc {v x : Value} {Fz : FzT} {w : World} (h : SvRel false [PV.val x] Fz w v) : v = x := (SvOwn.sc ⟨h.1, (BorL.cons (PV.bor_val _) BorL.nil).own h.2⟩).1
theorem SvRel.sl {v : Value} {es : List (List PV)} {Fz : FzT} {w : World} (h : SvRel false [PV.sl .v es] Fz w v) : SlRel es Fz w v :=
  (SvOwn.atom (p := PV.sl .v es) ⟨h.1, (BorL.cons (PV.bor_sl _) BorL.nil).own h.2⟩).1
/-- The text of texts, a text between each two. -/
def joinB (xs : List Bytes) (sep : Bytes) : Bytes := Lib.join xs sep
/-- A table that stays. -/
theorem tab_keep {Fz Fz' : FzT} {w w' : World} {g : Nat} {nm : String} {k : IntKind} {zs : List Int} (hg : P.globalNamed nm = some g) (hz : 0 < zs.length) (h : (∀ o, Fz g o) ∧ Lib.TabIs P w nm k zs) (hk : Keeps Fz w Fz' w') : (∀ o, Fz' g o) ∧ Lib.TabIs P w' nm k zs := by
  refine ⟨fun o => (hk g o (h.1 o)).1, ?_⟩
  have hc : ∀ o, w'.cell? ⟨g, o, none⟩ = w.cell? ⟨g, o, none⟩ := fun o => (hk g o (h.1 o)).2
  have h2 := h.2
  unfold Lib.TabIs World.var? at h2 ⊢
  rw [hg] at h2 ⊢
  simp only [Option.bind_some] at h2 ⊢
  cases hw : w.heap[g]? with
  | none => rw [hw] at h2; cases h2
  | some o =>
    cases o with
    | cells cs t fr =>
      rw [hw] at h2
      injection h2 with h2
      have hc1 : ∀ o, w.cell? ⟨g, o, none⟩ = cs[o]? := fun o => by simp [World.cell?, hw]
      have h0 : (w'.cell? ⟨g, 0, none⟩).isSome = true := by rw [hc, hc1, h2]; simp [hz]
      cases hw' : w'.heap[g]? with
      | none => simp [World.cell?, hw'] at h0
      | some o' =>
        cases o' with
        | cells cs' t' fr' =>
          have hc2 : ∀ o, w'.cell? ⟨g, o, none⟩ = cs'[o]? := fun o => by simp [World.cell?, hw']
          rw [← h2]
          show some cs' = some cs
          congr 1
          apply Array.ext_getElem?
          intro i
          rw [← hc2, hc, hc1]
        | _ => simp [World.cell?, hw'] at h0
    | _ => rw [hw] at h2; cases h2
/-- What is known where numbers are printed. -/
def glItoa (P : Program) (g : Nat) (hg : P.globalNamed "internal/strconv.uint64pow10" = some g) : Glob where
  rel Fz w := (∀ o, Fz g o) ∧ Lib.TabIs P w "internal/strconv.uint64pow10" .u64 Lib.pow10Tab
  mono h k := tab_keep hg (by decide) h k
end
end Go.Proofs.YteflgldonmgejaaGreat.M

/- What a law's arguments read as, and the frame of its statement. No condition. -/
namespace Go.Proofs.YteflgldonmgejaaGreat.M
open Go Go.RowKit Go.ChangeShapes Go.WideShapes

section
variable {H : Type} {enc : TypeId × Value → H} {P : Program} {W W' : World}

/-! ### a law's frame -/
theorem trodAll_stays {sp : Nat → Bool} (hl : laidOutB P = true) (hsame : ∀ p : MemPlace, p.block < W.heap.size → W.sameAt W' p) : ∀ {ts : List TypeId} {vs : List Value} {ds : List (DataW H)} {ps : List MemPlace}, (ts.all fun t => P.readableRec t && Nat.blt t P.types.size) = true →
    DataW.TrodAll enc P W 0 (fun _ => true) true ts vs ds ps → (∀ p ∈ ps, p.block < W.heap.size) → (∀ p ∈ ps, sp p.block = true) → DataW.TrodAll enc P W' 0 sp true ts vs ds ps
  | [], vs, ds, ps, _, h, _, _ => by
    obtain ⟨rfl, rfl, rfl⟩ := trodAll_nil h
    exact trodAll_mk0
  | t :: ts, vs, ds, ps, ht, h, hlt, hs => by
    obtain ⟨v, vs', d, ds', p, q, rfl, rfl, rfl, h1, h2⟩ := trodAll_cons h
    rw [List.all_cons, Bool.and_eq_true, Bool.and_eq_true, Nat.blt_eq] at ht
    exact trodAll_cons_mk (WideElems.Trod_stays hl ht.1.1 ht.1.2 h1 (fun x hx => hsame x (hlt x (by simp [hx]))) (fun x hx => hs x (by simp [hx])))
      (trodAll_stays hl hsame ht.2 h2 (fun x hx => hlt x (by simp [hx])) (fun x hx => hs x (by simp [hx])))
theorem law_post {f : Func} {s : ChangeSpec} {args : Array Value} {ds gs : List (DataW H)} {before : List MemPlace} {k : FuncId} {bt : TypeId} (hl : laidOutB P = true) (hr : (f.params.toList.all fun t => P.readableRec t && Nat.blt t P.types.size) = true)
    (hW : DataW.Whole enc P f.params.toList s.vars false W args.toList ds gs before) (hv : s.vars = []) (hrt : f.resultTypes = #[bt]) (hbt : P.underlying bt = some .bool) (hfn : s.fn H (ds ++ gs) = { results := [.lit (.bool true)], args := ds })
    (hcall : Calls P k args W fun e w' => e = .returned (.bool true) ∧ Below W.heap.size W w') :
    Calls P k args W fun e W' => ∃ v, e = .returned v ∧ s.post enc P f false true false false W args v W' := by
  refine hcall.mono fun e W' ⟨he, hb⟩ => ⟨_, he, ?_⟩
  have hlt : ∀ p ∈ before, p.block < W.heap.size := fun p hp => hW.lt p hp
  have hW' := hW
  obtain ⟨pa, q, hA, hV, rfl, hz, hn⟩ := hW
  rw [hv] at hV
  obtain ⟨rfl, rfl⟩ := trodVars_none hV
  have hres : ∀ (b : Nat) (sp : Nat → Bool) (hd : Bool), DataW.TrodAll enc P W' b sp hd f.resultTypes.toList ((Value.bool true).resultList f.resultTypes.size) (s.fn H (ds ++ [])).results [] := by
    intro b sp hd
    rw [hfn, hrt]
    exact trodAll_cons_mk (p' := []) (shut_bool hbt _) trodAll_mk0
  have hargs : ∀ sp : Nat → Bool, (∀ p ∈ pa ++ [], sp p.block = true) → DataW.TrodAll enc P W' 0 sp true f.params.toList args.toList (s.fn H (ds ++ [])).args pa := by
    intro sp hs
    rw [hfn]
    exact trodAll_stays hl (fun p hp => hb.same hp) hr hA (fun p hp => hlt p (by simp [hp])) (fun p hp => hs p (by simp [hp]))
  have hvars : ∀ sp : Nat → Bool, DataW.TrodVars enc P W' sp s.vars (s.fn H (ds ++ [])).vars [] := by
    intro sp
    rw [hfn, hv]
    exact rfl
  have hold : ∀ p ∈ pa ++ [], (fun b => decide (b < W.heap.size)) p.block = true := fun p hp => by simpa using hlt p hp
  have hok : ∀ (j : Nat) (t : TypeId) (r : Value), f.resultTypes[j]? = some t → ((Value.bool true).resultList f.resultTypes.size)[j]? = some r → Value.okWide P W' .any 0 t r := ok_one hrt rfl (okWide_bool_mk hbt _)
  refine ⟨ds, [], pa ++ [], [], pa, [], hW', hres _ _ _, hargs _ hold, hvars _, World.keptBut_mono (fun p hp => ⟨hp, ?_⟩) (hb.frame (· ∈ pa ++ [])), fun h => by cases h⟩
  simpa using hp
/-- All that lies there stays. -/
def FzA (w : World) : FzT := fun b _ => b < w.heap.size
theorem law_calls {f : FuncId} {vs : List Value} {qs : List (Bool × List PV)} (hs : SCall P f qs (resRV [(false, [PV.val (.bool true)])])) (hr : RelT qs (FzA W) W vs) : Calls P f vs.toArray W fun e w' => e = .returned (.bool true) ∧ Below W.heap.size W w' :=
  (hs W vs (FzA W) (fun _ _ h => h) hr).mono fun e w' ⟨v, Fz', F, he, hb, _, _, hv, _⟩ => ⟨by rw [he, (SvOwn.sc (hv fun _ => 0)).1], hb⟩

/-! ### what the arguments read as -/
def OpenT (P : Program) (T : TypeId) {α : Type} (f : α → List PV) (g : α → Prop) : Prop :=
  ∀ {H : Type} (enc : TypeId × Value → H) (w : World) (sp : Nat → Bool) (held : Bool) (n : Nat) (cs : List Value) (x : DataW H × List MemPlace), DataW.trod enc P w 0 sp held n T cs = some x → ∃ a, RelL (f a) (FzA w) w cs ∧ g a
theorem open_i {T : TypeId} (h : P.underlying T = some (.int .i64)) : OpenT P T (fun n : Int => [PV.val (vI n)]) I64 := by
  intro H enc w sp held n cs x hx
  obtain ⟨m, rfl, _, hw⟩ := DataW.trod_int h hx
  exact ⟨m, ⟨_, [], rfl, ⟨rfl, rfl⟩, rfl⟩, bounds_i64 hw⟩
theorem open_sl {T E e : TypeId} {α : Type} {f : α → List PV} (hu : P.underlying T = some (.slice E)) (hc : P.cellsOf E = e) (he : 0 < e) {g : α → Prop} (hf : OpenT P E f g) (hlen : ∀ a, (f a).length = e) : OpenT P T (fun xs : List α => [PV.sl .v (xs.map f)]) fun xs => ∀ x ∈ xs, g x := by
  intro H enc w sp held n cs x hx
  subst hc
  rcases Deep.open_slice hu hx with ⟨rfl, _⟩ | ⟨a, len, cap, m, n', D, Pl, rfl, _, hlc, hcm, hm, _, hel⟩
  · exact ⟨[], ⟨_, [], rfl, ⟨⟨none, 0, 0, fun _ _ => undef, rfl, Nat.le_refl _, Nat.zero_le _, by simp, .inl rfl, by simp⟩, True.intro⟩, rfl⟩, by simp⟩
  · have hlm : len ≤ m := by rw [hm]; split <;> omega
    have key : ∀ i, i < len → ∃ (y : α × List Value), w.cells? 0 (a.add (i * P.cellsOf E)) (P.cellsOf E) = some y.2 ∧ RelL (f y.1) (FzA w) w y.2 ∧ g y.1 := by
      intro i hi
      obtain ⟨cs', h1, h2⟩ := hel i (by omega)
      obtain ⟨y, hy⟩ := hf enc w sp held n' cs' _ h2
      exact ⟨(y, cs'), h1, hy⟩
    by_cases hl0 : len = 0
    · subst hl0
      exact ⟨[], ⟨_, [], rfl, ⟨⟨some a, cap, 0, fun _ _ => undef, rfl, Nat.zero_le _, hcm, by simp, .inl rfl, by simp⟩, True.intro⟩, rfl⟩, by simp⟩
    · obtain ⟨y0, _, _⟩ := key 0 (by omega)
      have : Inhabited (α × List Value) := ⟨y0⟩
      obtain ⟨F, hF⟩ := Deep.choose_lt key
      obtain ⟨b, off, spt⟩ := a
      have hspt : spt = none := by
        obtain ⟨_, h2, h3⟩ := World.cells?_some (hF 0 (by omega)).1
        have h4 := h3 0 he
        rw [List.getElem?_eq_getElem (by rw [h2]; exact he), Nat.zero_mul] at h4
        cases spt with
        | none => rfl
        | some s => simp [Addr.add, World.cell?] at h4; split at h4 <;> simp at h4
      subst hspt
      have hcell : ∀ i j, i < len → j < P.cellsOf E → w.cell? ⟨b, off + (i * P.cellsOf E + j), none⟩ = some ((F i).2.getD j undef) := by
        intro i j hi hj
        obtain ⟨_, h2, h3⟩ := World.cells?_some (hF i hi).1
        have h4 := h3 j hj
        rw [add_lit, add_lit, Nat.add_assoc] at h4
        rw [h4, List.getD_eq_getElem?_getD, List.getElem?_eq_getElem (by rw [h2]; exact hj)]; rfl
      refine ⟨(List.range len).map fun i => (F i).1, ⟨_, [], rfl, ⟨⟨some ⟨b, off, none⟩, cap, P.cellsOf E, fun i j => (F i).2.getD j undef, by simp, by simpa using hlc, hcm, ?_, .inr ⟨b, off, rfl, ?_⟩, ?_⟩, True.intro⟩, rfl⟩, ?_⟩
      · intro cs hcs
        obtain ⟨y, _, rfl⟩ := List.mem_map.1 hcs
        exact hlen y
      · intro i j hi hj
        have hi' : i < len := by simpa using hi
        have h := hcell i j hi' hj
        exact ⟨World.block_lt_of_cell? w _ h, h⟩
      · intro i cs j p hi hj
        have hi' : i < len := by have := (List.getElem?_eq_some_iff.1 hi).1; simpa using this
        simp [hi'] at hi
        subst hi
        obtain ⟨v, hv, hr⟩ := (hF i hi').2.1.at_ hj
        show p.rel _ _ ((F i).2.getD j undef)
        rw [List.getD_eq_getElem?_getD, hv]; exact hr
      · intro y hy
        obtain ⟨i, hi, rfl⟩ := List.mem_map.1 hy
        exact (hF i (List.mem_range.1 hi)).2.2
def fieldsI (P : Program) (T : TypeId) : Option (List (TypeId × Nat × Nat)) := match P.underlying T with
  | some (.struct fs) => some (fs.toList.map fun f => (f.type, f.offset, P.cellsOf f.type))
  | _ => none
/-- Each field by itself. -/
theorem open_fields {T : TypeId} {l : List (TypeId × Nat × Nat)} (hT : fieldsI P T = some l) {w : World} {sp : Nat → Bool} {held : Bool} {n : Nat} {cs : List Value} {x : DataW H × List MemPlace} (h : DataW.trod enc P w 0 sp held n T cs = some x) :
    cs.length = P.cellsOf T ∧ ∀ (i : Nat) (q : TypeId × Nat × Nat), l[i]? = some q → ∃ n' y, DataW.trod enc P w 0 sp held n' q.1 ((cs.drop q.2.1).take q.2.2) = some y := by
  unfold fieldsI at hT
  split at hT
  · rename_i fs hu
    injection hT with hT
    subst hT
    obtain ⟨xs, n', _, rfl, hl, hlen, hf⟩ := DataW.trod_struct hu h
    refine ⟨hl, fun i q hq => ?_⟩
    simp only [List.getElem?_map] at hq
    cases hfi : fs.toList[i]? with
    | none => rw [hfi] at hq; cases hq
    | some fd =>
      rw [hfi] at hq
      simp only [Option.map_some, Option.some.injEq] at hq
      subst hq
      have hi : i < xs.length := by rw [hlen]; have := (List.getElem?_eq_some_iff.1 hfi).1; simpa using this
      exact ⟨n', xs[i], by rw [hf i fd (by simpa using hfi)]; exact List.getElem?_eq_getElem hi⟩
  · cases hT
theorem rel_cat {w : World} {Fz : FzT} {ps qs : List PV} {cs : List Value} {o s : Nat} (h : RelL ps Fz w ((cs.drop o).take s)) (k : RelL qs Fz w (cs.drop (o + s))) : RelL (ps ++ qs) Fz w (cs.drop o) := by
  have := h.append k
  rwa [← List.drop_drop, List.take_append_drop] at this
theorem rel_end {w : World} {Fz : FzT} {cs : List Value} {o : Nat} (h : cs.length = o) : RelL [] Fz w (cs.drop o) := by
  subst h; exact List.drop_length ..
/-- An argument of the call. -/
theorem open_arg {T : TypeId} {ag : Bool} {k : Nat} {α : Type} {f : α → List PV} {g : α → Prop} (hT : tyI P T = some (ag, k)) (hs : OpenT P T f g) {w : World} {r : Reach} {b0 : Nat} {v : Value} {d : DataW H} {ps : List MemPlace} (hval : Value.okWide P w r b0 T v) (h : DataW.Trod enc P w 0 (fun _ => true) true T v d ps) :
    ∃ a, SvRel ag (f a) (FzA w) w v ∧ g a := by
  obtain ⟨n, hn⟩ := h
  obtain ⟨a, ha, hg⟩ := hs enc w _ _ n _ _ hn
  refine ⟨a, ⟨?_, ha⟩, hg⟩
  unfold tyI at hT
  cases hu : P.underlying T with
  | none => rw [hu] at hT; cases hT
  | some dd =>
    cases hi : P.info? T with
    | none => rw [hu, hi] at hT; cases hT
    | some i =>
      rw [hu, hi] at hT
      simp only [Option.some.injEq, Prod.mk.injEq] at hT
      obtain ⟨hT, _⟩ := hT
      unfold Value.okWide at hval
      rw [hu] at hval
      cases dd <;> simp only at hT hval <;> subst hT <;> first
        | (obtain ⟨cs, rfl, _⟩ := hval; rfl)
        | (cases v <;> first | rfl | (simp [Cell.okWide, Cell.ok, hu] at hval))
end
end Go.Proofs.YteflgldonmgejaaGreat.M

/- Short forms for calls that want what is known of tables; what a text reads as. No condition. -/
set_option linter.unusedVariables false
namespace Go.Proofs.YteflgldonmgejaaGreat.M
open Go Go.RowKit
section
variable {P : Program} {n d : Nat} {ty : TypeId} {pos : String} {af : Array Edge} {g : Option (Nat × Bool)} {G : Glob}
end
end Go.Proofs.YteflgldonmgejaaGreat.M

/- A pointer to a new variable beside other results. No condition. -/
set_option linter.unusedVariables false
namespace Go.Proofs.YteflgldonmgejaaGreat.M
open Go Go.RowKit
/-- A pointer at a variable that is its own alone: of type t, with cells cs. -/
def PV.np (t : Nat) (cs : List PV) : PV where
  rel _ _ v := ∃ g, v = .pointer (some ⟨g, 0, none⟩)
  own Fz w v F := ∃ g cur F', v = .pointer (some ⟨g, 0, none⟩) ∧ w.heap[g]? = some (.cells cur t (0, 0)) ∧ (∀ o, ¬ Fz g o) ∧ OwnL cs Fz w cur.toList F' ∧ F = g :: F'
  one h := by obtain ⟨g, rfl⟩ := h; rfl
  toRel h := by obtain ⟨g, _, _, rfl, _⟩ := h; exact ⟨g, rfl⟩
  relMono h _ := h
  ownMono h k hh := by
    obtain ⟨g, cur, F', rfl, h1, h2, h3, rfl⟩ := h
    exact ⟨g, cur, F', rfl, (hh g (by simp)).1.trans h1, fun o ho => h2 o ((hh g (by simp)).2 o ho), h3.mono k (hh.sub fun b hb => by simp [hb]), rfl⟩
  lt h := by
    obtain ⟨g, cur, F', rfl, h1, h2, h3, rfl⟩ := h
    intro b hb
    rcases List.mem_cons.1 hb with rfl | hb
    · exact (Array.getElem?_eq_some_iff.1 h1).1
    · exact h3.lt b hb
section
variable {h0 : Nat → Prop} {n : Nat} {w0 w : World} {Fz0 Fz : FzT} {σ : St} {a : Act} {φ : Nat → Nat} {Fp : Nat → List Nat} {P : Program} {c : Code} {Q : Exit → St → Prop}
end
end Go.Proofs.YteflgldonmgejaaGreat.M

/- Short names for what the printed texts say often. No condition. -/
set_option linter.unusedVariables false
namespace Go.Proofs.YteflgldonmgejaaGreat.M
open Go
/-- What is known of the slots and variables that are named by number. -/
inductive PkS (s : Nat → Option RV) : List Nat → List (Nat × RV) → Prop
  | nil : PkS s [] []
  | cons {k : Nat} {v : RV} {ks : List Nat} {l : List (Nat × RV)} (h : s k = some v) (t : PkS s ks l) : PkS s (k :: ks) ((k, v) :: l)
theorem PkS.rd {s : Nat → Option RV} {ks : List Nat} {l : List (Nat × RV)} (h : PkS s ks l) : RdL l s := by
  induction h with
  | nil => exact True.intro
  | cons h _ ih => exact And.intro h ih
inductive PkB (b : Nat → Option (Nat × List PV)) : List Nat → List (Nat × (Nat × List PV)) → Prop
  | nil : PkB b [] []
  | cons {k : Nat} {v : Nat × List PV} {ks : List Nat} {l : List (Nat × (Nat × List PV))} (h : b k = some v) (t : PkB b ks l) : PkB b (k :: ks) ((k, v) :: l)
theorem PkB.rd {b : Nat → Option (Nat × List PV)} {ks : List Nat} {l : List (Nat × (Nat × List PV))} (h : PkB b ks l) : RdL l b := by
  induction h with
  | nil => exact True.intro
  | cons h _ ih => exact And.intro h ih
theorem qq : (∀ {p : Prop} [Decidable p], (decide p = true) = p) ∧ (∀ {p : Prop} [Decidable p], decide p = false ↔ ¬ p) ∧ (∀ {α : Type} [BEq α] [LawfulBEq α] {a b : α}, (a != b) = true ↔ a ≠ b) ∧ (∀ {α : Type} [BEq α] [LawfulBEq α] {a b : α}, (a == b) = true ↔ a = b) ∧ (∀ {b : Bool}, ((!b) = true) = (b = false)) ∧ (∀ {b : Bool}, ((!b) = false) = (b = true)) ∧ (∀ {α : Type} {a b : α}, (a ≠ b) = ¬ a = b) ∧ (∀ {α : Type} [BEq α] [LawfulBEq α] {a b : α}, (a != b) = false ↔ a = b) ∧ (∀ {α : Type} [BEq α] [LawfulBEq α] {a b : α}, (a == b) = false ↔ a ≠ b) :=
  ⟨q1, q2, q3, q4, q5, q6, q7, q8, q9⟩
/-- What lies low, by its shape. -/
theorem lc {G : Prop} (h : G := by repeat' (first | with_reducible (first | exact LclA.nil | exact LclC.nil | exact LclC.vals | exact PV.lcl_val | exact PV.lcl_any | exact RV.lcl_hdr | exact RV.lcl_ptr | exact RV.lcl_gat | exact RV.lcl_phi | apply LclA.cons | apply LclC.cons | apply RV.lcl_nm | apply RV.lcl_sv | apply RV.lcl_gh | apply PV.lcl_nv | apply PV.lcl_own | apply LclC.flat | apply LclC.app | refine LclC.map fun _ => ?_) | apply LclC.cons | apply LclA.cons | exact LclC.nil)) : G := h
theorem aI {a b : Prop} (x : a) (y : b) : a ∧ b := ⟨x, y⟩
theorem tI : True := True.intro
theorem nl {a b : Nat} (h : Nat.ble a b = true) : a ≤ b := Nat.le_of_ble_eq_true h
section
variable {P : Program} {n : Nat} {h0 : Nat → Prop} {w0 : World} {Fz0 : FzT} {c x y : Code} {σ : St} {Q : Exit → St → Prop}
theorem sP (ks bs : List Nat) {l : List (Nat × RV)} {b : List (Nat × (Nat × List PV))} (h : SW P n h0 w0 Fz0 c (St.of l b) Q) (hl : PkS σ.s ks l := by repeat (first | exact PkS.nil | apply PkS.cons rfl)) (hb : PkB σ.b bs b := by repeat (first | exact PkB.nil | apply PkB.cons rfl)) : SW P n h0 w0 Fz0 c σ Q := sO l b h hl.rd hb.rd
theorem sS {id : Nat} {ops : Array Oper} (ks bs : List Nat) {l : List (Nat × RV)} {b : List (Nat × (Nat × List PV))} (h : RunS P n ops (fun τ => thenS (fun τ => SW P n h0 w0 Fz0 y τ Q) Q .normal τ) ops.toList (St.of l b)) (hl : PkS σ.s ks l := by repeat (first | exact PkS.nil | apply PkS.cons rfl)) (hb : PkB σ.b bs b := by repeat (first | exact PkB.nil | apply PkB.cons rfl)) : SW P n h0 w0 Fz0 (.seq (.region id ops false) y) σ Q := sw_seq (sO l b (sw_reg h) hl.rd hb.rd)
theorem sG {id : Nat} {ops : Array Oper} (ks bs : List Nat) {l : List (Nat × RV)} {b : List (Nat × (Nat × List PV))} (h : RunS P n ops (fun τ => Q .normal τ) ops.toList (St.of l b)) (hl : PkS σ.s ks l := by repeat (first | exact PkS.nil | apply PkS.cons rfl)) (hb : PkB σ.b bs b := by repeat (first | exact PkB.nil | apply PkB.cons rfl)) : SW P n h0 w0 Fz0 (.region id ops false) σ Q := sO l b (sw_reg h) hl.rd hb.rd
theorem sL {ι : Type} (ks bs : List Nat) (I : ι → Prop) {l0 : List (Nat × RV)} {b0 : List (Nat × (Nat × List PV))} (l : ι → List (Nat × RV)) (b : ι → List (Nat × (Nat × List PV))) (m : ι → Nat) (i0 : ι) (h0' : I i0) (hl : RdL (l i0) σ.s) (hb : RdL (b i0) σ.b)
    (round : ∀ i, I i → SW P n h0 w0 Fz0 c (St.of (l0 ++ l i) (b0 ++ b i)) (thenS (fun τ => ∃ j, I j ∧ m j < m i ∧ (RdL l0 τ.s ∧ RdL b0 τ.b) ∧ RdL (l j) τ.s ∧ RdL (b j) τ.b) Q)) (hl0 : PkS σ.s ks l0 := by repeat (first | exact PkS.nil | apply PkS.cons rfl)) (hb0 : PkB σ.b bs b0 := by repeat (first | exact PkB.nil | apply PkB.cons rfl)) : SW P n h0 w0 Fz0 (.loop c) σ Q := sw_loop I l b m i0 h0' hl0.rd hb0.rd hl hb round
theorem sR {id : Nat} {ops : Array Oper} (h : RunS P n ops (fun τ => thenS (fun τ => SW P n h0 w0 Fz0 y τ Q) Q .normal τ) ops.toList σ) : SW P n h0 w0 Fz0 (.seq (.region id ops false) y) σ Q := sw_seq (sw_reg h)
end
section
variable {P : Program} {n : Nat} {ops : Array Oper} {σ : St} {QS : St → Prop} {l : List Oper} {d x : Nat} {ty : TypeId} {pos : String} {af : Array Edge}
theorem rM {v : Value} (y : RunS P n ops QS l (σ.app ⟨[(x, RV.sc v)], [], [(d, some (RV.sc v))], [], none⟩)) (h1 : RdL [(x, RV.sc v)] σ.s := by repeat (first | exact True.intro | refine And.intro rfl ?_)) (hd : d < n := by decide) : RunS P n ops QS (⟨some d, .move (.tmp x), ty, pos, af, none⟩ :: l) σ := rA y h1 True.intro (sM hd) rfl rfl
theorem rS {v : Value} (y : RunS P n ops QS l (σ.app ⟨[(x, RV.sc v)], [], [(d, some (RV.sc v))], [], none⟩)) (h1 : RdL [(x, RV.sc v)] σ.s := by repeat (first | exact True.intro | refine And.intro rfl ?_)) (hd : d < n := by decide) : RunS P n ops QS (⟨some d, .assign (.tmp x), ty, pos, af, none⟩ :: l) σ := rA y h1 True.intro (sA hd) rfl rfl
theorem rK {v : Value} (y : RunS P n ops QS l (σ.app ⟨[], [], [(d, some (RV.sc v))], [], none⟩)) (h : v.oneCell' = true := by exact rfl) (hd : d < n := by decide) : RunS P n ops QS (⟨some d, .assign (.const v), ty, pos, af, none⟩ :: l) σ := rA y True.intro True.intro (kA h hd) rfl rfl
end
end Go.Proofs.YteflgldonmgejaaGreat.M

/- Shorter forms of what the printed texts say often. No condition. -/
set_option linter.unusedVariables false
namespace Go.Proofs.YteflgldonmgejaaGreat.M
open Go Go.RowKit
/-- A list of cells, cell by cell. -/
inductive Spn : List PV → List PV → Prop
  | nil : Spn [] []
  | val {v : Value} {l m : List PV} (h : Spn l m) : Spn (PV.val v :: l) (PV.val v :: m)
  | sl {o : Fl} {es : List (List PV)} {l m : List PV} (h : Spn l m) : Spn (PV.sl o es :: l) (PV.sl o es :: m)
theorem Spn.eq {l m : List PV} (h : Spn l m) : l = m := by
  induction h with
  | nil => rfl
  | val _ ih => rw [ih]
  | sl _ ih => rw [ih]
inductive PkC (b : Nat → Option (Nat × List PV)) : List Nat → List (Nat × (Nat × List PV)) → Prop
  | nil : PkC b [] []
  | cons {k T : Nat} {cs ds : List PV} {ks : List Nat} {l : List (Nat × (Nat × List PV))} (h : b k = some (T, cs)) (e : Spn cs ds) (t : PkC b ks l) : PkC b (k :: ks) ((k, (T, ds)) :: l)
  | any {k T : Nat} {cs : List PV} {ks : List Nat} {l : List (Nat × (Nat × List PV))} (h : b k = some (T, cs)) (t : PkC b ks l) : PkC b (k :: ks) ((k, (T, cs)) :: l)
theorem PkC.rd {b : Nat → Option (Nat × List PV)} {ks : List Nat} {l : List (Nat × (Nat × List PV))} (h : PkC b ks l) : RdL l b := by
  induction h with
  | nil => exact True.intro
  | cons h e _ ih => exact And.intro (e.eq ▸ h) ih
  | any h _ ih => exact And.intro h ih
section
variable {P : Program} {n : Nat} {h0 : Nat → Prop} {w0 : World} {Fz0 : FzT} {c x y : Code} {σ : St} {Q : Exit → St → Prop}
theorem sQ (ks bs : List Nat) {l : List (Nat × RV)} {b : List (Nat × (Nat × List PV))} (h : SW P n h0 w0 Fz0 c (St.of l b) Q) (hl : PkS σ.s ks l := by repeat (first | exact PkS.nil | apply PkS.cons rfl)) (hb : PkC σ.b bs b := by repeat (first | exact PkC.nil | refine PkC.cons rfl (by repeat (first | exact Spn.nil | apply Spn.val | apply Spn.sl)) ?_ | apply PkC.any rfl)) : SW P n h0 w0 Fz0 c σ Q := sO l b h hl.rd hb.rd
theorem sT {id : Nat} {ops : Array Oper} (ks bs : List Nat) {l : List (Nat × RV)} {b : List (Nat × (Nat × List PV))} (h : RunS P n ops (fun τ => thenS (fun τ => SW P n h0 w0 Fz0 y τ Q) Q .normal τ) ops.toList (St.of l b)) (hl : PkS σ.s ks l := by repeat (first | exact PkS.nil | apply PkS.cons rfl)) (hb : PkC σ.b bs b := by repeat (first | exact PkC.nil | refine PkC.cons rfl (by repeat (first | exact Spn.nil | apply Spn.val | apply Spn.sl)) ?_ | apply PkC.any rfl)) : SW P n h0 w0 Fz0 (.seq (.region id ops false) y) σ Q := sw_seq (sO l b (sw_reg h) hl.rd hb.rd)
theorem sH {id : Nat} {ops : Array Oper} (ks bs : List Nat) {l : List (Nat × RV)} {b : List (Nat × (Nat × List PV))} (h : RunS P n ops (fun τ => Q .normal τ) ops.toList (St.of l b)) (hl : PkS σ.s ks l := by repeat (first | exact PkS.nil | apply PkS.cons rfl)) (hb : PkC σ.b bs b := by repeat (first | exact PkC.nil | refine PkC.cons rfl (by repeat (first | exact Spn.nil | apply Spn.val | apply Spn.sl)) ?_ | apply PkC.any rfl)) : SW P n h0 w0 Fz0 (.region id ops false) σ Q := sO l b (sw_reg h) hl.rd hb.rd
theorem nx {ι : Type} {I : ι → Prop} {m : ι → Nat} {M : Nat} {C D : Prop} {E F : ι → Prop} (j : ι) (a : I j) (b : m j < M := by first | omega | (dsimp only; omega)) (c : C := by repeat (first | exact True.intro | refine And.intro rfl ?_)) (d : D := by repeat (first | exact True.intro | refine And.intro rfl ?_)) (e : E j := by repeat (first | exact True.intro | refine And.intro rfl ?_)) (f : F j := by repeat (first | exact True.intro | refine And.intro rfl ?_)) : ∃ j, I j ∧ m j < M ∧ (C ∧ D) ∧ E j ∧ F j := ⟨j, a, b, ⟨c, d⟩, e, f⟩
theorem sF {f : FuncId} {fn : Func} {c : Code} {args rs : List (Bool × List PV)} (hf : P.funcs[f]? = some fn) (h : ∀ (h0 : Nat → Prop) (w0 : World) (Fz0 : FzT), SW P fn.ntmps h0 w0 Fz0 c (St.of (argsL 0 args) []) (endS P fn.results.toList rs)) (hb : fn.body = some c := by exact rfl) (hn : args.length ≤ fn.ntmps := by exact Nat.le_of_ble_eq_true rfl)
    (hbor : BorA args := by repeat (first | with_reducible exact borA_nil | with_reducible refine borA_cons (by repeat (first | with_reducible exact BorL.nil | with_reducible refine BorL.cons (PV.bor_val _) ?_ | with_reducible refine BorL.cons (PV.bor_sl _) ?_ | with_reducible refine BorL.cons (PV.bor_lo _ _) ?_)) ?_)) : SCall P f args (resRV rs) := scall_of hf hb hn hbor h
theorem sn (s j : Nat) {ag : Bool} {cs : List PV} {o : Fl} {es : List (List PV)} {m : Nat} (h : m ≤ 9223372036854775807 → SW P n h0 w0 Fz0 c σ Q) (hs : σ.s s = some (RV.sv ag cs) := by exact rfl) (hj : cs[j]? = some (PV.sl o es) := by exact rfl) (hm : es.length = m := by first | exact List.length_map _ | exact rfl) : SW P n h0 w0 Fz0 c σ Q := sw_slen hs hj fun k => h (hm ▸ k)
theorem sj (s : Nat) {o : Fl} {es : List (List PV)} {m : Nat} (h : m ≤ 9223372036854775807 → SW P n h0 w0 Fz0 c σ Q) (hs : σ.s s = some (RV.slc o es) := by exact rfl) (hm : es.length = m := by first | exact List.length_map _ | exact rfl) : SW P n h0 w0 Fz0 c σ Q := sw_len hs fun k => h (hm ▸ k)
theorem sc {t : Nat} {b : Bool} {A B : Prop} (h1 : A → SW P n h0 w0 Fz0 x σ Q) (h2 : B → SW P n h0 w0 Fz0 y σ Q) (ht : σ.s t = some (RV.bool b) := by exact rfl) (u1 : b = true → A := by first | (intro h; simp only [qq] at h; exact h) | exact id) (u2 : b = false → B := by first | (intro h; simp only [qq] at h; exact h) | exact id) : SW P n h0 w0 Fz0 (.cond (.tmp t) x y) σ Q := sw_cond ht (fun k => h1 (u1 k)) (fun k => h2 (u2 k))
theorem scT {t : Nat} (h1 : SW P n h0 w0 Fz0 x σ Q) (ht : σ.s t = some (RV.bool true) := by exact rfl) : SW P n h0 w0 Fz0 (.cond (.tmp t) x y) σ Q := sw_cond ht (fun _ => h1) (fun k => nomatch k)
theorem scF {t : Nat} (h1 : SW P n h0 w0 Fz0 y σ Q) (ht : σ.s t = some (RV.bool false) := by exact rfl) : SW P n h0 w0 Fz0 (.cond (.tmp t) x y) σ Q := sw_cond ht (fun k => nomatch k) (fun _ => h1)
end
section
variable {P : Program} {n : Nat} {ops : Array Oper} {σ σ0 : St} {QS : St → Prop} {l : List Oper} {o : Oper} {acc : List (Nat × Step)} {C : Nat → Step → Prop}
theorem cx (s : Nat) {b : Bool} {A B : Prop} (h1 : b = true → A → RunS P n ops QS l σ) (h2 : b = false → B → RunS P n ops QS l σ) (ht : σ.s s = some (RV.bool b) := by exact rfl) (u1 : b = true → A := by first | (intro h; simp only [qq] at h; exact h) | exact id) (u2 : b = false → B := by first | (intro h; simp only [qq] at h; exact h) | exact id) : RunS P n ops QS l σ := RunS.cases ht (fun k => h1 k (u1 k)) (fun k => h2 k (u2 k))
theorem dx (s : Nat) {b : Bool} {A B : Prop} (h1 : b = true → A → Run P n ops σ0 C QS l acc σ) (h2 : b = false → B → Run P n ops σ0 C QS l acc σ) (ht : σ.s s = some (RV.bool b) := by exact rfl) (u1 : b = true → A := by first | (intro h; simp only [qq] at h; exact h) | exact id) (u2 : b = false → B := by first | (intro h; simp only [qq] at h; exact h) | exact id) : Run P n ops σ0 C QS l acc σ := Run.cases ht (fun k => h1 k (u1 k)) (fun k => h2 k (u2 k))
/-- A goal that is to be met by what comes behind. -/
inductive Hd (H : Prop) : Prop
  | mk (h : H) : Hd H
theorem Hd.get {H : Prop} : Hd H → H := fun x => by cases x with | mk h => exact h
theorem zt {c : Bool} {G H : Prop} (g : c = true) (h : H) (w : c = true → Hd H → G := by intro g_ h_; (repeat (first | refine RunS.s0t g_ ?_ | refine RunS.su ?_)); exact h_.get) : G := w g ⟨h⟩
theorem zf {c : Bool} {G H : Prop} (g : c = false) (h : H) (w : c = false → Hd H → G := by intro g_ h_; (repeat (first | refine RunS.s0f g_ ?_ | refine RunS.su ?_)); exact h_.get) : G := w g ⟨h⟩
theorem rX {L : Step} (y : RunS P n ops QS l (σ.app L)) (h1 : RdL L.rs σ.s := by repeat (first | exact True.intro | refine And.intro rfl ?_)) (h2 : RdL L.rb σ.b := by repeat (first | exact True.intro | refine And.intro rfl ?_)) (x : Loc P n o L) (hg : o.guard = none := by exact rfl) (ha : ∀ d, L.al = some d → Free d σ := by refine free1 ?_; repeat (first | exact Free.of_ rfl | refine Free.app ?_ rfl)) : RunS P n ops QS (o :: l) σ := RunS.step h1 h2 (LocG.of hg x) ha y
theorem dX {L : Step} (m : Nat) (y : Run P n ops σ0 C QS l (acc ++ [(m, L)]) (σ.app L)) (h1 : RdL L.rs σ.s := by repeat (first | exact True.intro | refine And.intro rfl ?_)) (h2 : RdL L.rb σ.b := by repeat (first | exact True.intro | refine And.intro rfl ?_)) (x : Loc P n o L) (hg : o.guard = none := by exact rfl) (ha : ∀ d, L.al = some d → Free d σ0 := by exact nofree) (h4 : chkE m o L acc = true := by kernel_rfl) (hC : C acc.length L := by show (List.all _ _) = true; kernel_rfl) : Run P n ops σ0 C QS (o :: l) acc σ := Run.stepC m h1 h2 (LocG.of hg x) ha h4 hC y
end
theorem rb {b c : Bool} (h : b = c) : some (RV.bool b) = some (RV.bool c) ∧ True := ⟨bool_eq h, True.intro⟩
end Go.Proofs.YteflgldonmgejaaGreat.M
