/- Calls that take what their arguments own, and calls that turn a variable of the caller. No condition. -/
import Derived.Test.YtloipjaiceifbaaCT
set_option linter.unusedVariables false
namespace Go.Proofs.Ytloipjaiceifbaa.M
open Go Go.RowKit
section
variable {P : Program} {n : Nat} {h0 : Nat → Prop} {w0 : World} {Fz0 : FzT}
/-- What is common to the ends: nothing turned but in F (and g). -/
structure Turned (F : List Nat) (g : Option Nat) (Fz : FzT) (w : World) (Fz' : FzT) (w' : World) : Prop where
  os : w'.os = w.os
  tape : w'.tape = w.tape
  output : w'.output = w.output
  size : w.heap.size ≤ w'.heap.size
  same : ∀ b, b < w.heap.size → some b ≠ g → b ∉ F → w'.heap[b]? = w.heap[b]? ∧ ∀ o, Fz' b o ↔ Fz b o
  fzl : ∀ b o, Fz' b o → b < w'.heap.size
/-- The function takes its arguments with what they own, and returns r. -/
def OCall (P : Program) (f : FuncId) (args : List (Bool × List PV)) (r : RV) : Prop :=
  ∀ (w : World) (vs : List Value) (Fz : FzT) (F : List Nat), (∀ b o, Fz b o → b < w.heap.size) → OwnT args Fz w vs F → F.Nodup →
    Calls P f vs.toArray w fun e w' => ∃ (v : Value) (Fz' : FzT) (G : List Nat), e = .returned v ∧ Turned F none Fz w Fz' w' ∧ (∀ φ, r.holds φ Fz' w' v G) ∧ G.Nodup ∧ ∀ b, b ∈ G → b ∈ F ∨ (w.heap.size ≤ b ∧ b < w'.heap.size)
/-- The function turns the variable that its first argument points at: from cs to cs'. -/
def XCall (P : Program) (f : FuncId) (t : Nat) (cs cs' : List PV) (args : List (Bool × List PV)) (r : RV) : Prop :=
  ∀ (w : World) (g : Nat) (cur : Array Value) (vs : List Value) (Fz : FzT) (F1 F2 : List Nat), (∀ b o, Fz b o → b < w.heap.size) → w.heap[g]? = some (.cells cur t (0, 0)) → (∀ o, ¬ Fz g o) → OwnL cs Fz w cur.toList F1 → OwnT args Fz w vs F2 → (g :: (F1 ++ F2)).Nodup →
    Calls P f (.pointer (some ⟨g, 0, none⟩) :: vs).toArray w fun e w' => ∃ (v : Value) (Fz' : FzT) (cur' : Array Value) (F1' G : List Nat), e = .returned v ∧ Turned (F1 ++ F2) (some g) Fz w Fz' w' ∧ w'.heap[g]? = some (.cells cur' t (0, 0)) ∧ (∀ o, ¬ Fz' g o) ∧ OwnL cs' Fz' w' cur'.toList F1' ∧
      (∀ φ, r.holds φ Fz' w' v G) ∧ (g :: (F1' ++ G)).Nodup ∧ ∀ b, b ∈ F1' ++ G → b ∈ F1 ++ F2 ∨ (w.heap.size ≤ b ∧ b < w'.heap.size)
theorem OwnT.parts {Fz : FzT} {w : World} : ∀ {l : List (Bool × List PV)} {vs : List Value} {F : List Nat}, OwnT l Fz w vs F → ∃ ps : List (List Nat), ps.length = l.length ∧ F = ps.flatten ∧ ∀ (j : Nat) (q : Bool × List PV), l[j]? = some q → ∃ v, vs[j]? = some v ∧ SvOwn q.1 q.2 Fz w v (ps.getD j [])
  | [], vs, F, h => ⟨[], rfl, h.2, fun j q hq => by simp at hq⟩
  | p :: l, vs, F, h => by
    obtain ⟨v, vs', F1, F2, rfl, rfl, h1, h2⟩ := h
    obtain ⟨ps, e1, e2, e3⟩ := OwnT.parts h2
    refine ⟨F1 :: ps, by simp [e1], by rw [e2]; rfl, fun j q hq => ?_⟩
    cases j with
    | zero => simp at hq; subst hq; exact ⟨v, rfl, h1⟩
    | succ j => simpa using e3 j q (by simpa using hq)
/-- The own blocks of the arguments, from slot k on. -/
def argF (k : Nat) (ps : List (List Nat)) (x : Nat) : List Nat := if x % 2 = 1 ∧ k ≤ (x - 1) / 2 then ps.getD ((x - 1) / 2 - k) [] else []
theorem argF_at (k : Nat) (ps : List (List Nat)) (j : Nat) : argF k ps (2 * (k + j) + 1) = ps.getD j [] := by
  unfold argF
  rw [if_pos ⟨by omega, by omega⟩]
  congr 1; omega
theorem getD_sub {ps : List (List Nat)} {j b : Nat} (h : b ∈ ps.getD j []) : b ∈ ps.flatten := by
  rw [List.getD_eq_getElem?_getD] at h
  cases hp : ps[j]? with
  | none => rw [hp] at h; simp at h
  | some p => rw [hp] at h; exact List.mem_flatten.2 ⟨p, List.mem_of_getElem? hp, h⟩
theorem argF_sub {k : Nat} {ps : List (List Nat)} {x b : Nat} (h : b ∈ argF k ps x) : b ∈ ps.flatten := by
  unfold argF at h
  split at h
  · exact getD_sub h
  · simp at h
theorem parts_dis : ∀ {ps : List (List Nat)}, ps.flatten.Nodup → (∀ j, (ps.getD j []).Nodup) ∧ ∀ i j, i ≠ j → ∀ b, b ∈ ps.getD i [] → b ∉ ps.getD j []
  | [], _ => ⟨fun j => by simp, fun i j _ b hb => by simp at hb⟩
  | p :: ps, h => by
    rw [List.flatten_cons, List.nodup_append] at h
    obtain ⟨h1, h2, h3⟩ := h
    obtain ⟨k1, k2⟩ := parts_dis h2
    refine ⟨fun j => ?_, fun i j hij b hb hb' => ?_⟩
    · cases j with
      | zero => exact h1
      | succ j => exact k1 j
    · cases i with
      | zero =>
        cases j with
        | zero => exact hij rfl
        | succ j => exact h3 b hb b (getD_sub hb') rfl
      | succ i =>
        cases j with
        | zero => exact h3 b hb' b (getD_sub hb) rfl
        | succ j => exact k2 i j (by omega) b hb hb'
theorem argF_nod {k : Nat} {ps : List (List Nat)} (h : ps.flatten.Nodup) (x : Nat) : (argF k ps x).Nodup := by
  unfold argF
  split
  · exact (parts_dis h).1 _
  · exact List.nodup_nil
theorem argF_dis {k : Nat} {ps : List (List Nat)} (h : ps.flatten.Nodup) {x y : Nat} (hxy : x ≠ y) {b : Nat} (hb : b ∈ argF k ps x) : b ∉ argF k ps y := by
  unfold argF at hb ⊢
  split at hb
  · split
    · exact (parts_dis h).2 _ _ (by omega) b hb
    · simp
  · simp at hb
theorem lk_args : ∀ {qs : List (Bool × List PV)} {k i : Nat} {rv : RV}, lk (argsL k qs) i = some rv → ∃ j q, i = k + j ∧ qs[j]? = some q ∧ rv = RV.sv q.1 q.2
  | [], k, i, rv, h => by cases h
  | q :: qs, k, i, rv, h => by
    have h : (bif Nat.beq i k then some (RV.sv q.1 q.2) else lk (argsL (k + 1) qs) i) = some rv := h
    rw [beq_eq] at h
    by_cases hi : i = k
    · simp [hi] at h; subst h; subst hi
      exact ⟨0, q, rfl, rfl, rfl⟩
    · simp [hi] at h
      obtain ⟨j, q', e1, e2, e3⟩ := lk_args h
      exact ⟨j + 1, q', by omega, by simpa using e2, e3⟩
theorem OwnT.len' {Fz : FzT} {w : World} {l : List (Bool × List PV)} {vs : List Value} {F : List Nat} (h : OwnT l Fz w vs F) : vs.length = l.length := h.len
/-- The results, as one value. -/
theorem res_one {Fz : FzT} {w : World} {rs : List (Bool × List PV)} {vs : List Value} {F : List Nat} (h : OwnT rs Fz w vs F) (φ : Nat → Nat) : (resRV rs).holds φ Fz w (if h : vs.toArray.size = 1 then vs.toArray[0] else .tuple vs.toArray) F := by
  have hl := h.len
  by_cases h1 : vs.toArray.size = 1
  · rw [dif_pos h1]
    have hl1 : rs.length = 1 := by rw [← hl]; simpa using h1
    obtain ⟨q, rfl⟩ := List.length_eq_one_iff.1 hl1
    obtain ⟨v, vs2, F1, F2, rfl, rfl, k1, k2, rfl⟩ := h
    rw [List.append_nil]
    exact k1
  · rw [dif_neg h1]
    have hne : rs.length ≠ 1 := fun e => h1 (by simp [hl, e])
    have : resRV rs = RV.tup rs := by
      match rs, hne with
      | [], _ => rfl
      | [_], hne => exact absurd rfl hne
      | _ :: _ :: _, _ => rfl
    rw [this]
    exact ⟨vs.toArray, rfl, h⟩
theorem run_res {fn : Func} {t : Array Value} {w : World} {vs : List Value} (e1 : Sem.run P (fn.results.toList.mapM (resF t)) w = .ok vs w) : (results fn t).run P w = .ok (if h : vs.toArray.size = 1 then vs.toArray[0] else .tuple vs.toArray) w := by
  have erun : Sem.run P (fn.results.mapM (resF t)) w = .ok vs.toArray w := by
    rw [Array.mapM_eq_mapM_toList]
    simp only [map_eq_pure_bind, Sem.run_bind, e1, Result.andThen_ok, Sem.run_pure]
  rw [results_eq]
  simp only [Sem.run_bind, erun, Result.andThen_ok, Sem.run_pure]
theorem ocall_of {f : FuncId} {fn : Func} {c : Code} {args rs : List (Bool × List PV)} (hf : P.funcs[f]? = some fn) (hb : fn.body = some c) (hn : args.length ≤ fn.ntmps)
    (h : ∀ (h0 : Nat → Prop) (w0 : World) (Fz0 : FzT), SW P fn.ntmps h0 w0 Fz0 c (St.of (argsL 0 args) []) (endS P fn.results.toList rs)) : OCall P f args (resRV rs) := by
  intro w vs Fz F hz hown hnd
  have hvl := hown.len
  have hFlt : ∀ b, b ∈ F → b < w.heap.size := fun b hb => hown.lt b hb
  obtain ⟨ps, e1, e2, e3⟩ := hown.parts
  refine calls_of_wp hf hb ?_
  have hc : Conc (fun b => b < w.heap.size ∧ b ∉ F) w Fz fn.ntmps (St.of (argsL 0 args) []) { tmps := vs.toArray ++ Array.replicate (fn.ntmps - vs.toArray.size) undef, defers := [] } w := by
    refine ⟨fun _ => 0, Fz, argF 0 ps, ⟨BelowO.refl _ _, rfl, by simp; omega, fun _ hb => hb.1, fun _ _ _ => Iff.rfl, hz, fun i rv hi => ?_, fun d cs hd => (by cases hd), fun d cs hd => (by cases hd), fun d d' cs cs' hd => (by cases hd), fun x y hxy b hx => argF_dis (by rw [← e2]; exact hnd) hxy hx, fun x => argF_nod (by rw [← e2]; exact hnd) x, fun x b hb => ?_⟩⟩
    · obtain ⟨j, q, k1, k2, rfl⟩ := lk_args hi
      rw [Nat.zero_add] at k1
      subst k1
      obtain ⟨v, k3, k4⟩ := e3 i q k2
      have : (vs.toArray ++ Array.replicate (fn.ntmps - vs.toArray.size) undef).getD i undef = v := by
        rw [Array.getD_eq_getD_getElem?, Array.getElem?_append_left (by have := (List.getElem?_eq_some_iff.1 k3).1; simpa using this)]
        simp [k3]
      rw [this]
      have e := argF_at 0 ps i
      rw [Nat.zero_add] at e
      rw [e]; exact k4
    · have := argF_sub hb
      rw [← e2] at this
      exact ⟨fun k => k.2 this, hFlt b this⟩
  refine wp_mono (h _ w Fz _ w hc) fun e a' w' ⟨τ, hq, hc'⟩ => ?_
  obtain ⟨φ, Fz', Fp, hc'⟩ := hc'
  have hres : RetOk P fn.results.toList rs τ → a'.defers = [] ∧ ∃ v, (results fn a'.tmps).run P w' = .ok v w' ∧ ∃ (v' : Value) (Fz' : FzT) (G : List Nat), Ending.returned v = .returned v' ∧ Turned F none Fz w Fz' w' ∧ (∀ φ, (resRV rs).holds φ Fz' w' v' G) ∧ G.Nodup ∧ ∀ b, b ∈ G → b ∈ F ∨ (w.heap.size ≤ b ∧ b < w'.heap.size) := by
    intro hr
    obtain ⟨vs', G, r1, r2, r3, r4⟩ := ret_run _ rs hc' hr
    refine ⟨hc'.dfr, _, run_res r1, _, Fz', G, rfl, ⟨hc'.bel.os, hc'.bel.tape, hc'.bel.output, hc'.bel.size, fun b k1 _ k2 => ⟨hc'.bel.block b ⟨k1, k2⟩, fun o => hc'.fz0 b o ⟨k1, k2⟩⟩, hc'.fzl⟩, res_one r2, r3, fun b hb => ?_⟩
    obtain ⟨r, _, hr⟩ := r4 b hb
    have := hc'.low r b hr
    by_cases hbF : b ∈ F
    · exact .inl hbF
    · exact .inr ⟨Nat.le_of_not_lt fun hlt => this.1 ⟨hlt, hbF⟩, this.2⟩
  cases e with
  | normal => exact hres hq
  | ret => exact hres hq
  | _ => exact hq.elim
/-- Where variable D lies. -/
def RV.phi (D g : Nat) : RV where
  holds φ _ _ _ F := φ D = g ∧ F = []
  men x := Nat.beq x D
  mono h _ _ hφ := ⟨by rw [hφ D (by simp)]; exact h.1, h.2⟩
  lt h := by rw [h.2]; simp
theorem RV.lcl_phi {L D g : Nat} : (RV.phi D g).Lcl L := fun h _ => h
/-- The end of a function that turns variable 0. -/
def EndX (P : Program) (rs : List ResultVar) (g t : Nat) (cs' : List PV) (qs : List (Bool × List PV)) (τ : St) : Prop := τ.b 0 = some (t, cs') ∧ τ.s 5000 = some (RV.phi 0 g) ∧ RetOk P rs qs (τ.setB 0 none)
def endX (P : Program) (rs : List ResultVar) (g t : Nat) (cs' : List PV) (qs : List (Bool × List PV)) : Exit → St → Prop
  | .normal, τ => EndX P rs g t cs' qs τ
  | .ret, τ => EndX P rs g t cs' qs τ
  | _, _ => False
theorem xcall_of {f : FuncId} {fn : Func} {c : Code} {t : Nat} {cs cs' : List PV} {args rs : List (Bool × List PV)} (hf : P.funcs[f]? = some fn) (hb : fn.body = some c) (hn : args.length + 1 ≤ fn.ntmps) (hn2 : args.length ≤ 4000)
    (h : ∀ (g : Nat) (h0 : Nat → Prop) (w0 : World) (Fz0 : FzT), SW P fn.ntmps h0 w0 Fz0 c (St.of ((0, RV.ptr 0 0) :: (5000, RV.phi 0 g) :: argsL 1 args) [(0, (t, cs))]) (endX P fn.results.toList g t cs' rs)) : XCall P f t cs cs' args (resRV rs) := by
  intro w g cur vs Fz F1 F2 hz hg hfg hcs hown hnd
  have hvl := hown.len
  have hglt : g < w.heap.size := (Array.getElem?_eq_some_iff.1 hg).1
  have hFlt : ∀ b, b ∈ F2 → b < w.heap.size := fun b hb => hown.lt b hb
  have hFlt1 : ∀ b, b ∈ F1 → b < w.heap.size := fun b hb => hcs.lt b hb
  obtain ⟨ps, e1, e2, e3⟩ := hown.parts
  rw [List.nodup_cons, List.nodup_append] at hnd
  obtain ⟨n0, n1, n2, n12⟩ := hnd
  have n0' : g ∉ F1 ∧ g ∉ F2 := ⟨fun k => n0 (List.mem_append.2 (.inl k)), fun k => n0 (List.mem_append.2 (.inr k))⟩
  refine calls_of_wp hf hb ?_
  have hodd : ∀ x b, b ∈ argF 1 ps x → x ≠ 2 := fun x b hb e => by
    subst e
    unfold argF at hb
    rw [if_neg (by omega)] at hb
    simp at hb
  have hfp : ∀ x b, b ∈ (fun x => if x = 2 then F1 else argF 1 ps x) x → (x = 2 ∧ b ∈ F1) ∨ (x ≠ 2 ∧ b ∈ argF 1 ps x) := fun x b hb => by
    simp only at hb
    split at hb
    · rename_i e; exact .inl ⟨e, hb⟩
    · rename_i e; exact .inr ⟨e, hb⟩
  have hc : Conc (fun b => b < w.heap.size ∧ b ≠ g ∧ b ∉ F1 ++ F2) w Fz fn.ntmps (St.of ((0, RV.ptr 0 0) :: (5000, RV.phi 0 g) :: argsL 1 args) [(0, (t, cs))]) { tmps := (.pointer (some ⟨g, 0, none⟩) :: vs).toArray ++ Array.replicate (fn.ntmps - (Value.pointer (some ⟨g, 0, none⟩) :: vs).toArray.size) undef, defers := [] } w := by
    refine ⟨fun _ => g, Fz, fun x => if x = 2 then F1 else argF 1 ps x, ⟨BelowO.refl _ _, rfl, by simp; omega, fun _ hb => hb.1, fun _ _ _ => Iff.rfl, hz, fun i rv hi => ?_, fun d bx hd => ?_, fun d bx hd => ?_, fun d d' bx bx' hd hd' _ => ?_, fun x y hxy b hx hy => ?_, fun x => ?_, fun x b hb => ?_⟩⟩
    · by_cases hi0 : i = 0
      · subst hi0
        have hi' : RV.ptr 0 0 = rv := by injection hi
        subst hi'
        have : ((.pointer (some ⟨g, 0, none⟩) :: vs).toArray ++ Array.replicate (fn.ntmps - (Value.pointer (some ⟨g, 0, none⟩) :: vs).toArray.size) undef).getD 0 undef = .pointer (some ⟨g, 0, none⟩) := by
          rw [Array.getD_eq_getD_getElem?, Array.getElem?_append_left (by simp)]
          simp
        rw [this]
        refine ⟨rfl, ?_⟩
        simp only [argF]
        rw [if_neg (by omega), if_neg (by omega)]
      · have hi2 : (if i = 5000 then some (RV.phi 0 g) else lk (argsL 1 args) i) = some rv := by
          have : (bif Nat.beq i 0 then some (RV.ptr 0 0) else bif Nat.beq i 5000 then some (RV.phi 0 g) else lk (argsL 1 args) i) = some rv := hi
          rw [beq_eq, beq_eq] at this
          by_cases h5 : i = 5000
          · simpa [hi0, h5] using this
          · simpa [hi0, h5] using this
        by_cases h5 : i = 5000
        · subst h5
          rw [if_pos rfl] at hi2
          injection hi2 with hi2
          subst hi2
          refine ⟨rfl, ?_⟩
          show (if 2 * 5000 + 1 = 2 then F1 else argF 1 ps (2 * 5000 + 1)) = []
          rw [if_neg (by omega)]
          unfold argF
          rw [if_pos (by omega), List.getD_eq_getElem?_getD, List.getElem?_eq_none (by omega)]
          rfl
        rw [if_neg h5] at hi2
        have hi' := hi2
        obtain ⟨j, q, k1, k2, rfl⟩ := lk_args hi'
        subst k1
        obtain ⟨v, k3, k4⟩ := e3 j q k2
        have hjl := (List.getElem?_eq_some_iff.1 k3).1
        have : ((.pointer (some ⟨g, 0, none⟩) :: vs).toArray ++ Array.replicate (fn.ntmps - (Value.pointer (some ⟨g, 0, none⟩) :: vs).toArray.size) undef).getD (1 + j) undef = v := by
          rw [Array.getD_eq_getD_getElem?, Array.getElem?_append_left (by simp; omega)]
          rw [Nat.add_comm]
          simp [k3]
        rw [this]
        have k5 : SvOwn q.1 q.2 Fz w v (if 2 * (1 + j) + 1 = 2 then F1 else argF 1 ps (2 * (1 + j) + 1)) := by rw [if_neg (by omega), argF_at]; exact k4
        exact k5
    · have hd2 : (bif Nat.beq d 0 then some (t, cs) else none) = some bx := hd
      rw [beq_eq] at hd2
      by_cases h0' : d = 0
      · simp [h0'] at hd2; subst hd2; subst h0'
        exact ⟨cur, hg, by simpa using hcs⟩
      · simp [h0'] at hd2
    · have hd2 : (bif Nat.beq d 0 then some (t, cs) else none) = some bx := hd
      refine ⟨fun k => k.2.1 rfl, hfg, fun r hr => ?_⟩
      rcases hfp r _ hr with ⟨_, k⟩ | ⟨_, k⟩
      · exact n0'.1 k
      · have := argF_sub k
        rw [← e2] at this
        exact n0'.2 this
    · have hd2 : (bif Nat.beq d 0 then some (t, cs) else none) = some bx := hd
      have hd3 : (bif Nat.beq d' 0 then some (t, cs) else none) = some bx' := hd'
      rw [beq_eq] at hd2 hd3
      by_cases k1 : d = 0
      · by_cases k2 : d' = 0
        · omega
        · simp [k2] at hd3
      · simp [k1] at hd2
    · rcases hfp x _ hx with ⟨k1, k2⟩ | ⟨k1, k2⟩ <;> rcases hfp y _ hy with ⟨k3, k4⟩ | ⟨k3, k4⟩
      · omega
      · have := argF_sub k4
        rw [← e2] at this
        exact n12 b k2 b this rfl
      · have := argF_sub k2
        rw [← e2] at this
        exact n12 b k4 b this rfl
      · exact argF_dis (by rw [← e2]; exact n2) hxy k2 k4
    · split
      · exact n1
      · exact argF_nod (by rw [← e2]; exact n2) x
    · rcases hfp x _ hb with ⟨_, k⟩ | ⟨_, k⟩
      · exact ⟨fun q => q.2.2 (List.mem_append.2 (.inl k)), hFlt1 b k⟩
      · have := argF_sub k
        rw [← e2] at this
        exact ⟨fun q => q.2.2 (List.mem_append.2 (.inr this)), hFlt b this⟩
  refine wp_mono (h g _ w Fz _ w hc) fun e a' w' ⟨τ, hq, hc'⟩ => ?_
  obtain ⟨φ, Fz', Fp, hc'⟩ := hc'
  have hres : EndX P fn.results.toList g t cs' rs τ → a'.defers = [] ∧ ∃ v, (results fn a'.tmps).run P w' = .ok v w' ∧ ∃ (v' : Value) (Fz' : FzT) (cur' : Array Value) (F1' G : List Nat), Ending.returned v = .returned v' ∧ Turned (F1 ++ F2) (some g) Fz w Fz' w' ∧ w'.heap[g]? = some (.cells cur' t (0, 0)) ∧ (∀ o, ¬ Fz' g o) ∧ OwnL cs' Fz' w' cur'.toList F1' ∧
      (∀ φ, (resRV rs).holds φ Fz' w' v' G) ∧ (g :: (F1' ++ G)).Nodup ∧ ∀ b, b ∈ F1' ++ G → b ∈ F1 ++ F2 ∨ (w.heap.size ≤ b ∧ b < w'.heap.size) := by
    rintro ⟨hb0, hG, hr⟩
    have hφ : φ 0 = g := (hc'.slot 5000 _ hG).1
    obtain ⟨cur', hg', ho'⟩ := hc'.box 0 _ hb0
    obtain ⟨m1, m2, m3⟩ := hc'.bxb 0 _ hb0
    rw [hφ] at hg' m1 m2 m3
    have c1 := hc'.pullB hb0
    obtain ⟨vs', G, r1, r2, r3, r4⟩ := ret_run _ rs c1 hr
    have hG2 : ∀ b, b ∈ G → ∃ r, r ≠ 2 ∧ b ∈ Fp r := fun b hb => by
      obtain ⟨r, k1, k2⟩ := r4 b hb
      have k2 : b ∈ (if r = 0 then φ 0 :: mv Fp (2 * 0 + 2) 0 else mv Fp (2 * 0 + 2) r) := k2
      rw [if_neg k1] at k2
      unfold mv at k2
      rw [if_neg k1] at k2
      split at k2
      · simp at k2
      · rename_i k3; exact ⟨r, by omega, k2⟩
    have hlow : ∀ x b, b ∈ Fp x → b ∈ F1 ++ F2 ∨ (w.heap.size ≤ b ∧ b < w'.heap.size) := fun x b hb => by
      have := hc'.low x b hb
      by_cases hbF : b ∈ F1 ++ F2
      · exact .inl hbF
      · exact .inr ⟨Nat.le_of_not_lt fun hlt => this.1 ⟨hlt, fun e => m3 x (e ▸ hb), hbF⟩, this.2⟩
    refine ⟨hc'.dfr, _, run_res r1, _, Fz', cur', Fp 2, G, rfl, ⟨hc'.bel.os, hc'.bel.tape, hc'.bel.output, hc'.bel.size, fun b k1 k0 k2 => ?_, hc'.fzl⟩, hg', m2, ho', res_one r2, ?_, fun b hb => ?_⟩
    · have hbg : b ≠ g := fun e => k0 (by rw [e])
      exact ⟨hc'.bel.block b ⟨k1, hbg, k2⟩, fun o => hc'.fz0 b o ⟨k1, hbg, k2⟩⟩
    · rw [List.nodup_cons, List.nodup_append]
      refine ⟨fun hh => ?_, hc'.nod 2, r3, fun x hx y hy e => ?_⟩
      · rcases List.mem_append.1 hh with hh | hh
        · exact m3 2 hh
        · obtain ⟨r, _, k⟩ := hG2 g hh
          exact m3 r k
      · subst e
        obtain ⟨r, k1, k2⟩ := hG2 x hy
        exact hc'.dis r 2 k1 x k2 hx
    · rcases List.mem_append.1 hb with hb | hb
      · exact hlow 2 b hb
      · obtain ⟨r, _, k⟩ := hG2 b hb
        exact hlow r b k
  cases e with
  | normal => exact hres hq
  | ret => exact hres hq
  | _ => exact hq.elim
end
end Go.Proofs.Ytloipjaiceifbaa.M
