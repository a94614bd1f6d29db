/- The logic. No condition. -/
import Derived.Test.YtmekkgdboplbjaaGreatCB0
import Derived.KernelRfl
import Derived.Laws.Strings3
import Derived.Laws.BytesString
import Derived.Laws.Concat
import Derived.Lib.LaidTab
import Derived.Lib.Join
import Derived.Lib.ItoaNum
import Derived.Lib.ItoaLen
import Derived.Sort.Grow
import Derived.Deep.Draws
import Derived.ProofKit
import Derived.OpenShut
import Derived.Carry
import Derived.Below
import Derived.ChangeSame
import Derived.ChangeArms
import Derived.WideKeyArgs
import Derived.Deep.Slices
set_option linter.all false
namespace Go.Proofs.YtmekkgdboplbjaaGreat.M
open Go Go.RowKit
section
section
variable {P : Program} {n : Nat} {h0 : Nat → Prop} {w0 : World} {Fz0 : av}
structure t9 (F : List Nat) (g : Option Nat) (Fz : av) (w : World) (Fz' : av) (w' : World) : Prop where
  os : w'.os = w.os
  tape : w'.tape = w.tape
  output : w'.output = w.output
  size : w.heap.size ≤ w'.heap.size
  same : ∀ b, b < w.heap.size → some b ≠ g → b ∉ F → w'.heap[b]? = w.heap[b]? ∧ ∀ o, Fz' b o ↔ Fz b o
  fzl : ∀ b o, Fz' b o → b < w'.heap.size
def xz (P : Program) (f : FuncId) (args : List (Bool × List PV)) (r : RV) : Prop :=
  ∀ (w : World) (vs : List Value) (Fz : av) (F : List Nat), (∀ b o, Fz b o → b < w.heap.size) → d2 args Fz w vs F → F.Nodup →
    Calls P f vs.toArray w fun e w' => ∃ (v : Value) (Fz' : av) (G : List Nat), e = .returned v ∧ t9 F none Fz w Fz' w' ∧ (∀ φ, r.holds φ Fz' w' v G) ∧ G.Nodup ∧ ∀ b, b ∈ G → b ∈ F ∨ (w.heap.size ≤ b ∧ b < w'.heap.size)
def rY (P : Program) (f : FuncId) (t : Nat) (cs cs' : List PV) (args : List (Bool × List PV)) (r : RV) : Prop :=
  ∀ (w : World) (g : Nat) (cur : Array Value) (vs : List Value) (Fz : av) (F1 F2 : List Nat), (∀ b o, Fz b o → b < w.heap.size) → w.heap[g]? = some (.cells cur t (0, 0)) → (∀ o, ¬ Fz g o) → aJ cs Fz w cur.toList F1 → d2 args Fz w vs F2 → (g :: (F1 ++ F2)).Nodup →
    Calls P f (.pointer (some ⟨g, 0, none⟩) :: vs).toArray w fun e w' => ∃ (v : Value) (Fz' : av) (cur' : Array Value) (F1' G : List Nat), e = .returned v ∧ t9 (F1 ++ F2) (some g) Fz w Fz' w' ∧ w'.heap[g]? = some (.cells cur' t (0, 0)) ∧ (∀ o, ¬ Fz' g o) ∧ aJ cs' Fz' w' cur'.toList F1' ∧
      (∀ φ, r.holds φ Fz' w' v G) ∧ (g :: (F1' ++ G)).Nodup ∧ ∀ b, b ∈ F1' ++ G → b ∈ F1 ++ F2 ∨ (w.heap.size ≤ b ∧ b < w'.heap.size)
def d2.parts {Fz : av} {w : World} : ∀ {l : List (Bool × List PV)} {vs : List Value} {F : List Nat}, d2 l Fz w vs F → ∃ ps : List (List Nat), ps.length = l.length ∧ F = ps.flatten ∧ ∀ (j : Nat) (q : Bool × List PV), l[j]? = some q → ∃ v, vs[j]? = some v ∧ bQ q.1 q.2 Fz w v (ps.getD j [])
  | [], vs, F, h => ⟨[], rfl, h.2, fun j q hq => by simp at hq⟩
  | p :: l, vs, F, h => by
    obtain ⟨v, vs', F1, F2, rfl, rfl, h1, h2⟩ := h
    obtain ⟨ps, e1, e2, e3⟩ := d2.parts h2
    refine ⟨F1 :: ps, by simp [e1], by rw [e2]; rfl, fun j q hq => ?_⟩
    cases j with
    | zero => simp at hq; subst hq; exact ⟨v, rfl, h1⟩
    | succ j => simpa using e3 j q (by simpa using hq)
def gx (k : Nat) (ps : List (List Nat)) (x : Nat) : List Nat := if x % 2 = 1 ∧ k ≤ (x - 1) / 2 then ps.getD ((x - 1) / 2 - k) [] else []
def CK (k : Nat) (ps : List (List Nat)) (j : Nat) : gx k ps (2 * (k + j) + 1) = ps.getD j [] := by
  unfold gx
  rw [if_pos ⟨by omega, by omega⟩]
  congr 1; omega
def xA {ps : List (List Nat)} {j b : Nat} (h : b ∈ ps.getD j []) : b ∈ ps.flatten := by
  rw [List.getD_eq_getElem?_getD] at h
  cases hp : ps[j]? with
  | none => rw [hp] at h; simp at h
  | some p => rw [hp] at h; exact List.mem_flatten.2 ⟨p, List.mem_of_getElem? hp, h⟩
def rZ {k : Nat} {ps : List (List Nat)} {x b : Nat} (h : b ∈ gx k ps x) : b ∈ ps.flatten := by
  unfold gx at h
  split at h
  · exact xA h
  · simp at h
def xB : ∀ {ps : List (List Nat)}, ps.flatten.Nodup → (∀ j, (ps.getD j []).Nodup) ∧ ∀ i j, i ≠ j → ∀ b, b ∈ ps.getD i [] → b ∉ ps.getD j []
  | [], _ => ⟨fun j => by simp, fun i j _ b hb => by simp at hb⟩
  | p :: ps, h => by
    rw [List.flatten_cons, cg] at h
    obtain ⟨h1, h2, h3⟩ := h
    obtain ⟨k1, k2⟩ := xB h2
    refine ⟨fun j => ?_, fun i j hij b hb hb' => ?_⟩
    · cases j with
      | zero => exact h1
      | succ j => exact k1 j
    · cases i with
      | zero =>
        cases j with
        | zero => exact hij rfl
        | succ j => exact h3 b hb b (xA hb') rfl
      | succ i =>
        cases j with
        | zero => exact h3 b hb' b (xA hb) rfl
        | succ j => exact k2 i j (by omega) b hb hb'
def CL {k : Nat} {ps : List (List Nat)} (h : ps.flatten.Nodup) (x : Nat) : (gx k ps x).Nodup := by
  unfold gx
  split
  · exact (xB h).1 _
  · exact List.nodup_nil
def CM {k : Nat} {ps : List (List Nat)} (h : ps.flatten.Nodup) {x y : Nat} (hxy : x ≠ y) {b : Nat} (hb : b ∈ gx k ps x) : b ∉ gx k ps y := by
  unfold gx at hb ⊢
  split at hb
  · split
    · exact (xB h).2 _ _ (by omega) b hb
    · simp
  · simp at hb
def xC : ∀ {qs : List (Bool × List PV)} {k i : Nat} {rv : RV}, lk (fY k qs) i = some rv → ∃ j q, i = k + j ∧ qs[j]? = some q ∧ rv = RV.sv q.1 q.2
  | [], k, i, rv, h => by cases h
  | q :: qs, k, i, rv, h => by
    have h : (bif Nat.beq i k then some (RV.sv q.1 q.2) else lk (fY (k + 1) qs) i) = some rv := h
    rw [beq_eq] at h
    by_cases hi : i = k
    · simp [hi] at h; subst h; subst hi
      exact ⟨0, q, rfl, rfl, rfl⟩
    · simp [hi] at h
      obtain ⟨j, q', e1, e2, e3⟩ := xC h
      exact ⟨j + 1, q', by omega, by simpa using e2, e3⟩
def CN {Fz : av} {w : World} {rs : List (Bool × List PV)} {vs : List Value} {F : List Nat} (h : d2 rs Fz w vs F) (φ : Nat → Nat) : (az rs).holds φ Fz w (if h : vs.toArray.size = 1 then vs.toArray[0] else .tuple vs.toArray) F := by
  have hl := h.len
  by_cases h1 : vs.toArray.size = 1
  · rw [dif_pos h1]
    have hl1 : rs.length = 1 := by rw [← hl]; simpa using h1
    obtain ⟨q, rfl⟩ := List.length_eq_one_iff.1 hl1
    obtain ⟨v, vs2, F1, F2, rfl, rfl, k1, k2, rfl⟩ := h
    rw [dH]
    exact k1
  · rw [dif_neg h1]
    have hne : rs.length ≠ 1 := fun e => h1 (by simp [hl, e])
    have : az rs = RV.tup rs := by
      match rs, hne with
      | [], _ => rfl
      | [_], hne => exact absurd rfl hne
      | _ :: _ :: _, _ => rfl
    rw [this]
    exact ⟨vs.toArray, rfl, h⟩
def CO {fn : Func} {t : Array Value} {w : World} {vs : List Value} (e1 : Sem.run P (fn.results.toList.mapM (ne t)) w = .ok vs w) : (results fn t).run P w = .ok (if h : vs.toArray.size = 1 then vs.toArray[0] else .tuple vs.toArray) w := by
  have erun : Sem.run P (fn.results.mapM (ne t)) w = .ok vs.toArray w := by
    rw [Array.mapM_eq_mapM_toList]
    simp only [map_eq_pure_bind, Sem.run_bind, e1, Result.andThen_ok, Sem.run_pure]
  rw [xj]
  simp only [Sem.run_bind, erun, Result.andThen_ok, Sem.run_pure]
def Ng {f : FuncId} {fn : Func} {c : Code} {args rs : List (Bool × List PV)} (hf : P.funcs[f]? = some fn) (hb : fn.body = some c) (hn : args.length ≤ fn.ntmps)
    (h : ∀ (h0 : Nat → Prop) (w0 : World) (Fz0 : av), SW P fn.ntmps h0 w0 Fz0 c (St.of (fY 0 args) []) (rP P fn.results.toList rs)) : xz P f args (az rs) := by
  intro w vs Fz F hz hown hnd
  have hvl := hown.len
  have hFlt : ∀ b, b ∈ F → b < w.heap.size := fun b hb => hown.lt b hb
  obtain ⟨ps, e1, e2, e3⟩ := hown.parts
  refine calls_of_wp hf hb ?_
  have hc : bk (fun b => b < w.heap.size ∧ b ∉ F) w Fz fn.ntmps (St.of (fY 0 args) []) { tmps := vs.toArray ++ Array.replicate (fn.ntmps - vs.toArray.size) undef, defers := [] } w := by
    refine ⟨fun _ => 0, Fz, gx 0 ps, ⟨kt.refl _ _, rfl, by simp; omega, fun _ hb => hb.1, fun _ _ _ => Iff.rfl, hz, fun i rv hi => ?_, fun d cs hd => (by cases hd), fun d cs hd => (by cases hd), fun d d' cs cs' hd => (by cases hd), fun x y hxy b hx => CM (by rw [← e2]; exact hnd) hxy hx, fun x => CL (by rw [← e2]; exact hnd) x, fun x b hb => ?_⟩⟩
    · obtain ⟨j, q, k1, k2, rfl⟩ := xC hi
      rw [Nat.zero_add] at k1
      subst k1
      obtain ⟨v, k3, k4⟩ := e3 i q k2
      have : (vs.toArray ++ Array.replicate (fn.ntmps - vs.toArray.size) undef).getD i undef = v := by
        rw [Array.getD_eq_getD_getElem?, Array.getElem?_append_left (by have := (List.getElem?_eq_some_iff.1 k3).1; simpa using this)]
        simp [k3]
      rw [this]
      have e := CK 0 ps i
      rw [Nat.zero_add] at e
      rw [e]; exact k4
    · have := rZ hb
      rw [← e2] at this
      exact ⟨fun k => k.2 this, hFlt b this⟩
  refine wp_mono (h _ w Fz _ w hc) fun e a' w' ⟨τ, hq, hc'⟩ => ?_
  obtain ⟨φ, Fz', Fp, hc'⟩ := hc'
  have hres : nd P fn.results.toList rs τ → a'.defers = [] ∧ ∃ v, (results fn a'.tmps).run P w' = .ok v w' ∧ ∃ (v' : Value) (Fz' : av) (G : List Nat), Ending.returned v = .returned v' ∧ t9 F none Fz w Fz' w' ∧ (∀ φ, (az rs).holds φ Fz' w' v' G) ∧ G.Nodup ∧ ∀ b, b ∈ G → b ∈ F ∨ (w.heap.size ≤ b ∧ b < w'.heap.size) := by
    intro hr
    obtain ⟨vs', G, r1, r2, r3, r4⟩ := rO _ rs hc' hr
    refine ⟨hc'.dfr, _, CO r1, _, Fz', G, rfl, ⟨hc'.bel.os, hc'.bel.tape, hc'.bel.output, hc'.bel.size, fun b k1 _ k2 => ⟨hc'.bel.block b ⟨k1, k2⟩, fun o => hc'.fz0 b o ⟨k1, k2⟩⟩, hc'.fzl⟩, CN r2, r3, fun b hb => ?_⟩
    obtain ⟨r, _, hr⟩ := r4 b hb
    have := hc'.low r b hr
    by_cases hbF : b ∈ F
    · exact .inl hbF
    · exact .inr ⟨Nat.le_of_not_lt fun hlt => this.1 ⟨hlt, hbF⟩, this.2⟩
  cases e with
  | normal => exact hres hq
  | ret => exact hres hq
  | _ => exact hq.elim
def RV.phi (D g : Nat) : RV where
  holds φ _ _ _ F := φ D = g ∧ F = []
  men x := Nat.beq x D
  mono h _ _ hφ := ⟨by rw [hφ D (by simp)]; exact h.1, h.2⟩
  lt h := by rw [h.2]; simp
def RV.lcl_phi {L : Nat → Prop} {D g : Nat} : (RV.phi D g).Lcl L := fun h _ => h
def xD (P : Program) (rs : List ResultVar) (g t : Nat) (cs' : List PV) (qs : List (Bool × List PV)) (τ : St) : Prop := τ.b 0 = some (t, cs') ∧ τ.s 5000 = some (RV.phi 0 g) ∧ nd P rs qs (τ.setB 0 none)
def Nh (P : Program) (rs : List ResultVar) (g t : Nat) (cs' : List PV) (qs : List (Bool × List PV)) : Exit → St → Prop
  | .normal, τ => xD P rs g t cs' qs τ
  | .ret, τ => xD P rs g t cs' qs τ
  | _, _ => False
def xE {f : FuncId} {fn : Func} {c : Code} {t : Nat} {cs cs' : List PV} {args rs : List (Bool × List PV)} (hf : P.funcs[f]? = some fn) (hb : fn.body = some c) (hn : args.length + 1 ≤ fn.ntmps) (hn2 : args.length ≤ 4000)
    (h : ∀ (g : Nat) (h0 : Nat → Prop) (w0 : World) (Fz0 : av), SW P fn.ntmps h0 w0 Fz0 c (St.of ((0, RV.ptr 0 0) :: (5000, RV.phi 0 g) :: fY 1 args) [(0, (t, cs))]) (Nh P fn.results.toList g t cs' rs)) : rY P f t cs cs' args (az rs) := by
  intro w g cur vs Fz F1 F2 hz hg hfg hcs hown hnd
  have hvl := hown.len
  have hglt : g < w.heap.size := (Array.getElem?_eq_some_iff.1 hg).1
  have hFlt : ∀ b, b ∈ F2 → b < w.heap.size := fun b hb => hown.lt b hb
  have hFlt1 : ∀ b, b ∈ F1 → b < w.heap.size := fun b hb => hcs.lt b hb
  obtain ⟨ps, e1, e2, e3⟩ := hown.parts
  rw [fu, cg] at hnd
  obtain ⟨n0, n1, n2, n12⟩ := hnd
  have n0' : g ∉ F1 ∧ g ∉ F2 := ⟨fun k => n0 (List.mem_append.2 (.inl k)), fun k => n0 (List.mem_append.2 (.inr k))⟩
  refine calls_of_wp hf hb ?_
  have hodd : ∀ x b, b ∈ gx 1 ps x → x ≠ 2 := fun x b hb e => by
    subst e
    unfold gx at hb
    rw [if_neg (by omega)] at hb
    simp at hb
  have hfp : ∀ x b, b ∈ (fun x => if x = 2 then F1 else gx 1 ps x) x → (x = 2 ∧ b ∈ F1) ∨ (x ≠ 2 ∧ b ∈ gx 1 ps x) := fun x b hb => by
    simp only at hb
    split at hb
    · rename_i e; exact .inl ⟨e, hb⟩
    · rename_i e; exact .inr ⟨e, hb⟩
  have hc : bk (fun b => b < w.heap.size ∧ b ≠ g ∧ b ∉ F1 ++ F2) w Fz fn.ntmps (St.of ((0, RV.ptr 0 0) :: (5000, RV.phi 0 g) :: fY 1 args) [(0, (t, cs))]) { tmps := (.pointer (some ⟨g, 0, none⟩) :: vs).toArray ++ Array.replicate (fn.ntmps - (Value.pointer (some ⟨g, 0, none⟩) :: vs).toArray.size) undef, defers := [] } w := by
    refine ⟨fun _ => g, Fz, fun x => if x = 2 then F1 else gx 1 ps x, ⟨kt.refl _ _, rfl, by simp; omega, fun _ hb => hb.1, fun _ _ _ => Iff.rfl, hz, fun i rv hi => ?_, fun d bx hd => ?_, fun d bx hd => ?_, fun d d' bx bx' hd hd' _ => ?_, fun x y hxy b hx hy => ?_, fun x => ?_, fun x b hb => ?_⟩⟩
    · by_cases hi0 : i = 0
      · subst hi0
        have hi' : RV.ptr 0 0 = rv := by injection hi
        subst hi'
        have : ((.pointer (some ⟨g, 0, none⟩) :: vs).toArray ++ Array.replicate (fn.ntmps - (Value.pointer (some ⟨g, 0, none⟩) :: vs).toArray.size) undef).getD 0 undef = .pointer (some ⟨g, 0, none⟩) := by
          rw [Array.getD_eq_getD_getElem?, Array.getElem?_append_left (by simp)]
          simp
        rw [this]
        refine ⟨rfl, ?_⟩
        simp only [gx]
        rw [if_neg (by omega), if_neg (by omega)]
      · have hi2 : (if i = 5000 then some (RV.phi 0 g) else lk (fY 1 args) i) = some rv := by
          have : (bif Nat.beq i 0 then some (RV.ptr 0 0) else bif Nat.beq i 5000 then some (RV.phi 0 g) else lk (fY 1 args) i) = some rv := hi
          rw [beq_eq, beq_eq] at this
          by_cases h5 : i = 5000
          · simpa [hi0, h5] using this
          · simpa [hi0, h5] using this
        by_cases h5 : i = 5000
        · subst h5
          rw [if_pos rfl] at hi2
          injection hi2 with hi2
          subst hi2
          refine ⟨rfl, ?_⟩
          show (if 2 * 5000 + 1 = 2 then F1 else gx 1 ps (2 * 5000 + 1)) = []
          rw [if_neg (by omega)]
          unfold gx
          rw [if_pos (by omega), List.getD_eq_getElem?_getD, List.getElem?_eq_none (by omega)]
          rfl
        rw [if_neg h5] at hi2
        have hi' := hi2
        obtain ⟨j, q, k1, k2, rfl⟩ := xC hi'
        subst k1
        obtain ⟨v, k3, k4⟩ := e3 j q k2
        have hjl := (List.getElem?_eq_some_iff.1 k3).1
        have : ((.pointer (some ⟨g, 0, none⟩) :: vs).toArray ++ Array.replicate (fn.ntmps - (Value.pointer (some ⟨g, 0, none⟩) :: vs).toArray.size) undef).getD (1 + j) undef = v := by
          rw [Array.getD_eq_getD_getElem?, Array.getElem?_append_left (by simp; omega)]
          rw [Nat.add_comm]
          simp [k3]
        rw [this]
        have k5 : bQ q.1 q.2 Fz w v (if 2 * (1 + j) + 1 = 2 then F1 else gx 1 ps (2 * (1 + j) + 1)) := by rw [if_neg (by omega), CK]; exact k4
        exact k5
    · have hd2 : (bif Nat.beq d 0 then some (t, cs) else none) = some bx := hd
      rw [beq_eq] at hd2
      by_cases h0' : d = 0
      · simp [h0'] at hd2; subst hd2; subst h0'
        exact ⟨cur, hg, by simpa using hcs⟩
      · simp [h0'] at hd2
    · have hd2 : (bif Nat.beq d 0 then some (t, cs) else none) = some bx := hd
      refine ⟨fun k => k.2.1 rfl, hfg, fun r hr => ?_⟩
      rcases hfp r _ hr with ⟨_, k⟩ | ⟨_, k⟩
      · exact n0'.1 k
      · have := rZ k
        rw [← e2] at this
        exact n0'.2 this
    · have hd2 : (bif Nat.beq d 0 then some (t, cs) else none) = some bx := hd
      have hd3 : (bif Nat.beq d' 0 then some (t, cs) else none) = some bx' := hd'
      rw [beq_eq] at hd2 hd3
      by_cases k1 : d = 0
      · by_cases k2 : d' = 0
        · omega
        · simp [k2] at hd3
      · simp [k1] at hd2
    · rcases hfp x _ hx with ⟨k1, k2⟩ | ⟨k1, k2⟩ <;> rcases hfp y _ hy with ⟨k3, k4⟩ | ⟨k3, k4⟩
      · omega
      · have := rZ k4
        rw [← e2] at this
        exact n12 b k2 b this rfl
      · have := rZ k2
        rw [← e2] at this
        exact n12 b k4 b this rfl
      · exact CM (by rw [← e2]; exact n2) hxy k2 k4
    · split
      · exact n1
      · exact CL (by rw [← e2]; exact n2) x
    · rcases hfp x _ hb with ⟨_, k⟩ | ⟨_, k⟩
      · exact ⟨fun q => q.2.2 (List.mem_append.2 (.inl k)), hFlt1 b k⟩
      · have := rZ k
        rw [← e2] at this
        exact ⟨fun q => q.2.2 (List.mem_append.2 (.inr this)), hFlt b this⟩
  refine wp_mono (h g _ w Fz _ w hc) fun e a' w' ⟨τ, hq, hc'⟩ => ?_
  obtain ⟨φ, Fz', Fp, hc'⟩ := hc'
  have hres : xD P fn.results.toList g t cs' rs τ → a'.defers = [] ∧ ∃ v, (results fn a'.tmps).run P w' = .ok v w' ∧ ∃ (v' : Value) (Fz' : av) (cur' : Array Value) (F1' G : List Nat), Ending.returned v = .returned v' ∧ t9 (F1 ++ F2) (some g) Fz w Fz' w' ∧ w'.heap[g]? = some (.cells cur' t (0, 0)) ∧ (∀ o, ¬ Fz' g o) ∧ aJ cs' Fz' w' cur'.toList F1' ∧
      (∀ φ, (az rs).holds φ Fz' w' v' G) ∧ (g :: (F1' ++ G)).Nodup ∧ ∀ b, b ∈ F1' ++ G → b ∈ F1 ++ F2 ∨ (w.heap.size ≤ b ∧ b < w'.heap.size) := by
    rintro ⟨hb0, hG, hr⟩
    have hφ : φ 0 = g := (hc'.slot 5000 _ hG).1
    obtain ⟨cur', hg', ho'⟩ := hc'.box 0 _ hb0
    obtain ⟨m1, m2, m3⟩ := hc'.bxb 0 _ hb0
    rw [hφ] at hg' m1 m2 m3
    have c1 := hc'.pullB hb0
    obtain ⟨vs', G, r1, r2, r3, r4⟩ := rO _ rs c1 hr
    have hG2 : ∀ b, b ∈ G → ∃ r, r ≠ 2 ∧ b ∈ Fp r := fun b hb => by
      obtain ⟨r, k1, k2⟩ := r4 b hb
      have k2 : b ∈ (if r = 0 then φ 0 :: mv Fp (2 * 0 + 2) 0 else mv Fp (2 * 0 + 2) r) := k2
      rw [if_neg k1] at k2
      unfold mv at k2
      rw [if_neg k1] at k2
      split at k2
      · simp at k2
      · rename_i k3; exact ⟨r, by omega, k2⟩
    have hlow : ∀ x b, b ∈ Fp x → b ∈ F1 ++ F2 ∨ (w.heap.size ≤ b ∧ b < w'.heap.size) := fun x b hb => by
      have := hc'.low x b hb
      by_cases hbF : b ∈ F1 ++ F2
      · exact .inl hbF
      · exact .inr ⟨Nat.le_of_not_lt fun hlt => this.1 ⟨hlt, fun e => m3 x (e ▸ hb), hbF⟩, this.2⟩
    refine ⟨hc'.dfr, _, CO r1, _, Fz', cur', Fp 2, G, rfl, ⟨hc'.bel.os, hc'.bel.tape, hc'.bel.output, hc'.bel.size, fun b k1 k0 k2 => ?_, hc'.fzl⟩, hg', m2, ho', CN r2, ?_, fun b hb => ?_⟩
    · have hbg : b ≠ g := fun e => k0 (by rw [e])
      exact ⟨hc'.bel.block b ⟨k1, hbg, k2⟩, fun o => hc'.fz0 b o ⟨k1, hbg, k2⟩⟩
    · rw [fu, cg]
      refine ⟨fun hh => ?_, hc'.nod 2, r3, fun x hx y hy e => ?_⟩
      · rcases List.mem_append.1 hh with hh | hh
        · exact m3 2 hh
        · obtain ⟨r, _, k⟩ := hG2 g hh
          exact m3 r k
      · subst e
        obtain ⟨r, k1, k2⟩ := hG2 x hy
        exact hc'.dis r 2 k1 x k2 hx
    · rcases List.mem_append.1 hb with hb | hb
      · exact hlow 2 b hb
      · obtain ⟨r, _, k⟩ := hG2 b hb
        exact hlow r b k
  cases e with
  | normal => exact hres hq
  | ret => exact hres hq
  | _ => exact hq.elim
end
end
section
section
variable {P : Program} {n : Nat} {h0 : Nat → Prop} {w0 : World} {Fz0 : av} {ops : Array Oper} {Q : Exit → St → Prop}
def Ni {f d t : Nat} {xs : List Operand} {args : Array Operand} {tys : Array TypeId} {ty : TypeId} {pos : String} {af : Array Edge} {g : Option (Nat × Bool)} {a : Act} {w : World} (hf : aw P f = true) (he : args.toList = .tmp t :: xs) :
    (execOp a.eval ⟨some d, .call { callee := .value (.func f), args := args, argTypes := tys }, ty, pos, af, g⟩).run P w = .ok (.enter f (a.tmps.getD t undef :: xs.map a.eval).toArray) w := by
  unfold execOp
  have e : (#[] ++ args.map a.eval ++ #[] : Array Value) = (args.toList.map a.eval).toArray := by apply Array.ext'; simp
  simp only [resolve, Act.eval, Deferred.ofValue, Sem.run_bind, Sem.run_pure, Result.andThen_ok, invoke]
  rw [rN hf, e, he]; rfl
def Nj {f d : Nat} {args : Array Operand} {tys : Array TypeId} {ty : TypeId} {pos : String} {af : Array Edge} {g : Option (Nat × Bool)} {a : Act} {w : World} (hf : aw P f = true) :
    (execOp a.eval ⟨some d, .call { callee := .value (.func f), args := args, argTypes := tys }, ty, pos, af, g⟩).run P w = .ok (.enter f (args.toList.map a.eval).toArray) w := by
  unfold execOp
  have e : (#[] ++ args.map a.eval ++ #[] : Array Value) = (args.toList.map a.eval).toArray := by apply Array.ext'; simp
  simp only [resolve, Act.eval, Deferred.ofValue, Sem.run_bind, Sem.run_pure, Result.andThen_ok, invoke]
  rw [rN hf, e]
def PV.OTo (p q : PV) : Prop := ∀ {Fz : av} {w : World} {v : Value} {F : List Nat}, p.own Fz w v F → q.own Fz w v F
def OTo.refl {p : PV} : p.OTo p := fun h => h
def OTo.lo {L : Nat → Prop} {es : List (List PV)} : (PV.sl (.lo L) es).OTo (PV.sl .v es) := fun h => ⟨h.1.1, h.2⟩
def OTo.nv {u : Value} {p : PV} : (PV.nv u p).OTo p := fun h => h.2
def aA.cons {p q : PV} {ps qs : List PV} (h : p.OTo q) (k : aA ps qs) : aA (p :: ps) (q :: qs) := fun hh => by
  obtain ⟨v, vs', F1, F2, rfl, rfl, h1, h2⟩ := hh
  exact ⟨v, vs', F1, F2, rfl, rfl, h h1, k h2⟩
def qm : List (Bool × List PV) → List (Bool × List PV) → Prop
  | [], [] => True
  | p :: ps, q :: qs => (p.1 = q.1 ∧ aA p.2 q.2) ∧ qm ps qs
  | _, _ => False
def qm.own {Fz : av} {w : World} : ∀ {ps qs : List (Bool × List PV)} {vs : List Value} {F : List Nat}, qm ps qs → d2 ps Fz w vs F → d2 qs Fz w vs F
  | [], [], _, _, _, h => h
  | p :: ps, q :: qs, _, _, k, h => by
    obtain ⟨v, vs', F1, F2, rfl, rfl, h1, h2⟩ := h
    exact ⟨v, vs', F1, F2, rfl, rfl, ⟨k.1.1 ▸ h1.1, k.1.2 h1.2⟩, qm.own k.2 h2⟩
def qn (L : Nat → Prop) (ts : List Nat) : List (Nat × RV) → Prop
  | [] => True
  | p :: l => (p.1 ∈ ts ∨ p.2.Lcl L) ∧ qn L ts l
def qn.mem {L : Nat → Prop} {ts : List Nat} : ∀ {l : List (Nat × RV)}, qn L ts l → ∀ p, p ∈ l → p.1 ∈ ts ∨ p.2.Lcl L
  | [], _, p, hp => by simp at hp
  | q :: l, h, p, hp => by
    rcases List.mem_cons.1 hp with rfl | hp
    · exact h.1
    · exact qn.mem h.2 p hp
def xF : ∀ {xs : List Operand} {f : Nat → Option RV} {i : Nat} {rv : RV}, bJ (jH xs) f i = some rv → i ∉ iM xs ∧ f i = some rv
  | [], f, i, rv, h => ⟨by simp [iM], h⟩
  | x :: xs, f, i, rv, h => by
    have h : bJ (jH xs) (bJ (na x) f) i = some rv := by rw [← rL]; exact h
    obtain ⟨k1, k2⟩ := xF h
    cases x with
    | tmp t =>
      have k2 : (bif Nat.beq i t then none else f i) = some rv := k2
      rw [beq_eq] at k2
      by_cases e : i = t
      · simp [e] at k2
      · simp [e] at k2
        exact ⟨by simp [iM, e, k1], k2⟩
    | _ => exact ⟨k1, k2⟩
def xG {f d : Nat} {L : Nat → Prop} {args : Array Operand} {tys : Array TypeId} {ty : TypeId} {pos : String} {af : Array Edge} {ol : List Oper} {l : List (Nat × RV)} {b : List (Nat × (Nat × List PV))} {qs as_ : List (Bool × List PV)} {r : RV}
    (hd : d < n) (hf : aw P f = true) (hrd : a8 (iL args.toList qs) (lk l)) (hok : j0 args.toList qs) (hap : tR args.toList = true) (hto : qm qs as_) (hu : xz P f as_ r) (hL : ∀ x, L x → h0 x) (hls : qn L (iM args.toList) l) (hlb : qj L b)
    (h : gP P n h0 w0 Fz0 ops ol ((⟨bJ (jH args.toList) (lk l), lk b⟩ : St).set d (some r)) Q) :
    gP P n h0 w0 Fz0 ops (⟨some d, .call { callee := .value (.func f), args := args, argTypes := tys }, ty, pos, af, none⟩ :: ol) (St.of l b) Q := fun a w hc => by
  obtain ⟨φ, Fz, Fp, hc⟩ := hc
  obtain ⟨F, Fp', hown, c1, hm, hnd⟩ := hc.pulls args.toList qs hrd hok (of_decide_eq_true hap)
  have hF := (List.nodup_append.1 hnd).1
  refine wpList_plain rfl fun K hK => ?_
  unfold Oper.wp
  rw [Nj hf, Oper.upon_enter]
  refine (hu w _ Fz F hc.fzl (hto.own hown) hF).mono ?_
  rintro e w' ⟨v, Fz', G, rfl, ht, hv, hn, hin⟩
  have hlt0 : ∀ x, x ∈ Fp 0 → x < w.heap.size := fun x hx => (hc.low 0 x hx).2
  have c2 := c1.uworld (w' := w') (Fz' := Fz') (L := L) (X := G ++ Fp 0) ht.os ht.tape ht.output ht.size (fun x hx hx0 => ht.same x hx (by simp) (fun k => hx0 ((hm x).2 (by simp [k])))) hL
    (fun i rv hi => by
      obtain ⟨k1, k2⟩ := xF hi
      rcases hls.mem _ (fy k2) with k | k
      · exact absurd k k1
      · exact k)
    (fun d' bx hb => qj.mem hlb _ (fy hb)) ht.fzl
    (fun x hx => by
      rcases List.mem_append.1 hx with hx | hx
      · rcases hin x hx with k | k
        · exact .inl ((hm x).2 (by simp [k]))
        · exact .inr k
      · exact .inl ((hm x).2 (by simp [hx])))
    (by
      rw [cg] at hnd ⊢
      refine ⟨hn, hnd.2.1, fun x hx y hy e => ?_⟩
      rcases hin x hx with k | k
      · exact hnd.2.2 x k y hy e
      · have := hlt0 y hy; omega)
  have c3 := c2.push (i := d) (rv := r) (v := v) (F := G) (X := Fp 0) hd (hv _) (fun x hx => by simpa using hx) (by
      have := c2.nod 0
      simpa using this)
  exact hK _ _ (h _ _ ⟨_, _, _, c3⟩)
def r5 {f d p bx t : Nat} {L : Nat → Prop} {xs : List Operand} {args : Array Operand} {tys : Array TypeId} {ty : TypeId} {pos : String} {af : Array Edge} {ol : List Oper} {l : List (Nat × RV)} {b : List (Nat × (Nat × List PV))} {cs cs' : List PV} {qs as_ : List (Bool × List PV)} {r : RV}
    (hd : d < n) (hf : aw P f = true) (he : args.toList = .tmp p :: xs) (hp : lk l p = some (RV.ptr bx 0)) (hbx : lk b bx = some (t, cs)) (hrd : a8 (iL xs qs) (lk l)) (hok : j0 xs qs) (hap : tR xs = true) (hto : qm qs as_) (hu : rY P f t cs cs' as_ r) (hL : ∀ x, L x → h0 x) (hls : qn L (iM xs) l) (hlb : me L bx b)
    (h : gP P n h0 w0 Fz0 ops ol (((⟨bJ (jH xs) (lk l), lk b⟩ : St).setB bx (some (t, cs'))).set d (some r)) Q) :
    gP P n h0 w0 Fz0 ops (⟨some d, .call { callee := .value (.func f), args := args, argTypes := tys }, ty, pos, af, none⟩ :: ol) (St.of l b) Q := fun a w hc => by
  obtain ⟨φ, Fz, Fp, hc⟩ := hc
  have hpv := (hc.slot p _ hp).1
  obtain ⟨F, Fp', hown, c1, hm, hnd⟩ := hc.pulls xs qs hrd hok (of_decide_eq_true hap)
  have hF := (List.nodup_append.1 hnd).1
  have hb1 : (⟨bJ (jH xs) (St.of l b).s, (St.of l b).b⟩ : St).b bx = some (t, cs) := hbx
  obtain ⟨cur, hg, ho⟩ := c1.box bx _ hb1
  obtain ⟨g1, g2, g3⟩ := c1.bxb bx _ hb1
  have hglt : φ bx < w.heap.size := (Array.getElem?_eq_some_iff.1 hg).1
  have c2 := c1.pullB hb1
  generalize hFp2 : (fun x => if x = 0 then φ bx :: mv Fp' (2 * bx + 2) 0 else mv Fp' (2 * bx + 2) x) = Fp2 at c2
  have e0 : Fp2 0 = φ bx :: (Fp' (2 * bx + 2) ++ Fp' 0) := by rw [← hFp2]; simp [mv]
  have hFin : ∀ x, x ∈ F → x ∈ Fp' 0 := fun x hx => (hm x).2 (by simp [hx])
  have hXin : ∀ x, x ∈ Fp 0 → x ∈ Fp' 0 := fun x hx => (hm x).2 (by simp [hx])
  have hn1 : (φ bx :: (Fp' (2 * bx + 2) ++ F)).Nodup := by
    rw [fu, cg]
    refine ⟨fun k => ?_, c1.nod _, hF, fun x hx y hy e => ?_⟩
    · rcases List.mem_append.1 k with k | k
      · exact g3 _ k
      · exact g3 0 (hFin _ k)
    · subst e
      exact c1.dis 0 (2 * bx + 2) (by omega) x (hFin x hy) hx
  refine wpList_plain rfl fun K hK => ?_
  unfold Oper.wp
  rw [Ni hf he, hpv, Oper.upon_enter]
  refine (hu w (φ bx) cur _ Fz _ F hc.fzl hg g2 ho (hto.own hown) hn1).mono ?_
  rintro e w' ⟨v, Fz', cur', F1', G, rfl, ht, hg', hf', ho', hv, hn, hin⟩
  have hn' := hn
  rw [fu, cg] at hn'
  have hlt0 : ∀ x, x ∈ Fp 0 → x < w.heap.size := fun x hx => (hc.low 0 x hx).2
  have hdis0 : ∀ x, x ∈ Fp 0 → x ≠ φ bx ∧ x ∉ Fp' (2 * bx + 2) ∧ x ∉ F := fun x hx => by
    refine ⟨fun e => g3 0 (e ▸ hXin x hx), fun k => c1.dis 0 (2 * bx + 2) (by omega) x (hXin x hx) k, fun k => ?_⟩
    rw [cg] at hnd
    exact hnd.2.2 x k x hx rfl
  have hdn : ∀ x, x ∈ F1' ++ G → x ∉ Fp 0 := fun x hx k => by
    obtain ⟨k1, k2, k3⟩ := hdis0 x k
    rcases hin x hx with hx | hx
    · rcases List.mem_append.1 hx with hx | hx
      · exact k2 hx
      · exact k3 hx
    · have := hlt0 x k; omega
  have c3 := c2.uworld (w' := w') (Fz' := Fz') (L := L) (X := φ bx :: (F1' ++ (G ++ Fp 0))) ht.os ht.tape ht.output ht.size (fun x hx hx0 => ht.same x hx (fun k => hx0 (by rw [e0, Option.some.inj k]; simp)) (fun k => hx0 (by
        rw [e0]
        rcases List.mem_append.1 k with k | k
        · simp [k]
        · simp [hFin x k]))) hL
    (fun i rv hi => by
      obtain ⟨k1, k2⟩ := xF hi
      rcases hls.mem _ (fy k2) with k | k
      · exact absurd k k1
      · exact k)
    (fun d' bxx hb => by
      rw [St.setB_b] at hb
      split at hb
      · cases hb
      · rename_i hne
        rcases hlb.mem _ (fy hb) with k | k
        · exact absurd k hne
        · exact k) ht.fzl
    (fun x hx => by
      rw [e0]
      simp only [ii, dr] at hx ⊢
      rcases hx with hx | hx | hx | hx
      · exact .inl (.inl hx)
      · rcases hin x (by simp [hx]) with k | k
        · rcases List.mem_append.1 k with k | k
          · exact .inl (.inr (.inl k))
          · exact .inl (.inr (.inr (hFin x k)))
        · exact .inr k
      · rcases hin x (by simp [hx]) with k | k
        · rcases List.mem_append.1 k with k | k
          · exact .inl (.inr (.inl k))
          · exact .inl (.inr (.inr (hFin x k)))
        · exact .inr k
      · exact .inl (.inr (.inr (hXin x hx))))
    (by
      rw [fu, cg, cg]
      refine ⟨fun k => ?_, hn'.2.1, ⟨hn'.2.2.1, (List.nodup_append.1 hnd).2.1, fun x hx y hy e => hdn x (by simp [hx]) (e ▸ hy)⟩, fun x hx y hy e => ?_⟩
      · simp only [dr] at k
        rcases k with k | k | k
        · exact hn'.1 (by simp [k])
        · exact hn'.1 (by simp [k])
        · exact (hdis0 _ k).1 rfl
      · rcases List.mem_append.1 hy with hy | hy
        · exact hn'.2.2.2 x hx y hy e
        · exact hdn x (by simp [hx]) (e ▸ hy))
  have hnX : (F1' ++ φ bx :: (G ++ Fp 0)).Nodup := by
    have := c3.nod 0
    simp only [if_true] at this
    refine (List.Perm.nodup_iff ?_).2 this
    exact List.perm_middle
  have c4 := c3.pushB (d := bx) (g := φ bx) (t := t) (cs := cs') (cur := cur') (F := F1') (X := G ++ Fp 0) (by simp [St.setB_b]) hg' ho' hf' (fun x hx => by
      simp only [if_true]
      simp only [dr, ii] at hx ⊢
      rcases hx with hx | hx | hx | hx <;> simp [hx]) hnX (.inl rfl)
  have c5 := c4.push (i := d) (rv := r) (v := v) (F := G) (X := Fp 0) hd (hv _) (fun x hx => by
      simp only [co, if_true]
      rw [if_neg (by omega)]
      exact hx) (by
      have := c4.nod 0
      simp only [co, if_true] at this
      rw [if_neg (by omega)] at this
      exact this)
  exact hK _ _ (h _ _ (bk.eqv ⟨_, _, _, c5⟩ (fun i => rfl) (fun x => by
    simp only [St.set_b, St.setB_b]
    split <;> rfl)))
end
end
section
section
variable {P : Program} {n : Nat} {h0 : Nat → Prop} {w0 : World} {Fz0 : av} {ops : Array Oper} {Q : Exit → St → Prop}
def bA {α : Type} (f : α → List PV) (xs : List α) (jk : List Value) : List PV := (xs.map f).flatten ++ jk.map PV.val
def Nk {T d p b off t k e : Nat} {ty : TypeId} {pos : String} {af : Array Edge} {g : Option (Nat × Bool)} {ag : Bool} {α : Type} {f : α → List PV} {xs : List α} {jk : List Value} {qs : List PV} (hf : ∀ x, (f x).length = e) (hoff : off = k * e) (hk : k < xs.length) (hd : d < n) (hT : bO P T = some (ag, e)) (h1 : ag = false → e = 1)
    (ht : am (f xs[k]) qs) (hb : ao qs) :
    Loc P n ⟨some d, .load T (.tmp p), ty, pos, af, g⟩ ⟨[(p, RV.ptr b off)], [(b, (t, bA f xs jk))], [(d, some (RV.sv ag qs))], [], none⟩ := by
  unfold bA
  rw [hO hk]
  exact fZ (o := 0) (by rw [hoff, iq hf (Nat.le_of_lt hk)]; rfl) hd hT h1 (by rw [hf]; omega) (by rw [List.drop_zero, gt (by rw [hf]; exact Nat.le_refl _)]; exact ht) hb
def Nl {T p b off t k e : Nat} {x : Operand} {ty : TypeId} {pos : String} {af : Array Edge} {g : Option (Nat × Bool)} {ag : Bool} {α : Type} {f : α → List PV} {xs : List α} {jk : List Value} {vs : List PV} (y : α) (hf : ∀ x, (f x).length = e) (hoff : off = k * e) (hk : k < xs.length) (hT : bO P T = some (ag, e)) (hx : b7 x (RV.sv ag vs)) (hv : vs = f y) :
    Loc P n ⟨none, .store T (.tmp p) x, ty, pos, af, g⟩ ⟨(p, RV.ptr b off) :: bD x (RV.sv ag vs), [(b, (t, bA f xs jk))], na x, [(b, some (t, bA f (xs.set k y) jk))], none⟩ := by
  have h : Loc P n ⟨none, .store T (.tmp p) x, ty, pos, af, g⟩ _ := fP (off := off) (P := P) (n := n) (T := T) (p := p) (b := b) (t := t) (x := x) (ty := ty) (pos := pos) (af := af) (g := g) (ag := ag) (A := ((xs.take k).map f).flatten) (m := f xs[k]) (B := ((xs.drop (k + 1)).map f).flatten ++ jk.map PV.val) (vs := vs) (o := 0) (by rw [hoff, iq hf (Nat.le_of_lt hk)]; rfl) hT hx (by rw [hv]; exact hf y) (by rw [hf]; omega)
  unfold bA
  rw [hO hk, ← lr (cs := vs) y hk hv]
  have e2 : List.take 0 (f xs[k]) ++ (vs ++ List.drop (0 + e) (f xs[k])) = vs := by
    rw [List.take_zero, List.nil_append, List.drop_eq_nil_of_le (by rw [hf]; omega), dH]
  rw [e2] at h
  exact @h
end
end
section
section
variable {P : Program} {n : Nat} {h0 : Nat → Prop} {w0 : World} {Fz0 : av} {ops : Array Oper} {σ σ0 : St} {QS : St → Prop} {Q : Exit → St → Prop} {o : Oper} {l : List Oper} {acc : List (Nat × aG)} {c : Code}
def rA {L : aG} (y : aq P n ops QS l (σ.app L)) (h1 : a8 L.rs σ.s := by repeat (first | exact True.intro | refine And.intro rfl ?_)) (h2 : a8 L.rb σ.b := by repeat (first | exact True.intro | refine And.intro rfl ?_)) (x : Loc P n o L) (hg : o.guard = none := by exact rfl) (ha : L.al = none := by exact rfl) : aq P n ops QS (o :: l) σ :=
  aq.step h1 h2 (ax.of hg x) (fun d hd => by rw [ha] at hd; cases hd) y
def rB {L : aG} {g s : Nat} {b c : Bool} (hb : c = b) (y : aq P n ops QS l (σ.app ⟨(s, RV.bool c) :: L.rs, L.rb, L.ws, L.wb, L.al⟩)) (hg : o.guard = some (g, b) := by exact rfl) (hs : (ops[g]?).bind (·.dst) = some s := by exact rfl) (h1 : a8 ((s, RV.bool c) :: L.rs) σ.s := by repeat (first | exact True.intro | refine And.intro rfl ?_)) (h2 : a8 L.rb σ.b := by repeat (first | exact True.intro | refine And.intro rfl ?_)) (x : Loc P n o L) (hlt : s < n := by decide) (ha : L.al = none := by exact rfl) : aq P n ops QS (o :: l) σ :=
  aq.step (L := ⟨(s, RV.bool c) :: L.rs, L.rb, L.ws, L.wb, L.al⟩) h1 h2 (ax.yes hg hs hlt hb x) (fun d hd => by have hd : L.al = some d := hd; rw [ha] at hd; cases hd) y
def dA {L : aG} (m : Nat) (y : bY P n ops σ0 (fun _ _ => True) QS l (acc ++ [(m, L)]) (σ.app L)) (h1 : a8 L.rs σ.s := by repeat (first | exact True.intro | refine And.intro rfl ?_)) (h2 : a8 L.rb σ.b := by repeat (first | exact True.intro | refine And.intro rfl ?_)) (x : Loc P n o L) (hg : o.guard = none := by exact rfl) (ha : L.al = none := by exact rfl) (h4 : lj m o L acc = true := by kernel_rfl) : bY P n ops σ0 (fun _ _ => True) QS (o :: l) acc σ :=
  bY.step m h1 h2 (ax.of hg x) (fun d hd => by rw [ha] at hd; cases hd) h4 y
def dB {L : aG} {g s : Nat} {b c : Bool} (m : Nat) (hb : c = b) (y : bY P n ops σ0 (fun _ _ => True) QS l (acc ++ [(m, ⟨(s, RV.bool c) :: L.rs, L.rb, L.ws, L.wb, L.al⟩)]) (σ.app ⟨(s, RV.bool c) :: L.rs, L.rb, L.ws, L.wb, L.al⟩)) (hg : o.guard = some (g, b) := by exact rfl) (hs : (ops[g]?).bind (·.dst) = some s := by exact rfl) (h1 : a8 ((s, RV.bool c) :: L.rs) σ.s := by repeat (first | exact True.intro | refine And.intro rfl ?_)) (h2 : a8 L.rb σ.b := by repeat (first | exact True.intro | refine And.intro rfl ?_)) (x : Loc P n o L) (hlt : s < n := by decide) (ha : L.al = none := by exact rfl)
    (h4 : lj m o ⟨(s, RV.bool c) :: L.rs, L.rb, L.ws, L.wb, L.al⟩ acc = true := by kernel_rfl) : bY P n ops σ0 (fun _ _ => True) QS (o :: l) acc σ :=
  bY.step (L := ⟨(s, RV.bool c) :: L.rs, L.rb, L.ws, L.wb, L.al⟩) m h1 h2 (ax.yes hg hs hlt hb x) (fun d hd => by have hd : L.al = some d := hd; rw [ha] at hd; cases hd) h4 y
def dF {g s d : Nat} {c : Bool} (m : Nat) (hb : c = false) (y : bY P n ops σ0 (fun _ _ => True) QS l (acc ++ [(m, ⟨[(s, RV.bool c)], [], [(d, some RV.und)], [], none⟩)]) (σ.app ⟨[(s, RV.bool c)], [], [(d, some RV.und)], [], none⟩)) (hg : o.guard = some (g, true) := by exact rfl) (hs : (ops[g]?).bind (·.dst) = some s := by exact rfl) (hlt : s < n := by decide) (hd : o.dst = some d := by exact rfl)
    (h1 : σ.s s = some (RV.bool c) := by exact rfl) (h4 : lj m o ⟨[(s, RV.bool c)], [], [(d, some RV.und)], [], none⟩ acc = true := by kernel_rfl) : bY P n ops σ0 (fun _ _ => True) QS (o :: l) acc σ :=
  bY.step (L := ⟨[(s, RV.bool c)], [], [(d, some RV.und)], [], none⟩) m ⟨h1, True.intro⟩ True.intro (ax.no hg hs hlt hb hd) aH h4 y
def dT {g s d : Nat} {c : Bool} (m : Nat) (hb : c = true) (y : bY P n ops σ0 (fun _ _ => True) QS l (acc ++ [(m, ⟨[(s, RV.bool c)], [], [(d, some RV.und)], [], none⟩)]) (σ.app ⟨[(s, RV.bool c)], [], [(d, some RV.und)], [], none⟩)) (hg : o.guard = some (g, false) := by exact rfl) (hs : (ops[g]?).bind (·.dst) = some s := by exact rfl) (hlt : s < n := by decide) (hd : o.dst = some d := by exact rfl)
    (h1 : σ.s s = some (RV.bool c) := by exact rfl) (h4 : lj m o ⟨[(s, RV.bool c)], [], [(d, some RV.und)], [], none⟩ acc = true := by kernel_rfl) : bY P n ops σ0 (fun _ _ => True) QS (o :: l) acc σ :=
  bY.step (L := ⟨[(s, RV.bool c)], [], [(d, some RV.und)], [], none⟩) m ⟨h1, True.intro⟩ True.intro (ax.no hg hs hlt hb hd) aH h4 y
def dU {g s d : Nat} {b : Bool} (m : Nat) (y : bY P n ops σ0 (fun _ _ => True) QS l (acc ++ [(m, ⟨[(s, RV.und)], [], [(d, some RV.und)], [], none⟩)]) (σ.app ⟨[(s, RV.und)], [], [(d, some RV.und)], [], none⟩)) (hg : o.guard = some (g, b) := by exact rfl) (hs : (ops[g]?).bind (·.dst) = some s := by exact rfl) (hd : o.dst = some d := by exact rfl)
    (h1 : σ.s s = some RV.und := by exact rfl) (h4 : lj m o ⟨[(s, RV.und)], [], [(d, some RV.und)], [], none⟩ acc = true := by kernel_rfl) : bY P n ops σ0 (fun _ _ => True) QS (o :: l) acc σ :=
  bY.step (L := ⟨[(s, RV.und)], [], [(d, some RV.und)], [], none⟩) m ⟨h1, True.intro⟩ True.intro (ax.noU hg hs hd) aH h4 y
def sO (l : List (Nat × RV)) (b : List (Nat × (Nat × List PV))) (h : SW P n h0 w0 Fz0 c (St.of l b) Q) (hl : a8 l σ.s := by repeat (first | exact True.intro | refine And.intro rfl ?_)) (hb : a8 b σ.b := by repeat (first | exact True.intro | refine And.intro rfl ?_)) : SW P n h0 w0 Fz0 c σ Q := MT hl hb h
def wO (m : List (Nat × RV)) (b : List (Nat × (Nat × List PV))) (h : gP P n h0 w0 Fz0 ops l (St.of m b) Q) (hl : a8 m σ.s := by repeat (first | exact True.intro | refine And.intro rfl ?_)) (hb : a8 b σ.b := by repeat (first | exact True.intro | refine And.intro rfl ?_)) : gP P n h0 w0 Fz0 ops l σ Q := d3 hl hb h
def wA {L : aG} (y : gP P n h0 w0 Fz0 ops l (σ.app L) Q) (h1 : a8 L.rs σ.s := by repeat (first | exact True.intro | refine And.intro rfl ?_)) (h2 : a8 L.rb σ.b := by repeat (first | exact True.intro | refine And.intro rfl ?_)) (x : Loc P n o L) (hg : o.guard = none := by exact rfl) (ha : L.al = none := by exact rfl) : gP P n h0 w0 Fz0 ops (o :: l) σ Q :=
  aN h1 h2 (ax.of hg x) (fun d hd => by rw [ha] at hd; cases hd) y
end
section
variable {P : Program} {n : Nat} {d x : Nat} {ty : TypeId} {pos : String} {af : Array Edge} {g : Option (Nat × Bool)}
def cM {r r' : RV} (hc : Cp r r') (hd : d < n := by decide) : Loc P n ⟨some d, .move (.tmp x), ty, pos, af, g⟩ ⟨[(x, r)], [], [(d, some r')], [], none⟩ := bc (.inl rfl) hd hc
def cA {r r' : RV} (hc : Cp r r') (hd : d < n := by decide) : Loc P n ⟨some d, .assign (.tmp x), ty, pos, af, g⟩ ⟨[(x, r)], [], [(d, some r')], [], none⟩ := bc (.inr rfl) hd hc
def sM {v : Value} (hd : d < n := by decide) : Loc P n ⟨some d, .move (.tmp x), ty, pos, af, g⟩ ⟨[(x, RV.sc v)], [], [(d, some (RV.sc v))], [], none⟩ := cM Cp.sc hd
def sA {v : Value} (hd : d < n := by decide) : Loc P n ⟨some d, .assign (.tmp x), ty, pos, af, g⟩ ⟨[(x, RV.sc v)], [], [(d, some (RV.sc v))], [], none⟩ := cA Cp.sc hd
def vM {cs : List PV} (ag : Bool) (qs : List PV) (ht : am cs qs := by repeat' (first | exact True.intro | exact PV.To.refl _ | exact PV.to_none | apply And.intro)) (hb : ao qs := by repeat (first | exact ao.nil | refine ao.cons (PV.bor_val _) ?_ | refine ao.cons (PV.bor_sl _) ?_ | refine ao.cons (PV.bor_lo _ _) ?_)) (hd : d < n := by decide) :
    Loc P n ⟨some d, .move (.tmp x), ty, pos, af, g⟩ ⟨[(x, RV.sv ag cs)], [], [(d, some (RV.sv ag qs))], [], none⟩ := cM (Cp.sv ht hb) hd
def vA {cs : List PV} (ag : Bool) (qs : List PV) (ht : am cs qs := by repeat' (first | exact True.intro | exact PV.To.refl _ | exact PV.to_none | apply And.intro)) (hb : ao qs := by repeat (first | exact ao.nil | refine ao.cons (PV.bor_val _) ?_ | refine ao.cons (PV.bor_sl _) ?_ | refine ao.cons (PV.bor_lo _ _) ?_)) (hd : d < n := by decide) :
    Loc P n ⟨some d, .assign (.tmp x), ty, pos, af, g⟩ ⟨[(x, RV.sv ag cs)], [], [(d, some (RV.sv ag qs))], [], none⟩ := cA (Cp.sv ht hb) hd
def tM {r : RV} (hd : d < n := by decide) : Loc P n ⟨some d, .move (.tmp x), ty, pos, af, g⟩ ⟨[(x, r)], [], [(x, none), (d, some r)], [], none⟩ := tP (.inl rfl) hd
def tA {r : RV} (hd : d < n := by decide) : Loc P n ⟨some d, .assign (.tmp x), ty, pos, af, g⟩ ⟨[(x, r)], [], [(x, none), (d, some r)], [], none⟩ := tP (.inr rfl) hd
def kM {v : Value} (h : v.oneCell' = true := by exact rfl) (hd : d < n := by decide) : Loc P n ⟨some d, .move (.const v), ty, pos, af, g⟩ ⟨[], [], [(d, some (RV.sc v))], [], none⟩ := ik (.inl rfl) hd (eB h)
def kA {v : Value} (h : v.oneCell' = true := by exact rfl) (hd : d < n := by decide) : Loc P n ⟨some d, .assign (.const v), ty, pos, af, g⟩ ⟨[], [], [(d, some (RV.sc v))], [], none⟩ := ik (.inr rfl) hd (eB h)
def lD {T p b off t : Nat} {ag : Bool} {k : Nat} {cs : List PV} (qs : List PV) (hT : bO P T = some (ag, k)) (h1 : ag = false → k = 1 := by first | exact fun _ => rfl | exact fun h => nomatch h) (hk : off + k ≤ cs.length := by exact Nat.le_of_ble_eq_true rfl) (ht : am ((cs.drop off).take k) qs := by repeat' (first | exact True.intro | exact PV.To.refl _ | exact PV.to_none | apply And.intro))
    (hb : ao qs := by repeat (first | exact ao.nil | refine ao.cons (PV.bor_val _) ?_ | refine ao.cons (PV.bor_sl _) ?_ | refine ao.cons (PV.bor_lo _ _) ?_)) (hd : d < n := by decide) :
    Loc P n ⟨some d, .load T (.tmp p), ty, pos, af, g⟩ ⟨[(p, RV.ptr b off)], [(b, (t, cs))], [(d, some (RV.sv ag qs))], [], none⟩ := df hd hT h1 hk ht hb
def lE {T p : Nat} {ag : Bool} {k : Nat} {cs : List PV} (qs : List PV) (hT : bO P T = some (ag, k)) (h1 : ag = false → k = 1 := by first | exact fun _ => rfl | exact fun h => nomatch h) (hk : k ≤ cs.length := by exact Nat.le_of_ble_eq_true rfl) (ht : am (cs.take k) qs := by repeat' (first | exact True.intro | exact PV.To.refl _ | exact PV.to_none | apply And.intro))
    (hb : ao qs := by repeat (first | exact ao.nil | refine ao.cons (PV.bor_val _) ?_ | refine ao.cons (PV.bor_sl _) ?_ | refine ao.cons (PV.bor_lo _ _) ?_)) (hd : d < n := by decide) :
    Loc P n ⟨some d, .load T (.tmp p), ty, pos, af, g⟩ ⟨[(p, RV.eptr cs)], [], [(d, some (RV.sv ag qs))], [], none⟩ := nb hd hT h1 hk ht hb
def lF {T p b off f fo : Nat} (hT : aW P T f = some fo) (hd : d < n := by decide) : Loc P n ⟨some d, .fieldAddr T (.tmp p) f, ty, pos, af, g⟩ ⟨[(p, RV.ptr b off)], [], [(d, some (RV.ptr b (off + fo)))], [], none⟩ := dQ hd hT
def lN {T E e bs s m : Nat} {o : Fl} {es : List (List PV)} (hT : cY P T = some (E, e, bs)) (hm : es.length = m := by first | exact ar _ | exact rfl) (hd : d < n := by decide) :
    Loc P n ⟨some d, .call { callee := .builtin .len, args := #[.tmp s], argTypes := #[T] }, ty, pos, af, g⟩ ⟨[(s, RV.slc o es)], [], [(d, some (RV.int (m : Int)))], [], none⟩ := MM hd hT hm
def nT {T : TypeId} {b : Bool} (hd : d < n := by decide) : Loc P n ⟨some d, .unOp .not T (.tmp x), ty, pos, af, g⟩ ⟨[(x, RV.bool b)], [], [(d, some (RV.bool !b))], [], none⟩ := ML hd
def aR {c x y : Operand} {b : Bool} {r : RV} (hg : b = true) (hc : b7 c (RV.bool b) := by exact True.intro) (hz : b7 x r := by first | exact True.intro | exact eB rfl) (hcp : Cp r r := by exact Cp.sc) (hd : d < n := by decide) : Loc P n ⟨some d, .pick c x y, ty, pos, af, g⟩ ⟨bD c (RV.bool b) ++ bD x r, [], [(d, some r)], [], none⟩ := B8 (z := x) hd (by rw [hg]; rfl) hc hz hcp
def aK {c x y : Operand} {b : Bool} {r : RV} (hg : b = false) (hc : b7 c (RV.bool b) := by exact True.intro) (hz : b7 y r := by first | exact True.intro | exact eB rfl) (hcp : Cp r r := by exact Cp.sc) (hd : d < n := by decide) : Loc P n ⟨some d, .pick c x y, ty, pos, af, g⟩ ⟨bD c (RV.bool b) ++ bD y r, [], [(d, some r)], [], none⟩ := B8 (z := y) hd (by rw [hg]; rfl) hc hz hcp
def cL {f : Nat} {args : Array Operand} {tys : Array TypeId} {r : RV} (qs as_ : List (Bool × List PV)) (hf : aw P f = true) (hok : j0 args.toList qs := by repeat' (first | exact True.intro | exact eB rfl | exact Mv | apply And.intro))
    (hto : j2 qs as_ := by repeat' (first | exact True.intro | exact rfl | exact PV.To.refl _ | exact PV.to_none | apply And.intro)) (hs : aC P f as_ r) (hd : d < n := by decide) : Loc P n ⟨some d, .call { callee := .value (.func f), args := args, argTypes := tys }, ty, pos, af, g⟩ ⟨iL args.toList qs, [], [(d, some r)], [], none⟩ := oB hd hf hok hto hs
section
variable {T T2 : TypeId} {x y : Operand} {i j : Int}
def cy (hx : b7 x (RV.int i) := by first | exact True.intro | exact eB rfl) (hy : b7 y (RV.int j) := by first | exact True.intro | exact eB rfl) (hd : d < n := by decide) : Loc P n ⟨some d, .binOp .lss T x y T2, ty, pos, af, g⟩ ⟨bD x (RV.int i) ++ bD y (RV.int j), [], [(d, some (RV.bool (decide (i < j))))], [], none⟩ := ME hd hx hy
def ir (hx : b7 x (RV.int i) := by first | exact True.intro | exact eB rfl) (hy : b7 y (RV.int j) := by first | exact True.intro | exact eB rfl) (hd : d < n := by decide) : Loc P n ⟨some d, .binOp .leq T x y T2, ty, pos, af, g⟩ ⟨bD x (RV.int i) ++ bD y (RV.int j), [], [(d, some (RV.bool (decide (i ≤ j))))], [], none⟩ := MF hd hx hy
def eg (hx : b7 x (RV.int i) := by first | exact True.intro | exact eB rfl) (hy : b7 y (RV.int j) := by first | exact True.intro | exact eB rfl) (hd : d < n := by decide) : Loc P n ⟨some d, .binOp .gtr T x y T2, ty, pos, af, g⟩ ⟨bD x (RV.int i) ++ bD y (RV.int j), [], [(d, some (RV.bool (decide (i > j))))], [], none⟩ := MG hd hx hy
def hR (hx : b7 x (RV.int i) := by first | exact True.intro | exact eB rfl) (hy : b7 y (RV.int j) := by first | exact True.intro | exact eB rfl) (hd : d < n := by decide) : Loc P n ⟨some d, .binOp .geq T x y T2, ty, pos, af, g⟩ ⟨bD x (RV.int i) ++ bD y (RV.int j), [], [(d, some (RV.bool (decide (i ≥ j))))], [], none⟩ := MH hd hx hy
def d4 (hx : b7 x (RV.int i) := by first | exact True.intro | exact eB rfl) (hy : b7 y (RV.int j) := by first | exact True.intro | exact eB rfl) (hd : d < n := by decide) : Loc P n ⟨some d, .binOp .eql T x y T2, ty, pos, af, g⟩ ⟨bD x (RV.int i) ++ bD y (RV.int j), [], [(d, some (RV.bool (i == j)))], [], none⟩ := MI hd hx hy
def eM (hx : b7 x (RV.int i) := by first | exact True.intro | exact eB rfl) (hy : b7 y (RV.int j) := by first | exact True.intro | exact eB rfl) (hd : d < n := by decide) : Loc P n ⟨some d, .binOp .neq T x y T2, ty, pos, af, g⟩ ⟨bD x (RV.int i) ++ bD y (RV.int j), [], [(d, some (RV.bool (i != j)))], [], none⟩ := MJ hd hx hy
def j4 (hx : b7 x (RV.int i) := by first | exact True.intro | exact eB rfl) (hy : b7 y (RV.int j) := by first | exact True.intro | exact eB rfl) (h : lm (i + j) := by unfold lm; omega) (hd : d < n := by decide) : Loc P n ⟨some d, .binOp .add T x y T2, ty, pos, af, g⟩ ⟨bD x (RV.int i) ++ bD y (RV.int j), [], [(d, some (RV.int (i + j)))], [], none⟩ := xe hd hx hy h
def gS (hx : b7 x (RV.int i) := by first | exact True.intro | exact eB rfl) (hy : b7 y (RV.int j) := by first | exact True.intro | exact eB rfl) (h : lm (i - j) := by unfold lm; omega) (hd : d < n := by decide) : Loc P n ⟨some d, .binOp .sub T x y T2, ty, pos, af, g⟩ ⟨bD x (RV.int i) ++ bD y (RV.int j), [], [(d, some (RV.int (i - j)))], [], none⟩ := MK hd hx hy h
end
end
end
section
section
variable {P : Program} {n : Nat}
section
variable {T : TypeId} {x y : Operand} {i j : Int} {k : IntKind} {w : World}
end
section
variable {T T2 : TypeId} {x y : Operand} {d : Nat} {ty : TypeId} {pos : String} {af : Array Edge} {g : Option (Nat × Bool)} {i j : Int} {k : IntKind}
end
section
variable {h0 : Nat → Prop} {w0 : World} {Fz0 : av} {σ : St} {Q : Exit → St → Prop} {c1 c2 : Code}
end
end
end
section
def it : List Value → List PV → List PV
  | u :: us, p :: ps => PV.nv u p :: it us ps
  | _, _ => []
def ua {Fz : av} {w : World} : ∀ {ps : List PV} {us : List Value}, ao ps → bK ps Fz w us → aJ (it us ps) Fz w us []
  | [], us, _, h => by
    have h : us = [] := h
    subst h; exact ⟨rfl, rfl⟩
  | p :: ps, us, hb, h => by
    obtain ⟨v, vs, rfl, h1, h2⟩ := h
    exact ⟨v, vs, [], [], rfl, rfl, ⟨rfl, hb p (by simp) h1⟩, ua (fun q hq => hb q (by simp [hq])) h2⟩
def dy (h : Nat → Value) : Nat → List PV → List PV
  | _, [] => []
  | i, p :: ps => PV.nv (h i) p :: dy h (i + 1) ps
def ub (h : Nat → Value) : ∀ (ps : List PV) (i : Nat), dy h i ps = it ((List.range' i ps.length).map h) ps
  | [], i => rfl
  | p :: ps, i => by rw [dy, ub h ps (i + 1)]; rfl
def bi {α : Type} (e : Nat) (zs : List (α × (Nat → Value))) : List Value := (zs.map fun z => (List.range e).map z.2).flatten
def bG {α : Type} (f : α → List PV) (zs : List (α × (Nat → Value))) : List PV := (zs.map fun z => f z.1).flatten
def CP : ∀ {us vs : List Value} {ps qs : List PV}, us.length = ps.length → it (us ++ vs) (ps ++ qs) = it us ps ++ it vs qs
  | [], vs, [], qs, _ => rfl
  | u :: us, vs, p :: ps, qs, h => by
    simp only [List.cons_append, it]
    rw [CP (by simpa using h)]
def xH {e : Nat} {us : List Value} (h : us.length = e) : ∃ k : Nat → Value, us = (List.range e).map k := by
  refine ⟨fun i => us.getD i undef, ?_⟩
  subst h
  apply List.ext_getElem
  · simp
  · intro i h1 h2
    simp [h1]
def CQ {α : Type} {g : α → List PV} {fN : α × (Nat → Value) → List PV} {e : Nat} (hN : ∀ x h, fN (x, h) = dy h 0 (g x)) (hg : ∀ x, (g x).length = e) (jk : List PV) : ∀ (xs : List α) (us : List Value), us.length = xs.length * e + jk.length →
    ∃ (zs : List (α × (Nat → Value))) (vs : List Value), zs.map Prod.fst = xs ∧ us = bi e zs ++ vs ∧ vs.length = jk.length ∧ it us ((xs.map g).flatten ++ jk) = (zs.map fN).flatten ++ it vs jk
  | [], us, h => ⟨[], us, rfl, rfl, by simpa using h, rfl⟩
  | x :: xs, us, h => by
    have hs : (x :: xs).length * e = e + xs.length * e := by rw [List.length_cons, Nat.succ_mul]; omega
    obtain ⟨k, hk⟩ := xH (e := e) (us := us.take e) (by rw [bv]; omega)
    obtain ⟨zs, vs, e1, e2, e3, e4⟩ := CQ hN hg jk xs (us.drop e) (by rw [fw]; omega)
    refine ⟨(x, k) :: zs, vs, by rw [List.map_cons, e1], ?_, e3, ?_⟩
    · rw [← eA e us, hk, e2]
      simp [bi, br]
    · rw [← eA e us]
      have : ((x :: xs).map g).flatten ++ jk = g x ++ ((xs.map g).flatten ++ jk) := by simp
      rw [this, CP (by rw [hg, bv]; omega), e4, hk]
      simp only [List.map_cons, List.flatten_cons, br]
      rw [hN, ub, hg, List.range_eq_range']
def CR {α : Type} {f g : α → List PV} (h : ∀ x, am (f x) (g x)) : ∀ (xs : List α) {js : List PV}, am ((xs.map f).flatten ++ js) ((xs.map g).flatten ++ js)
  | [], js => am.refl js
  | x :: xs, js => by
    have k : ∀ {ps qs rs ss : List PV}, am ps qs → am rs ss → am (ps ++ rs) (qs ++ ss) := by
      intro ps
      induction ps with
      | nil => intro qs rs ss h1 h2; cases qs with
        | nil => exact h2
        | cons q qs => exact h1.elim
      | cons p ps ih => intro qs rs ss h1 h2; cases qs with
        | nil => exact h1.elim
        | cons q qs => exact ⟨h1.1, ih h1.2 h2⟩
    simp only [List.map_cons, List.flatten_cons, br]
    exact k (h x) (CR h xs)
def Nn {α : Type} {g : α → List PV} (h : ∀ x, ao (g x)) (xs : List α) (jk : List Value) : ao ((xs.map g).flatten ++ jk.map PV.val) := fun p hp => by
  rcases List.mem_append.1 hp with hp | hp
  · obtain ⟨cs, hcs, hp⟩ := List.mem_flatten.1 hp
    obtain ⟨x, _, rfl⟩ := List.mem_map.1 hcs
    exact h x p hp
  · obtain ⟨v, _, rfl⟩ := List.mem_map.1 hp
    exact PV.bor_val _
def CS {Fz : av} {w : World} : ∀ {jk us vs : List Value} {F : List Nat}, aJ (it us (jk.map PV.val)) Fz w vs F → us.length = jk.length → aJ (jk.map PV.val) Fz w vs F
  | [], us, vs, F, h, hl => by
    have : us = [] := gO hl
    subst this; exact h
  | j :: jk, [], vs, F, h, hl => by simp at hl
  | j :: jk, u :: us, vs, F, h, hl => by
    obtain ⟨v, vs', F1, F2, rfl, rfl, h1, h2⟩ := h
    exact ⟨v, vs', F1, F2, rfl, rfl, h1.2, CS h2 (by simpa using hl)⟩
def No {α : Type} {f : α → List PV} {e : Nat} (hf : ∀ x, (f x).length = e) {Fz : av} {w : World} {zs ys : List (α × (Nat → Value))} (hp : zs.Perm ys) : ∀ {F : List Nat}, aJ (bG f zs) Fz w (bi e zs) F → ∃ F', F.Perm F' ∧ aJ (bG f ys) Fz w (bi e ys) F' := by
  have hone : ∀ {z : α × (Nat → Value)} {l : List (α × (Nat → Value))} {F : List Nat}, aJ (bG f (z :: l)) Fz w (bi e (z :: l)) F → ∃ F1 F2, F = F1 ++ F2 ∧ aJ (f z.1) Fz w ((List.range e).map z.2) F1 ∧ aJ (bG f l) Fz w (bi e l) F2 := by
    intro z l F h
    have h : aJ (f z.1 ++ bG f l) Fz w ((List.range e).map z.2 ++ bi e l) F := h
    obtain ⟨v1, v2, F1, F2, e1, rfl, h1, h2⟩ := h.split
    have hl : ((List.range e).map z.2).length = v1.length := by rw [h1.len, hf]; simp
    obtain ⟨rfl, rfl⟩ := List.append_inj e1 hl
    exact ⟨F1, F2, rfl, h1, h2⟩
  induction hp with
  | nil => intro F h; exact ⟨F, List.Perm.refl _, h⟩
  | cons z _ ih =>
    intro F h
    obtain ⟨F1, F2, rfl, h1, h2⟩ := hone h
    obtain ⟨F', k1, k2⟩ := ih h2
    exact ⟨F1 ++ F', fv F1 k1, h1.append k2⟩
  | swap z y l =>
    intro F h
    obtain ⟨F1, F2, rfl, h1, h2⟩ := hone h
    obtain ⟨F3, F4, rfl, h3, h4⟩ := hone h2
    refine ⟨F3 ++ (F1 ++ F4), ?_, h3.append (h1.append h4)⟩
    rw [← br, ← br]
    exact hE _ iK
  | trans _ _ ih1 ih2 =>
    intro F h
    obtain ⟨F1, k1, h1⟩ := ih1 h
    obtain ⟨F2, k2, h2⟩ := ih2 h1
    exact ⟨F2, k1.trans k2, h2⟩
section
variable {P : Program} {n : Nat} {h0 : Nat → Prop} {w0 : World} {Fz0 : av} {σ : St} {Q : Exit → St → Prop} {c : Code} {ops : Array Oper}
def uc {d t G : Nat} {cs qs : List PV} (hd : σ.b d = some (t, cs)) (hG : σ.s G = none) (hq : am cs qs) (hb : ao qs) (h : ∀ us : List Value, (∃ Fz w, bK cs Fz w us) → SW P n h0 w0 Fz0 c ((σ.setB d (some (t, it us qs))).set G (some (RV.gh us cs))) Q) : SW P n h0 w0 Fz0 c σ Q := fun a w hc => by
  obtain ⟨φ, Fz, Fp, hc⟩ := hc
  obtain ⟨cur, h1, h2⟩ := hc.box d _ hd
  have k0 := hc.pull G
  have e0 : ∀ i rv, (σ.set G none).s i = some rv → i ≠ G ∧ σ.s i = some rv := fun i rv hi => by
    rw [St.set_s] at hi
    split at hi
    · cases hi
    · rename_i hne; exact ⟨hne, hi⟩
  have hne : mv Fp (2 * G + 1) (2 * d + 2) = Fp (2 * d + 2) := by
    simp only [mv]; rw [if_neg (by omega), if_neg (by omega)]
  have hgn : mv Fp (2 * G + 1) (2 * G + 1) = [] := by simp [mv]
  generalize hFp1 : mv Fp (2 * G + 1) = Fp1 at k0 hne hgn
  refine h cur.toList ⟨Fz, w, h2.rel⟩ a w ⟨φ, Fz, jJ Fp1 (2 * d + 2) (2 * G + 1), ?_⟩
  have hsub : ∀ r b, b ∈ jJ Fp1 (2 * d + 2) (2 * G + 1) r → ∃ r', b ∈ Fp1 r' := fun r b hb => by
    rcases xm hb with ⟨_, k⟩ | ⟨_, _, k⟩
    · exact ⟨_, k⟩
    · exact ⟨_, k⟩
  exact { k0 with
    slot := fun i rv hi => by
      rw [St.set_s] at hi
      split at hi
      · rename_i e
        subst e
        injection hi with hi
        subst hi
        show aJ cs Fz w cur.toList (jJ Fp1 (2 * d + 2) (2 * i + 1) (2 * i + 1))
        simp only [jJ, if_true]
        rw [hne]; exact h2
      · rename_i e
        have := k0.slot i rv (by rw [St.set_s, if_neg e]; exact hi)
        simp only [jJ]
        rw [if_neg (by omega), if_neg (by omega)]
        exact this
    box := fun e bx he => by
      rw [St.set_b, St.setB_b] at he
      split at he
      · rename_i e'; subst e'; injection he with he; subst he
        refine ⟨cur, h1, ?_⟩
        simp only [jJ]
        rw [if_neg (by omega), if_pos (by trivial)]
        exact ua hb (hq.rel h2.rel)
      · rename_i e'
        obtain ⟨cur', k1, k2⟩ := k0.box e bx he
        refine ⟨cur', k1, ?_⟩
        simp only [jJ]
        rw [if_neg (by omega), if_neg (by omega)]
        exact k2
    bxb := fun e bx he => by
      have : ∃ z, (σ.set G none).b e = some z := by
        rw [St.set_b, St.setB_b] at he
        split at he
        · rename_i e'; subst e'; exact ⟨_, hd⟩
        · exact ⟨_, he⟩
      obtain ⟨z, hz⟩ := this
      obtain ⟨g1, g2, g3⟩ := k0.bxb e z hz
      exact ⟨g1, g2, fun r hr => by obtain ⟨r', h'⟩ := hsub r _ hr; exact g3 r' h'⟩
    inj := fun e e' c1 c2 he he' => by
      have f : ∀ x y, ((σ.setB d (some (t, it cur.toList qs))).set G (some (RV.gh cur.toList cs))).b x = some y → ∃ z, (σ.set G none).b x = some z := by
        intro x y hx
        rw [St.set_b, St.setB_b] at hx
        split at hx
        · rename_i e'; subst e'; exact ⟨_, hd⟩
        · exact ⟨_, hx⟩
      obtain ⟨z1, f1⟩ := f _ _ he
      obtain ⟨z2, f2⟩ := f _ _ he'
      exact k0.inj e e' z1 z2 f1 f2
    dis := M8 k0.dis
    nod := M9 k0.nod
    low := fun r b hb => by obtain ⟨r', h'⟩ := hsub r b hb; exact k0.low r' b h' }
def Np {d t G e : Nat} {α : Type} {f g : α → List PV} {fN : α × (Nat → Value) → List PV} {xs : List α} {jk : List Value} (hd : σ.b d = some (t, bA f xs jk)) (hG : σ.s G = none) (hN : ∀ x h, fN (x, h) = dy h 0 (g x)) (hg : ∀ x, (g x).length = e) (hq : ∀ x, am (f x) (g x)) (hb : ∀ x, ao (g x))
    (h : ∀ zs : List (α × (Nat → Value)), zs.map Prod.fst = xs → SW P n h0 w0 Fz0 c ((σ.setB d (some (t, bA fN zs jk))).set G (some (RV.gh (bi e zs) (bG f zs)))) Q) : SW P n h0 w0 Fz0 c σ Q := by
  refine uc hd hG (CR hq xs) (Nn hb xs jk) fun us hus => ?_
  intro a w hc
  have hfl : ∀ x, (f x).length = e := fun x => by rw [(hq x).len]; exact hg x
  have hlen : us.length = xs.length * e + (jk.map PV.val).length := by
    obtain ⟨_, _, hr⟩ := hus
    rw [hr.len]; unfold bA
    rw [aU, ni (e := e) (fun cs hcs => by obtain ⟨x, _, rfl⟩ := List.mem_map.1 hcs; exact hfl x), ar]
  obtain ⟨zs, vs, e1, e2, e3, e4⟩ := CQ hN hg (jk.map PV.val) xs us hlen
  have hvl : (bi e zs).length = (bG f zs).length := by
    unfold bi bG
    rw [ni (e := e) (fun cs hcs => by obtain ⟨x, _, rfl⟩ := List.mem_map.1 hcs; exact hfl x.1)]
    have : ∀ l : List (α × (Nat → Value)), (l.map fun z => (List.range e).map z.2).flatten.length = l.length * e := by
      intro l; induction l with
      | nil => simp
      | cons z l ih => rw [List.map_cons, List.flatten_cons, aU, ih, List.length_cons, Nat.succ_mul]; simp; omega
    rw [this, ar]
  have hfm : bG f zs = (xs.map f).flatten := by unfold bG; rw [← e1, List.map_map]; rfl
  refine h zs e1 a w ?_
  obtain ⟨φ, Fz, Fp, hc⟩ := hc
  refine ⟨φ, Fz, Fp, { hc with slot := fun i rv hi => ?_, box := fun b bx hb' => ?_, bxb := fun b bx hb' => ?_, inj := fun b b' c1 c2 hb1 hb2 => ?_ }⟩
  · rw [St.set_s] at hi
    split at hi
    · rename_i hiG
      injection hi with hi
      subst hi
      have := hc.slot i _ (by rw [St.set_s, if_pos hiG])
      have this : aJ (bA f xs jk) Fz w us (Fp (2 * i + 1)) := this
      unfold bA at this
      rw [e2] at this
      obtain ⟨v1, v2, F1, F2, k1, k2, k3, k4⟩ := this.split
      have hF2 : F2 = [] := by
        have : ∀ (jk : List Value) (v2 : List Value) (G2 : List Nat), aJ (jk.map PV.val) Fz w v2 G2 → G2 = [] := by
          intro jk
          induction jk with
          | nil => intro v2 G2 h; exact h.2
          | cons j jk ih =>
            intro v2 G2 h
            obtain ⟨v, vs', F1, F2, _, rfl, h1, h2⟩ := h
            rw [ih _ _ h2, h1.2]; rfl
        exact this _ _ _ k4
      obtain ⟨rfl, rfl⟩ := List.append_inj k1 (by rw [hvl, k3.len, hfm])
      show aJ (bG f zs) Fz w (bi e zs) (Fp (2 * i + 1))
      rw [k2, hF2, dH, hfm]; exact k3
    · rename_i hiG
      exact hc.slot i rv (by rw [St.set_s, if_neg hiG]; exact hi)
  · rw [St.set_b, St.setB_b] at hb'
    split at hb'
    · rename_i hbd
      injection hb' with hb'
      subst hb'
      obtain ⟨cur, k1, k2⟩ := hc.box b (t, it us ((xs.map g).flatten ++ jk.map PV.val)) (by rw [St.set_b, St.setB_b, if_pos hbd])
      refine ⟨cur, k1, ?_⟩
      have k2 : aJ (it us ((xs.map g).flatten ++ jk.map PV.val)) Fz w cur.toList (Fp (2 * b + 2)) := k2
      rw [e4] at k2
      obtain ⟨v1, v2, F1, F2, q1, q2, q3, q4⟩ := k2.split
      rw [q1, q2]
      exact q3.append (CS q4 (by rw [e3, ar]))
    · rename_i hbd
      exact hc.box b bx (by rw [St.set_b, St.setB_b, if_neg hbd]; exact hb')
  · have : ∃ z, ((σ.setB d (some (t, it us ((xs.map g).flatten ++ jk.map PV.val)))).set G (some (RV.gh us (bA f xs jk)))).b b = some z := by
      rw [St.set_b, St.setB_b] at hb' ⊢
      split at hb'
      · rename_i hbd; rw [if_pos hbd]; exact ⟨_, rfl⟩
      · rename_i hbd; rw [if_neg hbd]; exact ⟨_, hb'⟩
    obtain ⟨z, hz⟩ := this
    exact hc.bxb b z hz
  · have : ∀ x y, ((σ.setB d (some (t, bA fN zs jk))).set G (some (RV.gh (bi e zs) (bG f zs)))).b x = some y → ∃ z, ((σ.setB d (some (t, it us ((xs.map g).flatten ++ jk.map PV.val)))).set G (some (RV.gh us (bA f xs jk)))).b x = some z := by
      intro x y hx
      rw [St.set_b, St.setB_b] at hx ⊢
      split at hx
      · rename_i hbd; rw [if_pos hbd]; exact ⟨_, rfl⟩
      · rename_i hbd; rw [if_neg hbd]; exact ⟨_, hx⟩
    obtain ⟨z1, f1⟩ := this _ _ hb1
    obtain ⟨z2, f2⟩ := this _ _ hb2
    exact hc.inj b b' z1 z2 f1 f2
def xI {α : Type} {g : α → List PV} {fN : α × (Nat → Value) → List PV} {e : Nat} (hN : ∀ x h, fN (x, h) = dy h 0 (g x)) (hg : ∀ x, (g x).length = e) {Fz : av} {w : World} : ∀ {zs : List (α × (Nat → Value))} {js : List PV} {us : List Value}, bK ((zs.map fN).flatten ++ js) Fz w us → ∃ vs, us = bi e zs ++ vs ∧ bK js Fz w vs
  | [], js, us, h => ⟨us, rfl, h⟩
  | z :: zs, js, us, h => by
    have hk : ∀ (ps : List PV) (i : Nat) (k : Nat → Value) (vs : List Value), bK (dy k i ps) Fz w vs → vs = (List.range' i ps.length).map k := by
      intro ps
      induction ps with
      | nil => intro i k vs h; exact h
      | cons p ps ih =>
        intro i k vs h
        obtain ⟨v, vs', rfl, h1, h2⟩ := h
        rw [ih _ _ _ h2, h1.1]; rfl
    simp only [List.map_cons, List.flatten_cons, br] at h
    obtain ⟨v1, v2, rfl, h1, h2⟩ := h.split
    obtain ⟨vs, rfl, h3⟩ := xI hN hg h2
    obtain ⟨x, k⟩ := z
    rw [hN] at h1
    have := hk _ _ _ _ h1
    rw [hg] at this
    refine ⟨vs, ?_, h3⟩
    rw [this]
    simp [bi, List.range_eq_range']
end
end
section
def mj (L : Nat → Prop) (r r' : RV) : Prop := ∀ {φ : Nat → Nat} {Fz : av} {w : World} {v : Value} {F : List Nat}, (∀ b o, Fz b o → L b) → r.holds φ Fz w v F → r'.holds φ Fz w v []
def mj.sv {L : Nat → Prop} {ag : Bool} {cs qs : List PV} (ht : ab L cs qs) (hb : ao qs) : mj L (RV.sv ag cs) (RV.sv ag qs) := fun hz h => ⟨h.1, hb.own (ht.rel hz h.2.rel)⟩
def mj.ptr {L : Nat → Prop} {d off : Nat} : mj L (RV.ptr d off) (RV.ptr d off) := fun _ h => ⟨h.1, rfl⟩
def oG (L : Nat → Prop) : List (Nat × RV) → List (Nat × RV) → Prop
  | [], [] => True
  | p :: l, q :: l' => (p.1 = q.1 ∧ mj L p.2 q.2) ∧ oG L l l'
  | _, _ => False
def oG.cons {L : Nat → Prop} {i : Nat} {r r' : RV} {l l' : List (Nat × RV)} (h : mj L r r') (k : oG L l l') : oG L ((i, r) :: l) ((i, r') :: l') := ⟨⟨rfl, h⟩, k⟩
def oG.at_ {L : Nat → Prop} {i : Nat} {r' : RV} : ∀ {l l' : List (Nat × RV)}, oG L l l' → lk l' i = some r' → ∃ r, lk l i = some r ∧ mj L r r'
  | [], [], _, h => by cases h
  | (j, r) :: l, (j', q) :: l', k, h => by
    obtain ⟨⟨e, k1⟩, k2⟩ := k
    dsimp only at e
    subst e
    rw [lk, beq_eq] at h ⊢
    by_cases hx : i = j
    · rw [decide_eq_true hx] at h ⊢
      simp only [cond_true, Option.some.injEq] at h ⊢
      subst h
      exact ⟨r, rfl, k1⟩
    · rw [decide_eq_false hx] at h ⊢
      simp only [cond_false] at h ⊢
      exact oG.at_ k2 h
section
variable {P : Program} {n : Nat} {h0 : Nat → Prop} {w0 : World} {Fz0 : av} {Q : Exit → St → Prop} {c : Code}
end
end
section
section
variable {P : Program} {n : Nat} {h0 : Nat → Prop} {w0 : World} {Fz0 : av}
section
variable {σ : St} {a : Act} {w : World} {φ : Nat → Nat} {Fz : av} {Fp : Nat → List Nat}
def bz.ghost (h : bz h0 w0 Fz0 n σ a w φ Fz Fp) {i : Nat} {rv : RV} {F X : List Nat} (hv : rv.holds φ Fz w (a.tmps.getD i undef) F) (hX : ∀ b, b ∈ F ++ X → b ∈ Fp 0) (hn : (F ++ X).Nodup) :
    bz h0 w0 Fz0 n (σ.set i (some rv)) a w φ Fz (co Fp (2 * i + 1) F X) where
  bel := h.bel
  dfr := h.dfr
  siz := h.siz
  hlt := h.hlt
  fz0 := h.fz0
  fzl := h.fzl
  slot j rv' hj := by
    rw [St.set_s] at hj
    split at hj
    · rename_i hji
      subst hji
      injection hj with hj
      subst hj
      unfold co
      rw [if_pos rfl]; exact hv
    · rename_i hne
      unfold co
      rw [if_neg (by omega), if_neg (by omega)]
      exact h.slot j rv' hj
  box d cs hd := by
    obtain ⟨cur, h1, h2⟩ := h.box d cs hd
    refine ⟨cur, h1, ?_⟩
    unfold co
    rw [if_neg (by omega), if_neg (by omega)]; exact h2
  bxb d cs hd := by
    obtain ⟨h1, h2, h3⟩ := h.bxb d cs hd
    refine ⟨h1, h2, fun r hr => ?_⟩
    rcases ku hr with ⟨_, hr⟩ | ⟨_, _, hr⟩ | ⟨_, _, hr⟩
    · exact h3 0 (hX _ (by simp [hr]))
    · exact h3 0 (hX _ (by simp [hr]))
    · exact h3 _ hr
  inj d d' cs cs' := h.inj d d' cs cs'
  dis := tG (by omega) hX hn h.dis
  nod := tH hn h.nod
  low r b hb := by
    rcases ku hb with ⟨_, hr⟩ | ⟨_, _, hr⟩ | ⟨_, _, hr⟩
    · exact h.low 0 b (hX _ (by simp [hr]))
    · exact h.low 0 b (hX _ (by simp [hr]))
    · exact h.low _ b hr
end
section
variable {ops : Array Oper} {Q : Exit → St → Prop}
end
def oH (r r' : RV) : Prop := ∀ {φ : Nat → Nat} {Fz : av} {w : World} {v : Value} {F : List Nat}, r.holds φ Fz w v F → r'.holds φ Fz w v F
def oH.refl {r : RV} : oH r r := fun h => h
def oH.sv {ag : Bool} {cs qs : List PV} (h : aA cs qs) : oH (RV.sv ag cs) (RV.sv ag qs) := fun hh => ⟨hh.1, h hh.2⟩
def oI (f : Nat → Option RV) (G : Nat) : List (Nat × RV) → Prop
  | [] => True
  | p :: l' => (Nat.beq p.1 G = false ∧ ∃ r, f p.1 = some r ∧ oH r p.2) ∧ oI f G l'
def oI.cons {f : Nat → Option RV} {G i : Nat} {r r' : RV} {l' : List (Nat × RV)} (h1 : Nat.beq i G = false) (h2 : f i = some r) (h3 : oH r r') (k : oI f G l') : oI f G ((i, r') :: l') := ⟨⟨h1, r, h2, h3⟩, k⟩
def oI.at_ {f : Nat → Option RV} {G i : Nat} {r' : RV} : ∀ {l' : List (Nat × RV)}, oI f G l' → (i, r') ∈ l' → i ≠ G ∧ ∃ r, f i = some r ∧ oH r r'
  | [], _, h => by simp at h
  | p :: l', k, h => by
    rcases List.mem_cons.1 h with rfl | h
    · exact ⟨fun e => by have := k.1.1; dsimp only at this; rw [e] at this; simp at this, k.1.2⟩
    · exact oI.at_ k.2 h
variable {Q : Exit → St → Prop} {c : Code}
def xJ {σ : St} {s : Nat} {ag : Bool} {cs : List PV} (qs : List PV) (hs : σ.s s = some (RV.sv ag cs)) (ht : am cs qs) (hb : ao qs) (h : SW P n h0 w0 Fz0 c (σ.set s (some (RV.sv ag qs))) Q) : SW P n h0 w0 Fz0 c σ Q := fun a w hc => by
  obtain ⟨φ, Fz, Fp, hc⟩ := hc
  have hv : bQ ag cs Fz w (a.tmps.getD s undef) (Fp (2 * s + 1)) := hc.slot s _ hs
  have c1 := (hc.pull s).reslot (s := s) (rv := RV.sv ag qs) (by
    have : mv Fp (2 * s + 1) (2 * s + 1) = [] := by simp [mv]
    rw [this]
    exact ⟨hv.1, hb.own (ht.rel hv.2.rel)⟩)
  exact h a w (bk.eqv ⟨φ, Fz, _, c1⟩ (fun i => by
    simp only [St.set_s]
    split <;> rfl) (fun d => rfl))
def oJ (L : Nat → Prop) : List (Nat × (Nat × List PV)) → List (Nat × (Nat × List PV)) → Prop
  | [], [] => True
  | p :: b, q :: b' => (p.1 = q.1 ∧ p.2.1 = q.2.1 ∧ ab L p.2.2 q.2.2 ∧ ao q.2.2) ∧ oJ L b b'
  | _, _ => False
def oJ.cons {L : Nat → Prop} {d t : Nat} {cs qs : List PV} {b b' : List (Nat × (Nat × List PV))} (h1 : ab L cs qs) (h2 : ao qs) (k : oJ L b b') : oJ L ((d, (t, cs)) :: b) ((d, (t, qs)) :: b') := ⟨⟨rfl, rfl, h1, h2⟩, k⟩
def oJ.at_ {L : Nat → Prop} {d t : Nat} {qs : List PV} : ∀ {b b' : List (Nat × (Nat × List PV))}, oJ L b b' → lk b' d = some (t, qs) → ∃ cs, lk b d = some (t, cs) ∧ ab L cs qs ∧ ao qs
  | [], [], _, h => by cases h
  | (j, (s, r)) :: l, (j', (s', q)) :: l', k, h => by
    obtain ⟨⟨e, e2, k1⟩, k2⟩ := k
    dsimp only at e e2 k1
    subst e e2
    rw [lk, beq_eq] at h ⊢
    by_cases hx : d = j
    · rw [decide_eq_true hx] at h ⊢
      simp only [cond_true, Option.some.injEq, Prod.mk.injEq] at h ⊢
      obtain ⟨rfl, rfl⟩ := h
      exact ⟨r, ⟨rfl, rfl⟩, k1⟩
    · rw [decide_eq_false hx] at h ⊢
      simp only [cond_false] at h ⊢
      exact oJ.at_ k2 h
end
end
section
section
variable {P : Program} {n : Nat} {h0 : Nat → Prop} {w0 : World} {Fz0 : av}
end
def iu {P : Program} {n x d b off : Nat} {ty : TypeId} {pos : String} {af : Array Edge} {g : Option (Nat × Bool)} (hd : d < n) : Loc P n ⟨some d, .nilCheck (.tmp x), ty, pos, af, g⟩ ⟨[(x, RV.ptr b off)], [], [(d, some (RV.ptr b off))], [], none⟩ := by
  intro h0 w0 Fz0 σ a w K Q h1 h2 _ _ h5
  obtain ⟨φ, Fz, Fp, hc⟩ := h1
  have ex := (hc.slot x _ h2.1).1
  refine dk (v := .pointer (some ⟨φ b, off, none⟩)) (w' := w) ?_ (h5 _ _ (hc.put0 hd (r := RV.ptr b off) ⟨rfl, rfl⟩))
  unfold execOp
  simp only [Act.eval, ex, Sem.run_pure]
def mj.phi {L : Nat → Prop} {D g : Nat} : mj L (RV.phi D g) (RV.phi D g) := fun _ h => ⟨h.1, rfl⟩
section
variable {P : Program} {n : Nat} {h0 : Nat → Prop} {w0 : World} {Fz0 : av} {σ : St} {Q : Exit → St → Prop} {c : Code}
end
section
variable {P : Program} {n : Nat} {T T2 : TypeId} {x y : Operand} {d : Nat} {ty : TypeId} {pos : String} {af : Array Edge} {g : Option (Nat × Bool)} {i j : Int}
end
end
section
abbrev CT := List UInt8
abbrev B (l : CT) : ByteArray := ⟨l.toArray⟩
section
variable {P : Program} {n : Nat} {T T2 : TypeId} {x y : Operand} {d : Nat} {ty : TypeId} {pos : String} {af : Array Edge} {g : Option (Nat × Bool)} {s t : CT}
end
structure r6 where
  rel : av → World → Prop
  mono : ∀ {Fz Fz' : av} {w w' : World}, rel Fz w → fe Fz w Fz' w' → rel Fz' w'
def Nq (P : Program) (G : r6) (f : FuncId) (args : List (Bool × List PV)) (r : RV) : Prop :=
  ∀ (w : World) (vs : List Value) (Fz : av), (∀ b o, Fz b o → b < w.heap.size) → G.rel Fz w → eW args Fz w vs → Calls P f vs.toArray w fun e w' => ∃ v Fz' F, e = .returned v ∧ Below w.heap.size w w' ∧
    (∀ b o, b < w.heap.size → (Fz' b o ↔ Fz b o)) ∧ (∀ b o, Fz' b o → b < w'.heap.size) ∧ (∀ φ, r.holds φ Fz' w' v F) ∧ F.Nodup ∧ ∀ b, b ∈ F → w.heap.size ≤ b ∧ b < w'.heap.size
def aC.g {P : Program} {G : r6} {f : FuncId} {args : List (Bool × List PV)} {r : RV} (h : aC P f args r) : Nq P G f args r := fun w vs Fz hz _ hr => h w vs Fz hz hr
section
variable {P : Program} {n : Nat} {G : r6}
end
section
variable {P : Program} {G : r6} {f : FuncId}
def qe.sc {v x : Value} {Fz : av} {w : World} (h : qe false [PV.val x] Fz w v) : v = x := (bQ.sc ⟨h.1, (ao.cons (PV.bor_val _) ao.nil).own h.2⟩).1
def qe.sl {v : Value} {es : List (List PV)} {Fz : av} {w : World} (h : qe false [PV.sl .v es] Fz w v) : lf es Fz w v :=
  (bQ.atom (p := PV.sl .v es) ⟨h.1, (ao.cons (PV.bor_sl _) ao.nil).own h.2⟩).1
end
end
end Go.Proofs.YtmekkgdboplbjaaGreat.M
namespace Go.Proofs.YtmekkgdboplbjaaGreat.M
open Go Go.RowKit Go.ChangeShapes Go.WideShapes
section
section
variable {H : Type} {enc : TypeId × Value → H} {P : Program} {W W' : World}
def CU {sp : Nat → Bool} (hl : laidOutB P = true) (hsame : ∀ p : MemPlace, p.block < W.heap.size → W.sameAt W' p) : ∀ {ts : List TypeId} {vs : List Value} {ds : List (DataW H)} {ps : List MemPlace}, (ts.all fun t => P.readableRec t && Nat.blt t P.types.size) = true →
    DataW.TrodAll enc P W 0 (fun _ => true) true ts vs ds ps → (∀ p ∈ ps, p.block < W.heap.size) → (∀ p ∈ ps, sp p.block = true) → DataW.TrodAll enc P W' 0 sp true ts vs ds ps
  | [], vs, ds, ps, _, h, _, _ => by
    obtain ⟨rfl, rfl, rfl⟩ := trodAll_nil h
    exact trodAll_mk0
  | t :: ts, vs, ds, ps, ht, h, hlt, hs => by
    obtain ⟨v, vs', d, ds', p, q, rfl, rfl, rfl, h1, h2⟩ := trodAll_cons h
    rw [List.all_cons, bn, bn, Nat.blt_eq] at ht
    exact trodAll_cons_mk (WideElems.Trod_stays hl ht.1.1 ht.1.2 h1 (fun x hx => hsame x (hlt x (by simp [hx]))) (fun x hx => hs x (by simp [hx])))
      (CU hl hsame ht.2 h2 (fun x hx => hlt x (by simp [hx])) (fun x hx => hs x (by simp [hx])))
def Nr {f : Func} {s : ChangeSpec} {args : Array Value} {ds gs : List (DataW H)} {before : List MemPlace} {k : FuncId} {bt : TypeId} (hl : laidOutB P = true) (hr : (f.params.toList.all fun t => P.readableRec t && Nat.blt t P.types.size) = true)
    (hW : DataW.Whole enc P f.params.toList s.vars false W args.toList ds gs before) (hv : s.vars = []) (hrt : f.resultTypes = #[bt]) (hbt : P.underlying bt = some .bool) (hfn : s.fn H (ds ++ gs) = { results := [.lit (.bool true)], args := ds })
    (hcall : Calls P k args W fun e w' => e = .returned (.bool true) ∧ Below W.heap.size W w') :
    Calls P k args W fun e W' => ∃ v, e = .returned v ∧ s.post enc P f false true false false W args v W' := by
  refine hcall.mono fun e W' ⟨he, hb⟩ => ⟨_, he, ?_⟩
  have hlt : ∀ p ∈ before, p.block < W.heap.size := fun p hp => hW.lt p hp
  have hW' := hW
  obtain ⟨pa, q, hA, hV, rfl, hz, hn⟩ := hW
  rw [hv] at hV
  obtain ⟨rfl, rfl⟩ := trodVars_none hV
  have hres : ∀ (b : Nat) (sp : Nat → Bool) (hd : Bool), DataW.TrodAll enc P W' b sp hd f.resultTypes.toList ((Value.bool true).resultList f.resultTypes.size) (s.fn H (ds ++ [])).results [] := by
    intro b sp hd
    rw [hfn, hrt]
    exact trodAll_cons_mk (p' := []) (shut_bool hbt _) trodAll_mk0
  have hargs : ∀ sp : Nat → Bool, (∀ p ∈ pa ++ [], sp p.block = true) → DataW.TrodAll enc P W' 0 sp true f.params.toList args.toList (s.fn H (ds ++ [])).args pa := by
    intro sp hs
    rw [hfn]
    exact CU hl (fun p hp => hb.same hp) hr hA (fun p hp => hlt p (by simp [hp])) (fun p hp => hs p (by simp [hp]))
  have hvars : ∀ sp : Nat → Bool, DataW.TrodVars enc P W' sp s.vars (s.fn H (ds ++ [])).vars [] := by
    intro sp
    rw [hfn, hv]
    exact rfl
  have hold : ∀ p ∈ pa ++ [], (fun b => decide (b < W.heap.size)) p.block = true := fun p hp => by simpa using hlt p hp
  have hok : ∀ (j : Nat) (t : TypeId) (r : Value), f.resultTypes[j]? = some t → ((Value.bool true).resultList f.resultTypes.size)[j]? = some r → Value.okWide P W' .any 0 t r := ok_one hrt rfl (okWide_bool_mk hbt _)
  refine ⟨ds, [], pa ++ [], [], pa, [], hW', hres _ _ _, hargs _ hold, hvars _, World.keptBut_mono (fun p hp => ⟨hp, ?_⟩) (hb.frame (· ∈ pa ++ [])), fun h => by cases h⟩
  simpa using hp
def r7 (w : World) : av := fun b _ => b < w.heap.size
def Ns {f : FuncId} {vs : List Value} {qs : List (Bool × List PV)} (hs : aC P f qs (az [(false, [PV.val (.bool true)])])) (hr : eW qs (r7 W) W vs) : Calls P f vs.toArray W fun e w' => e = .returned (.bool true) ∧ Below W.heap.size W w' :=
  (hs W vs (r7 W) (fun _ _ h => h) hr).mono fun e w' ⟨v, Fz', F, he, hb, _, _, hv, _⟩ => ⟨by rw [he, (bQ.sc (hv fun _ => 0)).1], hb⟩
def eX (P : Program) (T : TypeId) {α : Type} (f : α → List PV) (g : α → Prop) : Prop :=
  ∀ {H : Type} (enc : TypeId × Value → H) (w : World) (sp : Nat → Bool) (held : Bool) (n : Nat) (cs : List Value) (x : DataW H × List MemPlace), DataW.trod enc P w 0 sp held n T cs = some x → ∃ a, bK (f a) (r7 w) w cs ∧ g a
def Nt {T : TypeId} (h : P.underlying T = some (.int .i64)) : eX P T (fun n : Int => [PV.val (vI n)]) lm := by
  intro H enc w sp held n cs x hx
  obtain ⟨m, rfl, _, hw⟩ := DataW.trod_int h hx
  exact ⟨m, ⟨_, [], rfl, ⟨rfl, rfl⟩, rfl⟩, bounds_i64 hw⟩
def nC {T E e : TypeId} {α : Type} {f : α → List PV} (hu : P.underlying T = some (.slice E)) (hc : P.cellsOf E = e) (he : 0 < e) {g : α → Prop} (hf : eX P E f g) (hlen : ∀ a, (f a).length = e) : eX P T (fun xs : List α => [PV.sl .v (xs.map f)]) fun xs => ∀ x ∈ xs, g x := by
  intro H enc w sp held n cs x hx
  subst hc
  rcases Deep.open_slice hu hx with ⟨rfl, _⟩ | ⟨a, len, cap, m, n', D, Pl, rfl, _, hlc, hcm, hm, _, hel⟩
  · exact ⟨[], ⟨_, [], rfl, ⟨⟨none, 0, 0, fun _ _ => undef, rfl, Nat.le_refl _, Nat.zero_le _, by simp, .inl rfl, by simp⟩, True.intro⟩, rfl⟩, by simp⟩
  · have hlm : len ≤ m := by rw [hm]; split <;> omega
    have key : ∀ i, i < len → ∃ (y : α × List Value), w.cells? 0 (a.add (i * P.cellsOf E)) (P.cellsOf E) = some y.2 ∧ bK (f y.1) (r7 w) w y.2 ∧ g y.1 := by
      intro i hi
      obtain ⟨cs', h1, h2⟩ := hel i (by omega)
      obtain ⟨y, hy⟩ := hf enc w sp held n' cs' _ h2
      exact ⟨(y, cs'), h1, hy⟩
    by_cases hl0 : len = 0
    · subst hl0
      exact ⟨[], ⟨_, [], rfl, ⟨⟨some a, cap, 0, fun _ _ => undef, rfl, Nat.zero_le _, hcm, by simp, .inl rfl, by simp⟩, True.intro⟩, rfl⟩, by simp⟩
    · obtain ⟨y0, _, _⟩ := key 0 (by omega)
      have : Inhabited (α × List Value) := ⟨y0⟩
      obtain ⟨F, hF⟩ := Deep.choose_lt key
      obtain ⟨b, off, spt⟩ := a
      have hspt : spt = none := by
        obtain ⟨_, h2, h3⟩ := World.cells?_some (hF 0 (by omega)).1
        have h4 := h3 0 he
        rw [List.getElem?_eq_getElem (by rw [h2]; exact he), Nat.zero_mul] at h4
        cases spt with
        | none => rfl
        | some s => simp [Addr.add, World.cell?] at h4; split at h4 <;> simp at h4
      subst hspt
      have hcell : ∀ i j, i < len → j < P.cellsOf E → w.cell? ⟨b, off + (i * P.cellsOf E + j), none⟩ = some ((F i).2.getD j undef) := by
        intro i j hi hj
        obtain ⟨_, h2, h3⟩ := World.cells?_some (hF i hi).1
        have h4 := h3 j hj
        rw [jZ, jZ, Nat.add_assoc] at h4
        rw [h4, List.getD_eq_getElem?_getD, List.getElem?_eq_getElem (by rw [h2]; exact hj)]; rfl
      refine ⟨(List.range len).map fun i => (F i).1, ⟨_, [], rfl, ⟨⟨some ⟨b, off, none⟩, cap, P.cellsOf E, fun i j => (F i).2.getD j undef, by simp, by simpa using hlc, hcm, ?_, .inr ⟨b, off, rfl, ?_⟩, ?_⟩, True.intro⟩, rfl⟩, ?_⟩
      · intro cs hcs
        obtain ⟨y, _, rfl⟩ := List.mem_map.1 hcs
        exact hlen y
      · intro i j hi hj
        have hi' : i < len := by simpa using hi
        have h := hcell i j hi' hj
        exact ⟨World.block_lt_of_cell? w _ h, h⟩
      · intro i cs j p hi hj
        have hi' : i < len := by have := (List.getElem?_eq_some_iff.1 hi).1; simpa using this
        simp [hi'] at hi
        subst hi
        obtain ⟨v, hv, hr⟩ := (hF i hi').2.1.at_ hj
        show p.rel _ _ ((F i).2.getD j undef)
        rw [List.getD_eq_getElem?_getD, hv]; exact hr
      · intro y hy
        obtain ⟨i, hi, rfl⟩ := List.mem_map.1 hy
        exact (hF i (List.mem_range.1 hi)).2.2
def CV (P : Program) (T : TypeId) : Option (List (TypeId × Nat × Nat)) := match P.underlying T with
  | some (.struct fs) => some (fs.toList.map fun f => (f.type, f.offset, P.cellsOf f.type))
  | _ => none
def kx {T : TypeId} {l : List (TypeId × Nat × Nat)} (hT : CV P T = some l) {w : World} {sp : Nat → Bool} {held : Bool} {n : Nat} {cs : List Value} {x : DataW H × List MemPlace} (h : DataW.trod enc P w 0 sp held n T cs = some x) :
    cs.length = P.cellsOf T ∧ ∀ (i : Nat) (q : TypeId × Nat × Nat), l[i]? = some q → ∃ n' y, DataW.trod enc P w 0 sp held n' q.1 ((cs.drop q.2.1).take q.2.2) = some y := by
  unfold CV at hT
  split at hT
  · rename_i fs hu
    injection hT with hT
    subst hT
    obtain ⟨xs, n', _, rfl, hl, hlen, hf⟩ := DataW.trod_struct hu h
    refine ⟨hl, fun i q hq => ?_⟩
    simp only [List.getElem?_map] at hq
    cases hfi : fs.toList[i]? with
    | none => rw [hfi] at hq; cases hq
    | some fd =>
      rw [hfi] at hq
      simp only [Option.map_some, Option.some.injEq] at hq
      subst hq
      have hi : i < xs.length := by rw [hlen]; have := (List.getElem?_eq_some_iff.1 hfi).1; simpa using this
      exact ⟨n', xs[i], by rw [hf i fd (by simpa using hfi)]; exact List.getElem?_eq_getElem hi⟩
  · cases hT
def cc {w : World} {Fz : av} {ps qs : List PV} {cs : List Value} {o s : Nat} (h : bK ps Fz w ((cs.drop o).take s)) (k : bK qs Fz w (cs.drop (o + s))) : bK (ps ++ qs) Fz w (cs.drop o) := by
  have := h.append k
  rwa [← List.drop_drop, eA] at this
def ky {w : World} {Fz : av} {cs : List Value} {o : Nat} (h : cs.length = o) : bK [] Fz w (cs.drop o) := by
  subst h; exact List.drop_length ..
def CW {T : TypeId} {ag : Bool} {k : Nat} {α : Type} {f : α → List PV} {g : α → Prop} (hT : bO P T = some (ag, k)) (hs : eX P T f g) {w : World} {r : Reach} {b0 : Nat} {v : Value} {d : DataW H} {ps : List MemPlace} (hval : Value.okWide P w r b0 T v) (h : DataW.Trod enc P w 0 (fun _ => true) true T v d ps) :
    ∃ a, qe ag (f a) (r7 w) w v ∧ g a := by
  obtain ⟨n, hn⟩ := h
  obtain ⟨a, ha, hg⟩ := hs enc w _ _ n _ _ hn
  refine ⟨a, ⟨?_, ha⟩, hg⟩
  unfold bO at hT
  cases hu : P.underlying T with
  | none => rw [hu] at hT; cases hT
  | some dd =>
    cases hi : P.info? T with
    | none => rw [hu, hi] at hT; cases hT
    | some i =>
      rw [hu, hi] at hT
      simp only [Option.some.injEq, Prod.mk.injEq] at hT
      obtain ⟨hT, _⟩ := hT
      unfold Value.okWide at hval
      rw [hu] at hval
      cases dd <;> simp only at hT hval <;> subst hT <;> first
        | (obtain ⟨cs, rfl, _⟩ := hval; rfl)
        | (cases v <;> first | rfl | (simp [Cell.okWide, Cell.ok, hu] at hval))
end
end
end Go.Proofs.YtmekkgdboplbjaaGreat.M
namespace Go.Proofs.YtmekkgdboplbjaaGreat.M
open Go Go.RowKit
section
section
variable {P : Program} {n d : Nat} {ty : TypeId} {pos : String} {af : Array Edge} {g : Option (Nat × Bool)} {G : r6}
end
end
section
section
variable {h0 : Nat → Prop} {n : Nat} {w0 w : World} {Fz0 Fz : av} {σ : St} {a : Act} {φ : Nat → Nat} {Fp : Nat → List Nat} {P : Program} {c : Code} {Q : Exit → St → Prop}
end
end
end Go.Proofs.YtmekkgdboplbjaaGreat.M
namespace Go.Proofs.YtmekkgdboplbjaaGreat.M
open Go
section
inductive eD (s : Nat → Option RV) : List Nat → List (Nat × RV) → Prop
  | nil : eD s [] []
  | cons {k : Nat} {v : RV} {ks : List Nat} {l : List (Nat × RV)} (h : s k = some v) (t : eD s ks l) : eD s (k :: ks) ((k, v) :: l)
def eD.rd {s : Nat → Option RV} {ks : List Nat} {l : List (Nat × RV)} (h : eD s ks l) : a8 l s := by
  induction h with
  | nil => exact True.intro
  | cons h _ ih => exact And.intro h ih
inductive hY (b : Nat → Option (Nat × List PV)) : List Nat → List (Nat × (Nat × List PV)) → Prop
  | nil : hY b [] []
  | cons {k : Nat} {v : Nat × List PV} {ks : List Nat} {l : List (Nat × (Nat × List PV))} (h : b k = some v) (t : hY b ks l) : hY b (k :: ks) ((k, v) :: l)
def hY.rd {b : Nat → Option (Nat × List PV)} {ks : List Nat} {l : List (Nat × (Nat × List PV))} (h : hY b ks l) : a8 l b := by
  induction h with
  | nil => exact True.intro
  | cons h _ ih => exact And.intro h ih
def qq : (∀ {p : Prop} [Decidable p], (decide p = true) = p) ∧ (∀ {p : Prop} [Decidable p], decide p = false ↔ ¬ p) ∧ (∀ {α : Type} [BEq α] [LawfulBEq α] {a b : α}, (a != b) = true ↔ a ≠ b) ∧ (∀ {α : Type} [BEq α] [LawfulBEq α] {a b : α}, (a == b) = true ↔ a = b) ∧ (∀ {b : Bool}, ((!b) = true) = (b = false)) ∧ (∀ {b : Bool}, ((!b) = false) = (b = true)) ∧ (∀ {α : Type} {a b : α}, (a ≠ b) = ¬ a = b) ∧ (∀ {α : Type} [BEq α] [LawfulBEq α] {a b : α}, (a != b) = false ↔ a = b) ∧ (∀ {α : Type} [BEq α] [LawfulBEq α] {a b : α}, (a == b) = false ↔ a ≠ b) :=
  ⟨q1, q2, q3, q4, q5, q6, q7, q8, q9⟩
def CX {L : Nat → Prop} {a b : List PV} (h : ai L a) (k : ai L b) : ai L (List.append a b) := ai.app h k
def lc {G : Prop} (h : G := by repeat' (first | with_reducible (first | exact ln.nil | exact ai.nil | exact ai.vals | exact PV.lcl_val | exact PV.lcl_any | exact RV.lcl_hdr | exact RV.lcl_ptr | exact RV.lcl_gat | exact RV.lcl_phi | apply ln.cons | apply ai.cons | apply RV.lcl_nm | apply RV.lcl_sv | apply RV.lcl_gh | apply PV.lcl_nv | apply PV.lcl_own | apply ai.flat | apply ai.app | apply CX | refine ai.map fun _ => ?_) | apply ai.cons | apply ln.cons | exact ai.nil | refine ai.map fun _ => ?_)) : G := h
def aI {a b : Prop} (x : a) (y : b) : a ∧ b := ⟨x, y⟩
def tI : True := True.intro
def nl {a b : Nat} (h : Nat.ble a b = true) : a ≤ b := Nat.le_of_ble_eq_true h
section
variable {P : Program} {n : Nat} {h0 : Nat → Prop} {w0 : World} {Fz0 : av} {c x y : Code} {σ : St} {Q : Exit → St → Prop}
def sP (ks bs : List Nat) {l : List (Nat × RV)} {b : List (Nat × (Nat × List PV))} (h : SW P n h0 w0 Fz0 c (St.of l b) Q) (hl : eD σ.s ks l := by repeat (first | exact eD.nil | apply eD.cons rfl)) (hb : hY σ.b bs b := by repeat (first | exact hY.nil | apply hY.cons rfl)) : SW P n h0 w0 Fz0 c σ Q := sO l b h hl.rd hb.rd
def sS {id : Nat} {ops : Array Oper} (ks bs : List Nat) {l : List (Nat × RV)} {b : List (Nat × (Nat × List PV))} (h : aq P n ops (fun τ => qh (fun τ => SW P n h0 w0 Fz0 y τ Q) Q .normal τ) ops.toList (St.of l b)) (hl : eD σ.s ks l := by repeat (first | exact eD.nil | apply eD.cons rfl)) (hb : hY σ.b bs b := by repeat (first | exact hY.nil | apply hY.cons rfl)) : SW P n h0 w0 Fz0 (.seq (.region id ops false) y) σ Q := aP (sO l b (ba h) hl.rd hb.rd)
def sG {id : Nat} {ops : Array Oper} (ks bs : List Nat) {l : List (Nat × RV)} {b : List (Nat × (Nat × List PV))} (h : aq P n ops (fun τ => Q .normal τ) ops.toList (St.of l b)) (hl : eD σ.s ks l := by repeat (first | exact eD.nil | apply eD.cons rfl)) (hb : hY σ.b bs b := by repeat (first | exact hY.nil | apply hY.cons rfl)) : SW P n h0 w0 Fz0 (.region id ops false) σ Q := sO l b (ba h) hl.rd hb.rd
def sL {ι : Type} (ks bs : List Nat) (I : ι → Prop) {l0 : List (Nat × RV)} {b0 : List (Nat × (Nat × List PV))} (l : ι → List (Nat × RV)) (b : ι → List (Nat × (Nat × List PV))) (m : ι → Nat) (i0 : ι) (h0' : I i0) (hl : a8 (l i0) σ.s) (hb : a8 (b i0) σ.b)
    (round : ∀ i, I i → SW P n h0 w0 Fz0 c (St.of (l0 ++ l i) (b0 ++ b i)) (qh (fun τ => ∃ j, I j ∧ m j < m i ∧ (a8 l0 τ.s ∧ a8 b0 τ.b) ∧ a8 (l j) τ.s ∧ a8 (b j) τ.b) Q)) (hl0 : eD σ.s ks l0 := by repeat (first | exact eD.nil | apply eD.cons rfl)) (hb0 : hY σ.b bs b0 := by repeat (first | exact hY.nil | apply hY.cons rfl)) : SW P n h0 w0 Fz0 (.loop c) σ Q := MU I l b m i0 h0' hl0.rd hb0.rd hl hb round
def sR {id : Nat} {ops : Array Oper} (h : aq P n ops (fun τ => qh (fun τ => SW P n h0 w0 Fz0 y τ Q) Q .normal τ) ops.toList σ) : SW P n h0 w0 Fz0 (.seq (.region id ops false) y) σ Q := aP (ba h)
end
section
variable {P : Program} {n : Nat} {ops : Array Oper} {σ : St} {QS : St → Prop} {l : List Oper} {d x : Nat} {ty : TypeId} {pos : String} {af : Array Edge}
def rM {v : Value} (y : aq P n ops QS l (σ.app ⟨[(x, RV.sc v)], [], [(d, some (RV.sc v))], [], none⟩)) (h1 : a8 [(x, RV.sc v)] σ.s := by repeat (first | exact True.intro | refine And.intro rfl ?_)) (hd : d < n := by decide) : aq P n ops QS (⟨some d, .move (.tmp x), ty, pos, af, none⟩ :: l) σ := rA y h1 True.intro (sM hd) rfl rfl
def rS {v : Value} (y : aq P n ops QS l (σ.app ⟨[(x, RV.sc v)], [], [(d, some (RV.sc v))], [], none⟩)) (h1 : a8 [(x, RV.sc v)] σ.s := by repeat (first | exact True.intro | refine And.intro rfl ?_)) (hd : d < n := by decide) : aq P n ops QS (⟨some d, .assign (.tmp x), ty, pos, af, none⟩ :: l) σ := rA y h1 True.intro (sA hd) rfl rfl
def rK {v : Value} (y : aq P n ops QS l (σ.app ⟨[], [], [(d, some (RV.sc v))], [], none⟩)) (h : v.oneCell' = true := by exact rfl) (hd : d < n := by decide) : aq P n ops QS (⟨some d, .assign (.const v), ty, pos, af, none⟩ :: l) σ := rA y True.intro True.intro (kA h hd) rfl rfl
end
end
end Go.Proofs.YtmekkgdboplbjaaGreat.M
namespace Go.Proofs.YtmekkgdboplbjaaGreat.M
open Go Go.RowKit
section
inductive hZ : List PV → List PV → Prop
  | nil : hZ [] []
  | val {v : Value} {l m : List PV} (h : hZ l m) : hZ (PV.val v :: l) (PV.val v :: m)
  | sl {o : Fl} {es : List (List PV)} {l m : List PV} (h : hZ l m) : hZ (PV.sl o es :: l) (PV.sl o es :: m)
def hZ.eq {l m : List PV} (h : hZ l m) : l = m := by
  induction h with
  | nil => rfl
  | val _ ih => rw [ih]
  | sl _ ih => rw [ih]
inductive gy (b : Nat → Option (Nat × List PV)) : List Nat → List (Nat × (Nat × List PV)) → Prop
  | nil : gy b [] []
  | cons {k T : Nat} {cs ds : List PV} {ks : List Nat} {l : List (Nat × (Nat × List PV))} (h : b k = some (T, cs)) (e : hZ cs ds) (t : gy b ks l) : gy b (k :: ks) ((k, (T, ds)) :: l)
  | any {k T : Nat} {cs : List PV} {ks : List Nat} {l : List (Nat × (Nat × List PV))} (h : b k = some (T, cs)) (t : gy b ks l) : gy b (k :: ks) ((k, (T, cs)) :: l)
def gy.rd {b : Nat → Option (Nat × List PV)} {ks : List Nat} {l : List (Nat × (Nat × List PV))} (h : gy b ks l) : a8 l b := by
  induction h with
  | nil => exact True.intro
  | cons h e _ ih => exact And.intro (e.eq ▸ h) ih
  | any h _ ih => exact And.intro h ih
section
variable {P : Program} {n : Nat} {h0 : Nat → Prop} {w0 : World} {Fz0 : av} {c x y : Code} {σ : St} {Q : Exit → St → Prop}
def sQ (ks bs : List Nat) {l : List (Nat × RV)} {b : List (Nat × (Nat × List PV))} (h : SW P n h0 w0 Fz0 c (St.of l b) Q) (hl : eD σ.s ks l := by repeat (first | exact eD.nil | apply eD.cons rfl)) (hb : gy σ.b bs b := by repeat (first | exact gy.nil | refine gy.cons rfl (by repeat (first | exact hZ.nil | apply hZ.val | apply hZ.sl)) ?_ | apply gy.any rfl)) : SW P n h0 w0 Fz0 c σ Q := sO l b h hl.rd hb.rd
def sT {id : Nat} {ops : Array Oper} (ks bs : List Nat) {l : List (Nat × RV)} {b : List (Nat × (Nat × List PV))} (h : aq P n ops (fun τ => qh (fun τ => SW P n h0 w0 Fz0 y τ Q) Q .normal τ) ops.toList (St.of l b)) (hl : eD σ.s ks l := by repeat (first | exact eD.nil | apply eD.cons rfl)) (hb : gy σ.b bs b := by repeat (first | exact gy.nil | refine gy.cons rfl (by repeat (first | exact hZ.nil | apply hZ.val | apply hZ.sl)) ?_ | apply gy.any rfl)) : SW P n h0 w0 Fz0 (.seq (.region id ops false) y) σ Q := aP (sO l b (ba h) hl.rd hb.rd)
def sH {id : Nat} {ops : Array Oper} (ks bs : List Nat) {l : List (Nat × RV)} {b : List (Nat × (Nat × List PV))} (h : aq P n ops (fun τ => Q .normal τ) ops.toList (St.of l b)) (hl : eD σ.s ks l := by repeat (first | exact eD.nil | apply eD.cons rfl)) (hb : gy σ.b bs b := by repeat (first | exact gy.nil | refine gy.cons rfl (by repeat (first | exact hZ.nil | apply hZ.val | apply hZ.sl)) ?_ | apply gy.any rfl)) : SW P n h0 w0 Fz0 (.region id ops false) σ Q := sO l b (ba h) hl.rd hb.rd
def nx {ι : Type} {I : ι → Prop} {m : ι → Nat} {M : Nat} {C D : Prop} {E F : ι → Prop} (j : ι) (a : I j) (b : m j < M := by first | omega | (dsimp only; omega)) (c : C := by repeat (first | exact True.intro | refine And.intro rfl ?_)) (d : D := by repeat (first | exact True.intro | refine And.intro rfl ?_)) (e : E j := by repeat (first | exact True.intro | refine And.intro rfl ?_)) (f : F j := by repeat (first | exact True.intro | refine And.intro rfl ?_)) : ∃ j, I j ∧ m j < M ∧ (C ∧ D) ∧ E j ∧ F j := ⟨j, a, b, ⟨c, d⟩, e, f⟩
def sF {f : FuncId} {fn : Func} {c : Code} {args rs : List (Bool × List PV)} (hf : P.funcs[f]? = some fn) (h : ∀ (h0 : Nat → Prop) (w0 : World) (Fz0 : av), SW P fn.ntmps h0 w0 Fz0 c (St.of (fY 0 args) []) (rP P fn.results.toList rs)) (hb : fn.body = some c := by exact rfl) (hn : args.length ≤ fn.ntmps := by exact Nat.le_of_ble_eq_true rfl)
    (hbor : tV args := by repeat (first | with_reducible exact hI | with_reducible refine hJ (by repeat (first | with_reducible exact ao.nil | with_reducible refine ao.cons (PV.bor_val _) ?_ | with_reducible refine ao.cons (PV.bor_sl _) ?_ | with_reducible refine ao.cons (PV.bor_lo _ _) ?_)) ?_)) : aC P f args (az rs) := MW hf hb hn hbor h
def sn (s j : Nat) {ag : Bool} {cs : List PV} {o : Fl} {es : List (List PV)} {m : Nat} (h : m ≤ 9223372036854775807 → SW P n h0 w0 Fz0 c σ Q) (hs : σ.s s = some (RV.sv ag cs) := by exact rfl) (hj : cs[j]? = some (PV.sl o es) := by exact rfl) (hm : es.length = m := by first | exact ar _ | exact rfl) : SW P n h0 w0 Fz0 c σ Q := M1 hs hj fun k => h (hm ▸ k)
def sj (s : Nat) {o : Fl} {es : List (List PV)} {m : Nat} (h : m ≤ 9223372036854775807 → SW P n h0 w0 Fz0 c σ Q) (hs : σ.s s = some (RV.slc o es) := by exact rfl) (hm : es.length = m := by first | exact ar _ | exact rfl) : SW P n h0 w0 Fz0 c σ Q := MV hs fun k => h (hm ▸ k)
def sc {t : Nat} {b : Bool} {A B : Prop} (h1 : A → SW P n h0 w0 Fz0 x σ Q) (h2 : B → SW P n h0 w0 Fz0 y σ Q) (ht : σ.s t = some (RV.bool b) := by exact rfl) (u1 : b = true → A := by first | (intro h; simp only [qq] at h; exact h) | exact id) (u2 : b = false → B := by first | (intro h; simp only [qq] at h; exact h) | exact id) : SW P n h0 w0 Fz0 (.cond (.tmp t) x y) σ Q := xi ht (fun k => h1 (u1 k)) (fun k => h2 (u2 k))
def dc {t : Nat} (h1 : SW P n h0 w0 Fz0 x σ Q) (ht : σ.s t = some (RV.bool true) := by exact rfl) : SW P n h0 w0 Fz0 (.cond (.tmp t) x y) σ Q := xi ht (fun _ => h1) (fun k => nomatch k)
def fh {t : Nat} (h1 : SW P n h0 w0 Fz0 y σ Q) (ht : σ.s t = some (RV.bool false) := by exact rfl) : SW P n h0 w0 Fz0 (.cond (.tmp t) x y) σ Q := xi ht (fun k => nomatch k) (fun _ => h1)
end
section
variable {P : Program} {n : Nat} {ops : Array Oper} {σ σ0 : St} {QS : St → Prop} {l : List Oper} {o : Oper} {acc : List (Nat × aG)} {C : Nat → aG → Prop}
def cx (s : Nat) {b : Bool} {A B : Prop} (h1 : b = true → A → aq P n ops QS l σ) (h2 : b = false → B → aq P n ops QS l σ) (ht : σ.s s = some (RV.bool b) := by exact rfl) (u1 : b = true → A := by first | (intro h; simp only [qq] at h; exact h) | exact id) (u2 : b = false → B := by first | (intro h; simp only [qq] at h; exact h) | exact id) : aq P n ops QS l σ := aq.cases ht (fun k => h1 k (u1 k)) (fun k => h2 k (u2 k))
def dx (s : Nat) {b : Bool} {A B : Prop} (h1 : b = true → A → bY P n ops σ0 C QS l acc σ) (h2 : b = false → B → bY P n ops σ0 C QS l acc σ) (ht : σ.s s = some (RV.bool b) := by exact rfl) (u1 : b = true → A := by first | (intro h; simp only [qq] at h; exact h) | exact id) (u2 : b = false → B := by first | (intro h; simp only [qq] at h; exact h) | exact id) : bY P n ops σ0 C QS l acc σ := bY.cases ht (fun k => h1 k (u1 k)) (fun k => h2 k (u2 k))
inductive Hd (H : Prop) : Prop
  | mk (h : H) : Hd H
def Hd.g {H : Prop} : Hd H → H := fun x => by cases x with | mk h => exact h
abbrev ae (G H : Prop) := Hd H → G
def ah {G H : Prop} (w : ae G H) (h : H) : G := w ⟨h⟩
def zt {c : Bool} {G H : Prop} (g : c = true) (h : H) (w : c = true → Hd H → G := by intro g_ h_; (repeat (first | refine aq.s0t g_ ?_ | refine aq.su ?_)); exact h_.g) : G := w g ⟨h⟩
def zf {c : Bool} {G H : Prop} (g : c = false) (h : H) (w : c = false → Hd H → G := by intro g_ h_; (repeat (first | refine aq.s0f g_ ?_ | refine aq.su ?_)); exact h_.g) : G := w g ⟨h⟩
def rX {L : aG} (y : aq P n ops QS l (σ.app L)) (h1 : a8 L.rs σ.s := by repeat (first | exact True.intro | refine And.intro rfl ?_)) (h2 : a8 L.rb σ.b := by repeat (first | exact True.intro | refine And.intro rfl ?_)) (x : Loc P n o L) (hg : o.guard = none := by exact rfl) (ha : ∀ d, L.al = some d → cD d σ := by refine nf ?_; repeat (first | exact cD.of_ rfl | refine cD.app ?_ rfl)) : aq P n ops QS (o :: l) σ := aq.step h1 h2 (ax.of hg x) ha y
def dX {L : aG} (m : Nat) (y : bY P n ops σ0 C QS l (acc ++ [(m, L)]) (σ.app L)) (h1 : a8 L.rs σ.s := by repeat (first | exact True.intro | refine And.intro rfl ?_)) (h2 : a8 L.rb σ.b := by repeat (first | exact True.intro | refine And.intro rfl ?_)) (x : Loc P n o L) (hg : o.guard = none := by exact rfl) (ha : ∀ d, L.al = some d → cD d σ0 := by exact aH) (h4 : lj m o L acc = true := by kernel_rfl) (hC : C acc.length L := by show (List.all _ _) = true; kernel_rfl) : bY P n ops σ0 C QS (o :: l) acc σ := bY.stepC m h1 h2 (ax.of hg x) ha h4 hC y
end
def rb {b c : Bool} (h : b = c) : some (RV.bool b) = some (RV.bool c) ∧ True := ⟨gu h, True.intro⟩
def Nu {L : Nat → Prop} : ∀ cs, cs ∈ ([] : List (List PV)) → ai L cs := fun _ h => nomatch h
def Nv {L : Nat → Prop} : ∀ cs, cs ∈ ([] : List (List PV)) → im L cs := fun _ h => nomatch h
def lq {G : Prop} (h : G := by repeat' (first | with_reducible (first | exact ai.nil | exact ai.vals | exact im.nil | exact PV.lcl_val | exact PV.lclr_val | exact PV.lcl_any | exact RV.lcl_hdr | exact RV.lcl_ptr | exact RV.lcl_gat | exact RV.lcl_phi | exact ao.nil | exact PV.bor_val _ | exact PV.bor_sl _ | exact PV.bor_lo _ _ | exact PV.bor_any | exact PV.bor_clo _ _ | exact PV.bor_ep _ | apply PV.bor_nv | exact hI | exact ab.nil | exact PV.tob_refl | exact aA.nil | exact OTo.refl | exact OTo.lo | apply ai.cons | apply im.cons | apply ao.cons | apply hJ | apply ab.cons | apply aA.cons | apply RV.lcl_nm | apply RV.lcl_sv | apply RV.lcl_gh | apply PV.lcl_nv | apply PV.lcl_own | apply PV.lcl_lo | apply PV.lclr_lo | apply ai.flat | apply ai.app | apply CX | refine ai.map fun _ => ?_ | refine im.map fun _ => ?_ | refine PV.tob_map (fun _ => Nat.le_of_ble_eq_true rfl) (fun _ => ?_) | exact True.intro) | apply ai.cons | apply im.cons | apply ab.cons | apply ao.cons | apply hJ | exact ai.nil | exact im.nil | exact ab.nil | exact ao.nil | exact hI | exact Nu | exact Nv | apply aA.cons | apply RV.lcl_sv | exact RV.lcl_ptr | exact True.intro | exact Or.inl rfl | (refine Or.inl ?_; simp [iM]; done) | refine Or.inr ?_ | refine And.intro rfl ?_ | refine And.intro ?_ ?_ | exact rfl | refine ai.map fun _ => ?_)) : G := h
end
section
def ud {α : Type} {f g : α → List PV} {fN : α × (Nat → Value) → List PV} {e : Nat} (hN : ∀ x h, fN (x, h) = dy h 0 (g x)) (hg : ∀ x, (g x).length = e) (hq : ∀ x, am (f x) (g x)) (hb : ∀ x, ao (g x)) {Fz : av} {w : World} : ∀ {xs : List α} {css : List Value} {F : List Nat}, b3 e (xs.map f) Fz w css F →
    ∃ zs : List (α × (Nat → Value)), zs.map Prod.fst = xs ∧ css = bi e zs ∧ b3 e (zs.map fN) Fz w css [] ∧ aJ (bG f zs) Fz w (bi e zs) F
  | [], css, F, h => by
    obtain ⟨rfl, rfl⟩ := h
    exact ⟨[], rfl, rfl, ⟨rfl, rfl⟩, ⟨rfl, rfl⟩⟩
  | x :: xs, css, F, h => by
    obtain ⟨c, d, F1, F2, rfl, rfl, hl, h1, h2⟩ := h
    obtain ⟨zs, e1, e2, e3, e4⟩ := ud hN hg hq hb h2
    obtain ⟨k, hk⟩ := xH hl
    refine ⟨(x, k) :: zs, by rw [List.map_cons, e1], ?_, ?_, ?_⟩
    · rw [hk, e2]; rfl
    · refine ⟨c, d, [], [], rfl, rfl, hl, ?_, e3⟩
      rw [hN, ub, hg, ← List.range_eq_range', ← hk]
      exact ua (hb x) ((hq x).rel h1.rel)
    · have : aJ (f x ++ bG f zs) Fz w (c ++ bi e zs) (F1 ++ F2) := h1.append e4
      rw [hk] at this; exact this
section
variable {P : Program} {n : Nat} {h0 : Nat → Prop} {w0 : World} {Fz0 : av} {σ : St} {Q : Exit → St → Prop} {c : Code}
def CY {s t e G : Nat} {α : Type} {f g : α → List PV} {fN : α × (Nat → Value) → List PV} {xs : List α} (hs : σ.s s = some (RV.sv false [PV.sl (.own t e) (xs.map f)])) (hsG : Nat.beq s G = false) (hG : σ.s G = none) (hN : ∀ x h, fN (x, h) = dy h 0 (g x)) (hg : ∀ x, (g x).length = e) (hq : ∀ x, am (f x) (g x)) (hb : ∀ x, ao (g x))
    (h : ∀ zs : List (α × (Nat → Value)), zs.map Prod.fst = xs → SW P n h0 w0 Fz0 c ((σ.set s (some (RV.sv false [PV.sl .v (zs.map fN)]))).set G (some (RV.gh (bi e zs) (bG f zs)))) Q) : SW P n h0 w0 Fz0 c σ Q := fun a w hc => by
  rw [beq_eq, decide_eq_false_iff_not] at hsG
  obtain ⟨φ, Fz, Fp, hc⟩ := hc
  have hv : bQ false [PV.sl (.own t e) (xs.map f)] Fz w (a.tmps.getD s undef) (Fp (2 * s + 1)) := hc.slot s _ hs
  obtain ⟨hag, v, vs', F1, F2, hv1, hF, ho, hnil, rfl⟩ := hv
  subst hnil
  have ho : cK t e (xs.map f) Fz w v F1 := ho
  obtain ⟨css, F', hrow, hll, hfz, rfl, hone⟩ := ho
  obtain ⟨zs, e1, e2, e3, e4⟩ := ud hN hg hq hb hll
  have hlen : (zs.map fN).length = (xs.map f).length := by rw [ar, ar, ← e1, ar]
  have hsl : cK t e (zs.map fN) Fz w v (v.ownBlock.toList ++ []) := ⟨css, [], by rw [hlen]; exact hrow, e3, fun g hg o => by rw [hlen]; exact hfz g hg o, rfl, hone⟩
  have c1 := hc.pull s
  have e0 : mv Fp (2 * s + 1) 0 = Fp (2 * s + 1) ++ Fp 0 := by simp [mv]
  have es : mv Fp (2 * s + 1) (2 * s + 1) = [] := by simp [mv]
  have hnd := c1.nod 0
  rw [e0, hF, dH] at hnd
  rw [hF, dH] at e0
  have c2 := c1.reslot (s := s) (rv := RV.sv false [PV.sl .v (zs.map fN)]) (by
    rw [es]
    exact ⟨hag, v, [], [], [], hv1, rfl, ⟨hsl.rel, rfl⟩, rfl, rfl⟩)
  have c3 := c2.pushG (G := G) (us := bi e zs) (cs := bG f zs) (F := F') (X := Fp 0) e4 (fun b hb => by
      rw [e0]
      rcases List.mem_append.1 hb with hb | hb
      · simp [hb]
      · simp [hb])
    (by
      rw [br] at hnd
      exact (List.nodup_append.1 hnd).2.1)
  exact h zs e1 a w (bk.eqv ⟨_, _, _, c3⟩ (fun i => by
    simp only [St.set_s]
    split
    · rfl
    · split <;> rfl) (fun d => rfl))
def CZ {G H e : Nat} {α : Type} {f : α → List PV} {ys zs : List (α × (Nat → Value))} (hG : σ.s G = some (RV.gh (bi e ys) (bG f ys))) (hH : σ.s H = some (RV.gh (bi e zs) (bG f zs))) (hGH : Nat.beq G H = false) (h : SW P n h0 w0 Fz0 c ((σ.set H none).set G (some (RV.gh (bi e (ys ++ zs)) (bG f (ys ++ zs))))) Q) : SW P n h0 w0 Fz0 c σ Q := fun a w hc => by
  rw [beq_eq, decide_eq_false_iff_not] at hGH
  obtain ⟨φ, Fz, Fp, hc⟩ := hc
  have h1 : aJ (bG f ys) Fz w (bi e ys) (Fp (2 * G + 1)) := hc.slot G _ hG
  have h2 : aJ (bG f zs) Fz w (bi e zs) (Fp (2 * H + 1)) := hc.slot H _ hH
  have ho : aJ (bG f (ys ++ zs)) Fz w (bi e (ys ++ zs)) (Fp (2 * G + 1) ++ Fp (2 * H + 1)) := by
    have e1 : bG f (ys ++ zs) = bG f ys ++ bG f zs := by simp [bG]
    have e2 : bi e (ys ++ zs) = bi e ys ++ bi e zs := by simp [bi]
    rw [e1, e2]; exact h1.append h2
  have c1 := hc.pull H
  have c2 := c1.pull G
  have e1 : mv Fp (2 * H + 1) (2 * G + 1) = Fp (2 * G + 1) := by simp only [mv]; rw [if_neg (by omega), if_neg (by omega)]
  have e2 : mv (mv Fp (2 * H + 1)) (2 * G + 1) 0 = Fp (2 * G + 1) ++ (Fp (2 * H + 1) ++ Fp 0) := by
    rw [← e1]; simp [mv]
  have hnd := c2.nod 0
  rw [e2] at hnd
  have c3 := c2.pushG (G := G) (F := Fp (2 * G + 1) ++ Fp (2 * H + 1)) (X := Fp 0) ho (fun b hb => by rw [e2, ← br]; exact hb) (by rw [br]; exact hnd)
  exact h a w (bk.eqv ⟨_, _, _, c3⟩ (fun i => by
    simp only [St.set_s]
    split
    · rfl
    · rfl) (fun d => rfl))
def xK {d t G e : Nat} {α : Type} {f : α → List PV} {z : α × (Nat → Value)} {zs : List (α × (Nat → Value))} {ps : List PV} (hd : σ.b d = some (t, ps)) (hn : Nm ps ((List.range e).map z.2)) (hf : ∀ x, (f x).length = e) (hG : σ.s G = some (RV.gh (bi e (z :: zs)) (bG f (z :: zs))))
    (h : SW P n h0 w0 Fz0 c ((σ.setB d (some (t, f z.1))).set G (some (RV.gh (bi e zs) (bG f zs)))) Q) : SW P n h0 w0 Fz0 c σ Q := fun a w hc => by
  obtain ⟨φ, Fz, Fp, hc⟩ := hc
  have hg0 : aJ (f z.1 ++ bG f zs) Fz w ((List.range e).map z.2 ++ bi e zs) (Fp (2 * G + 1)) := hc.slot G _ hG
  obtain ⟨v1, v2, F1, F2, k1, k2, k3, k4⟩ := hg0.split
  obtain ⟨rfl, rfl⟩ := List.append_inj k1 (by rw [k3.len, hf]; simp)
  have c1 := hc.pull G
  have e0 : mv Fp (2 * G + 1) 0 = Fp (2 * G + 1) ++ Fp 0 := by simp [mv]
  obtain ⟨cur, h1, h2⟩ := c1.box d (t, ps) hd
  obtain ⟨g1, g2, g3⟩ := c1.bxb d (t, ps) hd
  have hu : cur.toList = (List.range e).map z.2 := hn h2.rel
  have c2 := c1.pullB (d := d) (cs := (t, ps)) hd
  generalize hFp1 : mv Fp (2 * G + 1) = Fp1 at c1 c2 e0 h2 g3
  have hnd := c2.nod 0
  simp only [if_true] at hnd
  have em : mv Fp1 (2 * d + 2) 0 = Fp1 (2 * d + 2) ++ Fp1 0 := by simp [mv]
  rw [em, e0, k2] at hnd
  rw [k2] at e0
  have c3 := c2.pushB (d := d) (g := φ d) (t := t) (cs := f z.1) (F := F1) (X := F2 ++ Fp 0) (by rw [St.setB_b, if_pos rfl]) h1 (by rw [hu]; exact k3) g2
    (fun x hx => by
      simp only [if_true]
      rw [em, e0]
      rcases List.mem_append.1 hx with hx | hx
      · simp [hx]
      · rcases List.mem_cons.1 hx with rfl | hx
        · simp
        · rcases List.mem_append.1 hx with hx | hx <;> simp [hx])
    (by
      simp only [fu, dr] at hnd
      obtain ⟨m0, m1⟩ := hnd
      have m2 := (List.nodup_append.1 m1).2.1
      rw [br, cg] at m2
      rw [cg]
      refine ⟨m2.1, List.nodup_cons.2 ⟨fun hh => ?_, m2.2.1⟩, fun x hx y hy e => ?_⟩
      · rcases List.mem_append.1 hh with hh | hh
        · exact m0 (.inr (.inl (.inr hh)))
        · exact m0 (.inr (.inr hh))
      · rcases List.mem_cons.1 hy with rfl | hy
        · exact m0 (.inr (.inl (.inl (e ▸ hx))))
        · exact m2.2.2 x hx y hy e)
    (.inl rfl)
  have hn3 := c3.nod 0
  have c4 := c3.pushG (G := G) (F := F2) (X := Fp 0) k4 (fun b hb => by simp only [co]; rw [if_neg (by omega)]; simpa using hb) (by
    simp only [co] at hn3
    rw [if_neg (by omega)] at hn3
    simpa using hn3)
  exact h a w (bk.eqv ⟨_, _, _, c4⟩ (fun i => by
    simp only [St.set_s, St.setB_s]
    split <;> rfl) (fun e => by
    simp only [St.setB_b, St.set_b]
    split <;> rfl))
def qo {d T t e G : Nat} {A B : List PV} {α : Type} {f g : α → List PV} {fN : α × (Nat → Value) → List PV} {xs : List α} (hd : σ.b d = some (T, A ++ (PV.sl (.own t e) (xs.map f) :: B))) (hG : σ.s G = none) (hN : ∀ x h, fN (x, h) = dy h 0 (g x)) (hg : ∀ x, (g x).length = e) (hq : ∀ x, am (f x) (g x)) (hb : ∀ x, ao (g x))
    (h : ∀ zs : List (α × (Nat → Value)), zs.map Prod.fst = xs → SW P n h0 w0 Fz0 c ((σ.setB d (some (T, A ++ (PV.sl .v (zs.map fN) :: B)))).set G (some (RV.gh (bi e zs) (bG f zs)))) Q) : SW P n h0 w0 Fz0 c σ Q := fun a w hc => by
  obtain ⟨φ, Fz, Fp, hc⟩ := hc
  obtain ⟨cur, h1, h2⟩ := hc.box d _ hd
  obtain ⟨g1, g2, g3⟩ := hc.bxb d _ hd
  obtain ⟨v1, v2, F1, F2, k1, k2, k3, v, vs', E1, E2, rfl, rfl, ho, kB⟩ := h2.split
  have ho : cK t e (xs.map f) Fz w v E1 := ho
  obtain ⟨css, F', hrow, hll, hfz, rfl, hone⟩ := ho
  obtain ⟨zs, e1, e2, e3, e4⟩ := ud hN hg hq hb hll
  have hlen : (zs.map fN).length = (xs.map f).length := by rw [ar, ar, ← e1, ar]
  have hsl : cK t e (zs.map fN) Fz w v (v.ownBlock.toList ++ []) := ⟨css, [], by rw [hlen]; exact hrow, e3, fun g hg o => by rw [hlen]; exact hfz g hg o, rfl, hone⟩
  have hnew : aJ (A ++ (PV.sl .v (zs.map fN) :: B)) Fz w cur.toList (F1 ++ ([] ++ E2)) := by
    rw [k1]
    exact k3.append ⟨v, vs', [], E2, rfl, rfl, ⟨hsl.rel, rfl⟩, kB⟩
  rw [List.nil_append] at hnew
  have c2 := hc.pullB hd
  have hnd := c2.nod 0
  simp only [if_true] at hnd
  have em : mv Fp (2 * d + 2) 0 = Fp (2 * d + 2) ++ Fp 0 := by simp [mv]
  have k2' : Fp (2 * d + 2) = F1 ++ (v.ownBlock.toList ++ F' ++ E2) := k2
  rw [em, k2'] at hnd
  rw [k2'] at em
  have hperm : (φ d :: (F1 ++ (v.ownBlock.toList ++ F' ++ E2) ++ Fp 0)).Perm ((F1 ++ E2) ++ φ d :: (F' ++ (v.ownBlock.toList ++ Fp 0))) := by
    refine (List.Perm.trans ?_ List.perm_middle.symm)
    refine List.Perm.cons _ ?_
    simp only [br]
    refine fv _ ?_
    show (v.ownBlock.toList ++ (F' ++ (E2 ++ Fp 0))).Perm (E2 ++ (F' ++ (v.ownBlock.toList ++ Fp 0)))
    have p1 : ((v.ownBlock.toList ++ F') ++ (E2 ++ Fp 0)).Perm ((F' ++ v.ownBlock.toList) ++ (E2 ++ Fp 0)) := hE _ iK
    have p2 : ((F' ++ v.ownBlock.toList) ++ (E2 ++ Fp 0)).Perm (E2 ++ ((F' ++ v.ownBlock.toList) ++ Fp 0)) := by
      rw [← br, ← br]
      exact hE _ iK
    have p3 := p1.trans p2
    simpa using p3
  have c3 := c2.pushB (d := d) (g := φ d) (t := T) (cs := A ++ (PV.sl .v (zs.map fN) :: B)) (F := F1 ++ E2) (X := F' ++ (v.ownBlock.toList ++ Fp 0)) (by rw [St.setB_b, if_pos rfl]) h1 hnew g2
    (fun x hx => by
      simp only [if_true]
      rw [em]
      exact hperm.mem_iff.2 hx) (hperm.nodup_iff.1 hnd) (.inl rfl)
  have hn3 := c3.nod 0
  have c4 := c3.pushG (G := G) (F := F') (X := v.ownBlock.toList ++ Fp 0) e4 (fun b hb => by simp only [co]; rw [if_neg (by omega)]; simpa using hb) (by
    simp only [co] at hn3
    rw [if_neg (by omega)] at hn3
    simpa using hn3)
  exact h zs e1 a w (bk.eqv ⟨_, _, _, c4⟩ (fun i => by
    simp only [St.set_s, St.setB_s]) (fun e => by
    simp only [St.setB_b, St.set_b]
    split <;> rfl))
end
end
section
def Nw {α : Type} {f g : α → List PV} {fN : α × (Nat → Value) → List PV} {t e : Nat} (hN : ∀ x h, fN (x, h) = dy h 0 (g x)) (hg : ∀ x, (g x).length = e) (hq : ∀ x, am (f x) (g x)) (hb : ∀ x, ao (g x)) {Fz : av} {w : World} {xs : List α} {v : Value} {F : List Nat} (h : cK t e (xs.map f) Fz w v F) :
    ∃ zs : List (α × (Nat → Value)), ∃ F1 F2, zs.map Prod.fst = xs ∧ cK t e (zs.map fN) Fz w v F1 ∧ aJ (bG f zs) Fz w (bi e zs) F2 ∧ F = F1 ++ F2 := by
  obtain ⟨css, F', hrow, hll, hfz, rfl, hone⟩ := h
  obtain ⟨zs, e1, e2, e3, e4⟩ := ud hN hg hq hb hll
  have hlen : (zs.map fN).length = (xs.map f).length := by rw [ar, ar, ← e1, ar]
  exact ⟨zs, v.ownBlock.toList ++ [], F', e1, ⟨css, [], by rw [hlen]; exact hrow, e3, fun g hg o => by rw [hlen]; exact hfz g hg o, rfl, hone⟩, e4, by simp⟩
def C0 {α : Type} {f : α → List PV} {ys zs : List (α × (Nat → Value))} : bG f (ys ++ zs) = bG f ys ++ bG f zs := by simp [bG]
def qp {α : Type} {e : Nat} {ys zs : List (α × (Nat → Value))} : bi e (ys ++ zs) = bi e ys ++ bi e zs := by simp [bi]
def ue {α : Type} {a b c d : List α} : (a ++ b ++ (c ++ d)).Perm (a ++ c ++ (b ++ d)) := by
  simp only [br]
  refine fv _ ?_
  rw [← br, ← br]
  exact hE _ iK
def C2 {α : Type} {f g : α → List PV} {fN : α × (Nat → Value) → List PV} {e : Nat} (hN : ∀ x h, fN (x, h) = dy h 0 (g x)) (hg : ∀ x, (g x).length = e) (hf : ∀ x, (f x).length = e) {Fz : av} {w : World} : ∀ {zs : List (α × (Nat → Value))} {css : List Value} {F1 F2 : List Nat}, b3 e (zs.map fN) Fz w css F1 → aJ (bG f zs) Fz w (bi e zs) F2 → b3 e ((zs.map Prod.fst).map f) Fz w css F2
  | [], css, F1, F2, h, k => by
    obtain ⟨rfl, rfl⟩ := h
    obtain ⟨_, rfl⟩ := k
    exact ⟨rfl, rfl⟩
  | z :: zs, css, F1, F2, h, k => by
    obtain ⟨c, d, Fa, Fb, rfl, rfl, hl, h1, h2⟩ := h
    have k : aJ (f z.1 ++ bG f zs) Fz w ((List.range e).map z.2 ++ bi e zs) F2 := k
    obtain ⟨v1, v2, G1, G2, k1, k2, k3, k4⟩ := k.split
    obtain ⟨rfl, rfl⟩ := List.append_inj k1 (by rw [k3.len, hf]; simp)
    have hc : c = (List.range e).map z.2 := by
      have hr := h1.rel
      rw [show fN z = dy z.2 0 (g z.1) from hN z.1 z.2] at hr
      have hk : ∀ (ps : List PV) (i : Nat) (vs : List Value), bK (dy z.2 i ps) Fz w vs → vs = (List.range' i ps.length).map z.2 := by
        intro ps
        induction ps with
        | nil => intro i vs h; exact h
        | cons p ps ih =>
          intro i vs h
          obtain ⟨v, vs', rfl, h1, h2⟩ := h
          rw [ih _ _ h2, h1.1]; rfl
      rw [hk _ _ _ hr, hg, ← List.range_eq_range']
    subst hc
    exact ⟨_, d, G1, G2, rfl, k2, hl, k3, C2 hN hg hf h2 k4⟩
def C3 {α : Type} {f : α → List PV} {e : Nat} (hf : ∀ x, (f x).length = e) {Fz : av} {w : World} {z : α × (Nat → Value)} {l : List (α × (Nat → Value))} {F : List Nat} (h : aJ (bG f (z :: l)) Fz w (bi e (z :: l)) F) : ∃ F1 F2, F = F1 ++ F2 ∧ aJ (f z.1) Fz w ((List.range e).map z.2) F1 ∧ aJ (bG f l) Fz w (bi e l) F2 := by
  have h : aJ (f z.1 ++ bG f l) Fz w ((List.range e).map z.2 ++ bi e l) F := h
  obtain ⟨v1, v2, F1, F2, e1, rfl, h1, h2⟩ := h.split
  obtain ⟨rfl, rfl⟩ := List.append_inj e1 (by rw [h1.len, hf]; simp)
  exact ⟨F1, F2, rfl, h1, h2⟩
def C4 {α : Type} {f : α → List PV} {e : Nat} (hf : ∀ x, (f x).length = e) {Fz : av} {w : World} {ys zs : List (α × (Nat → Value))} (hs : ys.Sublist zs) : ∀ {F : List Nat}, aJ (bG f zs) Fz w (bi e zs) F → ∃ F' R, F.Perm (F' ++ R) ∧ aJ (bG f ys) Fz w (bi e ys) F' := by
  induction hs with
  | slnil => exact fun h => ⟨_, [], by rw [dH], h⟩
  | cons z hs ih =>
    intro F h
    obtain ⟨F1, F2, rfl, h1, h2⟩ := C3 hf h
    obtain ⟨F', R, hp, ho⟩ := ih h2
    exact ⟨F', F1 ++ R, (fv _ hp).trans (by rw [← br, ← br]; exact hE _ iK), ho⟩
  | cons_cons z hs ih =>
    intro F h
    obtain ⟨F1, F2, rfl, h1, h2⟩ := C3 hf h
    obtain ⟨F', R, hp, ho⟩ := ih h2
    refine ⟨F1 ++ F', R, (fv _ hp).trans (by rw [br]), ?_⟩
    exact h1.append ho
def C5 {α : Type} {f g : α → List PV} {fN : α × (Nat → Value) → List PV} {t e : Nat} (hN : ∀ x h, fN (x, h) = dy h 0 (g x)) (hg : ∀ x, (g x).length = e) (hf : ∀ x, (f x).length = e) {Fz : av} {w : World} {zs : List (α × (Nat → Value))} {v : Value} {F1 F2 : List Nat} (h : cK t e (zs.map fN) Fz w v F1) (k : aJ (bG f zs) Fz w (bi e zs) F2) : cK t e ((zs.map Prod.fst).map f) Fz w v (v.ownBlock.toList ++ F2) := by
  obtain ⟨css, F', hrow, hll, hfz, rfl, hone⟩ := h
  have hlen : ((zs.map Prod.fst).map f).length = (zs.map fN).length := by simp
  exact ⟨css, F2, by rw [hlen]; exact hrow, C2 hN hg hf hll k, fun g hg o => by rw [hlen]; exact hfz g hg o, rfl, hone⟩
def C6 {t e : Nat} {es : List (List PV)} {Fz : av} {w : World} {v : Value} {F : List Nat} (h : cK t e es Fz w v F) : ∃ F', F = v.ownBlock.toList ++ F' := by
  obtain ⟨css, F', hrow, hll, hfz, rfl, hone⟩ := h
  exact ⟨F', rfl⟩
def uf {α : Type} {f : α → List PV} {x : α} {xs : List α} {jk : List Value} : bA f (x :: xs) jk = f x ++ bA f xs jk := by
  unfold bA; rw [List.map_cons, List.flatten_cons, br]
def C7 {α : Type} {f g : α → List PV} {fN : α × (Nat → Value) → List PV} {t e : Nat} (hN : ∀ x h, fN (x, h) = dy h 0 (g x)) (hg : ∀ x, (g x).length = e) (hq : ∀ x, am (f x) (g x)) (hb : ∀ x, ao (g x)) {jk : List Value} {Fz : av} {w : World} : ∀ {xss : List (List α)} {vs : List Value} {F : List Nat}, aJ (bA (fun xs => [PV.sl (.own t e) (xs.map f)]) xss jk) Fz w vs F →
    ∃ zss : List (List (α × (Nat → Value))), ∃ F1 F2, zss.map (List.map Prod.fst) = xss ∧ aJ (bA (fun zs => [PV.sl (.own t e) (zs.map fN)]) zss jk) Fz w vs F1 ∧ aJ (bG f zss.flatten) Fz w (bi e zss.flatten) F2 ∧ F.Perm (F1 ++ F2)
  | [], vs, F, h => ⟨[], F, [], rfl, h, ⟨rfl, rfl⟩, by rw [dH]⟩
  | xs :: xss, vs, F, h => by
    rw [uf] at h
    obtain ⟨v, vs', Fa, Fb, rfl, rfl, ho, h2⟩ := h
    obtain ⟨zs, A1, A2, e1, e2, e3, rfl⟩ := Nw hN hg hq hb (show cK t e (xs.map f) Fz w v Fa from ho)
    obtain ⟨zss, B1, B2, e4, e5, e6, hp⟩ := C7 hN hg hq hb h2
    refine ⟨zs :: zss, A1 ++ B1, A2 ++ B2, by rw [List.map_cons, e1, e4], ?_, ?_, ?_⟩
    · rw [uf]; exact ⟨v, vs', A1, B1, rfl, rfl, e2, e5⟩
    · rw [List.flatten_cons, C0, qp]; exact e3.append e6
    · exact (fv _ hp).trans ue
def Nx {α : Type} {f : α → List PV} {e : Nat} (hf : ∀ x, (f x).length = e) : ∀ l : List (α × (Nat → Value)), (bi e l).length = (bG f l).length := by
  intro l
  induction l with
  | nil => rfl
  | cons z l ih =>
    show ((List.range e).map z.2 ++ bi e l).length = (f z.1 ++ bG f l).length
    simp [hf, ih]
def C8 {α : Type} {f g : α → List PV} {fN : α × (Nat → Value) → List PV} {t e : Nat} (hN : ∀ x h, fN (x, h) = dy h 0 (g x)) (hg : ∀ x, (g x).length = e) (hf : ∀ x, (f x).length = e) {jk : List Value} {Fz : av} {w : World} : ∀ {zss : List (List (α × (Nat → Value)))} {vs : List Value} {F1 F2 : List Nat}, aJ (bA (fun zs => [PV.sl (.own t e) (zs.map fN)]) zss jk) Fz w vs F1 → aJ (bG f zss.flatten) Fz w (bi e zss.flatten) F2 →
    ∃ F R, aJ (bA (fun xs => [PV.sl (.own t e) (xs.map f)]) (zss.map (List.map Prod.fst)) jk) Fz w vs F ∧ (F1 ++ F2).Perm (F ++ R)
  | [], vs, F1, F2, h, k => ⟨F1, F2, h, List.Perm.refl _⟩
  | zs :: zss, vs, F1, F2, h, k => by
    rw [uf] at h
    obtain ⟨v, vs', G1, Fb, rfl, rfl, ho, h2⟩ := h
    rw [List.flatten_cons, C0, qp] at k
    obtain ⟨v1, v2, K1, K2, k1, rfl, k3, k4⟩ := k.split
    obtain ⟨rfl, rfl⟩ := List.append_inj k1 (by rw [k3.len]; exact Nx hf zs)
    have ho : cK t e (zs.map fN) Fz w v G1 := ho
    obtain ⟨G', rfl⟩ := C6 ho
    have hb := C5 hN hg hf ho k3
    obtain ⟨F, R, e1, hp⟩ := C8 hN hg hf h2 k4
    refine ⟨(v.ownBlock.toList ++ K1) ++ F, G' ++ R, ?_, ?_⟩
    · rw [List.map_cons, uf]; exact ⟨v, vs', _, F, rfl, rfl, hb, e1⟩
    refine ue.trans ?_
    refine (fv _ hp).trans ?_
    simp only [br]
    refine fv _ ?_
    have p1 : (G' ++ (K1 ++ (F ++ R))).Perm ((K1 ++ F) ++ (G' ++ R)) := by
      have := (iK (l₁ := G') (l₂ := K1 ++ F)).append_right R
      simpa only [br] using this
    simpa only [br] using p1
section
variable {P : Program} {n : Nat} {h0 : Nat → Prop} {w0 : World} {Fz0 : av} {σ : St} {Q : Exit → St → Prop} {c : Code}
def Ny {d T G : Nat} {A B : List PV} {p : PV} {ι : Type} {q : ι → PV} {us : ι → List Value} {gs : ι → List PV} (hd : σ.b d = some (T, A ++ (p :: B))) (hG : σ.s G = none) (hp : ∀ {Fz : av} {w : World} {v : Value} {F : List Nat}, p.own Fz w v F → ∃ i, ∃ F1 F2, (q i).own Fz w v F1 ∧ aJ (gs i) Fz w (us i) F2 ∧ F.Perm (F1 ++ F2))
    (h : ∀ i, SW P n h0 w0 Fz0 c ((σ.setB d (some (T, A ++ (q i :: B)))).set G (some (RV.gh (us i) (gs i)))) Q) : SW P n h0 w0 Fz0 c σ Q := fun a w hc => by
  obtain ⟨φ, Fz, Fp, hc⟩ := hc
  obtain ⟨cur, h1, h2⟩ := hc.box d _ hd
  obtain ⟨g1, g2, g3⟩ := hc.bxb d _ hd
  obtain ⟨v1, v2, F1, F2, k1, k2, k3, v, vs', E1, E2, rfl, rfl, ho, kB⟩ := h2.split
  obtain ⟨i, P1, P2, m1, m2, m3⟩ := hp ho
  have hnew : aJ (A ++ (q i :: B)) Fz w cur.toList (F1 ++ (P1 ++ E2)) := by
    rw [k1]
    exact k3.append ⟨v, vs', P1, E2, rfl, rfl, m1, kB⟩
  have c2 := hc.pullB hd
  have hnd := c2.nod 0
  simp only [if_true] at hnd
  have em : mv Fp (2 * d + 2) 0 = Fp (2 * d + 2) ++ Fp 0 := by simp [mv]
  have k2' : Fp (2 * d + 2) = F1 ++ (E1 ++ E2) := k2
  rw [em, k2'] at hnd
  rw [k2'] at em
  have hperm : (φ d :: (F1 ++ (E1 ++ E2) ++ Fp 0)).Perm ((F1 ++ (P1 ++ E2)) ++ φ d :: (P2 ++ Fp 0)) := by
    refine (List.Perm.trans ?_ List.perm_middle.symm)
    refine List.Perm.cons _ ?_
    simp only [br]
    refine fv _ ?_
    refine (hE _ m3).trans ?_
    simp only [br]
    refine fv _ ?_
    rw [← br, ← br]
    exact hE _ iK
  have c3 := c2.pushB (d := d) (g := φ d) (t := T) (cs := A ++ (q i :: B)) (F := F1 ++ (P1 ++ E2)) (X := P2 ++ Fp 0) (by rw [St.setB_b, if_pos rfl]) h1 hnew g2
    (fun x hx => by
      simp only [if_true]
      rw [em]
      exact hperm.mem_iff.2 hx) (hperm.nodup_iff.1 hnd) (.inl rfl)
  have hn3 := c3.nod 0
  have c4 := c3.pushG (G := G) (F := P2) (X := Fp 0) m2 (fun b hb => by simp only [co]; rw [if_neg (by omega)]; simpa using hb) (by
    simp only [co] at hn3
    rw [if_neg (by omega)] at hn3
    simpa using hn3)
  exact h i a w (bk.eqv ⟨_, _, _, c4⟩ (fun i => by
    simp only [St.set_s, St.setB_s]) (fun e => by
    simp only [St.setB_b, St.set_b]
    split <;> rfl))
def xL {d T G : Nat} {A B : List PV} {p q : PV} {us : List Value} {gs : List PV} (hd : σ.b d = some (T, A ++ (q :: B))) (hG : σ.s G = some (RV.gh us gs)) (hp : ∀ {Fz : av} {w : World} {v : Value} {F1 F2 : List Nat}, q.own Fz w v F1 → aJ gs Fz w us F2 → ∃ F R, p.own Fz w v F ∧ (F1 ++ F2).Perm (F ++ R))
    (h : SW P n h0 w0 Fz0 c ((σ.set G none).setB d (some (T, A ++ (p :: B)))) Q) : SW P n h0 w0 Fz0 c σ Q := fun a w hc => by
  obtain ⟨φ, Fz, Fp, hc⟩ := hc
  have hg0 : aJ gs Fz w us (Fp (2 * G + 1)) := hc.slot G _ hG
  have c1 := hc.pull G
  have e0 : mv Fp (2 * G + 1) 0 = Fp (2 * G + 1) ++ Fp 0 := by simp [mv]
  obtain ⟨cur, h1, h2⟩ := c1.box d _ hd
  obtain ⟨g1, g2, g3⟩ := c1.bxb d _ hd
  obtain ⟨v1, v2, F1, F2, k1, k2, k3, v, vs', E1, E2, rfl, rfl, ho, kB⟩ := h2.split
  obtain ⟨F, R, m1, m2⟩ := hp ho hg0
  have hnew : aJ (A ++ (p :: B)) Fz w cur.toList (F1 ++ (F ++ E2)) := by
    rw [k1]
    exact k3.append ⟨v, vs', F, E2, rfl, rfl, m1, kB⟩
  have c2 := c1.pullB (d := d) hd
  generalize hFp1 : mv Fp (2 * G + 1) = Fp1 at c1 c2 e0 h2 g3 k2
  have hnd := c2.nod 0
  simp only [if_true] at hnd
  have em : mv Fp1 (2 * d + 2) 0 = Fp1 (2 * d + 2) ++ Fp1 0 := by simp [mv]
  have k2' : Fp1 (2 * d + 2) = F1 ++ (E1 ++ E2) := k2
  rw [em, k2', e0] at hnd
  rw [k2', e0] at em
  have hperm : (φ d :: (F1 ++ (E1 ++ E2) ++ (Fp (2 * G + 1) ++ Fp 0))).Perm ((F1 ++ (F ++ E2)) ++ φ d :: (R ++ Fp 0)) := by
    refine (List.Perm.trans ?_ List.perm_middle.symm)
    refine List.Perm.cons _ ?_
    simp only [br]
    refine fv _ ?_
    have p1 : (E1 ++ (E2 ++ (Fp (2 * G + 1) ++ Fp 0))).Perm ((E1 ++ Fp (2 * G + 1)) ++ (E2 ++ Fp 0)) := by
      have := ue (a := E1) (b := E2) (c := Fp (2 * G + 1)) (d := Fp 0)
      simpa only [br] using this
    refine p1.trans ((hE _ m2).trans ?_)
    have := ue (a := F) (b := R) (c := E2) (d := Fp 0)
    simpa only [br] using this
  have c3 := c2.pushB (d := d) (g := φ d) (t := T) (cs := A ++ (p :: B)) (F := F1 ++ (F ++ E2)) (X := R ++ Fp 0) (by rw [St.setB_b, if_pos rfl]) h1 hnew g2
    (fun x hx => by
      simp only [if_true]
      rw [em]
      exact hperm.mem_iff.2 hx) (hperm.nodup_iff.1 hnd) (.inl rfl)
  exact h a w (bk.eqv ⟨_, _, _, c3⟩ (fun i => rfl) (fun e => by
    simp only [St.setB_b, St.set_b]
    split <;> rfl))
def C9 {d T G : Nat} {cs : List PV} {ι : Type} {q : ι → List PV} {us : ι → List Value} {gs : ι → List PV} (hd : σ.b d = some (T, cs)) (hG : σ.s G = none) (hp : ∀ {Fz : av} {w : World} {vs : List Value} {F : List Nat}, aJ cs Fz w vs F → ∃ i, ∃ F1 F2, aJ (q i) Fz w vs F1 ∧ aJ (gs i) Fz w (us i) F2 ∧ F.Perm (F1 ++ F2))
    (h : ∀ i, SW P n h0 w0 Fz0 c ((σ.setB d (some (T, q i))).set G (some (RV.gh (us i) (gs i)))) Q) : SW P n h0 w0 Fz0 c σ Q := fun a w hc => by
  obtain ⟨φ, Fz, Fp, hc⟩ := hc
  obtain ⟨cur, h1, h2⟩ := hc.box d _ hd
  obtain ⟨g1, g2, g3⟩ := hc.bxb d _ hd
  obtain ⟨i, P1, P2, m1, m2, m3⟩ := hp h2
  have c2 := hc.pullB hd
  have hnd := c2.nod 0
  simp only [if_true] at hnd
  have em : mv Fp (2 * d + 2) 0 = Fp (2 * d + 2) ++ Fp 0 := by simp [mv]
  rw [em] at hnd
  have hperm : (φ d :: (Fp (2 * d + 2) ++ Fp 0)).Perm (P1 ++ φ d :: (P2 ++ Fp 0)) := by
    refine (List.Perm.trans ?_ List.perm_middle.symm)
    refine List.Perm.cons _ ?_
    rw [← br]
    exact hE _ m3
  have c3 := c2.pushB (d := d) (g := φ d) (t := T) (cs := q i) (F := P1) (X := P2 ++ Fp 0) (by rw [St.setB_b, if_pos rfl]) h1 m1 g2
    (fun x hx => by
      simp only [if_true]
      rw [em]
      exact hperm.mem_iff.2 hx) (hperm.nodup_iff.1 hnd) (.inl rfl)
  have hn3 := c3.nod 0
  have c4 := c3.pushG (G := G) (F := P2) (X := Fp 0) m2 (fun b hb => by simp only [co]; rw [if_neg (by omega)]; simpa using hb) (by
    simp only [co] at hn3
    rw [if_neg (by omega)] at hn3
    simpa using hn3)
  exact h i a w (bk.eqv ⟨_, _, _, c4⟩ (fun i => by
    simp only [St.set_s, St.setB_s]) (fun e => by
    simp only [St.setB_b, St.set_b]
    split <;> rfl))
def Da {d T G : Nat} {ps cs : List PV} {us : List Value} {gs : List PV} (hd : σ.b d = some (T, cs)) (hG : σ.s G = some (RV.gh us gs)) (hp : ∀ {Fz : av} {w : World} {vs : List Value} {F1 F2 : List Nat}, aJ cs Fz w vs F1 → aJ gs Fz w us F2 → ∃ F R, aJ ps Fz w vs F ∧ (F1 ++ F2).Perm (F ++ R))
    (h : SW P n h0 w0 Fz0 c ((σ.set G none).setB d (some (T, ps))) Q) : SW P n h0 w0 Fz0 c σ Q := fun a w hc => by
  obtain ⟨φ, Fz, Fp, hc⟩ := hc
  have hg0 : aJ gs Fz w us (Fp (2 * G + 1)) := hc.slot G _ hG
  have c1 := hc.pull G
  have e0 : mv Fp (2 * G + 1) 0 = Fp (2 * G + 1) ++ Fp 0 := by simp [mv]
  obtain ⟨cur, h1, h2⟩ := c1.box d _ hd
  obtain ⟨g1, g2, g3⟩ := c1.bxb d _ hd
  obtain ⟨F, R, m1, m2⟩ := hp h2 hg0
  have c2 := c1.pullB (d := d) hd
  generalize hFp1 : mv Fp (2 * G + 1) = Fp1 at c1 c2 e0 h2 g3 m2
  have hnd := c2.nod 0
  simp only [if_true] at hnd
  have em : mv Fp1 (2 * d + 2) 0 = Fp1 (2 * d + 2) ++ Fp1 0 := by simp [mv]
  rw [em, e0] at hnd
  rw [e0] at em
  have hperm : (φ d :: (Fp1 (2 * d + 2) ++ (Fp (2 * G + 1) ++ Fp 0))).Perm (F ++ φ d :: (R ++ Fp 0)) := by
    refine (List.Perm.trans ?_ List.perm_middle.symm)
    refine List.Perm.cons _ ?_
    rw [← br, ← br]
    exact hE _ m2
  have c3 := c2.pushB (d := d) (g := φ d) (t := T) (cs := ps) (F := F) (X := R ++ Fp 0) (by rw [St.setB_b, if_pos rfl]) h1 m1 g2
    (fun x hx => by
      simp only [if_true]
      rw [em]
      exact hperm.mem_iff.2 hx) (hperm.nodup_iff.1 hnd) (.inl rfl)
  exact h a w (bk.eqv ⟨_, _, _, c3⟩ (fun i => rfl) (fun e => by
    simp only [St.setB_b, St.set_b]
    split <;> rfl))
def Db {d T t e G : Nat} {α : Type} {f g : α → List PV} {fN : α × (Nat → Value) → List PV} {xss : List (List α)} {jk : List Value} (hd : σ.b d = some (T, bA (fun xs => [PV.sl (.own t e) (xs.map f)]) xss jk)) (hG : σ.s G = none) (hN : ∀ x h, fN (x, h) = dy h 0 (g x)) (hg : ∀ x, (g x).length = e) (hq : ∀ x, am (f x) (g x)) (hb : ∀ x, ao (g x))
    (h : ∀ zss : List (List (α × (Nat → Value))), zss.map (List.map Prod.fst) = xss → SW P n h0 w0 Fz0 c ((σ.setB d (some (T, bA (fun zs => [PV.sl (.own t e) (zs.map fN)]) zss jk))).set G (some (RV.gh (bi e zss.flatten) (bG f zss.flatten)))) Q) : SW P n h0 w0 Fz0 c σ Q :=
  C9 (ι := {zss : List (List (α × (Nat → Value))) // zss.map (List.map Prod.fst) = xss}) (q := fun i => bA (fun zs => [PV.sl (.own t e) (zs.map fN)]) i.1 jk) (us := fun i => bi e i.1.flatten) (gs := fun i => bG f i.1.flatten) hd hG
    (fun hh => by
      obtain ⟨zss, F1, F2, e1, e2, e3, e4⟩ := C7 hN hg hq hb hh
      exact ⟨⟨zss, e1⟩, F1, F2, e2, e3, e4⟩) (fun i => h i.1 i.2)
def Dc {d T t e G : Nat} {α : Type} {f g : α → List PV} {fN : α × (Nat → Value) → List PV} {zss : List (List (α × (Nat → Value)))} {ws : List (α × (Nat → Value))} {jk : List Value} (hd : σ.b d = some (T, bA (fun zs => [PV.sl (.own t e) (zs.map fN)]) zss jk)) (hG : σ.s G = some (RV.gh (bi e ws) (bG f ws))) (hN : ∀ x h, fN (x, h) = dy h 0 (g x)) (hg : ∀ x, (g x).length = e) (hf : ∀ x, (f x).length = e) (hs : zss.flatten.Sublist ws)
    (h : SW P n h0 w0 Fz0 c ((σ.set G none).setB d (some (T, bA (fun xs => [PV.sl (.own t e) (xs.map f)]) (zss.map (List.map Prod.fst)) jk))) Q) : SW P n h0 w0 Fz0 c σ Q :=
  Da hd hG (fun {Fz w vs F1 F2} h1 h2 => by
    obtain ⟨K, R0, hp0, k⟩ := C4 hf hs h2
    obtain ⟨F, R, e1, hp⟩ := C8 hN hg hf h1 k
    refine ⟨F, R ++ R0, e1, ?_⟩
    refine (fv _ hp0).trans ?_
    rw [← br, ← br]
    exact hE _ hp) h
end
end
section
def jh {α : Type} (f : α → PV) (z : α × Value) : List PV := [PV.nv z.2 (f z.1)]
def Dd {α : Type} {f : α → PV} {Fz : av} {w : World} : ∀ {xs : List α} {css : List Value} {F : List Nat}, b3 1 (xs.map fun x => [f x]) Fz w css F → ∃ zs : List (α × Value), zs.map Prod.fst = xs ∧ b3 1 (zs.map (jh f)) Fz w css F
  | [], css, F, h => ⟨[], rfl, h⟩
  | x :: xs, css, F, h => by
    obtain ⟨c, d, F1, F2, rfl, rfl, hl, h1, h2⟩ := h
    obtain ⟨zs, e1, e2⟩ := Dd h2
    obtain ⟨v, vs', A, B, rfl, rfl, ho, hn⟩ := h1
    exact ⟨(x, v) :: zs, by rw [List.map_cons, e1], v :: vs', d, A ++ B, F2, rfl, rfl, hl, ⟨v, vs', A, B, rfl, rfl, ⟨rfl, ho⟩, hn⟩, e2⟩
def De {α : Type} {f : α → PV} {Fz : av} {w : World} : ∀ {zs : List (α × Value)} {css : List Value} {F : List Nat}, b3 1 (zs.map (jh f)) Fz w css F → b3 1 ((zs.map Prod.fst).map fun x => [f x]) Fz w css F
  | [], css, F, h => h
  | z :: zs, css, F, h => by
    obtain ⟨c, d, F1, F2, rfl, rfl, hl, h1, h2⟩ := h
    obtain ⟨v, vs', A, B, rfl, rfl, ho, hn⟩ := h1
    exact ⟨v :: vs', d, A ++ B, F2, rfl, rfl, hl, ⟨v, vs', A, B, rfl, rfl, ho.2, hn⟩, De h2⟩
def Df {e : Nat} {Fz : av} {w : World} : ∀ {es : List (List PV)} {css : List Value} {F : List Nat}, b3 e es Fz w css F → ∀ {k : Nat} {ps : List PV}, es[k]? = some ps → ∃ vs, bK ps Fz w vs
  | [], css, F, h, k, ps, hk => by simp at hk
  | cs :: es, css, F, h, k, ps, hk => by
    obtain ⟨c, d, F1, F2, rfl, rfl, hl, h1, h2⟩ := h
    cases k with
    | zero => simp at hk; subst hk; exact ⟨c, h1.rel⟩
    | succ k => exact Df h2 (by simpa using hk)
def Nz {α : Type} {f : α → PV} {t : Nat} {Fz : av} {w : World} {xs : List α} {v : Value} {F : List Nat} (h : cK t 1 (xs.map fun x => [f x]) Fz w v F) : ∃ zs : List (α × Value), zs.map Prod.fst = xs ∧ cK t 1 (zs.map (jh f)) Fz w v F := by
  obtain ⟨css, F', hrow, hll, hfz, rfl, hone⟩ := h
  obtain ⟨zs, e1, e2⟩ := Dd hll
  have hlen : (zs.map (jh f)).length = (xs.map fun x => [f x]).length := by rw [ar, ar, ← e1, ar]
  exact ⟨zs, e1, css, F', by rw [hlen]; exact hrow, e2, fun g hg o => by rw [hlen]; exact hfz g hg o, rfl, hone⟩
def NA {α : Type} {f : α → PV} {t : Nat} {Fz : av} {w : World} {zs : List (α × Value)} {v : Value} {F : List Nat} (h : cK t 1 (zs.map (jh f)) Fz w v F) : cK t 1 ((zs.map Prod.fst).map fun x => [f x]) Fz w v F := by
  obtain ⟨css, F', hrow, hll, hfz, rfl, hone⟩ := h
  have hlen : ((zs.map Prod.fst).map fun x => [f x]).length = (zs.map (jh f)).length := by simp
  exact ⟨css, F', by rw [hlen]; exact hrow, De hll, fun g hg o => by rw [hlen]; exact hfz g hg o, rfl, hone⟩
def am.nv1 {u : Value} {p : PV} {qs : List PV} (h : am [p] qs) : am [PV.nv u p] qs := by
  cases qs with
  | nil => exact h
  | cons q l => exact ⟨PV.nv_to h.1, h.2⟩
def NB {α : Type} {f : α → PV} {g : α → List PV} {fl : Fl} {zs : List (α × Value)} {xs : List α} (hz : zs.map Prod.fst = xs) (h : ∀ x, am [f x] (g x)) : (PV.sl fl (zs.map (jh f))).To (PV.sl .v (xs.map g)) := by
  subst hz
  rw [List.map_map]
  refine PV.to_map fun z => ?_
  exact am.nv1 (h z.1)
def NC {α : Type} {zs : List (α × Value)} {xs : List α} {k : Nat} (hz : zs.map Prod.fst = xs) (hk : k < xs.length) : ∃ z, zs[k]? = some z ∧ z.1 = xs[k] := by
  subst hz
  rw [ar] at hk
  exact ⟨zs[k], List.getElem?_eq_getElem hk, by rw [List.getElem_map]⟩
section
variable {P : Program} {n : Nat} {h0 : Nat → Prop} {w0 : World} {Fz0 : av} {σ : St} {Q : Exit → St → Prop} {c : Code}
def ug {d T : Nat} {A B : List PV} {p : PV} {ι : Type} {q : ι → PV} (hd : σ.b d = some (T, A ++ (p :: B))) (hp : ∀ {Fz : av} {w : World} {v : Value} {F : List Nat}, p.own Fz w v F → ∃ i, (q i).own Fz w v F)
    (h : ∀ i, SW P n h0 w0 Fz0 c (σ.setB d (some (T, A ++ (q i :: B)))) Q) : SW P n h0 w0 Fz0 c σ Q := fun a w hc => by
  obtain ⟨φ, Fz, Fp, hc⟩ := hc
  obtain ⟨cur, h1, h2⟩ := hc.box d _ hd
  obtain ⟨v1, v2, F1, F2, k1, k2, k3, v, vs', E1, E2, rfl, rfl, ho, kB⟩ := h2.split
  obtain ⟨i, hi⟩ := hp ho
  refine h i a w ⟨φ, Fz, Fp, hc.rebox hd fun cur' _ hh => ?_⟩
  have : cur' = cur := by
    rw [h1] at hh
    injection hh with hh
    injection hh with hh
    exact hh.symm
  subst this
  rw [k1, k2]
  exact k3.append ⟨v, vs', E1, E2, rfl, rfl, hi, kB⟩
def ND {d T t : Nat} {A B : List PV} {α : Type} {f : α → PV} {xs : List α} (hd : σ.b d = some (T, A ++ (PV.sl (.own t 1) (xs.map fun x => [f x]) :: B)))
    (h : ∀ zs : List (α × Value), zs.map Prod.fst = xs → SW P n h0 w0 Fz0 c (σ.setB d (some (T, A ++ (PV.sl (.own t 1) (zs.map (jh f)) :: B)))) Q) : SW P n h0 w0 Fz0 c σ Q :=
  ug (ι := {zs : List (α × Value) // zs.map Prod.fst = xs}) (q := fun z => PV.sl (.own t 1) (z.1.map (jh f))) hd (fun ho => by
    obtain ⟨zs, e1, e2⟩ := Nz ho
    exact ⟨⟨zs, e1⟩, e2⟩) fun z => h z.1 z.2
def NE {d T t : Nat} {A B : List PV} {α : Type} {f : α → PV} {xs : List α} {zs : List (α × Value)} (hz : zs.map Prod.fst = xs) (hd : σ.b d = some (T, A ++ (PV.sl (.own t 1) (zs.map (jh f)) :: B)))
    (h : SW P n h0 w0 Fz0 c (σ.setB d (some (T, A ++ (PV.sl (.own t 1) (xs.map fun x => [f x]) :: B)))) Q) : SW P n h0 w0 Fz0 c σ Q :=
  ug (ι := Unit) (q := fun _ => PV.sl (.own t 1) (xs.map fun x => [f x])) hd (fun ho => ⟨(), by subst hz; exact NA ho⟩) fun _ => h
def NF {s d T t k : Nat} {A B : List PV} {α : Type} {f : α → PV} {q : α → PV} {zs : List (α × Value)} {z : α × Value} (hs : σ.s s = some (RV.sv false [PV.val z.2])) (hd : σ.b d = some (T, A ++ (PV.sl (.own t 1) (zs.map (jh f)) :: B))) (hk : zs[k]? = some z) (hq : ∀ {x}, (f x).To (q x)) (hb : ∀ {x}, (q x).Bor)
    (h : SW P n h0 w0 Fz0 c (σ.set s (some (RV.sv false [PV.nv z.2 (q z.1)]))) Q) : SW P n h0 w0 Fz0 c σ Q := fun a w hc => by
  obtain ⟨x, v⟩ := z
  obtain ⟨φ, Fz, Fp, hc⟩ := hc
  obtain ⟨cur, h1, h2⟩ := hc.box d _ hd
  obtain ⟨v1, v2, F1, F2, k1, k2, k3, u, vs', E1, E2, rfl, rfl, ho, kB⟩ := h2.split
  have ho : cK t 1 (zs.map (jh f)) Fz w u E1 := ho
  obtain ⟨css, F', hrow, hll, hfz, rfl, hone⟩ := ho
  obtain ⟨us, hu⟩ := Df hll (k := k) (ps := jh f (x, v)) (by rw [List.getElem?_map, hk]; rfl)
  obtain ⟨u', _, rfl, hu, _⟩ := hu
  obtain ⟨rfl, hu⟩ := hu
  have hv : bQ false [PV.val u'] Fz w (a.tmps.getD s undef) (Fp (2 * s + 1)) := hc.slot s _ hs
  obtain ⟨hag, y, ys, G1, G2, hy1, hF, hy, hnil, rfl⟩ := hv
  subst hnil
  have c1 := (hc.pull s).reslot (s := s) (rv := RV.sv false [PV.nv u' (q x)]) (by
    have : mv Fp (2 * s + 1) (2 * s + 1) = [] := by simp [mv]
    rw [this]
    obtain ⟨⟨rfl, hone'⟩, rfl⟩ := hy
    exact ⟨hag, y, [], [], [], hy1, rfl, ⟨rfl, hb (hq hu)⟩, rfl, rfl⟩)
  exact h a w (bk.eqv ⟨φ, Fz, _, c1⟩ (fun i => by
    simp only [St.set_s]
    split <;> rfl) (fun d => rfl))
def cN (gs : List PV) (us : List Value) (qs : List PV) (us' : List Value) : Prop := ∀ {Fz : av} {w : World} {F : List Nat}, aJ gs Fz w us F → ∃ F' R, aJ qs Fz w us' F' ∧ F.Perm (F' ++ R)
def cN.nil {gs : List PV} {us : List Value} : cN gs us [] [] := fun {_ _ F} _ => ⟨[], F, ⟨rfl, rfl⟩, List.Perm.refl _⟩
def cN.keep {p : PV} {u : Value} {gs qs : List PV} {us us' : List Value} (h : cN gs us qs us') : cN (p :: gs) (u :: us) (p :: qs) (u :: us') := fun {Fz w F} k => by
  obtain ⟨v, vs, F1, F2, e1, rfl, h1, h2⟩ := k
  injection e1 with e1 e2
  subst e1 e2
  obtain ⟨F', R, h3, h4⟩ := h h2
  exact ⟨F1 ++ F', R, ⟨u, us', F1, F', rfl, rfl, h1, h3⟩, by rw [br]; exact fv _ h4⟩
def cN.drop {p : PV} {u : Value} {gs qs : List PV} {us us' : List Value} (h : cN gs us qs us') : cN (p :: gs) (u :: us) qs us' := fun {Fz w F} k => by
  obtain ⟨v, vs, F1, F2, e1, rfl, h1, h2⟩ := k
  injection e1 with e1 e2
  subst e1 e2
  obtain ⟨F', R, h3, h4⟩ := h h2
  refine ⟨F', F1 ++ R, h3, ?_⟩
  refine (fv F1 h4).trans ?_
  rw [← br, ← br]
  exact hE _ iK
def cN.lit {x : Value} {gs qs : List PV} {us us' : List Value} (hx : x.oneCell' = true) (h : cN gs us qs us') : cN gs us (PV.val x :: qs) (x :: us') := fun {Fz w F} k => by
  obtain ⟨F', R, h3, h4⟩ := h k
  exact ⟨F', R, ⟨x, us', [], F', rfl, rfl, ⟨⟨rfl, hx⟩, rfl⟩, h3⟩, h4⟩
def Dg {e : Nat} {ps : List PV} {Fz : av} {w : World} : ∀ {es : List (List PV)} {css : List Value} {F : List Nat}, b3 e (es ++ [ps]) Fz w css F → ∃ c1 c2 Fa Fb, css = c1 ++ c2 ∧ F = Fa ++ Fb ∧ c2.length = e ∧ b3 e es Fz w c1 Fa ∧ aJ ps Fz w c2 Fb
  | [], css, F, h => by
    obtain ⟨c, d, F1, F2, rfl, rfl, hl, h1, rfl, rfl⟩ := h
    exact ⟨[], c, [], F1, by simp, by simp, hl, ⟨rfl, rfl⟩, h1⟩
  | x :: es, css, F, h => by
    obtain ⟨c, d, F1, F2, rfl, rfl, hl, h1, h2⟩ := h
    obtain ⟨c1, c2, Fa, Fb, rfl, rfl, h3, h4, h5⟩ := Dg h2
    exact ⟨c ++ c1, c2, F1 ++ Fa, Fb, by simp, by simp, h3, ⟨c, c1, F1, Fa, rfl, rfl, hl, h1, h4⟩, h5⟩
def Dh {e : Nat} {ps : List PV} {Fz : av} {w : World} {c2 : List Value} {Fb : List Nat} (hl : c2.length = e) (h5 : aJ ps Fz w c2 Fb) : ∀ {es : List (List PV)} {c1 : List Value} {Fa : List Nat}, b3 e es Fz w c1 Fa → b3 e (es ++ [ps]) Fz w (c1 ++ c2) (Fa ++ Fb)
  | [], c1, Fa, h => by
    obtain ⟨rfl, rfl⟩ := h
    exact ⟨c2, [], Fb, [], by simp, by simp, hl, h5, rfl, rfl⟩
  | x :: es, c1, Fa, h => by
    obtain ⟨c, d, F1, F2, rfl, rfl, hl', h1, h2⟩ := h
    exact ⟨c, d ++ c2, F1, F2 ++ Fb, by simp, by simp, hl', h1, Dh hl h5 h2⟩
def Di {t e : Nat} {es : List (List PV)} {ps qs gs : List PV} {us us' : List Value} (hn : Nm ps us') (hs : cN gs us qs us') {Fz : av} {w : World} {v : Value} {F1 F2 : List Nat} (h : (PV.sl (.own t e) (es ++ [ps])).own Fz w v F1) (k : aJ gs Fz w us F2) : ∃ F R, (PV.sl (.own t e) (es ++ [qs])).own Fz w v F ∧ (F1 ++ F2).Perm (F ++ R) := by
  have h : cK t e (es ++ [ps]) Fz w v F1 := h
  obtain ⟨css, F', hrow, hll, hfz, rfl, hone⟩ := h
  obtain ⟨c1, c2, Fa, Fb, rfl, rfl, hl, h4, h5⟩ := Dg hll
  obtain rfl : c2 = us' := hn h5.rel
  obtain ⟨F'', R, h6, h7⟩ := hs k
  have hlen : (es ++ [qs]).length = (es ++ [ps]).length := by simp
  refine ⟨v.ownBlock.toList ++ (Fa ++ F''), Fb ++ R, ⟨c1 ++ c2, Fa ++ F'', by rw [hlen]; exact hrow, Dh hl h6 h4, fun g hg o => by rw [hlen]; exact hfz g hg o, rfl, hone⟩, ?_⟩
  simp only [br]
  refine fv _ (fv _ ?_)
  refine (fv Fb h7).trans ?_
  rw [← br, ← br]
  exact hE _ iK
end
end
section
def Dj {α : Type} {f : α → List PV} {e : Nat} (hf : ∀ x, (f x).length = e) {Fz : av} {w : World} {ys rs zs : List (α × (Nat → Value))} (hp : (ys ++ rs).Perm zs) {F : List Nat} (h : aJ (bG f zs) Fz w (bi e zs) F) : ∃ F' R, F.Perm (F' ++ R) ∧ aJ (bG f ys) Fz w (bi e ys) F' := by
  obtain ⟨F1, k1, k2⟩ := No hf hp.symm h
  obtain ⟨F', R, k3, k4⟩ := C4 hf (List.sublist_append_left ys rs) k2
  exact ⟨F', R, k1.trans k3, k4⟩
def NG {α : Type} {f g : α → List PV} {fN : α × (Nat → Value) → List PV} {t e : Nat} (hN : ∀ x h, fN (x, h) = dy h 0 (g x)) (hg : ∀ x, (g x).length = e) (hf : ∀ x, (f x).length = e) {ys rs zs : List (α × (Nat → Value))} (hp : (ys ++ rs).Perm zs) {xs : List α} (hx : ys.map Prod.fst = xs) {Fz : av} {w : World} {v : Value} {F1 F2 : List Nat} (h : (PV.sl (.own t e) (ys.map fN)).own Fz w v F1) (k : aJ (bG f zs) Fz w (bi e zs) F2) :
    ∃ F R, (PV.sl (.own t e) (xs.map f)).own Fz w v F ∧ (F1 ++ F2).Perm (F ++ R) := by
  subst hx
  obtain ⟨F', R, k1, k2⟩ := Dj hf hp k
  have h : cK t e (ys.map fN) Fz w v F1 := h
  have h2 := C5 hN hg hf h k2
  obtain ⟨F3, rfl⟩ := C6 h
  refine ⟨_, F3 ++ R, h2, ?_⟩
  simp only [br]
  refine fv _ ?_
  refine (fv F3 k1).trans ?_
  rw [← br, ← br]
  exact hE _ iK
section
variable {P : Program} {n : Nat} {h0 : Nat → Prop} {w0 : World} {Fz0 : av} {σ : St} {Q : Exit → St → Prop} {c : Code}
def Dk {d t e G : Nat} {α : Type} {f g : α → List PV} {fN : α × (Nat → Value) → List PV} (x : α) (hd : σ.b d = some (t, f x)) (hG : σ.s G = none) (hN : ∀ x h, fN (x, h) = dy h 0 (g x)) (hg : ∀ x, (g x).length = e) (hq : am (f x) (g x)) (hb : ao (g x))
    (h : ∀ k : Nat → Value, SW P n h0 w0 Fz0 c ((σ.setB d (some (t, fN (x, k)))).set G (some (RV.gh (bi e [(x, k)]) (bG f [(x, k)])))) Q) : SW P n h0 w0 Fz0 c σ Q :=
  C9 (ι := Nat → Value) (q := fun k => fN (x, k)) (us := fun k => bi e [(x, k)]) (gs := fun k => bG f [(x, k)]) hd hG (fun {Fz w vs F} ho => by
    have hl : vs.length = e := by rw [ho.len, hq.len, hg]
    obtain ⟨k, hk⟩ := xH hl
    refine ⟨k, [], F, ?_, ?_, List.Perm.refl _⟩
    · rw [hN, ub, hg, ← List.range_eq_range', ← hk]
      exact ua hb (hq.rel ho.rel)
    · have : bi e [(x, k)] = vs := by simp [bi, hk]
      rw [this]
      have : bG f [(x, k)] = f x := by simp [bG]
      rw [this]; exact ho) h
def xM {d T t e G : Nat} {A B : List PV} {α : Type} {f g : α → List PV} {fN : α × (Nat → Value) → List PV} {ys zs : List (α × (Nat → Value))} (rs : List (α × (Nat → Value))) (xs : List α) (hd : σ.b d = some (T, A ++ (PV.sl (.own t e) (ys.map fN) :: B))) (hG : σ.s G = some (RV.gh (bi e zs) (bG f zs))) (hN : ∀ x h, fN (x, h) = dy h 0 (g x)) (hg : ∀ x, (g x).length = e) (hf : ∀ x, (f x).length = e) (hp : (ys ++ rs).Perm zs) (hx : ys.map Prod.fst = xs)
    (h : SW P n h0 w0 Fz0 c ((σ.set G none).setB d (some (T, A ++ (PV.sl (.own t e) (xs.map f) :: B)))) Q) : SW P n h0 w0 Fz0 c σ Q :=
  xL hd hG (fun h1 k => NG hN hg hf hp hx h1 k) h
def NH {d t e G : Nat} {α : Type} {f g : α → List PV} {fN : α × (Nat → Value) → List PV} {zs ys : List (α × (Nat → Value))} {jk : List Value} (rs : List (α × (Nat → Value))) (xs : List α) (hd : σ.b d = some (t, bA fN ys jk)) (hG : σ.s G = some (RV.gh (bi e zs) (bG f zs))) (hN : ∀ x h, fN (x, h) = dy h 0 (g x)) (hg : ∀ x, (g x).length = e) (hf : ∀ x, (f x).length = e) (hp : (ys ++ rs).Perm zs) (hx : ys.map Prod.fst = xs)
    (h : SW P n h0 w0 Fz0 c ((σ.set G none).setB d (some (t, bA f xs jk))) Q) : SW P n h0 w0 Fz0 c σ Q :=
  Da hd hG (fun {Fz w vs F1 F2} h1 k => by
    subst hx
    obtain ⟨F', R, k1, k2⟩ := Dj hf hp k
    obtain ⟨us, hu, hvs⟩ := xI hN hg (zs := ys) (js := jk.map PV.val) h1.rel
    have hju : aJ (jk.map PV.val) Fz w us [] := ao.own (fun p hp => by obtain ⟨v, _, rfl⟩ := List.mem_map.1 hp; exact PV.bor_val _) hvs
    have hall : aJ (bA f (ys.map Prod.fst) jk) Fz w vs F' := by
      have := k2.append hju
      rw [dH, ← hu] at this
      have e2 : bA f (ys.map Prod.fst) jk = bG f ys ++ jk.map PV.val := by unfold bA bG; rw [List.map_map]; rfl
      rw [e2]; exact this
    refine ⟨F', F1 ++ R, hall, ?_⟩
    refine (fv F1 k1).trans ?_
    rw [← br, ← br]
    exact hE _ iK) h
end
section
variable {P : Program} {n : Nat} {h0 : Nat → Prop} {w0 : World} {Fz0 : av} {σ : St} {Q : Exit → St → Prop} {c : Code}
def Dl {s : Nat} {r r' : RV} (hs : σ.s s = some r) (he : r = r') (h : SW P n h0 w0 Fz0 c (σ.set s (some r')) Q) : SW P n h0 w0 Fz0 c σ Q := fun a w hc => by
  subst he
  obtain ⟨φ, Fz, Fp, hc⟩ := hc
  exact h a w ⟨φ, Fz, Fp, hc.reslot (hc.slot s _ hs)⟩
def NI {d T : Nat} {A B : List PV} {p : PV} (hd : σ.b d = some (T, A ++ (p :: B))) (h : ∀ v : Value, SW P n h0 w0 Fz0 c (σ.setB d (some (T, A ++ (PV.nv v p :: B)))) Q) : SW P n h0 w0 Fz0 c σ Q :=
  ug (ι := Value) (q := fun v => PV.nv v p) hd (fun {Fz w v F} ho => ⟨v, rfl, ho⟩) h
def NJ {d T : Nat} {A B : List PV} {v : Value} {p : PV} (hd : σ.b d = some (T, A ++ (PV.nv v p :: B))) (h : SW P n h0 w0 Fz0 c (σ.setB d (some (T, A ++ (p :: B)))) Q) : SW P n h0 w0 Fz0 c σ Q :=
  ug (ι := Unit) (q := fun _ => p) hd (fun ho => ⟨(), ho.2⟩) fun _ => h
def NK {d T G : Nat} {A B : List PV} {v : Value} {p q : PV} (hd : σ.b d = some (T, A ++ (PV.nv v p :: B))) (hG : σ.s G = none) (hq : p.To q) (hb : q.Bor)
    (h : SW P n h0 w0 Fz0 c ((σ.setB d (some (T, A ++ (q :: B)))).set G (some (RV.gh [v] [p]))) Q) : SW P n h0 w0 Fz0 c σ Q :=
  Ny (G := G) (ι := Unit) (q := fun _ => q) (us := fun _ => [v]) (gs := fun _ => [p]) hd hG (fun {Fz w v' F} ho => by
    obtain ⟨rfl, ho⟩ := ho
    exact ⟨(), [], F, hb (hq (p.toRel ho)), ⟨v', [], F, [], rfl, by simp, ho, rfl, rfl⟩, by simp⟩) fun _ => h
end
def xN (P : Program) (T : TypeId) (f : Nat) : Option (Nat × TypeId) := match P.underlying T with
  | some (.struct fs) => (fs[f]?).map fun fd => (fd.offset, fd.type)
  | _ => none
def NL {P : Program} {n : Nat} {T ft s d f off : Nat} {ty : TypeId} {pos : String} {af : Array Edge} {g : Option (Nat × Bool)} {ag : Bool} {k : Nat} {cs qs : List PV} (hd : d < n) (hF : xN P T f = some (off, ft)) (hT : bO P ft = some (ag, k)) (h1 : ag = false → k = 1) (hk : off + k ≤ cs.length) (hq : (cs.drop off).take k = qs) :
    Loc P n ⟨some d, .field T (.tmp s) f, ty, pos, af, g⟩ ⟨[(s, RV.sv true cs)], [], [(s, none), (d, some (RV.sv ag qs))], [], none⟩ := by
  intro h0 w0 Fz0 σ a w K Q hc hr _ _ h5
  obtain ⟨φ, Fz, Fp, hc⟩ := hc
  subst hq
  have hv : bQ true cs Fz w (a.tmps.getD s undef) (Fp (2 * s + 1)) := hc.slot s _ hr.1
  obtain ⟨hag, ho⟩ := hv
  generalize hx : a.tmps.getD s undef = x at hag ho
  obtain ⟨vals, rfl⟩ : ∃ vals, x = .agg vals := by cases x <;> simp [lg] at hag; exact ⟨_, rfl⟩
  have hcells : (Value.agg vals).cells.toList = vals.toList := rfl
  rw [hcells] at ho
  obtain ⟨F1, F2, F3, eF, o1, o2, o3⟩ := ho.seg off k hk
  have hl : vals.toList.length = cs.length := ho.len
  obtain ⟨v, e1, e2⟩ : ∃ v, (part ft vals off).run P w = .ok v w ∧ bQ ag ((cs.drop off).take k) Fz w v F2 := by
    obtain ⟨t1, t2⟩ := xf hT w
    cases ag with
    | true =>
      refine ⟨.agg (vals.extract off (off + k)), ?_, rfl, ?_⟩
      · simp only [part, Sem.run_bind, t1, t2, Result.andThen_ok, if_true, Sem.run_pure]
      · show aJ _ Fz w (vals.extract off (off + k)).toList F2
        have : (vals.extract off (off + k)).toList = (vals.toList.drop off).take k := by
          rw [Array.toList_extract, List.extract_eq_take_drop]; congr 1; omega
        rw [this]; exact o2
    | false =>
      have hk1 := h1 rfl
      subst hk1
      have hlt : off < vals.size := by have : vals.toList.length = vals.size := by simp
                                       omega
      have hget : vals[off]? = some vals[off] := by simp [hlt]
      have hdt : (vals.toList.drop off).take 1 = [vals[off]] := by
        rw [List.drop_eq_getElem_cons (by simpa using hlt)]; simp
      rw [hdt] at o2
      have hone := o2.one vals[off] (by simp)
      refine ⟨vals[off], ?_, ?_⟩
      · simp only [part, Sem.run_bind, t1, Result.andThen_ok, hget]
        simp [Sem.run_pure]
      · have hc1 : vals[off].cells.toList = [vals[off]] ∧ lg vals[off] = false := by
          cases hv : vals[off] <;> rw [hv] at hone <;> simp_all [Value.oneCell', Value.cells, lg]
        exact ⟨hc1.2, by rw [hc1.1]; exact o2⟩
  have c1 := hc.pull s
  have hm0 : mv Fp (2 * s + 1) 0 = Fp (2 * s + 1) ++ Fp 0 := by simp [mv]
  have hnd := c1.nod 0
  rw [hm0, eF] at hnd
  have c2 := c1.push (i := d) (rv := RV.sv ag ((cs.drop off).take k)) (v := v) (F := F2) (X := []) hd e2 (fun b hb => by
      rw [hm0, eF]
      simp only [dH] at hb
      simp [hb]) (by
      rw [dH]
      simp only [cg] at hnd
      exact hnd.1.2.1.1)
  refine dk (v := v) (w' := w) ?_ (h5 _ _ (bk.eqv ⟨_, _, _, c2⟩ (fun j => rfl) (fun e => rfl)))
  have hs' : a.eval (.tmp s) = .agg vals := hx
  unfold execOp
  unfold xN at hF
  split at hF
  · rename_i fs hu
    obtain ⟨fd, hfd, hfe⟩ := Option.map_eq_some_iff.1 hF
    simp only [Prod.mk.injEq] at hfe
    obtain ⟨rfl, rfl⟩ := hfe
    simp only [Instr.field, hs', Sem.run_bind, run_underlying hu, Result.andThen_ok, hfd, asAgg, Sem.run_pure, e1]
  · cases hF
def ia (e : Nat) (u : Value) (lo len : Nat) : Value := match u with
  | .slice (some ⟨b, o, q⟩) _ c => .slice (if c = lo then some ⟨b, o, q⟩ else some ⟨b, o + lo * e, q⟩) len (c - lo)
  | v => v
def xO {e g m c lo len : Nat} : ia e (.slice (some ⟨g, 0, none⟩) m c) lo len = .slice (some ⟨g, if c = lo then 0 else lo * e, none⟩) len (c - lo) := by
  unfold ia
  dsimp only
  split <;> simp
def Dm (h : Nat → Value) : ∀ {ps : List PV} {i : Nat}, ao ps → ao (dy h i ps)
  | [], _, hb => hb
  | p :: ps, i, hb => ao.cons (PV.bor_nv (hb p List.mem_cons_self)) (Dm h fun q hq => hb q (List.mem_cons_of_mem _ hq))
def ls {α : Type} (e : Nat) (zs : List (α × (Nat → Value))) (jk : List Value) : List Value := (bi e zs ++ jk).drop ((zs.length - 1) * e)
def eY {α : Type} (zs : List α) (i : Nat) : List α := zs.take i ++ zs.drop (i + 1)
def xP {α : Type} {zs : List α} {i : Nat} (h : i < zs.length) : (eY zs i).length = zs.length - 1 := by
  unfold eY; rw [aU, bv, fw]; omega
def jL {α : Type} {e : Nat} : ∀ {zs : List (α × (Nat → Value))}, (bi e zs).length = zs.length * e
  | [] => by simp [bi]
  | z :: zs => by
    have : bi e (z :: zs) = (List.range e).map z.2 ++ bi e zs := rfl
    rw [this, aU, jL, ar, List.length_range, List.length_cons, Nat.succ_mul]; omega
def NM {α : Type} {e cp m : Nat} {zs : List (α × (Nat → Value))} {jk : List Value} (hz : zs.length = m) (hm : 0 < m) (hj : m * e + jk.length = cp * e) : (m - 1) * e + (ls e zs jk).length = cp * e := by
  unfold ls
  have h1 : (m - 1) * e ≤ m * e := Nat.mul_le_mul_right _ (by omega)
  rw [fw, aU, jL, hz]
  omega
section
variable {P : Program} {n : Nat}
def Dn {T E e bs d s G D m cp i j : Nat} {lo hi : Option Operand} {ty : TypeId} {pos : String} {af : Array Edge} {g : Option (Nat × Bool)} {u : Value} {q r : Int} (hd : d < n) (hT : cY P T = some (E, e, bs))
    (hlo : rT lo (i = 0) (RV.int q)) (hhi : rT hi (j = m) (RV.int r)) (hq : q = (i : Int)) (hr : r = (j : Int)) (hij : i ≤ j) (hj : j ≤ m) :
    Loc P n ⟨some d, .slice T (.tmp s) lo hi none, ty, pos, af, g⟩ ⟨(s, RV.sc u) :: (G, RV.gat u D m cp) :: (t0 lo (RV.int q) ++ t0 hi (RV.int r)), [], [(d, some (RV.sc (ia e u i (j - i))))], [], none⟩ := by
  subst hq hr
  intro h0 w0 Fz0 σ a w K Q hc hr _ _ h5
  obtain ⟨φ, Fz, Fp, hc⟩ := hc
  obtain ⟨⟨eu, hmc, hcx⟩, _⟩ := hc.slot G _ hr.2.1
  have ev := (hc.one_ hr.1).1
  obtain ⟨hu, inf, hinf, hsz, _⟩ := jY hT
  have es' : a.eval (.tmp s) = .slice (some ⟨φ D, 0, none⟩) m cp := by rw [← eu]; exact ev
  have hlo' : lo.map a.eval = (lo.map fun _ => (.int .i64 (i : Int) : Value)) := by
    cases lo with
    | none => rfl
    | some x => exact congrArg some (hc.sc hr.2.2.left hlo)
  have hhi' : hi.map a.eval = (hi.map fun _ => (.int .i64 (j : Int) : Value)) := by
    cases hi with
    | none => rfl
    | some x => exact congrArg some (hc.sc hr.2.2.right hhi)
  have e1 : ia e u i (j - i) = .slice (if cp = i then some ⟨φ D, 0, none⟩ else (some ⟨φ D, 0, none⟩ : Option Addr).map (·.add (i * e))) (j - i) (cp - i) := by
    rw [eu]
    unfold ia
    dsimp only
    split <;> simp [jZ]
  refine dk (v := ia e u i (j - i)) (w' := w) ?_ (h5 _ _ (hc.put0 hd (bQ.of_sc (by rw [e1]; rfl))))
  rw [e1]
  unfold execOp
  have hb : (Instr.sliceBounds true m cp (lo.map a.eval) (hi.map a.eval) none).run P w = .ok (i, j, cp) w := by
    rw [hlo', hhi']
    have b1 : (0 : Int) ≤ (j : Int) ∧ (j : Int) ≤ (cp : Int) := by omega
    have b2 : (0 : Int) ≤ (i : Int) ∧ (i : Int) ≤ (j : Int) := by omega
    cases lo <;> cases hi <;> simp only [rT] at hlo hhi <;> simp [Instr.sliceBounds, Instr.sliceBound, asIntOf, b1, b2, *] <;> omega
  simp only [Instr.sliceAt, Instr.slice, es', Sem.run_bind, run_underlying hu, Result.andThen_ok, Option.map_none, hb, sizeOf, typeInfo, run_program, hinf, hsz, Sem.run_pure]
def NN {t d s x G D E e bs m cp i : Nat} {ty : TypeId} {pos : String} {af : Array Edge} {gd : Option (Nat × Bool)} {u : Value} {α : Type} {g : α → List PV} {fN : α × (Nat → Value) → List PV} {zs : List (α × (Nat → Value))} {jk : List Value} (hd : d < n) (hT : cY P t = some (E, e, bs)) (he : 0 < e) (hN : ∀ x h, fN (x, h) = dy h 0 (g x)) (hg : ∀ x, (g x).length = e) (hb : ∀ x, ao (g x)) (hz : zs.length = m) (hi : i < m) (hj : m * e + jk.length = cp * e) (hdG : Nat.beq d G = false) :
    Loc P n ⟨some d, .call { callee := .builtin .append, args := #[.tmp s, .tmp x], argTypes := #[t, t] }, ty, pos, af, gd⟩ ⟨[(s, RV.sc (ia e u 0 (i - 0))), (x, RV.sc (ia e u (i + 1) (m - (i + 1)))), (G, RV.gat u D m cp)], [(D, (E, bA fN zs jk))], [(d, some (RV.sc (ia e u 0 (m - 1)))), (G, some (RV.gat (ia e u 0 (m - 1)) D (m - 1) cp))], [(D, some (E, bA fN (eY zs i) (ls e zs jk)))], none⟩ := by
  intro h0 w0 Fz0 σ a w K Q hc hr hrb _ h5
  obtain ⟨φ, Fz, Fp, hc⟩ := hc
  obtain ⟨⟨eu, hmc, hcx⟩, _⟩ := hc.slot G _ hr.2.2.1
  have ev := (hc.one_ hr.1).1
  have ex := (hc.one_ hr.2.1).1
  obtain ⟨hu, inf, hinf, hsz, _⟩ := jY hT
  subst hz
  have hbs : σ.b D = some (E, bA fN zs jk) := hrb.1
  obtain ⟨cur, hgc, ho⟩ := hc.box D _ hbs
  obtain ⟨k1, k2, k3⟩ := hc.bxb D _ hbs
  have hone := ho.one
  obtain ⟨us, hus, hvs⟩ := xI hN hg (zs := zs) (js := jk.map PV.val) ho.rel
  have huj : us = jk := by
    have hk : ∀ (l : List Value) (us : List Value), bK (l.map PV.val) Fz w us → us = l := by
      intro l
      induction l with
      | nil => intro us h; exact h
      | cons v l ih =>
        intro us h
        obtain ⟨v', vs', rfl, h1, h2⟩ := h
        rw [ih _ h2, h1.1]
    exact hk _ _ hvs
  subst huj
  generalize hA : zs.take i = A
  generalize hB : zs.drop (i + 1) = B
  have hzs : zs = A ++ (zs[i] :: B) := by rw [← hA, ← hB, ← List.drop_eq_getElem_cons hi, eA]
  have hAl : A.length = i := by rw [← hA, bv]; omega
  have hBl : B.length = zs.length - (i + 1) := by rw [← hB, fw]
  have hval : bi e zs = bi e A ++ ((List.range e).map zs[i].2 ++ bi e B) := by
    conv => lhs; rw [hzs]
    rw [qp]; rfl
  have hcl : cur.toList.length = cp * e := by rw [hus, aU, jL]; exact hj
  have hcs : cur.size = cp * e := by rw [← hcl]; simp
  have hnl : (bi e B).length = (zs.length - (i + 1)) * e := by rw [jL, hBl]
  have hoff : (i + 1) * e + (bi e B).length = zs.length * e := by rw [hnl, ← Nat.add_mul]; congr 1; omega
  have hcell : ∀ j v, (bi e B)[j]? = some v → w.cell? ((⟨φ D, if cp = i + 1 then 0 else (i + 1) * e, none⟩ : Addr).add j) = some v := by
    intro j v hv
    have hjl := (List.getElem?_eq_some_iff.1 hv).1
    have hne : ¬ cp = i + 1 := by
      intro e'
      have : zs.length ≤ i + 1 := by omega
      have : B.length = 0 := by omega
      rw [jL, this] at hjl; omega
    rw [if_neg hne, jZ]
    have hq := cell_of_row w (φ D) ((i + 1) * e + j) cur E (0, 0) hgc
    have hq2 : w.cell? ⟨φ D, (i + 1) * e + j, none⟩ = cur.toList[(i + 1) * e + j]? := by rw [hq]; simp
    rw [hq2, hus, hval]
    rw [List.getElem?_append_left (by simp only [aU, ar, List.length_range, jL, hAl]; rw [jL] at hjl; have := Nat.add_mul i 1 e; omega)]
    rw [List.getElem?_append_right (by rw [jL, hAl]; have := Nat.add_mul i 1 e; omega), List.getElem?_append_right (by rw [jL, hAl]; simp only [ar, List.length_range]; have := Nat.add_mul i 1 e; omega)]
    rw [← hv]
    congr 1
    rw [jL, hAl]; simp only [ar, List.length_range]; have := Nat.add_mul i 1 e; omega
  have h1 : ∀ v ∈ bi e B, v.oneCell' = true := fun v hv => hone v (by rw [hus, hval]; simp [hv])
  have hroom : i + (zs.length - (i + 1)) ≤ cp := by omega
  have hfit : i * inf.size + (bi e B).length ≤ cur.size := by rw [hsz, hnl, hcs, ← Nat.add_mul]; exact Nat.mul_le_mul_right _ hroom
  have hrun := run_append_room (P := P) w t ty E inf hu hinf (φ D) i cp cur hgc ⟨φ D, if cp = i + 1 then 0 else (i + 1) * e, none⟩ (zs.length - (i + 1)) (cp - (i + 1)) (bi e B) (by rw [hnl, hsz]) hcell h1 hroom hfit
  rw [hsz] at hrun
  have hs1 : a.eval (.tmp s) = .slice (some ⟨φ D, 0, none⟩) i cp := by
    have : a.eval (.tmp s) = ia e u 0 (i - 0) := ev
    rw [this, eu, xO]
    simp
  have hs2 : a.eval (.tmp x) = .slice (some ⟨φ D, if cp = i + 1 then 0 else (i + 1) * e, none⟩) (zs.length - (i + 1)) (cp - (i + 1)) := by
    have : a.eval (.tmp x) = ia e u (i + 1) (zs.length - (i + 1)) := ex
    rw [this, eu, xO]
  have hres : ia e u 0 (zs.length - 1) = .slice (some ⟨φ D, 0, none⟩) (i + (zs.length - (i + 1))) cp := by
    rw [eu, xO, show i + (zs.length - (i + 1)) = zs.length - 1 by omega]
    simp
  have hidx : i + (zs.length - (i + 1)) = zs.length - 1 := by omega
  have c1 := hc.pullB hbs
  generalize hFp1 : (fun x => if x = 0 then φ D :: mv Fp (2 * D + 2) 0 else mv Fp (2 * D + 2) x) = Fp1 at c1
  have e0 : Fp1 0 = φ D :: (Fp (2 * D + 2) ++ Fp 0) := by rw [← hFp1]; simp [mv]
  generalize hcur : (cur.toList.take (i * e) ++ bi e B ++ cur.toList.drop (i * e + (bi e B).length)).toArray = cur' at hrun
  have hw : (w.setRow (φ D) cur').heap.size = w.heap.size := size_setRow _ _ _
  have hset : (w.setRow (φ D) cur').heap[φ D]? = some (.cells cur' E (0, 0)) := setRow_heap w (φ D) cur _ E _ hgc
  have hoth : ∀ i, i ≠ φ D → (w.setRow (φ D) cur').heap[i]? = w.heap[i]? := fun i hi => setRow_other w (φ D) i _ hi
  have hkeep : fe Fz w Fz (w.setRow (φ D) cur') := fun i o hio => ⟨hio, World.cell?_of_block (hoth i fun e => k2 o (e ▸ hio))⟩
  have c2 := c1.world (w' := w.setRow (φ D) cur') (Fz' := Fz) (X := Fp1 0) rfl rfl rfl (by omega)
    (fun i hi hi0 => ⟨hoth i fun e => hi0 (by rw [e, e0]; simp), fun o ho => ho⟩) hkeep (fun i o hio => by rw [hw]; exact hc.fzl i o hio)
    (fun i hi => .inl hi) (c1.nod 0)
  have hlist : cur'.toList = bi e (eY zs i) ++ ls e zs us := by
    rw [← hcur]
    show cur.toList.take (i * e) ++ bi e B ++ cur.toList.drop (i * e + (bi e B).length) = _
    unfold eY ls
    rw [hA, hB, qp, ← hus]
    have t1 : cur.toList.take (i * e) = bi e A := by
      rw [hus, hval, br]
      exact List.take_left' (by rw [jL, hAl])
    rw [t1, hnl, ← Nat.add_mul, show i + (zs.length - (i + 1)) = zs.length - 1 by omega]
  have hrel := ho.rel.mono hkeep
  have hnew : aJ (bA fN (eY zs i) (ls e zs us)) Fz (w.setRow (φ D) cur') cur'.toList [] := by
    rw [hlist]
    unfold bA
    have hr1 : bK ((zs.map fN).flatten) Fz (w.setRow (φ D) cur') (bi e zs) := by
      obtain ⟨v1, v2, q1, q2, q3⟩ := bK.split (show bK ((zs.map fN).flatten ++ us.map PV.val) Fz (w.setRow (φ D) cur') cur.toList from hrel)
      rw [hus] at q1
      have := List.append_inj q1 (by
        have hl1 := q2.len
        rw [hl1, jL]
        have : ∀ l : List (α × (Nat → Value)), (l.map fN).flatten.length = l.length * e := by
          intro l
          induction l with
          | nil => simp
          | cons z l ih =>
            rw [List.map_cons, List.flatten_cons, aU, ih, List.length_cons, Nat.succ_mul, show fN z = dy z.2 0 (g z.1) from hN z.1 z.2]
            have : ∀ (ps : List PV) (i : Nat), (dy z.2 i ps).length = ps.length := by
              intro ps
              induction ps with
              | nil => intro i; rfl
              | cons p ps ih => intro i; simp [dy, ih]
            rw [this, hg]; omega
        rw [this])
      rw [this.1]; exact q2
    rw [hzs, bN, List.flatten_append, List.map_cons, List.flatten_cons, qp] at hr1
    obtain ⟨v1, v2, q1, q2, q3⟩ := bK.split hr1
    obtain ⟨v3, v4, q4, q5, q6⟩ := bK.split q3
    have hfl : ∀ l : List (α × (Nat → Value)), (l.map fN).flatten.length = l.length * e := by
      intro l
      induction l with
      | nil => simp
      | cons z l ih =>
        rw [List.map_cons, List.flatten_cons, aU, ih, List.length_cons, Nat.succ_mul, show fN z = dy z.2 0 (g z.1) from hN z.1 z.2]
        have : ∀ (ps : List PV) (i : Nat), (dy z.2 i ps).length = ps.length := by
          intro ps
          induction ps with
          | nil => intro i; rfl
          | cons p ps ih => intro i; simp [dy, ih]
        rw [this, hg]; omega
    have hfz : (fN zs[i]).length = e := by have := hfl [zs[i]]; simpa using this
    obtain ⟨rfl, hv2⟩ := List.append_inj q1 (by rw [q2.len, hfl, jL])
    have hv2 : (List.range e).map zs[i].2 ++ bi e B = v2 := hv2
    rw [q4] at hv2
    obtain ⟨_, rfl⟩ := List.append_inj hv2 (by rw [q5.len, hfz]; simp)
    have hrB : bK (((eY zs i).map fN).flatten) Fz (w.setRow (φ D) cur') (bi e (eY zs i)) := by
      unfold eY
      rw [hA, hB, bN, List.flatten_append, qp]
      exact q2.append q6
    have hbor : ao ((eY zs i).map fN).flatten := by
      intro p hp
      obtain ⟨l, hl, hp⟩ := List.mem_flatten.1 hp
      obtain ⟨z, _, rfl⟩ := List.mem_map.1 hl
      rw [show fN z = dy z.2 0 (g z.1) from hN z.1 z.2] at hp
      exact Dm z.2 (hb z.1) p hp
    have hoj : aJ ((ls e zs us).map PV.val) Fz (w.setRow (φ D) cur') (ls e zs us) [] := qg fun v hv => hone v (by
      unfold ls at hv
      rw [← hus] at hv
      exact List.mem_of_mem_drop hv)
    have := (hbor.own hrB).append hoj
    rwa [dH] at this
  have c3 := c2.pushB (d := D) (g := φ D) (t := E) (cs := bA fN (eY zs i) (ls e zs us)) (F := []) (X := Fp 0) (by rw [St.setB_b, if_pos rfl]) hset hnew k2
    (fun x hx => by
      simp only [if_true]
      rw [e0]
      simp only [List.nil_append, ii, dr] at hx ⊢
      rcases hx with hx | hx
      · exact .inl hx
      · exact .inr (.inr hx))
    (by
      have hnd := c1.nod 0
      rw [e0] at hnd
      simp only [List.nil_append]
      rw [fu] at hnd ⊢
      exact ⟨fun hh => hnd.1 (by simp [hh]), (List.nodup_append.1 hnd.2).2.1⟩) (.inl rfl)
  have c4 := (c3.pull G).reslot (s := G) (rv := RV.gat (ia e u 0 (zs.length - 1)) D (zs.length - 1) cp) ⟨⟨hres.trans (by rw [hidx]; simp), by omega, hcx⟩, by simp [mv]⟩
  have c5 := c4.put0 (d := d) (r := RV.sc (ia e u 0 (zs.length - 1))) (v := ia e u 0 (zs.length - 1)) hd (bQ.of_sc (by rw [hres]; rfl))
  refine dk (v := ia e u 0 (zs.length - 1)) (w' := w.setRow (φ D) cur') ?_ (h5 _ _ (bk.eqv c5 (fun k => ?_) (fun k => ?_)))
  · rw [hres]
    have es' : a.eval (.tmp s) = a.tmps.getD s undef := rfl
    have ex' : a.eval (.tmp x) = a.tmps.getD x undef := rfl
    unfold execOp
    simp only [resolve, invoke, builtin, Sem.run_bind, Sem.run_pure, Result.andThen_ok, List.map_toArray, List.map_cons, List.map_nil, hs1, hs2, hrun]
  · show bJ [(d, _), (G, _)] σ.s k = _
    have hne : ¬ d = G := fun e => by rw [e] at hdG; simp at hdG
    simp only [bJ, St.set, St.setB]
    cases hkd : Nat.beq k d <;> cases hkG : Nat.beq k G
    · rfl
    · rfl
    · rfl
    · exact absurd ((Nat.eq_of_beq_eq_true hkd).symm.trans (Nat.eq_of_beq_eq_true hkG)) hne
  · show bJ [(D, _)] σ.b k = _
    simp only [bJ, St.set, St.setB]
    cases hkd : Nat.beq k D <;> rfl
end
end
section
section
variable {P : Program} {n : Nat} {h0 : Nat → Prop} {w0 : World} {Fz0 : av} {σ : St} {Q : Exit → St → Prop} {c : Code}
end
end
def ap := @PV.tob_refl
def iP := @PV.To.refl
def iQ := @PV.to_none
def aM := @PV.tob_map
def bH := @PV.nv_val
def Wo := @PV.lcl_val
def Wp := @PV.bor_val
def Wq := @St.setB_b
def aF {o : Fl} {es : List (List PV)} {ps qs : List PV} (k : am ps qs) : am (PV.sl o es :: ps) (PV.sl .v es :: qs) := am.cons PV.to_none k
abbrev bo : Fl := .own 139 1
abbrev aS : Fl := .own 184 4
abbrev aa : Fl := .own 3 1
abbrev bS : Fl := .own 108 10
abbrev bM : Fl := .own 63 7
abbrev ay : Fl := .own 178 3
abbrev aB : Fl := .own 54 2
abbrev bP : Fl := .own 70 5
abbrev oK : Fl := .own 52 4
abbrev qt : Fl := .own 268 3
end Go.Proofs.YtmekkgdboplbjaaGreat.M
