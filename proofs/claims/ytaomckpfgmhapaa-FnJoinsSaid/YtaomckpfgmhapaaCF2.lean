/- Texts and their operations; functions that read tables of the library. No condition. -/
import Derived.Test.YtaomckpfgmhapaaCF1
import Derived.Laws.Strings3
import Derived.Laws.BytesString
import Derived.Laws.Concat
import Derived.Lib.LaidTab
import Derived.Lib.Join
import Derived.Lib.ItoaNum
import Derived.Lib.ItoaLen
import Derived.Sort.Grow
import Derived.Deep.Draws
set_option linter.unusedVariables false
namespace Go.Proofs.Ytaomckpfgmhapaa.M
open Go Go.RowKit
abbrev Bytes := List UInt8
abbrev B (l : Bytes) : ByteArray := ⟨l.toArray⟩
abbrev RV.str (l : Bytes) : RV := RV.sc (.string (B l))
section
variable {P : Program} {n : Nat} {T T2 : TypeId} {x y : Operand} {d : Nat} {ty : TypeId} {pos : String} {af : Array Edge} {g : Option (Nat × Bool)} {s t : Bytes}
/-- The bytes that whole numbers stand for. -/
def bys (xs : List Int) : Bytes := xs.map fun n => UInt8.ofNat n.toNat
end
/-! ### what is known of the library's tables -/
/-- What is known of blocks that stay: of no slot. -/
structure Glob where
  rel : FzT → World → Prop
  mono : ∀ {Fz Fz' : FzT} {w w' : World}, rel Fz w → Keeps Fz w Fz' w' → rel Fz' w'
def RV.glob (G : Glob) : RV where
  holds _ Fz w _ F := G.rel Fz w ∧ F = []
  men _ := false
  mono h k _ _ := ⟨G.mono h.1 k, h.2⟩
  lt h := by rw [h.2]; simp
/-- As SCall, where G is known. -/
def GCall (P : Program) (G : Glob) (f : FuncId) (args : List (Bool × List PV)) (r : RV) : Prop :=
  ∀ (w : World) (vs : List Value) (Fz : FzT), (∀ b o, Fz b o → b < w.heap.size) → G.rel Fz w → RelT args Fz w vs → Calls P f vs.toArray w fun e w' => ∃ v Fz' F, e = .returned v ∧ Below w.heap.size w w' ∧
    (∀ b o, b < w.heap.size → (Fz' b o ↔ Fz b o)) ∧ (∀ b o, Fz' b o → b < w'.heap.size) ∧ (∀ φ, r.holds φ Fz' w' v F) ∧ F.Nodup ∧ ∀ b, b ∈ F → w.heap.size ≤ b ∧ b < w'.heap.size
theorem SCall.g {P : Program} {G : Glob} {f : FuncId} {args : List (Bool × List PV)} {r : RV} (h : SCall P f args r) : GCall P G f args r := fun w vs Fz hz _ hr => h w vs Fz hz hr
section
variable {P : Program} {n : Nat} {G : Glob}
end
/-! ### calls into the library -/
section
variable {P : Program} {G : Glob} {f : FuncId}
theorem SvRel.sc {v x : Value} {Fz : FzT} {w : World} (h : SvRel false [PV.val x] Fz w v) : v = x := (SvOwn.sc ⟨h.1, (BorL.cons (PV.bor_val _) BorL.nil).own h.2⟩).1
theorem SvRel.sl {v : Value} {es : List (List PV)} {Fz : FzT} {w : World} (h : SvRel false [PV.sl .v es] Fz w v) : SlRel es Fz w v :=
  (SvOwn.atom (p := PV.sl .v es) ⟨h.1, (BorL.cons (PV.bor_sl _) BorL.nil).own h.2⟩).1
/-- The text of texts, a text between each two. -/
def joinB (xs : List Bytes) (sep : Bytes) : Bytes := Lib.join xs sep
/-- A table that stays. -/
theorem tab_keep {Fz Fz' : FzT} {w w' : World} {g : Nat} {nm : String} {k : IntKind} {zs : List Int} (hg : P.globalNamed nm = some g) (hz : 0 < zs.length) (h : (∀ o, Fz g o) ∧ Lib.TabIs P w nm k zs) (hk : Keeps Fz w Fz' w') : (∀ o, Fz' g o) ∧ Lib.TabIs P w' nm k zs := by
  refine ⟨fun o => (hk g o (h.1 o)).1, ?_⟩
  have hc : ∀ o, w'.cell? ⟨g, o, none⟩ = w.cell? ⟨g, o, none⟩ := fun o => (hk g o (h.1 o)).2
  have h2 := h.2
  unfold Lib.TabIs World.var? at h2 ⊢
  rw [hg] at h2 ⊢
  simp only [Option.bind_some] at h2 ⊢
  cases hw : w.heap[g]? with
  | none => rw [hw] at h2; cases h2
  | some o =>
    cases o with
    | cells cs t fr =>
      rw [hw] at h2
      injection h2 with h2
      have hc1 : ∀ o, w.cell? ⟨g, o, none⟩ = cs[o]? := fun o => by simp [World.cell?, hw]
      have h0 : (w'.cell? ⟨g, 0, none⟩).isSome = true := by rw [hc, hc1, h2]; simp [hz]
      cases hw' : w'.heap[g]? with
      | none => simp [World.cell?, hw'] at h0
      | some o' =>
        cases o' with
        | cells cs' t' fr' =>
          have hc2 : ∀ o, w'.cell? ⟨g, o, none⟩ = cs'[o]? := fun o => by simp [World.cell?, hw']
          rw [← h2]
          show some cs' = some cs
          congr 1
          apply Array.ext_getElem?
          intro i
          rw [← hc2, hc, hc1]
        | _ => simp [World.cell?, hw'] at h0
    | _ => rw [hw] at h2; cases h2
/-- What is known where numbers are printed. -/
def glItoa (P : Program) (g : Nat) (hg : P.globalNamed "internal/strconv.uint64pow10" = some g) : Glob where
  rel Fz w := (∀ o, Fz g o) ∧ Lib.TabIs P w "internal/strconv.uint64pow10" .u64 Lib.pow10Tab
  mono h k := tab_keep hg (by decide) h k
end
end Go.Proofs.Ytaomckpfgmhapaa.M

/- Short forms for calls that want what is known of tables; what a text reads as. No condition. -/
set_option linter.unusedVariables false
namespace Go.Proofs.Ytaomckpfgmhapaa.M
open Go Go.RowKit
section
variable {P : Program} {n d : Nat} {ty : TypeId} {pos : String} {af : Array Edge} {g : Option (Nat × Bool)} {G : Glob}
end
end Go.Proofs.Ytaomckpfgmhapaa.M

/- A pointer to a new variable beside other results. No condition. -/
set_option linter.unusedVariables false
namespace Go.Proofs.Ytaomckpfgmhapaa.M
open Go Go.RowKit
/-- A pointer at a variable that is its own alone: of type t, with cells cs. -/
def PV.np (t : Nat) (cs : List PV) : PV where
  rel _ _ v := ∃ g, v = .pointer (some ⟨g, 0, none⟩)
  own Fz w v F := ∃ g cur F', v = .pointer (some ⟨g, 0, none⟩) ∧ w.heap[g]? = some (.cells cur t (0, 0)) ∧ (∀ o, ¬ Fz g o) ∧ OwnL cs Fz w cur.toList F' ∧ F = g :: F'
  one h := by obtain ⟨g, rfl⟩ := h; rfl
  toRel h := by obtain ⟨g, _, _, rfl, _⟩ := h; exact ⟨g, rfl⟩
  relMono h _ := h
  ownMono h k hh := by
    obtain ⟨g, cur, F', rfl, h1, h2, h3, rfl⟩ := h
    exact ⟨g, cur, F', rfl, (hh g (by simp)).1.trans h1, fun o ho => h2 o ((hh g (by simp)).2 o ho), h3.mono k (hh.sub fun b hb => by simp [hb]), rfl⟩
  lt h := by
    obtain ⟨g, cur, F', rfl, h1, h2, h3, rfl⟩ := h
    intro b hb
    rcases List.mem_cons.1 hb with rfl | hb
    · exact (Array.getElem?_eq_some_iff.1 h1).1
    · exact h3.lt b hb
section
variable {h0 : Nat → Prop} {n : Nat} {w0 w : World} {Fz0 Fz : FzT} {σ : St} {a : Act} {φ : Nat → Nat} {Fp : Nat → List Nat} {P : Program} {c : Code} {Q : Exit → St → Prop}
/-- A variable floats. -/
theorem ConcW.unbox (h : ConcW h0 w0 Fz0 n σ a w φ Fz Fp) {D t : Nat} {cs : List PV} (hb : σ.b D = some (t, cs)) : ConcW h0 w0 Fz0 n (σ.setB D none) a w φ Fz (fun x => if x = 0 then φ D :: (Fp (2 * D + 2) ++ Fp 0) else if x = 2 * D + 2 then [] else Fp x) := by
  obtain ⟨k1, k2, k3⟩ := h.bxb D _ hb
  obtain ⟨cur, q1, q2⟩ := h.box D _ hb
  have hin : ∀ e cs', (σ.setB D none).b e = some cs' → e ≠ D ∧ σ.b e = some cs' := fun e cs' he => by
    rw [St.setB_b] at he
    split at he
    · cases he
    · rename_i hne; exact ⟨hne, he⟩
  have hmem : ∀ x b, b ∈ (if x = 0 then φ D :: (Fp (2 * D + 2) ++ Fp 0) else if x = 2 * D + 2 then [] else Fp x) → (x = 0 ∧ b = φ D) ∨ (x = 0 ∧ b ∈ Fp (2 * D + 2)) ∨ (x ≠ 2 * D + 2 ∧ b ∈ Fp x) := by
    intro x b hb
    split at hb
    · rename_i hx
      subst hx
      rcases List.mem_cons.1 hb with hb | hb
      · exact .inl ⟨rfl, hb⟩
      · rcases List.mem_append.1 hb with hb | hb
        · exact .inr (.inl ⟨rfl, hb⟩)
        · exact .inr (.inr ⟨by omega, hb⟩)
    · split at hb
      · cases hb
      · rename_i _ hx; exact .inr (.inr ⟨hx, hb⟩)
  refine ⟨h.bel, h.dfr, h.siz, h.hlt, h.fz0, h.fzl, fun i rv hi => ?_, fun e cs' he => ?_, fun e cs' he => ?_, fun e e' cs1 cs2 h1 h2 h3 => ?_, fun r r' hne b hr hr' => ?_, fun r => ?_, fun r b hr => ?_⟩
  · rw [if_neg (by omega), if_neg (by omega)]; exact h.slot i rv hi
  · obtain ⟨hne, he⟩ := hin e cs' he
    obtain ⟨cur', a1, a2⟩ := h.box e cs' he
    rw [if_neg (by omega), if_neg (by omega)]; exact ⟨cur', a1, a2⟩
  · obtain ⟨hne, he⟩ := hin e cs' he
    obtain ⟨a1, a2, a3⟩ := h.bxb e cs' he
    refine ⟨a1, a2, fun r hr => ?_⟩
    rcases hmem _ _ hr with ⟨_, hr⟩ | ⟨_, hr⟩ | ⟨_, hr⟩
    · exact hne (h.inj e D _ _ he hb hr)
    · exact a3 _ hr
    · exact a3 _ hr
  · exact h.inj e e' _ _ (hin e cs1 h1).2 (hin e' cs2 h2).2 h3
  · have hm1 := hmem _ _ hr
    have hm2 := hmem _ _ hr'
    clear hr hr'
    rcases hm1 with ⟨e3, hr⟩ | ⟨e3, hr⟩ | ⟨e1, hr⟩ <;> rcases hm2 with ⟨e4, hr'⟩ | ⟨e4, hr'⟩ | ⟨e2, hr'⟩
    · exact hne (e3.trans e4.symm)
    · exact hne (e3.trans e4.symm)
    · subst hr; exact k3 _ hr'
    · exact hne (e3.trans e4.symm)
    · exact hne (e3.trans e4.symm)
    · exact h.dis _ _ (fun e => e2 e.symm) b hr hr'
    · subst hr'; exact k3 _ hr
    · exact h.dis _ _ e1 b hr hr'
    · exact h.dis _ _ hne b hr hr'
  · split
    · rw [List.nodup_cons, List.nodup_append]
      refine ⟨fun hm => ?_, h.nod _, h.nod _, fun u hu v hv e => h.dis (2 * D + 2) 0 (by omega) u hu (e ▸ hv)⟩
      rcases List.mem_append.1 hm with hm | hm <;> exact k3 _ hm
    · split
      · exact List.nodup_nil
      · exact h.nod r
  · rcases hmem _ _ hr with ⟨_, rfl⟩ | ⟨_, hr⟩ | ⟨_, hr⟩
    · exact ⟨k1, (Array.getElem?_eq_some_iff.1 q1).1⟩
    · exact h.low _ _ hr
    · exact h.low _ _ hr
/-- A pointer and its variable become one value. -/
theorem sw_abs {s D t : Nat} {cs : List PV} (hs : σ.s s = some (RV.ptr D 0)) (hb : σ.b D = some (t, cs)) (hsn : s < n) (h : SW P n h0 w0 Fz0 c ((σ.setB D none).set s (some (RV.sv false [PV.np t cs]))) Q) : SW P n h0 w0 Fz0 c σ Q := fun a w hc => by
  obtain ⟨φ, Fz, Fp, hc⟩ := hc
  have hv : a.tmps.getD s undef = .pointer (some ⟨φ D, 0, none⟩) := (hc.slot s _ hs).1
  obtain ⟨cur, q1, q2⟩ := hc.box D _ hb
  obtain ⟨k1, k2, k3⟩ := hc.bxb D _ hb
  have c1 := (hc.unbox hb).pull s
  have hself : a.put (some s) (a.tmps.getD s undef) = a := put_self
  have hnd := c1.nod 0
  have hne : 2 * s + 1 ≠ 0 := by omega
  have hne2 : 2 * s + 1 ≠ 2 * D + 2 := by omega
  simp only [mv, if_true, if_neg hne, if_neg hne2] at hnd
  rw [List.nodup_append] at hnd
  have hn2 := hnd.2.1
  rw [List.nodup_cons, List.nodup_append] at hn2
  have c2 := c1.push (i := s) (rv := RV.sv false [PV.np t cs]) (v := a.tmps.getD s undef) (F := φ D :: Fp (2 * D + 2)) (X := []) hsn
    (SvOwn.of_atom (p := PV.np t cs) ⟨φ D, cur, _, hv, q1, k2, q2, rfl⟩) (fun x hx => by
      simp only [mv, if_true, if_neg hne, if_neg hne2]
      simp only [List.append_nil] at hx
      exact List.mem_append_right _ (by
        rcases List.mem_cons.1 hx with rfl | hx
        · simp
        · simp [hx])) (by
      rw [List.append_nil, List.nodup_cons]
      exact ⟨fun hm => k3 _ hm, hc.nod _⟩)
  rw [hself] at c2
  exact h a w (Conc.eqv ⟨_, _, _, c2⟩ (fun i => by simp only [St.set_s]; split <;> rfl) (fun d => rfl))
end
end Go.Proofs.Ytaomckpfgmhapaa.M
