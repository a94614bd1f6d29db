/- Short forms for calls that want what is known of tables; what a text reads as. No condition. -/
import Derived.Test.YteflgldonmgejaaGreatDoorCF1
set_option linter.unusedVariables false
namespace Go.Proofs.YteflgldonmgejaaGreatDoor.M
open Go Go.RowKit
section
variable {P : Program} {n d : Nat} {ty : TypeId} {pos : String} {af : Array Edge} {g : Option (Nat × Bool)} {G : Glob}
theorem gL {f : Nat} {args : Array Operand} {tys : Array TypeId} {r : RV} (qs as_ : List (Bool × List PV)) (hf : callI P f = true) (hok : OpsOk args.toList qs := by repeat' (first | exact True.intro | exact ok_sc rfl | exact ok_nilr | apply And.intro))
    (hto : ToT qs as_ := by repeat' (first | exact True.intro | exact rfl | exact PV.To.refl _ | exact PV.to_none | apply And.intro)) (hs : GCall P G f as_ r) (hd : d < n := by decide) : Loc P n ⟨some d, .call { callee := .value (.func f), args := args, argTypes := tys }, ty, pos, af, g⟩ ⟨(7000, RV.glob G) :: opsR args.toList qs, [], [(d, some r)], [], none⟩ := loc_gcall hd hf hok hto hs
end
/-- The law's call, where something is known of tables. -/
theorem law_callsG {P : Program} {G : Glob} {W : World} {f : FuncId} {vs : List Value} {qs : List (Bool × List PV)} (hs : GCall P G f qs (resRV [(false, [PV.val (.bool true)])])) (hG : G.rel (FzA W) W) (hr : RelT qs (FzA W) W vs) : Calls P f vs.toArray W fun e w' => e = .returned (.bool true) ∧ Below W.heap.size W w' :=
  (hs W vs (FzA W) (fun _ _ h => h) hG hr).mono fun e w' ⟨v, Fz', F, he, hb, _, _, hv, _⟩ => ⟨by rw [he, (SvOwn.sc (hv fun _ => 0)).1], hb⟩
end Go.Proofs.YteflgldonmgejaaGreatDoor.M

/- A pointer to a new variable beside other results. No condition. -/
set_option linter.unusedVariables false
namespace Go.Proofs.YteflgldonmgejaaGreatDoor.M
open Go Go.RowKit
/-- A pointer at a variable that is its own alone: of type t, with cells cs. -/
def PV.np (t : Nat) (cs : List PV) : PV where
  rel _ _ v := ∃ g, v = .pointer (some ⟨g, 0, none⟩)
  own Fz w v F := ∃ g cur F', v = .pointer (some ⟨g, 0, none⟩) ∧ w.heap[g]? = some (.cells cur t (0, 0)) ∧ (∀ o, ¬ Fz g o) ∧ OwnL cs Fz w cur.toList F' ∧ F = g :: F'
  one h := by obtain ⟨g, rfl⟩ := h; rfl
  toRel h := by obtain ⟨g, _, _, rfl, _⟩ := h; exact ⟨g, rfl⟩
  relMono h _ := h
  ownMono h k hh := by
    obtain ⟨g, cur, F', rfl, h1, h2, h3, rfl⟩ := h
    exact ⟨g, cur, F', rfl, (hh g (by simp)).1.trans h1, fun o ho => h2 o ((hh g (by simp)).2 o ho), h3.mono k (hh.sub fun b hb => by simp [hb]), rfl⟩
  lt h := by
    obtain ⟨g, cur, F', rfl, h1, h2, h3, rfl⟩ := h
    intro b hb
    rcases List.mem_cons.1 hb with rfl | hb
    · exact (Array.getElem?_eq_some_iff.1 h1).1
    · exact h3.lt b hb
section
variable {h0 : Nat → Prop} {n : Nat} {w0 w : World} {Fz0 Fz : FzT} {σ : St} {a : Act} {φ : Nat → Nat} {Fp : Nat → List Nat} {P : Program} {c : Code} {Q : Exit → St → Prop}
end
end Go.Proofs.YteflgldonmgejaaGreatDoor.M

/- What is known of tables, in a call whose arguments lie low. No condition. -/
set_option linter.unusedVariables false
namespace Go.Proofs.YteflgldonmgejaaGreatDoor.M
open Go Go.RowKit
section
variable {P : Program} {n : Nat} {h0 : Nat → Prop} {w0 : World} {Fz0 : FzT} {σ : St} {Q : Exit → St → Prop} {c : Code} {G : Glob}
theorem gcall_lo {f : FuncId} {fn : Func} {args : List (Bool × List PV)} {largs : (Nat → Prop) → List (Bool × List PV)} {rs : List (Bool × List PV)} (hf : P.funcs[f]? = some fn) (hb : fn.body = some c) (hn : args.length ≤ fn.ntmps) (hto : ∀ L, ToBT L args (largs L)) (hbor : ∀ L q, q ∈ largs L → BorL q.2)
    (h : ∀ (w0 : World) (Fz0 : FzT), G.rel Fz0 w0 → (∀ b o, Fz0 b o → Lw w0.heap.size b) → SW P fn.ntmps (Lw w0.heap.size) w0 Fz0 c (St.of (argsL 0 (largs (Lw w0.heap.size))) []) (endS P fn.results.toList rs)) : GCall P G f args (resRV rs) := by
  intro w vs Fz hz hG hrel
  exact scall_at hf hb (by rw [← (hto (Lw w.heap.size)).len]; exact hn) (hbor _) w Fz (h w Fz hG hz) vs hz ((hto (Lw w.heap.size)).rel hz hrel)
/-- What was known at the start is known still. -/
theorem sw_glob (hG : G.rel Fz0 w0) (hz : ∀ b o, Fz0 b o → h0 b) (h : SW P n h0 w0 Fz0 c (σ.set 7000 (some (RV.glob G))) Q) : SW P n h0 w0 Fz0 c σ Q := fun a w hc => by
  obtain ⟨φ, Fz, Fp, hc⟩ := hc
  have hG' : G.rel Fz w := G.mono hG fun b o hb => ⟨(hc.fz0 b o (hz b o hb)).2 hb, World.cell?_of_block (hc.bel.block b (hz b o hb))⟩
  have k := hc.pull 7000
  refine h a w ⟨φ, Fz, _, { k with slot := fun i rv hi => ?_ }⟩
  rw [St.set_s] at hi
  split at hi
  · rename_i e
    subst e
    injection hi with hi
    subst hi
    exact ⟨hG', by simp [mv]⟩
  · rename_i e
    exact k.slot i rv (by rw [St.set_s, if_neg e]; exact hi)
end
end Go.Proofs.YteflgldonmgejaaGreatDoor.M
