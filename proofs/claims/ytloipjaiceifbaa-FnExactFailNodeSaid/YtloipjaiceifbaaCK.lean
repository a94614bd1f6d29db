/- Rules for the equality of bools. No condition. -/
import Derived.Test.YtloipjaiceifbaaCI
namespace Go.Proofs.Ytloipjaiceifbaa.M
open Go Go.RowKit
section
variable {P : Program} {n : Nat}
variable {T T2 : TypeId} {x y : Operand} {d : Nat} {ty : TypeId} {pos : String} {af : Array Edge} {g : Option (Nat × Bool)} {i j : Bool} (hd : d < n) (hT : P.underlying T = some .bool) (hx : OpOk x (RV.bool i)) (hy : OpOk y (RV.bool j))
include hd hT hx hy
theorem loc_beql : Loc P n ⟨some d, .binOp .eql T x y T2, ty, pos, af, g⟩ ⟨opR x (RV.bool i) ++ opR y (RV.bool j), [], [(d, some (RV.bool (i == j)))], [], none⟩ :=
  loc_bin hd hx hy rfl fun w => by simp [eqGuard, run_eql_bool w T i j hT]
theorem loc_bneq : Loc P n ⟨some d, .binOp .neq T x y T2, ty, pos, af, g⟩ ⟨opR x (RV.bool i) ++ opR y (RV.bool j), [], [(d, some (RV.bool (!(i == j))))], [], none⟩ :=
  loc_bin hd hx hy rfl fun w => by simp [eqGuard, run_neq_bool w T i j hT]
end
section
variable {P : Program} {n : Nat}
theorem ok_fn {f : Nat} : OpOk (.func f) (RV.sc (.func (.func f) #[] #[])) := fun _ _ _ => SvOwn.of_sc rfl
/-- A call of a function that a slot holds. -/
theorem loc_callc {f d t : Nat} {args : Array Operand} {tys : Array TypeId} {ty : TypeId} {pos : String} {af : Array Edge} {g : Option (Nat × Bool)} {qs as_ : List (Bool × List PV)} {r : RV} (hd : d < n) (hf : callI P f = true) (hok : OpsOk args.toList qs) (hto : ToT qs as_) (hs : SCall P f as_ r) :
    Loc P n ⟨some d, .call { callee := .value (.tmp t), args := args, argTypes := tys }, ty, pos, af, g⟩ ⟨(t, RV.sc (.func (.func f) #[] #[])) :: opsR args.toList qs, [], [(d, some r)], [], none⟩ := by
  intro h0 w0 Fz0 σ a w K Q hc hr _ _ h5
  obtain ⟨φ, Fz, Fp, hc⟩ := hc
  have ht := (SvOwn.sc (hc.slot t _ hr.1)).1
  have hrel := hto.rel (hc.relT hr.2 hok)
  have hrun : (execOp a.eval ⟨some d, .call { callee := .value (.tmp t), args := args, argTypes := tys }, ty, pos, af, g⟩).run P w = .ok (.enter f (args.toList.map a.eval).toArray) w := by
    unfold execOp
    have e : (#[] ++ args.map a.eval ++ #[] : Array Value) = (args.toList.map a.eval).toArray := by apply Array.ext'; simp
    have ht' : a.eval (.tmp t) = .func (.func f) #[] #[] := ht
    simp only [resolve, ht', Deferred.ofValue, Sem.run_bind, Sem.run_pure, Result.andThen_ok, invoke]
    rw [run_call hf, e]
  unfold Oper.wp
  rw [hrun, Oper.upon_enter]
  refine (hs w _ Fz hc.fzl hrel).mono ?_
  rintro e w' ⟨v, Fz', F, rfl, hb, hz1, hz2, hv, hn, hF⟩
  refine h5 _ _ ?_
  have k := hc.world (w' := w') (Fz' := Fz') (X := F) hb.os hb.tape hb.output hb.size (fun b hb' _ => ⟨hb.block b hb', fun o ho => (hz1 b o hb').1 ho⟩)
    (fun b o ho => ⟨(hz1 b o (hc.fzl b o ho)).2 ho, World.cell?_of_block (hb.block b (hc.fzl b o ho))⟩) hz2 (fun b hb' => .inr (hF b hb')) hn
  exact ⟨φ, Fz', _, k.push (i := d) (rv := r) (v := v) (F := F) (X := []) hd (hv φ) (fun b hb => by simpa using hb) (by simpa using hn)⟩
end
end Go.Proofs.Ytloipjaiceifbaa.M
