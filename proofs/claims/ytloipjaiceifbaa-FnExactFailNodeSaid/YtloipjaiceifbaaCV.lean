/- The equality of structs of numbers. No condition. -/
import Derived.Test.YtloipjaiceifbaaCS
import Derived.Laws.StructEq
namespace Go.Proofs.Ytloipjaiceifbaa.M
open Go Go.RowKit
section
variable {P : Program} {n : Nat}
theorem ownL_vals {Fz : FzT} {w : World} : ∀ {xs : List Value} {l : List Value} {F : List Nat}, OwnL (xs.map PV.val) Fz w l F → l = xs
  | [], l, F, h => h.1
  | x :: xs, l, F, h => by
    obtain ⟨v, vs', F1, F2, rfl, _, h1, h2⟩ := h
    rw [ownL_vals h2, h1.1.1]
theorem sv_vals {Fz : FzT} {w : World} {xs : List Value} {v : Value} {F : List Nat} (h : SvOwn true (xs.map PV.val) Fz w v F) : v = .agg xs.toArray := by
  obtain ⟨h1, h2⟩ := h
  have h3 := ownL_vals h2
  cases v <;> simp [isAg] at h1
  rename_i c
  have : c.toList = xs := h3
  rw [← this]
/-- A comparison of two structs whose cells are all known. -/
theorem loc_sbin {op : BinOp} {T T2 : TypeId} {x y : Nat} {d : Nat} {ty : TypeId} {pos : String} {af : Array Edge} {g : Option (Nat × Bool)} (xs ys : List Value) {r : Bool} (hd : d < n)
    (h : ∀ w : World, Sem.run P (do eqGuard op T (.tmp x) (.tmp y) (.agg xs.toArray) (.agg ys.toArray); binOp op T (.agg xs.toArray) (.agg ys.toArray) : Sem Value) w = .ok (.bool r) w) :
    Loc P n ⟨some d, .binOp op T (.tmp x) (.tmp y) T2, ty, pos, af, g⟩ ⟨[(x, RV.sv true (xs.map PV.val)), (y, RV.sv true (ys.map PV.val))], [], [(d, some (RV.bool r))], [], none⟩ := by
  intro h0 w0 Fz0 σ a w K Q h1 h2 _ _ h5
  obtain ⟨φ, Fz, Fp, hc⟩ := h1
  have ex : a.eval (.tmp x) = .agg xs.toArray := sv_vals (hc.slot x _ h2.1)
  have ey : a.eval (.tmp y) = .agg ys.toArray := sv_vals (hc.slot y _ h2.2.1)
  refine wp_val (v := .bool r) (w' := w) ?_ (h5 _ _ (hc.put0 hd (SvOwn.of_sc rfl)))
  unfold execOp
  simp only [ex, ey, Sem.run_bind, h, Result.andThen_ok, Sem.run_pure]
theorem bin_rem {T : TypeId} {x y : Operand} {i j : Int} {w : World} (h : j ≠ 0) : Sem.run P (do eqGuard .rem T x y (vI i) (vI j); binOp .rem T (vI i) (vI j) : Sem Value) w = .ok (vI (i.tmod j)) w := by
  simp [eqGuard, binOp, Op.intDiv, h]
theorem loc_rem {T T2 : TypeId} {x y : Operand} {d : Nat} {ty : TypeId} {pos : String} {af : Array Edge} {g : Option (Nat × Bool)} {i j : Int} (hd : d < n) (hx : OpOk x (RV.int i)) (hy : OpOk y (RV.int j)) (h : j ≠ 0) :
    Loc P n ⟨some d, .binOp .rem T x y T2, ty, pos, af, g⟩ ⟨opR x (RV.int i) ++ opR y (RV.int j), [], [(d, some (RV.int (i.tmod j)))], [], none⟩ := loc_bin hd hx hy rfl fun _ => bin_rem h
end
end Go.Proofs.Ytloipjaiceifbaa.M
