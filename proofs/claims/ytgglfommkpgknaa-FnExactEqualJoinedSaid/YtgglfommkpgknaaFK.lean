/- Rules for the equality of bools. No condition. -/
import Derived.Test.YtgglfommkpgknaaFI
namespace Go.Proofs.Ytgglfommkpgknaa.M
open Go Go.RowKit
section
variable {P : Program} {n : Nat}
variable {T T2 : TypeId} {x y : Operand} {d : Nat} {ty : TypeId} {pos : String} {af : Array Edge} {g : Option (Nat × Bool)} {i j : Bool} (hd : d < n) (hT : P.underlying T = some .bool) (hx : OpOk x (RV.bool i)) (hy : OpOk y (RV.bool j))
include hd hT hx hy
theorem loc_beql : Loc P n ⟨some d, .binOp .eql T x y T2, ty, pos, af, g⟩ ⟨opR x (RV.bool i) ++ opR y (RV.bool j), [], [(d, some (RV.bool (i == j)))], [], none⟩ :=
  loc_bin hd hx hy rfl fun w => by simp [eqGuard, run_eql_bool w T i j hT]
theorem loc_bneq : Loc P n ⟨some d, .binOp .neq T x y T2, ty, pos, af, g⟩ ⟨opR x (RV.bool i) ++ opR y (RV.bool j), [], [(d, some (RV.bool (!(i == j))))], [], none⟩ :=
  loc_bin hd hx hy rfl fun w => by simp [eqGuard, run_neq_bool w T i j hT]
end
end Go.Proofs.Ytgglfommkpgknaa.M
