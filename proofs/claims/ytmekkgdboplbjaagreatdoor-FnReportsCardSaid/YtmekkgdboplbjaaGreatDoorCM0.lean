/- What functions of the program compute. No condition. -/
import Derived.Test.YtmekkgdboplbjaaGreatDoorCL0
set_option linter.all false
namespace Go.Proofs.YtmekkgdboplbjaaGreatDoor
open Go Go.RowKit M PV
set_option maxRecDepth 10000
attribute [local irreducible] PV.Lcl PV.LclR RV.Lcl
def Uq {a : List Int} {b : List Int}  : aN Tryz.prog 330 [(false, [sl .v (a.map an)]), (false, [sl .v (b.map an)])] (aF [(false, [sl ae ((nH a b).map an)])]) := by
 refine sF Tryz.func330 fun h0 w0 Fz0 => ?_
 refine sj 0 fun hl0 => ?_
 refine sj 1 fun hl1 => ?_
 refine pO ?_
 refine sS [0, 1, 4] [] ?_
 refine nE ?_
 refine wB ?_
 refine sL [0, 1, 4] [] (fun k : Nat => k ≤ a.length ∧ (0 < k → (du a && du b) = true)) (fun k : Nat => [(5, RV.slc ae (((a.take k).filter (fun x => bP b x)).map an)), (6, RV.int (k : Int))]) (fun k : Nat => []) (fun k : Nat => a.length - k) 0 (by exact ⟨by omega, fun h => absurd h (Nat.lt_irrefl 0)⟩) (by exact aI (by first | exact rfl | simp) (aI (by exact rfl) tI)) (by exact tI) ?_
 rintro k ⟨hk, ha⟩
 refine kw ?_
 refine rM ?_
 refine cx 12 (fun ga sga => ?_) (fun ga sga => ?_)
 refine rB ga ?_ (x := vM false [sl .v _])
 refine rB ga ?_ (x := cL [(false, [sl _ _])] [(false, [sl .v _])] AL (hs := by exact BH))
 refine nA ?_
 refine cx 16 (fun gb sgb => ?_) (fun gb sgb => ?_)
 refine rB gb ?_ (x := vM false [sl .v _])
 refine rB gb ?_ (x := cL [(false, [sl _ _])] [(false, [sl .v _])] AL (hs := by exact BH))
 refine rA ?_ (x := aK gb)
 refine sc (fun hba => ?_) (fun hba => ?_)
 have hlt : k < a.length := by simp at *; omega
 have hok2 : (du a && du b) = true := by simp_all
 have h24 := PU ((Bool.and_eq_true_iff).1 hok2).1
 have hln : ((a.take k).filter (fun x => bP b x)).length ≤ k := Nat.le_trans (il _ _) (by rw [bg]; omega)
 refine wq ?_
 refine rA ?_ (x := vM false [sl .v _])
 refine qb ?_
 refine rA ?_ (x := cL [(false, [sl _ _]), (false, [val _])] [(false, [sl .v _]), (false, [val _])] wL (hs := by exact xq))
 refine sc (fun hbb => ?_) (fun hbb => ?_)
 have hc := hbb
 refine sG [0, 1, 4, 5, 6] [] ?_
 refine rA ?_ (x := tM)
 refine qb ?_
 refine nB ?_
 exact EX
 have hc := hbb
 refine bc ?_
 exact EX
 exact yU
 refine oF ?_
 refine eJ ?_
 exact yU
 refine kx ?_
 refine az.cases (s := 16) rfl (fun g6 => nomatch g6) (fun g6 => ?_)
 refine zf g6 ?_
 refine rA ?_ (x := aH g6)
 refine eJ ?_
 exact yU
end Go.Proofs.YtmekkgdboplbjaaGreatDoor
