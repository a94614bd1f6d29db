/- What functions of the program compute. No condition. -/
import Derived.Test.YtmekkgdboplbjaaGreatCN0
set_option linter.all false
namespace Go.Proofs.YtmekkgdboplbjaaGreat
open Go Go.RowKit M PV
set_option maxRecDepth 10000
attribute [local irreducible] PV.Lcl PV.LclR RV.Lcl
def acD {a : List Int} {b : List Int}  : aN Tryz.prog 250 [(false, [sl .v (a.map am)]), (false, [sl .v (b.map am)])] (aJ [(false, [sl ab ((oB a b).map am)])]) := by
 refine sF Tryz.func250 fun h0 w0 Fz0 => ?_
 refine sj 0 fun hl0 => ?_
 refine sj 1 fun hl1 => ?_
 refine qC ?_
 refine sS [0, 1, 4] [] ?_
 refine np ?_
 refine vX ?_
 refine sL [0, 1, 4] [] (fun k : Nat => k ≤ a.length ∧ (0 < k → (dM a && dM b) = true)) (fun k : Nat => [(5, RV.slc ab (((a.take k).filter (fun x => bB b x)).map am)), (6, RV.int (k : Int))]) (fun k : Nat => []) (fun k : Nat => a.length - k) 0 (by exact ⟨by omega, fun h => absurd h (Nat.lt_irrefl 0)⟩) (by exact aI (by first | exact rfl | simp) (aI (by exact rfl) tI)) (by exact tI) ?_
 rintro k ⟨hk, ha⟩
 refine jR ?_
 refine rM ?_
 refine cx 12 (fun ga sga => ?_) (fun ga sga => ?_)
 refine rB ga ?_ (x := vM false [sl .v _])
 refine rB ga ?_ (x := cL [(false, [sl _ _])] [(false, [sl .v _])] Eu (hs := by exact GM))
 refine jP ?_
 refine cx 16 (fun gb sgb => ?_) (fun gb sgb => ?_)
 refine rB gb ?_ (x := vM false [sl .v _])
 refine rB gb ?_ (x := cL [(false, [sl _ _])] [(false, [sl .v _])] Eu (hs := by exact GM))
 refine rA ?_ (x := aO gb)
 refine sc ?_ ?_ <;> intro hba
 have hlt : k < a.length := by simp at *; omega
 have hok2 : (dM a && dM b) = true := by simp_all
 have h24 := Wj ((Bool.and_eq_true_iff).1 hok2).1
 have hln : ((a.take k).filter (fun x => bB b x)).length ≤ k := Nat.le_trans (gP _ _) (by rw [bv]; omega)
 refine vO ?_
 refine rA ?_ (x := vM false [sl .v _])
 refine jp ?_
 refine pk ?_
 refine rA ?_ (x := cL [(false, [sl _ _]), (false, [val _])] [(false, [sl .v _]), (false, [val _])] zF (hs := by exact Ak))
 refine sc ?_ ?_ <;> intro hbb
 have hc := hbb
 refine sG [0, 1, 4, 5, 6] [] ?_
 refine qS ?_
 refine pk ?_
 refine ll ?_
 exact Jo
 have hc := hbb
 refine bb ?_
 exact Jo
 exact Ca
 refine pz ?_
 refine eX ?_
 exact Ca
 refine gu ?_
 refine aq.cases (s := 16) rfl (fun g6 => nomatch g6) (fun g6 => ?_)
 refine py ?_
 refine eX ?_
 exact Ca
end Go.Proofs.YtmekkgdboplbjaaGreat
