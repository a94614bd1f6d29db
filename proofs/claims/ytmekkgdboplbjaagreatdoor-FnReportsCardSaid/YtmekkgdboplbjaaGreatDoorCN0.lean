/- What functions of the program compute. No condition. -/
import Derived.Test.YtmekkgdboplbjaaGreatDoorCI0
set_option linter.all false
namespace Go.Proofs.YtmekkgdboplbjaaGreatDoor
open Go Go.RowKit M PV
set_option maxRecDepth 10000
attribute [local irreducible] PV.Lcl PV.LclR RV.Lcl
def Ur {x : List Int} {y : List Int}  : aN Tryz.prog 125 [(false, [sl .v (x.map an)]), (false, [sl .v (y.map an)])] (aF [(false, [val (.bool (oN x y))])]) := by
 refine sF Tryz.func125 fun h0 w0 Fz0 => ?_
 refine sj 0 fun hl0 => ?_
 refine sj 1 fun hl1 => ?_
 refine wF ?_
 refine jH ?_
 refine jH ?_
 refine rA ?_ (x := gJ)
 refine sc (fun hba => ?_) (fun hba => ?_)
 refine sS [0, 1, 4] [] ?_
 refine cC ?_
 exact rb (by exact (JH (fun e => by subst e; simp at *)).symm)
 have hl : x.length = y.length := by omega
 refine eA ?_
 refine sS [0, 1, 4] [] ?_
 refine wx ?_
 refine sL [0, 1] [] (fun k : Nat => k ≤ x.length ∧ x.take k = y.take k) (fun k : Nat => [(5, RV.int (k : Int))]) (fun k : Nat => []) (fun k : Nat => x.length - k) 0 (by exact ⟨by omega, by simp⟩) (by exact aI (by exact rfl) tI) (by exact tI) ?_
 rintro k ⟨hk, ha⟩
 refine kw ?_
 refine sc (fun hbb => ?_) (fun hbb => ?_)
 have hlt : k < x.length := by omega
 have hlt2 : k < y.length := by omega
 refine er ?_
 refine sP [0, 1, 5] [] ?_
 refine nC ?_
 refine vR ?_
 refine gy ?_
 refine dA 48 ?_ (x := aU (by decide) aW (by exact tI) (by exact rfl) (by exact aV (by omega) rfl) (by exact rfl))
 refine dA 112 ?_ (x := lE [val _] aw)
 refine dA 255 ?_ (x := gJ)
 refine sc (fun hbc => ?_) (fun hbc => ?_)
 refine sS [0, 1, 5] [] ?_
 refine cC ?_
 exact rb (by exact (JH (PI hlt hlt2 (by intro e; simp [e, ru] at *))).symm)
 refine wy ?_
 refine ca ?_
 refine nx (k + 1) (by exact ⟨by omega, PH ha hlt hlt2 (by simp_all)⟩)
 refine wz ?_
 refine cC ?_
 exact rb (by exact (AB (PJ hl (by rw [show x.length = k by omega]; exact ha))).symm)
end Go.Proofs.YtmekkgdboplbjaaGreatDoor
