/- What functions of the program compute. No condition. -/
import Derived.Test.YtmekkgdboplbjaaGreatCO0
set_option linter.all false
namespace Go.Proofs.YtmekkgdboplbjaaGreat
open Go Go.RowKit M PV
set_option maxRecDepth 10000
attribute [local irreducible] PV.Lcl PV.LclR RV.Lcl
def ZA {a : List Int} {b : List Int}  : aB Tryz.prog 250 [(false, [sl .v (a.map ak)]), (false, [sl .v (b.map ak)])] (aA [(false, [sl aa ((oM a b).map ak)])]) := by
 refine sF Tryz.func250 fun h0 w0 Fz0 => ?_
 refine sj 0 fun hl0 => ?_
 refine sj 1 fun hl1 => ?_
 refine pu ?_
 refine sS [0, 1, 4] [] ?_
 refine ow ?_
 refine sS [0, 1, 4, 5] [] ?_
 refine cH ?_
 refine sP [0, 1, 4, 5, 6] [] ?_
 refine sL [0, 1, 4] [] (fun k : Nat => k ≤ a.length ∧ (0 < k → (dS a && dS b) = true)) (fun k : Nat => [(5, RV.slc aa (((a.take k).filter (fun x => ci b x)).map ak)), (6, RV.int (k : Int))]) (fun k : Nat => []) (fun k : Nat => a.length - k) 0 (by exact ⟨by omega, fun h => absurd h (Nat.lt_irrefl 0)⟩) (by exact aI (by first | exact rfl | simp) (aI (by exact rfl) tI)) (by exact tI) ?_
 rintro k ⟨hk, ha⟩
 refine jX ?_
 refine rM ?_
 refine cx 12 (fun ga sga => ?_) (fun ga sga => ?_)
 refine rB ga ?_ (x := vM false [sl .v _])
 refine rB ga ?_ (x := cL [(false, [sl _ _])] [(false, [sl .v _])] CF (hs := by exact Dk))
 refine gR ?_
 refine cx 16 (fun gb sgb => ?_) (fun gb sgb => ?_)
 refine rB gb ?_ (x := vM false [sl .v _])
 refine rB gb ?_ (x := cL [(false, [sl _ _])] [(false, [sl .v _])] CF (hs := by exact Dk))
 refine rA ?_ (x := aT gb)
 refine sc (fun hba => ?_) (fun hba => ?_)
 have hlt : k < a.length := by simp at *; omega
 have hok2 : (dS a && dS b) = true := by simp_all
 have h24 := Tg ((Bool.and_eq_true_iff).1 hok2).1
 have hln : ((a.take k).filter (fun x => ci b x)).length ≤ k := Nat.le_trans (ji _ _) (by rw [br]; omega)
 refine bB ?_
 refine sS [0, 1, 4, 5, 6] [] ?_
 refine rA ?_ (x := vM false [sl .v _])
 refine mM ?_
 refine oa ?_
 refine rA ?_ (x := cL [(false, [sl _ _]), (false, [val _])] [(false, [sl .v _]), (false, [val _])] xY (hs := by exact yr))
 refine sc (fun hbb => ?_) (fun hbb => ?_)
 have hc := hbb
 refine sG [0, 1, 4, 5, 6] [] ?_
 refine rA ?_ (x := tM)
 refine mM ?_
 refine oa ?_
 refine sm ?_
 exact GR
 have hc := hbb
 refine bm ?_
 exact GR
 exact zZ
 refine uA ?_
 refine fT ?_
 exact zZ
 refine hM ?_
 refine ar.cases (s := 16) rfl (fun g6 => nomatch g6) (fun g6 => ?_)
 refine qM ?_
 refine fT ?_
 exact zZ
end Go.Proofs.YtmekkgdboplbjaaGreat
