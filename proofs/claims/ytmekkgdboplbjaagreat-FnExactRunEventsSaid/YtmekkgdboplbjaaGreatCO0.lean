/- What functions of the program compute. No condition. -/
import Derived.Test.YtmekkgdboplbjaaGreatCL0
set_option linter.all false
namespace Go.Proofs.YtmekkgdboplbjaaGreat
open Go Go.RowKit M PV
set_option maxRecDepth 10000
attribute [local irreducible] PV.Lcl PV.LclR RV.Lcl
def Zz {l : List Int}  : aB Tryz.prog 202 [(false, [sl .v (l.map ak)])] (aA [(false, [val (.bool (dS l))])]) := by
 refine sF Tryz.func202 fun h0 w0 Fz0 => ?_
 refine sj 0 fun hl0 => ?_
 refine qR ?_
 refine lP ?_
 refine dZ ?_
 refine sP [0, 2, 5, 6, 7] [] ?_
 refine sL [0, 5, 6] [] (fun k : Nat => k ≤ l.length ∧ uN l k = true) (fun k : Nat => [(7, RV.int (k : Int))]) (fun k : Nat => []) (fun k : Nat => l.length - k) 0 (by exact ⟨by omega, rfl⟩) (by exact aI (by exact rfl) tI) (by exact tI) ?_
 rintro k ⟨hk, ha⟩
 refine cF ?_
 refine sc (fun hba => ?_) (fun hba => ?_)
 have hlt : k < l.length := by omega
 have hgk : l.getD k 0 = l[k] := by simp [hlt]
 have hgp : 0 < k → l.getD (k - 1) 0 = l[k - 1] := fun h => by rw [List.getD_eq_getElem?_getD, List.getElem?_eq_getElem (by omega)]; rfl
 refine bB ?_
 refine sS [0, 5, 6, 7] [] ?_
 refine rM ?_
 refine oJ ?_
 refine rS ?_
 refine sS [0, 3, 4, 5, 6, 7] [] ?_
 refine iU ?_
 refine rM ?_
 refine cx 14 (fun ga sga => ?_) (fun ga sga => ?_)
 refine kG ?_
 refine ar.cases (s := 18) rfl (fun g3 => ?_) (fun g3 => nomatch g3)
 refine pD ?_
 exact GM
 refine rB ga ?_ (x := sM)
 refine rB ga ?_ (x := iD)
 refine ou ?_
 refine cx 18 (fun gb sgb => ?_) (fun gb sgb => ?_)
 refine xI ?_
 exact GM
 refine Cf ?_
 refine rB gb ?_ (x := sM)
 refine cx 21 (fun gc sgc => ?_) (fun gc sgc => ?_)
 refine rB gc ?_ (x := vM false [sl .v _])
 refine rB gc ?_ (x := sM)
 refine rB gc ?_ (x := ip)
 refine rB gc ?_ (x := aY (k := k - 1) (by decide) bF (by exact tI) (by omega) (by exact bc (by omega) rfl) (by exact rfl))
 refine rB gc ?_ (x := lE [val _] au)
 refine rB gc ?_ (x := sM)
 refine rB gc ?_ (x := iD)
 refine rB gb ?_ (x := aT gc)
 refine rA ?_ (x := aK gb)
 refine sc (fun hbb => ?_) (fun hbb => ?_)
 refine sS [0, 3, 4, 5, 6, 7] [] ?_
 exact wa
 exact GO
 refine zf gc ?_
 refine rB gb ?_ (x := aK gc)
 refine rA ?_ (x := aK gb)
 refine fT ?_
 exact GO
 have hend : k = l.length := by omega
 refine bG ?_
 refine sS [0, 5, 6, 7] [] ?_
 exact GP
def Dk {l : List Int}  : aB Tryz.prog 167 [(false, [sl .v (l.map ak)])] (aA [(false, [val (.bool (dS l))])]) := by
 refine sF Tryz.func167 fun h0 w0 Fz0 => ?_
 refine sj 0 fun hl0 => ?_
 refine qR ?_
 refine sz ?_
 refine sL [0] [] (fun k : Nat => k ≤ l.length ∧ uN l k = true) (fun k : Nat => [(3, RV.int (k : Int))]) (fun k : Nat => []) (fun k : Nat => l.length - k) 0 (by exact ⟨by omega, rfl⟩) (by exact aI (by exact rfl) tI) (by exact tI) ?_
 rintro k ⟨hk, ha⟩
 refine jX ?_
 refine sc (fun hba => ?_) (fun hba => ?_)
 have hlt : k < l.length := by omega
 have hgk : l.getD k 0 = l[k] := by simp [hlt]
 have hgp : 0 < k → l.getD (k - 1) 0 = l[k - 1] := fun h => by rw [List.getD_eq_getElem?_getD, List.getElem?_eq_getElem (by omega)]; rfl
 refine cO ?_
 refine sP [0, 3] [] ?_
 refine pA ?_
 refine sb ?_
 refine KH ?_
 refine dA 63 ?_ (x := sM)
 refine dx 16 (fun ga sga => ?_) (fun ga sga => ?_)
 refine dT 127 ga ?_
 refine dT 255 ga ?_
 refine dT 511 ga ?_
 refine dU 1023 ?_
 refine dU 1023 ?_
 refine dU 4095 ?_
 refine dU 8191 ?_
 refine dU 1023 ?_
 refine dU 1023 ?_
 refine dU 33791 ?_
 refine dU 115711 ?_
 refine dU 246783 ?_
 refine dU 524287 ?_
 refine dT 1048575 ga ?_
 refine dA 2097151 ?_ (x := aT ga)
 refine dr ?_
 refine sS [0, 3] [] ?_
 exact wa
 refine dB 127 ga ?_ (x := sM)
 refine dB 255 ga ?_ (x := eN)
 refine dB 511 ga ?_ (x := sM)
 refine dx 19 (fun gb sgb => ?_) (fun gb sgb => ?_)
 refine xg ?_
 refine dB 4095 gb ?_ (x := aY (by decide) bF (by exact tI) (by exact rfl) (by exact bc (by omega) rfl) (by exact rfl))
 refine dB 8191 gb ?_ (x := lE [val _] au)
 refine xg ?_
 refine dB 33791 gb ?_ (x := ip)
 refine dB 115711 gb ?_ (x := aY (k := k - 1) (by decide) bF (by exact tI) (by omega) (by exact bc (by omega) rfl) (by exact rfl))
 refine dB 246783 gb ?_ (x := lE [val _] au)
 refine dB 524287 gb ?_ (x := iR)
 refine dB 1048575 ga ?_ (x := aT gb)
 refine dA 2097151 ?_ (x := aK ga)
 refine sc (fun hbb => ?_) (fun hbb => ?_)
 refine sS [0, 3] [] ?_
 exact wa
 exact GQ
 refine xM ?_
 refine dF 4095 gb ?_
 refine dF 8191 gb ?_
 refine xM ?_
 refine dF 33791 gb ?_
 refine dF 115711 gb ?_
 refine dF 246783 gb ?_
 refine dF 524287 gb ?_
 refine dB 1048575 ga ?_ (x := aK gb)
 refine dA 2097151 ?_ (x := aK ga)
 refine fT ?_
 exact GQ
 have hend : k = l.length := by omega
 refine sC ?_
 exact GP
end Go.Proofs.YtmekkgdboplbjaaGreat
