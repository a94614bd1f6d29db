/- What functions of the program compute. No condition. -/
import Derived.Test.YtmekkgdboplbjaaGreatDoorCI0
set_option linter.all false
namespace Go.Proofs.YtmekkgdboplbjaaGreatDoor
open Go Go.RowKit M PV
set_option maxRecDepth 10000
attribute [local irreducible] PV.Lcl PV.LclR RV.Lcl
def Up {l : List Int}  : aN Tryz.prog 228 [(false, [sl .v (l.map an)])] (aF [(false, [val (.bool (du l))])]) := by
 refine sF Tryz.func228 fun h0 w0 Fz0 => ?_
 refine sj 0 fun hl0 => ?_
 refine lM ?_
 refine sS [0, 2] [] ?_
 refine jH ?_
 refine eK ?_
 refine sP [0, 2, 5, 6, 7] [] ?_
 refine sL [0, 5, 6] [] (fun k : Nat => k ≤ l.length ∧ tO l k = true) (fun k : Nat => [(7, RV.int (k : Int))]) (fun k : Nat => []) (fun k : Nat => l.length - k) 0 (by exact ⟨by omega, rfl⟩) (by exact aI (by exact rfl) tI) (by exact tI) ?_
 rintro k ⟨hk, ha⟩
 refine eL ?_
 refine sc (fun hba => ?_) (fun hba => ?_)
 have hlt : k < l.length := by omega
 have hgk : l.getD k 0 = l[k] := by simp [hlt]
 have hgp : 0 < k → l.getD (k - 1) 0 = l[k - 1] := fun h => by rw [List.getD_eq_getElem?_getD, List.getElem?_eq_getElem (by omega)]; rfl
 refine bw ?_
 refine sS [0, 5, 6, 7] [] ?_
 refine rM ?_
 refine nF ?_
 refine rS ?_
 refine sS [0, 3, 4, 5, 6, 7] [] ?_
 refine oJ ?_
 refine rM ?_
 refine cx 14 (fun ga sga => ?_) (fun ga sga => ?_)
 refine lO ?_
 refine az.cases (s := 18) rfl (fun g3 => ?_) (fun g3 => nomatch g3)
 refine pX ?_
 exact ES
 refine rB ga ?_ (x := sM)
 refine rB ga ?_ (x := jD)
 refine lf ?_
 refine cx 18 (fun gb sgb => ?_) (fun gb sgb => ?_)
 refine tC ?_
 exact ES
 refine Ax ?_
 refine rB gb ?_ (x := sM)
 refine cx 21 (fun gc sgc => ?_) (fun gc sgc => ?_)
 refine rB gc ?_ (x := vM false [sl .v _])
 refine rB gc ?_ (x := sM)
 refine rB gc ?_ (x := gw)
 refine rB gc ?_ (x := aU (k := k - 1) (by decide) aW (by exact tI) (by omega) (by exact aV (by omega) rfl) (by exact rfl))
 refine rB gc ?_ (x := lE [val _] aw)
 refine rB gc ?_ (x := sM)
 refine rB gc ?_ (x := jD)
 refine rB gb ?_ (x := aK gc)
 refine rA ?_ (x := aH gb)
 refine sc (fun hbb => ?_) (fun hbb => ?_)
 refine sS [0, 3, 4, 5, 6, 7] [] ?_
 exact vk
 exact EU
 refine zf gc ?_
 refine rB gb ?_ (x := aH gc)
 refine rA ?_ (x := aH gb)
 refine eJ ?_
 exact EU
 have hend : k = l.length := by omega
 refine bE ?_
 refine sS [0, 5, 6, 7] [] ?_
 exact EV
def BH {l : List Int}  : aN Tryz.prog 232 [(false, [sl .v (l.map an)])] (aF [(false, [val (.bool (du l))])]) := by
 refine sF Tryz.func232 fun h0 w0 Fz0 => ?_
 refine sj 0 fun hl0 => ?_
 refine rr ?_
 refine sL [0] [] (fun k : Nat => k ≤ l.length ∧ tO l k = true) (fun k : Nat => [(3, RV.int (k : Int))]) (fun k : Nat => []) (fun k : Nat => l.length - k) 0 (by exact ⟨by omega, rfl⟩) (by exact aI (by exact rfl) tI) (by exact tI) ?_
 rintro k ⟨hk, ha⟩
 refine kw ?_
 refine sc (fun hba => ?_) (fun hba => ?_)
 have hlt : k < l.length := by omega
 have hgk : l.getD k 0 = l[k] := by simp [hlt]
 have hgp : 0 < k → l.getD (k - 1) 0 = l[k - 1] := fun h => by rw [List.getD_eq_getElem?_getD, List.getElem?_eq_getElem (by omega)]; rfl
 refine er ?_
 refine sP [0, 3] [] ?_
 refine nC ?_
 refine vR ?_
 refine IE ?_
 refine dA 63 ?_ (x := sM)
 refine dx 16 (fun ga sga => ?_) (fun ga sga => ?_)
 refine dT 127 ga ?_
 refine dT 255 ga ?_
 refine dT 511 ga ?_
 refine ro ?_
 refine tL ?_
 refine ro ?_
 refine dU 33791 ?_
 refine dU 115711 ?_
 refine dU 246783 ?_
 refine dU 524287 ?_
 refine dT 1048575 ga ?_
 refine dA 2097151 ?_ (x := aK ga)
 refine cO ?_
 refine sS [0, 3] [] ?_
 exact vk
 refine Ak ?_
 refine dB 511 ga ?_ (x := sM)
 refine dx 19 (fun gb sgb => ?_) (fun gb sgb => ?_)
 refine qZ ?_
 refine dB 4095 gb ?_ (x := aU (by decide) aW (by exact tI) (by exact rfl) (by exact aV (by omega) rfl) (by exact rfl))
 refine dB 8191 gb ?_ (x := lE [val _] aw)
 refine qZ ?_
 refine dB 33791 gb ?_ (x := gw)
 refine dB 115711 gb ?_ (x := aU (k := k - 1) (by decide) aW (by exact tI) (by omega) (by exact aV (by omega) rfl) (by exact rfl))
 refine dB 246783 gb ?_ (x := lE [val _] aw)
 refine dB 524287 gb ?_ (x := ir)
 refine dB 1048575 ga ?_ (x := aK gb)
 refine dA 2097151 ?_ (x := aH ga)
 refine sc (fun hbb => ?_) (fun hbb => ?_)
 refine sS [0, 3] [] ?_
 exact vk
 exact EW
 refine rf ?_
 refine dF 4095 gb ?_
 refine dF 8191 gb ?_
 refine rf ?_
 refine dF 33791 gb ?_
 refine dF 115711 gb ?_
 refine dF 246783 gb ?_
 refine dF 524287 gb ?_
 refine dB 1048575 ga ?_ (x := aH gb)
 refine dA 2097151 ?_ (x := aH ga)
 refine eJ ?_
 exact EW
 have hend : k = l.length := by omega
 refine tu ?_
 exact EV
end Go.Proofs.YtmekkgdboplbjaaGreatDoor
