/- What functions of the program compute. No condition. -/
import Derived.Test.YtmekkgdboplbjaaGreatCG0
set_option linter.unusedVariables false
set_option linter.unusedSimpArgs false
namespace Go.Proofs.YtmekkgdboplbjaaGreat
open Go Go.RowKit M PV
set_option maxRecDepth 10000
attribute [local irreducible] PV.Lcl PV.LclR RV.Lcl
theorem Km {l : List Int}  : aw Tryz.prog 202 [(false, [sl .v (l.map ai)])] (av [(false, [val (.bool (cF l))])]) := by
 refine sF Tryz.func202 fun h0 w0 Fz0 => ?_
 refine sj 0 fun hl0 => ?_
 refine oN ?_
 refine oZ ?_
 refine sP [0, 2, 5, 6, 7] [] ?_
 refine sL [0, 5, 6] [] (fun k : Nat => k ≤ l.length ∧ ru l k = true) (fun k : Nat => [(7, RV.int (k : Int))]) (fun k : Nat => []) (fun k : Nat => l.length - k) 0 (by exact ⟨by omega, rfl⟩) (by exact aI (by exact rfl) (tI)) (by exact ⟨⟩) ?_
 rintro k ⟨hk, ha⟩
 refine bG ?_
 refine sc (fun hba => ?_) (fun hba => ?_)
 have hlt : k < l.length := by omega
 have hgk : l.getD k 0 = l[k] := by simp [hlt]
 have hgp : 0 < k → l.getD (k - 1) 0 = l[k - 1] := fun h => by rw [List.getD_eq_getElem?_getD, List.getElem?_eq_getElem (by omega)]; rfl
 refine aT ?_
 refine sS [0, 5, 6, 7] [] ?_
 refine rM ?_
 refine kt ?_
 refine rS ?_
 refine sS [0, 3, 4, 5, 6, 7] [] ?_
 refine rM ?_
 refine ll ?_
 refine cx 14 (fun ga sga => ?_) (fun ga sga => ?_)
 refine ij ?_
 refine an.cases (s := 18) rfl (fun g3 => ?_) (fun g3 => nomatch g3)
 refine lj ?_
 exact Cr
 refine rB ga ?_ (x := sM)
 refine rB ga ?_ (x := gH)
 refine gJ ?_
 refine cx 18 (fun gb sgb => ?_) (fun gb sgb => ?_)
 refine oQ ?_
 exact Cr
 refine yw ?_
 refine rB gb ?_ (x := sM)
 refine cx 21 (fun gc sgc => ?_) (fun gc sgc => ?_)
 refine rB gc ?_ (x := vM false [sl .v _])
 refine rB gc ?_ (x := sM)
 refine rB gc ?_ (x := er)
 refine rB gc ?_ (x := aD (k := k - 1) (by decide) a3 (by exact ⟨⟩) (by omega) (by exact aE (by omega) rfl) (by exact rfl))
 refine rB gc ?_ (x := lE [val _] aq)
 refine rB gc ?_ (x := sM)
 refine rB gc ?_ (x := gH)
 refine rB gb ?_ (x := aA gc)
 refine rA ?_ (x := ay gb)
 refine sc (fun hbb => ?_) (fun hbb => ?_)
 refine sS [0, 3, 4, 5, 6, 7] [] ?_
 exact s9
 exact Ct
 refine zf gc ?_
 refine rB gb ?_ (x := ay gc)
 refine rA ?_ (x := ay gb)
 refine dk ?_
 exact Ct
 have hend : k = l.length := by omega
 refine aX ?_
 refine sS [0, 5, 6, 7] [] ?_
 exact Cu
theorem zv {l : List Int}  : aw Tryz.prog 167 [(false, [sl .v (l.map ai)])] (av [(false, [val (.bool (cF l))])]) := by
 refine sF Tryz.func167 fun h0 w0 Fz0 => ?_
 refine sj 0 fun hl0 => ?_
 refine o6 ?_
 refine sL [0] [] (fun k : Nat => k ≤ l.length ∧ ru l k = true) (fun k : Nat => [(3, RV.int (k : Int))]) (fun k : Nat => []) (fun k : Nat => l.length - k) 0 (by exact ⟨by omega, rfl⟩) (by exact aI (by exact rfl) (tI)) (by exact ⟨⟩) ?_
 rintro k ⟨hk, ha⟩
 refine iK ?_
 refine sc (fun hba => ?_) (fun hba => ?_)
 have hlt : k < l.length := by omega
 have hgk : l.getD k 0 = l[k] := by simp [hlt]
 have hgp : 0 < k → l.getD (k - 1) 0 = l[k - 1] := fun h => by rw [List.getD_eq_getElem?_getD, List.getElem?_eq_getElem (by omega)]; rfl
 refine cE ?_
 refine sP [0, 3] [] ?_
 refine o9 ?_
 refine G0 ?_
 refine dA 63 ?_ (x := sM)
 refine dx 16 (fun ga sga => ?_) (fun ga sga => ?_)
 refine dT 127 ga ?_
 refine dT 255 ga ?_
 refine dT 511 ga ?_
 refine oW ?_
 refine rq ?_
 refine oW ?_
 refine dU 33791 ?_
 refine dU 115711 ?_
 refine dU 246783 ?_
 refine dU 524287 ?_
 refine dT 1048575 ga ?_
 refine dA 2097151 ?_ (x := aA ga)
 refine bC ?_
 refine sS [0, 3] [] ?_
 exact s9
 refine ym ?_
 refine dB 511 ga ?_ (x := sM)
 refine dx 19 (fun gb sgb => ?_) (fun gb sgb => ?_)
 refine oK ?_
 refine dB 4095 gb ?_ (x := aD (by decide) a3 (by exact ⟨⟩) (by exact rfl) (by exact aE (by omega) rfl) (by exact rfl))
 refine dB 8191 gb ?_ (x := lE [val _] aq)
 refine oK ?_
 refine dB 33791 gb ?_ (x := er)
 refine dB 115711 gb ?_ (x := aD (k := k - 1) (by decide) a3 (by exact ⟨⟩) (by omega) (by exact aE (by omega) rfl) (by exact rfl))
 refine dB 246783 gb ?_ (x := lE [val _] aq)
 refine dB 524287 gb ?_ (x := eR)
 refine dB 1048575 ga ?_ (x := aA gb)
 refine dA 2097151 ?_ (x := ay ga)
 refine sc (fun hbb => ?_) (fun hbb => ?_)
 refine sS [0, 3] [] ?_
 exact s9
 exact Cv
 refine oT ?_
 refine dF 4095 gb ?_
 refine dF 8191 gb ?_
 refine oT ?_
 refine dF 33791 gb ?_
 refine dF 115711 gb ?_
 refine dF 246783 gb ?_
 refine dF 524287 gb ?_
 refine dB 1048575 ga ?_ (x := ay gb)
 refine dA 2097151 ?_ (x := ay ga)
 refine dk ?_
 exact Cv
 have hend : k = l.length := by omega
 refine ng ?_
 exact Cu
end Go.Proofs.YtmekkgdboplbjaaGreat
