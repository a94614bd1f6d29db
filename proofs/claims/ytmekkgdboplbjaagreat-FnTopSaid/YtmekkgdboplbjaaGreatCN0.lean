/- What functions of the program compute. No condition. -/
import Derived.Test.YtmekkgdboplbjaaGreatCG0
set_option linter.all false
namespace Go.Proofs.YtmekkgdboplbjaaGreat
open Go Go.RowKit M PV
set_option maxRecDepth 10000
attribute [local irreducible] PV.Lcl PV.LclR RV.Lcl
def acC {l : List Int}  : aN Tryz.prog 202 [(false, [sl .v (l.map am)])] (aJ [(false, [val (.bool (dM l))])]) := by
 refine sF Tryz.func202 fun h0 w0 Fz0 => ?_
 refine sj 0 fun hl0 => ?_
 refine sZ ?_
 refine gS ?_
 refine eo ?_
 refine sP [0, 2, 5, 6, 7] [] ?_
 refine sL [0, 5, 6] [] (fun k : Nat => k ≤ l.length ∧ wo l k = true) (fun k : Nat => [(7, RV.int (k : Int))]) (fun k : Nat => []) (fun k : Nat => l.length - k) 0 (by exact ⟨by omega, rfl⟩) (by exact aI (by exact rfl) tI) (by exact tI) ?_
 rintro k ⟨hk, ha⟩
 refine cn ?_
 refine sc ?_ ?_ <;> intro hba
 have hlt : k < l.length := by omega
 have hgk : l.getD k 0 = l[k] := by simp [hlt]
 have hgp : 0 < k → l.getD (k - 1) 0 = l[k - 1] := fun h => by rw [List.getD_eq_getElem?_getD, List.getElem?_eq_getElem (by omega)]; rfl
 refine bi ?_
 refine sS [0, 5, 6, 7] [] ?_
 refine rM ?_
 refine mF ?_
 refine rS ?_
 refine sS [0, 3, 4, 5, 6, 7] [] ?_
 refine rM ?_
 refine rA ?_ (x := dq)
 refine rM ?_
 refine cx 14 (fun ga sga => ?_) (fun ga sga => ?_)
 refine jq ?_
 refine aq.cases (s := 18) rfl (fun g3 => ?_) (fun g3 => nomatch g3)
 refine nn ?_
 exact Jj
 refine rB ga ?_ (x := sM)
 refine rB ga ?_ (x := iy)
 refine mB ?_
 refine cx 18 (fun gb sgb => ?_) (fun gb sgb => ?_)
 refine vY ?_
 exact Jj
 refine Ed ?_
 refine rB gb ?_ (x := sM)
 refine cx 21 (fun gc sgc => ?_) (fun gc sgc => ?_)
 refine rB gc ?_ (x := vM false [sl .v _])
 refine rB gc ?_ (x := sM)
 refine rB gc ?_ (x := fI)
 refine rB gc ?_ (x := aU (k := k - 1) (by decide) bC (by exact tI) (by omega) (by exact aW (by omega) rfl) (by exact rfl))
 refine rB gc ?_ (x := lE [val _] az)
 refine rB gc ?_ (x := sM)
 refine rB gc ?_ (x := iy)
 refine rB gb ?_ (x := aO gc)
 refine rA ?_ (x := aF gb)
 refine sc ?_ ?_ <;> intro hbb
 refine sS [0, 3, 4, 5, 6, 7] [] ?_
 exact xS
 exact Jl
 refine zf gc ?_
 refine rB gb ?_ (x := aF gc)
 refine rA ?_ (x := aF gb)
 refine eX ?_
 exact Jl
 have hend : k = l.length := by omega
 refine bq ?_
 refine sS [0, 5, 6, 7] [] ?_
 exact Jm
def GM {l : List Int}  : aN Tryz.prog 167 [(false, [sl .v (l.map am)])] (aJ [(false, [val (.bool (dM l))])]) := by
 refine sF Tryz.func167 fun h0 w0 Fz0 => ?_
 refine sj 0 fun hl0 => ?_
 refine tE ?_
 refine sL [0] [] (fun k : Nat => k ≤ l.length ∧ wo l k = true) (fun k : Nat => [(3, RV.int (k : Int))]) (fun k : Nat => []) (fun k : Nat => l.length - k) 0 (by exact ⟨by omega, rfl⟩) (by exact aI (by exact rfl) tI) (by exact tI) ?_
 rintro k ⟨hk, ha⟩
 refine jR ?_
 refine sc ?_ ?_ <;> intro hba
 have hlt : k < l.length := by omega
 have hgk : l.getD k 0 = l[k] := by simp [hlt]
 have hgp : 0 < k → l.getD (k - 1) 0 = l[k - 1] := fun h => by rw [List.getD_eq_getElem?_getD, List.getElem?_eq_getElem (by omega)]; rfl
 refine dh ?_
 refine sP [0, 3] [] ?_
 refine ox ?_
 refine Oq ?_
 refine dA 63 ?_ (x := sM)
 refine dx 16 (fun ga sga => ?_) (fun ga sga => ?_)
 refine dT 127 ga ?_
 refine dT 255 ga ?_
 refine dT 511 ga ?_
 refine tv ?_
 refine wk ?_
 refine tv ?_
 refine dU 33791 ?_
 refine dU 115711 ?_
 refine dU 246783 ?_
 refine dU 524287 ?_
 refine dT 1048575 ga ?_
 refine dA 2097151 ?_ (x := aO ga)
 refine cv ?_
 refine sS [0, 3] [] ?_
 exact xS
 refine DU ?_
 refine dB 511 ga ?_ (x := sM)
 refine dx 19 (fun gb sgb => ?_) (fun gb sgb => ?_)
 refine sN ?_
 refine dB 4095 gb ?_ (x := aU (by decide) bC (by exact tI) (by exact rfl) (by exact aW (by omega) rfl) (by exact rfl))
 refine dB 8191 gb ?_ (x := lE [val _] az)
 refine sN ?_
 refine dB 33791 gb ?_ (x := fI)
 refine dB 115711 gb ?_ (x := aU (k := k - 1) (by decide) bC (by exact tI) (by omega) (by exact aW (by omega) rfl) (by exact rfl))
 refine dB 246783 gb ?_ (x := lE [val _] az)
 refine dB 524287 gb ?_ (x := ix)
 refine dB 1048575 ga ?_ (x := aO gb)
 refine dA 2097151 ?_ (x := aF ga)
 refine sc ?_ ?_ <;> intro hbb
 refine sS [0, 3] [] ?_
 exact xS
 exact Jn
 refine tf ?_
 refine dF 4095 gb ?_
 refine dF 8191 gb ?_
 refine tf ?_
 refine dF 33791 gb ?_
 refine dF 115711 gb ?_
 refine dF 246783 gb ?_
 refine dF 524287 gb ?_
 refine dB 1048575 ga ?_ (x := aF gb)
 refine dA 2097151 ?_ (x := aF ga)
 refine eX ?_
 exact Jn
 have hend : k = l.length := by omega
 refine qQ ?_
 exact Jm
end Go.Proofs.YtmekkgdboplbjaaGreat
