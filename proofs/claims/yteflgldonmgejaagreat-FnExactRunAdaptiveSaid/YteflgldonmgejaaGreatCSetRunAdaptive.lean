/- What functions of the program compute. No condition. -/
import Derived.Test.YteflgldonmgejaaGreatCZMRunAdaptive
import Derived.Test.YteflgldonmgejaaGreatCFcRunAdaptive
import Derived.Test.YteflgldonmgejaaGreatCProgRunAdaptive
import Derived.KernelRfl
set_option linter.unusedVariables false
set_option linter.unusedSimpArgs false
namespace Go.Proofs.YteflgldonmgejaaGreat
open Go Go.RowKit M PV
set_option maxRecDepth 10000
attribute [local irreducible] PV.Lcl PV.LclR RV.Lcl
theorem impl_IsSet {l : List Int}  : SCall Tryz.prog 193 [(false, [sl .v (l.map cInt)])] (resRV [(false, [val (.bool (okSet l))])]) := by
 refine sF Tryz.func193 fun h0 w0 Fz0 => ?_
 refine sj 0 fun hl0 => ?_
 refine zgd ?_
 refine zb0 ?_
 refine zfl ?_
 refine sP [0, 2, 5, 6, 7] [] ?_
 refine sL [0, 5, 6] [] (fun k : Nat => k ≤ l.length ∧ okSetTo l k = true) (fun k : Nat => [(7, RV.int (k : Int))]) (fun k : Nat => []) (fun k : Nat => l.length - k) 0 (by exact ⟨by omega, rfl⟩) (by exact aI (by exact rfl) (tI)) (by exact ⟨⟩) ?_
 rintro k ⟨hk, ha⟩
 refine zfm ?_
 refine sc (fun hba => ?_) (fun hba => ?_)
 have hlt : k < l.length := by omega
 have hgk : l.getD k 0 = l[k] := by simp [hlt]
 have hgp : 0 < k → l.getD (k - 1) 0 = l[k - 1] := fun h => by rw [List.getD_eq_getElem?_getD, List.getElem?_eq_getElem (by omega)]; rfl
 refine zed ?_
 refine sS [0, 5, 6, 7] [] ?_
 refine rM ?_
 refine zfn ?_
 refine rS ?_
 refine sS [0, 3, 4, 5, 6, 7] [] ?_
 refine zi8 ?_
 refine rM ?_
 refine cx 14 (fun ga sga => ?_) (fun ga sga => ?_)
 refine zhb ?_
 refine RunS.cases (s := 18) rfl (fun g3 => ?_) (fun g3 => nomatch g3)
 refine ziu ?_
 exact ziv
 refine rB ga ?_ (x := sM)
 refine rB ga ?_ (x := B_geq)
 refine zhf ?_
 refine cx 18 (fun gb sgb => ?_) (fun gb sgb => ?_)
 refine zhg ?_
 exact ziv
 refine ziw ?_
 refine rB gb ?_ (x := sM)
 refine cx 21 (fun gc sgc => ?_) (fun gc sgc => ?_)
 refine rB gc ?_ (x := vM false [sl .v _])
 refine rB gc ?_ (x := sM)
 refine rB gc ?_ (x := B_sub)
 refine rB gc ?_ (x := loc_index (k := k - 1) (by decide) sl_25 (by exact ⟨⟩) (by omega) (by exact getm2 (by omega) rfl) (by exact rfl))
 refine rB gc ?_ (x := lE [val _] ty_3)
 refine rB gc ?_ (x := sM)
 refine rB gc ?_ (x := B_geq)
 refine rB gb ?_ (x := pkT gc)
 refine rA ?_ (x := pkF gb)
 refine sc (fun hbb => ?_) (fun hbb => ?_)
 refine sS [0, 3, 4, 5, 6, 7] [] ?_
 exact zix
 exact ziy
 refine zf gc ?_
 refine rB gb ?_ (x := pkF gc)
 refine rA ?_ (x := pkF gb)
 refine scF ?_
 exact ziy
 have hend : k = l.length := by omega
 refine sw_exit ?_
 refine sS [0, 5, 6, 7] [] ?_
 exact ziz
theorem spec_IsSet {l : List Int}  : SCall Tryz.prog 177 [(false, [sl .v (l.map cInt)])] (resRV [(false, [val (.bool (okSet l))])]) := by
 refine sF Tryz.func177 fun h0 w0 Fz0 => ?_
 refine sj 0 fun hl0 => ?_
 refine zgd ?_
 refine zge ?_
 refine sL [0] [] (fun k : Nat => k ≤ l.length ∧ okSetTo l k = true) (fun k : Nat => [(3, RV.int (k : Int))]) (fun k : Nat => []) (fun k : Nat => l.length - k) 0 (by exact ⟨by omega, rfl⟩) (by exact aI (by exact rfl) (tI)) (by exact ⟨⟩) ?_
 rintro k ⟨hk, ha⟩
 refine zb2 ?_
 refine sc (fun hba => ?_) (fun hba => ?_)
 have hlt : k < l.length := by omega
 have hgk : l.getD k 0 = l[k] := by simp [hlt]
 have hgp : 0 < k → l.getD (k - 1) 0 = l[k - 1] := fun h => by rw [List.getD_eq_getElem?_getD, List.getElem?_eq_getElem (by omega)]; rfl
 refine zdx ?_
 refine sP [0, 3] [] ?_
 refine zi6 ?_
 refine zcj ?_
 refine zj0 ?_
 refine dA 63 ?_ (x := sM)
 refine dx 16 (fun ga sga => ?_) (fun ga sga => ?_)
 refine dT 127 ga ?_
 refine dT 255 ga ?_
 refine dT 511 ga ?_
 refine dU 1023 ?_
 refine dU 1023 ?_
 refine dU 4095 ?_
 refine dU 8191 ?_
 refine dU 1023 ?_
 refine dU 1023 ?_
 refine dU 33791 ?_
 refine dU 115711 ?_
 refine dU 246783 ?_
 refine dU 524287 ?_
 refine dT 1048575 ga ?_
 refine dA 2097151 ?_ (x := pkT ga)
 refine scT ?_
 refine sS [0, 3] [] ?_
 exact zix
 refine dB 127 ga ?_ (x := sM)
 refine dB 255 ga ?_ (x := B_gtr)
 refine dB 511 ga ?_ (x := sM)
 refine dx 19 (fun gb sgb => ?_) (fun gb sgb => ?_)
 refine zj1 ?_
 refine dB 4095 gb ?_ (x := loc_index (by decide) sl_25 (by exact ⟨⟩) (by exact rfl) (by exact getm2 (by omega) rfl) (by exact rfl))
 refine dB 8191 gb ?_ (x := lE [val _] ty_3)
 refine zj1 ?_
 refine dB 33791 gb ?_ (x := B_sub)
 refine dB 115711 gb ?_ (x := loc_index (k := k - 1) (by decide) sl_25 (by exact ⟨⟩) (by omega) (by exact getm2 (by omega) rfl) (by exact rfl))
 refine dB 246783 gb ?_ (x := lE [val _] ty_3)
 refine dB 524287 gb ?_ (x := B_leq)
 refine dB 1048575 ga ?_ (x := pkT gb)
 refine dA 2097151 ?_ (x := pkF ga)
 refine sc (fun hbb => ?_) (fun hbb => ?_)
 refine sS [0, 3] [] ?_
 exact zix
 exact zj2
 refine zj3 ?_
 refine dF 4095 gb ?_
 refine dF 8191 gb ?_
 refine zj3 ?_
 refine dF 33791 gb ?_
 refine dF 115711 gb ?_
 refine dF 246783 gb ?_
 refine dF 524287 gb ?_
 refine dB 1048575 ga ?_ (x := pkF gb)
 refine dA 2097151 ?_ (x := pkF ga)
 refine scF ?_
 exact zj2
 have hend : k = l.length := by omega
 refine zgi ?_
 exact ziz
end Go.Proofs.YteflgldonmgejaaGreat
