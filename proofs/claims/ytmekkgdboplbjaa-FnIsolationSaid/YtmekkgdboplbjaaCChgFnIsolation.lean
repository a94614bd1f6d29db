/- What functions of the program compute. No condition. -/
import Derived.Test.YtmekkgdboplbjaaCZMFnIsolation
import Derived.Test.YtmekkgdboplbjaaCFcFnIsolation
import Derived.Test.YtmekkgdboplbjaaCSetFnIsolation
import Derived.Test.YtmekkgdboplbjaaCDh
import Derived.KernelRfl
set_option linter.unusedVariables false
set_option linter.unusedSimpArgs false
namespace Go.Proofs.Ytmekkgdboplbjaa
open Go Go.RowKit M PV
set_option maxRecDepth 10000
attribute [local irreducible] PV.Lcl PV.LclR RV.Lcl
theorem impl_IsCharge {x : Charge}  : SCall Try.prog 50 [(true, [val (vI x.Segment), val (vI x.Base), sl .v (x.Ids.map cInt), sl .v (x.Tenants.map cInt), sl .v (x.Rows.map cInt)])] (resRV [(false, [val (.bool (okCharge x))])]) := by
 refine sF Try.func50 fun h0 w0 Fz0 => ?_
 refine sn 0 2 fun hl0_2 => ?_
 refine sn 0 3 fun hl0_3 => ?_
 refine sn 0 4 fun hl0_4 => ?_
 refine zea ?_
 refine zb8 ?_
 refine rA ?_ (x := lF fd_73_2)
 refine zag ?_
 refine zca ?_
 refine sS [1, 2, 3] [1] ?_
 refine rA ?_ (x := lF fd_73_2)
 refine rA ?_ (x := lD [sl .v _] ty_27)
 refine rA ?_ (x := cL [(false, [sl _ _])] [(false, [sl .v _])] c_82 (hs := by exact impl_IsSet))
 refine zbj ?_
 refine cx 12 (fun ga sga => ?_) (fun ga sga => ?_)
 refine zbk ?_
 refine RunS.cases (s := 17) rfl (fun g2 => ?_) (fun g2 => nomatch g2)
 refine zbl ?_
 refine rM ?_
 refine RunS.cases (s := 24) rfl (fun g3 => ?_) (fun g3 => nomatch g3)
 refine ze7 ?_
 refine scT ?_
 exact zeb
 refine rB ga ?_ (x := sM)
 refine zec ?_
 refine zbo ?_
 refine cx 17 (fun gb sgb => ?_) (fun gb sgb => ?_)
 refine zt gb ?_
 refine zba ?_
 refine RunS.cases (s := 24) rfl (fun g6 => ?_) (fun g6 => nomatch g6)
 refine zt g6 ?_
 refine rA ?_ (x := pkT g6)
 refine scT ?_
 exact zeb
 refine rB gb ?_ (x := lF fd_73_3)
 refine rB gb ?_ (x := lD [sl .v _] ty_27)
 refine rB gb ?_ (x := lN sl_27)
 refine rB gb ?_ (x := sM)
 refine rB gb ?_ (x := B_neq)
 refine zdx ?_
 refine cx 24 (fun gc sgc => ?_) (fun gc sgc => ?_)
 refine zd0 ?_
 refine scT ?_
 exact zeb
 refine rB gc ?_ (x := lF fd_73_4)
 refine rB gc ?_ (x := lD [sl .v _] ty_27)
 refine rB gc ?_ (x := lN sl_27)
 refine rB gc ?_ (x := sM)
 refine rB gc ?_ (x := B_neq)
 refine rA ?_ (x := pkF gc)
 refine sc (fun hba => ?_) (fun hba => ?_)
 exact zeb
 have hpr : chgPre x = true := by
  unfold chgPre inB
  simp only [Bool.and_eq_true, decide_eq_true_eq]
  refine ⟨by first | assumption | simp_all, ?_⟩
  first | omega | (simp only [inB, Bool.and_eq_true, decide_eq_true_eq, Bool.not_eq_true, Bool.not_eq_false] at *; omega)
 have hpl := chg_pre hpr
 refine zbr ?_
 refine sS [1, 2, 3] [1] ?_
 refine rA ?_ (x := lF fd_73_2)
 refine zag ?_
 refine za4 ?_
 refine sP [1, 2, 3, 33, 34] [1] ?_
 refine sL [1, 3, 33] [1] (fun k : Nat => k ≤ x.Ids.length ∧ chgTo x k = true) (fun k : Nat => [(34, RV.int (k : Int))]) (fun k : Nat => []) (fun k : Nat => x.Ids.length - k) 0 (by exact ⟨by omega, rfl⟩) (by exact aI (by exact rfl) (tI)) (by exact ⟨⟩) ?_
 rintro k ⟨hk, ha⟩
 refine za5 ?_
 refine sc (fun hbb => ?_) (fun hbb => ?_)
 have hlt : k < x.Ids.length := by omega
 have htl : k < x.Tenants.length := by omega
 have hrl : k < x.Rows.length := by omega
 refine za6 ?_
 refine sT [1, 3, 33, 34] [1] ?_
 refine rM ?_
 refine zca ?_
 refine sP [1, 3, 4, 33, 34] [1] ?_
 refine sw_draw hm_ ?_
 refine dA 0 ?_ (x := lF fd_73_3)
 refine dA 1 ?_ (x := lD [sl .v _] ty_27)
 refine dA 0 ?_ (x := sM)
 refine dA 7 ?_ (x := loc_index (k := k) (by decide) sl_27 (by exact ⟨⟩) (by rfl) (by exact getm2 (by omega) (by rw [gDt_ (d := 0) (by omega)])) (by exact rfl))
 refine dA 15 ?_ (x := lE [val _] ty_3)
 refine dA 31 ?_ (x := cL [(false, [val _]), (false, [val _]), (false, [val _])] [(false, [val _]), (false, [val _]), (false, [val _])] c_20 (hs := by exact impl_within))
 refine dA 63 ?_ (x := nT)
 refine dA 127 ?_ (x := sM)
 refine dx 44 (fun gd sgd => ?_) (fun gd sgd => ?_)
 refine dT 255 gd ?_
 refine dT 511 gd ?_
 refine dT 255 gd ?_
 refine dT 2047 gd ?_
 refine dT 4095 gd ?_
 refine dT 255 gd ?_
 refine dT 8447 gd ?_
 refine dT 32767 gd ?_
 refine dT 65535 gd ?_
 refine dA 131071 ?_ (x := pkT gd)
 refine scT ?_
 exact zed
 refine dB 255 gd ?_ (x := lF fd_73_4)
 refine dB 511 gd ?_ (x := lD [sl .v _] ty_27)
 refine dB 255 gd ?_ (x := sM)
 refine dB 2047 gd ?_ (x := loc_index (k := k) (by decide) sl_27 (by exact ⟨⟩) (by rfl) (by exact getm2 (by omega) (by rw [gDt_ (d := 0) (by omega)])) (by exact rfl))
 refine dB 4095 gd ?_ (x := lE [val _] ty_3)
 refine dB 255 gd ?_ (x := lF fd_73_1)
 refine dB 8447 gd ?_ (x := lD [val _] ty_3)
 refine dB 32767 gd ?_ (x := cL [(false, [val _]), (false, [val _]), (false, [val _])] [(false, [val _]), (false, [val _]), (false, [val _])] c_20 (hs := by exact impl_within))
 refine dB 65535 gd ?_ (x := nT)
 refine dA 131071 ?_ (x := pkF gd)
 refine sc (fun hbc => ?_) (fun hbc => ?_)
 exact zed
 have hyes : chgAt x k = true := by simp_all [chgAt]
 refine sw_skip ?_
 refine sG [1, 3, 4, 33, 34] [1] ?_
 refine zaa ?_
 refine nx (k + 1) (by exact ⟨by omega, by rw [chgTo_succ, ha, hyes]; rfl⟩)
 have hend : k = x.Ids.length := by omega
 rw [hend] at ha
 refine sw_exit ?_
 refine sT [1, 3, 33, 34] [1] ?_
 refine rA ?_ (x := lF fd_73_0)
 refine zak ?_
 refine cx 59 (fun gd sgd => ?_) (fun gd sgd => ?_)
 refine rB gd ?_ (x := lF fd_73_1)
 refine zdy ?_
 refine rA ?_ (x := pkT gd)
 exact zee
 refine zef ?_
 exact zee
end Go.Proofs.Ytmekkgdboplbjaa
