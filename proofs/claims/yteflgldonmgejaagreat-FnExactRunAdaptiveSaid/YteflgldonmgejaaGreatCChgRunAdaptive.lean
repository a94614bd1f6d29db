/- What functions of the program compute. No condition. -/
import Derived.Test.YteflgldonmgejaaGreatCZMRunAdaptive
import Derived.Test.YteflgldonmgejaaGreatCFcRunAdaptive
import Derived.Test.YteflgldonmgejaaGreatCSetRunAdaptive
import Derived.Test.YteflgldonmgejaaGreatCDh
import Derived.KernelRfl
set_option linter.unusedVariables false
set_option linter.unusedSimpArgs false
namespace Go.Proofs.YteflgldonmgejaaGreat
open Go Go.RowKit M PV
set_option maxRecDepth 10000
attribute [local irreducible] PV.Lcl PV.LclR RV.Lcl
theorem impl_IsCharge {x : Charge}  : SCall Tryz.prog 119 [(true, [val (vI x.Segment), val (vI x.Base), sl .v (x.Ids.map cInt), sl .v (x.Tenants.map cInt), sl .v (x.Rows.map cInt)])] (resRV [(false, [val (.bool (okCharge x))])]) := by
 refine sF Tryz.func119 fun h0 w0 Fz0 => ?_
 refine sn 0 2 fun hl0_2 => ?_
 refine sn 0 3 fun hl0_3 => ?_
 refine sn 0 4 fun hl0_4 => ?_
 refine za4 ?_
 refine zgw ?_
 refine zl9 ?_
 refine zjk ?_
 refine sS [1, 2, 3] [1] ?_
 refine rA ?_ (x := lF fd_148_2)
 refine zj9 ?_
 refine zha ?_
 refine cx 12 (fun ga sga => ?_) (fun ga sga => ?_)
 refine zhb ?_
 refine RunS.cases (s := 17) rfl (fun g2 => ?_) (fun g2 => nomatch g2)
 refine zhc ?_
 refine rM ?_
 refine RunS.cases (s := 24) rfl (fun g3 => ?_) (fun g3 => nomatch g3)
 refine ziu ?_
 exact zla
 refine rB ga ?_ (x := sM)
 refine zlb ?_
 refine zhf ?_
 refine cx 17 (fun gb sgb => ?_) (fun gb sgb => ?_)
 refine zig ?_
 refine RunS.cases (s := 24) rfl (fun g6 => ?_) (fun g6 => nomatch g6)
 refine zlc ?_
 exact zla
 refine rB gb ?_ (x := lF fd_148_3)
 refine rB gb ?_ (x := lD [sl .v _] ty_25)
 refine rB gb ?_ (x := lN sl_25)
 refine rB gb ?_ (x := sM)
 refine rB gb ?_ (x := B_neq)
 refine zij ?_
 refine cx 24 (fun gc sgc => ?_) (fun gc sgc => ?_)
 refine zht ?_
 exact zla
 refine rB gc ?_ (x := lF fd_148_4)
 refine rB gc ?_ (x := lD [sl .v _] ty_25)
 refine rB gc ?_ (x := lN sl_25)
 refine rB gc ?_ (x := sM)
 refine rB gc ?_ (x := B_neq)
 refine rA ?_ (x := pkF gc)
 refine sc (fun hba => ?_) (fun hba => ?_)
 exact zld
 have hpr : chgPre x = true := by
  unfold chgPre inB
  simp only [Bool.and_eq_true, decide_eq_true_eq]
  refine ⟨by first | assumption | simp_all, ?_⟩
  first | omega | (simp only [inB, Bool.and_eq_true, decide_eq_true_eq, Bool.not_eq_true, Bool.not_eq_false] at *; omega)
 have hpl := chg_pre hpr
 refine zf2 ?_
 refine sS [1, 2, 3] [1] ?_
 refine zl9 ?_
 refine zfl ?_
 refine sP [1, 2, 3, 33, 34] [1] ?_
 refine sL [1, 3, 33] [1] (fun k : Nat => k ≤ x.Ids.length ∧ chgTo x k = true) (fun k : Nat => [(34, RV.int (k : Int))]) (fun k : Nat => []) (fun k : Nat => x.Ids.length - k) 0 (by exact ⟨by omega, rfl⟩) (by exact aI (by exact rfl) (tI)) (by exact ⟨⟩) ?_
 rintro k ⟨hk, ha⟩
 refine zfm ?_
 refine sc (fun hbb => ?_) (fun hbb => ?_)
 have hlt : k < x.Ids.length := by omega
 have htl : k < x.Tenants.length := by omega
 have hrl : k < x.Rows.length := by omega
 refine zed ?_
 refine sT [1, 3, 33, 34] [1] ?_
 refine rM ?_
 refine zjk ?_
 refine sP [1, 3, 4, 33, 34] [1] ?_
 refine zle ?_
 refine dA 1 ?_ (x := lD [sl .v _] ty_25)
 refine dA 0 ?_ (x := sM)
 refine zlf ?_
 refine dA 31 ?_ (x := cL [(false, [val _]), (false, [val _]), (false, [val _])] [(false, [val _]), (false, [val _]), (false, [val _])] c_114 (hs := by exact impl_within))
 refine dA 63 ?_ (x := nT)
 refine dA 127 ?_ (x := sM)
 refine dx 44 (fun gd sgd => ?_) (fun gd sgd => ?_)
 refine dT 255 gd ?_
 refine dT 511 gd ?_
 refine dT 255 gd ?_
 refine dT 2047 gd ?_
 refine dT 4095 gd ?_
 refine dT 255 gd ?_
 refine dT 8447 gd ?_
 refine dT 32767 gd ?_
 refine dT 65535 gd ?_
 refine dA 131071 ?_ (x := pkT gd)
 refine scT ?_
 exact zlg
 refine dB 255 gd ?_ (x := lF fd_148_4)
 refine dB 511 gd ?_ (x := lD [sl .v _] ty_25)
 refine dB 255 gd ?_ (x := sM)
 refine dB 2047 gd ?_ (x := loc_index (k := k) (by decide) sl_25 (by exact ⟨⟩) (by rfl) (by exact getm2 (by omega) (by rw [gDt_ (d := 0) (by omega)])) (by exact rfl))
 refine dB 4095 gd ?_ (x := lE [val _] ty_3)
 refine dB 255 gd ?_ (x := lF fd_148_1)
 refine dB 8447 gd ?_ (x := lD [val _] ty_3)
 refine dB 32767 gd ?_ (x := cL [(false, [val _]), (false, [val _]), (false, [val _])] [(false, [val _]), (false, [val _]), (false, [val _])] c_114 (hs := by exact impl_within))
 refine dB 65535 gd ?_ (x := nT)
 refine dA 131071 ?_ (x := pkF gd)
 refine sc (fun hbc => ?_) (fun hbc => ?_)
 exact zlg
 have hyes : chgAt x k = true := by simp_all [chgAt]
 refine sw_skip ?_
 refine sG [1, 3, 4, 33, 34] [1] ?_
 refine zfp ?_
 exact zlh
 have hend : k = x.Ids.length := by omega
 rw [hend] at ha
 refine sw_exit ?_
 refine sT [1, 3, 33, 34] [1] ?_
 refine rA ?_ (x := lF fd_148_0)
 refine zfx ?_
 refine rM ?_
 refine cx 59 (fun gd sgd => ?_) (fun gd sgd => ?_)
 refine rB gd ?_ (x := lF fd_148_1)
 refine zik ?_
 refine rA ?_ (x := pkT gd)
 exact zli
 refine zf gd ?_
 refine rA ?_ (x := pkF gd)
 exact zli
theorem spec_IsCharge {x : Charge}  : SCall Tryz.prog 102 [(true, [val (vI x.Segment), val (vI x.Base), sl .v (x.Ids.map cInt), sl .v (x.Tenants.map cInt), sl .v (x.Rows.map cInt)])] (resRV [(false, [val (.bool (okCharge x))])]) := by
 refine sF Tryz.func102 fun h0 w0 Fz0 => ?_
 refine sn 0 2 fun hl0_2 => ?_
 refine sn 0 3 fun hl0_3 => ?_
 refine sn 0 4 fun hl0_4 => ?_
 refine za4 ?_
 refine zgw ?_
 refine zl9 ?_
 refine zjk ?_
 refine sS [1, 2, 3] [1] ?_
 refine rA ?_ (x := lF fd_148_2)
 refine rA ?_ (x := lD [sl .v _] ty_25)
 refine rA ?_ (x := cL [(false, [sl _ _])] [(false, [sl .v _])] c_177 (hs := by exact spec_IsSet))
 refine zha ?_
 refine cx 12 (fun ga sga => ?_) (fun ga sga => ?_)
 refine zhb ?_
 refine RunS.cases (s := 16) rfl (fun g2 => ?_) (fun g2 => nomatch g2)
 refine zhc ?_
 refine rM ?_
 refine RunS.cases (s := 20) rfl (fun g3 => ?_) (fun g3 => nomatch g3)
 refine ziu ?_
 refine rM ?_
 refine RunS.cases (s := 27) rfl (fun g4 => ?_) (fun g4 => nomatch g4)
 refine zt g4 ?_
 refine rA ?_ (x := pkT g4)
 refine rM ?_
 refine RunS.cases (s := 34) rfl (fun g5 => ?_) (fun g5 => nomatch g5)
 refine zt g5 ?_
 refine rA ?_ (x := pkT g5)
 refine rM ?_
 refine RunS.cases (s := 40) rfl (fun g6 => ?_) (fun g6 => nomatch g6)
 refine zlc ?_
 exact zla
 refine rB ga ?_ (x := sM)
 refine rB ga ?_ (x := B_eql)
 refine zhf ?_
 refine cx 16 (fun gb sgb => ?_) (fun gb sgb => ?_)
 refine zig ?_
 refine RunS.cases (s := 20) rfl (fun g9 => ?_) (fun g9 => nomatch g9)
 refine zt g9 ?_
 refine rA ?_ (x := pkT g9)
 refine rM ?_
 refine RunS.cases (s := 27) rfl (fun g10 => ?_) (fun g10 => nomatch g10)
 refine zt g10 ?_
 refine rA ?_ (x := pkT g10)
 refine rM ?_
 refine RunS.cases (s := 34) rfl (fun g11 => ?_) (fun g11 => nomatch g11)
 refine zt g11 ?_
 refine rA ?_ (x := pkT g11)
 refine rM ?_
 refine RunS.cases (s := 40) rfl (fun g12 => ?_) (fun g12 => nomatch g12)
 refine zt g12 ?_
 refine rA ?_ (x := pkT g12)
 exact zla
 refine ziw ?_
 refine zij ?_
 refine cx 20 (fun gc sgc => ?_) (fun gc sgc => ?_)
 refine zht ?_
 refine rM ?_
 refine RunS.cases (s := 27) rfl (fun g15 => ?_) (fun g15 => nomatch g15)
 refine zt g15 ?_
 refine rA ?_ (x := pkT g15)
 refine rM ?_
 refine RunS.cases (s := 34) rfl (fun g16 => ?_) (fun g16 => nomatch g16)
 refine zt g16 ?_
 refine rA ?_ (x := pkT g16)
 refine rM ?_
 refine RunS.cases (s := 40) rfl (fun g17 => ?_) (fun g17 => nomatch g17)
 refine zt g17 ?_
 refine rA ?_ (x := pkT g17)
 exact zla
 refine rB gc ?_ (x := lF fd_148_3)
 refine rB gc ?_ (x := lD [sl .v _] ty_25)
 refine rB gc ?_ (x := lN sl_25)
 refine rB gc ?_ (x := sM)
 refine rB gc ?_ (x := B_neq)
 refine rA ?_ (x := pkF gc)
 refine rM ?_
 refine cx 27 (fun gd sgd => ?_) (fun gd sgd => ?_)
 refine zt gd ?_
 refine zlj ?_
 refine RunS.cases (s := 34) rfl (fun g20 => ?_) (fun g20 => nomatch g20)
 refine zt g20 ?_
 refine rA ?_ (x := pkT g20)
 refine rM ?_
 refine RunS.cases (s := 40) rfl (fun g21 => ?_) (fun g21 => nomatch g21)
 refine zt g21 ?_
 refine rA ?_ (x := pkT g21)
 exact zla
 refine rB gd ?_ (x := lF fd_148_4)
 refine rB gd ?_ (x := lD [sl .v _] ty_25)
 refine rB gd ?_ (x := lN sl_25)
 refine rB gd ?_ (x := sM)
 refine rB gd ?_ (x := B_neq)
 refine zlk ?_
 refine cx 34 (fun ge sge => ?_) (fun ge sge => ?_)
 refine zt ge ?_
 refine rA ?_ (x := pkT ge)
 refine rM ?_
 refine RunS.cases (s := 40) rfl (fun g24 => ?_) (fun g24 => nomatch g24)
 refine zt g24 ?_
 refine rA ?_ (x := pkT g24)
 exact zla
 refine rB ge ?_ (x := lF fd_148_0)
 refine zll ?_
 refine rB ge ?_ (x := nT)
 refine rA ?_ (x := pkF ge)
 refine rM ?_
 refine cx 40 (fun gf sgf => ?_) (fun gf sgf => ?_)
 refine zt gf ?_
 refine rA ?_ (x := pkT gf)
 exact zla
 refine rB gf ?_ (x := lF fd_148_1)
 refine rB gf ?_ (x := lD [val _] ty_3)
 refine rB gf ?_ (x := cL [(false, [val _]), (false, [val _]), (false, [val _])] [(false, [val _]), (false, [val _]), (false, [val _])] c_97 (hs := by exact spec_l1In))
 refine rB gf ?_ (x := nT)
 refine rA ?_ (x := pkF gf)
 refine sc (fun hba => ?_) (fun hba => ?_)
 exact zld
 have hpr : chgPre x = true := by
  unfold chgPre inB
  simp only [Bool.and_eq_true, decide_eq_true_eq]
  refine ⟨by first | assumption | simp_all, ?_⟩
  first | omega | (simp only [inB, Bool.and_eq_true, decide_eq_true_eq, Bool.not_eq_true, Bool.not_eq_false] at *; omega)
 have hpl := chg_pre hpr
 have hsb : (inB x.Segment 0 7 && inB x.Base 0 4) = true := by simp_all
 refine zf2 ?_
 refine sS [1, 2, 3] [1] ?_
 refine zhx ?_
 refine sP [1, 2, 3, 4] [1] ?_
 refine sL [1, 3] [1] (fun k : Nat => k ≤ x.Ids.length ∧ chgTo x k = true) (fun k : Nat => [(4, RV.int (k : Int))]) (fun k : Nat => []) (fun k : Nat => x.Ids.length - k) 0 (by exact ⟨by omega, rfl⟩) (by exact aI (by exact rfl) (tI)) (by exact ⟨⟩) ?_
 rintro k ⟨hk, ha⟩
 refine zg2 ?_
 refine zi8 ?_
 refine sc (fun hbb => ?_) (fun hbb => ?_)
 have hlt : k < x.Ids.length := by omega
 have htl : k < x.Tenants.length := by omega
 have hrl : k < x.Rows.length := by omega
 refine zdx ?_
 refine sQ [1, 3, 4] [1] ?_
 refine zle ?_
 refine dA 1 ?_ (x := lD [sl .v _] ty_25)
 refine dA 0 ?_ (x := sM)
 refine zlf ?_
 refine dA 31 ?_ (x := cL [(false, [val _]), (false, [val _]), (false, [val _])] [(false, [val _]), (false, [val _]), (false, [val _])] c_97 (hs := by exact spec_l1In))
 refine dA 63 ?_ (x := nT)
 refine dA 127 ?_ (x := sM)
 refine dx 58 (fun gg sgg => ?_) (fun gg sgg => ?_)
 refine dT 255 gg ?_
 refine dT 511 gg ?_
 refine dT 255 gg ?_
 refine dT 2047 gg ?_
 refine dT 4095 gg ?_
 refine dT 255 gg ?_
 refine dT 8447 gg ?_
 refine dT 32767 gg ?_
 refine dT 65535 gg ?_
 refine dA 131071 ?_ (x := pkT gg)
 refine scT ?_
 exact zlm
 refine dB 255 gg ?_ (x := lF fd_148_4)
 refine dB 511 gg ?_ (x := lD [sl .v _] ty_25)
 refine dB 255 gg ?_ (x := sM)
 refine dB 2047 gg ?_ (x := loc_index (k := k) (by decide) sl_25 (by exact ⟨⟩) (by rfl) (by exact getm2 (by omega) (by rw [gDt_ (d := 0) (by omega)])) (by exact rfl))
 refine dB 4095 gg ?_ (x := lE [val _] ty_3)
 refine dB 255 gg ?_ (x := lF fd_148_1)
 refine dB 8447 gg ?_ (x := lD [val _] ty_3)
 refine dB 32767 gg ?_ (x := cL [(false, [val _]), (false, [val _]), (false, [val _])] [(false, [val _]), (false, [val _]), (false, [val _])] c_97 (hs := by exact spec_l1In))
 refine dB 65535 gg ?_ (x := nT)
 refine dA 131071 ?_ (x := pkF gg)
 refine sc (fun hbc => ?_) (fun hbc => ?_)
 exact zlm
 have hyes : chgAt x k = true := by simp_all [chgAt]
 refine sw_skip ?_
 refine sG [1, 3, 4] [1] ?_
 refine ze0 ?_
 exact zlh
 have hend : k = x.Ids.length := by omega
 rw [hend] at ha
 refine sw_exit ?_
 refine sT [1, 3, 4] [1] ?_
 refine zgb ?_
 exact rb (by simp_all [okCharge])
end Go.Proofs.YteflgldonmgejaaGreat
