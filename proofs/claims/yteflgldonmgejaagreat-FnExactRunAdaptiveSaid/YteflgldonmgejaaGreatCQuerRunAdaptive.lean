/- What functions of the program compute. No condition. -/
import Derived.Test.YteflgldonmgejaaGreatCZMRunAdaptive
import Derived.Test.YteflgldonmgejaaGreatCFcRunAdaptive
import Derived.Test.YteflgldonmgejaaGreatCProgRunAdaptive
import Derived.KernelRfl
set_option linter.unusedVariables false
set_option linter.unusedSimpArgs false
namespace Go.Proofs.YteflgldonmgejaaGreat
open Go Go.RowKit M PV
set_option maxRecDepth 10000
attribute [local irreducible] PV.Lcl PV.LclR RV.Lcl
theorem impl_IsCond {x : Cond}  : SCall Tryz.prog 190 [(true, [val (vI x.Field), val (vI x.Low), val (vI x.High)])] (resRV [(false, [val (.bool (okCond x))])]) := by
 refine sF Tryz.func190 fun h0 w0 Fz0 => ?_
 refine zb8 ?_
 refine zgw ?_
 refine zcq ?_
 refine rA ?_ (x := cL [(false, [val _])] [(false, [val _])] c_191 (hs := by exact impl_isField))
 refine rM ?_
 refine cx 6 (fun ga sga => ?_) (fun ga sga => ?_)
 refine zgx ?_
 refine rB ga ?_ (x := B_geq)
 refine zgy ?_
 refine cx 11 (fun gb sgb => ?_) (fun gb sgb => ?_)
 refine rB gb ?_ (x := lF fd_193_1)
 refine rB gb ?_ (x := lD [val _] ty_3)
 refine rB gb ?_ (x := lF fd_193_2)
 refine zgz ?_
 refine zh0 ?_
 refine cx 18 (fun gc sgc => ?_) (fun gc sgc => ?_)
 refine rB gc ?_ (x := lF fd_193_2)
 refine rB gc ?_ (x := lD [val _] ty_3)
 refine rB gc ?_ (x := B_leq)
 refine rA ?_ (x := pkT gc)
 exact zh1
 refine zh2 ?_
 exact zh1
 refine zh3 ?_
 refine rM ?_
 refine RunS.cases (s := 18) rfl (fun g4 => nomatch g4) (fun g4 => ?_)
 refine zf g4 ?_
 refine rA ?_ (x := pkF g4)
 exact zh1
 refine zh4 ?_
 refine RunS.cases (s := 11) rfl (fun g5 => nomatch g5) (fun g5 => ?_)
 refine zf g5 ?_
 refine rA ?_ (x := pkF g5)
 refine rM ?_
 refine RunS.cases (s := 18) rfl (fun g6 => nomatch g6) (fun g6 => ?_)
 refine zf g6 ?_
 refine rA ?_ (x := pkF g6)
 exact zh1
theorem spec_IsCond {x : Cond}  : SCall Tryz.prog 175 [(true, [val (vI x.Field), val (vI x.Low), val (vI x.High)])] (resRV [(false, [val (.bool (okCond x))])]) := by
 refine sF Tryz.func175 fun h0 w0 Fz0 => ?_
 refine zb8 ?_
 refine zgw ?_
 refine rA ?_ (x := lF fd_193_0)
 refine zg7 ?_
 refine rM ?_
 refine cx 6 (fun ga sga => ?_) (fun ga sga => ?_)
 refine zgx ?_
 refine rB ga ?_ (x := lF fd_193_2)
 refine zh5 ?_
 refine zgy ?_
 refine cx 13 (fun gb sgb => ?_) (fun gb sgb => ?_)
 refine rB gb ?_ (x := lF fd_193_2)
 refine zgz ?_
 refine rA ?_ (x := pkT gb)
 exact zh1
 refine zh3 ?_
 exact zh1
 refine zh4 ?_
 refine RunS.cases (s := 13) rfl (fun g3 => nomatch g3) (fun g3 => ?_)
 refine zf g3 ?_
 refine rA ?_ (x := pkF g3)
 exact zh1
theorem spec_l4Fields {x : List Int}  : SCall Tryz.prog 176 [(false, [sl .v (x.map cInt)])] (resRV [(false, [val (.bool (okFields x))])]) := by
 refine sF Tryz.func176 fun h0 w0 Fz0 => ?_
 refine sj 0 fun hl0 => ?_
 refine zgd ?_
 refine zge ?_
 refine sL [0] [] (fun k : Nat => k ≤ x.length ∧ (x.take k).all okOut = true) (fun k : Nat => [(3, RV.int (k : Int))]) (fun k : Nat => []) (fun k : Nat => x.length - k) 0 (by exact ⟨by omega, by simp⟩) (by exact aI (by exact rfl) (tI)) (by exact ⟨⟩) ?_
 rintro k ⟨hk, ha⟩
 refine zb2 ?_
 refine sc (fun hba => ?_) (fun hba => ?_)
 have hlt : k < x.length := by omega
 refine zed ?_
 refine sS [0, 3] [] ?_
 refine zgf ?_
 refine zb4 ?_
 refine zg3 ?_
 refine sc (fun hbb => ?_) (fun hbb => ?_)
 have hno : okOut x[k] = false := by simpa [okOut] using hbb
 refine sS [0, 3] [] ?_
 refine zgb ?_
 exact rb (by simp [okFields, all_no (P := okOut) hlt hno])
 have hyes : okOut x[k] = true := by simpa [okOut] using hbb
 refine zgh ?_
 exact zg5
 have hall : x.all okOut = true := all_end (by rw [show x.length = k by omega]; exact ha)
 refine zgi ?_
 refine zb0 ?_
 refine rA ?_ (x := cL [(false, [val _]), (false, [val _]), (false, [val _])] [(false, [val _]), (false, [val _]), (false, [val _])] c_97 (hs := by exact spec_l1In))
 refine zgj ?_
 exact rb (by simp [okFields, hall, *])
theorem spec_IsQuery {x : Query}  : SCall Tryz.prog 100 [(true, [val (vI x.Id), val (vI x.Tenant), sl .v (x.Conds.map cCond), sl .v (x.Out.map cInt)])] (resRV [(false, [val (.bool (okQuery x))])]) := by
 refine sF Tryz.func100 fun h0 w0 Fz0 => ?_
 refine sn 0 2 fun hl0_2 => ?_
 refine sn 0 3 fun hl0_3 => ?_
 refine zal ?_
 refine zft ?_
 refine zg1 ?_
 refine sL [1] [1] (fun k : Nat => k ≤ x.Conds.length ∧ adjTo ⟨0, 0, 0⟩ okCond ltField x.Conds k = true) (fun k : Nat => [(3, RV.int (k : Int))]) (fun k : Nat => []) (fun k : Nat => x.Conds.length - k) 0 (by exact ⟨by omega, rfl⟩) (by exact aI (by exact rfl) (tI)) (by exact ⟨⟩) ?_
 rintro k ⟨hk, ha⟩
 refine zg2 ?_
 refine zd5 ?_
 refine zcx ?_
 refine sc (fun hba => ?_) (fun hba => ?_)
 have hlt : k < x.Conds.length := by omega
 have hgk : x.Conds.getD k ⟨0, 0, 0⟩ = x.Conds[k] := getD_at hlt
 have hgp : 0 < k → x.Conds.getD (k - 1) ⟨0, 0, 0⟩ = x.Conds[k - 1] := fun h => getD_at (by omega)
 refine zdx ?_
 refine sQ [1, 3] [1] ?_
 refine sw_draw hm_ ?_
 refine dA 0 ?_ (x := lF fd_65_2)
 refine dA 1 ?_ (x := lD [sl .v _] ty_63)
 refine zh6 ?_
 refine dA 15 ?_ (x := lE [val _, val _, val _] ty_193)
 refine dA 31 ?_ (x := cL [(true, [val _, val _, val _])] [(true, [val _, val _, val _])] c_175 (hs := by exact spec_IsCond))
 refine dA 63 ?_ (x := nT)
 refine dA 127 ?_ (x := sM)
 refine dx 18 (fun ga sga => ?_) (fun ga sga => ?_)
 refine dT 255 ga ?_
 refine dT 511 ga ?_
 refine dT 1023 ga ?_
 refine dU 2047 ?_
 refine dU 4095 ?_
 refine dU 2047 ?_
 refine dU 16383 ?_
 refine dU 32767 ?_
 refine dU 65535 ?_
 refine dU 2047 ?_
 refine dU 133119 ?_
 refine dU 2047 ?_
 refine dU 526335 ?_
 refine dU 1968127 ?_
 refine dU 4065279 ?_
 refine dU 8259583 ?_
 refine dU 16777215 ?_
 refine dT 33554431 ga ?_
 refine dA 67108863 ?_ (x := pkT ga)
 refine scT ?_
 exact zh7
 refine dB 255 ga ?_ (x := sM)
 refine dB 511 ga ?_ (x := B_gtr)
 refine dB 1023 ga ?_ (x := sM)
 refine dx 21 (fun gb sgb => ?_) (fun gb sgb => ?_)
 refine dB 2047 gb ?_ (x := lF fd_65_2)
 refine dB 4095 gb ?_ (x := lD [sl .v _] ty_63)
 refine dB 2047 gb ?_ (x := sM)
 refine dB 16383 gb ?_ (x := loc_index (by decide) sl_63 (by exact ⟨⟩) (by exact rfl) (by exact getm2 (by omega) rfl) (by exact rfl))
 refine dB 32767 gb ?_ (x := loc_efield (by decide) fd_193_0 (by exact nl rfl))
 refine dB 65535 gb ?_ (x := lE [val _] ty_3)
 refine dB 2047 gb ?_ (x := lF fd_65_2)
 refine dB 133119 gb ?_ (x := lD [sl .v _] ty_63)
 refine dB 2047 gb ?_ (x := sM)
 refine dB 526335 gb ?_ (x := B_sub)
 refine dB 1968127 gb ?_ (x := loc_index (k := k - 1) (by decide) sl_63 (by exact ⟨⟩) (by omega) (by exact getm2 (by omega) rfl) (by exact rfl))
 refine dB 4065279 gb ?_ (x := loc_efield (by decide) fd_193_0 (by exact nl rfl))
 refine dB 8259583 gb ?_ (x := lE [val _] ty_3)
 refine dB 16777215 gb ?_ (x := B_leq)
 refine dB 33554431 ga ?_ (x := pkT gb)
 refine dA 67108863 ?_ (x := pkF ga)
 refine sc (fun hbb => ?_) (fun hbb => ?_)
 exact zh7
 exact zh8
 refine dF 2047 gb ?_
 refine dF 4095 gb ?_
 refine dF 2047 gb ?_
 refine dF 16383 gb ?_
 refine dF 32767 gb ?_
 refine dF 65535 gb ?_
 refine dF 2047 gb ?_
 refine dF 133119 gb ?_
 refine dF 2047 gb ?_
 refine dF 526335 gb ?_
 refine dF 1968127 gb ?_
 refine dF 4065279 gb ?_
 refine dF 8259583 gb ?_
 refine dF 16777215 gb ?_
 refine dB 33554431 ga ?_ (x := pkF gb)
 refine dA 67108863 ?_ (x := pkF ga)
 refine scF ?_
 exact zh8
 have hend : k = x.Conds.length := by omega
 have hall : adjAll ⟨0, 0, 0⟩ okCond ltField x.Conds = true := adj_end ha hend
 refine zg6 ?_
 refine rA ?_ (x := lF fd_65_0)
 refine zg7 ?_
 refine rM ?_
 refine cx 41 (fun ga sga => ?_) (fun ga sga => ?_)
 refine rB ga ?_ (x := lF fd_65_1)
 refine zh5 ?_
 refine zgy ?_
 refine cx 46 (fun gb sgb => ?_) (fun gb sgb => ?_)
 refine rB gb ?_ (x := lF fd_65_2)
 refine rB gb ?_ (x := lD [sl .v _] ty_63)
 refine rB gb ?_ (x := lN sl_63)
 refine rB gb ?_ (x := B_leq)
 refine zh0 ?_
 refine cx 52 (fun gc sgc => ?_) (fun gc sgc => ?_)
 refine rB gc ?_ (x := lF fd_65_3)
 refine rB gc ?_ (x := lD [sl .v _] ty_25)
 refine rB gc ?_ (x := cL [(false, [sl _ _])] [(false, [sl .v _])] c_176 (hs := by exact spec_l4Fields))
 refine rA ?_ (x := pkT gc)
 exact zh9
 refine zh2 ?_
 exact zh9
 refine zh3 ?_
 refine rM ?_
 refine RunS.cases (s := 52) rfl (fun g10 => nomatch g10) (fun g10 => ?_)
 refine zf g10 ?_
 refine rA ?_ (x := pkF g10)
 exact zh9
 refine zh4 ?_
 refine RunS.cases (s := 46) rfl (fun g11 => nomatch g11) (fun g11 => ?_)
 refine zf g11 ?_
 refine rA ?_ (x := pkF g11)
 refine rM ?_
 refine RunS.cases (s := 52) rfl (fun g12 => nomatch g12) (fun g12 => ?_)
 refine zf g12 ?_
 refine rA ?_ (x := pkF g12)
 exact zh9
theorem impl_IsQuery {x : Query}  : SCall Tryz.prog 117 [(true, [val (vI x.Id), val (vI x.Tenant), sl .v (x.Conds.map cCond), sl .v (x.Out.map cInt)])] (resRV [(false, [val (.bool (okQuery x))])]) := by
 refine sF Tryz.func117 fun h0 w0 Fz0 => ?_
 refine sn 0 2 fun hl0_2 => ?_
 refine sn 0 3 fun hl0_3 => ?_
 refine zal ?_
 refine zft ?_
 refine rA ?_ (x := lF fd_65_0)
 refine zfx ?_
 refine zha ?_
 refine cx 11 (fun ga sga => ?_) (fun ga sga => ?_)
 refine zhb ?_
 refine RunS.cases (s := 17) rfl (fun g2 => ?_) (fun g2 => nomatch g2)
 refine zhc ?_
 refine scT ?_
 exact zhd
 refine rB ga ?_ (x := lF fd_65_1)
 refine zhe ?_
 refine zhf ?_
 refine cx 17 (fun gb sgb => ?_) (fun gb sgb => ?_)
 refine zhg ?_
 refine scT ?_
 exact zhd
 refine rB gb ?_ (x := lF fd_65_2)
 refine rB gb ?_ (x := lD [sl .v _] ty_63)
 refine rB gb ?_ (x := lN sl_63)
 refine rB gb ?_ (x := B_gtr)
 refine rA ?_ (x := pkF gb)
 refine sc (fun hba => ?_) (fun hba => ?_)
 exact zhd
 have hfirst : (inB x.Id 0 23 && (inB x.Tenant 0 3 && decide ((x.Conds.length : Int) ≤ 3))) = true := by simp_all
 refine zhh ?_
 refine zd5 ?_
 refine rA ?_ (x := lN sl_63)
 refine zfl ?_
 refine sP [1, 2, 24, 25, 26] [1] ?_
 refine sL [1, 24, 25] [1] (fun k : Nat => k ≤ x.Conds.length ∧ adjTo ⟨0, 0, 0⟩ okCond ltField x.Conds k = true) (fun k : Nat => [(26, RV.int (k : Int))]) (fun k : Nat => []) (fun k : Nat => x.Conds.length - k) 0 (by exact ⟨by omega, rfl⟩) (by exact aI (by exact rfl) (tI)) (by exact ⟨⟩) ?_
 rintro k ⟨hk, ha⟩
 refine zfm ?_
 refine sc (fun hbb => ?_) (fun hbb => ?_)
 have hlt : k < x.Conds.length := by omega
 have hgk : x.Conds.getD k ⟨0, 0, 0⟩ = x.Conds[k] := getD_at hlt
 have hgp : 0 < k → x.Conds.getD (k - 1) ⟨0, 0, 0⟩ = x.Conds[k - 1] := fun h => getD_at (by omega)
 refine zed ?_
 refine sT [1, 24, 25, 26] [1] ?_
 refine rM ?_
 refine zhi ?_
 refine rX ?_ (x := (loc_alloc (by decide) z_193 zo_193))
 refine rS ?_
 refine zhj ?_
 refine sO [(1, _), (3, _), (4, _), (24, _), (25, _), (26, _)] [(1, _), (4, (193, [val _, val _, val _]))] ?_
 refine sw_draw hm_ ?_
 refine dA 0 ?_ (x := lD [val _, val _, val _] ty_193)
 refine dA 1 ?_ (x := cL [(true, [val _, val _, val _])] [(true, [val _, val _, val _])] c_190 (hs := by exact impl_IsCond))
 refine dA 3 ?_ (x := nT)
 refine dA 7 ?_ (x := sM)
 refine dx 34 (fun gc sgc => ?_) (fun gc sgc => ?_)
 refine dT 15 gc ?_
 refine dT 31 gc ?_
 refine dT 63 gc ?_
 refine dU 127 ?_
 refine dU 255 ?_
 refine dU 127 ?_
 refine dU 639 ?_
 refine dU 2047 ?_
 refine dU 4095 ?_
 refine dU 8191 ?_
 refine dU 127 ?_
 refine dU 16511 ?_
 refine dU 65535 ?_
 refine dT 131071 gc ?_
 refine dA 262143 ?_ (x := pkT gc)
 refine scT ?_
 exact zhk
 refine dB 15 gc ?_ (x := sM)
 refine dB 31 gc ?_ (x := B_gtr)
 refine dB 63 gc ?_ (x := sM)
 refine dx 37 (fun gd sgd => ?_) (fun gd sgd => ?_)
 refine dB 127 gd ?_ (x := lF fd_65_2)
 refine dB 255 gd ?_ (x := lD [sl .v _] ty_63)
 refine dB 127 gd ?_ (x := sM)
 refine dB 639 gd ?_ (x := B_sub)
 refine dB 2047 gd ?_ (x := loc_index (k := k - 1) (by decide) sl_63 (by exact ⟨⟩) (by omega) (by exact getm2 (by omega) rfl) (by exact rfl))
 refine dB 4095 gd ?_ (x := loc_efield (by decide) fd_193_0 (by exact nl rfl))
 refine dB 8191 gd ?_ (x := lE [val _] ty_3)
 refine dB 127 gd ?_ (x := lF fd_193_0)
 refine dB 16511 gd ?_ (x := lD [val _] ty_3)
 refine dB 65535 gd ?_ (x := B_geq)
 refine dB 131071 gc ?_ (x := pkT gd)
 refine dA 262143 ?_ (x := pkF gc)
 refine sc (fun hbc => ?_) (fun hbc => ?_)
 exact zhk
 exact zhl
 refine dF 127 gd ?_
 refine dF 255 gd ?_
 refine dF 127 gd ?_
 refine dF 639 gd ?_
 refine dF 2047 gd ?_
 refine dF 4095 gd ?_
 refine dF 8191 gd ?_
 refine dF 127 gd ?_
 refine dF 16511 gd ?_
 refine dF 65535 gd ?_
 refine dB 131071 gc ?_ (x := pkF gd)
 refine dA 262143 ?_ (x := pkF gc)
 refine scF ?_
 exact zhl
 have hend : k = x.Conds.length := by omega
 have hall : adjAll ⟨0, 0, 0⟩ okCond ltField x.Conds = true := adj_end ha hend
 refine zhm ?_
 refine sT [1, 24, 25, 26] [1] ?_
 refine rA ?_ (x := lF fd_65_3)
 refine zfu ?_
 refine zfl ?_
 refine sP [1, 24, 25, 26, 52, 53, 54] [1] ?_
 refine sL [1, 24, 25, 26, 52, 53] [1] (fun k2 : Nat => k2 ≤ x.Out.length ∧ (x.Out.take k2).all okOut = true) (fun k2 : Nat => [(54, RV.int (k2 : Int))]) (fun k2 : Nat => []) (fun k2 : Nat => x.Out.length - k2) 0 (by exact ⟨by omega, by simp⟩) (by exact aI (by exact rfl) (tI)) (by exact ⟨⟩) ?_
 rintro k2 ⟨hk2, ha2⟩
 refine zfm ?_
 refine sc (fun hbc => ?_) (fun hbc => ?_)
 have hlt2 : k2 < x.Out.length := by omega
 refine zed ?_
 refine sT [1, 24, 25, 26, 52, 53, 54] [1] ?_
 refine zfn ?_
 refine sS [1, 6, 24, 25, 26, 52, 53, 54] [1] ?_
 refine rM ?_
 refine rA ?_ (x := cL [(false, [val _])] [(false, [val _])] c_191 (hs := by exact impl_isField))
 refine rA ?_ (x := nT)
 refine sc (fun hbd => ?_) (fun hbd => ?_)
 have hno2 : okOut x.Out[k2] = false := by simpa [okOut] using hbd
 have hn3 : x.Out.all okOut = false := all_no hlt2 hno2
 refine sS [1, 6, 24, 25, 26, 52, 53, 54] [1] ?_
 refine rK ?_
 exact zhn
 have hyes : okOut x.Out[k2] = true := by simpa [okOut] using hbd
 refine sw_skip ?_
 refine sG [1, 6, 24, 25, 26, 52, 53, 54] [1] ?_
 refine zfp ?_
 refine nx (k2 + 1) (by exact ⟨by omega, all_succ ha2 hlt2 hyes⟩)
 have hall2 : x.Out.all okOut = true := all_end (by rw [show x.Out.length = k2 by omega]; exact ha2)
 refine sw_exit ?_
 refine sT [1, 24, 25, 26, 52, 53, 54] [1] ?_
 refine rA ?_ (x := lF fd_65_3)
 refine zfu ?_
 refine rA ?_ (x := cL [(false, [val _]), (false, [val _]), (false, [val _])] [(false, [val _]), (false, [val _]), (false, [val _])] c_114 (hs := by exact impl_within))
 refine rS ?_
 exact zhn
end Go.Proofs.YteflgldonmgejaaGreat
