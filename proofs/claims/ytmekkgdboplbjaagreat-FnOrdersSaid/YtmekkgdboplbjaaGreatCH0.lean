/- What functions of the program compute. No condition. -/
import Derived.Test.YtmekkgdboplbjaaGreatCG0
set_option linter.unusedVariables false
set_option linter.unusedSimpArgs false
namespace Go.Proofs.YtmekkgdboplbjaaGreat
open Go Go.RowKit M PV
set_option maxRecDepth 10000
attribute [local irreducible] PV.Lcl PV.LclR RV.Lcl
theorem Qk {x : f0}  : aw Tryz.prog 199 [(true, [val (vI x.Field), val (vI x.Low), val (vI x.High)])] (av [(false, [val (.bool (jb x))])]) := by
 refine sF Tryz.func199 fun h0 w0 Fz0 => ?_
 refine H7 ?_
 refine rp ?_
 refine rA ?_ (x := lF mm)
 refine rA ?_ (x := lD [val _] aq)
 refine rA ?_ (x := cL [(false, [val _])] [(false, [val _])] yM (hs := by exact zm))
 refine rM ?_
 refine cx 6 (fun ga sga => ?_) (fun ga sga => ?_)
 refine x4 ?_
 refine rB ga ?_ (x := gH)
 refine rj ?_
 refine cx 11 (fun gb sgb => ?_) (fun gb sgb => ?_)
 refine rB gb ?_ (x := lF yN)
 refine rB gb ?_ (x := lD [val _] aq)
 refine rB gb ?_ (x := lF pj)
 refine yi ?_
 refine ko ?_
 refine cx 18 (fun gc sgc => ?_) (fun gc sgc => ?_)
 refine rB gc ?_ (x := lF pj)
 refine rB gc ?_ (x := lD [val _] aq)
 refine rB gc ?_ (x := eR)
 refine rA ?_ (x := aA gc)
 exact mS
 refine lh ?_
 exact mS
 refine lm ?_
 refine an.cases (s := 18) rfl (fun g4 => nomatch g4) (fun g4 => ?_)
 refine zf g4 ?_
 refine rA ?_ (x := ay g4)
 exact mS
 refine ii ?_
 refine an.cases (s := 11) rfl (fun g5 => nomatch g5) (fun g5 => ?_)
 refine zf g5 ?_
 refine rA ?_ (x := ay g5)
 refine rM ?_
 refine an.cases (s := 18) rfl (fun g6 => nomatch g6) (fun g6 => ?_)
 refine zf g6 ?_
 refine rA ?_ (x := ay g6)
 exact mS
theorem Ql {x : f0}  : aw Tryz.prog 164 [(true, [val (vI x.Field), val (vI x.Low), val (vI x.High)])] (av [(false, [val (.bool (jb x))])]) := by
 refine sF Tryz.func164 fun h0 w0 Fz0 => ?_
 refine H7 ?_
 refine rp ?_
 refine rA ?_ (x := lF mm)
 refine qy ?_
 refine rM ?_
 refine cx 6 (fun ga sga => ?_) (fun ga sga => ?_)
 refine x4 ?_
 refine rB ga ?_ (x := lF pj)
 refine rB ga ?_ (x := lD [val _] aq)
 refine tw ?_
 refine rM ?_
 refine cx 13 (fun gb sgb => ?_) (fun gb sgb => ?_)
 refine rB gb ?_ (x := lF pj)
 refine yi ?_
 refine rA ?_ (x := aA gb)
 exact mS
 refine nd ?_
 exact mS
 refine ii ?_
 refine an.cases (s := 13) rfl (fun g3 => nomatch g3) (fun g3 => ?_)
 refine zf g3 ?_
 refine rA ?_ (x := ay g3)
 exact mS
theorem Qm {x : List Int}  : aw Tryz.prog 165 [(false, [sl .v (x.map ai)])] (av [(false, [val (.bool (kz x))])]) := by
 refine sF Tryz.func165 fun h0 w0 Fz0 => ?_
 refine sj 0 fun hl0 => ?_
 refine o6 ?_
 refine sL [0] [] (fun k : Nat => k ≤ x.length ∧ (x.take k).all gN = true) (fun k : Nat => [(3, RV.int (k : Int))]) (fun k : Nat => []) (fun k : Nat => x.length - k) 0 (by exact ⟨by omega, by simp⟩) (by exact aI (by exact rfl) (tI)) (by exact ⟨⟩) ?_
 rintro k ⟨hk, ha⟩
 refine iK ?_
 refine sc (fun hba => ?_) (fun hba => ?_)
 have hlt : k < x.length := by omega
 refine aT ?_
 refine sS [0, 3] [] ?_
 refine oY ?_
 refine G5 ?_
 refine sc (fun hbb => ?_) (fun hbb => ?_)
 have hno : gN x[k] = false := by simpa [gN] using hbb
 refine rn ?_
 exact rb (by simp [kz, jK (P := gN) hlt hno])
 have hyes : gN x[k] = true := by simpa [gN] using hbb
 refine nf ?_
 exact mR
 have hall : x.all gN = true := ik (by rw [show x.length = k by omega]; exact ha)
 refine ng ?_
 refine fZ ?_
 refine rA ?_ (x := cL [(false, [val _]), (false, [val _]), (false, [val _])] [(false, [val _]), (false, [val _]), (false, [val _])] eT (hs := by exact eZ))
 refine cK ?_
 exact rb (by simp [kz, hall, *])
theorem u7 {x : Query}  : aw Tryz.prog 67 [(true, [val (vI x.Id), val (vI x.Tenant), sl .v (x.Conds.map bR), sl .v (x.Out.map ai)])] (av [(false, [val (.bool (bI x))])]) := by
 refine sF Tryz.func67 fun h0 w0 Fz0 => ?_
 refine sn 0 2 fun hl0_2 => ?_
 refine sn 0 3 fun hl0_3 => ?_
 refine l7 ?_
 refine ie ?_
 refine oR ?_
 refine sL [1] [1] (fun k : Nat => k ≤ x.Conds.length ∧ gM ⟨0, 0, 0⟩ jb ky x.Conds k = true) (fun k : Nat => [(3, RV.int (k : Int))]) (fun k : Nat => []) (fun k : Nat => x.Conds.length - k) 0 (by exact ⟨by omega, rfl⟩) (by exact aI (by exact rfl) (tI)) (by exact ⟨⟩) ?_
 rintro k ⟨hk, ha⟩
 refine bu ?_
 refine qY ?_
 refine rA ?_ (x := cb)
 refine sc (fun hba => ?_) (fun hba => ?_)
 have hlt : k < x.Conds.length := by omega
 have hgk : x.Conds.getD k ⟨0, 0, 0⟩ = x.Conds[k] := cY hlt
 have hgp : 0 < k → x.Conds.getD (k - 1) ⟨0, 0, 0⟩ = x.Conds[k - 1] := fun h => cY (by omega)
 refine cE ?_
 refine sQ [1, 3] [1] ?_
 refine b9 bP ?_
 refine x5 ?_
 refine xC ?_
 refine dA 15 ?_ (x := lE [val _, val _, val _] pm)
 refine dA 31 ?_ (x := cL [(true, [val _, val _, val _])] [(true, [val _, val _, val _])] NX (hs := by exact Ql))
 refine dA 63 ?_ (x := nT)
 refine dA 127 ?_ (x := sM)
 refine dx 18 (fun ga sga => ?_) (fun ga sga => ?_)
 refine dT 255 ga ?_
 refine dT 511 ga ?_
 refine dT 1023 ga ?_
 refine dU 2047 ?_
 refine dU 4095 ?_
 refine dU 2047 ?_
 refine dU 16383 ?_
 refine dU 32767 ?_
 refine dU 65535 ?_
 refine dU 2047 ?_
 refine dU 133119 ?_
 refine dU 2047 ?_
 refine dU 526335 ?_
 refine dU 1968127 ?_
 refine dU 4065279 ?_
 refine dU 8259583 ?_
 refine dU 16777215 ?_
 refine dT 33554431 ga ?_
 refine dA 67108863 ?_ (x := aA ga)
 refine bC ?_
 exact Cd
 refine dB 255 ga ?_ (x := sM)
 refine dB 511 ga ?_ (x := dD)
 refine dB 1023 ga ?_ (x := sM)
 refine dx 21 (fun gb sgb => ?_) (fun gb sgb => ?_)
 refine dB 2047 gb ?_ (x := lF iO)
 refine dB 4095 gb ?_ (x := lD [sl .v _] iP)
 refine dB 2047 gb ?_ (x := sM)
 refine dB 16383 gb ?_ (x := aD (by decide) gv (by exact ⟨⟩) (by exact rfl) (by exact aE (by omega) rfl) (by exact rfl))
 refine dB 32767 gb ?_ (x := bl (by decide) mm (by exact nl rfl))
 refine dB 65535 gb ?_ (x := lE [val _] aq)
 refine dB 2047 gb ?_ (x := lF iO)
 refine dB 133119 gb ?_ (x := lD [sl .v _] iP)
 refine dB 2047 gb ?_ (x := sM)
 refine dB 526335 gb ?_ (x := er)
 refine dB 1968127 gb ?_ (x := aD (k := k - 1) (by decide) gv (by exact ⟨⟩) (by omega) (by exact aE (by omega) rfl) (by exact rfl))
 refine dB 4065279 gb ?_ (x := bl (by decide) mm (by exact nl rfl))
 refine dB 8259583 gb ?_ (x := lE [val _] aq)
 refine dB 16777215 gb ?_ (x := eR)
 refine dB 33554431 ga ?_ (x := aA gb)
 refine dA 67108863 ?_ (x := ay ga)
 refine sc (fun hbb => ?_) (fun hbb => ?_)
 exact Cd
 exact Cf
 refine dF 2047 gb ?_
 refine dF 4095 gb ?_
 refine dF 2047 gb ?_
 refine dF 16383 gb ?_
 refine dF 32767 gb ?_
 refine dF 65535 gb ?_
 refine dF 2047 gb ?_
 refine dF 133119 gb ?_
 refine dF 2047 gb ?_
 refine dF 526335 gb ?_
 refine dF 1968127 gb ?_
 refine dF 4065279 gb ?_
 refine dF 8259583 gb ?_
 refine dF 16777215 gb ?_
 refine dB 33554431 ga ?_ (x := ay gb)
 refine dA 67108863 ?_ (x := ay ga)
 refine dk ?_
 exact Cf
 have hend : k = x.Conds.length := by omega
 have hall : cw ⟨0, 0, 0⟩ jb ky x.Conds = true := lu ha hend
 refine rg ?_
 refine rA ?_ (x := lF gu)
 refine qy ?_
 refine rM ?_
 refine cx 41 (fun ga sga => ?_) (fun ga sga => ?_)
 refine tZ ?_
 refine tw ?_
 refine rM ?_
 refine cx 46 (fun gb sgb => ?_) (fun gb sgb => ?_)
 refine ua ?_
 refine rB gb ?_ (x := eR)
 refine ko ?_
 refine cx 52 (fun gc sgc => ?_) (fun gc sgc => ?_)
 refine rB gc ?_ (x := lF kD)
 refine rB gc ?_ (x := lD [sl .v _] aZ)
 refine rB gc ?_ (x := cL [(false, [sl _ _])] [(false, [sl .v _])] NY (hs := by exact Qm))
 refine rA ?_ (x := aA gc)
 exact s5
 refine lh ?_
 exact s5
 refine lm ?_
 refine an.cases (s := 52) rfl (fun g10 => nomatch g10) (fun g10 => ?_)
 refine oP ?_
 exact s5
 refine ii ?_
 refine an.cases (s := 46) rfl (fun g11 => nomatch g11) (fun g11 => ?_)
 refine ue ?_
 refine rM ?_
 refine an.cases (s := 52) rfl (fun g12 => nomatch g12) (fun g12 => ?_)
 refine zf g12 ?_
 refine rA ?_ (x := ay g12)
 exact s5
theorem zp {x : Query}  : aw Tryz.prog 101 [(true, [val (vI x.Id), val (vI x.Tenant), sl .v (x.Conds.map bR), sl .v (x.Out.map ai)])] (av [(false, [val (.bool (bI x))])]) := by
 refine sF Tryz.func101 fun h0 w0 Fz0 => ?_
 refine sn 0 2 fun hl0_2 => ?_
 refine sn 0 3 fun hl0_3 => ?_
 refine l7 ?_
 refine ie ?_
 refine rA ?_ (x := lF gu)
 refine tu ?_
 refine dI ?_
 refine cx 11 (fun ga sga => ?_) (fun ga sga => ?_)
 refine ij ?_
 refine an.cases (s := 17) rfl (fun g2 => ?_) (fun g2 => nomatch g2)
 refine qI ?_
 refine bC ?_
 exact wJ
 refine tZ ?_
 refine qz ?_
 refine gJ ?_
 refine cx 17 (fun gb sgb => ?_) (fun gb sgb => ?_)
 refine oQ ?_
 refine bC ?_
 exact wJ
 refine ua ?_
 refine rB gb ?_ (x := dD)
 refine rA ?_ (x := ay gb)
 refine sc (fun hba => ?_) (fun hba => ?_)
 exact wJ
 have hfirst : (aB x.Id 0 23 && (aB x.Tenant 0 3 && decide ((x.Conds.length : Int) ≤ 3))) = true := by simp_all
 refine nq ?_
 refine qY ?_
 refine cj ?_
 refine sP [1, 2, 24, 25, 26] [1] ?_
 refine sL [1, 24, 25] [1] (fun k : Nat => k ≤ x.Conds.length ∧ gM ⟨0, 0, 0⟩ jb ky x.Conds k = true) (fun k : Nat => [(26, RV.int (k : Int))]) (fun k : Nat => []) (fun k : Nat => x.Conds.length - k) 0 (by exact ⟨by omega, rfl⟩) (by exact aI (by exact rfl) (tI)) (by exact ⟨⟩) ?_
 rintro k ⟨hk, ha⟩
 refine bG ?_
 refine sc (fun hbb => ?_) (fun hbb => ?_)
 have hlt : k < x.Conds.length := by omega
 have hgk : x.Conds.getD k ⟨0, 0, 0⟩ = x.Conds[k] := cY hlt
 have hgp : 0 < k → x.Conds.getD (k - 1) ⟨0, 0, 0⟩ = x.Conds[k - 1] := fun h => cY (by omega)
 refine aT ?_
 refine sT [1, 24, 25, 26] [1] ?_
 refine rM ?_
 refine Hh ?_
 refine rX ?_ (x := (bB (by decide) ly yP))
 refine rS ?_
 refine HL ?_
 refine sO [(1, _), (3, _), (4, _), (24, _), (25, _), (26, _)] [(1, _), (4, (178, [val _, val _, val _]))] ?_
 refine b9 bP ?_
 refine dA 0 ?_ (x := lD [val _, val _, val _] pm)
 refine dA 1 ?_ (x := cL [(true, [val _, val _, val _])] [(true, [val _, val _, val _])] N0 (hs := by exact Qk))
 refine dA 3 ?_ (x := nT)
 refine dA 7 ?_ (x := sM)
 refine dx 34 (fun gc sgc => ?_) (fun gc sgc => ?_)
 refine dT 15 gc ?_
 refine dT 31 gc ?_
 refine dT 63 gc ?_
 refine dU 127 ?_
 refine dU 255 ?_
 refine dU 127 ?_
 refine dU 639 ?_
 refine dU 2047 ?_
 refine rq ?_
 refine dU 127 ?_
 refine dU 16511 ?_
 refine dU 65535 ?_
 refine dT 131071 gc ?_
 refine dA 262143 ?_ (x := aA gc)
 refine bC ?_
 exact Cg
 refine dB 15 gc ?_ (x := sM)
 refine dB 31 gc ?_ (x := dD)
 refine dB 63 gc ?_ (x := sM)
 refine dx 37 (fun gd sgd => ?_) (fun gd sgd => ?_)
 refine dB 127 gd ?_ (x := lF iO)
 refine dB 255 gd ?_ (x := lD [sl .v _] iP)
 refine dB 127 gd ?_ (x := sM)
 refine dB 639 gd ?_ (x := er)
 refine dB 2047 gd ?_ (x := aD (k := k - 1) (by decide) gv (by exact ⟨⟩) (by omega) (by exact aE (by omega) rfl) (by exact rfl))
 refine dB 4095 gd ?_ (x := bl (by decide) mm (by exact nl rfl))
 refine dB 8191 gd ?_ (x := lE [val _] aq)
 refine dB 127 gd ?_ (x := lF mm)
 refine dB 16511 gd ?_ (x := lD [val _] aq)
 refine dB 65535 gd ?_ (x := gH)
 refine dB 131071 gc ?_ (x := aA gd)
 refine dA 262143 ?_ (x := ay gc)
 refine sc (fun hbc => ?_) (fun hbc => ?_)
 exact Cg
 exact Ch
 refine dF 127 gd ?_
 refine dF 255 gd ?_
 refine dF 127 gd ?_
 refine dF 639 gd ?_
 refine dF 2047 gd ?_
 refine dF 4095 gd ?_
 refine dF 8191 gd ?_
 refine dF 127 gd ?_
 refine dF 16511 gd ?_
 refine dF 65535 gd ?_
 refine dB 131071 gc ?_ (x := ay gd)
 refine dA 262143 ?_ (x := ay gc)
 refine dk ?_
 exact Ch
 have hend : k = x.Conds.length := by omega
 have hall : cw ⟨0, 0, 0⟩ jb ky x.Conds = true := lu ha hend
 refine et ?_
 refine sT [1, 24, 25, 26] [1] ?_
 refine rA ?_ (x := lF kD)
 refine m8 ?_
 refine cj ?_
 refine sP [1, 24, 25, 26, 52, 53, 54] [1] ?_
 refine sL [1, 24, 25, 26, 52, 53] [1] (fun k2 : Nat => k2 ≤ x.Out.length ∧ (x.Out.take k2).all gN = true) (fun k2 : Nat => [(54, RV.int (k2 : Int))]) (fun k2 : Nat => []) (fun k2 : Nat => x.Out.length - k2) 0 (by exact ⟨by omega, by simp⟩) (by exact aI (by exact rfl) (tI)) (by exact ⟨⟩) ?_
 rintro k2 ⟨hk2, ha2⟩
 refine bG ?_
 refine sc (fun hbc => ?_) (fun hbc => ?_)
 have hlt2 : k2 < x.Out.length := by omega
 refine aT ?_
 refine sT [1, 24, 25, 26, 52, 53, 54] [1] ?_
 refine kt ?_
 refine sS [1, 6, 24, 25, 26, 52, 53, 54] [1] ?_
 refine rM ?_
 refine rA ?_ (x := cL [(false, [val _])] [(false, [val _])] yM (hs := by exact zm))
 refine rA ?_ (x := nT)
 refine sc (fun hbd => ?_) (fun hbd => ?_)
 have hno2 : gN x.Out[k2] = false := by simpa [gN] using hbd
 have hn3 : x.Out.all gN = false := jK hlt2 hno2
 refine sS [1, 6, 24, 25, 26, 52, 53, 54] [1] ?_
 refine rK ?_
 exact s6
 have hyes : gN x.Out[k2] = true := by simpa [gN] using hbd
 refine aN ?_
 refine sG [1, 6, 24, 25, 26, 52, 53, 54] [1] ?_
 refine b5 ?_
 refine nx (k2 + 1) (by exact ⟨by omega, yB ha2 hlt2 hyes⟩)
 have hall2 : x.Out.all gN = true := ik (by rw [show x.Out.length = k2 by omega]; exact ha2)
 refine aX ?_
 refine sT [1, 24, 25, 26, 52, 53, 54] [1] ?_
 refine rA ?_ (x := lF kD)
 refine m8 ?_
 refine rA ?_ (x := cL [(false, [val _]), (false, [val _]), (false, [val _])] [(false, [val _]), (false, [val _]), (false, [val _])] iN (hs := by exact iU))
 refine rS ?_
 exact s6
theorem Qn {x : Update}  : aw Tryz.prog 194 [(true, [val (vI x.Kind), val (vI x.Row.Id), sl .v (x.Row.Values.map ai), val (vI x.Field), val (vI x.Value)])] (av [(false, [val (.bool (fH x))])]) := by
 refine sF Tryz.func194 fun h0 w0 Fz0 => ?_
 refine sn 0 2 fun hl0_2 => ?_
 refine sR ?_
 refine rX ?_ (x := (db (ag := true) (cs := [val _, val _, sl _ _, val _, val _]) (by decide) (by exact ⟨⟩)))
 refine ie ?_
 refine yl ?_
 refine iE ?_
 refine sS [1, 2, 4] [1] ?_
 refine mb ?_
 refine sc (fun hba => ?_) (fun hba => ?_)
 refine sS [1, 2, 4] [1] ?_
 refine rA ?_ (x := lF mo)
 refine rA ?_ (x := lD [val _, sl .v _] ew)
 refine rA ?_ (x := cL [(true, [val _, sl _ _])] [(true, [val _, sl .v _])] uB (hs := by exact u6))
 refine rM ?_
 refine cx 10 (fun ga sga => ?_) (fun ga sga => ?_)
 refine rB ga ?_ (x := lF rD)
 refine rB ga ?_ (x := lD [val _] aq)
 refine nb ?_
 refine rM ?_
 refine cx 15 (fun gb sgb => ?_) (fun gb sgb => ?_)
 refine rB gb ?_ (x := lF rE)
 refine rB gb ?_ (x := lD [val _] aq)
 refine rB gb ?_ (x := dY)
 refine rA ?_ (x := aA gb)
 exact jB
 refine nd ?_
 exact jB
 refine ii ?_
 refine an.cases (s := 15) rfl (fun g4 => nomatch g4) (fun g4 => ?_)
 refine zf g4 ?_
 refine rA ?_ (x := ay g4)
 exact jB
 refine sS [1, 2, 4] [1] ?_
 refine mb ?_
 refine sc (fun hbb => ?_) (fun hbb => ?_)
 refine sS [1, 2, 4] [1] ?_
 refine yn ?_
 refine qy ?_
 refine rM ?_
 refine cx 26 (fun ga sga => ?_) (fun ga sga => ?_)
 refine rB ga ?_ (x := lF mo)
 refine qM ?_
 refine rB ga ?_ (x := lN a3)
 refine nb ?_
 refine rM ?_
 refine cx 33 (fun gb sgb => ?_) (fun gb sgb => ?_)
 refine rB gb ?_ (x := lF rD)
 refine rB gb ?_ (x := lD [val _] aq)
 refine rB gb ?_ (x := dY)
 refine ko ?_
 refine cx 38 (fun gc sgc => ?_) (fun gc sgc => ?_)
 refine rB gc ?_ (x := lF rE)
 refine rB gc ?_ (x := lD [val _] aq)
 refine rB gc ?_ (x := dY)
 refine rA ?_ (x := aA gc)
 exact jB
 refine lh ?_
 exact jB
 refine lm ?_
 refine an.cases (s := 38) rfl (fun g9 => nomatch g9) (fun g9 => ?_)
 refine rc ?_
 exact jB
 refine ii ?_
 refine an.cases (s := 33) rfl (fun g10 => nomatch g10) (fun g10 => ?_)
 refine oP ?_
 refine rM ?_
 refine an.cases (s := 38) rfl (fun g11 => nomatch g11) (fun g11 => ?_)
 refine ue ?_
 exact jB
 refine sS [1, 2, 4] [1] ?_
 refine mb ?_
 refine sc (fun hbc => ?_) (fun hbc => ?_)
 refine sS [1, 2, 4] [1] ?_
 refine yn ?_
 refine qy ?_
 refine rM ?_
 refine cx 49 (fun ga sga => ?_) (fun ga sga => ?_)
 refine rB ga ?_ (x := lF mo)
 refine qM ?_
 refine rB ga ?_ (x := lN a3)
 refine nb ?_
 refine rM ?_
 refine cx 56 (fun gb sgb => ?_) (fun gb sgb => ?_)
 refine rB gb ?_ (x := lF rD)
 refine rB gb ?_ (x := lD [val _] aq)
 refine rB gb ?_ (x := cL [(false, [val _]), (false, [val _]), (false, [val _])] [(false, [val _]), (false, [val _]), (false, [val _])] eT (hs := by exact eZ))
 refine ko ?_
 refine cx 61 (fun gc sgc => ?_) (fun gc sgc => ?_)
 refine rB gc ?_ (x := lF rE)
 refine rB gc ?_ (x := lD [val _] aq)
 refine xw ?_
 exact jB
 refine lh ?_
 exact jB
 refine lm ?_
 refine an.cases (s := 61) rfl (fun g16 => nomatch g16) (fun g16 => ?_)
 refine uf ?_
 exact jB
 refine ii ?_
 refine an.cases (s := 56) rfl (fun g17 => nomatch g17) (fun g17 => ?_)
 refine ug ?_
 refine rM ?_
 refine an.cases (s := 61) rfl (fun g18 => nomatch g18) (fun g18 => ?_)
 refine uh ?_
 exact jB
 refine aN ?_
 refine sS [1, 2, 4] [1] ?_
 refine rK ?_
 exact Ci
end Go.Proofs.YtmekkgdboplbjaaGreat
