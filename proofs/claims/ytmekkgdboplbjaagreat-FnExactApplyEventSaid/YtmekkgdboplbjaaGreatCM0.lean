/- What functions of the program compute. No condition. -/
import Derived.Test.YtmekkgdboplbjaaGreatCL0
set_option linter.all false
namespace Go.Proofs.YtmekkgdboplbjaaGreat
open Go Go.RowKit M PV Tryz
set_option maxRecDepth 10000
attribute [local irreducible] PV.Lcl PV.LclR RV.Lcl
def TN {x : cS}  : aC prog 199 [(true, [val (vI x.Field), val (vI x.Low), val (vI x.High)])] (az [(false, [val (.bool (j9 x))])]) := by
 refine sF func199 fun h0 w0 Fz0 => ?_
 refine u8 ?_
 refine lH ?_
 refine zS ?_
 refine rA ?_ (x := cL [(false, [val _])] [(false, [val _])] AF (hs := by exact Bd))
 refine rM ?_
 refine cx 6 (fun ga sga => ?_) (fun ga sga => ?_)
 refine zI ?_
 refine rB ga ?_ (x := hR)
 refine gk ?_
 refine cx 11 (fun gb sgb => ?_) (fun gb sgb => ?_)
 refine rB gb ?_ (x := lF om)
 refine rB gb ?_ (x := lD [val _] au)
 refine rB gb ?_ (x := lF kS)
 refine zV ?_
 refine gj ?_
 refine cx 18 (fun gc sgc => ?_) (fun gc sgc => ?_)
 refine rB gc ?_ (x := lF kS)
 refine rB gc ?_ (x := lD [val _] au)
 refine rB gc ?_ (x := ir)
 refine rA ?_ (x := aR gc)
 exact oO
 refine nL ?_
 exact oO
 refine fQ ?_
 refine aq.cases (s := 18) rfl (fun g4 => nomatch g4) (fun g4 => ?_)
 refine qR ?_
 exact oO
 refine gA ?_
 refine aq.cases (s := 11) rfl (fun g5 => nomatch g5) (fun g5 => ?_)
 refine qS ?_
 refine rM ?_
 refine aq.cases (s := 18) rfl (fun g6 => nomatch g6) (fun g6 => ?_)
 refine pk ?_
 exact oO
def TO {x : cS}  : aC prog 164 [(true, [val (vI x.Field), val (vI x.Low), val (vI x.High)])] (az [(false, [val (.bool (j9 x))])]) := by
 refine sF func164 fun h0 w0 Fz0 => ?_
 refine u8 ?_
 refine lH ?_
 refine rA ?_ (x := lF kR)
 refine sk ?_
 refine rM ?_
 refine cx 6 (fun ga sga => ?_) (fun ga sga => ?_)
 refine zI ?_
 refine rB ga ?_ (x := lF kS)
 refine si ?_
 refine gk ?_
 refine cx 13 (fun gb sgb => ?_) (fun gb sgb => ?_)
 refine rB gb ?_ (x := lF kS)
 refine zV ?_
 refine rA ?_ (x := aR gb)
 exact oO
 refine s4 ?_
 exact oO
 refine gA ?_
 refine aq.cases (s := 13) rfl (fun g3 => nomatch g3) (fun g3 => ?_)
 refine zf g3 ?_
 refine rA ?_ (x := aK g3)
 exact oO
def TP {x : List Int}  : aC prog 165 [(false, [sl .v (x.map ak)])] (az [(false, [val (.bool (kN x))])]) := by
 refine sF func165 fun h0 w0 Fz0 => ?_
 refine sj 0 fun hl0 => ?_
 refine pq ?_
 refine qV ?_
 refine sL [0] [] (fun k : Nat => k ≤ x.length ∧ (x.take k).all iZ = true) (fun k : Nat => [(3, RV.int (k : Int))]) (fun k : Nat => []) (fun k : Nat => x.length - k) 0 (by exact ⟨by omega, by simp⟩) (by exact aI (by exact rfl) tI) (by exact tI) ?_
 rintro k ⟨hk, ha⟩
 refine jl ?_
 refine sc (fun hba => ?_) (fun hba => ?_)
 have hlt : k < x.length := by omega
 refine bB ?_
 refine sS [0, 3] [] ?_
 refine lv ?_
 refine mq ?_
 refine HG ?_
 refine sc (fun hbb => ?_) (fun hbb => ?_)
 have hno : iZ x[k] = false := by simpa [iZ] using hbb
 refine tf ?_
 exact rb (by simp [kN, kI (P := iZ) hlt hno])
 have hyes : iZ x[k] = true := by simpa [iZ] using hbb
 refine qW ?_
 exact oN
 have hall : x.all iZ = true := jm (by rw [show x.length = k by omega]; exact ha)
 refine qX ?_
 refine iV ?_
 refine rA ?_ (x := cL [(false, [val _]), (false, [val _]), (false, [val _])] [(false, [val _]), (false, [val _]), (false, [val _])] fF (hs := by exact fJ))
 refine d5 ?_
 exact rb (by simp [kN, hall, *])
def wD {x : Wt}  : aC prog 67 [(true, [val (vI x.Id), val (vI x.Wx), sl .v (x.Wu.map bf), sl .v (x.Out.map ak)])] (az [(false, [val (.bool (cv x))])]) := by
 refine sF func67 fun h0 w0 Fz0 => ?_
 refine sn 0 2 fun hl0_2 => ?_
 refine sn 0 3 fun hl0_3 => ?_
 refine mw ?_
 refine kD ?_
 refine s8 ?_
 refine sL [1] [1] (fun k : Nat => k ≤ x.Wu.length ∧ jQ ⟨0, 0, 0⟩ j9 lO x.Wu k = true) (fun k : Nat => [(3, RV.int (k : Int))]) (fun k : Nat => []) (fun k : Nat => x.Wu.length - k) 0 (by exact ⟨by omega, rfl⟩) (by exact aI (by exact rfl) tI) (by exact tI) ?_
 rintro k ⟨hk, ha⟩
 refine d6 ?_
 refine ph ?_
 refine vq ?_
 refine sc (fun hba => ?_) (fun hba => ?_)
 have hlt : k < x.Wu.length := by omega
 have hgk : x.Wu.getD k ⟨0, 0, 0⟩ = x.Wu[k] := gn hlt
 have hgp : 0 < k → x.Wu.getD (k - 1) ⟨0, 0, 0⟩ = x.Wu[k - 1] := fun h => gn (by omega)
 refine cF ?_
 refine sQ [1, 3] [1] ?_
 refine db cJ ?_
 refine dA 0 ?_ (x := lF i6)
 refine dA 1 ?_ (x := lD [sl .v _] i7)
 refine Ig ?_
 refine dA 15 ?_ (x := lE [val _, val _, val _] lX)
 refine dA 31 ?_ (x := cL [(true, [val _, val _, val _])] [(true, [val _, val _, val _])] Pb (hs := by exact TO))
 refine dA 63 ?_ (x := nT)
 refine dA 127 ?_ (x := sM)
 refine dx 18 (fun ga sga => ?_) (fun ga sga => ?_)
 refine dT 255 ga ?_
 refine dT 511 ga ?_
 refine dT 1023 ga ?_
 refine dU 2047 ?_
 refine dU 4095 ?_
 refine dU 2047 ?_
 refine dU 16383 ?_
 refine dU 32767 ?_
 refine dU 65535 ?_
 refine dU 2047 ?_
 refine dU 133119 ?_
 refine dU 2047 ?_
 refine dU 526335 ?_
 refine dU 1968127 ?_
 refine dU 4065279 ?_
 refine dU 8259583 ?_
 refine dU 16777215 ?_
 refine dT 33554431 ga ?_
 refine dA 67108863 ?_ (x := aR ga)
 refine dc ?_
 exact DO
 refine dB 255 ga ?_ (x := sM)
 refine dB 511 ga ?_ (x := eg)
 refine dB 1023 ga ?_ (x := sM)
 refine dx 21 (fun gb sgb => ?_) (fun gb sgb => ?_)
 refine dB 2047 gb ?_ (x := lF i6)
 refine dB 4095 gb ?_ (x := lD [sl .v _] i7)
 refine dB 2047 gb ?_ (x := sM)
 refine dB 16383 gb ?_ (x := aY (by decide) dZ (by exact tI) (by exact rfl) (by exact be (by omega) rfl) (by exact rfl))
 refine dB 32767 gb ?_ (x := bE (by decide) kR (by exact nl rfl))
 refine dB 65535 gb ?_ (x := lE [val _] au)
 refine dB 2047 gb ?_ (x := lF i6)
 refine dB 133119 gb ?_ (x := lD [sl .v _] i7)
 refine dB 2047 gb ?_ (x := sM)
 refine dB 526335 gb ?_ (x := gS)
 refine dB 1968127 gb ?_ (x := aY (k := k - 1) (by decide) dZ (by exact tI) (by omega) (by exact be (by omega) rfl) (by exact rfl))
 refine dB 4065279 gb ?_ (x := bE (by decide) kR (by exact nl rfl))
 refine dB 8259583 gb ?_ (x := lE [val _] au)
 refine dB 16777215 gb ?_ (x := ir)
 refine dB 33554431 ga ?_ (x := aR gb)
 refine dA 67108863 ?_ (x := aK ga)
 refine sc (fun hbb => ?_) (fun hbb => ?_)
 exact DO
 exact DQ
 refine dF 2047 gb ?_
 refine dF 4095 gb ?_
 refine dF 2047 gb ?_
 refine dF 16383 gb ?_
 refine dF 32767 gb ?_
 refine dF 65535 gb ?_
 refine dF 2047 gb ?_
 refine dF 133119 gb ?_
 refine dF 2047 gb ?_
 refine dF 526335 gb ?_
 refine dF 1968127 gb ?_
 refine dF 4065279 gb ?_
 refine dF 8259583 gb ?_
 refine dF 16777215 gb ?_
 refine dB 33554431 ga ?_ (x := aK gb)
 refine dA 67108863 ?_ (x := aK ga)
 refine fh ?_
 exact DQ
 have hend : k = x.Wu.length := by omega
 have hall : ew ⟨0, 0, 0⟩ j9 lO x.Wu = true := pL ha hend
 refine vS ?_
 refine rA ?_ (x := lF e8)
 refine sk ?_
 refine rM ?_
 refine cx 41 (fun ga sga => ?_) (fun ga sga => ?_)
 refine rB ga ?_ (x := lF i5)
 refine si ?_
 refine gk ?_
 refine cx 46 (fun gb sgb => ?_) (fun gb sgb => ?_)
 refine sN ?_
 refine rB gb ?_ (x := lN dZ)
 refine rB gb ?_ (x := ir)
 refine gj ?_
 refine cx 52 (fun gc sgc => ?_) (fun gc sgc => ?_)
 refine vi ?_
 refine rB gc ?_ (x := cL [(false, [sl _ _])] [(false, [sl .v _])] Pc (hs := by exact TP))
 refine rA ?_ (x := aR gc)
 exact uj
 refine nL ?_
 exact uj
 refine fQ ?_
 refine aq.cases (s := 52) rfl (fun g10 => nomatch g10) (fun g10 => ?_)
 refine pj ?_
 exact uj
 refine gA ?_
 refine aq.cases (s := 46) rfl (fun g11 => nomatch g11) (fun g11 => ?_)
 refine vK ?_
 refine rM ?_
 refine aq.cases (s := 52) rfl (fun g12 => nomatch g12) (fun g12 => ?_)
 refine zf g12 ?_
 refine rA ?_ (x := aK g12)
 exact uj
def Bg {x : Wt}  : aC prog 101 [(true, [val (vI x.Id), val (vI x.Wx), sl .v (x.Wu.map bf), sl .v (x.Out.map ak)])] (az [(false, [val (.bool (cv x))])]) := by
 refine sF func101 fun h0 w0 Fz0 => ?_
 refine sn 0 2 fun hl0_2 => ?_
 refine sn 0 3 fun hl0_3 => ?_
 refine mw ?_
 refine kD ?_
 refine rA ?_ (x := lF e8)
 refine Gj ?_
 refine fB ?_
 refine cx 11 (fun ga sga => ?_) (fun ga sga => ?_)
 refine jN ?_
 refine aq.cases (s := 17) rfl (fun g2 => ?_) (fun g2 => nomatch g2)
 refine va ?_
 refine dc ?_
 exact xY
 refine rB ga ?_ (x := lF i5)
 refine Ai ?_
 refine mB ?_
 refine cx 17 (fun gb sgb => ?_) (fun gb sgb => ?_)
 refine vQ ?_
 refine dc ?_
 exact xY
 refine sN ?_
 refine rB gb ?_ (x := lN dZ)
 refine rB gb ?_ (x := eg)
 refine rA ?_ (x := aK gb)
 refine sc (fun hba => ?_) (fun hba => ?_)
 exact xY
 have hfirst : (aV x.Id 0 23 && (aV x.Wx 0 3 && decide ((x.Wu.length : Int) ≤ 3))) = true := by simp_all
 refine te ?_
 refine ph ?_
 refine rA ?_ (x := lN dZ)
 refine dI ?_
 refine sP [1, 2, 24, 25, 26] [1] ?_
 refine sL [1, 24, 25] [1] (fun k : Nat => k ≤ x.Wu.length ∧ jQ ⟨0, 0, 0⟩ j9 lO x.Wu k = true) (fun k : Nat => [(26, RV.int (k : Int))]) (fun k : Nat => []) (fun k : Nat => x.Wu.length - k) 0 (by exact ⟨by omega, rfl⟩) (by exact aI (by exact rfl) tI) (by exact tI) ?_
 rintro k ⟨hk, ha⟩
 refine ct ?_
 refine sc (fun hbb => ?_) (fun hbb => ?_)
 have hlt : k < x.Wu.length := by omega
 have hgk : x.Wu.getD k ⟨0, 0, 0⟩ = x.Wu[k] := gn hlt
 have hgp : 0 < k → x.Wu.getD (k - 1) ⟨0, 0, 0⟩ = x.Wu[k - 1] := fun h => gn (by omega)
 refine bB ?_
 refine sT [1, 24, 25, 26] [1] ?_
 refine rM ?_
 refine HO ?_
 refine rX ?_ (x := (bR (by decide) mS tu))
 refine rS ?_
 refine Iu ?_
 refine sO [(1, _), (3, _), (4, _), (24, _), (25, _), (26, _)] [(1, _), (4, (178, [val _, val _, val _]))] ?_
 refine db cJ ?_
 refine dA 0 ?_ (x := lD [val _, val _, val _] lX)
 refine dA 1 ?_ (x := cL [(true, [val _, val _, val _])] [(true, [val _, val _, val _])] Ph (hs := by exact TN))
 refine dA 3 ?_ (x := nT)
 refine dA 7 ?_ (x := sM)
 refine dx 34 (fun gc sgc => ?_) (fun gc sgc => ?_)
 refine dT 15 gc ?_
 refine dT 31 gc ?_
 refine dT 63 gc ?_
 refine dU 127 ?_
 refine dU 255 ?_
 refine dU 127 ?_
 refine dU 639 ?_
 refine dU 2047 ?_
 refine dU 4095 ?_
 refine dU 8191 ?_
 refine dU 127 ?_
 refine dU 16511 ?_
 refine dU 65535 ?_
 refine dT 131071 gc ?_
 refine dA 262143 ?_ (x := aR gc)
 refine dc ?_
 exact DR
 refine dB 15 gc ?_ (x := sM)
 refine dB 31 gc ?_ (x := eg)
 refine dB 63 gc ?_ (x := sM)
 refine dx 37 (fun gd sgd => ?_) (fun gd sgd => ?_)
 refine dB 127 gd ?_ (x := lF i6)
 refine dB 255 gd ?_ (x := lD [sl .v _] i7)
 refine dB 127 gd ?_ (x := sM)
 refine dB 639 gd ?_ (x := gS)
 refine dB 2047 gd ?_ (x := aY (k := k - 1) (by decide) dZ (by exact tI) (by omega) (by exact be (by omega) rfl) (by exact rfl))
 refine dB 4095 gd ?_ (x := bE (by decide) kR (by exact nl rfl))
 refine dB 8191 gd ?_ (x := lE [val _] au)
 refine dB 127 gd ?_ (x := lF kR)
 refine dB 16511 gd ?_ (x := lD [val _] au)
 refine dB 65535 gd ?_ (x := hR)
 refine dB 131071 gc ?_ (x := aR gd)
 refine dA 262143 ?_ (x := aK gc)
 refine sc (fun hbc => ?_) (fun hbc => ?_)
 exact DR
 exact DS
 refine dF 127 gd ?_
 refine dF 255 gd ?_
 refine dF 127 gd ?_
 refine dF 639 gd ?_
 refine dF 2047 gd ?_
 refine dF 4095 gd ?_
 refine dF 8191 gd ?_
 refine dF 127 gd ?_
 refine dF 16511 gd ?_
 refine dF 65535 gd ?_
 refine dB 131071 gc ?_ (x := aK gd)
 refine dA 262143 ?_ (x := aK gc)
 refine fh ?_
 exact DS
 have hend : k = x.Wu.length := by omega
 have hall : ew ⟨0, 0, 0⟩ j9 lO x.Wu = true := pL ha hend
 refine gV ?_
 refine sT [1, 24, 25, 26] [1] ?_
 refine rA ?_ (x := lF jv)
 refine pb ?_
 refine dI ?_
 refine sP [1, 24, 25, 26, 52, 53, 54] [1] ?_
 refine sL [1, 24, 25, 26, 52, 53] [1] (fun k2 : Nat => k2 ≤ x.Out.length ∧ (x.Out.take k2).all iZ = true) (fun k2 : Nat => [(54, RV.int (k2 : Int))]) (fun k2 : Nat => []) (fun k2 : Nat => x.Out.length - k2) 0 (by exact ⟨by omega, by simp⟩) (by exact aI (by exact rfl) tI) (by exact tI) ?_
 rintro k2 ⟨hk2, ha2⟩
 refine ct ?_
 refine sc (fun hbc => ?_) (fun hbc => ?_)
 have hlt2 : k2 < x.Out.length := by omega
 refine bB ?_
 refine sT [1, 24, 25, 26, 52, 53, 54] [1] ?_
 refine mI ?_
 refine sS [1, 6, 24, 25, 26, 52, 53, 54] [1] ?_
 refine rM ?_
 refine rA ?_ (x := cL [(false, [val _])] [(false, [val _])] AF (hs := by exact Bd))
 refine rA ?_ (x := nT)
 refine sc (fun hbd => ?_) (fun hbd => ?_)
 have hno2 : iZ x.Out[k2] = false := by simpa [iZ] using hbd
 have hn3 : x.Out.all iZ = false := kI hlt2 hno2
 refine sS [1, 6, 24, 25, 26, 52, 53, 54] [1] ?_
 refine rK ?_
 exact uk
 have hyes : iZ x.Out[k2] = true := by simpa [iZ] using hbd
 refine bl ?_
 refine sG [1, 6, 24, 25, 26, 52, 53, 54] [1] ?_
 refine c0 ?_
 refine nx (k2 + 1) (by exact ⟨by omega, Ak ha2 hlt2 hyes⟩)
 have hall2 : x.Out.all iZ = true := jm (by rw [show x.Out.length = k2 by omega]; exact ha2)
 refine bF ?_
 refine sT [1, 24, 25, 26, 52, 53, 54] [1] ?_
 refine rA ?_ (x := lF jv)
 refine pb ?_
 refine rA ?_ (x := cL [(false, [val _]), (false, [val _]), (false, [val _])] [(false, [val _]), (false, [val _]), (false, [val _])] jo (hs := by exact jC))
 refine rS ?_
 exact uk
def Lb {x : Wv}  : aC prog 189 [(true, [val (vI x.Kind), val (vI x.Row.Id), sl .v (x.Row.Values.map ak), val (vI x.Field), val (vI x.Value)])] (az [(false, [val (.bool (i1 x))])]) := by
 refine sF func189 fun h0 w0 Fz0 => ?_
 refine sn 0 2 fun hl0_2 => ?_
 refine qG ?_
 refine lH ?_
 refine sY ?_
 refine pA ?_
 refine cx 8 (fun ga sga => ?_) (fun ga sga => ?_)
 refine rB ga ?_ (x := lF gF)
 refine qJ ?_
 refine vn ?_
 refine rA ?_ (x := aR ga)
 refine vT ?_
 refine rA ?_ (x := lF kT)
 refine vb ?_
 refine qO ?_
 refine sc (fun hba => ?_) (fun hba => ?_)
 refine sS [1, 2, 3, 16] [1] ?_
 refine rA ?_ (x := lF gF)
 refine y9 ?_
 refine rM ?_
 refine cx 22 (fun gb sgb => ?_) (fun gb sgb => ?_)
 exact DT
 refine fQ ?_
 refine aq.cases (s := 27) rfl (fun g5 => nomatch g5) (fun g5 => ?_)
 refine qS ?_
 exact iR
 refine qO ?_
 refine sc (fun hbb => ?_) (fun hbb => ?_)
 refine vH ?_
 refine cx 35 (fun gb sgb => ?_) (fun gb sgb => ?_)
 refine vz ?_
 refine gj ?_
 refine cx 40 (fun gc sgc => ?_) (fun gc sgc => ?_)
 exact zip
 exact sd
 refine fQ ?_
 refine aq.cases (s := 40) rfl (fun g9 => nomatch g9) (fun g9 => ?_)
 refine pm ?_
 exact iR
 refine qO ?_
 refine sc (fun hbc => ?_) (fun hbc => ?_)
 refine vH ?_
 refine cx 48 (fun gb sgb => ?_) (fun gb sgb => ?_)
 refine zJ ?_
 refine rB gb ?_ (x := cL [(false, [val _])] [(false, [val _])] AF (hs := by exact Bd))
 refine gj ?_
 refine cx 53 (fun gc sgc => ?_) (fun gc sgc => ?_)
 refine rB gc ?_ (x := lF mP)
 refine yM ?_
 exact x0
 exact sd
 refine fQ ?_
 refine aq.cases (s := 53) rfl (fun g13 => nomatch g13) (fun g13 => ?_)
 refine zf g13 ?_
 refine rA ?_ (x := aK g13)
 exact iR
 exact DU
 refine lu ?_
 refine vT ?_
 refine rA ?_ (x := lF kT)
 refine vb ?_
 refine qO ?_
 refine sc (fun hba => ?_) (fun hba => ?_)
 refine sS [1, 2, 3, 16] [1] ?_
 refine rA ?_ (x := lF gF)
 refine y9 ?_
 refine rM ?_
 refine cx 22 (fun gb sgb => ?_) (fun gb sgb => ?_)
 exact DT
 refine fQ ?_
 refine aq.cases (s := 27) rfl (fun g17 => nomatch g17) (fun g17 => ?_)
 refine qQ ?_
 exact iR
 refine qO ?_
 refine sc (fun hbb => ?_) (fun hbb => ?_)
 refine vH ?_
 refine aq.cases (s := 35) rfl (fun g19 => nomatch g19) (fun g19 => ?_)
 refine s3 ?_
 refine rM ?_
 refine aq.cases (s := 40) rfl (fun g20 => nomatch g20) (fun g20 => ?_)
 refine vL ?_
 exact iR
 refine qO ?_
 refine sc (fun hbc => ?_) (fun hbc => ?_)
 refine vH ?_
 refine aq.cases (s := 48) rfl (fun g22 => nomatch g22) (fun g22 => ?_)
 refine zf g22 ?_
 refine rA ?_ (x := aK g22)
 refine rM ?_
 refine aq.cases (s := 53) rfl (fun g23 => nomatch g23) (fun g23 => ?_)
 refine zf g23 ?_
 refine rA ?_ (x := aK g23)
 exact iR
 exact DU
def Lc {x : Wv}  : aC prog 194 [(true, [val (vI x.Kind), val (vI x.Row.Id), sl .v (x.Row.Values.map ak), val (vI x.Field), val (vI x.Value)])] (az [(false, [val (.bool (i1 x))])]) := by
 refine sF func194 fun h0 w0 Fz0 => ?_
 refine sn 0 2 fun hl0_2 => ?_
 refine qG ?_
 refine kD ?_
 refine rA ?_ (x := lF kT)
 refine vb ?_
 refine po ?_
 refine sc (fun hba => ?_) (fun hba => ?_)
 refine sS [1, 2, 4] [1] ?_
 refine zE ?_
 refine rA ?_ (x := cL [(true, [val _, sl _ _])] [(true, [val _, sl .v _])] AC (hs := by exact Bf))
 refine rM ?_
 refine cx 10 (fun ga sga => ?_) (fun ga sga => ?_)
 refine rB ga ?_ (x := lF lS)
 refine nK ?_
 refine gk ?_
 refine cx 15 (fun gb sgb => ?_) (fun gb sgb => ?_)
 refine rB gb ?_ (x := lF mP)
 refine pe ?_
 refine rA ?_ (x := aR gb)
 exact iR
 refine s4 ?_
 exact iR
 refine gA ?_
 refine aq.cases (s := 15) rfl (fun g4 => nomatch g4) (fun g4 => ?_)
 refine qR ?_
 exact iR
 refine po ?_
 refine sc (fun hbb => ?_) (fun hbb => ?_)
 refine sS [1, 2, 4] [1] ?_
 refine sY ?_
 refine sk ?_
 refine rM ?_
 refine cx 26 (fun ga sga => ?_) (fun ga sga => ?_)
 refine rB ga ?_ (x := lF gF)
 refine qJ ?_
 refine vn ?_
 refine gk ?_
 refine cx 33 (fun gb sgb => ?_) (fun gb sgb => ?_)
 refine vz ?_
 refine gj ?_
 refine cx 38 (fun gc sgc => ?_) (fun gc sgc => ?_)
 exact zip
 exact sd
 refine fQ ?_
 refine aq.cases (s := 38) rfl (fun g9 => nomatch g9) (fun g9 => ?_)
 refine pm ?_
 exact iR
 refine gA ?_
 refine aq.cases (s := 33) rfl (fun g10 => nomatch g10) (fun g10 => ?_)
 refine pj ?_
 refine rM ?_
 refine aq.cases (s := 38) rfl (fun g11 => nomatch g11) (fun g11 => ?_)
 refine vK ?_
 exact iR
 refine po ?_
 refine sc (fun hbc => ?_) (fun hbc => ?_)
 refine sS [1, 2, 4] [1] ?_
 refine sY ?_
 refine sk ?_
 refine rM ?_
 refine cx 49 (fun ga sga => ?_) (fun ga sga => ?_)
 refine rB ga ?_ (x := lF gF)
 refine qJ ?_
 refine vn ?_
 refine gk ?_
 refine cx 56 (fun gb sgb => ?_) (fun gb sgb => ?_)
 refine zJ ?_
 refine yU ?_
 refine cx 61 (fun gc sgc => ?_) (fun gc sgc => ?_)
 refine rB gc ?_ (x := lF mP)
 refine Ht ?_
 exact x0
 exact sd
 refine fQ ?_
 refine aq.cases (s := 61) rfl (fun g16 => nomatch g16) (fun g16 => ?_)
 refine zf g16 ?_
 refine rA ?_ (x := aK g16)
 exact iR
 refine gA ?_
 refine aq.cases (s := 56) rfl (fun g17 => nomatch g17) (fun g17 => ?_)
 refine qQ ?_
 refine rM ?_
 refine aq.cases (s := 61) rfl (fun g18 => nomatch g18) (fun g18 => ?_)
 refine vO ?_
 exact iR
 refine bl ?_
 refine sS [1, 2, 4] [1] ?_
 refine rK ?_
 exact xZ
end Go.Proofs.YtmekkgdboplbjaaGreat
