/- What functions of the program compute. No condition. -/
import Derived.Test.YtmekkgdboplbjaaGreatDoorCI0
set_option linter.all false
namespace Go.Proofs.YtmekkgdboplbjaaGreatDoor
open Go Go.RowKit M PV Tryz
set_option maxRecDepth 10000
attribute [local irreducible] PV.Lcl PV.LclR RV.Lcl
def Ug {x : iw}  : aN prog 175 [(true, [val (vI x.Field), val (vI x.Low), val (vI x.High)])] (aF [(false, [val (.bool (lg x))])]) := by
 refine sF func175 fun h0 w0 Fz0 => ?_
 refine sR ?_
 refine Jz ?_
 refine rA ?_ (x := lF qh)
 refine rA ?_ (x := lD [val _] aw)
 refine rA ?_ (x := cL [(false, [val _])] [(false, [val _])] JS (hs := by exact Lx))
 refine rM ?_
 refine cx 6 (fun ga sga => ?_) (fun ga sga => ?_)
 refine rB ga ?_ (x := lF wN)
 refine rB ga ?_ (x := lD [val _] aw)
 refine rB ga ?_ (x := jD)
 refine nA ?_
 refine cx 11 (fun gb sgb => ?_) (fun gb sgb => ?_)
 refine rB gb ?_ (x := lF wN)
 refine rB gb ?_ (x := lD [val _] aw)
 refine rB gb ?_ (x := lF tW)
 refine Af ?_
 refine oH ?_
 refine cx 18 (fun gc sgc => ?_) (fun gc sgc => ?_)
 refine rB gc ?_ (x := lF tW)
 refine rB gc ?_ (x := lD [val _] aw)
 refine rB gc ?_ (x := ir)
 refine rA ?_ (x := aK gc)
 exact pJ
 refine pW ?_
 exact pJ
 refine qe ?_
 refine az.cases (s := 18) rfl (fun g4 => nomatch g4) (fun g4 => ?_)
 refine zf g4 ?_
 refine rA ?_ (x := aH g4)
 exact pJ
 refine kx ?_
 refine az.cases (s := 11) rfl (fun g5 => nomatch g5) (fun g5 => ?_)
 refine zf g5 ?_
 refine rA ?_ (x := aH g5)
 refine rM ?_
 refine az.cases (s := 18) rfl (fun g6 => nomatch g6) (fun g6 => ?_)
 refine zf g6 ?_
 refine rA ?_ (x := aH g6)
 exact pJ
def Uh {x : iw}  : aN prog 178 [(true, [val (vI x.Field), val (vI x.Low), val (vI x.High)])] (aF [(false, [val (.bool (lg x))])]) := by
 refine sF func178 fun h0 w0 Fz0 => ?_
 refine sR ?_
 refine Jz ?_
 refine rA ?_ (x := lF qh)
 refine sY ?_
 refine rM ?_
 refine cx 6 (fun ga sga => ?_) (fun ga sga => ?_)
 refine rB ga ?_ (x := lF wN)
 refine rB ga ?_ (x := lD [val _] aw)
 refine rB ga ?_ (x := lF tW)
 refine rB ga ?_ (x := lD [val _] aw)
 refine vH ?_
 refine rM ?_
 refine cx 13 (fun gb sgb => ?_) (fun gb sgb => ?_)
 refine rB gb ?_ (x := lF tW)
 refine Af ?_
 refine rA ?_ (x := aK gb)
 exact pJ
 refine oF ?_
 exact pJ
 refine kx ?_
 refine az.cases (s := 13) rfl (fun g3 => nomatch g3) (fun g3 => ?_)
 refine zf g3 ?_
 refine rA ?_ (x := aH g3)
 exact pJ
def Ui {x : List Int}  : aN prog 179 [(false, [sl .v (x.map an)])] (aF [(false, [val (.bool (lR x))])]) := by
 refine sF func179 fun h0 w0 Fz0 => ?_
 refine sj 0 fun hl0 => ?_
 refine rr ?_
 refine sL [0] [] (fun k : Nat => k ≤ x.length ∧ (x.take k).all iz = true) (fun k : Nat => [(3, RV.int (k : Int))]) (fun k : Nat => []) (fun k : Nat => x.length - k) 0 (by exact ⟨by omega, by simp⟩) (by exact aI (by exact rfl) tI) (by exact tI) ?_
 rintro k ⟨hk, ha⟩
 refine kw ?_
 refine sc (fun hba => ?_) (fun hba => ?_)
 have hlt : k < x.length := by omega
 refine bw ?_
 refine sS [0, 3] [] ?_
 refine qb ?_
 refine IG ?_
 refine sc (fun hbb => ?_) (fun hbb => ?_)
 have hno : iz x[k] = false := by simpa [iz] using hbb
 refine rn ?_
 exact rb (by simp [lR, lP (P := iz) hlt hno])
 have hyes : iz x[k] = true := by simpa [iz] using hbb
 refine pY ?_
 exact pI
 have hall : x.all iz = true := ky (by rw [show x.length = k by omega]; exact ha)
 refine tu ?_
 refine jH ?_
 refine rA ?_ (x := cL [(false, [val _]), (false, [val _]), (false, [val _])] [(false, [val _]), (false, [val _]), (false, [val _])] fP (hs := by exact fV))
 refine df ?_
 exact rb (by simp [lR, hall, *])
def xr {x : ZG}  : aN prog 90 [(true, [val (vI x.Id), val (vI x.ZK), sl .v (x.ZH.map dj), sl .v (x.Out.map an)])] (aF [(false, [val (.bool (bG x))])]) := by
 refine sF func90 fun h0 w0 Fz0 => ?_
 refine sn 0 2 fun hl0_2 => ?_
 refine sn 0 3 fun hl0_3 => ?_
 refine qY ?_
 refine iY ?_
 refine tF ?_
 refine sL [1] [1] (fun k : Nat => k ≤ x.ZH.length ∧ jM ⟨0, 0, 0⟩ lg mD x.ZH k = true) (fun k : Nat => [(3, RV.int (k : Int))]) (fun k : Nat => []) (fun k : Nat => x.ZH.length - k) 0 (by exact ⟨by omega, rfl⟩) (by exact aI (by exact rfl) tI) (by exact tI) ?_
 rintro k ⟨hk, ha⟩
 refine cI ?_
 refine Ad ?_
 refine rA ?_ (x := lN gP)
 refine rA ?_ (x := dZ)
 refine sc (fun hba => ?_) (fun hba => ?_)
 have hlt : k < x.ZH.length := by omega
 have hgk : x.ZH.getD k ⟨0, 0, 0⟩ = x.ZH[k] := et hlt
 have hgp : 0 < k → x.ZH.getD (k - 1) ⟨0, 0, 0⟩ = x.ZH[k - 1] := fun h => et (by omega)
 refine er ?_
 refine sQ [1, 3] [1] ?_
 refine Av ?_
 refine dA 1 ?_ (x := lD [sl .v _] jc)
 refine Jd ?_
 refine dA 15 ?_ (x := lE [val _, val _, val _] wP)
 refine dA 31 ?_ (x := cL [(true, [val _, val _, val _])] [(true, [val _, val _, val _])] Qe (hs := by exact Uh))
 refine dA 63 ?_ (x := nT)
 refine dA 127 ?_ (x := sM)
 refine dx 18 (fun ga sga => ?_) (fun ga sga => ?_)
 refine dT 255 ga ?_
 refine dT 511 ga ?_
 refine dT 1023 ga ?_
 refine dU 2047 ?_
 refine dU 4095 ?_
 refine dU 2047 ?_
 refine dU 16383 ?_
 refine dU 32767 ?_
 refine dU 65535 ?_
 refine dU 2047 ?_
 refine dU 133119 ?_
 refine dU 2047 ?_
 refine dU 526335 ?_
 refine dU 1968127 ?_
 refine dU 4065279 ?_
 refine dU 8259583 ?_
 refine dU 16777215 ?_
 refine dT 33554431 ga ?_
 refine dA 67108863 ?_ (x := aK ga)
 refine cO ?_
 exact EF
 refine dB 255 ga ?_ (x := sM)
 refine dB 511 ga ?_ (x := dC)
 refine dB 1023 ga ?_ (x := sM)
 refine dx 21 (fun gb sgb => ?_) (fun gb sgb => ?_)
 refine dB 2047 gb ?_ (x := lF kE)
 refine dB 4095 gb ?_ (x := lD [sl .v _] jc)
 refine dB 2047 gb ?_ (x := sM)
 refine dB 16383 gb ?_ (x := aU (by decide) gP (by exact tI) (by exact rfl) (by exact aV (by omega) rfl) (by exact rfl))
 refine dB 32767 gb ?_ (x := cB (by decide) qh (by exact nl rfl))
 refine dB 65535 gb ?_ (x := lE [val _] aw)
 refine dB 2047 gb ?_ (x := lF kE)
 refine dB 133119 gb ?_ (x := lD [sl .v _] jc)
 refine dB 2047 gb ?_ (x := sM)
 refine dB 526335 gb ?_ (x := gw)
 refine dB 1968127 gb ?_ (x := aU (k := k - 1) (by decide) gP (by exact tI) (by omega) (by exact aV (by omega) rfl) (by exact rfl))
 refine dB 4065279 gb ?_ (x := cB (by decide) qh (by exact nl rfl))
 refine dB 8259583 gb ?_ (x := lE [val _] aw)
 refine dB 16777215 gb ?_ (x := ir)
 refine dB 33554431 ga ?_ (x := aK gb)
 refine dA 67108863 ?_ (x := aH ga)
 refine sc (fun hbb => ?_) (fun hbb => ?_)
 exact EF
 exact EH
 refine dF 2047 gb ?_
 refine dF 4095 gb ?_
 refine dF 2047 gb ?_
 refine dF 16383 gb ?_
 refine dF 32767 gb ?_
 refine dF 65535 gb ?_
 refine dF 2047 gb ?_
 refine dF 133119 gb ?_
 refine dF 2047 gb ?_
 refine dF 526335 gb ?_
 refine dF 1968127 gb ?_
 refine dF 4065279 gb ?_
 refine dF 8259583 gb ?_
 refine dF 16777215 gb ?_
 refine dB 33554431 ga ?_ (x := aH gb)
 refine dA 67108863 ?_ (x := aH ga)
 refine eJ ?_
 exact EH
 have hend : k = x.ZH.length := by omega
 have hall : dE ⟨0, 0, 0⟩ lg mD x.ZH = true := oS ha hend
 refine wC ?_
 refine rA ?_ (x := lF iB)
 refine sY ?_
 refine rM ?_
 refine cx 41 (fun ga sga => ?_) (fun ga sga => ?_)
 refine rB ga ?_ (x := lF tT)
 refine rB ga ?_ (x := lD [val _] aw)
 refine vH ?_
 refine rM ?_
 refine cx 46 (fun gb sgb => ?_) (fun gb sgb => ?_)
 refine rB gb ?_ (x := lF kE)
 refine rB gb ?_ (x := lD [sl .v _] jc)
 refine rB gb ?_ (x := lN gP)
 refine rB gb ?_ (x := ir)
 refine oH ?_
 refine cx 52 (fun gc sgc => ?_) (fun gc sgc => ?_)
 refine rB gc ?_ (x := lF oT)
 refine rB gc ?_ (x := lD [sl .v _] bz)
 refine rB gc ?_ (x := cL [(false, [sl _ _])] [(false, [sl .v _])] Qf (hs := by exact Ui))
 refine rA ?_ (x := aK gc)
 exact vh
 refine pW ?_
 exact vh
 refine qe ?_
 refine az.cases (s := 52) rfl (fun g10 => nomatch g10) (fun g10 => ?_)
 refine wv ?_
 exact vh
 refine kx ?_
 refine az.cases (s := 46) rfl (fun g11 => nomatch g11) (fun g11 => ?_)
 refine zf g11 ?_
 refine rA ?_ (x := aH g11)
 refine rM ?_
 refine az.cases (s := 52) rfl (fun g12 => nomatch g12) (fun g12 => ?_)
 refine zf g12 ?_
 refine rA ?_ (x := aH g12)
 exact vh
def Lz {x : ZG}  : aN prog 86 [(true, [val (vI x.Id), val (vI x.ZK), sl .v (x.ZH.map dj), sl .v (x.Out.map an)])] (aF [(false, [val (.bool (bG x))])]) := by
 refine sF func86 fun h0 w0 Fz0 => ?_
 refine sn 0 2 fun hl0_2 => ?_
 refine sn 0 3 fun hl0_3 => ?_
 refine qY ?_
 refine iY ?_
 refine rA ?_ (x := lF iB)
 refine rA ?_ (x := lD [val _] aw)
 refine vK ?_
 refine rM ?_
 refine cx 11 (fun ga sga => ?_) (fun ga sga => ?_)
 refine lO ?_
 refine az.cases (s := 17) rfl (fun g2 => ?_) (fun g2 => nomatch g2)
 refine my ?_
 refine cO ?_
 exact yP
 refine rB ga ?_ (x := lF tT)
 refine rB ga ?_ (x := lD [val _] aw)
 refine ta ?_
 refine lf ?_
 refine cx 17 (fun gb sgb => ?_) (fun gb sgb => ?_)
 refine tC ?_
 refine cO ?_
 exact yP
 refine rB gb ?_ (x := lF kE)
 refine rB gb ?_ (x := lD [sl .v _] jc)
 refine rB gb ?_ (x := lN gP)
 refine rB gb ?_ (x := dC)
 refine rA ?_ (x := aH gb)
 refine sc (fun hba => ?_) (fun hba => ?_)
 exact yP
 have hfirst : (aB x.Id 0 23 && (aB x.ZK 0 3 && decide ((x.ZH.length : Int) ≤ 3))) = true := by simp_all
 refine tK ?_
 refine Ad ?_
 refine rA ?_ (x := lN gP)
 refine eK ?_
 refine sP [1, 2, 24, 25, 26] [1] ?_
 refine sL [1, 24, 25] [1] (fun k : Nat => k ≤ x.ZH.length ∧ jM ⟨0, 0, 0⟩ lg mD x.ZH k = true) (fun k : Nat => [(26, RV.int (k : Int))]) (fun k : Nat => []) (fun k : Nat => x.ZH.length - k) 0 (by exact ⟨by omega, rfl⟩) (by exact aI (by exact rfl) tI) (by exact tI) ?_
 rintro k ⟨hk, ha⟩
 refine eL ?_
 refine sc (fun hbb => ?_) (fun hbb => ?_)
 have hlt : k < x.ZH.length := by omega
 have hgk : x.ZH.getD k ⟨0, 0, 0⟩ = x.ZH[k] := et hlt
 have hgp : 0 < k → x.ZH.getD (k - 1) ⟨0, 0, 0⟩ = x.ZH[k - 1] := fun h => et (by omega)
 refine bw ?_
 refine sT [1, 24, 25, 26] [1] ?_
 refine rM ?_
 refine rA ?_ (x := aU (by decide) gP (by exact tI) (by exact rfl) (by exact aV (by omega) rfl) (by exact rfl))
 refine rA ?_ (x := lE [val _, val _, val _] wP)
 refine rX ?_ (x := (db (by decide) nI AO))
 refine rS ?_
 refine rA ?_ (x := bf (ag := true) (vs := [val _, val _, val _]) wP (by exact tI) (by exact rfl) (by exact nl rfl))
 refine ba ?_
 refine sO [(1, _), (3, _), (4, _), (24, _), (25, _), (26, _)] [(1, _), (4, (65, [val _, val _, val _]))] ?_
 refine cv cd ?_
 refine dA 0 ?_ (x := lD [val _, val _, val _] wP)
 refine dA 1 ?_ (x := cL [(true, [val _, val _, val _])] [(true, [val _, val _, val _])] Qc (hs := by exact Ug))
 refine dA 3 ?_ (x := nT)
 refine dA 7 ?_ (x := sM)
 refine dx 34 (fun gc sgc => ?_) (fun gc sgc => ?_)
 refine dT 15 gc ?_
 refine dT 31 gc ?_
 refine dT 63 gc ?_
 refine dU 127 ?_
 refine dU 255 ?_
 refine dU 127 ?_
 refine dU 639 ?_
 refine dU 2047 ?_
 refine tL ?_
 refine dU 127 ?_
 refine dU 16511 ?_
 refine dU 65535 ?_
 refine dT 131071 gc ?_
 refine dA 262143 ?_ (x := aK gc)
 refine cO ?_
 exact EI
 refine dB 15 gc ?_ (x := sM)
 refine dB 31 gc ?_ (x := dC)
 refine dB 63 gc ?_ (x := sM)
 refine dx 37 (fun gd sgd => ?_) (fun gd sgd => ?_)
 refine dB 127 gd ?_ (x := lF kE)
 refine dB 255 gd ?_ (x := lD [sl .v _] jc)
 refine dB 127 gd ?_ (x := sM)
 refine dB 639 gd ?_ (x := gw)
 refine dB 2047 gd ?_ (x := aU (k := k - 1) (by decide) gP (by exact tI) (by omega) (by exact aV (by omega) rfl) (by exact rfl))
 refine dB 4095 gd ?_ (x := cB (by decide) qh (by exact nl rfl))
 refine dB 8191 gd ?_ (x := lE [val _] aw)
 refine dB 127 gd ?_ (x := lF qh)
 refine dB 16511 gd ?_ (x := lD [val _] aw)
 refine dB 65535 gd ?_ (x := jD)
 refine dB 131071 gc ?_ (x := aK gd)
 refine dA 262143 ?_ (x := aH gc)
 refine sc (fun hbc => ?_) (fun hbc => ?_)
 exact EI
 exact EJ
 refine dF 127 gd ?_
 refine dF 255 gd ?_
 refine dF 127 gd ?_
 refine dF 639 gd ?_
 refine dF 2047 gd ?_
 refine dF 4095 gd ?_
 refine dF 8191 gd ?_
 refine dF 127 gd ?_
 refine dF 16511 gd ?_
 refine dF 65535 gd ?_
 refine dB 131071 gc ?_ (x := aH gd)
 refine dA 262143 ?_ (x := aH gc)
 refine eJ ?_
 exact EJ
 have hend : k = x.ZH.length := by omega
 have hall : dE ⟨0, 0, 0⟩ lg mD x.ZH = true := oS ha hend
 refine gM ?_
 refine sT [1, 24, 25, 26] [1] ?_
 refine wu ?_
 refine eK ?_
 refine sP [1, 24, 25, 26, 52, 53, 54] [1] ?_
 refine sL [1, 24, 25, 26, 52, 53] [1] (fun k2 : Nat => k2 ≤ x.Out.length ∧ (x.Out.take k2).all iz = true) (fun k2 : Nat => [(54, RV.int (k2 : Int))]) (fun k2 : Nat => []) (fun k2 : Nat => x.Out.length - k2) 0 (by exact ⟨by omega, by simp⟩) (by exact aI (by exact rfl) tI) (by exact tI) ?_
 rintro k2 ⟨hk2, ha2⟩
 refine eL ?_
 refine sc (fun hbc => ?_) (fun hbc => ?_)
 have hlt2 : k2 < x.Out.length := by omega
 refine bw ?_
 refine sT [1, 24, 25, 26, 52, 53, 54] [1] ?_
 refine nF ?_
 refine sS [1, 6, 24, 25, 26, 52, 53, 54] [1] ?_
 refine rM ?_
 refine rA ?_ (x := cL [(false, [val _])] [(false, [val _])] JS (hs := by exact Lx))
 refine rA ?_ (x := nT)
 refine sc (fun hbd => ?_) (fun hbd => ?_)
 have hno2 : iz x.Out[k2] = false := by simpa [iz] using hbd
 have hn3 : x.Out.all iz = false := lP hlt2 hno2
 refine sS [1, 6, 24, 25, 26, 52, 53, 54] [1] ?_
 refine rK ?_
 exact vi
 have hyes : iz x.Out[k2] = true := by simpa [iz] using hbd
 refine bc ?_
 refine sG [1, 6, 24, 25, 26, 52, 53, 54] [1] ?_
 refine fc ?_
 refine nx (k2 + 1) (by exact ⟨by omega, AA ha2 hlt2 hyes⟩)
 have hall2 : x.Out.all iz = true := ky (by rw [show x.Out.length = k2 by omega]; exact ha2)
 refine bE ?_
 refine sT [1, 24, 25, 26, 52, 53, 54] [1] ?_
 refine wu ?_
 refine rA ?_ (x := cL [(false, [val _]), (false, [val _]), (false, [val _])] [(false, [val _]), (false, [val _]), (false, [val _])] jN (hs := by exact kb))
 refine rS ?_
 exact vi
def Uj {x : ZI}  : aN prog 110 [(true, [val (vI x.Kind), val (vI x.Row.Id), sl .v (x.Row.Values.map an), val (vI x.Field), val (vI x.Value)])] (aF [(false, [val (.bool (gO x))])]) := by
 refine sF func110 fun h0 w0 Fz0 => ?_
 refine sn 0 2 fun hl0_2 => ?_
 refine sR ?_
 refine rX ?_ (x := (fY (ag := true) (cs := [val _, val _, sl _ _, val _, val _]) (by decide) (by exact tI)))
 refine iY ?_
 refine ra ?_
 refine fM ?_
 refine sS [1, 2, 4] [1] ?_
 refine lb ?_
 refine sc (fun hba => ?_) (fun hba => ?_)
 refine sS [1, 2, 4] [1] ?_
 refine rA ?_ (x := lF oU)
 refine Je ?_
 refine rM ?_
 refine cx 10 (fun ga sga => ?_) (fun ga sga => ?_)
 refine rB ga ?_ (x := lF tU)
 refine rB ga ?_ (x := lD [val _] aw)
 refine rB ga ?_ (x := fb)
 refine nA ?_
 refine cx 15 (fun gb sgb => ?_) (fun gb sgb => ?_)
 refine rB gb ?_ (x := lF tV)
 refine rB gb ?_ (x := lD [val _] aw)
 refine rB gb ?_ (x := fb)
 refine rA ?_ (x := aK gb)
 exact lJ
 refine oF ?_
 exact lJ
 refine kx ?_
 refine az.cases (s := 15) rfl (fun g4 => nomatch g4) (fun g4 => ?_)
 refine zf g4 ?_
 refine rA ?_ (x := aH g4)
 exact lJ
 refine sS [1, 2, 4] [1] ?_
 refine lb ?_
 refine sc (fun hbb => ?_) (fun hbb => ?_)
 refine sS [1, 2, 4] [1] ?_
 refine Al ?_
 refine sY ?_
 refine rM ?_
 refine cx 26 (fun ga sga => ?_) (fun ga sga => ?_)
 refine rB ga ?_ (x := lF oU)
 refine zU ?_
 refine Am ?_
 refine nA ?_
 refine cx 33 (fun gb sgb => ?_) (fun gb sgb => ?_)
 refine rB gb ?_ (x := lF tU)
 refine rB gb ?_ (x := lD [val _] aw)
 refine rB gb ?_ (x := fb)
 refine oH ?_
 refine cx 38 (fun gc sgc => ?_) (fun gc sgc => ?_)
 refine rB gc ?_ (x := lF tV)
 refine rB gc ?_ (x := lD [val _] aw)
 refine rB gc ?_ (x := fb)
 refine rA ?_ (x := aK gc)
 exact lJ
 refine pW ?_
 exact lJ
 refine qe ?_
 refine az.cases (s := 38) rfl (fun g9 => nomatch g9) (fun g9 => ?_)
 refine zf g9 ?_
 refine rA ?_ (x := aH g9)
 exact lJ
 refine kx ?_
 refine az.cases (s := 33) rfl (fun g10 => nomatch g10) (fun g10 => ?_)
 refine wv ?_
 refine rM ?_
 refine az.cases (s := 38) rfl (fun g11 => nomatch g11) (fun g11 => ?_)
 refine zf g11 ?_
 refine rA ?_ (x := aH g11)
 exact lJ
 refine sS [1, 2, 4] [1] ?_
 refine lb ?_
 refine sc (fun hbc => ?_) (fun hbc => ?_)
 refine sS [1, 2, 4] [1] ?_
 refine Al ?_
 refine sY ?_
 refine rM ?_
 refine cx 49 (fun ga sga => ?_) (fun ga sga => ?_)
 refine rB ga ?_ (x := lF oU)
 refine zU ?_
 refine Am ?_
 refine nA ?_
 refine cx 56 (fun gb sgb => ?_) (fun gb sgb => ?_)
 refine rB gb ?_ (x := lF tU)
 refine rB gb ?_ (x := lD [val _] aw)
 refine rB gb ?_ (x := cL [(false, [val _]), (false, [val _]), (false, [val _])] [(false, [val _]), (false, [val _]), (false, [val _])] fP (hs := by exact fV))
 refine oH ?_
 refine cx 61 (fun gc sgc => ?_) (fun gc sgc => ?_)
 refine rB gc ?_ (x := lF tV)
 refine rB gc ?_ (x := lD [val _] aw)
 refine zH ?_
 exact lJ
 refine pW ?_
 exact lJ
 refine qe ?_
 refine az.cases (s := 61) rfl (fun g16 => nomatch g16) (fun g16 => ?_)
 refine zf g16 ?_
 refine rA ?_ (x := aH g16)
 exact lJ
 refine kx ?_
 refine az.cases (s := 56) rfl (fun g17 => nomatch g17) (fun g17 => ?_)
 refine zf g17 ?_
 refine rA ?_ (x := aH g17)
 refine rM ?_
 refine az.cases (s := 61) rfl (fun g18 => nomatch g18) (fun g18 => ?_)
 refine zf g18 ?_
 refine rA ?_ (x := aH g18)
 exact lJ
 refine bc ?_
 refine sS [1, 2, 4] [1] ?_
 refine rK ?_
 exact EK
end Go.Proofs.YtmekkgdboplbjaaGreatDoor
