/- What functions of the program compute. No condition. -/
import Derived.Test.YtmekkgdboplbjaaGreatCL0
set_option linter.all false
namespace Go.Proofs.YtmekkgdboplbjaaGreat
open Go Go.RowKit M PV Tryz
set_option maxRecDepth 10000
attribute [local irreducible] PV.Lcl PV.LclR RV.Lcl
def Zr {x : dg}  : aB prog 199 [(true, [val (vI x.Field), val (vI x.Low), val (vI x.High)])] (aA [(false, [val (.bool (ld x))])]) := by
 refine sF func199 fun h0 w0 Fz0 => ?_
 refine wX ?_
 refine mR ?_
 refine BP ?_
 refine rA ?_ (x := cL [(false, [val _])] [(false, [val _])] CH (hs := by exact Df))
 refine rM ?_
 refine cx 6 (fun ga sga => ?_) (fun ga sga => ?_)
 refine BG ?_
 refine rB ga ?_ (x := iD)
 refine gR ?_
 refine cx 11 (fun gb sgb => ?_) (fun gb sgb => ?_)
 refine rB gb ?_ (x := lF pQ)
 refine rB gb ?_ (x := lD [val _] au)
 refine rB gb ?_ (x := lF mi)
 refine BS ?_
 refine gQ ?_
 refine cx 18 (fun gc sgc => ?_) (fun gc sgc => ?_)
 refine rB gc ?_ (x := lF mi)
 refine rB gc ?_ (x := lD [val _] au)
 refine rB gc ?_ (x := iR)
 refine rA ?_ (x := aT gc)
 exact qm
 refine pw ?_
 exact qm
 refine gF ?_
 refine ar.cases (s := 18) rfl (fun g4 => nomatch g4) (fun g4 => ?_)
 refine st ?_
 exact qm
 refine hM ?_
 refine ar.cases (s := 11) rfl (fun g5 => nomatch g5) (fun g5 => ?_)
 refine sw ?_
 refine rM ?_
 refine ar.cases (s := 18) rfl (fun g6 => nomatch g6) (fun g6 => ?_)
 refine qM ?_
 exact qm
def Zs {x : dg}  : aB prog 164 [(true, [val (vI x.Field), val (vI x.Low), val (vI x.High)])] (aA [(false, [val (.bool (ld x))])]) := by
 refine sF func164 fun h0 w0 Fz0 => ?_
 refine wX ?_
 refine mR ?_
 refine rA ?_ (x := lF mh)
 refine tY ?_
 refine rM ?_
 refine cx 6 (fun ga sga => ?_) (fun ga sga => ?_)
 refine BG ?_
 refine rB ga ?_ (x := lF mi)
 refine tX ?_
 refine gR ?_
 refine cx 13 (fun gb sgb => ?_) (fun gb sgb => ?_)
 refine rB gb ?_ (x := lF mi)
 refine BS ?_
 refine rA ?_ (x := aT gb)
 exact qm
 refine uA ?_
 exact qm
 refine hM ?_
 refine ar.cases (s := 13) rfl (fun g3 => nomatch g3) (fun g3 => ?_)
 refine zf g3 ?_
 refine rA ?_ (x := aK g3)
 exact qm
def Zt {x : List Int}  : aB prog 165 [(false, [sl .v (x.map ak)])] (aA [(false, [val (.bool (md x))])]) := by
 refine sF func165 fun h0 w0 Fz0 => ?_
 refine sj 0 fun hl0 => ?_
 refine qR ?_
 refine sz ?_
 refine sL [0] [] (fun k : Nat => k ≤ x.length ∧ (x.take k).all jC = true) (fun k : Nat => [(3, RV.int (k : Int))]) (fun k : Nat => []) (fun k : Nat => x.length - k) 0 (by exact ⟨by omega, by simp⟩) (by exact aI (by exact rfl) tI) (by exact tI) ?_
 rintro k ⟨hk, ha⟩
 refine jX ?_
 refine sc (fun hba => ?_) (fun hba => ?_)
 have hlt : k < x.length := by omega
 refine bB ?_
 refine sS [0, 3] [] ?_
 refine mM ?_
 refine oa ?_
 refine KL ?_
 refine sc (fun hbb => ?_) (fun hbb => ?_)
 have hno : jC x[k] = false := by simpa [jC] using hbb
 refine uK ?_
 exact rb (by simp [md, lZ (P := jC) hlt hno])
 have hyes : jC x[k] = true := by simpa [jC] using hbb
 refine sB ?_
 exact ql
 have hall : x.all jC = true := jY (by rw [show x.length = k by omega]; exact ha)
 refine sC ?_
 refine lP ?_
 refine rA ?_ (x := cL [(false, [val _]), (false, [val _]), (false, [val _])] [(false, [val _]), (false, [val _]), (false, [val _])] gv (hs := by exact gz))
 refine ew ?_
 exact rb (by simp [md, hall, *])
def yt {x : acv}  : aB prog 67 [(true, [val (vI x.Id), val (vI x.acz), sl .v (x.acw.map bj), sl .v (x.Out.map ak)])] (aA [(false, [val (.bool (cJ x))])]) := by
 refine sF func67 fun h0 w0 Fz0 => ?_
 refine sn 0 2 fun hl0_2 => ?_
 refine sn 0 3 fun hl0_3 => ?_
 refine oe ?_
 refine lU ?_
 refine uD ?_
 refine sL [1] [1] (fun k : Nat => k ≤ x.acw.length ∧ kJ ⟨0, 0, 0⟩ ld mY x.acw k = true) (fun k : Nat => [(3, RV.int (k : Int))]) (fun k : Nat => []) (fun k : Nat => x.acw.length - k) 0 (by exact ⟨by omega, rfl⟩) (by exact aI (by exact rfl) tI) (by exact tI) ?_
 rintro k ⟨hk, ha⟩
 refine eH ?_
 refine qJ ?_
 refine xp ?_
 refine sc (fun hba => ?_) (fun hba => ?_)
 have hlt : k < x.acw.length := by omega
 have hgk : x.acw.getD k ⟨0, 0, 0⟩ = x.acw[k] := gU hlt
 have hgp : 0 < k → x.acw.getD (k - 1) ⟨0, 0, 0⟩ = x.acw[k - 1] := fun h => gU (by omega)
 refine cO ?_
 refine sQ [1, 3] [1] ?_
 refine dw dl ?_
 refine dA 0 ?_ (x := lF jH)
 refine dA 1 ?_ (x := lD [sl .v _] jI)
 refine Lt ?_
 refine dA 15 ?_ (x := lE [val _, val _, val _] nh)
 refine dA 31 ?_ (x := cL [(true, [val _, val _, val _])] [(true, [val _, val _, val _])] TT (hs := by exact Zs))
 refine dA 63 ?_ (x := nT)
 refine dA 127 ?_ (x := sM)
 refine dx 18 (fun ga sga => ?_) (fun ga sga => ?_)
 refine dT 255 ga ?_
 refine dT 511 ga ?_
 refine dT 1023 ga ?_
 refine dU 2047 ?_
 refine dU 4095 ?_
 refine dU 2047 ?_
 refine dU 16383 ?_
 refine dU 32767 ?_
 refine dU 65535 ?_
 refine dU 2047 ?_
 refine dU 133119 ?_
 refine dU 2047 ?_
 refine dU 526335 ?_
 refine dU 1968127 ?_
 refine dU 4065279 ?_
 refine dU 8259583 ?_
 refine dU 16777215 ?_
 refine dT 33554431 ga ?_
 refine dA 67108863 ?_ (x := aT ga)
 refine dr ?_
 exact Gx
 refine dB 255 ga ?_ (x := sM)
 refine dB 511 ga ?_ (x := eN)
 refine dB 1023 ga ?_ (x := sM)
 refine dx 21 (fun gb sgb => ?_) (fun gb sgb => ?_)
 refine dB 2047 gb ?_ (x := lF jH)
 refine dB 4095 gb ?_ (x := lD [sl .v _] jI)
 refine dB 2047 gb ?_ (x := sM)
 refine dB 16383 gb ?_ (x := aY (by decide) eC (by exact tI) (by exact rfl) (by exact bc (by omega) rfl) (by exact rfl))
 refine dB 32767 gb ?_ (x := bI (by decide) mh (by exact nl rfl))
 refine dB 65535 gb ?_ (x := lE [val _] au)
 refine dB 2047 gb ?_ (x := lF jH)
 refine dB 133119 gb ?_ (x := lD [sl .v _] jI)
 refine dB 2047 gb ?_ (x := sM)
 refine dB 526335 gb ?_ (x := ip)
 refine dB 1968127 gb ?_ (x := aY (k := k - 1) (by decide) eC (by exact tI) (by omega) (by exact bc (by omega) rfl) (by exact rfl))
 refine dB 4065279 gb ?_ (x := bI (by decide) mh (by exact nl rfl))
 refine dB 8259583 gb ?_ (x := lE [val _] au)
 refine dB 16777215 gb ?_ (x := iR)
 refine dB 33554431 ga ?_ (x := aT gb)
 refine dA 67108863 ?_ (x := aK ga)
 refine sc (fun hbb => ?_) (fun hbb => ?_)
 exact Gx
 exact Gz
 refine dF 2047 gb ?_
 refine dF 4095 gb ?_
 refine dF 2047 gb ?_
 refine dF 16383 gb ?_
 refine dF 32767 gb ?_
 refine dF 65535 gb ?_
 refine dF 2047 gb ?_
 refine dF 133119 gb ?_
 refine dF 2047 gb ?_
 refine dF 526335 gb ?_
 refine dF 1968127 gb ?_
 refine dF 4065279 gb ?_
 refine dF 8259583 gb ?_
 refine dF 16777215 gb ?_
 refine dB 33554431 ga ?_ (x := aK gb)
 refine dA 67108863 ?_ (x := aK ga)
 refine fT ?_
 exact Gz
 have hend : k = x.acw.length := by omega
 have hall : fa ⟨0, 0, 0⟩ ld mY x.acw = true := rh ha hend
 refine xK ?_
 refine rA ?_ (x := lF fx)
 refine tY ?_
 refine rM ?_
 refine cx 41 (fun ga sga => ?_) (fun ga sga => ?_)
 refine rB ga ?_ (x := lF iY)
 refine tX ?_
 refine gR ?_
 refine cx 46 (fun gb sgb => ?_) (fun gb sgb => ?_)
 refine uq ?_
 refine rB gb ?_ (x := lN eC)
 refine rB gb ?_ (x := iR)
 refine gQ ?_
 refine cx 52 (fun gc sgc => ?_) (fun gc sgc => ?_)
 refine xi ?_
 refine rB gc ?_ (x := cL [(false, [sl _ _])] [(false, [sl .v _])] TU (hs := by exact Zt))
 refine rA ?_ (x := aT gc)
 exact vX
 refine pw ?_
 exact vX
 refine gF ?_
 refine ar.cases (s := 52) rfl (fun g10 => nomatch g10) (fun g10 => ?_)
 refine qL ?_
 exact vX
 refine hM ?_
 refine ar.cases (s := 46) rfl (fun g11 => nomatch g11) (fun g11 => ?_)
 refine xE ?_
 refine rM ?_
 refine ar.cases (s := 52) rfl (fun g12 => nomatch g12) (fun g12 => ?_)
 refine zf g12 ?_
 refine rA ?_ (x := aK g12)
 exact vX
def Di {x : acv}  : aB prog 101 [(true, [val (vI x.Id), val (vI x.acz), sl .v (x.acw.map bj), sl .v (x.Out.map ak)])] (aA [(false, [val (.bool (cJ x))])]) := by
 refine sF func101 fun h0 w0 Fz0 => ?_
 refine sn 0 2 fun hl0_2 => ?_
 refine sn 0 3 fun hl0_3 => ?_
 refine oe ?_
 refine lU ?_
 refine rA ?_ (x := lF fx)
 refine Jk ?_
 refine gp ?_
 refine cx 11 (fun ga sga => ?_) (fun ga sga => ?_)
 refine kG ?_
 refine ar.cases (s := 17) rfl (fun g2 => ?_) (fun g2 => nomatch g2)
 refine xb ?_
 refine dr ?_
 exact zR
 refine rB ga ?_ (x := lF iY)
 refine Cj ?_
 refine ou ?_
 refine cx 17 (fun gb sgb => ?_) (fun gb sgb => ?_)
 refine xI ?_
 refine dr ?_
 exact zR
 refine uq ?_
 refine rB gb ?_ (x := lN eC)
 refine rB gb ?_ (x := eN)
 refine rA ?_ (x := aK gb)
 refine sc (fun hba => ?_) (fun hba => ?_)
 exact zR
 have hfirst : (aW x.Id 0 23 && (aW x.acz 0 3 && decide ((x.acw.length : Int) ≤ 3))) = true := by simp_all
 refine uJ ?_
 refine qJ ?_
 refine rA ?_ (x := lN eC)
 refine dZ ?_
 refine sP [1, 2, 24, 25, 26] [1] ?_
 refine sL [1, 24, 25] [1] (fun k : Nat => k ≤ x.acw.length ∧ kJ ⟨0, 0, 0⟩ ld mY x.acw k = true) (fun k : Nat => [(26, RV.int (k : Int))]) (fun k : Nat => []) (fun k : Nat => x.acw.length - k) 0 (by exact ⟨by omega, rfl⟩) (by exact aI (by exact rfl) tI) (by exact tI) ?_
 rintro k ⟨hk, ha⟩
 refine cF ?_
 refine sc (fun hbb => ?_) (fun hbb => ?_)
 have hlt : k < x.acw.length := by omega
 have hgk : x.acw.getD k ⟨0, 0, 0⟩ = x.acw[k] := gU hlt
 have hgp : 0 < k → x.acw.getD (k - 1) ⟨0, 0, 0⟩ = x.acw[k - 1] := fun h => gU (by omega)
 refine bB ?_
 refine sT [1, 24, 25, 26] [1] ?_
 refine rM ?_
 refine KT ?_
 refine rX ?_ (x := (bY (by decide) oO uY))
 refine rS ?_
 refine LO ?_
 refine sO [(1, _), (3, _), (4, _), (24, _), (25, _), (26, _)] [(1, _), (4, (178, [val _, val _, val _]))] ?_
 refine dw dl ?_
 refine dA 0 ?_ (x := lD [val _, val _, val _] nh)
 refine dA 1 ?_ (x := cL [(true, [val _, val _, val _])] [(true, [val _, val _, val _])] TZ (hs := by exact Zr))
 refine dA 3 ?_ (x := nT)
 refine dA 7 ?_ (x := sM)
 refine dx 34 (fun gc sgc => ?_) (fun gc sgc => ?_)
 refine dT 15 gc ?_
 refine dT 31 gc ?_
 refine dT 63 gc ?_
 refine dU 127 ?_
 refine dU 255 ?_
 refine dU 127 ?_
 refine dU 639 ?_
 refine dU 2047 ?_
 refine dU 4095 ?_
 refine dU 8191 ?_
 refine dU 127 ?_
 refine dU 16511 ?_
 refine dU 65535 ?_
 refine dT 131071 gc ?_
 refine dA 262143 ?_ (x := aT gc)
 refine dr ?_
 exact GA
 refine dB 15 gc ?_ (x := sM)
 refine dB 31 gc ?_ (x := eN)
 refine dB 63 gc ?_ (x := sM)
 refine dx 37 (fun gd sgd => ?_) (fun gd sgd => ?_)
 refine dB 127 gd ?_ (x := lF jH)
 refine dB 255 gd ?_ (x := lD [sl .v _] jI)
 refine dB 127 gd ?_ (x := sM)
 refine dB 639 gd ?_ (x := ip)
 refine dB 2047 gd ?_ (x := aY (k := k - 1) (by decide) eC (by exact tI) (by omega) (by exact bc (by omega) rfl) (by exact rfl))
 refine dB 4095 gd ?_ (x := bI (by decide) mh (by exact nl rfl))
 refine dB 8191 gd ?_ (x := lE [val _] au)
 refine dB 127 gd ?_ (x := lF mh)
 refine dB 16511 gd ?_ (x := lD [val _] au)
 refine dB 65535 gd ?_ (x := iD)
 refine dB 131071 gc ?_ (x := aT gd)
 refine dA 262143 ?_ (x := aK gc)
 refine sc (fun hbc => ?_) (fun hbc => ?_)
 exact GA
 exact GB
 refine dF 127 gd ?_
 refine dF 255 gd ?_
 refine dF 127 gd ?_
 refine dF 639 gd ?_
 refine dF 2047 gd ?_
 refine dF 4095 gd ?_
 refine dF 8191 gd ?_
 refine dF 127 gd ?_
 refine dF 16511 gd ?_
 refine dF 65535 gd ?_
 refine dB 131071 gc ?_ (x := aK gd)
 refine dA 262143 ?_ (x := aK gc)
 refine fT ?_
 exact GB
 have hend : k = x.acw.length := by omega
 have hall : fa ⟨0, 0, 0⟩ ld mY x.acw = true := rh ha hend
 refine it ?_
 refine sT [1, 24, 25, 26] [1] ?_
 refine rA ?_ (x := lF ki)
 refine qD ?_
 refine dZ ?_
 refine sP [1, 24, 25, 26, 52, 53, 54] [1] ?_
 refine sL [1, 24, 25, 26, 52, 53] [1] (fun k2 : Nat => k2 ≤ x.Out.length ∧ (x.Out.take k2).all jC = true) (fun k2 : Nat => [(54, RV.int (k2 : Int))]) (fun k2 : Nat => []) (fun k2 : Nat => x.Out.length - k2) 0 (by exact ⟨by omega, by simp⟩) (by exact aI (by exact rfl) tI) (by exact tI) ?_
 rintro k2 ⟨hk2, ha2⟩
 refine cF ?_
 refine sc (fun hbc => ?_) (fun hbc => ?_)
 have hlt2 : k2 < x.Out.length := by omega
 refine bB ?_
 refine sT [1, 24, 25, 26, 52, 53, 54] [1] ?_
 refine oJ ?_
 refine sS [1, 6, 24, 25, 26, 52, 53, 54] [1] ?_
 refine rM ?_
 refine rA ?_ (x := cL [(false, [val _])] [(false, [val _])] CH (hs := by exact Df))
 refine rA ?_ (x := nT)
 refine sc (fun hbd => ?_) (fun hbd => ?_)
 have hno2 : jC x.Out[k2] = false := by simpa [jC] using hbd
 have hn3 : x.Out.all jC = false := lZ hlt2 hno2
 refine sS [1, 6, 24, 25, 26, 52, 53, 54] [1] ?_
 refine rK ?_
 exact vY
 have hyes : jC x.Out[k2] = true := by simpa [jC] using hbd
 refine bm ?_
 refine sG [1, 6, 24, 25, 26, 52, 53, 54] [1] ?_
 refine df ?_
 refine nx (k2 + 1) (by exact ⟨by omega, Cl ha2 hlt2 hyes⟩)
 have hall2 : x.Out.all jC = true := jY (by rw [show x.Out.length = k2 by omega]; exact ha2)
 refine bG ?_
 refine sT [1, 24, 25, 26, 52, 53, 54] [1] ?_
 refine rA ?_ (x := lF ki)
 refine qD ?_
 refine rA ?_ (x := cL [(false, [val _]), (false, [val _]), (false, [val _])] [(false, [val _]), (false, [val _]), (false, [val _])] kb (hs := by exact kt))
 refine rS ?_
 exact vY
def Pd {x : acx}  : aB prog 189 [(true, [val (vI x.Kind), val (vI x.Row.Id), sl .v (x.Row.Values.map ak), val (vI x.Field), val (vI x.Value)])] (aA [(false, [val (.bool (jD x))])]) := by
 refine sF func189 fun h0 w0 Fz0 => ?_
 refine sn 0 2 fun hl0_2 => ?_
 refine se ?_
 refine mR ?_
 refine si ?_
 refine qW ?_
 refine cx 8 (fun ga sga => ?_) (fun ga sga => ?_)
 refine rB ga ?_ (x := lF hZ)
 refine sg ?_
 refine zip ?_
 refine rA ?_ (x := aT ga)
 refine xL ?_
 refine rA ?_ (x := lF lj)
 refine xc ?_
 refine so ?_
 refine sc (fun hba => ?_) (fun hba => ?_)
 refine sS [1, 2, 3, 16] [1] ?_
 refine rA ?_ (x := lF hZ)
 refine Bd ?_
 refine rM ?_
 refine cx 22 (fun gb sgb => ?_) (fun gb sgb => ?_)
 exact GC
 refine gF ?_
 refine ar.cases (s := 27) rfl (fun g5 => nomatch g5) (fun g5 => ?_)
 refine sw ?_
 exact jv
 refine so ?_
 refine sc (fun hbb => ?_) (fun hbb => ?_)
 refine xB ?_
 refine cx 35 (fun gb sgb => ?_) (fun gb sgb => ?_)
 refine xv ?_
 refine gQ ?_
 refine cx 40 (fun gc sgc => ?_) (fun gc sgc => ?_)
 exact zU
 exact tR
 refine gF ?_
 refine ar.cases (s := 40) rfl (fun g9 => nomatch g9) (fun g9 => ?_)
 refine qN ?_
 exact jv
 refine so ?_
 refine sc (fun hbc => ?_) (fun hbc => ?_)
 refine xB ?_
 refine cx 48 (fun gb sgb => ?_) (fun gb sgb => ?_)
 refine BH ?_
 refine rB gb ?_ (x := cL [(false, [val _])] [(false, [val _])] CH (hs := by exact Df))
 refine gQ ?_
 refine cx 53 (fun gc sgc => ?_) (fun gc sgc => ?_)
 refine rB gc ?_ (x := lF nc)
 refine AN ?_
 exact zT
 exact tR
 refine gF ?_
 refine ar.cases (s := 53) rfl (fun g13 => nomatch g13) (fun g13 => ?_)
 refine zf g13 ?_
 refine rA ?_ (x := aK g13)
 exact jv
 exact GD
 refine mL ?_
 refine xL ?_
 refine rA ?_ (x := lF lj)
 refine xc ?_
 refine so ?_
 refine sc (fun hba => ?_) (fun hba => ?_)
 refine sS [1, 2, 3, 16] [1] ?_
 refine rA ?_ (x := lF hZ)
 refine Bd ?_
 refine rM ?_
 refine cx 22 (fun gb sgb => ?_) (fun gb sgb => ?_)
 exact GC
 refine gF ?_
 refine ar.cases (s := 27) rfl (fun g17 => nomatch g17) (fun g17 => ?_)
 refine sr ?_
 exact jv
 refine so ?_
 refine sc (fun hbb => ?_) (fun hbb => ?_)
 refine xB ?_
 refine ar.cases (s := 35) rfl (fun g19 => nomatch g19) (fun g19 => ?_)
 refine uz ?_
 refine rM ?_
 refine ar.cases (s := 40) rfl (fun g20 => nomatch g20) (fun g20 => ?_)
 refine xF ?_
 exact jv
 refine so ?_
 refine sc (fun hbc => ?_) (fun hbc => ?_)
 refine xB ?_
 refine ar.cases (s := 48) rfl (fun g22 => nomatch g22) (fun g22 => ?_)
 refine zf g22 ?_
 refine rA ?_ (x := aK g22)
 refine rM ?_
 refine ar.cases (s := 53) rfl (fun g23 => nomatch g23) (fun g23 => ?_)
 refine zf g23 ?_
 refine rA ?_ (x := aK g23)
 exact jv
 exact GD
def Pe {x : acx}  : aB prog 194 [(true, [val (vI x.Kind), val (vI x.Row.Id), sl .v (x.Row.Values.map ak), val (vI x.Field), val (vI x.Value)])] (aA [(false, [val (.bool (jD x))])]) := by
 refine sF func194 fun h0 w0 Fz0 => ?_
 refine sn 0 2 fun hl0_2 => ?_
 refine se ?_
 refine lU ?_
 refine rA ?_ (x := lF lj)
 refine xc ?_
 refine qP ?_
 refine sc (fun hba => ?_) (fun hba => ?_)
 refine sS [1, 2, 4] [1] ?_
 refine BC ?_
 refine rA ?_ (x := cL [(true, [val _, sl _ _])] [(true, [val _, sl .v _])] CE (hs := by exact Dh))
 refine rM ?_
 refine cx 10 (fun ga sga => ?_) (fun ga sga => ?_)
 refine rB ga ?_ (x := lF mj)
 refine pv ?_
 refine gR ?_
 refine cx 15 (fun gb sgb => ?_) (fun gb sgb => ?_)
 refine rB gb ?_ (x := lF nc)
 refine qH ?_
 refine rA ?_ (x := aT gb)
 exact jv
 refine uA ?_
 exact jv
 refine hM ?_
 refine ar.cases (s := 15) rfl (fun g4 => nomatch g4) (fun g4 => ?_)
 refine st ?_
 exact jv
 refine qP ?_
 refine sc (fun hbb => ?_) (fun hbb => ?_)
 refine sS [1, 2, 4] [1] ?_
 refine si ?_
 refine tY ?_
 refine rM ?_
 refine cx 26 (fun ga sga => ?_) (fun ga sga => ?_)
 refine rB ga ?_ (x := lF hZ)
 refine sg ?_
 refine zip ?_
 refine gR ?_
 refine cx 33 (fun gb sgb => ?_) (fun gb sgb => ?_)
 refine xv ?_
 refine gQ ?_
 refine cx 38 (fun gc sgc => ?_) (fun gc sgc => ?_)
 exact zU
 exact tR
 refine gF ?_
 refine ar.cases (s := 38) rfl (fun g9 => nomatch g9) (fun g9 => ?_)
 refine qN ?_
 exact jv
 refine hM ?_
 refine ar.cases (s := 33) rfl (fun g10 => nomatch g10) (fun g10 => ?_)
 refine qL ?_
 refine rM ?_
 refine ar.cases (s := 38) rfl (fun g11 => nomatch g11) (fun g11 => ?_)
 refine xE ?_
 exact jv
 refine qP ?_
 refine sc (fun hbc => ?_) (fun hbc => ?_)
 refine sS [1, 2, 4] [1] ?_
 refine si ?_
 refine tY ?_
 refine rM ?_
 refine cx 49 (fun ga sga => ?_) (fun ga sga => ?_)
 refine rB ga ?_ (x := lF hZ)
 refine sg ?_
 refine zip ?_
 refine gR ?_
 refine cx 56 (fun gb sgb => ?_) (fun gb sgb => ?_)
 refine BH ?_
 refine AV ?_
 refine cx 61 (fun gc sgc => ?_) (fun gc sgc => ?_)
 refine rB gc ?_ (x := lF nc)
 refine Ky ?_
 exact zT
 exact tR
 refine gF ?_
 refine ar.cases (s := 61) rfl (fun g16 => nomatch g16) (fun g16 => ?_)
 refine zf g16 ?_
 refine rA ?_ (x := aK g16)
 exact jv
 refine hM ?_
 refine ar.cases (s := 56) rfl (fun g17 => nomatch g17) (fun g17 => ?_)
 refine sr ?_
 refine rM ?_
 refine ar.cases (s := 61) rfl (fun g18 => nomatch g18) (fun g18 => ?_)
 refine xG ?_
 exact jv
 refine bm ?_
 refine sS [1, 2, 4] [1] ?_
 refine rK ?_
 exact zS
end Go.Proofs.YtmekkgdboplbjaaGreat
