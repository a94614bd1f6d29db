/- What functions of the program compute. No condition. -/
import Derived.Test.YtmekkgdboplbjaaGreatCG0
set_option linter.all false
namespace Go.Proofs.YtmekkgdboplbjaaGreat
open Go Go.RowKit M PV Tryz
set_option maxRecDepth 10000
attribute [local irreducible] PV.Lcl PV.LclR RV.Lcl
def acu {x : gT}  : aN prog 199 [(true, [val (vI x.Field), val (vI x.Low), val (vI x.High)])] (aJ [(false, [val (.bool (kF x))])]) := by
 refine sF func199 fun h0 w0 Fz0 => ?_
 refine sR ?_
 refine PK ?_
 refine rA ?_ (x := lF oF)
 refine rA ?_ (x := lD [val _] az)
 refine rA ?_ (x := cL [(false, [val _])] [(false, [val _])] Ew (hs := by exact Fj))
 refine rM ?_
 refine cx 6 (fun ga sga => ?_) (fun ga sga => ?_)
 refine DB ?_
 refine rB ga ?_ (x := iy)
 refine jP ?_
 refine cx 11 (fun gb sgb => ?_) (fun gb sgb => ?_)
 refine rB gb ?_ (x := lF zG)
 refine rB gb ?_ (x := lD [val _] az)
 refine rB gb ?_ (x := lF rj)
 refine DN ?_
 refine gt ?_
 refine cx 18 (fun gc sgc => ?_) (fun gc sgc => ?_)
 refine rB gc ?_ (x := lF rj)
 refine rB gc ?_ (x := lD [val _] az)
 refine rB gc ?_ (x := ix)
 refine rA ?_ (x := aO gc)
 exact qt
 refine oj ?_
 exact qt
 refine fU ?_
 refine aq.cases (s := 18) rfl (fun g4 => nomatch g4) (fun g4 => ?_)
 refine td ?_
 exact qt
 refine gu ?_
 refine aq.cases (s := 11) rfl (fun g5 => nomatch g5) (fun g5 => ?_)
 refine qK ?_
 refine rM ?_
 refine aq.cases (s := 18) rfl (fun g6 => nomatch g6) (fun g6 => ?_)
 refine py ?_
 exact qt
def acv {x : gT}  : aN prog 164 [(true, [val (vI x.Field), val (vI x.Low), val (vI x.High)])] (aJ [(false, [val (.bool (kF x))])]) := by
 refine sF func164 fun h0 w0 Fz0 => ?_
 refine sR ?_
 refine PK ?_
 refine rA ?_ (x := lF oF)
 refine vd ?_
 refine rM ?_
 refine cx 6 (fun ga sga => ?_) (fun ga sga => ?_)
 refine DB ?_
 refine rB ga ?_ (x := lF rj)
 refine vc ?_
 refine jP ?_
 refine cx 13 (fun gb sgb => ?_) (fun gb sgb => ?_)
 refine rB gb ?_ (x := lF rj)
 refine DN ?_
 refine rA ?_ (x := aO gb)
 exact qt
 refine pz ?_
 exact qt
 refine gu ?_
 refine aq.cases (s := 13) rfl (fun g3 => nomatch g3) (fun g3 => ?_)
 refine zf g3 ?_
 refine rA ?_ (x := aF g3)
 exact qt
def acw {x : List Int}  : aN prog 165 [(false, [sl .v (x.map am)])] (aJ [(false, [val (.bool (lS x))])]) := by
 refine sF func165 fun h0 w0 Fz0 => ?_
 refine sj 0 fun hl0 => ?_
 refine tE ?_
 refine sL [0] [] (fun k : Nat => k ≤ x.length ∧ (x.take k).all jW = true) (fun k : Nat => [(3, RV.int (k : Int))]) (fun k : Nat => []) (fun k : Nat => x.length - k) 0 (by exact ⟨by omega, by simp⟩) (by exact aI (by exact rfl) tI) (by exact tI) ?_
 rintro k ⟨hk, ha⟩
 refine jR ?_
 refine sc ?_ ?_ <;> intro hba
 have hlt : k < x.length := by omega
 refine bi ?_
 refine sS [0, 3] [] ?_
 refine jp ?_
 refine pk ?_
 refine Ow ?_
 refine sc ?_ ?_ <;> intro hbb
 have hno : jW x[k] = false := by simpa [jW] using hbb
 refine tq ?_
 exact rb (by simp [lS, kE (P := jW) hlt hno])
 have hyes : jW x[k] = true := by simpa [jW] using hbb
 refine qP ?_
 exact pj
 have hall : x.all jW = true := jr (by rw [show x.length = k by omega]; exact ha)
 refine qQ ?_
 refine gS ?_
 refine rA ?_ (x := cL [(false, [val _]), (false, [val _]), (false, [val _])] [(false, [val _]), (false, [val _]), (false, [val _])] fX (hs := by exact gl))
 refine db ?_
 exact rb (by simp [lS, hall, *])
def ur {x : aeA}  : aN prog 67 [(true, [val (vI x.Id), val (vI x.aeE), sl .v (x.aeB.map bH), sl .v (x.Out.map am)])] (aJ [(false, [val (.bool (ck x))])]) := by
 refine sF func67 fun h0 w0 Fz0 => ?_
 refine sn 0 2 fun hl0_2 => ?_
 refine sn 0 3 fun hl0_3 => ?_
 refine nk ?_
 refine lj ?_
 refine vZ ?_
 refine sL [1] [1] (fun k : Nat => k ≤ x.aeB.length ∧ jV ⟨0, 0, 0⟩ kF lR x.aeB k = true) (fun k : Nat => [(3, RV.int (k : Int))]) (fun k : Nat => []) (fun k : Nat => x.aeB.length - k) 0 (by exact ⟨by omega, rfl⟩) (by exact aI (by exact rfl) tI) (by exact tI) ?_
 rintro k ⟨hk, ha⟩
 refine de ?_
 refine zq ?_
 refine sc ?_ ?_ <;> intro hba
 have hlt : k < x.aeB.length := by omega
 have hgk : x.aeB.getD k ⟨0, 0, 0⟩ = x.aeB[k] := eO hlt
 have hgp : 0 < k → x.aeB.getD (k - 1) ⟨0, 0, 0⟩ = x.aeB[k - 1] := fun h => eO (by omega)
 refine dh ?_
 refine sQ [1, 3] [1] ?_
 refine da cG ?_
 refine DC ?_
 refine De ?_
 refine dA 15 ?_ (x := lE [val _, val _, val _] pN)
 refine dA 31 ?_ (x := cL [(true, [val _, val _, val _])] [(true, [val _, val _, val _])] Ww (hs := by exact acv))
 refine dA 63 ?_ (x := nT)
 refine dA 127 ?_ (x := sM)
 refine dx 18 (fun ga sga => ?_) (fun ga sga => ?_)
 refine dT 255 ga ?_
 refine dT 511 ga ?_
 refine dT 1023 ga ?_
 refine dU 2047 ?_
 refine dU 4095 ?_
 refine dU 2047 ?_
 refine dU 16383 ?_
 refine dU 32767 ?_
 refine dU 65535 ?_
 refine dU 2047 ?_
 refine dU 133119 ?_
 refine dU 2047 ?_
 refine dU 526335 ?_
 refine dU 1968127 ?_
 refine dU 4065279 ?_
 refine dU 8259583 ?_
 refine dU 16777215 ?_
 refine dT 33554431 ga ?_
 refine dA 67108863 ?_ (x := aO ga)
 refine cv ?_
 exact IV
 refine dB 255 ga ?_ (x := sM)
 refine dB 511 ga ?_ (x := dI)
 refine dB 1023 ga ?_ (x := sM)
 refine dx 21 (fun gb sgb => ?_) (fun gb sgb => ?_)
 refine dB 2047 gb ?_ (x := lF lW)
 refine dB 4095 gb ?_ (x := lD [sl .v _] lZ)
 refine dB 2047 gb ?_ (x := sM)
 refine dB 16383 gb ?_ (x := aU (by decide) gH (by exact tI) (by exact rfl) (by exact aW (by omega) rfl) (by exact rfl))
 refine dB 32767 gb ?_ (x := cd (by decide) oF (by exact nl rfl))
 refine dB 65535 gb ?_ (x := lE [val _] az)
 refine dB 2047 gb ?_ (x := lF lW)
 refine dB 133119 gb ?_ (x := lD [sl .v _] lZ)
 refine dB 2047 gb ?_ (x := sM)
 refine dB 526335 gb ?_ (x := fI)
 refine dB 1968127 gb ?_ (x := aU (k := k - 1) (by decide) gH (by exact tI) (by omega) (by exact aW (by omega) rfl) (by exact rfl))
 refine dB 4065279 gb ?_ (x := cd (by decide) oF (by exact nl rfl))
 refine dB 8259583 gb ?_ (x := lE [val _] az)
 refine dB 16777215 gb ?_ (x := ix)
 refine dB 33554431 ga ?_ (x := aO gb)
 refine dA 67108863 ?_ (x := aF ga)
 refine sc ?_ ?_ <;> intro hbb
 exact IV
 exact IX
 refine dF 2047 gb ?_
 refine dF 4095 gb ?_
 refine dF 2047 gb ?_
 refine dF 16383 gb ?_
 refine dF 32767 gb ?_
 refine dF 65535 gb ?_
 refine dF 2047 gb ?_
 refine dF 133119 gb ?_
 refine dF 2047 gb ?_
 refine dF 526335 gb ?_
 refine dF 1968127 gb ?_
 refine dF 4065279 gb ?_
 refine dF 8259583 gb ?_
 refine dF 16777215 gb ?_
 refine dB 33554431 ga ?_ (x := aF gb)
 refine dA 67108863 ?_ (x := aF ga)
 refine eX ?_
 exact IX
 have hend : k = x.aeB.length := by omega
 have hall : dG ⟨0, 0, 0⟩ kF lR x.aeB = true := pH ha hend
 refine zo ?_
 refine rA ?_ (x := lF ib)
 refine vd ?_
 refine rM ?_
 refine cx 41 (fun ga sga => ?_) (fun ga sga => ?_)
 refine rB ga ?_ (x := lF rm)
 refine vc ?_
 refine jP ?_
 refine cx 46 (fun gb sgb => ?_) (fun gb sgb => ?_)
 refine vL ?_
 refine rB gb ?_ (x := ix)
 refine gt ?_
 refine cx 52 (fun gc sgc => ?_) (fun gc sgc => ?_)
 refine sV ?_
 refine rB gc ?_ (x := cL [(false, [sl _ _])] [(false, [sl .v _])] Wx (hs := by exact acw))
 refine rA ?_ (x := aO gc)
 exact xP
 refine oj ?_
 exact xP
 refine fU ?_
 refine aq.cases (s := 52) rfl (fun g10 => nomatch g10) (fun g10 => ?_)
 refine ot ?_
 exact xP
 refine gu ?_
 refine aq.cases (s := 46) rfl (fun g11 => nomatch g11) (fun g11 => ?_)
 refine vS ?_
 refine rM ?_
 refine aq.cases (s := 52) rfl (fun g12 => nomatch g12) (fun g12 => ?_)
 refine yY ?_
 exact xP
def GI {x : aeA}  : aN prog 101 [(true, [val (vI x.Id), val (vI x.aeE), sl .v (x.aeB.map bH), sl .v (x.Out.map am)])] (aJ [(false, [val (.bool (ck x))])]) := by
 refine sF func101 fun h0 w0 Fz0 => ?_
 refine sn 0 2 fun hl0_2 => ?_
 refine sn 0 3 fun hl0_3 => ?_
 refine nk ?_
 refine lj ?_
 refine rA ?_ (x := lF ib)
 refine Mu ?_
 refine fz ?_
 refine cx 11 (fun ga sga => ?_) (fun ga sga => ?_)
 refine jq ?_
 refine aq.cases (s := 17) rfl (fun g2 => ?_) (fun g2 => nomatch g2)
 refine vq ?_
 refine cv ?_
 exact BS
 refine yL ?_
 refine sI ?_
 refine mB ?_
 refine cx 17 (fun gb sgb => ?_) (fun gb sgb => ?_)
 refine vY ?_
 refine cv ?_
 exact BS
 refine vL ?_
 refine rB gb ?_ (x := dI)
 refine rA ?_ (x := aF gb)
 refine sc ?_ ?_ <;> intro hba
 exact BS
 have hfirst : (aK x.Id 0 23 && (aK x.aeE 0 3 && decide ((x.aeB.length : Int) ≤ 3))) = true := by simp_all
 refine wg ?_
 refine vn ?_
 refine rA ?_ (x := lN gH)
 refine eo ?_
 refine sP [1, 2, 24, 25, 26] [1] ?_
 refine sL [1, 24, 25] [1] (fun k : Nat => k ≤ x.aeB.length ∧ jV ⟨0, 0, 0⟩ kF lR x.aeB k = true) (fun k : Nat => [(26, RV.int (k : Int))]) (fun k : Nat => []) (fun k : Nat => x.aeB.length - k) 0 (by exact ⟨by omega, rfl⟩) (by exact aI (by exact rfl) tI) (by exact tI) ?_
 rintro k ⟨hk, ha⟩
 refine cn ?_
 refine sc ?_ ?_ <;> intro hbb
 have hlt : k < x.aeB.length := by omega
 have hgk : x.aeB.getD k ⟨0, 0, 0⟩ = x.aeB[k] := eO hlt
 have hgp : 0 < k → x.aeB.getD (k - 1) ⟨0, 0, 0⟩ = x.aeB[k - 1] := fun h => eO (by omega)
 refine bi ?_
 refine sT [1, 24, 25, 26] [1] ?_
 refine rM ?_
 refine DK ?_
 refine rS ?_
 refine Df ?_
 refine sO [(1, _), (3, _), (4, _), (24, _), (25, _), (26, _)] [(1, _), (4, (178, [val _, val _, val _]))] ?_
 refine da cG ?_
 refine dA 0 ?_ (x := lD [val _, val _, val _] pN)
 refine dA 1 ?_ (x := cL [(true, [val _, val _, val _])] [(true, [val _, val _, val _])] WC (hs := by exact acu))
 refine dA 3 ?_ (x := nT)
 refine dA 7 ?_ (x := sM)
 refine dx 34 (fun gc sgc => ?_) (fun gc sgc => ?_)
 refine dT 15 gc ?_
 refine dT 31 gc ?_
 refine dT 63 gc ?_
 refine dU 127 ?_
 refine dU 255 ?_
 refine dU 127 ?_
 refine dU 639 ?_
 refine dU 2047 ?_
 refine wk ?_
 refine dU 127 ?_
 refine dU 16511 ?_
 refine dU 65535 ?_
 refine dT 131071 gc ?_
 refine dA 262143 ?_ (x := aO gc)
 refine cv ?_
 exact IY
 refine dB 15 gc ?_ (x := sM)
 refine dB 31 gc ?_ (x := dI)
 refine dB 63 gc ?_ (x := sM)
 refine dx 37 (fun gd sgd => ?_) (fun gd sgd => ?_)
 refine dB 127 gd ?_ (x := lF lW)
 refine dB 255 gd ?_ (x := lD [sl .v _] lZ)
 refine dB 127 gd ?_ (x := sM)
 refine dB 639 gd ?_ (x := fI)
 refine dB 2047 gd ?_ (x := aU (k := k - 1) (by decide) gH (by exact tI) (by omega) (by exact aW (by omega) rfl) (by exact rfl))
 refine dB 4095 gd ?_ (x := cd (by decide) oF (by exact nl rfl))
 refine dB 8191 gd ?_ (x := lE [val _] az)
 refine dB 127 gd ?_ (x := lF oF)
 refine dB 16511 gd ?_ (x := lD [val _] az)
 refine dB 65535 gd ?_ (x := iy)
 refine dB 131071 gc ?_ (x := aO gd)
 refine dA 262143 ?_ (x := aF gc)
 refine sc ?_ ?_ <;> intro hbc
 exact IY
 exact IZ
 refine dF 127 gd ?_
 refine dF 255 gd ?_
 refine dF 127 gd ?_
 refine dF 639 gd ?_
 refine dF 2047 gd ?_
 refine dF 4095 gd ?_
 refine dF 8191 gd ?_
 refine dF 127 gd ?_
 refine dF 16511 gd ?_
 refine dF 65535 gd ?_
 refine dB 131071 gc ?_ (x := aF gd)
 refine dA 262143 ?_ (x := aF gc)
 refine eX ?_
 exact IZ
 have hend : k = x.aeB.length := by omega
 have hall : dG ⟨0, 0, 0⟩ kF lR x.aeB = true := pH ha hend
 refine er ?_
 refine sT [1, 24, 25, 26] [1] ?_
 refine rA ?_ (x := lF pJ)
 refine qU ?_
 refine sP [1, 24, 25, 26, 52, 53, 54] [1] ?_
 refine sL [1, 24, 25, 26, 52, 53] [1] (fun k2 : Nat => k2 ≤ x.Out.length ∧ (x.Out.take k2).all jW = true) (fun k2 : Nat => [(54, RV.int (k2 : Int))]) (fun k2 : Nat => []) (fun k2 : Nat => x.Out.length - k2) 0 (by exact ⟨by omega, by simp⟩) (by exact aI (by exact rfl) tI) (by exact tI) ?_
 rintro k2 ⟨hk2, ha2⟩
 refine cn ?_
 refine sc ?_ ?_ <;> intro hbc
 have hlt2 : k2 < x.Out.length := by omega
 refine bi ?_
 refine sT [1, 24, 25, 26, 52, 53, 54] [1] ?_
 refine mF ?_
 refine sS [1, 6, 24, 25, 26, 52, 53, 54] [1] ?_
 refine rM ?_
 refine rA ?_ (x := cL [(false, [val _])] [(false, [val _])] Ew (hs := by exact Fj))
 refine rA ?_ (x := nT)
 refine sc ?_ ?_ <;> intro hbd
 have hno2 : jW x.Out[k2] = false := by simpa [jW] using hbd
 have hn3 : x.Out.all jW = false := kE hlt2 hno2
 refine sS [1, 6, 24, 25, 26, 52, 53, 54] [1] ?_
 refine rK ?_
 exact xQ
 have hyes : jW x.Out[k2] = true := by simpa [jW] using hbd
 refine bb ?_
 refine sG [1, 6, 24, 25, 26, 52, 53, 54] [1] ?_
 refine cF ?_
 refine nx (k2 + 1) (by exact ⟨by omega, zw ha2 hlt2 hyes⟩)
 have hall2 : x.Out.all jW = true := jr (by rw [show x.Out.length = k2 by omega]; exact ha2)
 refine bq ?_
 refine sT [1, 24, 25, 26, 52, 53, 54] [1] ?_
 refine rA ?_ (x := lF pJ)
 refine oh ?_
 refine rA ?_ (x := cL [(false, [val _]), (false, [val _]), (false, [val _])] [(false, [val _]), (false, [val _]), (false, [val _])] kG (hs := by exact kT))
 refine rS ?_
 exact xQ
def TJ {x : aeC}  : aN prog 189 [(true, [val (vI x.Kind), val (vI x.Row.Id), sl .v (x.Row.Values.map am), val (vI x.Field), val (vI x.Value)])] (aJ [(false, [val (.bool (gF x))])]) := by
 refine sF func189 fun h0 w0 Fz0 => ?_
 refine sn 0 2 fun hl0_2 => ?_
 refine yC ?_
 refine pB ?_
 refine DV ?_
 refine qX ?_
 refine cx 8 (fun ga sga => ?_) (fun ga sga => ?_)
 refine rB ga ?_ (x := lF ic)
 refine pq ?_
 refine yP ?_
 refine rA ?_ (x := aO ga)
 refine zp ?_
 refine rA ?_ (x := lF tR)
 refine yE ?_
 refine tb ?_
 refine sc ?_ ?_ <;> intro hba
 refine sS [1, 2, 3, 16] [1] ?_
 refine rA ?_ (x := lF ic)
 refine Dc ?_
 refine rM ?_
 refine cx 22 (fun gb sgb => ?_) (fun gb sgb => ?_)
 exact Ja
 refine fU ?_
 refine aq.cases (s := 27) rfl (fun g5 => nomatch g5) (fun g5 => ?_)
 refine qK ?_
 exact jM
 refine tb ?_
 refine sc ?_ ?_ <;> intro hbb
 refine yX ?_
 refine cx 35 (fun gb sgb => ?_) (fun gb sgb => ?_)
 refine yT ?_
 refine gt ?_
 refine cx 40 (fun gc sgc => ?_) (fun gc sgc => ?_)
 exact BV
 exact uT
 refine fU ?_
 refine aq.cases (s := 40) rfl (fun g9 => nomatch g9) (fun g9 => ?_)
 refine ou ?_
 exact jM
 refine tb ?_
 refine sc ?_ ?_ <;> intro hbc
 refine yX ?_
 refine cx 48 (fun gb sgb => ?_) (fun gb sgb => ?_)
 refine DE ?_
 refine rB gb ?_ (x := cL [(false, [val _])] [(false, [val _])] Ew (hs := by exact Fj))
 refine gt ?_
 refine cx 53 (fun gc sgc => ?_) (fun gc sgc => ?_)
 refine rB gc ?_ (x := lF pK)
 refine CL ?_
 exact BU
 exact uT
 refine fU ?_
 refine aq.cases (s := 53) rfl (fun g13 => nomatch g13) (fun g13 => ?_)
 refine yZ ?_
 exact jM
 exact Jb
 refine mz ?_
 refine zp ?_
 refine rA ?_ (x := lF tR)
 refine yE ?_
 refine tb ?_
 refine sc ?_ ?_ <;> intro hba
 refine sS [1, 2, 3, 16] [1] ?_
 refine rA ?_ (x := lF ic)
 refine Dc ?_
 refine rM ?_
 refine cx 22 (fun gb sgb => ?_) (fun gb sgb => ?_)
 exact Ja
 refine fU ?_
 refine aq.cases (s := 27) rfl (fun g17 => nomatch g17) (fun g17 => ?_)
 refine qH ?_
 exact jM
 refine tb ?_
 refine sc ?_ ?_ <;> intro hbb
 refine yX ?_
 refine aq.cases (s := 35) rfl (fun g19 => nomatch g19) (fun g19 => ?_)
 refine tc ?_
 refine rM ?_
 refine aq.cases (s := 40) rfl (fun g20 => nomatch g20) (fun g20 => ?_)
 refine vT ?_
 exact jM
 refine tb ?_
 refine sc ?_ ?_ <;> intro hbc
 refine yX ?_
 refine aq.cases (s := 48) rfl (fun g22 => nomatch g22) (fun g22 => ?_)
 refine zf g22 ?_
 refine rA ?_ (x := aF g22)
 refine rM ?_
 refine aq.cases (s := 53) rfl (fun g23 => nomatch g23) (fun g23 => ?_)
 refine zf g23 ?_
 refine rA ?_ (x := aF g23)
 exact jM
 exact Jb
def TK {x : aeC}  : aN prog 194 [(true, [val (vI x.Kind), val (vI x.Row.Id), sl .v (x.Row.Values.map am), val (vI x.Field), val (vI x.Value)])] (aJ [(false, [val (.bool (gF x))])]) := by
 refine sF func194 fun h0 w0 Fz0 => ?_
 refine sn 0 2 fun hl0_2 => ?_
 refine yC ?_
 refine lj ?_
 refine rA ?_ (x := lF tR)
 refine yE ?_
 refine qO ?_
 refine sc ?_ ?_ <;> intro hba
 refine sS [1, 2, 4] [1] ?_
 refine rA ?_ (x := lF ic)
 refine Dd ?_
 refine rM ?_
 refine cx 10 (fun ga sga => ?_) (fun ga sga => ?_)
 refine rB ga ?_ (x := lF ww)
 refine oy ?_
 refine cx 15 (fun gb sgb => ?_) (fun gb sgb => ?_)
 refine rB gb ?_ (x := lF pK)
 refine qB ?_
 refine rA ?_ (x := aO gb)
 exact jM
 refine pz ?_
 exact jM
 refine gu ?_
 refine aq.cases (s := 15) rfl (fun g4 => nomatch g4) (fun g4 => ?_)
 refine td ?_
 exact jM
 refine qO ?_
 refine sc ?_ ?_ <;> intro hbb
 refine sS [1, 2, 4] [1] ?_
 refine DV ?_
 refine vd ?_
 refine rM ?_
 refine cx 26 (fun ga sga => ?_) (fun ga sga => ?_)
 refine rB ga ?_ (x := lF ic)
 refine pq ?_
 refine yP ?_
 refine jP ?_
 refine cx 33 (fun gb sgb => ?_) (fun gb sgb => ?_)
 refine yT ?_
 refine gt ?_
 refine cx 38 (fun gc sgc => ?_) (fun gc sgc => ?_)
 exact BV
 exact uT
 refine fU ?_
 refine aq.cases (s := 38) rfl (fun g9 => nomatch g9) (fun g9 => ?_)
 refine ou ?_
 exact jM
 refine gu ?_
 refine aq.cases (s := 33) rfl (fun g10 => nomatch g10) (fun g10 => ?_)
 refine ot ?_
 refine rM ?_
 refine aq.cases (s := 38) rfl (fun g11 => nomatch g11) (fun g11 => ?_)
 refine vS ?_
 exact jM
 refine qO ?_
 refine sc ?_ ?_ <;> intro hbc
 refine sS [1, 2, 4] [1] ?_
 refine DV ?_
 refine vd ?_
 refine rM ?_
 refine cx 49 (fun ga sga => ?_) (fun ga sga => ?_)
 refine rB ga ?_ (x := lF ic)
 refine pq ?_
 refine yP ?_
 refine jP ?_
 refine cx 56 (fun gb sgb => ?_) (fun gb sgb => ?_)
 refine DE ?_
 refine CS ?_
 refine cx 61 (fun gc sgc => ?_) (fun gc sgc => ?_)
 refine rB gc ?_ (x := lF pK)
 refine Ob ?_
 exact BU
 exact uT
 refine fU ?_
 refine aq.cases (s := 61) rfl (fun g16 => nomatch g16) (fun g16 => ?_)
 refine zb ?_
 exact jM
 refine gu ?_
 refine aq.cases (s := 56) rfl (fun g17 => nomatch g17) (fun g17 => ?_)
 refine qH ?_
 refine rM ?_
 refine aq.cases (s := 61) rfl (fun g18 => nomatch g18) (fun g18 => ?_)
 refine vU ?_
 exact jM
 refine bb ?_
 refine sS [1, 2, 4] [1] ?_
 refine rK ?_
 exact BT
end Go.Proofs.YtmekkgdboplbjaaGreat
