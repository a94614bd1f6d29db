/- What functions of the program compute. No condition. -/
import Derived.Test.YtmekkgdboplbjaaGreatDoorCL0
set_option linter.all false
namespace Go.Proofs.YtmekkgdboplbjaaGreatDoor
open Go Go.RowKit M PV Tryz
set_option maxRecDepth 10000
attribute [local irreducible] PV.Lcl PV.LclR RV.Lcl
def Ev {x : bh}  : aD prog 175 [(true, [val (vI x.Field), val (vI x.Low), val (vI x.High)])] (ar [(false, [val (.bool (eW x))])]) := by
 refine sF func175 fun h0 w0 Fz0 => ?_
 refine qn ?_
 refine kq ?_
 refine rA ?_ (x := lF eZ)
 refine rA ?_ (x := lD [val _] aA)
 refine rA ?_ (x := cL [(false, [val _])] [(false, [val _])] qQ (hs := by exact rC))
 refine rM ?_
 refine cx 6 (fun ga sga => ?_) (fun ga sga => ?_)
 refine rB ga ?_ (x := lF gU)
 refine rB ga ?_ (x := lD [val _] aA)
 refine rB ga ?_ (x := oZ)
 refine lC ?_
 refine cx 11 (fun gb sgb => ?_) (fun gb sgb => ?_)
 refine rB gb ?_ (x := lF gU)
 refine rB gb ?_ (x := lD [val _] aA)
 refine rB gb ?_ (x := lF go)
 refine rB gb ?_ (x := lD [val _] aA)
 refine rB gb ?_ (x := jW)
 refine cX ?_
 refine cx 18 (fun gc sgc => ?_) (fun gc sgc => ?_)
 refine rB gc ?_ (x := lF go)
 refine rB gc ?_ (x := lD [val _] aA)
 refine rB gc ?_ (x := jW)
 refine rA ?_ (x := aG gc)
 exact ja
 refine fq ?_
 exact ja
 refine dr ?_
 refine ai.cases (s := 18) rfl (fun g4 => nomatch g4) (fun g4 => ?_)
 refine lu ?_
 exact ja
 refine eo ?_
 refine ai.cases (s := 11) rfl (fun g5 => nomatch g5) (fun g5 => ?_)
 refine kl ?_
 refine rM ?_
 refine ai.cases (s := 18) rfl (fun g6 => nomatch g6) (fun g6 => ?_)
 refine kn ?_
 exact ja
def Ew {x : bh}  : aD prog 178 [(true, [val (vI x.Field), val (vI x.Low), val (vI x.High)])] (ar [(false, [val (.bool (eW x))])]) := by
 refine sF func178 fun h0 w0 Fz0 => ?_
 refine qn ?_
 refine kq ?_
 refine rA ?_ (x := lF eZ)
 refine lf ?_
 refine rM ?_
 refine cx 6 (fun ga sga => ?_) (fun ga sga => ?_)
 refine rB ga ?_ (x := lF gU)
 refine rB ga ?_ (x := lD [val _] aA)
 refine rB ga ?_ (x := lF go)
 refine pT ?_
 refine lC ?_
 refine cx 13 (fun gb sgb => ?_) (fun gb sgb => ?_)
 refine rB gb ?_ (x := lF go)
 refine rB gb ?_ (x := lD [val _] aA)
 refine rB gb ?_ (x := jW)
 refine rA ?_ (x := aG gb)
 exact ja
 refine fS ?_
 exact ja
 refine eo ?_
 refine ai.cases (s := 13) rfl (fun g3 => nomatch g3) (fun g3 => ?_)
 refine zf g3 ?_
 refine rA ?_ (x := an g3)
 exact ja
def Ex {x : List Int}  : aD prog 179 [(false, [sl .v (x.map ap)])] (ar [(false, [val (.bool (fy x))])]) := by
 refine sF func179 fun h0 w0 Fz0 => ?_
 refine sj 0 fun hl0 => ?_
 refine sR ?_
 refine cW ?_
 refine sS [0, 2] [] ?_
 refine cH ?_
 refine sP [0, 2, 3] [] ?_
 refine sL [0] [] (fun k : Nat => k ≤ x.length ∧ (x.take k).all dS = true) (fun k : Nat => [(3, RV.int (k : Int))]) (fun k : Nat => []) (fun k : Nat => x.length - k) 0 (by exact ⟨by omega, by simp⟩) (by exact aI (by exact rfl) tI) (by exact tI) ?_
 rintro k ⟨hk, ha⟩
 refine ee ?_
 refine nL ?_
 refine sc ?_ ?_ <;> intro hba
 have hlt : k < x.length := by omega
 refine dg ?_
 refine sS [0, 3] [] ?_
 refine ji ?_
 refine kb ?_
 refine vJ ?_
 refine sc ?_ ?_ <;> intro hbb
 have hno : dS x[k] = false := by simpa [dS] using hbb
 refine sS [0, 3] [] ?_
 refine ci ?_
 exact rb (by simp [fy, nP (P := dS) hlt hno])
 have hyes : dS x[k] = true := by simpa [dS] using hbb
 refine aK ?_
 refine sG [0, 3] [] ?_
 exact tJ
 have hall : x.all dS = true := lL (by rw [show x.length = k by omega]; exact ha)
 refine cU ?_
 refine sS [0, 3] [] ?_
 refine ij ?_
 refine rA ?_ (x := cL [(false, [val _]), (false, [val _]), (false, [val _])] [(false, [val _]), (false, [val _]), (false, [val _])] jw (hs := by exact jJ))
 refine cj ?_
 exact rb (by simp [fy, hall, *])
def yp {x : FY}  : aD prog 90 [(true, [val (vI x.Id), val (vI x.Gc), sl .v (x.FZ.map aV), sl .v (x.Out.map ap)])] (ar [(false, [val (.bool (aW x))])]) := by
 refine sF func90 fun h0 w0 Fz0 => ?_
 refine sn 0 2 fun hl0_2 => ?_
 refine sn 0 3 fun hl0_3 => ?_
 refine jd ?_
 refine fV ?_
 refine cH ?_
 refine sP [1, 2, 3] [1] ?_
 refine sL [1] [1] (fun k : Nat => k ≤ x.FZ.length ∧ jv ⟨0, 0, 0⟩ eW gi x.FZ k = true) (fun k : Nat => [(3, RV.int (k : Int))]) (fun k : Nat => []) (fun k : Nat => x.FZ.length - k) 0 (by exact ⟨by omega, rfl⟩) (by exact aI (by exact rfl) tI) (by exact tI) ?_
 rintro k ⟨hk, ha⟩
 refine ee ?_
 refine nF ?_
 refine rA ?_ (x := cF)
 refine sc ?_ ?_ <;> intro hba
 have hlt : k < x.FZ.length := by omega
 have hgk : x.FZ.getD k ⟨0, 0, 0⟩ = x.FZ[k] := lP hlt
 have hgp : 0 < k → x.FZ.getD (k - 1) ⟨0, 0, 0⟩ = x.FZ[k - 1] := fun h => lP (by omega)
 refine ir ?_
 refine sQ [1, 3] [1] ?_
 refine ce ck ?_
 refine dA 0 ?_ (x := lF eu)
 refine dA 1 ?_ (x := lD [sl .v _] ew)
 refine dA 0 ?_ (x := sM)
 refine dA 7 ?_ (x := bn (by decide) cz (by exact tI) (by exact rfl) (by exact bq (by omega) rfl) (by exact rfl))
 refine dA 15 ?_ (x := lE [val _, val _, val _] jy)
 refine dA 31 ?_ (x := cL [(true, [val _, val _, val _])] [(true, [val _, val _, val _])] Bq (hs := by exact Ew))
 refine dA 63 ?_ (x := nT)
 refine dA 127 ?_ (x := sM)
 refine dx 18 (fun ga sga => ?_) (fun ga sga => ?_)
 refine dT 255 ga ?_
 refine dT 511 ga ?_
 refine dT 1023 ga ?_
 refine dU 2047 ?_
 refine dU 4095 ?_
 refine dU 2047 ?_
 refine dU 16383 ?_
 refine dU 32767 ?_
 refine dU 65535 ?_
 refine dU 2047 ?_
 refine dU 133119 ?_
 refine dU 2047 ?_
 refine dU 526335 ?_
 refine dU 1968127 ?_
 refine dU 4065279 ?_
 refine dU 8259583 ?_
 refine dU 16777215 ?_
 refine dT 33554431 ga ?_
 refine dA 67108863 ?_ (x := aG ga)
 refine bY ?_
 exact uc
 refine dB 255 ga ?_ (x := sM)
 refine dB 511 ga ?_ (x := fl)
 refine dB 1023 ga ?_ (x := sM)
 refine dx 21 (fun gb sgb => ?_) (fun gb sgb => ?_)
 refine dB 2047 gb ?_ (x := lF eu)
 refine dB 4095 gb ?_ (x := lD [sl .v _] ew)
 refine dB 2047 gb ?_ (x := sM)
 refine dB 16383 gb ?_ (x := bn (by decide) cz (by exact tI) (by exact rfl) (by exact bq (by omega) rfl) (by exact rfl))
 refine dB 32767 gb ?_ (x := gF (by decide) eZ (by exact nl rfl))
 refine dB 65535 gb ?_ (x := lE [val _] aA)
 refine dB 2047 gb ?_ (x := lF eu)
 refine dB 133119 gb ?_ (x := lD [sl .v _] ew)
 refine dB 2047 gb ?_ (x := sM)
 refine dB 526335 gb ?_ (x := kS)
 refine dB 1968127 gb ?_ (x := bn (k := k - 1) (by decide) cz (by exact tI) (by omega) (by exact bq (by omega) rfl) (by exact rfl))
 refine dB 4065279 gb ?_ (x := gF (by decide) eZ (by exact nl rfl))
 refine dB 8259583 gb ?_ (x := lE [val _] aA)
 refine dB 16777215 gb ?_ (x := jW)
 refine dB 33554431 ga ?_ (x := aG gb)
 refine dA 67108863 ?_ (x := an ga)
 refine sc ?_ ?_ <;> intro hbb
 exact uc
 exact ue
 refine dF 2047 gb ?_
 refine dF 4095 gb ?_
 refine dF 2047 gb ?_
 refine dF 16383 gb ?_
 refine dF 32767 gb ?_
 refine dF 65535 gb ?_
 refine dF 2047 gb ?_
 refine dF 133119 gb ?_
 refine dF 2047 gb ?_
 refine dF 526335 gb ?_
 refine dF 1968127 gb ?_
 refine dF 4065279 gb ?_
 refine dF 8259583 gb ?_
 refine dF 16777215 gb ?_
 refine dB 33554431 ga ?_ (x := an gb)
 refine dA 67108863 ?_ (x := an ga)
 refine iY ?_
 exact ue
 have hend : k = x.FZ.length := by omega
 have hall : iw ⟨0, 0, 0⟩ eW gi x.FZ = true := wP ha hend
 refine cU ?_
 refine sT [1, 3] [1] ?_
 refine rA ?_ (x := lF ky)
 refine lf ?_
 refine rM ?_
 refine cx 41 (fun ga sga => ?_) (fun ga sga => ?_)
 refine rB ga ?_ (x := lF gQ)
 refine pT ?_
 refine lC ?_
 refine cx 46 (fun gb sgb => ?_) (fun gb sgb => ?_)
 refine ll ?_
 refine rB gb ?_ (x := lN cz)
 refine rB gb ?_ (x := jW)
 refine cX ?_
 refine cx 52 (fun gc sgc => ?_) (fun gc sgc => ?_)
 refine ni ?_
 refine rB gc ?_ (x := cL [(false, [sl _ _])] [(false, [sl .v _])] Br (hs := by exact Ex))
 refine rA ?_ (x := aG gc)
 exact mM
 refine fq ?_
 exact mM
 refine dr ?_
 refine ai.cases (s := 52) rfl (fun g10 => nomatch g10) (fun g10 => ?_)
 refine ls ?_
 exact mM
 refine eo ?_
 refine ai.cases (s := 46) rfl (fun g11 => nomatch g11) (fun g11 => ?_)
 refine zf g11 ?_
 refine rA ?_ (x := an g11)
 refine rM ?_
 refine ai.cases (s := 52) rfl (fun g12 => nomatch g12) (fun g12 => ?_)
 refine zf g12 ?_
 refine rA ?_ (x := an g12)
 exact mM
def oB {x : FY}  : aD prog 86 [(true, [val (vI x.Id), val (vI x.Gc), sl .v (x.FZ.map aV), sl .v (x.Out.map ap)])] (ar [(false, [val (.bool (aW x))])]) := by
 refine sF func86 fun h0 w0 Fz0 => ?_
 refine sn 0 2 fun hl0_2 => ?_
 refine sn 0 3 fun hl0_3 => ?_
 refine jd ?_
 refine fV ?_
 refine rA ?_ (x := lF ky)
 refine jb ?_
 refine fu ?_
 refine cx 11 (fun ga sga => ?_) (fun ga sga => ?_)
 refine fU ?_
 refine rM ?_
 refine ai.cases (s := 17) rfl (fun g2 => ?_) (fun g2 => nomatch g2)
 refine nG ?_
 refine bY ?_
 exact po
 refine rB ga ?_ (x := lF gQ)
 refine rB ga ?_ (x := lD [val _] aA)
 refine rB ga ?_ (x := cL [(false, [val _]), (false, [val _]), (false, [val _])] [(false, [val _]), (false, [val _]), (false, [val _])] kx (hs := by exact kN))
 refine rB ga ?_ (x := nT)
 refine rA ?_ (x := an ga)
 refine rM ?_
 refine cx 17 (fun gb sgb => ?_) (fun gb sgb => ?_)
 refine lv ?_
 refine bY ?_
 exact po
 refine ll ?_
 refine rB gb ?_ (x := lN cz)
 refine rB gb ?_ (x := fl)
 refine rA ?_ (x := an gb)
 refine sc ?_ ?_ <;> intro hba
 exact po
 have hfirst : (ba x.Id 0 23 && (ba x.Gc 0 3 && decide ((x.FZ.length : Int) ≤ 3))) = true := by simp_all
 refine cg ?_
 refine sS [1, 2] [1] ?_
 refine nF ?_
 refine im ?_
 refine sP [1, 2, 24, 25, 26] [1] ?_
 refine sL [1, 24, 25] [1] (fun k : Nat => k ≤ x.FZ.length ∧ jv ⟨0, 0, 0⟩ eW gi x.FZ k = true) (fun k : Nat => [(26, RV.int (k : Int))]) (fun k : Nat => []) (fun k : Nat => x.FZ.length - k) 0 (by exact ⟨by omega, rfl⟩) (by exact aI (by exact rfl) tI) (by exact tI) ?_
 rintro k ⟨hk, ha⟩
 refine it ?_
 refine sc ?_ ?_ <;> intro hbb
 have hlt : k < x.FZ.length := by omega
 have hgk : x.FZ.getD k ⟨0, 0, 0⟩ = x.FZ[k] := lP hlt
 have hgp : 0 < k → x.FZ.getD (k - 1) ⟨0, 0, 0⟩ = x.FZ[k - 1] := fun h => lP (by omega)
 refine dg ?_
 refine sT [1, 24, 25, 26] [1] ?_
 refine rM ?_
 refine vV ?_
 refine rX ?_ (x := (dZ (by decide) iA nY))
 refine rS ?_
 refine rA ?_ (x := bv (ag := true) (vs := [val _, val _, val _]) jy (by exact tI) (by exact rfl) (by exact nl rfl))
 refine aT ?_
 refine sO [(1, _), (3, _), (4, _), (24, _), (25, _), (26, _)] [(1, _), (4, (65, [val _, val _, val _]))] ?_
 refine ce ck ?_
 refine dA 0 ?_ (x := lD [val _, val _, val _] jy)
 refine dA 1 ?_ (x := cL [(true, [val _, val _, val _])] [(true, [val _, val _, val _])] Bp (hs := by exact Ev))
 refine dA 3 ?_ (x := nT)
 refine dA 7 ?_ (x := sM)
 refine dx 34 (fun gc sgc => ?_) (fun gc sgc => ?_)
 refine dT 15 gc ?_
 refine dT 31 gc ?_
 refine dT 63 gc ?_
 refine dU 127 ?_
 refine dU 255 ?_
 refine dU 127 ?_
 refine dU 639 ?_
 refine dU 2047 ?_
 refine dU 4095 ?_
 refine dU 8191 ?_
 refine dU 127 ?_
 refine dU 16511 ?_
 refine dU 65535 ?_
 refine dT 131071 gc ?_
 refine dA 262143 ?_ (x := aG gc)
 refine bY ?_
 exact uf
 refine dB 15 gc ?_ (x := sM)
 refine dB 31 gc ?_ (x := fl)
 refine dB 63 gc ?_ (x := sM)
 refine dx 37 (fun gd sgd => ?_) (fun gd sgd => ?_)
 refine dB 127 gd ?_ (x := lF eu)
 refine dB 255 gd ?_ (x := lD [sl .v _] ew)
 refine dB 127 gd ?_ (x := sM)
 refine dB 639 gd ?_ (x := kS)
 refine dB 2047 gd ?_ (x := bn (k := k - 1) (by decide) cz (by exact tI) (by omega) (by exact bq (by omega) rfl) (by exact rfl))
 refine dB 4095 gd ?_ (x := gF (by decide) eZ (by exact nl rfl))
 refine dB 8191 gd ?_ (x := lE [val _] aA)
 refine dB 127 gd ?_ (x := lF eZ)
 refine dB 16511 gd ?_ (x := lD [val _] aA)
 refine dB 65535 gd ?_ (x := oZ)
 refine dB 131071 gc ?_ (x := aG gd)
 refine dA 262143 ?_ (x := an gc)
 refine sc ?_ ?_ <;> intro hbc
 exact uf
 exact ug
 refine dF 127 gd ?_
 refine dF 255 gd ?_
 refine dF 127 gd ?_
 refine dF 639 gd ?_
 refine dF 2047 gd ?_
 refine dF 4095 gd ?_
 refine dF 8191 gd ?_
 refine dF 127 gd ?_
 refine dF 16511 gd ?_
 refine dF 65535 gd ?_
 refine dB 131071 gc ?_ (x := an gd)
 refine dA 262143 ?_ (x := an gc)
 refine iY ?_
 exact ug
 have hend : k = x.FZ.length := by omega
 have hall : iw ⟨0, 0, 0⟩ eW gi x.FZ = true := wP ha hend
 refine jo ?_
 refine sT [1, 24, 25, 26] [1] ?_
 refine jj ?_
 refine rA ?_ (x := lN da)
 refine im ?_
 refine sP [1, 24, 25, 26, 52, 53, 54] [1] ?_
 refine sL [1, 24, 25, 26, 52, 53] [1] (fun k2 : Nat => k2 ≤ x.Out.length ∧ (x.Out.take k2).all dS = true) (fun k2 : Nat => [(54, RV.int (k2 : Int))]) (fun k2 : Nat => []) (fun k2 : Nat => x.Out.length - k2) 0 (by exact ⟨by omega, by simp⟩) (by exact aI (by exact rfl) tI) (by exact tI) ?_
 rintro k2 ⟨hk2, ha2⟩
 refine it ?_
 refine sc ?_ ?_ <;> intro hbc
 have hlt2 : k2 < x.Out.length := by omega
 refine dg ?_
 refine sT [1, 24, 25, 26, 52, 53, 54] [1] ?_
 refine kb ?_
 refine rS ?_
 refine sS [1, 6, 24, 25, 26, 52, 53, 54] [1] ?_
 refine rM ?_
 refine rA ?_ (x := cL [(false, [val _])] [(false, [val _])] qQ (hs := by exact rC))
 refine rA ?_ (x := nT)
 refine sc ?_ ?_ <;> intro hbd
 have hno2 : dS x.Out[k2] = false := by simpa [dS] using hbd
 have hn3 : x.Out.all dS = false := nP hlt2 hno2
 refine sS [1, 6, 24, 25, 26, 52, 53, 54] [1] ?_
 refine rK ?_
 exact mN
 have hyes : dS x.Out[k2] = true := by simpa [dS] using hbd
 refine aK ?_
 refine sG [1, 6, 24, 25, 26, 52, 53, 54] [1] ?_
 refine ip ?_
 refine nx (k2 + 1) (by exact ⟨by omega, qL ha2 hlt2 hyes⟩)
 have hall2 : x.Out.all dS = true := lL (by rw [show x.Out.length = k2 by omega]; exact ha2)
 refine cU ?_
 refine sT [1, 24, 25, 26, 52, 53, 54] [1] ?_
 refine jj ?_
 refine rA ?_ (x := lN da)
 refine rA ?_ (x := cL [(false, [val _]), (false, [val _]), (false, [val _])] [(false, [val _]), (false, [val _]), (false, [val _])] kx (hs := by exact kN))
 refine rS ?_
 exact mN
def rJ {x : Ga}  : aD prog 113 [(true, [val (vI x.Kind), val (vI x.Row.Id), sl .v (x.Row.Values.map ap), val (vI x.Field), val (vI x.Value)])] (ar [(false, [val (.bool (cb x))])]) := by
 refine sF func113 fun h0 w0 Fz0 => ?_
 refine sn 0 2 fun hl0_2 => ?_
 refine jc ?_
 refine kq ?_
 refine jm ?_
 refine jb ?_
 refine rM ?_
 refine cx 8 (fun ga sga => ?_) (fun ga sga => ?_)
 refine rB ga ?_ (x := lF eJ)
 refine nA ?_
 refine kd ?_
 refine bZ ?_
 refine sS [1, 2, 3] [1] ?_
 refine lI ?_
 refine ki ?_
 refine sc ?_ ?_ <;> intro hba
 refine sS [1, 2, 3, 16] [1] ?_
 refine wu ?_
 refine rM ?_
 refine cx 22 (fun gb sgb => ?_) (fun gb sgb => ?_)
 exact uh
 refine dr ?_
 refine ai.cases (s := 27) rfl (fun g5 => nomatch g5) (fun g5 => ?_)
 refine kl ?_
 exact eb
 refine ki ?_
 refine sc ?_ ?_ <;> intro hbb
 refine nC ?_
 refine cx 35 (fun gb sgb => ?_) (fun gb sgb => ?_)
 refine nu ?_
 refine cX ?_
 refine cx 40 (fun gc sgc => ?_) (fun gc sgc => ?_)
 exact pt
 exact kU
 refine dr ?_
 refine ai.cases (s := 40) rfl (fun g9 => nomatch g9) (fun g9 => ?_)
 refine lx ?_
 exact eb
 refine ki ?_
 refine sc ?_ ?_ <;> intro hbc
 refine nC ?_
 refine cx 48 (fun gb sgb => ?_) (fun gb sgb => ?_)
 refine rB gb ?_ (x := lF fz)
 refine rB gb ?_ (x := lD [val _] aA)
 refine rB gb ?_ (x := cL [(false, [val _])] [(false, [val _])] qQ (hs := by exact rC))
 refine cX ?_
 refine cx 53 (fun gc sgc => ?_) (fun gc sgc => ?_)
 refine qz ?_
 refine rB gc ?_ (x := cL [(false, [val _]), (false, [val _]), (false, [val _])] [(false, [val _]), (false, [val _]), (false, [val _])] kx (hs := by exact kN))
 exact pq
 exact kU
 refine dr ?_
 refine ai.cases (s := 53) rfl (fun g13 => nomatch g13) (fun g13 => ?_)
 refine zf g13 ?_
 refine rA ?_ (x := an g13)
 exact eb
 exact ui
 refine fp ?_
 refine bZ ?_
 refine sS [1, 2, 3] [1] ?_
 refine lI ?_
 refine ki ?_
 refine sc ?_ ?_ <;> intro hba
 refine sS [1, 2, 3, 16] [1] ?_
 refine wu ?_
 refine rM ?_
 refine cx 22 (fun gb sgb => ?_) (fun gb sgb => ?_)
 exact uh
 refine dr ?_
 refine ai.cases (s := 27) rfl (fun g17 => nomatch g17) (fun g17 => ?_)
 refine nE ?_
 exact eb
 refine ki ?_
 refine sc ?_ ?_ <;> intro hbb
 refine nC ?_
 refine ai.cases (s := 35) rfl (fun g19 => nomatch g19) (fun g19 => ?_)
 refine zf g19 ?_
 refine rA ?_ (x := an g19)
 refine rM ?_
 refine ai.cases (s := 40) rfl (fun g20 => nomatch g20) (fun g20 => ?_)
 refine zf g20 ?_
 refine rA ?_ (x := an g20)
 exact eb
 refine ki ?_
 refine sc ?_ ?_ <;> intro hbc
 refine nC ?_
 refine ai.cases (s := 48) rfl (fun g22 => nomatch g22) (fun g22 => ?_)
 refine zf g22 ?_
 refine rA ?_ (x := an g22)
 refine rM ?_
 refine ai.cases (s := 53) rfl (fun g23 => nomatch g23) (fun g23 => ?_)
 refine zf g23 ?_
 refine rA ?_ (x := an g23)
 exact eb
 exact ui
def yq {x : Ga}  : aD prog 110 [(true, [val (vI x.Kind), val (vI x.Row.Id), sl .v (x.Row.Values.map ap), val (vI x.Field), val (vI x.Value)])] (ar [(false, [val (.bool (cb x))])]) := by
 refine sF func110 fun h0 w0 Fz0 => ?_
 refine sn 0 2 fun hl0_2 => ?_
 refine jc ?_
 refine fV ?_
 refine lI ?_
 refine jp ?_
 refine sc ?_ ?_ <;> intro hba
 refine sS [1, 2, 4] [1] ?_
 refine jh ?_
 refine rA ?_ (x := cL [(true, [val _, sl _ _])] [(true, [val _, sl .v _])] wV (hs := by exact yg))
 refine rM ?_
 refine cx 10 (fun ga sga => ?_) (fun ga sga => ?_)
 refine rB ga ?_ (x := lF fz)
 refine lj ?_
 refine rM ?_
 refine cx 15 (fun gb sgb => ?_) (fun gb sgb => ?_)
 refine rB gb ?_ (x := lF gn)
 refine li ?_
 refine rA ?_ (x := aG gb)
 exact eb
 refine fS ?_
 exact eb
 refine eo ?_
 refine ai.cases (s := 15) rfl (fun g4 => nomatch g4) (fun g4 => ?_)
 refine lu ?_
 exact eb
 refine jp ?_
 refine sc ?_ ?_ <;> intro hbb
 refine sS [1, 2, 4] [1] ?_
 refine jm ?_
 refine lf ?_
 refine rM ?_
 refine cx 26 (fun ga sga => ?_) (fun ga sga => ?_)
 refine rB ga ?_ (x := lF eJ)
 refine nA ?_
 refine kd ?_
 refine rM ?_
 refine cx 33 (fun gb sgb => ?_) (fun gb sgb => ?_)
 refine nu ?_
 refine cX ?_
 refine cx 38 (fun gc sgc => ?_) (fun gc sgc => ?_)
 exact pt
 exact kU
 refine dr ?_
 refine ai.cases (s := 38) rfl (fun g9 => nomatch g9) (fun g9 => ?_)
 refine lx ?_
 exact eb
 refine eo ?_
 refine ai.cases (s := 33) rfl (fun g10 => nomatch g10) (fun g10 => ?_)
 refine ls ?_
 refine rM ?_
 refine ai.cases (s := 38) rfl (fun g11 => nomatch g11) (fun g11 => ?_)
 refine zf g11 ?_
 refine rA ?_ (x := an g11)
 exact eb
 refine jp ?_
 refine sc ?_ ?_ <;> intro hbc
 refine sS [1, 2, 4] [1] ?_
 refine jm ?_
 refine lf ?_
 refine rM ?_
 refine cx 49 (fun ga sga => ?_) (fun ga sga => ?_)
 refine rB ga ?_ (x := lF eJ)
 refine nA ?_
 refine kd ?_
 refine rM ?_
 refine cx 56 (fun gb sgb => ?_) (fun gb sgb => ?_)
 refine rB gb ?_ (x := lF fz)
 refine vE ?_
 refine cX ?_
 refine cx 61 (fun gc sgc => ?_) (fun gc sgc => ?_)
 refine qz ?_
 refine rB gc ?_ (x := cL [(false, [val _]), (false, [val _]), (false, [val _])] [(false, [val _]), (false, [val _]), (false, [val _])] jw (hs := by exact jJ))
 exact pq
 exact kU
 refine dr ?_
 refine ai.cases (s := 61) rfl (fun g16 => nomatch g16) (fun g16 => ?_)
 refine zf g16 ?_
 refine rA ?_ (x := an g16)
 exact eb
 refine eo ?_
 refine ai.cases (s := 56) rfl (fun g17 => nomatch g17) (fun g17 => ?_)
 refine nE ?_
 refine rM ?_
 refine ai.cases (s := 61) rfl (fun g18 => nomatch g18) (fun g18 => ?_)
 refine zf g18 ?_
 refine rA ?_ (x := an g18)
 exact eb
 refine aK ?_
 refine sS [1, 2, 4] [1] ?_
 refine rK ?_
 exact pp
end Go.Proofs.YtmekkgdboplbjaaGreatDoor
