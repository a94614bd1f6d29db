/- What functions of the program compute. No condition. -/
import Derived.Test.YtmekkgdboplbjaaGreatDoorCR0
import Derived.Test.YtmekkgdboplbjaaGreatDoorCL0
set_option linter.all false
namespace Go.Proofs.YtmekkgdboplbjaaGreatDoor
open Go Go.RowKit M PV Tryz
set_option maxRecDepth 10000
attribute [local irreducible] PV.Lcl PV.LclR RV.Lcl
def UH {x : bM}  : aN prog 156 [(true, [val (vI x.Segment), val (vI x.Base), sl .v (x.Ids.map an), sl .v (x.ZL.map an), sl .v (x.Rows.map an)])] (aF [(false, [val (.bool (cj x))])]) := by
 refine sF func156 fun h0 w0 Fz0 => ?_
 refine sn 0 2 fun hl0_2 => ?_
 refine sn 0 3 fun hl0_3 => ?_
 refine sn 0 4 fun hl0_4 => ?_
 refine pM ?_
 refine tE ?_
 refine rA ?_ (x := lF rU)
 refine kZ ?_
 refine gA ?_
 refine tq ?_
 refine rA ?_ (x := lD [sl .v _] bz)
 refine rA ?_ (x := cL [(false, [sl _ _])] [(false, [sl .v _])] Qh (hs := by exact Up))
 refine gk ?_
 refine cx 12 (fun ga sga => ?_) (fun ga sga => ?_)
 refine lO ?_
 refine az.cases (s := 17) rfl (fun g2 => ?_) (fun g2 => nomatch g2)
 refine my ?_
 refine rM ?_
 refine az.cases (s := 24) rfl (fun g3 => ?_) (fun g3 => nomatch g3)
 refine pX ?_
 exact nu
 refine rB ga ?_ (x := sM)
 refine ta ?_
 refine lf ?_
 refine cx 17 (fun gb sgb => ?_) (fun gb sgb => ?_)
 refine qa ?_
 refine az.cases (s := 24) rfl (fun g6 => ?_) (fun g6 => nomatch g6)
 refine tD ?_
 exact nu
 refine rB gb ?_ (x := lF oa)
 refine rB gb ?_ (x := lD [sl .v _] bz)
 refine rB gb ?_ (x := lN aW)
 refine rB gb ?_ (x := sM)
 refine rB gb ?_ (x := gJ)
 refine rA ?_ (x := aH gb)
 refine rM ?_
 refine cx 24 (fun gc sgc => ?_) (fun gc sgc => ?_)
 refine ny ?_
 exact nu
 refine rB gc ?_ (x := lF iO)
 refine rB gc ?_ (x := lD [sl .v _] bz)
 refine rB gc ?_ (x := lN aW)
 refine rB gc ?_ (x := sM)
 refine rB gc ?_ (x := gJ)
 refine rA ?_ (x := aH gc)
 refine sc (fun hba => ?_) (fun hba => ?_)
 exact yV
 have hpr : kG x = true := by
  unfold kG aB
  simp only [aL, decide_eq_true_eq]
  refine ⟨by first | assumption | simp_all, ?_⟩
  first | omega | (simp only [aB, aL, decide_eq_true_eq, Bool.not_eq_true, Bool.not_eq_false] at *; omega)
 have hpl := mH hpr
 refine eA ?_
 refine tq ?_
 refine kZ ?_
 refine eK ?_
 refine sP [1, 2, 3, 33, 34] [1] ?_
 refine sL [1, 3, 33] [1] (fun k : Nat => k ≤ x.Ids.length ∧ nP x k = true) (fun k : Nat => [(34, RV.int (k : Int))]) (fun k : Nat => []) (fun k : Nat => x.Ids.length - k) 0 (by exact ⟨by omega, rfl⟩) (by exact aI (by exact rfl) tI) (by exact tI) ?_
 rintro k ⟨hk, ha⟩
 refine eL ?_
 refine sc (fun hbb => ?_) (fun hbb => ?_)
 have hlt : k < x.Ids.length := by omega
 have htl : k < x.ZL.length := by omega
 have hrl : k < x.Rows.length := by omega
 refine bw ?_
 refine sT [1, 3, 33, 34] [1] ?_
 refine rM ?_
 refine gA ?_
 refine sP [1, 3, 4, 33, 34] [1] ?_
 refine At ?_
 refine dA 1 ?_ (x := lD [sl .v _] bz)
 refine dA 0 ?_ (x := sM)
 refine Iy ?_
 refine dA 31 ?_ (x := cL [(false, [val _]), (false, [val _]), (false, [val _])] [(false, [val _]), (false, [val _]), (false, [val _])] jN (hs := by exact kb))
 refine dA 63 ?_ (x := nT)
 refine dA 127 ?_ (x := sM)
 refine dx 44 (fun gd sgd => ?_) (fun gd sgd => ?_)
 refine dT 255 gd ?_
 refine dT 511 gd ?_
 refine dT 255 gd ?_
 refine dT 2047 gd ?_
 refine dT 4095 gd ?_
 refine dT 255 gd ?_
 refine dT 8447 gd ?_
 refine dT 32767 gd ?_
 refine dT 65535 gd ?_
 refine dA 131071 ?_ (x := aK gd)
 refine cO ?_
 exact Ft
 refine dB 255 gd ?_ (x := lF iO)
 refine dB 511 gd ?_ (x := lD [sl .v _] bz)
 refine dB 255 gd ?_ (x := sM)
 refine dB 2047 gd ?_ (x := aU (k := k) (by decide) aW (by exact tI) (by rfl) (by exact aV (by omega) (by rw [cU (d := 0) (by omega)])) (by exact rfl))
 refine dB 4095 gd ?_ (x := lE [val _] aw)
 refine dB 255 gd ?_ (x := lF nZ)
 refine dB 8447 gd ?_ (x := lD [val _] aw)
 refine dB 32767 gd ?_ (x := cL [(false, [val _]), (false, [val _]), (false, [val _])] [(false, [val _]), (false, [val _]), (false, [val _])] jN (hs := by exact kb))
 refine dB 65535 gd ?_ (x := nT)
 refine dA 131071 ?_ (x := aH gd)
 refine sc (fun hbc => ?_) (fun hbc => ?_)
 exact Ft
 have hyes : kF x k = true := by simp_all [kF]
 refine bc ?_
 refine sG [1, 3, 4, 33, 34] [1] ?_
 refine fc ?_
 exact Fu
 have hend : k = x.Ids.length := by omega
 rw [hend] at ha
 refine bE ?_
 refine sT [1, 3, 33, 34] [1] ?_
 refine rA ?_ (x := lF By)
 refine Ix ?_
 refine rM ?_
 refine cx 59 (fun gd sgd => ?_) (fun gd sgd => ?_)
 refine rB gd ?_ (x := lF nZ)
 refine zD ?_
 refine rA ?_ (x := aK gd)
 exact Fv
 refine zf gd ?_
 refine rA ?_ (x := aH gd)
 exact Fv
def LK {x : bM}  : aN prog 160 [(true, [val (vI x.Segment), val (vI x.Base), sl .v (x.Ids.map an), sl .v (x.ZL.map an), sl .v (x.Rows.map an)])] (aF [(false, [val (.bool (cj x))])]) := by
 refine sF func160 fun h0 w0 Fz0 => ?_
 refine sn 0 2 fun hl0_2 => ?_
 refine sn 0 3 fun hl0_3 => ?_
 refine sn 0 4 fun hl0_4 => ?_
 refine pM ?_
 refine tE ?_
 refine rA ?_ (x := lF rU)
 refine kZ ?_
 refine gA ?_
 refine tq ?_
 refine rA ?_ (x := lD [sl .v _] bz)
 refine rA ?_ (x := cL [(false, [sl _ _])] [(false, [sl .v _])] AL (hs := by exact BH))
 refine gk ?_
 refine cx 12 (fun ga sga => ?_) (fun ga sga => ?_)
 refine lO ?_
 refine az.cases (s := 16) rfl (fun g2 => ?_) (fun g2 => nomatch g2)
 refine my ?_
 refine rM ?_
 refine az.cases (s := 20) rfl (fun g3 => ?_) (fun g3 => nomatch g3)
 refine pX ?_
 refine rM ?_
 refine az.cases (s := 27) rfl (fun g4 => ?_) (fun g4 => nomatch g4)
 refine zt g4 ?_
 refine rA ?_ (x := aK g4)
 refine rM ?_
 refine az.cases (s := 34) rfl (fun g5 => ?_) (fun g5 => nomatch g5)
 refine zt g5 ?_
 refine rA ?_ (x := aK g5)
 refine rM ?_
 refine az.cases (s := 40) rfl (fun g6 => ?_) (fun g6 => nomatch g6)
 refine tD ?_
 exact nu
 refine rB ga ?_ (x := sM)
 refine rB ga ?_ (x := fb)
 refine lf ?_
 refine cx 16 (fun gb sgb => ?_) (fun gb sgb => ?_)
 refine qa ?_
 refine az.cases (s := 20) rfl (fun g9 => ?_) (fun g9 => nomatch g9)
 refine zt g9 ?_
 refine rA ?_ (x := aK g9)
 refine rM ?_
 refine az.cases (s := 27) rfl (fun g10 => ?_) (fun g10 => nomatch g10)
 refine zt g10 ?_
 refine rA ?_ (x := aK g10)
 refine rM ?_
 refine az.cases (s := 34) rfl (fun g11 => ?_) (fun g11 => nomatch g11)
 refine zt g11 ?_
 refine rA ?_ (x := aK g11)
 refine rM ?_
 refine az.cases (s := 40) rfl (fun g12 => ?_) (fun g12 => nomatch g12)
 refine zt g12 ?_
 refine rA ?_ (x := aK g12)
 exact nu
 refine Ax ?_
 refine rA ?_ (x := aH gb)
 refine rM ?_
 refine cx 20 (fun gc sgc => ?_) (fun gc sgc => ?_)
 refine ny ?_
 refine rM ?_
 refine az.cases (s := 27) rfl (fun g15 => ?_) (fun g15 => nomatch g15)
 refine zt g15 ?_
 refine rA ?_ (x := aK g15)
 refine rM ?_
 refine az.cases (s := 34) rfl (fun g16 => ?_) (fun g16 => nomatch g16)
 refine zt g16 ?_
 refine rA ?_ (x := aK g16)
 refine rM ?_
 refine az.cases (s := 40) rfl (fun g17 => ?_) (fun g17 => nomatch g17)
 refine zt g17 ?_
 refine rA ?_ (x := aK g17)
 exact nu
 refine rB gc ?_ (x := lF oa)
 refine rB gc ?_ (x := lD [sl .v _] bz)
 refine rB gc ?_ (x := lN aW)
 refine rB gc ?_ (x := sM)
 refine rB gc ?_ (x := gJ)
 refine rA ?_ (x := aH gc)
 refine rM ?_
 refine cx 27 (fun gd sgd => ?_) (fun gd sgd => ?_)
 refine zt gd ?_
 refine tH ?_
 refine az.cases (s := 34) rfl (fun g20 => ?_) (fun g20 => nomatch g20)
 refine zt g20 ?_
 refine rA ?_ (x := aK g20)
 refine rM ?_
 refine az.cases (s := 40) rfl (fun g21 => ?_) (fun g21 => nomatch g21)
 refine zt g21 ?_
 refine rA ?_ (x := aK g21)
 exact nu
 refine rB gd ?_ (x := lF iO)
 refine rB gd ?_ (x := lD [sl .v _] bz)
 refine rB gd ?_ (x := lN aW)
 refine rB gd ?_ (x := sM)
 refine rB gd ?_ (x := gJ)
 refine tJ ?_
 refine cx 34 (fun ge sge => ?_) (fun ge sge => ?_)
 refine zt ge ?_
 refine rA ?_ (x := aK ge)
 refine rM ?_
 refine az.cases (s := 40) rfl (fun g24 => ?_) (fun g24 => nomatch g24)
 refine zt g24 ?_
 refine rA ?_ (x := aK g24)
 exact nu
 refine rB ge ?_ (x := lF By)
 refine Iv ?_
 refine rB ge ?_ (x := nT)
 refine rA ?_ (x := aH ge)
 refine rM ?_
 refine cx 40 (fun gf sgf => ?_) (fun gf sgf => ?_)
 refine zt gf ?_
 refine rA ?_ (x := aK gf)
 exact nu
 refine rB gf ?_ (x := lF nZ)
 refine rB gf ?_ (x := lD [val _] aw)
 refine rB gf ?_ (x := cL [(false, [val _]), (false, [val _]), (false, [val _])] [(false, [val _]), (false, [val _]), (false, [val _])] fP (hs := by exact fV))
 refine rB gf ?_ (x := nT)
 refine rA ?_ (x := aH gf)
 refine sc (fun hba => ?_) (fun hba => ?_)
 exact yV
 have hpr : kG x = true := by
  unfold kG aB
  simp only [aL, decide_eq_true_eq]
  refine ⟨by first | assumption | simp_all, ?_⟩
  first | omega | (simp only [aB, aL, decide_eq_true_eq, Bool.not_eq_true, Bool.not_eq_false] at *; omega)
 have hpl := mH hpr
 have hsb : (aB x.Segment 0 7 && aB x.Base 0 4) = true := by simp_all
 refine eA ?_
 refine re ?_
 refine sL [1, 3] [1] (fun k : Nat => k ≤ x.Ids.length ∧ nP x k = true) (fun k : Nat => [(4, RV.int (k : Int))]) (fun k : Nat => []) (fun k : Nat => x.Ids.length - k) 0 (by exact ⟨by omega, rfl⟩) (by exact aI (by exact rfl) tI) (by exact tI) ?_
 rintro k ⟨hk, ha⟩
 refine cI ?_
 refine oJ ?_
 refine sc (fun hbb => ?_) (fun hbb => ?_)
 have hlt : k < x.Ids.length := by omega
 have htl : k < x.ZL.length := by omega
 have hrl : k < x.Rows.length := by omega
 refine er ?_
 refine sQ [1, 3, 4] [1] ?_
 refine At ?_
 refine dA 1 ?_ (x := lD [sl .v _] bz)
 refine dA 0 ?_ (x := sM)
 refine Iy ?_
 refine dA 31 ?_ (x := cL [(false, [val _]), (false, [val _]), (false, [val _])] [(false, [val _]), (false, [val _]), (false, [val _])] fP (hs := by exact fV))
 refine dA 63 ?_ (x := nT)
 refine dA 127 ?_ (x := sM)
 refine dx 58 (fun gg sgg => ?_) (fun gg sgg => ?_)
 refine dT 255 gg ?_
 refine dT 511 gg ?_
 refine dT 255 gg ?_
 refine dT 2047 gg ?_
 refine dT 4095 gg ?_
 refine dT 255 gg ?_
 refine dT 8447 gg ?_
 refine dT 32767 gg ?_
 refine dT 65535 gg ?_
 refine dA 131071 ?_ (x := aK gg)
 refine cO ?_
 exact Fw
 refine dB 255 gg ?_ (x := lF iO)
 refine dB 511 gg ?_ (x := lD [sl .v _] bz)
 refine dB 255 gg ?_ (x := sM)
 refine dB 2047 gg ?_ (x := aU (k := k) (by decide) aW (by exact tI) (by rfl) (by exact aV (by omega) (by rw [cU (d := 0) (by omega)])) (by exact rfl))
 refine dB 4095 gg ?_ (x := lE [val _] aw)
 refine dB 255 gg ?_ (x := lF nZ)
 refine dB 8447 gg ?_ (x := lD [val _] aw)
 refine dB 32767 gg ?_ (x := cL [(false, [val _]), (false, [val _]), (false, [val _])] [(false, [val _]), (false, [val _]), (false, [val _])] fP (hs := by exact fV))
 refine dB 65535 gg ?_ (x := nT)
 refine dA 131071 ?_ (x := aH gg)
 refine sc (fun hbc => ?_) (fun hbc => ?_)
 exact Fw
 have hyes : kF x k = true := by simp_all [kF]
 refine bc ?_
 refine sG [1, 3, 4] [1] ?_
 refine ca ?_
 exact Fu
 have hend : k = x.Ids.length := by omega
 rw [hend] at ha
 refine bE ?_
 refine sT [1, 3, 4] [1] ?_
 refine cC ?_
 exact rb (by simp_all [cj])
def UI {x : bM}  : aN prog 180 [(true, [val (vI x.Segment), val (vI x.Base), sl .v (x.Ids.map an), sl .v (x.ZL.map an), sl .v (x.Rows.map an)])] (aF [(false, [val (vI (mI x))])]) := by
 refine sF func180 fun h0 w0 Fz0 => ?_
 refine sn 0 2 fun hl0_2 => ?_
 refine sn 0 3 fun hl0_3 => ?_
 refine sn 0 4 fun hl0_4 => ?_
 refine pM ?_
 refine iY ?_
 refine zB ?_
 refine rA ?_ (x := nT)
 refine sc (fun hba => ?_) (fun hba => ?_)
 exact Fy
 have hok : cj x = true := by simpa using hba
 obtain ⟨hp_, hb0, hb4, hrw⟩ := pc hok
 have hpl := mH hp_
 refine wE ?_
 refine to ?_
 refine gA ?_
 refine sS [1, 2, 3] [1] ?_
 refine rA ?_ (x := lF iO)
 refine kZ ?_
 refine eK ?_
 refine sP [1, 2, 3, 12, 13, 14] [1] ?_
 refine sL [1, 2, 12, 13] [1] (fun k : Nat => k ≤ x.Rows.length) (fun k : Nat => [(3, RV.int (x.Base + ((List.range k).map (qp x)).sum)), (14, RV.int (k : Int))]) (fun k : Nat => []) (fun k : Nat => x.Rows.length - k) 0 (by omega) (by exact aI (by exact bA (by simp)) (aI (by exact rfl) tI)) (by exact tI) ?_
 rintro k hk
 refine eL ?_
 refine sc (fun hbb => ?_) (fun hbb => ?_)
 have hlt : k < x.Rows.length := by omega
 have hsm := qo (f := qp x) (m := 4) (n := x.Ids.length) (fun i hi => hrw i hi) k (by omega)
 have hr1 : 0 ≤ x.Rows[k] ∧ x.Rows[k] ≤ 4 := by have := hrw k (by omega); rwa [← cU hlt] at this
 refine bw ?_
 refine sT [1, 2, 3, 12, 13, 14] [1] ?_
 refine nF ?_
 refine sG [1, 2, 3, 5, 12, 13, 14] [1] ?_
 refine rM ?_
 refine ca ?_
 refine sG [1, 2, 3, 5, 12, 13, 14] [1] ?_
 refine fc ?_
 exact FC
 have hend : k = x.Rows.length := by omega
 refine bE ?_
 refine sT [1, 2, 3, 12, 13, 14] [1] ?_
 exact FD
def UJ {x : bM}  : aN prog 182 [(true, [val (vI x.Segment), val (vI x.Base), sl .v (x.Ids.map an), sl .v (x.ZL.map an), sl .v (x.Rows.map an)])] (aF [(false, [val (vI (mI x))])]) := by
 refine sF func182 fun h0 w0 Fz0 => ?_
 refine sn 0 2 fun hl0_2 => ?_
 refine sn 0 3 fun hl0_3 => ?_
 refine sn 0 4 fun hl0_4 => ?_
 refine pM ?_
 refine iY ?_
 refine rA ?_ (x := lD [val _, val _, sl .v _, sl .v _, sl .v _] jj)
 refine IH ?_
 refine sc (fun hba => ?_) (fun hba => ?_)
 exact Fy
 have hok : cj x = true := by simpa using hba
 obtain ⟨hp_, hb0, hb4, hrw⟩ := pc hok
 have hpl := mH hp_
 refine wE ?_
 refine to ?_
 refine gA ?_
 refine re ?_
 refine sL [1, 2] [1] (fun k : Nat => k ≤ x.Rows.length) (fun k : Nat => [(3, RV.int (x.Base + ((List.range k).map (qp x)).sum)), (4, RV.int (k : Int))]) (fun k : Nat => []) (fun k : Nat => x.Rows.length - k) 0 (by omega) (by exact aI (by exact bA (by simp)) (aI (by exact rfl) tI)) (by exact tI) ?_
 rintro k hk
 refine cI ?_
 refine rA ?_ (x := lF iO)
 refine kZ ?_
 refine rA ?_ (x := dZ)
 refine sc (fun hbb => ?_) (fun hbb => ?_)
 have hlt : k < x.Rows.length := by omega
 have hsm := qo (f := qp x) (m := 4) (n := x.Ids.length) (fun i hi => hrw i hi) k (by omega)
 have hr1 : 0 ≤ x.Rows[k] ∧ x.Rows[k] ≤ 4 := by have := hrw k (by omega); rwa [← cU hlt] at this
 refine bw ?_
 refine sH [1, 2, 3, 4] [1] ?_
 refine rM ?_
 refine rA ?_ (x := lF iO)
 refine wm ?_
 refine vt ?_
 refine kr ?_
 refine ww ?_
 exact FC
 have hend : k = x.Rows.length := by omega
 refine wo ?_
 exact FD
def UK {p1 p2 p3 : Fl} {l : List bM}  (hb : l.length ≤ 1048576) : aN prog 94 [(false, [sl .v (l.map (bF p1 p2 p3))])] (aF [(false, [val (vI (nQ l))])]) := by
 refine sF func94 fun h0 w0 Fz0 => ?_
 refine sj 0 fun hl0 => ?_
 refine jK ?_
 refine sS [0, 2] [] ?_
 refine eD ?_
 refine sS [0, 2, 3] [] ?_
 refine rA ?_ (x := vM false [sl .v _])
 refine rA ?_ (x := lN ij)
 refine eK ?_
 refine sP [0, 2, 3, 6, 7, 8] [] ?_
 refine sL [0, 2, 6, 7] [] (fun k : Nat => k ≤ l.length) (fun k : Nat => [(3, RV.int (((l.take k).map mI).sum)), (8, RV.int (k : Int))]) (fun k : Nat => []) (fun k : Nat => l.length - k) 0 (by omega) (by exact aI (by first | exact rfl | simp) (aI (by exact rfl) tI)) (by exact tI) ?_
 rintro k hk
 refine eL ?_
 refine sc (fun hba => ?_) (fun hba => ?_)
 have hlt : k < l.length := by omega
 have hsm := ub (l.take k)
 rw [bg] at hsm
 unfold nQ at hsm
 have hw1 := AZ l[k]
 refine bw ?_
 refine sS [0, 2, 3, 6, 7, 8] [] ?_
 refine qV ?_
 refine vF ?_
 refine sH [0, 2, 3, 5, 6, 7, 8] [5] ?_
 refine rM ?_
 refine rA ?_ (x := lD [val _, val _, sl .v _, sl .v _, sl .v _] jj)
 refine rA ?_ (x := cL [(true, [val _, val _, sl _ _, sl _ _, sl _ _])] [(true, [val _, val _, sl .v _, sl .v _, sl .v _])] SA (hs := by exact UI))
 refine kr ?_
 refine sG [0, 2, 3, 5, 6, 7, 8] [5] ?_
 refine fc ?_
 exact FE
 have hend : k = l.length := by omega
 refine bE ?_
 refine sS [0, 2, 3, 6, 7, 8] [] ?_
 exact vm
def UL {p1 p2 p3 : Fl} {l : List bM}  (hb : l.length ≤ 1048576) : aN prog 96 [(false, [sl .v (l.map (bF p1 p2 p3))])] (aF [(false, [val (vI (nQ l))])]) := by
 refine sF func96 fun h0 w0 Fz0 => ?_
 refine sj 0 fun hl0 => ?_
 refine jK ?_
 refine sS [0, 2] [] ?_
 refine eD ?_
 refine oI ?_
 refine sL [0, 2] [] (fun k : Nat => k ≤ l.length) (fun k : Nat => [(3, RV.int (((l.take k).map mI).sum)), (4, RV.int (k : Int))]) (fun k : Nat => []) (fun k : Nat => l.length - k) 0 (by omega) (by exact aI (by first | exact rfl | simp) (aI (by exact rfl) tI)) (by exact tI) ?_
 rintro k hk
 refine iv ?_
 refine wl ?_
 refine sc (fun hba => ?_) (fun hba => ?_)
 have hlt : k < l.length := by omega
 have hsm := ub (l.take k)
 rw [bg] at hsm
 unfold nQ at hsm
 have hw1 := AZ l[k]
 refine tz ?_
 refine rM ?_
 refine jI ?_
 refine qV ?_
 refine rA ?_ (x := cL [(true, [val _, val _, sl _ _, sl _ _, sl _ _])] [(true, [val _, val _, sl .v _, sl .v _, sl .v _])] SC (hs := by exact UJ))
 refine kr ?_
 refine tB ?_
 exact FE
 have hend : k = l.length := by omega
 refine bE ?_
 refine sS [0, 2, 3, 4] [] ?_
 exact vm
def UM {x : bM}  : aN prog 181 [(true, [val (vI x.Segment), val (vI x.Base), sl .v (x.Ids.map an), sl .v (x.ZL.map an), sl .v (x.Rows.map an)])] (aF [(false, [sl ae ((eS x).map an)])]) := by
 refine sF func181 fun h0 w0 Fz0 => ?_
 refine sn 0 2 fun hl0_2 => ?_
 refine sn 0 3 fun hl0_3 => ?_
 refine sn 0 4 fun hl0_4 => ?_
 refine pM ?_
 refine zR ?_
 refine nE ?_
 refine sS [1, 2, 3] [1] ?_
 refine zB ?_
 refine rA ?_ (x := nT)
 refine sc (fun hba => ?_) (fun hba => ?_)
 have hok : cj x = false := by simpa using hba
 refine sS [1, 2, 3] [1] ?_
 refine gz ?_
 exact (aI (by refine bI ?_; unfold eS; rw [if_neg (by rw [hok]; simp)]; rfl) tI)
 have hok : cj x = true := by simpa using hba
 obtain ⟨hp_, hb0, hb4, hrw⟩ := pc hok
 have hpl := mH hp_
 refine bc ?_
 refine tq ?_
 refine kZ ?_
 refine gA ?_
 refine sS [1, 2, 3, 4] [1] ?_
 refine rA ?_ (x := lF iO)
 refine kZ ?_
 refine eK ?_
 refine sP [1, 2, 3, 4, 17, 18, 19] [1] ?_
 refine sL [1, 2, 4, 17, 18] [1] (fun k : Nat => k ≤ x.Rows.length) (fun k : Nat => [(3, RV.slc ae (((List.range k).map (je x)).map an)), (19, RV.int (k : Int))]) (fun k : Nat => []) (fun k : Nat => x.Rows.length - k) 0 (by omega) (by exact aI (by first | exact rfl | simp) (aI (by exact rfl) tI)) (by exact tI) ?_
 rintro k hk
 refine eL ?_
 refine sc (fun hbb => ?_) (fun hbb => ?_)
 have hlt : k < x.Ids.length := by omega
 have hrl : k < x.Rows.length := by omega
 have hr1 : 0 ≤ x.Rows[k] ∧ x.Rows[k] ≤ 4 := by have := hrw k (by omega); rwa [← cU hrl] at this
 have hd1 := Int.tdiv_nonneg hb0 (by omega : (0 : Int) ≤ x.Ids.length)
 have hd2 := Int.tdiv_le_self (x.Ids.length : Int) hb0
 have hsl : ((List.range k).map (je x)).length = k := by rw [am, List.length_range]
 have hrg : (List.range k).length = k := List.length_range
 refine bw ?_
 refine sT [1, 2, 3, 4, 17, 18, 19] [1] ?_
 refine rM ?_
 refine nF ?_
 refine rS ?_
 refine sS [1, 2, 3, 4, 5, 6, 17, 18, 19] [1] ?_
 refine rM ?_
 refine to ?_
 refine rM ?_
 refine rA ?_ (x := yE)
 refine kr ?_
 refine ba ?_
 refine sS [1, 2, 3, 4, 5, 6, 7, 17, 18, 19] [1] ?_
 refine rM ?_
 refine to ?_
 refine th ?_
 refine rA ?_ (x := dZ)
 refine sc (fun hbc => ?_) (fun hbc => ?_)
 have hc := hbc
 refine sG [1, 2, 3, 4, 5, 6, 7, 17, 18, 19] [1] ?_
 refine ca ?_
 exact FF
 have hc := hbc
 refine bc ?_
 exact FF
 have hend : k = x.Ids.length := by omega
 refine bE ?_
 refine sT [1, 2, 3, 4, 17, 18, 19] [1] ?_
 refine gz ?_
 exact (aI (by refine bI ?_; unfold eS; rw [if_pos hok, hend]) tI)
def UN {x : bM}  : aN prog 183 [(true, [val (vI x.Segment), val (vI x.Base), sl .v (x.Ids.map an), sl .v (x.ZL.map an), sl .v (x.Rows.map an)])] (aF [(false, [sl ae ((eS x).map an)])]) := by
 refine sF func183 fun h0 w0 Fz0 => ?_
 refine sn 0 2 fun hl0_2 => ?_
 refine sn 0 3 fun hl0_3 => ?_
 refine sn 0 4 fun hl0_4 => ?_
 refine pM ?_
 refine zR ?_
 refine zl ?_
 refine tq ?_
 refine kZ ?_
 refine gA ?_
 refine sS [1, 2, 3, 4] [1] ?_
 refine de ?_
 refine sP [1, 2, 3, 4, 5] [1] ?_
 refine sL [1, 2, 4] [1] (fun k : Nat => k ≤ x.Ids.length ∧ (0 < k → cj x = true)) (fun k : Nat => [(3, RV.slc ae (((List.range k).map (je x)).map an)), (5, RV.int (k : Int))]) (fun k : Nat => []) (fun k : Nat => x.Ids.length - k) 0 (by exact ⟨by omega, fun h => absurd h (Nat.lt_irrefl 0)⟩) (by exact aI (by first | exact rfl | simp) (aI (by exact rfl) tI)) (by exact tI) ?_
 rintro k ⟨hk, ha⟩
 refine cI ?_
 refine oJ ?_
 refine rM ?_
 refine cx 14 (fun ga sga => ?_) (fun ga sga => ?_)
 refine rB ga ?_ (x := lD [val _, val _, sl .v _, sl .v _, sl .v _] jj)
 refine rB ga ?_ (x := cL [(true, [val _, val _, sl _ _, sl _ _, sl _ _])] [(true, [val _, val _, sl .v _, sl .v _, sl .v _])] KT (hs := by exact LK))
 refine rA ?_ (x := aK ga)
 refine sc (fun hba => ?_) (fun hba => ?_)
 have hok : cj x = true := by simp_all
 obtain ⟨hp_, hb0, hb4, hrw⟩ := pc hok
 have hpl := mH hp_
 have hlt : k < x.Ids.length := by omega
 have hrl : k < x.Rows.length := by omega
 have hr1 : 0 ≤ x.Rows[k] ∧ x.Rows[k] ≤ 4 := by have := hrw k (by omega); rwa [← cU hrl] at this
 have hd1 := Int.tdiv_nonneg hb0 (by omega : (0 : Int) ≤ x.Ids.length)
 have hd2 := Int.tdiv_le_self (x.Ids.length : Int) hb0
 have hsl : ((List.range k).map (je x)).length = k := by rw [am, List.length_range]
 have hrg : (List.range k).length = k := List.length_range
 refine er ?_
 refine sQ [1, 2, 3, 4, 5] [1] ?_
 refine cv cd ?_
 refine dA 0 ?_ (x := lF nZ)
 refine dA 1 ?_ (x := lD [val _] aw)
 refine dA 0 ?_ (x := sM)
 refine dA 7 ?_ (x := yE)
 refine dA 0 ?_ (x := lF iO)
 refine dA 16 ?_ (x := lD [sl .v _] bz)
 refine dA 0 ?_ (x := sM)
 refine dA 112 ?_ (x := aU (k := k) (by decide) aW (by exact tI) (by rfl) (by exact aV hrl rfl) (by exact rfl))
 refine dA 240 ?_ (x := lE [val _] aw)
 refine dA 511 ?_ (x := iX)
 refine dA 1023 ?_ (x := sA)
 refine ba ?_
 refine sS [1, 2, 3, 4, 5, 6] [1] ?_
 refine rM ?_
 refine to ?_
 refine th ?_
 refine rA ?_ (x := dZ)
 refine sc (fun hbb => ?_) (fun hbb => ?_)
 have hc := hbb
 refine sG [1, 2, 3, 4, 5, 6] [1] ?_
 refine ca ?_
 exact FG
 have hc := hbb
 refine bc ?_
 exact FG
 exact FH
 refine qd ?_
 exact FH
def UO {p1 p2 p3 : Fl} {l : List bM} {t : Int}  (hb : l.length ≤ 1048576) : aN prog 95 [(false, [sl .v (l.map (bF p1 p2 p3))]), (false, [val (vI t)])] (aF [(false, [val (vI (lX l t))])]) := by
 refine sF func95 fun h0 w0 Fz0 => ?_
 refine sj 0 fun hl0 => ?_
 refine jK ?_
 refine sS [0, 1, 4] [] ?_
 refine eD ?_
 refine sS [0, 1, 4, 5] [] ?_
 refine rA ?_ (x := vM false [sl .v _])
 refine rA ?_ (x := lN ij)
 refine eK ?_
 refine sP [0, 1, 4, 5, 10, 11, 12] [] ?_
 refine sL [0, 1, 4, 10, 11] [] (fun k : Nat => k ≤ l.length) (fun k : Nat => [(5, RV.int (((l.take k).map (pd t)).sum)), (12, RV.int (k : Int))]) (fun k : Nat => []) (fun k : Nat => l.length - k) 0 (by omega) (by exact aI (by first | exact rfl | simp) (aI (by exact rfl) tI)) (by exact tI) ?_
 rintro k hk
 refine eL ?_
 refine sc (fun hba => ?_) (fun hba => ?_)
 have hlt : k < l.length := by omega
 have hsm := uc (l.take k) t
 rw [bg] at hsm
 unfold lX at hsm
 have hsl := (Ba l[k]).1
 refine bw ?_
 refine sS [0, 1, 4, 5, 10, 11, 12] [] ?_
 refine qV ?_
 refine vF ?_
 refine sT [0, 1, 4, 5, 7, 10, 11, 12] [7] ?_
 refine rA ?_ (x := lD [val _, val _, sl .v _, sl .v _, sl .v _] jj)
 refine rA ?_ (x := cL [(true, [val _, val _, sl _ _, sl _ _, sl _ _])] [(true, [val _, val _, sl .v _, sl .v _, sl .v _])] SB (hs := by exact UM))
 refine rA ?_ (x := lN aW)
 refine eK ?_
 refine sP [0, 1, 4, 5, 7, 10, 11, 12, 17, 18, 19] [7] ?_
 refine sL [0, 1, 4, 7, 10, 11, 12, 17, 18] [7] (fun k2 : Nat => k2 ≤ (eS l[k]).length) (fun k2 : Nat => [(5, RV.int (((l.take k).map (pd t)).sum + ((List.range k2).map (lW t l[k])).sum)), (19, RV.int (k2 : Int))]) (fun k2 : Nat => []) (fun k2 : Nat => (eS l[k]).length - k2) 0 (by omega) (by exact aI (by exact bA (by simp)) (aI (by exact rfl) tI)) (by exact tI) ?_
 rintro k2 hk2
 refine eL ?_
 refine sc (fun hbb => ?_) (fun hbb => ?_)
 have hlt2 : k2 < (eS l[k]).length := by omega
 have hso := Bb hlt2
 rw [← cU hlt2] at hso
 have htl := hso.2.2.1
 have hsm2 := qo (f := lW t l[k]) (m := 9) (fun i hi => Bc hi) k2 hk2
 refine bw ?_
 refine sT [0, 1, 4, 5, 7, 10, 11, 12, 17, 18, 19] [7] ?_
 refine rM ?_
 refine vS ?_
 refine rS ?_
 refine rS ?_
 refine sS [0, 1, 4, 5, 7, 8, 9, 10, 11, 12, 17, 18, 19] [7] ?_
 refine rA ?_ (x := lF oa)
 refine wm ?_
 refine vS ?_
 refine pZ ?_
 refine sc (fun hbc => ?_) (fun hbc => ?_)
 have hc := hbc
 refine sG [0, 1, 4, 5, 7, 8, 9, 10, 11, 12, 17, 18, 19] [7] ?_
 refine rM ?_
 refine ca ?_
 exact FJ
 have hc := hbc
 refine bc ?_
 exact FJ
 have hend2 : k2 = (eS l[k]).length := by omega
 refine bE ?_
 refine sH [0, 1, 4, 5, 7, 10, 11, 12, 17, 18, 19] [7] ?_
 refine fc ?_
 exact FK
 have hend : k = l.length := by omega
 refine bE ?_
 refine sS [0, 1, 4, 5, 10, 11, 12] [] ?_
 exact vm
def UP {p1 p2 p3 : Fl} {l : List bM} {t : Int}  (hb : l.length ≤ 1048576) : aN prog 97 [(false, [sl .v (l.map (bF p1 p2 p3))]), (false, [val (vI t)])] (aF [(false, [val (vI (lX l t))])]) := by
 refine sF func97 fun h0 w0 Fz0 => ?_
 refine sj 0 fun hl0 => ?_
 refine jK ?_
 refine sS [0, 1, 4] [] ?_
 refine eD ?_
 refine wB ?_
 refine sL [0, 1, 4] [] (fun k : Nat => k ≤ l.length) (fun k : Nat => [(5, RV.int (((l.take k).map (pd t)).sum)), (6, RV.int (k : Int))]) (fun k : Nat => []) (fun k : Nat => l.length - k) 0 (by omega) (by exact aI (by first | exact rfl | simp) (aI (by exact rfl) tI)) (by exact tI) ?_
 rintro k hk
 refine iv ?_
 refine wl ?_
 refine sc (fun hba => ?_) (fun hba => ?_)
 have hlt : k < l.length := by omega
 have hsm := uc (l.take k) t
 rw [bg] at hsm
 unfold lX at hsm
 have hsl := (Ba l[k]).1
 refine wq ?_
 refine jI ?_
 refine qV ?_
 refine rA ?_ (x := cL [(true, [val _, val _, sl _ _, sl _ _, sl _ _])] [(true, [val _, val _, sl .v _, sl .v _, sl .v _])] SD (hs := by exact UN))
 refine rA ?_ (x := tA)
 refine sS [0, 1, 4, 5, 6, 7] [] ?_
 refine de ?_
 refine sP [0, 1, 4, 5, 6, 7, 8] [] ?_
 refine sL [0, 1, 4, 6, 7] [] (fun k2 : Nat => k2 ≤ (eS l[k]).length) (fun k2 : Nat => [(5, RV.int (((l.take k).map (pd t)).sum + ((List.range k2).map (lW t l[k])).sum)), (8, RV.int (k2 : Int))]) (fun k2 : Nat => []) (fun k2 : Nat => (eS l[k]).length - k2) 0 (by omega) (by exact aI (by exact bA (by simp)) (aI (by exact rfl) tI)) (by exact tI) ?_
 rintro k2 hk2
 refine kw ?_
 refine sc (fun hbb => ?_) (fun hbb => ?_)
 have hlt2 : k2 < (eS l[k]).length := by omega
 have hso := Bb hlt2
 rw [← cU hlt2] at hso
 have htl := hso.2.2.1
 have hsm2 := qo (f := lW t l[k]) (m := 9) (fun i hi => Bc hi) k2 hk2
 refine bw ?_
 refine sS [0, 1, 4, 5, 6, 7, 8] [] ?_
 refine jI ?_
 refine rA ?_ (x := aU (by decide) ij (by exact tI) (by exact rfl) (by exact aV (by omega) rfl) (by exact rfl))
 refine rA ?_ (x := cB (by decide) oa (by exact nl rfl))
 refine rA ?_ (x := lE [sl .v _] bz)
 refine rM ?_
 refine vS ?_
 refine pZ ?_
 refine sc (fun hbc => ?_) (fun hbc => ?_)
 have hc := hbc
 refine sG [0, 1, 4, 5, 6, 7, 8] [] ?_
 refine rM ?_
 refine jI ?_
 refine vS ?_
 refine kr ?_
 exact FL
 have hc := hbc
 refine bc ?_
 exact FL
 have hend2 : k2 = (eS l[k]).length := by omega
 refine bE ?_
 refine sG [0, 1, 4, 5, 6, 7, 8] [] ?_
 refine ca ?_
 exact FK
 have hend : k = l.length := by omega
 refine wn ?_
 exact vm
end Go.Proofs.YtmekkgdboplbjaaGreatDoor
