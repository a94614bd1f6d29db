/- What functions of the program compute. No condition. -/
import Derived.Test.YtmekkgdboplbjaaGreatCO0
set_option linter.all false
namespace Go.Proofs.YtmekkgdboplbjaaGreat
open Go Go.RowKit M PV
set_option maxRecDepth 10000
attribute [local irreducible] PV.Lcl PV.LclR RV.Lcl
def ZO {x : cU}  : aB Tryz.prog 103 [(true, [val (vI x.Segment), val (vI x.Base), sl .v (x.Ids.map ak), sl .v (x.acA.map ak), sl .v (x.Rows.map ak)])] (aA [(false, [val (.bool (fZ x))])]) := by
 refine sF Tryz.func103 fun h0 w0 Fz0 => ?_
 refine sn 0 2 fun hl0_2 => ?_
 refine sn 0 3 fun hl0_3 => ?_
 refine sn 0 4 fun hl0_4 => ?_
 refine qC ?_
 refine mR ?_
 refine xC ?_
 refine xL ?_
 refine BO ?_
 refine rA ?_ (x := cL [(false, [sl _ _])] [(false, [sl .v _])] Ub (hs := by exact Zz))
 refine gp ?_
 refine cx 12 (fun ga sga => ?_) (fun ga sga => ?_)
 refine kG ?_
 refine ar.cases (s := 17) rfl (fun g2 => ?_) (fun g2 => nomatch g2)
 refine pM ?_
 refine ar.cases (s := 24) rfl (fun g3 => ?_) (fun g3 => nomatch g3)
 refine pD ?_
 exact nY
 refine rB ga ?_ (x := sM)
 refine As ?_
 refine ou ?_
 refine cx 17 (fun gb sgb => ?_) (fun gb sgb => ?_)
 refine ox ?_
 refine ar.cases (s := 24) rfl (fun g6 => ?_) (fun g6 => nomatch g6)
 refine uC ?_
 exact nY
 refine rB gb ?_ (x := lF kl)
 refine rB gb ?_ (x := lD [sl .v _] bv)
 refine rB gb ?_ (x := lN bF)
 refine rB gb ?_ (x := sM)
 refine rB gb ?_ (x := eX)
 refine qy ?_
 refine cx 24 (fun gc sgc => ?_) (fun gc sgc => ?_)
 refine sy ?_
 exact nY
 refine rB gc ?_ (x := lF iZ)
 refine rB gc ?_ (x := lD [sl .v _] bv)
 refine rB gc ?_ (x := lN bF)
 refine Cg ?_
 refine rA ?_ (x := aK gc)
 refine sc (fun hba => ?_) (fun hba => ?_)
 exact Ac
 have hpr : mw x = true := by
  unfold mw aW
  simp only [bq, decide_eq_true_eq]
  refine ⟨by first | assumption | simp_all, ?_⟩
  first | omega | (simp only [aW, bq, decide_eq_true_eq, Bool.not_eq_true, Bool.not_eq_false] at *; omega)
 have hpl := NY hpr
 refine dt ?_
 refine sS [1, 2, 3] [1] ?_
 refine xC ?_
 refine dZ ?_
 refine sP [1, 2, 3, 33, 34] [1] ?_
 refine sL [1, 3, 33] [1] (fun k : Nat => k ≤ x.Ids.length ∧ rp x k = true) (fun k : Nat => [(34, RV.int (k : Int))]) (fun k : Nat => []) (fun k : Nat => x.Ids.length - k) 0 (by exact ⟨by omega, rfl⟩) (by exact aI (by exact rfl) tI) (by exact tI) ?_
 rintro k ⟨hk, ha⟩
 refine cF ?_
 refine sc (fun hbb => ?_) (fun hbb => ?_)
 have hlt : k < x.Ids.length := by omega
 have htl : k < x.acA.length := by omega
 have hrl : k < x.Rows.length := by omega
 refine bB ?_
 refine sT [1, 3, 33, 34] [1] ?_
 refine rM ?_
 refine eZ ?_
 refine sP [1, 3, 4, 33, 34] [1] ?_
 refine Ch ?_
 refine dA 1 ?_ (x := lD [sl .v _] bv)
 refine dA 0 ?_ (x := sM)
 refine KA ?_
 refine dA 31 ?_ (x := cL [(false, [val _]), (false, [val _]), (false, [val _])] [(false, [val _]), (false, [val _]), (false, [val _])] kb (hs := by exact kt))
 refine dA 63 ?_ (x := nT)
 refine dA 127 ?_ (x := sM)
 refine dx 44 (fun gd sgd => ?_) (fun gd sgd => ?_)
 refine dT 255 gd ?_
 refine dT 511 gd ?_
 refine dT 255 gd ?_
 refine dT 2047 gd ?_
 refine dT 4095 gd ?_
 refine dT 255 gd ?_
 refine dT 8447 gd ?_
 refine dT 32767 gd ?_
 refine dT 65535 gd ?_
 refine dA 131071 ?_ (x := aT gd)
 refine dr ?_
 exact Hk
 refine dB 255 gd ?_ (x := lF iZ)
 refine dB 511 gd ?_ (x := lD [sl .v _] bv)
 refine dB 255 gd ?_ (x := sM)
 refine dB 2047 gd ?_ (x := aY (k := k) (by decide) bF (by exact tI) (by rfl) (by exact bc (by omega) (by rw [iH (d := 0) (by omega)])) (by exact rfl))
 refine dB 4095 gd ?_ (x := lE [val _] au)
 refine dB 255 gd ?_ (x := lF ng)
 refine dB 8447 gd ?_ (x := lD [val _] au)
 refine dB 32767 gd ?_ (x := cL [(false, [val _]), (false, [val _]), (false, [val _])] [(false, [val _]), (false, [val _]), (false, [val _])] kb (hs := by exact kt))
 refine dB 65535 gd ?_ (x := nT)
 refine dA 131071 ?_ (x := aK gd)
 refine sc (fun hbc => ?_) (fun hbc => ?_)
 exact Hk
 have hyes : mu x k = true := by simp_all [mu]
 refine bm ?_
 refine sG [1, 3, 4, 33, 34] [1] ?_
 refine df ?_
 exact Hl
 have hend : k = x.Ids.length := by omega
 rw [hend] at ha
 refine bG ?_
 refine sT [1, 3, 33, 34] [1] ?_
 refine rA ?_ (x := lF pS)
 refine qW ?_
 refine cx 59 (fun gd sgd => ?_) (fun gd sgd => ?_)
 refine rB gd ?_ (x := lF ng)
 refine AO ?_
 refine rA ?_ (x := aT gd)
 exact Hm
 refine qO ?_
 exact Hm
def ZP {x : cU}  : aB Tryz.prog 69 [(true, [val (vI x.Segment), val (vI x.Base), sl .v (x.Ids.map ak), sl .v (x.acA.map ak), sl .v (x.Rows.map ak)])] (aA [(false, [val (.bool (fZ x))])]) := by
 refine sF Tryz.func69 fun h0 w0 Fz0 => ?_
 refine sn 0 2 fun hl0_2 => ?_
 refine sn 0 3 fun hl0_3 => ?_
 refine sn 0 4 fun hl0_4 => ?_
 refine qC ?_
 refine mR ?_
 refine xC ?_
 refine xL ?_
 refine BO ?_
 refine rA ?_ (x := cL [(false, [sl _ _])] [(false, [sl .v _])] CF (hs := by exact Dk))
 refine gp ?_
 refine cx 12 (fun ga sga => ?_) (fun ga sga => ?_)
 refine kG ?_
 refine ar.cases (s := 16) rfl (fun g2 => ?_) (fun g2 => nomatch g2)
 refine pM ?_
 refine ar.cases (s := 20) rfl (fun g3 => ?_) (fun g3 => nomatch g3)
 refine pD ?_
 refine rM ?_
 refine ar.cases (s := 27) rfl (fun g4 => ?_) (fun g4 => nomatch g4)
 refine zt g4 ?_
 refine rA ?_ (x := aT g4)
 refine rM ?_
 refine ar.cases (s := 34) rfl (fun g5 => ?_) (fun g5 => nomatch g5)
 refine zt g5 ?_
 refine rA ?_ (x := aT g5)
 refine rM ?_
 refine ar.cases (s := 40) rfl (fun g6 => ?_) (fun g6 => nomatch g6)
 refine uC ?_
 exact nY
 refine rB ga ?_ (x := sM)
 refine rB ga ?_ (x := eG)
 refine ou ?_
 refine cx 16 (fun gb sgb => ?_) (fun gb sgb => ?_)
 refine ox ?_
 refine ar.cases (s := 20) rfl (fun g9 => ?_) (fun g9 => nomatch g9)
 refine zt g9 ?_
 refine rA ?_ (x := aT g9)
 refine rM ?_
 refine ar.cases (s := 27) rfl (fun g10 => ?_) (fun g10 => nomatch g10)
 refine zt g10 ?_
 refine rA ?_ (x := aT g10)
 refine rM ?_
 refine ar.cases (s := 34) rfl (fun g11 => ?_) (fun g11 => nomatch g11)
 refine zt g11 ?_
 refine rA ?_ (x := aT g11)
 refine rM ?_
 refine ar.cases (s := 40) rfl (fun g12 => ?_) (fun g12 => nomatch g12)
 refine zt g12 ?_
 refine rA ?_ (x := aT g12)
 exact nY
 refine Cf ?_
 refine qy ?_
 refine cx 20 (fun gc sgc => ?_) (fun gc sgc => ?_)
 refine zt gc ?_
 refine iV ?_
 refine ar.cases (s := 27) rfl (fun g15 => ?_) (fun g15 => nomatch g15)
 refine zt g15 ?_
 refine rA ?_ (x := aT g15)
 refine rM ?_
 refine ar.cases (s := 34) rfl (fun g16 => ?_) (fun g16 => nomatch g16)
 refine zt g16 ?_
 refine rA ?_ (x := aT g16)
 refine rM ?_
 refine ar.cases (s := 40) rfl (fun g17 => ?_) (fun g17 => nomatch g17)
 refine zt g17 ?_
 refine rA ?_ (x := aT g17)
 exact nY
 refine rB gc ?_ (x := lF kl)
 refine rB gc ?_ (x := lD [sl .v _] bv)
 refine rB gc ?_ (x := lN bF)
 refine Cg ?_
 refine uG ?_
 refine cx 27 (fun gd sgd => ?_) (fun gd sgd => ?_)
 refine zt gd ?_
 refine sJ ?_
 refine ar.cases (s := 34) rfl (fun g20 => ?_) (fun g20 => nomatch g20)
 refine zt g20 ?_
 refine rA ?_ (x := aT g20)
 refine rM ?_
 refine ar.cases (s := 40) rfl (fun g21 => ?_) (fun g21 => nomatch g21)
 refine zt g21 ?_
 refine rA ?_ (x := aT g21)
 exact nY
 refine rB gd ?_ (x := lF iZ)
 refine rB gd ?_ (x := lD [sl .v _] bv)
 refine rB gd ?_ (x := lN bF)
 refine rB gd ?_ (x := sM)
 refine rB gd ?_ (x := eX)
 refine uH ?_
 refine cx 34 (fun ge sge => ?_) (fun ge sge => ?_)
 refine zt ge ?_
 refine rA ?_ (x := aT ge)
 refine rM ?_
 refine ar.cases (s := 40) rfl (fun g24 => ?_) (fun g24 => nomatch g24)
 refine zt g24 ?_
 refine rA ?_ (x := aT g24)
 exact nY
 refine rB ge ?_ (x := lF pS)
 refine Kz ?_
 refine rB ge ?_ (x := nT)
 refine rA ?_ (x := aK ge)
 refine rM ?_
 refine cx 40 (fun gf sgf => ?_) (fun gf sgf => ?_)
 refine zt gf ?_
 refine rA ?_ (x := aT gf)
 exact nY
 refine rB gf ?_ (x := lF ng)
 refine rB gf ?_ (x := lD [val _] au)
 refine rB gf ?_ (x := cL [(false, [val _]), (false, [val _]), (false, [val _])] [(false, [val _]), (false, [val _]), (false, [val _])] gv (hs := by exact gz))
 refine rB gf ?_ (x := nT)
 refine rA ?_ (x := aK gf)
 refine sc (fun hba => ?_) (fun hba => ?_)
 exact Ac
 have hpr : mw x = true := by
  unfold mw aW
  simp only [bq, decide_eq_true_eq]
  refine ⟨by first | assumption | simp_all, ?_⟩
  first | omega | (simp only [aW, bq, decide_eq_true_eq, Bool.not_eq_true, Bool.not_eq_false] at *; omega)
 have hpl := NY hpr
 have hsb : (aW x.Segment 0 7 && aW x.Base 0 4) = true := by simp_all
 refine dt ?_
 refine sS [1, 2, 3] [1] ?_
 refine cH ?_
 refine sP [1, 2, 3, 4] [1] ?_
 refine sL [1, 3] [1] (fun k : Nat => k ≤ x.Ids.length ∧ rp x k = true) (fun k : Nat => [(4, RV.int (k : Int))]) (fun k : Nat => []) (fun k : Nat => x.Ids.length - k) 0 (by exact ⟨by omega, rfl⟩) (by exact aI (by exact rfl) tI) (by exact tI) ?_
 rintro k ⟨hk, ha⟩
 refine eH ?_
 refine iU ?_
 refine sc (fun hbb => ?_) (fun hbb => ?_)
 have hlt : k < x.Ids.length := by omega
 have htl : k < x.acA.length := by omega
 have hrl : k < x.Rows.length := by omega
 refine cO ?_
 refine sQ [1, 3, 4] [1] ?_
 refine Ch ?_
 refine dA 1 ?_ (x := lD [sl .v _] bv)
 refine dA 0 ?_ (x := sM)
 refine KA ?_
 refine dA 31 ?_ (x := cL [(false, [val _]), (false, [val _]), (false, [val _])] [(false, [val _]), (false, [val _]), (false, [val _])] gv (hs := by exact gz))
 refine dA 63 ?_ (x := nT)
 refine dA 127 ?_ (x := sM)
 refine dx 58 (fun gg sgg => ?_) (fun gg sgg => ?_)
 refine dT 255 gg ?_
 refine dT 511 gg ?_
 refine dT 255 gg ?_
 refine dT 2047 gg ?_
 refine dT 4095 gg ?_
 refine dT 255 gg ?_
 refine dT 8447 gg ?_
 refine dT 32767 gg ?_
 refine dT 65535 gg ?_
 refine dA 131071 ?_ (x := aT gg)
 refine dr ?_
 exact Hn
 refine dB 255 gg ?_ (x := lF iZ)
 refine dB 511 gg ?_ (x := lD [sl .v _] bv)
 refine dB 255 gg ?_ (x := sM)
 refine dB 2047 gg ?_ (x := aY (k := k) (by decide) bF (by exact tI) (by rfl) (by exact bc (by omega) (by rw [iH (d := 0) (by omega)])) (by exact rfl))
 refine dB 4095 gg ?_ (x := lE [val _] au)
 refine dB 255 gg ?_ (x := lF ng)
 refine dB 8447 gg ?_ (x := lD [val _] au)
 refine dB 32767 gg ?_ (x := cL [(false, [val _]), (false, [val _]), (false, [val _])] [(false, [val _]), (false, [val _]), (false, [val _])] gv (hs := by exact gz))
 refine dB 65535 gg ?_ (x := nT)
 refine dA 131071 ?_ (x := aK gg)
 refine sc (fun hbc => ?_) (fun hbc => ?_)
 exact Hn
 have hyes : mu x k = true := by simp_all [mu]
 refine bm ?_
 refine sG [1, 3, 4] [1] ?_
 refine cW ?_
 exact Hl
 have hend : k = x.Ids.length := by omega
 rw [hend] at ha
 refine bG ?_
 refine sT [1, 3, 4] [1] ?_
 refine cB ?_
 exact rb (by simp_all [fZ])
end Go.Proofs.YtmekkgdboplbjaaGreat
