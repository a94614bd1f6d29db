/- What functions of the program compute. No condition. -/
import Derived.Test.YtmekkgdboplbjaaGreatCO0
set_option linter.all false
namespace Go.Proofs.YtmekkgdboplbjaaGreat
open Go Go.RowKit M PV
set_option maxRecDepth 10000
attribute [local irreducible] PV.Lcl PV.LclR RV.Lcl
def Ub {x : cE}  : aC Tryz.prog 103 [(true, [val (vI x.Segment), val (vI x.Base), sl .v (x.Ids.map ak), sl .v (x.Wy.map ak), sl .v (x.Rows.map ak)])] (az [(false, [val (.bool (fp x))])]) := by
 refine sF Tryz.func103 fun h0 w0 Fz0 => ?_
 refine sn 0 2 fun hl0_2 => ?_
 refine sn 0 3 fun hl0_3 => ?_
 refine sn 0 4 fun hl0_4 => ?_
 refine oZ ?_
 refine lH ?_
 refine vJ ?_
 refine vT ?_
 refine zR ?_
 refine rA ?_ (x := cL [(false, [sl _ _])] [(false, [sl .v _])] Pj (hs := by exact TV))
 refine fB ?_
 refine cx 12 (fun ga sga => ?_) (fun ga sga => ?_)
 refine jN ?_
 refine aq.cases (s := 17) rfl (fun g2 => ?_) (fun g2 => nomatch g2)
 refine oh ?_
 refine aq.cases (s := 24) rfl (fun g3 => ?_) (fun g3 => nomatch g3)
 refine nS ?_
 exact mn
 refine rB ga ?_ (x := sM)
 refine yr ?_
 refine mB ?_
 refine cx 17 (fun gb sgb => ?_) (fun gb sgb => ?_)
 refine mE ?_
 refine aq.cases (s := 24) rfl (fun g6 => ?_) (fun g6 => nomatch g6)
 refine s6 ?_
 exact mn
 refine rB gb ?_ (x := lF jx)
 refine rB gb ?_ (x := lD [sl .v _] bq)
 refine rB gb ?_ (x := lN bC)
 refine rB gb ?_ (x := sM)
 refine rB gb ?_ (x := eM)
 refine oW ?_
 refine cx 24 (fun gc sgc => ?_) (fun gc sgc => ?_)
 refine qU ?_
 exact mn
 refine rB gc ?_ (x := lF iA)
 refine rB gc ?_ (x := lD [sl .v _] bq)
 refine rB gc ?_ (x := lN bC)
 refine rB gc ?_ (x := sM)
 refine rB gc ?_ (x := eM)
 refine rA ?_ (x := aK gc)
 refine sc (fun hba => ?_) (fun hba => ?_)
 exact yb
 have hpr : kZ x = true := by
  unfold kZ aV
  simp only [bn, decide_eq_true_eq]
  refine ⟨by first | assumption | simp_all, ?_⟩
  first | omega | (simp only [aV, bn, decide_eq_true_eq, Bool.not_eq_true, Bool.not_eq_false] at *; omega)
 have hpl := Ki hpr
 refine cO ?_
 refine sS [1, 2, 3] [1] ?_
 refine vJ ?_
 refine dI ?_
 refine sP [1, 2, 3, 33, 34] [1] ?_
 refine sL [1, 3, 33] [1] (fun k : Nat => k ≤ x.Ids.length ∧ pV x k = true) (fun k : Nat => [(34, RV.int (k : Int))]) (fun k : Nat => []) (fun k : Nat => x.Ids.length - k) 0 (by exact ⟨by omega, rfl⟩) (by exact aI (by exact rfl) tI) (by exact tI) ?_
 rintro k ⟨hk, ha⟩
 refine ct ?_
 refine sc (fun hbb => ?_) (fun hbb => ?_)
 have hlt : k < x.Ids.length := by omega
 have htl : k < x.Wy.length := by omega
 have hrl : k < x.Rows.length := by omega
 refine bB ?_
 refine sT [1, 3, 33, 34] [1] ?_
 refine rM ?_
 refine fA ?_
 refine sP [1, 3, 4, 33, 34] [1] ?_
 refine Ag ?_
 refine dA 1 ?_ (x := lD [sl .v _] bq)
 refine dA 0 ?_ (x := sM)
 refine Hv ?_
 refine dA 31 ?_ (x := cL [(false, [val _]), (false, [val _]), (false, [val _])] [(false, [val _]), (false, [val _]), (false, [val _])] jo (hs := by exact jC))
 refine dA 63 ?_ (x := nT)
 refine dA 127 ?_ (x := sM)
 refine dx 44 (fun gd sgd => ?_) (fun gd sgd => ?_)
 refine dT 255 gd ?_
 refine dT 511 gd ?_
 refine dT 255 gd ?_
 refine dT 2047 gd ?_
 refine dT 4095 gd ?_
 refine dT 255 gd ?_
 refine dT 8447 gd ?_
 refine dT 32767 gd ?_
 refine dT 65535 gd ?_
 refine dA 131071 ?_ (x := aR gd)
 refine dc ?_
 exact Ep
 refine dB 255 gd ?_ (x := lF iA)
 refine dB 511 gd ?_ (x := lD [sl .v _] bq)
 refine dB 255 gd ?_ (x := sM)
 refine dB 2047 gd ?_ (x := aY (k := k) (by decide) bC (by exact tI) (by rfl) (by exact be (by omega) (by rw [ic (d := 0) (by omega)])) (by exact rfl))
 refine dB 4095 gd ?_ (x := lE [val _] au)
 refine dB 255 gd ?_ (x := lF lW)
 refine dB 8447 gd ?_ (x := lD [val _] au)
 refine dB 32767 gd ?_ (x := cL [(false, [val _]), (false, [val _]), (false, [val _])] [(false, [val _]), (false, [val _]), (false, [val _])] jo (hs := by exact jC))
 refine dB 65535 gd ?_ (x := nT)
 refine dA 131071 ?_ (x := aK gd)
 refine sc (fun hbc => ?_) (fun hbc => ?_)
 exact Ep
 have hyes : kY x k = true := by simp_all [kY]
 refine bl ?_
 refine sG [1, 3, 4, 33, 34] [1] ?_
 refine c0 ?_
 exact Er
 have hend : k = x.Ids.length := by omega
 rw [hend] at ha
 refine bF ?_
 refine sT [1, 3, 33, 34] [1] ?_
 refine rA ?_ (x := lF oo)
 refine pA ?_
 refine cx 59 (fun gd sgd => ?_) (fun gd sgd => ?_)
 refine rB gd ?_ (x := lF lW)
 refine yN ?_
 refine rA ?_ (x := aR gd)
 exact Es
 refine pn ?_
 exact Es
def Uc {x : cE}  : aC Tryz.prog 69 [(true, [val (vI x.Segment), val (vI x.Base), sl .v (x.Ids.map ak), sl .v (x.Wy.map ak), sl .v (x.Rows.map ak)])] (az [(false, [val (.bool (fp x))])]) := by
 refine sF Tryz.func69 fun h0 w0 Fz0 => ?_
 refine sn 0 2 fun hl0_2 => ?_
 refine sn 0 3 fun hl0_3 => ?_
 refine sn 0 4 fun hl0_4 => ?_
 refine oZ ?_
 refine lH ?_
 refine vJ ?_
 refine vT ?_
 refine zR ?_
 refine rA ?_ (x := cL [(false, [sl _ _])] [(false, [sl .v _])] AD (hs := by exact Bi))
 refine fB ?_
 refine cx 12 (fun ga sga => ?_) (fun ga sga => ?_)
 refine jN ?_
 refine aq.cases (s := 16) rfl (fun g2 => ?_) (fun g2 => nomatch g2)
 refine oh ?_
 refine aq.cases (s := 20) rfl (fun g3 => ?_) (fun g3 => nomatch g3)
 refine nS ?_
 refine rM ?_
 refine aq.cases (s := 27) rfl (fun g4 => ?_) (fun g4 => nomatch g4)
 refine zt g4 ?_
 refine rA ?_ (x := aR g4)
 refine rM ?_
 refine aq.cases (s := 34) rfl (fun g5 => ?_) (fun g5 => nomatch g5)
 refine zt g5 ?_
 refine rA ?_ (x := aR g5)
 refine rM ?_
 refine aq.cases (s := 40) rfl (fun g6 => ?_) (fun g6 => nomatch g6)
 refine s6 ?_
 exact mn
 refine rB ga ?_ (x := sM)
 refine rB ga ?_ (x := d4)
 refine mB ?_
 refine cx 16 (fun gb sgb => ?_) (fun gb sgb => ?_)
 refine mE ?_
 refine aq.cases (s := 20) rfl (fun g9 => ?_) (fun g9 => nomatch g9)
 refine zt g9 ?_
 refine rA ?_ (x := aR g9)
 refine rM ?_
 refine aq.cases (s := 27) rfl (fun g10 => ?_) (fun g10 => nomatch g10)
 refine zt g10 ?_
 refine rA ?_ (x := aR g10)
 refine rM ?_
 refine aq.cases (s := 34) rfl (fun g11 => ?_) (fun g11 => nomatch g11)
 refine zt g11 ?_
 refine rA ?_ (x := aR g11)
 refine rM ?_
 refine aq.cases (s := 40) rfl (fun g12 => ?_) (fun g12 => nomatch g12)
 refine zt g12 ?_
 refine rA ?_ (x := aR g12)
 exact mn
 refine Af ?_
 refine oW ?_
 refine cx 20 (fun gc sgc => ?_) (fun gc sgc => ?_)
 refine zt gc ?_
 refine iw ?_
 refine aq.cases (s := 27) rfl (fun g15 => ?_) (fun g15 => nomatch g15)
 refine zt g15 ?_
 refine rA ?_ (x := aR g15)
 refine rM ?_
 refine aq.cases (s := 34) rfl (fun g16 => ?_) (fun g16 => nomatch g16)
 refine zt g16 ?_
 refine rA ?_ (x := aR g16)
 refine rM ?_
 refine aq.cases (s := 40) rfl (fun g17 => ?_) (fun g17 => nomatch g17)
 refine zt g17 ?_
 refine rA ?_ (x := aR g17)
 exact mn
 refine rB gc ?_ (x := lF jx)
 refine rB gc ?_ (x := lD [sl .v _] bq)
 refine rB gc ?_ (x := lN bC)
 refine rB gc ?_ (x := sM)
 refine rB gc ?_ (x := eM)
 refine tb ?_
 refine cx 27 (fun gd sgd => ?_) (fun gd sgd => ?_)
 refine zt gd ?_
 refine rc ?_
 refine aq.cases (s := 34) rfl (fun g20 => ?_) (fun g20 => nomatch g20)
 refine zt g20 ?_
 refine rA ?_ (x := aR g20)
 refine rM ?_
 refine aq.cases (s := 40) rfl (fun g21 => ?_) (fun g21 => nomatch g21)
 refine zt g21 ?_
 refine rA ?_ (x := aR g21)
 exact mn
 refine rB gd ?_ (x := lF iA)
 refine rB gd ?_ (x := lD [sl .v _] bq)
 refine rB gd ?_ (x := lN bC)
 refine rB gd ?_ (x := sM)
 refine rB gd ?_ (x := eM)
 refine tc ?_
 refine cx 34 (fun ge sge => ?_) (fun ge sge => ?_)
 refine zt ge ?_
 refine rA ?_ (x := aR ge)
 refine rM ?_
 refine aq.cases (s := 40) rfl (fun g24 => ?_) (fun g24 => nomatch g24)
 refine zt g24 ?_
 refine rA ?_ (x := aR g24)
 exact mn
 refine rB ge ?_ (x := lF oo)
 refine Hu ?_
 refine rB ge ?_ (x := nT)
 refine rA ?_ (x := aK ge)
 refine rM ?_
 refine cx 40 (fun gf sgf => ?_) (fun gf sgf => ?_)
 refine zt gf ?_
 refine rA ?_ (x := aR gf)
 exact mn
 refine rB gf ?_ (x := lF lW)
 refine rB gf ?_ (x := lD [val _] au)
 refine rB gf ?_ (x := cL [(false, [val _]), (false, [val _]), (false, [val _])] [(false, [val _]), (false, [val _]), (false, [val _])] fF (hs := by exact fJ))
 refine rB gf ?_ (x := nT)
 refine rA ?_ (x := aK gf)
 refine sc (fun hba => ?_) (fun hba => ?_)
 exact yb
 have hpr : kZ x = true := by
  unfold kZ aV
  simp only [bn, decide_eq_true_eq]
  refine ⟨by first | assumption | simp_all, ?_⟩
  first | omega | (simp only [aV, bn, decide_eq_true_eq, Bool.not_eq_true, Bool.not_eq_false] at *; omega)
 have hpl := Ki hpr
 have hsb : (aV x.Segment 0 7 && aV x.Base 0 4) = true := by simp_all
 refine cO ?_
 refine sS [1, 2, 3] [1] ?_
 refine cz ?_
 refine sP [1, 2, 3, 4] [1] ?_
 refine sL [1, 3] [1] (fun k : Nat => k ≤ x.Ids.length ∧ pV x k = true) (fun k : Nat => [(4, RV.int (k : Int))]) (fun k : Nat => []) (fun k : Nat => x.Ids.length - k) 0 (by exact ⟨by omega, rfl⟩) (by exact aI (by exact rfl) tI) (by exact tI) ?_
 rintro k ⟨hk, ha⟩
 refine d6 ?_
 refine iv ?_
 refine sc (fun hbb => ?_) (fun hbb => ?_)
 have hlt : k < x.Ids.length := by omega
 have htl : k < x.Wy.length := by omega
 have hrl : k < x.Rows.length := by omega
 refine cF ?_
 refine sQ [1, 3, 4] [1] ?_
 refine Ag ?_
 refine dA 1 ?_ (x := lD [sl .v _] bq)
 refine dA 0 ?_ (x := sM)
 refine Hv ?_
 refine dA 31 ?_ (x := cL [(false, [val _]), (false, [val _]), (false, [val _])] [(false, [val _]), (false, [val _]), (false, [val _])] fF (hs := by exact fJ))
 refine dA 63 ?_ (x := nT)
 refine dA 127 ?_ (x := sM)
 refine dx 58 (fun gg sgg => ?_) (fun gg sgg => ?_)
 refine dT 255 gg ?_
 refine dT 511 gg ?_
 refine dT 255 gg ?_
 refine dT 2047 gg ?_
 refine dT 4095 gg ?_
 refine dT 255 gg ?_
 refine dT 8447 gg ?_
 refine dT 32767 gg ?_
 refine dT 65535 gg ?_
 refine dA 131071 ?_ (x := aR gg)
 refine dc ?_
 exact Et
 refine dB 255 gg ?_ (x := lF iA)
 refine dB 511 gg ?_ (x := lD [sl .v _] bq)
 refine dB 255 gg ?_ (x := sM)
 refine dB 2047 gg ?_ (x := aY (k := k) (by decide) bC (by exact tI) (by rfl) (by exact be (by omega) (by rw [ic (d := 0) (by omega)])) (by exact rfl))
 refine dB 4095 gg ?_ (x := lE [val _] au)
 refine dB 255 gg ?_ (x := lF lW)
 refine dB 8447 gg ?_ (x := lD [val _] au)
 refine dB 32767 gg ?_ (x := cL [(false, [val _]), (false, [val _]), (false, [val _])] [(false, [val _]), (false, [val _]), (false, [val _])] fF (hs := by exact fJ))
 refine dB 65535 gg ?_ (x := nT)
 refine dA 131071 ?_ (x := aK gg)
 refine sc (fun hbc => ?_) (fun hbc => ?_)
 exact Et
 have hyes : kY x k = true := by simp_all [kY]
 refine bl ?_
 refine sG [1, 3, 4] [1] ?_
 refine cZ ?_
 exact Er
 have hend : k = x.Ids.length := by omega
 rw [hend] at ha
 refine bF ?_
 refine sT [1, 3, 4] [1] ?_
 refine cm ?_
 exact rb (by simp_all [fp])
end Go.Proofs.YtmekkgdboplbjaaGreat
