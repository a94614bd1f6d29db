/- What functions of the program compute. No condition. -/
import Derived.Test.YtmekkgdboplbjaaGreatCJ0
set_option linter.unusedVariables false
set_option linter.unusedSimpArgs false
namespace Go.Proofs.YtmekkgdboplbjaaGreat
open Go Go.RowKit M PV
set_option maxRecDepth 10000
attribute [local irreducible] PV.Lcl PV.LclR RV.Lcl
theorem QI {x : dZ}  : aw Tryz.prog 103 [(true, [val (vI x.Segment), val (vI x.Base), sl .v (x.Ids.map ai), sl .v (x.Tenants.map ai), sl .v (x.Rows.map ai)])] (av [(false, [val (.bool (dQ x))])]) := by
 refine sF Tryz.func103 fun h0 w0 Fz0 => ?_
 refine sn 0 2 fun hl0_2 => ?_
 refine sn 0 3 fun hl0_3 => ?_
 refine sn 0 4 fun hl0_4 => ?_
 refine qE ?_
 refine rp ?_
 refine ud ?_
 refine ig ?_
 refine sS [1, 2, 3] [1] ?_
 refine rA ?_ (x := lF kE)
 refine HY ?_
 refine dI ?_
 refine cx 12 (fun ga sga => ?_) (fun ga sga => ?_)
 refine ij ?_
 refine an.cases (s := 17) rfl (fun g2 => ?_) (fun g2 => nomatch g2)
 refine ln ?_
 refine an.cases (s := 24) rfl (fun g3 => ?_) (fun g3 => nomatch g3)
 refine lj ?_
 exact k9
 refine rB ga ?_ (x := sM)
 refine qz ?_
 refine gJ ?_
 refine cx 17 (fun gb sgb => ?_) (fun gb sgb => ?_)
 refine kr ?_
 refine an.cases (s := 24) rfl (fun g6 => ?_) (fun g6 => nomatch g6)
 refine ne ?_
 exact k9
 refine rB gb ?_ (x := lF jP)
 refine rB gb ?_ (x := lD [sl .v _] aZ)
 refine rB gb ?_ (x := lN a3)
 refine rB gb ?_ (x := sM)
 refine rB gb ?_ (x := co)
 refine m9 ?_
 refine cx 24 (fun gc sgc => ?_) (fun gc sgc => ?_)
 refine jF ?_
 exact k9
 refine rB gc ?_ (x := lF jQ)
 refine rB gc ?_ (x := lD [sl .v _] aZ)
 refine rB gc ?_ (x := lN a3)
 refine rB gc ?_ (x := sM)
 refine yt ?_
 refine sc (fun hba => ?_) (fun hba => ?_)
 exact wV
 have hpr : jo x = true := by
  unfold jo aB
  simp only [Bool.and_eq_true, decide_eq_true_eq]
  refine ⟨by first | assumption | simp_all, ?_⟩
  first | omega | (simp only [aB, Bool.and_eq_true, decide_eq_true_eq, Bool.not_eq_true, Bool.not_eq_false] at *; omega)
 have hpl := I5 hpr
 refine dE ?_
 refine sS [1, 2, 3] [1] ?_
 refine ud ?_
 refine cj ?_
 refine sP [1, 2, 3, 33, 34] [1] ?_
 refine sL [1, 3, 33] [1] (fun k : Nat => k ≤ x.Ids.length ∧ lC x k = true) (fun k : Nat => [(34, RV.int (k : Int))]) (fun k : Nat => []) (fun k : Nat => x.Ids.length - k) 0 (by exact ⟨by omega, rfl⟩) (by exact aI (by exact rfl) (tI)) (by exact ⟨⟩) ?_
 rintro k ⟨hk, ha⟩
 refine bG ?_
 refine sc (fun hbb => ?_) (fun hbb => ?_)
 have hlt : k < x.Ids.length := by omega
 have htl : k < x.Tenants.length := by omega
 have hrl : k < x.Rows.length := by omega
 refine aT ?_
 refine sT [1, 3, 33, 34] [1] ?_
 refine rM ?_
 refine ig ?_
 refine sP [1, 3, 4, 33, 34] [1] ?_
 refine yy ?_
 refine dA 1 ?_ (x := lD [sl .v _] aZ)
 refine dA 0 ?_ (x := sM)
 refine GS ?_
 refine dA 31 ?_ (x := cL [(false, [val _]), (false, [val _]), (false, [val _])] [(false, [val _]), (false, [val _]), (false, [val _])] iN (hs := by exact iU))
 refine dA 63 ?_ (x := nT)
 refine dA 127 ?_ (x := sM)
 refine dx 44 (fun gd sgd => ?_) (fun gd sgd => ?_)
 refine dT 255 gd ?_
 refine dT 511 gd ?_
 refine dT 255 gd ?_
 refine dT 2047 gd ?_
 refine dT 4095 gd ?_
 refine dT 255 gd ?_
 refine dT 8447 gd ?_
 refine dT 32767 gd ?_
 refine dT 65535 gd ?_
 refine dA 131071 ?_ (x := aA gd)
 refine bC ?_
 exact C3
 refine dB 255 gd ?_ (x := lF jQ)
 refine dB 511 gd ?_ (x := lD [sl .v _] aZ)
 refine dB 255 gd ?_ (x := sM)
 refine dB 2047 gd ?_ (x := aD (k := k) (by decide) a3 (by exact ⟨⟩) (by rfl) (by exact aE (by omega) (by rw [cX (d := 0) (by omega)])) (by exact rfl))
 refine dB 4095 gd ?_ (x := lE [val _] aq)
 refine dB 255 gd ?_ (x := lF nE)
 refine dB 8447 gd ?_ (x := lD [val _] aq)
 refine dB 32767 gd ?_ (x := cL [(false, [val _]), (false, [val _]), (false, [val _])] [(false, [val _]), (false, [val _]), (false, [val _])] iN (hs := by exact iU))
 refine dB 65535 gd ?_ (x := nT)
 refine dA 131071 ?_ (x := ay gd)
 refine sc (fun hbc => ?_) (fun hbc => ?_)
 exact C3
 have hyes : jn x k = true := by simp_all [jn]
 refine aN ?_
 refine sG [1, 3, 4, 33, 34] [1] ?_
 refine b5 ?_
 exact C4
 have hend : k = x.Ids.length := by omega
 rw [hend] at ha
 refine aX ?_
 refine sT [1, 3, 33, 34] [1] ?_
 refine rA ?_ (x := lF rF)
 refine tu ?_
 refine rM ?_
 refine cx 59 (fun gd sgd => ?_) (fun gd sgd => ?_)
 refine rB gd ?_ (x := lF nE)
 refine xr ?_
 refine rA ?_ (x := aA gd)
 exact C5
 refine zf gd ?_
 refine rA ?_ (x := ay gd)
 exact C5
theorem QJ {x : dZ}  : aw Tryz.prog 69 [(true, [val (vI x.Segment), val (vI x.Base), sl .v (x.Ids.map ai), sl .v (x.Tenants.map ai), sl .v (x.Rows.map ai)])] (av [(false, [val (.bool (dQ x))])]) := by
 refine sF Tryz.func69 fun h0 w0 Fz0 => ?_
 refine sn 0 2 fun hl0_2 => ?_
 refine sn 0 3 fun hl0_3 => ?_
 refine sn 0 4 fun hl0_4 => ?_
 refine qE ?_
 refine rp ?_
 refine ud ?_
 refine ig ?_
 refine sS [1, 2, 3] [1] ?_
 refine rA ?_ (x := lF kE)
 refine rA ?_ (x := lD [sl .v _] aZ)
 refine rA ?_ (x := cL [(false, [sl _ _])] [(false, [sl .v _])] yK (hs := by exact zv))
 refine dI ?_
 refine cx 12 (fun ga sga => ?_) (fun ga sga => ?_)
 refine ij ?_
 refine an.cases (s := 16) rfl (fun g2 => ?_) (fun g2 => nomatch g2)
 refine ln ?_
 refine an.cases (s := 20) rfl (fun g3 => ?_) (fun g3 => nomatch g3)
 refine lj ?_
 refine rM ?_
 refine an.cases (s := 27) rfl (fun g4 => ?_) (fun g4 => nomatch g4)
 refine uo ?_
 refine rM ?_
 refine an.cases (s := 34) rfl (fun g5 => ?_) (fun g5 => nomatch g5)
 refine zt g5 ?_
 refine rA ?_ (x := aA g5)
 refine rM ?_
 refine an.cases (s := 40) rfl (fun g6 => ?_) (fun g6 => nomatch g6)
 refine ne ?_
 exact k9
 refine rB ga ?_ (x := sM)
 refine rB ga ?_ (x := dY)
 refine gJ ?_
 refine cx 16 (fun gb sgb => ?_) (fun gb sgb => ?_)
 refine kr ?_
 refine an.cases (s := 20) rfl (fun g9 => ?_) (fun g9 => nomatch g9)
 refine zt g9 ?_
 refine rA ?_ (x := aA g9)
 refine rM ?_
 refine an.cases (s := 27) rfl (fun g10 => ?_) (fun g10 => nomatch g10)
 refine zt g10 ?_
 refine rA ?_ (x := aA g10)
 refine rM ?_
 refine an.cases (s := 34) rfl (fun g11 => ?_) (fun g11 => nomatch g11)
 refine ui ?_
 refine rM ?_
 refine an.cases (s := 40) rfl (fun g12 => ?_) (fun g12 => nomatch g12)
 refine uj ?_
 exact k9
 refine yw ?_
 refine m9 ?_
 refine cx 20 (fun gc sgc => ?_) (fun gc sgc => ?_)
 refine jF ?_
 refine rM ?_
 refine an.cases (s := 27) rfl (fun g15 => ?_) (fun g15 => nomatch g15)
 refine zt g15 ?_
 refine rA ?_ (x := aA g15)
 refine rM ?_
 refine an.cases (s := 34) rfl (fun g16 => ?_) (fun g16 => nomatch g16)
 refine zt g16 ?_
 refine rA ?_ (x := aA g16)
 refine rM ?_
 refine an.cases (s := 40) rfl (fun g17 => ?_) (fun g17 => nomatch g17)
 refine zt g17 ?_
 refine rA ?_ (x := aA g17)
 exact k9
 refine rB gc ?_ (x := lF jP)
 refine rB gc ?_ (x := lD [sl .v _] aZ)
 refine rB gc ?_ (x := lN a3)
 refine rB gc ?_ (x := sM)
 refine yt ?_
 refine rM ?_
 refine cx 27 (fun gd sgd => ?_) (fun gd sgd => ?_)
 refine zt gd ?_
 refine nn ?_
 refine an.cases (s := 34) rfl (fun g20 => ?_) (fun g20 => nomatch g20)
 refine zt g20 ?_
 refine rA ?_ (x := aA g20)
 refine rM ?_
 refine an.cases (s := 40) rfl (fun g21 => ?_) (fun g21 => nomatch g21)
 refine zt g21 ?_
 refine rA ?_ (x := aA g21)
 exact k9
 refine xS ?_
 refine rB gd ?_ (x := lN a3)
 refine rB gd ?_ (x := sM)
 refine rB gd ?_ (x := co)
 refine np ?_
 refine cx 34 (fun ge sge => ?_) (fun ge sge => ?_)
 refine zt ge ?_
 refine oU ?_
 refine an.cases (s := 40) rfl (fun g24 => ?_) (fun g24 => nomatch g24)
 refine zt g24 ?_
 refine rA ?_ (x := aA g24)
 exact k9
 refine rB ge ?_ (x := lF rF)
 refine GO ?_
 refine rB ge ?_ (x := nT)
 refine zip ?_
 refine cx 40 (fun gf sgf => ?_) (fun gf sgf => ?_)
 refine up ?_
 exact k9
 refine rB gf ?_ (x := lF nE)
 refine rB gf ?_ (x := lD [val _] aq)
 refine rB gf ?_ (x := cL [(false, [val _]), (false, [val _]), (false, [val _])] [(false, [val _]), (false, [val _]), (false, [val _])] eT (hs := by exact eZ))
 refine rB gf ?_ (x := nT)
 refine rA ?_ (x := ay gf)
 refine sc (fun hba => ?_) (fun hba => ?_)
 exact wV
 have hpr : jo x = true := by
  unfold jo aB
  simp only [Bool.and_eq_true, decide_eq_true_eq]
  refine ⟨by first | assumption | simp_all, ?_⟩
  first | omega | (simp only [aB, Bool.and_eq_true, decide_eq_true_eq, Bool.not_eq_true, Bool.not_eq_false] at *; omega)
 have hpl := I5 hpr
 have hsb : (aB x.Segment 0 7 && aB x.Base 0 4) = true := by simp_all
 refine dE ?_
 refine sS [1, 2, 3] [1] ?_
 refine bw ?_
 refine sP [1, 2, 3, 4] [1] ?_
 refine sL [1, 3] [1] (fun k : Nat => k ≤ x.Ids.length ∧ lC x k = true) (fun k : Nat => [(4, RV.int (k : Int))]) (fun k : Nat => []) (fun k : Nat => x.Ids.length - k) 0 (by exact ⟨by omega, rfl⟩) (by exact aI (by exact rfl) (tI)) (by exact ⟨⟩) ?_
 rintro k ⟨hk, ha⟩
 refine bu ?_
 refine rM ?_
 refine rA ?_ (x := cb)
 refine sc (fun hbb => ?_) (fun hbb => ?_)
 have hlt : k < x.Ids.length := by omega
 have htl : k < x.Tenants.length := by omega
 have hrl : k < x.Rows.length := by omega
 refine cE ?_
 refine sQ [1, 3, 4] [1] ?_
 refine yy ?_
 refine dA 1 ?_ (x := lD [sl .v _] aZ)
 refine dA 0 ?_ (x := sM)
 refine GS ?_
 refine dA 31 ?_ (x := cL [(false, [val _]), (false, [val _]), (false, [val _])] [(false, [val _]), (false, [val _]), (false, [val _])] eT (hs := by exact eZ))
 refine dA 63 ?_ (x := nT)
 refine dA 127 ?_ (x := sM)
 refine dx 58 (fun gg sgg => ?_) (fun gg sgg => ?_)
 refine dT 255 gg ?_
 refine dT 511 gg ?_
 refine dT 255 gg ?_
 refine dT 2047 gg ?_
 refine dT 4095 gg ?_
 refine dT 255 gg ?_
 refine dT 8447 gg ?_
 refine dT 32767 gg ?_
 refine dT 65535 gg ?_
 refine dA 131071 ?_ (x := aA gg)
 refine bC ?_
 exact C6
 refine dB 255 gg ?_ (x := lF jQ)
 refine dB 511 gg ?_ (x := lD [sl .v _] aZ)
 refine dB 255 gg ?_ (x := sM)
 refine dB 2047 gg ?_ (x := aD (k := k) (by decide) a3 (by exact ⟨⟩) (by rfl) (by exact aE (by omega) (by rw [cX (d := 0) (by omega)])) (by exact rfl))
 refine dB 4095 gg ?_ (x := lE [val _] aq)
 refine dB 255 gg ?_ (x := lF nE)
 refine dB 8447 gg ?_ (x := lD [val _] aq)
 refine dB 32767 gg ?_ (x := cL [(false, [val _]), (false, [val _]), (false, [val _])] [(false, [val _]), (false, [val _]), (false, [val _])] eT (hs := by exact eZ))
 refine dB 65535 gg ?_ (x := nT)
 refine dA 131071 ?_ (x := ay gg)
 refine sc (fun hbc => ?_) (fun hbc => ?_)
 exact C6
 have hyes : jn x k = true := by simp_all [jn]
 refine aN ?_
 refine sG [1, 3, 4] [1] ?_
 refine bF ?_
 exact C4
 have hend : k = x.Ids.length := by omega
 rw [hend] at ha
 refine aX ?_
 refine sT [1, 3, 4] [1] ?_
 refine bD ?_
 exact rb (by simp_all [dQ])
end Go.Proofs.YtmekkgdboplbjaaGreat
