/- What functions of the program compute. No condition. -/
import Derived.Test.YtmekkgdboplbjaaGreatCL0
import Derived.Test.YtmekkgdboplbjaaGreatCH0
set_option linter.unusedVariables false
set_option linter.unusedSimpArgs false
namespace Go.Proofs.YtmekkgdboplbjaaGreat
open Go Go.RowKit M PV
set_option maxRecDepth 10000
attribute [local irreducible] PV.Lcl PV.LclR RV.Lcl
theorem LB {x : Query} {y : Query}  : aw Tryz.prog 58 [(true, [val (vI x.Id), val (vI x.Tenant), sl .v (x.Conds.map bR), sl .v (x.Out.map ai)]), (true, [val (vI y.Id), val (vI y.Tenant), sl .v (y.Conds.map bR), sl .v (y.Out.map ai)])] (av [(false, [val (.bool (dl x y))])]) := by
 refine sF Tryz.func58 fun h0 w0 Fz0 => ?_
 refine sn 0 2 fun hl0_2 => ?_
 refine sn 0 3 fun hl0_3 => ?_
 refine sn 1 2 fun hl1_2 => ?_
 refine sn 1 3 fun hl1_3 => ?_
 refine l7 ?_
 refine rX ?_ (x := (db (ag := true) (cs := [val _, val _, sl _ _, sl _ _]) (by decide) (by exact ⟨⟩)))
 refine qW ?_
 refine oM ?_
 refine oM ?_
 refine rA ?_ (x := co)
 refine rM ?_
 refine cx 11 (fun ga sga => ?_) (fun ga sga => ?_)
 refine ij ?_
 refine an.cases (s := 18) rfl (fun g2 => ?_) (fun g2 => nomatch g2)
 refine ln ?_
 refine an.cases (s := 27) rfl (fun g3 => ?_) (fun g3 => nomatch g3)
 refine lj ?_
 refine bC ?_
 exact tg
 refine tZ ?_
 refine tZ ?_
 refine rB ga ?_ (x := co)
 refine gJ ?_
 refine cx 18 (fun gb sgb => ?_) (fun gb sgb => ?_)
 refine kr ?_
 refine an.cases (s := 27) rfl (fun g6 => ?_) (fun g6 => nomatch g6)
 refine ne ?_
 refine bC ?_
 exact tg
 refine ua ?_
 refine ua ?_
 refine rB gb ?_ (x := co)
 refine m9 ?_
 refine cx 27 (fun gc sgc => ?_) (fun gc sgc => ?_)
 refine jF ?_
 refine bC ?_
 exact tg
 refine rB gc ?_ (x := lF kD)
 refine rB gc ?_ (x := lD [sl .v _] aZ)
 refine rB gc ?_ (x := lF kD)
 refine He ?_
 refine rB gc ?_ (x := nT)
 refine rA ?_ (x := ay gc)
 refine sc (fun hba => ?_) (fun hba => ?_)
 exact tg
 have hl : x.Conds.length = y.Conds.length := by first | omega | (simp_all; done) | (simp_all; omega)
 refine uk ?_
 refine bw ?_
 refine sP [2, 3, 4, 5] [2, 3] ?_
 refine sL [2, 3] [2, 3] (fun k : Nat => k ≤ x.Conds.length ∧ x.Conds.take k = y.Conds.take k) (fun k : Nat => [(5, RV.int (k : Int))]) (fun k : Nat => []) (fun k : Nat => x.Conds.length - k) 0 (by exact ⟨by omega, by simp⟩) (by exact aI (by exact rfl) (tI)) (by exact ⟨⟩) ?_
 rintro k ⟨hk, ha⟩
 refine bu ?_
 refine qY ?_
 refine rA ?_ (x := cb)
 refine sc (fun hbb => ?_) (fun hbb => ?_)
 have hlt : k < x.Conds.length := by omega
 have hlt2 : k < y.Conds.length := by omega
 refine cE ?_
 refine sQ [2, 3, 5] [2, 3] ?_
 refine b9 bP ?_
 refine x5 ?_
 refine xC ?_
 refine dA 15 ?_ (x := lE [val _, val _, val _] pm)
 refine dA 0 ?_ (x := lF iO)
 refine dA 32 ?_ (x := lD [sl .v _] iP)
 refine dA 0 ?_ (x := sM)
 refine dA 224 ?_ (x := aD (by decide) gv (by exact ⟨⟩) (by exact rfl) (by exact aE (by omega) rfl) (by exact rfl))
 refine dA 480 ?_ (x := lE [val _, val _, val _] pm)
 refine dA 1023 ?_ (x := MV [vI _, vI _, vI _] [vI _, vI _, vI _] (by decide) (N6 _ _ _ _ _ _ _ _))
 refine sc (fun hbc => ?_) (fun hbc => ?_)
 have hbad : ¬ x = y := by intro e; subst e; simp_all
 refine sS [2, 3, 5] [2, 3] ?_
 refine bD ?_
 exact rb ((mi hbad).symm)
 refine aN ?_
 refine sG [2, 3, 5] [2, 3] ?_
 refine bF ?_
 refine nx (k + 1) (by exact ⟨by omega, lp ha hlt hlt2 (by simp_all [NM])⟩)
 have hend : x.Conds = y.Conds := pe hl (by rw [show x.Conds.length = k by omega]; exact ha)
 refine aX ?_
 refine sT [2, 3, 5] [2, 3] ?_
 refine bD ?_
 exact rb (by refine (nz ?_).symm; rw [NN]; simp_all [eI, NL])
end Go.Proofs.YtmekkgdboplbjaaGreat
