/- What functions of the program compute. No condition. -/
import Derived.Test.YtmkhofdkdklpdaaGreatCZMFnClusters
import Derived.Test.YtmkhofdkdklpdaaGreatCFcFnClusters
import Derived.Test.YtmkhofdkdklpdaaGreatCEqQFnClusters
import Derived.KernelRfl
set_option linter.unusedVariables false
set_option linter.unusedSimpArgs false
namespace Go.Proofs.YtmkhofdkdklpdaaGreat
open Go Go.RowKit M PV
set_option maxRecDepth 10000
attribute [local irreducible] PV.Lcl PV.LclR RV.Lcl
theorem spec_EqualClusters {p3 p4 p9 p10 p13 p14 p18 p19 p24 p25 p28 p29 : Fl} {x : Cluster} {y : Cluster}  : SCall Tryz.prog 8 [(true, [val (vI x.Query.Id), val (vI x.Query.Tenant), sl .v (x.Query.Conds.map cCond), sl .v (x.Query.Out.map cInt), sl .v (x.Parts.map (cRowS p3 p4)), sl .v (x.Up.map cBool), sl .v (x.At.map cInt), sl .v (x.Pos.map cInt), sl .v (x.Buffer.map (cRowS p9 p10)), sl .v (x.Done.map cInt), sl .v (x.Rows.map (cRowS p13 p14))]), (true, [val (vI y.Query.Id), val (vI y.Query.Tenant), sl .v (y.Query.Conds.map cCond), sl .v (y.Query.Out.map cInt), sl .v (y.Parts.map (cRowS p18 p19)), sl .v (y.Up.map cBool), sl .v (y.At.map cInt), sl .v (y.Pos.map cInt), sl .v (y.Buffer.map (cRowS p24 p25)), sl .v (y.Done.map cInt), sl .v (y.Rows.map (cRowS p28 p29))])] (resRV [(false, [val (.bool (deq x y))])]) := by
 refine sF Tryz.func8 fun h0 w0 Fz0 => ?_
 refine sn 0 2 fun hl0_2 => ?_
 refine sn 0 3 fun hl0_3 => ?_
 refine sn 0 4 fun hl0_4 => ?_
 refine sn 0 5 fun hl0_5 => ?_
 refine sn 0 6 fun hl0_6 => ?_
 refine sn 0 7 fun hl0_7 => ?_
 refine sn 0 8 fun hl0_8 => ?_
 refine sn 0 9 fun hl0_9 => ?_
 refine sn 0 10 fun hl0_10 => ?_
 refine sn 1 2 fun hl1_2 => ?_
 refine sn 1 3 fun hl1_3 => ?_
 refine sn 1 4 fun hl1_4 => ?_
 refine sn 1 5 fun hl1_5 => ?_
 refine sn 1 6 fun hl1_6 => ?_
 refine sn 1 7 fun hl1_7 => ?_
 refine sn 1 8 fun hl1_8 => ?_
 refine sn 1 9 fun hl1_9 => ?_
 refine sn 1 10 fun hl1_10 => ?_
 refine zen ?_
 refine rX ?_ (x := (loc_box (ag := true) (cs := [val _, val _, sl _ _, sl _ _, sl _ _, sl _ _, sl _ _, sl _ _, sl _ _, sl _ _, sl _ _]) (by decide) (by exact ⟨⟩)))
 refine zeb ?_
 refine zeo ?_
 refine zeo ?_
 refine rA ?_ (x := cL [(true, [val _, val _, sl _ _, sl _ _]), (true, [val _, val _, sl _ _, sl _ _])] [(true, [val _, val _, sl .v _, sl .v _]), (true, [val _, val _, sl .v _, sl .v _])] c_35 (hs := by exact spec_l9SameQuery))
 refine zep ?_
 refine cx 12 (fun ga sga => ?_) (fun ga sga => ?_)
 refine zdz ?_
 refine RunS.cases (s := 20) rfl (fun g2 => ?_) (fun g2 => nomatch g2)
 refine ze0 ?_
 refine rM ?_
 refine RunS.cases (s := 29) rfl (fun g3 => ?_) (fun g3 => nomatch g3)
 refine zec ?_
 refine rM ?_
 refine RunS.cases (s := 37) rfl (fun g4 => ?_) (fun g4 => nomatch g4)
 refine zeq ?_
 refine rM ?_
 refine RunS.cases (s := 45) rfl (fun g5 => ?_) (fun g5 => nomatch g5)
 refine zt g5 ?_
 refine rA ?_ (x := pkT g5)
 refine rM ?_
 refine RunS.cases (s := 53) rfl (fun g6 => ?_) (fun g6 => nomatch g6)
 refine zeg ?_
 refine rM ?_
 refine RunS.cases (s := 61) rfl (fun g7 => ?_) (fun g7 => nomatch g7)
 refine zt g7 ?_
 refine rA ?_ (x := pkT g7)
 exact zed
 refine zer ?_
 refine zer ?_
 refine rB ga ?_ (x := cL [(false, [sl _ _]), (false, [sl _ _])] [(false, [sl .v _]), (false, [sl .v _])] c_36 (hs := by exact spec_l18Lists))
 refine ze3 ?_
 refine cx 20 (fun gb sgb => ?_) (fun gb sgb => ?_)
 refine zef ?_
 refine rM ?_
 refine RunS.cases (s := 29) rfl (fun g10 => ?_) (fun g10 => nomatch g10)
 refine zt g10 ?_
 refine rA ?_ (x := pkT g10)
 refine rM ?_
 refine RunS.cases (s := 37) rfl (fun g11 => ?_) (fun g11 => nomatch g11)
 refine zt g11 ?_
 refine rA ?_ (x := pkT g11)
 refine rM ?_
 refine RunS.cases (s := 45) rfl (fun g12 => ?_) (fun g12 => nomatch g12)
 refine zt g12 ?_
 refine rA ?_ (x := pkT g12)
 refine rM ?_
 refine RunS.cases (s := 53) rfl (fun g13 => ?_) (fun g13 => nomatch g13)
 refine zt g13 ?_
 refine rA ?_ (x := pkT g13)
 refine rM ?_
 refine RunS.cases (s := 61) rfl (fun g14 => ?_) (fun g14 => nomatch g14)
 refine zt g14 ?_
 refine rA ?_ (x := pkT g14)
 exact zed
 refine zes ?_
 refine rB gb ?_ (x := lN sl_29)
 refine zes ?_
 refine rB gb ?_ (x := lN sl_29)
 refine zeh ?_
 refine rM ?_
 refine cx 29 (fun gc sgc => ?_) (fun gc sgc => ?_)
 refine zei ?_
 refine rM ?_
 refine RunS.cases (s := 37) rfl (fun g17 => ?_) (fun g17 => nomatch g17)
 refine zt g17 ?_
 refine rA ?_ (x := pkT g17)
 refine rM ?_
 refine RunS.cases (s := 45) rfl (fun g18 => ?_) (fun g18 => nomatch g18)
 refine zt g18 ?_
 refine rA ?_ (x := pkT g18)
 refine rM ?_
 refine RunS.cases (s := 53) rfl (fun g19 => ?_) (fun g19 => nomatch g19)
 refine zt g19 ?_
 refine rA ?_ (x := pkT g19)
 refine rM ?_
 refine RunS.cases (s := 61) rfl (fun g20 => ?_) (fun g20 => nomatch g20)
 refine zt g20 ?_
 refine rA ?_ (x := pkT g20)
 exact zed
 refine zet ?_
 refine zet ?_
 refine zej ?_
 refine rA ?_ (x := pkF gc)
 refine rM ?_
 refine cx 37 (fun gd sgd => ?_) (fun gd sgd => ?_)
 refine zeu ?_
 refine rM ?_
 refine RunS.cases (s := 45) rfl (fun g23 => ?_) (fun g23 => nomatch g23)
 refine zt g23 ?_
 refine rA ?_ (x := pkT g23)
 refine rM ?_
 refine RunS.cases (s := 53) rfl (fun g24 => ?_) (fun g24 => nomatch g24)
 refine zt g24 ?_
 refine rA ?_ (x := pkT g24)
 refine rM ?_
 refine RunS.cases (s := 61) rfl (fun g25 => ?_) (fun g25 => nomatch g25)
 refine zt g25 ?_
 refine rA ?_ (x := pkT g25)
 exact zed
 refine zev ?_
 refine zev ?_
 refine rB gd ?_ (x := cL [(false, [sl _ _]), (false, [sl _ _])] [(false, [sl .v _]), (false, [sl .v _])] c_37 (hs := by exact spec_l2Ints))
 refine rB gd ?_ (x := nT)
 refine rA ?_ (x := pkF gd)
 refine rM ?_
 refine cx 45 (fun ge sge => ?_) (fun ge sge => ?_)
 refine zt ge ?_
 refine rA ?_ (x := pkT ge)
 refine rM ?_
 refine RunS.cases (s := 53) rfl (fun g28 => ?_) (fun g28 => nomatch g28)
 refine zt g28 ?_
 refine rA ?_ (x := pkT g28)
 refine rM ?_
 refine RunS.cases (s := 61) rfl (fun g29 => ?_) (fun g29 => nomatch g29)
 refine zt g29 ?_
 refine rA ?_ (x := pkT g29)
 exact zed
 refine zew ?_
 refine zew ?_
 refine rB ge ?_ (x := cL [(false, [sl _ _]), (false, [sl _ _])] [(false, [sl .v _]), (false, [sl .v _])] c_36 (hs := by exact spec_l18Lists))
 refine rB ge ?_ (x := nT)
 refine rA ?_ (x := pkF ge)
 refine rM ?_
 refine cx 53 (fun gf sgf => ?_) (fun gf sgf => ?_)
 refine zt gf ?_
 refine rA ?_ (x := pkT gf)
 refine rM ?_
 refine RunS.cases (s := 61) rfl (fun g32 => ?_) (fun g32 => nomatch g32)
 refine zt g32 ?_
 refine rA ?_ (x := pkT g32)
 exact zed
 refine zex ?_
 refine zex ?_
 refine rB gf ?_ (x := cL [(false, [sl _ _]), (false, [sl _ _])] [(false, [sl .v _]), (false, [sl .v _])] c_37 (hs := by exact spec_l2Ints))
 refine rB gf ?_ (x := nT)
 refine rA ?_ (x := pkF gf)
 refine rM ?_
 refine cx 61 (fun gg sgg => ?_) (fun gg sgg => ?_)
 refine zt gg ?_
 refine rA ?_ (x := pkT gg)
 exact zed
 refine rB gg ?_ (x := lF fd_31_7)
 refine rB gg ?_ (x := lD [sl .v _] ty_28)
 refine rB gg ?_ (x := lF fd_31_7)
 refine rB gg ?_ (x := lD [sl .v _] ty_28)
 refine rB gg ?_ (x := cL [(false, [sl _ _]), (false, [sl _ _])] [(false, [sl .v _]), (false, [sl .v _])] c_36 (hs := by exact spec_l18Lists))
 refine rB gg ?_ (x := nT)
 refine rA ?_ (x := pkF gg)
 refine sc (fun hba => ?_) (fun hba => ?_)
 exact zek
 have hl : x.Up.length = y.Up.length := by first | omega | (simp_all; done) | (simp_all; omega)
 refine zaj ?_
 refine sS [2, 3, 4] [2, 3] ?_
 refine zas ?_
 refine sP [2, 3, 4, 5] [2, 3] ?_
 refine sL [2, 3] [2, 3] (fun k : Nat => k ≤ x.Up.length ∧ x.Up.take k = y.Up.take k) (fun k : Nat => [(5, RV.int (k : Int))]) (fun k : Nat => []) (fun k : Nat => x.Up.length - k) 0 (by exact ⟨by omega, by simp⟩) (by exact aI (by exact rfl) (tI)) (by exact ⟨⟩) ?_
 rintro k ⟨hk, ha⟩
 refine za4 ?_
 refine zey ?_
 refine rA ?_ (x := B_lss)
 refine sc (fun hbb => ?_) (fun hbb => ?_)
 have hlt : k < x.Up.length := by omega
 have hlt2 : k < y.Up.length := by omega
 refine zau ?_
 refine sQ [2, 3, 5] [2, 3] ?_
 refine sw_draw hm_ ?_
 refine dA 0 ?_ (x := lF fd_31_2)
 refine dA 1 ?_ (x := lD [sl .v _] ty_29)
 refine dA 0 ?_ (x := sM)
 refine dA 7 ?_ (x := loc_index (by decide) sl_29 (by exact ⟨⟩) (by exact rfl) (by exact getm2 (by omega) rfl) (by exact rfl))
 refine dA 15 ?_ (x := lE [val _] ty_4)
 refine dA 0 ?_ (x := lF fd_31_2)
 refine dA 32 ?_ (x := lD [sl .v _] ty_29)
 refine dA 0 ?_ (x := sM)
 refine dA 224 ?_ (x := loc_index (by decide) sl_29 (by exact ⟨⟩) (by exact rfl) (by exact getm2 (by omega) rfl) (by exact rfl))
 refine dA 480 ?_ (x := lE [val _] ty_4)
 refine dA 1023 ?_ (x := loc_bneq (by decide) ub_4 (by exact ⟨⟩) (by exact ⟨⟩))
 refine sc (fun hbc => ?_) (fun hbc => ?_)
 exact zel
 refine sw_skip ?_
 refine sG [2, 3, 5] [2, 3] ?_
 exact zd2
 have hend : x.Up = y.Up := eq_end hl (by rw [show x.Up.length = k by omega]; exact ha)
 refine zem ?_
 refine zcd ?_
 exact rb (by refine (deq_true ?_).symm; rw [ext_Cluster_iff]; simp_all [deq_iff, deq_no])
end Go.Proofs.YtmkhofdkdklpdaaGreat
