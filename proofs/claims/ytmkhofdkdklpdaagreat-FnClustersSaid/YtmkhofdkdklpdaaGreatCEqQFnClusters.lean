/- What functions of the program compute. No condition. -/
import Derived.Test.YtmkhofdkdklpdaaGreatCZMFnClusters
import Derived.Test.YtmkhofdkdklpdaaGreatCFcFnClusters
import Derived.Test.YtmkhofdkdklpdaaGreatCEqPFnClusters
import Derived.Test.YtmkhofdkdklpdaaGreatCQuerFnClusters
import Derived.KernelRfl
set_option linter.unusedVariables false
set_option linter.unusedSimpArgs false
namespace Go.Proofs.YtmkhofdkdklpdaaGreat
open Go Go.RowKit M PV
set_option maxRecDepth 10000
attribute [local irreducible] PV.Lcl PV.LclR RV.Lcl
theorem spec_l9SameQuery {x : Query} {y : Query}  : SCall Tryz.prog 35 [(true, [val (vI x.Id), val (vI x.Tenant), sl .v (x.Conds.map cCond), sl .v (x.Out.map cInt)]), (true, [val (vI y.Id), val (vI y.Tenant), sl .v (y.Conds.map cCond), sl .v (y.Out.map cInt)])] (resRV [(false, [val (.bool (deq x y))])]) := by
 refine sF Tryz.func35 fun h0 w0 Fz0 => ?_
 refine sn 0 2 fun hl0_2 => ?_
 refine sn 0 3 fun hl0_3 => ?_
 refine sn 1 2 fun hl1_2 => ?_
 refine sn 1 3 fun hl1_3 => ?_
 refine zdq ?_
 refine rX ?_ (x := (loc_box (ag := true) (cs := [val _, val _, sl _ _, sl _ _]) (by decide) (by exact ⟨⟩)))
 refine zeb ?_
 refine zdv ?_
 refine zdv ?_
 refine rA ?_ (x := B_neq)
 refine rM ?_
 refine cx 11 (fun ga sga => ?_) (fun ga sga => ?_)
 refine zdz ?_
 refine RunS.cases (s := 18) rfl (fun g2 => ?_) (fun g2 => nomatch g2)
 refine ze0 ?_
 refine rM ?_
 refine RunS.cases (s := 27) rfl (fun g3 => ?_) (fun g3 => nomatch g3)
 refine zec ?_
 exact zed
 refine rB ga ?_ (x := lF fd_27_1)
 refine rB ga ?_ (x := lD [val _] ty_3)
 refine rB ga ?_ (x := lF fd_27_1)
 refine rB ga ?_ (x := lD [val _] ty_3)
 refine zee ?_
 refine rM ?_
 refine cx 18 (fun gb sgb => ?_) (fun gb sgb => ?_)
 refine zef ?_
 refine rM ?_
 refine RunS.cases (s := 27) rfl (fun g6 => ?_) (fun g6 => nomatch g6)
 refine zeg ?_
 exact zed
 refine zdw ?_
 refine zdw ?_
 refine zeh ?_
 refine rM ?_
 refine cx 27 (fun gc sgc => ?_) (fun gc sgc => ?_)
 refine zei ?_
 exact zed
 refine zdx ?_
 refine zdx ?_
 refine zej ?_
 refine rA ?_ (x := pkF gc)
 refine sc (fun hba => ?_) (fun hba => ?_)
 exact zek
 have hl : x.Conds.length = y.Conds.length := by first | omega | (simp_all; done) | (simp_all; omega)
 refine zaj ?_
 refine sS [2, 3, 4] [2, 3] ?_
 refine zas ?_
 refine sP [2, 3, 4, 5] [2, 3] ?_
 refine sL [2, 3] [2, 3] (fun k : Nat => k ≤ x.Conds.length ∧ x.Conds.take k = y.Conds.take k) (fun k : Nat => [(5, RV.int (k : Int))]) (fun k : Nat => []) (fun k : Nat => x.Conds.length - k) 0 (by exact ⟨by omega, by simp⟩) (by exact aI (by exact rfl) (tI)) (by exact ⟨⟩) ?_
 rintro k ⟨hk, ha⟩
 refine za4 ?_
 refine zdr ?_
 refine rA ?_ (x := B_lss)
 refine sc (fun hbb => ?_) (fun hbb => ?_)
 have hlt : k < x.Conds.length := by omega
 have hlt2 : k < y.Conds.length := by omega
 refine zau ?_
 refine sQ [2, 3, 5] [2, 3] ?_
 refine sw_draw hm_ ?_
 refine dA 0 ?_ (x := lF fd_27_2)
 refine dA 1 ?_ (x := lD [sl .v _] ty_24)
 refine dA 0 ?_ (x := sM)
 refine zds ?_
 refine dA 0 ?_ (x := lF fd_27_2)
 refine dA 32 ?_ (x := lD [sl .v _] ty_24)
 refine dA 0 ?_ (x := sM)
 refine dA 224 ?_ (x := loc_index (by decide) sl_24 (by exact ⟨⟩) (by exact rfl) (by exact getm2 (by omega) rfl) (by exact rfl))
 refine dA 480 ?_ (x := lE [val _, val _, val _] ty_79)
 refine dA 1023 ?_ (x := loc_sbin [vI _, vI _, vI _] [vI _, vI _, vI _] (by decide) (se_neq_79 _ _ _ _ _ _ _ _))
 refine sc (fun hbc => ?_) (fun hbc => ?_)
 exact zel
 refine sw_skip ?_
 refine sG [2, 3, 5] [2, 3] ?_
 refine za8 ?_
 refine nx (k + 1) (by exact ⟨by omega, eq_succ ha hlt hlt2 (by simp_all [ext_Cond_iff])⟩)
 have hend : x.Conds = y.Conds := eq_end hl (by rw [show x.Conds.length = k by omega]; exact ha)
 refine zem ?_
 refine zcd ?_
 exact rb (by refine (deq_true ?_).symm; rw [ext_Query_iff]; simp_all [deq_iff, deq_no])
end Go.Proofs.YtmkhofdkdklpdaaGreat
