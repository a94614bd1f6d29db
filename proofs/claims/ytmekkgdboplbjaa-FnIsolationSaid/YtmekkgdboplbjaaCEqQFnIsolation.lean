/- What functions of the program compute. No condition. -/
import Derived.Test.YtmekkgdboplbjaaCZMFnIsolation
import Derived.Test.YtmekkgdboplbjaaCFcFnIsolation
import Derived.Test.YtmekkgdboplbjaaCEqPFnIsolation
import Derived.Test.YtmekkgdboplbjaaCQuerFnIsolation
import Derived.KernelRfl
set_option linter.unusedVariables false
set_option linter.unusedSimpArgs false
namespace Go.Proofs.Ytmekkgdboplbjaa
open Go Go.RowKit M PV
set_option maxRecDepth 10000
attribute [local irreducible] PV.Lcl PV.LclR RV.Lcl
theorem eqs_Cond {x : List Cond} {y : List Cond}  : SCall Try.prog 85 [(false, [sl .v (x.map cCond)]), (false, [sl .v (y.map cCond)])] (resRV [(false, [val (.bool (deq x y))])]) := by
 refine sF Try.func85 fun h0 w0 Fz0 => ?_
 refine sj 0 fun hl0 => ?_
 refine sj 1 fun hl1 => ?_
 refine za2 ?_
 refine zj1 ?_
 refine zj1 ?_
 refine rA ?_ (x := B_neq)
 refine sc (fun hba => ?_) (fun hba => ?_)
 exact zio
 have hl : x.length = y.length := by omega
 refine zip ?_
 refine zj1 ?_
 refine za4 ?_
 refine ziw ?_
 rintro k ⟨hk, ha⟩
 refine za5 ?_
 refine sc (fun hbb => ?_) (fun hbb => ?_)
 have hlt : k < x.length := by omega
 have hlt2 : k < y.length := by omega
 refine za6 ?_
 refine sS [0, 1, 12, 13] [] ?_
 refine rM ?_
 refine zca ?_
 refine sP [0, 1, 5, 12, 13] [] ?_
 refine zdl ?_
 refine dA 3 ?_ (x := loc_index (by decide) sl_36 (by exact ⟨⟩) (by exact rfl) (by exact getm2 (by omega) rfl) (by exact rfl))
 refine dA 7 ?_ (x := lE [val _, val _, val _] ty_41)
 refine zdo ?_
 refine dA 48 ?_ (x := loc_index (by decide) sl_36 (by exact ⟨⟩) (by exact rfl) (by exact getm2 (by omega) rfl) (by exact rfl))
 refine dA 112 ?_ (x := lE [val _, val _, val _] ty_41)
 refine dA 255 ?_ (x := loc_sbin [vI _, vI _, vI _] [vI _, vI _, vI _] (by decide) (se_neq_41 _ _ _ _ _ _ _ _))
 refine sc (fun hbc => ?_) (fun hbc => ?_)
 refine sS [0, 1, 5, 12, 13] [] ?_
 exact zit
 refine sw_skip ?_
 refine sG [0, 1, 5, 12, 13] [] ?_
 refine zaa ?_
 refine nx (k + 1) (by exact ⟨by omega, eq_succ ha hlt hlt2 (by simp_all [ext_Cond_iff])⟩)
 exact zix
theorem impl_equalQuery {x : Query} {y : Query}  : SCall Try.prog 60 [(true, [val (vI x.Id), val (vI x.Tenant), sl .v (x.Conds.map cCond), sl .v (x.Out.map cInt)]), (true, [val (vI y.Id), val (vI y.Tenant), sl .v (y.Conds.map cCond), sl .v (y.Out.map cInt)])] (resRV [(false, [val (.bool (deq x y))])]) := by
 refine sF Try.func60 fun h0 w0 Fz0 => ?_
 refine sn 0 2 fun hl0_2 => ?_
 refine sn 0 3 fun hl0_3 => ?_
 refine sn 1 2 fun hl1_2 => ?_
 refine sn 1 3 fun hl1_3 => ?_
 refine zbh ?_
 refine rX ?_ (x := (loc_box (ag := true) (cs := [val _, val _, sl _ _, sl _ _]) (by decide) (by exact ⟨⟩)))
 refine zcw ?_
 refine zfq ?_
 refine zfq ?_
 refine zc0 ?_
 refine cx 10 (fun ga sga => ?_) (fun ga sga => ?_)
 refine rB ga ?_ (x := lF fd_38_1)
 refine rB ga ?_ (x := lD [val _] ty_3)
 refine rB ga ?_ (x := lF fd_38_1)
 refine zcq ?_
 refine zb9 ?_
 refine cx 17 (fun gb sgb => ?_) (fun gb sgb => ?_)
 refine zbq ?_
 refine zbq ?_
 refine rB gb ?_ (x := cL [(false, [sl _ _]), (false, [sl _ _])] [(false, [sl .v _]), (false, [sl .v _])] c_85 (hs := by exact eqs_Cond))
 refine zba ?_
 refine cx 24 (fun gc sgc => ?_) (fun gc sgc => ?_)
 refine rB gc ?_ (x := lF fd_38_3)
 refine rB gc ?_ (x := lD [sl .v _] ty_27)
 refine rB gc ?_ (x := lF fd_38_3)
 refine rB gc ?_ (x := lD [sl .v _] ty_27)
 refine rB gc ?_ (x := cL [(false, [sl _ _]), (false, [sl _ _])] [(false, [sl .v _]), (false, [sl .v _])] c_86 (hs := by exact impl_sameInts))
 refine rA ?_ (x := pkT gc)
 exact zj2
 refine zbc ?_
 exact zj2
 refine zbd ?_
 refine RunS.cases (s := 24) rfl (fun g4 => nomatch g4) (fun g4 => ?_)
 refine zbe ?_
 exact zj2
 refine zbf ?_
 refine RunS.cases (s := 17) rfl (fun g5 => nomatch g5) (fun g5 => ?_)
 refine zbg ?_
 refine rM ?_
 refine RunS.cases (s := 24) rfl (fun g6 => nomatch g6) (fun g6 => ?_)
 refine zf g6 ?_
 refine rA ?_ (x := pkF g6)
 exact zj2
theorem impl_equalUpdate {x : Update} {y : Update}  : SCall Try.prog 61 [(true, [val (vI x.Kind), val (vI x.Row.Id), sl .v (x.Row.Values.map cInt), val (vI x.Field), val (vI x.Value)]), (true, [val (vI y.Kind), val (vI y.Row.Id), sl .v (y.Row.Values.map cInt), val (vI y.Field), val (vI y.Value)])] (resRV [(false, [val (.bool (deq x y))])]) := by
 refine sF Try.func61 fun h0 w0 Fz0 => ?_
 refine sn 0 2 fun hl0_2 => ?_
 refine sn 1 2 fun hl1_2 => ?_
 refine zc7 ?_
 refine rX ?_ (x := (loc_box (ag := true) (cs := [val _, val _, sl _ _, val _, val _]) (by decide) (by exact ⟨⟩)))
 refine zcw ?_
 refine zcb ?_
 refine zcb ?_
 refine zc0 ?_
 refine cx 10 (fun ga sga => ?_) (fun ga sga => ?_)
 refine rB ga ?_ (x := lF fd_47_1)
 refine rB ga ?_ (x := lD [val _, sl .v _] ty_45)
 refine rB ga ?_ (x := lF fd_47_1)
 refine rB ga ?_ (x := lD [val _, sl .v _] ty_45)
 refine rB ga ?_ (x := cL [(true, [val _, sl _ _]), (true, [val _, sl _ _])] [(true, [val _, sl .v _]), (true, [val _, sl .v _])] c_87 (hs := by exact impl_equalRow))
 refine zb9 ?_
 refine cx 17 (fun gb sgb => ?_) (fun gb sgb => ?_)
 refine zcj ?_
 refine zcg ?_
 refine zba ?_
 refine cx 24 (fun gc sgc => ?_) (fun gc sgc => ?_)
 refine rB gc ?_ (x := lF fd_47_3)
 refine rB gc ?_ (x := lD [val _] ty_3)
 refine rB gc ?_ (x := lF fd_47_3)
 refine zj3 ?_
 exact zj4
 refine zbc ?_
 exact zj4
 refine zbd ?_
 refine RunS.cases (s := 24) rfl (fun g4 => nomatch g4) (fun g4 => ?_)
 refine zbe ?_
 exact zj4
 refine zbf ?_
 refine RunS.cases (s := 17) rfl (fun g5 => nomatch g5) (fun g5 => ?_)
 refine zbg ?_
 refine rM ?_
 refine RunS.cases (s := 24) rfl (fun g6 => nomatch g6) (fun g6 => ?_)
 refine zf g6 ?_
 refine rA ?_ (x := pkF g6)
 exact zj4
end Go.Proofs.Ytmekkgdboplbjaa
