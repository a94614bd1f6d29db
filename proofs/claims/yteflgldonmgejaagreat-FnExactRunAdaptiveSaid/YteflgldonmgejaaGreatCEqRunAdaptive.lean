/- What functions of the program compute. No condition. -/
import Derived.Test.YteflgldonmgejaaGreatCZMRunAdaptive
import Derived.Test.YteflgldonmgejaaGreatCFcRunAdaptive
import Derived.Test.YteflgldonmgejaaGreatCDb
import Derived.KernelRfl
set_option linter.unusedVariables false
set_option linter.unusedSimpArgs false
namespace Go.Proofs.YteflgldonmgejaaGreat
open Go Go.RowKit M PV
set_option maxRecDepth 10000
attribute [local irreducible] PV.Lcl PV.LclR RV.Lcl
theorem eq_IntS {x : List Int} {y : List Int}  : SCall Tryz.prog 16 [(false, [sl .v (x.map cInt)]), (false, [sl .v (y.map cInt)])] (resRV [(false, [val (.bool (deq x y))])]) := by
 refine sF Tryz.func16 fun h0 w0 Fz0 => ?_
 refine sj 0 fun hl0 => ?_
 refine sj 1 fun hl1 => ?_
 refine zcd ?_
 refine zce ?_
 refine zcf ?_
 refine sc (fun hba => ?_) (fun hba => ?_)
 exact zcg
 have hl : x.length = y.length := by omega
 refine zch ?_
 rintro k ⟨hk, ha⟩
 refine zb2 ?_
 refine sc (fun hbb => ?_) (fun hbb => ?_)
 have hlt : k < x.length := by omega
 have hlt2 : k < y.length := by omega
 refine zci ?_
 refine zcj ?_
 refine zck ?_
 refine zcl ?_
 refine dA 255 ?_ (x := B_neq)
 refine sc (fun hbc => ?_) (fun hbc => ?_)
 have hne : x[k] ≠ y[k] := by simpa using hbc
 exact zcm
 have heq : x[k] = y[k] := by simpa using hbc
 exact zcn
 exact zco
theorem eq_Cond {x : Cond} {y : Cond}  : SCall Tryz.prog 220 [(true, [val (vI x.Field), val (vI x.Low), val (vI x.High)]), (true, [val (vI y.Field), val (vI y.Low), val (vI y.High)])] (resRV [(false, [val (.bool (deq x y))])]) := by
 refine sF Tryz.func220 fun h0 w0 Fz0 => ?_
 refine zb8 ?_
 refine rX ?_ (x := (loc_box (ag := true) (cs := [val _, val _, val _]) (by decide) (by exact ⟨⟩)))
 refine zcp ?_
 refine zcq ?_
 refine rA ?_ (x := lF fd_193_0)
 refine zcr ?_
 refine sc (fun hba => ?_) (fun hba => ?_)
 exact zcs
 refine zct ?_
 refine rA ?_ (x := lF fd_193_1)
 refine rA ?_ (x := lD [val _] ty_3)
 refine rA ?_ (x := lF fd_193_1)
 refine zcr ?_
 refine sc (fun hbb => ?_) (fun hbb => ?_)
 exact zcs
 refine zct ?_
 refine rA ?_ (x := lF fd_193_2)
 refine rA ?_ (x := lD [val _] ty_3)
 refine rA ?_ (x := lF fd_193_2)
 refine zcr ?_
 refine sc (fun hbc => ?_) (fun hbc => ?_)
 exact zcs
 refine zcu ?_
 exact rb (by exact (deq_true (by apply ext_Cond <;> simp_all [deq_iff])).symm)
theorem eq_Charge {x : Charge} {y : Charge}  : SCall Tryz.prog 130 [(true, [val (vI x.Segment), val (vI x.Base), sl .v (x.Ids.map cInt), sl .v (x.Tenants.map cInt), sl .v (x.Rows.map cInt)]), (true, [val (vI y.Segment), val (vI y.Base), sl .v (y.Ids.map cInt), sl .v (y.Tenants.map cInt), sl .v (y.Rows.map cInt)])] (resRV [(false, [val (.bool (deq x y))])]) := by
 refine sF Tryz.func130 fun h0 w0 Fz0 => ?_
 refine sn 0 2 fun hl0_2 => ?_
 refine sn 0 3 fun hl0_3 => ?_
 refine sn 0 4 fun hl0_4 => ?_
 refine sn 1 2 fun hl1_2 => ?_
 refine sn 1 3 fun hl1_3 => ?_
 refine sn 1 4 fun hl1_4 => ?_
 refine za4 ?_
 refine rX ?_ (x := (loc_box (ag := true) (cs := [val _, val _, sl _ _, sl _ _, sl _ _]) (by decide) (by exact ⟨⟩)))
 refine zcp ?_
 refine rA ?_ (x := lF fd_148_0)
 refine rA ?_ (x := lD [val _] ty_3)
 refine rA ?_ (x := lF fd_148_0)
 refine zcr ?_
 refine sc (fun hba => ?_) (fun hba => ?_)
 exact zcs
 refine zct ?_
 refine rA ?_ (x := lF fd_148_1)
 refine rA ?_ (x := lD [val _] ty_3)
 refine rA ?_ (x := lF fd_148_1)
 refine zcr ?_
 refine sc (fun hbb => ?_) (fun hbb => ?_)
 exact zcs
 refine zct ?_
 refine rA ?_ (x := lF fd_148_2)
 refine rA ?_ (x := lD [sl .v _] ty_25)
 refine rA ?_ (x := lF fd_148_2)
 refine zcv ?_
 refine sc (fun hbc => ?_) (fun hbc => ?_)
 exact zcs
 refine zct ?_
 refine rA ?_ (x := lF fd_148_3)
 refine rA ?_ (x := lD [sl .v _] ty_25)
 refine rA ?_ (x := lF fd_148_3)
 refine zcv ?_
 refine sc (fun hbd => ?_) (fun hbd => ?_)
 exact zcs
 refine zct ?_
 refine rA ?_ (x := lF fd_148_4)
 refine rA ?_ (x := lD [sl .v _] ty_25)
 refine rA ?_ (x := lF fd_148_4)
 refine zcv ?_
 refine sc (fun hbe => ?_) (fun hbe => ?_)
 exact zcs
 refine zcu ?_
 exact rb (by exact (deq_true (by apply ext_Charge <;> simp_all [deq_iff])).symm)
theorem eq_CondS {x : List Cond} {y : List Cond}  : SCall Tryz.prog 165 [(false, [sl .v (x.map cCond)]), (false, [sl .v (y.map cCond)])] (resRV [(false, [val (.bool (deq x y))])]) := by
 refine sF Tryz.func165 fun h0 w0 Fz0 => ?_
 refine sj 0 fun hl0 => ?_
 refine sj 1 fun hl1 => ?_
 refine zcw ?_
 refine rA ?_ (x := lN sl_63)
 refine rA ?_ (x := vM false [sl .v _])
 refine rA ?_ (x := lN sl_63)
 refine rA ?_ (x := B_neq)
 refine sc (fun hba => ?_) (fun hba => ?_)
 exact zcg
 have hl : x.length = y.length := by omega
 refine zch ?_
 rintro k ⟨hk, ha⟩
 refine zae ?_
 refine zcx ?_
 refine sc (fun hbb => ?_) (fun hbb => ?_)
 have hlt : k < x.length := by omega
 have hlt2 : k < y.length := by omega
 refine zci ?_
 refine dA 3 ?_ (x := loc_index (by decide) sl_63 (by exact ⟨⟩) (by exact rfl) (by exact getm2 (by omega) rfl) (by exact rfl))
 refine dA 7 ?_ (x := lE [val _, val _, val _] ty_193)
 refine zck ?_
 refine dA 48 ?_ (x := loc_index (by decide) sl_63 (by exact ⟨⟩) (by exact rfl) (by exact getm2 (by omega) rfl) (by exact rfl))
 refine dA 112 ?_ (x := lE [val _, val _, val _] ty_193)
 refine dA 255 ?_ (x := cL [(true, [val _, val _, val _]), (true, [val _, val _, val _])] [(true, [val _, val _, val _]), (true, [val _, val _, val _])] c_220 (hs := by exact eq_Cond))
 exact zcy
 exact zco
theorem eq_Row {x : Row} {y : Row}  : SCall Tryz.prog 166 [(true, [val (vI x.Id), sl .v (x.Values.map cInt)]), (true, [val (vI y.Id), sl .v (y.Values.map cInt)])] (resRV [(false, [val (.bool (deq x y))])]) := by
 refine sF Tryz.func166 fun h0 w0 Fz0 => ?_
 refine sn 0 1 fun hl0_1 => ?_
 refine sn 1 1 fun hl1_1 => ?_
 refine zaa ?_
 refine zcz ?_
 refine rA ?_ (x := lF fd_66_0)
 refine rA ?_ (x := lD [val _] ty_3)
 refine rA ?_ (x := lF fd_66_0)
 refine zcr ?_
 refine sc (fun hba => ?_) (fun hba => ?_)
 exact zcs
 refine zct ?_
 refine rA ?_ (x := lF fd_66_1)
 refine rA ?_ (x := lD [sl .v _] ty_25)
 refine rA ?_ (x := lF fd_66_1)
 refine zcv ?_
 refine sc (fun hbb => ?_) (fun hbb => ?_)
 exact zcs
 refine zcu ?_
 exact rb (by exact (deq_true (by apply ext_Row <;> simp_all [deq_iff])).symm)
theorem eq_Version {x : Version} {y : Version}  : SCall Tryz.prog 229 [(true, [val (vI x.Id), sl .v (x.Values.map cInt), val (vI x.Born), val (vI x.Died)]), (true, [val (vI y.Id), sl .v (y.Values.map cInt), val (vI y.Born), val (vI y.Died)])] (resRV [(false, [val (.bool (deq x y))])]) := by
 refine sF Tryz.func229 fun h0 w0 Fz0 => ?_
 refine sn 0 1 fun hl0_1 => ?_
 refine sn 1 1 fun hl1_1 => ?_
 refine zd0 ?_
 refine zcp ?_
 refine zd1 ?_
 refine rA ?_ (x := lF fd_151_0)
 refine zcr ?_
 refine sc (fun hba => ?_) (fun hba => ?_)
 exact zcs
 refine zct ?_
 refine rA ?_ (x := lF fd_151_1)
 refine rA ?_ (x := lD [sl .v _] ty_25)
 refine rA ?_ (x := lF fd_151_1)
 refine zcv ?_
 refine sc (fun hbb => ?_) (fun hbb => ?_)
 exact zcs
 refine zct ?_
 refine zd2 ?_
 refine rA ?_ (x := lF fd_151_2)
 refine zcr ?_
 refine sc (fun hbc => ?_) (fun hbc => ?_)
 exact zcs
 refine zct ?_
 refine rA ?_ (x := lF fd_151_3)
 refine rA ?_ (x := lD [val _] ty_3)
 refine rA ?_ (x := lF fd_151_3)
 refine zcr ?_
 refine sc (fun hbd => ?_) (fun hbd => ?_)
 exact zcs
 refine zcu ?_
 exact rb (by exact (deq_true (by apply ext_Version <;> simp_all [deq_iff])).symm)
theorem eq_ChargeS {p1 p2 p3 p5 p6 p7 : Fl} {x : List Charge} {y : List Charge}  : SCall Tryz.prog 56 [(false, [sl .v (x.map (cCharge p1 p2 p3))]), (false, [sl .v (y.map (cCharge p5 p6 p7))])] (resRV [(false, [val (.bool (deq x y))])]) := by
 refine sF Tryz.func56 fun h0 w0 Fz0 => ?_
 refine sj 0 fun hl0 => ?_
 refine sj 1 fun hl1 => ?_
 refine zcw ?_
 refine rA ?_ (x := lN sl_38)
 refine rA ?_ (x := vM false [sl .v _])
 refine rA ?_ (x := lN sl_38)
 refine rA ?_ (x := B_neq)
 refine sc (fun hba => ?_) (fun hba => ?_)
 exact zcg
 have hl : x.length = y.length := by omega
 refine zch ?_
 rintro k ⟨hk, ha⟩
 refine zae ?_
 refine zd3 ?_
 refine sc (fun hbb => ?_) (fun hbb => ?_)
 have hlt : k < x.length := by omega
 have hlt2 : k < y.length := by omega
 refine zci ?_
 refine dA 3 ?_ (x := loc_index (by decide) sl_38 (by exact ⟨⟩) (by exact rfl) (by exact getm2 (by omega) rfl) (by exact rfl))
 refine dA 7 ?_ (x := lE [val _, val _, sl .v _, sl .v _, sl .v _] ty_148)
 refine zck ?_
 refine dA 48 ?_ (x := loc_index (by decide) sl_38 (by exact ⟨⟩) (by exact rfl) (by exact getm2 (by omega) rfl) (by exact rfl))
 refine dA 112 ?_ (x := lE [val _, val _, sl .v _, sl .v _, sl .v _] ty_148)
 refine dA 255 ?_ (x := cL [(true, [val _, val _, sl _ _, sl _ _, sl _ _]), (true, [val _, val _, sl _ _, sl _ _, sl _ _])] [(true, [val _, val _, sl .v _, sl .v _, sl .v _]), (true, [val _, val _, sl .v _, sl .v _, sl .v _])] c_130 (hs := by exact eq_Charge))
 exact zcy
 exact zco
theorem eq_Query {x : Query} {y : Query}  : SCall Tryz.prog 87 [(true, [val (vI x.Id), val (vI x.Tenant), sl .v (x.Conds.map cCond), sl .v (x.Out.map cInt)]), (true, [val (vI y.Id), val (vI y.Tenant), sl .v (y.Conds.map cCond), sl .v (y.Out.map cInt)])] (resRV [(false, [val (.bool (deq x y))])]) := by
 refine sF Tryz.func87 fun h0 w0 Fz0 => ?_
 refine sn 0 2 fun hl0_2 => ?_
 refine sn 0 3 fun hl0_3 => ?_
 refine sn 1 2 fun hl1_2 => ?_
 refine sn 1 3 fun hl1_3 => ?_
 refine zal ?_
 refine rX ?_ (x := (loc_box (ag := true) (cs := [val _, val _, sl _ _, sl _ _]) (by decide) (by exact ⟨⟩)))
 refine zcp ?_
 refine zd4 ?_
 refine rA ?_ (x := lF fd_65_0)
 refine zcr ?_
 refine sc (fun hba => ?_) (fun hba => ?_)
 exact zcs
 refine zct ?_
 refine rA ?_ (x := lF fd_65_1)
 refine rA ?_ (x := lD [val _] ty_3)
 refine rA ?_ (x := lF fd_65_1)
 refine zcr ?_
 refine sc (fun hbb => ?_) (fun hbb => ?_)
 exact zcs
 refine zct ?_
 refine zd5 ?_
 refine zd5 ?_
 refine rA ?_ (x := cL [(false, [sl _ _]), (false, [sl _ _])] [(false, [sl .v _]), (false, [sl .v _])] c_165 (hs := by exact eq_CondS))
 refine rA ?_ (x := nT)
 refine sc (fun hbc => ?_) (fun hbc => ?_)
 exact zcs
 refine zct ?_
 refine rA ?_ (x := lF fd_65_3)
 refine rA ?_ (x := lD [sl .v _] ty_25)
 refine rA ?_ (x := lF fd_65_3)
 refine zcv ?_
 refine sc (fun hbd => ?_) (fun hbd => ?_)
 exact zcs
 refine zcu ?_
 exact rb (by exact (deq_true (by apply ext_Query <;> simp_all [deq_iff])).symm)
theorem eq_VersionS {p1 p3 : Fl} {x : List Version} {y : List Version}  : SCall Tryz.prog 201 [(false, [sl .v (x.map (cVersion p1))]), (false, [sl .v (y.map (cVersion p3))])] (resRV [(false, [val (.bool (deq x y))])]) := by
 refine sF Tryz.func201 fun h0 w0 Fz0 => ?_
 refine sj 0 fun hl0 => ?_
 refine sj 1 fun hl1 => ?_
 refine zcw ?_
 refine rA ?_ (x := lN sl_149)
 refine zd6 ?_
 refine rA ?_ (x := B_neq)
 refine sc (fun hba => ?_) (fun hba => ?_)
 exact zcg
 have hl : x.length = y.length := by omega
 refine zch ?_
 rintro k ⟨hk, ha⟩
 refine zae ?_
 refine zd7 ?_
 refine sc (fun hbb => ?_) (fun hbb => ?_)
 have hlt : k < x.length := by omega
 have hlt2 : k < y.length := by omega
 refine zci ?_
 refine dA 3 ?_ (x := loc_index (by decide) sl_149 (by exact ⟨⟩) (by exact rfl) (by exact getm2 (by omega) rfl) (by exact rfl))
 refine dA 7 ?_ (x := lE [val _, sl .v _, val _, val _] ty_151)
 refine zck ?_
 refine dA 48 ?_ (x := loc_index (by decide) sl_149 (by exact ⟨⟩) (by exact rfl) (by exact getm2 (by omega) rfl) (by exact rfl))
 refine dA 112 ?_ (x := lE [val _, sl .v _, val _, val _] ty_151)
 refine dA 255 ?_ (x := cL [(true, [val _, sl _ _, val _, val _]), (true, [val _, sl _ _, val _, val _])] [(true, [val _, sl .v _, val _, val _]), (true, [val _, sl .v _, val _, val _])] c_229 (hs := by exact eq_Version))
 exact zcy
 exact zco
theorem eq_RowS {p1 p3 : Fl} {x : List Row} {y : List Row}  : SCall Tryz.prog 202 [(false, [sl .v (x.map (cRow p1))]), (false, [sl .v (y.map (cRow p3))])] (resRV [(false, [val (.bool (deq x y))])]) := by
 refine sF Tryz.func202 fun h0 w0 Fz0 => ?_
 refine sj 0 fun hl0 => ?_
 refine sj 1 fun hl1 => ?_
 refine zcw ?_
 refine rA ?_ (x := lN sl_93)
 refine zd8 ?_
 refine rA ?_ (x := B_neq)
 refine sc (fun hba => ?_) (fun hba => ?_)
 exact zcg
 have hl : x.length = y.length := by omega
 refine zch ?_
 rintro k ⟨hk, ha⟩
 refine zae ?_
 refine zd9 ?_
 refine sc (fun hbb => ?_) (fun hbb => ?_)
 have hlt : k < x.length := by omega
 have hlt2 : k < y.length := by omega
 refine zci ?_
 refine dA 3 ?_ (x := loc_index (by decide) sl_93 (by exact ⟨⟩) (by exact rfl) (by exact getm2 (by omega) rfl) (by exact rfl))
 refine dA 7 ?_ (x := lE [val _, sl .v _] ty_66)
 refine zck ?_
 refine dA 48 ?_ (x := loc_index (by decide) sl_93 (by exact ⟨⟩) (by exact rfl) (by exact getm2 (by omega) rfl) (by exact rfl))
 refine dA 112 ?_ (x := lE [val _, sl .v _] ty_66)
 refine dA 255 ?_ (x := cL [(true, [val _, sl _ _]), (true, [val _, sl _ _])] [(true, [val _, sl .v _]), (true, [val _, sl .v _])] c_166 (hs := by exact eq_Row))
 exact zcy
 exact zco
theorem eq_VersionSS {p1 p2 p4 p5 : Fl} {x : List (List Version)} {y : List (List Version)}  : SCall Tryz.prog 127 [(false, [sl .v (x.map (cVersionS p1 p2))]), (false, [sl .v (y.map (cVersionS p4 p5))])] (resRV [(false, [val (.bool (deq x y))])]) := by
 refine sF Tryz.func127 fun h0 w0 Fz0 => ?_
 refine sj 0 fun hl0 => ?_
 refine sj 1 fun hl1 => ?_
 refine zcw ?_
 refine rA ?_ (x := lN sl_33)
 refine rA ?_ (x := vM false [sl .v _])
 refine rA ?_ (x := lN sl_33)
 refine rA ?_ (x := B_neq)
 refine sc (fun hba => ?_) (fun hba => ?_)
 exact zcg
 have hl : x.length = y.length := by omega
 refine zch ?_
 rintro k ⟨hk, ha⟩
 refine zae ?_
 refine zda ?_
 refine sc (fun hbb => ?_) (fun hbb => ?_)
 have hlt : k < x.length := by omega
 have hlt2 : k < y.length := by omega
 refine zci ?_
 refine dA 3 ?_ (x := loc_index (by decide) sl_33 (by exact ⟨⟩) (by exact rfl) (by exact getm2 (by omega) rfl) (by exact rfl))
 refine dA 7 ?_ (x := lE [sl .v _] ty_149)
 refine zck ?_
 refine dA 48 ?_ (x := loc_index (by decide) sl_33 (by exact ⟨⟩) (by exact rfl) (by exact getm2 (by omega) rfl) (by exact rfl))
 refine dA 112 ?_ (x := lE [sl .v _] ty_149)
 refine dA 255 ?_ (x := cL [(false, [sl _ _]), (false, [sl _ _])] [(false, [sl .v _]), (false, [sl .v _])] c_201 (hs := by exact eq_VersionS))
 exact zcy
 exact zco
theorem eq_Active {p4 p9 : Fl} {x : Active} {y : Active}  : SCall Tryz.prog 128 [(true, [val (vI x.Query.Id), val (vI x.Query.Tenant), sl .v (x.Query.Conds.map cCond), sl .v (x.Query.Out.map cInt), val (vI x.Time), sl .v (x.Todo.map cInt), val (vI x.Age), val (vI x.Sent), val (vI x.Cap), sl .v (x.Rows.map (cRow p4))]), (true, [val (vI y.Query.Id), val (vI y.Query.Tenant), sl .v (y.Query.Conds.map cCond), sl .v (y.Query.Out.map cInt), val (vI y.Time), sl .v (y.Todo.map cInt), val (vI y.Age), val (vI y.Sent), val (vI y.Cap), sl .v (y.Rows.map (cRow p9))])] (resRV [(false, [val (.bool (deq x y))])]) := by
 refine sF Tryz.func128 fun h0 w0 Fz0 => ?_
 refine sn 0 2 fun hl0_2 => ?_
 refine sn 0 3 fun hl0_3 => ?_
 refine sn 0 5 fun hl0_5 => ?_
 refine sn 0 9 fun hl0_9 => ?_
 refine sn 1 2 fun hl1_2 => ?_
 refine sn 1 3 fun hl1_3 => ?_
 refine sn 1 5 fun hl1_5 => ?_
 refine sn 1 9 fun hl1_9 => ?_
 refine zaq ?_
 refine zdb ?_
 refine zdc ?_
 refine zdc ?_
 refine zdd ?_
 refine sc (fun hba => ?_) (fun hba => ?_)
 exact zcs
 refine zct ?_
 refine zde ?_
 refine rA ?_ (x := lF fd_142_1)
 refine zcr ?_
 refine sc (fun hbb => ?_) (fun hbb => ?_)
 exact zcs
 refine zct ?_
 refine zdf ?_
 refine rA ?_ (x := lF fd_142_2)
 refine zcv ?_
 refine sc (fun hbc => ?_) (fun hbc => ?_)
 exact zcs
 refine zct ?_
 refine zdg ?_
 refine rA ?_ (x := lF fd_142_3)
 refine zcr ?_
 refine sc (fun hbd => ?_) (fun hbd => ?_)
 exact zcs
 refine zct ?_
 refine rA ?_ (x := lF fd_142_4)
 refine rA ?_ (x := lD [val _] ty_3)
 refine rA ?_ (x := lF fd_142_4)
 refine zcr ?_
 refine sc (fun hbe => ?_) (fun hbe => ?_)
 exact zcs
 refine zct ?_
 refine zdh ?_
 refine rA ?_ (x := lF fd_142_5)
 refine zcr ?_
 refine sc (fun hbf => ?_) (fun hbf => ?_)
 exact zcs
 refine zct ?_
 refine rA ?_ (x := lF fd_142_6)
 refine rA ?_ (x := lD [sl .v _] ty_93)
 refine rA ?_ (x := lF fd_142_6)
 refine zdi ?_
 refine rA ?_ (x := nT)
 refine sc (fun hbg => ?_) (fun hbg => ?_)
 exact zcs
 refine zcu ?_
 exact rb (by exact (deq_true (by apply ext_Active <;> simp_all [deq_iff])).symm)
theorem eq_Finished {p3 p7 : Fl} {x : Finished} {y : Finished}  : SCall Tryz.prog 129 [(true, [val (vI x.Query.Id), val (vI x.Query.Tenant), sl .v (x.Query.Conds.map cCond), sl .v (x.Query.Out.map cInt), val (vI x.Time), val (vI x.Steps), sl .v (x.Rows.map (cRow p3))]), (true, [val (vI y.Query.Id), val (vI y.Query.Tenant), sl .v (y.Query.Conds.map cCond), sl .v (y.Query.Out.map cInt), val (vI y.Time), val (vI y.Steps), sl .v (y.Rows.map (cRow p7))])] (resRV [(false, [val (.bool (deq x y))])]) := by
 refine sF Tryz.func129 fun h0 w0 Fz0 => ?_
 refine sn 0 2 fun hl0_2 => ?_
 refine sn 0 3 fun hl0_3 => ?_
 refine sn 0 6 fun hl0_6 => ?_
 refine sn 1 2 fun hl1_2 => ?_
 refine sn 1 3 fun hl1_3 => ?_
 refine sn 1 6 fun hl1_6 => ?_
 refine zau ?_
 refine rX ?_ (x := (loc_box (ag := true) (cs := [val _, val _, sl _ _, sl _ _, val _, val _, sl _ _]) (by decide) (by exact ⟨⟩)))
 refine zcp ?_
 refine zdj ?_
 refine zdj ?_
 refine zdd ?_
 refine sc (fun hba => ?_) (fun hba => ?_)
 exact zcs
 refine zct ?_
 refine rA ?_ (x := lF fd_144_1)
 refine rA ?_ (x := lD [val _] ty_3)
 refine rA ?_ (x := lF fd_144_1)
 refine zcr ?_
 refine sc (fun hbb => ?_) (fun hbb => ?_)
 exact zcs
 refine zct ?_
 refine rA ?_ (x := lF fd_144_2)
 refine rA ?_ (x := lD [val _] ty_3)
 refine rA ?_ (x := lF fd_144_2)
 refine zcr ?_
 refine sc (fun hbc => ?_) (fun hbc => ?_)
 exact zcs
 refine zct ?_
 refine rA ?_ (x := lF fd_144_3)
 refine rA ?_ (x := lD [sl .v _] ty_93)
 refine rA ?_ (x := lF fd_144_3)
 refine zdi ?_
 refine rA ?_ (x := nT)
 refine sc (fun hbd => ?_) (fun hbd => ?_)
 exact zcs
 refine zcu ?_
 exact rb (by exact (deq_true (by apply ext_Finished <;> simp_all [deq_iff])).symm)
theorem eq_Store {p1 p2 p4 p5 : Fl} {x : Store} {y : Store}  : SCall Tryz.prog 53 [(true, [sl .v (x.Segments.map (cVersionS p1 p2)), val (vI x.Now)]), (true, [sl .v (y.Segments.map (cVersionS p4 p5)), val (vI y.Now)])] (resRV [(false, [val (.bool (deq x y))])]) := by
 refine sF Tryz.func53 fun h0 w0 Fz0 => ?_
 refine sn 0 0 fun hl0_0 => ?_
 refine sn 1 0 fun hl1_0 => ?_
 refine zav ?_
 refine rX ?_ (x := (loc_box (ag := true) (cs := [sl _ _, val _]) (by decide) (by exact ⟨⟩)))
 refine zcp ?_
 refine zdk ?_
 refine zdk ?_
 refine rA ?_ (x := cL [(false, [sl _ _]), (false, [sl _ _])] [(false, [sl .v _]), (false, [sl .v _])] c_127 (hs := by exact eq_VersionSS))
 refine rA ?_ (x := nT)
 refine sc (fun hba => ?_) (fun hba => ?_)
 exact zcs
 refine zct ?_
 refine rA ?_ (x := lF fd_35_1)
 refine rA ?_ (x := lD [val _] ty_3)
 refine rA ?_ (x := lF fd_35_1)
 refine zcr ?_
 refine sc (fun hbb => ?_) (fun hbb => ?_)
 exact zcs
 refine zcu ?_
 exact rb (by exact (deq_true (by apply ext_Store <;> simp_all [deq_iff])).symm)
theorem eq_ActiveS {p1 p2 p3 p4 p5 p7 p8 p9 p10 p11 : Fl} {x : List Active} {y : List Active}  : SCall Tryz.prog 54 [(false, [sl .v (x.map (cActive p1 p2 p3 p4 p5))]), (false, [sl .v (y.map (cActive p7 p8 p9 p10 p11))])] (resRV [(false, [val (.bool (deq x y))])]) := by
 refine sF Tryz.func54 fun h0 w0 Fz0 => ?_
 refine sj 0 fun hl0 => ?_
 refine sj 1 fun hl1 => ?_
 refine zcw ?_
 refine rA ?_ (x := lN sl_36)
 refine rA ?_ (x := vM false [sl .v _])
 refine rA ?_ (x := lN sl_36)
 refine rA ?_ (x := B_neq)
 refine sc (fun hba => ?_) (fun hba => ?_)
 exact zcg
 have hl : x.length = y.length := by omega
 refine zch ?_
 rintro k ⟨hk, ha⟩
 refine zae ?_
 refine rA ?_ (x := lN sl_36)
 refine rA ?_ (x := B_lss)
 refine sc (fun hbb => ?_) (fun hbb => ?_)
 have hlt : k < x.length := by omega
 have hlt2 : k < y.length := by omega
 refine zci ?_
 refine dA 3 ?_ (x := loc_index (by decide) sl_36 (by exact ⟨⟩) (by exact rfl) (by exact getm2 (by omega) rfl) (by exact rfl))
 refine dA 7 ?_ (x := lE [val _, val _, sl .v _, sl .v _, val _, sl .v _, val _, val _, val _, sl .v _] ty_142)
 refine zck ?_
 refine dA 48 ?_ (x := loc_index (by decide) sl_36 (by exact ⟨⟩) (by exact rfl) (by exact getm2 (by omega) rfl) (by exact rfl))
 refine dA 112 ?_ (x := lE [val _, val _, sl .v _, sl .v _, val _, sl .v _, val _, val _, val _, sl .v _] ty_142)
 refine dA 255 ?_ (x := cL [(true, [val _, val _, sl _ _, sl _ _, val _, sl _ _, val _, val _, val _, sl _ _]), (true, [val _, val _, sl _ _, sl _ _, val _, sl _ _, val _, val _, val _, sl _ _])] [(true, [val _, val _, sl .v _, sl .v _, val _, sl .v _, val _, val _, val _, sl .v _]), (true, [val _, val _, sl .v _, sl .v _, val _, sl .v _, val _, val _, val _, sl .v _])] c_128 (hs := by exact eq_Active))
 exact zcy
 exact zco
theorem eq_FinishedS {p1 p2 p3 p4 p6 p7 p8 p9 : Fl} {x : List Finished} {y : List Finished}  : SCall Tryz.prog 55 [(false, [sl .v (x.map (cFinished p1 p2 p3 p4))]), (false, [sl .v (y.map (cFinished p6 p7 p8 p9))])] (resRV [(false, [val (.bool (deq x y))])]) := by
 refine sF Tryz.func55 fun h0 w0 Fz0 => ?_
 refine sj 0 fun hl0 => ?_
 refine sj 1 fun hl1 => ?_
 refine zcw ?_
 refine rA ?_ (x := lN sl_37)
 refine rA ?_ (x := vM false [sl .v _])
 refine rA ?_ (x := lN sl_37)
 refine rA ?_ (x := B_neq)
 refine sc (fun hba => ?_) (fun hba => ?_)
 exact zcg
 have hl : x.length = y.length := by omega
 refine zch ?_
 rintro k ⟨hk, ha⟩
 refine zae ?_
 refine zdl ?_
 refine sc (fun hbb => ?_) (fun hbb => ?_)
 have hlt : k < x.length := by omega
 have hlt2 : k < y.length := by omega
 refine zci ?_
 refine dA 3 ?_ (x := loc_index (by decide) sl_37 (by exact ⟨⟩) (by exact rfl) (by exact getm2 (by omega) rfl) (by exact rfl))
 refine dA 7 ?_ (x := lE [val _, val _, sl .v _, sl .v _, val _, val _, sl .v _] ty_144)
 refine zck ?_
 refine dA 48 ?_ (x := loc_index (by decide) sl_37 (by exact ⟨⟩) (by exact rfl) (by exact getm2 (by omega) rfl) (by exact rfl))
 refine dA 112 ?_ (x := lE [val _, val _, sl .v _, sl .v _, val _, val _, sl .v _] ty_144)
 refine dA 255 ?_ (x := cL [(true, [val _, val _, sl _ _, sl _ _, val _, val _, sl _ _]), (true, [val _, val _, sl _ _, sl _ _, val _, val _, sl _ _])] [(true, [val _, val _, sl .v _, sl .v _, val _, val _, sl .v _]), (true, [val _, val _, sl .v _, sl .v _, val _, val _, sl .v _])] c_129 (hs := by exact eq_Finished))
 exact zcy
 exact zco
theorem eq_Engine {p1 p2 p5 p6 p7 p8 p9 p11 p12 p13 p14 p16 p17 p18 p20 p21 p24 p25 p26 p27 p28 p30 p31 p32 p33 p35 p36 p37 : Fl} {x : Engine} {y : Engine}  : SCall Tryz.prog 13 [(true, [sl .v (x.Store.Segments.map (cVersionS p1 p2)), val (vI x.Store.Now), val (vI x.Cursor), sl .v (x.Order.map cInt), sl .v (x.Active.map (cActive p5 p6 p7 p8 p9)), sl .v (x.Done.map (cFinished p11 p12 p13 p14)), sl .v (x.Ledger.map (cCharge p16 p17 p18)), val (vI x.Steps)]), (true, [sl .v (y.Store.Segments.map (cVersionS p20 p21)), val (vI y.Store.Now), val (vI y.Cursor), sl .v (y.Order.map cInt), sl .v (y.Active.map (cActive p24 p25 p26 p27 p28)), sl .v (y.Done.map (cFinished p30 p31 p32 p33)), sl .v (y.Ledger.map (cCharge p35 p36 p37)), val (vI y.Steps)])] (resRV [(false, [val (.bool (deq x y))])]) := by
 refine sF Tryz.func13 fun h0 w0 Fz0 => ?_
 refine sn 0 0 fun hl0_0 => ?_
 refine sn 0 3 fun hl0_3 => ?_
 refine sn 0 4 fun hl0_4 => ?_
 refine sn 0 5 fun hl0_5 => ?_
 refine sn 0 6 fun hl0_6 => ?_
 refine sn 1 0 fun hl1_0 => ?_
 refine sn 1 3 fun hl1_3 => ?_
 refine sn 1 4 fun hl1_4 => ?_
 refine sn 1 5 fun hl1_5 => ?_
 refine sn 1 6 fun hl1_6 => ?_
 refine zay ?_
 refine rX ?_ (x := (loc_box (ag := true) (cs := [sl _ _, val _, val _, sl _ _, sl _ _, sl _ _, sl _ _, val _]) (by decide) (by exact ⟨⟩)))
 refine zcp ?_
 refine zdm ?_
 refine zdm ?_
 refine rA ?_ (x := cL [(true, [sl _ _, val _]), (true, [sl _ _, val _])] [(true, [sl .v _, val _]), (true, [sl .v _, val _])] c_53 (hs := by exact eq_Store))
 refine rA ?_ (x := nT)
 refine sc (fun hba => ?_) (fun hba => ?_)
 exact zcs
 refine zct ?_
 refine zdn ?_
 refine rA ?_ (x := lF fd_40_1)
 refine zcr ?_
 refine sc (fun hbb => ?_) (fun hbb => ?_)
 exact zcs
 refine zct ?_
 refine rA ?_ (x := lF fd_40_2)
 refine rA ?_ (x := lD [sl .v _] ty_25)
 refine rA ?_ (x := lF fd_40_2)
 refine zcv ?_
 refine sc (fun hbc => ?_) (fun hbc => ?_)
 exact zcs
 refine zct ?_
 refine zdo ?_
 refine zdo ?_
 refine rA ?_ (x := cL [(false, [sl _ _]), (false, [sl _ _])] [(false, [sl .v _]), (false, [sl .v _])] c_54 (hs := by exact eq_ActiveS))
 refine rA ?_ (x := nT)
 refine sc (fun hbd => ?_) (fun hbd => ?_)
 exact zcs
 refine zct ?_
 refine zdp ?_
 refine zdp ?_
 refine rA ?_ (x := cL [(false, [sl _ _]), (false, [sl _ _])] [(false, [sl .v _]), (false, [sl .v _])] c_55 (hs := by exact eq_FinishedS))
 refine rA ?_ (x := nT)
 refine sc (fun hbe => ?_) (fun hbe => ?_)
 exact zcs
 refine zct ?_
 refine zdq ?_
 refine zdq ?_
 refine rA ?_ (x := cL [(false, [sl _ _]), (false, [sl _ _])] [(false, [sl .v _]), (false, [sl .v _])] c_56 (hs := by exact eq_ChargeS))
 refine rA ?_ (x := nT)
 refine sc (fun hbf => ?_) (fun hbf => ?_)
 exact zcs
 refine zct ?_
 refine zdr ?_
 refine rA ?_ (x := lF fd_40_6)
 refine zcr ?_
 refine sc (fun hbg => ?_) (fun hbg => ?_)
 exact zcs
 refine zcu ?_
 exact rb (by exact (deq_true (by apply ext_Engine <;> simp_all [deq_iff])).symm)
end Go.Proofs.YteflgldonmgejaaGreat
