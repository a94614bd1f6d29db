/- What functions of the program compute. No condition. -/
import Derived.Test.YtmekkgdboplbjaaCZMFnIsolation
import Derived.Test.YtmekkgdboplbjaaCFcFnIsolation
import Derived.Test.YtmekkgdboplbjaaCEqQFnIsolation
import Derived.KernelRfl
set_option linter.unusedVariables false
set_option linter.unusedSimpArgs false
namespace Go.Proofs.Ytmekkgdboplbjaa
open Go Go.RowKit M PV
set_option maxRecDepth 10000
attribute [local irreducible] PV.Lcl PV.LclR RV.Lcl
theorem impl_IsEvent {x : Event}  : SCall Try.prog 28 [(true, [val (vI x.Kind), val (vI x.Query.Id), val (vI x.Query.Tenant), sl .v (x.Query.Conds.map cCond), sl .v (x.Query.Out.map cInt), val (vI x.Limit), val (vI x.Id), val (vI x.Update.Kind), val (vI x.Update.Row.Id), sl .v (x.Update.Row.Values.map cInt), val (vI x.Update.Field), val (vI x.Update.Value), val (vI x.Steps)])] (resRV [(false, [val (.bool (okEvent x))])]) := by
 refine sF Try.func28 fun h0 w0 Fz0 => ?_
 refine sn 0 3 fun hl0_3 => ?_
 refine sn 0 4 fun hl0_4 => ?_
 refine sn 0 9 fun hl0_9 => ?_
 refine sR ?_
 refine rX ?_ (x := (loc_box (ag := true) (cs := [val _, val _, val _, sl _ _, sl _ _, val _, val _, val _, val _, sl _ _, val _, val _, val _]) (by decide) (by exact ⟨⟩)))
 refine zb8 ?_
 refine zj5 ?_
 refine rA ?_ (x := loc_build (qs := []) (cs := [val _, val _, sl _ _, sl _ _]) (by decide) z_38 zo_38 pl_38 (by exact rfl) (by exact ⟨⟩) rfl (by exact rfl))
 refine rA ?_ (x := cL [(true, [val _, val _, sl _ _, sl _ _]), (true, [val _, val _, sl _ _, sl _ _])] [(true, [val _, val _, sl .v _, sl .v _]), (true, [val _, val _, sl .v _, sl .v _])] c_60 (hs := by exact (impl_equalQuery (x := x.Query) (y := ⟨0, 0, [], []⟩))))
 refine rM ?_
 refine cx 9 (fun ga sga => ?_) (fun ga sga => ?_)
 refine rB ga ?_ (x := lF fd_49_2)
 refine zcq ?_
 refine rA ?_ (x := pkT ga)
 refine rS ?_
 refine sS [1, 2, 3] [1] ?_
 refine zj6 ?_
 refine zj7 ?_
 refine zca ?_
 refine sS [1, 2, 3, 4] [1] ?_
 refine zj8 ?_
 refine sw_block ?_
 refine zj9 ?_
 refine sc (fun hba => ?_) (fun hba => ?_)
 refine sS [1, 2, 3, 4, 19] [1] ?_
 refine rA ?_ (x := lF fd_49_1)
 refine zc3 ?_
 refine rM ?_
 refine cx 25 (fun gb sgb => ?_) (fun gb sgb => ?_)
 refine rB gb ?_ (x := lF fd_49_2)
 refine zdw ?_
 refine zba ?_
 refine cx 30 (fun gc sgc => ?_) (fun gc sgc => ?_)
 refine zja ?_
 refine rM ?_
 refine cx 35 (fun gd sgd => ?_) (fun gd sgd => ?_)
 exact zjb
 refine RunS.s0f gd ?_
 refine rA ?_ (x := pkF gd)
 refine rM ?_
 refine RunS.cases (s := 38) rfl (fun g7 => nomatch g7) (fun g7 => ?_)
 refine zf g7 ?_
 refine rA ?_ (x := pkF g7)
 exact zjc
 refine zbc ?_
 refine rM ?_
 refine RunS.cases (s := 35) rfl (fun g8 => nomatch g8) (fun g8 => ?_)
 refine RunS.s0f g8 ?_
 refine rA ?_ (x := pkF g8)
 refine rM ?_
 refine RunS.cases (s := 38) rfl (fun g9 => nomatch g9) (fun g9 => ?_)
 refine zf g9 ?_
 refine rA ?_ (x := pkF g9)
 exact zjc
 refine zbd ?_
 refine RunS.cases (s := 30) rfl (fun g10 => nomatch g10) (fun g10 => ?_)
 refine zf g10 ?_
 refine rA ?_ (x := pkF g10)
 refine rM ?_
 refine RunS.cases (s := 35) rfl (fun g11 => nomatch g11) (fun g11 => ?_)
 refine RunS.s0f g11 ?_
 refine rA ?_ (x := pkF g11)
 refine rM ?_
 refine RunS.cases (s := 38) rfl (fun g12 => nomatch g12) (fun g12 => ?_)
 refine zf g12 ?_
 refine rA ?_ (x := pkF g12)
 exact zjc
 refine zj9 ?_
 refine sc (fun hbb => ?_) (fun hbb => ?_)
 refine sS [1, 2, 3, 4, 19] [1] ?_
 refine rA ?_ (x := lF fd_49_3)
 refine zak ?_
 refine cx 48 (fun gb sgb => ?_) (fun gb sgb => ?_)
 refine zjd ?_
 refine cx 51 (fun gc sgc => ?_) (fun gc sgc => ?_)
 refine rB gc ?_ (x := sM)
 refine rA ?_ (x := pkT gc)
 refine rM ?_
 refine cx 54 (fun gd sgd => ?_) (fun gd sgd => ?_)
 exact zje
 refine zef ?_
 exact zjc
 refine RunS.s0f gc ?_
 refine rA ?_ (x := pkF gc)
 refine rM ?_
 refine RunS.cases (s := 54) rfl (fun g17 => nomatch g17) (fun g17 => ?_)
 refine zcn ?_
 exact zjc
 refine zjf ?_
 refine RunS.cases (s := 51) rfl (fun g18 => nomatch g18) (fun g18 => ?_)
 refine RunS.s0f g18 ?_
 refine rA ?_ (x := pkF g18)
 refine rM ?_
 refine RunS.cases (s := 54) rfl (fun g19 => nomatch g19) (fun g19 => ?_)
 refine zf g19 ?_
 refine rA ?_ (x := pkF g19)
 exact zjc
 refine zj9 ?_
 refine sc (fun hbc => ?_) (fun hbc => ?_)
 refine sS [1, 2, 3, 4, 19] [1] ?_
 refine zjg ?_
 refine rM ?_
 refine cx 64 (fun gb sgb => ?_) (fun gb sgb => ?_)
 refine zjd ?_
 refine cx 67 (fun gc sgc => ?_) (fun gc sgc => ?_)
 refine zja ?_
 refine rM ?_
 refine cx 72 (fun gd sgd => ?_) (fun gd sgd => ?_)
 exact zje
 refine zef ?_
 exact zjc
 refine zbc ?_
 refine rM ?_
 refine RunS.cases (s := 72) rfl (fun g24 => nomatch g24) (fun g24 => ?_)
 refine zf g24 ?_
 refine rA ?_ (x := pkF g24)
 exact zjc
 refine zjf ?_
 refine RunS.cases (s := 67) rfl (fun g25 => nomatch g25) (fun g25 => ?_)
 refine zf g25 ?_
 refine rA ?_ (x := pkF g25)
 refine rM ?_
 refine RunS.cases (s := 72) rfl (fun g26 => nomatch g26) (fun g26 => ?_)
 refine zf g26 ?_
 refine rA ?_ (x := pkF g26)
 exact zjc
 refine zj9 ?_
 refine sc (fun hbd => ?_) (fun hbd => ?_)
 refine sS [1, 2, 3, 4, 19] [1] ?_
 refine rA ?_ (x := lF fd_49_5)
 refine zak ?_
 refine cx 82 (fun gb sgb => ?_) (fun gb sgb => ?_)
 refine zjd ?_
 refine cx 85 (fun gc sgc => ?_) (fun gc sgc => ?_)
 refine zja ?_
 refine rM ?_
 refine cx 90 (fun gd sgd => ?_) (fun gd sgd => ?_)
 refine rB gd ?_ (x := sM)
 refine rA ?_ (x := pkT gd)
 exact zjc
 refine RunS.s0f gd ?_
 refine rA ?_ (x := pkF gd)
 exact zjc
 refine zbc ?_
 refine rM ?_
 refine RunS.cases (s := 90) rfl (fun g31 => nomatch g31) (fun g31 => ?_)
 refine RunS.s0f g31 ?_
 refine rA ?_ (x := pkF g31)
 exact zjc
 refine zjf ?_
 refine RunS.cases (s := 85) rfl (fun g32 => nomatch g32) (fun g32 => ?_)
 refine zf g32 ?_
 refine rA ?_ (x := pkF g32)
 refine rM ?_
 refine RunS.cases (s := 90) rfl (fun g33 => nomatch g33) (fun g33 => ?_)
 refine RunS.s0f g33 ?_
 refine rA ?_ (x := pkF g33)
 exact zjc
 exact zjh
 refine zam ?_
 refine rS ?_
 refine sS [1, 2, 3] [1] ?_
 refine zj6 ?_
 refine zj7 ?_
 refine zca ?_
 refine sS [1, 2, 3, 4] [1] ?_
 refine zj8 ?_
 refine sw_block ?_
 refine zj9 ?_
 refine sc (fun hba => ?_) (fun hba => ?_)
 refine sS [1, 2, 3, 4, 19] [1] ?_
 refine rA ?_ (x := lF fd_49_1)
 refine zc3 ?_
 refine rM ?_
 refine cx 25 (fun gb sgb => ?_) (fun gb sgb => ?_)
 refine rB gb ?_ (x := lF fd_49_2)
 refine zdw ?_
 refine zba ?_
 refine cx 30 (fun gc sgc => ?_) (fun gc sgc => ?_)
 refine zja ?_
 refine rM ?_
 refine cx 35 (fun gd sgd => ?_) (fun gd sgd => ?_)
 exact zjb
 refine RunS.s0f gd ?_
 refine rA ?_ (x := pkF gd)
 refine rM ?_
 refine RunS.cases (s := 38) rfl (fun g39 => nomatch g39) (fun g39 => ?_)
 refine zf g39 ?_
 refine rA ?_ (x := pkF g39)
 exact zjc
 refine zbc ?_
 refine rM ?_
 refine RunS.cases (s := 35) rfl (fun g40 => nomatch g40) (fun g40 => ?_)
 refine RunS.s0f g40 ?_
 refine rA ?_ (x := pkF g40)
 refine rM ?_
 refine RunS.cases (s := 38) rfl (fun g41 => nomatch g41) (fun g41 => ?_)
 refine zf g41 ?_
 refine rA ?_ (x := pkF g41)
 exact zjc
 refine zbd ?_
 refine RunS.cases (s := 30) rfl (fun g42 => nomatch g42) (fun g42 => ?_)
 refine zf g42 ?_
 refine rA ?_ (x := pkF g42)
 refine rM ?_
 refine RunS.cases (s := 35) rfl (fun g43 => nomatch g43) (fun g43 => ?_)
 refine RunS.s0f g43 ?_
 refine rA ?_ (x := pkF g43)
 refine rM ?_
 refine RunS.cases (s := 38) rfl (fun g44 => nomatch g44) (fun g44 => ?_)
 refine zf g44 ?_
 refine rA ?_ (x := pkF g44)
 exact zjc
 refine zj9 ?_
 refine sc (fun hbb => ?_) (fun hbb => ?_)
 refine sS [1, 2, 3, 4, 19] [1] ?_
 refine rA ?_ (x := lF fd_49_3)
 refine zak ?_
 refine cx 48 (fun gb sgb => ?_) (fun gb sgb => ?_)
 refine zjd ?_
 refine RunS.cases (s := 51) rfl (fun g47 => nomatch g47) (fun g47 => ?_)
 refine RunS.s0f g47 ?_
 refine rA ?_ (x := pkF g47)
 refine rM ?_
 refine RunS.cases (s := 54) rfl (fun g48 => nomatch g48) (fun g48 => ?_)
 refine zf g48 ?_
 refine rA ?_ (x := pkF g48)
 exact zjc
 refine zjf ?_
 refine RunS.cases (s := 51) rfl (fun g49 => nomatch g49) (fun g49 => ?_)
 refine RunS.s0f g49 ?_
 refine rA ?_ (x := pkF g49)
 refine rM ?_
 refine RunS.cases (s := 54) rfl (fun g50 => nomatch g50) (fun g50 => ?_)
 refine zf g50 ?_
 refine rA ?_ (x := pkF g50)
 exact zjc
 refine zj9 ?_
 refine sc (fun hbc => ?_) (fun hbc => ?_)
 refine sS [1, 2, 3, 4, 19] [1] ?_
 refine zjg ?_
 refine rM ?_
 refine cx 64 (fun gb sgb => ?_) (fun gb sgb => ?_)
 refine zjd ?_
 refine RunS.cases (s := 67) rfl (fun g53 => nomatch g53) (fun g53 => ?_)
 refine zf g53 ?_
 refine rA ?_ (x := pkF g53)
 refine rM ?_
 refine RunS.cases (s := 72) rfl (fun g54 => nomatch g54) (fun g54 => ?_)
 refine zf g54 ?_
 refine rA ?_ (x := pkF g54)
 exact zjc
 refine zjf ?_
 refine RunS.cases (s := 67) rfl (fun g55 => nomatch g55) (fun g55 => ?_)
 refine zf g55 ?_
 refine rA ?_ (x := pkF g55)
 refine rM ?_
 refine RunS.cases (s := 72) rfl (fun g56 => nomatch g56) (fun g56 => ?_)
 refine zf g56 ?_
 refine rA ?_ (x := pkF g56)
 exact zjc
 refine zj9 ?_
 refine sc (fun hbd => ?_) (fun hbd => ?_)
 refine sS [1, 2, 3, 4, 19] [1] ?_
 refine rA ?_ (x := lF fd_49_5)
 refine zak ?_
 refine cx 82 (fun gb sgb => ?_) (fun gb sgb => ?_)
 refine zjd ?_
 refine RunS.cases (s := 85) rfl (fun g59 => nomatch g59) (fun g59 => ?_)
 refine zf g59 ?_
 refine rA ?_ (x := pkF g59)
 refine rM ?_
 refine RunS.cases (s := 90) rfl (fun g60 => nomatch g60) (fun g60 => ?_)
 refine RunS.s0f g60 ?_
 refine rA ?_ (x := pkF g60)
 exact zjc
 refine zjf ?_
 refine RunS.cases (s := 85) rfl (fun g61 => nomatch g61) (fun g61 => ?_)
 refine zf g61 ?_
 refine rA ?_ (x := pkF g61)
 refine rM ?_
 refine RunS.cases (s := 90) rfl (fun g62 => nomatch g62) (fun g62 => ?_)
 refine RunS.s0f g62 ?_
 refine rA ?_ (x := pkF g62)
 exact zjc
 exact zjh
end Go.Proofs.Ytmekkgdboplbjaa
