/- What functions of the program compute. No condition. -/
import Derived.Test.YteflgldonmgejaaGreatCZMRunAdaptive
import Derived.Test.YteflgldonmgejaaGreatCFcRunAdaptive
import Derived.Test.YteflgldonmgejaaGreatCStbRunAdaptive
import Derived.Test.YteflgldonmgejaaGreatCStdRunAdaptive
import Derived.Test.YteflgldonmgejaaGreatCAdpRunAdaptive
import Derived.Test.YteflgldonmgejaaGreatCDra
import Derived.KernelRfl
set_option linter.unusedVariables false
set_option linter.unusedSimpArgs false
namespace Go.Proofs.YteflgldonmgejaaGreat
open Go Go.RowKit M PV
set_option maxRecDepth 10000
attribute [local irreducible] PV.Lcl PV.LclR RV.Lcl
theorem impl_RunAdaptive {p1 p2 p5 p6 p7 p8 p9 p11 p12 p13 p14 p16 p17 p18 : Fl} {e : Engine} {n : Int}  (hb : wtEngine e ≤ 68718000000) : SCall Tryz.prog 24 [(true, [sl .v (e.Store.Segments.map (cVersionS p1 p2)), val (vI e.Store.Now), val (vI e.Cursor), sl .v (e.Order.map cInt), sl .v (e.Active.map (cActive p5 p6 p7 p8 p9)), sl .v (e.Done.map (cFinished p11 p12 p13 p14)), sl .v (e.Ledger.map (cCharge p16 p17 p18)), val (vI e.Steps)]), (false, [val (vI n)])] (resRV [(true, [sl (.own 149 1) ((runAdaptive e n).Store.Segments.map (cVersionS (.own 151 4) (.own 3 1))), val (vI (runAdaptive e n).Store.Now), val (vI (runAdaptive e n).Cursor), sl (.own 3 1) ((runAdaptive e n).Order.map cInt), sl (.own 142 10) ((runAdaptive e n).Active.map (cActive (.own 193 3) (.own 3 1) (.own 3 1) (.own 66 2) (.own 3 1))), sl (.own 144 7) ((runAdaptive e n).Done.map (cFinished (.own 193 3) (.own 3 1) (.own 66 2) (.own 3 1))), sl (.own 148 5) ((runAdaptive e n).Ledger.map (cCharge (.own 3 1) (.own 3 1) (.own 3 1))), val (vI (runAdaptive e n).Steps)])]) := by
 refine sF Tryz.func24 fun h0 w0 Fz0 => ?_
 refine sn 0 0 fun hl0_0 => ?_
 refine sn 0 3 fun hl0_3 => ?_
 refine sn 0 4 fun hl0_4 => ?_
 refine sn 0 5 fun hl0_5 => ?_
 refine sn 0 6 fun hl0_6 => ?_
 have hbu := hb
 simp only [wtEngine, wtActiveS, wtFinishedS, wtChargeS] at hbu
 refine zc6 ?_
 refine sT [1, 2, 4] [2, 4] ?_
 refine zr3 ?_
 refine zpf ?_
 refine zie ?_
 refine zrb ?_
 refine zhx ?_
 refine zrc ?_
 rintro k hk
 have hrw := runA_wt e k
 have hrl := rounds_le n
 refine zg2 ?_
 refine zi8 ?_
 refine rM ?_
 refine cx 12 (fun ga sga => ?_) (fun ga sga => ?_)
 refine rB ga ?_ (x := sM)
 refine rB ga ?_ (x := B_lss)
 refine rA ?_ (x := pkT ga)
 refine sc (fun hba => ?_) (fun hba => ?_)
 have hlt : k < rounds n := by unfold rounds; first | omega | (simp_all; omega)
 refine zed ?_
 refine sH [1, 2, 4, 5, 6] [2, 4, 5] ?_
 refine rA ?_ (x := lD [sl .v _, val _, val _, sl .v _, sl .v _, sl .v _, sl .v _, val _] ty_40)
 refine rA ?_ (x := cL [(true, [sl _ _, val _, val _, sl _ _, sl _ _, sl _ _, sl _ _, val _])] [(true, [sl .v _, val _, val _, sl .v _, sl .v _, sl .v _, sl .v _, val _])] c_21 (hs := by exact (impl_AdaptEngine (e := runA e k) (by omega))))
 refine rA ?_ (x := cL [(true, [sl _ _, val _, val _, sl _ _, sl _ _, sl _ _, sl _ _, val _])] [(true, [sl .v _, val _, val _, sl .v _, sl .v _, sl .v _, sl .v _, val _])] c_72 (hs := by exact (impl_StepEngine (e := adapt (runA e k)) (by have haw := adapt_wt (runA e k); omega))))
 refine rA ?_ (x := tM)
 refine zrd ?_
 refine rA ?_ (x := loc_store (ag := true) (vs := [sl _ _, val _, val _, sl _ _, sl _ _, sl _ _, sl _ _, val _]) ty_40 (by exact ⟨⟩) (by exact rfl) (by exact nl rfl))
 refine sO [(1, _), (2, _), (4, _), (5, _), (6, _)] [(2, _), (4, _), (5, (40, [sl _ _, val _, val _, sl _ _, sl _ _, sl _ _, sl _ _, val _]))] ?_
 exact zre
 exact zrf
 exact zrg
theorem spec_RunAdaptive {p1 p2 p5 p6 p7 p8 p9 p11 p12 p13 p14 p16 p17 p18 : Fl} {e : Engine} {n : Int}  (hb : wtEngine e ≤ 68718000000) : SCall Tryz.prog 23 [(true, [sl .v (e.Store.Segments.map (cVersionS p1 p2)), val (vI e.Store.Now), val (vI e.Cursor), sl .v (e.Order.map cInt), sl .v (e.Active.map (cActive p5 p6 p7 p8 p9)), sl .v (e.Done.map (cFinished p11 p12 p13 p14)), sl .v (e.Ledger.map (cCharge p16 p17 p18)), val (vI e.Steps)]), (false, [val (vI n)])] (resRV [(true, [sl (.own 149 1) ((runAdaptive e n).Store.Segments.map (cVersionS (.own 151 4) (.own 3 1))), val (vI (runAdaptive e n).Store.Now), val (vI (runAdaptive e n).Cursor), sl (.own 3 1) ((runAdaptive e n).Order.map cInt), sl (.own 142 10) ((runAdaptive e n).Active.map (cActive (.own 193 3) (.own 3 1) (.own 3 1) (.own 66 2) (.own 3 1))), sl (.own 144 7) ((runAdaptive e n).Done.map (cFinished (.own 193 3) (.own 3 1) (.own 66 2) (.own 3 1))), sl (.own 148 5) ((runAdaptive e n).Ledger.map (cCharge (.own 3 1) (.own 3 1) (.own 3 1))), val (vI (runAdaptive e n).Steps)])]) := by
 refine sF Tryz.func23 fun h0 w0 Fz0 => ?_
 refine sn 0 0 fun hl0_0 => ?_
 refine sn 0 3 fun hl0_3 => ?_
 refine sn 0 4 fun hl0_4 => ?_
 refine sn 0 5 fun hl0_5 => ?_
 refine sn 0 6 fun hl0_6 => ?_
 have hbu := hb
 simp only [wtEngine, wtActiveS, wtFinishedS, wtChargeS] at hbu
 refine zc6 ?_
 refine sT [1, 2, 4] [2, 4] ?_
 refine zr8 ?_
 refine zpf ?_
 refine zie ?_
 refine zrb ?_
 refine zhx ?_
 refine zrc ?_
 rintro k hk
 have hrw := runA_wt e k
 have hrl := rounds_le n
 refine zg2 ?_
 refine zi8 ?_
 refine rM ?_
 refine cx 14 (fun ga sga => ?_) (fun ga sga => ?_)
 refine rB ga ?_ (x := sM)
 refine rB ga ?_ (x := B_lss)
 refine rA ?_ (x := pkT ga)
 refine sc (fun hba => ?_) (fun hba => ?_)
 have hlt : k < rounds n := by unfold rounds; first | omega | (simp_all; omega)
 refine zed ?_
 refine sT [1, 2, 4, 5, 6] [2, 4, 5] ?_
 refine rA ?_ (x := lD [sl .v _, val _, val _, sl .v _, sl .v _, sl .v _, sl .v _, val _] ty_40)
 refine rA ?_ (x := cL [(true, [sl _ _, val _, val _, sl _ _, sl _ _, sl _ _, sl _ _, val _])] [(true, [sl .v _, val _, val _, sl .v _, sl .v _, sl .v _, sl .v _, val _])] c_20 (hs := by exact (spec_AdaptEngine (e := runA e k) (by omega))))
 refine rA ?_ (x := cL [(true, [sl _ _, val _, val _, sl _ _, sl _ _, sl _ _, sl _ _, val _])] [(true, [sl .v _, val _, val _, sl .v _, sl .v _, sl .v _, sl .v _, val _])] c_70 (hs := by exact (spec_StepEngine (e := adapt (runA e k)) (by have haw := adapt_wt (runA e k); omega))))
 refine rA ?_ (x := tM)
 refine zrd ?_
 refine zpf ?_
 refine rS ?_
 refine sO [(1, _), (2, _), (4, _), (5, _), (6, _), (7, _), (8, _)] [(2, _), (4, _), (5, _), (7, (40, [sl _ _, val _, val _, sl _ _, sl _ _, sl _ _, sl _ _, val _]))] ?_
 refine sw_reg ?_
 refine zqn ?_
 refine sO [(1, _), (2, _), (4, _), (5, _), (6, _), (7, _), (8, _)] [(2, _), (4, _), (5, (40, [sl _ _, val _, val _, sl _ _, sl _ _, sl _ _, sl _ _, val _])), (7, (40, [sl _ _, val _, val _, sl _ _, sl _ _, sl _ _, sl _ _, val _]))] ?_
 exact zre
 exact zrf
 exact zrg
end Go.Proofs.YteflgldonmgejaaGreat
