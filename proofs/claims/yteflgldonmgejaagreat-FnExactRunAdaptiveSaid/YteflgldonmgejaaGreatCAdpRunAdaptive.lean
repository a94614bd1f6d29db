/- What functions of the program compute. No condition. -/
import Derived.Test.YteflgldonmgejaaGreatCZMRunAdaptive
import Derived.Test.YteflgldonmgejaaGreatCFcRunAdaptive
import Derived.Test.YteflgldonmgejaaGreatCOrdRunAdaptive
import Derived.Test.YteflgldonmgejaaGreatCCpyRunAdaptive
import Derived.Test.YteflgldonmgejaaGreatCDad
import Derived.KernelRfl
set_option linter.unusedVariables false
set_option linter.unusedSimpArgs false
namespace Go.Proofs.YteflgldonmgejaaGreat
open Go Go.RowKit M PV
set_option maxRecDepth 10000
attribute [local irreducible] PV.Lcl PV.LclR RV.Lcl
theorem impl_SetOrder {p1 p2 p5 p6 p7 p8 p9 p11 p12 p13 p14 p16 p17 p18 : Fl} {e : Engine} {o : List Int}  (hb : wtEngine e ≤ 68719476736) (hob : o.length ≤ 1048576) : SCall Tryz.prog 64 [(true, [sl .v (e.Store.Segments.map (cVersionS p1 p2)), val (vI e.Store.Now), val (vI e.Cursor), sl .v (e.Order.map cInt), sl .v (e.Active.map (cActive p5 p6 p7 p8 p9)), sl .v (e.Done.map (cFinished p11 p12 p13 p14)), sl .v (e.Ledger.map (cCharge p16 p17 p18)), val (vI e.Steps)]), (false, [sl .v (o.map cInt)])] (resRV [(true, [sl (.own 149 1) ((setOrder e o).1.Store.Segments.map (cVersionS (.own 151 4) (.own 3 1))), val (vI (setOrder e o).1.Store.Now), val (vI (setOrder e o).1.Cursor), sl (.own 3 1) ((setOrder e o).1.Order.map cInt), sl (.own 142 10) ((setOrder e o).1.Active.map (cActive (.own 193 3) (.own 3 1) (.own 3 1) (.own 66 2) (.own 3 1))), sl (.own 144 7) ((setOrder e o).1.Done.map (cFinished (.own 193 3) (.own 3 1) (.own 66 2) (.own 3 1))), sl (.own 148 5) ((setOrder e o).1.Ledger.map (cCharge (.own 3 1) (.own 3 1) (.own 3 1))), val (vI (setOrder e o).1.Steps)]), (false, [val (.bool (setOrder e o).2)])]) := by
 refine sF Tryz.func64 fun h0 w0 Fz0 => ?_
 refine sn 0 0 fun hl0_0 => ?_
 refine sn 0 3 fun hl0_3 => ?_
 refine sn 0 4 fun hl0_4 => ?_
 refine sn 0 5 fun hl0_5 => ?_
 refine sn 0 6 fun hl0_6 => ?_
 refine sj 1 fun hl1 => ?_
 refine zc6 ?_
 refine rK ?_
 refine sT [1, 2, 4, 5] [2, 4] ?_
 refine zr3 ?_
 refine zpf ?_
 refine zie ?_
 refine zr4 ?_
 refine zon ?_
 refine zha ?_
 refine cx 12 (fun ga sga => ?_) (fun ga sga => ?_)
 exact zr5
 refine zp3 ?_
 refine zi1 ?_
 refine sc (fun hba => ?_) (fun hba => ?_)
 exact zr6
 have hr := setOrder_yes (e := e) (o := o) (by cases h1_ : okEngine e <;> cases h2_ : okOrder o <;> simp_all)
 refine sw_skip ?_
 refine sS [1, 2, 4, 5, 6] [2, 4, 6] ?_
 refine rA ?_ (x := vM false [sl .v _])
 refine rA ?_ (x := cL [(false, [sl _ _])] [(false, [sl .v _])] c_134 (hs := by exact impl_copyInts (by omega)))
 exact zr7
theorem spec_SetOrder {p1 p2 p5 p6 p7 p8 p9 p11 p12 p13 p14 p16 p17 p18 : Fl} {e : Engine} {o : List Int}  (hb : wtEngine e ≤ 68719476736) (hob : o.length ≤ 1048576) : SCall Tryz.prog 63 [(true, [sl .v (e.Store.Segments.map (cVersionS p1 p2)), val (vI e.Store.Now), val (vI e.Cursor), sl .v (e.Order.map cInt), sl .v (e.Active.map (cActive p5 p6 p7 p8 p9)), sl .v (e.Done.map (cFinished p11 p12 p13 p14)), sl .v (e.Ledger.map (cCharge p16 p17 p18)), val (vI e.Steps)]), (false, [sl .v (o.map cInt)])] (resRV [(true, [sl (.own 149 1) ((setOrder e o).1.Store.Segments.map (cVersionS (.own 151 4) (.own 3 1))), val (vI (setOrder e o).1.Store.Now), val (vI (setOrder e o).1.Cursor), sl (.own 3 1) ((setOrder e o).1.Order.map cInt), sl (.own 142 10) ((setOrder e o).1.Active.map (cActive (.own 193 3) (.own 3 1) (.own 3 1) (.own 66 2) (.own 3 1))), sl (.own 144 7) ((setOrder e o).1.Done.map (cFinished (.own 193 3) (.own 3 1) (.own 66 2) (.own 3 1))), sl (.own 148 5) ((setOrder e o).1.Ledger.map (cCharge (.own 3 1) (.own 3 1) (.own 3 1))), val (vI (setOrder e o).1.Steps)]), (false, [val (.bool (setOrder e o).2)])]) := by
 refine sF Tryz.func63 fun h0 w0 Fz0 => ?_
 refine sn 0 0 fun hl0_0 => ?_
 refine sn 0 3 fun hl0_3 => ?_
 refine sn 0 4 fun hl0_4 => ?_
 refine sn 0 5 fun hl0_5 => ?_
 refine sn 0 6 fun hl0_6 => ?_
 refine sj 1 fun hl1 => ?_
 refine zc6 ?_
 refine rK ?_
 refine sT [1, 2, 4, 5] [2, 4] ?_
 refine zr8 ?_
 refine zpf ?_
 refine zie ?_
 refine zr4 ?_
 refine zog ?_
 refine zha ?_
 refine cx 12 (fun ga sga => ?_) (fun ga sga => ?_)
 exact zr5
 refine rB ga ?_ (x := vM false [sl .v _])
 refine rB ga ?_ (x := cL [(false, [sl _ _])] [(false, [sl .v _])] c_98 (hs := by exact spec_l6Order))
 refine zi1 ?_
 refine sc (fun hba => ?_) (fun hba => ?_)
 exact zr6
 have hr := setOrder_yes (e := e) (o := o) (by cases h1_ : okEngine e <;> cases h2_ : okOrder o <;> simp_all)
 refine sw_skip ?_
 refine sS [1, 2, 4, 5, 6] [2, 4, 6] ?_
 refine zfs ?_
 exact zr7
theorem impl_AdaptEngine {p1 p2 p5 p6 p7 p8 p9 p11 p12 p13 p14 p16 p17 p18 : Fl} {e : Engine}  (hb : wtEngine e ≤ 68719476736) : SCall Tryz.prog 21 [(true, [sl .v (e.Store.Segments.map (cVersionS p1 p2)), val (vI e.Store.Now), val (vI e.Cursor), sl .v (e.Order.map cInt), sl .v (e.Active.map (cActive p5 p6 p7 p8 p9)), sl .v (e.Done.map (cFinished p11 p12 p13 p14)), sl .v (e.Ledger.map (cCharge p16 p17 p18)), val (vI e.Steps)])] (resRV [(true, [sl (.own 149 1) ((adapt e).Store.Segments.map (cVersionS (.own 151 4) (.own 3 1))), val (vI (adapt e).Store.Now), val (vI (adapt e).Cursor), sl (.own 3 1) ((adapt e).Order.map cInt), sl (.own 142 10) ((adapt e).Active.map (cActive (.own 193 3) (.own 3 1) (.own 3 1) (.own 66 2) (.own 3 1))), sl (.own 144 7) ((adapt e).Done.map (cFinished (.own 193 3) (.own 3 1) (.own 66 2) (.own 3 1))), sl (.own 148 5) ((adapt e).Ledger.map (cCharge (.own 3 1) (.own 3 1) (.own 3 1))), val (vI (adapt e).Steps)])]) := by
 refine sF Tryz.func21 fun h0 w0 Fz0 => ?_
 refine sn 0 0 fun hl0_0 => ?_
 refine sn 0 3 fun hl0_3 => ?_
 refine sn 0 4 fun hl0_4 => ?_
 refine sn 0 5 fun hl0_5 => ?_
 refine sn 0 6 fun hl0_6 => ?_
 have hcl := chooseOrder_len e
 refine zc6 ?_
 refine sw_seq ?_
 refine sQ [1, 2] [1, 2] ?_
 refine zr9 ?_
 refine dX 2 ?_ (x := (loc_call (qs := [(true, [sl _ _, val _, val _, sl _ _, sl _ _, sl _ _, sl _ _, val _])]) (as_ := [(true, [sl .v _, val _, val _, sl .v _, sl .v _, sl .v _, sl .v _, val _])]) (by decide) c_15 (by exact (aI (by exact ⟨⟩) tI)) (by exact (aI (aI rfl (ToL.cons PV.to_none (ToL.cons (PV.To.refl _) (ToL.cons (PV.To.refl _) (ToL.cons PV.to_none (ToL.cons PV.to_none (ToL.cons PV.to_none (ToL.cons PV.to_none (ToL.cons (PV.To.refl _) ToL.nil))))))))) tI)) (by exact (impl_ChooseOrder (by omega)))))
 refine mid_call (G := 2000) (qs := [(true, [sl _ _, val _, val _, sl _ _, sl _ _, sl _ _, sl _ _, val _]), (false, [sl _ _])]) (as_ := [(true, [sl .v _, val _, val _, sl .v _, sl .v _, sl .v _, sl .v _, val _]), (false, [sl .v _])]) (by decide) c_64 (by exact ⟨rfl, rfl, ⟨⟩⟩) (by exact (aI (by exact ⟨⟩) (aI (by exact ⟨⟩) tI))) (by exact (aI (aI rfl (ToL.cons PV.to_none (ToL.cons (PV.To.refl _) (ToL.cons (PV.To.refl _) (ToL.cons PV.to_none (ToL.cons PV.to_none (ToL.cons PV.to_none (ToL.cons PV.to_none (ToL.cons (PV.To.refl _) ToL.nil))))))))) (aI (aI rfl (ToL.cons PV.to_none ToL.nil)) tI))) (by exact (impl_SetOrder (e := e) (o := chooseOrder e) (by omega) (by omega))) (by kernel_rfl) (by kernel_rfl) fun uss hU0 => ?_
 exact zra
theorem spec_AdaptEngine {p1 p2 p5 p6 p7 p8 p9 p11 p12 p13 p14 p16 p17 p18 : Fl} {e : Engine}  (hb : wtEngine e ≤ 68719476736) : SCall Tryz.prog 20 [(true, [sl .v (e.Store.Segments.map (cVersionS p1 p2)), val (vI e.Store.Now), val (vI e.Cursor), sl .v (e.Order.map cInt), sl .v (e.Active.map (cActive p5 p6 p7 p8 p9)), sl .v (e.Done.map (cFinished p11 p12 p13 p14)), sl .v (e.Ledger.map (cCharge p16 p17 p18)), val (vI e.Steps)])] (resRV [(true, [sl (.own 149 1) ((adapt e).Store.Segments.map (cVersionS (.own 151 4) (.own 3 1))), val (vI (adapt e).Store.Now), val (vI (adapt e).Cursor), sl (.own 3 1) ((adapt e).Order.map cInt), sl (.own 142 10) ((adapt e).Active.map (cActive (.own 193 3) (.own 3 1) (.own 3 1) (.own 66 2) (.own 3 1))), sl (.own 144 7) ((adapt e).Done.map (cFinished (.own 193 3) (.own 3 1) (.own 66 2) (.own 3 1))), sl (.own 148 5) ((adapt e).Ledger.map (cCharge (.own 3 1) (.own 3 1) (.own 3 1))), val (vI (adapt e).Steps)])]) := by
 refine sF Tryz.func20 fun h0 w0 Fz0 => ?_
 refine sn 0 0 fun hl0_0 => ?_
 refine sn 0 3 fun hl0_3 => ?_
 refine sn 0 4 fun hl0_4 => ?_
 refine sn 0 5 fun hl0_5 => ?_
 refine sn 0 6 fun hl0_6 => ?_
 have hcl := chooseOrder_len e
 refine zc6 ?_
 refine sw_seq ?_
 refine sQ [1, 2] [1, 2] ?_
 refine zr9 ?_
 refine dX 2 ?_ (x := (loc_call (qs := [(true, [sl _ _, val _, val _, sl _ _, sl _ _, sl _ _, sl _ _, val _])]) (as_ := [(true, [sl .v _, val _, val _, sl .v _, sl .v _, sl .v _, sl .v _, val _])]) (by decide) c_14 (by exact (aI (by exact ⟨⟩) tI)) (by exact (aI (aI rfl (ToL.cons PV.to_none (ToL.cons (PV.To.refl _) (ToL.cons (PV.To.refl _) (ToL.cons PV.to_none (ToL.cons PV.to_none (ToL.cons PV.to_none (ToL.cons PV.to_none (ToL.cons (PV.To.refl _) ToL.nil))))))))) tI)) (by exact (spec_ChooseOrder (by omega)))))
 refine mid_call (G := 2000) (qs := [(true, [sl _ _, val _, val _, sl _ _, sl _ _, sl _ _, sl _ _, val _]), (false, [sl _ _])]) (as_ := [(true, [sl .v _, val _, val _, sl .v _, sl .v _, sl .v _, sl .v _, val _]), (false, [sl .v _])]) (by decide) c_63 (by exact ⟨rfl, rfl, ⟨⟩⟩) (by exact (aI (by exact ⟨⟩) (aI (by exact ⟨⟩) tI))) (by exact (aI (aI rfl (ToL.cons PV.to_none (ToL.cons (PV.To.refl _) (ToL.cons (PV.To.refl _) (ToL.cons PV.to_none (ToL.cons PV.to_none (ToL.cons PV.to_none (ToL.cons PV.to_none (ToL.cons (PV.To.refl _) ToL.nil))))))))) (aI (aI rfl (ToL.cons PV.to_none ToL.nil)) tI))) (by exact (spec_SetOrder (e := e) (o := chooseOrder e) (by omega) (by omega))) (by kernel_rfl) (by kernel_rfl) fun uss hU0 => ?_
 exact zra
end Go.Proofs.YteflgldonmgejaaGreat
