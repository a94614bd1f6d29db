/- What functions of the program compute. No condition. -/
import Derived.Test.YteflgldonmgejaaGreatDoorCToEngineLine
import Derived.Test.YteflgldonmgejaaGreatDoorCEqEngineLine
import Derived.Test.YteflgldonmgejaaGreatDoorCEglEngineLine
import Derived.KernelRfl
set_option linter.unusedVariables false
set_option linter.unusedSimpArgs false
namespace Go.Proofs.YteflgldonmgejaaGreatDoor
open Go Go.RowKit M
set_option maxRecDepth 10000
attribute [local irreducible] PV.Lcl PV.LclR RV.Lcl
theorem FLawEngineLine_c_10 : callI Tryz.prog 10 = true := by kernel_rfl
theorem FLawEngineLine_c_11 : callI Tryz.prog 11 = true := by kernel_rfl
theorem FLawEngineLine_c_7 : callI Tryz.prog 7 = true := by kernel_rfl
theorem FLawEngineLine_c_8 : callI Tryz.prog 8 = true := by kernel_rfl
theorem FLawEngineLine_c_9 : callI Tryz.prog 9 = true := by kernel_rfl
theorem FLawEngineLine_ty_30 : tyI Tryz.prog 30 = some (true, 8) := by kernel_rfl
theorem FLawEngineLine_ty_40 : tyI Tryz.prog 40 = some (true, 8) := by kernel_rfl
theorem FLawEngineLine_z_40 : zeroI Tryz.prog 40 = some (.agg #[.slice none 0 0, .int .i64 0, .int .i64 0, .slice none 0 0, .slice none 0 0, .slice none 0 0, .slice none 0 0, .int .i64 0]) := by kernel_rfl
theorem FLawEngineLine_zo_40 {Fz : FzT} {w : World} : OwnL [PV.sl (.own 138 1) [], PV.val (.int .i64 0), PV.val (.int .i64 0), PV.sl (.own 3 1) [], PV.sl (.own 85 10) [], PV.sl (.own 132 7) [], PV.sl (.own 136 5) [], PV.val (.int .i64 0)] Fz w (Value.cells (.agg #[.slice none 0 0, .int .i64 0, .int .i64 0, .slice none 0 0, .slice none 0 0, .slice none 0 0, .slice none 0 0, .int .i64 0])).toList [] := zo_sl (zo_val rfl (zo_val rfl (zo_sl (zo_sl (zo_sl (zo_sl (zo_val rfl (zo_nil))))))))
theorem law_EngineLine {p1 p2 p5 p6 p7 p8 p9 p11 p12 p13 p14 p16 p17 p18 : Fl} {aE : Engine}  : GCall Tryz.prog gl 3 [(true, [PV.sl .v (aE.Store.Segments.map (cVersionS p1 p2)), PV.val (vI aE.Store.Now), PV.val (vI aE.Cursor), PV.sl .v (aE.Order.map cInt), PV.sl .v (aE.Active.map (cActive p5 p6 p7 p8 p9)), PV.sl .v (aE.Done.map (cFinished p11 p12 p13 p14)), PV.sl .v (aE.Ledger.map (cCharge p16 p17 p18)), PV.val (vI aE.Steps)])] (resRV [(false, [PV.val (.bool true)])]) := by
 refine gcall_of (rs := [(false, [PV.val (.bool true)])]) Tryz.func3 rfl (Nat.le_of_ble_eq_true rfl) (borA_cons (BorL.cons (PV.bor_sl _) (BorL.cons (PV.bor_val _) (BorL.cons (PV.bor_val _) (BorL.cons (PV.bor_sl _) (BorL.cons (PV.bor_sl _) (BorL.cons (PV.bor_sl _) (BorL.cons (PV.bor_sl _) (BorL.cons (PV.bor_val _) BorL.nil)))))))) borA_nil) ?_
 intro h0 w0 Fz0
 refine sw_slen (s := 0) (j := 0) rfl rfl fun hl0_0 => ?_
 try rw [List.length_map] at hl0_0
 refine sw_slen (s := 0) (j := 3) rfl rfl fun hl0_3 => ?_
 try rw [List.length_map] at hl0_3
 refine sw_slen (s := 0) (j := 4) rfl rfl fun hl0_4 => ?_
 try rw [List.length_map] at hl0_4
 refine sw_slen (s := 0) (j := 5) rfl rfl fun hl0_5 => ?_
 try rw [List.length_map] at hl0_5
 refine sw_slen (s := 0) (j := 6) rfl rfl fun hl0_6 => ?_
 try rw [List.length_map] at hl0_6
 refine sw_seq ?_
 refine sw_reg ?_
 refine RunS.step (by exact ⟨rfl, ⟨⟩⟩) (by exact ⟨⟩) (LocG.of rfl (loc_box (ag := true) (cs := [PV.sl _ _, PV.val _, PV.val _, PV.sl _ _, PV.sl _ _, PV.sl _ _, PV.sl _ _, PV.val _]) (by decide) (by exact ⟨⟩))) (free1 (Free.of_ rfl)) ?_
 refine rA ?_ (x := kA)
 refine sw_seq ?_
 refine sO [(1, _), (2, _), (7000, _)] [(1, (30, [PV.sl _ _, PV.val _, PV.val _, PV.sl _ _, PV.sl _ _, PV.sl _ _, PV.sl _ _, PV.val _]))] ?_
 refine sw_reg ?_
 refine rA ?_ (x := kA)
 refine sw_seq ?_
 refine sO [(1, _), (2, _), (3, _), (7000, _)] [(1, _)] ?_
 refine sw_reg ?_
 refine rA ?_ (x := lD [PV.sl .v _, PV.val _, PV.val _, PV.sl .v _, PV.sl .v _, PV.sl .v _, PV.sl .v _, PV.val _] FLawEngineLine_ty_30)
 refine rA ?_ (x := sM)
 refine rA ?_ (x := cL [(true, [PV.sl _ _, PV.val _, PV.val _, PV.sl _ _, PV.sl _ _, PV.sl _ _, PV.sl _ _, PV.val _]), (false, [PV.val _])] [(true, [PV.sl .v _, PV.val _, PV.val _, PV.sl .v _, PV.sl .v _, PV.sl .v _, PV.sl .v _, PV.val _]), (false, [PV.val _])] FLawEngineLine_c_7 (hs := by exact sz_Engine (by omega) (by omega)))
 refine rA ?_ (x := sA)
 refine sw_seq ?_
 refine sw_seq ?_
 refine sO [(1, _), (2, _), (3, _), (7000, _)] [(1, _)] ?_
 refine sw_reg ?_
 refine rA ?_ (x := sM)
 refine rA ?_ (x := B_lss)
 refine sw_cond (t := 11) rfl (fun hb1 => ?_) (fun hb1 => ?_)
 ·try simp only [q1, q2, q3, q4, q5, q6, q7, q8, q9] at hb1
  refine sw_seq ?_
  refine sO [(1, _), (2, _), (3, _), (7000, _)] [(1, _)] ?_
  refine sw_reg ?_
  refine rA ?_ (x := kA)
  refine sw_ret ?_
  exact (And.intro (by exact rfl) True.intro)
 ·try simp only [q1, q2, q3, q4, q5, q6, q7, q8, q9] at hb1
  have hp0 := szR_pos (w := wtEngine aE) (l := 1048576) hb1
  have he0 := szR_yes hp0
  skip
  refine sw_skip ?_
  refine sw_seq ?_
  refine sO [(1, _), (2, _), (3, _), (7000, _)] [(1, _)] ?_
  refine sw_reg ?_
  refine rA ?_ (x := lD [PV.sl .v _, PV.val _, PV.val _, PV.sl .v _, PV.sl .v _, PV.sl .v _, PV.sl .v _, PV.val _] FLawEngineLine_ty_30)
  refine rA ?_ (x := cL [(true, [PV.sl _ _, PV.val _, PV.val _, PV.sl _ _, PV.sl _ _, PV.sl _ _, PV.sl _ _, PV.val _])] [(true, [PV.sl .v _, PV.val _, PV.val _, PV.sl .v _, PV.sl .v _, PV.sl .v _, PV.sl .v _, PV.val _])] FLawEngineLine_c_9 (hs := by exact to_Engine (by omega)))
  refine rA ?_ (x := cL [(true, [PV.sl _ _, PV.val _, PV.val _, PV.sl _ _, PV.sl _ _, PV.sl _ _, PV.sl _ _, PV.val _])] [(true, [PV.sl .v _, PV.val _, PV.val _, PV.sl .v _, PV.sl .v _, PV.sl .v _, PV.sl .v _, PV.val _])] FLawEngineLine_c_8 (hs := by exact (spec_EngineLine (by omega))))
  refine rA ?_ (x := sA)
  refine sw_seq ?_
  refine sO [(1, _), (2, _), (3, _), (4, _), (7000, _)] [(1, _)] ?_
  refine sw_reg ?_
  refine rA ?_ (x := lD [PV.sl .v _, PV.val _, PV.val _, PV.sl .v _, PV.sl .v _, PV.sl .v _, PV.sl .v _, PV.val _] FLawEngineLine_ty_30)
  refine rA ?_ (x := cL [(true, [PV.sl _ _, PV.val _, PV.val _, PV.sl _ _, PV.sl _ _, PV.sl _ _, PV.sl _ _, PV.val _])] [(true, [PV.sl .v _, PV.val _, PV.val _, PV.sl .v _, PV.sl .v _, PV.sl .v _, PV.sl .v _, PV.val _])] FLawEngineLine_c_9 (hs := by exact to_Engine (by omega)))
  refine RunS.step (by exact ⟨⟩) (by exact ⟨⟩) (LocG.of rfl (loc_alloc (by decide) FLawEngineLine_z_40 FLawEngineLine_zo_40)) (free1 (Free.app (Free.app (Free.of_ rfl) rfl) rfl)) ?_
  refine rA ?_ (x := loc_store (ag := true) (vs := [PV.sl _ _, PV.val _, PV.val _, PV.sl _ _, PV.sl _ _, PV.sl _ _, PV.sl _ _, PV.val _]) FLawEngineLine_ty_40 (by exact ⟨⟩) (by exact rfl) (by exact Nat.le_of_ble_eq_true rfl))
  refine sw_seq ?_
  refine sO [(1, _), (2, _), (3, _), (4, _), (5, _), (7000, _)] [(1, _), (5, (40, [PV.sl _ _, PV.val _, PV.val _, PV.sl _ _, PV.sl _ _, PV.sl _ _, PV.sl _ _, PV.val _]))] ?_
  refine sw_reg ?_
  refine rA ?_ (x := lD [PV.sl .v _, PV.val _, PV.val _, PV.sl .v _, PV.sl .v _, PV.sl .v _, PV.sl .v _, PV.val _] FLawEngineLine_ty_40)
  refine rA ?_ (x := gL [(true, [PV.sl _ _, PV.val _, PV.val _, PV.sl _ _, PV.sl _ _, PV.sl _ _, PV.sl _ _, PV.val _])] [(true, [PV.sl .v _, PV.val _, PV.val _, PV.sl .v _, PV.sl .v _, PV.sl .v _, PV.sl .v _, PV.val _])] FLawEngineLine_c_10 (hs := by exact (impl_EngineLine (by omega))))
  refine rA ?_ (x := sA)
  refine sw_seq ?_
  refine sw_seq ?_
  refine sO [(1, _), (2, _), (3, _), (4, _), (5, _), (6, _), (7000, _)] [(1, _), (5, _)] ?_
  refine sw_reg ?_
  refine rA ?_ (x := sM)
  refine rA ?_ (x := sM)
  refine rA ?_ (x := loc_sneq)
  refine sw_cond (t := 21) rfl (fun hb2 => ?_) (fun hb2 => ?_)
  ·try simp only [q1, q2, q3, q4, q5, q6, q7, q8, q9] at hb2
   first | exact absurd rfl hb2 | (simp [deq_self] at hb2; done) | omega
  ·try simp only [q1, q2, q3, q4, q5, q6, q7, q8, q9] at hb2
   refine sw_skip ?_
   refine sw_seq ?_
   refine sw_seq ?_
   refine sO [(1, _), (2, _), (3, _), (4, _), (5, _), (6, _), (7000, _)] [(1, _), (5, _)] ?_
   refine sw_draw hm_ ?_
   refine dA 0 ?_ (x := lD [PV.sl .v _, PV.val _, PV.val _, PV.sl .v _, PV.sl .v _, PV.sl .v _, PV.sl .v _, PV.val _] FLawEngineLine_ty_40)
   refine dA 0 ?_ (x := lD [PV.sl .v _, PV.val _, PV.val _, PV.sl .v _, PV.sl .v _, PV.sl .v _, PV.sl .v _, PV.val _] FLawEngineLine_ty_30)
   refine dA 2 ?_ (x := cL [(true, [PV.sl _ _, PV.val _, PV.val _, PV.sl _ _, PV.sl _ _, PV.sl _ _, PV.sl _ _, PV.val _])] [(true, [PV.sl .v _, PV.val _, PV.val _, PV.sl .v _, PV.sl .v _, PV.sl .v _, PV.sl .v _, PV.val _])] FLawEngineLine_c_9 (hs := by exact to_Engine (by omega)))
   refine dA 7 ?_ (x := cL [(true, [PV.sl _ _, PV.val _, PV.val _, PV.sl _ _, PV.sl _ _, PV.sl _ _, PV.sl _ _, PV.val _]), (true, [PV.sl _ _, PV.val _, PV.val _, PV.sl _ _, PV.sl _ _, PV.sl _ _, PV.sl _ _, PV.val _])] [(true, [PV.sl .v _, PV.val _, PV.val _, PV.sl .v _, PV.sl .v _, PV.sl .v _, PV.sl .v _, PV.val _]), (true, [PV.sl .v _, PV.val _, PV.val _, PV.sl .v _, PV.sl .v _, PV.sl .v _, PV.sl .v _, PV.val _])] FLawEngineLine_c_11 (hs := by exact eq_Engine))
   refine dA 15 ?_ (x := nT)
   refine sw_cond (t := 26) rfl (fun hb3 => ?_) (fun hb3 => ?_)
   ·try simp only [q1, q2, q3, q4, q5, q6, q7, q8, q9] at hb3
    first | exact absurd rfl hb3 | (simp [deq_self] at hb3; done) | omega
   ·try simp only [q1, q2, q3, q4, q5, q6, q7, q8, q9] at hb3
    refine sw_skip ?_
    refine sw_seq ?_
    refine sO [(1, _), (2, _), (3, _), (4, _), (5, _), (6, _), (7000, _)] [(1, _), (5, _)] ?_
    refine sw_reg ?_
    refine rA ?_ (x := kA)
    refine sw_ret ?_
    exact (And.intro (by exact rfl) True.intro)
end Go.Proofs.YteflgldonmgejaaGreatDoor
