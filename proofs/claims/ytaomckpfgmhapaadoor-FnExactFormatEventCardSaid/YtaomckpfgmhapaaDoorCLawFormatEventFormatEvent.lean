/- What functions of the program compute. No condition. -/
import Derived.Test.YtaomckpfgmhapaaDoorCToFormatEvent
import Derived.Test.YtaomckpfgmhapaaDoorCEqFormatEvent
import Derived.Test.YtaomckpfgmhapaaDoorCFevFormatEvent
import Derived.KernelRfl
set_option linter.unusedVariables false
set_option linter.unusedSimpArgs false
namespace Go.Proofs.YtaomckpfgmhapaaDoor
open Go Go.RowKit M
set_option maxRecDepth 10000
attribute [local irreducible] PV.Lcl PV.LclR RV.Lcl
theorem FLawFormatEvent_c_22 : callI Tryd.prog 22 = true := by kernel_rfl
theorem FLawFormatEvent_c_23 : callI Tryd.prog 23 = true := by kernel_rfl
theorem FLawFormatEvent_c_24 : callI Tryd.prog 24 = true := by kernel_rfl
theorem FLawFormatEvent_c_25 : callI Tryd.prog 25 = true := by kernel_rfl
theorem FLawFormatEvent_c_26 : callI Tryd.prog 26 = true := by kernel_rfl
theorem FLawFormatEvent_ty_63 : tyI Tryd.prog 63 = some (true, 13) := by kernel_rfl
theorem FLawFormatEvent_ty_70 : tyI Tryd.prog 70 = some (true, 13) := by kernel_rfl
theorem FLawFormatEvent_z_70 : zeroI Tryd.prog 70 = some (.agg #[.int .i64 0, .int .i64 0, .int .i64 0, .slice none 0 0, .slice none 0 0, .int .i64 0, .int .i64 0, .int .i64 0, .int .i64 0, .slice none 0 0, .int .i64 0, .int .i64 0, .int .i64 0]) := by kernel_rfl
theorem FLawFormatEvent_zo_70 {Fz : FzT} {w : World} : OwnL [PV.val (.int .i64 0), PV.val (.int .i64 0), PV.val (.int .i64 0), PV.sl (.own 139 3) [], PV.sl (.own 3 1) [], PV.val (.int .i64 0), PV.val (.int .i64 0), PV.val (.int .i64 0), PV.val (.int .i64 0), PV.sl (.own 3 1) [], PV.val (.int .i64 0), PV.val (.int .i64 0), PV.val (.int .i64 0)] Fz w (Value.cells (.agg #[.int .i64 0, .int .i64 0, .int .i64 0, .slice none 0 0, .slice none 0 0, .int .i64 0, .int .i64 0, .int .i64 0, .int .i64 0, .slice none 0 0, .int .i64 0, .int .i64 0, .int .i64 0])).toList [] := zo_val rfl (zo_val rfl (zo_val rfl (zo_sl (zo_sl (zo_val rfl (zo_val rfl (zo_val rfl (zo_val rfl (zo_sl (zo_val rfl (zo_val rfl (zo_val rfl (zo_nil)))))))))))))
theorem law_FormatEvent {aX : Event}  : GCall Tryd.prog gl 6 [(true, [PV.val (vI aX.Kind), PV.val (vI aX.Query.Id), PV.val (vI aX.Query.Tenant), PV.sl .v (aX.Query.Conds.map cCond), PV.sl .v (aX.Query.Out.map cInt), PV.val (vI aX.Limit), PV.val (vI aX.Id), PV.val (vI aX.Update.Kind), PV.val (vI aX.Update.Row.Id), PV.sl .v (aX.Update.Row.Values.map cInt), PV.val (vI aX.Update.Field), PV.val (vI aX.Update.Value), PV.val (vI aX.Steps)])] (resRV [(false, [PV.val (.bool true)])]) := by
 refine gcall_of (rs := [(false, [PV.val (.bool true)])]) Tryd.func6 rfl (Nat.le_of_ble_eq_true rfl) (borA_cons (BorL.cons (PV.bor_val _) (BorL.cons (PV.bor_val _) (BorL.cons (PV.bor_val _) (BorL.cons (PV.bor_sl _) (BorL.cons (PV.bor_sl _) (BorL.cons (PV.bor_val _) (BorL.cons (PV.bor_val _) (BorL.cons (PV.bor_val _) (BorL.cons (PV.bor_val _) (BorL.cons (PV.bor_sl _) (BorL.cons (PV.bor_val _) (BorL.cons (PV.bor_val _) (BorL.cons (PV.bor_val _) BorL.nil))))))))))))) borA_nil) ?_
 intro h0 w0 Fz0
 refine sw_slen (s := 0) (j := 3) rfl rfl fun hl0_3 => ?_
 try rw [List.length_map] at hl0_3
 refine sw_slen (s := 0) (j := 4) rfl rfl fun hl0_4 => ?_
 try rw [List.length_map] at hl0_4
 refine sw_slen (s := 0) (j := 9) rfl rfl fun hl0_9 => ?_
 try rw [List.length_map] at hl0_9
 refine sw_seq ?_
 refine sw_reg ?_
 refine RunS.step (by exact ⟨rfl, ⟨⟩⟩) (by exact ⟨⟩) (LocG.of rfl (loc_box (ag := true) (cs := [PV.val _, PV.val _, PV.val _, PV.sl _ _, PV.sl _ _, PV.val _, PV.val _, PV.val _, PV.val _, PV.sl _ _, PV.val _, PV.val _, PV.val _]) (by decide) (by exact ⟨⟩))) (free1 (Free.of_ rfl)) ?_
 refine rA ?_ (x := kA)
 refine sw_seq ?_
 refine sO [(1, _), (2, _), (7000, _)] [(1, (63, [PV.val _, PV.val _, PV.val _, PV.sl _ _, PV.sl _ _, PV.val _, PV.val _, PV.val _, PV.val _, PV.sl _ _, PV.val _, PV.val _, PV.val _]))] ?_
 refine sw_reg ?_
 refine rA ?_ (x := kA)
 refine sw_seq ?_
 refine sO [(1, _), (2, _), (3, _), (7000, _)] [(1, _)] ?_
 refine sw_reg ?_
 refine rA ?_ (x := lD [PV.val _, PV.val _, PV.val _, PV.sl .v _, PV.sl .v _, PV.val _, PV.val _, PV.val _, PV.val _, PV.sl .v _, PV.val _, PV.val _, PV.val _] FLawFormatEvent_ty_63)
 refine rA ?_ (x := sM)
 refine rA ?_ (x := cL [(true, [PV.val _, PV.val _, PV.val _, PV.sl _ _, PV.sl _ _, PV.val _, PV.val _, PV.val _, PV.val _, PV.sl _ _, PV.val _, PV.val _, PV.val _]), (false, [PV.val _])] [(true, [PV.val _, PV.val _, PV.val _, PV.sl .v _, PV.sl .v _, PV.val _, PV.val _, PV.val _, PV.val _, PV.sl .v _, PV.val _, PV.val _, PV.val _]), (false, [PV.val _])] FLawFormatEvent_c_22 (hs := by exact sz_Event (by omega) (by omega)))
 refine rA ?_ (x := sA)
 refine sw_seq ?_
 refine sw_seq ?_
 refine sO [(1, _), (2, _), (3, _), (7000, _)] [(1, _)] ?_
 refine sw_reg ?_
 refine rA ?_ (x := sM)
 refine rA ?_ (x := B_lss)
 refine sw_cond (t := 11) rfl (fun hb1 => ?_) (fun hb1 => ?_)
 ·try simp only [q1, q2, q3, q4, q5, q6, q7, q8, q9] at hb1
  refine sw_seq ?_
  refine sO [(1, _), (2, _), (3, _), (7000, _)] [(1, _)] ?_
  refine sw_reg ?_
  refine rA ?_ (x := kA)
  refine sw_ret ?_
  exact (And.intro (by exact rfl) True.intro)
 ·try simp only [q1, q2, q3, q4, q5, q6, q7, q8, q9] at hb1
  have hp0 := szR_pos (w := wtEvent aX) (l := 1048576) hb1
  have he0 := szR_yes hp0
  refine sw_skip ?_
  refine sw_seq ?_
  refine sO [(1, _), (2, _), (3, _), (7000, _)] [(1, _)] ?_
  refine sw_reg ?_
  refine rA ?_ (x := lD [PV.val _, PV.val _, PV.val _, PV.sl .v _, PV.sl .v _, PV.val _, PV.val _, PV.val _, PV.val _, PV.sl .v _, PV.val _, PV.val _, PV.val _] FLawFormatEvent_ty_63)
  refine rA ?_ (x := cL [(true, [PV.val _, PV.val _, PV.val _, PV.sl _ _, PV.sl _ _, PV.val _, PV.val _, PV.val _, PV.val _, PV.sl _ _, PV.val _, PV.val _, PV.val _])] [(true, [PV.val _, PV.val _, PV.val _, PV.sl .v _, PV.sl .v _, PV.val _, PV.val _, PV.val _, PV.val _, PV.sl .v _, PV.val _, PV.val _, PV.val _])] FLawFormatEvent_c_24 (hs := by exact to_Event (by omega)))
  refine rA ?_ (x := cL [(true, [PV.val _, PV.val _, PV.val _, PV.sl _ _, PV.sl _ _, PV.val _, PV.val _, PV.val _, PV.val _, PV.sl _ _, PV.val _, PV.val _, PV.val _])] [(true, [PV.val _, PV.val _, PV.val _, PV.sl .v _, PV.sl .v _, PV.val _, PV.val _, PV.val _, PV.val _, PV.sl .v _, PV.val _, PV.val _, PV.val _])] FLawFormatEvent_c_23 (hs := by exact spec_FormatEvent))
  refine rA ?_ (x := sA)
  refine sw_seq ?_
  refine sO [(1, _), (2, _), (3, _), (4, _), (7000, _)] [(1, _)] ?_
  refine sw_reg ?_
  refine rA ?_ (x := lD [PV.val _, PV.val _, PV.val _, PV.sl .v _, PV.sl .v _, PV.val _, PV.val _, PV.val _, PV.val _, PV.sl .v _, PV.val _, PV.val _, PV.val _] FLawFormatEvent_ty_63)
  refine rA ?_ (x := cL [(true, [PV.val _, PV.val _, PV.val _, PV.sl _ _, PV.sl _ _, PV.val _, PV.val _, PV.val _, PV.val _, PV.sl _ _, PV.val _, PV.val _, PV.val _])] [(true, [PV.val _, PV.val _, PV.val _, PV.sl .v _, PV.sl .v _, PV.val _, PV.val _, PV.val _, PV.val _, PV.sl .v _, PV.val _, PV.val _, PV.val _])] FLawFormatEvent_c_24 (hs := by exact to_Event (by omega)))
  refine RunS.step (by exact ⟨⟩) (by exact ⟨⟩) (LocG.of rfl (loc_alloc (by decide) FLawFormatEvent_z_70 FLawFormatEvent_zo_70)) (free1 (Free.app (Free.app (Free.of_ rfl) rfl) rfl)) ?_
  refine rA ?_ (x := loc_store (ag := true) (vs := [PV.val _, PV.val _, PV.val _, PV.sl _ _, PV.sl _ _, PV.val _, PV.val _, PV.val _, PV.val _, PV.sl _ _, PV.val _, PV.val _, PV.val _]) FLawFormatEvent_ty_70 (by exact ⟨⟩) (by exact rfl) (by exact Nat.le_of_ble_eq_true rfl))
  refine sw_seq ?_
  refine sO [(1, _), (2, _), (3, _), (4, _), (5, _), (7000, _)] [(1, _), (5, (70, [PV.val _, PV.val _, PV.val _, PV.sl _ _, PV.sl _ _, PV.val _, PV.val _, PV.val _, PV.val _, PV.sl _ _, PV.val _, PV.val _, PV.val _]))] ?_
  refine sw_reg ?_
  refine rA ?_ (x := lD [PV.val _, PV.val _, PV.val _, PV.sl .v _, PV.sl .v _, PV.val _, PV.val _, PV.val _, PV.val _, PV.sl .v _, PV.val _, PV.val _, PV.val _] FLawFormatEvent_ty_70)
  refine rA ?_ (x := gL [(true, [PV.val _, PV.val _, PV.val _, PV.sl _ _, PV.sl _ _, PV.val _, PV.val _, PV.val _, PV.val _, PV.sl _ _, PV.val _, PV.val _, PV.val _])] [(true, [PV.val _, PV.val _, PV.val _, PV.sl .v _, PV.sl .v _, PV.val _, PV.val _, PV.val _, PV.val _, PV.sl .v _, PV.val _, PV.val _, PV.val _])] FLawFormatEvent_c_25 (hs := by exact impl_FormatEvent))
  refine rA ?_ (x := sA)
  refine sw_seq ?_
  refine sw_seq ?_
  refine sO [(1, _), (2, _), (3, _), (4, _), (5, _), (6, _), (7000, _)] [(1, _), (5, _)] ?_
  refine sw_reg ?_
  refine rA ?_ (x := sM)
  refine rA ?_ (x := sM)
  refine rA ?_ (x := loc_sneq)
  refine sw_cond (t := 21) rfl (fun hb2 => ?_) (fun hb2 => ?_)
  ·try simp only [q1, q2, q3, q4, q5, q6, q7, q8, q9] at hb2
   first | exact absurd rfl hb2 | (simp [deq_self] at hb2; done) | omega
  ·try simp only [q1, q2, q3, q4, q5, q6, q7, q8, q9] at hb2
   refine sw_skip ?_
   refine sw_seq ?_
   refine sw_seq ?_
   refine sO [(1, _), (2, _), (3, _), (4, _), (5, _), (6, _), (7000, _)] [(1, _), (5, _)] ?_
   refine sw_draw hm_ ?_
   refine dA 0 ?_ (x := lD [PV.val _, PV.val _, PV.val _, PV.sl .v _, PV.sl .v _, PV.val _, PV.val _, PV.val _, PV.val _, PV.sl .v _, PV.val _, PV.val _, PV.val _] FLawFormatEvent_ty_70)
   refine dA 0 ?_ (x := lD [PV.val _, PV.val _, PV.val _, PV.sl .v _, PV.sl .v _, PV.val _, PV.val _, PV.val _, PV.val _, PV.sl .v _, PV.val _, PV.val _, PV.val _] FLawFormatEvent_ty_63)
   refine dA 2 ?_ (x := cL [(true, [PV.val _, PV.val _, PV.val _, PV.sl _ _, PV.sl _ _, PV.val _, PV.val _, PV.val _, PV.val _, PV.sl _ _, PV.val _, PV.val _, PV.val _])] [(true, [PV.val _, PV.val _, PV.val _, PV.sl .v _, PV.sl .v _, PV.val _, PV.val _, PV.val _, PV.val _, PV.sl .v _, PV.val _, PV.val _, PV.val _])] FLawFormatEvent_c_24 (hs := by exact to_Event (by omega)))
   refine dA 7 ?_ (x := cL [(true, [PV.val _, PV.val _, PV.val _, PV.sl _ _, PV.sl _ _, PV.val _, PV.val _, PV.val _, PV.val _, PV.sl _ _, PV.val _, PV.val _, PV.val _]), (true, [PV.val _, PV.val _, PV.val _, PV.sl _ _, PV.sl _ _, PV.val _, PV.val _, PV.val _, PV.val _, PV.sl _ _, PV.val _, PV.val _, PV.val _])] [(true, [PV.val _, PV.val _, PV.val _, PV.sl .v _, PV.sl .v _, PV.val _, PV.val _, PV.val _, PV.val _, PV.sl .v _, PV.val _, PV.val _, PV.val _]), (true, [PV.val _, PV.val _, PV.val _, PV.sl .v _, PV.sl .v _, PV.val _, PV.val _, PV.val _, PV.val _, PV.sl .v _, PV.val _, PV.val _, PV.val _])] FLawFormatEvent_c_26 (hs := by exact eq_Event))
   refine dA 15 ?_ (x := nT)
   refine sw_cond (t := 26) rfl (fun hb3 => ?_) (fun hb3 => ?_)
   ·try simp only [q1, q2, q3, q4, q5, q6, q7, q8, q9] at hb3
    first | exact absurd rfl hb3 | (simp [deq_self] at hb3; done) | omega
   ·try simp only [q1, q2, q3, q4, q5, q6, q7, q8, q9] at hb3
    refine sw_skip ?_
    refine sw_seq ?_
    refine sO [(1, _), (2, _), (3, _), (4, _), (5, _), (6, _), (7000, _)] [(1, _), (5, _)] ?_
    refine sw_reg ?_
    refine rA ?_ (x := kA)
    refine sw_ret ?_
    exact (And.intro (by exact rfl) True.intro)
end Go.Proofs.YtaomckpfgmhapaaDoor
