/- What functions of the program compute. No condition. -/
import Derived.Test.YtaomckpfgmhapaaDoorCToSegmentLine
import Derived.Test.YtaomckpfgmhapaaDoorCEqSegmentLine
import Derived.Test.YtaomckpfgmhapaaDoorCSegSegmentLine
import Derived.KernelRfl
set_option linter.unusedVariables false
set_option linter.unusedSimpArgs false
namespace Go.Proofs.YtaomckpfgmhapaaDoor
open Go Go.RowKit M
set_option maxRecDepth 10000
attribute [local irreducible] PV.Lcl PV.LclR RV.Lcl
theorem FLawSegmentLine_c_12 : callI Tryd.prog 12 = true := by kernel_rfl
theorem FLawSegmentLine_c_13 : callI Tryd.prog 13 = true := by kernel_rfl
theorem FLawSegmentLine_c_14 : callI Tryd.prog 14 = true := by kernel_rfl
theorem FLawSegmentLine_c_15 : callI Tryd.prog 15 = true := by kernel_rfl
theorem FLawSegmentLine_c_16 : callI Tryd.prog 16 = true := by kernel_rfl
theorem FLawSegmentLine_ty_3 : tyI Tryd.prog 3 = some (false, 1) := by kernel_rfl
theorem FLawSegmentLine_ty_31 : tyI Tryd.prog 31 = some (true, 2) := by kernel_rfl
theorem FLawSegmentLine_ty_36 : tyI Tryd.prog 36 = some (true, 2) := by kernel_rfl
theorem FLawSegmentLine_z_36 : zeroI Tryd.prog 36 = some (.agg #[.slice none 0 0, .int .i64 0]) := by kernel_rfl
theorem FLawSegmentLine_zo_36 {Fz : FzT} {w : World} : OwnL [PV.sl (.own 88 1) [], PV.val (.int .i64 0)] Fz w (Value.cells (.agg #[.slice none 0 0, .int .i64 0])).toList [] := zo_sl (zo_val rfl (zo_nil))
theorem law_SegmentLine {p1 p2 : Fl} {aS : Store} {aSegment : Int}  : GCall Tryd.prog gl 4 [(true, [PV.sl .v (aS.Segments.map (cVersionS p1 p2)), PV.val (vI aS.Now)]), (false, [PV.val (vI aSegment)])] (resRV [(false, [PV.val (.bool true)])]) := by
 refine gcall_of (rs := [(false, [PV.val (.bool true)])]) Tryd.func4 rfl (Nat.le_of_ble_eq_true rfl) (borA_cons (BorL.cons (PV.bor_sl _) (BorL.cons (PV.bor_val _) BorL.nil)) (borA_cons (BorL.cons (PV.bor_val _) BorL.nil) borA_nil)) ?_
 intro h0 w0 Fz0
 refine sw_slen (s := 0) (j := 0) rfl rfl fun hl0_0 => ?_
 try rw [List.length_map] at hl0_0
 refine sw_seq ?_
 refine sw_reg ?_
 refine RunS.step (by exact ⟨rfl, ⟨⟩⟩) (by exact ⟨⟩) (LocG.of rfl (loc_box (ag := true) (cs := [PV.sl _ _, PV.val _]) (by decide) (by exact ⟨⟩))) (free1 (Free.of_ rfl)) ?_
 refine rA ?_ (x := kA)
 refine sw_seq ?_
 refine sO [(1, _), (2, _), (4, _), (7000, _)] [(2, (31, [PV.sl _ _, PV.val _]))] ?_
 refine sw_reg ?_
 refine rA ?_ (x := kA)
 refine sw_seq ?_
 refine sO [(1, _), (2, _), (4, _), (5, _), (7000, _)] [(2, _)] ?_
 refine sw_reg ?_
 refine rA ?_ (x := lD [PV.sl .v _, PV.val _] FLawSegmentLine_ty_31)
 refine rA ?_ (x := sM)
 refine rA ?_ (x := cL [(true, [PV.sl _ _, PV.val _]), (false, [PV.val _])] [(true, [PV.sl .v _, PV.val _]), (false, [PV.val _])] FLawSegmentLine_c_12 (hs := by exact sz_Store (by omega) (by omega)))
 refine rA ?_ (x := sA)
 refine sw_seq ?_
 refine sw_seq ?_
 refine sO [(1, _), (2, _), (4, _), (5, _), (7000, _)] [(2, _)] ?_
 refine sw_reg ?_
 refine rA ?_ (x := sM)
 refine rA ?_ (x := B_lss)
 refine sw_cond (t := 13) rfl (fun hb1 => ?_) (fun hb1 => ?_)
 ·try simp only [q1, q2, q3, q4, q5, q6, q7, q8, q9] at hb1
  refine sw_seq ?_
  refine sO [(1, _), (2, _), (4, _), (5, _), (7000, _)] [(2, _)] ?_
  refine sw_reg ?_
  refine rA ?_ (x := kA)
  refine sw_ret ?_
  exact (And.intro (by exact rfl) True.intro)
 ·try simp only [q1, q2, q3, q4, q5, q6, q7, q8, q9] at hb1
  have hp0 := szR_pos (w := wtStore aS) (l := 1048576) hb1
  have he0 := szR_yes hp0
  refine sw_skip ?_
  refine sw_seq ?_
  refine sO [(1, _), (2, _), (4, _), (5, _), (7000, _)] [(2, _)] ?_
  refine sw_reg ?_
  refine rA ?_ (x := lD [PV.sl .v _, PV.val _] FLawSegmentLine_ty_31)
  refine rA ?_ (x := cL [(true, [PV.sl _ _, PV.val _])] [(true, [PV.sl .v _, PV.val _])] FLawSegmentLine_c_14 (hs := by exact to_Store (by omega)))
  refine rA ?_ (x := sM)
  refine rA ?_ (x := cL [(true, [PV.sl _ _, PV.val _]), (false, [PV.val _])] [(true, [PV.sl .v _, PV.val _]), (false, [PV.val _])] FLawSegmentLine_c_13 (hs := by exact spec_SegmentLine (by omega)))
  refine rA ?_ (x := sA)
  refine sw_seq ?_
  refine sO [(1, _), (2, _), (4, _), (5, _), (6, _), (7000, _)] [(2, _)] ?_
  refine sw_reg ?_
  refine rA ?_ (x := lD [PV.sl .v _, PV.val _] FLawSegmentLine_ty_31)
  refine rA ?_ (x := cL [(true, [PV.sl _ _, PV.val _])] [(true, [PV.sl .v _, PV.val _])] FLawSegmentLine_c_14 (hs := by exact to_Store (by omega)))
  refine RunS.step (by exact ⟨⟩) (by exact ⟨⟩) (LocG.of rfl (loc_alloc (by decide) FLawSegmentLine_z_36 FLawSegmentLine_zo_36)) (free1 (Free.app (Free.app (Free.of_ rfl) rfl) rfl)) ?_
  refine rA ?_ (x := loc_store (ag := true) (vs := [PV.sl _ _, PV.val _]) FLawSegmentLine_ty_36 (by exact ⟨⟩) (by exact rfl) (by exact Nat.le_of_ble_eq_true rfl))
  refine sw_seq ?_
  refine sO [(1, _), (2, _), (4, _), (5, _), (6, _), (7, _), (7000, _)] [(2, _), (7, (36, [PV.sl _ _, PV.val _]))] ?_
  refine sw_reg ?_
  refine rA ?_ (x := lD [PV.sl .v _, PV.val _] FLawSegmentLine_ty_36)
  refine rA ?_ (x := sM)
  refine rA ?_ (x := gL [(true, [PV.sl _ _, PV.val _]), (false, [PV.val _])] [(true, [PV.sl .v _, PV.val _]), (false, [PV.val _])] FLawSegmentLine_c_15 (hs := by exact impl_SegmentLine (by omega)))
  refine rA ?_ (x := sA)
  refine sw_seq ?_
  refine sw_seq ?_
  refine sO [(1, _), (2, _), (4, _), (5, _), (6, _), (7, _), (8, _), (7000, _)] [(2, _), (7, _)] ?_
  refine sw_reg ?_
  refine rA ?_ (x := sM)
  refine rA ?_ (x := sM)
  refine rA ?_ (x := loc_sneq)
  refine sw_cond (t := 25) rfl (fun hb2 => ?_) (fun hb2 => ?_)
  ·try simp only [q1, q2, q3, q4, q5, q6, q7, q8, q9] at hb2
   first | exact absurd rfl hb2 | (simp [deq_self] at hb2; done) | omega
  ·try simp only [q1, q2, q3, q4, q5, q6, q7, q8, q9] at hb2
   refine sw_skip ?_
   refine sw_seq ?_
   refine sw_seq ?_
   refine sO [(1, _), (2, _), (4, _), (5, _), (6, _), (7, _), (8, _), (7000, _)] [(2, _), (7, _)] ?_
   refine sw_draw hm_ ?_
   refine dA 0 ?_ (x := lD [PV.sl .v _, PV.val _] FLawSegmentLine_ty_36)
   refine dA 0 ?_ (x := lD [PV.sl .v _, PV.val _] FLawSegmentLine_ty_31)
   refine dA 2 ?_ (x := cL [(true, [PV.sl _ _, PV.val _])] [(true, [PV.sl .v _, PV.val _])] FLawSegmentLine_c_14 (hs := by exact to_Store (by omega)))
   refine dA 7 ?_ (x := cL [(true, [PV.sl _ _, PV.val _]), (true, [PV.sl _ _, PV.val _])] [(true, [PV.sl .v _, PV.val _]), (true, [PV.sl .v _, PV.val _])] FLawSegmentLine_c_16 (hs := by exact eq_Store))
   refine dA 15 ?_ (x := nT)
   refine sw_cond (t := 30) rfl (fun hb3 => ?_) (fun hb3 => ?_)
   ·try simp only [q1, q2, q3, q4, q5, q6, q7, q8, q9] at hb3
    first | exact absurd rfl hb3 | (simp [deq_self] at hb3; done) | omega
   ·try simp only [q1, q2, q3, q4, q5, q6, q7, q8, q9] at hb3
    refine sw_skip ?_
    refine sw_seq ?_
    refine sO [(1, _), (2, _), (4, _), (5, _), (6, _), (7, _), (8, _), (7000, _)] [(2, _), (7, _)] ?_
    refine sw_reg ?_
    refine rA ?_ (x := kA)
    refine sw_ret ?_
    exact (And.intro (by exact rfl) True.intro)
end Go.Proofs.YtaomckpfgmhapaaDoor
