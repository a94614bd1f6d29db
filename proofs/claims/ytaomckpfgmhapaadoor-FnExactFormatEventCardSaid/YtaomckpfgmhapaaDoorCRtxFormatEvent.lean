/- What functions of the program compute. No condition. -/
import Derived.Test.YtaomckpfgmhapaaDoorCNumFormatEvent
import Derived.Test.YtaomckpfgmhapaaDoorCDr
import Derived.KernelRfl
set_option linter.unusedVariables false
set_option linter.unusedSimpArgs false
namespace Go.Proofs.YtaomckpfgmhapaaDoor
open Go Go.RowKit M
set_option maxRecDepth 10000
attribute [local irreducible] PV.Lcl PV.LclR RV.Lcl
theorem FRtx_c_28 : callI Tryd.prog 28 = true := by kernel_rfl
theorem FRtx_c_32 : callI Tryd.prog 32 = true := by kernel_rfl
theorem FRtx_c_52 : callI Tryd.prog 52 = true := by kernel_rfl
theorem FRtx_c_58 : callI Tryd.prog 58 = true := by kernel_rfl
theorem FRtx_c_86 : callI Tryd.prog 86 = true := by kernel_rfl
theorem FRtx_c_88 : callI Tryd.prog 88 = true := by kernel_rfl
theorem FRtx_fd_66_0 : fieldI Tryd.prog 66 0 = some 0 := by kernel_rfl
theorem FRtx_fd_66_1 : fieldI Tryd.prog 66 1 = some 1 := by kernel_rfl
theorem FRtx_ty_3 : tyI Tryd.prog 3 = some (false, 1) := by kernel_rfl
theorem FRtx_ty_41 : tyI Tryd.prog 41 = some (false, 1) := by kernel_rfl
theorem FRtx_ty_66 : tyI Tryd.prog 66 = some (true, 2) := by kernel_rfl
theorem impl_FormatRow {r : Row}  : GCall Tryd.prog gl 44 [(true, [PV.val (vI r.Id), PV.sl .v (r.Values.map cInt)])] (resRV [(false, [PV.val (.string (B (fmtRow r)))])]) := by
 refine gcall_of (rs := [(false, [PV.val (.string (B (fmtRow r)))])]) Tryd.func44 rfl (Nat.le_of_ble_eq_true rfl) (borA_cons (BorL.cons (PV.bor_val _) (BorL.cons (PV.bor_sl _) BorL.nil)) borA_nil) ?_
 intro h0 w0 Fz0
 refine sw_slen (s := 0) (j := 1) rfl rfl fun hl0_1 => ?_
 try rw [List.length_map] at hl0_1
 refine sw_seq ?_
 refine sw_reg ?_
 refine RunS.step (by exact ⟨rfl, ⟨⟩⟩) (by exact ⟨⟩) (LocG.of rfl (loc_box (ag := true) (cs := [PV.val _, PV.sl _ _]) (by decide) (by exact ⟨⟩))) (free1 (Free.of_ rfl)) ?_
 refine rA ?_ (x := kA)
 refine sw_seq ?_
 refine sw_seq ?_
 refine sO [(1, _), (2, _), (7000, _)] [(1, (66, [PV.val _, PV.sl _ _]))] ?_
 refine sw_reg ?_
 refine rA ?_ (x := lD [PV.val _, PV.sl .v _] FRtx_ty_66)
 refine rA ?_ (x := cL [(true, [PV.val _, PV.sl _ _])] [(true, [PV.val _, PV.sl .v _])] FRtx_c_88 (hs := by exact impl_IsRow))
 refine rA ?_ (x := nT)
 refine sw_cond (t := 5) rfl (fun hb1 => ?_) (fun hb1 => ?_)
 ·try simp only [q1, q2, q3, q4, q5, q6, q7, q8, q9] at hb1
  have hok : okRow r = false := by simpa using hb1
  refine sw_seq ?_
  refine sO [(1, _), (2, _), (7000, _)] [(1, _)] ?_
  refine sw_reg ?_
  refine rA ?_ (x := kA)
  refine sw_ret ?_
  exact (And.intro (by refine sv_eq ?_; exact str_eq (by unfold fmtRow; rw [if_neg (by rw [hok]; simp)])) True.intro)
 ·try simp only [q1, q2, q3, q4, q5, q6, q7, q8, q9] at hb1
  have hok : okRow r = true := by simpa using hb1
  obtain ⟨hi0, hi1, hvl, hv⟩ := okRow_i64 hok
  have hil : (itoa r.Id).length ≤ 21 := itoa_len (by unfold I64; omega)
  have hll := listB_len hv
  refine sw_skip ?_
  refine sw_seq ?_
  refine sO [(1, _), (2, _), (7000, _)] [(1, _)] ?_
  refine sw_draw hm_ ?_
  refine dA 0 ?_ (x := lF FRtx_fd_66_0)
  refine dA 1 ?_ (x := lD [PV.val _] FRtx_ty_3)
  refine dA 3 ?_ (x := gL [(false, [PV.val _])] [(false, [PV.val _])] FRtx_c_32 (hs := by exact (impl_FormatInt (by unfold I64; omega))))
  refine dA 7 ?_ (x := loc_sadd)
  refine dA 0 ?_ (x := lF FRtx_fd_66_1)
  refine dA 16 ?_ (x := lD [PV.sl .v _] FRtx_ty_41)
  refine dA 55 ?_ (x := gL [(false, [PV.sl _ _])] [(false, [PV.sl .v _])] FRtx_c_58 (hs := by exact (impl_numbersText hv (by omega))))
  refine dA 127 ?_ (x := loc_sadd)
  refine dA 255 ?_ (x := sA)
  refine sw_ret ?_
  exact (And.intro (by refine sv_eq ?_; exact str_eq (by unfold fmtRow; rw [if_pos hok])) True.intro)
theorem spec_FormatRow {r : Row}  : SCall Tryd.prog 40 [(true, [PV.val (vI r.Id), PV.sl .v (r.Values.map cInt)])] (resRV [(false, [PV.val (.string (B (fmtRow r)))])]) := by
 refine scall_of (rs := [(false, [PV.val (.string (B (fmtRow r)))])]) Tryd.func40 rfl (Nat.le_of_ble_eq_true rfl) (borA_cons (BorL.cons (PV.bor_val _) (BorL.cons (PV.bor_sl _) BorL.nil)) borA_nil) ?_
 intro h0 w0 Fz0
 refine sw_slen (s := 0) (j := 1) rfl rfl fun hl0_1 => ?_
 try rw [List.length_map] at hl0_1
 refine sw_seq ?_
 refine sw_reg ?_
 refine RunS.step (by exact ⟨rfl, ⟨⟩⟩) (by exact ⟨⟩) (LocG.of rfl (loc_box (ag := true) (cs := [PV.val _, PV.sl _ _]) (by decide) (by exact ⟨⟩))) (free1 (Free.of_ rfl)) ?_
 refine rA ?_ (x := kA)
 refine sw_seq ?_
 refine sw_seq ?_
 refine sO [(1, _), (2, _)] [(1, (66, [PV.val _, PV.sl _ _]))] ?_
 refine sw_reg ?_
 refine rA ?_ (x := lD [PV.val _, PV.sl .v _] FRtx_ty_66)
 refine rA ?_ (x := cL [(true, [PV.val _, PV.sl _ _])] [(true, [PV.val _, PV.sl .v _])] FRtx_c_86 (hs := by exact spec_IsRow))
 refine rA ?_ (x := nT)
 refine sw_cond (t := 5) rfl (fun hb1 => ?_) (fun hb1 => ?_)
 ·try simp only [q1, q2, q3, q4, q5, q6, q7, q8, q9] at hb1
  have hok : okRow r = false := by simpa using hb1
  refine sw_seq ?_
  refine sO [(1, _), (2, _)] [(1, _)] ?_
  refine sw_reg ?_
  refine rA ?_ (x := kA)
  refine sw_ret ?_
  exact (And.intro (by refine sv_eq ?_; exact str_eq (by unfold fmtRow; rw [if_neg (by rw [hok]; simp)])) True.intro)
 ·try simp only [q1, q2, q3, q4, q5, q6, q7, q8, q9] at hb1
  have hok : okRow r = true := by simpa using hb1
  obtain ⟨hi0, hi1, hvl, hv⟩ := okRow_i64 hok
  have hil : (itoa r.Id).length ≤ 21 := itoa_len (by unfold I64; omega)
  have hll := listB_len hv
  refine sw_skip ?_
  refine sw_seq ?_
  refine sO [(1, _), (2, _)] [(1, _)] ?_
  refine sw_draw hm_ ?_
  refine dA 0 ?_ (x := lF FRtx_fd_66_0)
  refine dA 1 ?_ (x := lD [PV.val _] FRtx_ty_3)
  refine dA 3 ?_ (x := cL [(false, [PV.val _])] [(false, [PV.val _])] FRtx_c_28 (hs := by exact (spec_FormatInt (by unfold I64; omega))))
  refine dA 7 ?_ (x := loc_sadd)
  refine dA 0 ?_ (x := lF FRtx_fd_66_1)
  refine dA 16 ?_ (x := lD [PV.sl .v _] FRtx_ty_41)
  refine dA 55 ?_ (x := cL [(false, [PV.sl _ _])] [(false, [PV.sl .v _])] FRtx_c_52 (hs := by exact (spec_l3List hv (by omega))))
  refine dA 127 ?_ (x := loc_sadd)
  refine dA 255 ?_ (x := sA)
  refine sw_ret ?_
  exact (And.intro (by refine sv_eq ?_; exact str_eq (by unfold fmtRow; rw [if_pos hok])) True.intro)
end Go.Proofs.YtaomckpfgmhapaaDoor
