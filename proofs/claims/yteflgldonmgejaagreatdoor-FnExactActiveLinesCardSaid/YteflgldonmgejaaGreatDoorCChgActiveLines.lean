/- What functions of the program compute. No condition. -/
import Derived.Test.YteflgldonmgejaaGreatDoorCNumActiveLines
import Derived.Test.YteflgldonmgejaaGreatDoorCSetActiveLines
import Derived.Test.YteflgldonmgejaaGreatDoorCDh
import Derived.KernelRfl
set_option linter.unusedVariables false
set_option linter.unusedSimpArgs false
namespace Go.Proofs.YteflgldonmgejaaGreatDoor
open Go Go.RowKit M
set_option maxRecDepth 10000
attribute [local irreducible] PV.Lcl PV.LclR RV.Lcl
theorem FChg_c_156 : callI Tryz.prog 156 = true := by kernel_rfl
theorem FChg_c_167 : callI Tryz.prog 167 = true := by kernel_rfl
theorem FChg_c_80 : callI Tryz.prog 80 = true := by kernel_rfl
theorem FChg_c_92 : callI Tryz.prog 92 = true := by kernel_rfl
theorem FChg_fd_136_0 : fieldI Tryz.prog 136 0 = some 0 := by kernel_rfl
theorem FChg_fd_136_1 : fieldI Tryz.prog 136 1 = some 1 := by kernel_rfl
theorem FChg_fd_136_2 : fieldI Tryz.prog 136 2 = some 2 := by kernel_rfl
theorem FChg_fd_136_3 : fieldI Tryz.prog 136 3 = some 3 := by kernel_rfl
theorem FChg_fd_136_4 : fieldI Tryz.prog 136 4 = some 4 := by kernel_rfl
theorem FChg_sl_25 : sliceI Tryz.prog 25 = some (3, 1, 8) := by kernel_rfl
theorem FChg_ty_25 : tyI Tryz.prog 25 = some (false, 1) := by kernel_rfl
theorem FChg_ty_3 : tyI Tryz.prog 3 = some (false, 1) := by kernel_rfl
theorem impl_IsCharge {x : Charge}  : SCall Tryz.prog 97 [(true, [PV.val (vI x.Segment), PV.val (vI x.Base), PV.sl .v (x.Ids.map cInt), PV.sl .v (x.Tenants.map cInt), PV.sl .v (x.Rows.map cInt)])] (resRV [(false, [PV.val (.bool (okCharge x))])]) := by
 refine scall_of (rs := [(false, [PV.val (.bool (okCharge x))])]) Tryz.func97 rfl (Nat.le_of_ble_eq_true rfl) (borA_cons (BorL.cons (PV.bor_val _) (BorL.cons (PV.bor_val _) (BorL.cons (PV.bor_sl _) (BorL.cons (PV.bor_sl _) (BorL.cons (PV.bor_sl _) BorL.nil))))) borA_nil) ?_
 intro h0 w0 Fz0
 refine sw_slen (s := 0) (j := 2) rfl rfl fun hl0_2 => ?_
 try rw [List.length_map] at hl0_2
 refine sw_slen (s := 0) (j := 3) rfl rfl fun hl0_3 => ?_
 try rw [List.length_map] at hl0_3
 refine sw_slen (s := 0) (j := 4) rfl rfl fun hl0_4 => ?_
 try rw [List.length_map] at hl0_4
 refine sw_seq ?_
 refine sw_reg ?_
 refine RunS.step (by exact ⟨rfl, ⟨⟩⟩) (by exact ⟨⟩) (LocG.of rfl (loc_box (ag := true) (cs := [PV.val _, PV.val _, PV.sl _ _, PV.sl _ _, PV.sl _ _]) (by decide) (by exact ⟨⟩))) (free1 (Free.of_ rfl)) ?_
 refine rA ?_ (x := kA)
 refine sw_seq ?_
 refine sO [(1, _), (2, _)] [(1, (136, [PV.val _, PV.val _, PV.sl _ _, PV.sl _ _, PV.sl _ _]))] ?_
 refine sw_reg ?_
 refine rA ?_ (x := lF FChg_fd_136_2)
 refine rA ?_ (x := lD [PV.sl .v _] FChg_ty_25)
 refine rA ?_ (x := lN FChg_sl_25)
 refine rA ?_ (x := sA)
 refine sw_seq ?_
 refine sw_seq ?_
 refine sO [(1, _), (2, _), (3, _)] [(1, _)] ?_
 refine sw_reg ?_
 refine rA ?_ (x := lF FChg_fd_136_2)
 refine rA ?_ (x := lD [PV.sl .v _] FChg_ty_25)
 refine rA ?_ (x := cL [(false, [PV.sl _ _])] [(false, [PV.sl .v _])] FChg_c_167 (hs := by exact impl_IsSet))
 refine rA ?_ (x := nT)
 refine rA ?_ (x := sM)
 refine RunS.cases (s := 12) rfl (fun g1 => ?_) (fun g1 => ?_)
 ·have sg1 := g1
  try simp only [q1, q2, q3, q4, q5, q6, q7, q8, q9] at sg1
  refine RunS.s0t g1 ?_
  refine RunS.s0t g1 ?_
  refine RunS.s0t g1 ?_
  refine rA ?_ (x := pkT g1)
  refine rA ?_ (x := sM)
  refine RunS.cases (s := 17) rfl (fun g2 => ?_) (fun g2 => nomatch g2)
  refine RunS.s0t g2 ?_
  refine RunS.s0t g2 ?_
  refine RunS.s0t g2 ?_
  refine RunS.s0t g2 ?_
  refine RunS.s0t g2 ?_
  refine rA ?_ (x := pkT g2)
  refine rA ?_ (x := sM)
  refine RunS.cases (s := 24) rfl (fun g3 => ?_) (fun g3 => nomatch g3)
  refine RunS.s0t g3 ?_
  refine RunS.s0t g3 ?_
  refine RunS.s0t g3 ?_
  refine RunS.s0t g3 ?_
  refine RunS.s0t g3 ?_
  refine rA ?_ (x := pkT g3)
  refine sw_cond (t := 30) rfl (fun hb_ => ?_) (fun hb_ => nomatch hb_)
  have hbad : okCharge x = false := by first | (simp_all [okCharge, chgPre, inB]; done) | (simp_all [okCharge, chgPre, inB]; rfl) | (simp_all [okCharge, chgPre, inB]; omega) | (simp_all [okCharge, chgPre, inB]; intros; omega)
  refine sw_seq ?_
  refine sO [(1, _), (2, _), (3, _)] [(1, _)] ?_
  refine sw_reg ?_
  refine rA ?_ (x := kA)
  refine sw_ret ?_
  exact (And.intro (by refine bool_eq ?_; exact hbad.symm) True.intro)
 ·have sg1 := g1
  try simp only [q1, q2, q3, q4, q5, q6, q7, q8, q9] at sg1
  refine rB g1 ?_ (x := sM)
  refine rB g1 ?_ (x := cL [(false, [PV.val _]), (false, [PV.val _]), (false, [PV.val _])] [(false, [PV.val _]), (false, [PV.val _]), (false, [PV.val _])] FChg_c_92 (hs := by exact impl_within))
  refine rB g1 ?_ (x := nT)
  refine rA ?_ (x := pkF g1)
  refine rA ?_ (x := sM)
  refine RunS.cases (s := 17) rfl (fun g5 => ?_) (fun g5 => ?_)
  ·have sg5 := g5
   try simp only [q1, q2, q3, q4, q5, q6, q7, q8, q9] at sg5
   refine RunS.s0t g5 ?_
   refine RunS.s0t g5 ?_
   refine RunS.s0t g5 ?_
   refine RunS.s0t g5 ?_
   refine RunS.s0t g5 ?_
   refine rA ?_ (x := pkT g5)
   refine rA ?_ (x := sM)
   refine RunS.cases (s := 24) rfl (fun g6 => ?_) (fun g6 => nomatch g6)
   refine RunS.s0t g6 ?_
   refine RunS.s0t g6 ?_
   refine RunS.s0t g6 ?_
   refine RunS.s0t g6 ?_
   refine RunS.s0t g6 ?_
   refine rA ?_ (x := pkT g6)
   refine sw_cond (t := 30) rfl (fun hb_ => ?_) (fun hb_ => nomatch hb_)
   have hbad : okCharge x = false := by first | (simp_all [okCharge, chgPre, inB]; done) | (simp_all [okCharge, chgPre, inB]; rfl) | (simp_all [okCharge, chgPre, inB]; omega) | (simp_all [okCharge, chgPre, inB]; intros; omega)
   refine sw_seq ?_
   refine sO [(1, _), (2, _), (3, _)] [(1, _)] ?_
   refine sw_reg ?_
   refine rA ?_ (x := kA)
   refine sw_ret ?_
   exact (And.intro (by refine bool_eq ?_; exact hbad.symm) True.intro)
  ·have sg5 := g5
   try simp only [q1, q2, q3, q4, q5, q6, q7, q8, q9] at sg5
   refine rB g5 ?_ (x := lF FChg_fd_136_3)
   refine rB g5 ?_ (x := lD [PV.sl .v _] FChg_ty_25)
   refine rB g5 ?_ (x := lN FChg_sl_25)
   refine rB g5 ?_ (x := sM)
   refine rB g5 ?_ (x := B_neq)
   refine rA ?_ (x := pkF g5)
   refine rA ?_ (x := sM)
   refine RunS.cases (s := 24) rfl (fun g8 => ?_) (fun g8 => ?_)
   ·have sg8 := g8
    try simp only [q1, q2, q3, q4, q5, q6, q7, q8, q9] at sg8
    refine RunS.s0t g8 ?_
    refine RunS.s0t g8 ?_
    refine RunS.s0t g8 ?_
    refine RunS.s0t g8 ?_
    refine RunS.s0t g8 ?_
    refine rA ?_ (x := pkT g8)
    refine sw_cond (t := 30) rfl (fun hb_ => ?_) (fun hb_ => nomatch hb_)
    have hbad : okCharge x = false := by first | (simp_all [okCharge, chgPre, inB]; done) | (simp_all [okCharge, chgPre, inB]; rfl) | (simp_all [okCharge, chgPre, inB]; omega) | (simp_all [okCharge, chgPre, inB]; intros; omega)
    refine sw_seq ?_
    refine sO [(1, _), (2, _), (3, _)] [(1, _)] ?_
    refine sw_reg ?_
    refine rA ?_ (x := kA)
    refine sw_ret ?_
    exact (And.intro (by refine bool_eq ?_; exact hbad.symm) True.intro)
   ·have sg8 := g8
    try simp only [q1, q2, q3, q4, q5, q6, q7, q8, q9] at sg8
    refine rB g8 ?_ (x := lF FChg_fd_136_4)
    refine rB g8 ?_ (x := lD [PV.sl .v _] FChg_ty_25)
    refine rB g8 ?_ (x := lN FChg_sl_25)
    refine rB g8 ?_ (x := sM)
    refine rB g8 ?_ (x := B_neq)
    refine rA ?_ (x := pkF g8)
    refine sw_cond (t := 30) rfl (fun hb10 => ?_) (fun hb10 => ?_)
    ·try simp only [q1, q2, q3, q4, q5, q6, q7, q8, q9] at hb10
     have hbad : okCharge x = false := by first | (simp_all [okCharge, chgPre, inB]; done) | (simp_all [okCharge, chgPre, inB]; rfl) | (simp_all [okCharge, chgPre, inB]; omega) | (simp_all [okCharge, chgPre, inB]; intros; omega)
     refine sw_seq ?_
     refine sO [(1, _), (2, _), (3, _)] [(1, _)] ?_
     refine sw_reg ?_
     refine rA ?_ (x := kA)
     refine sw_ret ?_
     exact (And.intro (by refine bool_eq ?_; exact hbad.symm) True.intro)
    ·try simp only [q1, q2, q3, q4, q5, q6, q7, q8, q9] at hb10
     have hpr : chgPre x = true := by
      unfold chgPre inB
      simp only [Bool.and_eq_true, decide_eq_true_eq]
      refine ⟨by first | assumption | simp_all, ?_⟩
      first | omega | (simp only [inB, Bool.and_eq_true, decide_eq_true_eq, Bool.not_eq_true, Bool.not_eq_false] at *; omega)
     have hpl := chg_pre hpr
     refine sw_skip ?_
     refine sw_seq ?_
     refine sw_seq ?_
     refine sO [(1, _), (2, _), (3, _)] [(1, _)] ?_
     refine sw_reg ?_
     refine rA ?_ (x := lF FChg_fd_136_2)
     refine rA ?_ (x := lD [PV.sl .v _] FChg_ty_25)
     refine rA ?_ (x := lN FChg_sl_25)
     refine rA ?_ (x := kM)
     refine sw_block ?_
     refine sO [(1, _), (2, _), (3, _), (33, _), (34, _)] [(1, _)] ?_
     refine sw_loop (l0 := [(1, RV.ptr 1 0), (3, RV.sv false [PV.val _]), (33, RV.sv false [PV.val _])]) (b0 := [(1, (136, [PV.val _, PV.val _, PV.sl _ _, PV.sl _ _, PV.sl _ _]))]) (fun k : Nat => k ≤ x.Ids.length ∧ chgTo x k = true) (fun k : Nat => [(34, RV.int (k : Int))]) (fun k : Nat => []) (fun k : Nat => x.Ids.length - k) 0 (by exact ⟨by omega, rfl⟩) (by exact ⟨rfl, rfl, rfl, ⟨⟩⟩) (by exact ⟨rfl, ⟨⟩⟩) (by exact And.intro (by exact rfl) (True.intro)) (by exact ⟨⟩) ?_
     rintro k ⟨hk, ha⟩
     refine sw_seq ?_
     refine sw_reg ?_
     refine rA ?_ (x := B_lss)
     refine sw_seq ?_
     refine sw_cond (t := 35) rfl (fun hb11 => ?_) (fun hb11 => ?_)
     ·try simp only [q1, q2, q3, q4, q5, q6, q7, q8, q9] at hb11
      have hlt : k < x.Ids.length := by omega
      have htl : k < x.Tenants.length := by omega
      have hrl : k < x.Rows.length := by omega
      refine sw_skip ?_
      refine sw_seq ?_
      refine sw_block ?_
      refine sw_seq ?_
      refine sO [(1, _), (3, _), (33, _), (34, _)] [(1, (136, [PV.val _, PV.val _, PV.sl _ _, PV.sl _ _, PV.sl _ _]))] ?_
      refine sw_reg ?_
      refine rA ?_ (x := sM)
      refine rA ?_ (x := sA)
      refine sw_seq ?_
      refine sO [(1, _), (3, _), (4, _), (33, _), (34, _)] [(1, _)] ?_
      refine sw_draw hm_ ?_
      refine dA 0 ?_ (x := lF FChg_fd_136_3)
      refine dA 1 ?_ (x := lD [PV.sl .v _] FChg_ty_25)
      refine dA 0 ?_ (x := sM)
      refine dA 7 ?_ (x := loc_index (k := k) (by decide) FChg_sl_25 (by exact ⟨⟩) (by rfl) (by exact getm2 (by omega) (by rw [gDt_ (d := 0) (by omega)])) (by exact rfl))
      refine dA 15 ?_ (x := lE [PV.val _] FChg_ty_3)
      refine dA 31 ?_ (x := cL [(false, [PV.val _]), (false, [PV.val _]), (false, [PV.val _])] [(false, [PV.val _]), (false, [PV.val _]), (false, [PV.val _])] FChg_c_92 (hs := by exact impl_within))
      refine dA 63 ?_ (x := nT)
      refine dA 127 ?_ (x := sM)
      refine Run.cases (s := 44) rfl (fun g12 => ?_) (fun g12 => ?_)
      ·have sg12 := g12
       try simp only [q1, q2, q3, q4, q5, q6, q7, q8, q9] at sg12
       refine dT 255 g12 ?_
       refine dT 511 g12 ?_
       refine dT 255 g12 ?_
       refine dT 2047 g12 ?_
       refine dT 4095 g12 ?_
       refine dT 255 g12 ?_
       refine dT 8447 g12 ?_
       refine dT 32767 g12 ?_
       refine dT 65535 g12 ?_
       refine dA 131071 ?_ (x := pkT g12)
       refine sw_cond (t := 54) rfl (fun hb_ => ?_) (fun hb_ => nomatch hb_)
       have hno : chgAt x k = false := by simp_all [chgAt]
       refine sw_seq ?_
       refine sO [(1, _), (3, _), (4, _), (33, _), (34, _)] [(1, _)] ?_
       refine sw_reg ?_
       refine rA ?_ (x := kA)
       refine sw_ret ?_
       exact (And.intro (by refine bool_eq ?_; exact (chg_no hlt hno).symm) True.intro)
      ·have sg12 := g12
       try simp only [q1, q2, q3, q4, q5, q6, q7, q8, q9] at sg12
       refine dB 255 g12 ?_ (x := lF FChg_fd_136_4)
       refine dB 511 g12 ?_ (x := lD [PV.sl .v _] FChg_ty_25)
       refine dB 255 g12 ?_ (x := sM)
       refine dB 2047 g12 ?_ (x := loc_index (k := k) (by decide) FChg_sl_25 (by exact ⟨⟩) (by rfl) (by exact getm2 (by omega) (by rw [gDt_ (d := 0) (by omega)])) (by exact rfl))
       refine dB 4095 g12 ?_ (x := lE [PV.val _] FChg_ty_3)
       refine dB 255 g12 ?_ (x := lF FChg_fd_136_1)
       refine dB 8447 g12 ?_ (x := lD [PV.val _] FChg_ty_3)
       refine dB 32767 g12 ?_ (x := cL [(false, [PV.val _]), (false, [PV.val _]), (false, [PV.val _])] [(false, [PV.val _]), (false, [PV.val _]), (false, [PV.val _])] FChg_c_92 (hs := by exact impl_within))
       refine dB 65535 g12 ?_ (x := nT)
       refine dA 131071 ?_ (x := pkF g12)
       refine sw_cond (t := 54) rfl (fun hb14 => ?_) (fun hb14 => ?_)
       ·try simp only [q1, q2, q3, q4, q5, q6, q7, q8, q9] at hb14
        have hno : chgAt x k = false := by simp_all [chgAt]
        refine sw_seq ?_
        refine sO [(1, _), (3, _), (4, _), (33, _), (34, _)] [(1, _)] ?_
        refine sw_reg ?_
        refine rA ?_ (x := kA)
        refine sw_ret ?_
        exact (And.intro (by refine bool_eq ?_; exact (chg_no hlt hno).symm) True.intro)
       ·try simp only [q1, q2, q3, q4, q5, q6, q7, q8, q9] at hb14
        have hyes : chgAt x k = true := by simp_all [chgAt]
        refine sw_skip ?_
        refine sO [(1, _), (3, _), (4, _), (33, _), (34, _)] [(1, _)] ?_
        refine sw_reg ?_
        refine rA ?_ (x := B_add)
        refine rA ?_ (x := sM)
        refine Exists.intro (k + 1) (And.intro (by exact ⟨by omega, by rw [chgTo_succ, ha, hyes]; rfl⟩) (And.intro (by omega) (And.intro (And.intro (by exact ⟨rfl, rfl, rfl, ⟨⟩⟩) (by exact ⟨rfl, ⟨⟩⟩)) (And.intro (by exact And.intro (by exact rfl) (True.intro)) (by exact ⟨⟩)))))
     ·try simp only [q1, q2, q3, q4, q5, q6, q7, q8, q9] at hb11
      have hend : k = x.Ids.length := by omega
      rw [hend] at ha
      refine sw_exit ?_
      refine sw_seq ?_
      refine sO [(1, _), (3, _), (33, _), (34, _)] [(1, (136, [PV.val _, PV.val _, PV.sl _ _, PV.sl _ _, PV.sl _ _]))] ?_
      refine sw_reg ?_
      refine rA ?_ (x := lF FChg_fd_136_0)
      refine rA ?_ (x := lD [PV.val _] FChg_ty_3)
      refine rA ?_ (x := cL [(false, [PV.val _]), (false, [PV.val _]), (false, [PV.val _])] [(false, [PV.val _]), (false, [PV.val _]), (false, [PV.val _])] FChg_c_92 (hs := by exact impl_within))
      refine rA ?_ (x := sM)
      refine RunS.cases (s := 59) rfl (fun g15 => ?_) (fun g15 => ?_)
      ·have sg15 := g15
       try simp only [q1, q2, q3, q4, q5, q6, q7, q8, q9] at sg15
       refine rB g15 ?_ (x := lF FChg_fd_136_1)
       refine rB g15 ?_ (x := lD [PV.val _] FChg_ty_3)
       refine rB g15 ?_ (x := cL [(false, [PV.val _]), (false, [PV.val _]), (false, [PV.val _])] [(false, [PV.val _]), (false, [PV.val _]), (false, [PV.val _])] FChg_c_92 (hs := by exact impl_within))
       refine rA ?_ (x := pkT g15)
       refine rA ?_ (x := sA)
       refine sw_ret ?_
       exact (And.intro (by refine bool_eq ?_; simp_all [okCharge]) True.intro)
      ·have sg15 := g15
       try simp only [q1, q2, q3, q4, q5, q6, q7, q8, q9] at sg15
       refine RunS.s0f g15 ?_
       refine RunS.s0f g15 ?_
       refine RunS.s0f g15 ?_
       refine rA ?_ (x := pkF g15)
       refine rA ?_ (x := sA)
       refine sw_ret ?_
       exact (And.intro (by refine bool_eq ?_; simp_all [okCharge]) True.intro)
theorem spec_IsCharge {x : Charge}  : SCall Tryz.prog 85 [(true, [PV.val (vI x.Segment), PV.val (vI x.Base), PV.sl .v (x.Ids.map cInt), PV.sl .v (x.Tenants.map cInt), PV.sl .v (x.Rows.map cInt)])] (resRV [(false, [PV.val (.bool (okCharge x))])]) := by
 refine scall_of (rs := [(false, [PV.val (.bool (okCharge x))])]) Tryz.func85 rfl (Nat.le_of_ble_eq_true rfl) (borA_cons (BorL.cons (PV.bor_val _) (BorL.cons (PV.bor_val _) (BorL.cons (PV.bor_sl _) (BorL.cons (PV.bor_sl _) (BorL.cons (PV.bor_sl _) BorL.nil))))) borA_nil) ?_
 intro h0 w0 Fz0
 refine sw_slen (s := 0) (j := 2) rfl rfl fun hl0_2 => ?_
 try rw [List.length_map] at hl0_2
 refine sw_slen (s := 0) (j := 3) rfl rfl fun hl0_3 => ?_
 try rw [List.length_map] at hl0_3
 refine sw_slen (s := 0) (j := 4) rfl rfl fun hl0_4 => ?_
 try rw [List.length_map] at hl0_4
 refine sw_seq ?_
 refine sw_reg ?_
 refine RunS.step (by exact ⟨rfl, ⟨⟩⟩) (by exact ⟨⟩) (LocG.of rfl (loc_box (ag := true) (cs := [PV.val _, PV.val _, PV.sl _ _, PV.sl _ _, PV.sl _ _]) (by decide) (by exact ⟨⟩))) (free1 (Free.of_ rfl)) ?_
 refine rA ?_ (x := kA)
 refine sw_seq ?_
 refine sO [(1, _), (2, _)] [(1, (136, [PV.val _, PV.val _, PV.sl _ _, PV.sl _ _, PV.sl _ _]))] ?_
 refine sw_reg ?_
 refine rA ?_ (x := lF FChg_fd_136_2)
 refine rA ?_ (x := lD [PV.sl .v _] FChg_ty_25)
 refine rA ?_ (x := lN FChg_sl_25)
 refine rA ?_ (x := sA)
 refine sw_seq ?_
 refine sw_seq ?_
 refine sO [(1, _), (2, _), (3, _)] [(1, _)] ?_
 refine sw_reg ?_
 refine rA ?_ (x := lF FChg_fd_136_2)
 refine rA ?_ (x := lD [PV.sl .v _] FChg_ty_25)
 refine rA ?_ (x := cL [(false, [PV.sl _ _])] [(false, [PV.sl .v _])] FChg_c_156 (hs := by exact spec_IsSet))
 refine rA ?_ (x := nT)
 refine rA ?_ (x := sM)
 refine RunS.cases (s := 12) rfl (fun g1 => ?_) (fun g1 => ?_)
 ·have sg1 := g1
  try simp only [q1, q2, q3, q4, q5, q6, q7, q8, q9] at sg1
  refine RunS.s0t g1 ?_
  refine RunS.s0t g1 ?_
  refine rA ?_ (x := pkT g1)
  refine rA ?_ (x := sM)
  refine RunS.cases (s := 16) rfl (fun g2 => ?_) (fun g2 => nomatch g2)
  refine RunS.s0t g2 ?_
  refine RunS.s0t g2 ?_
  refine rA ?_ (x := pkT g2)
  refine rA ?_ (x := sM)
  refine RunS.cases (s := 20) rfl (fun g3 => ?_) (fun g3 => nomatch g3)
  refine RunS.s0t g3 ?_
  refine RunS.s0t g3 ?_
  refine RunS.s0t g3 ?_
  refine RunS.s0t g3 ?_
  refine RunS.s0t g3 ?_
  refine rA ?_ (x := pkT g3)
  refine rA ?_ (x := sM)
  refine RunS.cases (s := 27) rfl (fun g4 => ?_) (fun g4 => nomatch g4)
  refine RunS.s0t g4 ?_
  refine RunS.s0t g4 ?_
  refine RunS.s0t g4 ?_
  refine RunS.s0t g4 ?_
  refine RunS.s0t g4 ?_
  refine rA ?_ (x := pkT g4)
  refine rA ?_ (x := sM)
  refine RunS.cases (s := 34) rfl (fun g5 => ?_) (fun g5 => nomatch g5)
  refine RunS.s0t g5 ?_
  refine RunS.s0t g5 ?_
  refine RunS.s0t g5 ?_
  refine RunS.s0t g5 ?_
  refine rA ?_ (x := pkT g5)
  refine rA ?_ (x := sM)
  refine RunS.cases (s := 40) rfl (fun g6 => ?_) (fun g6 => nomatch g6)
  refine RunS.s0t g6 ?_
  refine RunS.s0t g6 ?_
  refine RunS.s0t g6 ?_
  refine RunS.s0t g6 ?_
  refine rA ?_ (x := pkT g6)
  refine sw_cond (t := 45) rfl (fun hb_ => ?_) (fun hb_ => nomatch hb_)
  have hbad : okCharge x = false := by first | (simp_all [okCharge, chgPre, inB]; done) | (simp_all [okCharge, chgPre, inB]; rfl) | (simp_all [okCharge, chgPre, inB]; omega) | (simp_all [okCharge, chgPre, inB]; intros; omega)
  refine sw_seq ?_
  refine sO [(1, _), (2, _), (3, _)] [(1, _)] ?_
  refine sw_reg ?_
  refine rA ?_ (x := kA)
  refine sw_ret ?_
  exact (And.intro (by refine bool_eq ?_; exact hbad.symm) True.intro)
 ·have sg1 := g1
  try simp only [q1, q2, q3, q4, q5, q6, q7, q8, q9] at sg1
  refine rB g1 ?_ (x := sM)
  refine rB g1 ?_ (x := B_eql)
  refine rA ?_ (x := pkF g1)
  refine rA ?_ (x := sM)
  refine RunS.cases (s := 16) rfl (fun g8 => ?_) (fun g8 => ?_)
  ·have sg8 := g8
   try simp only [q1, q2, q3, q4, q5, q6, q7, q8, q9] at sg8
   refine RunS.s0t g8 ?_
   refine RunS.s0t g8 ?_
   refine rA ?_ (x := pkT g8)
   refine rA ?_ (x := sM)
   refine RunS.cases (s := 20) rfl (fun g9 => ?_) (fun g9 => nomatch g9)
   refine RunS.s0t g9 ?_
   refine RunS.s0t g9 ?_
   refine RunS.s0t g9 ?_
   refine RunS.s0t g9 ?_
   refine RunS.s0t g9 ?_
   refine rA ?_ (x := pkT g9)
   refine rA ?_ (x := sM)
   refine RunS.cases (s := 27) rfl (fun g10 => ?_) (fun g10 => nomatch g10)
   refine RunS.s0t g10 ?_
   refine RunS.s0t g10 ?_
   refine RunS.s0t g10 ?_
   refine RunS.s0t g10 ?_
   refine RunS.s0t g10 ?_
   refine rA ?_ (x := pkT g10)
   refine rA ?_ (x := sM)
   refine RunS.cases (s := 34) rfl (fun g11 => ?_) (fun g11 => nomatch g11)
   refine RunS.s0t g11 ?_
   refine RunS.s0t g11 ?_
   refine RunS.s0t g11 ?_
   refine RunS.s0t g11 ?_
   refine rA ?_ (x := pkT g11)
   refine rA ?_ (x := sM)
   refine RunS.cases (s := 40) rfl (fun g12 => ?_) (fun g12 => nomatch g12)
   refine RunS.s0t g12 ?_
   refine RunS.s0t g12 ?_
   refine RunS.s0t g12 ?_
   refine RunS.s0t g12 ?_
   refine rA ?_ (x := pkT g12)
   refine sw_cond (t := 45) rfl (fun hb_ => ?_) (fun hb_ => nomatch hb_)
   have hbad : okCharge x = false := by first | (simp_all [okCharge, chgPre, inB]; done) | (simp_all [okCharge, chgPre, inB]; rfl) | (simp_all [okCharge, chgPre, inB]; omega) | (simp_all [okCharge, chgPre, inB]; intros; omega)
   refine sw_seq ?_
   refine sO [(1, _), (2, _), (3, _)] [(1, _)] ?_
   refine sw_reg ?_
   refine rA ?_ (x := kA)
   refine sw_ret ?_
   exact (And.intro (by refine bool_eq ?_; exact hbad.symm) True.intro)
  ·have sg8 := g8
   try simp only [q1, q2, q3, q4, q5, q6, q7, q8, q9] at sg8
   refine rB g8 ?_ (x := sM)
   refine rB g8 ?_ (x := B_gtr)
   refine rA ?_ (x := pkF g8)
   refine rA ?_ (x := sM)
   refine RunS.cases (s := 20) rfl (fun g14 => ?_) (fun g14 => ?_)
   ·have sg14 := g14
    try simp only [q1, q2, q3, q4, q5, q6, q7, q8, q9] at sg14
    refine RunS.s0t g14 ?_
    refine RunS.s0t g14 ?_
    refine RunS.s0t g14 ?_
    refine RunS.s0t g14 ?_
    refine RunS.s0t g14 ?_
    refine rA ?_ (x := pkT g14)
    refine rA ?_ (x := sM)
    refine RunS.cases (s := 27) rfl (fun g15 => ?_) (fun g15 => nomatch g15)
    refine RunS.s0t g15 ?_
    refine RunS.s0t g15 ?_
    refine RunS.s0t g15 ?_
    refine RunS.s0t g15 ?_
    refine RunS.s0t g15 ?_
    refine rA ?_ (x := pkT g15)
    refine rA ?_ (x := sM)
    refine RunS.cases (s := 34) rfl (fun g16 => ?_) (fun g16 => nomatch g16)
    refine RunS.s0t g16 ?_
    refine RunS.s0t g16 ?_
    refine RunS.s0t g16 ?_
    refine RunS.s0t g16 ?_
    refine rA ?_ (x := pkT g16)
    refine rA ?_ (x := sM)
    refine RunS.cases (s := 40) rfl (fun g17 => ?_) (fun g17 => nomatch g17)
    refine RunS.s0t g17 ?_
    refine RunS.s0t g17 ?_
    refine RunS.s0t g17 ?_
    refine RunS.s0t g17 ?_
    refine rA ?_ (x := pkT g17)
    refine sw_cond (t := 45) rfl (fun hb_ => ?_) (fun hb_ => nomatch hb_)
    have hbad : okCharge x = false := by first | (simp_all [okCharge, chgPre, inB]; done) | (simp_all [okCharge, chgPre, inB]; rfl) | (simp_all [okCharge, chgPre, inB]; omega) | (simp_all [okCharge, chgPre, inB]; intros; omega)
    refine sw_seq ?_
    refine sO [(1, _), (2, _), (3, _)] [(1, _)] ?_
    refine sw_reg ?_
    refine rA ?_ (x := kA)
    refine sw_ret ?_
    exact (And.intro (by refine bool_eq ?_; exact hbad.symm) True.intro)
   ·have sg14 := g14
    try simp only [q1, q2, q3, q4, q5, q6, q7, q8, q9] at sg14
    refine rB g14 ?_ (x := lF FChg_fd_136_3)
    refine rB g14 ?_ (x := lD [PV.sl .v _] FChg_ty_25)
    refine rB g14 ?_ (x := lN FChg_sl_25)
    refine rB g14 ?_ (x := sM)
    refine rB g14 ?_ (x := B_neq)
    refine rA ?_ (x := pkF g14)
    refine rA ?_ (x := sM)
    refine RunS.cases (s := 27) rfl (fun g19 => ?_) (fun g19 => ?_)
    ·have sg19 := g19
     try simp only [q1, q2, q3, q4, q5, q6, q7, q8, q9] at sg19
     refine RunS.s0t g19 ?_
     refine RunS.s0t g19 ?_
     refine RunS.s0t g19 ?_
     refine RunS.s0t g19 ?_
     refine RunS.s0t g19 ?_
     refine rA ?_ (x := pkT g19)
     refine rA ?_ (x := sM)
     refine RunS.cases (s := 34) rfl (fun g20 => ?_) (fun g20 => nomatch g20)
     refine RunS.s0t g20 ?_
     refine RunS.s0t g20 ?_
     refine RunS.s0t g20 ?_
     refine RunS.s0t g20 ?_
     refine rA ?_ (x := pkT g20)
     refine rA ?_ (x := sM)
     refine RunS.cases (s := 40) rfl (fun g21 => ?_) (fun g21 => nomatch g21)
     refine RunS.s0t g21 ?_
     refine RunS.s0t g21 ?_
     refine RunS.s0t g21 ?_
     refine RunS.s0t g21 ?_
     refine rA ?_ (x := pkT g21)
     refine sw_cond (t := 45) rfl (fun hb_ => ?_) (fun hb_ => nomatch hb_)
     have hbad : okCharge x = false := by first | (simp_all [okCharge, chgPre, inB]; done) | (simp_all [okCharge, chgPre, inB]; rfl) | (simp_all [okCharge, chgPre, inB]; omega) | (simp_all [okCharge, chgPre, inB]; intros; omega)
     refine sw_seq ?_
     refine sO [(1, _), (2, _), (3, _)] [(1, _)] ?_
     refine sw_reg ?_
     refine rA ?_ (x := kA)
     refine sw_ret ?_
     exact (And.intro (by refine bool_eq ?_; exact hbad.symm) True.intro)
    ·have sg19 := g19
     try simp only [q1, q2, q3, q4, q5, q6, q7, q8, q9] at sg19
     refine rB g19 ?_ (x := lF FChg_fd_136_4)
     refine rB g19 ?_ (x := lD [PV.sl .v _] FChg_ty_25)
     refine rB g19 ?_ (x := lN FChg_sl_25)
     refine rB g19 ?_ (x := sM)
     refine rB g19 ?_ (x := B_neq)
     refine rA ?_ (x := pkF g19)
     refine rA ?_ (x := sM)
     refine RunS.cases (s := 34) rfl (fun g23 => ?_) (fun g23 => ?_)
     ·have sg23 := g23
      try simp only [q1, q2, q3, q4, q5, q6, q7, q8, q9] at sg23
      refine RunS.s0t g23 ?_
      refine RunS.s0t g23 ?_
      refine RunS.s0t g23 ?_
      refine RunS.s0t g23 ?_
      refine rA ?_ (x := pkT g23)
      refine rA ?_ (x := sM)
      refine RunS.cases (s := 40) rfl (fun g24 => ?_) (fun g24 => nomatch g24)
      refine RunS.s0t g24 ?_
      refine RunS.s0t g24 ?_
      refine RunS.s0t g24 ?_
      refine RunS.s0t g24 ?_
      refine rA ?_ (x := pkT g24)
      refine sw_cond (t := 45) rfl (fun hb_ => ?_) (fun hb_ => nomatch hb_)
      have hbad : okCharge x = false := by first | (simp_all [okCharge, chgPre, inB]; done) | (simp_all [okCharge, chgPre, inB]; rfl) | (simp_all [okCharge, chgPre, inB]; omega) | (simp_all [okCharge, chgPre, inB]; intros; omega)
      refine sw_seq ?_
      refine sO [(1, _), (2, _), (3, _)] [(1, _)] ?_
      refine sw_reg ?_
      refine rA ?_ (x := kA)
      refine sw_ret ?_
      exact (And.intro (by refine bool_eq ?_; exact hbad.symm) True.intro)
     ·have sg23 := g23
      try simp only [q1, q2, q3, q4, q5, q6, q7, q8, q9] at sg23
      refine rB g23 ?_ (x := lF FChg_fd_136_0)
      refine rB g23 ?_ (x := lD [PV.val _] FChg_ty_3)
      refine rB g23 ?_ (x := cL [(false, [PV.val _]), (false, [PV.val _]), (false, [PV.val _])] [(false, [PV.val _]), (false, [PV.val _]), (false, [PV.val _])] FChg_c_80 (hs := by exact spec_l1In))
      refine rB g23 ?_ (x := nT)
      refine rA ?_ (x := pkF g23)
      refine rA ?_ (x := sM)
      refine RunS.cases (s := 40) rfl (fun g26 => ?_) (fun g26 => ?_)
      ·have sg26 := g26
       try simp only [q1, q2, q3, q4, q5, q6, q7, q8, q9] at sg26
       refine RunS.s0t g26 ?_
       refine RunS.s0t g26 ?_
       refine RunS.s0t g26 ?_
       refine RunS.s0t g26 ?_
       refine rA ?_ (x := pkT g26)
       refine sw_cond (t := 45) rfl (fun hb_ => ?_) (fun hb_ => nomatch hb_)
       have hbad : okCharge x = false := by first | (simp_all [okCharge, chgPre, inB]; done) | (simp_all [okCharge, chgPre, inB]; rfl) | (simp_all [okCharge, chgPre, inB]; omega) | (simp_all [okCharge, chgPre, inB]; intros; omega)
       refine sw_seq ?_
       refine sO [(1, _), (2, _), (3, _)] [(1, _)] ?_
       refine sw_reg ?_
       refine rA ?_ (x := kA)
       refine sw_ret ?_
       exact (And.intro (by refine bool_eq ?_; exact hbad.symm) True.intro)
      ·have sg26 := g26
       try simp only [q1, q2, q3, q4, q5, q6, q7, q8, q9] at sg26
       refine rB g26 ?_ (x := lF FChg_fd_136_1)
       refine rB g26 ?_ (x := lD [PV.val _] FChg_ty_3)
       refine rB g26 ?_ (x := cL [(false, [PV.val _]), (false, [PV.val _]), (false, [PV.val _])] [(false, [PV.val _]), (false, [PV.val _]), (false, [PV.val _])] FChg_c_80 (hs := by exact spec_l1In))
       refine rB g26 ?_ (x := nT)
       refine rA ?_ (x := pkF g26)
       refine sw_cond (t := 45) rfl (fun hb28 => ?_) (fun hb28 => ?_)
       ·try simp only [q1, q2, q3, q4, q5, q6, q7, q8, q9] at hb28
        have hbad : okCharge x = false := by first | (simp_all [okCharge, chgPre, inB]; done) | (simp_all [okCharge, chgPre, inB]; rfl) | (simp_all [okCharge, chgPre, inB]; omega) | (simp_all [okCharge, chgPre, inB]; intros; omega)
        refine sw_seq ?_
        refine sO [(1, _), (2, _), (3, _)] [(1, _)] ?_
        refine sw_reg ?_
        refine rA ?_ (x := kA)
        refine sw_ret ?_
        exact (And.intro (by refine bool_eq ?_; exact hbad.symm) True.intro)
       ·try simp only [q1, q2, q3, q4, q5, q6, q7, q8, q9] at hb28
        have hpr : chgPre x = true := by
         unfold chgPre inB
         simp only [Bool.and_eq_true, decide_eq_true_eq]
         refine ⟨by first | assumption | simp_all, ?_⟩
         first | omega | (simp only [inB, Bool.and_eq_true, decide_eq_true_eq, Bool.not_eq_true, Bool.not_eq_false] at *; omega)
        have hpl := chg_pre hpr
        have hsb : (inB x.Segment 0 7 && inB x.Base 0 4) = true := by simp_all
        refine sw_skip ?_
        refine sw_seq ?_
        refine sw_seq ?_
        refine sO [(1, _), (2, _), (3, _)] [(1, _)] ?_
        refine sw_reg ?_
        refine rA ?_ (x := kA)
        refine sw_block ?_
        refine sO [(1, _), (2, _), (3, _), (4, _)] [(1, _)] ?_
        refine sw_loop (l0 := [(1, RV.ptr 1 0), (3, RV.sv false [PV.val _])]) (b0 := [(1, (136, [PV.val _, PV.val _, PV.sl _ _, PV.sl _ _, PV.sl _ _]))]) (fun k : Nat => k ≤ x.Ids.length ∧ chgTo x k = true) (fun k : Nat => [(4, RV.int (k : Int))]) (fun k : Nat => []) (fun k : Nat => x.Ids.length - k) 0 (by exact ⟨by omega, rfl⟩) (by exact ⟨rfl, rfl, ⟨⟩⟩) (by exact ⟨rfl, ⟨⟩⟩) (by exact And.intro (by exact rfl) (True.intro)) (by exact ⟨⟩) ?_
        rintro k ⟨hk, ha⟩
        refine sw_seq ?_
        refine sw_seq ?_
        refine sw_reg ?_
        refine rA ?_ (x := sM)
        refine rA ?_ (x := sM)
        refine rA ?_ (x := B_lss)
        refine sw_cond (t := 48) rfl (fun hb29 => ?_) (fun hb29 => ?_)
        ·try simp only [q1, q2, q3, q4, q5, q6, q7, q8, q9] at hb29
         have hlt : k < x.Ids.length := by omega
         have htl : k < x.Tenants.length := by omega
         have hrl : k < x.Rows.length := by omega
         refine sw_skip ?_
         refine sw_seq ?_
         refine sw_block ?_
         refine sw_seq ?_
         refine sO [(1, _), (3, _), (4, _)] [(1, (136, [PV.val _, PV.val _, PV.sl _ _, PV.sl _ _, PV.sl _ _]))] ?_
         refine sw_draw hm_ ?_
         refine dA 0 ?_ (x := lF FChg_fd_136_3)
         refine dA 1 ?_ (x := lD [PV.sl .v _] FChg_ty_25)
         refine dA 0 ?_ (x := sM)
         refine dA 7 ?_ (x := loc_index (k := k) (by decide) FChg_sl_25 (by exact ⟨⟩) (by rfl) (by exact getm2 (by omega) (by rw [gDt_ (d := 0) (by omega)])) (by exact rfl))
         refine dA 15 ?_ (x := lE [PV.val _] FChg_ty_3)
         refine dA 31 ?_ (x := cL [(false, [PV.val _]), (false, [PV.val _]), (false, [PV.val _])] [(false, [PV.val _]), (false, [PV.val _]), (false, [PV.val _])] FChg_c_80 (hs := by exact spec_l1In))
         refine dA 63 ?_ (x := nT)
         refine dA 127 ?_ (x := sM)
         refine Run.cases (s := 58) rfl (fun g30 => ?_) (fun g30 => ?_)
         ·have sg30 := g30
          try simp only [q1, q2, q3, q4, q5, q6, q7, q8, q9] at sg30
          refine dT 255 g30 ?_
          refine dT 511 g30 ?_
          refine dT 255 g30 ?_
          refine dT 2047 g30 ?_
          refine dT 4095 g30 ?_
          refine dT 255 g30 ?_
          refine dT 8447 g30 ?_
          refine dT 32767 g30 ?_
          refine dT 65535 g30 ?_
          refine dA 131071 ?_ (x := pkT g30)
          refine sw_cond (t := 68) rfl (fun hb_ => ?_) (fun hb_ => nomatch hb_)
          have hno : chgAt x k = false := by simp_all [chgAt]
          refine sw_seq ?_
          refine sO [(1, _), (3, _), (4, _)] [(1, _)] ?_
          refine sw_reg ?_
          refine rA ?_ (x := kA)
          refine sw_ret ?_
          exact (And.intro (by refine bool_eq ?_; exact (chg_no hlt hno).symm) True.intro)
         ·have sg30 := g30
          try simp only [q1, q2, q3, q4, q5, q6, q7, q8, q9] at sg30
          refine dB 255 g30 ?_ (x := lF FChg_fd_136_4)
          refine dB 511 g30 ?_ (x := lD [PV.sl .v _] FChg_ty_25)
          refine dB 255 g30 ?_ (x := sM)
          refine dB 2047 g30 ?_ (x := loc_index (k := k) (by decide) FChg_sl_25 (by exact ⟨⟩) (by rfl) (by exact getm2 (by omega) (by rw [gDt_ (d := 0) (by omega)])) (by exact rfl))
          refine dB 4095 g30 ?_ (x := lE [PV.val _] FChg_ty_3)
          refine dB 255 g30 ?_ (x := lF FChg_fd_136_1)
          refine dB 8447 g30 ?_ (x := lD [PV.val _] FChg_ty_3)
          refine dB 32767 g30 ?_ (x := cL [(false, [PV.val _]), (false, [PV.val _]), (false, [PV.val _])] [(false, [PV.val _]), (false, [PV.val _]), (false, [PV.val _])] FChg_c_80 (hs := by exact spec_l1In))
          refine dB 65535 g30 ?_ (x := nT)
          refine dA 131071 ?_ (x := pkF g30)
          refine sw_cond (t := 68) rfl (fun hb32 => ?_) (fun hb32 => ?_)
          ·try simp only [q1, q2, q3, q4, q5, q6, q7, q8, q9] at hb32
           have hno : chgAt x k = false := by simp_all [chgAt]
           refine sw_seq ?_
           refine sO [(1, _), (3, _), (4, _)] [(1, _)] ?_
           refine sw_reg ?_
           refine rA ?_ (x := kA)
           refine sw_ret ?_
           exact (And.intro (by refine bool_eq ?_; exact (chg_no hlt hno).symm) True.intro)
          ·try simp only [q1, q2, q3, q4, q5, q6, q7, q8, q9] at hb32
           have hyes : chgAt x k = true := by simp_all [chgAt]
           refine sw_skip ?_
           refine sO [(1, _), (3, _), (4, _)] [(1, _)] ?_
           refine sw_reg ?_
           refine rA ?_ (x := sM)
           refine rA ?_ (x := B_add)
           refine rA ?_ (x := sA)
           refine Exists.intro (k + 1) (And.intro (by exact ⟨by omega, by rw [chgTo_succ, ha, hyes]; rfl⟩) (And.intro (by omega) (And.intro (And.intro (by exact ⟨rfl, rfl, ⟨⟩⟩) (by exact ⟨rfl, ⟨⟩⟩)) (And.intro (by exact And.intro (by exact rfl) (True.intro)) (by exact ⟨⟩)))))
        ·try simp only [q1, q2, q3, q4, q5, q6, q7, q8, q9] at hb29
         have hend : k = x.Ids.length := by omega
         rw [hend] at ha
         refine sw_exit ?_
         refine sw_seq ?_
         refine sO [(1, _), (3, _), (4, _)] [(1, (136, [PV.val _, PV.val _, PV.sl _ _, PV.sl _ _, PV.sl _ _]))] ?_
         refine sw_reg ?_
         refine rA ?_ (x := kA)
         refine sw_ret ?_
         exact (And.intro (by refine bool_eq ?_; simp_all [okCharge]) True.intro)
end Go.Proofs.YteflgldonmgejaaGreatDoor
