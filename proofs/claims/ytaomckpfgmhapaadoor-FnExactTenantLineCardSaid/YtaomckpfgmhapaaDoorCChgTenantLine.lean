/- What functions of the program compute. No condition. -/
import Derived.Test.YtaomckpfgmhapaaDoorCNumTenantLine
import Derived.Test.YtaomckpfgmhapaaDoorCSetTenantLine
import Derived.Test.YtaomckpfgmhapaaDoorCDh
import Derived.KernelRfl
set_option linter.unusedVariables false
set_option linter.unusedSimpArgs false
namespace Go.Proofs.YtaomckpfgmhapaaDoor
open Go Go.RowKit M
set_option maxRecDepth 10000
attribute [local irreducible] PV.Lcl PV.LclR RV.Lcl
theorem FChg_c_109 : callI Tryd.prog 109 = true := by kernel_rfl
theorem FChg_c_111 : callI Tryd.prog 111 = true := by kernel_rfl
theorem FChg_c_123 : callI Tryd.prog 123 = true := by kernel_rfl
theorem FChg_c_125 : callI Tryd.prog 125 = true := by kernel_rfl
theorem FChg_c_39 : callI Tryd.prog 39 = true := by kernel_rfl
theorem FChg_c_43 : callI Tryd.prog 43 = true := by kernel_rfl
theorem FChg_c_72 : callI Tryd.prog 72 = true := by kernel_rfl
theorem FChg_c_73 : callI Tryd.prog 73 = true := by kernel_rfl
theorem FChg_c_76 : callI Tryd.prog 76 = true := by kernel_rfl
theorem FChg_c_77 : callI Tryd.prog 77 = true := by kernel_rfl
theorem FChg_fd_80_0 : fieldI Tryd.prog 80 0 = some 0 := by kernel_rfl
theorem FChg_fd_80_1 : fieldI Tryd.prog 80 1 = some 1 := by kernel_rfl
theorem FChg_fd_80_2 : fieldI Tryd.prog 80 2 = some 2 := by kernel_rfl
theorem FChg_fd_80_3 : fieldI Tryd.prog 80 3 = some 3 := by kernel_rfl
theorem FChg_fd_80_4 : fieldI Tryd.prog 80 4 = some 4 := by kernel_rfl
theorem FChg_sl_25 : sliceI Tryd.prog 25 = some (80, 5, 88) := by kernel_rfl
theorem FChg_sl_41 : sliceI Tryd.prog 41 = some (3, 1, 8) := by kernel_rfl
theorem FChg_ty_3 : tyI Tryd.prog 3 = some (false, 1) := by kernel_rfl
theorem FChg_ty_41 : tyI Tryd.prog 41 = some (false, 1) := by kernel_rfl
theorem FChg_ty_80 : tyI Tryd.prog 80 = some (true, 5) := by kernel_rfl
theorem FChg_z_3 : zeroI Tryd.prog 3 = some (.int .i64 0) := by kernel_rfl
theorem FChg_z_80 : zeroI Tryd.prog 80 = some (.agg #[.int .i64 0, .int .i64 0, .slice none 0 0, .slice none 0 0, .slice none 0 0]) := by kernel_rfl
theorem FChg_zo_80 {Fz : FzT} {w : World} : OwnL [PV.val (.int .i64 0), PV.val (.int .i64 0), PV.sl (.own 3 1) [], PV.sl (.own 3 1) [], PV.sl (.own 3 1) []] Fz w (Value.cells (.agg #[.int .i64 0, .int .i64 0, .slice none 0 0, .slice none 0 0, .slice none 0 0])).toList [] := zo_val rfl (zo_val rfl (zo_sl (zo_sl (zo_sl (zo_nil)))))
theorem impl_IsCharge {x : Charge}  : SCall Tryd.prog 111 [(true, [PV.val (vI x.Segment), PV.val (vI x.Base), PV.sl .v (x.Ids.map cInt), PV.sl .v (x.Tenants.map cInt), PV.sl .v (x.Rows.map cInt)])] (resRV [(false, [PV.val (.bool (okCharge x))])]) := by
 refine scall_of (rs := [(false, [PV.val (.bool (okCharge x))])]) Tryd.func111 rfl (Nat.le_of_ble_eq_true rfl) (borA_cons (BorL.cons (PV.bor_val _) (BorL.cons (PV.bor_val _) (BorL.cons (PV.bor_sl _) (BorL.cons (PV.bor_sl _) (BorL.cons (PV.bor_sl _) BorL.nil))))) borA_nil) ?_
 intro h0 w0 Fz0
 refine sw_slen (s := 0) (j := 2) rfl rfl fun hl0_2 => ?_
 try rw [List.length_map] at hl0_2
 refine sw_slen (s := 0) (j := 3) rfl rfl fun hl0_3 => ?_
 try rw [List.length_map] at hl0_3
 refine sw_slen (s := 0) (j := 4) rfl rfl fun hl0_4 => ?_
 try rw [List.length_map] at hl0_4
 refine sw_seq ?_
 refine sw_reg ?_
 refine RunS.step (by exact ⟨rfl, ⟨⟩⟩) (by exact ⟨⟩) (LocG.of rfl (loc_box (ag := true) (cs := [PV.val _, PV.val _, PV.sl _ _, PV.sl _ _, PV.sl _ _]) (by decide) (by exact ⟨⟩))) (free1 (Free.of_ rfl)) ?_
 refine rA ?_ (x := kA)
 refine sw_seq ?_
 refine sO [(1, _), (2, _)] [(1, (80, [PV.val _, PV.val _, PV.sl _ _, PV.sl _ _, PV.sl _ _]))] ?_
 refine sw_reg ?_
 refine rA ?_ (x := lF FChg_fd_80_2)
 refine rA ?_ (x := lD [PV.sl .v _] FChg_ty_41)
 refine rA ?_ (x := lN FChg_sl_41)
 refine rA ?_ (x := sA)
 refine sw_seq ?_
 refine sw_seq ?_
 refine sO [(1, _), (2, _), (3, _)] [(1, _)] ?_
 refine sw_reg ?_
 refine rA ?_ (x := lF FChg_fd_80_2)
 refine rA ?_ (x := lD [PV.sl .v _] FChg_ty_41)
 refine rA ?_ (x := cL [(false, [PV.sl _ _])] [(false, [PV.sl .v _])] FChg_c_125 (hs := by exact impl_IsSet))
 refine rA ?_ (x := nT)
 refine rA ?_ (x := sM)
 refine RunS.cases (s := 12) rfl (fun g1 => ?_) (fun g1 => ?_)
 ·have sg1 := g1
  try simp only [q1, q2, q3, q4, q5, q6, q7, q8, q9] at sg1
  refine RunS.s0t g1 ?_
  refine RunS.s0t g1 ?_
  refine RunS.s0t g1 ?_
  refine rA ?_ (x := pkT g1)
  refine rA ?_ (x := sM)
  refine RunS.cases (s := 17) rfl (fun g2 => ?_) (fun g2 => nomatch g2)
  refine RunS.s0t g2 ?_
  refine RunS.s0t g2 ?_
  refine RunS.s0t g2 ?_
  refine RunS.s0t g2 ?_
  refine RunS.s0t g2 ?_
  refine rA ?_ (x := pkT g2)
  refine rA ?_ (x := sM)
  refine RunS.cases (s := 24) rfl (fun g3 => ?_) (fun g3 => nomatch g3)
  refine RunS.s0t g3 ?_
  refine RunS.s0t g3 ?_
  refine RunS.s0t g3 ?_
  refine RunS.s0t g3 ?_
  refine RunS.s0t g3 ?_
  refine rA ?_ (x := pkT g3)
  refine sw_cond (t := 30) rfl (fun hb_ => ?_) (fun hb_ => nomatch hb_)
  have hbad : okCharge x = false := by first | (simp_all [okCharge, chgPre, inB]; done) | (simp_all [okCharge, chgPre, inB]; rfl) | (simp_all [okCharge, chgPre, inB]; omega) | (simp_all [okCharge, chgPre, inB]; intros; omega)
  refine sw_seq ?_
  refine sO [(1, _), (2, _), (3, _)] [(1, _)] ?_
  refine sw_reg ?_
  refine rA ?_ (x := kA)
  refine sw_ret ?_
  exact (And.intro (by refine bool_eq ?_; exact hbad.symm) True.intro)
 ·have sg1 := g1
  try simp only [q1, q2, q3, q4, q5, q6, q7, q8, q9] at sg1
  refine rB g1 ?_ (x := sM)
  refine rB g1 ?_ (x := cL [(false, [PV.val _]), (false, [PV.val _]), (false, [PV.val _])] [(false, [PV.val _]), (false, [PV.val _]), (false, [PV.val _])] FChg_c_43 (hs := by exact impl_within))
  refine rB g1 ?_ (x := nT)
  refine rA ?_ (x := pkF g1)
  refine rA ?_ (x := sM)
  refine RunS.cases (s := 17) rfl (fun g5 => ?_) (fun g5 => ?_)
  ·have sg5 := g5
   try simp only [q1, q2, q3, q4, q5, q6, q7, q8, q9] at sg5
   refine RunS.s0t g5 ?_
   refine RunS.s0t g5 ?_
   refine RunS.s0t g5 ?_
   refine RunS.s0t g5 ?_
   refine RunS.s0t g5 ?_
   refine rA ?_ (x := pkT g5)
   refine rA ?_ (x := sM)
   refine RunS.cases (s := 24) rfl (fun g6 => ?_) (fun g6 => nomatch g6)
   refine RunS.s0t g6 ?_
   refine RunS.s0t g6 ?_
   refine RunS.s0t g6 ?_
   refine RunS.s0t g6 ?_
   refine RunS.s0t g6 ?_
   refine rA ?_ (x := pkT g6)
   refine sw_cond (t := 30) rfl (fun hb_ => ?_) (fun hb_ => nomatch hb_)
   have hbad : okCharge x = false := by first | (simp_all [okCharge, chgPre, inB]; done) | (simp_all [okCharge, chgPre, inB]; rfl) | (simp_all [okCharge, chgPre, inB]; omega) | (simp_all [okCharge, chgPre, inB]; intros; omega)
   refine sw_seq ?_
   refine sO [(1, _), (2, _), (3, _)] [(1, _)] ?_
   refine sw_reg ?_
   refine rA ?_ (x := kA)
   refine sw_ret ?_
   exact (And.intro (by refine bool_eq ?_; exact hbad.symm) True.intro)
  ·have sg5 := g5
   try simp only [q1, q2, q3, q4, q5, q6, q7, q8, q9] at sg5
   refine rB g5 ?_ (x := lF FChg_fd_80_3)
   refine rB g5 ?_ (x := lD [PV.sl .v _] FChg_ty_41)
   refine rB g5 ?_ (x := lN FChg_sl_41)
   refine rB g5 ?_ (x := sM)
   refine rB g5 ?_ (x := B_neq)
   refine rA ?_ (x := pkF g5)
   refine rA ?_ (x := sM)
   refine RunS.cases (s := 24) rfl (fun g8 => ?_) (fun g8 => ?_)
   ·have sg8 := g8
    try simp only [q1, q2, q3, q4, q5, q6, q7, q8, q9] at sg8
    refine RunS.s0t g8 ?_
    refine RunS.s0t g8 ?_
    refine RunS.s0t g8 ?_
    refine RunS.s0t g8 ?_
    refine RunS.s0t g8 ?_
    refine rA ?_ (x := pkT g8)
    refine sw_cond (t := 30) rfl (fun hb_ => ?_) (fun hb_ => nomatch hb_)
    have hbad : okCharge x = false := by first | (simp_all [okCharge, chgPre, inB]; done) | (simp_all [okCharge, chgPre, inB]; rfl) | (simp_all [okCharge, chgPre, inB]; omega) | (simp_all [okCharge, chgPre, inB]; intros; omega)
    refine sw_seq ?_
    refine sO [(1, _), (2, _), (3, _)] [(1, _)] ?_
    refine sw_reg ?_
    refine rA ?_ (x := kA)
    refine sw_ret ?_
    exact (And.intro (by refine bool_eq ?_; exact hbad.symm) True.intro)
   ·have sg8 := g8
    try simp only [q1, q2, q3, q4, q5, q6, q7, q8, q9] at sg8
    refine rB g8 ?_ (x := lF FChg_fd_80_4)
    refine rB g8 ?_ (x := lD [PV.sl .v _] FChg_ty_41)
    refine rB g8 ?_ (x := lN FChg_sl_41)
    refine rB g8 ?_ (x := sM)
    refine rB g8 ?_ (x := B_neq)
    refine rA ?_ (x := pkF g8)
    refine sw_cond (t := 30) rfl (fun hb10 => ?_) (fun hb10 => ?_)
    ·try simp only [q1, q2, q3, q4, q5, q6, q7, q8, q9] at hb10
     have hbad : okCharge x = false := by first | (simp_all [okCharge, chgPre, inB]; done) | (simp_all [okCharge, chgPre, inB]; rfl) | (simp_all [okCharge, chgPre, inB]; omega) | (simp_all [okCharge, chgPre, inB]; intros; omega)
     refine sw_seq ?_
     refine sO [(1, _), (2, _), (3, _)] [(1, _)] ?_
     refine sw_reg ?_
     refine rA ?_ (x := kA)
     refine sw_ret ?_
     exact (And.intro (by refine bool_eq ?_; exact hbad.symm) True.intro)
    ·try simp only [q1, q2, q3, q4, q5, q6, q7, q8, q9] at hb10
     have hpr : chgPre x = true := by
      unfold chgPre inB
      simp only [Bool.and_eq_true, decide_eq_true_eq]
      refine ⟨by first | assumption | simp_all, ?_⟩
      first | omega | (simp only [inB, Bool.and_eq_true, decide_eq_true_eq, Bool.not_eq_true, Bool.not_eq_false] at *; omega)
     have hpl := chg_pre hpr
     refine sw_skip ?_
     refine sw_seq ?_
     refine sw_seq ?_
     refine sO [(1, _), (2, _), (3, _)] [(1, _)] ?_
     refine sw_reg ?_
     refine rA ?_ (x := lF FChg_fd_80_2)
     refine rA ?_ (x := lD [PV.sl .v _] FChg_ty_41)
     refine rA ?_ (x := lN FChg_sl_41)
     refine rA ?_ (x := kM)
     refine sw_block ?_
     refine sO [(1, _), (2, _), (3, _), (33, _), (34, _)] [(1, _)] ?_
     refine sw_loop (l0 := [(1, RV.ptr 1 0), (3, RV.sv false [PV.val _]), (33, RV.sv false [PV.val _])]) (b0 := [(1, (80, [PV.val _, PV.val _, PV.sl _ _, PV.sl _ _, PV.sl _ _]))]) (fun k : Nat => k ≤ x.Ids.length ∧ chgTo x k = true) (fun k : Nat => [(34, RV.int (k : Int))]) (fun k : Nat => []) (fun k : Nat => x.Ids.length - k) 0 (by exact ⟨by omega, rfl⟩) (by exact ⟨rfl, rfl, rfl, ⟨⟩⟩) (by exact ⟨rfl, ⟨⟩⟩) (by exact And.intro (by exact rfl) (True.intro)) (by exact ⟨⟩) ?_
     rintro k ⟨hk, ha⟩
     refine sw_seq ?_
     refine sw_reg ?_
     refine rA ?_ (x := B_lss)
     refine sw_seq ?_
     refine sw_cond (t := 35) rfl (fun hb11 => ?_) (fun hb11 => ?_)
     ·try simp only [q1, q2, q3, q4, q5, q6, q7, q8, q9] at hb11
      have hlt : k < x.Ids.length := by omega
      have htl : k < x.Tenants.length := by omega
      have hrl : k < x.Rows.length := by omega
      refine sw_skip ?_
      refine sw_seq ?_
      refine sw_block ?_
      refine sw_seq ?_
      refine sO [(1, _), (3, _), (33, _), (34, _)] [(1, (80, [PV.val _, PV.val _, PV.sl _ _, PV.sl _ _, PV.sl _ _]))] ?_
      refine sw_reg ?_
      refine rA ?_ (x := sM)
      refine rA ?_ (x := sA)
      refine sw_seq ?_
      refine sO [(1, _), (3, _), (4, _), (33, _), (34, _)] [(1, _)] ?_
      refine sw_draw hm_ ?_
      refine dA 0 ?_ (x := lF FChg_fd_80_3)
      refine dA 1 ?_ (x := lD [PV.sl .v _] FChg_ty_41)
      refine dA 0 ?_ (x := sM)
      refine dA 7 ?_ (x := loc_index (k := k) (by decide) FChg_sl_41 (by exact ⟨⟩) (by rfl) (by exact getm2 (by omega) (by rw [gDt_ (d := 0) (by omega)])) (by exact rfl))
      refine dA 15 ?_ (x := lE [PV.val _] FChg_ty_3)
      refine dA 31 ?_ (x := cL [(false, [PV.val _]), (false, [PV.val _]), (false, [PV.val _])] [(false, [PV.val _]), (false, [PV.val _]), (false, [PV.val _])] FChg_c_43 (hs := by exact impl_within))
      refine dA 63 ?_ (x := nT)
      refine dA 127 ?_ (x := sM)
      refine Run.cases (s := 44) rfl (fun g12 => ?_) (fun g12 => ?_)
      ·have sg12 := g12
       try simp only [q1, q2, q3, q4, q5, q6, q7, q8, q9] at sg12
       refine dT 255 g12 ?_
       refine dT 511 g12 ?_
       refine dT 255 g12 ?_
       refine dT 2047 g12 ?_
       refine dT 4095 g12 ?_
       refine dT 255 g12 ?_
       refine dT 8447 g12 ?_
       refine dT 32767 g12 ?_
       refine dT 65535 g12 ?_
       refine dA 131071 ?_ (x := pkT g12)
       refine sw_cond (t := 54) rfl (fun hb_ => ?_) (fun hb_ => nomatch hb_)
       have hno : chgAt x k = false := by simp_all [chgAt]
       refine sw_seq ?_
       refine sO [(1, _), (3, _), (4, _), (33, _), (34, _)] [(1, _)] ?_
       refine sw_reg ?_
       refine rA ?_ (x := kA)
       refine sw_ret ?_
       exact (And.intro (by refine bool_eq ?_; exact (chg_no hlt hno).symm) True.intro)
      ·have sg12 := g12
       try simp only [q1, q2, q3, q4, q5, q6, q7, q8, q9] at sg12
       refine dB 255 g12 ?_ (x := lF FChg_fd_80_4)
       refine dB 511 g12 ?_ (x := lD [PV.sl .v _] FChg_ty_41)
       refine dB 255 g12 ?_ (x := sM)
       refine dB 2047 g12 ?_ (x := loc_index (k := k) (by decide) FChg_sl_41 (by exact ⟨⟩) (by rfl) (by exact getm2 (by omega) (by rw [gDt_ (d := 0) (by omega)])) (by exact rfl))
       refine dB 4095 g12 ?_ (x := lE [PV.val _] FChg_ty_3)
       refine dB 255 g12 ?_ (x := lF FChg_fd_80_1)
       refine dB 8447 g12 ?_ (x := lD [PV.val _] FChg_ty_3)
       refine dB 32767 g12 ?_ (x := cL [(false, [PV.val _]), (false, [PV.val _]), (false, [PV.val _])] [(false, [PV.val _]), (false, [PV.val _]), (false, [PV.val _])] FChg_c_43 (hs := by exact impl_within))
       refine dB 65535 g12 ?_ (x := nT)
       refine dA 131071 ?_ (x := pkF g12)
       refine sw_cond (t := 54) rfl (fun hb14 => ?_) (fun hb14 => ?_)
       ·try simp only [q1, q2, q3, q4, q5, q6, q7, q8, q9] at hb14
        have hno : chgAt x k = false := by simp_all [chgAt]
        refine sw_seq ?_
        refine sO [(1, _), (3, _), (4, _), (33, _), (34, _)] [(1, _)] ?_
        refine sw_reg ?_
        refine rA ?_ (x := kA)
        refine sw_ret ?_
        exact (And.intro (by refine bool_eq ?_; exact (chg_no hlt hno).symm) True.intro)
       ·try simp only [q1, q2, q3, q4, q5, q6, q7, q8, q9] at hb14
        have hyes : chgAt x k = true := by simp_all [chgAt]
        refine sw_skip ?_
        refine sO [(1, _), (3, _), (4, _), (33, _), (34, _)] [(1, _)] ?_
        refine sw_reg ?_
        refine rA ?_ (x := B_add)
        refine rA ?_ (x := sM)
        refine Exists.intro (k + 1) (And.intro (by exact ⟨by omega, by rw [chgTo_succ, ha, hyes]; rfl⟩) (And.intro (by omega) (And.intro (And.intro (by exact ⟨rfl, rfl, rfl, ⟨⟩⟩) (by exact ⟨rfl, ⟨⟩⟩)) (And.intro (by exact And.intro (by exact rfl) (True.intro)) (by exact ⟨⟩)))))
     ·try simp only [q1, q2, q3, q4, q5, q6, q7, q8, q9] at hb11
      have hend : k = x.Ids.length := by omega
      rw [hend] at ha
      refine sw_exit ?_
      refine sw_seq ?_
      refine sO [(1, _), (3, _), (33, _), (34, _)] [(1, (80, [PV.val _, PV.val _, PV.sl _ _, PV.sl _ _, PV.sl _ _]))] ?_
      refine sw_reg ?_
      refine rA ?_ (x := lF FChg_fd_80_0)
      refine rA ?_ (x := lD [PV.val _] FChg_ty_3)
      refine rA ?_ (x := cL [(false, [PV.val _]), (false, [PV.val _]), (false, [PV.val _])] [(false, [PV.val _]), (false, [PV.val _]), (false, [PV.val _])] FChg_c_43 (hs := by exact impl_within))
      refine rA ?_ (x := sM)
      refine RunS.cases (s := 59) rfl (fun g15 => ?_) (fun g15 => ?_)
      ·have sg15 := g15
       try simp only [q1, q2, q3, q4, q5, q6, q7, q8, q9] at sg15
       refine rB g15 ?_ (x := lF FChg_fd_80_1)
       refine rB g15 ?_ (x := lD [PV.val _] FChg_ty_3)
       refine rB g15 ?_ (x := cL [(false, [PV.val _]), (false, [PV.val _]), (false, [PV.val _])] [(false, [PV.val _]), (false, [PV.val _]), (false, [PV.val _])] FChg_c_43 (hs := by exact impl_within))
       refine rA ?_ (x := pkT g15)
       refine rA ?_ (x := sA)
       refine sw_ret ?_
       exact (And.intro (by refine bool_eq ?_; simp_all [okCharge]) True.intro)
      ·have sg15 := g15
       try simp only [q1, q2, q3, q4, q5, q6, q7, q8, q9] at sg15
       refine RunS.s0f g15 ?_
       refine RunS.s0f g15 ?_
       refine RunS.s0f g15 ?_
       refine rA ?_ (x := pkF g15)
       refine rA ?_ (x := sA)
       refine sw_ret ?_
       exact (And.intro (by refine bool_eq ?_; simp_all [okCharge]) True.intro)
theorem spec_IsCharge {x : Charge}  : SCall Tryd.prog 109 [(true, [PV.val (vI x.Segment), PV.val (vI x.Base), PV.sl .v (x.Ids.map cInt), PV.sl .v (x.Tenants.map cInt), PV.sl .v (x.Rows.map cInt)])] (resRV [(false, [PV.val (.bool (okCharge x))])]) := by
 refine scall_of (rs := [(false, [PV.val (.bool (okCharge x))])]) Tryd.func109 rfl (Nat.le_of_ble_eq_true rfl) (borA_cons (BorL.cons (PV.bor_val _) (BorL.cons (PV.bor_val _) (BorL.cons (PV.bor_sl _) (BorL.cons (PV.bor_sl _) (BorL.cons (PV.bor_sl _) BorL.nil))))) borA_nil) ?_
 intro h0 w0 Fz0
 refine sw_slen (s := 0) (j := 2) rfl rfl fun hl0_2 => ?_
 try rw [List.length_map] at hl0_2
 refine sw_slen (s := 0) (j := 3) rfl rfl fun hl0_3 => ?_
 try rw [List.length_map] at hl0_3
 refine sw_slen (s := 0) (j := 4) rfl rfl fun hl0_4 => ?_
 try rw [List.length_map] at hl0_4
 refine sw_seq ?_
 refine sw_reg ?_
 refine RunS.step (by exact ⟨rfl, ⟨⟩⟩) (by exact ⟨⟩) (LocG.of rfl (loc_box (ag := true) (cs := [PV.val _, PV.val _, PV.sl _ _, PV.sl _ _, PV.sl _ _]) (by decide) (by exact ⟨⟩))) (free1 (Free.of_ rfl)) ?_
 refine rA ?_ (x := kA)
 refine sw_seq ?_
 refine sO [(1, _), (2, _)] [(1, (80, [PV.val _, PV.val _, PV.sl _ _, PV.sl _ _, PV.sl _ _]))] ?_
 refine sw_reg ?_
 refine rA ?_ (x := lF FChg_fd_80_2)
 refine rA ?_ (x := lD [PV.sl .v _] FChg_ty_41)
 refine rA ?_ (x := lN FChg_sl_41)
 refine rA ?_ (x := sA)
 refine sw_seq ?_
 refine sw_seq ?_
 refine sO [(1, _), (2, _), (3, _)] [(1, _)] ?_
 refine sw_reg ?_
 refine rA ?_ (x := lF FChg_fd_80_2)
 refine rA ?_ (x := lD [PV.sl .v _] FChg_ty_41)
 refine rA ?_ (x := cL [(false, [PV.sl _ _])] [(false, [PV.sl .v _])] FChg_c_123 (hs := by exact spec_IsSet))
 refine rA ?_ (x := nT)
 refine rA ?_ (x := sM)
 refine RunS.cases (s := 12) rfl (fun g1 => ?_) (fun g1 => ?_)
 ·have sg1 := g1
  try simp only [q1, q2, q3, q4, q5, q6, q7, q8, q9] at sg1
  refine RunS.s0t g1 ?_
  refine RunS.s0t g1 ?_
  refine rA ?_ (x := pkT g1)
  refine rA ?_ (x := sM)
  refine RunS.cases (s := 16) rfl (fun g2 => ?_) (fun g2 => nomatch g2)
  refine RunS.s0t g2 ?_
  refine RunS.s0t g2 ?_
  refine rA ?_ (x := pkT g2)
  refine rA ?_ (x := sM)
  refine RunS.cases (s := 20) rfl (fun g3 => ?_) (fun g3 => nomatch g3)
  refine RunS.s0t g3 ?_
  refine RunS.s0t g3 ?_
  refine RunS.s0t g3 ?_
  refine RunS.s0t g3 ?_
  refine RunS.s0t g3 ?_
  refine rA ?_ (x := pkT g3)
  refine rA ?_ (x := sM)
  refine RunS.cases (s := 27) rfl (fun g4 => ?_) (fun g4 => nomatch g4)
  refine RunS.s0t g4 ?_
  refine RunS.s0t g4 ?_
  refine RunS.s0t g4 ?_
  refine RunS.s0t g4 ?_
  refine RunS.s0t g4 ?_
  refine rA ?_ (x := pkT g4)
  refine rA ?_ (x := sM)
  refine RunS.cases (s := 34) rfl (fun g5 => ?_) (fun g5 => nomatch g5)
  refine RunS.s0t g5 ?_
  refine RunS.s0t g5 ?_
  refine RunS.s0t g5 ?_
  refine RunS.s0t g5 ?_
  refine rA ?_ (x := pkT g5)
  refine rA ?_ (x := sM)
  refine RunS.cases (s := 40) rfl (fun g6 => ?_) (fun g6 => nomatch g6)
  refine RunS.s0t g6 ?_
  refine RunS.s0t g6 ?_
  refine RunS.s0t g6 ?_
  refine RunS.s0t g6 ?_
  refine rA ?_ (x := pkT g6)
  refine sw_cond (t := 45) rfl (fun hb_ => ?_) (fun hb_ => nomatch hb_)
  have hbad : okCharge x = false := by first | (simp_all [okCharge, chgPre, inB]; done) | (simp_all [okCharge, chgPre, inB]; rfl) | (simp_all [okCharge, chgPre, inB]; omega) | (simp_all [okCharge, chgPre, inB]; intros; omega)
  refine sw_seq ?_
  refine sO [(1, _), (2, _), (3, _)] [(1, _)] ?_
  refine sw_reg ?_
  refine rA ?_ (x := kA)
  refine sw_ret ?_
  exact (And.intro (by refine bool_eq ?_; exact hbad.symm) True.intro)
 ·have sg1 := g1
  try simp only [q1, q2, q3, q4, q5, q6, q7, q8, q9] at sg1
  refine rB g1 ?_ (x := sM)
  refine rB g1 ?_ (x := B_eql)
  refine rA ?_ (x := pkF g1)
  refine rA ?_ (x := sM)
  refine RunS.cases (s := 16) rfl (fun g8 => ?_) (fun g8 => ?_)
  ·have sg8 := g8
   try simp only [q1, q2, q3, q4, q5, q6, q7, q8, q9] at sg8
   refine RunS.s0t g8 ?_
   refine RunS.s0t g8 ?_
   refine rA ?_ (x := pkT g8)
   refine rA ?_ (x := sM)
   refine RunS.cases (s := 20) rfl (fun g9 => ?_) (fun g9 => nomatch g9)
   refine RunS.s0t g9 ?_
   refine RunS.s0t g9 ?_
   refine RunS.s0t g9 ?_
   refine RunS.s0t g9 ?_
   refine RunS.s0t g9 ?_
   refine rA ?_ (x := pkT g9)
   refine rA ?_ (x := sM)
   refine RunS.cases (s := 27) rfl (fun g10 => ?_) (fun g10 => nomatch g10)
   refine RunS.s0t g10 ?_
   refine RunS.s0t g10 ?_
   refine RunS.s0t g10 ?_
   refine RunS.s0t g10 ?_
   refine RunS.s0t g10 ?_
   refine rA ?_ (x := pkT g10)
   refine rA ?_ (x := sM)
   refine RunS.cases (s := 34) rfl (fun g11 => ?_) (fun g11 => nomatch g11)
   refine RunS.s0t g11 ?_
   refine RunS.s0t g11 ?_
   refine RunS.s0t g11 ?_
   refine RunS.s0t g11 ?_
   refine rA ?_ (x := pkT g11)
   refine rA ?_ (x := sM)
   refine RunS.cases (s := 40) rfl (fun g12 => ?_) (fun g12 => nomatch g12)
   refine RunS.s0t g12 ?_
   refine RunS.s0t g12 ?_
   refine RunS.s0t g12 ?_
   refine RunS.s0t g12 ?_
   refine rA ?_ (x := pkT g12)
   refine sw_cond (t := 45) rfl (fun hb_ => ?_) (fun hb_ => nomatch hb_)
   have hbad : okCharge x = false := by first | (simp_all [okCharge, chgPre, inB]; done) | (simp_all [okCharge, chgPre, inB]; rfl) | (simp_all [okCharge, chgPre, inB]; omega) | (simp_all [okCharge, chgPre, inB]; intros; omega)
   refine sw_seq ?_
   refine sO [(1, _), (2, _), (3, _)] [(1, _)] ?_
   refine sw_reg ?_
   refine rA ?_ (x := kA)
   refine sw_ret ?_
   exact (And.intro (by refine bool_eq ?_; exact hbad.symm) True.intro)
  ·have sg8 := g8
   try simp only [q1, q2, q3, q4, q5, q6, q7, q8, q9] at sg8
   refine rB g8 ?_ (x := sM)
   refine rB g8 ?_ (x := B_gtr)
   refine rA ?_ (x := pkF g8)
   refine rA ?_ (x := sM)
   refine RunS.cases (s := 20) rfl (fun g14 => ?_) (fun g14 => ?_)
   ·have sg14 := g14
    try simp only [q1, q2, q3, q4, q5, q6, q7, q8, q9] at sg14
    refine RunS.s0t g14 ?_
    refine RunS.s0t g14 ?_
    refine RunS.s0t g14 ?_
    refine RunS.s0t g14 ?_
    refine RunS.s0t g14 ?_
    refine rA ?_ (x := pkT g14)
    refine rA ?_ (x := sM)
    refine RunS.cases (s := 27) rfl (fun g15 => ?_) (fun g15 => nomatch g15)
    refine RunS.s0t g15 ?_
    refine RunS.s0t g15 ?_
    refine RunS.s0t g15 ?_
    refine RunS.s0t g15 ?_
    refine RunS.s0t g15 ?_
    refine rA ?_ (x := pkT g15)
    refine rA ?_ (x := sM)
    refine RunS.cases (s := 34) rfl (fun g16 => ?_) (fun g16 => nomatch g16)
    refine RunS.s0t g16 ?_
    refine RunS.s0t g16 ?_
    refine RunS.s0t g16 ?_
    refine RunS.s0t g16 ?_
    refine rA ?_ (x := pkT g16)
    refine rA ?_ (x := sM)
    refine RunS.cases (s := 40) rfl (fun g17 => ?_) (fun g17 => nomatch g17)
    refine RunS.s0t g17 ?_
    refine RunS.s0t g17 ?_
    refine RunS.s0t g17 ?_
    refine RunS.s0t g17 ?_
    refine rA ?_ (x := pkT g17)
    refine sw_cond (t := 45) rfl (fun hb_ => ?_) (fun hb_ => nomatch hb_)
    have hbad : okCharge x = false := by first | (simp_all [okCharge, chgPre, inB]; done) | (simp_all [okCharge, chgPre, inB]; rfl) | (simp_all [okCharge, chgPre, inB]; omega) | (simp_all [okCharge, chgPre, inB]; intros; omega)
    refine sw_seq ?_
    refine sO [(1, _), (2, _), (3, _)] [(1, _)] ?_
    refine sw_reg ?_
    refine rA ?_ (x := kA)
    refine sw_ret ?_
    exact (And.intro (by refine bool_eq ?_; exact hbad.symm) True.intro)
   ·have sg14 := g14
    try simp only [q1, q2, q3, q4, q5, q6, q7, q8, q9] at sg14
    refine rB g14 ?_ (x := lF FChg_fd_80_3)
    refine rB g14 ?_ (x := lD [PV.sl .v _] FChg_ty_41)
    refine rB g14 ?_ (x := lN FChg_sl_41)
    refine rB g14 ?_ (x := sM)
    refine rB g14 ?_ (x := B_neq)
    refine rA ?_ (x := pkF g14)
    refine rA ?_ (x := sM)
    refine RunS.cases (s := 27) rfl (fun g19 => ?_) (fun g19 => ?_)
    ·have sg19 := g19
     try simp only [q1, q2, q3, q4, q5, q6, q7, q8, q9] at sg19
     refine RunS.s0t g19 ?_
     refine RunS.s0t g19 ?_
     refine RunS.s0t g19 ?_
     refine RunS.s0t g19 ?_
     refine RunS.s0t g19 ?_
     refine rA ?_ (x := pkT g19)
     refine rA ?_ (x := sM)
     refine RunS.cases (s := 34) rfl (fun g20 => ?_) (fun g20 => nomatch g20)
     refine RunS.s0t g20 ?_
     refine RunS.s0t g20 ?_
     refine RunS.s0t g20 ?_
     refine RunS.s0t g20 ?_
     refine rA ?_ (x := pkT g20)
     refine rA ?_ (x := sM)
     refine RunS.cases (s := 40) rfl (fun g21 => ?_) (fun g21 => nomatch g21)
     refine RunS.s0t g21 ?_
     refine RunS.s0t g21 ?_
     refine RunS.s0t g21 ?_
     refine RunS.s0t g21 ?_
     refine rA ?_ (x := pkT g21)
     refine sw_cond (t := 45) rfl (fun hb_ => ?_) (fun hb_ => nomatch hb_)
     have hbad : okCharge x = false := by first | (simp_all [okCharge, chgPre, inB]; done) | (simp_all [okCharge, chgPre, inB]; rfl) | (simp_all [okCharge, chgPre, inB]; omega) | (simp_all [okCharge, chgPre, inB]; intros; omega)
     refine sw_seq ?_
     refine sO [(1, _), (2, _), (3, _)] [(1, _)] ?_
     refine sw_reg ?_
     refine rA ?_ (x := kA)
     refine sw_ret ?_
     exact (And.intro (by refine bool_eq ?_; exact hbad.symm) True.intro)
    ·have sg19 := g19
     try simp only [q1, q2, q3, q4, q5, q6, q7, q8, q9] at sg19
     refine rB g19 ?_ (x := lF FChg_fd_80_4)
     refine rB g19 ?_ (x := lD [PV.sl .v _] FChg_ty_41)
     refine rB g19 ?_ (x := lN FChg_sl_41)
     refine rB g19 ?_ (x := sM)
     refine rB g19 ?_ (x := B_neq)
     refine rA ?_ (x := pkF g19)
     refine rA ?_ (x := sM)
     refine RunS.cases (s := 34) rfl (fun g23 => ?_) (fun g23 => ?_)
     ·have sg23 := g23
      try simp only [q1, q2, q3, q4, q5, q6, q7, q8, q9] at sg23
      refine RunS.s0t g23 ?_
      refine RunS.s0t g23 ?_
      refine RunS.s0t g23 ?_
      refine RunS.s0t g23 ?_
      refine rA ?_ (x := pkT g23)
      refine rA ?_ (x := sM)
      refine RunS.cases (s := 40) rfl (fun g24 => ?_) (fun g24 => nomatch g24)
      refine RunS.s0t g24 ?_
      refine RunS.s0t g24 ?_
      refine RunS.s0t g24 ?_
      refine RunS.s0t g24 ?_
      refine rA ?_ (x := pkT g24)
      refine sw_cond (t := 45) rfl (fun hb_ => ?_) (fun hb_ => nomatch hb_)
      have hbad : okCharge x = false := by first | (simp_all [okCharge, chgPre, inB]; done) | (simp_all [okCharge, chgPre, inB]; rfl) | (simp_all [okCharge, chgPre, inB]; omega) | (simp_all [okCharge, chgPre, inB]; intros; omega)
      refine sw_seq ?_
      refine sO [(1, _), (2, _), (3, _)] [(1, _)] ?_
      refine sw_reg ?_
      refine rA ?_ (x := kA)
      refine sw_ret ?_
      exact (And.intro (by refine bool_eq ?_; exact hbad.symm) True.intro)
     ·have sg23 := g23
      try simp only [q1, q2, q3, q4, q5, q6, q7, q8, q9] at sg23
      refine rB g23 ?_ (x := lF FChg_fd_80_0)
      refine rB g23 ?_ (x := lD [PV.val _] FChg_ty_3)
      refine rB g23 ?_ (x := cL [(false, [PV.val _]), (false, [PV.val _]), (false, [PV.val _])] [(false, [PV.val _]), (false, [PV.val _]), (false, [PV.val _])] FChg_c_39 (hs := by exact spec_l1In))
      refine rB g23 ?_ (x := nT)
      refine rA ?_ (x := pkF g23)
      refine rA ?_ (x := sM)
      refine RunS.cases (s := 40) rfl (fun g26 => ?_) (fun g26 => ?_)
      ·have sg26 := g26
       try simp only [q1, q2, q3, q4, q5, q6, q7, q8, q9] at sg26
       refine RunS.s0t g26 ?_
       refine RunS.s0t g26 ?_
       refine RunS.s0t g26 ?_
       refine RunS.s0t g26 ?_
       refine rA ?_ (x := pkT g26)
       refine sw_cond (t := 45) rfl (fun hb_ => ?_) (fun hb_ => nomatch hb_)
       have hbad : okCharge x = false := by first | (simp_all [okCharge, chgPre, inB]; done) | (simp_all [okCharge, chgPre, inB]; rfl) | (simp_all [okCharge, chgPre, inB]; omega) | (simp_all [okCharge, chgPre, inB]; intros; omega)
       refine sw_seq ?_
       refine sO [(1, _), (2, _), (3, _)] [(1, _)] ?_
       refine sw_reg ?_
       refine rA ?_ (x := kA)
       refine sw_ret ?_
       exact (And.intro (by refine bool_eq ?_; exact hbad.symm) True.intro)
      ·have sg26 := g26
       try simp only [q1, q2, q3, q4, q5, q6, q7, q8, q9] at sg26
       refine rB g26 ?_ (x := lF FChg_fd_80_1)
       refine rB g26 ?_ (x := lD [PV.val _] FChg_ty_3)
       refine rB g26 ?_ (x := cL [(false, [PV.val _]), (false, [PV.val _]), (false, [PV.val _])] [(false, [PV.val _]), (false, [PV.val _]), (false, [PV.val _])] FChg_c_39 (hs := by exact spec_l1In))
       refine rB g26 ?_ (x := nT)
       refine rA ?_ (x := pkF g26)
       refine sw_cond (t := 45) rfl (fun hb28 => ?_) (fun hb28 => ?_)
       ·try simp only [q1, q2, q3, q4, q5, q6, q7, q8, q9] at hb28
        have hbad : okCharge x = false := by first | (simp_all [okCharge, chgPre, inB]; done) | (simp_all [okCharge, chgPre, inB]; rfl) | (simp_all [okCharge, chgPre, inB]; omega) | (simp_all [okCharge, chgPre, inB]; intros; omega)
        refine sw_seq ?_
        refine sO [(1, _), (2, _), (3, _)] [(1, _)] ?_
        refine sw_reg ?_
        refine rA ?_ (x := kA)
        refine sw_ret ?_
        exact (And.intro (by refine bool_eq ?_; exact hbad.symm) True.intro)
       ·try simp only [q1, q2, q3, q4, q5, q6, q7, q8, q9] at hb28
        have hpr : chgPre x = true := by
         unfold chgPre inB
         simp only [Bool.and_eq_true, decide_eq_true_eq]
         refine ⟨by first | assumption | simp_all, ?_⟩
         first | omega | (simp only [inB, Bool.and_eq_true, decide_eq_true_eq, Bool.not_eq_true, Bool.not_eq_false] at *; omega)
        have hpl := chg_pre hpr
        have hsb : (inB x.Segment 0 7 && inB x.Base 0 4) = true := by simp_all
        refine sw_skip ?_
        refine sw_seq ?_
        refine sw_seq ?_
        refine sO [(1, _), (2, _), (3, _)] [(1, _)] ?_
        refine sw_reg ?_
        refine rA ?_ (x := kA)
        refine sw_block ?_
        refine sO [(1, _), (2, _), (3, _), (4, _)] [(1, _)] ?_
        refine sw_loop (l0 := [(1, RV.ptr 1 0), (3, RV.sv false [PV.val _])]) (b0 := [(1, (80, [PV.val _, PV.val _, PV.sl _ _, PV.sl _ _, PV.sl _ _]))]) (fun k : Nat => k ≤ x.Ids.length ∧ chgTo x k = true) (fun k : Nat => [(4, RV.int (k : Int))]) (fun k : Nat => []) (fun k : Nat => x.Ids.length - k) 0 (by exact ⟨by omega, rfl⟩) (by exact ⟨rfl, rfl, ⟨⟩⟩) (by exact ⟨rfl, ⟨⟩⟩) (by exact And.intro (by exact rfl) (True.intro)) (by exact ⟨⟩) ?_
        rintro k ⟨hk, ha⟩
        refine sw_seq ?_
        refine sw_seq ?_
        refine sw_reg ?_
        refine rA ?_ (x := sM)
        refine rA ?_ (x := sM)
        refine rA ?_ (x := B_lss)
        refine sw_cond (t := 48) rfl (fun hb29 => ?_) (fun hb29 => ?_)
        ·try simp only [q1, q2, q3, q4, q5, q6, q7, q8, q9] at hb29
         have hlt : k < x.Ids.length := by omega
         have htl : k < x.Tenants.length := by omega
         have hrl : k < x.Rows.length := by omega
         refine sw_skip ?_
         refine sw_seq ?_
         refine sw_block ?_
         refine sw_seq ?_
         refine sO [(1, _), (3, _), (4, _)] [(1, (80, [PV.val _, PV.val _, PV.sl _ _, PV.sl _ _, PV.sl _ _]))] ?_
         refine sw_draw hm_ ?_
         refine dA 0 ?_ (x := lF FChg_fd_80_3)
         refine dA 1 ?_ (x := lD [PV.sl .v _] FChg_ty_41)
         refine dA 0 ?_ (x := sM)
         refine dA 7 ?_ (x := loc_index (k := k) (by decide) FChg_sl_41 (by exact ⟨⟩) (by rfl) (by exact getm2 (by omega) (by rw [gDt_ (d := 0) (by omega)])) (by exact rfl))
         refine dA 15 ?_ (x := lE [PV.val _] FChg_ty_3)
         refine dA 31 ?_ (x := cL [(false, [PV.val _]), (false, [PV.val _]), (false, [PV.val _])] [(false, [PV.val _]), (false, [PV.val _]), (false, [PV.val _])] FChg_c_39 (hs := by exact spec_l1In))
         refine dA 63 ?_ (x := nT)
         refine dA 127 ?_ (x := sM)
         refine Run.cases (s := 58) rfl (fun g30 => ?_) (fun g30 => ?_)
         ·have sg30 := g30
          try simp only [q1, q2, q3, q4, q5, q6, q7, q8, q9] at sg30
          refine dT 255 g30 ?_
          refine dT 511 g30 ?_
          refine dT 255 g30 ?_
          refine dT 2047 g30 ?_
          refine dT 4095 g30 ?_
          refine dT 255 g30 ?_
          refine dT 8447 g30 ?_
          refine dT 32767 g30 ?_
          refine dT 65535 g30 ?_
          refine dA 131071 ?_ (x := pkT g30)
          refine sw_cond (t := 68) rfl (fun hb_ => ?_) (fun hb_ => nomatch hb_)
          have hno : chgAt x k = false := by simp_all [chgAt]
          refine sw_seq ?_
          refine sO [(1, _), (3, _), (4, _)] [(1, _)] ?_
          refine sw_reg ?_
          refine rA ?_ (x := kA)
          refine sw_ret ?_
          exact (And.intro (by refine bool_eq ?_; exact (chg_no hlt hno).symm) True.intro)
         ·have sg30 := g30
          try simp only [q1, q2, q3, q4, q5, q6, q7, q8, q9] at sg30
          refine dB 255 g30 ?_ (x := lF FChg_fd_80_4)
          refine dB 511 g30 ?_ (x := lD [PV.sl .v _] FChg_ty_41)
          refine dB 255 g30 ?_ (x := sM)
          refine dB 2047 g30 ?_ (x := loc_index (k := k) (by decide) FChg_sl_41 (by exact ⟨⟩) (by rfl) (by exact getm2 (by omega) (by rw [gDt_ (d := 0) (by omega)])) (by exact rfl))
          refine dB 4095 g30 ?_ (x := lE [PV.val _] FChg_ty_3)
          refine dB 255 g30 ?_ (x := lF FChg_fd_80_1)
          refine dB 8447 g30 ?_ (x := lD [PV.val _] FChg_ty_3)
          refine dB 32767 g30 ?_ (x := cL [(false, [PV.val _]), (false, [PV.val _]), (false, [PV.val _])] [(false, [PV.val _]), (false, [PV.val _]), (false, [PV.val _])] FChg_c_39 (hs := by exact spec_l1In))
          refine dB 65535 g30 ?_ (x := nT)
          refine dA 131071 ?_ (x := pkF g30)
          refine sw_cond (t := 68) rfl (fun hb32 => ?_) (fun hb32 => ?_)
          ·try simp only [q1, q2, q3, q4, q5, q6, q7, q8, q9] at hb32
           have hno : chgAt x k = false := by simp_all [chgAt]
           refine sw_seq ?_
           refine sO [(1, _), (3, _), (4, _)] [(1, _)] ?_
           refine sw_reg ?_
           refine rA ?_ (x := kA)
           refine sw_ret ?_
           exact (And.intro (by refine bool_eq ?_; exact (chg_no hlt hno).symm) True.intro)
          ·try simp only [q1, q2, q3, q4, q5, q6, q7, q8, q9] at hb32
           have hyes : chgAt x k = true := by simp_all [chgAt]
           refine sw_skip ?_
           refine sO [(1, _), (3, _), (4, _)] [(1, _)] ?_
           refine sw_reg ?_
           refine rA ?_ (x := sM)
           refine rA ?_ (x := B_add)
           refine rA ?_ (x := sA)
           refine Exists.intro (k + 1) (And.intro (by exact ⟨by omega, by rw [chgTo_succ, ha, hyes]; rfl⟩) (And.intro (by omega) (And.intro (And.intro (by exact ⟨rfl, rfl, ⟨⟩⟩) (by exact ⟨rfl, ⟨⟩⟩)) (And.intro (by exact And.intro (by exact rfl) (True.intro)) (by exact ⟨⟩)))))
        ·try simp only [q1, q2, q3, q4, q5, q6, q7, q8, q9] at hb29
         have hend : k = x.Ids.length := by omega
         rw [hend] at ha
         refine sw_exit ?_
         refine sw_seq ?_
         refine sO [(1, _), (3, _), (4, _)] [(1, (80, [PV.val _, PV.val _, PV.sl _ _, PV.sl _ _, PV.sl _ _]))] ?_
         refine sw_reg ?_
         refine rA ?_ (x := kA)
         refine sw_ret ?_
         exact (And.intro (by refine bool_eq ?_; simp_all [okCharge]) True.intro)
theorem impl_WorkDone {x : Charge}  : SCall Tryd.prog 76 [(true, [PV.val (vI x.Segment), PV.val (vI x.Base), PV.sl .v (x.Ids.map cInt), PV.sl .v (x.Tenants.map cInt), PV.sl .v (x.Rows.map cInt)])] (resRV [(false, [PV.val (vI (workDone x))])]) := by
 refine scall_of (rs := [(false, [PV.val (vI (workDone x))])]) Tryd.func76 rfl (Nat.le_of_ble_eq_true rfl) (borA_cons (BorL.cons (PV.bor_val _) (BorL.cons (PV.bor_val _) (BorL.cons (PV.bor_sl _) (BorL.cons (PV.bor_sl _) (BorL.cons (PV.bor_sl _) BorL.nil))))) borA_nil) ?_
 intro h0 w0 Fz0
 refine sw_slen (s := 0) (j := 2) rfl rfl fun hl0_2 => ?_
 try rw [List.length_map] at hl0_2
 refine sw_slen (s := 0) (j := 3) rfl rfl fun hl0_3 => ?_
 try rw [List.length_map] at hl0_3
 refine sw_slen (s := 0) (j := 4) rfl rfl fun hl0_4 => ?_
 try rw [List.length_map] at hl0_4
 refine sw_seq ?_
 refine sw_reg ?_
 refine RunS.step (by exact ⟨rfl, ⟨⟩⟩) (by exact ⟨⟩) (LocG.of rfl (loc_box (ag := true) (cs := [PV.val _, PV.val _, PV.sl _ _, PV.sl _ _, PV.sl _ _]) (by decide) (by exact ⟨⟩))) (free1 (Free.of_ rfl)) ?_
 refine rA ?_ (x := kA)
 refine sw_seq ?_
 refine sw_seq ?_
 refine sO [(1, _), (2, _)] [(1, (80, [PV.val _, PV.val _, PV.sl _ _, PV.sl _ _, PV.sl _ _]))] ?_
 refine sw_reg ?_
 refine rA ?_ (x := lD [PV.val _, PV.val _, PV.sl .v _, PV.sl .v _, PV.sl .v _] FChg_ty_80)
 refine rA ?_ (x := cL [(true, [PV.val _, PV.val _, PV.sl _ _, PV.sl _ _, PV.sl _ _])] [(true, [PV.val _, PV.val _, PV.sl .v _, PV.sl .v _, PV.sl .v _])] FChg_c_111 (hs := by exact impl_IsCharge))
 refine rA ?_ (x := nT)
 refine sw_cond (t := 8) rfl (fun hb1 => ?_) (fun hb1 => ?_)
 ·try simp only [q1, q2, q3, q4, q5, q6, q7, q8, q9] at hb1
  have hok : okCharge x = false := by simpa using hb1
  refine sw_seq ?_
  refine sO [(1, _), (2, _)] [(1, _)] ?_
  refine sw_reg ?_
  refine rA ?_ (x := kA)
  refine sw_ret ?_
  exact (And.intro (by refine int_eq ?_; unfold workDone; rw [if_neg (by rw [hok]; simp)]) True.intro)
 ·try simp only [q1, q2, q3, q4, q5, q6, q7, q8, q9] at hb1
  have hok : okCharge x = true := by simpa using hb1
  obtain ⟨hp_, hb0, hb4, hrw⟩ := chg_ok hok
  have hpl := chg_pre hp_
  refine sw_skip ?_
  refine sw_seq ?_
  refine sO [(1, _), (2, _)] [(1, _)] ?_
  refine sw_reg ?_
  refine rA ?_ (x := lF FChg_fd_80_1)
  refine rA ?_ (x := lD [PV.val _] FChg_ty_3)
  refine rA ?_ (x := sA)
  refine sw_seq ?_
  refine sw_seq ?_
  refine sO [(1, _), (2, _), (3, _)] [(1, _)] ?_
  refine sw_reg ?_
  refine rA ?_ (x := lF FChg_fd_80_4)
  refine rA ?_ (x := lD [PV.sl .v _] FChg_ty_41)
  refine rA ?_ (x := lN FChg_sl_41)
  refine rA ?_ (x := kM)
  refine sw_block ?_
  refine sO [(1, _), (2, _), (3, _), (12, _), (13, _), (14, _)] [(1, _)] ?_
  refine sw_loop (l0 := [(1, RV.ptr 1 0), (2, RV.sv false [PV.val _]), (12, RV.sv false [PV.sl _ _]), (13, RV.sv false [PV.val _])]) (b0 := [(1, (80, [PV.val _, PV.val _, PV.sl _ _, PV.sl _ _, PV.sl _ _]))]) (fun k : Nat => k ≤ x.Rows.length) (fun k : Nat => [(3, RV.int (x.Base + ((List.range k).map (rowAtC x)).sum)), (14, RV.int (k : Int))]) (fun k : Nat => []) (fun k : Nat => x.Rows.length - k) 0 (by omega) (by exact ⟨rfl, rfl, rfl, rfl, ⟨⟩⟩) (by exact ⟨rfl, ⟨⟩⟩) (by exact And.intro (by exact int_eq (by simp)) (And.intro (by exact rfl) (True.intro))) (by exact ⟨⟩) ?_
  rintro k hk
  refine sw_seq ?_
  refine sw_reg ?_
  refine rA ?_ (x := B_lss)
  refine sw_seq ?_
  refine sw_cond (t := 15) rfl (fun hb2 => ?_) (fun hb2 => ?_)
  ·try simp only [q1, q2, q3, q4, q5, q6, q7, q8, q9] at hb2
   have hlt : k < x.Rows.length := by omega
   have hsm := rsum_le (f := rowAtC x) (m := 4) (n := x.Ids.length) (fun i hi => hrw i hi) k (by omega)
   have hr1 : 0 ≤ x.Rows[k] ∧ x.Rows[k] ≤ 4 := by have := hrw k (by omega); rwa [← gDt_ hlt] at this
   refine sw_skip ?_
   refine sw_seq ?_
   refine sw_block ?_
   refine sw_seq ?_
   refine sO [(1, _), (2, _), (3, _), (12, _), (13, _), (14, _)] [(1, (80, [PV.val _, PV.val _, PV.sl _ _, PV.sl _ _, PV.sl _ _]))] ?_
   refine sw_reg ?_
   refine rA ?_ (x := loc_index (by decide) FChg_sl_41 (by exact ⟨⟩) (by exact rfl) (by exact getm2 (by omega) rfl) (by exact rfl))
   refine rA ?_ (x := lE [PV.val _] FChg_ty_3)
   refine rA ?_ (x := sA)
   refine sO [(1, _), (2, _), (3, _), (5, _), (12, _), (13, _), (14, _)] [(1, _)] ?_
   refine sw_reg ?_
   refine rA ?_ (x := sM)
   refine rA ?_ (x := sM)
   refine rA ?_ (x := B_add)
   refine rA ?_ (x := sA)
   refine sO [(1, _), (2, _), (3, _), (5, _), (12, _), (13, _), (14, _)] [(1, _)] ?_
   refine sw_reg ?_
   refine rA ?_ (x := B_add)
   refine rA ?_ (x := sM)
   refine Exists.intro (k + 1) (And.intro (by omega) (And.intro (by omega) (And.intro (And.intro (by exact ⟨rfl, rfl, rfl, rfl, ⟨⟩⟩) (by exact ⟨rfl, ⟨⟩⟩)) (And.intro (by exact And.intro (by exact int_eq (by rw [rsum_succ, ← Int.add_assoc]; unfold rowAtC; rw [← gDt_ hlt])) (And.intro (by exact rfl) (True.intro))) (by exact ⟨⟩)))))
  ·try simp only [q1, q2, q3, q4, q5, q6, q7, q8, q9] at hb2
   have hend : k = x.Rows.length := by omega
   refine sw_exit ?_
   refine sw_seq ?_
   refine sO [(1, _), (2, _), (3, _), (12, _), (13, _), (14, _)] [(1, (80, [PV.val _, PV.val _, PV.sl _ _, PV.sl _ _, PV.sl _ _]))] ?_
   refine sw_reg ?_
   refine rA ?_ (x := sM)
   refine rA ?_ (x := sA)
   refine sw_ret ?_
   exact (And.intro (by refine int_eq ?_; unfold workDone; rw [if_pos hok, hend]) True.intro)
theorem spec_WorkDone {x : Charge}  : SCall Tryd.prog 72 [(true, [PV.val (vI x.Segment), PV.val (vI x.Base), PV.sl .v (x.Ids.map cInt), PV.sl .v (x.Tenants.map cInt), PV.sl .v (x.Rows.map cInt)])] (resRV [(false, [PV.val (vI (workDone x))])]) := by
 refine scall_of (rs := [(false, [PV.val (vI (workDone x))])]) Tryd.func72 rfl (Nat.le_of_ble_eq_true rfl) (borA_cons (BorL.cons (PV.bor_val _) (BorL.cons (PV.bor_val _) (BorL.cons (PV.bor_sl _) (BorL.cons (PV.bor_sl _) (BorL.cons (PV.bor_sl _) BorL.nil))))) borA_nil) ?_
 intro h0 w0 Fz0
 refine sw_slen (s := 0) (j := 2) rfl rfl fun hl0_2 => ?_
 try rw [List.length_map] at hl0_2
 refine sw_slen (s := 0) (j := 3) rfl rfl fun hl0_3 => ?_
 try rw [List.length_map] at hl0_3
 refine sw_slen (s := 0) (j := 4) rfl rfl fun hl0_4 => ?_
 try rw [List.length_map] at hl0_4
 refine sw_seq ?_
 refine sw_reg ?_
 refine RunS.step (by exact ⟨rfl, ⟨⟩⟩) (by exact ⟨⟩) (LocG.of rfl (loc_box (ag := true) (cs := [PV.val _, PV.val _, PV.sl _ _, PV.sl _ _, PV.sl _ _]) (by decide) (by exact ⟨⟩))) (free1 (Free.of_ rfl)) ?_
 refine rA ?_ (x := kA)
 refine sw_seq ?_
 refine sw_seq ?_
 refine sO [(1, _), (2, _)] [(1, (80, [PV.val _, PV.val _, PV.sl _ _, PV.sl _ _, PV.sl _ _]))] ?_
 refine sw_reg ?_
 refine rA ?_ (x := lD [PV.val _, PV.val _, PV.sl .v _, PV.sl .v _, PV.sl .v _] FChg_ty_80)
 refine rA ?_ (x := cL [(true, [PV.val _, PV.val _, PV.sl _ _, PV.sl _ _, PV.sl _ _])] [(true, [PV.val _, PV.val _, PV.sl .v _, PV.sl .v _, PV.sl .v _])] FChg_c_109 (hs := by exact spec_IsCharge))
 refine rA ?_ (x := nT)
 refine sw_cond (t := 7) rfl (fun hb1 => ?_) (fun hb1 => ?_)
 ·try simp only [q1, q2, q3, q4, q5, q6, q7, q8, q9] at hb1
  have hok : okCharge x = false := by simpa using hb1
  refine sw_seq ?_
  refine sO [(1, _), (2, _)] [(1, _)] ?_
  refine sw_reg ?_
  refine rA ?_ (x := kA)
  refine sw_ret ?_
  exact (And.intro (by refine int_eq ?_; unfold workDone; rw [if_neg (by rw [hok]; simp)]) True.intro)
 ·try simp only [q1, q2, q3, q4, q5, q6, q7, q8, q9] at hb1
  have hok : okCharge x = true := by simpa using hb1
  obtain ⟨hp_, hb0, hb4, hrw⟩ := chg_ok hok
  have hpl := chg_pre hp_
  refine sw_skip ?_
  refine sw_seq ?_
  refine sO [(1, _), (2, _)] [(1, _)] ?_
  refine sw_reg ?_
  refine rA ?_ (x := lF FChg_fd_80_1)
  refine rA ?_ (x := lD [PV.val _] FChg_ty_3)
  refine rA ?_ (x := sA)
  refine sw_seq ?_
  refine sw_seq ?_
  refine sO [(1, _), (2, _), (3, _)] [(1, _)] ?_
  refine sw_reg ?_
  refine rA ?_ (x := kA)
  refine sw_block ?_
  refine sO [(1, _), (2, _), (3, _), (4, _)] [(1, _)] ?_
  refine sw_loop (l0 := [(1, RV.ptr 1 0), (2, RV.sv false [PV.val _])]) (b0 := [(1, (80, [PV.val _, PV.val _, PV.sl _ _, PV.sl _ _, PV.sl _ _]))]) (fun k : Nat => k ≤ x.Rows.length) (fun k : Nat => [(3, RV.int (x.Base + ((List.range k).map (rowAtC x)).sum)), (4, RV.int (k : Int))]) (fun k : Nat => []) (fun k : Nat => x.Rows.length - k) 0 (by omega) (by exact ⟨rfl, rfl, ⟨⟩⟩) (by exact ⟨rfl, ⟨⟩⟩) (by exact And.intro (by exact int_eq (by simp)) (And.intro (by exact rfl) (True.intro))) (by exact ⟨⟩) ?_
  rintro k hk
  refine sw_seq ?_
  refine sw_seq ?_
  refine sw_reg ?_
  refine rA ?_ (x := sM)
  refine rA ?_ (x := lF FChg_fd_80_4)
  refine rA ?_ (x := lD [PV.sl .v _] FChg_ty_41)
  refine rA ?_ (x := lN FChg_sl_41)
  refine rA ?_ (x := B_lss)
  refine sw_cond (t := 14) rfl (fun hb2 => ?_) (fun hb2 => ?_)
  ·try simp only [q1, q2, q3, q4, q5, q6, q7, q8, q9] at hb2
   have hlt : k < x.Rows.length := by omega
   have hsm := rsum_le (f := rowAtC x) (m := 4) (n := x.Ids.length) (fun i hi => hrw i hi) k (by omega)
   have hr1 : 0 ≤ x.Rows[k] ∧ x.Rows[k] ≤ 4 := by have := hrw k (by omega); rwa [← gDt_ hlt] at this
   refine sw_skip ?_
   refine sw_seq ?_
   refine sw_block ?_
   refine sO [(1, _), (2, _), (3, _), (4, _)] [(1, (80, [PV.val _, PV.val _, PV.sl _ _, PV.sl _ _, PV.sl _ _]))] ?_
   refine sw_reg ?_
   refine rA ?_ (x := sM)
   refine rA ?_ (x := lF FChg_fd_80_4)
   refine rA ?_ (x := lD [PV.sl .v _] FChg_ty_41)
   refine rA ?_ (x := sM)
   refine rA ?_ (x := loc_index (by decide) FChg_sl_41 (by exact ⟨⟩) (by exact rfl) (by exact getm2 (by omega) rfl) (by exact rfl))
   refine rA ?_ (x := lE [PV.val _] FChg_ty_3)
   refine rA ?_ (x := B_add)
   refine rA ?_ (x := sA)
   refine sO [(1, _), (2, _), (3, _), (4, _)] [(1, _)] ?_
   refine sw_reg ?_
   refine rA ?_ (x := sM)
   refine rA ?_ (x := B_add)
   refine rA ?_ (x := sA)
   refine Exists.intro (k + 1) (And.intro (by omega) (And.intro (by omega) (And.intro (And.intro (by exact ⟨rfl, rfl, ⟨⟩⟩) (by exact ⟨rfl, ⟨⟩⟩)) (And.intro (by exact And.intro (by exact int_eq (by rw [rsum_succ, ← Int.add_assoc]; unfold rowAtC; rw [← gDt_ hlt])) (And.intro (by exact rfl) (True.intro))) (by exact ⟨⟩)))))
  ·try simp only [q1, q2, q3, q4, q5, q6, q7, q8, q9] at hb2
   have hend : k = x.Rows.length := by omega
   refine sw_exit ?_
   refine sw_seq ?_
   refine sO [(1, _), (2, _), (3, _), (4, _)] [(1, (80, [PV.val _, PV.val _, PV.sl _ _, PV.sl _ _, PV.sl _ _]))] ?_
   refine sw_reg ?_
   refine rA ?_ (x := sM)
   refine rA ?_ (x := sA)
   refine sw_ret ?_
   exact (And.intro (by refine int_eq ?_; unfold workDone; rw [if_pos hok, hend]) True.intro)
theorem impl_TotalWork {p1 p2 p3 : Fl} {l : List Charge}  (hb : l.length ≤ 1048576) : SCall Tryd.prog 33 [(false, [PV.sl .v (l.map (cCharge p1 p2 p3))])] (resRV [(false, [PV.val (vI (totalWork l))])]) := by
 refine scall_of (rs := [(false, [PV.val (vI (totalWork l))])]) Tryd.func33 rfl (Nat.le_of_ble_eq_true rfl) (borA_cons (BorL.cons (PV.bor_sl _) BorL.nil) borA_nil) ?_
 intro h0 w0 Fz0
 refine sw_len (s := 0) rfl fun hl0 => ?_
 try rw [List.length_map] at hl0
 refine sw_seq ?_
 refine sw_reg ?_
 refine rA ?_ (x := kA)
 refine sw_seq ?_
 refine sO [(0, _), (2, _)] [] ?_
 refine sw_reg ?_
 refine rA ?_ (x := kA)
 refine sw_seq ?_
 refine sw_seq ?_
 refine sO [(0, _), (2, _), (3, _)] [] ?_
 refine sw_reg ?_
 refine rA ?_ (x := vM false [PV.sl .v _])
 refine rA ?_ (x := lN FChg_sl_25)
 refine rA ?_ (x := kM)
 refine sw_block ?_
 refine sO [(0, _), (2, _), (3, _), (6, _), (7, _), (8, _)] [] ?_
 refine sw_loop (l0 := [(0, RV.sv false [PV.sl _ _]), (2, RV.sv false [PV.val _]), (6, RV.sv false [PV.sl _ _]), (7, RV.sv false [PV.val _])]) (b0 := []) (fun k : Nat => k ≤ l.length) (fun k : Nat => [(3, RV.int (((l.take k).map workDone).sum)), (8, RV.int (k : Int))]) (fun k : Nat => []) (fun k : Nat => l.length - k) 0 (by omega) (by exact ⟨rfl, rfl, rfl, rfl, ⟨⟩⟩) (by exact ⟨⟩) (by exact And.intro (by first | exact rfl | simp) (And.intro (by exact rfl) (True.intro))) (by exact ⟨⟩) ?_
 rintro k hk
 refine sw_seq ?_
 refine sw_reg ?_
 refine rA ?_ (x := B_lss)
 refine sw_seq ?_
 refine sw_cond (t := 9) rfl (fun hb1 => ?_) (fun hb1 => ?_)
 ·try simp only [q1, q2, q3, q4, q5, q6, q7, q8, q9] at hb1
  have hlt : k < l.length := by omega
  have hsm := totalWork_le (l.take k)
  rw [List.length_take] at hsm
  unfold totalWork at hsm
  have hw1 := workDone_le l[k]
  refine sw_skip ?_
  refine sw_seq ?_
  refine sw_block ?_
  refine sw_seq ?_
  refine sO [(0, _), (2, _), (3, _), (6, _), (7, _), (8, _)] [] ?_
  refine sw_reg ?_
  refine rA ?_ (x := loc_index (by decide) FChg_sl_25 (by exact ⟨⟩) (by exact rfl) (by exact getm2 (by omega) rfl) (by exact rfl))
  refine rA ?_ (x := lE [PV.val _, PV.val _, PV.sl .v _, PV.sl .v _, PV.sl .v _] FChg_ty_80)
  refine RunS.step (by exact ⟨⟩) (by exact ⟨⟩) (LocG.of rfl (loc_alloc (by decide) FChg_z_80 FChg_zo_80)) (free1 (Free.app (Free.app (Free.of_ rfl) rfl) rfl)) ?_
  refine rA ?_ (x := loc_store (ag := true) (vs := [PV.val _, PV.val _, PV.sl _ _, PV.sl _ _, PV.sl _ _]) FChg_ty_80 (by exact ⟨⟩) (by exact rfl) (by exact Nat.le_of_ble_eq_true rfl))
  refine sO [(0, _), (2, _), (3, _), (5, _), (6, _), (7, _), (8, _)] [(5, (80, [PV.val _, PV.val _, PV.sl _ _, PV.sl _ _, PV.sl _ _]))] ?_
  refine sw_reg ?_
  refine rA ?_ (x := sM)
  refine rA ?_ (x := lD [PV.val _, PV.val _, PV.sl .v _, PV.sl .v _, PV.sl .v _] FChg_ty_80)
  refine rA ?_ (x := cL [(true, [PV.val _, PV.val _, PV.sl _ _, PV.sl _ _, PV.sl _ _])] [(true, [PV.val _, PV.val _, PV.sl .v _, PV.sl .v _, PV.sl .v _])] FChg_c_76 (hs := by exact impl_WorkDone))
  refine rA ?_ (x := B_add)
  refine rA ?_ (x := sA)
  refine sO [(0, _), (2, _), (3, _), (5, _), (6, _), (7, _), (8, _)] [(5, _)] ?_
  refine sw_reg ?_
  refine rA ?_ (x := B_add)
  refine rA ?_ (x := sM)
  refine Exists.intro (k + 1) (And.intro (by omega) (And.intro (by omega) (And.intro (And.intro (by exact ⟨rfl, rfl, rfl, rfl, ⟨⟩⟩) (by exact ⟨⟩)) (And.intro (by exact And.intro (by exact int_eq (by rw [isum_succ hlt])) (And.intro (by exact rfl) (True.intro))) (by exact ⟨⟩)))))
 ·try simp only [q1, q2, q3, q4, q5, q6, q7, q8, q9] at hb1
  have hend : k = l.length := by omega
  refine sw_exit ?_
  refine sw_seq ?_
  refine sO [(0, _), (2, _), (3, _), (6, _), (7, _), (8, _)] [] ?_
  refine sw_reg ?_
  refine rA ?_ (x := sM)
  refine rA ?_ (x := sA)
  refine sw_ret ?_
  exact (And.intro (by refine int_eq ?_; rw [hend, List.take_length]; rfl) True.intro)
theorem spec_TotalWork {p1 p2 p3 : Fl} {l : List Charge}  (hb : l.length ≤ 1048576) : SCall Tryd.prog 29 [(false, [PV.sl .v (l.map (cCharge p1 p2 p3))])] (resRV [(false, [PV.val (vI (totalWork l))])]) := by
 refine scall_of (rs := [(false, [PV.val (vI (totalWork l))])]) Tryd.func29 rfl (Nat.le_of_ble_eq_true rfl) (borA_cons (BorL.cons (PV.bor_sl _) BorL.nil) borA_nil) ?_
 intro h0 w0 Fz0
 refine sw_len (s := 0) rfl fun hl0 => ?_
 try rw [List.length_map] at hl0
 refine sw_seq ?_
 refine sw_reg ?_
 refine rA ?_ (x := kA)
 refine sw_seq ?_
 refine sO [(0, _), (2, _)] [] ?_
 refine sw_reg ?_
 refine rA ?_ (x := kA)
 refine sw_seq ?_
 refine sw_seq ?_
 refine sO [(0, _), (2, _), (3, _)] [] ?_
 refine sw_reg ?_
 refine rA ?_ (x := kA)
 refine sw_block ?_
 refine sO [(0, _), (2, _), (3, _), (4, _)] [] ?_
 refine sw_loop (l0 := [(0, RV.sv false [PV.sl _ _]), (2, RV.sv false [PV.val _])]) (b0 := []) (fun k : Nat => k ≤ l.length) (fun k : Nat => [(3, RV.int (((l.take k).map workDone).sum)), (4, RV.int (k : Int))]) (fun k : Nat => []) (fun k : Nat => l.length - k) 0 (by omega) (by exact ⟨rfl, rfl, ⟨⟩⟩) (by exact ⟨⟩) (by exact And.intro (by first | exact rfl | simp) (And.intro (by exact rfl) (True.intro))) (by exact ⟨⟩) ?_
 rintro k hk
 refine sw_seq ?_
 refine sw_seq ?_
 refine sw_reg ?_
 refine rA ?_ (x := sM)
 refine rA ?_ (x := vM false [PV.sl .v _])
 refine rA ?_ (x := lN FChg_sl_25)
 refine rA ?_ (x := B_lss)
 refine sw_cond (t := 8) rfl (fun hb1 => ?_) (fun hb1 => ?_)
 ·try simp only [q1, q2, q3, q4, q5, q6, q7, q8, q9] at hb1
  have hlt : k < l.length := by omega
  have hsm := totalWork_le (l.take k)
  rw [List.length_take] at hsm
  unfold totalWork at hsm
  have hw1 := workDone_le l[k]
  refine sw_skip ?_
  refine sw_seq ?_
  refine sw_block ?_
  refine sO [(0, _), (2, _), (3, _), (4, _)] [] ?_
  refine sw_reg ?_
  refine rA ?_ (x := sM)
  refine rA ?_ (x := vM false [PV.sl .v _])
  refine rA ?_ (x := sM)
  refine rA ?_ (x := loc_index (by decide) FChg_sl_25 (by exact ⟨⟩) (by exact rfl) (by exact getm2 (by omega) rfl) (by exact rfl))
  refine rA ?_ (x := lE [PV.val _, PV.val _, PV.sl .v _, PV.sl .v _, PV.sl .v _] FChg_ty_80)
  refine rA ?_ (x := cL [(true, [PV.val _, PV.val _, PV.sl _ _, PV.sl _ _, PV.sl _ _])] [(true, [PV.val _, PV.val _, PV.sl .v _, PV.sl .v _, PV.sl .v _])] FChg_c_72 (hs := by exact spec_WorkDone))
  refine rA ?_ (x := B_add)
  refine rA ?_ (x := sA)
  refine sO [(0, _), (2, _), (3, _), (4, _)] [] ?_
  refine sw_reg ?_
  refine rA ?_ (x := sM)
  refine rA ?_ (x := B_add)
  refine rA ?_ (x := sA)
  refine Exists.intro (k + 1) (And.intro (by omega) (And.intro (by omega) (And.intro (And.intro (by exact ⟨rfl, rfl, ⟨⟩⟩) (by exact ⟨⟩)) (And.intro (by exact And.intro (by exact int_eq (by rw [isum_succ hlt])) (And.intro (by exact rfl) (True.intro))) (by exact ⟨⟩)))))
 ·try simp only [q1, q2, q3, q4, q5, q6, q7, q8, q9] at hb1
  have hend : k = l.length := by omega
  refine sw_exit ?_
  refine sw_seq ?_
  refine sO [(0, _), (2, _), (3, _), (4, _)] [] ?_
  refine sw_reg ?_
  refine rA ?_ (x := sM)
  refine rA ?_ (x := sA)
  refine sw_ret ?_
  exact (And.intro (by refine int_eq ?_; rw [hend, List.take_length]; rfl) True.intro)
theorem impl_SharesOf {x : Charge}  : SCall Tryd.prog 77 [(true, [PV.val (vI x.Segment), PV.val (vI x.Base), PV.sl .v (x.Ids.map cInt), PV.sl .v (x.Tenants.map cInt), PV.sl .v (x.Rows.map cInt)])] (resRV [(false, [PV.sl (.own 3 1) ((sharesOf x).map cInt)])]) := by
 refine scall_of (rs := [(false, [PV.sl (.own 3 1) ((sharesOf x).map cInt)])]) Tryd.func77 rfl (Nat.le_of_ble_eq_true rfl) (borA_cons (BorL.cons (PV.bor_val _) (BorL.cons (PV.bor_val _) (BorL.cons (PV.bor_sl _) (BorL.cons (PV.bor_sl _) (BorL.cons (PV.bor_sl _) BorL.nil))))) borA_nil) ?_
 intro h0 w0 Fz0
 refine sw_slen (s := 0) (j := 2) rfl rfl fun hl0_2 => ?_
 try rw [List.length_map] at hl0_2
 refine sw_slen (s := 0) (j := 3) rfl rfl fun hl0_3 => ?_
 try rw [List.length_map] at hl0_3
 refine sw_slen (s := 0) (j := 4) rfl rfl fun hl0_4 => ?_
 try rw [List.length_map] at hl0_4
 refine sw_seq ?_
 refine sw_reg ?_
 refine RunS.step (by exact ⟨rfl, ⟨⟩⟩) (by exact ⟨⟩) (LocG.of rfl (loc_box (ag := true) (cs := [PV.val _, PV.val _, PV.sl _ _, PV.sl _ _, PV.sl _ _]) (by decide) (by exact ⟨⟩))) (free1 (Free.of_ rfl)) ?_
 refine rA ?_ (x := loc_const (.inr rfl) (by decide) (ok_nil (t := 3) (e := 1)))
 refine sw_seq ?_
 refine sO [(1, _), (2, _)] [(1, (80, [PV.val _, PV.val _, PV.sl _ _, PV.sl _ _, PV.sl _ _]))] ?_
 refine sw_reg ?_
 refine rA ?_ (x := loc_bslice (qs := []) (by decide) FChg_sl_41 FChg_z_3 (by decide) rfl rfl rfl rfl rfl (by exact Nat.le_of_ble_eq_true rfl) (by exact ⟨⟩) rfl)
 refine rA ?_ (x := tA)
 refine sw_seq ?_
 refine sw_seq ?_
 refine sO [(1, _), (2, _), (3, _)] [(1, _)] ?_
 refine sw_reg ?_
 refine rA ?_ (x := lD [PV.val _, PV.val _, PV.sl .v _, PV.sl .v _, PV.sl .v _] FChg_ty_80)
 refine rA ?_ (x := cL [(true, [PV.val _, PV.val _, PV.sl _ _, PV.sl _ _, PV.sl _ _])] [(true, [PV.val _, PV.val _, PV.sl .v _, PV.sl .v _, PV.sl .v _])] FChg_c_111 (hs := by exact impl_IsCharge))
 refine rA ?_ (x := nT)
 refine sw_cond (t := 11) rfl (fun hb1 => ?_) (fun hb1 => ?_)
 ·try simp only [q1, q2, q3, q4, q5, q6, q7, q8, q9] at hb1
  have hok : okCharge x = false := by simpa using hb1
  refine sw_seq ?_
  refine sO [(1, _), (2, _), (3, _)] [(1, _)] ?_
  refine sw_reg ?_
  refine rA ?_ (x := tM)
  refine rA ?_ (x := tA)
  refine sw_ret ?_
  exact (And.intro (by refine slc_eq ?_; unfold sharesOf; rw [if_neg (by rw [hok]; simp)]; rfl) True.intro)
 ·try simp only [q1, q2, q3, q4, q5, q6, q7, q8, q9] at hb1
  have hok : okCharge x = true := by simpa using hb1
  obtain ⟨hp_, hb0, hb4, hrw⟩ := chg_ok hok
  have hpl := chg_pre hp_
  refine sw_skip ?_
  refine sw_seq ?_
  refine sO [(1, _), (2, _), (3, _)] [(1, _)] ?_
  refine sw_reg ?_
  refine rA ?_ (x := lF FChg_fd_80_2)
  refine rA ?_ (x := lD [PV.sl .v _] FChg_ty_41)
  refine rA ?_ (x := lN FChg_sl_41)
  refine rA ?_ (x := sA)
  refine sw_seq ?_
  refine sw_seq ?_
  refine sO [(1, _), (2, _), (3, _), (4, _)] [(1, _)] ?_
  refine sw_reg ?_
  refine rA ?_ (x := lF FChg_fd_80_4)
  refine rA ?_ (x := lD [PV.sl .v _] FChg_ty_41)
  refine rA ?_ (x := lN FChg_sl_41)
  refine rA ?_ (x := kM)
  refine sw_block ?_
  refine sO [(1, _), (2, _), (3, _), (4, _), (17, _), (18, _), (19, _)] [(1, _)] ?_
  refine sw_loop (l0 := [(1, RV.ptr 1 0), (2, RV.sv false [PV.sl _ _]), (4, RV.sv false [PV.val _]), (17, RV.sv false [PV.sl _ _]), (18, RV.sv false [PV.val _])]) (b0 := [(1, (80, [PV.val _, PV.val _, PV.sl _ _, PV.sl _ _, PV.sl _ _]))]) (fun k : Nat => k ≤ x.Rows.length) (fun k : Nat => [(3, RV.slc (.own 3 1) (((List.range k).map (shareAt x)).map cInt)), (19, RV.int (k : Int))]) (fun k : Nat => []) (fun k : Nat => x.Rows.length - k) 0 (by omega) (by exact ⟨rfl, rfl, rfl, rfl, rfl, ⟨⟩⟩) (by exact ⟨rfl, ⟨⟩⟩) (by exact And.intro (by first | exact rfl | simp) (And.intro (by exact rfl) (True.intro))) (by exact ⟨⟩) ?_
  rintro k hk
  refine sw_seq ?_
  refine sw_reg ?_
  refine rA ?_ (x := B_lss)
  refine sw_seq ?_
  refine sw_cond (t := 20) rfl (fun hb2 => ?_) (fun hb2 => ?_)
  ·try simp only [q1, q2, q3, q4, q5, q6, q7, q8, q9] at hb2
   have hlt : k < x.Ids.length := by omega
   have hrl : k < x.Rows.length := by omega
   have hr1 : 0 ≤ x.Rows[k] ∧ x.Rows[k] ≤ 4 := by have := hrw k (by omega); rwa [← gDt_ hrl] at this
   have hd1 := Int.tdiv_nonneg hb0 (by omega : (0 : Int) ≤ x.Ids.length)
   have hd2 := Int.tdiv_le_self (x.Ids.length : Int) hb0
   have hsl : ((List.range k).map (shareAt x)).length = k := by rw [List.length_map, List.length_range]
   have hrg : (List.range k).length = k := List.length_range
   refine sw_skip ?_
   refine sw_seq ?_
   refine sw_block ?_
   refine sw_seq ?_
   refine sO [(1, _), (2, _), (3, _), (4, _), (17, _), (18, _), (19, _)] [(1, (80, [PV.val _, PV.val _, PV.sl _ _, PV.sl _ _, PV.sl _ _]))] ?_
   refine sw_reg ?_
   refine rA ?_ (x := sM)
   refine rA ?_ (x := loc_index (by decide) FChg_sl_41 (by exact ⟨⟩) (by exact rfl) (by exact getm2 (by omega) rfl) (by exact rfl))
   refine rA ?_ (x := lE [PV.val _] FChg_ty_3)
   refine rA ?_ (x := sA)
   refine rA ?_ (x := sA)
   refine sw_seq ?_
   refine sO [(1, _), (2, _), (3, _), (4, _), (5, _), (6, _), (17, _), (18, _), (19, _)] [(1, _)] ?_
   refine sw_reg ?_
   refine rA ?_ (x := sM)
   refine rA ?_ (x := lF FChg_fd_80_1)
   refine rA ?_ (x := lD [PV.val _] FChg_ty_3)
   refine rA ?_ (x := sM)
   refine rA ?_ (x := loc_quo)
   refine rA ?_ (x := B_add)
   refine rA ?_ (x := sA)
   refine sw_seq ?_
   refine sw_seq ?_
   refine sO [(1, _), (2, _), (3, _), (4, _), (5, _), (6, _), (7, _), (17, _), (18, _), (19, _)] [(1, _)] ?_
   refine sw_reg ?_
   refine rA ?_ (x := sM)
   refine rA ?_ (x := lF FChg_fd_80_1)
   refine rA ?_ (x := lD [PV.val _] FChg_ty_3)
   refine rA ?_ (x := sM)
   refine rA ?_ (x := loc_rem (by decide) (by exact ⟨⟩) (by exact ⟨⟩) (by omega))
   refine rA ?_ (x := B_lss)
   refine sw_cond (t := 35) rfl (fun hb3 => ?_) (fun hb3 => ?_)
   ·try simp only [q1, q2, q3, q4, q5, q6, q7, q8, q9] at hb3
    have hc := hb3
    refine sO [(1, _), (2, _), (3, _), (4, _), (5, _), (6, _), (7, _), (17, _), (18, _), (19, _)] [(1, _)] ?_
    refine sw_reg ?_
    refine rA ?_ (x := sM)
    refine rA ?_ (x := B_add)
    refine rA ?_ (x := sA)
    refine sO [(1, _), (2, _), (3, _), (4, _), (5, _), (6, _), (7, _), (17, _), (18, _), (19, _)] [(1, _)] ?_
    refine sw_reg ?_
    refine rA ?_ (x := tM)
    refine rA ?_ (x := sM)
    refine rA ?_ (x := loc_bslice (qs := [(false, [PV.val _])]) (by decide) FChg_sl_41 FChg_z_3 (by decide) rfl rfl rfl rfl rfl (by exact Nat.le_of_ble_eq_true rfl) (by exact (And.intro (by exact ⟨⟩) True.intro)) rfl)
    refine rA ?_ (x := loc_append (by decide) FChg_sl_41 FChg_z_3 rfl rfl (by decide) rfl (by simp only [List.length_map, List.length_append, List.length_cons, List.length_nil]; omega) (by simp only [List.length_map, List.length_append, List.length_cons, List.length_nil]; omega))
    refine rA ?_ (x := tA)
    refine sO [(1, _), (2, _), (3, _), (4, _), (5, _), (6, _), (7, _), (17, _), (18, _), (19, _)] [(1, _)] ?_
    refine sw_reg ?_
    refine rA ?_ (x := B_add)
    refine rA ?_ (x := sM)
    refine Exists.intro (k + 1) (And.intro (by omega) (And.intro (by omega) (And.intro (And.intro (by exact ⟨rfl, rfl, rfl, rfl, rfl, ⟨⟩⟩) (by exact ⟨rfl, ⟨⟩⟩)) (And.intro (by exact And.intro (by first | exact slc_eq (by rw [List.range_succ, List.map_append, List.map_append]; simp only [List.map_cons, List.map_nil]; unfold shareAt; rw [← gDt_ hrl, if_pos hc];  rfl) | exact slc_eq (by rw [List.range_succ, List.map_append, List.map_append]; simp only [List.map_cons, List.map_nil]; unfold shareAt; rw [← gDt_ hrl, if_neg hc];  rfl) | exact slc_eq (by rw [List.range_succ, List.map_append, List.map_append]; simp only [List.map_cons, List.map_nil]; unfold shareAt; rw [← gDt_ hrl, if_neg hc, Int.add_zero];  rfl)) (And.intro (by exact rfl) (True.intro))) (by exact ⟨⟩)))))
   ·try simp only [q1, q2, q3, q4, q5, q6, q7, q8, q9] at hb3
    have hc := hb3
    refine sw_skip ?_
    refine sO [(1, _), (2, _), (3, _), (4, _), (5, _), (6, _), (7, _), (17, _), (18, _), (19, _)] [(1, _)] ?_
    refine sw_reg ?_
    refine rA ?_ (x := tM)
    refine rA ?_ (x := sM)
    refine rA ?_ (x := loc_bslice (qs := [(false, [PV.val _])]) (by decide) FChg_sl_41 FChg_z_3 (by decide) rfl rfl rfl rfl rfl (by exact Nat.le_of_ble_eq_true rfl) (by exact (And.intro (by exact ⟨⟩) True.intro)) rfl)
    refine rA ?_ (x := loc_append (by decide) FChg_sl_41 FChg_z_3 rfl rfl (by decide) rfl (by simp only [List.length_map, List.length_append, List.length_cons, List.length_nil]; omega) (by simp only [List.length_map, List.length_append, List.length_cons, List.length_nil]; omega))
    refine rA ?_ (x := tA)
    refine sO [(1, _), (2, _), (3, _), (4, _), (5, _), (6, _), (7, _), (17, _), (18, _), (19, _)] [(1, _)] ?_
    refine sw_reg ?_
    refine rA ?_ (x := B_add)
    refine rA ?_ (x := sM)
    refine Exists.intro (k + 1) (And.intro (by omega) (And.intro (by omega) (And.intro (And.intro (by exact ⟨rfl, rfl, rfl, rfl, rfl, ⟨⟩⟩) (by exact ⟨rfl, ⟨⟩⟩)) (And.intro (by exact And.intro (by first | exact slc_eq (by rw [List.range_succ, List.map_append, List.map_append]; simp only [List.map_cons, List.map_nil]; unfold shareAt; rw [← gDt_ hrl, if_pos hc];  rfl) | exact slc_eq (by rw [List.range_succ, List.map_append, List.map_append]; simp only [List.map_cons, List.map_nil]; unfold shareAt; rw [← gDt_ hrl, if_neg hc];  rfl) | exact slc_eq (by rw [List.range_succ, List.map_append, List.map_append]; simp only [List.map_cons, List.map_nil]; unfold shareAt; rw [← gDt_ hrl, if_neg hc, Int.add_zero];  rfl)) (And.intro (by exact rfl) (True.intro))) (by exact ⟨⟩)))))
  ·try simp only [q1, q2, q3, q4, q5, q6, q7, q8, q9] at hb2
   have hend : k = x.Ids.length := by omega
   refine sw_exit ?_
   refine sw_seq ?_
   refine sO [(1, _), (2, _), (3, _), (4, _), (17, _), (18, _), (19, _)] [(1, (80, [PV.val _, PV.val _, PV.sl _ _, PV.sl _ _, PV.sl _ _]))] ?_
   refine sw_reg ?_
   refine rA ?_ (x := tM)
   refine rA ?_ (x := tA)
   refine sw_ret ?_
   exact (And.intro (by refine slc_eq ?_; unfold sharesOf; rw [if_pos hok, hend]) True.intro)
theorem spec_SharesOf {x : Charge}  : SCall Tryd.prog 73 [(true, [PV.val (vI x.Segment), PV.val (vI x.Base), PV.sl .v (x.Ids.map cInt), PV.sl .v (x.Tenants.map cInt), PV.sl .v (x.Rows.map cInt)])] (resRV [(false, [PV.sl (.own 3 1) ((sharesOf x).map cInt)])]) := by
 refine scall_of (rs := [(false, [PV.sl (.own 3 1) ((sharesOf x).map cInt)])]) Tryd.func73 rfl (Nat.le_of_ble_eq_true rfl) (borA_cons (BorL.cons (PV.bor_val _) (BorL.cons (PV.bor_val _) (BorL.cons (PV.bor_sl _) (BorL.cons (PV.bor_sl _) (BorL.cons (PV.bor_sl _) BorL.nil))))) borA_nil) ?_
 intro h0 w0 Fz0
 refine sw_slen (s := 0) (j := 2) rfl rfl fun hl0_2 => ?_
 try rw [List.length_map] at hl0_2
 refine sw_slen (s := 0) (j := 3) rfl rfl fun hl0_3 => ?_
 try rw [List.length_map] at hl0_3
 refine sw_slen (s := 0) (j := 4) rfl rfl fun hl0_4 => ?_
 try rw [List.length_map] at hl0_4
 refine sw_seq ?_
 refine sw_reg ?_
 refine RunS.step (by exact ⟨rfl, ⟨⟩⟩) (by exact ⟨⟩) (LocG.of rfl (loc_box (ag := true) (cs := [PV.val _, PV.val _, PV.sl _ _, PV.sl _ _, PV.sl _ _]) (by decide) (by exact ⟨⟩))) (free1 (Free.of_ rfl)) ?_
 refine rA ?_ (x := loc_const (.inr rfl) (by decide) (ok_nil (t := 3) (e := 1)))
 refine sw_seq ?_
 refine sO [(1, _), (2, _)] [(1, (80, [PV.val _, PV.val _, PV.sl _ _, PV.sl _ _, PV.sl _ _]))] ?_
 refine sw_reg ?_
 refine rA ?_ (x := loc_bslice (qs := []) (by decide) FChg_sl_41 FChg_z_3 (by decide) rfl rfl rfl rfl rfl (by exact Nat.le_of_ble_eq_true rfl) (by exact ⟨⟩) rfl)
 refine rA ?_ (x := tA)
 refine sw_seq ?_
 refine sO [(1, _), (2, _), (3, _)] [(1, _)] ?_
 refine sw_reg ?_
 refine rA ?_ (x := lF FChg_fd_80_2)
 refine rA ?_ (x := lD [PV.sl .v _] FChg_ty_41)
 refine rA ?_ (x := lN FChg_sl_41)
 refine rA ?_ (x := sA)
 refine sw_seq ?_
 refine sw_seq ?_
 refine sO [(1, _), (2, _), (3, _), (4, _)] [(1, _)] ?_
 refine sw_reg ?_
 refine rA ?_ (x := kA)
 refine sw_block ?_
 refine sO [(1, _), (2, _), (3, _), (4, _), (5, _)] [(1, _)] ?_
 refine sw_loop (l0 := [(1, RV.ptr 1 0), (2, RV.sv false [PV.sl _ _]), (4, RV.sv false [PV.val _])]) (b0 := [(1, (80, [PV.val _, PV.val _, PV.sl _ _, PV.sl _ _, PV.sl _ _]))]) (fun k : Nat => k ≤ x.Ids.length ∧ (0 < k → okCharge x = true)) (fun k : Nat => [(3, RV.slc (.own 3 1) (((List.range k).map (shareAt x)).map cInt)), (5, RV.int (k : Int))]) (fun k : Nat => []) (fun k : Nat => x.Ids.length - k) 0 (by exact ⟨by omega, fun h => absurd h (Nat.lt_irrefl 0)⟩) (by exact ⟨rfl, rfl, rfl, ⟨⟩⟩) (by exact ⟨rfl, ⟨⟩⟩) (by exact And.intro (by first | exact rfl | simp) (And.intro (by exact rfl) (True.intro))) (by exact ⟨⟩) ?_
 rintro k ⟨hk, ha⟩
 refine sw_seq ?_
 refine sw_seq ?_
 refine sw_reg ?_
 refine rA ?_ (x := sM)
 refine rA ?_ (x := sM)
 refine rA ?_ (x := B_lss)
 refine rA ?_ (x := sM)
 refine RunS.cases (s := 14) rfl (fun g1 => ?_) (fun g1 => ?_)
 ·have sg1 := g1
  try simp only [q1, q2, q3, q4, q5, q6, q7, q8, q9] at sg1
  refine rB g1 ?_ (x := lD [PV.val _, PV.val _, PV.sl .v _, PV.sl .v _, PV.sl .v _] FChg_ty_80)
  refine rB g1 ?_ (x := cL [(true, [PV.val _, PV.val _, PV.sl _ _, PV.sl _ _, PV.sl _ _])] [(true, [PV.val _, PV.val _, PV.sl .v _, PV.sl .v _, PV.sl .v _])] FChg_c_109 (hs := by exact spec_IsCharge))
  refine rA ?_ (x := pkT g1)
  refine sw_cond (t := 17) rfl (fun hb2 => ?_) (fun hb2 => ?_)
  ·try simp only [q1, q2, q3, q4, q5, q6, q7, q8, q9] at hb2
   have hok : okCharge x = true := by simp_all
   obtain ⟨hp_, hb0, hb4, hrw⟩ := chg_ok hok
   have hpl := chg_pre hp_
   have hlt : k < x.Ids.length := by omega
   have hrl : k < x.Rows.length := by omega
   have hr1 : 0 ≤ x.Rows[k] ∧ x.Rows[k] ≤ 4 := by have := hrw k (by omega); rwa [← gDt_ hrl] at this
   have hd1 := Int.tdiv_nonneg hb0 (by omega : (0 : Int) ≤ x.Ids.length)
   have hd2 := Int.tdiv_le_self (x.Ids.length : Int) hb0
   have hsl : ((List.range k).map (shareAt x)).length = k := by rw [List.length_map, List.length_range]
   have hrg : (List.range k).length = k := List.length_range
   refine sw_skip ?_
   refine sw_seq ?_
   refine sw_block ?_
   refine sw_seq ?_
   refine sO [(1, _), (2, _), (3, _), (4, _), (5, _)] [(1, (80, [PV.val _, PV.val _, PV.sl _ _, PV.sl _ _, PV.sl _ _]))] ?_
   refine sw_draw hm_ ?_
   refine dA 0 ?_ (x := lF FChg_fd_80_1)
   refine dA 1 ?_ (x := lD [PV.val _] FChg_ty_3)
   refine dA 0 ?_ (x := sM)
   refine dA 7 ?_ (x := loc_quo)
   refine dA 0 ?_ (x := lF FChg_fd_80_4)
   refine dA 16 ?_ (x := lD [PV.sl .v _] FChg_ty_41)
   refine dA 0 ?_ (x := sM)
   refine dA 112 ?_ (x := loc_index (k := k) (by decide) FChg_sl_41 (by exact ⟨⟩) (by rfl) (by exact getm2 hrl rfl) (by exact rfl))
   refine dA 240 ?_ (x := lE [PV.val _] FChg_ty_3)
   refine dA 511 ?_ (x := B_add)
   refine dA 1023 ?_ (x := sA)
   refine sw_seq ?_
   refine sw_seq ?_
   refine sO [(1, _), (2, _), (3, _), (4, _), (5, _), (6, _)] [(1, _)] ?_
   refine sw_reg ?_
   refine rA ?_ (x := sM)
   refine rA ?_ (x := lF FChg_fd_80_1)
   refine rA ?_ (x := lD [PV.val _] FChg_ty_3)
   refine rA ?_ (x := sM)
   refine rA ?_ (x := loc_rem (by decide) (by exact ⟨⟩) (by exact ⟨⟩) (by omega))
   refine rA ?_ (x := B_lss)
   refine sw_cond (t := 35) rfl (fun hb3 => ?_) (fun hb3 => ?_)
   ·try simp only [q1, q2, q3, q4, q5, q6, q7, q8, q9] at hb3
    have hc := hb3
    refine sO [(1, _), (2, _), (3, _), (4, _), (5, _), (6, _)] [(1, _)] ?_
    refine sw_reg ?_
    refine rA ?_ (x := sM)
    refine rA ?_ (x := B_add)
    refine rA ?_ (x := sA)
    refine sO [(1, _), (2, _), (3, _), (4, _), (5, _), (6, _)] [(1, _)] ?_
    refine sw_reg ?_
    refine rA ?_ (x := tM)
    refine rA ?_ (x := sM)
    refine rA ?_ (x := loc_bslice (qs := [(false, [PV.val _])]) (by decide) FChg_sl_41 FChg_z_3 (by decide) rfl rfl rfl rfl rfl (by exact Nat.le_of_ble_eq_true rfl) (by exact (And.intro (by exact ⟨⟩) True.intro)) rfl)
    refine rA ?_ (x := loc_append (by decide) FChg_sl_41 FChg_z_3 rfl rfl (by decide) rfl (by simp only [List.length_map, List.length_append, List.length_cons, List.length_nil]; omega) (by simp only [List.length_map, List.length_append, List.length_cons, List.length_nil]; omega))
    refine rA ?_ (x := tA)
    refine sO [(1, _), (2, _), (3, _), (4, _), (5, _), (6, _)] [(1, _)] ?_
    refine sw_reg ?_
    refine rA ?_ (x := sM)
    refine rA ?_ (x := B_add)
    refine rA ?_ (x := sA)
    refine Exists.intro (k + 1) (And.intro (by exact ⟨by omega, fun _ => hok⟩) (And.intro (by omega) (And.intro (And.intro (by exact ⟨rfl, rfl, rfl, ⟨⟩⟩) (by exact ⟨rfl, ⟨⟩⟩)) (And.intro (by exact And.intro (by first | exact slc_eq (by rw [List.range_succ, List.map_append, List.map_append]; simp only [List.map_cons, List.map_nil]; unfold shareAt; rw [← gDt_ hrl, if_pos hc]; rw [Int.add_comm (x.Base.tdiv _)]; rfl) | exact slc_eq (by rw [List.range_succ, List.map_append, List.map_append]; simp only [List.map_cons, List.map_nil]; unfold shareAt; rw [← gDt_ hrl, if_neg hc]; rw [Int.add_comm (x.Base.tdiv _)]; rfl) | exact slc_eq (by rw [List.range_succ, List.map_append, List.map_append]; simp only [List.map_cons, List.map_nil]; unfold shareAt; rw [← gDt_ hrl, if_neg hc, Int.add_zero]; rw [Int.add_comm (x.Base.tdiv _)]; rfl)) (And.intro (by exact rfl) (True.intro))) (by exact ⟨⟩)))))
   ·try simp only [q1, q2, q3, q4, q5, q6, q7, q8, q9] at hb3
    have hc := hb3
    refine sw_skip ?_
    refine sO [(1, _), (2, _), (3, _), (4, _), (5, _), (6, _)] [(1, _)] ?_
    refine sw_reg ?_
    refine rA ?_ (x := tM)
    refine rA ?_ (x := sM)
    refine rA ?_ (x := loc_bslice (qs := [(false, [PV.val _])]) (by decide) FChg_sl_41 FChg_z_3 (by decide) rfl rfl rfl rfl rfl (by exact Nat.le_of_ble_eq_true rfl) (by exact (And.intro (by exact ⟨⟩) True.intro)) rfl)
    refine rA ?_ (x := loc_append (by decide) FChg_sl_41 FChg_z_3 rfl rfl (by decide) rfl (by simp only [List.length_map, List.length_append, List.length_cons, List.length_nil]; omega) (by simp only [List.length_map, List.length_append, List.length_cons, List.length_nil]; omega))
    refine rA ?_ (x := tA)
    refine sO [(1, _), (2, _), (3, _), (4, _), (5, _), (6, _)] [(1, _)] ?_
    refine sw_reg ?_
    refine rA ?_ (x := sM)
    refine rA ?_ (x := B_add)
    refine rA ?_ (x := sA)
    refine Exists.intro (k + 1) (And.intro (by exact ⟨by omega, fun _ => hok⟩) (And.intro (by omega) (And.intro (And.intro (by exact ⟨rfl, rfl, rfl, ⟨⟩⟩) (by exact ⟨rfl, ⟨⟩⟩)) (And.intro (by exact And.intro (by first | exact slc_eq (by rw [List.range_succ, List.map_append, List.map_append]; simp only [List.map_cons, List.map_nil]; unfold shareAt; rw [← gDt_ hrl, if_pos hc]; rw [Int.add_comm (x.Base.tdiv _)]; rfl) | exact slc_eq (by rw [List.range_succ, List.map_append, List.map_append]; simp only [List.map_cons, List.map_nil]; unfold shareAt; rw [← gDt_ hrl, if_neg hc]; rw [Int.add_comm (x.Base.tdiv _)]; rfl) | exact slc_eq (by rw [List.range_succ, List.map_append, List.map_append]; simp only [List.map_cons, List.map_nil]; unfold shareAt; rw [← gDt_ hrl, if_neg hc, Int.add_zero]; rw [Int.add_comm (x.Base.tdiv _)]; rfl)) (And.intro (by exact rfl) (True.intro))) (by exact ⟨⟩)))))
  ·try simp only [q1, q2, q3, q4, q5, q6, q7, q8, q9] at hb2
   have hfin : (k = x.Ids.length ∧ okCharge x = true) ∨ (k = 0 ∧ (x.Ids.length = 0 ∨ okCharge x = false)) := by
    by_cases h0k : 0 < k
    ·left
     have h1 := ha h0k
     refine ⟨?_, h1⟩
     by_cases hka : k = x.Ids.length
     ·exact hka
     ·exfalso
      have : k < x.Ids.length := by omega
      simp_all
    ·right
     refine ⟨by omega, ?_⟩
     by_cases hka : x.Ids.length = 0
     ·exact .inl hka
     ·right
      have : k < x.Ids.length := by omega
      cases h1 : okCharge x <;> simp_all
   refine sw_exit ?_
   refine sw_seq ?_
   refine sO [(1, _), (2, _), (3, _), (4, _), (5, _)] [(1, (80, [PV.val _, PV.val _, PV.sl _ _, PV.sl _ _, PV.sl _ _]))] ?_
   refine sw_reg ?_
   refine rA ?_ (x := tM)
   refine rA ?_ (x := tA)
   refine sw_ret ?_
   exact (And.intro (by refine slc_eq ?_; rw [shares_end hfin]) True.intro)
 ·have sg1 := g1
  try simp only [q1, q2, q3, q4, q5, q6, q7, q8, q9] at sg1
  refine RunS.s0f g1 ?_
  refine RunS.s0f g1 ?_
  refine rA ?_ (x := pkF g1)
  refine sw_cond (t := 17) rfl (fun hb_ => nomatch hb_) (fun hb_ => ?_)
  have hfin : (k = x.Ids.length ∧ okCharge x = true) ∨ (k = 0 ∧ (x.Ids.length = 0 ∨ okCharge x = false)) := by
   by_cases h0k : 0 < k
   ·left
    have h1 := ha h0k
    refine ⟨?_, h1⟩
    by_cases hka : k = x.Ids.length
    ·exact hka
    ·exfalso
     have : k < x.Ids.length := by omega
     simp_all
   ·right
    refine ⟨by omega, ?_⟩
    by_cases hka : x.Ids.length = 0
    ·exact .inl hka
    ·right
     have : k < x.Ids.length := by omega
     cases h1 : okCharge x <;> simp_all
  refine sw_exit ?_
  refine sw_seq ?_
  refine sO [(1, _), (2, _), (3, _), (4, _), (5, _)] [(1, (80, [PV.val _, PV.val _, PV.sl _ _, PV.sl _ _, PV.sl _ _]))] ?_
  refine sw_reg ?_
  refine rA ?_ (x := tM)
  refine rA ?_ (x := tA)
  refine sw_ret ?_
  exact (And.intro (by refine slc_eq ?_; rw [shares_end hfin]) True.intro)
theorem impl_TenantCharge {p1 p2 p3 : Fl} {l : List Charge} {t : Int}  (hb : l.length ≤ 1048576) : SCall Tryd.prog 34 [(false, [PV.sl .v (l.map (cCharge p1 p2 p3))]), (false, [PV.val (vI t)])] (resRV [(false, [PV.val (vI (tenantCharge l t))])]) := by
 refine scall_of (rs := [(false, [PV.val (vI (tenantCharge l t))])]) Tryd.func34 rfl (Nat.le_of_ble_eq_true rfl) (borA_cons (BorL.cons (PV.bor_sl _) BorL.nil) (borA_cons (BorL.cons (PV.bor_val _) BorL.nil) borA_nil)) ?_
 intro h0 w0 Fz0
 refine sw_len (s := 0) rfl fun hl0 => ?_
 try rw [List.length_map] at hl0
 refine sw_seq ?_
 refine sw_reg ?_
 refine rA ?_ (x := kA)
 refine sw_seq ?_
 refine sO [(0, _), (1, _), (4, _)] [] ?_
 refine sw_reg ?_
 refine rA ?_ (x := kA)
 refine sw_seq ?_
 refine sw_seq ?_
 refine sO [(0, _), (1, _), (4, _), (5, _)] [] ?_
 refine sw_reg ?_
 refine rA ?_ (x := vM false [PV.sl .v _])
 refine rA ?_ (x := lN FChg_sl_25)
 refine rA ?_ (x := kM)
 refine sw_block ?_
 refine sO [(0, _), (1, _), (4, _), (5, _), (10, _), (11, _), (12, _)] [] ?_
 refine sw_loop (l0 := [(0, RV.sv false [PV.sl _ _]), (1, RV.sv false [PV.val _]), (4, RV.sv false [PV.val _]), (10, RV.sv false [PV.sl _ _]), (11, RV.sv false [PV.val _])]) (b0 := []) (fun k : Nat => k ≤ l.length) (fun k : Nat => [(5, RV.int (((l.take k).map (tenOne t)).sum)), (12, RV.int (k : Int))]) (fun k : Nat => []) (fun k : Nat => l.length - k) 0 (by omega) (by exact ⟨rfl, rfl, rfl, rfl, rfl, ⟨⟩⟩) (by exact ⟨⟩) (by exact And.intro (by first | exact rfl | simp) (And.intro (by exact rfl) (True.intro))) (by exact ⟨⟩) ?_
 rintro k hk
 refine sw_seq ?_
 refine sw_reg ?_
 refine rA ?_ (x := B_lss)
 refine sw_seq ?_
 refine sw_cond (t := 13) rfl (fun hb1 => ?_) (fun hb1 => ?_)
 ·try simp only [q1, q2, q3, q4, q5, q6, q7, q8, q9] at hb1
  have hlt : k < l.length := by omega
  have hsm := tenantCharge_le (l.take k) t
  rw [List.length_take] at hsm
  unfold tenantCharge at hsm
  have hsl := (shares_len l[k]).1
  refine sw_skip ?_
  refine sw_seq ?_
  refine sw_block ?_
  refine sw_seq ?_
  refine sO [(0, _), (1, _), (4, _), (5, _), (10, _), (11, _), (12, _)] [] ?_
  refine sw_reg ?_
  refine rA ?_ (x := loc_index (by decide) FChg_sl_25 (by exact ⟨⟩) (by exact rfl) (by exact getm2 (by omega) rfl) (by exact rfl))
  refine rA ?_ (x := lE [PV.val _, PV.val _, PV.sl .v _, PV.sl .v _, PV.sl .v _] FChg_ty_80)
  refine RunS.step (by exact ⟨⟩) (by exact ⟨⟩) (LocG.of rfl (loc_alloc (by decide) FChg_z_80 FChg_zo_80)) (free1 (Free.app (Free.app (Free.of_ rfl) rfl) rfl)) ?_
  refine rA ?_ (x := loc_store (ag := true) (vs := [PV.val _, PV.val _, PV.sl _ _, PV.sl _ _, PV.sl _ _]) FChg_ty_80 (by exact ⟨⟩) (by exact rfl) (by exact Nat.le_of_ble_eq_true rfl))
  refine sw_seq ?_
  refine sO [(0, _), (1, _), (4, _), (5, _), (7, _), (10, _), (11, _), (12, _)] [(7, (80, [PV.val _, PV.val _, PV.sl _ _, PV.sl _ _, PV.sl _ _]))] ?_
  refine sw_reg ?_
  refine rA ?_ (x := lD [PV.val _, PV.val _, PV.sl .v _, PV.sl .v _, PV.sl .v _] FChg_ty_80)
  refine rA ?_ (x := cL [(true, [PV.val _, PV.val _, PV.sl _ _, PV.sl _ _, PV.sl _ _])] [(true, [PV.val _, PV.val _, PV.sl .v _, PV.sl .v _, PV.sl .v _])] FChg_c_77 (hs := by exact impl_SharesOf))
  refine rA ?_ (x := lN FChg_sl_41)
  refine rA ?_ (x := kM)
  refine sw_block ?_
  refine sO [(0, _), (1, _), (4, _), (5, _), (7, _), (10, _), (11, _), (12, _), (17, _), (18, _), (19, _)] [(7, _)] ?_
  refine sw_loop (l0 := [(0, RV.sv false [PV.sl _ _]), (1, RV.sv false [PV.val _]), (4, RV.sv false [PV.val _]), (7, RV.ptr 7 0), (10, RV.sv false [PV.sl _ _]), (11, RV.sv false [PV.val _]), (12, RV.sv false [PV.val _]), (17, RV.sv false [PV.sl _ _]), (18, RV.sv false [PV.val _])]) (b0 := [(7, (80, [PV.val _, PV.val _, PV.sl _ _, PV.sl _ _, PV.sl _ _]))]) (fun k2 : Nat => k2 ≤ (sharesOf l[k]).length) (fun k2 : Nat => [(5, RV.int (((l.take k).map (tenOne t)).sum + ((List.range k2).map (tenAt t l[k])).sum)), (19, RV.int (k2 : Int))]) (fun k2 : Nat => []) (fun k2 : Nat => (sharesOf l[k]).length - k2) 0 (by omega) (by exact ⟨rfl, rfl, rfl, rfl, rfl, rfl, rfl, rfl, rfl, ⟨⟩⟩) (by exact ⟨rfl, ⟨⟩⟩) (by exact And.intro (by exact int_eq (by simp)) (And.intro (by exact rfl) (True.intro))) (by exact ⟨⟩) ?_
  rintro k2 hk2
  refine sw_seq ?_
  refine sw_reg ?_
  refine rA ?_ (x := B_lss)
  refine sw_seq ?_
  refine sw_cond (t := 20) rfl (fun hb2 => ?_) (fun hb2 => ?_)
  ·try simp only [q1, q2, q3, q4, q5, q6, q7, q8, q9] at hb2
   have hlt2 : k2 < (sharesOf l[k]).length := by omega
   have hso := shares_ok hlt2
   rw [← gDt_ hlt2] at hso
   have htl := hso.2.2.1
   have hsm2 := rsum_le (f := tenAt t l[k]) (m := 9) (fun i hi => tenAt_le hi) k2 hk2
   refine sw_skip ?_
   refine sw_seq ?_
   refine sw_block ?_
   refine sw_seq ?_
   refine sO [(0, _), (1, _), (4, _), (5, _), (7, _), (10, _), (11, _), (12, _), (17, _), (18, _), (19, _)] [(7, (80, [PV.val _, PV.val _, PV.sl _ _, PV.sl _ _, PV.sl _ _]))] ?_
   refine sw_reg ?_
   refine rA ?_ (x := sM)
   refine rA ?_ (x := loc_index (k := k2) (by decide) FChg_sl_41 (by exact ⟨⟩) (by rfl) (by exact getm2 (by omega) rfl) (by exact rfl))
   refine rA ?_ (x := lE [PV.val _] FChg_ty_3)
   refine rA ?_ (x := sA)
   refine rA ?_ (x := sA)
   refine sw_seq ?_
   refine sO [(0, _), (1, _), (4, _), (5, _), (7, _), (8, _), (9, _), (10, _), (11, _), (12, _), (17, _), (18, _), (19, _)] [(7, _)] ?_
   refine sw_reg ?_
   refine rA ?_ (x := lF FChg_fd_80_3)
   refine rA ?_ (x := lD [PV.sl .v _] FChg_ty_41)
   refine rA ?_ (x := sM)
   refine rA ?_ (x := loc_index (k := k2) (by decide) FChg_sl_41 (by exact ⟨⟩) (by rfl) (by exact getm2 (by omega) rfl) (by exact rfl))
   refine rA ?_ (x := lE [PV.val _] FChg_ty_3)
   refine rA ?_ (x := sM)
   refine rA ?_ (x := B_eql)
   refine sw_cond (t := 30) rfl (fun hb3 => ?_) (fun hb3 => ?_)
   ·try simp only [q1, q2, q3, q4, q5, q6, q7, q8, q9] at hb3
    have hc := hb3
    refine sO [(0, _), (1, _), (4, _), (5, _), (7, _), (8, _), (9, _), (10, _), (11, _), (12, _), (17, _), (18, _), (19, _)] [(7, _)] ?_
    refine sw_reg ?_
    refine rA ?_ (x := sM)
    refine rA ?_ (x := sM)
    refine rA ?_ (x := B_add)
    refine rA ?_ (x := sA)
    refine sO [(0, _), (1, _), (4, _), (5, _), (7, _), (8, _), (9, _), (10, _), (11, _), (12, _), (17, _), (18, _), (19, _)] [(7, _)] ?_
    refine sw_reg ?_
    refine rA ?_ (x := B_add)
    refine rA ?_ (x := sM)
    refine Exists.intro (k2 + 1) (And.intro (by omega) (And.intro (by omega) (And.intro (And.intro (by exact ⟨rfl, rfl, rfl, rfl, rfl, rfl, rfl, rfl, rfl, ⟨⟩⟩) (by exact ⟨rfl, ⟨⟩⟩)) (And.intro (by exact And.intro (by first | exact int_eq (by rw [rsum_succ, ← Int.add_assoc]; congr 1; unfold tenAt; rw [← gDt_ htl, if_pos hc, ← gDt_ hlt2]) | exact int_eq (by rw [rsum_succ]; unfold tenAt; rw [← gDt_ htl, if_neg hc, Int.add_zero])) (And.intro (by exact rfl) (True.intro))) (by exact ⟨⟩)))))
   ·try simp only [q1, q2, q3, q4, q5, q6, q7, q8, q9] at hb3
    have hc := hb3
    refine sw_skip ?_
    refine sO [(0, _), (1, _), (4, _), (5, _), (7, _), (8, _), (9, _), (10, _), (11, _), (12, _), (17, _), (18, _), (19, _)] [(7, _)] ?_
    refine sw_reg ?_
    refine rA ?_ (x := B_add)
    refine rA ?_ (x := sM)
    refine Exists.intro (k2 + 1) (And.intro (by omega) (And.intro (by omega) (And.intro (And.intro (by exact ⟨rfl, rfl, rfl, rfl, rfl, rfl, rfl, rfl, rfl, ⟨⟩⟩) (by exact ⟨rfl, ⟨⟩⟩)) (And.intro (by exact And.intro (by first | exact int_eq (by rw [rsum_succ, ← Int.add_assoc]; congr 1; unfold tenAt; rw [← gDt_ htl, if_pos hc, ← gDt_ hlt2]) | exact int_eq (by rw [rsum_succ]; unfold tenAt; rw [← gDt_ htl, if_neg hc, Int.add_zero])) (And.intro (by exact rfl) (True.intro))) (by exact ⟨⟩)))))
  ·try simp only [q1, q2, q3, q4, q5, q6, q7, q8, q9] at hb2
   have hend2 : k2 = (sharesOf l[k]).length := by omega
   refine sw_exit ?_
   refine sO [(0, _), (1, _), (4, _), (5, _), (7, _), (10, _), (11, _), (12, _), (17, _), (18, _), (19, _)] [(7, (80, [PV.val _, PV.val _, PV.sl _ _, PV.sl _ _, PV.sl _ _]))] ?_
   refine sw_reg ?_
   refine rA ?_ (x := B_add)
   refine rA ?_ (x := sM)
   refine Exists.intro (k + 1) (And.intro (by omega) (And.intro (by omega) (And.intro (And.intro (by exact ⟨rfl, rfl, rfl, rfl, rfl, ⟨⟩⟩) (by exact ⟨⟩)) (And.intro (by exact And.intro (by exact int_eq (by rw [isum_succ hlt, hend2]; rfl)) (And.intro (by exact rfl) (True.intro))) (by exact ⟨⟩)))))
 ·try simp only [q1, q2, q3, q4, q5, q6, q7, q8, q9] at hb1
  have hend : k = l.length := by omega
  refine sw_exit ?_
  refine sw_seq ?_
  refine sO [(0, _), (1, _), (4, _), (5, _), (10, _), (11, _), (12, _)] [] ?_
  refine sw_reg ?_
  refine rA ?_ (x := sM)
  refine rA ?_ (x := sA)
  refine sw_ret ?_
  exact (And.intro (by refine int_eq ?_; rw [hend, List.take_length]; rfl) True.intro)
theorem spec_TenantCharge {p1 p2 p3 : Fl} {l : List Charge} {t : Int}  (hb : l.length ≤ 1048576) : SCall Tryd.prog 30 [(false, [PV.sl .v (l.map (cCharge p1 p2 p3))]), (false, [PV.val (vI t)])] (resRV [(false, [PV.val (vI (tenantCharge l t))])]) := by
 refine scall_of (rs := [(false, [PV.val (vI (tenantCharge l t))])]) Tryd.func30 rfl (Nat.le_of_ble_eq_true rfl) (borA_cons (BorL.cons (PV.bor_sl _) BorL.nil) (borA_cons (BorL.cons (PV.bor_val _) BorL.nil) borA_nil)) ?_
 intro h0 w0 Fz0
 refine sw_len (s := 0) rfl fun hl0 => ?_
 try rw [List.length_map] at hl0
 refine sw_seq ?_
 refine sw_reg ?_
 refine rA ?_ (x := kA)
 refine sw_seq ?_
 refine sO [(0, _), (1, _), (4, _)] [] ?_
 refine sw_reg ?_
 refine rA ?_ (x := kA)
 refine sw_seq ?_
 refine sw_seq ?_
 refine sO [(0, _), (1, _), (4, _), (5, _)] [] ?_
 refine sw_reg ?_
 refine rA ?_ (x := kA)
 refine sw_block ?_
 refine sO [(0, _), (1, _), (4, _), (5, _), (6, _)] [] ?_
 refine sw_loop (l0 := [(0, RV.sv false [PV.sl _ _]), (1, RV.sv false [PV.val _]), (4, RV.sv false [PV.val _])]) (b0 := []) (fun k : Nat => k ≤ l.length) (fun k : Nat => [(5, RV.int (((l.take k).map (tenOne t)).sum)), (6, RV.int (k : Int))]) (fun k : Nat => []) (fun k : Nat => l.length - k) 0 (by omega) (by exact ⟨rfl, rfl, rfl, ⟨⟩⟩) (by exact ⟨⟩) (by exact And.intro (by first | exact rfl | simp) (And.intro (by exact rfl) (True.intro))) (by exact ⟨⟩) ?_
 rintro k hk
 refine sw_seq ?_
 refine sw_seq ?_
 refine sw_reg ?_
 refine rA ?_ (x := sM)
 refine rA ?_ (x := vM false [PV.sl .v _])
 refine rA ?_ (x := lN FChg_sl_25)
 refine rA ?_ (x := B_lss)
 refine sw_cond (t := 12) rfl (fun hb1 => ?_) (fun hb1 => ?_)
 ·try simp only [q1, q2, q3, q4, q5, q6, q7, q8, q9] at hb1
  have hlt : k < l.length := by omega
  have hsm := tenantCharge_le (l.take k) t
  rw [List.length_take] at hsm
  unfold tenantCharge at hsm
  have hsl := (shares_len l[k]).1
  refine sw_skip ?_
  refine sw_seq ?_
  refine sw_block ?_
  refine sw_seq ?_
  refine sO [(0, _), (1, _), (4, _), (5, _), (6, _)] [] ?_
  refine sw_reg ?_
  refine rA ?_ (x := vM false [PV.sl .v _])
  refine rA ?_ (x := sM)
  refine rA ?_ (x := loc_index (by decide) FChg_sl_25 (by exact ⟨⟩) (by exact rfl) (by exact getm2 (by omega) rfl) (by exact rfl))
  refine rA ?_ (x := lE [PV.val _, PV.val _, PV.sl .v _, PV.sl .v _, PV.sl .v _] FChg_ty_80)
  refine rA ?_ (x := cL [(true, [PV.val _, PV.val _, PV.sl _ _, PV.sl _ _, PV.sl _ _])] [(true, [PV.val _, PV.val _, PV.sl .v _, PV.sl .v _, PV.sl .v _])] FChg_c_73 (hs := by exact spec_SharesOf))
  refine rA ?_ (x := tA)
  refine sw_seq ?_
  refine sO [(0, _), (1, _), (4, _), (5, _), (6, _), (7, _)] [] ?_
  refine sw_reg ?_
  refine rA ?_ (x := kA)
  refine sw_block ?_
  refine sO [(0, _), (1, _), (4, _), (5, _), (6, _), (7, _), (8, _)] [] ?_
  refine sw_loop (l0 := [(0, RV.sv false [PV.sl _ _]), (1, RV.sv false [PV.val _]), (4, RV.sv false [PV.val _]), (6, RV.sv false [PV.val _]), (7, RV.sv false [PV.sl _ _])]) (b0 := []) (fun k2 : Nat => k2 ≤ (sharesOf l[k]).length) (fun k2 : Nat => [(5, RV.int (((l.take k).map (tenOne t)).sum + ((List.range k2).map (tenAt t l[k])).sum)), (8, RV.int (k2 : Int))]) (fun k2 : Nat => []) (fun k2 : Nat => (sharesOf l[k]).length - k2) 0 (by omega) (by exact ⟨rfl, rfl, rfl, rfl, rfl, ⟨⟩⟩) (by exact ⟨⟩) (by exact And.intro (by exact int_eq (by simp)) (And.intro (by exact rfl) (True.intro))) (by exact ⟨⟩) ?_
  rintro k2 hk2
  refine sw_seq ?_
  refine sw_seq ?_
  refine sw_reg ?_
  refine rA ?_ (x := sM)
  refine rA ?_ (x := vM false [PV.sl .v _])
  refine rA ?_ (x := lN FChg_sl_41)
  refine rA ?_ (x := B_lss)
  refine sw_cond (t := 23) rfl (fun hb2 => ?_) (fun hb2 => ?_)
  ·try simp only [q1, q2, q3, q4, q5, q6, q7, q8, q9] at hb2
   have hlt2 : k2 < (sharesOf l[k]).length := by omega
   have hso := shares_ok hlt2
   rw [← gDt_ hlt2] at hso
   have htl := hso.2.2.1
   have hsm2 := rsum_le (f := tenAt t l[k]) (m := 9) (fun i hi => tenAt_le hi) k2 hk2
   refine sw_skip ?_
   refine sw_seq ?_
   refine sw_block ?_
   refine sw_seq ?_
   refine sO [(0, _), (1, _), (4, _), (5, _), (6, _), (7, _), (8, _)] [] ?_
   refine sw_reg ?_
   refine rA ?_ (x := vM false [PV.sl .v _])
   refine rA ?_ (x := sM)
   refine rA ?_ (x := loc_index (by decide) FChg_sl_25 (by exact ⟨⟩) (by exact rfl) (by exact getm2 (by omega) rfl) (by exact rfl))
   refine rA ?_ (x := loc_efield (by decide) FChg_fd_80_3 (by exact Nat.le_of_ble_eq_true rfl))
   refine rA ?_ (x := lE [PV.sl .v _] FChg_ty_41)
   refine rA ?_ (x := sM)
   refine rA ?_ (x := loc_index (k := k2) (by decide) FChg_sl_41 (by exact ⟨⟩) (by rfl) (by exact getm2 (by omega) rfl) (by exact rfl))
   refine rA ?_ (x := lE [PV.val _] FChg_ty_3)
   refine rA ?_ (x := sM)
   refine rA ?_ (x := B_eql)
   refine sw_cond (t := 35) rfl (fun hb3 => ?_) (fun hb3 => ?_)
   ·try simp only [q1, q2, q3, q4, q5, q6, q7, q8, q9] at hb3
    have hc := hb3
    refine sO [(0, _), (1, _), (4, _), (5, _), (6, _), (7, _), (8, _)] [] ?_
    refine sw_reg ?_
    refine rA ?_ (x := sM)
    refine rA ?_ (x := vM false [PV.sl .v _])
    refine rA ?_ (x := sM)
    refine rA ?_ (x := loc_index (k := k2) (by decide) FChg_sl_41 (by exact ⟨⟩) (by rfl) (by exact getm2 (by omega) rfl) (by exact rfl))
    refine rA ?_ (x := lE [PV.val _] FChg_ty_3)
    refine rA ?_ (x := B_add)
    refine rA ?_ (x := sA)
    refine sO [(0, _), (1, _), (4, _), (5, _), (6, _), (7, _), (8, _)] [] ?_
    refine sw_reg ?_
    refine rA ?_ (x := sM)
    refine rA ?_ (x := B_add)
    refine rA ?_ (x := sA)
    refine Exists.intro (k2 + 1) (And.intro (by omega) (And.intro (by omega) (And.intro (And.intro (by exact ⟨rfl, rfl, rfl, rfl, rfl, ⟨⟩⟩) (by exact ⟨⟩)) (And.intro (by exact And.intro (by first | exact int_eq (by rw [rsum_succ, ← Int.add_assoc]; congr 1; unfold tenAt; rw [← gDt_ htl, if_pos hc, ← gDt_ hlt2]) | exact int_eq (by rw [rsum_succ]; unfold tenAt; rw [← gDt_ htl, if_neg hc, Int.add_zero])) (And.intro (by exact rfl) (True.intro))) (by exact ⟨⟩)))))
   ·try simp only [q1, q2, q3, q4, q5, q6, q7, q8, q9] at hb3
    have hc := hb3
    refine sw_skip ?_
    refine sO [(0, _), (1, _), (4, _), (5, _), (6, _), (7, _), (8, _)] [] ?_
    refine sw_reg ?_
    refine rA ?_ (x := sM)
    refine rA ?_ (x := B_add)
    refine rA ?_ (x := sA)
    refine Exists.intro (k2 + 1) (And.intro (by omega) (And.intro (by omega) (And.intro (And.intro (by exact ⟨rfl, rfl, rfl, rfl, rfl, ⟨⟩⟩) (by exact ⟨⟩)) (And.intro (by exact And.intro (by first | exact int_eq (by rw [rsum_succ, ← Int.add_assoc]; congr 1; unfold tenAt; rw [← gDt_ htl, if_pos hc, ← gDt_ hlt2]) | exact int_eq (by rw [rsum_succ]; unfold tenAt; rw [← gDt_ htl, if_neg hc, Int.add_zero])) (And.intro (by exact rfl) (True.intro))) (by exact ⟨⟩)))))
  ·try simp only [q1, q2, q3, q4, q5, q6, q7, q8, q9] at hb2
   have hend2 : k2 = (sharesOf l[k]).length := by omega
   refine sw_exit ?_
   refine sO [(0, _), (1, _), (4, _), (5, _), (6, _), (7, _), (8, _)] [] ?_
   refine sw_reg ?_
   refine rA ?_ (x := sM)
   refine rA ?_ (x := B_add)
   refine rA ?_ (x := sA)
   refine Exists.intro (k + 1) (And.intro (by omega) (And.intro (by omega) (And.intro (And.intro (by exact ⟨rfl, rfl, rfl, ⟨⟩⟩) (by exact ⟨⟩)) (And.intro (by exact And.intro (by exact int_eq (by rw [isum_succ hlt, hend2]; rfl)) (And.intro (by exact rfl) (True.intro))) (by exact ⟨⟩)))))
 ·try simp only [q1, q2, q3, q4, q5, q6, q7, q8, q9] at hb1
  have hend : k = l.length := by omega
  refine sw_exit ?_
  refine sw_seq ?_
  refine sO [(0, _), (1, _), (4, _), (5, _), (6, _)] [] ?_
  refine sw_reg ?_
  refine rA ?_ (x := sM)
  refine rA ?_ (x := sA)
  refine sw_ret ?_
  exact (And.intro (by refine int_eq ?_; rw [hend, List.take_length]; rfl) True.intro)
end Go.Proofs.YtaomckpfgmhapaaDoor
