/- What functions of the program compute. No condition. -/
import Derived.Test.YtloipjaiceifbaaCCluCClusterRows
import Derived.KernelRfl
set_option linter.unusedVariables false
set_option linter.unusedSimpArgs false
namespace Go.Proofs.Ytloipjaiceifbaa
open Go Go.RowKit M
set_option maxRecDepth 10000
attribute [local irreducible] PV.Lcl PV.LclR RV.Lcl
theorem spec_l18Node {p3 p4 p9 p10 p13 p14 : Fl} {c : Cluster} {n : Int}  (hn : 0 ≤ n ∧ n.toNat < c.Up.length) (hl : c.At.length = c.Up.length ∧ c.Pos.length = c.Up.length ∧ c.Buffer.length = c.Up.length) (hb : wtRowSS c.Parts ≤ 68719476736) : SCall Try.prog 123 [(true, [PV.val (vI c.Query.Id), PV.val (vI c.Query.Tenant), PV.sl .v (c.Query.Conds.map cCond), PV.sl .v (c.Query.Out.map cInt), PV.sl .v (c.Parts.map (cRowS p3 p4)), PV.sl .v (c.Up.map cBool), PV.sl .v (c.At.map cInt), PV.sl .v (c.Pos.map cInt), PV.sl .v (c.Buffer.map (cRowS p9 p10)), PV.sl .v (c.Done.map cInt), PV.sl .v (c.Rows.map (cRowS p13 p14))]), (false, [PV.val (vI n)])] (resRV [(false, [PV.val (.bool (nodeB c n))])]) := by
 refine scall_of (rs := [(false, [PV.val (.bool (nodeB c n))])]) Try.func123 rfl (Nat.le_of_ble_eq_true rfl) (borA_cons (BorL.cons (PV.bor_val _) (BorL.cons (PV.bor_val _) (BorL.cons (PV.bor_sl _) (BorL.cons (PV.bor_sl _) (BorL.cons (PV.bor_sl _) (BorL.cons (PV.bor_sl _) (BorL.cons (PV.bor_sl _) (BorL.cons (PV.bor_sl _) (BorL.cons (PV.bor_sl _) (BorL.cons (PV.bor_sl _) (BorL.cons (PV.bor_sl _) BorL.nil))))))))))) (borA_cons (BorL.cons (PV.bor_val _) BorL.nil) borA_nil)) ?_
 intro h0 w0 Fz0
 refine sw_slen (s := 0) (j := 2) rfl rfl fun hl0_2 => ?_
 try rw [List.length_map] at hl0_2
 refine sw_slen (s := 0) (j := 3) rfl rfl fun hl0_3 => ?_
 try rw [List.length_map] at hl0_3
 refine sw_slen (s := 0) (j := 4) rfl rfl fun hl0_4 => ?_
 try rw [List.length_map] at hl0_4
 refine sw_slen (s := 0) (j := 5) rfl rfl fun hl0_5 => ?_
 try rw [List.length_map] at hl0_5
 refine sw_slen (s := 0) (j := 6) rfl rfl fun hl0_6 => ?_
 try rw [List.length_map] at hl0_6
 refine sw_slen (s := 0) (j := 7) rfl rfl fun hl0_7 => ?_
 try rw [List.length_map] at hl0_7
 refine sw_slen (s := 0) (j := 8) rfl rfl fun hl0_8 => ?_
 try rw [List.length_map] at hl0_8
 refine sw_slen (s := 0) (j := 9) rfl rfl fun hl0_9 => ?_
 try rw [List.length_map] at hl0_9
 refine sw_slen (s := 0) (j := 10) rfl rfl fun hl0_10 => ?_
 try rw [List.length_map] at hl0_10
 have hwp := part_wt (s := atI c.At n) hb
 have hwt := take_wt (k := (atI c.Pos n).toNat) hwp
 refine sw_seq ?_
 refine sw_reg ?_
 refine RunS.step (by exact ⟨rfl, ⟨⟩⟩) (by exact ⟨⟩) (LocG.of rfl (loc_box (ag := true) (cs := [PV.val _, PV.val _, PV.sl _ _, PV.sl _ _, PV.sl _ _, PV.sl _ _, PV.sl _ _, PV.sl _ _, PV.sl _ _, PV.sl _ _, PV.sl _ _]) (by decide) (by exact ⟨⟩))) (free1 (Free.of_ rfl)) ?_
 refine rA ?_ (x := kA)
 refine sw_seq ?_
 refine sw_seq ?_
 refine sO [(1, _), (2, _), (4, _)] [(2, (60, [PV.val _, PV.val _, PV.sl _ _, PV.sl _ _, PV.sl _ _, PV.sl _ _, PV.sl _ _, PV.sl _ _, PV.sl _ _, PV.sl _ _, PV.sl _ _]))] ?_
 refine sw_reg ?_
 refine rA ?_ (x := lF fd_60_3)
 refine rA ?_ (x := lD [PV.sl .v _] ty_38)
 refine rA ?_ (x := sM)
 refine rA ?_ (x := loc_index (k := (n).toNat) (by decide) sl_38 (by exact ⟨⟩) (by omega) (by exact getm2 (by omega) (by rw [atI_eq (by omega)])) (by exact rfl))
 refine rA ?_ (x := lE [PV.val _] ty_3)
 refine rA ?_ (x := B_eql)
 refine sw_cond (t := 11) rfl (fun hb1 => ?_) (fun hb1 => ?_)
 ·try simp only [q1, q2, q3, q4, q5, q6, q7, q8, q9] at hb1
  refine sw_seq ?_
  refine sO [(1, _), (2, _), (4, _)] [(2, _)] ?_
  refine sw_reg ?_
  refine rA ?_ (x := lF fd_60_4)
  refine rA ?_ (x := lD [PV.sl .v _] ty_38)
  refine rA ?_ (x := sM)
  refine rA ?_ (x := loc_index (k := (n).toNat) (by decide) sl_38 (by exact ⟨⟩) (by omega) (by exact getm2 (by omega) (by rw [atI_eq (by omega)])) (by exact rfl))
  refine rA ?_ (x := lE [PV.val _] ty_3)
  refine rA ?_ (x := B_eql)
  refine rA ?_ (x := sM)
  refine RunS.cases (s := 18) rfl (fun g2 => ?_) (fun g2 => ?_)
  ·have sg2 := g2
   try simp only [q1, q2, q3, q4, q5, q6, q7, q8, q9] at sg2
   refine rB g2 ?_ (x := lF fd_60_5)
   refine rB g2 ?_ (x := lD [PV.sl .v _] ty_57)
   refine rB g2 ?_ (x := sM)
   refine rB g2 ?_ (x := loc_index (k := (n).toNat) (by decide) sl_57 (by exact ⟨⟩) (by omega) (by exact getm2 (by omega) (by rw [bufAt_eq (by omega)])) (by exact rfl))
   refine rB g2 ?_ (x := lE [PV.sl .v _] ty_32)
   refine rB g2 ?_ (x := lN sl_32)
   refine rB g2 ?_ (x := B_eql)
   refine rA ?_ (x := pkT g2)
   refine rA ?_ (x := sA)
   refine sw_ret ?_
   exact (And.intro (by refine bool_eq ?_; unfold nodeB; rw [if_pos (by assumption)]; first | (simp_all; done) | (rw [Bool.eq_iff_iff]; simp_all)) True.intro)
  ·have sg2 := g2
   try simp only [q1, q2, q3, q4, q5, q6, q7, q8, q9] at sg2
   refine RunS.s0f g2 ?_
   refine RunS.s0f g2 ?_
   refine RunS.s0f g2 ?_
   refine RunS.s0f g2 ?_
   refine RunS.s0f g2 ?_
   refine RunS.s0f g2 ?_
   refine RunS.s0f g2 ?_
   refine rA ?_ (x := pkF g2)
   refine rA ?_ (x := sA)
   refine sw_ret ?_
   exact (And.intro (by refine bool_eq ?_; unfold nodeB; rw [if_pos (by assumption)]; first | (simp_all; done) | (rw [Bool.eq_iff_iff]; simp_all)) True.intro)
 ·try simp only [q1, q2, q3, q4, q5, q6, q7, q8, q9] at hb1
  refine sw_skip ?_
  refine sw_seq ?_
  refine sO [(1, _), (2, _), (4, _)] [(2, _)] ?_
  refine sw_reg ?_
  refine rA ?_ (x := lF fd_60_2)
  refine rA ?_ (x := lD [PV.sl .v _] ty_58)
  refine rA ?_ (x := lN sl_58)
  refine rA ?_ (x := sA)
  refine sw_seq ?_
  refine sw_seq ?_
  refine sO [(1, _), (2, _), (4, _), (5, _)] [(2, _)] ?_
  refine sw_draw hm_ ?_
  refine dA 0 ?_ (x := lF fd_60_2)
  refine dA 1 ?_ (x := lD [PV.sl .v _] ty_58)
  refine dA 0 ?_ (x := sM)
  refine dA 7 ?_ (x := loc_index (k := (n).toNat) (by decide) sl_58 (by exact ⟨⟩) (by omega) (by exact getm2 (by omega) (by rw [upAt_eq (by omega)])) (by exact rfl))
  refine dA 15 ?_ (x := lE [PV.val _] ty_4)
  refine dA 31 ?_ (x := nT)
  refine dA 63 ?_ (x := sM)
  refine Run.cases (s := 36) rfl (fun g3 => ?_) (fun g3 => ?_)
  ·have sg3 := g3
   try simp only [q1, q2, q3, q4, q5, q6, q7, q8, q9] at sg3
   refine dT 127 g3 ?_
   refine dT 255 g3 ?_
   refine dT 127 g3 ?_
   refine dT 1023 g3 ?_
   refine dT 2047 g3 ?_
   refine dT 127 g3 ?_
   refine dT 4223 g3 ?_
   refine dT 12415 g3 ?_
   refine dT 28799 g3 ?_
   refine dT 65535 g3 ?_
   refine dT 131071 g3 ?_
   refine dA 262143 ?_ (x := pkT g3)
   refine dA 524287 ?_ (x := sM)
   refine Run.cases (s := 49) rfl (fun g4 => ?_) (fun g4 => nomatch g4)
   refine dT 1048575 g4 ?_
   refine dT 2097151 g4 ?_
   refine dT 1048575 g4 ?_
   refine dT 5242879 g4 ?_
   refine dT 1048575 g4 ?_
   refine dT 30408703 g4 ?_
   refine dT 63963135 g4 ?_
   refine dT 134217727 g4 ?_
   refine dA 268435455 ?_ (x := pkT g4)
   refine dA 536870911 ?_ (x := sM)
   refine Run.cases (s := 59) rfl (fun g5 => ?_) (fun g5 => nomatch g5)
   refine dT 1073741823 g5 ?_
   refine dT 2147483647 g5 ?_
   refine dT 1073741823 g5 ?_
   refine dT 8589934591 g5 ?_
   refine dT 17179869183 g5 ?_
   refine dT 1073741823 g5 ?_
   refine dT 68719476735 g5 ?_
   refine dT 1073741823 g5 ?_
   refine dT 274877906943 g5 ?_
   refine dT 549755813887 g5 ?_
   refine dU 1099511627775 ?_
   refine dU 2199023255551 ?_
   refine dU 1099511627775 ?_
   refine dU 8796093022207 ?_
   refine dU 17592186044415 ?_
   refine dU 1099511627775 ?_
   refine dU 70368744177663 ?_
   refine dU 1099511627775 ?_
   refine dU 281474976710655 ?_
   refine dT 562949953421311 g5 ?_
   refine dA 1125899906842623 ?_ (x := pkT g5)
   refine sw_cond (t := 80) rfl (fun hb_ => ?_) (fun hb_ => nomatch hb_)
   have hbad : nodeB c n = false := by unfold nodeB; rw [if_neg (by assumption)]; simp_all; try (intros; simp_all)
   refine sw_seq ?_
   refine sO [(1, _), (2, _), (4, _), (5, _)] [(2, _)] ?_
   refine sw_reg ?_
   refine rA ?_ (x := kA)
   refine sw_ret ?_
   exact (And.intro (by refine bool_eq ?_; exact hbad.symm) True.intro)
  ·have sg3 := g3
   try simp only [q1, q2, q3, q4, q5, q6, q7, q8, q9] at sg3
   refine dB 127 g3 ?_ (x := lF fd_60_3)
   refine dB 255 g3 ?_ (x := lD [PV.sl .v _] ty_38)
   refine dB 127 g3 ?_ (x := sM)
   refine dB 1023 g3 ?_ (x := loc_index (k := (n).toNat) (by decide) sl_38 (by exact ⟨⟩) (by omega) (by exact getm2 (by omega) (by rw [atI_eq (by omega)])) (by exact rfl))
   refine dB 2047 g3 ?_ (x := lE [PV.val _] ty_3)
   refine dB 127 g3 ?_ (x := lF fd_60_1)
   refine dB 4223 g3 ?_ (x := lD [PV.sl .v _] ty_57)
   refine dB 12415 g3 ?_ (x := lN sl_57)
   refine dB 28799 g3 ?_ (x := B_sub)
   refine dB 65535 g3 ?_ (x := cL [(false, [PV.val _]), (false, [PV.val _]), (false, [PV.val _])] [(false, [PV.val _]), (false, [PV.val _]), (false, [PV.val _])] c_72 (hs := by exact spec_l1In))
   refine dB 131071 g3 ?_ (x := nT)
   refine dA 262143 ?_ (x := pkF g3)
   refine dA 524287 ?_ (x := sM)
   refine Run.cases (s := 49) rfl (fun g7 => ?_) (fun g7 => ?_)
   ·have sg7 := g7
    try simp only [q1, q2, q3, q4, q5, q6, q7, q8, q9] at sg7
    refine dT 1048575 g7 ?_
    refine dT 2097151 g7 ?_
    refine dT 1048575 g7 ?_
    refine dT 5242879 g7 ?_
    refine dT 1048575 g7 ?_
    refine dT 30408703 g7 ?_
    refine dT 63963135 g7 ?_
    refine dT 134217727 g7 ?_
    refine dA 268435455 ?_ (x := pkT g7)
    refine dA 536870911 ?_ (x := sM)
    refine Run.cases (s := 59) rfl (fun g8 => ?_) (fun g8 => nomatch g8)
    refine dT 1073741823 g8 ?_
    refine dT 2147483647 g8 ?_
    refine dT 1073741823 g8 ?_
    refine dT 8589934591 g8 ?_
    refine dT 17179869183 g8 ?_
    refine dT 1073741823 g8 ?_
    refine dT 68719476735 g8 ?_
    refine dT 1073741823 g8 ?_
    refine dT 274877906943 g8 ?_
    refine dT 549755813887 g8 ?_
    refine dU 1099511627775 ?_
    refine dU 2199023255551 ?_
    refine dU 1099511627775 ?_
    refine dU 8796093022207 ?_
    refine dU 17592186044415 ?_
    refine dU 1099511627775 ?_
    refine dU 70368744177663 ?_
    refine dU 1099511627775 ?_
    refine dU 281474976710655 ?_
    refine dT 562949953421311 g8 ?_
    refine dA 1125899906842623 ?_ (x := pkT g8)
    refine sw_cond (t := 80) rfl (fun hb_ => ?_) (fun hb_ => nomatch hb_)
    have hbad : nodeB c n = false := by unfold nodeB; rw [if_neg (by assumption)]; simp_all; try (intros; simp_all)
    refine sw_seq ?_
    refine sO [(1, _), (2, _), (4, _), (5, _)] [(2, _)] ?_
    refine sw_reg ?_
    refine rA ?_ (x := kA)
    refine sw_ret ?_
    exact (And.intro (by refine bool_eq ?_; exact hbad.symm) True.intro)
   ·have sg7 := g7
    try simp only [q1, q2, q3, q4, q5, q6, q7, q8, q9] at sg7
    refine dB 1048575 g7 ?_ (x := lF fd_60_6)
    refine dB 2097151 g7 ?_ (x := lD [PV.sl .v _] ty_38)
    refine dB 1048575 g7 ?_ (x := lF fd_60_3)
    refine dB 5242879 g7 ?_ (x := lD [PV.sl .v _] ty_38)
    refine dB 1048575 g7 ?_ (x := sM)
    refine dB 30408703 g7 ?_ (x := loc_index (k := (n).toNat) (by decide) sl_38 (by exact ⟨⟩) (by omega) (by exact getm2 (by omega) (by rw [atI_eq (by omega)])) (by exact rfl))
    refine dB 63963135 g7 ?_ (x := lE [PV.val _] ty_3)
    refine dB 134217727 g7 ?_ (x := cL [(false, [PV.sl _ _]), (false, [PV.val _])] [(false, [PV.sl .v _]), (false, [PV.val _])] c_73 (hs := by exact spec_HasMember))
    refine dA 268435455 ?_ (x := pkF g7)
    refine dA 536870911 ?_ (x := sM)
    refine Run.cases (s := 59) rfl (fun g10 => ?_) (fun g10 => ?_)
    ·have sg10 := g10
     try simp only [q1, q2, q3, q4, q5, q6, q7, q8, q9] at sg10
     refine dT 1073741823 g10 ?_
     refine dT 2147483647 g10 ?_
     refine dT 1073741823 g10 ?_
     refine dT 8589934591 g10 ?_
     refine dT 17179869183 g10 ?_
     refine dT 1073741823 g10 ?_
     refine dT 68719476735 g10 ?_
     refine dT 1073741823 g10 ?_
     refine dT 274877906943 g10 ?_
     refine dT 549755813887 g10 ?_
     refine dU 1099511627775 ?_
     refine dU 2199023255551 ?_
     refine dU 1099511627775 ?_
     refine dU 8796093022207 ?_
     refine dU 17592186044415 ?_
     refine dU 1099511627775 ?_
     refine dU 70368744177663 ?_
     refine dU 1099511627775 ?_
     refine dU 281474976710655 ?_
     refine dT 562949953421311 g10 ?_
     refine dA 1125899906842623 ?_ (x := pkT g10)
     refine sw_cond (t := 80) rfl (fun hb_ => ?_) (fun hb_ => nomatch hb_)
     have hbad : nodeB c n = false := by unfold nodeB; rw [if_neg (by assumption)]; simp_all; try (intros; simp_all)
     refine sw_seq ?_
     refine sO [(1, _), (2, _), (4, _), (5, _)] [(2, _)] ?_
     refine sw_reg ?_
     refine rA ?_ (x := kA)
     refine sw_ret ?_
     exact (And.intro (by refine bool_eq ?_; exact hbad.symm) True.intro)
    ·have sg10 := g10
     try simp only [q1, q2, q3, q4, q5, q6, q7, q8, q9] at sg10
     refine dB 1073741823 g10 ?_ (x := lF fd_60_3)
     refine dB 2147483647 g10 ?_ (x := lD [PV.sl .v _] ty_38)
     refine dB 1073741823 g10 ?_ (x := sM)
     refine dB 8589934591 g10 ?_ (x := loc_index (k := (n).toNat) (by decide) sl_38 (by exact ⟨⟩) (by omega) (by exact getm2 (by omega) (by rw [atI_eq (by omega)])) (by exact rfl))
     refine dB 17179869183 g10 ?_ (x := lE [PV.val _] ty_3)
     refine dB 1073741823 g10 ?_ (x := sM)
     refine dB 68719476735 g10 ?_ (x := cL [(false, [PV.val _]), (false, [PV.val _])] [(false, [PV.val _]), (false, [PV.val _])] c_136 (hs := by exact spec_HomeOf))
     refine dB 1073741823 g10 ?_ (x := sM)
     refine dB 274877906943 g10 ?_ (x := B_neq)
     refine dB 549755813887 g10 ?_ (x := sM)
     refine Run.cases (s := 69) rfl (fun g12 => ?_) (fun g12 => ?_)
     ·have sg12 := g12
      try simp only [q1, q2, q3, q4, q5, q6, q7, q8, q9] at sg12
      refine dB 1099511627775 g12 ?_ (x := lF fd_60_3)
      refine dB 2199023255551 g12 ?_ (x := lD [PV.sl .v _] ty_38)
      refine dB 1099511627775 g12 ?_ (x := sM)
      refine dB 8796093022207 g12 ?_ (x := loc_index (k := (n).toNat) (by decide) sl_38 (by exact ⟨⟩) (by omega) (by exact getm2 (by omega) (by rw [atI_eq (by omega)])) (by exact rfl))
      refine dB 17592186044415 g12 ?_ (x := lE [PV.val _] ty_3)
      refine dB 1099511627775 g12 ?_ (x := sM)
      refine dB 70368744177663 g12 ?_ (x := cL [(false, [PV.val _]), (false, [PV.val _])] [(false, [PV.val _]), (false, [PV.val _])] c_137 (hs := by exact spec_BackupOf))
      refine dB 1099511627775 g12 ?_ (x := sM)
      refine dB 281474976710655 g12 ?_ (x := B_neq)
      refine dB 562949953421311 g10 ?_ (x := pkT g12)
      refine dA 1125899906842623 ?_ (x := pkF g10)
      refine sw_cond (t := 80) rfl (fun hb13 => ?_) (fun hb13 => ?_)
      ·try simp only [q1, q2, q3, q4, q5, q6, q7, q8, q9] at hb13
       have hbad : nodeB c n = false := by unfold nodeB; rw [if_neg (by assumption)]; simp_all; try (intros; simp_all)
       refine sw_seq ?_
       refine sO [(1, _), (2, _), (4, _), (5, _)] [(2, _)] ?_
       refine sw_reg ?_
       refine rA ?_ (x := kA)
       refine sw_ret ?_
       exact (And.intro (by refine bool_eq ?_; exact hbad.symm) True.intro)
      ·try simp only [q1, q2, q3, q4, q5, q6, q7, q8, q9] at hb13
       have hin : inB (atI c.At n) 0 ((c.Parts.length : Int) - 1) = true := by simp_all
       have hin2 := hin
       simp only [inB, Bool.and_eq_true, decide_eq_true_eq] at hin2
       refine sw_skip ?_
       refine sw_seq ?_
       refine sO [(1, _), (2, _), (4, _), (5, _)] [(2, _)] ?_
       refine sw_draw hm_ ?_
       refine dA 0 ?_ (x := lF fd_60_4)
       refine dA 1 ?_ (x := lD [PV.sl .v _] ty_38)
       refine dA 0 ?_ (x := sM)
       refine dA 7 ?_ (x := loc_index (k := (n).toNat) (by decide) sl_38 (by exact ⟨⟩) (by omega) (by exact getm2 (by omega) (by rw [atI_eq (by omega)])) (by exact rfl))
       refine dA 15 ?_ (x := lE [PV.val _] ty_3)
       refine dA 0 ?_ (x := lF fd_60_1)
       refine dA 32 ?_ (x := lD [PV.sl .v _] ty_57)
       refine dA 0 ?_ (x := lF fd_60_3)
       refine dA 128 ?_ (x := lD [PV.sl .v _] ty_38)
       refine dA 0 ?_ (x := sM)
       refine dA 896 ?_ (x := loc_index (k := (n).toNat) (by decide) sl_38 (by exact ⟨⟩) (by omega) (by exact getm2 (by omega) (by rw [atI_eq (by omega)])) (by exact rfl))
       refine dA 1920 ?_ (x := lE [PV.val _] ty_3)
       refine dA 4064 ?_ (x := loc_index (k := (atI c.At n).toNat) (by decide) sl_57 (by exact ⟨⟩) (by omega) (by exact getm2 (by omega) (by rw [partAt_eq (by omega)])) (by exact rfl))
       refine dA 8160 ?_ (x := lE [PV.sl .v _] ty_32)
       refine dA 16352 ?_ (x := lN sl_32)
       refine dA 32767 ?_ (x := cL [(false, [PV.val _]), (false, [PV.val _]), (false, [PV.val _])] [(false, [PV.val _]), (false, [PV.val _]), (false, [PV.val _])] c_72 (hs := by exact spec_l1In))
       refine dA 65535 ?_ (x := sM)
       refine Run.cases (s := 97) rfl (fun g14 => ?_) (fun g14 => ?_)
       ·have sg14 := g14
        try simp only [q1, q2, q3, q4, q5, q6, q7, q8, q9] at sg14
        refine dB 131071 g14 ?_ (x := lF fd_60_5)
        refine dB 262143 g14 ?_ (x := lD [PV.sl .v _] ty_57)
        refine dB 131071 g14 ?_ (x := sM)
        refine dB 1048575 g14 ?_ (x := loc_index (k := (n).toNat) (by decide) sl_57 (by exact ⟨⟩) (by omega) (by exact getm2 (by omega) (by rw [bufAt_eq (by omega)])) (by exact rfl))
        refine dB 2097151 g14 ?_ (x := lE [PV.sl .v _] ty_32)
        refine dB 131071 g14 ?_ (x := lD [PV.val _, PV.val _, PV.sl .v _, PV.sl .v _, PV.sl .v _, PV.sl .v _, PV.sl .v _, PV.sl .v _, PV.sl .v _, PV.sl .v _, PV.sl .v _] ty_60)
        refine dB 131071 g14 ?_ (x := lF fd_60_3)
        refine dB 8519679 g14 ?_ (x := lD [PV.sl .v _] ty_38)
        refine dB 131071 g14 ?_ (x := sM)
        refine dB 58851327 g14 ?_ (x := loc_index (k := (n).toNat) (by decide) sl_38 (by exact ⟨⟩) (by omega) (by exact getm2 (by omega) (by rw [atI_eq (by omega)])) (by exact rfl))
        refine dB 125960191 g14 ?_ (x := lE [PV.val _] ty_3)
        refine dB 131071 g14 ?_ (x := lF fd_60_4)
        refine dB 268566527 g14 ?_ (x := lD [PV.sl .v _] ty_38)
        refine dB 131071 g14 ?_ (x := sM)
        refine dB 1879179263 g14 ?_ (x := loc_index (k := (n).toNat) (by decide) sl_38 (by exact ⟨⟩) (by omega) (by exact getm2 (by omega) (by rw [atI_eq (by omega)])) (by exact rfl))
        refine dB 4026662911 g14 ?_ (x := lE [PV.val _] ty_3)
        refine dB 8585871359 g14 ?_ (x := cL [(true, [PV.val _, PV.val _, PV.sl _ _, PV.sl _ _, PV.sl _ _, PV.sl _ _, PV.sl _ _, PV.sl _ _, PV.sl _ _, PV.sl _ _, PV.sl _ _]), (false, [PV.val _]), (false, [PV.val _])] [(true, [PV.val _, PV.val _, PV.sl .v _, PV.sl .v _, PV.sl .v _, PV.sl .v _, PV.sl .v _, PV.sl .v _, PV.sl .v _, PV.sl .v _, PV.sl .v _]), (false, [PV.val _]), (false, [PV.val _])] c_121 (hs := by exact spec_l18Found (by omega) (by first | omega | assumption)))
        refine dB 17179869183 g14 ?_ (x := cL [(false, [PV.sl _ _]), (false, [PV.sl _ _])] [(false, [PV.sl .v _]), (false, [PV.sl .v _])] c_122 (hs := by exact spec_EqualRows))
        refine dA 34359738367 ?_ (x := pkT g14)
        refine dA 68719476735 ?_ (x := sA)
        refine sw_ret ?_
        exact (And.intro (by refine bool_eq ?_; unfold nodeB; rw [if_neg (by assumption)]; simp_all) True.intro)
       ·have sg14 := g14
        try simp only [q1, q2, q3, q4, q5, q6, q7, q8, q9] at sg14
        refine dF 131071 g14 ?_
        refine dF 262143 g14 ?_
        refine dF 131071 g14 ?_
        refine dF 1048575 g14 ?_
        refine dF 2097151 g14 ?_
        refine dF 131071 g14 ?_
        refine dF 131071 g14 ?_
        refine dF 8519679 g14 ?_
        refine dF 131071 g14 ?_
        refine dF 58851327 g14 ?_
        refine dF 125960191 g14 ?_
        refine dF 131071 g14 ?_
        refine dF 268566527 g14 ?_
        refine dF 131071 g14 ?_
        refine dF 1879179263 g14 ?_
        refine dF 4026662911 g14 ?_
        refine dF 8585871359 g14 ?_
        refine dF 17179869183 g14 ?_
        refine dA 34359738367 ?_ (x := pkF g14)
        refine dA 68719476735 ?_ (x := sA)
        refine sw_ret ?_
        exact (And.intro (by refine bool_eq ?_; unfold nodeB; rw [if_neg (by assumption)]; simp_all) True.intro)
     ·have sg12 := g12
      try simp only [q1, q2, q3, q4, q5, q6, q7, q8, q9] at sg12
      refine dF 1099511627775 g12 ?_
      refine dF 2199023255551 g12 ?_
      refine dF 1099511627775 g12 ?_
      refine dF 8796093022207 g12 ?_
      refine dF 17592186044415 g12 ?_
      refine dF 1099511627775 g12 ?_
      refine dF 70368744177663 g12 ?_
      refine dF 1099511627775 g12 ?_
      refine dF 281474976710655 g12 ?_
      refine dB 562949953421311 g10 ?_ (x := pkF g12)
      refine dA 1125899906842623 ?_ (x := pkF g10)
      refine sw_cond (t := 80) rfl (fun hb_ => nomatch hb_) (fun hb_ => ?_)
      have hin : inB (atI c.At n) 0 ((c.Parts.length : Int) - 1) = true := by simp_all
      have hin2 := hin
      simp only [inB, Bool.and_eq_true, decide_eq_true_eq] at hin2
      refine sw_skip ?_
      refine sw_seq ?_
      refine sO [(1, _), (2, _), (4, _), (5, _)] [(2, _)] ?_
      refine sw_draw hm_ ?_
      refine dA 0 ?_ (x := lF fd_60_4)
      refine dA 1 ?_ (x := lD [PV.sl .v _] ty_38)
      refine dA 0 ?_ (x := sM)
      refine dA 7 ?_ (x := loc_index (k := (n).toNat) (by decide) sl_38 (by exact ⟨⟩) (by omega) (by exact getm2 (by omega) (by rw [atI_eq (by omega)])) (by exact rfl))
      refine dA 15 ?_ (x := lE [PV.val _] ty_3)
      refine dA 0 ?_ (x := lF fd_60_1)
      refine dA 32 ?_ (x := lD [PV.sl .v _] ty_57)
      refine dA 0 ?_ (x := lF fd_60_3)
      refine dA 128 ?_ (x := lD [PV.sl .v _] ty_38)
      refine dA 0 ?_ (x := sM)
      refine dA 896 ?_ (x := loc_index (k := (n).toNat) (by decide) sl_38 (by exact ⟨⟩) (by omega) (by exact getm2 (by omega) (by rw [atI_eq (by omega)])) (by exact rfl))
      refine dA 1920 ?_ (x := lE [PV.val _] ty_3)
      refine dA 4064 ?_ (x := loc_index (k := (atI c.At n).toNat) (by decide) sl_57 (by exact ⟨⟩) (by omega) (by exact getm2 (by omega) (by rw [partAt_eq (by omega)])) (by exact rfl))
      refine dA 8160 ?_ (x := lE [PV.sl .v _] ty_32)
      refine dA 16352 ?_ (x := lN sl_32)
      refine dA 32767 ?_ (x := cL [(false, [PV.val _]), (false, [PV.val _]), (false, [PV.val _])] [(false, [PV.val _]), (false, [PV.val _]), (false, [PV.val _])] c_72 (hs := by exact spec_l1In))
      refine dA 65535 ?_ (x := sM)
      refine Run.cases (s := 97) rfl (fun g16 => ?_) (fun g16 => ?_)
      ·have sg16 := g16
       try simp only [q1, q2, q3, q4, q5, q6, q7, q8, q9] at sg16
       refine dB 131071 g16 ?_ (x := lF fd_60_5)
       refine dB 262143 g16 ?_ (x := lD [PV.sl .v _] ty_57)
       refine dB 131071 g16 ?_ (x := sM)
       refine dB 1048575 g16 ?_ (x := loc_index (k := (n).toNat) (by decide) sl_57 (by exact ⟨⟩) (by omega) (by exact getm2 (by omega) (by rw [bufAt_eq (by omega)])) (by exact rfl))
       refine dB 2097151 g16 ?_ (x := lE [PV.sl .v _] ty_32)
       refine dB 131071 g16 ?_ (x := lD [PV.val _, PV.val _, PV.sl .v _, PV.sl .v _, PV.sl .v _, PV.sl .v _, PV.sl .v _, PV.sl .v _, PV.sl .v _, PV.sl .v _, PV.sl .v _] ty_60)
       refine dB 131071 g16 ?_ (x := lF fd_60_3)
       refine dB 8519679 g16 ?_ (x := lD [PV.sl .v _] ty_38)
       refine dB 131071 g16 ?_ (x := sM)
       refine dB 58851327 g16 ?_ (x := loc_index (k := (n).toNat) (by decide) sl_38 (by exact ⟨⟩) (by omega) (by exact getm2 (by omega) (by rw [atI_eq (by omega)])) (by exact rfl))
       refine dB 125960191 g16 ?_ (x := lE [PV.val _] ty_3)
       refine dB 131071 g16 ?_ (x := lF fd_60_4)
       refine dB 268566527 g16 ?_ (x := lD [PV.sl .v _] ty_38)
       refine dB 131071 g16 ?_ (x := sM)
       refine dB 1879179263 g16 ?_ (x := loc_index (k := (n).toNat) (by decide) sl_38 (by exact ⟨⟩) (by omega) (by exact getm2 (by omega) (by rw [atI_eq (by omega)])) (by exact rfl))
       refine dB 4026662911 g16 ?_ (x := lE [PV.val _] ty_3)
       refine dB 8585871359 g16 ?_ (x := cL [(true, [PV.val _, PV.val _, PV.sl _ _, PV.sl _ _, PV.sl _ _, PV.sl _ _, PV.sl _ _, PV.sl _ _, PV.sl _ _, PV.sl _ _, PV.sl _ _]), (false, [PV.val _]), (false, [PV.val _])] [(true, [PV.val _, PV.val _, PV.sl .v _, PV.sl .v _, PV.sl .v _, PV.sl .v _, PV.sl .v _, PV.sl .v _, PV.sl .v _, PV.sl .v _, PV.sl .v _]), (false, [PV.val _]), (false, [PV.val _])] c_121 (hs := by exact spec_l18Found (by omega) (by first | omega | assumption)))
       refine dB 17179869183 g16 ?_ (x := cL [(false, [PV.sl _ _]), (false, [PV.sl _ _])] [(false, [PV.sl .v _]), (false, [PV.sl .v _])] c_122 (hs := by exact spec_EqualRows))
       refine dA 34359738367 ?_ (x := pkT g16)
       refine dA 68719476735 ?_ (x := sA)
       refine sw_ret ?_
       exact (And.intro (by refine bool_eq ?_; unfold nodeB; rw [if_neg (by assumption)]; simp_all) True.intro)
      ·have sg16 := g16
       try simp only [q1, q2, q3, q4, q5, q6, q7, q8, q9] at sg16
       refine dF 131071 g16 ?_
       refine dF 262143 g16 ?_
       refine dF 131071 g16 ?_
       refine dF 1048575 g16 ?_
       refine dF 2097151 g16 ?_
       refine dF 131071 g16 ?_
       refine dF 131071 g16 ?_
       refine dF 8519679 g16 ?_
       refine dF 131071 g16 ?_
       refine dF 58851327 g16 ?_
       refine dF 125960191 g16 ?_
       refine dF 131071 g16 ?_
       refine dF 268566527 g16 ?_
       refine dF 131071 g16 ?_
       refine dF 1879179263 g16 ?_
       refine dF 4026662911 g16 ?_
       refine dF 8585871359 g16 ?_
       refine dF 17179869183 g16 ?_
       refine dA 34359738367 ?_ (x := pkF g16)
       refine dA 68719476735 ?_ (x := sA)
       refine sw_ret ?_
       exact (And.intro (by refine bool_eq ?_; unfold nodeB; rw [if_neg (by assumption)]; simp_all) True.intro)
theorem impl_nodeOk {p3 p4 p9 p10 p13 p14 : Fl} {c : Cluster} {n : Int}  (hn : 0 ≤ n ∧ n.toNat < c.Up.length) (hl : c.At.length = c.Up.length ∧ c.Pos.length = c.Up.length ∧ c.Buffer.length = c.Up.length) (hb : wtRowSS c.Parts ≤ 68719476736) : SCall Try.prog 126 [(true, [PV.val (vI c.Query.Id), PV.val (vI c.Query.Tenant), PV.sl .v (c.Query.Conds.map cCond), PV.sl .v (c.Query.Out.map cInt), PV.sl .v (c.Parts.map (cRowS p3 p4)), PV.sl .v (c.Up.map cBool), PV.sl .v (c.At.map cInt), PV.sl .v (c.Pos.map cInt), PV.sl .v (c.Buffer.map (cRowS p9 p10)), PV.sl .v (c.Done.map cInt), PV.sl .v (c.Rows.map (cRowS p13 p14))]), (false, [PV.val (vI n)])] (resRV [(false, [PV.val (.bool (nodeI c n))])]) := by
 refine scall_of (rs := [(false, [PV.val (.bool (nodeI c n))])]) Try.func126 rfl (Nat.le_of_ble_eq_true rfl) (borA_cons (BorL.cons (PV.bor_val _) (BorL.cons (PV.bor_val _) (BorL.cons (PV.bor_sl _) (BorL.cons (PV.bor_sl _) (BorL.cons (PV.bor_sl _) (BorL.cons (PV.bor_sl _) (BorL.cons (PV.bor_sl _) (BorL.cons (PV.bor_sl _) (BorL.cons (PV.bor_sl _) (BorL.cons (PV.bor_sl _) (BorL.cons (PV.bor_sl _) BorL.nil))))))))))) (borA_cons (BorL.cons (PV.bor_val _) BorL.nil) borA_nil)) ?_
 intro h0 w0 Fz0
 refine sw_slen (s := 0) (j := 2) rfl rfl fun hl0_2 => ?_
 try rw [List.length_map] at hl0_2
 refine sw_slen (s := 0) (j := 3) rfl rfl fun hl0_3 => ?_
 try rw [List.length_map] at hl0_3
 refine sw_slen (s := 0) (j := 4) rfl rfl fun hl0_4 => ?_
 try rw [List.length_map] at hl0_4
 refine sw_slen (s := 0) (j := 5) rfl rfl fun hl0_5 => ?_
 try rw [List.length_map] at hl0_5
 refine sw_slen (s := 0) (j := 6) rfl rfl fun hl0_6 => ?_
 try rw [List.length_map] at hl0_6
 refine sw_slen (s := 0) (j := 7) rfl rfl fun hl0_7 => ?_
 try rw [List.length_map] at hl0_7
 refine sw_slen (s := 0) (j := 8) rfl rfl fun hl0_8 => ?_
 try rw [List.length_map] at hl0_8
 refine sw_slen (s := 0) (j := 9) rfl rfl fun hl0_9 => ?_
 try rw [List.length_map] at hl0_9
 refine sw_slen (s := 0) (j := 10) rfl rfl fun hl0_10 => ?_
 try rw [List.length_map] at hl0_10
 have hwp := part_wt (s := atI c.At n) hb
 have hwt := take_wt (k := (atI c.Pos n).toNat) hwp
 refine sw_seq ?_
 refine sw_reg ?_
 refine RunS.step (by exact ⟨rfl, ⟨⟩⟩) (by exact ⟨⟩) (LocG.of rfl (loc_box (ag := true) (cs := [PV.val _, PV.val _, PV.sl _ _, PV.sl _ _, PV.sl _ _, PV.sl _ _, PV.sl _ _, PV.sl _ _, PV.sl _ _, PV.sl _ _, PV.sl _ _]) (by decide) (by exact ⟨⟩))) (free1 (Free.of_ rfl)) ?_
 refine rA ?_ (x := kA)
 refine sw_seq ?_
 refine sO [(1, _), (2, _), (4, _)] [(2, (60, [PV.val _, PV.val _, PV.sl _ _, PV.sl _ _, PV.sl _ _, PV.sl _ _, PV.sl _ _, PV.sl _ _, PV.sl _ _, PV.sl _ _, PV.sl _ _]))] ?_
 refine sw_reg ?_
 refine rA ?_ (x := lF fd_60_3)
 refine rA ?_ (x := lD [PV.sl .v _] ty_38)
 refine rA ?_ (x := sM)
 refine rA ?_ (x := loc_index (k := (n).toNat) (by decide) sl_38 (by exact ⟨⟩) (by omega) (by exact getm2 (by omega) (by rw [atI_eq (by omega)])) (by exact rfl))
 refine rA ?_ (x := lE [PV.val _] ty_3)
 refine rA ?_ (x := sA)
 refine sw_seq ?_
 refine sw_seq ?_
 refine sO [(1, _), (2, _), (4, _), (5, _)] [(2, _)] ?_
 refine sw_reg ?_
 refine rA ?_ (x := sM)
 refine rA ?_ (x := B_eql)
 refine sw_cond (t := 14) rfl (fun hb1 => ?_) (fun hb1 => ?_)
 ·try simp only [q1, q2, q3, q4, q5, q6, q7, q8, q9] at hb1
  refine sw_seq ?_
  refine sO [(1, _), (2, _), (4, _), (5, _)] [(2, _)] ?_
  refine sw_reg ?_
  refine rA ?_ (x := lF fd_60_4)
  refine rA ?_ (x := lD [PV.sl .v _] ty_38)
  refine rA ?_ (x := sM)
  refine rA ?_ (x := loc_index (k := (n).toNat) (by decide) sl_38 (by exact ⟨⟩) (by omega) (by exact getm2 (by omega) (by rw [atI_eq (by omega)])) (by exact rfl))
  refine rA ?_ (x := lE [PV.val _] ty_3)
  refine rA ?_ (x := B_eql)
  refine rA ?_ (x := sM)
  refine RunS.cases (s := 21) rfl (fun g2 => ?_) (fun g2 => ?_)
  ·have sg2 := g2
   try simp only [q1, q2, q3, q4, q5, q6, q7, q8, q9] at sg2
   refine rB g2 ?_ (x := lF fd_60_5)
   refine rB g2 ?_ (x := lD [PV.sl .v _] ty_57)
   refine rB g2 ?_ (x := sM)
   refine rB g2 ?_ (x := loc_index (k := (n).toNat) (by decide) sl_57 (by exact ⟨⟩) (by omega) (by exact getm2 (by omega) (by rw [bufAt_eq (by omega)])) (by exact rfl))
   refine rB g2 ?_ (x := lE [PV.sl .v _] ty_32)
   refine rB g2 ?_ (x := lN sl_32)
   refine rB g2 ?_ (x := B_eql)
   refine rA ?_ (x := pkT g2)
   refine rA ?_ (x := sA)
   refine sw_ret ?_
   exact (And.intro (by refine bool_eq ?_; unfold nodeI nodeB loneB; rw [if_pos (by assumption)]; first | (simp_all; done) | (rw [Bool.eq_iff_iff]; simp_all)) True.intro)
  ·have sg2 := g2
   try simp only [q1, q2, q3, q4, q5, q6, q7, q8, q9] at sg2
   refine RunS.s0f g2 ?_
   refine RunS.s0f g2 ?_
   refine RunS.s0f g2 ?_
   refine RunS.s0f g2 ?_
   refine RunS.s0f g2 ?_
   refine RunS.s0f g2 ?_
   refine RunS.s0f g2 ?_
   refine rA ?_ (x := pkF g2)
   refine rA ?_ (x := sA)
   refine sw_ret ?_
   exact (And.intro (by refine bool_eq ?_; unfold nodeI nodeB loneB; rw [if_pos (by assumption)]; first | (simp_all; done) | (rw [Bool.eq_iff_iff]; simp_all)) True.intro)
 ·try simp only [q1, q2, q3, q4, q5, q6, q7, q8, q9] at hb1
  refine sw_skip ?_
  refine sw_seq ?_
  refine sw_seq ?_
  refine sO [(1, _), (2, _), (4, _), (5, _)] [(2, _)] ?_
  refine sw_reg ?_
  refine rA ?_ (x := sM)
  refine rA ?_ (x := lF fd_60_1)
  refine rA ?_ (x := lD [PV.sl .v _] ty_57)
  refine rA ?_ (x := lN sl_57)
  refine rA ?_ (x := B_sub)
  refine rA ?_ (x := cL [(false, [PV.val _]), (false, [PV.val _]), (false, [PV.val _])] [(false, [PV.val _]), (false, [PV.val _]), (false, [PV.val _])] c_68 (hs := by exact impl_within))
  refine rA ?_ (x := nT)
  refine rA ?_ (x := sM)
  refine RunS.cases (s := 37) rfl (fun g3 => ?_) (fun g3 => ?_)
  ·have sg3 := g3
   try simp only [q1, q2, q3, q4, q5, q6, q7, q8, q9] at sg3
   refine RunS.s0t g3 ?_
   refine RunS.s0t g3 ?_
   refine RunS.s0t g3 ?_
   refine RunS.s0t g3 ?_
   refine RunS.s0t g3 ?_
   refine RunS.s0t g3 ?_
   refine rA ?_ (x := pkT g3)
   refine rA ?_ (x := sM)
   refine RunS.cases (s := 45) rfl (fun g4 => ?_) (fun g4 => nomatch g4)
   refine RunS.s0t g4 ?_
   refine RunS.s0t g4 ?_
   refine RunS.s0t g4 ?_
   refine RunS.s0t g4 ?_
   refine rA ?_ (x := pkT g4)
   refine rA ?_ (x := sM)
   refine RunS.cases (s := 51) rfl (fun g5 => ?_) (fun g5 => nomatch g5)
   refine RunS.s0t g5 ?_
   refine RunS.s0t g5 ?_
   refine RunS.s0t g5 ?_
   refine RunS.s0t g5 ?_
   refine RunS.s0t g5 ?_
   refine RunS.s0t g5 ?_
   refine rA ?_ (x := pkT g5)
   refine sw_cond (t := 58) rfl (fun hb_ => ?_) (fun hb_ => nomatch hb_)
   have hbad : nodeI c n = false := by unfold nodeI nodeB loneB; rw [if_neg (by assumption)]; simp_all; try (intros; simp_all)
   refine sw_seq ?_
   refine sO [(1, _), (2, _), (4, _), (5, _)] [(2, _)] ?_
   refine sw_reg ?_
   refine rA ?_ (x := kA)
   refine sw_ret ?_
   exact (And.intro (by refine bool_eq ?_; exact hbad.symm) True.intro)
  ·have sg3 := g3
   try simp only [q1, q2, q3, q4, q5, q6, q7, q8, q9] at sg3
   refine rB g3 ?_ (x := lF fd_60_2)
   refine rB g3 ?_ (x := lD [PV.sl .v _] ty_58)
   refine rB g3 ?_ (x := sM)
   refine rB g3 ?_ (x := loc_index (k := (n).toNat) (by decide) sl_58 (by exact ⟨⟩) (by omega) (by exact getm2 (by omega) (by rw [upAt_eq (by omega)])) (by exact rfl))
   refine rB g3 ?_ (x := lE [PV.val _] ty_4)
   refine rB g3 ?_ (x := nT)
   refine rA ?_ (x := pkF g3)
   refine rA ?_ (x := sM)
   refine RunS.cases (s := 45) rfl (fun g7 => ?_) (fun g7 => ?_)
   ·have sg7 := g7
    try simp only [q1, q2, q3, q4, q5, q6, q7, q8, q9] at sg7
    refine RunS.s0t g7 ?_
    refine RunS.s0t g7 ?_
    refine RunS.s0t g7 ?_
    refine RunS.s0t g7 ?_
    refine rA ?_ (x := pkT g7)
    refine rA ?_ (x := sM)
    refine RunS.cases (s := 51) rfl (fun g8 => ?_) (fun g8 => nomatch g8)
    refine RunS.s0t g8 ?_
    refine RunS.s0t g8 ?_
    refine RunS.s0t g8 ?_
    refine RunS.s0t g8 ?_
    refine RunS.s0t g8 ?_
    refine RunS.s0t g8 ?_
    refine rA ?_ (x := pkT g8)
    refine sw_cond (t := 58) rfl (fun hb_ => ?_) (fun hb_ => nomatch hb_)
    have hbad : nodeI c n = false := by unfold nodeI nodeB loneB; rw [if_neg (by assumption)]; simp_all; try (intros; simp_all)
    refine sw_seq ?_
    refine sO [(1, _), (2, _), (4, _), (5, _)] [(2, _)] ?_
    refine sw_reg ?_
    refine rA ?_ (x := kA)
    refine sw_ret ?_
    exact (And.intro (by refine bool_eq ?_; exact hbad.symm) True.intro)
   ·have sg7 := g7
    try simp only [q1, q2, q3, q4, q5, q6, q7, q8, q9] at sg7
    refine rB g7 ?_ (x := lF fd_60_6)
    refine rB g7 ?_ (x := lD [PV.sl .v _] ty_38)
    refine rB g7 ?_ (x := sM)
    refine rB g7 ?_ (x := cL [(false, [PV.sl _ _]), (false, [PV.val _])] [(false, [PV.sl .v _]), (false, [PV.val _])] c_112 (hs := by exact impl_hasInt))
    refine rA ?_ (x := pkF g7)
    refine rA ?_ (x := sM)
    refine RunS.cases (s := 51) rfl (fun g10 => ?_) (fun g10 => ?_)
    ·have sg10 := g10
     try simp only [q1, q2, q3, q4, q5, q6, q7, q8, q9] at sg10
     refine RunS.s0t g10 ?_
     refine RunS.s0t g10 ?_
     refine RunS.s0t g10 ?_
     refine RunS.s0t g10 ?_
     refine RunS.s0t g10 ?_
     refine RunS.s0t g10 ?_
     refine rA ?_ (x := pkT g10)
     refine sw_cond (t := 58) rfl (fun hb_ => ?_) (fun hb_ => nomatch hb_)
     have hbad : nodeI c n = false := by unfold nodeI nodeB loneB; rw [if_neg (by assumption)]; simp_all; try (intros; simp_all)
     refine sw_seq ?_
     refine sO [(1, _), (2, _), (4, _), (5, _)] [(2, _)] ?_
     refine sw_reg ?_
     refine rA ?_ (x := kA)
     refine sw_ret ?_
     exact (And.intro (by refine bool_eq ?_; exact hbad.symm) True.intro)
    ·have sg10 := g10
     try simp only [q1, q2, q3, q4, q5, q6, q7, q8, q9] at sg10
     refine rB g10 ?_ (x := lF fd_60_3)
     refine rB g10 ?_ (x := lD [PV.sl .v _] ty_38)
     refine rB g10 ?_ (x := sM)
     refine rB g10 ?_ (x := loc_sliceM (i := 0) (j := n.toNat) (ys := (c.At.take n.toNat)) (q := (0 : Int)) (by decide) sl_38 (by exact rfl) (by exact ⟨⟩) (by omega) (by omega) (by omega) (by omega) (fun _ => rfl) (by simp))
     refine rB g10 ?_ (x := sM)
     refine rB g10 ?_ (x := cL [(false, [PV.sl _ _]), (false, [PV.val _])] [(false, [PV.sl .v _]), (false, [PV.val _])] c_112 (hs := by exact impl_hasInt))
     refine rA ?_ (x := pkF g10)
     refine sw_cond (t := 58) rfl (fun hb12 => ?_) (fun hb12 => ?_)
     ·try simp only [q1, q2, q3, q4, q5, q6, q7, q8, q9] at hb12
      have hbad : nodeI c n = false := by unfold nodeI nodeB loneB; rw [if_neg (by assumption)]; simp_all; try (intros; simp_all)
      refine sw_seq ?_
      refine sO [(1, _), (2, _), (4, _), (5, _)] [(2, _)] ?_
      refine sw_reg ?_
      refine rA ?_ (x := kA)
      refine sw_ret ?_
      exact (And.intro (by refine bool_eq ?_; exact hbad.symm) True.intro)
     ·try simp only [q1, q2, q3, q4, q5, q6, q7, q8, q9] at hb12
      have hin : inB (atI c.At n) 0 ((c.Parts.length : Int) - 1) = true := by simp_all
      have hin2 := hin
      simp only [inB, Bool.and_eq_true, decide_eq_true_eq] at hin2
      refine sw_skip ?_
      refine sw_seq ?_
      refine sO [(1, _), (2, _), (4, _), (5, _)] [(2, _)] ?_
      refine sw_reg ?_
      refine rA ?_ (x := lF fd_60_2)
      refine rA ?_ (x := lD [PV.sl .v _] ty_58)
      refine rA ?_ (x := lN sl_58)
      refine rA ?_ (x := sA)
      refine sw_seq ?_
      refine sw_seq ?_
      refine sO [(1, _), (2, _), (4, _), (5, _), (6, _)] [(2, _)] ?_
      refine sw_reg ?_
      refine rA ?_ (x := sM)
      refine rA ?_ (x := sM)
      refine rA ?_ (x := cL [(false, [PV.val _]), (false, [PV.val _])] [(false, [PV.val _]), (false, [PV.val _])] c_141 (hs := by exact impl_HomeOf))
      refine rA ?_ (x := sM)
      refine rA ?_ (x := B_neq)
      refine rA ?_ (x := sM)
      refine RunS.cases (s := 67) rfl (fun g13 => ?_) (fun g13 => ?_)
      ·have sg13 := g13
       try simp only [q1, q2, q3, q4, q5, q6, q7, q8, q9] at sg13
       refine rB g13 ?_ (x := sM)
       refine rB g13 ?_ (x := sM)
       refine rB g13 ?_ (x := cL [(false, [PV.val _]), (false, [PV.val _])] [(false, [PV.val _]), (false, [PV.val _])] c_142 (hs := by exact impl_BackupOf))
       refine rB g13 ?_ (x := sM)
       refine rB g13 ?_ (x := B_neq)
       refine rA ?_ (x := pkT g13)
       refine sw_cond (t := 73) rfl (fun hb14 => ?_) (fun hb14 => ?_)
       ·try simp only [q1, q2, q3, q4, q5, q6, q7, q8, q9] at hb14
        have hbad : nodeI c n = false := by unfold nodeI nodeB loneB; rw [if_neg (by assumption)]; simp_all; try (intros; simp_all)
        refine sw_seq ?_
        refine sO [(1, _), (2, _), (4, _), (5, _), (6, _)] [(2, _)] ?_
        refine sw_reg ?_
        refine rA ?_ (x := kA)
        refine sw_ret ?_
        exact (And.intro (by refine bool_eq ?_; exact hbad.symm) True.intro)
       ·try simp only [q1, q2, q3, q4, q5, q6, q7, q8, q9] at hb14
        refine sw_skip ?_
        refine sw_seq ?_
        refine sO [(1, _), (2, _), (4, _), (5, _), (6, _)] [(2, _)] ?_
        refine sw_reg ?_
        refine rA ?_ (x := lF fd_60_1)
        refine rA ?_ (x := lD [PV.sl .v _] ty_57)
        refine rA ?_ (x := sM)
        refine rA ?_ (x := loc_index (k := (atI c.At n).toNat) (by decide) sl_57 (by exact ⟨⟩) (by omega) (by exact getm2 (by omega) (by rw [partAt_eq (by omega)])) (by exact rfl))
        refine rA ?_ (x := lE [PV.sl .v _] ty_32)
        refine rA ?_ (x := vA false [PV.sl .v _])
        refine sw_seq ?_
        refine sO [(1, _), (2, _), (4, _), (5, _), (6, _), (7, _)] [(2, _)] ?_
        refine sw_draw hm_ ?_
        refine dA 0 ?_ (x := lF fd_60_4)
        refine dA 1 ?_ (x := lD [PV.sl .v _] ty_38)
        refine dA 0 ?_ (x := sM)
        refine dA 7 ?_ (x := loc_index (k := (n).toNat) (by decide) sl_38 (by exact ⟨⟩) (by omega) (by exact getm2 (by omega) (by rw [atI_eq (by omega)])) (by exact rfl))
        refine dA 15 ?_ (x := lE [PV.val _] ty_3)
        refine dA 0 ?_ (x := vM false [PV.sl .v _])
        refine dA 32 ?_ (x := lN sl_32)
        refine dA 127 ?_ (x := cL [(false, [PV.val _]), (false, [PV.val _]), (false, [PV.val _])] [(false, [PV.val _]), (false, [PV.val _]), (false, [PV.val _])] c_68 (hs := by exact impl_within))
        refine dA 255 ?_ (x := sM)
        refine Run.cases (s := 87) rfl (fun g15 => ?_) (fun g15 => ?_)
        ·have sg15 := g15
         try simp only [q1, q2, q3, q4, q5, q6, q7, q8, q9] at sg15
         refine dB 511 g15 ?_ (x := lF fd_60_5)
         refine dB 1023 g15 ?_ (x := lD [PV.sl .v _] ty_57)
         refine dB 511 g15 ?_ (x := sM)
         refine dB 4095 g15 ?_ (x := loc_index (k := (n).toNat) (by decide) sl_57 (by exact ⟨⟩) (by omega) (by exact getm2 (by omega) (by rw [bufAt_eq (by omega)])) (by exact rfl))
         refine dB 8191 g15 ?_ (x := lE [PV.sl .v _] ty_32)
         refine dB 511 g15 ?_ (x := lF fd_60_0)
         refine dB 16895 g15 ?_ (x := lD [PV.val _, PV.val _, PV.sl .v _, PV.sl .v _] ty_56)
         refine dB 511 g15 ?_ (x := vM false [PV.sl .v _])
         refine dB 511 g15 ?_ (x := lF fd_60_4)
         refine dB 131583 g15 ?_ (x := lD [PV.sl .v _] ty_38)
         refine dB 511 g15 ?_ (x := sM)
         refine dB 918015 g15 ?_ (x := loc_index (k := (n).toNat) (by decide) sl_38 (by exact ⟨⟩) (by omega) (by exact getm2 (by omega) (by rw [atI_eq (by omega)])) (by exact rfl))
         refine dB 1966591 g15 ?_ (x := lE [PV.val _] ty_3)
         refine dB 4129279 g15 ?_ (x := loc_sliceM (i := 0) (j := (atI c.Pos n).toNat) (ys := ((partAt c (atI c.At n)).take (atI c.Pos n).toNat)) (q := (0 : Int)) (by decide) sl_32 (by exact rfl) (by exact ⟨⟩) (by omega) (by have hq := inB_iff.1 ‹inB (atI c.Pos n) 0 ((partAt c (atI c.At n)).length : Int) = true›; omega) (by omega) (by have hq := inB_iff.1 ‹inB (atI c.Pos n) 0 ((partAt c (atI c.At n)).length : Int) = true›; omega) (fun _ => rfl) (by simp))
         refine dB 8372735 g15 ?_ (x := cL [(true, [PV.val _, PV.val _, PV.sl _ _, PV.sl _ _]), (false, [PV.sl _ _])] [(true, [PV.val _, PV.val _, PV.sl .v _, PV.sl .v _]), (false, [PV.sl .v _])] c_124 (hs := by exact impl_matching (by first | omega | exact hwp _)))
         refine dB 16777215 g15 ?_ (x := cL [(false, [PV.sl _ _]), (false, [PV.sl _ _])] [(false, [PV.sl .v _]), (false, [PV.sl .v _])] c_125 (hs := by exact impl_EqualRows))
         refine dA 33554431 ?_ (x := pkT g15)
         refine dA 67108863 ?_ (x := sA)
         refine sw_ret ?_
         exact (And.intro (by refine bool_eq ?_; unfold nodeI nodeB loneB; rw [if_neg (by assumption)]; simp_all) True.intro)
        ·have sg15 := g15
         try simp only [q1, q2, q3, q4, q5, q6, q7, q8, q9] at sg15
         refine dF 511 g15 ?_
         refine dF 1023 g15 ?_
         refine dF 511 g15 ?_
         refine dF 4095 g15 ?_
         refine dF 8191 g15 ?_
         refine dF 511 g15 ?_
         refine dF 16895 g15 ?_
         refine dF 511 g15 ?_
         refine dF 511 g15 ?_
         refine dF 131583 g15 ?_
         refine dF 511 g15 ?_
         refine dF 918015 g15 ?_
         refine dF 1966591 g15 ?_
         refine dF 4129279 g15 ?_
         refine dF 8372735 g15 ?_
         refine dF 16777215 g15 ?_
         refine dA 33554431 ?_ (x := pkF g15)
         refine dA 67108863 ?_ (x := sA)
         refine sw_ret ?_
         exact (And.intro (by refine bool_eq ?_; unfold nodeI nodeB loneB; rw [if_neg (by assumption)]; simp_all) True.intro)
      ·have sg13 := g13
       try simp only [q1, q2, q3, q4, q5, q6, q7, q8, q9] at sg13
       refine RunS.s0f g13 ?_
       refine RunS.s0f g13 ?_
       refine RunS.s0f g13 ?_
       refine RunS.s0f g13 ?_
       refine RunS.s0f g13 ?_
       refine rA ?_ (x := pkF g13)
       refine sw_cond (t := 73) rfl (fun hb_ => nomatch hb_) (fun hb_ => ?_)
       refine sw_skip ?_
       refine sw_seq ?_
       refine sO [(1, _), (2, _), (4, _), (5, _), (6, _)] [(2, _)] ?_
       refine sw_reg ?_
       refine rA ?_ (x := lF fd_60_1)
       refine rA ?_ (x := lD [PV.sl .v _] ty_57)
       refine rA ?_ (x := sM)
       refine rA ?_ (x := loc_index (k := (atI c.At n).toNat) (by decide) sl_57 (by exact ⟨⟩) (by omega) (by exact getm2 (by omega) (by rw [partAt_eq (by omega)])) (by exact rfl))
       refine rA ?_ (x := lE [PV.sl .v _] ty_32)
       refine rA ?_ (x := vA false [PV.sl .v _])
       refine sw_seq ?_
       refine sO [(1, _), (2, _), (4, _), (5, _), (6, _), (7, _)] [(2, _)] ?_
       refine sw_draw hm_ ?_
       refine dA 0 ?_ (x := lF fd_60_4)
       refine dA 1 ?_ (x := lD [PV.sl .v _] ty_38)
       refine dA 0 ?_ (x := sM)
       refine dA 7 ?_ (x := loc_index (k := (n).toNat) (by decide) sl_38 (by exact ⟨⟩) (by omega) (by exact getm2 (by omega) (by rw [atI_eq (by omega)])) (by exact rfl))
       refine dA 15 ?_ (x := lE [PV.val _] ty_3)
       refine dA 0 ?_ (x := vM false [PV.sl .v _])
       refine dA 32 ?_ (x := lN sl_32)
       refine dA 127 ?_ (x := cL [(false, [PV.val _]), (false, [PV.val _]), (false, [PV.val _])] [(false, [PV.val _]), (false, [PV.val _]), (false, [PV.val _])] c_68 (hs := by exact impl_within))
       refine dA 255 ?_ (x := sM)
       refine Run.cases (s := 87) rfl (fun g17 => ?_) (fun g17 => ?_)
       ·have sg17 := g17
        try simp only [q1, q2, q3, q4, q5, q6, q7, q8, q9] at sg17
        refine dB 511 g17 ?_ (x := lF fd_60_5)
        refine dB 1023 g17 ?_ (x := lD [PV.sl .v _] ty_57)
        refine dB 511 g17 ?_ (x := sM)
        refine dB 4095 g17 ?_ (x := loc_index (k := (n).toNat) (by decide) sl_57 (by exact ⟨⟩) (by omega) (by exact getm2 (by omega) (by rw [bufAt_eq (by omega)])) (by exact rfl))
        refine dB 8191 g17 ?_ (x := lE [PV.sl .v _] ty_32)
        refine dB 511 g17 ?_ (x := lF fd_60_0)
        refine dB 16895 g17 ?_ (x := lD [PV.val _, PV.val _, PV.sl .v _, PV.sl .v _] ty_56)
        refine dB 511 g17 ?_ (x := vM false [PV.sl .v _])
        refine dB 511 g17 ?_ (x := lF fd_60_4)
        refine dB 131583 g17 ?_ (x := lD [PV.sl .v _] ty_38)
        refine dB 511 g17 ?_ (x := sM)
        refine dB 918015 g17 ?_ (x := loc_index (k := (n).toNat) (by decide) sl_38 (by exact ⟨⟩) (by omega) (by exact getm2 (by omega) (by rw [atI_eq (by omega)])) (by exact rfl))
        refine dB 1966591 g17 ?_ (x := lE [PV.val _] ty_3)
        refine dB 4129279 g17 ?_ (x := loc_sliceM (i := 0) (j := (atI c.Pos n).toNat) (ys := ((partAt c (atI c.At n)).take (atI c.Pos n).toNat)) (q := (0 : Int)) (by decide) sl_32 (by exact rfl) (by exact ⟨⟩) (by omega) (by have hq := inB_iff.1 ‹inB (atI c.Pos n) 0 ((partAt c (atI c.At n)).length : Int) = true›; omega) (by omega) (by have hq := inB_iff.1 ‹inB (atI c.Pos n) 0 ((partAt c (atI c.At n)).length : Int) = true›; omega) (fun _ => rfl) (by simp))
        refine dB 8372735 g17 ?_ (x := cL [(true, [PV.val _, PV.val _, PV.sl _ _, PV.sl _ _]), (false, [PV.sl _ _])] [(true, [PV.val _, PV.val _, PV.sl .v _, PV.sl .v _]), (false, [PV.sl .v _])] c_124 (hs := by exact impl_matching (by first | omega | exact hwp _)))
        refine dB 16777215 g17 ?_ (x := cL [(false, [PV.sl _ _]), (false, [PV.sl _ _])] [(false, [PV.sl .v _]), (false, [PV.sl .v _])] c_125 (hs := by exact impl_EqualRows))
        refine dA 33554431 ?_ (x := pkT g17)
        refine dA 67108863 ?_ (x := sA)
        refine sw_ret ?_
        exact (And.intro (by refine bool_eq ?_; unfold nodeI nodeB loneB; rw [if_neg (by assumption)]; simp_all) True.intro)
       ·have sg17 := g17
        try simp only [q1, q2, q3, q4, q5, q6, q7, q8, q9] at sg17
        refine dF 511 g17 ?_
        refine dF 1023 g17 ?_
        refine dF 511 g17 ?_
        refine dF 4095 g17 ?_
        refine dF 8191 g17 ?_
        refine dF 511 g17 ?_
        refine dF 16895 g17 ?_
        refine dF 511 g17 ?_
        refine dF 511 g17 ?_
        refine dF 131583 g17 ?_
        refine dF 511 g17 ?_
        refine dF 918015 g17 ?_
        refine dF 1966591 g17 ?_
        refine dF 4129279 g17 ?_
        refine dF 8372735 g17 ?_
        refine dF 16777215 g17 ?_
        refine dA 33554431 ?_ (x := pkF g17)
        refine dA 67108863 ?_ (x := sA)
        refine sw_ret ?_
        exact (And.intro (by refine bool_eq ?_; unfold nodeI nodeB loneB; rw [if_neg (by assumption)]; simp_all) True.intro)
end Go.Proofs.Ytloipjaiceifbaa
