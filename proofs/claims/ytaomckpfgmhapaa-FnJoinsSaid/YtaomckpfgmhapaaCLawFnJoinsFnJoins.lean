/- What functions of the program compute. No condition. -/
import Derived.Test.YtaomckpfgmhapaaCBigFnJoins
import Derived.Test.YtaomckpfgmhapaaCEqJFnJoins
import Derived.Test.YtaomckpfgmhapaaCJoinBFnJoins
import Derived.Test.YtaomckpfgmhapaaCDl
import Derived.Test.YtaomckpfgmhapaaCRtFnJoins
import Derived.KernelRfl
set_option linter.unusedVariables false
set_option linter.unusedSimpArgs false
namespace Go.Proofs.Ytaomckpfgmhapaa
open Go Go.RowKit M
set_option maxRecDepth 10000
attribute [local irreducible] PV.Lcl PV.LclR RV.Lcl
attribute [local irreducible] belowC byteC
theorem FLawFnJoins_c_10 : callI Try.prog 10 = true := by kernel_rfl
theorem FLawFnJoins_c_11 : callI Try.prog 11 = true := by kernel_rfl
theorem FLawFnJoins_c_12 : callI Try.prog 12 = true := by kernel_rfl
theorem FLawFnJoins_c_13 : callI Try.prog 13 = true := by kernel_rfl
theorem FLawFnJoins_c_14 : callI Try.prog 14 = true := by kernel_rfl
theorem FLawFnJoins_c_15 : callI Try.prog 15 = true := by kernel_rfl
theorem FLawFnJoins_c_5 : callI Try.prog 5 = true := by kernel_rfl
theorem FLawFnJoins_c_6 : callI Try.prog 6 = true := by kernel_rfl
theorem FLawFnJoins_c_7 : callI Try.prog 7 = true := by kernel_rfl
theorem FLawFnJoins_c_8 : callI Try.prog 8 = true := by kernel_rfl
theorem FLawFnJoins_c_9 : callI Try.prog 9 = true := by kernel_rfl
theorem FLawFnJoins_fd_35_0 : fieldI Try.prog 35 0 = some 0 := by kernel_rfl
theorem FLawFnJoins_fd_35_1 : fieldI Try.prog 35 1 = some 2 := by kernel_rfl
theorem FLawFnJoins_sl_24 : sliceI Try.prog 24 = some (35, 3, 56) := by kernel_rfl
theorem FLawFnJoins_ty_22 : tyI Try.prog 22 = some (false, 1) := by kernel_rfl
theorem FLawFnJoins_ty_31 : tyI Try.prog 31 = some (false, 1) := by kernel_rfl
theorem FLawFnJoins_ty_33 : tyI Try.prog 33 = some (true, 2) := by kernel_rfl
theorem law_FnJoins {code : List Int}  : SCall Try.prog 3 [(false, [PV.sl .v (code.map cU8)])] (resRV [(false, [PV.val (.bool true)])]) := by
 refine scall_of (rs := [(false, [PV.val (.bool true)])]) Try.func3 rfl (Nat.le_of_ble_eq_true rfl) (borA_cons (BorL.cons (PV.bor_sl _) BorL.nil) borA_nil) ?_
 intro h0 w0 Fz0
 refine sw_len (s := 0) rfl fun hl0 => ?_
 try rw [List.length_map] at hl0
 refine sw_seq ?_
 refine sw_reg ?_
 refine rA ?_ (x := kA)
 refine sw_seq ?_
 refine sw_seq ?_
 refine sO [(0, _), (2, _)] [] ?_
 refine sw_reg ?_
 refine rA ?_ (x := vM false [PV.sl .v _])
 refine rA ?_ (x := cL [(false, [PV.sl _ _])] [(false, [PV.sl .v _])] FLawFnJoins_c_5 (hs := by exact laws_big))
 refine sw_cond (t := 13) rfl (fun hb1 => ?_) (fun hb1 => ?_)
 ·try simp only [q1, q2, q3, q4, q5, q6, q7, q8, q9] at hb1
  refine sw_seq ?_
  refine sO [(0, _), (2, _)] [] ?_
  refine sw_reg ?_
  refine rA ?_ (x := kA)
  refine sw_ret ?_
  exact (And.intro (by exact rfl) True.intro)
 ·try simp only [q1, q2, q3, q4, q5, q6, q7, q8, q9] at hb1
  have hbig : code.length ≤ 1048576 := by have hh := hb1; simp at hh; omega
  have hb : code.length ≤ 9223372036854775807 := by omega
  have hb2 : code.length ≤ 4611686018427387904 := by omega
  have hw1 : wtAnnotatedS (drJoin code hb).1 ≤ 320 := any13C_wt (curNew code hb)
  have hw2 : wtAnnotatedS (drJoin code hb).2.1 ≤ 320 := any13C_wt (any13C (curNew code hb)).2
  have hla : ((drJoin code hb).1).length ≤ wtAnnotatedS (drJoin code hb).1 := Nat.le_add_right _ _
  have hlb : ((drJoin code hb).2.1).length ≤ wtAnnotatedS (drJoin code hb).2.1 := Nat.le_add_right _ _
  have hj := joinAll_wts (a := (drJoin code hb).1) (b := (drJoin code hb).2.1) (f := (drJoin code hb).2.2.1) (g := (drJoin code hb).2.2.2) (by omega) (by omega)
  refine sw_skip ?_
  refine sw_seq ?_
  refine sO [(0, _), (2, _)] [] ?_
  refine sw_reg ?_
  refine rA ?_ (x := vM false [PV.sl .v _])
  refine rA ?_ (x := cL [(false, [PV.sl _ _])] [(false, [PV.sl .v _])] FLawFnJoins_c_6 (hs := by exact (spec_DrawJoinShared (by omega) (by omega))))
  refine rA ?_ (x := tM)
  refine rA ?_ (x := loc_extract (cs := [PV.sl _ _]) (qs := [PV.sl .v _]) (by decide) (by exact rfl) (by exact (ToL.cons PV.to_none ToL.nil)) (by exact (BorL.cons (PV.bor_sl _) BorL.nil)))
  refine rA ?_ (x := loc_extract (cs := [PV.sl _ _]) (qs := [PV.sl .v _]) (by decide) (by exact rfl) (by exact (ToL.cons PV.to_none ToL.nil)) (by exact (BorL.cons (PV.bor_sl _) BorL.nil)))
  refine rA ?_ (x := loc_extractb (cs := [PV.val _]) (by decide) (by exact rfl) (by exact (BorL.cons (PV.bor_val _) BorL.nil)))
  refine rA ?_ (x := loc_extractb (cs := [PV.val _]) (by decide) (by exact rfl) (by exact (BorL.cons (PV.bor_val _) BorL.nil)))
  refine rA ?_ (x := tA)
  refine rA ?_ (x := tA)
  refine rA ?_ (x := sA)
  refine rA ?_ (x := sA)
  refine sw_seq ?_
  refine sO [(0, _), (2, _), (3, _), (4, _), (5, _), (6, _)] [] ?_
  refine sw_reg ?_
  refine rA ?_ (x := vM false [PV.sl .v _])
  refine rA ?_ (x := vM false [PV.sl .v _])
  refine rA ?_ (x := sM)
  refine rA ?_ (x := sM)
  refine rA ?_ (x := cL [(false, [PV.sl _ _]), (false, [PV.sl _ _]), (false, [PV.val _]), (false, [PV.val _])] [(false, [PV.sl .v _]), (false, [PV.sl .v _]), (false, [PV.val _]), (false, [PV.val _])] FLawFnJoins_c_7 (hs := by exact impl_JoinShared (by omega) (by omega)))
  refine rA ?_ (x := tA)
  refine sw_seq ?_
  refine sO [(0, _), (2, _), (3, _), (4, _), (5, _), (6, _), (7, _)] [] ?_
  refine sw_reg ?_
  refine rA ?_ (x := vM false [PV.sl .v _])
  refine rA ?_ (x := vM false [PV.sl .v _])
  refine rA ?_ (x := sM)
  refine rA ?_ (x := sM)
  refine rA ?_ (x := cL [(false, [PV.sl _ _]), (false, [PV.sl _ _]), (false, [PV.val _]), (false, [PV.val _])] [(false, [PV.sl .v _]), (false, [PV.sl .v _]), (false, [PV.val _]), (false, [PV.val _])] FLawFnJoins_c_8 (hs := by exact spec_JoinShared (by omega) (by omega)))
  refine rA ?_ (x := tA)
  refine sw_seq ?_
  refine sw_seq ?_
  refine sO [(0, _), (2, _), (3, _), (4, _), (5, _), (6, _), (7, _), (8, _)] [] ?_
  refine sw_reg ?_
  refine rA ?_ (x := vM false [PV.sl .v _])
  refine rA ?_ (x := vM false [PV.sl .v _])
  refine rA ?_ (x := cL [(false, [PV.sl _ _]), (false, [PV.sl _ _])] [(false, [PV.sl .v _]), (false, [PV.sl .v _])] FLawFnJoins_c_9 (hs := by exact spec_EqualJoined))
  refine rA ?_ (x := nT)
  refine rA ?_ (x := sM)
  refine RunS.cases (s := 35) rfl (fun g2 => ?_) (fun g2 => ?_)
  ·exact absurd g2 (by simp [deq_self])
  ·have sg2 := g2
   try simp only [q1, q2, q3, q4, q5, q6, q7, q8, q9] at sg2
   refine rB g2 ?_ (x := vM false [PV.sl .v _])
   refine rB g2 ?_ (x := vM false [PV.sl .v _])
   refine rB g2 ?_ (x := cL [(false, [PV.sl _ _]), (false, [PV.sl _ _])] [(false, [PV.sl .v _]), (false, [PV.sl .v _])] FLawFnJoins_c_10 (hs := by exact impl_EqualJoined))
   refine rB g2 ?_ (x := nT)
   refine rA ?_ (x := pkF g2)
   refine sw_cond (t := 40) rfl (fun hb3 => ?_) (fun hb3 => ?_)
   ·try simp only [q1, q2, q3, q4, q5, q6, q7, q8, q9] at hb3
    exact absurd hb3 (by simp [deq_self])
   ·try simp only [q1, q2, q3, q4, q5, q6, q7, q8, q9] at hb3
    refine sw_skip ?_
    refine sw_seq ?_
    refine sw_seq ?_
    refine sO [(0, _), (2, _), (3, _), (4, _), (5, _), (6, _), (7, _), (8, _)] [] ?_
    refine sw_reg ?_
    refine rA ?_ (x := kA)
    refine sw_block ?_
    refine sO [(0, _), (2, _), (3, _), (4, _), (5, _), (6, _), (7, _), (8, _), (9, _)] [] ?_
    refine sw_loop (l0 := [(0, RV.sv false [PV.sl _ _]), (3, RV.sv false [PV.sl _ _]), (4, RV.sv false [PV.sl _ _]), (5, RV.sv false [PV.val _]), (6, RV.sv false [PV.val _]), (7, RV.sv false [PV.sl _ _]), (8, RV.sv false [PV.sl _ _])]) (b0 := []) (fun k : Nat => k ≤ (drJoin code hb).1.length ∧ (List.take k (drJoin code hb).1).all okAnn = true) (fun k : Nat => [(9, RV.int (k : Int))]) (fun k : Nat => []) (fun k : Nat => (drJoin code hb).1.length - k) 0 (by exact ⟨by omega, rfl⟩) (by exact ⟨rfl, rfl, rfl, rfl, rfl, rfl, rfl, ⟨⟩⟩) (by exact ⟨⟩) (by exact And.intro (by exact rfl) (True.intro)) (by exact ⟨⟩) ?_
    rintro k ⟨hk, ha⟩
    refine sw_seq ?_
    refine sw_seq ?_
    refine sw_reg ?_
    refine rA ?_ (x := sM)
    refine rA ?_ (x := vM false [PV.sl .v _])
    refine rA ?_ (x := lN FLawFnJoins_sl_24)
    refine rA ?_ (x := B_lss)
    refine sw_cond (t := 44) rfl (fun hb4 => ?_) (fun hb4 => ?_)
    ·try simp only [q1, q2, q3, q4, q5, q6, q7, q8, q9] at hb4
     have hlt : k < ((drJoin code hb).1).length := by omega
     refine sw_skip ?_
     refine sw_seq ?_
     refine sw_block ?_
     refine sw_seq ?_
     refine sO [(0, _), (3, _), (4, _), (5, _), (6, _), (7, _), (8, _), (9, _)] [] ?_
     refine sw_reg ?_
     refine rA ?_ (x := vM false [PV.sl .v _])
     refine rA ?_ (x := sM)
     refine rA ?_ (x := loc_index (by decide) FLawFnJoins_sl_24 (by exact ⟨⟩) (by exact rfl) (by exact getm2 (by omega) rfl) (by exact rfl))
     refine rA ?_ (x := loc_efield (by decide) FLawFnJoins_fd_35_1 (by exact Nat.le_of_ble_eq_true rfl))
     refine rA ?_ (x := lE [PV.sl .v _] FLawFnJoins_ty_31)
     refine rA ?_ (x := cL [(false, [PV.sl _ _])] [(false, [PV.sl .v _])] FLawFnJoins_c_11 (hs := by exact spec_IsSet))
     refine rA ?_ (x := nT)
     refine rA ?_ (x := sM)
     refine RunS.cases (s := 54) rfl (fun g5 => ?_) (fun g5 => ?_)
     ·have sg5 := g5
      try simp only [q1, q2, q3, q4, q5, q6, q7, q8, q9] at sg5
      refine RunS.s0t g5 ?_
      refine RunS.s0t g5 ?_
      refine RunS.s0t g5 ?_
      refine RunS.s0t g5 ?_
      refine RunS.s0t g5 ?_
      refine RunS.s0t g5 ?_
      refine RunS.s0t g5 ?_
      refine rA ?_ (x := pkT g5)
      refine sw_cond (t := 62) rfl (fun hb_ => ?_) (fun hb_ => nomatch hb_)
      refine sw_seq ?_
      refine sO [(0, _), (3, _), (4, _), (5, _), (6, _), (7, _), (8, _), (9, _)] [] ?_
      refine sw_reg ?_
      refine rA ?_ (x := kA)
      refine sw_ret ?_
      exact (And.intro (by exact rfl) True.intro)
     ·have sg5 := g5
      try simp only [q1, q2, q3, q4, q5, q6, q7, q8, q9] at sg5
      refine rB g5 ?_ (x := vM false [PV.sl .v _])
      refine rB g5 ?_ (x := sM)
      refine rB g5 ?_ (x := loc_index (by decide) FLawFnJoins_sl_24 (by exact ⟨⟩) (by exact rfl) (by exact getm2 (by omega) rfl) (by exact rfl))
      refine rB g5 ?_ (x := loc_efield (by decide) FLawFnJoins_fd_35_0 (by exact Nat.le_of_ble_eq_true rfl))
      refine rB g5 ?_ (x := lE [PV.val _, PV.sl .v _] FLawFnJoins_ty_33)
      refine rB g5 ?_ (x := cL [(true, [PV.val _, PV.sl _ _])] [(true, [PV.val _, PV.sl .v _])] FLawFnJoins_c_12 (hs := by exact spec_IsRow))
      refine rB g5 ?_ (x := nT)
      refine rA ?_ (x := pkF g5)
      refine sw_cond (t := 62) rfl (fun hb7 => ?_) (fun hb7 => ?_)
      ·try simp only [q1, q2, q3, q4, q5, q6, q7, q8, q9] at hb7
       refine sw_seq ?_
       refine sO [(0, _), (3, _), (4, _), (5, _), (6, _), (7, _), (8, _), (9, _)] [] ?_
       refine sw_reg ?_
       refine rA ?_ (x := kA)
       refine sw_ret ?_
       exact (And.intro (by exact rfl) True.intro)
      ·try simp only [q1, q2, q3, q4, q5, q6, q7, q8, q9] at hb7
       have hyes : okAnn ((drJoin code hb).1)[k] = true := by first | exact okAnn_and (by simp_all) (by simp_all) | (simp_all; done)
       refine sw_skip ?_
       refine sO [(0, _), (3, _), (4, _), (5, _), (6, _), (7, _), (8, _), (9, _)] [] ?_
       refine sw_reg ?_
       refine rA ?_ (x := sM)
       refine rA ?_ (x := B_add)
       refine rA ?_ (x := sA)
       refine Exists.intro (k + 1) (And.intro (by exact ⟨by omega, all_succ ha hlt hyes⟩) (And.intro (by omega) (And.intro (And.intro (by exact ⟨rfl, rfl, rfl, rfl, rfl, rfl, rfl, ⟨⟩⟩) (by exact ⟨⟩)) (And.intro (by exact And.intro (by exact rfl) (True.intro)) (by exact ⟨⟩)))))
    ·try simp only [q1, q2, q3, q4, q5, q6, q7, q8, q9] at hb4
     have hallA : ((drJoin code hb).1).all okAnn = true := all_end (by rw [show ((drJoin code hb).1).length = k by omega]; exact ha)
     refine sw_exit ?_
     refine sw_seq ?_
     refine sw_seq ?_
     refine sO [(0, _), (3, _), (4, _), (5, _), (6, _), (7, _), (8, _), (9, _)] [] ?_
     refine sw_reg ?_
     refine rA ?_ (x := kA)
     refine sw_block ?_
     refine sO [(0, _), (3, _), (4, _), (5, _), (6, _), (7, _), (8, _), (9, _), (10, _)] [] ?_
     refine sw_loop (l0 := [(0, RV.sv false [PV.sl _ _]), (3, RV.sv false [PV.sl _ _]), (4, RV.sv false [PV.sl _ _]), (5, RV.sv false [PV.val _]), (6, RV.sv false [PV.val _]), (7, RV.sv false [PV.sl _ _]), (8, RV.sv false [PV.sl _ _]), (9, RV.sv false [PV.val _])]) (b0 := []) (fun k : Nat => k ≤ (drJoin code hb).2.1.length ∧ (List.take k (drJoin code hb).2.1).all okAnn = true) (fun k : Nat => [(10, RV.int (k : Int))]) (fun k : Nat => []) (fun k : Nat => (drJoin code hb).2.1.length - k) 0 (by exact ⟨by omega, rfl⟩) (by exact ⟨rfl, rfl, rfl, rfl, rfl, rfl, rfl, rfl, ⟨⟩⟩) (by exact ⟨⟩) (by exact And.intro (by exact rfl) (True.intro)) (by exact ⟨⟩) ?_
     rintro k ⟨hk, ha⟩
     refine sw_seq ?_
     refine sw_seq ?_
     refine sw_reg ?_
     refine rA ?_ (x := sM)
     refine rA ?_ (x := vM false [PV.sl .v _])
     refine rA ?_ (x := lN FLawFnJoins_sl_24)
     refine rA ?_ (x := B_lss)
     refine sw_cond (t := 66) rfl (fun hb8 => ?_) (fun hb8 => ?_)
     ·try simp only [q1, q2, q3, q4, q5, q6, q7, q8, q9] at hb8
      have hlt : k < ((drJoin code hb).2.1).length := by omega
      refine sw_skip ?_
      refine sw_seq ?_
      refine sw_block ?_
      refine sw_seq ?_
      refine sO [(0, _), (3, _), (4, _), (5, _), (6, _), (7, _), (8, _), (9, _), (10, _)] [] ?_
      refine sw_reg ?_
      refine rA ?_ (x := vM false [PV.sl .v _])
      refine rA ?_ (x := sM)
      refine rA ?_ (x := loc_index (by decide) FLawFnJoins_sl_24 (by exact ⟨⟩) (by exact rfl) (by exact getm2 (by omega) rfl) (by exact rfl))
      refine rA ?_ (x := loc_efield (by decide) FLawFnJoins_fd_35_1 (by exact Nat.le_of_ble_eq_true rfl))
      refine rA ?_ (x := lE [PV.sl .v _] FLawFnJoins_ty_31)
      refine rA ?_ (x := cL [(false, [PV.sl _ _])] [(false, [PV.sl .v _])] FLawFnJoins_c_11 (hs := by exact spec_IsSet))
      refine rA ?_ (x := nT)
      refine rA ?_ (x := sM)
      refine RunS.cases (s := 76) rfl (fun g9 => ?_) (fun g9 => ?_)
      ·have sg9 := g9
       try simp only [q1, q2, q3, q4, q5, q6, q7, q8, q9] at sg9
       refine RunS.s0t g9 ?_
       refine RunS.s0t g9 ?_
       refine RunS.s0t g9 ?_
       refine RunS.s0t g9 ?_
       refine RunS.s0t g9 ?_
       refine RunS.s0t g9 ?_
       refine RunS.s0t g9 ?_
       refine rA ?_ (x := pkT g9)
       refine sw_cond (t := 84) rfl (fun hb_ => ?_) (fun hb_ => nomatch hb_)
       refine sw_seq ?_
       refine sO [(0, _), (3, _), (4, _), (5, _), (6, _), (7, _), (8, _), (9, _), (10, _)] [] ?_
       refine sw_reg ?_
       refine rA ?_ (x := kA)
       refine sw_ret ?_
       exact (And.intro (by exact rfl) True.intro)
      ·have sg9 := g9
       try simp only [q1, q2, q3, q4, q5, q6, q7, q8, q9] at sg9
       refine rB g9 ?_ (x := vM false [PV.sl .v _])
       refine rB g9 ?_ (x := sM)
       refine rB g9 ?_ (x := loc_index (by decide) FLawFnJoins_sl_24 (by exact ⟨⟩) (by exact rfl) (by exact getm2 (by omega) rfl) (by exact rfl))
       refine rB g9 ?_ (x := loc_efield (by decide) FLawFnJoins_fd_35_0 (by exact Nat.le_of_ble_eq_true rfl))
       refine rB g9 ?_ (x := lE [PV.val _, PV.sl .v _] FLawFnJoins_ty_33)
       refine rB g9 ?_ (x := cL [(true, [PV.val _, PV.sl _ _])] [(true, [PV.val _, PV.sl .v _])] FLawFnJoins_c_12 (hs := by exact spec_IsRow))
       refine rB g9 ?_ (x := nT)
       refine rA ?_ (x := pkF g9)
       refine sw_cond (t := 84) rfl (fun hb11 => ?_) (fun hb11 => ?_)
       ·try simp only [q1, q2, q3, q4, q5, q6, q7, q8, q9] at hb11
        refine sw_seq ?_
        refine sO [(0, _), (3, _), (4, _), (5, _), (6, _), (7, _), (8, _), (9, _), (10, _)] [] ?_
        refine sw_reg ?_
        refine rA ?_ (x := kA)
        refine sw_ret ?_
        exact (And.intro (by exact rfl) True.intro)
       ·try simp only [q1, q2, q3, q4, q5, q6, q7, q8, q9] at hb11
        have hyes : okAnn ((drJoin code hb).2.1)[k] = true := by first | exact okAnn_and (by simp_all) (by simp_all) | (simp_all; done)
        refine sw_skip ?_
        refine sO [(0, _), (3, _), (4, _), (5, _), (6, _), (7, _), (8, _), (9, _), (10, _)] [] ?_
        refine sw_reg ?_
        refine rA ?_ (x := sM)
        refine rA ?_ (x := B_add)
        refine rA ?_ (x := sA)
        refine Exists.intro (k + 1) (And.intro (by exact ⟨by omega, all_succ ha hlt hyes⟩) (And.intro (by omega) (And.intro (And.intro (by exact ⟨rfl, rfl, rfl, rfl, rfl, rfl, rfl, rfl, ⟨⟩⟩) (by exact ⟨⟩)) (And.intro (by exact And.intro (by exact rfl) (True.intro)) (by exact ⟨⟩)))))
     ·try simp only [q1, q2, q3, q4, q5, q6, q7, q8, q9] at hb8
      have hallB : ((drJoin code hb).2.1).all okAnn = true := all_end (by rw [show ((drJoin code hb).2.1).length = k by omega]; exact ha)
      refine sw_exit ?_
      refine sw_seq ?_
      refine sw_seq ?_
      refine sO [(0, _), (3, _), (4, _), (5, _), (6, _), (7, _), (8, _), (9, _), (10, _)] [] ?_
      refine sw_reg ?_
      refine rA ?_ (x := kA)
      refine sw_block ?_
      refine sO [(0, _), (3, _), (4, _), (5, _), (6, _), (7, _), (8, _), (9, _), (10, _), (11, _)] [] ?_
      refine sw_loop (l0 := [(0, RV.sv false [PV.sl _ _]), (3, RV.sv false [PV.sl _ _]), (4, RV.sv false [PV.sl _ _]), (5, RV.sv false [PV.val _]), (6, RV.sv false [PV.val _]), (7, RV.sv false [PV.sl _ _]), (8, RV.sv false [PV.sl _ _]), (9, RV.sv false [PV.val _]), (10, RV.sv false [PV.val _])]) (b0 := []) (fun k : Nat => k ≤ 8) (fun k : Nat => [(11, RV.int (k : Int))]) (fun k : Nat => []) (fun k : Nat => 8 - k) 0 (by omega) (by exact ⟨rfl, rfl, rfl, rfl, rfl, rfl, rfl, rfl, rfl, ⟨⟩⟩) (by exact ⟨⟩) (by exact And.intro (by exact rfl) (True.intro)) (by exact ⟨⟩) ?_
      rintro k hk
      refine sw_seq ?_
      refine sw_seq ?_
      refine sw_reg ?_
      refine rA ?_ (x := sM)
      refine rA ?_ (x := B_lss)
      refine sw_cond (t := 86) rfl (fun hb12 => ?_) (fun hb12 => ?_)
      ·try simp only [q1, q2, q3, q4, q5, q6, q7, q8, q9] at hb12
       have hlt8 : k < 8 := by omega
       have hrw1 := routeR_wt (drJoin code hb).1 (k : Int)
       have hrw2 := routeR_wt (drJoin code hb).2.1 (k : Int)
       have hlw := joins_law (f := (drJoin code hb).2.2.1) (g := (drJoin code hb).2.2.2) (id := (k : Int)) hallA hallB
       refine sw_skip ?_
       refine sw_seq ?_
       refine sw_block ?_
       refine sw_seq ?_
       refine sO [(0, _), (3, _), (4, _), (5, _), (6, _), (7, _), (8, _), (9, _), (10, _), (11, _)] [] ?_
       refine sw_reg ?_
       refine rA ?_ (x := vM false [PV.sl .v _])
       refine rA ?_ (x := sM)
       refine rA ?_ (x := cL [(false, [PV.sl _ _]), (false, [PV.val _])] [(false, [PV.sl .v _]), (false, [PV.val _])] FLawFnJoins_c_13 (hs := by exact impl_RouteJoined (by omega)))
       refine rA ?_ (x := vM false [PV.sl .v _])
       refine rA ?_ (x := sM)
       refine rA ?_ (x := cL [(false, [PV.sl _ _]), (false, [PV.val _])] [(false, [PV.sl .v _]), (false, [PV.val _])] FLawFnJoins_c_15 (hs := by exact spec_RouteRows (by omega)))
       refine rA ?_ (x := vM false [PV.sl .v _])
       refine rA ?_ (x := sM)
       refine rA ?_ (x := cL [(false, [PV.sl _ _]), (false, [PV.val _])] [(false, [PV.sl .v _]), (false, [PV.val _])] FLawFnJoins_c_15 (hs := by exact spec_RouteRows (by omega)))
       refine rA ?_ (x := sM)
       refine rA ?_ (x := sM)
       refine rA ?_ (x := cL [(false, [PV.sl _ _]), (false, [PV.sl _ _]), (false, [PV.val _]), (false, [PV.val _])] [(false, [PV.sl .v _]), (false, [PV.sl .v _]), (false, [PV.val _]), (false, [PV.val _])] FLawFnJoins_c_14 (hs := by exact impl_JoinAlone (by omega) (by omega)))
       refine rA ?_ (x := cL [(false, [PV.sl _ _]), (false, [PV.sl _ _])] [(false, [PV.sl .v _]), (false, [PV.sl .v _])] FLawFnJoins_c_9 (hs := by exact spec_EqualJoined))
       refine rA ?_ (x := nT)
       refine sw_cond (t := 102) rfl (fun hb13 => ?_) (fun hb13 => ?_)
       ·try simp only [q1, q2, q3, q4, q5, q6, q7, q8, q9] at hb13
        exact absurd hb13 (by rw [hlw]; simp [deq_self])
       ·try simp only [q1, q2, q3, q4, q5, q6, q7, q8, q9] at hb13
        refine sw_skip ?_
        refine sO [(0, _), (3, _), (4, _), (5, _), (6, _), (7, _), (8, _), (9, _), (10, _), (11, _)] [] ?_
        refine sw_reg ?_
        refine rA ?_ (x := sM)
        refine rA ?_ (x := B_add)
        refine rA ?_ (x := sA)
        refine Exists.intro (k + 1) (And.intro (by omega) (And.intro (by omega) (And.intro (And.intro (by exact ⟨rfl, rfl, rfl, rfl, rfl, rfl, rfl, rfl, rfl, ⟨⟩⟩) (by exact ⟨⟩)) (And.intro (by exact And.intro (by exact int_eq (by omega)) (True.intro)) (by exact ⟨⟩)))))
      ·try simp only [q1, q2, q3, q4, q5, q6, q7, q8, q9] at hb12
       refine sw_exit ?_
       refine sw_seq ?_
       refine sO [(0, _), (3, _), (4, _), (5, _), (6, _), (7, _), (8, _), (9, _), (10, _), (11, _)] [] ?_
       refine sw_reg ?_
       refine rA ?_ (x := kA)
       refine sw_ret ?_
       exact (And.intro (by exact rfl) True.intro)
end Go.Proofs.Ytaomckpfgmhapaa
