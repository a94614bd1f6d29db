/- What functions of the program compute. No condition. -/
import Derived.Test.YtaomckpfgmhapaaDoorCEqQFormatEvent
import Derived.KernelRfl
set_option linter.unusedVariables false
set_option linter.unusedSimpArgs false
namespace Go.Proofs.YtaomckpfgmhapaaDoor
open Go Go.RowKit M
set_option maxRecDepth 10000
attribute [local irreducible] PV.Lcl PV.LclR RV.Lcl
theorem spec_l20Zero {x : Query}  : SCall Tryd.prog 104 [(true, [PV.val (vI x.Id), PV.val (vI x.Tenant), PV.sl .v (x.Conds.map cCond), PV.sl .v (x.Out.map cInt)])] (resRV [(false, [PV.val (.bool (zeroQ x))])]) := by
 refine scall_of (rs := [(false, [PV.val (.bool (zeroQ x))])]) Tryd.func104 rfl (Nat.le_of_ble_eq_true rfl) (borA_cons (BorL.cons (PV.bor_val _) (BorL.cons (PV.bor_val _) (BorL.cons (PV.bor_sl _) (BorL.cons (PV.bor_sl _) BorL.nil)))) borA_nil) ?_
 intro h0 w0 Fz0
 refine sw_slen (s := 0) (j := 2) rfl rfl fun hl0_2 => ?_
 try rw [List.length_map] at hl0_2
 refine sw_slen (s := 0) (j := 3) rfl rfl fun hl0_3 => ?_
 try rw [List.length_map] at hl0_3
 refine sw_seq ?_
 refine sw_reg ?_
 refine RunS.step (by exact ⟨rfl, ⟨⟩⟩) (by exact ⟨⟩) (LocG.of rfl (loc_box (ag := true) (cs := [PV.val _, PV.val _, PV.sl _ _, PV.sl _ _]) (by decide) (by exact ⟨⟩))) (free1 (Free.of_ rfl)) ?_
 refine rA ?_ (x := kA)
 refine sw_seq ?_
 refine sO [(1, _), (2, _)] [(1, (51, [PV.val _, PV.val _, PV.sl _ _, PV.sl _ _]))] ?_
 refine sw_reg ?_
 refine rA ?_ (x := lF fd_51_0)
 refine rA ?_ (x := lD [PV.val _] ty_3)
 refine rA ?_ (x := B_eql)
 refine rA ?_ (x := sM)
 refine RunS.cases (s := 6) rfl (fun g1 => ?_) (fun g1 => ?_)
 ·have sg1 := g1
  try simp only [q1, q2, q3, q4, q5, q6, q7, q8, q9] at sg1
  refine rB g1 ?_ (x := lF fd_51_1)
  refine rB g1 ?_ (x := lD [PV.val _] ty_3)
  refine rB g1 ?_ (x := B_eql)
  refine rA ?_ (x := pkT g1)
  refine rA ?_ (x := sM)
  refine RunS.cases (s := 11) rfl (fun g2 => ?_) (fun g2 => ?_)
  ·have sg2 := g2
   try simp only [q1, q2, q3, q4, q5, q6, q7, q8, q9] at sg2
   refine rB g2 ?_ (x := lF fd_51_2)
   refine rB g2 ?_ (x := lD [PV.sl .v _] ty_49)
   refine rB g2 ?_ (x := lN sl_49)
   refine rB g2 ?_ (x := B_eql)
   refine rA ?_ (x := pkT g2)
   refine rA ?_ (x := sM)
   refine RunS.cases (s := 17) rfl (fun g3 => ?_) (fun g3 => ?_)
   ·have sg3 := g3
    try simp only [q1, q2, q3, q4, q5, q6, q7, q8, q9] at sg3
    refine rB g3 ?_ (x := lF fd_51_3)
    refine rB g3 ?_ (x := lD [PV.sl .v _] ty_41)
    refine rB g3 ?_ (x := lN sl_41)
    refine rB g3 ?_ (x := B_eql)
    refine rA ?_ (x := pkT g3)
    refine rA ?_ (x := sA)
    refine sw_ret ?_
    exact (And.intro (by refine bool_eq ?_; first | (rw [Bool.eq_iff_iff]; simp_all [zeroQ]; done) | (rw [Bool.eq_iff_iff]; simp_all [zeroQ]; omega) | (simp_all [zeroQ]; done) | (simp_all [zeroQ]; rfl) | (simp_all [zeroQ]; omega) | (simp_all [zeroQ]; intros; omega)) True.intro)
   ·have sg3 := g3
    try simp only [q1, q2, q3, q4, q5, q6, q7, q8, q9] at sg3
    refine RunS.s0f g3 ?_
    refine RunS.s0f g3 ?_
    refine RunS.s0f g3 ?_
    refine RunS.s0f g3 ?_
    refine rA ?_ (x := pkF g3)
    refine rA ?_ (x := sA)
    refine sw_ret ?_
    exact (And.intro (by refine bool_eq ?_; first | (rw [Bool.eq_iff_iff]; simp_all [zeroQ]; done) | (rw [Bool.eq_iff_iff]; simp_all [zeroQ]; omega) | (simp_all [zeroQ]; done) | (simp_all [zeroQ]; rfl) | (simp_all [zeroQ]; omega) | (simp_all [zeroQ]; intros; omega)) True.intro)
  ·have sg2 := g2
   try simp only [q1, q2, q3, q4, q5, q6, q7, q8, q9] at sg2
   refine RunS.s0f g2 ?_
   refine RunS.s0f g2 ?_
   refine RunS.s0f g2 ?_
   refine RunS.s0f g2 ?_
   refine rA ?_ (x := pkF g2)
   refine rA ?_ (x := sM)
   refine RunS.cases (s := 17) rfl (fun g4 => nomatch g4) (fun g4 => ?_)
   refine RunS.s0f g4 ?_
   refine RunS.s0f g4 ?_
   refine RunS.s0f g4 ?_
   refine RunS.s0f g4 ?_
   refine rA ?_ (x := pkF g4)
   refine rA ?_ (x := sA)
   refine sw_ret ?_
   exact (And.intro (by refine bool_eq ?_; first | (rw [Bool.eq_iff_iff]; simp_all [zeroQ]; done) | (rw [Bool.eq_iff_iff]; simp_all [zeroQ]; omega) | (simp_all [zeroQ]; done) | (simp_all [zeroQ]; rfl) | (simp_all [zeroQ]; omega) | (simp_all [zeroQ]; intros; omega)) True.intro)
 ·have sg1 := g1
  try simp only [q1, q2, q3, q4, q5, q6, q7, q8, q9] at sg1
  refine RunS.s0f g1 ?_
  refine RunS.s0f g1 ?_
  refine RunS.s0f g1 ?_
  refine rA ?_ (x := pkF g1)
  refine rA ?_ (x := sM)
  refine RunS.cases (s := 11) rfl (fun g5 => nomatch g5) (fun g5 => ?_)
  refine RunS.s0f g5 ?_
  refine RunS.s0f g5 ?_
  refine RunS.s0f g5 ?_
  refine RunS.s0f g5 ?_
  refine rA ?_ (x := pkF g5)
  refine rA ?_ (x := sM)
  refine RunS.cases (s := 17) rfl (fun g6 => nomatch g6) (fun g6 => ?_)
  refine RunS.s0f g6 ?_
  refine RunS.s0f g6 ?_
  refine RunS.s0f g6 ?_
  refine RunS.s0f g6 ?_
  refine rA ?_ (x := pkF g6)
  refine rA ?_ (x := sA)
  refine sw_ret ?_
  exact (And.intro (by refine bool_eq ?_; first | (rw [Bool.eq_iff_iff]; simp_all [zeroQ]; done) | (rw [Bool.eq_iff_iff]; simp_all [zeroQ]; omega) | (simp_all [zeroQ]; done) | (simp_all [zeroQ]; rfl) | (simp_all [zeroQ]; omega) | (simp_all [zeroQ]; intros; omega)) True.intro)
theorem spec_l20NoUpdate {x : Update}  : SCall Tryd.prog 103 [(true, [PV.val (vI x.Kind), PV.val (vI x.Row.Id), PV.sl .v (x.Row.Values.map cInt), PV.val (vI x.Field), PV.val (vI x.Value)])] (resRV [(false, [PV.val (.bool (zeroU x))])]) := by
 refine scall_of (rs := [(false, [PV.val (.bool (zeroU x))])]) Tryd.func103 rfl (Nat.le_of_ble_eq_true rfl) (borA_cons (BorL.cons (PV.bor_val _) (BorL.cons (PV.bor_val _) (BorL.cons (PV.bor_sl _) (BorL.cons (PV.bor_val _) (BorL.cons (PV.bor_val _) BorL.nil))))) borA_nil) ?_
 intro h0 w0 Fz0
 refine sw_slen (s := 0) (j := 2) rfl rfl fun hl0_2 => ?_
 try rw [List.length_map] at hl0_2
 refine sw_seq ?_
 refine sw_reg ?_
 refine RunS.step (by exact ⟨rfl, ⟨⟩⟩) (by exact ⟨⟩) (LocG.of rfl (loc_box (ag := true) (cs := [PV.val _, PV.val _, PV.sl _ _, PV.val _, PV.val _]) (by decide) (by exact ⟨⟩))) (free1 (Free.of_ rfl)) ?_
 refine rA ?_ (x := kA)
 refine sw_seq ?_
 refine sO [(1, _), (2, _)] [(1, (68, [PV.val _, PV.val _, PV.sl _ _, PV.val _, PV.val _]))] ?_
 refine sw_reg ?_
 refine rA ?_ (x := lF fd_68_0)
 refine rA ?_ (x := lD [PV.val _] ty_3)
 refine rA ?_ (x := B_eql)
 refine rA ?_ (x := sM)
 refine RunS.cases (s := 6) rfl (fun g1 => ?_) (fun g1 => ?_)
 ·have sg1 := g1
  try simp only [q1, q2, q3, q4, q5, q6, q7, q8, q9] at sg1
  refine rB g1 ?_ (x := lF fd_68_1)
  refine rB g1 ?_ (x := lF fd_66_0)
  refine rB g1 ?_ (x := lD [PV.val _] ty_3)
  refine rB g1 ?_ (x := B_eql)
  refine rA ?_ (x := pkT g1)
  refine rA ?_ (x := sM)
  refine RunS.cases (s := 12) rfl (fun g2 => ?_) (fun g2 => ?_)
  ·have sg2 := g2
   try simp only [q1, q2, q3, q4, q5, q6, q7, q8, q9] at sg2
   refine rB g2 ?_ (x := lF fd_68_1)
   refine rB g2 ?_ (x := lF fd_66_1)
   refine rB g2 ?_ (x := lD [PV.sl .v _] ty_41)
   refine rB g2 ?_ (x := lN sl_41)
   refine rB g2 ?_ (x := B_eql)
   refine rA ?_ (x := pkT g2)
   refine rA ?_ (x := sM)
   refine RunS.cases (s := 19) rfl (fun g3 => ?_) (fun g3 => ?_)
   ·have sg3 := g3
    try simp only [q1, q2, q3, q4, q5, q6, q7, q8, q9] at sg3
    refine rB g3 ?_ (x := lF fd_68_2)
    refine rB g3 ?_ (x := lD [PV.val _] ty_3)
    refine rB g3 ?_ (x := B_eql)
    refine rA ?_ (x := pkT g3)
    refine rA ?_ (x := sM)
    refine RunS.cases (s := 24) rfl (fun g4 => ?_) (fun g4 => ?_)
    ·have sg4 := g4
     try simp only [q1, q2, q3, q4, q5, q6, q7, q8, q9] at sg4
     refine rB g4 ?_ (x := lF fd_68_3)
     refine rB g4 ?_ (x := lD [PV.val _] ty_3)
     refine rB g4 ?_ (x := B_eql)
     refine rA ?_ (x := pkT g4)
     refine rA ?_ (x := sA)
     refine sw_ret ?_
     exact (And.intro (by refine bool_eq ?_; first | (rw [Bool.eq_iff_iff]; simp_all [zeroU]; done) | (rw [Bool.eq_iff_iff]; simp_all [zeroU]; omega) | (simp_all [zeroU]; done) | (simp_all [zeroU]; rfl) | (simp_all [zeroU]; omega) | (simp_all [zeroU]; intros; omega)) True.intro)
    ·have sg4 := g4
     try simp only [q1, q2, q3, q4, q5, q6, q7, q8, q9] at sg4
     refine RunS.s0f g4 ?_
     refine RunS.s0f g4 ?_
     refine RunS.s0f g4 ?_
     refine rA ?_ (x := pkF g4)
     refine rA ?_ (x := sA)
     refine sw_ret ?_
     exact (And.intro (by refine bool_eq ?_; first | (rw [Bool.eq_iff_iff]; simp_all [zeroU]; done) | (rw [Bool.eq_iff_iff]; simp_all [zeroU]; omega) | (simp_all [zeroU]; done) | (simp_all [zeroU]; rfl) | (simp_all [zeroU]; omega) | (simp_all [zeroU]; intros; omega)) True.intro)
   ·have sg3 := g3
    try simp only [q1, q2, q3, q4, q5, q6, q7, q8, q9] at sg3
    refine RunS.s0f g3 ?_
    refine RunS.s0f g3 ?_
    refine RunS.s0f g3 ?_
    refine rA ?_ (x := pkF g3)
    refine rA ?_ (x := sM)
    refine RunS.cases (s := 24) rfl (fun g5 => nomatch g5) (fun g5 => ?_)
    refine RunS.s0f g5 ?_
    refine RunS.s0f g5 ?_
    refine RunS.s0f g5 ?_
    refine rA ?_ (x := pkF g5)
    refine rA ?_ (x := sA)
    refine sw_ret ?_
    exact (And.intro (by refine bool_eq ?_; first | (rw [Bool.eq_iff_iff]; simp_all [zeroU]; done) | (rw [Bool.eq_iff_iff]; simp_all [zeroU]; omega) | (simp_all [zeroU]; done) | (simp_all [zeroU]; rfl) | (simp_all [zeroU]; omega) | (simp_all [zeroU]; intros; omega)) True.intro)
  ·have sg2 := g2
   try simp only [q1, q2, q3, q4, q5, q6, q7, q8, q9] at sg2
   refine RunS.s0f g2 ?_
   refine RunS.s0f g2 ?_
   refine RunS.s0f g2 ?_
   refine RunS.s0f g2 ?_
   refine RunS.s0f g2 ?_
   refine rA ?_ (x := pkF g2)
   refine rA ?_ (x := sM)
   refine RunS.cases (s := 19) rfl (fun g6 => nomatch g6) (fun g6 => ?_)
   refine RunS.s0f g6 ?_
   refine RunS.s0f g6 ?_
   refine RunS.s0f g6 ?_
   refine rA ?_ (x := pkF g6)
   refine rA ?_ (x := sM)
   refine RunS.cases (s := 24) rfl (fun g7 => nomatch g7) (fun g7 => ?_)
   refine RunS.s0f g7 ?_
   refine RunS.s0f g7 ?_
   refine RunS.s0f g7 ?_
   refine rA ?_ (x := pkF g7)
   refine rA ?_ (x := sA)
   refine sw_ret ?_
   exact (And.intro (by refine bool_eq ?_; first | (rw [Bool.eq_iff_iff]; simp_all [zeroU]; done) | (rw [Bool.eq_iff_iff]; simp_all [zeroU]; omega) | (simp_all [zeroU]; done) | (simp_all [zeroU]; rfl) | (simp_all [zeroU]; omega) | (simp_all [zeroU]; intros; omega)) True.intro)
 ·have sg1 := g1
  try simp only [q1, q2, q3, q4, q5, q6, q7, q8, q9] at sg1
  refine RunS.s0f g1 ?_
  refine RunS.s0f g1 ?_
  refine RunS.s0f g1 ?_
  refine RunS.s0f g1 ?_
  refine rA ?_ (x := pkF g1)
  refine rA ?_ (x := sM)
  refine RunS.cases (s := 12) rfl (fun g8 => nomatch g8) (fun g8 => ?_)
  refine RunS.s0f g8 ?_
  refine RunS.s0f g8 ?_
  refine RunS.s0f g8 ?_
  refine RunS.s0f g8 ?_
  refine RunS.s0f g8 ?_
  refine rA ?_ (x := pkF g8)
  refine rA ?_ (x := sM)
  refine RunS.cases (s := 19) rfl (fun g9 => nomatch g9) (fun g9 => ?_)
  refine RunS.s0f g9 ?_
  refine RunS.s0f g9 ?_
  refine RunS.s0f g9 ?_
  refine rA ?_ (x := pkF g9)
  refine rA ?_ (x := sM)
  refine RunS.cases (s := 24) rfl (fun g10 => nomatch g10) (fun g10 => ?_)
  refine RunS.s0f g10 ?_
  refine RunS.s0f g10 ?_
  refine RunS.s0f g10 ?_
  refine rA ?_ (x := pkF g10)
  refine rA ?_ (x := sA)
  refine sw_ret ?_
  exact (And.intro (by refine bool_eq ?_; first | (rw [Bool.eq_iff_iff]; simp_all [zeroU]; done) | (rw [Bool.eq_iff_iff]; simp_all [zeroU]; omega) | (simp_all [zeroU]; done) | (simp_all [zeroU]; rfl) | (simp_all [zeroU]; omega) | (simp_all [zeroU]; intros; omega)) True.intro)
theorem spec_IsEvent {x : Event}  : SCall Tryd.prog 63 [(true, [PV.val (vI x.Kind), PV.val (vI x.Query.Id), PV.val (vI x.Query.Tenant), PV.sl .v (x.Query.Conds.map cCond), PV.sl .v (x.Query.Out.map cInt), PV.val (vI x.Limit), PV.val (vI x.Id), PV.val (vI x.Update.Kind), PV.val (vI x.Update.Row.Id), PV.sl .v (x.Update.Row.Values.map cInt), PV.val (vI x.Update.Field), PV.val (vI x.Update.Value), PV.val (vI x.Steps)])] (resRV [(false, [PV.val (.bool (okEvent x))])]) := by
 refine scall_of (rs := [(false, [PV.val (.bool (okEvent x))])]) Tryd.func63 rfl (Nat.le_of_ble_eq_true rfl) (borA_cons (BorL.cons (PV.bor_val _) (BorL.cons (PV.bor_val _) (BorL.cons (PV.bor_val _) (BorL.cons (PV.bor_sl _) (BorL.cons (PV.bor_sl _) (BorL.cons (PV.bor_val _) (BorL.cons (PV.bor_val _) (BorL.cons (PV.bor_val _) (BorL.cons (PV.bor_val _) (BorL.cons (PV.bor_sl _) (BorL.cons (PV.bor_val _) (BorL.cons (PV.bor_val _) (BorL.cons (PV.bor_val _) BorL.nil))))))))))))) borA_nil) ?_
 intro h0 w0 Fz0
 refine sw_slen (s := 0) (j := 3) rfl rfl fun hl0_3 => ?_
 try rw [List.length_map] at hl0_3
 refine sw_slen (s := 0) (j := 4) rfl rfl fun hl0_4 => ?_
 try rw [List.length_map] at hl0_4
 refine sw_slen (s := 0) (j := 9) rfl rfl fun hl0_9 => ?_
 try rw [List.length_map] at hl0_9
 refine sw_seq ?_
 refine sw_reg ?_
 refine RunS.step (by exact ⟨rfl, ⟨⟩⟩) (by exact ⟨⟩) (LocG.of rfl (loc_box (ag := true) (cs := [PV.val _, PV.val _, PV.val _, PV.sl _ _, PV.sl _ _, PV.val _, PV.val _, PV.val _, PV.val _, PV.sl _ _, PV.val _, PV.val _, PV.val _]) (by decide) (by exact ⟨⟩))) (free1 (Free.of_ rfl)) ?_
 refine rA ?_ (x := kA)
 refine sw_seq ?_
 refine sw_seq ?_
 refine sO [(1, _), (2, _)] [(1, (70, [PV.val _, PV.val _, PV.val _, PV.sl _ _, PV.sl _ _, PV.val _, PV.val _, PV.val _, PV.val _, PV.sl _ _, PV.val _, PV.val _, PV.val _]))] ?_
 refine sw_reg ?_
 refine rA ?_ (x := lF fd_70_0)
 refine rA ?_ (x := lD [PV.val _] ty_3)
 refine sw_block ?_
 refine sw_seq ?_
 refine sO [(1, _), (2, _), (4, _)] [(1, _)] ?_
 refine sw_reg ?_
 refine rA ?_ (x := B_eql)
 refine rA ?_ (x := sA)
 refine sw_cond (t := 5) rfl (fun hb1 => ?_) (fun hb1 => ?_)
 ·try simp only [q1, q2, q3, q4, q5, q6, q7, q8, q9] at hb1
  refine sw_seq ?_
  refine sO [(1, _), (2, _), (4, _)] [(1, _)] ?_
  refine sw_reg ?_
  refine rA ?_ (x := lF fd_70_1)
  refine rA ?_ (x := lD [PV.val _, PV.val _, PV.sl .v _, PV.sl .v _] ty_51)
  refine rA ?_ (x := cL [(true, [PV.val _, PV.val _, PV.sl _ _, PV.sl _ _])] [(true, [PV.val _, PV.val _, PV.sl .v _, PV.sl .v _])] c_50 (hs := by exact spec_IsQuery))
  refine rA ?_ (x := sM)
  refine RunS.cases (s := 10) rfl (fun g2 => ?_) (fun g2 => ?_)
  ·have sg2 := g2
   try simp only [q1, q2, q3, q4, q5, q6, q7, q8, q9] at sg2
   refine rB g2 ?_ (x := lF fd_70_2)
   refine rB g2 ?_ (x := lD [PV.val _] ty_3)
   refine rB g2 ?_ (x := cL [(false, [PV.val _]), (false, [PV.val _]), (false, [PV.val _])] [(false, [PV.val _]), (false, [PV.val _]), (false, [PV.val _])] c_39 (hs := by exact spec_l1In))
   refine rA ?_ (x := pkT g2)
   refine rA ?_ (x := sM)
   refine RunS.cases (s := 15) rfl (fun g3 => ?_) (fun g3 => ?_)
   ·have sg3 := g3
    try simp only [q1, q2, q3, q4, q5, q6, q7, q8, q9] at sg3
    refine rB g3 ?_ (x := lF fd_70_3)
    refine rB g3 ?_ (x := lD [PV.val _] ty_3)
    refine rB g3 ?_ (x := B_eql)
    refine rA ?_ (x := pkT g3)
    refine rA ?_ (x := sM)
    refine RunS.cases (s := 20) rfl (fun g4 => ?_) (fun g4 => ?_)
    ·have sg4 := g4
     try simp only [q1, q2, q3, q4, q5, q6, q7, q8, q9] at sg4
     refine rB g4 ?_ (x := lF fd_70_4)
     refine rB g4 ?_ (x := lD [PV.val _, PV.val _, PV.sl .v _, PV.val _, PV.val _] ty_68)
     refine rB g4 ?_ (x := cL [(true, [PV.val _, PV.val _, PV.sl _ _, PV.val _, PV.val _])] [(true, [PV.val _, PV.val _, PV.sl .v _, PV.val _, PV.val _])] c_103 (hs := by exact spec_l20NoUpdate))
     refine rA ?_ (x := pkT g4)
     refine rA ?_ (x := sM)
     refine RunS.cases (s := 25) rfl (fun g5 => ?_) (fun g5 => ?_)
     ·have sg5 := g5
      try simp only [q1, q2, q3, q4, q5, q6, q7, q8, q9] at sg5
      refine rB g5 ?_ (x := lF fd_70_5)
      refine rB g5 ?_ (x := lD [PV.val _] ty_3)
      refine rB g5 ?_ (x := B_eql)
      refine rA ?_ (x := pkT g5)
      refine rA ?_ (x := sA)
      refine sw_ret ?_
      exact (And.intro (by refine bool_eq ?_; first | (simp_all [okEvent]; done) | (simp_all [okEvent]; rfl) | (simp_all [okEvent]; omega) | (simp_all [okEvent]; intros; omega)) True.intro)
     ·have sg5 := g5
      try simp only [q1, q2, q3, q4, q5, q6, q7, q8, q9] at sg5
      refine RunS.s0f g5 ?_
      refine RunS.s0f g5 ?_
      refine RunS.s0f g5 ?_
      refine rA ?_ (x := pkF g5)
      refine rA ?_ (x := sA)
      refine sw_ret ?_
      exact (And.intro (by refine bool_eq ?_; first | (simp_all [okEvent]; done) | (simp_all [okEvent]; rfl) | (simp_all [okEvent]; omega) | (simp_all [okEvent]; intros; omega)) True.intro)
    ·have sg4 := g4
     try simp only [q1, q2, q3, q4, q5, q6, q7, q8, q9] at sg4
     refine RunS.s0f g4 ?_
     refine RunS.s0f g4 ?_
     refine RunS.s0f g4 ?_
     refine rA ?_ (x := pkF g4)
     refine rA ?_ (x := sM)
     refine RunS.cases (s := 25) rfl (fun g6 => nomatch g6) (fun g6 => ?_)
     refine RunS.s0f g6 ?_
     refine RunS.s0f g6 ?_
     refine RunS.s0f g6 ?_
     refine rA ?_ (x := pkF g6)
     refine rA ?_ (x := sA)
     refine sw_ret ?_
     exact (And.intro (by refine bool_eq ?_; first | (simp_all [okEvent]; done) | (simp_all [okEvent]; rfl) | (simp_all [okEvent]; omega) | (simp_all [okEvent]; intros; omega)) True.intro)
   ·have sg3 := g3
    try simp only [q1, q2, q3, q4, q5, q6, q7, q8, q9] at sg3
    refine RunS.s0f g3 ?_
    refine RunS.s0f g3 ?_
    refine RunS.s0f g3 ?_
    refine rA ?_ (x := pkF g3)
    refine rA ?_ (x := sM)
    refine RunS.cases (s := 20) rfl (fun g7 => nomatch g7) (fun g7 => ?_)
    refine RunS.s0f g7 ?_
    refine RunS.s0f g7 ?_
    refine RunS.s0f g7 ?_
    refine rA ?_ (x := pkF g7)
    refine rA ?_ (x := sM)
    refine RunS.cases (s := 25) rfl (fun g8 => nomatch g8) (fun g8 => ?_)
    refine RunS.s0f g8 ?_
    refine RunS.s0f g8 ?_
    refine RunS.s0f g8 ?_
    refine rA ?_ (x := pkF g8)
    refine rA ?_ (x := sA)
    refine sw_ret ?_
    exact (And.intro (by refine bool_eq ?_; first | (simp_all [okEvent]; done) | (simp_all [okEvent]; rfl) | (simp_all [okEvent]; omega) | (simp_all [okEvent]; intros; omega)) True.intro)
  ·have sg2 := g2
   try simp only [q1, q2, q3, q4, q5, q6, q7, q8, q9] at sg2
   refine RunS.s0f g2 ?_
   refine RunS.s0f g2 ?_
   refine RunS.s0f g2 ?_
   refine rA ?_ (x := pkF g2)
   refine rA ?_ (x := sM)
   refine RunS.cases (s := 15) rfl (fun g9 => nomatch g9) (fun g9 => ?_)
   refine RunS.s0f g9 ?_
   refine RunS.s0f g9 ?_
   refine RunS.s0f g9 ?_
   refine rA ?_ (x := pkF g9)
   refine rA ?_ (x := sM)
   refine RunS.cases (s := 20) rfl (fun g10 => nomatch g10) (fun g10 => ?_)
   refine RunS.s0f g10 ?_
   refine RunS.s0f g10 ?_
   refine RunS.s0f g10 ?_
   refine rA ?_ (x := pkF g10)
   refine rA ?_ (x := sM)
   refine RunS.cases (s := 25) rfl (fun g11 => nomatch g11) (fun g11 => ?_)
   refine RunS.s0f g11 ?_
   refine RunS.s0f g11 ?_
   refine RunS.s0f g11 ?_
   refine rA ?_ (x := pkF g11)
   refine rA ?_ (x := sA)
   refine sw_ret ?_
   exact (And.intro (by refine bool_eq ?_; first | (simp_all [okEvent]; done) | (simp_all [okEvent]; rfl) | (simp_all [okEvent]; omega) | (simp_all [okEvent]; intros; omega)) True.intro)
 ·try simp only [q1, q2, q3, q4, q5, q6, q7, q8, q9] at hb1
  refine sw_seq ?_
  refine sO [(1, _), (2, _), (4, _)] [(1, _)] ?_
  refine sw_reg ?_
  refine rA ?_ (x := B_eql)
  refine rA ?_ (x := sA)
  refine sw_cond (t := 30) rfl (fun hb12 => ?_) (fun hb12 => ?_)
  ·try simp only [q1, q2, q3, q4, q5, q6, q7, q8, q9] at hb12
   refine sw_seq ?_
   refine sO [(1, _), (2, _), (4, _)] [(1, _)] ?_
   refine sw_reg ?_
   refine rA ?_ (x := lF fd_70_1)
   refine rA ?_ (x := lD [PV.val _, PV.val _, PV.sl .v _, PV.sl .v _] ty_51)
   refine rA ?_ (x := cL [(true, [PV.val _, PV.val _, PV.sl _ _, PV.sl _ _])] [(true, [PV.val _, PV.val _, PV.sl .v _, PV.sl .v _])] c_104 (hs := by exact spec_l20Zero))
   refine rA ?_ (x := sM)
   refine RunS.cases (s := 35) rfl (fun g13 => ?_) (fun g13 => ?_)
   ·have sg13 := g13
    try simp only [q1, q2, q3, q4, q5, q6, q7, q8, q9] at sg13
    refine rB g13 ?_ (x := lF fd_70_2)
    refine rB g13 ?_ (x := lD [PV.val _] ty_3)
    refine rB g13 ?_ (x := B_eql)
    refine rA ?_ (x := pkT g13)
    refine rA ?_ (x := sM)
    refine RunS.cases (s := 40) rfl (fun g14 => ?_) (fun g14 => ?_)
    ·have sg14 := g14
     try simp only [q1, q2, q3, q4, q5, q6, q7, q8, q9] at sg14
     refine rB g14 ?_ (x := lF fd_70_3)
     refine rB g14 ?_ (x := lD [PV.val _] ty_3)
     refine rB g14 ?_ (x := cL [(false, [PV.val _]), (false, [PV.val _]), (false, [PV.val _])] [(false, [PV.val _]), (false, [PV.val _]), (false, [PV.val _])] c_39 (hs := by exact spec_l1In))
     refine rA ?_ (x := pkT g14)
     refine rA ?_ (x := sM)
     refine RunS.cases (s := 45) rfl (fun g15 => ?_) (fun g15 => ?_)
     ·have sg15 := g15
      try simp only [q1, q2, q3, q4, q5, q6, q7, q8, q9] at sg15
      refine rB g15 ?_ (x := lF fd_70_4)
      refine rB g15 ?_ (x := lD [PV.val _, PV.val _, PV.sl .v _, PV.val _, PV.val _] ty_68)
      refine rB g15 ?_ (x := cL [(true, [PV.val _, PV.val _, PV.sl _ _, PV.val _, PV.val _])] [(true, [PV.val _, PV.val _, PV.sl .v _, PV.val _, PV.val _])] c_103 (hs := by exact spec_l20NoUpdate))
      refine rA ?_ (x := pkT g15)
      refine rA ?_ (x := sM)
      refine RunS.cases (s := 50) rfl (fun g16 => ?_) (fun g16 => ?_)
      ·have sg16 := g16
       try simp only [q1, q2, q3, q4, q5, q6, q7, q8, q9] at sg16
       refine rB g16 ?_ (x := lF fd_70_5)
       refine rB g16 ?_ (x := lD [PV.val _] ty_3)
       refine rB g16 ?_ (x := B_eql)
       refine rA ?_ (x := pkT g16)
       refine rA ?_ (x := sA)
       refine sw_ret ?_
       exact (And.intro (by refine bool_eq ?_; first | (simp_all [okEvent]; done) | (simp_all [okEvent]; rfl) | (simp_all [okEvent]; omega) | (simp_all [okEvent]; intros; omega)) True.intro)
      ·have sg16 := g16
       try simp only [q1, q2, q3, q4, q5, q6, q7, q8, q9] at sg16
       refine RunS.s0f g16 ?_
       refine RunS.s0f g16 ?_
       refine RunS.s0f g16 ?_
       refine rA ?_ (x := pkF g16)
       refine rA ?_ (x := sA)
       refine sw_ret ?_
       exact (And.intro (by refine bool_eq ?_; first | (simp_all [okEvent]; done) | (simp_all [okEvent]; rfl) | (simp_all [okEvent]; omega) | (simp_all [okEvent]; intros; omega)) True.intro)
     ·have sg15 := g15
      try simp only [q1, q2, q3, q4, q5, q6, q7, q8, q9] at sg15
      refine RunS.s0f g15 ?_
      refine RunS.s0f g15 ?_
      refine RunS.s0f g15 ?_
      refine rA ?_ (x := pkF g15)
      refine rA ?_ (x := sM)
      refine RunS.cases (s := 50) rfl (fun g17 => nomatch g17) (fun g17 => ?_)
      refine RunS.s0f g17 ?_
      refine RunS.s0f g17 ?_
      refine RunS.s0f g17 ?_
      refine rA ?_ (x := pkF g17)
      refine rA ?_ (x := sA)
      refine sw_ret ?_
      exact (And.intro (by refine bool_eq ?_; first | (simp_all [okEvent]; done) | (simp_all [okEvent]; rfl) | (simp_all [okEvent]; omega) | (simp_all [okEvent]; intros; omega)) True.intro)
    ·have sg14 := g14
     try simp only [q1, q2, q3, q4, q5, q6, q7, q8, q9] at sg14
     refine RunS.s0f g14 ?_
     refine RunS.s0f g14 ?_
     refine RunS.s0f g14 ?_
     refine rA ?_ (x := pkF g14)
     refine rA ?_ (x := sM)
     refine RunS.cases (s := 45) rfl (fun g18 => nomatch g18) (fun g18 => ?_)
     refine RunS.s0f g18 ?_
     refine RunS.s0f g18 ?_
     refine RunS.s0f g18 ?_
     refine rA ?_ (x := pkF g18)
     refine rA ?_ (x := sM)
     refine RunS.cases (s := 50) rfl (fun g19 => nomatch g19) (fun g19 => ?_)
     refine RunS.s0f g19 ?_
     refine RunS.s0f g19 ?_
     refine RunS.s0f g19 ?_
     refine rA ?_ (x := pkF g19)
     refine rA ?_ (x := sA)
     refine sw_ret ?_
     exact (And.intro (by refine bool_eq ?_; first | (simp_all [okEvent]; done) | (simp_all [okEvent]; rfl) | (simp_all [okEvent]; omega) | (simp_all [okEvent]; intros; omega)) True.intro)
   ·have sg13 := g13
    try simp only [q1, q2, q3, q4, q5, q6, q7, q8, q9] at sg13
    refine RunS.s0f g13 ?_
    refine RunS.s0f g13 ?_
    refine RunS.s0f g13 ?_
    refine rA ?_ (x := pkF g13)
    refine rA ?_ (x := sM)
    refine RunS.cases (s := 40) rfl (fun g20 => nomatch g20) (fun g20 => ?_)
    refine RunS.s0f g20 ?_
    refine RunS.s0f g20 ?_
    refine RunS.s0f g20 ?_
    refine rA ?_ (x := pkF g20)
    refine rA ?_ (x := sM)
    refine RunS.cases (s := 45) rfl (fun g21 => nomatch g21) (fun g21 => ?_)
    refine RunS.s0f g21 ?_
    refine RunS.s0f g21 ?_
    refine RunS.s0f g21 ?_
    refine rA ?_ (x := pkF g21)
    refine rA ?_ (x := sM)
    refine RunS.cases (s := 50) rfl (fun g22 => nomatch g22) (fun g22 => ?_)
    refine RunS.s0f g22 ?_
    refine RunS.s0f g22 ?_
    refine RunS.s0f g22 ?_
    refine rA ?_ (x := pkF g22)
    refine rA ?_ (x := sA)
    refine sw_ret ?_
    exact (And.intro (by refine bool_eq ?_; first | (simp_all [okEvent]; done) | (simp_all [okEvent]; rfl) | (simp_all [okEvent]; omega) | (simp_all [okEvent]; intros; omega)) True.intro)
  ·try simp only [q1, q2, q3, q4, q5, q6, q7, q8, q9] at hb12
   refine sw_seq ?_
   refine sO [(1, _), (2, _), (4, _)] [(1, _)] ?_
   refine sw_reg ?_
   refine rA ?_ (x := B_eql)
   refine rA ?_ (x := sA)
   refine sw_cond (t := 55) rfl (fun hb23 => ?_) (fun hb23 => ?_)
   ·try simp only [q1, q2, q3, q4, q5, q6, q7, q8, q9] at hb23
    refine sw_seq ?_
    refine sO [(1, _), (2, _), (4, _)] [(1, _)] ?_
    refine sw_reg ?_
    refine rA ?_ (x := lF fd_70_1)
    refine rA ?_ (x := lD [PV.val _, PV.val _, PV.sl .v _, PV.sl .v _] ty_51)
    refine rA ?_ (x := cL [(true, [PV.val _, PV.val _, PV.sl _ _, PV.sl _ _])] [(true, [PV.val _, PV.val _, PV.sl .v _, PV.sl .v _])] c_104 (hs := by exact spec_l20Zero))
    refine rA ?_ (x := sM)
    refine RunS.cases (s := 60) rfl (fun g24 => ?_) (fun g24 => ?_)
    ·have sg24 := g24
     try simp only [q1, q2, q3, q4, q5, q6, q7, q8, q9] at sg24
     refine rB g24 ?_ (x := lF fd_70_2)
     refine rB g24 ?_ (x := lD [PV.val _] ty_3)
     refine rB g24 ?_ (x := B_eql)
     refine rA ?_ (x := pkT g24)
     refine rA ?_ (x := sM)
     refine RunS.cases (s := 65) rfl (fun g25 => ?_) (fun g25 => ?_)
     ·have sg25 := g25
      try simp only [q1, q2, q3, q4, q5, q6, q7, q8, q9] at sg25
      refine rB g25 ?_ (x := lF fd_70_3)
      refine rB g25 ?_ (x := lD [PV.val _] ty_3)
      refine rB g25 ?_ (x := B_eql)
      refine rA ?_ (x := pkT g25)
      refine rA ?_ (x := sM)
      refine RunS.cases (s := 70) rfl (fun g26 => ?_) (fun g26 => ?_)
      ·have sg26 := g26
       try simp only [q1, q2, q3, q4, q5, q6, q7, q8, q9] at sg26
       refine rB g26 ?_ (x := lF fd_70_4)
       refine rB g26 ?_ (x := lD [PV.val _, PV.val _, PV.sl .v _, PV.val _, PV.val _] ty_68)
       refine rB g26 ?_ (x := cL [(true, [PV.val _, PV.val _, PV.sl _ _, PV.val _, PV.val _])] [(true, [PV.val _, PV.val _, PV.sl .v _, PV.val _, PV.val _])] c_105 (hs := by exact spec_IsUpdate))
       refine rA ?_ (x := pkT g26)
       refine rA ?_ (x := sM)
       refine RunS.cases (s := 75) rfl (fun g27 => ?_) (fun g27 => ?_)
       ·have sg27 := g27
        try simp only [q1, q2, q3, q4, q5, q6, q7, q8, q9] at sg27
        refine rB g27 ?_ (x := lF fd_70_5)
        refine rB g27 ?_ (x := lD [PV.val _] ty_3)
        refine rB g27 ?_ (x := B_eql)
        refine rA ?_ (x := pkT g27)
        refine rA ?_ (x := sA)
        refine sw_ret ?_
        exact (And.intro (by refine bool_eq ?_; first | (simp_all [okEvent]; done) | (simp_all [okEvent]; rfl) | (simp_all [okEvent]; omega) | (simp_all [okEvent]; intros; omega)) True.intro)
       ·have sg27 := g27
        try simp only [q1, q2, q3, q4, q5, q6, q7, q8, q9] at sg27
        refine RunS.s0f g27 ?_
        refine RunS.s0f g27 ?_
        refine RunS.s0f g27 ?_
        refine rA ?_ (x := pkF g27)
        refine rA ?_ (x := sA)
        refine sw_ret ?_
        exact (And.intro (by refine bool_eq ?_; first | (simp_all [okEvent]; done) | (simp_all [okEvent]; rfl) | (simp_all [okEvent]; omega) | (simp_all [okEvent]; intros; omega)) True.intro)
      ·have sg26 := g26
       try simp only [q1, q2, q3, q4, q5, q6, q7, q8, q9] at sg26
       refine RunS.s0f g26 ?_
       refine RunS.s0f g26 ?_
       refine RunS.s0f g26 ?_
       refine rA ?_ (x := pkF g26)
       refine rA ?_ (x := sM)
       refine RunS.cases (s := 75) rfl (fun g28 => nomatch g28) (fun g28 => ?_)
       refine RunS.s0f g28 ?_
       refine RunS.s0f g28 ?_
       refine RunS.s0f g28 ?_
       refine rA ?_ (x := pkF g28)
       refine rA ?_ (x := sA)
       refine sw_ret ?_
       exact (And.intro (by refine bool_eq ?_; first | (simp_all [okEvent]; done) | (simp_all [okEvent]; rfl) | (simp_all [okEvent]; omega) | (simp_all [okEvent]; intros; omega)) True.intro)
     ·have sg25 := g25
      try simp only [q1, q2, q3, q4, q5, q6, q7, q8, q9] at sg25
      refine RunS.s0f g25 ?_
      refine RunS.s0f g25 ?_
      refine RunS.s0f g25 ?_
      refine rA ?_ (x := pkF g25)
      refine rA ?_ (x := sM)
      refine RunS.cases (s := 70) rfl (fun g29 => nomatch g29) (fun g29 => ?_)
      refine RunS.s0f g29 ?_
      refine RunS.s0f g29 ?_
      refine RunS.s0f g29 ?_
      refine rA ?_ (x := pkF g29)
      refine rA ?_ (x := sM)
      refine RunS.cases (s := 75) rfl (fun g30 => nomatch g30) (fun g30 => ?_)
      refine RunS.s0f g30 ?_
      refine RunS.s0f g30 ?_
      refine RunS.s0f g30 ?_
      refine rA ?_ (x := pkF g30)
      refine rA ?_ (x := sA)
      refine sw_ret ?_
      exact (And.intro (by refine bool_eq ?_; first | (simp_all [okEvent]; done) | (simp_all [okEvent]; rfl) | (simp_all [okEvent]; omega) | (simp_all [okEvent]; intros; omega)) True.intro)
    ·have sg24 := g24
     try simp only [q1, q2, q3, q4, q5, q6, q7, q8, q9] at sg24
     refine RunS.s0f g24 ?_
     refine RunS.s0f g24 ?_
     refine RunS.s0f g24 ?_
     refine rA ?_ (x := pkF g24)
     refine rA ?_ (x := sM)
     refine RunS.cases (s := 65) rfl (fun g31 => nomatch g31) (fun g31 => ?_)
     refine RunS.s0f g31 ?_
     refine RunS.s0f g31 ?_
     refine RunS.s0f g31 ?_
     refine rA ?_ (x := pkF g31)
     refine rA ?_ (x := sM)
     refine RunS.cases (s := 70) rfl (fun g32 => nomatch g32) (fun g32 => ?_)
     refine RunS.s0f g32 ?_
     refine RunS.s0f g32 ?_
     refine RunS.s0f g32 ?_
     refine rA ?_ (x := pkF g32)
     refine rA ?_ (x := sM)
     refine RunS.cases (s := 75) rfl (fun g33 => nomatch g33) (fun g33 => ?_)
     refine RunS.s0f g33 ?_
     refine RunS.s0f g33 ?_
     refine RunS.s0f g33 ?_
     refine rA ?_ (x := pkF g33)
     refine rA ?_ (x := sA)
     refine sw_ret ?_
     exact (And.intro (by refine bool_eq ?_; first | (simp_all [okEvent]; done) | (simp_all [okEvent]; rfl) | (simp_all [okEvent]; omega) | (simp_all [okEvent]; intros; omega)) True.intro)
   ·try simp only [q1, q2, q3, q4, q5, q6, q7, q8, q9] at hb23
    refine sw_seq ?_
    refine sO [(1, _), (2, _), (4, _)] [(1, _)] ?_
    refine sw_reg ?_
    refine rA ?_ (x := B_eql)
    refine rA ?_ (x := sA)
    refine sw_cond (t := 80) rfl (fun hb34 => ?_) (fun hb34 => ?_)
    ·try simp only [q1, q2, q3, q4, q5, q6, q7, q8, q9] at hb34
     refine sw_seq ?_
     refine sO [(1, _), (2, _), (4, _)] [(1, _)] ?_
     refine sw_reg ?_
     refine rA ?_ (x := lF fd_70_1)
     refine rA ?_ (x := lD [PV.val _, PV.val _, PV.sl .v _, PV.sl .v _] ty_51)
     refine rA ?_ (x := cL [(true, [PV.val _, PV.val _, PV.sl _ _, PV.sl _ _])] [(true, [PV.val _, PV.val _, PV.sl .v _, PV.sl .v _])] c_104 (hs := by exact spec_l20Zero))
     refine rA ?_ (x := sM)
     refine RunS.cases (s := 85) rfl (fun g35 => ?_) (fun g35 => ?_)
     ·have sg35 := g35
      try simp only [q1, q2, q3, q4, q5, q6, q7, q8, q9] at sg35
      refine rB g35 ?_ (x := lF fd_70_2)
      refine rB g35 ?_ (x := lD [PV.val _] ty_3)
      refine rB g35 ?_ (x := B_eql)
      refine rA ?_ (x := pkT g35)
      refine rA ?_ (x := sM)
      refine RunS.cases (s := 90) rfl (fun g36 => ?_) (fun g36 => ?_)
      ·have sg36 := g36
       try simp only [q1, q2, q3, q4, q5, q6, q7, q8, q9] at sg36
       refine rB g36 ?_ (x := lF fd_70_3)
       refine rB g36 ?_ (x := lD [PV.val _] ty_3)
       refine rB g36 ?_ (x := B_eql)
       refine rA ?_ (x := pkT g36)
       refine rA ?_ (x := sM)
       refine RunS.cases (s := 95) rfl (fun g37 => ?_) (fun g37 => ?_)
       ·have sg37 := g37
        try simp only [q1, q2, q3, q4, q5, q6, q7, q8, q9] at sg37
        refine rB g37 ?_ (x := lF fd_70_4)
        refine rB g37 ?_ (x := lD [PV.val _, PV.val _, PV.sl .v _, PV.val _, PV.val _] ty_68)
        refine rB g37 ?_ (x := cL [(true, [PV.val _, PV.val _, PV.sl _ _, PV.val _, PV.val _])] [(true, [PV.val _, PV.val _, PV.sl .v _, PV.val _, PV.val _])] c_103 (hs := by exact spec_l20NoUpdate))
        refine rA ?_ (x := pkT g37)
        refine rA ?_ (x := sM)
        refine RunS.cases (s := 100) rfl (fun g38 => ?_) (fun g38 => ?_)
        ·have sg38 := g38
         try simp only [q1, q2, q3, q4, q5, q6, q7, q8, q9] at sg38
         refine rB g38 ?_ (x := lF fd_70_5)
         refine rB g38 ?_ (x := lD [PV.val _] ty_3)
         refine rB g38 ?_ (x := cL [(false, [PV.val _]), (false, [PV.val _]), (false, [PV.val _])] [(false, [PV.val _]), (false, [PV.val _]), (false, [PV.val _])] c_39 (hs := by exact spec_l1In))
         refine rA ?_ (x := pkT g38)
         refine rA ?_ (x := sA)
         refine sw_ret ?_
         exact (And.intro (by refine bool_eq ?_; first | (simp_all [okEvent]; done) | (simp_all [okEvent]; rfl) | (simp_all [okEvent]; omega) | (simp_all [okEvent]; intros; omega)) True.intro)
        ·have sg38 := g38
         try simp only [q1, q2, q3, q4, q5, q6, q7, q8, q9] at sg38
         refine RunS.s0f g38 ?_
         refine RunS.s0f g38 ?_
         refine RunS.s0f g38 ?_
         refine rA ?_ (x := pkF g38)
         refine rA ?_ (x := sA)
         refine sw_ret ?_
         exact (And.intro (by refine bool_eq ?_; first | (simp_all [okEvent]; done) | (simp_all [okEvent]; rfl) | (simp_all [okEvent]; omega) | (simp_all [okEvent]; intros; omega)) True.intro)
       ·have sg37 := g37
        try simp only [q1, q2, q3, q4, q5, q6, q7, q8, q9] at sg37
        refine RunS.s0f g37 ?_
        refine RunS.s0f g37 ?_
        refine RunS.s0f g37 ?_
        refine rA ?_ (x := pkF g37)
        refine rA ?_ (x := sM)
        refine RunS.cases (s := 100) rfl (fun g39 => nomatch g39) (fun g39 => ?_)
        refine RunS.s0f g39 ?_
        refine RunS.s0f g39 ?_
        refine RunS.s0f g39 ?_
        refine rA ?_ (x := pkF g39)
        refine rA ?_ (x := sA)
        refine sw_ret ?_
        exact (And.intro (by refine bool_eq ?_; first | (simp_all [okEvent]; done) | (simp_all [okEvent]; rfl) | (simp_all [okEvent]; omega) | (simp_all [okEvent]; intros; omega)) True.intro)
      ·have sg36 := g36
       try simp only [q1, q2, q3, q4, q5, q6, q7, q8, q9] at sg36
       refine RunS.s0f g36 ?_
       refine RunS.s0f g36 ?_
       refine RunS.s0f g36 ?_
       refine rA ?_ (x := pkF g36)
       refine rA ?_ (x := sM)
       refine RunS.cases (s := 95) rfl (fun g40 => nomatch g40) (fun g40 => ?_)
       refine RunS.s0f g40 ?_
       refine RunS.s0f g40 ?_
       refine RunS.s0f g40 ?_
       refine rA ?_ (x := pkF g40)
       refine rA ?_ (x := sM)
       refine RunS.cases (s := 100) rfl (fun g41 => nomatch g41) (fun g41 => ?_)
       refine RunS.s0f g41 ?_
       refine RunS.s0f g41 ?_
       refine RunS.s0f g41 ?_
       refine rA ?_ (x := pkF g41)
       refine rA ?_ (x := sA)
       refine sw_ret ?_
       exact (And.intro (by refine bool_eq ?_; first | (simp_all [okEvent]; done) | (simp_all [okEvent]; rfl) | (simp_all [okEvent]; omega) | (simp_all [okEvent]; intros; omega)) True.intro)
     ·have sg35 := g35
      try simp only [q1, q2, q3, q4, q5, q6, q7, q8, q9] at sg35
      refine RunS.s0f g35 ?_
      refine RunS.s0f g35 ?_
      refine RunS.s0f g35 ?_
      refine rA ?_ (x := pkF g35)
      refine rA ?_ (x := sM)
      refine RunS.cases (s := 90) rfl (fun g42 => nomatch g42) (fun g42 => ?_)
      refine RunS.s0f g42 ?_
      refine RunS.s0f g42 ?_
      refine RunS.s0f g42 ?_
      refine rA ?_ (x := pkF g42)
      refine rA ?_ (x := sM)
      refine RunS.cases (s := 95) rfl (fun g43 => nomatch g43) (fun g43 => ?_)
      refine RunS.s0f g43 ?_
      refine RunS.s0f g43 ?_
      refine RunS.s0f g43 ?_
      refine rA ?_ (x := pkF g43)
      refine rA ?_ (x := sM)
      refine RunS.cases (s := 100) rfl (fun g44 => nomatch g44) (fun g44 => ?_)
      refine RunS.s0f g44 ?_
      refine RunS.s0f g44 ?_
      refine RunS.s0f g44 ?_
      refine rA ?_ (x := pkF g44)
      refine rA ?_ (x := sA)
      refine sw_ret ?_
      exact (And.intro (by refine bool_eq ?_; first | (simp_all [okEvent]; done) | (simp_all [okEvent]; rfl) | (simp_all [okEvent]; omega) | (simp_all [okEvent]; intros; omega)) True.intro)
    ·try simp only [q1, q2, q3, q4, q5, q6, q7, q8, q9] at hb34
     refine sw_skip ?_
     refine sw_seq ?_
     refine sO [(1, _), (2, _), (4, _)] [(1, _)] ?_
     refine sw_reg ?_
     refine rA ?_ (x := kA)
     refine sw_ret ?_
     exact (And.intro (by refine bool_eq ?_; first | (simp_all [okEvent]; done) | (simp_all [okEvent]; rfl) | (simp_all [okEvent]; omega) | (simp_all [okEvent]; intros; omega)) True.intro)
theorem impl_IsEvent {x : Event}  : SCall Tryd.prog 67 [(true, [PV.val (vI x.Kind), PV.val (vI x.Query.Id), PV.val (vI x.Query.Tenant), PV.sl .v (x.Query.Conds.map cCond), PV.sl .v (x.Query.Out.map cInt), PV.val (vI x.Limit), PV.val (vI x.Id), PV.val (vI x.Update.Kind), PV.val (vI x.Update.Row.Id), PV.sl .v (x.Update.Row.Values.map cInt), PV.val (vI x.Update.Field), PV.val (vI x.Update.Value), PV.val (vI x.Steps)])] (resRV [(false, [PV.val (.bool (okEvent x))])]) := by
 refine scall_of (rs := [(false, [PV.val (.bool (okEvent x))])]) Tryd.func67 rfl (Nat.le_of_ble_eq_true rfl) (borA_cons (BorL.cons (PV.bor_val _) (BorL.cons (PV.bor_val _) (BorL.cons (PV.bor_val _) (BorL.cons (PV.bor_sl _) (BorL.cons (PV.bor_sl _) (BorL.cons (PV.bor_val _) (BorL.cons (PV.bor_val _) (BorL.cons (PV.bor_val _) (BorL.cons (PV.bor_val _) (BorL.cons (PV.bor_sl _) (BorL.cons (PV.bor_val _) (BorL.cons (PV.bor_val _) (BorL.cons (PV.bor_val _) BorL.nil))))))))))))) borA_nil) ?_
 intro h0 w0 Fz0
 refine sw_slen (s := 0) (j := 3) rfl rfl fun hl0_3 => ?_
 try rw [List.length_map] at hl0_3
 refine sw_slen (s := 0) (j := 4) rfl rfl fun hl0_4 => ?_
 try rw [List.length_map] at hl0_4
 refine sw_slen (s := 0) (j := 9) rfl rfl fun hl0_9 => ?_
 try rw [List.length_map] at hl0_9
 refine sw_seq ?_
 refine sw_reg ?_
 refine RunS.step (by exact ⟨rfl, ⟨⟩⟩) (by exact ⟨⟩) (LocG.of rfl (loc_box (ag := true) (cs := [PV.val _, PV.val _, PV.val _, PV.sl _ _, PV.sl _ _, PV.val _, PV.val _, PV.val _, PV.val _, PV.sl _ _, PV.val _, PV.val _, PV.val _]) (by decide) (by exact ⟨⟩))) (free1 (Free.of_ rfl)) ?_
 refine rA ?_ (x := kA)
 refine sw_seq ?_
 refine sO [(1, _), (2, _)] [(1, (70, [PV.val _, PV.val _, PV.val _, PV.sl _ _, PV.sl _ _, PV.val _, PV.val _, PV.val _, PV.val _, PV.sl _ _, PV.val _, PV.val _, PV.val _]))] ?_
 refine sw_reg ?_
 refine rA ?_ (x := lF fd_70_1)
 refine rA ?_ (x := lD [PV.val _, PV.val _, PV.sl .v _, PV.sl .v _] ty_51)
 refine rA ?_ (x := loc_build (qs := []) (cs := [PV.val _, PV.val _, PV.sl _ _, PV.sl _ _]) (by decide) z_51 zo_51 pl_51 (by exact rfl) (by exact ⟨⟩) rfl (by exact rfl))
 refine rA ?_ (x := cL [(true, [PV.val _, PV.val _, PV.sl _ _, PV.sl _ _]), (true, [PV.val _, PV.val _, PV.sl _ _, PV.sl _ _])] [(true, [PV.val _, PV.val _, PV.sl .v _, PV.sl .v _]), (true, [PV.val _, PV.val _, PV.sl .v _, PV.sl .v _])] c_106 (hs := by exact (impl_equalQuery (x := x.Query) (y := ⟨0, 0, [], []⟩))))
 refine rA ?_ (x := sM)
 refine RunS.cases (s := 9) rfl (fun g1 => ?_) (fun g1 => ?_)
 ·have sg1 := g1
  try simp only [q1, q2, q3, q4, q5, q6, q7, q8, q9] at sg1
  refine rB g1 ?_ (x := lF fd_70_2)
  refine rB g1 ?_ (x := lD [PV.val _] ty_3)
  refine rB g1 ?_ (x := B_eql)
  refine rA ?_ (x := pkT g1)
  refine rA ?_ (x := sA)
  refine sw_seq ?_
  refine sO [(1, _), (2, _), (3, _)] [(1, _)] ?_
  refine sw_reg ?_
  refine rA ?_ (x := lF fd_70_4)
  refine rA ?_ (x := lD [PV.val _, PV.val _, PV.sl .v _, PV.val _, PV.val _] ty_68)
  refine rA ?_ (x := loc_build (qs := []) (cs := [PV.val _, PV.val _, PV.sl _ _, PV.val _, PV.val _]) (by decide) z_68 zo_68 pl_68 (by exact rfl) (by exact ⟨⟩) rfl (by exact rfl))
  refine rA ?_ (x := cL [(true, [PV.val _, PV.val _, PV.sl _ _, PV.val _, PV.val _]), (true, [PV.val _, PV.val _, PV.sl _ _, PV.val _, PV.val _])] [(true, [PV.val _, PV.val _, PV.sl .v _, PV.val _, PV.val _]), (true, [PV.val _, PV.val _, PV.sl .v _, PV.val _, PV.val _])] c_107 (hs := by exact (impl_equalUpdate (x := x.Update) (y := ⟨0, ⟨0, []⟩, 0, 0⟩))))
  refine rA ?_ (x := sA)
  refine sw_seq ?_
  refine sw_seq ?_
  refine sO [(1, _), (2, _), (3, _), (4, _)] [(1, _)] ?_
  refine sw_reg ?_
  refine rA ?_ (x := lF fd_70_0)
  refine rA ?_ (x := lD [PV.val _] ty_3)
  refine sw_block ?_
  refine sw_seq ?_
  refine sO [(1, _), (2, _), (3, _), (4, _), (19, _)] [(1, _)] ?_
  refine sw_reg ?_
  refine rA ?_ (x := B_eql)
  refine rA ?_ (x := sA)
  refine sw_cond (t := 20) rfl (fun hb2 => ?_) (fun hb2 => ?_)
  ·try simp only [q1, q2, q3, q4, q5, q6, q7, q8, q9] at hb2
   refine sw_seq ?_
   refine sO [(1, _), (2, _), (3, _), (4, _), (19, _)] [(1, _)] ?_
   refine sw_reg ?_
   refine rA ?_ (x := lF fd_70_1)
   refine rA ?_ (x := lD [PV.val _, PV.val _, PV.sl .v _, PV.sl .v _] ty_51)
   refine rA ?_ (x := cL [(true, [PV.val _, PV.val _, PV.sl _ _, PV.sl _ _])] [(true, [PV.val _, PV.val _, PV.sl .v _, PV.sl .v _])] c_56 (hs := by exact impl_IsQuery))
   refine rA ?_ (x := sM)
   refine RunS.cases (s := 25) rfl (fun g3 => ?_) (fun g3 => ?_)
   ·have sg3 := g3
    try simp only [q1, q2, q3, q4, q5, q6, q7, q8, q9] at sg3
    refine rB g3 ?_ (x := lF fd_70_2)
    refine rB g3 ?_ (x := lD [PV.val _] ty_3)
    refine rB g3 ?_ (x := cL [(false, [PV.val _]), (false, [PV.val _]), (false, [PV.val _])] [(false, [PV.val _]), (false, [PV.val _]), (false, [PV.val _])] c_43 (hs := by exact impl_within))
    refine rA ?_ (x := pkT g3)
    refine rA ?_ (x := sM)
    refine RunS.cases (s := 30) rfl (fun g4 => ?_) (fun g4 => ?_)
    ·have sg4 := g4
     try simp only [q1, q2, q3, q4, q5, q6, q7, q8, q9] at sg4
     refine rB g4 ?_ (x := lF fd_70_3)
     refine rB g4 ?_ (x := lD [PV.val _] ty_3)
     refine rB g4 ?_ (x := B_eql)
     refine rA ?_ (x := pkT g4)
     refine rA ?_ (x := sM)
     refine RunS.cases (s := 35) rfl (fun g5 => ?_) (fun g5 => ?_)
     ·have sg5 := g5
      try simp only [q1, q2, q3, q4, q5, q6, q7, q8, q9] at sg5
      refine rB g5 ?_ (x := sM)
      refine rA ?_ (x := pkT g5)
      refine rA ?_ (x := sM)
      refine RunS.cases (s := 38) rfl (fun g6 => ?_) (fun g6 => ?_)
      ·have sg6 := g6
       try simp only [q1, q2, q3, q4, q5, q6, q7, q8, q9] at sg6
       refine rB g6 ?_ (x := lF fd_70_5)
       refine rB g6 ?_ (x := lD [PV.val _] ty_3)
       refine rB g6 ?_ (x := B_eql)
       refine rA ?_ (x := pkT g6)
       refine rA ?_ (x := sA)
       refine sw_ret ?_
       exact (And.intro (by refine bool_eq ?_; first | (simp_all [okEvent, deq_zeroQ, deq_zeroU]; done) | (simp_all [okEvent, deq_zeroQ, deq_zeroU]; rfl) | (simp_all [okEvent, deq_zeroQ, deq_zeroU]; omega) | (simp_all [okEvent, deq_zeroQ, deq_zeroU]; intros; omega)) True.intro)
      ·have sg6 := g6
       try simp only [q1, q2, q3, q4, q5, q6, q7, q8, q9] at sg6
       refine RunS.s0f g6 ?_
       refine RunS.s0f g6 ?_
       refine RunS.s0f g6 ?_
       refine rA ?_ (x := pkF g6)
       refine rA ?_ (x := sA)
       refine sw_ret ?_
       exact (And.intro (by refine bool_eq ?_; first | (simp_all [okEvent, deq_zeroQ, deq_zeroU]; done) | (simp_all [okEvent, deq_zeroQ, deq_zeroU]; rfl) | (simp_all [okEvent, deq_zeroQ, deq_zeroU]; omega) | (simp_all [okEvent, deq_zeroQ, deq_zeroU]; intros; omega)) True.intro)
     ·have sg5 := g5
      try simp only [q1, q2, q3, q4, q5, q6, q7, q8, q9] at sg5
      refine RunS.s0f g5 ?_
      refine rA ?_ (x := pkF g5)
      refine rA ?_ (x := sM)
      refine RunS.cases (s := 38) rfl (fun g7 => nomatch g7) (fun g7 => ?_)
      refine RunS.s0f g7 ?_
      refine RunS.s0f g7 ?_
      refine RunS.s0f g7 ?_
      refine rA ?_ (x := pkF g7)
      refine rA ?_ (x := sA)
      refine sw_ret ?_
      exact (And.intro (by refine bool_eq ?_; first | (simp_all [okEvent, deq_zeroQ, deq_zeroU]; done) | (simp_all [okEvent, deq_zeroQ, deq_zeroU]; rfl) | (simp_all [okEvent, deq_zeroQ, deq_zeroU]; omega) | (simp_all [okEvent, deq_zeroQ, deq_zeroU]; intros; omega)) True.intro)
    ·have sg4 := g4
     try simp only [q1, q2, q3, q4, q5, q6, q7, q8, q9] at sg4
     refine RunS.s0f g4 ?_
     refine RunS.s0f g4 ?_
     refine RunS.s0f g4 ?_
     refine rA ?_ (x := pkF g4)
     refine rA ?_ (x := sM)
     refine RunS.cases (s := 35) rfl (fun g8 => nomatch g8) (fun g8 => ?_)
     refine RunS.s0f g8 ?_
     refine rA ?_ (x := pkF g8)
     refine rA ?_ (x := sM)
     refine RunS.cases (s := 38) rfl (fun g9 => nomatch g9) (fun g9 => ?_)
     refine RunS.s0f g9 ?_
     refine RunS.s0f g9 ?_
     refine RunS.s0f g9 ?_
     refine rA ?_ (x := pkF g9)
     refine rA ?_ (x := sA)
     refine sw_ret ?_
     exact (And.intro (by refine bool_eq ?_; first | (simp_all [okEvent, deq_zeroQ, deq_zeroU]; done) | (simp_all [okEvent, deq_zeroQ, deq_zeroU]; rfl) | (simp_all [okEvent, deq_zeroQ, deq_zeroU]; omega) | (simp_all [okEvent, deq_zeroQ, deq_zeroU]; intros; omega)) True.intro)
   ·have sg3 := g3
    try simp only [q1, q2, q3, q4, q5, q6, q7, q8, q9] at sg3
    refine RunS.s0f g3 ?_
    refine RunS.s0f g3 ?_
    refine RunS.s0f g3 ?_
    refine rA ?_ (x := pkF g3)
    refine rA ?_ (x := sM)
    refine RunS.cases (s := 30) rfl (fun g10 => nomatch g10) (fun g10 => ?_)
    refine RunS.s0f g10 ?_
    refine RunS.s0f g10 ?_
    refine RunS.s0f g10 ?_
    refine rA ?_ (x := pkF g10)
    refine rA ?_ (x := sM)
    refine RunS.cases (s := 35) rfl (fun g11 => nomatch g11) (fun g11 => ?_)
    refine RunS.s0f g11 ?_
    refine rA ?_ (x := pkF g11)
    refine rA ?_ (x := sM)
    refine RunS.cases (s := 38) rfl (fun g12 => nomatch g12) (fun g12 => ?_)
    refine RunS.s0f g12 ?_
    refine RunS.s0f g12 ?_
    refine RunS.s0f g12 ?_
    refine rA ?_ (x := pkF g12)
    refine rA ?_ (x := sA)
    refine sw_ret ?_
    exact (And.intro (by refine bool_eq ?_; first | (simp_all [okEvent, deq_zeroQ, deq_zeroU]; done) | (simp_all [okEvent, deq_zeroQ, deq_zeroU]; rfl) | (simp_all [okEvent, deq_zeroQ, deq_zeroU]; omega) | (simp_all [okEvent, deq_zeroQ, deq_zeroU]; intros; omega)) True.intro)
  ·try simp only [q1, q2, q3, q4, q5, q6, q7, q8, q9] at hb2
   refine sw_seq ?_
   refine sO [(1, _), (2, _), (3, _), (4, _), (19, _)] [(1, _)] ?_
   refine sw_reg ?_
   refine rA ?_ (x := B_eql)
   refine rA ?_ (x := sA)
   refine sw_cond (t := 43) rfl (fun hb13 => ?_) (fun hb13 => ?_)
   ·try simp only [q1, q2, q3, q4, q5, q6, q7, q8, q9] at hb13
    refine sw_seq ?_
    refine sO [(1, _), (2, _), (3, _), (4, _), (19, _)] [(1, _)] ?_
    refine sw_reg ?_
    refine rA ?_ (x := lF fd_70_3)
    refine rA ?_ (x := lD [PV.val _] ty_3)
    refine rA ?_ (x := cL [(false, [PV.val _]), (false, [PV.val _]), (false, [PV.val _])] [(false, [PV.val _]), (false, [PV.val _]), (false, [PV.val _])] c_43 (hs := by exact impl_within))
    refine rA ?_ (x := sM)
    refine RunS.cases (s := 48) rfl (fun g14 => ?_) (fun g14 => ?_)
    ·have sg14 := g14
     try simp only [q1, q2, q3, q4, q5, q6, q7, q8, q9] at sg14
     refine rB g14 ?_ (x := sM)
     refine rA ?_ (x := pkT g14)
     refine rA ?_ (x := sM)
     refine RunS.cases (s := 51) rfl (fun g15 => ?_) (fun g15 => ?_)
     ·have sg15 := g15
      try simp only [q1, q2, q3, q4, q5, q6, q7, q8, q9] at sg15
      refine rB g15 ?_ (x := sM)
      refine rA ?_ (x := pkT g15)
      refine rA ?_ (x := sM)
      refine RunS.cases (s := 54) rfl (fun g16 => ?_) (fun g16 => ?_)
      ·have sg16 := g16
       try simp only [q1, q2, q3, q4, q5, q6, q7, q8, q9] at sg16
       refine rB g16 ?_ (x := lF fd_70_5)
       refine rB g16 ?_ (x := lD [PV.val _] ty_3)
       refine rB g16 ?_ (x := B_eql)
       refine rA ?_ (x := pkT g16)
       refine rA ?_ (x := sA)
       refine sw_ret ?_
       exact (And.intro (by refine bool_eq ?_; first | (simp_all [okEvent, deq_zeroQ, deq_zeroU]; done) | (simp_all [okEvent, deq_zeroQ, deq_zeroU]; rfl) | (simp_all [okEvent, deq_zeroQ, deq_zeroU]; omega) | (simp_all [okEvent, deq_zeroQ, deq_zeroU]; intros; omega)) True.intro)
      ·have sg16 := g16
       try simp only [q1, q2, q3, q4, q5, q6, q7, q8, q9] at sg16
       refine RunS.s0f g16 ?_
       refine RunS.s0f g16 ?_
       refine RunS.s0f g16 ?_
       refine rA ?_ (x := pkF g16)
       refine rA ?_ (x := sA)
       refine sw_ret ?_
       exact (And.intro (by refine bool_eq ?_; first | (simp_all [okEvent, deq_zeroQ, deq_zeroU]; done) | (simp_all [okEvent, deq_zeroQ, deq_zeroU]; rfl) | (simp_all [okEvent, deq_zeroQ, deq_zeroU]; omega) | (simp_all [okEvent, deq_zeroQ, deq_zeroU]; intros; omega)) True.intro)
     ·have sg15 := g15
      try simp only [q1, q2, q3, q4, q5, q6, q7, q8, q9] at sg15
      refine RunS.s0f g15 ?_
      refine rA ?_ (x := pkF g15)
      refine rA ?_ (x := sM)
      refine RunS.cases (s := 54) rfl (fun g17 => nomatch g17) (fun g17 => ?_)
      refine RunS.s0f g17 ?_
      refine RunS.s0f g17 ?_
      refine RunS.s0f g17 ?_
      refine rA ?_ (x := pkF g17)
      refine rA ?_ (x := sA)
      refine sw_ret ?_
      exact (And.intro (by refine bool_eq ?_; first | (simp_all [okEvent, deq_zeroQ, deq_zeroU]; done) | (simp_all [okEvent, deq_zeroQ, deq_zeroU]; rfl) | (simp_all [okEvent, deq_zeroQ, deq_zeroU]; omega) | (simp_all [okEvent, deq_zeroQ, deq_zeroU]; intros; omega)) True.intro)
    ·have sg14 := g14
     try simp only [q1, q2, q3, q4, q5, q6, q7, q8, q9] at sg14
     refine RunS.s0f g14 ?_
     refine rA ?_ (x := pkF g14)
     refine rA ?_ (x := sM)
     refine RunS.cases (s := 51) rfl (fun g18 => nomatch g18) (fun g18 => ?_)
     refine RunS.s0f g18 ?_
     refine rA ?_ (x := pkF g18)
     refine rA ?_ (x := sM)
     refine RunS.cases (s := 54) rfl (fun g19 => nomatch g19) (fun g19 => ?_)
     refine RunS.s0f g19 ?_
     refine RunS.s0f g19 ?_
     refine RunS.s0f g19 ?_
     refine rA ?_ (x := pkF g19)
     refine rA ?_ (x := sA)
     refine sw_ret ?_
     exact (And.intro (by refine bool_eq ?_; first | (simp_all [okEvent, deq_zeroQ, deq_zeroU]; done) | (simp_all [okEvent, deq_zeroQ, deq_zeroU]; rfl) | (simp_all [okEvent, deq_zeroQ, deq_zeroU]; omega) | (simp_all [okEvent, deq_zeroQ, deq_zeroU]; intros; omega)) True.intro)
   ·try simp only [q1, q2, q3, q4, q5, q6, q7, q8, q9] at hb13
    refine sw_seq ?_
    refine sO [(1, _), (2, _), (3, _), (4, _), (19, _)] [(1, _)] ?_
    refine sw_reg ?_
    refine rA ?_ (x := B_eql)
    refine rA ?_ (x := sA)
    refine sw_cond (t := 59) rfl (fun hb20 => ?_) (fun hb20 => ?_)
    ·try simp only [q1, q2, q3, q4, q5, q6, q7, q8, q9] at hb20
     refine sw_seq ?_
     refine sO [(1, _), (2, _), (3, _), (4, _), (19, _)] [(1, _)] ?_
     refine sw_reg ?_
     refine rA ?_ (x := lF fd_70_4)
     refine rA ?_ (x := lD [PV.val _, PV.val _, PV.sl .v _, PV.val _, PV.val _] ty_68)
     refine rA ?_ (x := cL [(true, [PV.val _, PV.val _, PV.sl _ _, PV.val _, PV.val _])] [(true, [PV.val _, PV.val _, PV.sl .v _, PV.val _, PV.val _])] c_108 (hs := by exact impl_IsUpdate))
     refine rA ?_ (x := sM)
     refine RunS.cases (s := 64) rfl (fun g21 => ?_) (fun g21 => ?_)
     ·have sg21 := g21
      try simp only [q1, q2, q3, q4, q5, q6, q7, q8, q9] at sg21
      refine rB g21 ?_ (x := sM)
      refine rA ?_ (x := pkT g21)
      refine rA ?_ (x := sM)
      refine RunS.cases (s := 67) rfl (fun g22 => ?_) (fun g22 => ?_)
      ·have sg22 := g22
       try simp only [q1, q2, q3, q4, q5, q6, q7, q8, q9] at sg22
       refine rB g22 ?_ (x := lF fd_70_3)
       refine rB g22 ?_ (x := lD [PV.val _] ty_3)
       refine rB g22 ?_ (x := B_eql)
       refine rA ?_ (x := pkT g22)
       refine rA ?_ (x := sM)
       refine RunS.cases (s := 72) rfl (fun g23 => ?_) (fun g23 => ?_)
       ·have sg23 := g23
        try simp only [q1, q2, q3, q4, q5, q6, q7, q8, q9] at sg23
        refine rB g23 ?_ (x := lF fd_70_5)
        refine rB g23 ?_ (x := lD [PV.val _] ty_3)
        refine rB g23 ?_ (x := B_eql)
        refine rA ?_ (x := pkT g23)
        refine rA ?_ (x := sA)
        refine sw_ret ?_
        exact (And.intro (by refine bool_eq ?_; first | (simp_all [okEvent, deq_zeroQ, deq_zeroU]; done) | (simp_all [okEvent, deq_zeroQ, deq_zeroU]; rfl) | (simp_all [okEvent, deq_zeroQ, deq_zeroU]; omega) | (simp_all [okEvent, deq_zeroQ, deq_zeroU]; intros; omega)) True.intro)
       ·have sg23 := g23
        try simp only [q1, q2, q3, q4, q5, q6, q7, q8, q9] at sg23
        refine RunS.s0f g23 ?_
        refine RunS.s0f g23 ?_
        refine RunS.s0f g23 ?_
        refine rA ?_ (x := pkF g23)
        refine rA ?_ (x := sA)
        refine sw_ret ?_
        exact (And.intro (by refine bool_eq ?_; first | (simp_all [okEvent, deq_zeroQ, deq_zeroU]; done) | (simp_all [okEvent, deq_zeroQ, deq_zeroU]; rfl) | (simp_all [okEvent, deq_zeroQ, deq_zeroU]; omega) | (simp_all [okEvent, deq_zeroQ, deq_zeroU]; intros; omega)) True.intro)
      ·have sg22 := g22
       try simp only [q1, q2, q3, q4, q5, q6, q7, q8, q9] at sg22
       refine RunS.s0f g22 ?_
       refine RunS.s0f g22 ?_
       refine RunS.s0f g22 ?_
       refine rA ?_ (x := pkF g22)
       refine rA ?_ (x := sM)
       refine RunS.cases (s := 72) rfl (fun g24 => nomatch g24) (fun g24 => ?_)
       refine RunS.s0f g24 ?_
       refine RunS.s0f g24 ?_
       refine RunS.s0f g24 ?_
       refine rA ?_ (x := pkF g24)
       refine rA ?_ (x := sA)
       refine sw_ret ?_
       exact (And.intro (by refine bool_eq ?_; first | (simp_all [okEvent, deq_zeroQ, deq_zeroU]; done) | (simp_all [okEvent, deq_zeroQ, deq_zeroU]; rfl) | (simp_all [okEvent, deq_zeroQ, deq_zeroU]; omega) | (simp_all [okEvent, deq_zeroQ, deq_zeroU]; intros; omega)) True.intro)
     ·have sg21 := g21
      try simp only [q1, q2, q3, q4, q5, q6, q7, q8, q9] at sg21
      refine RunS.s0f g21 ?_
      refine rA ?_ (x := pkF g21)
      refine rA ?_ (x := sM)
      refine RunS.cases (s := 67) rfl (fun g25 => nomatch g25) (fun g25 => ?_)
      refine RunS.s0f g25 ?_
      refine RunS.s0f g25 ?_
      refine RunS.s0f g25 ?_
      refine rA ?_ (x := pkF g25)
      refine rA ?_ (x := sM)
      refine RunS.cases (s := 72) rfl (fun g26 => nomatch g26) (fun g26 => ?_)
      refine RunS.s0f g26 ?_
      refine RunS.s0f g26 ?_
      refine RunS.s0f g26 ?_
      refine rA ?_ (x := pkF g26)
      refine rA ?_ (x := sA)
      refine sw_ret ?_
      exact (And.intro (by refine bool_eq ?_; first | (simp_all [okEvent, deq_zeroQ, deq_zeroU]; done) | (simp_all [okEvent, deq_zeroQ, deq_zeroU]; rfl) | (simp_all [okEvent, deq_zeroQ, deq_zeroU]; omega) | (simp_all [okEvent, deq_zeroQ, deq_zeroU]; intros; omega)) True.intro)
    ·try simp only [q1, q2, q3, q4, q5, q6, q7, q8, q9] at hb20
     refine sw_seq ?_
     refine sO [(1, _), (2, _), (3, _), (4, _), (19, _)] [(1, _)] ?_
     refine sw_reg ?_
     refine rA ?_ (x := B_eql)
     refine rA ?_ (x := sA)
     refine sw_cond (t := 77) rfl (fun hb27 => ?_) (fun hb27 => ?_)
     ·try simp only [q1, q2, q3, q4, q5, q6, q7, q8, q9] at hb27
      refine sw_seq ?_
      refine sO [(1, _), (2, _), (3, _), (4, _), (19, _)] [(1, _)] ?_
      refine sw_reg ?_
      refine rA ?_ (x := lF fd_70_5)
      refine rA ?_ (x := lD [PV.val _] ty_3)
      refine rA ?_ (x := cL [(false, [PV.val _]), (false, [PV.val _]), (false, [PV.val _])] [(false, [PV.val _]), (false, [PV.val _]), (false, [PV.val _])] c_43 (hs := by exact impl_within))
      refine rA ?_ (x := sM)
      refine RunS.cases (s := 82) rfl (fun g28 => ?_) (fun g28 => ?_)
      ·have sg28 := g28
       try simp only [q1, q2, q3, q4, q5, q6, q7, q8, q9] at sg28
       refine rB g28 ?_ (x := sM)
       refine rA ?_ (x := pkT g28)
       refine rA ?_ (x := sM)
       refine RunS.cases (s := 85) rfl (fun g29 => ?_) (fun g29 => ?_)
       ·have sg29 := g29
        try simp only [q1, q2, q3, q4, q5, q6, q7, q8, q9] at sg29
        refine rB g29 ?_ (x := lF fd_70_3)
        refine rB g29 ?_ (x := lD [PV.val _] ty_3)
        refine rB g29 ?_ (x := B_eql)
        refine rA ?_ (x := pkT g29)
        refine rA ?_ (x := sM)
        refine RunS.cases (s := 90) rfl (fun g30 => ?_) (fun g30 => ?_)
        ·have sg30 := g30
         try simp only [q1, q2, q3, q4, q5, q6, q7, q8, q9] at sg30
         refine rB g30 ?_ (x := sM)
         refine rA ?_ (x := pkT g30)
         refine rA ?_ (x := sA)
         refine sw_ret ?_
         exact (And.intro (by refine bool_eq ?_; first | (simp_all [okEvent, deq_zeroQ, deq_zeroU]; done) | (simp_all [okEvent, deq_zeroQ, deq_zeroU]; rfl) | (simp_all [okEvent, deq_zeroQ, deq_zeroU]; omega) | (simp_all [okEvent, deq_zeroQ, deq_zeroU]; intros; omega)) True.intro)
        ·have sg30 := g30
         try simp only [q1, q2, q3, q4, q5, q6, q7, q8, q9] at sg30
         refine RunS.s0f g30 ?_
         refine rA ?_ (x := pkF g30)
         refine rA ?_ (x := sA)
         refine sw_ret ?_
         exact (And.intro (by refine bool_eq ?_; first | (simp_all [okEvent, deq_zeroQ, deq_zeroU]; done) | (simp_all [okEvent, deq_zeroQ, deq_zeroU]; rfl) | (simp_all [okEvent, deq_zeroQ, deq_zeroU]; omega) | (simp_all [okEvent, deq_zeroQ, deq_zeroU]; intros; omega)) True.intro)
       ·have sg29 := g29
        try simp only [q1, q2, q3, q4, q5, q6, q7, q8, q9] at sg29
        refine RunS.s0f g29 ?_
        refine RunS.s0f g29 ?_
        refine RunS.s0f g29 ?_
        refine rA ?_ (x := pkF g29)
        refine rA ?_ (x := sM)
        refine RunS.cases (s := 90) rfl (fun g31 => nomatch g31) (fun g31 => ?_)
        refine RunS.s0f g31 ?_
        refine rA ?_ (x := pkF g31)
        refine rA ?_ (x := sA)
        refine sw_ret ?_
        exact (And.intro (by refine bool_eq ?_; first | (simp_all [okEvent, deq_zeroQ, deq_zeroU]; done) | (simp_all [okEvent, deq_zeroQ, deq_zeroU]; rfl) | (simp_all [okEvent, deq_zeroQ, deq_zeroU]; omega) | (simp_all [okEvent, deq_zeroQ, deq_zeroU]; intros; omega)) True.intro)
      ·have sg28 := g28
       try simp only [q1, q2, q3, q4, q5, q6, q7, q8, q9] at sg28
       refine RunS.s0f g28 ?_
       refine rA ?_ (x := pkF g28)
       refine rA ?_ (x := sM)
       refine RunS.cases (s := 85) rfl (fun g32 => nomatch g32) (fun g32 => ?_)
       refine RunS.s0f g32 ?_
       refine RunS.s0f g32 ?_
       refine RunS.s0f g32 ?_
       refine rA ?_ (x := pkF g32)
       refine rA ?_ (x := sM)
       refine RunS.cases (s := 90) rfl (fun g33 => nomatch g33) (fun g33 => ?_)
       refine RunS.s0f g33 ?_
       refine rA ?_ (x := pkF g33)
       refine rA ?_ (x := sA)
       refine sw_ret ?_
       exact (And.intro (by refine bool_eq ?_; first | (simp_all [okEvent, deq_zeroQ, deq_zeroU]; done) | (simp_all [okEvent, deq_zeroQ, deq_zeroU]; rfl) | (simp_all [okEvent, deq_zeroQ, deq_zeroU]; omega) | (simp_all [okEvent, deq_zeroQ, deq_zeroU]; intros; omega)) True.intro)
     ·try simp only [q1, q2, q3, q4, q5, q6, q7, q8, q9] at hb27
      refine sw_skip ?_
      refine sw_seq ?_
      refine sO [(1, _), (2, _), (3, _), (4, _), (19, _)] [(1, _)] ?_
      refine sw_reg ?_
      refine rA ?_ (x := kA)
      refine sw_ret ?_
      exact (And.intro (by refine bool_eq ?_; first | (simp_all [okEvent, deq_zeroQ, deq_zeroU]; done) | (simp_all [okEvent, deq_zeroQ, deq_zeroU]; rfl) | (simp_all [okEvent, deq_zeroQ, deq_zeroU]; omega) | (simp_all [okEvent, deq_zeroQ, deq_zeroU]; intros; omega)) True.intro)
 ·have sg1 := g1
  try simp only [q1, q2, q3, q4, q5, q6, q7, q8, q9] at sg1
  refine RunS.s0f g1 ?_
  refine RunS.s0f g1 ?_
  refine RunS.s0f g1 ?_
  refine rA ?_ (x := pkF g1)
  refine rA ?_ (x := sA)
  refine sw_seq ?_
  refine sO [(1, _), (2, _), (3, _)] [(1, _)] ?_
  refine sw_reg ?_
  refine rA ?_ (x := lF fd_70_4)
  refine rA ?_ (x := lD [PV.val _, PV.val _, PV.sl .v _, PV.val _, PV.val _] ty_68)
  refine rA ?_ (x := loc_build (qs := []) (cs := [PV.val _, PV.val _, PV.sl _ _, PV.val _, PV.val _]) (by decide) z_68 zo_68 pl_68 (by exact rfl) (by exact ⟨⟩) rfl (by exact rfl))
  refine rA ?_ (x := cL [(true, [PV.val _, PV.val _, PV.sl _ _, PV.val _, PV.val _]), (true, [PV.val _, PV.val _, PV.sl _ _, PV.val _, PV.val _])] [(true, [PV.val _, PV.val _, PV.sl .v _, PV.val _, PV.val _]), (true, [PV.val _, PV.val _, PV.sl .v _, PV.val _, PV.val _])] c_107 (hs := by exact (impl_equalUpdate (x := x.Update) (y := ⟨0, ⟨0, []⟩, 0, 0⟩))))
  refine rA ?_ (x := sA)
  refine sw_seq ?_
  refine sw_seq ?_
  refine sO [(1, _), (2, _), (3, _), (4, _)] [(1, _)] ?_
  refine sw_reg ?_
  refine rA ?_ (x := lF fd_70_0)
  refine rA ?_ (x := lD [PV.val _] ty_3)
  refine sw_block ?_
  refine sw_seq ?_
  refine sO [(1, _), (2, _), (3, _), (4, _), (19, _)] [(1, _)] ?_
  refine sw_reg ?_
  refine rA ?_ (x := B_eql)
  refine rA ?_ (x := sA)
  refine sw_cond (t := 20) rfl (fun hb34 => ?_) (fun hb34 => ?_)
  ·try simp only [q1, q2, q3, q4, q5, q6, q7, q8, q9] at hb34
   refine sw_seq ?_
   refine sO [(1, _), (2, _), (3, _), (4, _), (19, _)] [(1, _)] ?_
   refine sw_reg ?_
   refine rA ?_ (x := lF fd_70_1)
   refine rA ?_ (x := lD [PV.val _, PV.val _, PV.sl .v _, PV.sl .v _] ty_51)
   refine rA ?_ (x := cL [(true, [PV.val _, PV.val _, PV.sl _ _, PV.sl _ _])] [(true, [PV.val _, PV.val _, PV.sl .v _, PV.sl .v _])] c_56 (hs := by exact impl_IsQuery))
   refine rA ?_ (x := sM)
   refine RunS.cases (s := 25) rfl (fun g35 => ?_) (fun g35 => ?_)
   ·have sg35 := g35
    try simp only [q1, q2, q3, q4, q5, q6, q7, q8, q9] at sg35
    refine rB g35 ?_ (x := lF fd_70_2)
    refine rB g35 ?_ (x := lD [PV.val _] ty_3)
    refine rB g35 ?_ (x := cL [(false, [PV.val _]), (false, [PV.val _]), (false, [PV.val _])] [(false, [PV.val _]), (false, [PV.val _]), (false, [PV.val _])] c_43 (hs := by exact impl_within))
    refine rA ?_ (x := pkT g35)
    refine rA ?_ (x := sM)
    refine RunS.cases (s := 30) rfl (fun g36 => ?_) (fun g36 => ?_)
    ·have sg36 := g36
     try simp only [q1, q2, q3, q4, q5, q6, q7, q8, q9] at sg36
     refine rB g36 ?_ (x := lF fd_70_3)
     refine rB g36 ?_ (x := lD [PV.val _] ty_3)
     refine rB g36 ?_ (x := B_eql)
     refine rA ?_ (x := pkT g36)
     refine rA ?_ (x := sM)
     refine RunS.cases (s := 35) rfl (fun g37 => ?_) (fun g37 => ?_)
     ·have sg37 := g37
      try simp only [q1, q2, q3, q4, q5, q6, q7, q8, q9] at sg37
      refine rB g37 ?_ (x := sM)
      refine rA ?_ (x := pkT g37)
      refine rA ?_ (x := sM)
      refine RunS.cases (s := 38) rfl (fun g38 => ?_) (fun g38 => ?_)
      ·have sg38 := g38
       try simp only [q1, q2, q3, q4, q5, q6, q7, q8, q9] at sg38
       refine rB g38 ?_ (x := lF fd_70_5)
       refine rB g38 ?_ (x := lD [PV.val _] ty_3)
       refine rB g38 ?_ (x := B_eql)
       refine rA ?_ (x := pkT g38)
       refine rA ?_ (x := sA)
       refine sw_ret ?_
       exact (And.intro (by refine bool_eq ?_; first | (simp_all [okEvent, deq_zeroQ, deq_zeroU]; done) | (simp_all [okEvent, deq_zeroQ, deq_zeroU]; rfl) | (simp_all [okEvent, deq_zeroQ, deq_zeroU]; omega) | (simp_all [okEvent, deq_zeroQ, deq_zeroU]; intros; omega)) True.intro)
      ·have sg38 := g38
       try simp only [q1, q2, q3, q4, q5, q6, q7, q8, q9] at sg38
       refine RunS.s0f g38 ?_
       refine RunS.s0f g38 ?_
       refine RunS.s0f g38 ?_
       refine rA ?_ (x := pkF g38)
       refine rA ?_ (x := sA)
       refine sw_ret ?_
       exact (And.intro (by refine bool_eq ?_; first | (simp_all [okEvent, deq_zeroQ, deq_zeroU]; done) | (simp_all [okEvent, deq_zeroQ, deq_zeroU]; rfl) | (simp_all [okEvent, deq_zeroQ, deq_zeroU]; omega) | (simp_all [okEvent, deq_zeroQ, deq_zeroU]; intros; omega)) True.intro)
     ·have sg37 := g37
      try simp only [q1, q2, q3, q4, q5, q6, q7, q8, q9] at sg37
      refine RunS.s0f g37 ?_
      refine rA ?_ (x := pkF g37)
      refine rA ?_ (x := sM)
      refine RunS.cases (s := 38) rfl (fun g39 => nomatch g39) (fun g39 => ?_)
      refine RunS.s0f g39 ?_
      refine RunS.s0f g39 ?_
      refine RunS.s0f g39 ?_
      refine rA ?_ (x := pkF g39)
      refine rA ?_ (x := sA)
      refine sw_ret ?_
      exact (And.intro (by refine bool_eq ?_; first | (simp_all [okEvent, deq_zeroQ, deq_zeroU]; done) | (simp_all [okEvent, deq_zeroQ, deq_zeroU]; rfl) | (simp_all [okEvent, deq_zeroQ, deq_zeroU]; omega) | (simp_all [okEvent, deq_zeroQ, deq_zeroU]; intros; omega)) True.intro)
    ·have sg36 := g36
     try simp only [q1, q2, q3, q4, q5, q6, q7, q8, q9] at sg36
     refine RunS.s0f g36 ?_
     refine RunS.s0f g36 ?_
     refine RunS.s0f g36 ?_
     refine rA ?_ (x := pkF g36)
     refine rA ?_ (x := sM)
     refine RunS.cases (s := 35) rfl (fun g40 => nomatch g40) (fun g40 => ?_)
     refine RunS.s0f g40 ?_
     refine rA ?_ (x := pkF g40)
     refine rA ?_ (x := sM)
     refine RunS.cases (s := 38) rfl (fun g41 => nomatch g41) (fun g41 => ?_)
     refine RunS.s0f g41 ?_
     refine RunS.s0f g41 ?_
     refine RunS.s0f g41 ?_
     refine rA ?_ (x := pkF g41)
     refine rA ?_ (x := sA)
     refine sw_ret ?_
     exact (And.intro (by refine bool_eq ?_; first | (simp_all [okEvent, deq_zeroQ, deq_zeroU]; done) | (simp_all [okEvent, deq_zeroQ, deq_zeroU]; rfl) | (simp_all [okEvent, deq_zeroQ, deq_zeroU]; omega) | (simp_all [okEvent, deq_zeroQ, deq_zeroU]; intros; omega)) True.intro)
   ·have sg35 := g35
    try simp only [q1, q2, q3, q4, q5, q6, q7, q8, q9] at sg35
    refine RunS.s0f g35 ?_
    refine RunS.s0f g35 ?_
    refine RunS.s0f g35 ?_
    refine rA ?_ (x := pkF g35)
    refine rA ?_ (x := sM)
    refine RunS.cases (s := 30) rfl (fun g42 => nomatch g42) (fun g42 => ?_)
    refine RunS.s0f g42 ?_
    refine RunS.s0f g42 ?_
    refine RunS.s0f g42 ?_
    refine rA ?_ (x := pkF g42)
    refine rA ?_ (x := sM)
    refine RunS.cases (s := 35) rfl (fun g43 => nomatch g43) (fun g43 => ?_)
    refine RunS.s0f g43 ?_
    refine rA ?_ (x := pkF g43)
    refine rA ?_ (x := sM)
    refine RunS.cases (s := 38) rfl (fun g44 => nomatch g44) (fun g44 => ?_)
    refine RunS.s0f g44 ?_
    refine RunS.s0f g44 ?_
    refine RunS.s0f g44 ?_
    refine rA ?_ (x := pkF g44)
    refine rA ?_ (x := sA)
    refine sw_ret ?_
    exact (And.intro (by refine bool_eq ?_; first | (simp_all [okEvent, deq_zeroQ, deq_zeroU]; done) | (simp_all [okEvent, deq_zeroQ, deq_zeroU]; rfl) | (simp_all [okEvent, deq_zeroQ, deq_zeroU]; omega) | (simp_all [okEvent, deq_zeroQ, deq_zeroU]; intros; omega)) True.intro)
  ·try simp only [q1, q2, q3, q4, q5, q6, q7, q8, q9] at hb34
   refine sw_seq ?_
   refine sO [(1, _), (2, _), (3, _), (4, _), (19, _)] [(1, _)] ?_
   refine sw_reg ?_
   refine rA ?_ (x := B_eql)
   refine rA ?_ (x := sA)
   refine sw_cond (t := 43) rfl (fun hb45 => ?_) (fun hb45 => ?_)
   ·try simp only [q1, q2, q3, q4, q5, q6, q7, q8, q9] at hb45
    refine sw_seq ?_
    refine sO [(1, _), (2, _), (3, _), (4, _), (19, _)] [(1, _)] ?_
    refine sw_reg ?_
    refine rA ?_ (x := lF fd_70_3)
    refine rA ?_ (x := lD [PV.val _] ty_3)
    refine rA ?_ (x := cL [(false, [PV.val _]), (false, [PV.val _]), (false, [PV.val _])] [(false, [PV.val _]), (false, [PV.val _]), (false, [PV.val _])] c_43 (hs := by exact impl_within))
    refine rA ?_ (x := sM)
    refine RunS.cases (s := 48) rfl (fun g46 => ?_) (fun g46 => ?_)
    ·have sg46 := g46
     try simp only [q1, q2, q3, q4, q5, q6, q7, q8, q9] at sg46
     refine rB g46 ?_ (x := sM)
     refine rA ?_ (x := pkT g46)
     refine rA ?_ (x := sM)
     refine RunS.cases (s := 51) rfl (fun g47 => nomatch g47) (fun g47 => ?_)
     refine RunS.s0f g47 ?_
     refine rA ?_ (x := pkF g47)
     refine rA ?_ (x := sM)
     refine RunS.cases (s := 54) rfl (fun g48 => nomatch g48) (fun g48 => ?_)
     refine RunS.s0f g48 ?_
     refine RunS.s0f g48 ?_
     refine RunS.s0f g48 ?_
     refine rA ?_ (x := pkF g48)
     refine rA ?_ (x := sA)
     refine sw_ret ?_
     exact (And.intro (by refine bool_eq ?_; first | (simp_all [okEvent, deq_zeroQ, deq_zeroU]; done) | (simp_all [okEvent, deq_zeroQ, deq_zeroU]; rfl) | (simp_all [okEvent, deq_zeroQ, deq_zeroU]; omega) | (simp_all [okEvent, deq_zeroQ, deq_zeroU]; intros; omega)) True.intro)
    ·have sg46 := g46
     try simp only [q1, q2, q3, q4, q5, q6, q7, q8, q9] at sg46
     refine RunS.s0f g46 ?_
     refine rA ?_ (x := pkF g46)
     refine rA ?_ (x := sM)
     refine RunS.cases (s := 51) rfl (fun g49 => nomatch g49) (fun g49 => ?_)
     refine RunS.s0f g49 ?_
     refine rA ?_ (x := pkF g49)
     refine rA ?_ (x := sM)
     refine RunS.cases (s := 54) rfl (fun g50 => nomatch g50) (fun g50 => ?_)
     refine RunS.s0f g50 ?_
     refine RunS.s0f g50 ?_
     refine RunS.s0f g50 ?_
     refine rA ?_ (x := pkF g50)
     refine rA ?_ (x := sA)
     refine sw_ret ?_
     exact (And.intro (by refine bool_eq ?_; first | (simp_all [okEvent, deq_zeroQ, deq_zeroU]; done) | (simp_all [okEvent, deq_zeroQ, deq_zeroU]; rfl) | (simp_all [okEvent, deq_zeroQ, deq_zeroU]; omega) | (simp_all [okEvent, deq_zeroQ, deq_zeroU]; intros; omega)) True.intro)
   ·try simp only [q1, q2, q3, q4, q5, q6, q7, q8, q9] at hb45
    refine sw_seq ?_
    refine sO [(1, _), (2, _), (3, _), (4, _), (19, _)] [(1, _)] ?_
    refine sw_reg ?_
    refine rA ?_ (x := B_eql)
    refine rA ?_ (x := sA)
    refine sw_cond (t := 59) rfl (fun hb51 => ?_) (fun hb51 => ?_)
    ·try simp only [q1, q2, q3, q4, q5, q6, q7, q8, q9] at hb51
     refine sw_seq ?_
     refine sO [(1, _), (2, _), (3, _), (4, _), (19, _)] [(1, _)] ?_
     refine sw_reg ?_
     refine rA ?_ (x := lF fd_70_4)
     refine rA ?_ (x := lD [PV.val _, PV.val _, PV.sl .v _, PV.val _, PV.val _] ty_68)
     refine rA ?_ (x := cL [(true, [PV.val _, PV.val _, PV.sl _ _, PV.val _, PV.val _])] [(true, [PV.val _, PV.val _, PV.sl .v _, PV.val _, PV.val _])] c_108 (hs := by exact impl_IsUpdate))
     refine rA ?_ (x := sM)
     refine RunS.cases (s := 64) rfl (fun g52 => ?_) (fun g52 => ?_)
     ·have sg52 := g52
      try simp only [q1, q2, q3, q4, q5, q6, q7, q8, q9] at sg52
      refine rB g52 ?_ (x := sM)
      refine rA ?_ (x := pkT g52)
      refine rA ?_ (x := sM)
      refine RunS.cases (s := 67) rfl (fun g53 => nomatch g53) (fun g53 => ?_)
      refine RunS.s0f g53 ?_
      refine RunS.s0f g53 ?_
      refine RunS.s0f g53 ?_
      refine rA ?_ (x := pkF g53)
      refine rA ?_ (x := sM)
      refine RunS.cases (s := 72) rfl (fun g54 => nomatch g54) (fun g54 => ?_)
      refine RunS.s0f g54 ?_
      refine RunS.s0f g54 ?_
      refine RunS.s0f g54 ?_
      refine rA ?_ (x := pkF g54)
      refine rA ?_ (x := sA)
      refine sw_ret ?_
      exact (And.intro (by refine bool_eq ?_; first | (simp_all [okEvent, deq_zeroQ, deq_zeroU]; done) | (simp_all [okEvent, deq_zeroQ, deq_zeroU]; rfl) | (simp_all [okEvent, deq_zeroQ, deq_zeroU]; omega) | (simp_all [okEvent, deq_zeroQ, deq_zeroU]; intros; omega)) True.intro)
     ·have sg52 := g52
      try simp only [q1, q2, q3, q4, q5, q6, q7, q8, q9] at sg52
      refine RunS.s0f g52 ?_
      refine rA ?_ (x := pkF g52)
      refine rA ?_ (x := sM)
      refine RunS.cases (s := 67) rfl (fun g55 => nomatch g55) (fun g55 => ?_)
      refine RunS.s0f g55 ?_
      refine RunS.s0f g55 ?_
      refine RunS.s0f g55 ?_
      refine rA ?_ (x := pkF g55)
      refine rA ?_ (x := sM)
      refine RunS.cases (s := 72) rfl (fun g56 => nomatch g56) (fun g56 => ?_)
      refine RunS.s0f g56 ?_
      refine RunS.s0f g56 ?_
      refine RunS.s0f g56 ?_
      refine rA ?_ (x := pkF g56)
      refine rA ?_ (x := sA)
      refine sw_ret ?_
      exact (And.intro (by refine bool_eq ?_; first | (simp_all [okEvent, deq_zeroQ, deq_zeroU]; done) | (simp_all [okEvent, deq_zeroQ, deq_zeroU]; rfl) | (simp_all [okEvent, deq_zeroQ, deq_zeroU]; omega) | (simp_all [okEvent, deq_zeroQ, deq_zeroU]; intros; omega)) True.intro)
    ·try simp only [q1, q2, q3, q4, q5, q6, q7, q8, q9] at hb51
     refine sw_seq ?_
     refine sO [(1, _), (2, _), (3, _), (4, _), (19, _)] [(1, _)] ?_
     refine sw_reg ?_
     refine rA ?_ (x := B_eql)
     refine rA ?_ (x := sA)
     refine sw_cond (t := 77) rfl (fun hb57 => ?_) (fun hb57 => ?_)
     ·try simp only [q1, q2, q3, q4, q5, q6, q7, q8, q9] at hb57
      refine sw_seq ?_
      refine sO [(1, _), (2, _), (3, _), (4, _), (19, _)] [(1, _)] ?_
      refine sw_reg ?_
      refine rA ?_ (x := lF fd_70_5)
      refine rA ?_ (x := lD [PV.val _] ty_3)
      refine rA ?_ (x := cL [(false, [PV.val _]), (false, [PV.val _]), (false, [PV.val _])] [(false, [PV.val _]), (false, [PV.val _]), (false, [PV.val _])] c_43 (hs := by exact impl_within))
      refine rA ?_ (x := sM)
      refine RunS.cases (s := 82) rfl (fun g58 => ?_) (fun g58 => ?_)
      ·have sg58 := g58
       try simp only [q1, q2, q3, q4, q5, q6, q7, q8, q9] at sg58
       refine rB g58 ?_ (x := sM)
       refine rA ?_ (x := pkT g58)
       refine rA ?_ (x := sM)
       refine RunS.cases (s := 85) rfl (fun g59 => nomatch g59) (fun g59 => ?_)
       refine RunS.s0f g59 ?_
       refine RunS.s0f g59 ?_
       refine RunS.s0f g59 ?_
       refine rA ?_ (x := pkF g59)
       refine rA ?_ (x := sM)
       refine RunS.cases (s := 90) rfl (fun g60 => nomatch g60) (fun g60 => ?_)
       refine RunS.s0f g60 ?_
       refine rA ?_ (x := pkF g60)
       refine rA ?_ (x := sA)
       refine sw_ret ?_
       exact (And.intro (by refine bool_eq ?_; first | (simp_all [okEvent, deq_zeroQ, deq_zeroU]; done) | (simp_all [okEvent, deq_zeroQ, deq_zeroU]; rfl) | (simp_all [okEvent, deq_zeroQ, deq_zeroU]; omega) | (simp_all [okEvent, deq_zeroQ, deq_zeroU]; intros; omega)) True.intro)
      ·have sg58 := g58
       try simp only [q1, q2, q3, q4, q5, q6, q7, q8, q9] at sg58
       refine RunS.s0f g58 ?_
       refine rA ?_ (x := pkF g58)
       refine rA ?_ (x := sM)
       refine RunS.cases (s := 85) rfl (fun g61 => nomatch g61) (fun g61 => ?_)
       refine RunS.s0f g61 ?_
       refine RunS.s0f g61 ?_
       refine RunS.s0f g61 ?_
       refine rA ?_ (x := pkF g61)
       refine rA ?_ (x := sM)
       refine RunS.cases (s := 90) rfl (fun g62 => nomatch g62) (fun g62 => ?_)
       refine RunS.s0f g62 ?_
       refine rA ?_ (x := pkF g62)
       refine rA ?_ (x := sA)
       refine sw_ret ?_
       exact (And.intro (by refine bool_eq ?_; first | (simp_all [okEvent, deq_zeroQ, deq_zeroU]; done) | (simp_all [okEvent, deq_zeroQ, deq_zeroU]; rfl) | (simp_all [okEvent, deq_zeroQ, deq_zeroU]; omega) | (simp_all [okEvent, deq_zeroQ, deq_zeroU]; intros; omega)) True.intro)
     ·try simp only [q1, q2, q3, q4, q5, q6, q7, q8, q9] at hb57
      refine sw_skip ?_
      refine sw_seq ?_
      refine sO [(1, _), (2, _), (3, _), (4, _), (19, _)] [(1, _)] ?_
      refine sw_reg ?_
      refine rA ?_ (x := kA)
      refine sw_ret ?_
      exact (And.intro (by refine bool_eq ?_; first | (simp_all [okEvent, deq_zeroQ, deq_zeroU]; done) | (simp_all [okEvent, deq_zeroQ, deq_zeroU]; rfl) | (simp_all [okEvent, deq_zeroQ, deq_zeroU]; omega) | (simp_all [okEvent, deq_zeroQ, deq_zeroU]; intros; omega)) True.intro)
end Go.Proofs.YtaomckpfgmhapaaDoor
