/- What functions of the program compute. No condition. -/
import Derived.Test.YteflgldonmgejaaGreatDoorCProgActiveLines
import Derived.KernelRfl
set_option linter.unusedVariables false
set_option linter.unusedSimpArgs false
namespace Go.Proofs.YteflgldonmgejaaGreatDoor
open Go Go.RowKit M
set_option maxRecDepth 10000
attribute [local irreducible] PV.Lcl PV.LclR RV.Lcl
theorem impl_IsSet {l : List Int}  : SCall Tryz.prog 167 [(false, [PV.sl .v (l.map cInt)])] (resRV [(false, [PV.val (.bool (okSet l))])]) := by
 refine scall_of (rs := [(false, [PV.val (.bool (okSet l))])]) Tryz.func167 rfl (Nat.le_of_ble_eq_true rfl) (borA_cons (BorL.cons (PV.bor_sl _) BorL.nil) borA_nil) ?_
 intro h0 w0 Fz0
 refine sw_len (s := 0) rfl fun hl0 => ?_
 try rw [List.length_map] at hl0
 refine sw_seq ?_
 refine sw_reg ?_
 refine rA ?_ (x := kA)
 refine sw_seq ?_
 refine sw_seq ?_
 refine sO [(0, _), (2, _)] [] ?_
 refine sw_reg ?_
 refine rA ?_ (x := vM false [PV.sl .v _])
 refine rA ?_ (x := lN sl_25)
 refine rA ?_ (x := kM)
 refine sw_block ?_
 refine sO [(0, _), (2, _), (5, _), (6, _), (7, _)] [] ?_
 refine sw_loop (l0 := [(0, RV.sv false [PV.sl _ _]), (5, RV.sv false [PV.sl _ _]), (6, RV.sv false [PV.val _])]) (b0 := []) (fun k : Nat => k ≤ l.length ∧ okSetTo l k = true) (fun k : Nat => [(7, RV.int (k : Int))]) (fun k : Nat => []) (fun k : Nat => l.length - k) 0 (by exact ⟨by omega, rfl⟩) (by exact ⟨rfl, rfl, rfl, ⟨⟩⟩) (by exact ⟨⟩) (by exact And.intro (by exact rfl) (True.intro)) (by exact ⟨⟩) ?_
 rintro k ⟨hk, ha⟩
 refine sw_seq ?_
 refine sw_reg ?_
 refine rA ?_ (x := B_lss)
 refine sw_seq ?_
 refine sw_cond (t := 8) rfl (fun hb1 => ?_) (fun hb1 => ?_)
 ·try simp only [q1, q2, q3, q4, q5, q6, q7, q8, q9] at hb1
  have hlt : k < l.length := by omega
  have hgk : l.getD k 0 = l[k] := by simp [hlt]
  have hgp : 0 < k → l.getD (k - 1) 0 = l[k - 1] := fun h => by rw [List.getD_eq_getElem?_getD, List.getElem?_eq_getElem (by omega)]; rfl
  refine sw_skip ?_
  refine sw_seq ?_
  refine sw_block ?_
  refine sw_seq ?_
  refine sO [(0, _), (5, _), (6, _), (7, _)] [] ?_
  refine sw_reg ?_
  refine rA ?_ (x := sM)
  refine rA ?_ (x := loc_index (by decide) sl_25 (by exact ⟨⟩) (by exact rfl) (by exact getm2 (by omega) rfl) (by exact rfl))
  refine rA ?_ (x := lE [PV.val _] ty_3)
  refine rA ?_ (x := sA)
  refine rA ?_ (x := sA)
  refine sw_seq ?_
  refine sO [(0, _), (3, _), (4, _), (5, _), (6, _), (7, _)] [] ?_
  refine sw_reg ?_
  refine rA ?_ (x := sM)
  refine rA ?_ (x := B_lss)
  refine rA ?_ (x := sM)
  refine RunS.cases (s := 14) rfl (fun g2 => ?_) (fun g2 => ?_)
  ·have sg2 := g2
   try simp only [q1, q2, q3, q4, q5, q6, q7, q8, q9] at sg2
   refine RunS.s0t g2 ?_
   refine RunS.s0t g2 ?_
   refine rA ?_ (x := pkT g2)
   refine rA ?_ (x := sM)
   refine RunS.cases (s := 18) rfl (fun g3 => ?_) (fun g3 => nomatch g3)
   refine RunS.s0t g3 ?_
   refine RunS.s0t g3 ?_
   refine RunS.s0t g3 ?_
   refine RunS.su ?_
   refine RunS.su ?_
   refine RunS.su ?_
   refine RunS.su ?_
   refine RunS.su ?_
   refine RunS.su ?_
   refine RunS.su ?_
   refine RunS.s0t g3 ?_
   refine rA ?_ (x := pkT g3)
   refine sw_cond (t := 30) rfl (fun hb_ => ?_) (fun hb_ => nomatch hb_)
   refine sw_seq ?_
   refine sO [(0, _), (3, _), (4, _), (5, _), (6, _), (7, _)] [] ?_
   refine sw_reg ?_
   refine rA ?_ (x := kA)
   refine sw_ret ?_
   exact (And.intro (by refine bool_eq ?_; exact (okSetTo_no hlt (Bool.eq_false_iff.2 fun hx => by have hx := okStep.1 hx; rw [hgk] at hx; (try simp only [inB, Bool.and_eq_false_iff, decide_eq_false_iff_not] at *); omega)).symm) True.intro)
  ·have sg2 := g2
   try simp only [q1, q2, q3, q4, q5, q6, q7, q8, q9] at sg2
   refine rB g2 ?_ (x := sM)
   refine rB g2 ?_ (x := B_geq)
   refine rA ?_ (x := pkF g2)
   refine rA ?_ (x := sM)
   refine RunS.cases (s := 18) rfl (fun g5 => ?_) (fun g5 => ?_)
   ·have sg5 := g5
    try simp only [q1, q2, q3, q4, q5, q6, q7, q8, q9] at sg5
    refine RunS.s0t g5 ?_
    refine RunS.s0t g5 ?_
    refine RunS.s0t g5 ?_
    refine RunS.su ?_
    refine RunS.su ?_
    refine RunS.su ?_
    refine RunS.su ?_
    refine RunS.su ?_
    refine RunS.su ?_
    refine RunS.su ?_
    refine RunS.s0t g5 ?_
    refine rA ?_ (x := pkT g5)
    refine sw_cond (t := 30) rfl (fun hb_ => ?_) (fun hb_ => nomatch hb_)
    refine sw_seq ?_
    refine sO [(0, _), (3, _), (4, _), (5, _), (6, _), (7, _)] [] ?_
    refine sw_reg ?_
    refine rA ?_ (x := kA)
    refine sw_ret ?_
    exact (And.intro (by refine bool_eq ?_; exact (okSetTo_no hlt (Bool.eq_false_iff.2 fun hx => by have hx := okStep.1 hx; rw [hgk] at hx; (try simp only [inB, Bool.and_eq_false_iff, decide_eq_false_iff_not] at *); omega)).symm) True.intro)
   ·have sg5 := g5
    try simp only [q1, q2, q3, q4, q5, q6, q7, q8, q9] at sg5
    refine rB g5 ?_ (x := sM)
    refine rB g5 ?_ (x := B_gtr)
    refine rB g5 ?_ (x := sM)
    refine RunS.cases (s := 21) rfl (fun g7 => ?_) (fun g7 => ?_)
    ·have sg7 := g7
     try simp only [q1, q2, q3, q4, q5, q6, q7, q8, q9] at sg7
     refine rB g7 ?_ (x := vM false [PV.sl .v _])
     refine rB g7 ?_ (x := sM)
     refine rB g7 ?_ (x := B_sub)
     refine rB g7 ?_ (x := loc_index (k := k - 1) (by decide) sl_25 (by exact ⟨⟩) (by omega) (by exact getm2 (by omega) rfl) (by exact rfl))
     refine rB g7 ?_ (x := lE [PV.val _] ty_3)
     refine rB g7 ?_ (x := sM)
     refine rB g7 ?_ (x := B_geq)
     refine rB g5 ?_ (x := pkT g7)
     refine rA ?_ (x := pkF g5)
     refine sw_cond (t := 30) rfl (fun hb8 => ?_) (fun hb8 => ?_)
     ·try simp only [q1, q2, q3, q4, q5, q6, q7, q8, q9] at hb8
      refine sw_seq ?_
      refine sO [(0, _), (3, _), (4, _), (5, _), (6, _), (7, _)] [] ?_
      refine sw_reg ?_
      refine rA ?_ (x := kA)
      refine sw_ret ?_
      exact (And.intro (by refine bool_eq ?_; exact (okSetTo_no hlt (Bool.eq_false_iff.2 fun hx => by have hx := okStep.1 hx; rw [hgk] at hx; (try simp only [inB, Bool.and_eq_false_iff, decide_eq_false_iff_not] at *); omega)).symm) True.intro)
     ·try simp only [q1, q2, q3, q4, q5, q6, q7, q8, q9] at hb8
      refine sw_skip ?_
      refine sO [(0, _), (3, _), (4, _), (5, _), (6, _), (7, _)] [] ?_
      refine sw_reg ?_
      refine rA ?_ (x := B_add)
      refine rA ?_ (x := sM)
      refine Exists.intro (k + 1) (And.intro (by exact ⟨by omega, by rw [okSetTo_succ, ha, Bool.true_and]; exact okStep.2 (by rw [hgk]; (try simp only [inB, Bool.and_eq_true, decide_eq_true_eq] at *); omega)⟩) (And.intro (by omega) (And.intro (And.intro (by exact ⟨rfl, rfl, rfl, ⟨⟩⟩) (by exact ⟨⟩)) (And.intro (by exact And.intro (by exact rfl) (True.intro)) (by exact ⟨⟩)))))
    ·have sg7 := g7
     try simp only [q1, q2, q3, q4, q5, q6, q7, q8, q9] at sg7
     refine RunS.s0f g7 ?_
     refine RunS.s0f g7 ?_
     refine RunS.s0f g7 ?_
     refine RunS.s0f g7 ?_
     refine RunS.s0f g7 ?_
     refine RunS.s0f g7 ?_
     refine RunS.s0f g7 ?_
     refine rB g5 ?_ (x := pkF g7)
     refine rA ?_ (x := pkF g5)
     refine sw_cond (t := 30) rfl (fun hb_ => nomatch hb_) (fun hb_ => ?_)
     refine sw_skip ?_
     refine sO [(0, _), (3, _), (4, _), (5, _), (6, _), (7, _)] [] ?_
     refine sw_reg ?_
     refine rA ?_ (x := B_add)
     refine rA ?_ (x := sM)
     refine Exists.intro (k + 1) (And.intro (by exact ⟨by omega, by rw [okSetTo_succ, ha, Bool.true_and]; exact okStep.2 (by rw [hgk]; (try simp only [inB, Bool.and_eq_true, decide_eq_true_eq] at *); omega)⟩) (And.intro (by omega) (And.intro (And.intro (by exact ⟨rfl, rfl, rfl, ⟨⟩⟩) (by exact ⟨⟩)) (And.intro (by exact And.intro (by exact rfl) (True.intro)) (by exact ⟨⟩)))))
 ·try simp only [q1, q2, q3, q4, q5, q6, q7, q8, q9] at hb1
  have hend : k = l.length := by omega
  refine sw_exit ?_
  refine sw_seq ?_
  refine sO [(0, _), (5, _), (6, _), (7, _)] [] ?_
  refine sw_reg ?_
  refine rA ?_ (x := kA)
  refine sw_ret ?_
  exact (And.intro (by refine bool_eq ?_; subst hend; exact ha.symm) True.intro)
theorem spec_IsSet {l : List Int}  : SCall Tryz.prog 156 [(false, [PV.sl .v (l.map cInt)])] (resRV [(false, [PV.val (.bool (okSet l))])]) := by
 refine scall_of (rs := [(false, [PV.val (.bool (okSet l))])]) Tryz.func156 rfl (Nat.le_of_ble_eq_true rfl) (borA_cons (BorL.cons (PV.bor_sl _) BorL.nil) borA_nil) ?_
 intro h0 w0 Fz0
 refine sw_len (s := 0) rfl fun hl0 => ?_
 try rw [List.length_map] at hl0
 refine sw_seq ?_
 refine sw_reg ?_
 refine rA ?_ (x := kA)
 refine sw_seq ?_
 refine sw_seq ?_
 refine sO [(0, _), (2, _)] [] ?_
 refine sw_reg ?_
 refine rA ?_ (x := kA)
 refine sw_block ?_
 refine sO [(0, _), (2, _), (3, _)] [] ?_
 refine sw_loop (l0 := [(0, RV.sv false [PV.sl _ _])]) (b0 := []) (fun k : Nat => k ≤ l.length ∧ okSetTo l k = true) (fun k : Nat => [(3, RV.int (k : Int))]) (fun k : Nat => []) (fun k : Nat => l.length - k) 0 (by exact ⟨by omega, rfl⟩) (by exact ⟨rfl, ⟨⟩⟩) (by exact ⟨⟩) (by exact And.intro (by exact rfl) (True.intro)) (by exact ⟨⟩) ?_
 rintro k ⟨hk, ha⟩
 refine sw_seq ?_
 refine sw_seq ?_
 refine sw_reg ?_
 refine rA ?_ (x := sM)
 refine rA ?_ (x := vM false [PV.sl .v _])
 refine rA ?_ (x := lN sl_25)
 refine rA ?_ (x := B_lss)
 refine sw_cond (t := 7) rfl (fun hb1 => ?_) (fun hb1 => ?_)
 ·try simp only [q1, q2, q3, q4, q5, q6, q7, q8, q9] at hb1
  have hlt : k < l.length := by omega
  have hgk : l.getD k 0 = l[k] := by simp [hlt]
  have hgp : 0 < k → l.getD (k - 1) 0 = l[k - 1] := fun h => by rw [List.getD_eq_getElem?_getD, List.getElem?_eq_getElem (by omega)]; rfl
  refine sw_skip ?_
  refine sw_seq ?_
  refine sw_block ?_
  refine sw_seq ?_
  refine sO [(0, _), (3, _)] [] ?_
  refine sw_draw hm_ ?_
  refine dA 0 ?_ (x := vM false [PV.sl .v _])
  refine dA 0 ?_ (x := sM)
  refine dA 3 ?_ (x := loc_index (by decide) sl_25 (by exact ⟨⟩) (by exact rfl) (by exact getm2 (by omega) rfl) (by exact rfl))
  refine dA 7 ?_ (x := lE [PV.val _] ty_3)
  refine dA 15 ?_ (x := cL [(false, [PV.val _]), (false, [PV.val _]), (false, [PV.val _])] [(false, [PV.val _]), (false, [PV.val _]), (false, [PV.val _])] c_80 (hs := by exact spec_l1In))
  refine dA 31 ?_ (x := nT)
  refine dA 63 ?_ (x := sM)
  refine Run.cases (s := 16) rfl (fun g2 => ?_) (fun g2 => ?_)
  ·have sg2 := g2
   try simp only [q1, q2, q3, q4, q5, q6, q7, q8, q9] at sg2
   refine dT 127 g2 ?_
   refine dT 255 g2 ?_
   refine dT 511 g2 ?_
   refine dU 1023 ?_
   refine dU 1023 ?_
   refine dU 4095 ?_
   refine dU 8191 ?_
   refine dU 1023 ?_
   refine dU 1023 ?_
   refine dU 33791 ?_
   refine dU 115711 ?_
   refine dU 246783 ?_
   refine dU 524287 ?_
   refine dT 1048575 g2 ?_
   refine dA 2097151 ?_ (x := pkT g2)
   refine sw_cond (t := 31) rfl (fun hb_ => ?_) (fun hb_ => nomatch hb_)
   refine sw_seq ?_
   refine sO [(0, _), (3, _)] [] ?_
   refine sw_reg ?_
   refine rA ?_ (x := kA)
   refine sw_ret ?_
   exact (And.intro (by refine bool_eq ?_; exact (okSetTo_no hlt (Bool.eq_false_iff.2 fun hx => by have hx := okStep.1 hx; rw [hgk] at hx; (try simp only [inB, Bool.and_eq_false_iff, decide_eq_false_iff_not] at *); omega)).symm) True.intro)
  ·have sg2 := g2
   try simp only [q1, q2, q3, q4, q5, q6, q7, q8, q9] at sg2
   refine dB 127 g2 ?_ (x := sM)
   refine dB 255 g2 ?_ (x := B_gtr)
   refine dB 511 g2 ?_ (x := sM)
   refine Run.cases (s := 19) rfl (fun g4 => ?_) (fun g4 => ?_)
   ·have sg4 := g4
    try simp only [q1, q2, q3, q4, q5, q6, q7, q8, q9] at sg4
    refine dB 1023 g4 ?_ (x := vM false [PV.sl .v _])
    refine dB 1023 g4 ?_ (x := sM)
    refine dB 4095 g4 ?_ (x := loc_index (by decide) sl_25 (by exact ⟨⟩) (by exact rfl) (by exact getm2 (by omega) rfl) (by exact rfl))
    refine dB 8191 g4 ?_ (x := lE [PV.val _] ty_3)
    refine dB 1023 g4 ?_ (x := vM false [PV.sl .v _])
    refine dB 1023 g4 ?_ (x := sM)
    refine dB 33791 g4 ?_ (x := B_sub)
    refine dB 115711 g4 ?_ (x := loc_index (k := k - 1) (by decide) sl_25 (by exact ⟨⟩) (by omega) (by exact getm2 (by omega) rfl) (by exact rfl))
    refine dB 246783 g4 ?_ (x := lE [PV.val _] ty_3)
    refine dB 524287 g4 ?_ (x := B_leq)
    refine dB 1048575 g2 ?_ (x := pkT g4)
    refine dA 2097151 ?_ (x := pkF g2)
    refine sw_cond (t := 31) rfl (fun hb5 => ?_) (fun hb5 => ?_)
    ·try simp only [q1, q2, q3, q4, q5, q6, q7, q8, q9] at hb5
     refine sw_seq ?_
     refine sO [(0, _), (3, _)] [] ?_
     refine sw_reg ?_
     refine rA ?_ (x := kA)
     refine sw_ret ?_
     exact (And.intro (by refine bool_eq ?_; exact (okSetTo_no hlt (Bool.eq_false_iff.2 fun hx => by have hx := okStep.1 hx; rw [hgk] at hx; (try simp only [inB, Bool.and_eq_false_iff, decide_eq_false_iff_not] at *); omega)).symm) True.intro)
    ·try simp only [q1, q2, q3, q4, q5, q6, q7, q8, q9] at hb5
     refine sw_skip ?_
     refine sO [(0, _), (3, _)] [] ?_
     refine sw_reg ?_
     refine rA ?_ (x := sM)
     refine rA ?_ (x := B_add)
     refine rA ?_ (x := sA)
     refine Exists.intro (k + 1) (And.intro (by exact ⟨by omega, by rw [okSetTo_succ, ha, Bool.true_and]; exact okStep.2 (by rw [hgk]; (try simp only [inB, Bool.and_eq_true, decide_eq_true_eq] at *); omega)⟩) (And.intro (by omega) (And.intro (And.intro (by exact ⟨rfl, ⟨⟩⟩) (by exact ⟨⟩)) (And.intro (by exact And.intro (by exact rfl) (True.intro)) (by exact ⟨⟩)))))
   ·have sg4 := g4
    try simp only [q1, q2, q3, q4, q5, q6, q7, q8, q9] at sg4
    refine dF 1023 g4 ?_
    refine dF 1023 g4 ?_
    refine dF 4095 g4 ?_
    refine dF 8191 g4 ?_
    refine dF 1023 g4 ?_
    refine dF 1023 g4 ?_
    refine dF 33791 g4 ?_
    refine dF 115711 g4 ?_
    refine dF 246783 g4 ?_
    refine dF 524287 g4 ?_
    refine dB 1048575 g2 ?_ (x := pkF g4)
    refine dA 2097151 ?_ (x := pkF g2)
    refine sw_cond (t := 31) rfl (fun hb_ => nomatch hb_) (fun hb_ => ?_)
    refine sw_skip ?_
    refine sO [(0, _), (3, _)] [] ?_
    refine sw_reg ?_
    refine rA ?_ (x := sM)
    refine rA ?_ (x := B_add)
    refine rA ?_ (x := sA)
    refine Exists.intro (k + 1) (And.intro (by exact ⟨by omega, by rw [okSetTo_succ, ha, Bool.true_and]; exact okStep.2 (by rw [hgk]; (try simp only [inB, Bool.and_eq_true, decide_eq_true_eq] at *); omega)⟩) (And.intro (by omega) (And.intro (And.intro (by exact ⟨rfl, ⟨⟩⟩) (by exact ⟨⟩)) (And.intro (by exact And.intro (by exact rfl) (True.intro)) (by exact ⟨⟩)))))
 ·try simp only [q1, q2, q3, q4, q5, q6, q7, q8, q9] at hb1
  have hend : k = l.length := by omega
  refine sw_exit ?_
  refine sw_seq ?_
  refine sO [(0, _), (3, _)] [] ?_
  refine sw_reg ?_
  refine rA ?_ (x := kA)
  refine sw_ret ?_
  exact (And.intro (by refine bool_eq ?_; subst hend; exact ha.symm) True.intro)
end Go.Proofs.YteflgldonmgejaaGreatDoor
