/- What functions of the program compute. No condition. -/
import Derived.Test.YteflgldonmgejaaGreatDoorCProgActiveLines
import Derived.KernelRfl
set_option linter.unusedVariables false
set_option linter.unusedSimpArgs false
namespace Go.Proofs.YteflgldonmgejaaGreatDoor
open Go Go.RowKit M
set_option maxRecDepth 10000
attribute [local irreducible] PV.Lcl PV.LclR RV.Lcl
theorem impl_IsCond {x : Cond}  : SCall Tryz.prog 164 [(true, [PV.val (vI x.Field), PV.val (vI x.Low), PV.val (vI x.High)])] (resRV [(false, [PV.val (.bool (okCond x))])]) := by
 refine scall_of (rs := [(false, [PV.val (.bool (okCond x))])]) Tryz.func164 rfl (Nat.le_of_ble_eq_true rfl) (borA_cons (BorL.cons (PV.bor_val _) (BorL.cons (PV.bor_val _) (BorL.cons (PV.bor_val _) BorL.nil))) borA_nil) ?_
 intro h0 w0 Fz0
 refine sw_seq ?_
 refine sw_reg ?_
 refine RunS.step (by exact ⟨rfl, ⟨⟩⟩) (by exact ⟨⟩) (LocG.of rfl (loc_box (ag := true) (cs := [PV.val _, PV.val _, PV.val _]) (by decide) (by exact ⟨⟩))) (free1 (Free.of_ rfl)) ?_
 refine rA ?_ (x := kA)
 refine sw_seq ?_
 refine sO [(1, _), (2, _)] [(1, (165, [PV.val _, PV.val _, PV.val _]))] ?_
 refine sw_reg ?_
 refine rA ?_ (x := lF fd_165_0)
 refine rA ?_ (x := lD [PV.val _] ty_3)
 refine rA ?_ (x := cL [(false, [PV.val _])] [(false, [PV.val _])] c_165 (hs := by exact impl_isField))
 refine rA ?_ (x := sM)
 refine RunS.cases (s := 6) rfl (fun g1 => ?_) (fun g1 => ?_)
 ·have sg1 := g1
  try simp only [q1, q2, q3, q4, q5, q6, q7, q8, q9] at sg1
  refine rB g1 ?_ (x := lF fd_165_1)
  refine rB g1 ?_ (x := lD [PV.val _] ty_3)
  refine rB g1 ?_ (x := B_geq)
  refine rA ?_ (x := pkT g1)
  refine rA ?_ (x := sM)
  refine RunS.cases (s := 11) rfl (fun g2 => ?_) (fun g2 => ?_)
  ·have sg2 := g2
   try simp only [q1, q2, q3, q4, q5, q6, q7, q8, q9] at sg2
   refine rB g2 ?_ (x := lF fd_165_1)
   refine rB g2 ?_ (x := lD [PV.val _] ty_3)
   refine rB g2 ?_ (x := lF fd_165_2)
   refine rB g2 ?_ (x := lD [PV.val _] ty_3)
   refine rB g2 ?_ (x := B_leq)
   refine rA ?_ (x := pkT g2)
   refine rA ?_ (x := sM)
   refine RunS.cases (s := 18) rfl (fun g3 => ?_) (fun g3 => ?_)
   ·have sg3 := g3
    try simp only [q1, q2, q3, q4, q5, q6, q7, q8, q9] at sg3
    refine rB g3 ?_ (x := lF fd_165_2)
    refine rB g3 ?_ (x := lD [PV.val _] ty_3)
    refine rB g3 ?_ (x := B_leq)
    refine rA ?_ (x := pkT g3)
    refine rA ?_ (x := sA)
    refine sw_ret ?_
    exact (And.intro (by refine bool_eq ?_; first | (simp_all [okCond, inB]; done) | (simp_all [okCond, inB]; omega)) True.intro)
   ·have sg3 := g3
    try simp only [q1, q2, q3, q4, q5, q6, q7, q8, q9] at sg3
    refine RunS.s0f g3 ?_
    refine RunS.s0f g3 ?_
    refine RunS.s0f g3 ?_
    refine rA ?_ (x := pkF g3)
    refine rA ?_ (x := sA)
    refine sw_ret ?_
    exact (And.intro (by refine bool_eq ?_; first | (simp_all [okCond, inB]; done) | (simp_all [okCond, inB]; omega)) True.intro)
  ·have sg2 := g2
   try simp only [q1, q2, q3, q4, q5, q6, q7, q8, q9] at sg2
   refine RunS.s0f g2 ?_
   refine RunS.s0f g2 ?_
   refine RunS.s0f g2 ?_
   refine RunS.s0f g2 ?_
   refine RunS.s0f g2 ?_
   refine rA ?_ (x := pkF g2)
   refine rA ?_ (x := sM)
   refine RunS.cases (s := 18) rfl (fun g4 => nomatch g4) (fun g4 => ?_)
   refine RunS.s0f g4 ?_
   refine RunS.s0f g4 ?_
   refine RunS.s0f g4 ?_
   refine rA ?_ (x := pkF g4)
   refine rA ?_ (x := sA)
   refine sw_ret ?_
   exact (And.intro (by refine bool_eq ?_; first | (simp_all [okCond, inB]; done) | (simp_all [okCond, inB]; omega)) True.intro)
 ·have sg1 := g1
  try simp only [q1, q2, q3, q4, q5, q6, q7, q8, q9] at sg1
  refine RunS.s0f g1 ?_
  refine RunS.s0f g1 ?_
  refine RunS.s0f g1 ?_
  refine rA ?_ (x := pkF g1)
  refine rA ?_ (x := sM)
  refine RunS.cases (s := 11) rfl (fun g5 => nomatch g5) (fun g5 => ?_)
  refine RunS.s0f g5 ?_
  refine RunS.s0f g5 ?_
  refine RunS.s0f g5 ?_
  refine RunS.s0f g5 ?_
  refine RunS.s0f g5 ?_
  refine rA ?_ (x := pkF g5)
  refine rA ?_ (x := sM)
  refine RunS.cases (s := 18) rfl (fun g6 => nomatch g6) (fun g6 => ?_)
  refine RunS.s0f g6 ?_
  refine RunS.s0f g6 ?_
  refine RunS.s0f g6 ?_
  refine rA ?_ (x := pkF g6)
  refine rA ?_ (x := sA)
  refine sw_ret ?_
  exact (And.intro (by refine bool_eq ?_; first | (simp_all [okCond, inB]; done) | (simp_all [okCond, inB]; omega)) True.intro)
theorem spec_IsCond {x : Cond}  : SCall Tryz.prog 153 [(true, [PV.val (vI x.Field), PV.val (vI x.Low), PV.val (vI x.High)])] (resRV [(false, [PV.val (.bool (okCond x))])]) := by
 refine scall_of (rs := [(false, [PV.val (.bool (okCond x))])]) Tryz.func153 rfl (Nat.le_of_ble_eq_true rfl) (borA_cons (BorL.cons (PV.bor_val _) (BorL.cons (PV.bor_val _) (BorL.cons (PV.bor_val _) BorL.nil))) borA_nil) ?_
 intro h0 w0 Fz0
 refine sw_seq ?_
 refine sw_reg ?_
 refine RunS.step (by exact ⟨rfl, ⟨⟩⟩) (by exact ⟨⟩) (LocG.of rfl (loc_box (ag := true) (cs := [PV.val _, PV.val _, PV.val _]) (by decide) (by exact ⟨⟩))) (free1 (Free.of_ rfl)) ?_
 refine rA ?_ (x := kA)
 refine sw_seq ?_
 refine sO [(1, _), (2, _)] [(1, (165, [PV.val _, PV.val _, PV.val _]))] ?_
 refine sw_reg ?_
 refine rA ?_ (x := lF fd_165_0)
 refine rA ?_ (x := lD [PV.val _] ty_3)
 refine rA ?_ (x := cL [(false, [PV.val _]), (false, [PV.val _]), (false, [PV.val _])] [(false, [PV.val _]), (false, [PV.val _]), (false, [PV.val _])] c_80 (hs := by exact spec_l1In))
 refine rA ?_ (x := sM)
 refine RunS.cases (s := 6) rfl (fun g1 => ?_) (fun g1 => ?_)
 ·have sg1 := g1
  try simp only [q1, q2, q3, q4, q5, q6, q7, q8, q9] at sg1
  refine rB g1 ?_ (x := lF fd_165_1)
  refine rB g1 ?_ (x := lD [PV.val _] ty_3)
  refine rB g1 ?_ (x := lF fd_165_2)
  refine rB g1 ?_ (x := lD [PV.val _] ty_3)
  refine rB g1 ?_ (x := cL [(false, [PV.val _]), (false, [PV.val _]), (false, [PV.val _])] [(false, [PV.val _]), (false, [PV.val _]), (false, [PV.val _])] c_80 (hs := by exact spec_l1In))
  refine rA ?_ (x := pkT g1)
  refine rA ?_ (x := sM)
  refine RunS.cases (s := 13) rfl (fun g2 => ?_) (fun g2 => ?_)
  ·have sg2 := g2
   try simp only [q1, q2, q3, q4, q5, q6, q7, q8, q9] at sg2
   refine rB g2 ?_ (x := lF fd_165_2)
   refine rB g2 ?_ (x := lD [PV.val _] ty_3)
   refine rB g2 ?_ (x := B_leq)
   refine rA ?_ (x := pkT g2)
   refine rA ?_ (x := sA)
   refine sw_ret ?_
   exact (And.intro (by refine bool_eq ?_; first | (simp_all [okCond, inB]; done) | (simp_all [okCond, inB]; omega)) True.intro)
  ·have sg2 := g2
   try simp only [q1, q2, q3, q4, q5, q6, q7, q8, q9] at sg2
   refine RunS.s0f g2 ?_
   refine RunS.s0f g2 ?_
   refine RunS.s0f g2 ?_
   refine rA ?_ (x := pkF g2)
   refine rA ?_ (x := sA)
   refine sw_ret ?_
   exact (And.intro (by refine bool_eq ?_; first | (simp_all [okCond, inB]; done) | (simp_all [okCond, inB]; omega)) True.intro)
 ·have sg1 := g1
  try simp only [q1, q2, q3, q4, q5, q6, q7, q8, q9] at sg1
  refine RunS.s0f g1 ?_
  refine RunS.s0f g1 ?_
  refine RunS.s0f g1 ?_
  refine RunS.s0f g1 ?_
  refine RunS.s0f g1 ?_
  refine rA ?_ (x := pkF g1)
  refine rA ?_ (x := sM)
  refine RunS.cases (s := 13) rfl (fun g3 => nomatch g3) (fun g3 => ?_)
  refine RunS.s0f g3 ?_
  refine RunS.s0f g3 ?_
  refine RunS.s0f g3 ?_
  refine rA ?_ (x := pkF g3)
  refine rA ?_ (x := sA)
  refine sw_ret ?_
  exact (And.intro (by refine bool_eq ?_; first | (simp_all [okCond, inB]; done) | (simp_all [okCond, inB]; omega)) True.intro)
theorem spec_l4Fields {x : List Int}  : SCall Tryz.prog 154 [(false, [PV.sl .v (x.map cInt)])] (resRV [(false, [PV.val (.bool (okFields x))])]) := by
 refine scall_of (rs := [(false, [PV.val (.bool (okFields x))])]) Tryz.func154 rfl (Nat.le_of_ble_eq_true rfl) (borA_cons (BorL.cons (PV.bor_sl _) BorL.nil) borA_nil) ?_
 intro h0 w0 Fz0
 refine sw_len (s := 0) rfl fun hl0 => ?_
 try rw [List.length_map] at hl0
 refine sw_seq ?_
 refine sw_reg ?_
 refine rA ?_ (x := kA)
 refine sw_seq ?_
 refine sw_seq ?_
 refine sO [(0, _), (2, _)] [] ?_
 refine sw_reg ?_
 refine rA ?_ (x := kA)
 refine sw_block ?_
 refine sO [(0, _), (2, _), (3, _)] [] ?_
 refine sw_loop (l0 := [(0, RV.sv false [PV.sl _ _])]) (b0 := []) (fun k : Nat => k ≤ x.length ∧ (x.take k).all okOut = true) (fun k : Nat => [(3, RV.int (k : Int))]) (fun k : Nat => []) (fun k : Nat => x.length - k) 0 (by exact ⟨by omega, by simp⟩) (by exact ⟨rfl, ⟨⟩⟩) (by exact ⟨⟩) (by exact And.intro (by exact rfl) (True.intro)) (by exact ⟨⟩) ?_
 rintro k ⟨hk, ha⟩
 refine sw_seq ?_
 refine sw_seq ?_
 refine sw_reg ?_
 refine rA ?_ (x := sM)
 refine rA ?_ (x := vM false [PV.sl .v _])
 refine rA ?_ (x := lN sl_25)
 refine rA ?_ (x := B_lss)
 refine sw_cond (t := 7) rfl (fun hb1 => ?_) (fun hb1 => ?_)
 ·try simp only [q1, q2, q3, q4, q5, q6, q7, q8, q9] at hb1
  have hlt : k < x.length := by omega
  refine sw_skip ?_
  refine sw_seq ?_
  refine sw_block ?_
  refine sw_seq ?_
  refine sO [(0, _), (3, _)] [] ?_
  refine sw_reg ?_
  refine rA ?_ (x := vM false [PV.sl .v _])
  refine rA ?_ (x := sM)
  refine rA ?_ (x := loc_index (by decide) sl_25 (by exact ⟨⟩) (by exact rfl) (by exact getm2 (by omega) rfl) (by exact rfl))
  refine rA ?_ (x := lE [PV.val _] ty_3)
  refine rA ?_ (x := cL [(false, [PV.val _]), (false, [PV.val _]), (false, [PV.val _])] [(false, [PV.val _]), (false, [PV.val _]), (false, [PV.val _])] c_80 (hs := by exact spec_l1In))
  refine rA ?_ (x := nT)
  refine sw_cond (t := 15) rfl (fun hb2 => ?_) (fun hb2 => ?_)
  ·try simp only [q1, q2, q3, q4, q5, q6, q7, q8, q9] at hb2
   have hno : okOut x[k] = false := by simpa [okOut] using hb2
   refine sw_seq ?_
   refine sO [(0, _), (3, _)] [] ?_
   refine sw_reg ?_
   refine rA ?_ (x := kA)
   refine sw_ret ?_
   exact (And.intro (by refine bool_eq ?_; simp [okFields, all_no (P := okOut) hlt hno]) True.intro)
  ·try simp only [q1, q2, q3, q4, q5, q6, q7, q8, q9] at hb2
   have hyes : okOut x[k] = true := by simpa [okOut] using hb2
   refine sw_skip ?_
   refine sO [(0, _), (3, _)] [] ?_
   refine sw_reg ?_
   refine rA ?_ (x := sM)
   refine rA ?_ (x := B_add)
   refine rA ?_ (x := sA)
   refine Exists.intro (k + 1) (And.intro (by exact ⟨by omega, all_succ ha hlt hyes⟩) (And.intro (by omega) (And.intro (And.intro (by exact ⟨rfl, ⟨⟩⟩) (by exact ⟨⟩)) (And.intro (by exact And.intro (by exact rfl) (True.intro)) (by exact ⟨⟩)))))
 ·try simp only [q1, q2, q3, q4, q5, q6, q7, q8, q9] at hb1
  have hall : x.all okOut = true := all_end (by rw [show x.length = k by omega]; exact ha)
  refine sw_exit ?_
  refine sw_seq ?_
  refine sO [(0, _), (3, _)] [] ?_
  refine sw_reg ?_
  refine rA ?_ (x := vM false [PV.sl .v _])
  refine rA ?_ (x := lN sl_25)
  refine rA ?_ (x := cL [(false, [PV.val _]), (false, [PV.val _]), (false, [PV.val _])] [(false, [PV.val _]), (false, [PV.val _]), (false, [PV.val _])] c_80 (hs := by exact spec_l1In))
  refine rA ?_ (x := sA)
  refine sw_ret ?_
  exact (And.intro (by refine bool_eq ?_; simp [okFields, hall, *]) True.intro)
theorem spec_IsQuery {x : Query}  : SCall Tryz.prog 83 [(true, [PV.val (vI x.Id), PV.val (vI x.Tenant), PV.sl .v (x.Conds.map cCond), PV.sl .v (x.Out.map cInt)])] (resRV [(false, [PV.val (.bool (okQuery x))])]) := by
 refine scall_of (rs := [(false, [PV.val (.bool (okQuery x))])]) Tryz.func83 rfl (Nat.le_of_ble_eq_true rfl) (borA_cons (BorL.cons (PV.bor_val _) (BorL.cons (PV.bor_val _) (BorL.cons (PV.bor_sl _) (BorL.cons (PV.bor_sl _) BorL.nil)))) borA_nil) ?_
 intro h0 w0 Fz0
 refine sw_slen (s := 0) (j := 2) rfl rfl fun hl0_2 => ?_
 try rw [List.length_map] at hl0_2
 refine sw_slen (s := 0) (j := 3) rfl rfl fun hl0_3 => ?_
 try rw [List.length_map] at hl0_3
 refine sw_seq ?_
 refine sw_reg ?_
 refine RunS.step (by exact ⟨rfl, ⟨⟩⟩) (by exact ⟨⟩) (LocG.of rfl (loc_box (ag := true) (cs := [PV.val _, PV.val _, PV.sl _ _, PV.sl _ _]) (by decide) (by exact ⟨⟩))) (free1 (Free.of_ rfl)) ?_
 refine rA ?_ (x := kA)
 refine sw_seq ?_
 refine sw_seq ?_
 refine sO [(1, _), (2, _)] [(1, (51, [PV.val _, PV.val _, PV.sl _ _, PV.sl _ _]))] ?_
 refine sw_reg ?_
 refine rA ?_ (x := kA)
 refine sw_block ?_
 refine sO [(1, _), (2, _), (3, _)] [(1, _)] ?_
 refine sw_loop (l0 := [(1, RV.ptr 1 0)]) (b0 := [(1, (51, [PV.val _, PV.val _, PV.sl _ _, PV.sl _ _]))]) (fun k : Nat => k ≤ x.Conds.length ∧ adjTo ⟨0, 0, 0⟩ okCond ltField x.Conds k = true) (fun k : Nat => [(3, RV.int (k : Int))]) (fun k : Nat => []) (fun k : Nat => x.Conds.length - k) 0 (by exact ⟨by omega, rfl⟩) (by exact ⟨rfl, ⟨⟩⟩) (by exact ⟨rfl, ⟨⟩⟩) (by exact And.intro (by exact rfl) (True.intro)) (by exact ⟨⟩) ?_
 rintro k ⟨hk, ha⟩
 refine sw_seq ?_
 refine sw_seq ?_
 refine sw_reg ?_
 refine rA ?_ (x := sM)
 refine rA ?_ (x := lF fd_51_2)
 refine rA ?_ (x := lD [PV.sl .v _] ty_49)
 refine rA ?_ (x := lN sl_49)
 refine rA ?_ (x := B_lss)
 refine sw_cond (t := 8) rfl (fun hb1 => ?_) (fun hb1 => ?_)
 ·try simp only [q1, q2, q3, q4, q5, q6, q7, q8, q9] at hb1
  have hlt : k < x.Conds.length := by omega
  have hgk : x.Conds.getD k ⟨0, 0, 0⟩ = x.Conds[k] := getD_at hlt
  have hgp : 0 < k → x.Conds.getD (k - 1) ⟨0, 0, 0⟩ = x.Conds[k - 1] := fun h => getD_at (by omega)
  refine sw_skip ?_
  refine sw_seq ?_
  refine sw_block ?_
  refine sw_seq ?_
  refine sO [(1, _), (3, _)] [(1, (51, [PV.val _, PV.val _, PV.sl _ _, PV.sl _ _]))] ?_
  refine sw_draw hm_ ?_
  refine dA 0 ?_ (x := lF fd_51_2)
  refine dA 1 ?_ (x := lD [PV.sl .v _] ty_49)
  refine dA 0 ?_ (x := sM)
  refine dA 7 ?_ (x := loc_index (by decide) sl_49 (by exact ⟨⟩) (by exact rfl) (by exact getm2 (by omega) rfl) (by exact rfl))
  refine dA 15 ?_ (x := lE [PV.val _, PV.val _, PV.val _] ty_165)
  refine dA 31 ?_ (x := cL [(true, [PV.val _, PV.val _, PV.val _])] [(true, [PV.val _, PV.val _, PV.val _])] c_153 (hs := by exact spec_IsCond))
  refine dA 63 ?_ (x := nT)
  refine dA 127 ?_ (x := sM)
  refine Run.cases (s := 18) rfl (fun g2 => ?_) (fun g2 => ?_)
  ·have sg2 := g2
   try simp only [q1, q2, q3, q4, q5, q6, q7, q8, q9] at sg2
   refine dT 255 g2 ?_
   refine dT 511 g2 ?_
   refine dT 1023 g2 ?_
   refine dU 2047 ?_
   refine dU 4095 ?_
   refine dU 2047 ?_
   refine dU 16383 ?_
   refine dU 32767 ?_
   refine dU 65535 ?_
   refine dU 2047 ?_
   refine dU 133119 ?_
   refine dU 2047 ?_
   refine dU 526335 ?_
   refine dU 1968127 ?_
   refine dU 4065279 ?_
   refine dU 8259583 ?_
   refine dU 16777215 ?_
   refine dT 33554431 g2 ?_
   refine dA 67108863 ?_ (x := pkT g2)
   refine sw_cond (t := 37) rfl (fun hb_ => ?_) (fun hb_ => nomatch hb_)
   have hbad : adjAll ⟨0, 0, 0⟩ okCond ltField x.Conds = false := adj_no hlt (Bool.eq_false_iff.2 fun hx => by
    have hx := adjStep.1 hx
    rw [hgk] at hx
    obtain ⟨hx1, hx2⟩ := hx
    first
    | (simp_all; done)
    | (simp only [decide_eq_true_eq, ltField] at *; by_cases h0 : k = 0 <;> (try rw [hgp (by omega)] at hx2) <;> omega))
   refine sw_seq ?_
   refine sO [(1, _), (3, _)] [(1, _)] ?_
   refine sw_reg ?_
   refine rA ?_ (x := kA)
   refine sw_ret ?_
   exact (And.intro (by refine bool_eq ?_; simp [okQuery, okConds, hbad]) True.intro)
  ·have sg2 := g2
   try simp only [q1, q2, q3, q4, q5, q6, q7, q8, q9] at sg2
   refine dB 255 g2 ?_ (x := sM)
   refine dB 511 g2 ?_ (x := B_gtr)
   refine dB 1023 g2 ?_ (x := sM)
   refine Run.cases (s := 21) rfl (fun g4 => ?_) (fun g4 => ?_)
   ·have sg4 := g4
    try simp only [q1, q2, q3, q4, q5, q6, q7, q8, q9] at sg4
    refine dB 2047 g4 ?_ (x := lF fd_51_2)
    refine dB 4095 g4 ?_ (x := lD [PV.sl .v _] ty_49)
    refine dB 2047 g4 ?_ (x := sM)
    refine dB 16383 g4 ?_ (x := loc_index (by decide) sl_49 (by exact ⟨⟩) (by exact rfl) (by exact getm2 (by omega) rfl) (by exact rfl))
    refine dB 32767 g4 ?_ (x := loc_efield (by decide) fd_165_0 (by exact Nat.le_of_ble_eq_true rfl))
    refine dB 65535 g4 ?_ (x := lE [PV.val _] ty_3)
    refine dB 2047 g4 ?_ (x := lF fd_51_2)
    refine dB 133119 g4 ?_ (x := lD [PV.sl .v _] ty_49)
    refine dB 2047 g4 ?_ (x := sM)
    refine dB 526335 g4 ?_ (x := B_sub)
    refine dB 1968127 g4 ?_ (x := loc_index (k := k - 1) (by decide) sl_49 (by exact ⟨⟩) (by omega) (by exact getm2 (by omega) rfl) (by exact rfl))
    refine dB 4065279 g4 ?_ (x := loc_efield (by decide) fd_165_0 (by exact Nat.le_of_ble_eq_true rfl))
    refine dB 8259583 g4 ?_ (x := lE [PV.val _] ty_3)
    refine dB 16777215 g4 ?_ (x := B_leq)
    refine dB 33554431 g2 ?_ (x := pkT g4)
    refine dA 67108863 ?_ (x := pkF g2)
    refine sw_cond (t := 37) rfl (fun hb5 => ?_) (fun hb5 => ?_)
    ·try simp only [q1, q2, q3, q4, q5, q6, q7, q8, q9] at hb5
     have hbad : adjAll ⟨0, 0, 0⟩ okCond ltField x.Conds = false := adj_no hlt (Bool.eq_false_iff.2 fun hx => by
      have hx := adjStep.1 hx
      rw [hgk] at hx
      obtain ⟨hx1, hx2⟩ := hx
      first
      | (simp_all; done)
      | (simp only [decide_eq_true_eq, ltField] at *; by_cases h0 : k = 0 <;> (try rw [hgp (by omega)] at hx2) <;> omega))
     refine sw_seq ?_
     refine sO [(1, _), (3, _)] [(1, _)] ?_
     refine sw_reg ?_
     refine rA ?_ (x := kA)
     refine sw_ret ?_
     exact (And.intro (by refine bool_eq ?_; simp [okQuery, okConds, hbad]) True.intro)
    ·try simp only [q1, q2, q3, q4, q5, q6, q7, q8, q9] at hb5
     refine sw_skip ?_
     refine sO [(1, _), (3, _)] [(1, _)] ?_
     refine sw_reg ?_
     refine rA ?_ (x := sM)
     refine rA ?_ (x := B_add)
     refine rA ?_ (x := sA)
     refine Exists.intro (k + 1) (And.intro (by exact ⟨by omega, by rw [adjTo_succ, ha, Bool.true_and]; refine adjStep.2 ⟨by rw [hgk]; first | assumption | simp_all, ?_⟩; rcases Nat.eq_zero_or_pos k with h0 | h0; (· exact .inl h0); (· right; rw [hgk, hgp h0]; first | (simp only [decide_eq_true_eq, ltField] at *; omega) | (simp_all; done))⟩) (And.intro (by omega) (And.intro (And.intro (by exact ⟨rfl, ⟨⟩⟩) (by exact ⟨rfl, ⟨⟩⟩)) (And.intro (by exact And.intro (by exact rfl) (True.intro)) (by exact ⟨⟩)))))
   ·have sg4 := g4
    try simp only [q1, q2, q3, q4, q5, q6, q7, q8, q9] at sg4
    refine dF 2047 g4 ?_
    refine dF 4095 g4 ?_
    refine dF 2047 g4 ?_
    refine dF 16383 g4 ?_
    refine dF 32767 g4 ?_
    refine dF 65535 g4 ?_
    refine dF 2047 g4 ?_
    refine dF 133119 g4 ?_
    refine dF 2047 g4 ?_
    refine dF 526335 g4 ?_
    refine dF 1968127 g4 ?_
    refine dF 4065279 g4 ?_
    refine dF 8259583 g4 ?_
    refine dF 16777215 g4 ?_
    refine dB 33554431 g2 ?_ (x := pkF g4)
    refine dA 67108863 ?_ (x := pkF g2)
    refine sw_cond (t := 37) rfl (fun hb_ => nomatch hb_) (fun hb_ => ?_)
    refine sw_skip ?_
    refine sO [(1, _), (3, _)] [(1, _)] ?_
    refine sw_reg ?_
    refine rA ?_ (x := sM)
    refine rA ?_ (x := B_add)
    refine rA ?_ (x := sA)
    refine Exists.intro (k + 1) (And.intro (by exact ⟨by omega, by rw [adjTo_succ, ha, Bool.true_and]; refine adjStep.2 ⟨by rw [hgk]; first | assumption | simp_all, ?_⟩; rcases Nat.eq_zero_or_pos k with h0 | h0; (· exact .inl h0); (· right; rw [hgk, hgp h0]; first | (simp only [decide_eq_true_eq, ltField] at *; omega) | (simp_all; done))⟩) (And.intro (by omega) (And.intro (And.intro (by exact ⟨rfl, ⟨⟩⟩) (by exact ⟨rfl, ⟨⟩⟩)) (And.intro (by exact And.intro (by exact rfl) (True.intro)) (by exact ⟨⟩)))))
 ·try simp only [q1, q2, q3, q4, q5, q6, q7, q8, q9] at hb1
  have hend : k = x.Conds.length := by omega
  have hall : adjAll ⟨0, 0, 0⟩ okCond ltField x.Conds = true := adj_end ha hend
  refine sw_exit ?_
  refine sw_seq ?_
  refine sO [(1, _), (3, _)] [(1, (51, [PV.val _, PV.val _, PV.sl _ _, PV.sl _ _]))] ?_
  refine sw_reg ?_
  refine rA ?_ (x := lF fd_51_0)
  refine rA ?_ (x := lD [PV.val _] ty_3)
  refine rA ?_ (x := cL [(false, [PV.val _]), (false, [PV.val _]), (false, [PV.val _])] [(false, [PV.val _]), (false, [PV.val _]), (false, [PV.val _])] c_80 (hs := by exact spec_l1In))
  refine rA ?_ (x := sM)
  refine RunS.cases (s := 41) rfl (fun g7 => ?_) (fun g7 => ?_)
  ·have sg7 := g7
   try simp only [q1, q2, q3, q4, q5, q6, q7, q8, q9] at sg7
   refine rB g7 ?_ (x := lF fd_51_1)
   refine rB g7 ?_ (x := lD [PV.val _] ty_3)
   refine rB g7 ?_ (x := cL [(false, [PV.val _]), (false, [PV.val _]), (false, [PV.val _])] [(false, [PV.val _]), (false, [PV.val _]), (false, [PV.val _])] c_80 (hs := by exact spec_l1In))
   refine rA ?_ (x := pkT g7)
   refine rA ?_ (x := sM)
   refine RunS.cases (s := 46) rfl (fun g8 => ?_) (fun g8 => ?_)
   ·have sg8 := g8
    try simp only [q1, q2, q3, q4, q5, q6, q7, q8, q9] at sg8
    refine rB g8 ?_ (x := lF fd_51_2)
    refine rB g8 ?_ (x := lD [PV.sl .v _] ty_49)
    refine rB g8 ?_ (x := lN sl_49)
    refine rB g8 ?_ (x := B_leq)
    refine rA ?_ (x := pkT g8)
    refine rA ?_ (x := sM)
    refine RunS.cases (s := 52) rfl (fun g9 => ?_) (fun g9 => ?_)
    ·have sg9 := g9
     try simp only [q1, q2, q3, q4, q5, q6, q7, q8, q9] at sg9
     refine rB g9 ?_ (x := lF fd_51_3)
     refine rB g9 ?_ (x := lD [PV.sl .v _] ty_25)
     refine rB g9 ?_ (x := cL [(false, [PV.sl _ _])] [(false, [PV.sl .v _])] c_154 (hs := by exact spec_l4Fields))
     refine rA ?_ (x := pkT g9)
     refine rA ?_ (x := sA)
     refine sw_ret ?_
     exact (And.intro (by refine bool_eq ?_; first | (simp_all [okQuery, okConds]; done) | (simp_all [okQuery, okConds]; rfl) | (simp_all [okQuery, okConds]; omega) | (simp_all [okQuery, okConds]; intros; omega)) True.intro)
    ·have sg9 := g9
     try simp only [q1, q2, q3, q4, q5, q6, q7, q8, q9] at sg9
     refine RunS.s0f g9 ?_
     refine RunS.s0f g9 ?_
     refine RunS.s0f g9 ?_
     refine rA ?_ (x := pkF g9)
     refine rA ?_ (x := sA)
     refine sw_ret ?_
     exact (And.intro (by refine bool_eq ?_; first | (simp_all [okQuery, okConds]; done) | (simp_all [okQuery, okConds]; rfl) | (simp_all [okQuery, okConds]; omega) | (simp_all [okQuery, okConds]; intros; omega)) True.intro)
   ·have sg8 := g8
    try simp only [q1, q2, q3, q4, q5, q6, q7, q8, q9] at sg8
    refine RunS.s0f g8 ?_
    refine RunS.s0f g8 ?_
    refine RunS.s0f g8 ?_
    refine RunS.s0f g8 ?_
    refine rA ?_ (x := pkF g8)
    refine rA ?_ (x := sM)
    refine RunS.cases (s := 52) rfl (fun g10 => nomatch g10) (fun g10 => ?_)
    refine RunS.s0f g10 ?_
    refine RunS.s0f g10 ?_
    refine RunS.s0f g10 ?_
    refine rA ?_ (x := pkF g10)
    refine rA ?_ (x := sA)
    refine sw_ret ?_
    exact (And.intro (by refine bool_eq ?_; first | (simp_all [okQuery, okConds]; done) | (simp_all [okQuery, okConds]; rfl) | (simp_all [okQuery, okConds]; omega) | (simp_all [okQuery, okConds]; intros; omega)) True.intro)
  ·have sg7 := g7
   try simp only [q1, q2, q3, q4, q5, q6, q7, q8, q9] at sg7
   refine RunS.s0f g7 ?_
   refine RunS.s0f g7 ?_
   refine RunS.s0f g7 ?_
   refine rA ?_ (x := pkF g7)
   refine rA ?_ (x := sM)
   refine RunS.cases (s := 46) rfl (fun g11 => nomatch g11) (fun g11 => ?_)
   refine RunS.s0f g11 ?_
   refine RunS.s0f g11 ?_
   refine RunS.s0f g11 ?_
   refine RunS.s0f g11 ?_
   refine rA ?_ (x := pkF g11)
   refine rA ?_ (x := sM)
   refine RunS.cases (s := 52) rfl (fun g12 => nomatch g12) (fun g12 => ?_)
   refine RunS.s0f g12 ?_
   refine RunS.s0f g12 ?_
   refine RunS.s0f g12 ?_
   refine rA ?_ (x := pkF g12)
   refine rA ?_ (x := sA)
   refine sw_ret ?_
   exact (And.intro (by refine bool_eq ?_; first | (simp_all [okQuery, okConds]; done) | (simp_all [okQuery, okConds]; rfl) | (simp_all [okQuery, okConds]; omega) | (simp_all [okQuery, okConds]; intros; omega)) True.intro)
theorem impl_IsQuery {x : Query}  : SCall Tryz.prog 95 [(true, [PV.val (vI x.Id), PV.val (vI x.Tenant), PV.sl .v (x.Conds.map cCond), PV.sl .v (x.Out.map cInt)])] (resRV [(false, [PV.val (.bool (okQuery x))])]) := by
 refine scall_of (rs := [(false, [PV.val (.bool (okQuery x))])]) Tryz.func95 rfl (Nat.le_of_ble_eq_true rfl) (borA_cons (BorL.cons (PV.bor_val _) (BorL.cons (PV.bor_val _) (BorL.cons (PV.bor_sl _) (BorL.cons (PV.bor_sl _) BorL.nil)))) borA_nil) ?_
 intro h0 w0 Fz0
 refine sw_slen (s := 0) (j := 2) rfl rfl fun hl0_2 => ?_
 try rw [List.length_map] at hl0_2
 refine sw_slen (s := 0) (j := 3) rfl rfl fun hl0_3 => ?_
 try rw [List.length_map] at hl0_3
 refine sw_seq ?_
 refine sw_reg ?_
 refine RunS.step (by exact ⟨rfl, ⟨⟩⟩) (by exact ⟨⟩) (LocG.of rfl (loc_box (ag := true) (cs := [PV.val _, PV.val _, PV.sl _ _, PV.sl _ _]) (by decide) (by exact ⟨⟩))) (free1 (Free.of_ rfl)) ?_
 refine rA ?_ (x := kA)
 refine sw_seq ?_
 refine sw_seq ?_
 refine sO [(1, _), (2, _)] [(1, (51, [PV.val _, PV.val _, PV.sl _ _, PV.sl _ _]))] ?_
 refine sw_reg ?_
 refine rA ?_ (x := lF fd_51_0)
 refine rA ?_ (x := lD [PV.val _] ty_3)
 refine rA ?_ (x := cL [(false, [PV.val _]), (false, [PV.val _]), (false, [PV.val _])] [(false, [PV.val _]), (false, [PV.val _]), (false, [PV.val _])] c_92 (hs := by exact impl_within))
 refine rA ?_ (x := nT)
 refine rA ?_ (x := sM)
 refine RunS.cases (s := 11) rfl (fun g1 => ?_) (fun g1 => ?_)
 ·have sg1 := g1
  try simp only [q1, q2, q3, q4, q5, q6, q7, q8, q9] at sg1
  refine RunS.s0t g1 ?_
  refine RunS.s0t g1 ?_
  refine RunS.s0t g1 ?_
  refine RunS.s0t g1 ?_
  refine rA ?_ (x := pkT g1)
  refine rA ?_ (x := sM)
  refine RunS.cases (s := 17) rfl (fun g2 => ?_) (fun g2 => nomatch g2)
  refine RunS.s0t g2 ?_
  refine RunS.s0t g2 ?_
  refine RunS.s0t g2 ?_
  refine RunS.s0t g2 ?_
  refine rA ?_ (x := pkT g2)
  refine sw_cond (t := 22) rfl (fun hb_ => ?_) (fun hb_ => nomatch hb_)
  have hbad0 : okQuery x = false := by first | (simp_all [okQuery]; done) | (simp_all [okQuery]; rfl) | (simp_all [okQuery]; omega) | (simp_all [okQuery]; intros; omega)
  refine sw_seq ?_
  refine sO [(1, _), (2, _)] [(1, _)] ?_
  refine sw_reg ?_
  refine rA ?_ (x := kA)
  refine sw_ret ?_
  exact (And.intro (by refine bool_eq ?_; first | exact hbad0.symm | (simp [okQuery, okConds, hbad]; done) | (simp [okQuery, okFields, hn3]; done) | (simp_all [okQuery, okConds, okFields]; done) | (simp_all [okQuery, okConds, okFields]; rfl) | (simp_all [okQuery, okConds, okFields]; omega) | (simp_all [okQuery, okConds, okFields]; intros; omega)) True.intro)
 ·have sg1 := g1
  try simp only [q1, q2, q3, q4, q5, q6, q7, q8, q9] at sg1
  refine rB g1 ?_ (x := lF fd_51_1)
  refine rB g1 ?_ (x := lD [PV.val _] ty_3)
  refine rB g1 ?_ (x := cL [(false, [PV.val _]), (false, [PV.val _]), (false, [PV.val _])] [(false, [PV.val _]), (false, [PV.val _]), (false, [PV.val _])] c_92 (hs := by exact impl_within))
  refine rB g1 ?_ (x := nT)
  refine rA ?_ (x := pkF g1)
  refine rA ?_ (x := sM)
  refine RunS.cases (s := 17) rfl (fun g4 => ?_) (fun g4 => ?_)
  ·have sg4 := g4
   try simp only [q1, q2, q3, q4, q5, q6, q7, q8, q9] at sg4
   refine RunS.s0t g4 ?_
   refine RunS.s0t g4 ?_
   refine RunS.s0t g4 ?_
   refine RunS.s0t g4 ?_
   refine rA ?_ (x := pkT g4)
   refine sw_cond (t := 22) rfl (fun hb_ => ?_) (fun hb_ => nomatch hb_)
   have hbad0 : okQuery x = false := by first | (simp_all [okQuery]; done) | (simp_all [okQuery]; rfl) | (simp_all [okQuery]; omega) | (simp_all [okQuery]; intros; omega)
   refine sw_seq ?_
   refine sO [(1, _), (2, _)] [(1, _)] ?_
   refine sw_reg ?_
   refine rA ?_ (x := kA)
   refine sw_ret ?_
   exact (And.intro (by refine bool_eq ?_; first | exact hbad0.symm | (simp [okQuery, okConds, hbad]; done) | (simp [okQuery, okFields, hn3]; done) | (simp_all [okQuery, okConds, okFields]; done) | (simp_all [okQuery, okConds, okFields]; rfl) | (simp_all [okQuery, okConds, okFields]; omega) | (simp_all [okQuery, okConds, okFields]; intros; omega)) True.intro)
  ·have sg4 := g4
   try simp only [q1, q2, q3, q4, q5, q6, q7, q8, q9] at sg4
   refine rB g4 ?_ (x := lF fd_51_2)
   refine rB g4 ?_ (x := lD [PV.sl .v _] ty_49)
   refine rB g4 ?_ (x := lN sl_49)
   refine rB g4 ?_ (x := B_gtr)
   refine rA ?_ (x := pkF g4)
   refine sw_cond (t := 22) rfl (fun hb6 => ?_) (fun hb6 => ?_)
   ·try simp only [q1, q2, q3, q4, q5, q6, q7, q8, q9] at hb6
    have hbad0 : okQuery x = false := by first | (simp_all [okQuery]; done) | (simp_all [okQuery]; rfl) | (simp_all [okQuery]; omega) | (simp_all [okQuery]; intros; omega)
    refine sw_seq ?_
    refine sO [(1, _), (2, _)] [(1, _)] ?_
    refine sw_reg ?_
    refine rA ?_ (x := kA)
    refine sw_ret ?_
    exact (And.intro (by refine bool_eq ?_; first | exact hbad0.symm | (simp [okQuery, okConds, hbad]; done) | (simp [okQuery, okFields, hn3]; done) | (simp_all [okQuery, okConds, okFields]; done) | (simp_all [okQuery, okConds, okFields]; rfl) | (simp_all [okQuery, okConds, okFields]; omega) | (simp_all [okQuery, okConds, okFields]; intros; omega)) True.intro)
   ·try simp only [q1, q2, q3, q4, q5, q6, q7, q8, q9] at hb6
    have hfirst : (inB x.Id 0 23 && (inB x.Tenant 0 3 && decide ((x.Conds.length : Int) ≤ 3))) = true := by simp_all
    refine sw_skip ?_
    refine sw_seq ?_
    refine sw_seq ?_
    refine sO [(1, _), (2, _)] [(1, _)] ?_
    refine sw_reg ?_
    refine rA ?_ (x := lF fd_51_2)
    refine rA ?_ (x := lD [PV.sl .v _] ty_49)
    refine rA ?_ (x := lN sl_49)
    refine rA ?_ (x := kM)
    refine sw_block ?_
    refine sO [(1, _), (2, _), (24, _), (25, _), (26, _)] [(1, _)] ?_
    refine sw_loop (l0 := [(1, RV.ptr 1 0), (24, RV.sv false [PV.sl _ _]), (25, RV.sv false [PV.val _])]) (b0 := [(1, (51, [PV.val _, PV.val _, PV.sl _ _, PV.sl _ _]))]) (fun k : Nat => k ≤ x.Conds.length ∧ adjTo ⟨0, 0, 0⟩ okCond ltField x.Conds k = true) (fun k : Nat => [(26, RV.int (k : Int))]) (fun k : Nat => []) (fun k : Nat => x.Conds.length - k) 0 (by exact ⟨by omega, rfl⟩) (by exact ⟨rfl, rfl, rfl, ⟨⟩⟩) (by exact ⟨rfl, ⟨⟩⟩) (by exact And.intro (by exact rfl) (True.intro)) (by exact ⟨⟩) ?_
    rintro k ⟨hk, ha⟩
    refine sw_seq ?_
    refine sw_reg ?_
    refine rA ?_ (x := B_lss)
    refine sw_seq ?_
    refine sw_cond (t := 27) rfl (fun hb7 => ?_) (fun hb7 => ?_)
    ·try simp only [q1, q2, q3, q4, q5, q6, q7, q8, q9] at hb7
     have hlt : k < x.Conds.length := by omega
     have hgk : x.Conds.getD k ⟨0, 0, 0⟩ = x.Conds[k] := getD_at hlt
     have hgp : 0 < k → x.Conds.getD (k - 1) ⟨0, 0, 0⟩ = x.Conds[k - 1] := fun h => getD_at (by omega)
     refine sw_skip ?_
     refine sw_seq ?_
     refine sw_block ?_
     refine sw_seq ?_
     refine sO [(1, _), (24, _), (25, _), (26, _)] [(1, (51, [PV.val _, PV.val _, PV.sl _ _, PV.sl _ _]))] ?_
     refine sw_reg ?_
     refine rA ?_ (x := sM)
     refine rA ?_ (x := loc_index (by decide) sl_49 (by exact ⟨⟩) (by exact rfl) (by exact getm2 (by omega) rfl) (by exact rfl))
     refine rA ?_ (x := lE [PV.val _, PV.val _, PV.val _] ty_165)
     refine RunS.step (by exact ⟨⟩) (by exact ⟨⟩) (LocG.of rfl (loc_alloc (by decide) z_165 zo_165)) (free1 (Free.app (Free.app (Free.app (Free.of_ rfl) rfl) rfl) rfl)) ?_
     refine rA ?_ (x := sA)
     refine rA ?_ (x := loc_store (ag := true) (vs := [PV.val _, PV.val _, PV.val _]) ty_165 (by exact ⟨⟩) (by exact rfl) (by exact Nat.le_of_ble_eq_true rfl))
     refine sw_seq ?_
     refine sO [(1, _), (3, _), (4, _), (24, _), (25, _), (26, _)] [(1, _), (4, (165, [PV.val _, PV.val _, PV.val _]))] ?_
     refine sw_draw hm_ ?_
     refine dA 0 ?_ (x := lD [PV.val _, PV.val _, PV.val _] ty_165)
     refine dA 1 ?_ (x := cL [(true, [PV.val _, PV.val _, PV.val _])] [(true, [PV.val _, PV.val _, PV.val _])] c_164 (hs := by exact impl_IsCond))
     refine dA 3 ?_ (x := nT)
     refine dA 7 ?_ (x := sM)
     refine Run.cases (s := 34) rfl (fun g8 => ?_) (fun g8 => ?_)
     ·have sg8 := g8
      try simp only [q1, q2, q3, q4, q5, q6, q7, q8, q9] at sg8
      refine dT 15 g8 ?_
      refine dT 31 g8 ?_
      refine dT 63 g8 ?_
      refine dU 127 ?_
      refine dU 255 ?_
      refine dU 127 ?_
      refine dU 639 ?_
      refine dU 2047 ?_
      refine dU 4095 ?_
      refine dU 8191 ?_
      refine dU 127 ?_
      refine dU 16511 ?_
      refine dU 65535 ?_
      refine dT 131071 g8 ?_
      refine dA 262143 ?_ (x := pkT g8)
      refine sw_cond (t := 49) rfl (fun hb_ => ?_) (fun hb_ => nomatch hb_)
      have hbad : adjAll ⟨0, 0, 0⟩ okCond ltField x.Conds = false := adj_no hlt (Bool.eq_false_iff.2 fun hx => by
       have hx := adjStep.1 hx
       rw [hgk] at hx
       obtain ⟨hx1, hx2⟩ := hx
       first
       | (simp_all; done)
       | (simp only [decide_eq_true_eq, ltField] at *; by_cases h0 : k = 0 <;> (try rw [hgp (by omega)] at hx2) <;> omega))
      refine sw_seq ?_
      refine sO [(1, _), (3, _), (4, _), (24, _), (25, _), (26, _)] [(1, _), (4, _)] ?_
      refine sw_reg ?_
      refine rA ?_ (x := kA)
      refine sw_ret ?_
      exact (And.intro (by refine bool_eq ?_; first | exact hbad0.symm | (simp [okQuery, okConds, hbad]; done) | (simp [okQuery, okFields, hn3]; done) | (simp_all [okQuery, okConds, okFields]; done) | (simp_all [okQuery, okConds, okFields]; rfl) | (simp_all [okQuery, okConds, okFields]; omega) | (simp_all [okQuery, okConds, okFields]; intros; omega)) True.intro)
     ·have sg8 := g8
      try simp only [q1, q2, q3, q4, q5, q6, q7, q8, q9] at sg8
      refine dB 15 g8 ?_ (x := sM)
      refine dB 31 g8 ?_ (x := B_gtr)
      refine dB 63 g8 ?_ (x := sM)
      refine Run.cases (s := 37) rfl (fun g10 => ?_) (fun g10 => ?_)
      ·have sg10 := g10
       try simp only [q1, q2, q3, q4, q5, q6, q7, q8, q9] at sg10
       refine dB 127 g10 ?_ (x := lF fd_51_2)
       refine dB 255 g10 ?_ (x := lD [PV.sl .v _] ty_49)
       refine dB 127 g10 ?_ (x := sM)
       refine dB 639 g10 ?_ (x := B_sub)
       refine dB 2047 g10 ?_ (x := loc_index (k := k - 1) (by decide) sl_49 (by exact ⟨⟩) (by omega) (by exact getm2 (by omega) rfl) (by exact rfl))
       refine dB 4095 g10 ?_ (x := loc_efield (by decide) fd_165_0 (by exact Nat.le_of_ble_eq_true rfl))
       refine dB 8191 g10 ?_ (x := lE [PV.val _] ty_3)
       refine dB 127 g10 ?_ (x := lF fd_165_0)
       refine dB 16511 g10 ?_ (x := lD [PV.val _] ty_3)
       refine dB 65535 g10 ?_ (x := B_geq)
       refine dB 131071 g8 ?_ (x := pkT g10)
       refine dA 262143 ?_ (x := pkF g8)
       refine sw_cond (t := 49) rfl (fun hb11 => ?_) (fun hb11 => ?_)
       ·try simp only [q1, q2, q3, q4, q5, q6, q7, q8, q9] at hb11
        have hbad : adjAll ⟨0, 0, 0⟩ okCond ltField x.Conds = false := adj_no hlt (Bool.eq_false_iff.2 fun hx => by
         have hx := adjStep.1 hx
         rw [hgk] at hx
         obtain ⟨hx1, hx2⟩ := hx
         first
         | (simp_all; done)
         | (simp only [decide_eq_true_eq, ltField] at *; by_cases h0 : k = 0 <;> (try rw [hgp (by omega)] at hx2) <;> omega))
        refine sw_seq ?_
        refine sO [(1, _), (3, _), (4, _), (24, _), (25, _), (26, _)] [(1, _), (4, _)] ?_
        refine sw_reg ?_
        refine rA ?_ (x := kA)
        refine sw_ret ?_
        exact (And.intro (by refine bool_eq ?_; first | exact hbad0.symm | (simp [okQuery, okConds, hbad]; done) | (simp [okQuery, okFields, hn3]; done) | (simp_all [okQuery, okConds, okFields]; done) | (simp_all [okQuery, okConds, okFields]; rfl) | (simp_all [okQuery, okConds, okFields]; omega) | (simp_all [okQuery, okConds, okFields]; intros; omega)) True.intro)
       ·try simp only [q1, q2, q3, q4, q5, q6, q7, q8, q9] at hb11
        refine sw_skip ?_
        refine sO [(1, _), (3, _), (4, _), (24, _), (25, _), (26, _)] [(1, _), (4, _)] ?_
        refine sw_reg ?_
        refine rA ?_ (x := B_add)
        refine rA ?_ (x := sM)
        refine Exists.intro (k + 1) (And.intro (by exact ⟨by omega, by rw [adjTo_succ, ha, Bool.true_and]; refine adjStep.2 ⟨by rw [hgk]; first | assumption | simp_all, ?_⟩; rcases Nat.eq_zero_or_pos k with h0 | h0; (· exact .inl h0); (· right; rw [hgk, hgp h0]; first | (simp only [decide_eq_true_eq, ltField] at *; omega) | (simp_all; done))⟩) (And.intro (by omega) (And.intro (And.intro (by exact ⟨rfl, rfl, rfl, ⟨⟩⟩) (by exact ⟨rfl, ⟨⟩⟩)) (And.intro (by exact And.intro (by exact rfl) (True.intro)) (by exact ⟨⟩)))))
      ·have sg10 := g10
       try simp only [q1, q2, q3, q4, q5, q6, q7, q8, q9] at sg10
       refine dF 127 g10 ?_
       refine dF 255 g10 ?_
       refine dF 127 g10 ?_
       refine dF 639 g10 ?_
       refine dF 2047 g10 ?_
       refine dF 4095 g10 ?_
       refine dF 8191 g10 ?_
       refine dF 127 g10 ?_
       refine dF 16511 g10 ?_
       refine dF 65535 g10 ?_
       refine dB 131071 g8 ?_ (x := pkF g10)
       refine dA 262143 ?_ (x := pkF g8)
       refine sw_cond (t := 49) rfl (fun hb_ => nomatch hb_) (fun hb_ => ?_)
       refine sw_skip ?_
       refine sO [(1, _), (3, _), (4, _), (24, _), (25, _), (26, _)] [(1, _), (4, _)] ?_
       refine sw_reg ?_
       refine rA ?_ (x := B_add)
       refine rA ?_ (x := sM)
       refine Exists.intro (k + 1) (And.intro (by exact ⟨by omega, by rw [adjTo_succ, ha, Bool.true_and]; refine adjStep.2 ⟨by rw [hgk]; first | assumption | simp_all, ?_⟩; rcases Nat.eq_zero_or_pos k with h0 | h0; (· exact .inl h0); (· right; rw [hgk, hgp h0]; first | (simp only [decide_eq_true_eq, ltField] at *; omega) | (simp_all; done))⟩) (And.intro (by omega) (And.intro (And.intro (by exact ⟨rfl, rfl, rfl, ⟨⟩⟩) (by exact ⟨rfl, ⟨⟩⟩)) (And.intro (by exact And.intro (by exact rfl) (True.intro)) (by exact ⟨⟩)))))
    ·try simp only [q1, q2, q3, q4, q5, q6, q7, q8, q9] at hb7
     have hend : k = x.Conds.length := by omega
     have hall : adjAll ⟨0, 0, 0⟩ okCond ltField x.Conds = true := adj_end ha hend
     refine sw_exit ?_
     refine sw_seq ?_
     refine sw_seq ?_
     refine sO [(1, _), (24, _), (25, _), (26, _)] [(1, (51, [PV.val _, PV.val _, PV.sl _ _, PV.sl _ _]))] ?_
     refine sw_reg ?_
     refine rA ?_ (x := lF fd_51_3)
     refine rA ?_ (x := lD [PV.sl .v _] ty_25)
     refine rA ?_ (x := lN sl_25)
     refine rA ?_ (x := kM)
     refine sw_block ?_
     refine sO [(1, _), (24, _), (25, _), (26, _), (52, _), (53, _), (54, _)] [(1, _)] ?_
     refine sw_loop (l0 := [(1, RV.ptr 1 0), (24, RV.sv false [PV.sl _ _]), (25, RV.sv false [PV.val _]), (26, RV.sv false [PV.val _]), (52, RV.sv false [PV.sl _ _]), (53, RV.sv false [PV.val _])]) (b0 := [(1, (51, [PV.val _, PV.val _, PV.sl _ _, PV.sl _ _]))]) (fun k2 : Nat => k2 ≤ x.Out.length ∧ (x.Out.take k2).all okOut = true) (fun k2 : Nat => [(54, RV.int (k2 : Int))]) (fun k2 : Nat => []) (fun k2 : Nat => x.Out.length - k2) 0 (by exact ⟨by omega, by simp⟩) (by exact ⟨rfl, rfl, rfl, rfl, rfl, rfl, ⟨⟩⟩) (by exact ⟨rfl, ⟨⟩⟩) (by exact And.intro (by exact rfl) (True.intro)) (by exact ⟨⟩) ?_
     rintro k2 ⟨hk2, ha2⟩
     refine sw_seq ?_
     refine sw_reg ?_
     refine rA ?_ (x := B_lss)
     refine sw_seq ?_
     refine sw_cond (t := 55) rfl (fun hb13 => ?_) (fun hb13 => ?_)
     ·try simp only [q1, q2, q3, q4, q5, q6, q7, q8, q9] at hb13
      have hlt2 : k2 < x.Out.length := by omega
      refine sw_skip ?_
      refine sw_seq ?_
      refine sw_block ?_
      refine sw_seq ?_
      refine sO [(1, _), (24, _), (25, _), (26, _), (52, _), (53, _), (54, _)] [(1, (51, [PV.val _, PV.val _, PV.sl _ _, PV.sl _ _]))] ?_
      refine sw_reg ?_
      refine rA ?_ (x := loc_index (by decide) sl_25 (by exact ⟨⟩) (by exact rfl) (by exact getm2 (by omega) rfl) (by exact rfl))
      refine rA ?_ (x := lE [PV.val _] ty_3)
      refine rA ?_ (x := sA)
      refine sw_seq ?_
      refine sO [(1, _), (6, _), (24, _), (25, _), (26, _), (52, _), (53, _), (54, _)] [(1, _)] ?_
      refine sw_reg ?_
      refine rA ?_ (x := sM)
      refine rA ?_ (x := cL [(false, [PV.val _])] [(false, [PV.val _])] c_165 (hs := by exact impl_isField))
      refine rA ?_ (x := nT)
      refine sw_cond (t := 60) rfl (fun hb14 => ?_) (fun hb14 => ?_)
      ·try simp only [q1, q2, q3, q4, q5, q6, q7, q8, q9] at hb14
       have hno2 : okOut x.Out[k2] = false := by simpa [okOut] using hb14
       have hn3 : x.Out.all okOut = false := all_no hlt2 hno2
       refine sw_seq ?_
       refine sO [(1, _), (6, _), (24, _), (25, _), (26, _), (52, _), (53, _), (54, _)] [(1, _)] ?_
       refine sw_reg ?_
       refine rA ?_ (x := kA)
       refine sw_ret ?_
       exact (And.intro (by refine bool_eq ?_; first | exact hbad0.symm | (simp [okQuery, okConds, hbad]; done) | (simp [okQuery, okFields, hn3]; done) | (simp_all [okQuery, okConds, okFields]; done) | (simp_all [okQuery, okConds, okFields]; rfl) | (simp_all [okQuery, okConds, okFields]; omega) | (simp_all [okQuery, okConds, okFields]; intros; omega)) True.intro)
      ·try simp only [q1, q2, q3, q4, q5, q6, q7, q8, q9] at hb14
       have hyes : okOut x.Out[k2] = true := by simpa [okOut] using hb14
       refine sw_skip ?_
       refine sO [(1, _), (6, _), (24, _), (25, _), (26, _), (52, _), (53, _), (54, _)] [(1, _)] ?_
       refine sw_reg ?_
       refine rA ?_ (x := B_add)
       refine rA ?_ (x := sM)
       refine Exists.intro (k2 + 1) (And.intro (by exact ⟨by omega, all_succ ha2 hlt2 hyes⟩) (And.intro (by omega) (And.intro (And.intro (by exact ⟨rfl, rfl, rfl, rfl, rfl, rfl, ⟨⟩⟩) (by exact ⟨rfl, ⟨⟩⟩)) (And.intro (by exact And.intro (by exact rfl) (True.intro)) (by exact ⟨⟩)))))
     ·try simp only [q1, q2, q3, q4, q5, q6, q7, q8, q9] at hb13
      have hall2 : x.Out.all okOut = true := all_end (by rw [show x.Out.length = k2 by omega]; exact ha2)
      refine sw_exit ?_
      refine sw_seq ?_
      refine sO [(1, _), (24, _), (25, _), (26, _), (52, _), (53, _), (54, _)] [(1, (51, [PV.val _, PV.val _, PV.sl _ _, PV.sl _ _]))] ?_
      refine sw_reg ?_
      refine rA ?_ (x := lF fd_51_3)
      refine rA ?_ (x := lD [PV.sl .v _] ty_25)
      refine rA ?_ (x := lN sl_25)
      refine rA ?_ (x := cL [(false, [PV.val _]), (false, [PV.val _]), (false, [PV.val _])] [(false, [PV.val _]), (false, [PV.val _]), (false, [PV.val _])] c_92 (hs := by exact impl_within))
      refine rA ?_ (x := sA)
      refine sw_ret ?_
      exact (And.intro (by refine bool_eq ?_; first | exact hbad0.symm | (simp [okQuery, okConds, hbad]; done) | (simp [okQuery, okFields, hn3]; done) | (simp_all [okQuery, okConds, okFields]; done) | (simp_all [okQuery, okConds, okFields]; rfl) | (simp_all [okQuery, okConds, okFields]; omega) | (simp_all [okQuery, okConds, okFields]; intros; omega)) True.intro)
end Go.Proofs.YteflgldonmgejaaGreatDoor
