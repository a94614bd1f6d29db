/- What functions of the program compute. No condition. -/
import Derived.Test.YtaomckpfgmhapaaDoorCDb
import Derived.KernelRfl
set_option linter.unusedVariables false
set_option linter.unusedSimpArgs false
namespace Go.Proofs.YtaomckpfgmhapaaDoor
open Go Go.RowKit M
set_option maxRecDepth 10000
attribute [local irreducible] PV.Lcl PV.LclR RV.Lcl
theorem impl_within {n : Int} {l : Int} {h : Int}  : SCall Tryd.prog 43 [(false, [PV.val (vI n)]), (false, [PV.val (vI l)]), (false, [PV.val (vI h)])] (resRV [(false, [PV.val (.bool (inB n l h))])]) := by
 refine scall_of (rs := [(false, [PV.val (.bool (inB n l h))])]) Tryd.func43 rfl (Nat.le_of_ble_eq_true rfl) (borA_cons (BorL.cons (PV.bor_val _) BorL.nil) (borA_cons (BorL.cons (PV.bor_val _) BorL.nil) (borA_cons (BorL.cons (PV.bor_val _) BorL.nil) borA_nil))) ?_
 intro h0 w0 Fz0
 refine sw_seq ?_
 refine sw_reg ?_
 refine rA ?_ (x := kA)
 refine sw_seq ?_
 refine sO [(0, _), (1, _), (2, _), (6, _)] [] ?_
 refine sw_reg ?_
 refine rA ?_ (x := sM)
 refine rA ?_ (x := sM)
 refine rA ?_ (x := B_geq)
 refine rA ?_ (x := sM)
 refine RunS.cases (s := 10) rfl (fun g1 => ?_) (fun g1 => ?_)
 ·have sg1 := g1
  try simp only [q1, q2, q3, q4, q5, q6, q7, q8, q9] at sg1
  refine rB g1 ?_ (x := sM)
  refine rB g1 ?_ (x := sM)
  refine rB g1 ?_ (x := B_leq)
  refine rA ?_ (x := pkT g1)
  refine rA ?_ (x := sA)
  refine sw_ret ?_
  exact (And.intro (by refine bool_eq ?_; simp [inB, *]) True.intro)
 ·have sg1 := g1
  try simp only [q1, q2, q3, q4, q5, q6, q7, q8, q9] at sg1
  refine RunS.s0f g1 ?_
  refine RunS.s0f g1 ?_
  refine RunS.s0f g1 ?_
  refine rA ?_ (x := pkF g1)
  refine rA ?_ (x := sA)
  refine sw_ret ?_
  exact (And.intro (by refine bool_eq ?_; simp [inB, *]) True.intro)
theorem spec_l1In {n : Int} {l : Int} {h : Int}  : SCall Tryd.prog 39 [(false, [PV.val (vI n)]), (false, [PV.val (vI l)]), (false, [PV.val (vI h)])] (resRV [(false, [PV.val (.bool (inB n l h))])]) := by
 refine scall_of (rs := [(false, [PV.val (.bool (inB n l h))])]) Tryd.func39 rfl (Nat.le_of_ble_eq_true rfl) (borA_cons (BorL.cons (PV.bor_val _) BorL.nil) (borA_cons (BorL.cons (PV.bor_val _) BorL.nil) (borA_cons (BorL.cons (PV.bor_val _) BorL.nil) borA_nil))) ?_
 intro h0 w0 Fz0
 refine sw_seq ?_
 refine sw_reg ?_
 refine rA ?_ (x := kA)
 refine sw_seq ?_
 refine sO [(0, _), (1, _), (2, _), (6, _)] [] ?_
 refine sw_reg ?_
 refine rA ?_ (x := sM)
 refine rA ?_ (x := sM)
 refine rA ?_ (x := B_geq)
 refine rA ?_ (x := sM)
 refine RunS.cases (s := 10) rfl (fun g1 => ?_) (fun g1 => ?_)
 ·have sg1 := g1
  try simp only [q1, q2, q3, q4, q5, q6, q7, q8, q9] at sg1
  refine rB g1 ?_ (x := sM)
  refine rB g1 ?_ (x := sM)
  refine rB g1 ?_ (x := B_leq)
  refine rA ?_ (x := pkT g1)
  refine rA ?_ (x := sA)
  refine sw_ret ?_
  exact (And.intro (by refine bool_eq ?_; simp [inB, *]) True.intro)
 ·have sg1 := g1
  try simp only [q1, q2, q3, q4, q5, q6, q7, q8, q9] at sg1
  refine RunS.s0f g1 ?_
  refine RunS.s0f g1 ?_
  refine RunS.s0f g1 ?_
  refine rA ?_ (x := pkF g1)
  refine rA ?_ (x := sA)
  refine sw_ret ?_
  exact (And.intro (by refine bool_eq ?_; simp [inB, *]) True.intro)
theorem impl_isField {n : Int}  : SCall Tryd.prog 99 [(false, [PV.val (vI n)])] (resRV [(false, [PV.val (.bool (inB n 0 2))])]) := by
 refine scall_of (rs := [(false, [PV.val (.bool (inB n 0 2))])]) Tryd.func99 rfl (Nat.le_of_ble_eq_true rfl) (borA_cons (BorL.cons (PV.bor_val _) BorL.nil) borA_nil) ?_
 intro h0 w0 Fz0
 refine sw_seq ?_
 refine sw_reg ?_
 refine rA ?_ (x := kA)
 refine sw_seq ?_
 refine sO [(0, _), (2, _)] [] ?_
 refine sw_reg ?_
 refine rA ?_ (x := sM)
 refine rA ?_ (x := cL [(false, [PV.val _]), (false, [PV.val _]), (false, [PV.val _])] [(false, [PV.val _]), (false, [PV.val _]), (false, [PV.val _])] c_43 (hs := by exact impl_within))
 refine rA ?_ (x := sA)
 refine sw_ret ?_
 exact (And.intro (by refine bool_eq ?_; simp [inB, *]) True.intro)
theorem impl_IsRow {x : Row}  : SCall Tryd.prog 88 [(true, [PV.val (vI x.Id), PV.sl .v (x.Values.map cInt)])] (resRV [(false, [PV.val (.bool (okRow x))])]) := by
 refine scall_of (rs := [(false, [PV.val (.bool (okRow x))])]) Tryd.func88 rfl (Nat.le_of_ble_eq_true rfl) (borA_cons (BorL.cons (PV.bor_val _) (BorL.cons (PV.bor_sl _) BorL.nil)) borA_nil) ?_
 intro h0 w0 Fz0
 refine sw_slen (s := 0) (j := 1) rfl rfl fun hl0_1 => ?_
 try rw [List.length_map] at hl0_1
 refine sw_seq ?_
 refine sw_reg ?_
 refine RunS.step (by exact ⟨rfl, ⟨⟩⟩) (by exact ⟨⟩) (LocG.of rfl (loc_box (ag := true) (cs := [PV.val _, PV.sl _ _]) (by decide) (by exact ⟨⟩))) (free1 (Free.of_ rfl)) ?_
 refine rA ?_ (x := kA)
 refine sw_seq ?_
 refine sw_seq ?_
 refine sO [(1, _), (2, _)] [(1, (66, [PV.val _, PV.sl _ _]))] ?_
 refine sw_reg ?_
 refine rA ?_ (x := lF fd_66_1)
 refine rA ?_ (x := lD [PV.sl .v _] ty_41)
 refine rA ?_ (x := lN sl_41)
 refine rA ?_ (x := kM)
 refine sw_block ?_
 refine sO [(1, _), (2, _), (6, _), (7, _), (8, _)] [(1, _)] ?_
 refine sw_loop (l0 := [(1, RV.ptr 1 0), (6, RV.sv false [PV.sl _ _]), (7, RV.sv false [PV.val _])]) (b0 := [(1, (66, [PV.val _, PV.sl _ _]))]) (fun k : Nat => k ≤ x.Values.length ∧ (x.Values.take k).all okVal = true) (fun k : Nat => [(8, RV.int (k : Int))]) (fun k : Nat => []) (fun k : Nat => x.Values.length - k) 0 (by exact ⟨by omega, by simp⟩) (by exact ⟨rfl, rfl, rfl, ⟨⟩⟩) (by exact ⟨rfl, ⟨⟩⟩) (by exact And.intro (by exact rfl) (True.intro)) (by exact ⟨⟩) ?_
 rintro k ⟨hk, ha⟩
 refine sw_seq ?_
 refine sw_reg ?_
 refine rA ?_ (x := B_lss)
 refine sw_seq ?_
 refine sw_cond (t := 9) rfl (fun hb1 => ?_) (fun hb1 => ?_)
 ·try simp only [q1, q2, q3, q4, q5, q6, q7, q8, q9] at hb1
  have hlt : k < x.Values.length := by omega
  refine sw_skip ?_
  refine sw_seq ?_
  refine sw_block ?_
  refine sw_seq ?_
  refine sO [(1, _), (6, _), (7, _), (8, _)] [(1, (66, [PV.val _, PV.sl _ _]))] ?_
  refine sw_reg ?_
  refine rA ?_ (x := loc_index (by decide) sl_41 (by exact ⟨⟩) (by exact rfl) (by exact getm2 (by omega) rfl) (by exact rfl))
  refine rA ?_ (x := lE [PV.val _] ty_3)
  refine rA ?_ (x := sA)
  refine sw_seq ?_
  refine sO [(1, _), (4, _), (6, _), (7, _), (8, _)] [(1, _)] ?_
  refine sw_reg ?_
  refine rA ?_ (x := sM)
  refine rA ?_ (x := cL [(false, [PV.val _]), (false, [PV.val _]), (false, [PV.val _])] [(false, [PV.val _]), (false, [PV.val _]), (false, [PV.val _])] c_43 (hs := by exact impl_within))
  refine rA ?_ (x := nT)
  refine sw_cond (t := 14) rfl (fun hb2 => ?_) (fun hb2 => ?_)
  ·try simp only [q1, q2, q3, q4, q5, q6, q7, q8, q9] at hb2
   have hno : okVal x.Values[k] = false := by simpa [okVal] using hb2
   refine sw_seq ?_
   refine sO [(1, _), (4, _), (6, _), (7, _), (8, _)] [(1, _)] ?_
   refine sw_reg ?_
   refine rA ?_ (x := kA)
   refine sw_ret ?_
   exact (And.intro (by refine bool_eq ?_; simp [okRow, beq_dec, all_no (P := okVal) hlt hno]) True.intro)
  ·try simp only [q1, q2, q3, q4, q5, q6, q7, q8, q9] at hb2
   have hyes : okVal x.Values[k] = true := by simpa [okVal] using hb2
   refine sw_skip ?_
   refine sO [(1, _), (4, _), (6, _), (7, _), (8, _)] [(1, _)] ?_
   refine sw_reg ?_
   refine rA ?_ (x := B_add)
   refine rA ?_ (x := sM)
   refine Exists.intro (k + 1) (And.intro (by exact ⟨by omega, all_succ ha hlt hyes⟩) (And.intro (by omega) (And.intro (And.intro (by exact ⟨rfl, rfl, rfl, ⟨⟩⟩) (by exact ⟨rfl, ⟨⟩⟩)) (And.intro (by exact And.intro (by exact rfl) (True.intro)) (by exact ⟨⟩)))))
 ·try simp only [q1, q2, q3, q4, q5, q6, q7, q8, q9] at hb1
  have hall : x.Values.all okVal = true := all_end (by rw [show x.Values.length = k by omega]; exact ha)
  refine sw_exit ?_
  refine sw_seq ?_
  refine sO [(1, _), (6, _), (7, _), (8, _)] [(1, (66, [PV.val _, PV.sl _ _]))] ?_
  refine sw_reg ?_
  refine rA ?_ (x := lF fd_66_0)
  refine rA ?_ (x := lD [PV.val _] ty_3)
  refine rA ?_ (x := cL [(false, [PV.val _]), (false, [PV.val _]), (false, [PV.val _])] [(false, [PV.val _]), (false, [PV.val _]), (false, [PV.val _])] c_43 (hs := by exact impl_within))
  refine rA ?_ (x := sM)
  refine RunS.cases (s := 19) rfl (fun g3 => ?_) (fun g3 => ?_)
  ·have sg3 := g3
   try simp only [q1, q2, q3, q4, q5, q6, q7, q8, q9] at sg3
   refine rB g3 ?_ (x := lF fd_66_1)
   refine rB g3 ?_ (x := lD [PV.sl .v _] ty_41)
   refine rB g3 ?_ (x := lN sl_41)
   refine rB g3 ?_ (x := B_eql)
   refine rA ?_ (x := pkT g3)
   refine rA ?_ (x := sA)
   refine sw_ret ?_
   exact (And.intro (by refine bool_eq ?_; simp [okRow, beq_dec, hall, *]) True.intro)
  ·have sg3 := g3
   try simp only [q1, q2, q3, q4, q5, q6, q7, q8, q9] at sg3
   refine RunS.s0f g3 ?_
   refine RunS.s0f g3 ?_
   refine RunS.s0f g3 ?_
   refine RunS.s0f g3 ?_
   refine rA ?_ (x := pkF g3)
   refine rA ?_ (x := sA)
   refine sw_ret ?_
   exact (And.intro (by refine bool_eq ?_; simp [okRow, beq_dec, hall, *]) True.intro)
theorem spec_IsRow {x : Row}  : SCall Tryd.prog 86 [(true, [PV.val (vI x.Id), PV.sl .v (x.Values.map cInt)])] (resRV [(false, [PV.val (.bool (okRow x))])]) := by
 refine scall_of (rs := [(false, [PV.val (.bool (okRow x))])]) Tryd.func86 rfl (Nat.le_of_ble_eq_true rfl) (borA_cons (BorL.cons (PV.bor_val _) (BorL.cons (PV.bor_sl _) BorL.nil)) borA_nil) ?_
 intro h0 w0 Fz0
 refine sw_slen (s := 0) (j := 1) rfl rfl fun hl0_1 => ?_
 try rw [List.length_map] at hl0_1
 refine sw_seq ?_
 refine sw_reg ?_
 refine RunS.step (by exact ⟨rfl, ⟨⟩⟩) (by exact ⟨⟩) (LocG.of rfl (loc_box (ag := true) (cs := [PV.val _, PV.sl _ _]) (by decide) (by exact ⟨⟩))) (free1 (Free.of_ rfl)) ?_
 refine rA ?_ (x := kA)
 refine sw_seq ?_
 refine sw_seq ?_
 refine sO [(1, _), (2, _)] [(1, (66, [PV.val _, PV.sl _ _]))] ?_
 refine sw_reg ?_
 refine rA ?_ (x := kA)
 refine sw_block ?_
 refine sO [(1, _), (2, _), (3, _)] [(1, _)] ?_
 refine sw_loop (l0 := [(1, RV.ptr 1 0)]) (b0 := [(1, (66, [PV.val _, PV.sl _ _]))]) (fun k : Nat => k ≤ x.Values.length ∧ (x.Values.take k).all okVal = true) (fun k : Nat => [(3, RV.int (k : Int))]) (fun k : Nat => []) (fun k : Nat => x.Values.length - k) 0 (by exact ⟨by omega, by simp⟩) (by exact ⟨rfl, ⟨⟩⟩) (by exact ⟨rfl, ⟨⟩⟩) (by exact And.intro (by exact rfl) (True.intro)) (by exact ⟨⟩) ?_
 rintro k ⟨hk, ha⟩
 refine sw_seq ?_
 refine sw_seq ?_
 refine sw_reg ?_
 refine rA ?_ (x := sM)
 refine rA ?_ (x := lF fd_66_1)
 refine rA ?_ (x := lD [PV.sl .v _] ty_41)
 refine rA ?_ (x := lN sl_41)
 refine rA ?_ (x := B_lss)
 refine sw_cond (t := 8) rfl (fun hb1 => ?_) (fun hb1 => ?_)
 ·try simp only [q1, q2, q3, q4, q5, q6, q7, q8, q9] at hb1
  have hlt : k < x.Values.length := by omega
  refine sw_skip ?_
  refine sw_seq ?_
  refine sw_block ?_
  refine sw_seq ?_
  refine sO [(1, _), (3, _)] [(1, (66, [PV.val _, PV.sl _ _]))] ?_
  refine sw_reg ?_
  refine rA ?_ (x := lF fd_66_1)
  refine rA ?_ (x := lD [PV.sl .v _] ty_41)
  refine rA ?_ (x := sM)
  refine rA ?_ (x := loc_index (by decide) sl_41 (by exact ⟨⟩) (by exact rfl) (by exact getm2 (by omega) rfl) (by exact rfl))
  refine rA ?_ (x := lE [PV.val _] ty_3)
  refine rA ?_ (x := cL [(false, [PV.val _]), (false, [PV.val _]), (false, [PV.val _])] [(false, [PV.val _]), (false, [PV.val _]), (false, [PV.val _])] c_39 (hs := by exact spec_l1In))
  refine rA ?_ (x := nT)
  refine sw_cond (t := 17) rfl (fun hb2 => ?_) (fun hb2 => ?_)
  ·try simp only [q1, q2, q3, q4, q5, q6, q7, q8, q9] at hb2
   have hno : okVal x.Values[k] = false := by simpa [okVal] using hb2
   refine sw_seq ?_
   refine sO [(1, _), (3, _)] [(1, _)] ?_
   refine sw_reg ?_
   refine rA ?_ (x := kA)
   refine sw_ret ?_
   exact (And.intro (by refine bool_eq ?_; simp [okRow, beq_dec, all_no (P := okVal) hlt hno]) True.intro)
  ·try simp only [q1, q2, q3, q4, q5, q6, q7, q8, q9] at hb2
   have hyes : okVal x.Values[k] = true := by simpa [okVal] using hb2
   refine sw_skip ?_
   refine sO [(1, _), (3, _)] [(1, _)] ?_
   refine sw_reg ?_
   refine rA ?_ (x := sM)
   refine rA ?_ (x := B_add)
   refine rA ?_ (x := sA)
   refine Exists.intro (k + 1) (And.intro (by exact ⟨by omega, all_succ ha hlt hyes⟩) (And.intro (by omega) (And.intro (And.intro (by exact ⟨rfl, ⟨⟩⟩) (by exact ⟨rfl, ⟨⟩⟩)) (And.intro (by exact And.intro (by exact rfl) (True.intro)) (by exact ⟨⟩)))))
 ·try simp only [q1, q2, q3, q4, q5, q6, q7, q8, q9] at hb1
  have hall : x.Values.all okVal = true := all_end (by rw [show x.Values.length = k by omega]; exact ha)
  refine sw_exit ?_
  refine sw_seq ?_
  refine sO [(1, _), (3, _)] [(1, (66, [PV.val _, PV.sl _ _]))] ?_
  refine sw_reg ?_
  refine rA ?_ (x := lF fd_66_0)
  refine rA ?_ (x := lD [PV.val _] ty_3)
  refine rA ?_ (x := cL [(false, [PV.val _]), (false, [PV.val _]), (false, [PV.val _])] [(false, [PV.val _]), (false, [PV.val _]), (false, [PV.val _])] c_39 (hs := by exact spec_l1In))
  refine rA ?_ (x := sM)
  refine RunS.cases (s := 21) rfl (fun g3 => ?_) (fun g3 => ?_)
  ·have sg3 := g3
   try simp only [q1, q2, q3, q4, q5, q6, q7, q8, q9] at sg3
   refine rB g3 ?_ (x := lF fd_66_1)
   refine rB g3 ?_ (x := lD [PV.sl .v _] ty_41)
   refine rB g3 ?_ (x := lN sl_41)
   refine rB g3 ?_ (x := B_eql)
   refine rA ?_ (x := pkT g3)
   refine rA ?_ (x := sA)
   refine sw_ret ?_
   exact (And.intro (by refine bool_eq ?_; simp [okRow, beq_dec, hall, *]) True.intro)
  ·have sg3 := g3
   try simp only [q1, q2, q3, q4, q5, q6, q7, q8, q9] at sg3
   refine RunS.s0f g3 ?_
   refine RunS.s0f g3 ?_
   refine RunS.s0f g3 ?_
   refine RunS.s0f g3 ?_
   refine rA ?_ (x := pkF g3)
   refine rA ?_ (x := sA)
   refine sw_ret ?_
   exact (And.intro (by refine bool_eq ?_; simp [okRow, beq_dec, hall, *]) True.intro)
end Go.Proofs.YtaomckpfgmhapaaDoor
