/- What functions of the program compute. No condition. -/
import Derived.Test.YteflgldonmgejaaGreatDoorCDb
import Derived.KernelRfl
set_option linter.unusedVariables false
set_option linter.unusedSimpArgs false
namespace Go.Proofs.YteflgldonmgejaaGreatDoor
open Go Go.RowKit M
set_option maxRecDepth 10000
attribute [local irreducible] PV.Lcl PV.LclR RV.Lcl
theorem impl_within {n : Int} {l : Int} {h : Int}  : SCall Tryz.prog 92 [(false, [PV.val (vI n)]), (false, [PV.val (vI l)]), (false, [PV.val (vI h)])] (resRV [(false, [PV.val (.bool (inB n l h))])]) := by
 refine scall_of (rs := [(false, [PV.val (.bool (inB n l h))])]) Tryz.func92 rfl (Nat.le_of_ble_eq_true rfl) (borA_cons (BorL.cons (PV.bor_val _) BorL.nil) (borA_cons (BorL.cons (PV.bor_val _) BorL.nil) (borA_cons (BorL.cons (PV.bor_val _) BorL.nil) borA_nil))) ?_
 intro h0 w0 Fz0
 refine sw_seq ?_
 refine sw_reg ?_
 refine rA ?_ (x := kA)
 refine sw_seq ?_
 refine sO [(0, _), (1, _), (2, _), (6, _)] [] ?_
 refine sw_reg ?_
 refine rA ?_ (x := sM)
 refine rA ?_ (x := sM)
 refine rA ?_ (x := B_geq)
 refine rA ?_ (x := sM)
 refine RunS.cases (s := 10) rfl (fun g1 => ?_) (fun g1 => ?_)
 ·have sg1 := g1
  try simp only [q1, q2, q3, q4, q5, q6, q7, q8, q9] at sg1
  refine rB g1 ?_ (x := sM)
  refine rB g1 ?_ (x := sM)
  refine rB g1 ?_ (x := B_leq)
  refine rA ?_ (x := pkT g1)
  refine rA ?_ (x := sA)
  refine sw_ret ?_
  exact (And.intro (by refine bool_eq ?_; simp [inB, *]) True.intro)
 ·have sg1 := g1
  try simp only [q1, q2, q3, q4, q5, q6, q7, q8, q9] at sg1
  refine RunS.s0f g1 ?_
  refine RunS.s0f g1 ?_
  refine RunS.s0f g1 ?_
  refine rA ?_ (x := pkF g1)
  refine rA ?_ (x := sA)
  refine sw_ret ?_
  exact (And.intro (by refine bool_eq ?_; simp [inB, *]) True.intro)
theorem spec_l1In {n : Int} {l : Int} {h : Int}  : SCall Tryz.prog 80 [(false, [PV.val (vI n)]), (false, [PV.val (vI l)]), (false, [PV.val (vI h)])] (resRV [(false, [PV.val (.bool (inB n l h))])]) := by
 refine scall_of (rs := [(false, [PV.val (.bool (inB n l h))])]) Tryz.func80 rfl (Nat.le_of_ble_eq_true rfl) (borA_cons (BorL.cons (PV.bor_val _) BorL.nil) (borA_cons (BorL.cons (PV.bor_val _) BorL.nil) (borA_cons (BorL.cons (PV.bor_val _) BorL.nil) borA_nil))) ?_
 intro h0 w0 Fz0
 refine sw_seq ?_
 refine sw_reg ?_
 refine rA ?_ (x := kA)
 refine sw_seq ?_
 refine sO [(0, _), (1, _), (2, _), (6, _)] [] ?_
 refine sw_reg ?_
 refine rA ?_ (x := sM)
 refine rA ?_ (x := sM)
 refine rA ?_ (x := B_geq)
 refine rA ?_ (x := sM)
 refine RunS.cases (s := 10) rfl (fun g1 => ?_) (fun g1 => ?_)
 ·have sg1 := g1
  try simp only [q1, q2, q3, q4, q5, q6, q7, q8, q9] at sg1
  refine rB g1 ?_ (x := sM)
  refine rB g1 ?_ (x := sM)
  refine rB g1 ?_ (x := B_leq)
  refine rA ?_ (x := pkT g1)
  refine rA ?_ (x := sA)
  refine sw_ret ?_
  exact (And.intro (by refine bool_eq ?_; simp [inB, *]) True.intro)
 ·have sg1 := g1
  try simp only [q1, q2, q3, q4, q5, q6, q7, q8, q9] at sg1
  refine RunS.s0f g1 ?_
  refine RunS.s0f g1 ?_
  refine RunS.s0f g1 ?_
  refine rA ?_ (x := pkF g1)
  refine rA ?_ (x := sA)
  refine sw_ret ?_
  exact (And.intro (by refine bool_eq ?_; simp [inB, *]) True.intro)
theorem impl_isField {n : Int}  : SCall Tryz.prog 165 [(false, [PV.val (vI n)])] (resRV [(false, [PV.val (.bool (inB n 0 2))])]) := by
 refine scall_of (rs := [(false, [PV.val (.bool (inB n 0 2))])]) Tryz.func165 rfl (Nat.le_of_ble_eq_true rfl) (borA_cons (BorL.cons (PV.bor_val _) BorL.nil) borA_nil) ?_
 intro h0 w0 Fz0
 refine sw_seq ?_
 refine sw_reg ?_
 refine rA ?_ (x := kA)
 refine sw_seq ?_
 refine sO [(0, _), (2, _)] [] ?_
 refine sw_reg ?_
 refine rA ?_ (x := sM)
 refine rA ?_ (x := cL [(false, [PV.val _]), (false, [PV.val _]), (false, [PV.val _])] [(false, [PV.val _]), (false, [PV.val _]), (false, [PV.val _])] c_92 (hs := by exact impl_within))
 refine rA ?_ (x := sA)
 refine sw_ret ?_
 exact (And.intro (by refine bool_eq ?_; simp [inB, *]) True.intro)
theorem spec_HasMember {xs : List Int} {x : Int}  : SCall Tryz.prog 151 [(false, [PV.sl .v (xs.map cInt)]), (false, [PV.val (vI x)])] (resRV [(false, [PV.val (.bool (hasI xs x))])]) := by
 refine scall_of (rs := [(false, [PV.val (.bool (hasI xs x))])]) Tryz.func151 rfl (Nat.le_of_ble_eq_true rfl) (borA_cons (BorL.cons (PV.bor_sl _) BorL.nil) (borA_cons (BorL.cons (PV.bor_val _) BorL.nil) borA_nil)) ?_
 intro h0 w0 Fz0
 refine sw_len (s := 0) rfl fun hl0 => ?_
 try rw [List.length_map] at hl0
 refine sw_seq ?_
 refine sw_reg ?_
 refine rA ?_ (x := kA)
 refine sw_seq ?_
 refine sw_seq ?_
 refine sO [(0, _), (1, _), (4, _)] [] ?_
 refine sw_reg ?_
 refine rA ?_ (x := kA)
 refine sw_block ?_
 refine sO [(0, _), (1, _), (4, _), (5, _)] [] ?_
 refine sw_loop (l0 := [(0, RV.sv false [PV.sl _ _]), (1, RV.sv false [PV.val _])]) (b0 := []) (fun k : Nat => k ≤ xs.length ∧ (xs.take k).any (fun y => y == x) = false) (fun k : Nat => [(5, RV.int (k : Int))]) (fun k : Nat => []) (fun k : Nat => xs.length - k) 0 (by exact ⟨by omega, by simp⟩) (by exact ⟨rfl, rfl, ⟨⟩⟩) (by exact ⟨⟩) (by exact And.intro (by exact rfl) (True.intro)) (by exact ⟨⟩) ?_
 rintro k ⟨hk, ha⟩
 refine sw_seq ?_
 refine sw_seq ?_
 refine sw_reg ?_
 refine rA ?_ (x := sM)
 refine rA ?_ (x := vM false [PV.sl .v _])
 refine rA ?_ (x := lN sl_25)
 refine rA ?_ (x := B_lss)
 refine sw_cond (t := 9) rfl (fun hb1 => ?_) (fun hb1 => ?_)
 ·try simp only [q1, q2, q3, q4, q5, q6, q7, q8, q9] at hb1
  have hlt : k < xs.length := by omega
  refine sw_skip ?_
  refine sw_seq ?_
  refine sw_block ?_
  refine sw_seq ?_
  refine sO [(0, _), (1, _), (5, _)] [] ?_
  refine sw_reg ?_
  refine rA ?_ (x := vM false [PV.sl .v _])
  refine rA ?_ (x := sM)
  refine rA ?_ (x := loc_index (by decide) sl_25 (by exact ⟨⟩) (by exact rfl) (by exact getm2 (by omega) rfl) (by exact rfl))
  refine rA ?_ (x := lE [PV.val _] ty_3)
  refine rA ?_ (x := sM)
  refine rA ?_ (x := B_eql)
  refine sw_cond (t := 17) rfl (fun hb2 => ?_) (fun hb2 => ?_)
  ·try simp only [q1, q2, q3, q4, q5, q6, q7, q8, q9] at hb2
   refine sw_seq ?_
   refine sO [(0, _), (1, _), (5, _)] [] ?_
   refine sw_reg ?_
   refine rA ?_ (x := kA)
   refine sw_ret ?_
   exact (And.intro (by refine bool_eq ?_; exact (any_yes (P := fun y => y == x) hlt (by simpa using ‹_ = x›)).symm) True.intro)
  ·try simp only [q1, q2, q3, q4, q5, q6, q7, q8, q9] at hb2
   refine sw_skip ?_
   refine sO [(0, _), (1, _), (5, _)] [] ?_
   refine sw_reg ?_
   refine rA ?_ (x := sM)
   refine rA ?_ (x := B_add)
   refine rA ?_ (x := sA)
   refine Exists.intro (k + 1) (And.intro (by exact ⟨by omega, any_succ ha ‹_› (by simpa using ‹¬ _›)⟩) (And.intro (by omega) (And.intro (And.intro (by exact ⟨rfl, rfl, ⟨⟩⟩) (by exact ⟨⟩)) (And.intro (by exact And.intro (by exact rfl) (True.intro)) (by exact ⟨⟩)))))
 ·try simp only [q1, q2, q3, q4, q5, q6, q7, q8, q9] at hb1
  refine sw_exit ?_
  refine sw_seq ?_
  refine sO [(0, _), (1, _), (5, _)] [] ?_
  refine sw_reg ?_
  refine rA ?_ (x := kA)
  refine sw_ret ?_
  exact (And.intro (by refine bool_eq ?_; exact (any_end (by rw [show xs.length = k by omega]; exact ha)).symm) True.intro)
theorem impl_hasInt {xs : List Int} {x : Int}  : SCall Tryz.prog 163 [(false, [PV.sl .v (xs.map cInt)]), (false, [PV.val (vI x)])] (resRV [(false, [PV.val (.bool (hasI xs x))])]) := by
 refine scall_of (rs := [(false, [PV.val (.bool (hasI xs x))])]) Tryz.func163 rfl (Nat.le_of_ble_eq_true rfl) (borA_cons (BorL.cons (PV.bor_sl _) BorL.nil) (borA_cons (BorL.cons (PV.bor_val _) BorL.nil) borA_nil)) ?_
 intro h0 w0 Fz0
 refine sw_len (s := 0) rfl fun hl0 => ?_
 try rw [List.length_map] at hl0
 refine sw_seq ?_
 refine sw_reg ?_
 refine rA ?_ (x := kA)
 refine sw_seq ?_
 refine sw_seq ?_
 refine sO [(0, _), (1, _), (4, _)] [] ?_
 refine sw_reg ?_
 refine rA ?_ (x := vM false [PV.sl .v _])
 refine rA ?_ (x := lN sl_25)
 refine rA ?_ (x := kM)
 refine sw_block ?_
 refine sO [(0, _), (1, _), (4, _), (7, _), (8, _), (9, _)] [] ?_
 refine sw_loop (l0 := [(0, RV.sv false [PV.sl _ _]), (1, RV.sv false [PV.val _]), (7, RV.sv false [PV.sl _ _]), (8, RV.sv false [PV.val _])]) (b0 := []) (fun k : Nat => k ≤ xs.length ∧ (xs.take k).any (fun y => y == x) = false) (fun k : Nat => [(9, RV.int (k : Int))]) (fun k : Nat => []) (fun k : Nat => xs.length - k) 0 (by exact ⟨by omega, by simp⟩) (by exact ⟨rfl, rfl, rfl, rfl, ⟨⟩⟩) (by exact ⟨⟩) (by exact And.intro (by exact rfl) (True.intro)) (by exact ⟨⟩) ?_
 rintro k ⟨hk, ha⟩
 refine sw_seq ?_
 refine sw_reg ?_
 refine rA ?_ (x := B_lss)
 refine sw_seq ?_
 refine sw_cond (t := 10) rfl (fun hb1 => ?_) (fun hb1 => ?_)
 ·try simp only [q1, q2, q3, q4, q5, q6, q7, q8, q9] at hb1
  have hlt : k < xs.length := by omega
  refine sw_skip ?_
  refine sw_seq ?_
  refine sw_block ?_
  refine sw_seq ?_
  refine sO [(0, _), (1, _), (7, _), (8, _), (9, _)] [] ?_
  refine sw_reg ?_
  refine rA ?_ (x := loc_index (by decide) sl_25 (by exact ⟨⟩) (by exact rfl) (by exact getm2 (by omega) rfl) (by exact rfl))
  refine rA ?_ (x := lE [PV.val _] ty_3)
  refine rA ?_ (x := sA)
  refine sw_seq ?_
  refine sO [(0, _), (1, _), (6, _), (7, _), (8, _), (9, _)] [] ?_
  refine sw_reg ?_
  refine rA ?_ (x := sM)
  refine rA ?_ (x := sM)
  refine rA ?_ (x := B_eql)
  refine sw_cond (t := 15) rfl (fun hb2 => ?_) (fun hb2 => ?_)
  ·try simp only [q1, q2, q3, q4, q5, q6, q7, q8, q9] at hb2
   refine sw_seq ?_
   refine sO [(0, _), (1, _), (6, _), (7, _), (8, _), (9, _)] [] ?_
   refine sw_reg ?_
   refine rA ?_ (x := kA)
   refine sw_ret ?_
   exact (And.intro (by refine bool_eq ?_; exact (any_yes (P := fun y => y == x) hlt (by simpa using ‹_ = x›)).symm) True.intro)
  ·try simp only [q1, q2, q3, q4, q5, q6, q7, q8, q9] at hb2
   refine sw_skip ?_
   refine sO [(0, _), (1, _), (6, _), (7, _), (8, _), (9, _)] [] ?_
   refine sw_reg ?_
   refine rA ?_ (x := B_add)
   refine rA ?_ (x := sM)
   refine Exists.intro (k + 1) (And.intro (by exact ⟨by omega, any_succ ha ‹_› (by simpa using ‹¬ _›)⟩) (And.intro (by omega) (And.intro (And.intro (by exact ⟨rfl, rfl, rfl, rfl, ⟨⟩⟩) (by exact ⟨⟩)) (And.intro (by exact And.intro (by exact rfl) (True.intro)) (by exact ⟨⟩)))))
 ·try simp only [q1, q2, q3, q4, q5, q6, q7, q8, q9] at hb1
  refine sw_exit ?_
  refine sw_seq ?_
  refine sO [(0, _), (1, _), (7, _), (8, _), (9, _)] [] ?_
  refine sw_reg ?_
  refine rA ?_ (x := kA)
  refine sw_ret ?_
  exact (And.intro (by refine bool_eq ?_; exact (any_end (by rw [show xs.length = k by omega]; exact ha)).symm) True.intro)
theorem impl_copyInts {x : List Int}  (hb : x.length ≤ 68719476736) : SCall Tryz.prog 207 [(false, [PV.sl .v (x.map cInt)])] (resRV [(false, [PV.sl (.own 3 1) (x.map cInt)])]) := by
 refine scall_of (rs := [(false, [PV.sl (.own 3 1) (x.map cInt)])]) Tryz.func207 rfl (Nat.le_of_ble_eq_true rfl) (borA_cons (BorL.cons (PV.bor_sl _) BorL.nil) borA_nil) ?_
 intro h0 w0 Fz0
 refine sw_len (s := 0) rfl fun hl0 => ?_
 try rw [List.length_map] at hl0
 refine sw_seq ?_
 refine sw_reg ?_
 refine rA ?_ (x := loc_const (.inr rfl) (by decide) (ok_nil (t := 3) (e := 1)))
 refine sw_seq ?_
 refine sO [(0, _), (2, _)] [] ?_
 refine sw_reg ?_
 refine rA ?_ (x := loc_bslice (qs := []) (by decide) sl_25 z_3 (by decide) rfl rfl rfl rfl rfl (by exact Nat.le_of_ble_eq_true rfl) (by exact ⟨⟩) rfl)
 refine rA ?_ (x := vM false [PV.sl .v _])
 refine rA ?_ (x := loc_appendb (by decide) sl_25 z_3 rfl rfl (by decide) (by first | (intro cs hcs; obtain ⟨x, _, rfl⟩ := List.mem_map.1 hcs; exact rfl) | simp) (by first | (intro cs hcs; obtain ⟨x, _, rfl⟩ := List.mem_map.1 hcs; exact (BorL.cons (PV.bor_val _) BorL.nil)) | simp) (by simp only [List.length_map, List.length_append, List.length_cons, List.length_nil]; omega) (by simp only [List.length_map, List.length_append, List.length_cons, List.length_nil]; omega))
 refine rA ?_ (x := tA)
 refine sw_ret ?_
 exact (And.intro (by exact rfl) True.intro)
theorem impl_IsRow {x : Row}  : SCall Tryz.prog 160 [(true, [PV.val (vI x.Id), PV.sl .v (x.Values.map cInt)])] (resRV [(false, [PV.val (.bool (okRow x))])]) := by
 refine scall_of (rs := [(false, [PV.val (.bool (okRow x))])]) Tryz.func160 rfl (Nat.le_of_ble_eq_true rfl) (borA_cons (BorL.cons (PV.bor_val _) (BorL.cons (PV.bor_sl _) BorL.nil)) borA_nil) ?_
 intro h0 w0 Fz0
 refine sw_slen (s := 0) (j := 1) rfl rfl fun hl0_1 => ?_
 try rw [List.length_map] at hl0_1
 refine sw_seq ?_
 refine sw_reg ?_
 refine RunS.step (by exact ⟨rfl, ⟨⟩⟩) (by exact ⟨⟩) (LocG.of rfl (loc_box (ag := true) (cs := [PV.val _, PV.sl _ _]) (by decide) (by exact ⟨⟩))) (free1 (Free.of_ rfl)) ?_
 refine rA ?_ (x := kA)
 refine sw_seq ?_
 refine sw_seq ?_
 refine sO [(1, _), (2, _)] [(1, (53, [PV.val _, PV.sl _ _]))] ?_
 refine sw_reg ?_
 refine rA ?_ (x := lF fd_53_1)
 refine rA ?_ (x := lD [PV.sl .v _] ty_25)
 refine rA ?_ (x := lN sl_25)
 refine rA ?_ (x := kM)
 refine sw_block ?_
 refine sO [(1, _), (2, _), (6, _), (7, _), (8, _)] [(1, _)] ?_
 refine sw_loop (l0 := [(1, RV.ptr 1 0), (6, RV.sv false [PV.sl _ _]), (7, RV.sv false [PV.val _])]) (b0 := [(1, (53, [PV.val _, PV.sl _ _]))]) (fun k : Nat => k ≤ x.Values.length ∧ (x.Values.take k).all okVal = true) (fun k : Nat => [(8, RV.int (k : Int))]) (fun k : Nat => []) (fun k : Nat => x.Values.length - k) 0 (by exact ⟨by omega, by simp⟩) (by exact ⟨rfl, rfl, rfl, ⟨⟩⟩) (by exact ⟨rfl, ⟨⟩⟩) (by exact And.intro (by exact rfl) (True.intro)) (by exact ⟨⟩) ?_
 rintro k ⟨hk, ha⟩
 refine sw_seq ?_
 refine sw_reg ?_
 refine rA ?_ (x := B_lss)
 refine sw_seq ?_
 refine sw_cond (t := 9) rfl (fun hb1 => ?_) (fun hb1 => ?_)
 ·try simp only [q1, q2, q3, q4, q5, q6, q7, q8, q9] at hb1
  have hlt : k < x.Values.length := by omega
  refine sw_skip ?_
  refine sw_seq ?_
  refine sw_block ?_
  refine sw_seq ?_
  refine sO [(1, _), (6, _), (7, _), (8, _)] [(1, (53, [PV.val _, PV.sl _ _]))] ?_
  refine sw_reg ?_
  refine rA ?_ (x := loc_index (by decide) sl_25 (by exact ⟨⟩) (by exact rfl) (by exact getm2 (by omega) rfl) (by exact rfl))
  refine rA ?_ (x := lE [PV.val _] ty_3)
  refine rA ?_ (x := sA)
  refine sw_seq ?_
  refine sO [(1, _), (4, _), (6, _), (7, _), (8, _)] [(1, _)] ?_
  refine sw_reg ?_
  refine rA ?_ (x := sM)
  refine rA ?_ (x := cL [(false, [PV.val _]), (false, [PV.val _]), (false, [PV.val _])] [(false, [PV.val _]), (false, [PV.val _]), (false, [PV.val _])] c_92 (hs := by exact impl_within))
  refine rA ?_ (x := nT)
  refine sw_cond (t := 14) rfl (fun hb2 => ?_) (fun hb2 => ?_)
  ·try simp only [q1, q2, q3, q4, q5, q6, q7, q8, q9] at hb2
   have hno : okVal x.Values[k] = false := by simpa [okVal] using hb2
   refine sw_seq ?_
   refine sO [(1, _), (4, _), (6, _), (7, _), (8, _)] [(1, _)] ?_
   refine sw_reg ?_
   refine rA ?_ (x := kA)
   refine sw_ret ?_
   exact (And.intro (by refine bool_eq ?_; simp [okRow, beq_dec, all_no (P := okVal) hlt hno]) True.intro)
  ·try simp only [q1, q2, q3, q4, q5, q6, q7, q8, q9] at hb2
   have hyes : okVal x.Values[k] = true := by simpa [okVal] using hb2
   refine sw_skip ?_
   refine sO [(1, _), (4, _), (6, _), (7, _), (8, _)] [(1, _)] ?_
   refine sw_reg ?_
   refine rA ?_ (x := B_add)
   refine rA ?_ (x := sM)
   refine Exists.intro (k + 1) (And.intro (by exact ⟨by omega, all_succ ha hlt hyes⟩) (And.intro (by omega) (And.intro (And.intro (by exact ⟨rfl, rfl, rfl, ⟨⟩⟩) (by exact ⟨rfl, ⟨⟩⟩)) (And.intro (by exact And.intro (by exact rfl) (True.intro)) (by exact ⟨⟩)))))
 ·try simp only [q1, q2, q3, q4, q5, q6, q7, q8, q9] at hb1
  have hall : x.Values.all okVal = true := all_end (by rw [show x.Values.length = k by omega]; exact ha)
  refine sw_exit ?_
  refine sw_seq ?_
  refine sO [(1, _), (6, _), (7, _), (8, _)] [(1, (53, [PV.val _, PV.sl _ _]))] ?_
  refine sw_reg ?_
  refine rA ?_ (x := lF fd_53_0)
  refine rA ?_ (x := lD [PV.val _] ty_3)
  refine rA ?_ (x := cL [(false, [PV.val _]), (false, [PV.val _]), (false, [PV.val _])] [(false, [PV.val _]), (false, [PV.val _]), (false, [PV.val _])] c_92 (hs := by exact impl_within))
  refine rA ?_ (x := sM)
  refine RunS.cases (s := 19) rfl (fun g3 => ?_) (fun g3 => ?_)
  ·have sg3 := g3
   try simp only [q1, q2, q3, q4, q5, q6, q7, q8, q9] at sg3
   refine rB g3 ?_ (x := lF fd_53_1)
   refine rB g3 ?_ (x := lD [PV.sl .v _] ty_25)
   refine rB g3 ?_ (x := lN sl_25)
   refine rB g3 ?_ (x := B_eql)
   refine rA ?_ (x := pkT g3)
   refine rA ?_ (x := sA)
   refine sw_ret ?_
   exact (And.intro (by refine bool_eq ?_; simp [okRow, beq_dec, hall, *]) True.intro)
  ·have sg3 := g3
   try simp only [q1, q2, q3, q4, q5, q6, q7, q8, q9] at sg3
   refine RunS.s0f g3 ?_
   refine RunS.s0f g3 ?_
   refine RunS.s0f g3 ?_
   refine RunS.s0f g3 ?_
   refine rA ?_ (x := pkF g3)
   refine rA ?_ (x := sA)
   refine sw_ret ?_
   exact (And.intro (by refine bool_eq ?_; simp [okRow, beq_dec, hall, *]) True.intro)
theorem spec_IsRow {x : Row}  : SCall Tryz.prog 155 [(true, [PV.val (vI x.Id), PV.sl .v (x.Values.map cInt)])] (resRV [(false, [PV.val (.bool (okRow x))])]) := by
 refine scall_of (rs := [(false, [PV.val (.bool (okRow x))])]) Tryz.func155 rfl (Nat.le_of_ble_eq_true rfl) (borA_cons (BorL.cons (PV.bor_val _) (BorL.cons (PV.bor_sl _) BorL.nil)) borA_nil) ?_
 intro h0 w0 Fz0
 refine sw_slen (s := 0) (j := 1) rfl rfl fun hl0_1 => ?_
 try rw [List.length_map] at hl0_1
 refine sw_seq ?_
 refine sw_reg ?_
 refine RunS.step (by exact ⟨rfl, ⟨⟩⟩) (by exact ⟨⟩) (LocG.of rfl (loc_box (ag := true) (cs := [PV.val _, PV.sl _ _]) (by decide) (by exact ⟨⟩))) (free1 (Free.of_ rfl)) ?_
 refine rA ?_ (x := kA)
 refine sw_seq ?_
 refine sw_seq ?_
 refine sO [(1, _), (2, _)] [(1, (53, [PV.val _, PV.sl _ _]))] ?_
 refine sw_reg ?_
 refine rA ?_ (x := kA)
 refine sw_block ?_
 refine sO [(1, _), (2, _), (3, _)] [(1, _)] ?_
 refine sw_loop (l0 := [(1, RV.ptr 1 0)]) (b0 := [(1, (53, [PV.val _, PV.sl _ _]))]) (fun k : Nat => k ≤ x.Values.length ∧ (x.Values.take k).all okVal = true) (fun k : Nat => [(3, RV.int (k : Int))]) (fun k : Nat => []) (fun k : Nat => x.Values.length - k) 0 (by exact ⟨by omega, by simp⟩) (by exact ⟨rfl, ⟨⟩⟩) (by exact ⟨rfl, ⟨⟩⟩) (by exact And.intro (by exact rfl) (True.intro)) (by exact ⟨⟩) ?_
 rintro k ⟨hk, ha⟩
 refine sw_seq ?_
 refine sw_seq ?_
 refine sw_reg ?_
 refine rA ?_ (x := sM)
 refine rA ?_ (x := lF fd_53_1)
 refine rA ?_ (x := lD [PV.sl .v _] ty_25)
 refine rA ?_ (x := lN sl_25)
 refine rA ?_ (x := B_lss)
 refine sw_cond (t := 8) rfl (fun hb1 => ?_) (fun hb1 => ?_)
 ·try simp only [q1, q2, q3, q4, q5, q6, q7, q8, q9] at hb1
  have hlt : k < x.Values.length := by omega
  refine sw_skip ?_
  refine sw_seq ?_
  refine sw_block ?_
  refine sw_seq ?_
  refine sO [(1, _), (3, _)] [(1, (53, [PV.val _, PV.sl _ _]))] ?_
  refine sw_reg ?_
  refine rA ?_ (x := lF fd_53_1)
  refine rA ?_ (x := lD [PV.sl .v _] ty_25)
  refine rA ?_ (x := sM)
  refine rA ?_ (x := loc_index (by decide) sl_25 (by exact ⟨⟩) (by exact rfl) (by exact getm2 (by omega) rfl) (by exact rfl))
  refine rA ?_ (x := lE [PV.val _] ty_3)
  refine rA ?_ (x := cL [(false, [PV.val _]), (false, [PV.val _]), (false, [PV.val _])] [(false, [PV.val _]), (false, [PV.val _]), (false, [PV.val _])] c_80 (hs := by exact spec_l1In))
  refine rA ?_ (x := nT)
  refine sw_cond (t := 17) rfl (fun hb2 => ?_) (fun hb2 => ?_)
  ·try simp only [q1, q2, q3, q4, q5, q6, q7, q8, q9] at hb2
   have hno : okVal x.Values[k] = false := by simpa [okVal] using hb2
   refine sw_seq ?_
   refine sO [(1, _), (3, _)] [(1, _)] ?_
   refine sw_reg ?_
   refine rA ?_ (x := kA)
   refine sw_ret ?_
   exact (And.intro (by refine bool_eq ?_; simp [okRow, beq_dec, all_no (P := okVal) hlt hno]) True.intro)
  ·try simp only [q1, q2, q3, q4, q5, q6, q7, q8, q9] at hb2
   have hyes : okVal x.Values[k] = true := by simpa [okVal] using hb2
   refine sw_skip ?_
   refine sO [(1, _), (3, _)] [(1, _)] ?_
   refine sw_reg ?_
   refine rA ?_ (x := sM)
   refine rA ?_ (x := B_add)
   refine rA ?_ (x := sA)
   refine Exists.intro (k + 1) (And.intro (by exact ⟨by omega, all_succ ha hlt hyes⟩) (And.intro (by omega) (And.intro (And.intro (by exact ⟨rfl, ⟨⟩⟩) (by exact ⟨rfl, ⟨⟩⟩)) (And.intro (by exact And.intro (by exact rfl) (True.intro)) (by exact ⟨⟩)))))
 ·try simp only [q1, q2, q3, q4, q5, q6, q7, q8, q9] at hb1
  have hall : x.Values.all okVal = true := all_end (by rw [show x.Values.length = k by omega]; exact ha)
  refine sw_exit ?_
  refine sw_seq ?_
  refine sO [(1, _), (3, _)] [(1, (53, [PV.val _, PV.sl _ _]))] ?_
  refine sw_reg ?_
  refine rA ?_ (x := lF fd_53_0)
  refine rA ?_ (x := lD [PV.val _] ty_3)
  refine rA ?_ (x := cL [(false, [PV.val _]), (false, [PV.val _]), (false, [PV.val _])] [(false, [PV.val _]), (false, [PV.val _]), (false, [PV.val _])] c_80 (hs := by exact spec_l1In))
  refine rA ?_ (x := sM)
  refine RunS.cases (s := 21) rfl (fun g3 => ?_) (fun g3 => ?_)
  ·have sg3 := g3
   try simp only [q1, q2, q3, q4, q5, q6, q7, q8, q9] at sg3
   refine rB g3 ?_ (x := lF fd_53_1)
   refine rB g3 ?_ (x := lD [PV.sl .v _] ty_25)
   refine rB g3 ?_ (x := lN sl_25)
   refine rB g3 ?_ (x := B_eql)
   refine rA ?_ (x := pkT g3)
   refine rA ?_ (x := sA)
   refine sw_ret ?_
   exact (And.intro (by refine bool_eq ?_; simp [okRow, beq_dec, hall, *]) True.intro)
  ·have sg3 := g3
   try simp only [q1, q2, q3, q4, q5, q6, q7, q8, q9] at sg3
   refine RunS.s0f g3 ?_
   refine RunS.s0f g3 ?_
   refine RunS.s0f g3 ?_
   refine RunS.s0f g3 ?_
   refine rA ?_ (x := pkF g3)
   refine rA ?_ (x := sA)
   refine sw_ret ?_
   exact (And.intro (by refine bool_eq ?_; simp [okRow, beq_dec, hall, *]) True.intro)
theorem impl_allRows {p1 : Fl} {x : List Row}  : SCall Tryz.prog 166 [(false, [PV.sl .v (x.map (cRow p1))])] (resRV [(false, [PV.val (.bool (x.all okRow))])]) := by
 refine scall_of (rs := [(false, [PV.val (.bool (x.all okRow))])]) Tryz.func166 rfl (Nat.le_of_ble_eq_true rfl) (borA_cons (BorL.cons (PV.bor_sl _) BorL.nil) borA_nil) ?_
 intro h0 w0 Fz0
 refine sw_len (s := 0) rfl fun hl0 => ?_
 try rw [List.length_map] at hl0
 refine sw_seq ?_
 refine sw_reg ?_
 refine rA ?_ (x := kA)
 refine sw_seq ?_
 refine sw_seq ?_
 refine sO [(0, _), (2, _)] [] ?_
 refine sw_reg ?_
 refine rA ?_ (x := vM false [PV.sl .v _])
 refine rA ?_ (x := lN sl_83)
 refine rA ?_ (x := kM)
 refine sw_block ?_
 refine sO [(0, _), (2, _), (5, _), (6, _), (7, _)] [] ?_
 refine sw_loop (l0 := [(0, RV.sv false [PV.sl _ _]), (5, RV.sv false [PV.sl _ _]), (6, RV.sv false [PV.val _])]) (b0 := []) (fun k : Nat => k ≤ x.length ∧ (x.take k).all okRow = true) (fun k : Nat => [(7, RV.int (k : Int))]) (fun k : Nat => []) (fun k : Nat => x.length - k) 0 (by exact ⟨by omega, by simp⟩) (by exact ⟨rfl, rfl, rfl, ⟨⟩⟩) (by exact ⟨⟩) (by exact And.intro (by exact rfl) (True.intro)) (by exact ⟨⟩) ?_
 rintro k ⟨hk, ha⟩
 refine sw_seq ?_
 refine sw_reg ?_
 refine rA ?_ (x := B_lss)
 refine sw_seq ?_
 refine sw_cond (t := 8) rfl (fun hb1 => ?_) (fun hb1 => ?_)
 ·try simp only [q1, q2, q3, q4, q5, q6, q7, q8, q9] at hb1
  have hlt : k < x.length := by omega
  refine sw_skip ?_
  refine sw_seq ?_
  refine sw_block ?_
  refine sw_seq ?_
  refine sO [(0, _), (5, _), (6, _), (7, _)] [] ?_
  refine sw_reg ?_
  refine rA ?_ (x := loc_index (by decide) sl_83 (by exact ⟨⟩) (by exact rfl) (by exact getm2 (by omega) rfl) (by exact rfl))
  refine rA ?_ (x := lE [PV.val _, PV.sl .v _] ty_53)
  refine RunS.step (by exact ⟨⟩) (by exact ⟨⟩) (LocG.of rfl (loc_alloc (by decide) z_53 zo_53)) (free1 (Free.app (Free.app (Free.of_ rfl) rfl) rfl)) ?_
  refine rA ?_ (x := loc_store (ag := true) (vs := [PV.val _, PV.sl _ _]) ty_53 (by exact ⟨⟩) (by exact rfl) (by exact Nat.le_of_ble_eq_true rfl))
  refine sw_seq ?_
  refine sO [(0, _), (4, _), (5, _), (6, _), (7, _)] [(4, (53, [PV.val _, PV.sl _ _]))] ?_
  refine sw_reg ?_
  refine rA ?_ (x := lD [PV.val _, PV.sl .v _] ty_53)
  refine rA ?_ (x := cL [(true, [PV.val _, PV.sl _ _])] [(true, [PV.val _, PV.sl .v _])] c_160 (hs := by exact impl_IsRow))
  refine rA ?_ (x := nT)
  refine sw_cond (t := 13) rfl (fun hb2 => ?_) (fun hb2 => ?_)
  ·try simp only [q1, q2, q3, q4, q5, q6, q7, q8, q9] at hb2
   have hno : okRow x[k] = false := by simpa [] using hb2
   refine sw_seq ?_
   refine sO [(0, _), (4, _), (5, _), (6, _), (7, _)] [(4, _)] ?_
   refine sw_reg ?_
   refine rA ?_ (x := kA)
   refine sw_ret ?_
   exact (And.intro (by refine bool_eq ?_; simp [id, all_no (P := okRow) hlt hno]) True.intro)
  ·try simp only [q1, q2, q3, q4, q5, q6, q7, q8, q9] at hb2
   have hyes : okRow x[k] = true := by simpa [] using hb2
   refine sw_skip ?_
   refine sO [(0, _), (4, _), (5, _), (6, _), (7, _)] [(4, _)] ?_
   refine sw_reg ?_
   refine rA ?_ (x := B_add)
   refine rA ?_ (x := sM)
   refine Exists.intro (k + 1) (And.intro (by exact ⟨by omega, all_succ ha hlt hyes⟩) (And.intro (by omega) (And.intro (And.intro (by exact ⟨rfl, rfl, rfl, ⟨⟩⟩) (by exact ⟨⟩)) (And.intro (by exact And.intro (by exact rfl) (True.intro)) (by exact ⟨⟩)))))
 ·try simp only [q1, q2, q3, q4, q5, q6, q7, q8, q9] at hb1
  have hall : x.all okRow = true := all_end (by rw [show x.length = k by omega]; exact ha)
  refine sw_exit ?_
  refine sw_seq ?_
  refine sO [(0, _), (5, _), (6, _), (7, _)] [] ?_
  refine sw_reg ?_
  refine rA ?_ (x := kA)
  refine sw_ret ?_
  exact (And.intro (by refine bool_eq ?_; simp [id, hall, *]) True.intro)
theorem impl_resultOk {p1 : Fl} {x : List Row}  : SCall Tryz.prog 96 [(false, [PV.sl .v (x.map (cRow p1))])] (resRV [(false, [PV.val (.bool (okRows x))])]) := by
 refine scall_of (rs := [(false, [PV.val (.bool (okRows x))])]) Tryz.func96 rfl (Nat.le_of_ble_eq_true rfl) (borA_cons (BorL.cons (PV.bor_sl _) BorL.nil) borA_nil) ?_
 intro h0 w0 Fz0
 refine sw_len (s := 0) rfl fun hl0 => ?_
 try rw [List.length_map] at hl0
 refine sw_seq ?_
 refine sw_reg ?_
 refine rA ?_ (x := kA)
 refine sw_seq ?_
 refine sO [(0, _), (2, _)] [] ?_
 refine sw_reg ?_
 refine rA ?_ (x := vM false [PV.sl .v _])
 refine rA ?_ (x := lN sl_83)
 refine rA ?_ (x := B_leq)
 refine rA ?_ (x := sM)
 refine RunS.cases (s := 6) rfl (fun g1 => ?_) (fun g1 => ?_)
 ·have sg1 := g1
  try simp only [q1, q2, q3, q4, q5, q6, q7, q8, q9] at sg1
  refine rB g1 ?_ (x := vM false [PV.sl .v _])
  refine rB g1 ?_ (x := cL [(false, [PV.sl _ _])] [(false, [PV.sl .v _])] c_166 (hs := by exact impl_allRows))
  refine rA ?_ (x := pkT g1)
  refine rA ?_ (x := sA)
  refine sw_ret ?_
  exact (And.intro (by refine bool_eq ?_; simp [okRows, *]) True.intro)
 ·have sg1 := g1
  try simp only [q1, q2, q3, q4, q5, q6, q7, q8, q9] at sg1
  refine RunS.s0f g1 ?_
  refine RunS.s0f g1 ?_
  refine rA ?_ (x := pkF g1)
  refine rA ?_ (x := sA)
  refine sw_ret ?_
  exact (And.intro (by refine bool_eq ?_; simp [okRows, *]) True.intro)
theorem spec_l9List {p1 : Fl} {x : List Row}  : SCall Tryz.prog 84 [(false, [PV.sl .v (x.map (cRow p1))])] (resRV [(false, [PV.val (.bool (okRows x))])]) := by
 refine scall_of (rs := [(false, [PV.val (.bool (okRows x))])]) Tryz.func84 rfl (Nat.le_of_ble_eq_true rfl) (borA_cons (BorL.cons (PV.bor_sl _) BorL.nil) borA_nil) ?_
 intro h0 w0 Fz0
 refine sw_len (s := 0) rfl fun hl0 => ?_
 try rw [List.length_map] at hl0
 refine sw_seq ?_
 refine sw_reg ?_
 refine rA ?_ (x := kA)
 refine sw_seq ?_
 refine sw_seq ?_
 refine sO [(0, _), (2, _)] [] ?_
 refine sw_reg ?_
 refine rA ?_ (x := kA)
 refine sw_block ?_
 refine sO [(0, _), (2, _), (3, _)] [] ?_
 refine sw_loop (l0 := [(0, RV.sv false [PV.sl _ _])]) (b0 := []) (fun k : Nat => k ≤ x.length ∧ (x.take k).all okRow = true) (fun k : Nat => [(3, RV.int (k : Int))]) (fun k : Nat => []) (fun k : Nat => x.length - k) 0 (by exact ⟨by omega, by simp⟩) (by exact ⟨rfl, ⟨⟩⟩) (by exact ⟨⟩) (by exact And.intro (by exact rfl) (True.intro)) (by exact ⟨⟩) ?_
 rintro k ⟨hk, ha⟩
 refine sw_seq ?_
 refine sw_seq ?_
 refine sw_reg ?_
 refine rA ?_ (x := sM)
 refine rA ?_ (x := vM false [PV.sl .v _])
 refine rA ?_ (x := lN sl_83)
 refine rA ?_ (x := B_lss)
 refine sw_cond (t := 7) rfl (fun hb1 => ?_) (fun hb1 => ?_)
 ·try simp only [q1, q2, q3, q4, q5, q6, q7, q8, q9] at hb1
  have hlt : k < x.length := by omega
  refine sw_skip ?_
  refine sw_seq ?_
  refine sw_block ?_
  refine sw_seq ?_
  refine sO [(0, _), (3, _)] [] ?_
  refine sw_reg ?_
  refine rA ?_ (x := vM false [PV.sl .v _])
  refine rA ?_ (x := sM)
  refine rA ?_ (x := loc_index (by decide) sl_83 (by exact ⟨⟩) (by exact rfl) (by exact getm2 (by omega) rfl) (by exact rfl))
  refine rA ?_ (x := lE [PV.val _, PV.sl .v _] ty_53)
  refine rA ?_ (x := cL [(true, [PV.val _, PV.sl _ _])] [(true, [PV.val _, PV.sl .v _])] c_155 (hs := by exact spec_IsRow))
  refine rA ?_ (x := nT)
  refine sw_cond (t := 15) rfl (fun hb2 => ?_) (fun hb2 => ?_)
  ·try simp only [q1, q2, q3, q4, q5, q6, q7, q8, q9] at hb2
   have hno : okRow x[k] = false := by simpa [] using hb2
   refine sw_seq ?_
   refine sO [(0, _), (3, _)] [] ?_
   refine sw_reg ?_
   refine rA ?_ (x := kA)
   refine sw_ret ?_
   exact (And.intro (by refine bool_eq ?_; simp [okRows, all_no (P := okRow) hlt hno]) True.intro)
  ·try simp only [q1, q2, q3, q4, q5, q6, q7, q8, q9] at hb2
   have hyes : okRow x[k] = true := by simpa [] using hb2
   refine sw_skip ?_
   refine sO [(0, _), (3, _)] [] ?_
   refine sw_reg ?_
   refine rA ?_ (x := sM)
   refine rA ?_ (x := B_add)
   refine rA ?_ (x := sA)
   refine Exists.intro (k + 1) (And.intro (by exact ⟨by omega, all_succ ha hlt hyes⟩) (And.intro (by omega) (And.intro (And.intro (by exact ⟨rfl, ⟨⟩⟩) (by exact ⟨⟩)) (And.intro (by exact And.intro (by exact rfl) (True.intro)) (by exact ⟨⟩)))))
 ·try simp only [q1, q2, q3, q4, q5, q6, q7, q8, q9] at hb1
  have hall : x.all okRow = true := all_end (by rw [show x.length = k by omega]; exact ha)
  refine sw_exit ?_
  refine sw_seq ?_
  refine sO [(0, _), (3, _)] [] ?_
  refine sw_reg ?_
  refine rA ?_ (x := vM false [PV.sl .v _])
  refine rA ?_ (x := lN sl_83)
  refine rA ?_ (x := B_leq)
  refine rA ?_ (x := sA)
  refine sw_ret ?_
  exact (And.intro (by refine bool_eq ?_; simp [okRows, hall, *]) True.intro)
end Go.Proofs.YteflgldonmgejaaGreatDoor
