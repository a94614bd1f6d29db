/- What functions of the program compute. No condition. -/
import Derived.Test.YtaomckpfgmhapaaDoorCDb
import Derived.KernelRfl
set_option linter.unusedVariables false
set_option linter.unusedSimpArgs false
namespace Go.Proofs.YtaomckpfgmhapaaDoor
open Go Go.RowKit M
set_option maxRecDepth 10000
attribute [local irreducible] PV.Lcl PV.LclR RV.Lcl
theorem eq_IntS {x : List Int} {y : List Int}  : SCall Tryd.prog 81 [(false, [PV.sl .v (x.map cInt)]), (false, [PV.sl .v (y.map cInt)])] (resRV [(false, [PV.val (.bool (deq x y))])]) := by
 refine scall_of (rs := [(false, [PV.val (.bool (deq x y))])]) Tryd.func81 rfl (Nat.le_of_ble_eq_true rfl) (borA_cons (BorL.cons (PV.bor_sl _) BorL.nil) (borA_cons (BorL.cons (PV.bor_sl _) BorL.nil) borA_nil)) ?_
 intro h0 w0 Fz0
 refine sw_len (s := 0) rfl fun hl0 => ?_
 try rw [List.length_map] at hl0
 refine sw_len (s := 1) rfl fun hl1 => ?_
 try rw [List.length_map] at hl1
 refine sw_seq ?_
 refine sw_reg ?_
 refine rA ?_ (x := kA)
 refine sw_seq ?_
 refine sw_seq ?_
 refine sO [(0, _), (1, _), (4, _)] [] ?_
 refine sw_reg ?_
 refine rA ?_ (x := vM false [PV.sl .v _])
 refine rA ?_ (x := lN sl_41)
 refine rA ?_ (x := vM false [PV.sl .v _])
 refine rA ?_ (x := lN sl_41)
 refine rA ?_ (x := B_neq)
 refine sw_cond (t := 10) rfl (fun hb1 => ?_) (fun hb1 => ?_)
 ·try simp only [q1, q2, q3, q4, q5, q6, q7, q8, q9] at hb1
  refine sw_seq ?_
  refine sO [(0, _), (1, _), (4, _)] [] ?_
  refine sw_reg ?_
  refine rA ?_ (x := kA)
  refine sw_ret ?_
  exact (And.intro (by refine bool_eq ?_; exact (deq_false (fun e => by subst e; omega)).symm) True.intro)
 ·try simp only [q1, q2, q3, q4, q5, q6, q7, q8, q9] at hb1
  have hl : x.length = y.length := by omega
  refine sw_skip ?_
  refine sw_seq ?_
  refine sw_seq ?_
  refine sO [(0, _), (1, _), (4, _)] [] ?_
  refine sw_reg ?_
  refine rA ?_ (x := kA)
  refine sw_block ?_
  refine sO [(0, _), (1, _), (4, _), (5, _)] [] ?_
  refine sw_loop (l0 := [(0, RV.sv false [PV.sl _ _]), (1, RV.sv false [PV.sl _ _])]) (b0 := []) (fun k : Nat => k ≤ x.length ∧ x.take k = y.take k) (fun k : Nat => [(5, RV.int (k : Int))]) (fun k : Nat => []) (fun k : Nat => x.length - k) 0 (by exact ⟨by omega, by simp⟩) (by exact ⟨rfl, rfl, ⟨⟩⟩) (by exact ⟨⟩) (by exact And.intro (by exact rfl) (True.intro)) (by exact ⟨⟩) ?_
  rintro k ⟨hk, ha⟩
  refine sw_seq ?_
  refine sw_seq ?_
  refine sw_reg ?_
  refine rA ?_ (x := sM)
  refine rA ?_ (x := vM false [PV.sl .v _])
  refine rA ?_ (x := lN sl_41)
  refine rA ?_ (x := B_lss)
  refine sw_cond (t := 14) rfl (fun hb2 => ?_) (fun hb2 => ?_)
  ·try simp only [q1, q2, q3, q4, q5, q6, q7, q8, q9] at hb2
   have hlt : k < x.length := by omega
   have hlt2 : k < y.length := by omega
   refine sw_skip ?_
   refine sw_seq ?_
   refine sw_block ?_
   refine sw_seq ?_
   refine sO [(0, _), (1, _), (5, _)] [] ?_
   refine sw_draw hm_ ?_
   refine dA 0 ?_ (x := vM false [PV.sl .v _])
   refine dA 0 ?_ (x := sM)
   refine dA 3 ?_ (x := loc_index (by decide) sl_41 (by exact ⟨⟩) (by exact rfl) (by exact getm2 (by omega) rfl) (by exact rfl))
   refine dA 7 ?_ (x := lE [PV.val _] ty_3)
   refine dA 0 ?_ (x := vM false [PV.sl .v _])
   refine dA 0 ?_ (x := sM)
   refine dA 48 ?_ (x := loc_index (by decide) sl_41 (by exact ⟨⟩) (by exact rfl) (by exact getm2 (by omega) rfl) (by exact rfl))
   refine dA 112 ?_ (x := lE [PV.val _] ty_3)
   refine dA 255 ?_ (x := B_neq)
   refine sw_cond (t := 25) rfl (fun hb3 => ?_) (fun hb3 => ?_)
   ·try simp only [q1, q2, q3, q4, q5, q6, q7, q8, q9] at hb3
    have hne : x[k] ≠ y[k] := by simpa using hb3
    refine sw_seq ?_
    refine sO [(0, _), (1, _), (5, _)] [] ?_
    refine sw_reg ?_
    refine rA ?_ (x := kA)
    refine sw_ret ?_
    exact (And.intro (by refine bool_eq ?_; exact (deq_false (eq_no hlt hlt2 hne)).symm) True.intro)
   ·try simp only [q1, q2, q3, q4, q5, q6, q7, q8, q9] at hb3
    have heq : x[k] = y[k] := by simpa using hb3
    refine sw_skip ?_
    refine sO [(0, _), (1, _), (5, _)] [] ?_
    refine sw_reg ?_
    refine rA ?_ (x := sM)
    refine rA ?_ (x := B_add)
    refine rA ?_ (x := sA)
    refine Exists.intro (k + 1) (And.intro (by exact ⟨by omega, eq_succ ha hlt hlt2 heq⟩) (And.intro (by omega) (And.intro (And.intro (by exact ⟨rfl, rfl, ⟨⟩⟩) (by exact ⟨⟩)) (And.intro (by exact And.intro (by exact rfl) (True.intro)) (by exact ⟨⟩)))))
  ·try simp only [q1, q2, q3, q4, q5, q6, q7, q8, q9] at hb2
   refine sw_exit ?_
   refine sw_seq ?_
   refine sO [(0, _), (1, _), (5, _)] [] ?_
   refine sw_reg ?_
   refine rA ?_ (x := kA)
   refine sw_ret ?_
   exact (And.intro (by refine bool_eq ?_; exact (deq_true (eq_end hl (by rw [show x.length = k by omega]; exact ha))).symm) True.intro)
theorem eq_Cond {x : Cond} {y : Cond}  : SCall Tryd.prog 119 [(true, [PV.val (vI x.Field), PV.val (vI x.Low), PV.val (vI x.High)]), (true, [PV.val (vI y.Field), PV.val (vI y.Low), PV.val (vI y.High)])] (resRV [(false, [PV.val (.bool (deq x y))])]) := by
 refine scall_of (rs := [(false, [PV.val (.bool (deq x y))])]) Tryd.func119 rfl (Nat.le_of_ble_eq_true rfl) (borA_cons (BorL.cons (PV.bor_val _) (BorL.cons (PV.bor_val _) (BorL.cons (PV.bor_val _) BorL.nil))) (borA_cons (BorL.cons (PV.bor_val _) (BorL.cons (PV.bor_val _) (BorL.cons (PV.bor_val _) BorL.nil))) borA_nil)) ?_
 intro h0 w0 Fz0
 refine sw_seq ?_
 refine sw_reg ?_
 refine RunS.step (by exact ⟨rfl, ⟨⟩⟩) (by exact ⟨⟩) (LocG.of rfl (loc_box (ag := true) (cs := [PV.val _, PV.val _, PV.val _]) (by decide) (by exact ⟨⟩))) (free1 (Free.of_ rfl)) ?_
 refine RunS.step (by exact ⟨rfl, ⟨⟩⟩) (by exact ⟨⟩) (LocG.of rfl (loc_box (ag := true) (cs := [PV.val _, PV.val _, PV.val _]) (by decide) (by exact ⟨⟩))) (free1 (Free.app (Free.of_ rfl) rfl)) ?_
 refine rA ?_ (x := kA)
 refine sw_seq ?_
 refine sw_seq ?_
 refine sO [(2, _), (3, _), (4, _)] [(2, (139, [PV.val _, PV.val _, PV.val _])), (3, (139, [PV.val _, PV.val _, PV.val _]))] ?_
 refine sw_reg ?_
 refine rA ?_ (x := lF fd_139_0)
 refine rA ?_ (x := lD [PV.val _] ty_3)
 refine rA ?_ (x := lF fd_139_0)
 refine rA ?_ (x := lD [PV.val _] ty_3)
 refine rA ?_ (x := B_neq)
 refine sw_cond (t := 9) rfl (fun hb1 => ?_) (fun hb1 => ?_)
 ·try simp only [q1, q2, q3, q4, q5, q6, q7, q8, q9] at hb1
  refine sw_seq ?_
  refine sO [(2, _), (3, _), (4, _)] [(2, _), (3, _)] ?_
  refine sw_reg ?_
  refine rA ?_ (x := kA)
  refine sw_ret ?_
  exact (And.intro (by refine bool_eq ?_; exact (deq_false (fun e => by subst e; simp_all [deq_self])).symm) True.intro)
 ·try simp only [q1, q2, q3, q4, q5, q6, q7, q8, q9] at hb1
  refine sw_skip ?_
  refine sw_seq ?_
  refine sw_seq ?_
  refine sO [(2, _), (3, _), (4, _)] [(2, _), (3, _)] ?_
  refine sw_reg ?_
  refine rA ?_ (x := lF fd_139_1)
  refine rA ?_ (x := lD [PV.val _] ty_3)
  refine rA ?_ (x := lF fd_139_1)
  refine rA ?_ (x := lD [PV.val _] ty_3)
  refine rA ?_ (x := B_neq)
  refine sw_cond (t := 14) rfl (fun hb2 => ?_) (fun hb2 => ?_)
  ·try simp only [q1, q2, q3, q4, q5, q6, q7, q8, q9] at hb2
   refine sw_seq ?_
   refine sO [(2, _), (3, _), (4, _)] [(2, _), (3, _)] ?_
   refine sw_reg ?_
   refine rA ?_ (x := kA)
   refine sw_ret ?_
   exact (And.intro (by refine bool_eq ?_; exact (deq_false (fun e => by subst e; simp_all [deq_self])).symm) True.intro)
  ·try simp only [q1, q2, q3, q4, q5, q6, q7, q8, q9] at hb2
   refine sw_skip ?_
   refine sw_seq ?_
   refine sw_seq ?_
   refine sO [(2, _), (3, _), (4, _)] [(2, _), (3, _)] ?_
   refine sw_reg ?_
   refine rA ?_ (x := lF fd_139_2)
   refine rA ?_ (x := lD [PV.val _] ty_3)
   refine rA ?_ (x := lF fd_139_2)
   refine rA ?_ (x := lD [PV.val _] ty_3)
   refine rA ?_ (x := B_neq)
   refine sw_cond (t := 19) rfl (fun hb3 => ?_) (fun hb3 => ?_)
   ·try simp only [q1, q2, q3, q4, q5, q6, q7, q8, q9] at hb3
    refine sw_seq ?_
    refine sO [(2, _), (3, _), (4, _)] [(2, _), (3, _)] ?_
    refine sw_reg ?_
    refine rA ?_ (x := kA)
    refine sw_ret ?_
    exact (And.intro (by refine bool_eq ?_; exact (deq_false (fun e => by subst e; simp_all [deq_self])).symm) True.intro)
   ·try simp only [q1, q2, q3, q4, q5, q6, q7, q8, q9] at hb3
    refine sw_skip ?_
    refine sw_seq ?_
    refine sO [(2, _), (3, _), (4, _)] [(2, _), (3, _)] ?_
    refine sw_reg ?_
    refine rA ?_ (x := kA)
    refine sw_ret ?_
    exact (And.intro (by refine bool_eq ?_; exact (deq_true (by apply ext_Cond <;> simp_all [deq_iff])).symm) True.intro)
theorem eq_CondS {x : List Cond} {y : List Cond}  : SCall Tryd.prog 101 [(false, [PV.sl .v (x.map cCond)]), (false, [PV.sl .v (y.map cCond)])] (resRV [(false, [PV.val (.bool (deq x y))])]) := by
 refine scall_of (rs := [(false, [PV.val (.bool (deq x y))])]) Tryd.func101 rfl (Nat.le_of_ble_eq_true rfl) (borA_cons (BorL.cons (PV.bor_sl _) BorL.nil) (borA_cons (BorL.cons (PV.bor_sl _) BorL.nil) borA_nil)) ?_
 intro h0 w0 Fz0
 refine sw_len (s := 0) rfl fun hl0 => ?_
 try rw [List.length_map] at hl0
 refine sw_len (s := 1) rfl fun hl1 => ?_
 try rw [List.length_map] at hl1
 refine sw_seq ?_
 refine sw_reg ?_
 refine rA ?_ (x := kA)
 refine sw_seq ?_
 refine sw_seq ?_
 refine sO [(0, _), (1, _), (4, _)] [] ?_
 refine sw_reg ?_
 refine rA ?_ (x := vM false [PV.sl .v _])
 refine rA ?_ (x := lN sl_49)
 refine rA ?_ (x := vM false [PV.sl .v _])
 refine rA ?_ (x := lN sl_49)
 refine rA ?_ (x := B_neq)
 refine sw_cond (t := 10) rfl (fun hb1 => ?_) (fun hb1 => ?_)
 ·try simp only [q1, q2, q3, q4, q5, q6, q7, q8, q9] at hb1
  refine sw_seq ?_
  refine sO [(0, _), (1, _), (4, _)] [] ?_
  refine sw_reg ?_
  refine rA ?_ (x := kA)
  refine sw_ret ?_
  exact (And.intro (by refine bool_eq ?_; exact (deq_false (fun e => by subst e; omega)).symm) True.intro)
 ·try simp only [q1, q2, q3, q4, q5, q6, q7, q8, q9] at hb1
  have hl : x.length = y.length := by omega
  refine sw_skip ?_
  refine sw_seq ?_
  refine sw_seq ?_
  refine sO [(0, _), (1, _), (4, _)] [] ?_
  refine sw_reg ?_
  refine rA ?_ (x := kA)
  refine sw_block ?_
  refine sO [(0, _), (1, _), (4, _), (5, _)] [] ?_
  refine sw_loop (l0 := [(0, RV.sv false [PV.sl _ _]), (1, RV.sv false [PV.sl _ _])]) (b0 := []) (fun k : Nat => k ≤ x.length ∧ x.take k = y.take k) (fun k : Nat => [(5, RV.int (k : Int))]) (fun k : Nat => []) (fun k : Nat => x.length - k) 0 (by exact ⟨by omega, by simp⟩) (by exact ⟨rfl, rfl, ⟨⟩⟩) (by exact ⟨⟩) (by exact And.intro (by exact rfl) (True.intro)) (by exact ⟨⟩) ?_
  rintro k ⟨hk, ha⟩
  refine sw_seq ?_
  refine sw_seq ?_
  refine sw_reg ?_
  refine rA ?_ (x := sM)
  refine rA ?_ (x := vM false [PV.sl .v _])
  refine rA ?_ (x := lN sl_49)
  refine rA ?_ (x := B_lss)
  refine sw_cond (t := 14) rfl (fun hb2 => ?_) (fun hb2 => ?_)
  ·try simp only [q1, q2, q3, q4, q5, q6, q7, q8, q9] at hb2
   have hlt : k < x.length := by omega
   have hlt2 : k < y.length := by omega
   refine sw_skip ?_
   refine sw_seq ?_
   refine sw_block ?_
   refine sw_seq ?_
   refine sO [(0, _), (1, _), (5, _)] [] ?_
   refine sw_draw hm_ ?_
   refine dA 0 ?_ (x := vM false [PV.sl .v _])
   refine dA 0 ?_ (x := sM)
   refine dA 3 ?_ (x := loc_index (by decide) sl_49 (by exact ⟨⟩) (by exact rfl) (by exact getm2 (by omega) rfl) (by exact rfl))
   refine dA 7 ?_ (x := lE [PV.val _, PV.val _, PV.val _] ty_139)
   refine dA 0 ?_ (x := vM false [PV.sl .v _])
   refine dA 0 ?_ (x := sM)
   refine dA 48 ?_ (x := loc_index (by decide) sl_49 (by exact ⟨⟩) (by exact rfl) (by exact getm2 (by omega) rfl) (by exact rfl))
   refine dA 112 ?_ (x := lE [PV.val _, PV.val _, PV.val _] ty_139)
   refine dA 255 ?_ (x := cL [(true, [PV.val _, PV.val _, PV.val _]), (true, [PV.val _, PV.val _, PV.val _])] [(true, [PV.val _, PV.val _, PV.val _]), (true, [PV.val _, PV.val _, PV.val _])] c_119 (hs := by exact eq_Cond))
   refine dA 511 ?_ (x := nT)
   refine sw_cond (t := 26) rfl (fun hb3 => ?_) (fun hb3 => ?_)
   ·try simp only [q1, q2, q3, q4, q5, q6, q7, q8, q9] at hb3
    have hne : x[k] ≠ y[k] := by intro hxy; rw [hxy, deq_self] at hb3; simp at hb3
    refine sw_seq ?_
    refine sO [(0, _), (1, _), (5, _)] [] ?_
    refine sw_reg ?_
    refine rA ?_ (x := kA)
    refine sw_ret ?_
    exact (And.intro (by refine bool_eq ?_; exact (deq_false (eq_no hlt hlt2 hne)).symm) True.intro)
   ·try simp only [q1, q2, q3, q4, q5, q6, q7, q8, q9] at hb3
    have heq : x[k] = y[k] := by exact deq_iff.1 (by simpa using hb3)
    refine sw_skip ?_
    refine sO [(0, _), (1, _), (5, _)] [] ?_
    refine sw_reg ?_
    refine rA ?_ (x := sM)
    refine rA ?_ (x := B_add)
    refine rA ?_ (x := sA)
    refine Exists.intro (k + 1) (And.intro (by exact ⟨by omega, eq_succ ha hlt hlt2 heq⟩) (And.intro (by omega) (And.intro (And.intro (by exact ⟨rfl, rfl, ⟨⟩⟩) (by exact ⟨⟩)) (And.intro (by exact And.intro (by exact rfl) (True.intro)) (by exact ⟨⟩)))))
  ·try simp only [q1, q2, q3, q4, q5, q6, q7, q8, q9] at hb2
   refine sw_exit ?_
   refine sw_seq ?_
   refine sO [(0, _), (1, _), (5, _)] [] ?_
   refine sw_reg ?_
   refine rA ?_ (x := kA)
   refine sw_ret ?_
   exact (And.intro (by refine bool_eq ?_; exact (deq_true (eq_end hl (by rw [show x.length = k by omega]; exact ha))).symm) True.intro)
theorem eq_Row {x : Row} {y : Row}  : SCall Tryd.prog 102 [(true, [PV.val (vI x.Id), PV.sl .v (x.Values.map cInt)]), (true, [PV.val (vI y.Id), PV.sl .v (y.Values.map cInt)])] (resRV [(false, [PV.val (.bool (deq x y))])]) := by
 refine scall_of (rs := [(false, [PV.val (.bool (deq x y))])]) Tryd.func102 rfl (Nat.le_of_ble_eq_true rfl) (borA_cons (BorL.cons (PV.bor_val _) (BorL.cons (PV.bor_sl _) BorL.nil)) (borA_cons (BorL.cons (PV.bor_val _) (BorL.cons (PV.bor_sl _) BorL.nil)) borA_nil)) ?_
 intro h0 w0 Fz0
 refine sw_slen (s := 0) (j := 1) rfl rfl fun hl0_1 => ?_
 try rw [List.length_map] at hl0_1
 refine sw_slen (s := 1) (j := 1) rfl rfl fun hl1_1 => ?_
 try rw [List.length_map] at hl1_1
 refine sw_seq ?_
 refine sw_reg ?_
 refine RunS.step (by exact ⟨rfl, ⟨⟩⟩) (by exact ⟨⟩) (LocG.of rfl (loc_box (ag := true) (cs := [PV.val _, PV.sl _ _]) (by decide) (by exact ⟨⟩))) (free1 (Free.of_ rfl)) ?_
 refine RunS.step (by exact ⟨rfl, ⟨⟩⟩) (by exact ⟨⟩) (LocG.of rfl (loc_box (ag := true) (cs := [PV.val _, PV.sl _ _]) (by decide) (by exact ⟨⟩))) (free1 (Free.app (Free.of_ rfl) rfl)) ?_
 refine rA ?_ (x := kA)
 refine sw_seq ?_
 refine sw_seq ?_
 refine sO [(2, _), (3, _), (4, _)] [(2, (66, [PV.val _, PV.sl _ _])), (3, (66, [PV.val _, PV.sl _ _]))] ?_
 refine sw_reg ?_
 refine rA ?_ (x := lF fd_66_0)
 refine rA ?_ (x := lD [PV.val _] ty_3)
 refine rA ?_ (x := lF fd_66_0)
 refine rA ?_ (x := lD [PV.val _] ty_3)
 refine rA ?_ (x := B_neq)
 refine sw_cond (t := 9) rfl (fun hb1 => ?_) (fun hb1 => ?_)
 ·try simp only [q1, q2, q3, q4, q5, q6, q7, q8, q9] at hb1
  refine sw_seq ?_
  refine sO [(2, _), (3, _), (4, _)] [(2, _), (3, _)] ?_
  refine sw_reg ?_
  refine rA ?_ (x := kA)
  refine sw_ret ?_
  exact (And.intro (by refine bool_eq ?_; exact (deq_false (fun e => by subst e; simp_all [deq_self])).symm) True.intro)
 ·try simp only [q1, q2, q3, q4, q5, q6, q7, q8, q9] at hb1
  refine sw_skip ?_
  refine sw_seq ?_
  refine sw_seq ?_
  refine sO [(2, _), (3, _), (4, _)] [(2, _), (3, _)] ?_
  refine sw_reg ?_
  refine rA ?_ (x := lF fd_66_1)
  refine rA ?_ (x := lD [PV.sl .v _] ty_41)
  refine rA ?_ (x := lF fd_66_1)
  refine rA ?_ (x := lD [PV.sl .v _] ty_41)
  refine rA ?_ (x := cL [(false, [PV.sl _ _]), (false, [PV.sl _ _])] [(false, [PV.sl .v _]), (false, [PV.sl .v _])] c_81 (hs := by exact eq_IntS))
  refine rA ?_ (x := nT)
  refine sw_cond (t := 15) rfl (fun hb2 => ?_) (fun hb2 => ?_)
  ·try simp only [q1, q2, q3, q4, q5, q6, q7, q8, q9] at hb2
   refine sw_seq ?_
   refine sO [(2, _), (3, _), (4, _)] [(2, _), (3, _)] ?_
   refine sw_reg ?_
   refine rA ?_ (x := kA)
   refine sw_ret ?_
   exact (And.intro (by refine bool_eq ?_; exact (deq_false (fun e => by subst e; simp_all [deq_self])).symm) True.intro)
  ·try simp only [q1, q2, q3, q4, q5, q6, q7, q8, q9] at hb2
   refine sw_skip ?_
   refine sw_seq ?_
   refine sO [(2, _), (3, _), (4, _)] [(2, _), (3, _)] ?_
   refine sw_reg ?_
   refine rA ?_ (x := kA)
   refine sw_ret ?_
   exact (And.intro (by refine bool_eq ?_; exact (deq_true (by apply ext_Row <;> simp_all [deq_iff])).symm) True.intro)
theorem eq_Query {x : Query} {y : Query}  : SCall Tryd.prog 60 [(true, [PV.val (vI x.Id), PV.val (vI x.Tenant), PV.sl .v (x.Conds.map cCond), PV.sl .v (x.Out.map cInt)]), (true, [PV.val (vI y.Id), PV.val (vI y.Tenant), PV.sl .v (y.Conds.map cCond), PV.sl .v (y.Out.map cInt)])] (resRV [(false, [PV.val (.bool (deq x y))])]) := by
 refine scall_of (rs := [(false, [PV.val (.bool (deq x y))])]) Tryd.func60 rfl (Nat.le_of_ble_eq_true rfl) (borA_cons (BorL.cons (PV.bor_val _) (BorL.cons (PV.bor_val _) (BorL.cons (PV.bor_sl _) (BorL.cons (PV.bor_sl _) BorL.nil)))) (borA_cons (BorL.cons (PV.bor_val _) (BorL.cons (PV.bor_val _) (BorL.cons (PV.bor_sl _) (BorL.cons (PV.bor_sl _) BorL.nil)))) borA_nil)) ?_
 intro h0 w0 Fz0
 refine sw_slen (s := 0) (j := 2) rfl rfl fun hl0_2 => ?_
 try rw [List.length_map] at hl0_2
 refine sw_slen (s := 0) (j := 3) rfl rfl fun hl0_3 => ?_
 try rw [List.length_map] at hl0_3
 refine sw_slen (s := 1) (j := 2) rfl rfl fun hl1_2 => ?_
 try rw [List.length_map] at hl1_2
 refine sw_slen (s := 1) (j := 3) rfl rfl fun hl1_3 => ?_
 try rw [List.length_map] at hl1_3
 refine sw_seq ?_
 refine sw_reg ?_
 refine RunS.step (by exact ⟨rfl, ⟨⟩⟩) (by exact ⟨⟩) (LocG.of rfl (loc_box (ag := true) (cs := [PV.val _, PV.val _, PV.sl _ _, PV.sl _ _]) (by decide) (by exact ⟨⟩))) (free1 (Free.of_ rfl)) ?_
 refine RunS.step (by exact ⟨rfl, ⟨⟩⟩) (by exact ⟨⟩) (LocG.of rfl (loc_box (ag := true) (cs := [PV.val _, PV.val _, PV.sl _ _, PV.sl _ _]) (by decide) (by exact ⟨⟩))) (free1 (Free.app (Free.of_ rfl) rfl)) ?_
 refine rA ?_ (x := kA)
 refine sw_seq ?_
 refine sw_seq ?_
 refine sO [(2, _), (3, _), (4, _)] [(2, (51, [PV.val _, PV.val _, PV.sl _ _, PV.sl _ _])), (3, (51, [PV.val _, PV.val _, PV.sl _ _, PV.sl _ _]))] ?_
 refine sw_reg ?_
 refine rA ?_ (x := lF fd_51_0)
 refine rA ?_ (x := lD [PV.val _] ty_3)
 refine rA ?_ (x := lF fd_51_0)
 refine rA ?_ (x := lD [PV.val _] ty_3)
 refine rA ?_ (x := B_neq)
 refine sw_cond (t := 9) rfl (fun hb1 => ?_) (fun hb1 => ?_)
 ·try simp only [q1, q2, q3, q4, q5, q6, q7, q8, q9] at hb1
  refine sw_seq ?_
  refine sO [(2, _), (3, _), (4, _)] [(2, _), (3, _)] ?_
  refine sw_reg ?_
  refine rA ?_ (x := kA)
  refine sw_ret ?_
  exact (And.intro (by refine bool_eq ?_; exact (deq_false (fun e => by subst e; simp_all [deq_self])).symm) True.intro)
 ·try simp only [q1, q2, q3, q4, q5, q6, q7, q8, q9] at hb1
  refine sw_skip ?_
  refine sw_seq ?_
  refine sw_seq ?_
  refine sO [(2, _), (3, _), (4, _)] [(2, _), (3, _)] ?_
  refine sw_reg ?_
  refine rA ?_ (x := lF fd_51_1)
  refine rA ?_ (x := lD [PV.val _] ty_3)
  refine rA ?_ (x := lF fd_51_1)
  refine rA ?_ (x := lD [PV.val _] ty_3)
  refine rA ?_ (x := B_neq)
  refine sw_cond (t := 14) rfl (fun hb2 => ?_) (fun hb2 => ?_)
  ·try simp only [q1, q2, q3, q4, q5, q6, q7, q8, q9] at hb2
   refine sw_seq ?_
   refine sO [(2, _), (3, _), (4, _)] [(2, _), (3, _)] ?_
   refine sw_reg ?_
   refine rA ?_ (x := kA)
   refine sw_ret ?_
   exact (And.intro (by refine bool_eq ?_; exact (deq_false (fun e => by subst e; simp_all [deq_self])).symm) True.intro)
  ·try simp only [q1, q2, q3, q4, q5, q6, q7, q8, q9] at hb2
   refine sw_skip ?_
   refine sw_seq ?_
   refine sw_seq ?_
   refine sO [(2, _), (3, _), (4, _)] [(2, _), (3, _)] ?_
   refine sw_reg ?_
   refine rA ?_ (x := lF fd_51_2)
   refine rA ?_ (x := lD [PV.sl .v _] ty_49)
   refine rA ?_ (x := lF fd_51_2)
   refine rA ?_ (x := lD [PV.sl .v _] ty_49)
   refine rA ?_ (x := cL [(false, [PV.sl _ _]), (false, [PV.sl _ _])] [(false, [PV.sl .v _]), (false, [PV.sl .v _])] c_101 (hs := by exact eq_CondS))
   refine rA ?_ (x := nT)
   refine sw_cond (t := 20) rfl (fun hb3 => ?_) (fun hb3 => ?_)
   ·try simp only [q1, q2, q3, q4, q5, q6, q7, q8, q9] at hb3
    refine sw_seq ?_
    refine sO [(2, _), (3, _), (4, _)] [(2, _), (3, _)] ?_
    refine sw_reg ?_
    refine rA ?_ (x := kA)
    refine sw_ret ?_
    exact (And.intro (by refine bool_eq ?_; exact (deq_false (fun e => by subst e; simp_all [deq_self])).symm) True.intro)
   ·try simp only [q1, q2, q3, q4, q5, q6, q7, q8, q9] at hb3
    refine sw_skip ?_
    refine sw_seq ?_
    refine sw_seq ?_
    refine sO [(2, _), (3, _), (4, _)] [(2, _), (3, _)] ?_
    refine sw_reg ?_
    refine rA ?_ (x := lF fd_51_3)
    refine rA ?_ (x := lD [PV.sl .v _] ty_41)
    refine rA ?_ (x := lF fd_51_3)
    refine rA ?_ (x := lD [PV.sl .v _] ty_41)
    refine rA ?_ (x := cL [(false, [PV.sl _ _]), (false, [PV.sl _ _])] [(false, [PV.sl .v _]), (false, [PV.sl .v _])] c_81 (hs := by exact eq_IntS))
    refine rA ?_ (x := nT)
    refine sw_cond (t := 26) rfl (fun hb4 => ?_) (fun hb4 => ?_)
    ·try simp only [q1, q2, q3, q4, q5, q6, q7, q8, q9] at hb4
     refine sw_seq ?_
     refine sO [(2, _), (3, _), (4, _)] [(2, _), (3, _)] ?_
     refine sw_reg ?_
     refine rA ?_ (x := kA)
     refine sw_ret ?_
     exact (And.intro (by refine bool_eq ?_; exact (deq_false (fun e => by subst e; simp_all [deq_self])).symm) True.intro)
    ·try simp only [q1, q2, q3, q4, q5, q6, q7, q8, q9] at hb4
     refine sw_skip ?_
     refine sw_seq ?_
     refine sO [(2, _), (3, _), (4, _)] [(2, _), (3, _)] ?_
     refine sw_reg ?_
     refine rA ?_ (x := kA)
     refine sw_ret ?_
     exact (And.intro (by refine bool_eq ?_; exact (deq_true (by apply ext_Query <;> simp_all [deq_iff])).symm) True.intro)
theorem eq_Update {x : Update} {y : Update}  : SCall Tryd.prog 70 [(true, [PV.val (vI x.Kind), PV.val (vI x.Row.Id), PV.sl .v (x.Row.Values.map cInt), PV.val (vI x.Field), PV.val (vI x.Value)]), (true, [PV.val (vI y.Kind), PV.val (vI y.Row.Id), PV.sl .v (y.Row.Values.map cInt), PV.val (vI y.Field), PV.val (vI y.Value)])] (resRV [(false, [PV.val (.bool (deq x y))])]) := by
 refine scall_of (rs := [(false, [PV.val (.bool (deq x y))])]) Tryd.func70 rfl (Nat.le_of_ble_eq_true rfl) (borA_cons (BorL.cons (PV.bor_val _) (BorL.cons (PV.bor_val _) (BorL.cons (PV.bor_sl _) (BorL.cons (PV.bor_val _) (BorL.cons (PV.bor_val _) BorL.nil))))) (borA_cons (BorL.cons (PV.bor_val _) (BorL.cons (PV.bor_val _) (BorL.cons (PV.bor_sl _) (BorL.cons (PV.bor_val _) (BorL.cons (PV.bor_val _) BorL.nil))))) borA_nil)) ?_
 intro h0 w0 Fz0
 refine sw_slen (s := 0) (j := 2) rfl rfl fun hl0_2 => ?_
 try rw [List.length_map] at hl0_2
 refine sw_slen (s := 1) (j := 2) rfl rfl fun hl1_2 => ?_
 try rw [List.length_map] at hl1_2
 refine sw_seq ?_
 refine sw_reg ?_
 refine RunS.step (by exact ⟨rfl, ⟨⟩⟩) (by exact ⟨⟩) (LocG.of rfl (loc_box (ag := true) (cs := [PV.val _, PV.val _, PV.sl _ _, PV.val _, PV.val _]) (by decide) (by exact ⟨⟩))) (free1 (Free.of_ rfl)) ?_
 refine RunS.step (by exact ⟨rfl, ⟨⟩⟩) (by exact ⟨⟩) (LocG.of rfl (loc_box (ag := true) (cs := [PV.val _, PV.val _, PV.sl _ _, PV.val _, PV.val _]) (by decide) (by exact ⟨⟩))) (free1 (Free.app (Free.of_ rfl) rfl)) ?_
 refine rA ?_ (x := kA)
 refine sw_seq ?_
 refine sw_seq ?_
 refine sO [(2, _), (3, _), (4, _)] [(2, (68, [PV.val _, PV.val _, PV.sl _ _, PV.val _, PV.val _])), (3, (68, [PV.val _, PV.val _, PV.sl _ _, PV.val _, PV.val _]))] ?_
 refine sw_reg ?_
 refine rA ?_ (x := lF fd_68_0)
 refine rA ?_ (x := lD [PV.val _] ty_3)
 refine rA ?_ (x := lF fd_68_0)
 refine rA ?_ (x := lD [PV.val _] ty_3)
 refine rA ?_ (x := B_neq)
 refine sw_cond (t := 9) rfl (fun hb1 => ?_) (fun hb1 => ?_)
 ·try simp only [q1, q2, q3, q4, q5, q6, q7, q8, q9] at hb1
  refine sw_seq ?_
  refine sO [(2, _), (3, _), (4, _)] [(2, _), (3, _)] ?_
  refine sw_reg ?_
  refine rA ?_ (x := kA)
  refine sw_ret ?_
  exact (And.intro (by refine bool_eq ?_; exact (deq_false (fun e => by subst e; simp_all [deq_self])).symm) True.intro)
 ·try simp only [q1, q2, q3, q4, q5, q6, q7, q8, q9] at hb1
  refine sw_skip ?_
  refine sw_seq ?_
  refine sw_seq ?_
  refine sO [(2, _), (3, _), (4, _)] [(2, _), (3, _)] ?_
  refine sw_reg ?_
  refine rA ?_ (x := lF fd_68_1)
  refine rA ?_ (x := lD [PV.val _, PV.sl .v _] ty_66)
  refine rA ?_ (x := lF fd_68_1)
  refine rA ?_ (x := lD [PV.val _, PV.sl .v _] ty_66)
  refine rA ?_ (x := cL [(true, [PV.val _, PV.sl _ _]), (true, [PV.val _, PV.sl _ _])] [(true, [PV.val _, PV.sl .v _]), (true, [PV.val _, PV.sl .v _])] c_102 (hs := by exact eq_Row))
  refine rA ?_ (x := nT)
  refine sw_cond (t := 15) rfl (fun hb2 => ?_) (fun hb2 => ?_)
  ·try simp only [q1, q2, q3, q4, q5, q6, q7, q8, q9] at hb2
   refine sw_seq ?_
   refine sO [(2, _), (3, _), (4, _)] [(2, _), (3, _)] ?_
   refine sw_reg ?_
   refine rA ?_ (x := kA)
   refine sw_ret ?_
   exact (And.intro (by refine bool_eq ?_; exact (deq_false (fun e => by subst e; simp_all [deq_self])).symm) True.intro)
  ·try simp only [q1, q2, q3, q4, q5, q6, q7, q8, q9] at hb2
   refine sw_skip ?_
   refine sw_seq ?_
   refine sw_seq ?_
   refine sO [(2, _), (3, _), (4, _)] [(2, _), (3, _)] ?_
   refine sw_reg ?_
   refine rA ?_ (x := lF fd_68_2)
   refine rA ?_ (x := lD [PV.val _] ty_3)
   refine rA ?_ (x := lF fd_68_2)
   refine rA ?_ (x := lD [PV.val _] ty_3)
   refine rA ?_ (x := B_neq)
   refine sw_cond (t := 20) rfl (fun hb3 => ?_) (fun hb3 => ?_)
   ·try simp only [q1, q2, q3, q4, q5, q6, q7, q8, q9] at hb3
    refine sw_seq ?_
    refine sO [(2, _), (3, _), (4, _)] [(2, _), (3, _)] ?_
    refine sw_reg ?_
    refine rA ?_ (x := kA)
    refine sw_ret ?_
    exact (And.intro (by refine bool_eq ?_; exact (deq_false (fun e => by subst e; simp_all [deq_self])).symm) True.intro)
   ·try simp only [q1, q2, q3, q4, q5, q6, q7, q8, q9] at hb3
    refine sw_skip ?_
    refine sw_seq ?_
    refine sw_seq ?_
    refine sO [(2, _), (3, _), (4, _)] [(2, _), (3, _)] ?_
    refine sw_reg ?_
    refine rA ?_ (x := lF fd_68_3)
    refine rA ?_ (x := lD [PV.val _] ty_3)
    refine rA ?_ (x := lF fd_68_3)
    refine rA ?_ (x := lD [PV.val _] ty_3)
    refine rA ?_ (x := B_neq)
    refine sw_cond (t := 25) rfl (fun hb4 => ?_) (fun hb4 => ?_)
    ·try simp only [q1, q2, q3, q4, q5, q6, q7, q8, q9] at hb4
     refine sw_seq ?_
     refine sO [(2, _), (3, _), (4, _)] [(2, _), (3, _)] ?_
     refine sw_reg ?_
     refine rA ?_ (x := kA)
     refine sw_ret ?_
     exact (And.intro (by refine bool_eq ?_; exact (deq_false (fun e => by subst e; simp_all [deq_self])).symm) True.intro)
    ·try simp only [q1, q2, q3, q4, q5, q6, q7, q8, q9] at hb4
     refine sw_skip ?_
     refine sw_seq ?_
     refine sO [(2, _), (3, _), (4, _)] [(2, _), (3, _)] ?_
     refine sw_reg ?_
     refine rA ?_ (x := kA)
     refine sw_ret ?_
     exact (And.intro (by refine bool_eq ?_; exact (deq_true (by apply ext_Update <;> simp_all [deq_iff])).symm) True.intro)
theorem eq_Event {x : Event} {y : Event}  : SCall Tryd.prog 26 [(true, [PV.val (vI x.Kind), PV.val (vI x.Query.Id), PV.val (vI x.Query.Tenant), PV.sl .v (x.Query.Conds.map cCond), PV.sl .v (x.Query.Out.map cInt), PV.val (vI x.Limit), PV.val (vI x.Id), PV.val (vI x.Update.Kind), PV.val (vI x.Update.Row.Id), PV.sl .v (x.Update.Row.Values.map cInt), PV.val (vI x.Update.Field), PV.val (vI x.Update.Value), PV.val (vI x.Steps)]), (true, [PV.val (vI y.Kind), PV.val (vI y.Query.Id), PV.val (vI y.Query.Tenant), PV.sl .v (y.Query.Conds.map cCond), PV.sl .v (y.Query.Out.map cInt), PV.val (vI y.Limit), PV.val (vI y.Id), PV.val (vI y.Update.Kind), PV.val (vI y.Update.Row.Id), PV.sl .v (y.Update.Row.Values.map cInt), PV.val (vI y.Update.Field), PV.val (vI y.Update.Value), PV.val (vI y.Steps)])] (resRV [(false, [PV.val (.bool (deq x y))])]) := by
 refine scall_of (rs := [(false, [PV.val (.bool (deq x y))])]) Tryd.func26 rfl (Nat.le_of_ble_eq_true rfl) (borA_cons (BorL.cons (PV.bor_val _) (BorL.cons (PV.bor_val _) (BorL.cons (PV.bor_val _) (BorL.cons (PV.bor_sl _) (BorL.cons (PV.bor_sl _) (BorL.cons (PV.bor_val _) (BorL.cons (PV.bor_val _) (BorL.cons (PV.bor_val _) (BorL.cons (PV.bor_val _) (BorL.cons (PV.bor_sl _) (BorL.cons (PV.bor_val _) (BorL.cons (PV.bor_val _) (BorL.cons (PV.bor_val _) BorL.nil))))))))))))) (borA_cons (BorL.cons (PV.bor_val _) (BorL.cons (PV.bor_val _) (BorL.cons (PV.bor_val _) (BorL.cons (PV.bor_sl _) (BorL.cons (PV.bor_sl _) (BorL.cons (PV.bor_val _) (BorL.cons (PV.bor_val _) (BorL.cons (PV.bor_val _) (BorL.cons (PV.bor_val _) (BorL.cons (PV.bor_sl _) (BorL.cons (PV.bor_val _) (BorL.cons (PV.bor_val _) (BorL.cons (PV.bor_val _) BorL.nil))))))))))))) borA_nil)) ?_
 intro h0 w0 Fz0
 refine sw_slen (s := 0) (j := 3) rfl rfl fun hl0_3 => ?_
 try rw [List.length_map] at hl0_3
 refine sw_slen (s := 0) (j := 4) rfl rfl fun hl0_4 => ?_
 try rw [List.length_map] at hl0_4
 refine sw_slen (s := 0) (j := 9) rfl rfl fun hl0_9 => ?_
 try rw [List.length_map] at hl0_9
 refine sw_slen (s := 1) (j := 3) rfl rfl fun hl1_3 => ?_
 try rw [List.length_map] at hl1_3
 refine sw_slen (s := 1) (j := 4) rfl rfl fun hl1_4 => ?_
 try rw [List.length_map] at hl1_4
 refine sw_slen (s := 1) (j := 9) rfl rfl fun hl1_9 => ?_
 try rw [List.length_map] at hl1_9
 refine sw_seq ?_
 refine sw_reg ?_
 refine RunS.step (by exact ⟨rfl, ⟨⟩⟩) (by exact ⟨⟩) (LocG.of rfl (loc_box (ag := true) (cs := [PV.val _, PV.val _, PV.val _, PV.sl _ _, PV.sl _ _, PV.val _, PV.val _, PV.val _, PV.val _, PV.sl _ _, PV.val _, PV.val _, PV.val _]) (by decide) (by exact ⟨⟩))) (free1 (Free.of_ rfl)) ?_
 refine RunS.step (by exact ⟨rfl, ⟨⟩⟩) (by exact ⟨⟩) (LocG.of rfl (loc_box (ag := true) (cs := [PV.val _, PV.val _, PV.val _, PV.sl _ _, PV.sl _ _, PV.val _, PV.val _, PV.val _, PV.val _, PV.sl _ _, PV.val _, PV.val _, PV.val _]) (by decide) (by exact ⟨⟩))) (free1 (Free.app (Free.of_ rfl) rfl)) ?_
 refine rA ?_ (x := kA)
 refine sw_seq ?_
 refine sw_seq ?_
 refine sO [(2, _), (3, _), (4, _)] [(2, (70, [PV.val _, PV.val _, PV.val _, PV.sl _ _, PV.sl _ _, PV.val _, PV.val _, PV.val _, PV.val _, PV.sl _ _, PV.val _, PV.val _, PV.val _])), (3, (70, [PV.val _, PV.val _, PV.val _, PV.sl _ _, PV.sl _ _, PV.val _, PV.val _, PV.val _, PV.val _, PV.sl _ _, PV.val _, PV.val _, PV.val _]))] ?_
 refine sw_reg ?_
 refine rA ?_ (x := lF fd_70_0)
 refine rA ?_ (x := lD [PV.val _] ty_3)
 refine rA ?_ (x := lF fd_70_0)
 refine rA ?_ (x := lD [PV.val _] ty_3)
 refine rA ?_ (x := B_neq)
 refine sw_cond (t := 9) rfl (fun hb1 => ?_) (fun hb1 => ?_)
 ·try simp only [q1, q2, q3, q4, q5, q6, q7, q8, q9] at hb1
  refine sw_seq ?_
  refine sO [(2, _), (3, _), (4, _)] [(2, _), (3, _)] ?_
  refine sw_reg ?_
  refine rA ?_ (x := kA)
  refine sw_ret ?_
  exact (And.intro (by refine bool_eq ?_; exact (deq_false (fun e => by subst e; simp_all [deq_self])).symm) True.intro)
 ·try simp only [q1, q2, q3, q4, q5, q6, q7, q8, q9] at hb1
  refine sw_skip ?_
  refine sw_seq ?_
  refine sw_seq ?_
  refine sO [(2, _), (3, _), (4, _)] [(2, _), (3, _)] ?_
  refine sw_reg ?_
  refine rA ?_ (x := lF fd_70_1)
  refine rA ?_ (x := lD [PV.val _, PV.val _, PV.sl .v _, PV.sl .v _] ty_51)
  refine rA ?_ (x := lF fd_70_1)
  refine rA ?_ (x := lD [PV.val _, PV.val _, PV.sl .v _, PV.sl .v _] ty_51)
  refine rA ?_ (x := cL [(true, [PV.val _, PV.val _, PV.sl _ _, PV.sl _ _]), (true, [PV.val _, PV.val _, PV.sl _ _, PV.sl _ _])] [(true, [PV.val _, PV.val _, PV.sl .v _, PV.sl .v _]), (true, [PV.val _, PV.val _, PV.sl .v _, PV.sl .v _])] c_60 (hs := by exact eq_Query))
  refine rA ?_ (x := nT)
  refine sw_cond (t := 15) rfl (fun hb2 => ?_) (fun hb2 => ?_)
  ·try simp only [q1, q2, q3, q4, q5, q6, q7, q8, q9] at hb2
   refine sw_seq ?_
   refine sO [(2, _), (3, _), (4, _)] [(2, _), (3, _)] ?_
   refine sw_reg ?_
   refine rA ?_ (x := kA)
   refine sw_ret ?_
   exact (And.intro (by refine bool_eq ?_; exact (deq_false (fun e => by subst e; simp_all [deq_self])).symm) True.intro)
  ·try simp only [q1, q2, q3, q4, q5, q6, q7, q8, q9] at hb2
   refine sw_skip ?_
   refine sw_seq ?_
   refine sw_seq ?_
   refine sO [(2, _), (3, _), (4, _)] [(2, _), (3, _)] ?_
   refine sw_reg ?_
   refine rA ?_ (x := lF fd_70_2)
   refine rA ?_ (x := lD [PV.val _] ty_3)
   refine rA ?_ (x := lF fd_70_2)
   refine rA ?_ (x := lD [PV.val _] ty_3)
   refine rA ?_ (x := B_neq)
   refine sw_cond (t := 20) rfl (fun hb3 => ?_) (fun hb3 => ?_)
   ·try simp only [q1, q2, q3, q4, q5, q6, q7, q8, q9] at hb3
    refine sw_seq ?_
    refine sO [(2, _), (3, _), (4, _)] [(2, _), (3, _)] ?_
    refine sw_reg ?_
    refine rA ?_ (x := kA)
    refine sw_ret ?_
    exact (And.intro (by refine bool_eq ?_; exact (deq_false (fun e => by subst e; simp_all [deq_self])).symm) True.intro)
   ·try simp only [q1, q2, q3, q4, q5, q6, q7, q8, q9] at hb3
    refine sw_skip ?_
    refine sw_seq ?_
    refine sw_seq ?_
    refine sO [(2, _), (3, _), (4, _)] [(2, _), (3, _)] ?_
    refine sw_reg ?_
    refine rA ?_ (x := lF fd_70_3)
    refine rA ?_ (x := lD [PV.val _] ty_3)
    refine rA ?_ (x := lF fd_70_3)
    refine rA ?_ (x := lD [PV.val _] ty_3)
    refine rA ?_ (x := B_neq)
    refine sw_cond (t := 25) rfl (fun hb4 => ?_) (fun hb4 => ?_)
    ·try simp only [q1, q2, q3, q4, q5, q6, q7, q8, q9] at hb4
     refine sw_seq ?_
     refine sO [(2, _), (3, _), (4, _)] [(2, _), (3, _)] ?_
     refine sw_reg ?_
     refine rA ?_ (x := kA)
     refine sw_ret ?_
     exact (And.intro (by refine bool_eq ?_; exact (deq_false (fun e => by subst e; simp_all [deq_self])).symm) True.intro)
    ·try simp only [q1, q2, q3, q4, q5, q6, q7, q8, q9] at hb4
     refine sw_skip ?_
     refine sw_seq ?_
     refine sw_seq ?_
     refine sO [(2, _), (3, _), (4, _)] [(2, _), (3, _)] ?_
     refine sw_reg ?_
     refine rA ?_ (x := lF fd_70_4)
     refine rA ?_ (x := lD [PV.val _, PV.val _, PV.sl .v _, PV.val _, PV.val _] ty_68)
     refine rA ?_ (x := lF fd_70_4)
     refine rA ?_ (x := lD [PV.val _, PV.val _, PV.sl .v _, PV.val _, PV.val _] ty_68)
     refine rA ?_ (x := cL [(true, [PV.val _, PV.val _, PV.sl _ _, PV.val _, PV.val _]), (true, [PV.val _, PV.val _, PV.sl _ _, PV.val _, PV.val _])] [(true, [PV.val _, PV.val _, PV.sl .v _, PV.val _, PV.val _]), (true, [PV.val _, PV.val _, PV.sl .v _, PV.val _, PV.val _])] c_70 (hs := by exact eq_Update))
     refine rA ?_ (x := nT)
     refine sw_cond (t := 31) rfl (fun hb5 => ?_) (fun hb5 => ?_)
     ·try simp only [q1, q2, q3, q4, q5, q6, q7, q8, q9] at hb5
      refine sw_seq ?_
      refine sO [(2, _), (3, _), (4, _)] [(2, _), (3, _)] ?_
      refine sw_reg ?_
      refine rA ?_ (x := kA)
      refine sw_ret ?_
      exact (And.intro (by refine bool_eq ?_; exact (deq_false (fun e => by subst e; simp_all [deq_self])).symm) True.intro)
     ·try simp only [q1, q2, q3, q4, q5, q6, q7, q8, q9] at hb5
      refine sw_skip ?_
      refine sw_seq ?_
      refine sw_seq ?_
      refine sO [(2, _), (3, _), (4, _)] [(2, _), (3, _)] ?_
      refine sw_reg ?_
      refine rA ?_ (x := lF fd_70_5)
      refine rA ?_ (x := lD [PV.val _] ty_3)
      refine rA ?_ (x := lF fd_70_5)
      refine rA ?_ (x := lD [PV.val _] ty_3)
      refine rA ?_ (x := B_neq)
      refine sw_cond (t := 36) rfl (fun hb6 => ?_) (fun hb6 => ?_)
      ·try simp only [q1, q2, q3, q4, q5, q6, q7, q8, q9] at hb6
       refine sw_seq ?_
       refine sO [(2, _), (3, _), (4, _)] [(2, _), (3, _)] ?_
       refine sw_reg ?_
       refine rA ?_ (x := kA)
       refine sw_ret ?_
       exact (And.intro (by refine bool_eq ?_; exact (deq_false (fun e => by subst e; simp_all [deq_self])).symm) True.intro)
      ·try simp only [q1, q2, q3, q4, q5, q6, q7, q8, q9] at hb6
       refine sw_skip ?_
       refine sw_seq ?_
       refine sO [(2, _), (3, _), (4, _)] [(2, _), (3, _)] ?_
       refine sw_reg ?_
       refine rA ?_ (x := kA)
       refine sw_ret ?_
       exact (And.intro (by refine bool_eq ?_; exact (deq_true (by apply ext_Event <;> simp_all [deq_iff])).symm) True.intro)
end Go.Proofs.YtaomckpfgmhapaaDoor
