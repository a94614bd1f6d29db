/- What functions of the program compute. No condition. -/
import Derived.Test.YteflgldonmgejaaGreatDoorCDb
import Derived.KernelRfl
set_option linter.unusedVariables false
set_option linter.unusedSimpArgs false
namespace Go.Proofs.YteflgldonmgejaaGreatDoor
open Go Go.RowKit M
set_option maxRecDepth 10000
attribute [local irreducible] PV.Lcl PV.LclR RV.Lcl
theorem eq_IntS {x : List Int} {y : List Int}  : SCall Tryz.prog 43 [(false, [PV.sl .v (x.map cInt)]), (false, [PV.sl .v (y.map cInt)])] (resRV [(false, [PV.val (.bool (deq x y))])]) := by
 refine scall_of (rs := [(false, [PV.val (.bool (deq x y))])]) Tryz.func43 rfl (Nat.le_of_ble_eq_true rfl) (borA_cons (BorL.cons (PV.bor_sl _) BorL.nil) (borA_cons (BorL.cons (PV.bor_sl _) BorL.nil) borA_nil)) ?_
 intro h0 w0 Fz0
 refine sw_len (s := 0) rfl fun hl0 => ?_
 try rw [List.length_map] at hl0
 refine sw_len (s := 1) rfl fun hl1 => ?_
 try rw [List.length_map] at hl1
 refine sw_seq ?_
 refine sw_reg ?_
 refine rA ?_ (x := kA)
 refine sw_seq ?_
 refine sw_seq ?_
 refine sO [(0, _), (1, _), (4, _)] [] ?_
 refine sw_reg ?_
 refine rA ?_ (x := vM false [PV.sl .v _])
 refine rA ?_ (x := lN sl_25)
 refine rA ?_ (x := vM false [PV.sl .v _])
 refine rA ?_ (x := lN sl_25)
 refine rA ?_ (x := B_neq)
 refine sw_cond (t := 10) rfl (fun hb1 => ?_) (fun hb1 => ?_)
 ·try simp only [q1, q2, q3, q4, q5, q6, q7, q8, q9] at hb1
  refine sw_seq ?_
  refine sO [(0, _), (1, _), (4, _)] [] ?_
  refine sw_reg ?_
  refine rA ?_ (x := kA)
  refine sw_ret ?_
  exact (And.intro (by refine bool_eq ?_; exact (deq_false (fun e => by subst e; omega)).symm) True.intro)
 ·try simp only [q1, q2, q3, q4, q5, q6, q7, q8, q9] at hb1
  have hl : x.length = y.length := by omega
  refine sw_skip ?_
  refine sw_seq ?_
  refine sw_seq ?_
  refine sO [(0, _), (1, _), (4, _)] [] ?_
  refine sw_reg ?_
  refine rA ?_ (x := kA)
  refine sw_block ?_
  refine sO [(0, _), (1, _), (4, _), (5, _)] [] ?_
  refine sw_loop (l0 := [(0, RV.sv false [PV.sl _ _]), (1, RV.sv false [PV.sl _ _])]) (b0 := []) (fun k : Nat => k ≤ x.length ∧ x.take k = y.take k) (fun k : Nat => [(5, RV.int (k : Int))]) (fun k : Nat => []) (fun k : Nat => x.length - k) 0 (by exact ⟨by omega, by simp⟩) (by exact ⟨rfl, rfl, ⟨⟩⟩) (by exact ⟨⟩) (by exact And.intro (by exact rfl) (True.intro)) (by exact ⟨⟩) ?_
  rintro k ⟨hk, ha⟩
  refine sw_seq ?_
  refine sw_seq ?_
  refine sw_reg ?_
  refine rA ?_ (x := sM)
  refine rA ?_ (x := vM false [PV.sl .v _])
  refine rA ?_ (x := lN sl_25)
  refine rA ?_ (x := B_lss)
  refine sw_cond (t := 14) rfl (fun hb2 => ?_) (fun hb2 => ?_)
  ·try simp only [q1, q2, q3, q4, q5, q6, q7, q8, q9] at hb2
   have hlt : k < x.length := by omega
   have hlt2 : k < y.length := by omega
   refine sw_skip ?_
   refine sw_seq ?_
   refine sw_block ?_
   refine sw_seq ?_
   refine sO [(0, _), (1, _), (5, _)] [] ?_
   refine sw_draw hm_ ?_
   refine dA 0 ?_ (x := vM false [PV.sl .v _])
   refine dA 0 ?_ (x := sM)
   refine dA 3 ?_ (x := loc_index (by decide) sl_25 (by exact ⟨⟩) (by exact rfl) (by exact getm2 (by omega) rfl) (by exact rfl))
   refine dA 7 ?_ (x := lE [PV.val _] ty_3)
   refine dA 0 ?_ (x := vM false [PV.sl .v _])
   refine dA 0 ?_ (x := sM)
   refine dA 48 ?_ (x := loc_index (by decide) sl_25 (by exact ⟨⟩) (by exact rfl) (by exact getm2 (by omega) rfl) (by exact rfl))
   refine dA 112 ?_ (x := lE [PV.val _] ty_3)
   refine dA 255 ?_ (x := B_neq)
   refine sw_cond (t := 25) rfl (fun hb3 => ?_) (fun hb3 => ?_)
   ·try simp only [q1, q2, q3, q4, q5, q6, q7, q8, q9] at hb3
    have hne : x[k] ≠ y[k] := by simpa using hb3
    refine sw_seq ?_
    refine sO [(0, _), (1, _), (5, _)] [] ?_
    refine sw_reg ?_
    refine rA ?_ (x := kA)
    refine sw_ret ?_
    exact (And.intro (by refine bool_eq ?_; exact (deq_false (eq_no hlt hlt2 hne)).symm) True.intro)
   ·try simp only [q1, q2, q3, q4, q5, q6, q7, q8, q9] at hb3
    have heq : x[k] = y[k] := by simpa using hb3
    refine sw_skip ?_
    refine sO [(0, _), (1, _), (5, _)] [] ?_
    refine sw_reg ?_
    refine rA ?_ (x := sM)
    refine rA ?_ (x := B_add)
    refine rA ?_ (x := sA)
    refine Exists.intro (k + 1) (And.intro (by exact ⟨by omega, eq_succ ha hlt hlt2 heq⟩) (And.intro (by omega) (And.intro (And.intro (by exact ⟨rfl, rfl, ⟨⟩⟩) (by exact ⟨⟩)) (And.intro (by exact And.intro (by exact rfl) (True.intro)) (by exact ⟨⟩)))))
  ·try simp only [q1, q2, q3, q4, q5, q6, q7, q8, q9] at hb2
   refine sw_exit ?_
   refine sw_seq ?_
   refine sO [(0, _), (1, _), (5, _)] [] ?_
   refine sw_reg ?_
   refine rA ?_ (x := kA)
   refine sw_ret ?_
   exact (And.intro (by refine bool_eq ?_; exact (deq_true (eq_end hl (by rw [show x.length = k by omega]; exact ha))).symm) True.intro)
theorem eq_Cond {x : Cond} {y : Cond}  : SCall Tryz.prog 189 [(true, [PV.val (vI x.Field), PV.val (vI x.Low), PV.val (vI x.High)]), (true, [PV.val (vI y.Field), PV.val (vI y.Low), PV.val (vI y.High)])] (resRV [(false, [PV.val (.bool (deq x y))])]) := by
 refine scall_of (rs := [(false, [PV.val (.bool (deq x y))])]) Tryz.func189 rfl (Nat.le_of_ble_eq_true rfl) (borA_cons (BorL.cons (PV.bor_val _) (BorL.cons (PV.bor_val _) (BorL.cons (PV.bor_val _) BorL.nil))) (borA_cons (BorL.cons (PV.bor_val _) (BorL.cons (PV.bor_val _) (BorL.cons (PV.bor_val _) BorL.nil))) borA_nil)) ?_
 intro h0 w0 Fz0
 refine sw_seq ?_
 refine sw_reg ?_
 refine RunS.step (by exact ⟨rfl, ⟨⟩⟩) (by exact ⟨⟩) (LocG.of rfl (loc_box (ag := true) (cs := [PV.val _, PV.val _, PV.val _]) (by decide) (by exact ⟨⟩))) (free1 (Free.of_ rfl)) ?_
 refine RunS.step (by exact ⟨rfl, ⟨⟩⟩) (by exact ⟨⟩) (LocG.of rfl (loc_box (ag := true) (cs := [PV.val _, PV.val _, PV.val _]) (by decide) (by exact ⟨⟩))) (free1 (Free.app (Free.of_ rfl) rfl)) ?_
 refine rA ?_ (x := kA)
 refine sw_seq ?_
 refine sw_seq ?_
 refine sO [(2, _), (3, _), (4, _)] [(2, (165, [PV.val _, PV.val _, PV.val _])), (3, (165, [PV.val _, PV.val _, PV.val _]))] ?_
 refine sw_reg ?_
 refine rA ?_ (x := lF fd_165_0)
 refine rA ?_ (x := lD [PV.val _] ty_3)
 refine rA ?_ (x := lF fd_165_0)
 refine rA ?_ (x := lD [PV.val _] ty_3)
 refine rA ?_ (x := B_neq)
 refine sw_cond (t := 9) rfl (fun hb1 => ?_) (fun hb1 => ?_)
 ·try simp only [q1, q2, q3, q4, q5, q6, q7, q8, q9] at hb1
  refine sw_seq ?_
  refine sO [(2, _), (3, _), (4, _)] [(2, _), (3, _)] ?_
  refine sw_reg ?_
  refine rA ?_ (x := kA)
  refine sw_ret ?_
  exact (And.intro (by refine bool_eq ?_; exact (deq_false (fun e => by subst e; simp_all [deq_self])).symm) True.intro)
 ·try simp only [q1, q2, q3, q4, q5, q6, q7, q8, q9] at hb1
  refine sw_skip ?_
  refine sw_seq ?_
  refine sw_seq ?_
  refine sO [(2, _), (3, _), (4, _)] [(2, _), (3, _)] ?_
  refine sw_reg ?_
  refine rA ?_ (x := lF fd_165_1)
  refine rA ?_ (x := lD [PV.val _] ty_3)
  refine rA ?_ (x := lF fd_165_1)
  refine rA ?_ (x := lD [PV.val _] ty_3)
  refine rA ?_ (x := B_neq)
  refine sw_cond (t := 14) rfl (fun hb2 => ?_) (fun hb2 => ?_)
  ·try simp only [q1, q2, q3, q4, q5, q6, q7, q8, q9] at hb2
   refine sw_seq ?_
   refine sO [(2, _), (3, _), (4, _)] [(2, _), (3, _)] ?_
   refine sw_reg ?_
   refine rA ?_ (x := kA)
   refine sw_ret ?_
   exact (And.intro (by refine bool_eq ?_; exact (deq_false (fun e => by subst e; simp_all [deq_self])).symm) True.intro)
  ·try simp only [q1, q2, q3, q4, q5, q6, q7, q8, q9] at hb2
   refine sw_skip ?_
   refine sw_seq ?_
   refine sw_seq ?_
   refine sO [(2, _), (3, _), (4, _)] [(2, _), (3, _)] ?_
   refine sw_reg ?_
   refine rA ?_ (x := lF fd_165_2)
   refine rA ?_ (x := lD [PV.val _] ty_3)
   refine rA ?_ (x := lF fd_165_2)
   refine rA ?_ (x := lD [PV.val _] ty_3)
   refine rA ?_ (x := B_neq)
   refine sw_cond (t := 19) rfl (fun hb3 => ?_) (fun hb3 => ?_)
   ·try simp only [q1, q2, q3, q4, q5, q6, q7, q8, q9] at hb3
    refine sw_seq ?_
    refine sO [(2, _), (3, _), (4, _)] [(2, _), (3, _)] ?_
    refine sw_reg ?_
    refine rA ?_ (x := kA)
    refine sw_ret ?_
    exact (And.intro (by refine bool_eq ?_; exact (deq_false (fun e => by subst e; simp_all [deq_self])).symm) True.intro)
   ·try simp only [q1, q2, q3, q4, q5, q6, q7, q8, q9] at hb3
    refine sw_skip ?_
    refine sw_seq ?_
    refine sO [(2, _), (3, _), (4, _)] [(2, _), (3, _)] ?_
    refine sw_reg ?_
    refine rA ?_ (x := kA)
    refine sw_ret ?_
    exact (And.intro (by refine bool_eq ?_; exact (deq_true (by apply ext_Cond <;> simp_all [deq_iff])).symm) True.intro)
theorem eq_Charge {x : Charge} {y : Charge}  : SCall Tryz.prog 105 [(true, [PV.val (vI x.Segment), PV.val (vI x.Base), PV.sl .v (x.Ids.map cInt), PV.sl .v (x.Tenants.map cInt), PV.sl .v (x.Rows.map cInt)]), (true, [PV.val (vI y.Segment), PV.val (vI y.Base), PV.sl .v (y.Ids.map cInt), PV.sl .v (y.Tenants.map cInt), PV.sl .v (y.Rows.map cInt)])] (resRV [(false, [PV.val (.bool (deq x y))])]) := by
 refine scall_of (rs := [(false, [PV.val (.bool (deq x y))])]) Tryz.func105 rfl (Nat.le_of_ble_eq_true rfl) (borA_cons (BorL.cons (PV.bor_val _) (BorL.cons (PV.bor_val _) (BorL.cons (PV.bor_sl _) (BorL.cons (PV.bor_sl _) (BorL.cons (PV.bor_sl _) BorL.nil))))) (borA_cons (BorL.cons (PV.bor_val _) (BorL.cons (PV.bor_val _) (BorL.cons (PV.bor_sl _) (BorL.cons (PV.bor_sl _) (BorL.cons (PV.bor_sl _) BorL.nil))))) borA_nil)) ?_
 intro h0 w0 Fz0
 refine sw_slen (s := 0) (j := 2) rfl rfl fun hl0_2 => ?_
 try rw [List.length_map] at hl0_2
 refine sw_slen (s := 0) (j := 3) rfl rfl fun hl0_3 => ?_
 try rw [List.length_map] at hl0_3
 refine sw_slen (s := 0) (j := 4) rfl rfl fun hl0_4 => ?_
 try rw [List.length_map] at hl0_4
 refine sw_slen (s := 1) (j := 2) rfl rfl fun hl1_2 => ?_
 try rw [List.length_map] at hl1_2
 refine sw_slen (s := 1) (j := 3) rfl rfl fun hl1_3 => ?_
 try rw [List.length_map] at hl1_3
 refine sw_slen (s := 1) (j := 4) rfl rfl fun hl1_4 => ?_
 try rw [List.length_map] at hl1_4
 refine sw_seq ?_
 refine sw_reg ?_
 refine RunS.step (by exact ⟨rfl, ⟨⟩⟩) (by exact ⟨⟩) (LocG.of rfl (loc_box (ag := true) (cs := [PV.val _, PV.val _, PV.sl _ _, PV.sl _ _, PV.sl _ _]) (by decide) (by exact ⟨⟩))) (free1 (Free.of_ rfl)) ?_
 refine RunS.step (by exact ⟨rfl, ⟨⟩⟩) (by exact ⟨⟩) (LocG.of rfl (loc_box (ag := true) (cs := [PV.val _, PV.val _, PV.sl _ _, PV.sl _ _, PV.sl _ _]) (by decide) (by exact ⟨⟩))) (free1 (Free.app (Free.of_ rfl) rfl)) ?_
 refine rA ?_ (x := kA)
 refine sw_seq ?_
 refine sw_seq ?_
 refine sO [(2, _), (3, _), (4, _)] [(2, (136, [PV.val _, PV.val _, PV.sl _ _, PV.sl _ _, PV.sl _ _])), (3, (136, [PV.val _, PV.val _, PV.sl _ _, PV.sl _ _, PV.sl _ _]))] ?_
 refine sw_reg ?_
 refine rA ?_ (x := lF fd_136_0)
 refine rA ?_ (x := lD [PV.val _] ty_3)
 refine rA ?_ (x := lF fd_136_0)
 refine rA ?_ (x := lD [PV.val _] ty_3)
 refine rA ?_ (x := B_neq)
 refine sw_cond (t := 9) rfl (fun hb1 => ?_) (fun hb1 => ?_)
 ·try simp only [q1, q2, q3, q4, q5, q6, q7, q8, q9] at hb1
  refine sw_seq ?_
  refine sO [(2, _), (3, _), (4, _)] [(2, _), (3, _)] ?_
  refine sw_reg ?_
  refine rA ?_ (x := kA)
  refine sw_ret ?_
  exact (And.intro (by refine bool_eq ?_; exact (deq_false (fun e => by subst e; simp_all [deq_self])).symm) True.intro)
 ·try simp only [q1, q2, q3, q4, q5, q6, q7, q8, q9] at hb1
  refine sw_skip ?_
  refine sw_seq ?_
  refine sw_seq ?_
  refine sO [(2, _), (3, _), (4, _)] [(2, _), (3, _)] ?_
  refine sw_reg ?_
  refine rA ?_ (x := lF fd_136_1)
  refine rA ?_ (x := lD [PV.val _] ty_3)
  refine rA ?_ (x := lF fd_136_1)
  refine rA ?_ (x := lD [PV.val _] ty_3)
  refine rA ?_ (x := B_neq)
  refine sw_cond (t := 14) rfl (fun hb2 => ?_) (fun hb2 => ?_)
  ·try simp only [q1, q2, q3, q4, q5, q6, q7, q8, q9] at hb2
   refine sw_seq ?_
   refine sO [(2, _), (3, _), (4, _)] [(2, _), (3, _)] ?_
   refine sw_reg ?_
   refine rA ?_ (x := kA)
   refine sw_ret ?_
   exact (And.intro (by refine bool_eq ?_; exact (deq_false (fun e => by subst e; simp_all [deq_self])).symm) True.intro)
  ·try simp only [q1, q2, q3, q4, q5, q6, q7, q8, q9] at hb2
   refine sw_skip ?_
   refine sw_seq ?_
   refine sw_seq ?_
   refine sO [(2, _), (3, _), (4, _)] [(2, _), (3, _)] ?_
   refine sw_reg ?_
   refine rA ?_ (x := lF fd_136_2)
   refine rA ?_ (x := lD [PV.sl .v _] ty_25)
   refine rA ?_ (x := lF fd_136_2)
   refine rA ?_ (x := lD [PV.sl .v _] ty_25)
   refine rA ?_ (x := cL [(false, [PV.sl _ _]), (false, [PV.sl _ _])] [(false, [PV.sl .v _]), (false, [PV.sl .v _])] c_43 (hs := by exact eq_IntS))
   refine rA ?_ (x := nT)
   refine sw_cond (t := 20) rfl (fun hb3 => ?_) (fun hb3 => ?_)
   ·try simp only [q1, q2, q3, q4, q5, q6, q7, q8, q9] at hb3
    refine sw_seq ?_
    refine sO [(2, _), (3, _), (4, _)] [(2, _), (3, _)] ?_
    refine sw_reg ?_
    refine rA ?_ (x := kA)
    refine sw_ret ?_
    exact (And.intro (by refine bool_eq ?_; exact (deq_false (fun e => by subst e; simp_all [deq_self])).symm) True.intro)
   ·try simp only [q1, q2, q3, q4, q5, q6, q7, q8, q9] at hb3
    refine sw_skip ?_
    refine sw_seq ?_
    refine sw_seq ?_
    refine sO [(2, _), (3, _), (4, _)] [(2, _), (3, _)] ?_
    refine sw_reg ?_
    refine rA ?_ (x := lF fd_136_3)
    refine rA ?_ (x := lD [PV.sl .v _] ty_25)
    refine rA ?_ (x := lF fd_136_3)
    refine rA ?_ (x := lD [PV.sl .v _] ty_25)
    refine rA ?_ (x := cL [(false, [PV.sl _ _]), (false, [PV.sl _ _])] [(false, [PV.sl .v _]), (false, [PV.sl .v _])] c_43 (hs := by exact eq_IntS))
    refine rA ?_ (x := nT)
    refine sw_cond (t := 26) rfl (fun hb4 => ?_) (fun hb4 => ?_)
    ·try simp only [q1, q2, q3, q4, q5, q6, q7, q8, q9] at hb4
     refine sw_seq ?_
     refine sO [(2, _), (3, _), (4, _)] [(2, _), (3, _)] ?_
     refine sw_reg ?_
     refine rA ?_ (x := kA)
     refine sw_ret ?_
     exact (And.intro (by refine bool_eq ?_; exact (deq_false (fun e => by subst e; simp_all [deq_self])).symm) True.intro)
    ·try simp only [q1, q2, q3, q4, q5, q6, q7, q8, q9] at hb4
     refine sw_skip ?_
     refine sw_seq ?_
     refine sw_seq ?_
     refine sO [(2, _), (3, _), (4, _)] [(2, _), (3, _)] ?_
     refine sw_reg ?_
     refine rA ?_ (x := lF fd_136_4)
     refine rA ?_ (x := lD [PV.sl .v _] ty_25)
     refine rA ?_ (x := lF fd_136_4)
     refine rA ?_ (x := lD [PV.sl .v _] ty_25)
     refine rA ?_ (x := cL [(false, [PV.sl _ _]), (false, [PV.sl _ _])] [(false, [PV.sl .v _]), (false, [PV.sl .v _])] c_43 (hs := by exact eq_IntS))
     refine rA ?_ (x := nT)
     refine sw_cond (t := 32) rfl (fun hb5 => ?_) (fun hb5 => ?_)
     ·try simp only [q1, q2, q3, q4, q5, q6, q7, q8, q9] at hb5
      refine sw_seq ?_
      refine sO [(2, _), (3, _), (4, _)] [(2, _), (3, _)] ?_
      refine sw_reg ?_
      refine rA ?_ (x := kA)
      refine sw_ret ?_
      exact (And.intro (by refine bool_eq ?_; exact (deq_false (fun e => by subst e; simp_all [deq_self])).symm) True.intro)
     ·try simp only [q1, q2, q3, q4, q5, q6, q7, q8, q9] at hb5
      refine sw_skip ?_
      refine sw_seq ?_
      refine sO [(2, _), (3, _), (4, _)] [(2, _), (3, _)] ?_
      refine sw_reg ?_
      refine rA ?_ (x := kA)
      refine sw_ret ?_
      exact (And.intro (by refine bool_eq ?_; exact (deq_true (by apply ext_Charge <;> simp_all [deq_iff])).symm) True.intro)
theorem eq_CondS {x : List Cond} {y : List Cond}  : SCall Tryz.prog 126 [(false, [PV.sl .v (x.map cCond)]), (false, [PV.sl .v (y.map cCond)])] (resRV [(false, [PV.val (.bool (deq x y))])]) := by
 refine scall_of (rs := [(false, [PV.val (.bool (deq x y))])]) Tryz.func126 rfl (Nat.le_of_ble_eq_true rfl) (borA_cons (BorL.cons (PV.bor_sl _) BorL.nil) (borA_cons (BorL.cons (PV.bor_sl _) BorL.nil) borA_nil)) ?_
 intro h0 w0 Fz0
 refine sw_len (s := 0) rfl fun hl0 => ?_
 try rw [List.length_map] at hl0
 refine sw_len (s := 1) rfl fun hl1 => ?_
 try rw [List.length_map] at hl1
 refine sw_seq ?_
 refine sw_reg ?_
 refine rA ?_ (x := kA)
 refine sw_seq ?_
 refine sw_seq ?_
 refine sO [(0, _), (1, _), (4, _)] [] ?_
 refine sw_reg ?_
 refine rA ?_ (x := vM false [PV.sl .v _])
 refine rA ?_ (x := lN sl_49)
 refine rA ?_ (x := vM false [PV.sl .v _])
 refine rA ?_ (x := lN sl_49)
 refine rA ?_ (x := B_neq)
 refine sw_cond (t := 10) rfl (fun hb1 => ?_) (fun hb1 => ?_)
 ·try simp only [q1, q2, q3, q4, q5, q6, q7, q8, q9] at hb1
  refine sw_seq ?_
  refine sO [(0, _), (1, _), (4, _)] [] ?_
  refine sw_reg ?_
  refine rA ?_ (x := kA)
  refine sw_ret ?_
  exact (And.intro (by refine bool_eq ?_; exact (deq_false (fun e => by subst e; omega)).symm) True.intro)
 ·try simp only [q1, q2, q3, q4, q5, q6, q7, q8, q9] at hb1
  have hl : x.length = y.length := by omega
  refine sw_skip ?_
  refine sw_seq ?_
  refine sw_seq ?_
  refine sO [(0, _), (1, _), (4, _)] [] ?_
  refine sw_reg ?_
  refine rA ?_ (x := kA)
  refine sw_block ?_
  refine sO [(0, _), (1, _), (4, _), (5, _)] [] ?_
  refine sw_loop (l0 := [(0, RV.sv false [PV.sl _ _]), (1, RV.sv false [PV.sl _ _])]) (b0 := []) (fun k : Nat => k ≤ x.length ∧ x.take k = y.take k) (fun k : Nat => [(5, RV.int (k : Int))]) (fun k : Nat => []) (fun k : Nat => x.length - k) 0 (by exact ⟨by omega, by simp⟩) (by exact ⟨rfl, rfl, ⟨⟩⟩) (by exact ⟨⟩) (by exact And.intro (by exact rfl) (True.intro)) (by exact ⟨⟩) ?_
  rintro k ⟨hk, ha⟩
  refine sw_seq ?_
  refine sw_seq ?_
  refine sw_reg ?_
  refine rA ?_ (x := sM)
  refine rA ?_ (x := vM false [PV.sl .v _])
  refine rA ?_ (x := lN sl_49)
  refine rA ?_ (x := B_lss)
  refine sw_cond (t := 14) rfl (fun hb2 => ?_) (fun hb2 => ?_)
  ·try simp only [q1, q2, q3, q4, q5, q6, q7, q8, q9] at hb2
   have hlt : k < x.length := by omega
   have hlt2 : k < y.length := by omega
   refine sw_skip ?_
   refine sw_seq ?_
   refine sw_block ?_
   refine sw_seq ?_
   refine sO [(0, _), (1, _), (5, _)] [] ?_
   refine sw_draw hm_ ?_
   refine dA 0 ?_ (x := vM false [PV.sl .v _])
   refine dA 0 ?_ (x := sM)
   refine dA 3 ?_ (x := loc_index (by decide) sl_49 (by exact ⟨⟩) (by exact rfl) (by exact getm2 (by omega) rfl) (by exact rfl))
   refine dA 7 ?_ (x := lE [PV.val _, PV.val _, PV.val _] ty_165)
   refine dA 0 ?_ (x := vM false [PV.sl .v _])
   refine dA 0 ?_ (x := sM)
   refine dA 48 ?_ (x := loc_index (by decide) sl_49 (by exact ⟨⟩) (by exact rfl) (by exact getm2 (by omega) rfl) (by exact rfl))
   refine dA 112 ?_ (x := lE [PV.val _, PV.val _, PV.val _] ty_165)
   refine dA 255 ?_ (x := cL [(true, [PV.val _, PV.val _, PV.val _]), (true, [PV.val _, PV.val _, PV.val _])] [(true, [PV.val _, PV.val _, PV.val _]), (true, [PV.val _, PV.val _, PV.val _])] c_189 (hs := by exact eq_Cond))
   refine dA 511 ?_ (x := nT)
   refine sw_cond (t := 26) rfl (fun hb3 => ?_) (fun hb3 => ?_)
   ·try simp only [q1, q2, q3, q4, q5, q6, q7, q8, q9] at hb3
    have hne : x[k] ≠ y[k] := by intro hxy; rw [hxy, deq_self] at hb3; simp at hb3
    refine sw_seq ?_
    refine sO [(0, _), (1, _), (5, _)] [] ?_
    refine sw_reg ?_
    refine rA ?_ (x := kA)
    refine sw_ret ?_
    exact (And.intro (by refine bool_eq ?_; exact (deq_false (eq_no hlt hlt2 hne)).symm) True.intro)
   ·try simp only [q1, q2, q3, q4, q5, q6, q7, q8, q9] at hb3
    have heq : x[k] = y[k] := by exact deq_iff.1 (by simpa using hb3)
    refine sw_skip ?_
    refine sO [(0, _), (1, _), (5, _)] [] ?_
    refine sw_reg ?_
    refine rA ?_ (x := sM)
    refine rA ?_ (x := B_add)
    refine rA ?_ (x := sA)
    refine Exists.intro (k + 1) (And.intro (by exact ⟨by omega, eq_succ ha hlt hlt2 heq⟩) (And.intro (by omega) (And.intro (And.intro (by exact ⟨rfl, rfl, ⟨⟩⟩) (by exact ⟨⟩)) (And.intro (by exact And.intro (by exact rfl) (True.intro)) (by exact ⟨⟩)))))
  ·try simp only [q1, q2, q3, q4, q5, q6, q7, q8, q9] at hb2
   refine sw_exit ?_
   refine sw_seq ?_
   refine sO [(0, _), (1, _), (5, _)] [] ?_
   refine sw_reg ?_
   refine rA ?_ (x := kA)
   refine sw_ret ?_
   exact (And.intro (by refine bool_eq ?_; exact (deq_true (eq_end hl (by rw [show x.length = k by omega]; exact ha))).symm) True.intro)
theorem eq_Row {x : Row} {y : Row}  : SCall Tryz.prog 127 [(true, [PV.val (vI x.Id), PV.sl .v (x.Values.map cInt)]), (true, [PV.val (vI y.Id), PV.sl .v (y.Values.map cInt)])] (resRV [(false, [PV.val (.bool (deq x y))])]) := by
 refine scall_of (rs := [(false, [PV.val (.bool (deq x y))])]) Tryz.func127 rfl (Nat.le_of_ble_eq_true rfl) (borA_cons (BorL.cons (PV.bor_val _) (BorL.cons (PV.bor_sl _) BorL.nil)) (borA_cons (BorL.cons (PV.bor_val _) (BorL.cons (PV.bor_sl _) BorL.nil)) borA_nil)) ?_
 intro h0 w0 Fz0
 refine sw_slen (s := 0) (j := 1) rfl rfl fun hl0_1 => ?_
 try rw [List.length_map] at hl0_1
 refine sw_slen (s := 1) (j := 1) rfl rfl fun hl1_1 => ?_
 try rw [List.length_map] at hl1_1
 refine sw_seq ?_
 refine sw_reg ?_
 refine RunS.step (by exact ⟨rfl, ⟨⟩⟩) (by exact ⟨⟩) (LocG.of rfl (loc_box (ag := true) (cs := [PV.val _, PV.sl _ _]) (by decide) (by exact ⟨⟩))) (free1 (Free.of_ rfl)) ?_
 refine RunS.step (by exact ⟨rfl, ⟨⟩⟩) (by exact ⟨⟩) (LocG.of rfl (loc_box (ag := true) (cs := [PV.val _, PV.sl _ _]) (by decide) (by exact ⟨⟩))) (free1 (Free.app (Free.of_ rfl) rfl)) ?_
 refine rA ?_ (x := kA)
 refine sw_seq ?_
 refine sw_seq ?_
 refine sO [(2, _), (3, _), (4, _)] [(2, (53, [PV.val _, PV.sl _ _])), (3, (53, [PV.val _, PV.sl _ _]))] ?_
 refine sw_reg ?_
 refine rA ?_ (x := lF fd_53_0)
 refine rA ?_ (x := lD [PV.val _] ty_3)
 refine rA ?_ (x := lF fd_53_0)
 refine rA ?_ (x := lD [PV.val _] ty_3)
 refine rA ?_ (x := B_neq)
 refine sw_cond (t := 9) rfl (fun hb1 => ?_) (fun hb1 => ?_)
 ·try simp only [q1, q2, q3, q4, q5, q6, q7, q8, q9] at hb1
  refine sw_seq ?_
  refine sO [(2, _), (3, _), (4, _)] [(2, _), (3, _)] ?_
  refine sw_reg ?_
  refine rA ?_ (x := kA)
  refine sw_ret ?_
  exact (And.intro (by refine bool_eq ?_; exact (deq_false (fun e => by subst e; simp_all [deq_self])).symm) True.intro)
 ·try simp only [q1, q2, q3, q4, q5, q6, q7, q8, q9] at hb1
  refine sw_skip ?_
  refine sw_seq ?_
  refine sw_seq ?_
  refine sO [(2, _), (3, _), (4, _)] [(2, _), (3, _)] ?_
  refine sw_reg ?_
  refine rA ?_ (x := lF fd_53_1)
  refine rA ?_ (x := lD [PV.sl .v _] ty_25)
  refine rA ?_ (x := lF fd_53_1)
  refine rA ?_ (x := lD [PV.sl .v _] ty_25)
  refine rA ?_ (x := cL [(false, [PV.sl _ _]), (false, [PV.sl _ _])] [(false, [PV.sl .v _]), (false, [PV.sl .v _])] c_43 (hs := by exact eq_IntS))
  refine rA ?_ (x := nT)
  refine sw_cond (t := 15) rfl (fun hb2 => ?_) (fun hb2 => ?_)
  ·try simp only [q1, q2, q3, q4, q5, q6, q7, q8, q9] at hb2
   refine sw_seq ?_
   refine sO [(2, _), (3, _), (4, _)] [(2, _), (3, _)] ?_
   refine sw_reg ?_
   refine rA ?_ (x := kA)
   refine sw_ret ?_
   exact (And.intro (by refine bool_eq ?_; exact (deq_false (fun e => by subst e; simp_all [deq_self])).symm) True.intro)
  ·try simp only [q1, q2, q3, q4, q5, q6, q7, q8, q9] at hb2
   refine sw_skip ?_
   refine sw_seq ?_
   refine sO [(2, _), (3, _), (4, _)] [(2, _), (3, _)] ?_
   refine sw_reg ?_
   refine rA ?_ (x := kA)
   refine sw_ret ?_
   exact (And.intro (by refine bool_eq ?_; exact (deq_true (by apply ext_Row <;> simp_all [deq_iff])).symm) True.intro)
theorem eq_Version {x : Version} {y : Version}  : SCall Tryz.prog 230 [(true, [PV.val (vI x.Id), PV.sl .v (x.Values.map cInt), PV.val (vI x.Born), PV.val (vI x.Died)]), (true, [PV.val (vI y.Id), PV.sl .v (y.Values.map cInt), PV.val (vI y.Born), PV.val (vI y.Died)])] (resRV [(false, [PV.val (.bool (deq x y))])]) := by
 refine scall_of (rs := [(false, [PV.val (.bool (deq x y))])]) Tryz.func230 rfl (Nat.le_of_ble_eq_true rfl) (borA_cons (BorL.cons (PV.bor_val _) (BorL.cons (PV.bor_sl _) (BorL.cons (PV.bor_val _) (BorL.cons (PV.bor_val _) BorL.nil)))) (borA_cons (BorL.cons (PV.bor_val _) (BorL.cons (PV.bor_sl _) (BorL.cons (PV.bor_val _) (BorL.cons (PV.bor_val _) BorL.nil)))) borA_nil)) ?_
 intro h0 w0 Fz0
 refine sw_slen (s := 0) (j := 1) rfl rfl fun hl0_1 => ?_
 try rw [List.length_map] at hl0_1
 refine sw_slen (s := 1) (j := 1) rfl rfl fun hl1_1 => ?_
 try rw [List.length_map] at hl1_1
 refine sw_seq ?_
 refine sw_reg ?_
 refine RunS.step (by exact ⟨rfl, ⟨⟩⟩) (by exact ⟨⟩) (LocG.of rfl (loc_box (ag := true) (cs := [PV.val _, PV.sl _ _, PV.val _, PV.val _]) (by decide) (by exact ⟨⟩))) (free1 (Free.of_ rfl)) ?_
 refine RunS.step (by exact ⟨rfl, ⟨⟩⟩) (by exact ⟨⟩) (LocG.of rfl (loc_box (ag := true) (cs := [PV.val _, PV.sl _ _, PV.val _, PV.val _]) (by decide) (by exact ⟨⟩))) (free1 (Free.app (Free.of_ rfl) rfl)) ?_
 refine rA ?_ (x := kA)
 refine sw_seq ?_
 refine sw_seq ?_
 refine sO [(2, _), (3, _), (4, _)] [(2, (195, [PV.val _, PV.sl _ _, PV.val _, PV.val _])), (3, (195, [PV.val _, PV.sl _ _, PV.val _, PV.val _]))] ?_
 refine sw_reg ?_
 refine rA ?_ (x := lF fd_195_0)
 refine rA ?_ (x := lD [PV.val _] ty_3)
 refine rA ?_ (x := lF fd_195_0)
 refine rA ?_ (x := lD [PV.val _] ty_3)
 refine rA ?_ (x := B_neq)
 refine sw_cond (t := 9) rfl (fun hb1 => ?_) (fun hb1 => ?_)
 ·try simp only [q1, q2, q3, q4, q5, q6, q7, q8, q9] at hb1
  refine sw_seq ?_
  refine sO [(2, _), (3, _), (4, _)] [(2, _), (3, _)] ?_
  refine sw_reg ?_
  refine rA ?_ (x := kA)
  refine sw_ret ?_
  exact (And.intro (by refine bool_eq ?_; exact (deq_false (fun e => by subst e; simp_all [deq_self])).symm) True.intro)
 ·try simp only [q1, q2, q3, q4, q5, q6, q7, q8, q9] at hb1
  refine sw_skip ?_
  refine sw_seq ?_
  refine sw_seq ?_
  refine sO [(2, _), (3, _), (4, _)] [(2, _), (3, _)] ?_
  refine sw_reg ?_
  refine rA ?_ (x := lF fd_195_1)
  refine rA ?_ (x := lD [PV.sl .v _] ty_25)
  refine rA ?_ (x := lF fd_195_1)
  refine rA ?_ (x := lD [PV.sl .v _] ty_25)
  refine rA ?_ (x := cL [(false, [PV.sl _ _]), (false, [PV.sl _ _])] [(false, [PV.sl .v _]), (false, [PV.sl .v _])] c_43 (hs := by exact eq_IntS))
  refine rA ?_ (x := nT)
  refine sw_cond (t := 15) rfl (fun hb2 => ?_) (fun hb2 => ?_)
  ·try simp only [q1, q2, q3, q4, q5, q6, q7, q8, q9] at hb2
   refine sw_seq ?_
   refine sO [(2, _), (3, _), (4, _)] [(2, _), (3, _)] ?_
   refine sw_reg ?_
   refine rA ?_ (x := kA)
   refine sw_ret ?_
   exact (And.intro (by refine bool_eq ?_; exact (deq_false (fun e => by subst e; simp_all [deq_self])).symm) True.intro)
  ·try simp only [q1, q2, q3, q4, q5, q6, q7, q8, q9] at hb2
   refine sw_skip ?_
   refine sw_seq ?_
   refine sw_seq ?_
   refine sO [(2, _), (3, _), (4, _)] [(2, _), (3, _)] ?_
   refine sw_reg ?_
   refine rA ?_ (x := lF fd_195_2)
   refine rA ?_ (x := lD [PV.val _] ty_3)
   refine rA ?_ (x := lF fd_195_2)
   refine rA ?_ (x := lD [PV.val _] ty_3)
   refine rA ?_ (x := B_neq)
   refine sw_cond (t := 20) rfl (fun hb3 => ?_) (fun hb3 => ?_)
   ·try simp only [q1, q2, q3, q4, q5, q6, q7, q8, q9] at hb3
    refine sw_seq ?_
    refine sO [(2, _), (3, _), (4, _)] [(2, _), (3, _)] ?_
    refine sw_reg ?_
    refine rA ?_ (x := kA)
    refine sw_ret ?_
    exact (And.intro (by refine bool_eq ?_; exact (deq_false (fun e => by subst e; simp_all [deq_self])).symm) True.intro)
   ·try simp only [q1, q2, q3, q4, q5, q6, q7, q8, q9] at hb3
    refine sw_skip ?_
    refine sw_seq ?_
    refine sw_seq ?_
    refine sO [(2, _), (3, _), (4, _)] [(2, _), (3, _)] ?_
    refine sw_reg ?_
    refine rA ?_ (x := lF fd_195_3)
    refine rA ?_ (x := lD [PV.val _] ty_3)
    refine rA ?_ (x := lF fd_195_3)
    refine rA ?_ (x := lD [PV.val _] ty_3)
    refine rA ?_ (x := B_neq)
    refine sw_cond (t := 25) rfl (fun hb4 => ?_) (fun hb4 => ?_)
    ·try simp only [q1, q2, q3, q4, q5, q6, q7, q8, q9] at hb4
     refine sw_seq ?_
     refine sO [(2, _), (3, _), (4, _)] [(2, _), (3, _)] ?_
     refine sw_reg ?_
     refine rA ?_ (x := kA)
     refine sw_ret ?_
     exact (And.intro (by refine bool_eq ?_; exact (deq_false (fun e => by subst e; simp_all [deq_self])).symm) True.intro)
    ·try simp only [q1, q2, q3, q4, q5, q6, q7, q8, q9] at hb4
     refine sw_skip ?_
     refine sw_seq ?_
     refine sO [(2, _), (3, _), (4, _)] [(2, _), (3, _)] ?_
     refine sw_reg ?_
     refine rA ?_ (x := kA)
     refine sw_ret ?_
     exact (And.intro (by refine bool_eq ?_; exact (deq_true (by apply ext_Version <;> simp_all [deq_iff])).symm) True.intro)
theorem eq_ChargeS {p1 p2 p3 p5 p6 p7 : Fl} {x : List Charge} {y : List Charge}  : SCall Tryz.prog 46 [(false, [PV.sl .v (x.map (cCharge p1 p2 p3))]), (false, [PV.sl .v (y.map (cCharge p5 p6 p7))])] (resRV [(false, [PV.val (.bool (deq x y))])]) := by
 refine scall_of (rs := [(false, [PV.val (.bool (deq x y))])]) Tryz.func46 rfl (Nat.le_of_ble_eq_true rfl) (borA_cons (BorL.cons (PV.bor_sl _) BorL.nil) (borA_cons (BorL.cons (PV.bor_sl _) BorL.nil) borA_nil)) ?_
 intro h0 w0 Fz0
 refine sw_len (s := 0) rfl fun hl0 => ?_
 try rw [List.length_map] at hl0
 refine sw_len (s := 1) rfl fun hl1 => ?_
 try rw [List.length_map] at hl1
 refine sw_seq ?_
 refine sw_reg ?_
 refine rA ?_ (x := kA)
 refine sw_seq ?_
 refine sw_seq ?_
 refine sO [(0, _), (1, _), (4, _)] [] ?_
 refine sw_reg ?_
 refine rA ?_ (x := vM false [PV.sl .v _])
 refine rA ?_ (x := lN sl_38)
 refine rA ?_ (x := vM false [PV.sl .v _])
 refine rA ?_ (x := lN sl_38)
 refine rA ?_ (x := B_neq)
 refine sw_cond (t := 10) rfl (fun hb1 => ?_) (fun hb1 => ?_)
 ·try simp only [q1, q2, q3, q4, q5, q6, q7, q8, q9] at hb1
  refine sw_seq ?_
  refine sO [(0, _), (1, _), (4, _)] [] ?_
  refine sw_reg ?_
  refine rA ?_ (x := kA)
  refine sw_ret ?_
  exact (And.intro (by refine bool_eq ?_; exact (deq_false (fun e => by subst e; omega)).symm) True.intro)
 ·try simp only [q1, q2, q3, q4, q5, q6, q7, q8, q9] at hb1
  have hl : x.length = y.length := by omega
  refine sw_skip ?_
  refine sw_seq ?_
  refine sw_seq ?_
  refine sO [(0, _), (1, _), (4, _)] [] ?_
  refine sw_reg ?_
  refine rA ?_ (x := kA)
  refine sw_block ?_
  refine sO [(0, _), (1, _), (4, _), (5, _)] [] ?_
  refine sw_loop (l0 := [(0, RV.sv false [PV.sl _ _]), (1, RV.sv false [PV.sl _ _])]) (b0 := []) (fun k : Nat => k ≤ x.length ∧ x.take k = y.take k) (fun k : Nat => [(5, RV.int (k : Int))]) (fun k : Nat => []) (fun k : Nat => x.length - k) 0 (by exact ⟨by omega, by simp⟩) (by exact ⟨rfl, rfl, ⟨⟩⟩) (by exact ⟨⟩) (by exact And.intro (by exact rfl) (True.intro)) (by exact ⟨⟩) ?_
  rintro k ⟨hk, ha⟩
  refine sw_seq ?_
  refine sw_seq ?_
  refine sw_reg ?_
  refine rA ?_ (x := sM)
  refine rA ?_ (x := vM false [PV.sl .v _])
  refine rA ?_ (x := lN sl_38)
  refine rA ?_ (x := B_lss)
  refine sw_cond (t := 14) rfl (fun hb2 => ?_) (fun hb2 => ?_)
  ·try simp only [q1, q2, q3, q4, q5, q6, q7, q8, q9] at hb2
   have hlt : k < x.length := by omega
   have hlt2 : k < y.length := by omega
   refine sw_skip ?_
   refine sw_seq ?_
   refine sw_block ?_
   refine sw_seq ?_
   refine sO [(0, _), (1, _), (5, _)] [] ?_
   refine sw_draw hm_ ?_
   refine dA 0 ?_ (x := vM false [PV.sl .v _])
   refine dA 0 ?_ (x := sM)
   refine dA 3 ?_ (x := loc_index (by decide) sl_38 (by exact ⟨⟩) (by exact rfl) (by exact getm2 (by omega) rfl) (by exact rfl))
   refine dA 7 ?_ (x := lE [PV.val _, PV.val _, PV.sl .v _, PV.sl .v _, PV.sl .v _] ty_136)
   refine dA 0 ?_ (x := vM false [PV.sl .v _])
   refine dA 0 ?_ (x := sM)
   refine dA 48 ?_ (x := loc_index (by decide) sl_38 (by exact ⟨⟩) (by exact rfl) (by exact getm2 (by omega) rfl) (by exact rfl))
   refine dA 112 ?_ (x := lE [PV.val _, PV.val _, PV.sl .v _, PV.sl .v _, PV.sl .v _] ty_136)
   refine dA 255 ?_ (x := cL [(true, [PV.val _, PV.val _, PV.sl _ _, PV.sl _ _, PV.sl _ _]), (true, [PV.val _, PV.val _, PV.sl _ _, PV.sl _ _, PV.sl _ _])] [(true, [PV.val _, PV.val _, PV.sl .v _, PV.sl .v _, PV.sl .v _]), (true, [PV.val _, PV.val _, PV.sl .v _, PV.sl .v _, PV.sl .v _])] c_105 (hs := by exact eq_Charge))
   refine dA 511 ?_ (x := nT)
   refine sw_cond (t := 26) rfl (fun hb3 => ?_) (fun hb3 => ?_)
   ·try simp only [q1, q2, q3, q4, q5, q6, q7, q8, q9] at hb3
    have hne : x[k] ≠ y[k] := by intro hxy; rw [hxy, deq_self] at hb3; simp at hb3
    refine sw_seq ?_
    refine sO [(0, _), (1, _), (5, _)] [] ?_
    refine sw_reg ?_
    refine rA ?_ (x := kA)
    refine sw_ret ?_
    exact (And.intro (by refine bool_eq ?_; exact (deq_false (eq_no hlt hlt2 hne)).symm) True.intro)
   ·try simp only [q1, q2, q3, q4, q5, q6, q7, q8, q9] at hb3
    have heq : x[k] = y[k] := by exact deq_iff.1 (by simpa using hb3)
    refine sw_skip ?_
    refine sO [(0, _), (1, _), (5, _)] [] ?_
    refine sw_reg ?_
    refine rA ?_ (x := sM)
    refine rA ?_ (x := B_add)
    refine rA ?_ (x := sA)
    refine Exists.intro (k + 1) (And.intro (by exact ⟨by omega, eq_succ ha hlt hlt2 heq⟩) (And.intro (by omega) (And.intro (And.intro (by exact ⟨rfl, rfl, ⟨⟩⟩) (by exact ⟨⟩)) (And.intro (by exact And.intro (by exact rfl) (True.intro)) (by exact ⟨⟩)))))
  ·try simp only [q1, q2, q3, q4, q5, q6, q7, q8, q9] at hb2
   refine sw_exit ?_
   refine sw_seq ?_
   refine sO [(0, _), (1, _), (5, _)] [] ?_
   refine sw_reg ?_
   refine rA ?_ (x := kA)
   refine sw_ret ?_
   exact (And.intro (by refine bool_eq ?_; exact (deq_true (eq_end hl (by rw [show x.length = k by omega]; exact ha))).symm) True.intro)
theorem eq_Query {x : Query} {y : Query}  : SCall Tryz.prog 66 [(true, [PV.val (vI x.Id), PV.val (vI x.Tenant), PV.sl .v (x.Conds.map cCond), PV.sl .v (x.Out.map cInt)]), (true, [PV.val (vI y.Id), PV.val (vI y.Tenant), PV.sl .v (y.Conds.map cCond), PV.sl .v (y.Out.map cInt)])] (resRV [(false, [PV.val (.bool (deq x y))])]) := by
 refine scall_of (rs := [(false, [PV.val (.bool (deq x y))])]) Tryz.func66 rfl (Nat.le_of_ble_eq_true rfl) (borA_cons (BorL.cons (PV.bor_val _) (BorL.cons (PV.bor_val _) (BorL.cons (PV.bor_sl _) (BorL.cons (PV.bor_sl _) BorL.nil)))) (borA_cons (BorL.cons (PV.bor_val _) (BorL.cons (PV.bor_val _) (BorL.cons (PV.bor_sl _) (BorL.cons (PV.bor_sl _) BorL.nil)))) borA_nil)) ?_
 intro h0 w0 Fz0
 refine sw_slen (s := 0) (j := 2) rfl rfl fun hl0_2 => ?_
 try rw [List.length_map] at hl0_2
 refine sw_slen (s := 0) (j := 3) rfl rfl fun hl0_3 => ?_
 try rw [List.length_map] at hl0_3
 refine sw_slen (s := 1) (j := 2) rfl rfl fun hl1_2 => ?_
 try rw [List.length_map] at hl1_2
 refine sw_slen (s := 1) (j := 3) rfl rfl fun hl1_3 => ?_
 try rw [List.length_map] at hl1_3
 refine sw_seq ?_
 refine sw_reg ?_
 refine RunS.step (by exact ⟨rfl, ⟨⟩⟩) (by exact ⟨⟩) (LocG.of rfl (loc_box (ag := true) (cs := [PV.val _, PV.val _, PV.sl _ _, PV.sl _ _]) (by decide) (by exact ⟨⟩))) (free1 (Free.of_ rfl)) ?_
 refine RunS.step (by exact ⟨rfl, ⟨⟩⟩) (by exact ⟨⟩) (LocG.of rfl (loc_box (ag := true) (cs := [PV.val _, PV.val _, PV.sl _ _, PV.sl _ _]) (by decide) (by exact ⟨⟩))) (free1 (Free.app (Free.of_ rfl) rfl)) ?_
 refine rA ?_ (x := kA)
 refine sw_seq ?_
 refine sw_seq ?_
 refine sO [(2, _), (3, _), (4, _)] [(2, (51, [PV.val _, PV.val _, PV.sl _ _, PV.sl _ _])), (3, (51, [PV.val _, PV.val _, PV.sl _ _, PV.sl _ _]))] ?_
 refine sw_reg ?_
 refine rA ?_ (x := lF fd_51_0)
 refine rA ?_ (x := lD [PV.val _] ty_3)
 refine rA ?_ (x := lF fd_51_0)
 refine rA ?_ (x := lD [PV.val _] ty_3)
 refine rA ?_ (x := B_neq)
 refine sw_cond (t := 9) rfl (fun hb1 => ?_) (fun hb1 => ?_)
 ·try simp only [q1, q2, q3, q4, q5, q6, q7, q8, q9] at hb1
  refine sw_seq ?_
  refine sO [(2, _), (3, _), (4, _)] [(2, _), (3, _)] ?_
  refine sw_reg ?_
  refine rA ?_ (x := kA)
  refine sw_ret ?_
  exact (And.intro (by refine bool_eq ?_; exact (deq_false (fun e => by subst e; simp_all [deq_self])).symm) True.intro)
 ·try simp only [q1, q2, q3, q4, q5, q6, q7, q8, q9] at hb1
  refine sw_skip ?_
  refine sw_seq ?_
  refine sw_seq ?_
  refine sO [(2, _), (3, _), (4, _)] [(2, _), (3, _)] ?_
  refine sw_reg ?_
  refine rA ?_ (x := lF fd_51_1)
  refine rA ?_ (x := lD [PV.val _] ty_3)
  refine rA ?_ (x := lF fd_51_1)
  refine rA ?_ (x := lD [PV.val _] ty_3)
  refine rA ?_ (x := B_neq)
  refine sw_cond (t := 14) rfl (fun hb2 => ?_) (fun hb2 => ?_)
  ·try simp only [q1, q2, q3, q4, q5, q6, q7, q8, q9] at hb2
   refine sw_seq ?_
   refine sO [(2, _), (3, _), (4, _)] [(2, _), (3, _)] ?_
   refine sw_reg ?_
   refine rA ?_ (x := kA)
   refine sw_ret ?_
   exact (And.intro (by refine bool_eq ?_; exact (deq_false (fun e => by subst e; simp_all [deq_self])).symm) True.intro)
  ·try simp only [q1, q2, q3, q4, q5, q6, q7, q8, q9] at hb2
   refine sw_skip ?_
   refine sw_seq ?_
   refine sw_seq ?_
   refine sO [(2, _), (3, _), (4, _)] [(2, _), (3, _)] ?_
   refine sw_reg ?_
   refine rA ?_ (x := lF fd_51_2)
   refine rA ?_ (x := lD [PV.sl .v _] ty_49)
   refine rA ?_ (x := lF fd_51_2)
   refine rA ?_ (x := lD [PV.sl .v _] ty_49)
   refine rA ?_ (x := cL [(false, [PV.sl _ _]), (false, [PV.sl _ _])] [(false, [PV.sl .v _]), (false, [PV.sl .v _])] c_126 (hs := by exact eq_CondS))
   refine rA ?_ (x := nT)
   refine sw_cond (t := 20) rfl (fun hb3 => ?_) (fun hb3 => ?_)
   ·try simp only [q1, q2, q3, q4, q5, q6, q7, q8, q9] at hb3
    refine sw_seq ?_
    refine sO [(2, _), (3, _), (4, _)] [(2, _), (3, _)] ?_
    refine sw_reg ?_
    refine rA ?_ (x := kA)
    refine sw_ret ?_
    exact (And.intro (by refine bool_eq ?_; exact (deq_false (fun e => by subst e; simp_all [deq_self])).symm) True.intro)
   ·try simp only [q1, q2, q3, q4, q5, q6, q7, q8, q9] at hb3
    refine sw_skip ?_
    refine sw_seq ?_
    refine sw_seq ?_
    refine sO [(2, _), (3, _), (4, _)] [(2, _), (3, _)] ?_
    refine sw_reg ?_
    refine rA ?_ (x := lF fd_51_3)
    refine rA ?_ (x := lD [PV.sl .v _] ty_25)
    refine rA ?_ (x := lF fd_51_3)
    refine rA ?_ (x := lD [PV.sl .v _] ty_25)
    refine rA ?_ (x := cL [(false, [PV.sl _ _]), (false, [PV.sl _ _])] [(false, [PV.sl .v _]), (false, [PV.sl .v _])] c_43 (hs := by exact eq_IntS))
    refine rA ?_ (x := nT)
    refine sw_cond (t := 26) rfl (fun hb4 => ?_) (fun hb4 => ?_)
    ·try simp only [q1, q2, q3, q4, q5, q6, q7, q8, q9] at hb4
     refine sw_seq ?_
     refine sO [(2, _), (3, _), (4, _)] [(2, _), (3, _)] ?_
     refine sw_reg ?_
     refine rA ?_ (x := kA)
     refine sw_ret ?_
     exact (And.intro (by refine bool_eq ?_; exact (deq_false (fun e => by subst e; simp_all [deq_self])).symm) True.intro)
    ·try simp only [q1, q2, q3, q4, q5, q6, q7, q8, q9] at hb4
     refine sw_skip ?_
     refine sw_seq ?_
     refine sO [(2, _), (3, _), (4, _)] [(2, _), (3, _)] ?_
     refine sw_reg ?_
     refine rA ?_ (x := kA)
     refine sw_ret ?_
     exact (And.intro (by refine bool_eq ?_; exact (deq_true (by apply ext_Query <;> simp_all [deq_iff])).symm) True.intro)
theorem eq_VersionS {p1 p3 : Fl} {x : List Version} {y : List Version}  : SCall Tryz.prog 171 [(false, [PV.sl .v (x.map (cVersion p1))]), (false, [PV.sl .v (y.map (cVersion p3))])] (resRV [(false, [PV.val (.bool (deq x y))])]) := by
 refine scall_of (rs := [(false, [PV.val (.bool (deq x y))])]) Tryz.func171 rfl (Nat.le_of_ble_eq_true rfl) (borA_cons (BorL.cons (PV.bor_sl _) BorL.nil) (borA_cons (BorL.cons (PV.bor_sl _) BorL.nil) borA_nil)) ?_
 intro h0 w0 Fz0
 refine sw_len (s := 0) rfl fun hl0 => ?_
 try rw [List.length_map] at hl0
 refine sw_len (s := 1) rfl fun hl1 => ?_
 try rw [List.length_map] at hl1
 refine sw_seq ?_
 refine sw_reg ?_
 refine rA ?_ (x := kA)
 refine sw_seq ?_
 refine sw_seq ?_
 refine sO [(0, _), (1, _), (4, _)] [] ?_
 refine sw_reg ?_
 refine rA ?_ (x := vM false [PV.sl .v _])
 refine rA ?_ (x := lN sl_138)
 refine rA ?_ (x := vM false [PV.sl .v _])
 refine rA ?_ (x := lN sl_138)
 refine rA ?_ (x := B_neq)
 refine sw_cond (t := 10) rfl (fun hb1 => ?_) (fun hb1 => ?_)
 ·try simp only [q1, q2, q3, q4, q5, q6, q7, q8, q9] at hb1
  refine sw_seq ?_
  refine sO [(0, _), (1, _), (4, _)] [] ?_
  refine sw_reg ?_
  refine rA ?_ (x := kA)
  refine sw_ret ?_
  exact (And.intro (by refine bool_eq ?_; exact (deq_false (fun e => by subst e; omega)).symm) True.intro)
 ·try simp only [q1, q2, q3, q4, q5, q6, q7, q8, q9] at hb1
  have hl : x.length = y.length := by omega
  refine sw_skip ?_
  refine sw_seq ?_
  refine sw_seq ?_
  refine sO [(0, _), (1, _), (4, _)] [] ?_
  refine sw_reg ?_
  refine rA ?_ (x := kA)
  refine sw_block ?_
  refine sO [(0, _), (1, _), (4, _), (5, _)] [] ?_
  refine sw_loop (l0 := [(0, RV.sv false [PV.sl _ _]), (1, RV.sv false [PV.sl _ _])]) (b0 := []) (fun k : Nat => k ≤ x.length ∧ x.take k = y.take k) (fun k : Nat => [(5, RV.int (k : Int))]) (fun k : Nat => []) (fun k : Nat => x.length - k) 0 (by exact ⟨by omega, by simp⟩) (by exact ⟨rfl, rfl, ⟨⟩⟩) (by exact ⟨⟩) (by exact And.intro (by exact rfl) (True.intro)) (by exact ⟨⟩) ?_
  rintro k ⟨hk, ha⟩
  refine sw_seq ?_
  refine sw_seq ?_
  refine sw_reg ?_
  refine rA ?_ (x := sM)
  refine rA ?_ (x := vM false [PV.sl .v _])
  refine rA ?_ (x := lN sl_138)
  refine rA ?_ (x := B_lss)
  refine sw_cond (t := 14) rfl (fun hb2 => ?_) (fun hb2 => ?_)
  ·try simp only [q1, q2, q3, q4, q5, q6, q7, q8, q9] at hb2
   have hlt : k < x.length := by omega
   have hlt2 : k < y.length := by omega
   refine sw_skip ?_
   refine sw_seq ?_
   refine sw_block ?_
   refine sw_seq ?_
   refine sO [(0, _), (1, _), (5, _)] [] ?_
   refine sw_draw hm_ ?_
   refine dA 0 ?_ (x := vM false [PV.sl .v _])
   refine dA 0 ?_ (x := sM)
   refine dA 3 ?_ (x := loc_index (by decide) sl_138 (by exact ⟨⟩) (by exact rfl) (by exact getm2 (by omega) rfl) (by exact rfl))
   refine dA 7 ?_ (x := lE [PV.val _, PV.sl .v _, PV.val _, PV.val _] ty_195)
   refine dA 0 ?_ (x := vM false [PV.sl .v _])
   refine dA 0 ?_ (x := sM)
   refine dA 48 ?_ (x := loc_index (by decide) sl_138 (by exact ⟨⟩) (by exact rfl) (by exact getm2 (by omega) rfl) (by exact rfl))
   refine dA 112 ?_ (x := lE [PV.val _, PV.sl .v _, PV.val _, PV.val _] ty_195)
   refine dA 255 ?_ (x := cL [(true, [PV.val _, PV.sl _ _, PV.val _, PV.val _]), (true, [PV.val _, PV.sl _ _, PV.val _, PV.val _])] [(true, [PV.val _, PV.sl .v _, PV.val _, PV.val _]), (true, [PV.val _, PV.sl .v _, PV.val _, PV.val _])] c_230 (hs := by exact eq_Version))
   refine dA 511 ?_ (x := nT)
   refine sw_cond (t := 26) rfl (fun hb3 => ?_) (fun hb3 => ?_)
   ·try simp only [q1, q2, q3, q4, q5, q6, q7, q8, q9] at hb3
    have hne : x[k] ≠ y[k] := by intro hxy; rw [hxy, deq_self] at hb3; simp at hb3
    refine sw_seq ?_
    refine sO [(0, _), (1, _), (5, _)] [] ?_
    refine sw_reg ?_
    refine rA ?_ (x := kA)
    refine sw_ret ?_
    exact (And.intro (by refine bool_eq ?_; exact (deq_false (eq_no hlt hlt2 hne)).symm) True.intro)
   ·try simp only [q1, q2, q3, q4, q5, q6, q7, q8, q9] at hb3
    have heq : x[k] = y[k] := by exact deq_iff.1 (by simpa using hb3)
    refine sw_skip ?_
    refine sO [(0, _), (1, _), (5, _)] [] ?_
    refine sw_reg ?_
    refine rA ?_ (x := sM)
    refine rA ?_ (x := B_add)
    refine rA ?_ (x := sA)
    refine Exists.intro (k + 1) (And.intro (by exact ⟨by omega, eq_succ ha hlt hlt2 heq⟩) (And.intro (by omega) (And.intro (And.intro (by exact ⟨rfl, rfl, ⟨⟩⟩) (by exact ⟨⟩)) (And.intro (by exact And.intro (by exact rfl) (True.intro)) (by exact ⟨⟩)))))
  ·try simp only [q1, q2, q3, q4, q5, q6, q7, q8, q9] at hb2
   refine sw_exit ?_
   refine sw_seq ?_
   refine sO [(0, _), (1, _), (5, _)] [] ?_
   refine sw_reg ?_
   refine rA ?_ (x := kA)
   refine sw_ret ?_
   exact (And.intro (by refine bool_eq ?_; exact (deq_true (eq_end hl (by rw [show x.length = k by omega]; exact ha))).symm) True.intro)
theorem eq_RowS {p1 p3 : Fl} {x : List Row} {y : List Row}  : SCall Tryz.prog 172 [(false, [PV.sl .v (x.map (cRow p1))]), (false, [PV.sl .v (y.map (cRow p3))])] (resRV [(false, [PV.val (.bool (deq x y))])]) := by
 refine scall_of (rs := [(false, [PV.val (.bool (deq x y))])]) Tryz.func172 rfl (Nat.le_of_ble_eq_true rfl) (borA_cons (BorL.cons (PV.bor_sl _) BorL.nil) (borA_cons (BorL.cons (PV.bor_sl _) BorL.nil) borA_nil)) ?_
 intro h0 w0 Fz0
 refine sw_len (s := 0) rfl fun hl0 => ?_
 try rw [List.length_map] at hl0
 refine sw_len (s := 1) rfl fun hl1 => ?_
 try rw [List.length_map] at hl1
 refine sw_seq ?_
 refine sw_reg ?_
 refine rA ?_ (x := kA)
 refine sw_seq ?_
 refine sw_seq ?_
 refine sO [(0, _), (1, _), (4, _)] [] ?_
 refine sw_reg ?_
 refine rA ?_ (x := vM false [PV.sl .v _])
 refine rA ?_ (x := lN sl_83)
 refine rA ?_ (x := vM false [PV.sl .v _])
 refine rA ?_ (x := lN sl_83)
 refine rA ?_ (x := B_neq)
 refine sw_cond (t := 10) rfl (fun hb1 => ?_) (fun hb1 => ?_)
 ·try simp only [q1, q2, q3, q4, q5, q6, q7, q8, q9] at hb1
  refine sw_seq ?_
  refine sO [(0, _), (1, _), (4, _)] [] ?_
  refine sw_reg ?_
  refine rA ?_ (x := kA)
  refine sw_ret ?_
  exact (And.intro (by refine bool_eq ?_; exact (deq_false (fun e => by subst e; omega)).symm) True.intro)
 ·try simp only [q1, q2, q3, q4, q5, q6, q7, q8, q9] at hb1
  have hl : x.length = y.length := by omega
  refine sw_skip ?_
  refine sw_seq ?_
  refine sw_seq ?_
  refine sO [(0, _), (1, _), (4, _)] [] ?_
  refine sw_reg ?_
  refine rA ?_ (x := kA)
  refine sw_block ?_
  refine sO [(0, _), (1, _), (4, _), (5, _)] [] ?_
  refine sw_loop (l0 := [(0, RV.sv false [PV.sl _ _]), (1, RV.sv false [PV.sl _ _])]) (b0 := []) (fun k : Nat => k ≤ x.length ∧ x.take k = y.take k) (fun k : Nat => [(5, RV.int (k : Int))]) (fun k : Nat => []) (fun k : Nat => x.length - k) 0 (by exact ⟨by omega, by simp⟩) (by exact ⟨rfl, rfl, ⟨⟩⟩) (by exact ⟨⟩) (by exact And.intro (by exact rfl) (True.intro)) (by exact ⟨⟩) ?_
  rintro k ⟨hk, ha⟩
  refine sw_seq ?_
  refine sw_seq ?_
  refine sw_reg ?_
  refine rA ?_ (x := sM)
  refine rA ?_ (x := vM false [PV.sl .v _])
  refine rA ?_ (x := lN sl_83)
  refine rA ?_ (x := B_lss)
  refine sw_cond (t := 14) rfl (fun hb2 => ?_) (fun hb2 => ?_)
  ·try simp only [q1, q2, q3, q4, q5, q6, q7, q8, q9] at hb2
   have hlt : k < x.length := by omega
   have hlt2 : k < y.length := by omega
   refine sw_skip ?_
   refine sw_seq ?_
   refine sw_block ?_
   refine sw_seq ?_
   refine sO [(0, _), (1, _), (5, _)] [] ?_
   refine sw_draw hm_ ?_
   refine dA 0 ?_ (x := vM false [PV.sl .v _])
   refine dA 0 ?_ (x := sM)
   refine dA 3 ?_ (x := loc_index (by decide) sl_83 (by exact ⟨⟩) (by exact rfl) (by exact getm2 (by omega) rfl) (by exact rfl))
   refine dA 7 ?_ (x := lE [PV.val _, PV.sl .v _] ty_53)
   refine dA 0 ?_ (x := vM false [PV.sl .v _])
   refine dA 0 ?_ (x := sM)
   refine dA 48 ?_ (x := loc_index (by decide) sl_83 (by exact ⟨⟩) (by exact rfl) (by exact getm2 (by omega) rfl) (by exact rfl))
   refine dA 112 ?_ (x := lE [PV.val _, PV.sl .v _] ty_53)
   refine dA 255 ?_ (x := cL [(true, [PV.val _, PV.sl _ _]), (true, [PV.val _, PV.sl _ _])] [(true, [PV.val _, PV.sl .v _]), (true, [PV.val _, PV.sl .v _])] c_127 (hs := by exact eq_Row))
   refine dA 511 ?_ (x := nT)
   refine sw_cond (t := 26) rfl (fun hb3 => ?_) (fun hb3 => ?_)
   ·try simp only [q1, q2, q3, q4, q5, q6, q7, q8, q9] at hb3
    have hne : x[k] ≠ y[k] := by intro hxy; rw [hxy, deq_self] at hb3; simp at hb3
    refine sw_seq ?_
    refine sO [(0, _), (1, _), (5, _)] [] ?_
    refine sw_reg ?_
    refine rA ?_ (x := kA)
    refine sw_ret ?_
    exact (And.intro (by refine bool_eq ?_; exact (deq_false (eq_no hlt hlt2 hne)).symm) True.intro)
   ·try simp only [q1, q2, q3, q4, q5, q6, q7, q8, q9] at hb3
    have heq : x[k] = y[k] := by exact deq_iff.1 (by simpa using hb3)
    refine sw_skip ?_
    refine sO [(0, _), (1, _), (5, _)] [] ?_
    refine sw_reg ?_
    refine rA ?_ (x := sM)
    refine rA ?_ (x := B_add)
    refine rA ?_ (x := sA)
    refine Exists.intro (k + 1) (And.intro (by exact ⟨by omega, eq_succ ha hlt hlt2 heq⟩) (And.intro (by omega) (And.intro (And.intro (by exact ⟨rfl, rfl, ⟨⟩⟩) (by exact ⟨⟩)) (And.intro (by exact And.intro (by exact rfl) (True.intro)) (by exact ⟨⟩)))))
  ·try simp only [q1, q2, q3, q4, q5, q6, q7, q8, q9] at hb2
   refine sw_exit ?_
   refine sw_seq ?_
   refine sO [(0, _), (1, _), (5, _)] [] ?_
   refine sw_reg ?_
   refine rA ?_ (x := kA)
   refine sw_ret ?_
   exact (And.intro (by refine bool_eq ?_; exact (deq_true (eq_end hl (by rw [show x.length = k by omega]; exact ha))).symm) True.intro)
theorem eq_VersionSS {p1 p2 p4 p5 : Fl} {x : List (List Version)} {y : List (List Version)}  : SCall Tryz.prog 102 [(false, [PV.sl .v (x.map (cVersionS p1 p2))]), (false, [PV.sl .v (y.map (cVersionS p4 p5))])] (resRV [(false, [PV.val (.bool (deq x y))])]) := by
 refine scall_of (rs := [(false, [PV.val (.bool (deq x y))])]) Tryz.func102 rfl (Nat.le_of_ble_eq_true rfl) (borA_cons (BorL.cons (PV.bor_sl _) BorL.nil) (borA_cons (BorL.cons (PV.bor_sl _) BorL.nil) borA_nil)) ?_
 intro h0 w0 Fz0
 refine sw_len (s := 0) rfl fun hl0 => ?_
 try rw [List.length_map] at hl0
 refine sw_len (s := 1) rfl fun hl1 => ?_
 try rw [List.length_map] at hl1
 refine sw_seq ?_
 refine sw_reg ?_
 refine rA ?_ (x := kA)
 refine sw_seq ?_
 refine sw_seq ?_
 refine sO [(0, _), (1, _), (4, _)] [] ?_
 refine sw_reg ?_
 refine rA ?_ (x := vM false [PV.sl .v _])
 refine rA ?_ (x := lN sl_33)
 refine rA ?_ (x := vM false [PV.sl .v _])
 refine rA ?_ (x := lN sl_33)
 refine rA ?_ (x := B_neq)
 refine sw_cond (t := 10) rfl (fun hb1 => ?_) (fun hb1 => ?_)
 ·try simp only [q1, q2, q3, q4, q5, q6, q7, q8, q9] at hb1
  refine sw_seq ?_
  refine sO [(0, _), (1, _), (4, _)] [] ?_
  refine sw_reg ?_
  refine rA ?_ (x := kA)
  refine sw_ret ?_
  exact (And.intro (by refine bool_eq ?_; exact (deq_false (fun e => by subst e; omega)).symm) True.intro)
 ·try simp only [q1, q2, q3, q4, q5, q6, q7, q8, q9] at hb1
  have hl : x.length = y.length := by omega
  refine sw_skip ?_
  refine sw_seq ?_
  refine sw_seq ?_
  refine sO [(0, _), (1, _), (4, _)] [] ?_
  refine sw_reg ?_
  refine rA ?_ (x := kA)
  refine sw_block ?_
  refine sO [(0, _), (1, _), (4, _), (5, _)] [] ?_
  refine sw_loop (l0 := [(0, RV.sv false [PV.sl _ _]), (1, RV.sv false [PV.sl _ _])]) (b0 := []) (fun k : Nat => k ≤ x.length ∧ x.take k = y.take k) (fun k : Nat => [(5, RV.int (k : Int))]) (fun k : Nat => []) (fun k : Nat => x.length - k) 0 (by exact ⟨by omega, by simp⟩) (by exact ⟨rfl, rfl, ⟨⟩⟩) (by exact ⟨⟩) (by exact And.intro (by exact rfl) (True.intro)) (by exact ⟨⟩) ?_
  rintro k ⟨hk, ha⟩
  refine sw_seq ?_
  refine sw_seq ?_
  refine sw_reg ?_
  refine rA ?_ (x := sM)
  refine rA ?_ (x := vM false [PV.sl .v _])
  refine rA ?_ (x := lN sl_33)
  refine rA ?_ (x := B_lss)
  refine sw_cond (t := 14) rfl (fun hb2 => ?_) (fun hb2 => ?_)
  ·try simp only [q1, q2, q3, q4, q5, q6, q7, q8, q9] at hb2
   have hlt : k < x.length := by omega
   have hlt2 : k < y.length := by omega
   refine sw_skip ?_
   refine sw_seq ?_
   refine sw_block ?_
   refine sw_seq ?_
   refine sO [(0, _), (1, _), (5, _)] [] ?_
   refine sw_draw hm_ ?_
   refine dA 0 ?_ (x := vM false [PV.sl .v _])
   refine dA 0 ?_ (x := sM)
   refine dA 3 ?_ (x := loc_index (by decide) sl_33 (by exact ⟨⟩) (by exact rfl) (by exact getm2 (by omega) rfl) (by exact rfl))
   refine dA 7 ?_ (x := lE [PV.sl .v _] ty_138)
   refine dA 0 ?_ (x := vM false [PV.sl .v _])
   refine dA 0 ?_ (x := sM)
   refine dA 48 ?_ (x := loc_index (by decide) sl_33 (by exact ⟨⟩) (by exact rfl) (by exact getm2 (by omega) rfl) (by exact rfl))
   refine dA 112 ?_ (x := lE [PV.sl .v _] ty_138)
   refine dA 255 ?_ (x := cL [(false, [PV.sl _ _]), (false, [PV.sl _ _])] [(false, [PV.sl .v _]), (false, [PV.sl .v _])] c_171 (hs := by exact eq_VersionS))
   refine dA 511 ?_ (x := nT)
   refine sw_cond (t := 26) rfl (fun hb3 => ?_) (fun hb3 => ?_)
   ·try simp only [q1, q2, q3, q4, q5, q6, q7, q8, q9] at hb3
    have hne : x[k] ≠ y[k] := by intro hxy; rw [hxy, deq_self] at hb3; simp at hb3
    refine sw_seq ?_
    refine sO [(0, _), (1, _), (5, _)] [] ?_
    refine sw_reg ?_
    refine rA ?_ (x := kA)
    refine sw_ret ?_
    exact (And.intro (by refine bool_eq ?_; exact (deq_false (eq_no hlt hlt2 hne)).symm) True.intro)
   ·try simp only [q1, q2, q3, q4, q5, q6, q7, q8, q9] at hb3
    have heq : x[k] = y[k] := by exact deq_iff.1 (by simpa using hb3)
    refine sw_skip ?_
    refine sO [(0, _), (1, _), (5, _)] [] ?_
    refine sw_reg ?_
    refine rA ?_ (x := sM)
    refine rA ?_ (x := B_add)
    refine rA ?_ (x := sA)
    refine Exists.intro (k + 1) (And.intro (by exact ⟨by omega, eq_succ ha hlt hlt2 heq⟩) (And.intro (by omega) (And.intro (And.intro (by exact ⟨rfl, rfl, ⟨⟩⟩) (by exact ⟨⟩)) (And.intro (by exact And.intro (by exact rfl) (True.intro)) (by exact ⟨⟩)))))
  ·try simp only [q1, q2, q3, q4, q5, q6, q7, q8, q9] at hb2
   refine sw_exit ?_
   refine sw_seq ?_
   refine sO [(0, _), (1, _), (5, _)] [] ?_
   refine sw_reg ?_
   refine rA ?_ (x := kA)
   refine sw_ret ?_
   exact (And.intro (by refine bool_eq ?_; exact (deq_true (eq_end hl (by rw [show x.length = k by omega]; exact ha))).symm) True.intro)
theorem eq_Active {p4 p9 : Fl} {x : Active} {y : Active}  : SCall Tryz.prog 103 [(true, [PV.val (vI x.Query.Id), PV.val (vI x.Query.Tenant), PV.sl .v (x.Query.Conds.map cCond), PV.sl .v (x.Query.Out.map cInt), PV.val (vI x.Time), PV.sl .v (x.Todo.map cInt), PV.val (vI x.Age), PV.val (vI x.Sent), PV.val (vI x.Cap), PV.sl .v (x.Rows.map (cRow p4))]), (true, [PV.val (vI y.Query.Id), PV.val (vI y.Query.Tenant), PV.sl .v (y.Query.Conds.map cCond), PV.sl .v (y.Query.Out.map cInt), PV.val (vI y.Time), PV.sl .v (y.Todo.map cInt), PV.val (vI y.Age), PV.val (vI y.Sent), PV.val (vI y.Cap), PV.sl .v (y.Rows.map (cRow p9))])] (resRV [(false, [PV.val (.bool (deq x y))])]) := by
 refine scall_of (rs := [(false, [PV.val (.bool (deq x y))])]) Tryz.func103 rfl (Nat.le_of_ble_eq_true rfl) (borA_cons (BorL.cons (PV.bor_val _) (BorL.cons (PV.bor_val _) (BorL.cons (PV.bor_sl _) (BorL.cons (PV.bor_sl _) (BorL.cons (PV.bor_val _) (BorL.cons (PV.bor_sl _) (BorL.cons (PV.bor_val _) (BorL.cons (PV.bor_val _) (BorL.cons (PV.bor_val _) (BorL.cons (PV.bor_sl _) BorL.nil)))))))))) (borA_cons (BorL.cons (PV.bor_val _) (BorL.cons (PV.bor_val _) (BorL.cons (PV.bor_sl _) (BorL.cons (PV.bor_sl _) (BorL.cons (PV.bor_val _) (BorL.cons (PV.bor_sl _) (BorL.cons (PV.bor_val _) (BorL.cons (PV.bor_val _) (BorL.cons (PV.bor_val _) (BorL.cons (PV.bor_sl _) BorL.nil)))))))))) borA_nil)) ?_
 intro h0 w0 Fz0
 refine sw_slen (s := 0) (j := 2) rfl rfl fun hl0_2 => ?_
 try rw [List.length_map] at hl0_2
 refine sw_slen (s := 0) (j := 3) rfl rfl fun hl0_3 => ?_
 try rw [List.length_map] at hl0_3
 refine sw_slen (s := 0) (j := 5) rfl rfl fun hl0_5 => ?_
 try rw [List.length_map] at hl0_5
 refine sw_slen (s := 0) (j := 9) rfl rfl fun hl0_9 => ?_
 try rw [List.length_map] at hl0_9
 refine sw_slen (s := 1) (j := 2) rfl rfl fun hl1_2 => ?_
 try rw [List.length_map] at hl1_2
 refine sw_slen (s := 1) (j := 3) rfl rfl fun hl1_3 => ?_
 try rw [List.length_map] at hl1_3
 refine sw_slen (s := 1) (j := 5) rfl rfl fun hl1_5 => ?_
 try rw [List.length_map] at hl1_5
 refine sw_slen (s := 1) (j := 9) rfl rfl fun hl1_9 => ?_
 try rw [List.length_map] at hl1_9
 refine sw_seq ?_
 refine sw_reg ?_
 refine RunS.step (by exact ⟨rfl, ⟨⟩⟩) (by exact ⟨⟩) (LocG.of rfl (loc_box (ag := true) (cs := [PV.val _, PV.val _, PV.sl _ _, PV.sl _ _, PV.val _, PV.sl _ _, PV.val _, PV.val _, PV.val _, PV.sl _ _]) (by decide) (by exact ⟨⟩))) (free1 (Free.of_ rfl)) ?_
 refine RunS.step (by exact ⟨rfl, ⟨⟩⟩) (by exact ⟨⟩) (LocG.of rfl (loc_box (ag := true) (cs := [PV.val _, PV.val _, PV.sl _ _, PV.sl _ _, PV.val _, PV.sl _ _, PV.val _, PV.val _, PV.val _, PV.sl _ _]) (by decide) (by exact ⟨⟩))) (free1 (Free.app (Free.of_ rfl) rfl)) ?_
 refine rA ?_ (x := kA)
 refine sw_seq ?_
 refine sw_seq ?_
 refine sO [(2, _), (3, _), (4, _)] [(2, (85, [PV.val _, PV.val _, PV.sl _ _, PV.sl _ _, PV.val _, PV.sl _ _, PV.val _, PV.val _, PV.val _, PV.sl _ _])), (3, (85, [PV.val _, PV.val _, PV.sl _ _, PV.sl _ _, PV.val _, PV.sl _ _, PV.val _, PV.val _, PV.val _, PV.sl _ _]))] ?_
 refine sw_reg ?_
 refine rA ?_ (x := lF fd_85_0)
 refine rA ?_ (x := lD [PV.val _, PV.val _, PV.sl .v _, PV.sl .v _] ty_51)
 refine rA ?_ (x := lF fd_85_0)
 refine rA ?_ (x := lD [PV.val _, PV.val _, PV.sl .v _, PV.sl .v _] ty_51)
 refine rA ?_ (x := cL [(true, [PV.val _, PV.val _, PV.sl _ _, PV.sl _ _]), (true, [PV.val _, PV.val _, PV.sl _ _, PV.sl _ _])] [(true, [PV.val _, PV.val _, PV.sl .v _, PV.sl .v _]), (true, [PV.val _, PV.val _, PV.sl .v _, PV.sl .v _])] c_66 (hs := by exact eq_Query))
 refine rA ?_ (x := nT)
 refine sw_cond (t := 10) rfl (fun hb1 => ?_) (fun hb1 => ?_)
 ·try simp only [q1, q2, q3, q4, q5, q6, q7, q8, q9] at hb1
  refine sw_seq ?_
  refine sO [(2, _), (3, _), (4, _)] [(2, _), (3, _)] ?_
  refine sw_reg ?_
  refine rA ?_ (x := kA)
  refine sw_ret ?_
  exact (And.intro (by refine bool_eq ?_; exact (deq_false (fun e => by subst e; simp_all [deq_self])).symm) True.intro)
 ·try simp only [q1, q2, q3, q4, q5, q6, q7, q8, q9] at hb1
  refine sw_skip ?_
  refine sw_seq ?_
  refine sw_seq ?_
  refine sO [(2, _), (3, _), (4, _)] [(2, _), (3, _)] ?_
  refine sw_reg ?_
  refine rA ?_ (x := lF fd_85_1)
  refine rA ?_ (x := lD [PV.val _] ty_3)
  refine rA ?_ (x := lF fd_85_1)
  refine rA ?_ (x := lD [PV.val _] ty_3)
  refine rA ?_ (x := B_neq)
  refine sw_cond (t := 15) rfl (fun hb2 => ?_) (fun hb2 => ?_)
  ·try simp only [q1, q2, q3, q4, q5, q6, q7, q8, q9] at hb2
   refine sw_seq ?_
   refine sO [(2, _), (3, _), (4, _)] [(2, _), (3, _)] ?_
   refine sw_reg ?_
   refine rA ?_ (x := kA)
   refine sw_ret ?_
   exact (And.intro (by refine bool_eq ?_; exact (deq_false (fun e => by subst e; simp_all [deq_self])).symm) True.intro)
  ·try simp only [q1, q2, q3, q4, q5, q6, q7, q8, q9] at hb2
   refine sw_skip ?_
   refine sw_seq ?_
   refine sw_seq ?_
   refine sO [(2, _), (3, _), (4, _)] [(2, _), (3, _)] ?_
   refine sw_reg ?_
   refine rA ?_ (x := lF fd_85_2)
   refine rA ?_ (x := lD [PV.sl .v _] ty_25)
   refine rA ?_ (x := lF fd_85_2)
   refine rA ?_ (x := lD [PV.sl .v _] ty_25)
   refine rA ?_ (x := cL [(false, [PV.sl _ _]), (false, [PV.sl _ _])] [(false, [PV.sl .v _]), (false, [PV.sl .v _])] c_43 (hs := by exact eq_IntS))
   refine rA ?_ (x := nT)
   refine sw_cond (t := 21) rfl (fun hb3 => ?_) (fun hb3 => ?_)
   ·try simp only [q1, q2, q3, q4, q5, q6, q7, q8, q9] at hb3
    refine sw_seq ?_
    refine sO [(2, _), (3, _), (4, _)] [(2, _), (3, _)] ?_
    refine sw_reg ?_
    refine rA ?_ (x := kA)
    refine sw_ret ?_
    exact (And.intro (by refine bool_eq ?_; exact (deq_false (fun e => by subst e; simp_all [deq_self])).symm) True.intro)
   ·try simp only [q1, q2, q3, q4, q5, q6, q7, q8, q9] at hb3
    refine sw_skip ?_
    refine sw_seq ?_
    refine sw_seq ?_
    refine sO [(2, _), (3, _), (4, _)] [(2, _), (3, _)] ?_
    refine sw_reg ?_
    refine rA ?_ (x := lF fd_85_3)
    refine rA ?_ (x := lD [PV.val _] ty_3)
    refine rA ?_ (x := lF fd_85_3)
    refine rA ?_ (x := lD [PV.val _] ty_3)
    refine rA ?_ (x := B_neq)
    refine sw_cond (t := 26) rfl (fun hb4 => ?_) (fun hb4 => ?_)
    ·try simp only [q1, q2, q3, q4, q5, q6, q7, q8, q9] at hb4
     refine sw_seq ?_
     refine sO [(2, _), (3, _), (4, _)] [(2, _), (3, _)] ?_
     refine sw_reg ?_
     refine rA ?_ (x := kA)
     refine sw_ret ?_
     exact (And.intro (by refine bool_eq ?_; exact (deq_false (fun e => by subst e; simp_all [deq_self])).symm) True.intro)
    ·try simp only [q1, q2, q3, q4, q5, q6, q7, q8, q9] at hb4
     refine sw_skip ?_
     refine sw_seq ?_
     refine sw_seq ?_
     refine sO [(2, _), (3, _), (4, _)] [(2, _), (3, _)] ?_
     refine sw_reg ?_
     refine rA ?_ (x := lF fd_85_4)
     refine rA ?_ (x := lD [PV.val _] ty_3)
     refine rA ?_ (x := lF fd_85_4)
     refine rA ?_ (x := lD [PV.val _] ty_3)
     refine rA ?_ (x := B_neq)
     refine sw_cond (t := 31) rfl (fun hb5 => ?_) (fun hb5 => ?_)
     ·try simp only [q1, q2, q3, q4, q5, q6, q7, q8, q9] at hb5
      refine sw_seq ?_
      refine sO [(2, _), (3, _), (4, _)] [(2, _), (3, _)] ?_
      refine sw_reg ?_
      refine rA ?_ (x := kA)
      refine sw_ret ?_
      exact (And.intro (by refine bool_eq ?_; exact (deq_false (fun e => by subst e; simp_all [deq_self])).symm) True.intro)
     ·try simp only [q1, q2, q3, q4, q5, q6, q7, q8, q9] at hb5
      refine sw_skip ?_
      refine sw_seq ?_
      refine sw_seq ?_
      refine sO [(2, _), (3, _), (4, _)] [(2, _), (3, _)] ?_
      refine sw_reg ?_
      refine rA ?_ (x := lF fd_85_5)
      refine rA ?_ (x := lD [PV.val _] ty_3)
      refine rA ?_ (x := lF fd_85_5)
      refine rA ?_ (x := lD [PV.val _] ty_3)
      refine rA ?_ (x := B_neq)
      refine sw_cond (t := 36) rfl (fun hb6 => ?_) (fun hb6 => ?_)
      ·try simp only [q1, q2, q3, q4, q5, q6, q7, q8, q9] at hb6
       refine sw_seq ?_
       refine sO [(2, _), (3, _), (4, _)] [(2, _), (3, _)] ?_
       refine sw_reg ?_
       refine rA ?_ (x := kA)
       refine sw_ret ?_
       exact (And.intro (by refine bool_eq ?_; exact (deq_false (fun e => by subst e; simp_all [deq_self])).symm) True.intro)
      ·try simp only [q1, q2, q3, q4, q5, q6, q7, q8, q9] at hb6
       refine sw_skip ?_
       refine sw_seq ?_
       refine sw_seq ?_
       refine sO [(2, _), (3, _), (4, _)] [(2, _), (3, _)] ?_
       refine sw_reg ?_
       refine rA ?_ (x := lF fd_85_6)
       refine rA ?_ (x := lD [PV.sl .v _] ty_83)
       refine rA ?_ (x := lF fd_85_6)
       refine rA ?_ (x := lD [PV.sl .v _] ty_83)
       refine rA ?_ (x := cL [(false, [PV.sl _ _]), (false, [PV.sl _ _])] [(false, [PV.sl .v _]), (false, [PV.sl .v _])] c_172 (hs := by exact eq_RowS))
       refine rA ?_ (x := nT)
       refine sw_cond (t := 42) rfl (fun hb7 => ?_) (fun hb7 => ?_)
       ·try simp only [q1, q2, q3, q4, q5, q6, q7, q8, q9] at hb7
        refine sw_seq ?_
        refine sO [(2, _), (3, _), (4, _)] [(2, _), (3, _)] ?_
        refine sw_reg ?_
        refine rA ?_ (x := kA)
        refine sw_ret ?_
        exact (And.intro (by refine bool_eq ?_; exact (deq_false (fun e => by subst e; simp_all [deq_self])).symm) True.intro)
       ·try simp only [q1, q2, q3, q4, q5, q6, q7, q8, q9] at hb7
        refine sw_skip ?_
        refine sw_seq ?_
        refine sO [(2, _), (3, _), (4, _)] [(2, _), (3, _)] ?_
        refine sw_reg ?_
        refine rA ?_ (x := kA)
        refine sw_ret ?_
        exact (And.intro (by refine bool_eq ?_; exact (deq_true (by apply ext_Active <;> simp_all [deq_iff])).symm) True.intro)
theorem eq_Finished {p3 p7 : Fl} {x : Finished} {y : Finished}  : SCall Tryz.prog 104 [(true, [PV.val (vI x.Query.Id), PV.val (vI x.Query.Tenant), PV.sl .v (x.Query.Conds.map cCond), PV.sl .v (x.Query.Out.map cInt), PV.val (vI x.Time), PV.val (vI x.Steps), PV.sl .v (x.Rows.map (cRow p3))]), (true, [PV.val (vI y.Query.Id), PV.val (vI y.Query.Tenant), PV.sl .v (y.Query.Conds.map cCond), PV.sl .v (y.Query.Out.map cInt), PV.val (vI y.Time), PV.val (vI y.Steps), PV.sl .v (y.Rows.map (cRow p7))])] (resRV [(false, [PV.val (.bool (deq x y))])]) := by
 refine scall_of (rs := [(false, [PV.val (.bool (deq x y))])]) Tryz.func104 rfl (Nat.le_of_ble_eq_true rfl) (borA_cons (BorL.cons (PV.bor_val _) (BorL.cons (PV.bor_val _) (BorL.cons (PV.bor_sl _) (BorL.cons (PV.bor_sl _) (BorL.cons (PV.bor_val _) (BorL.cons (PV.bor_val _) (BorL.cons (PV.bor_sl _) BorL.nil))))))) (borA_cons (BorL.cons (PV.bor_val _) (BorL.cons (PV.bor_val _) (BorL.cons (PV.bor_sl _) (BorL.cons (PV.bor_sl _) (BorL.cons (PV.bor_val _) (BorL.cons (PV.bor_val _) (BorL.cons (PV.bor_sl _) BorL.nil))))))) borA_nil)) ?_
 intro h0 w0 Fz0
 refine sw_slen (s := 0) (j := 2) rfl rfl fun hl0_2 => ?_
 try rw [List.length_map] at hl0_2
 refine sw_slen (s := 0) (j := 3) rfl rfl fun hl0_3 => ?_
 try rw [List.length_map] at hl0_3
 refine sw_slen (s := 0) (j := 6) rfl rfl fun hl0_6 => ?_
 try rw [List.length_map] at hl0_6
 refine sw_slen (s := 1) (j := 2) rfl rfl fun hl1_2 => ?_
 try rw [List.length_map] at hl1_2
 refine sw_slen (s := 1) (j := 3) rfl rfl fun hl1_3 => ?_
 try rw [List.length_map] at hl1_3
 refine sw_slen (s := 1) (j := 6) rfl rfl fun hl1_6 => ?_
 try rw [List.length_map] at hl1_6
 refine sw_seq ?_
 refine sw_reg ?_
 refine RunS.step (by exact ⟨rfl, ⟨⟩⟩) (by exact ⟨⟩) (LocG.of rfl (loc_box (ag := true) (cs := [PV.val _, PV.val _, PV.sl _ _, PV.sl _ _, PV.val _, PV.val _, PV.sl _ _]) (by decide) (by exact ⟨⟩))) (free1 (Free.of_ rfl)) ?_
 refine RunS.step (by exact ⟨rfl, ⟨⟩⟩) (by exact ⟨⟩) (LocG.of rfl (loc_box (ag := true) (cs := [PV.val _, PV.val _, PV.sl _ _, PV.sl _ _, PV.val _, PV.val _, PV.sl _ _]) (by decide) (by exact ⟨⟩))) (free1 (Free.app (Free.of_ rfl) rfl)) ?_
 refine rA ?_ (x := kA)
 refine sw_seq ?_
 refine sw_seq ?_
 refine sO [(2, _), (3, _), (4, _)] [(2, (132, [PV.val _, PV.val _, PV.sl _ _, PV.sl _ _, PV.val _, PV.val _, PV.sl _ _])), (3, (132, [PV.val _, PV.val _, PV.sl _ _, PV.sl _ _, PV.val _, PV.val _, PV.sl _ _]))] ?_
 refine sw_reg ?_
 refine rA ?_ (x := lF fd_132_0)
 refine rA ?_ (x := lD [PV.val _, PV.val _, PV.sl .v _, PV.sl .v _] ty_51)
 refine rA ?_ (x := lF fd_132_0)
 refine rA ?_ (x := lD [PV.val _, PV.val _, PV.sl .v _, PV.sl .v _] ty_51)
 refine rA ?_ (x := cL [(true, [PV.val _, PV.val _, PV.sl _ _, PV.sl _ _]), (true, [PV.val _, PV.val _, PV.sl _ _, PV.sl _ _])] [(true, [PV.val _, PV.val _, PV.sl .v _, PV.sl .v _]), (true, [PV.val _, PV.val _, PV.sl .v _, PV.sl .v _])] c_66 (hs := by exact eq_Query))
 refine rA ?_ (x := nT)
 refine sw_cond (t := 10) rfl (fun hb1 => ?_) (fun hb1 => ?_)
 ·try simp only [q1, q2, q3, q4, q5, q6, q7, q8, q9] at hb1
  refine sw_seq ?_
  refine sO [(2, _), (3, _), (4, _)] [(2, _), (3, _)] ?_
  refine sw_reg ?_
  refine rA ?_ (x := kA)
  refine sw_ret ?_
  exact (And.intro (by refine bool_eq ?_; exact (deq_false (fun e => by subst e; simp_all [deq_self])).symm) True.intro)
 ·try simp only [q1, q2, q3, q4, q5, q6, q7, q8, q9] at hb1
  refine sw_skip ?_
  refine sw_seq ?_
  refine sw_seq ?_
  refine sO [(2, _), (3, _), (4, _)] [(2, _), (3, _)] ?_
  refine sw_reg ?_
  refine rA ?_ (x := lF fd_132_1)
  refine rA ?_ (x := lD [PV.val _] ty_3)
  refine rA ?_ (x := lF fd_132_1)
  refine rA ?_ (x := lD [PV.val _] ty_3)
  refine rA ?_ (x := B_neq)
  refine sw_cond (t := 15) rfl (fun hb2 => ?_) (fun hb2 => ?_)
  ·try simp only [q1, q2, q3, q4, q5, q6, q7, q8, q9] at hb2
   refine sw_seq ?_
   refine sO [(2, _), (3, _), (4, _)] [(2, _), (3, _)] ?_
   refine sw_reg ?_
   refine rA ?_ (x := kA)
   refine sw_ret ?_
   exact (And.intro (by refine bool_eq ?_; exact (deq_false (fun e => by subst e; simp_all [deq_self])).symm) True.intro)
  ·try simp only [q1, q2, q3, q4, q5, q6, q7, q8, q9] at hb2
   refine sw_skip ?_
   refine sw_seq ?_
   refine sw_seq ?_
   refine sO [(2, _), (3, _), (4, _)] [(2, _), (3, _)] ?_
   refine sw_reg ?_
   refine rA ?_ (x := lF fd_132_2)
   refine rA ?_ (x := lD [PV.val _] ty_3)
   refine rA ?_ (x := lF fd_132_2)
   refine rA ?_ (x := lD [PV.val _] ty_3)
   refine rA ?_ (x := B_neq)
   refine sw_cond (t := 20) rfl (fun hb3 => ?_) (fun hb3 => ?_)
   ·try simp only [q1, q2, q3, q4, q5, q6, q7, q8, q9] at hb3
    refine sw_seq ?_
    refine sO [(2, _), (3, _), (4, _)] [(2, _), (3, _)] ?_
    refine sw_reg ?_
    refine rA ?_ (x := kA)
    refine sw_ret ?_
    exact (And.intro (by refine bool_eq ?_; exact (deq_false (fun e => by subst e; simp_all [deq_self])).symm) True.intro)
   ·try simp only [q1, q2, q3, q4, q5, q6, q7, q8, q9] at hb3
    refine sw_skip ?_
    refine sw_seq ?_
    refine sw_seq ?_
    refine sO [(2, _), (3, _), (4, _)] [(2, _), (3, _)] ?_
    refine sw_reg ?_
    refine rA ?_ (x := lF fd_132_3)
    refine rA ?_ (x := lD [PV.sl .v _] ty_83)
    refine rA ?_ (x := lF fd_132_3)
    refine rA ?_ (x := lD [PV.sl .v _] ty_83)
    refine rA ?_ (x := cL [(false, [PV.sl _ _]), (false, [PV.sl _ _])] [(false, [PV.sl .v _]), (false, [PV.sl .v _])] c_172 (hs := by exact eq_RowS))
    refine rA ?_ (x := nT)
    refine sw_cond (t := 26) rfl (fun hb4 => ?_) (fun hb4 => ?_)
    ·try simp only [q1, q2, q3, q4, q5, q6, q7, q8, q9] at hb4
     refine sw_seq ?_
     refine sO [(2, _), (3, _), (4, _)] [(2, _), (3, _)] ?_
     refine sw_reg ?_
     refine rA ?_ (x := kA)
     refine sw_ret ?_
     exact (And.intro (by refine bool_eq ?_; exact (deq_false (fun e => by subst e; simp_all [deq_self])).symm) True.intro)
    ·try simp only [q1, q2, q3, q4, q5, q6, q7, q8, q9] at hb4
     refine sw_skip ?_
     refine sw_seq ?_
     refine sO [(2, _), (3, _), (4, _)] [(2, _), (3, _)] ?_
     refine sw_reg ?_
     refine rA ?_ (x := kA)
     refine sw_ret ?_
     exact (And.intro (by refine bool_eq ?_; exact (deq_true (by apply ext_Finished <;> simp_all [deq_iff])).symm) True.intro)
theorem eq_Store {p1 p2 p4 p5 : Fl} {x : Store} {y : Store}  : SCall Tryz.prog 42 [(true, [PV.sl .v (x.Segments.map (cVersionS p1 p2)), PV.val (vI x.Now)]), (true, [PV.sl .v (y.Segments.map (cVersionS p4 p5)), PV.val (vI y.Now)])] (resRV [(false, [PV.val (.bool (deq x y))])]) := by
 refine scall_of (rs := [(false, [PV.val (.bool (deq x y))])]) Tryz.func42 rfl (Nat.le_of_ble_eq_true rfl) (borA_cons (BorL.cons (PV.bor_sl _) (BorL.cons (PV.bor_val _) BorL.nil)) (borA_cons (BorL.cons (PV.bor_sl _) (BorL.cons (PV.bor_val _) BorL.nil)) borA_nil)) ?_
 intro h0 w0 Fz0
 refine sw_slen (s := 0) (j := 0) rfl rfl fun hl0_0 => ?_
 try rw [List.length_map] at hl0_0
 refine sw_slen (s := 1) (j := 0) rfl rfl fun hl1_0 => ?_
 try rw [List.length_map] at hl1_0
 refine sw_seq ?_
 refine sw_reg ?_
 refine RunS.step (by exact ⟨rfl, ⟨⟩⟩) (by exact ⟨⟩) (LocG.of rfl (loc_box (ag := true) (cs := [PV.sl _ _, PV.val _]) (by decide) (by exact ⟨⟩))) (free1 (Free.of_ rfl)) ?_
 refine RunS.step (by exact ⟨rfl, ⟨⟩⟩) (by exact ⟨⟩) (LocG.of rfl (loc_box (ag := true) (cs := [PV.sl _ _, PV.val _]) (by decide) (by exact ⟨⟩))) (free1 (Free.app (Free.of_ rfl) rfl)) ?_
 refine rA ?_ (x := kA)
 refine sw_seq ?_
 refine sw_seq ?_
 refine sO [(2, _), (3, _), (4, _)] [(2, (35, [PV.sl _ _, PV.val _])), (3, (35, [PV.sl _ _, PV.val _]))] ?_
 refine sw_reg ?_
 refine rA ?_ (x := lF fd_35_0)
 refine rA ?_ (x := lD [PV.sl .v _] ty_33)
 refine rA ?_ (x := lF fd_35_0)
 refine rA ?_ (x := lD [PV.sl .v _] ty_33)
 refine rA ?_ (x := cL [(false, [PV.sl _ _]), (false, [PV.sl _ _])] [(false, [PV.sl .v _]), (false, [PV.sl .v _])] c_102 (hs := by exact eq_VersionSS))
 refine rA ?_ (x := nT)
 refine sw_cond (t := 10) rfl (fun hb1 => ?_) (fun hb1 => ?_)
 ·try simp only [q1, q2, q3, q4, q5, q6, q7, q8, q9] at hb1
  refine sw_seq ?_
  refine sO [(2, _), (3, _), (4, _)] [(2, _), (3, _)] ?_
  refine sw_reg ?_
  refine rA ?_ (x := kA)
  refine sw_ret ?_
  exact (And.intro (by refine bool_eq ?_; exact (deq_false (fun e => by subst e; simp_all [deq_self])).symm) True.intro)
 ·try simp only [q1, q2, q3, q4, q5, q6, q7, q8, q9] at hb1
  refine sw_skip ?_
  refine sw_seq ?_
  refine sw_seq ?_
  refine sO [(2, _), (3, _), (4, _)] [(2, _), (3, _)] ?_
  refine sw_reg ?_
  refine rA ?_ (x := lF fd_35_1)
  refine rA ?_ (x := lD [PV.val _] ty_3)
  refine rA ?_ (x := lF fd_35_1)
  refine rA ?_ (x := lD [PV.val _] ty_3)
  refine rA ?_ (x := B_neq)
  refine sw_cond (t := 15) rfl (fun hb2 => ?_) (fun hb2 => ?_)
  ·try simp only [q1, q2, q3, q4, q5, q6, q7, q8, q9] at hb2
   refine sw_seq ?_
   refine sO [(2, _), (3, _), (4, _)] [(2, _), (3, _)] ?_
   refine sw_reg ?_
   refine rA ?_ (x := kA)
   refine sw_ret ?_
   exact (And.intro (by refine bool_eq ?_; exact (deq_false (fun e => by subst e; simp_all [deq_self])).symm) True.intro)
  ·try simp only [q1, q2, q3, q4, q5, q6, q7, q8, q9] at hb2
   refine sw_skip ?_
   refine sw_seq ?_
   refine sO [(2, _), (3, _), (4, _)] [(2, _), (3, _)] ?_
   refine sw_reg ?_
   refine rA ?_ (x := kA)
   refine sw_ret ?_
   exact (And.intro (by refine bool_eq ?_; exact (deq_true (by apply ext_Store <;> simp_all [deq_iff])).symm) True.intro)
theorem eq_ActiveS {p1 p2 p3 p4 p5 p7 p8 p9 p10 p11 : Fl} {x : List Active} {y : List Active}  : SCall Tryz.prog 44 [(false, [PV.sl .v (x.map (cActive p1 p2 p3 p4 p5))]), (false, [PV.sl .v (y.map (cActive p7 p8 p9 p10 p11))])] (resRV [(false, [PV.val (.bool (deq x y))])]) := by
 refine scall_of (rs := [(false, [PV.val (.bool (deq x y))])]) Tryz.func44 rfl (Nat.le_of_ble_eq_true rfl) (borA_cons (BorL.cons (PV.bor_sl _) BorL.nil) (borA_cons (BorL.cons (PV.bor_sl _) BorL.nil) borA_nil)) ?_
 intro h0 w0 Fz0
 refine sw_len (s := 0) rfl fun hl0 => ?_
 try rw [List.length_map] at hl0
 refine sw_len (s := 1) rfl fun hl1 => ?_
 try rw [List.length_map] at hl1
 refine sw_seq ?_
 refine sw_reg ?_
 refine rA ?_ (x := kA)
 refine sw_seq ?_
 refine sw_seq ?_
 refine sO [(0, _), (1, _), (4, _)] [] ?_
 refine sw_reg ?_
 refine rA ?_ (x := vM false [PV.sl .v _])
 refine rA ?_ (x := lN sl_36)
 refine rA ?_ (x := vM false [PV.sl .v _])
 refine rA ?_ (x := lN sl_36)
 refine rA ?_ (x := B_neq)
 refine sw_cond (t := 10) rfl (fun hb1 => ?_) (fun hb1 => ?_)
 ·try simp only [q1, q2, q3, q4, q5, q6, q7, q8, q9] at hb1
  refine sw_seq ?_
  refine sO [(0, _), (1, _), (4, _)] [] ?_
  refine sw_reg ?_
  refine rA ?_ (x := kA)
  refine sw_ret ?_
  exact (And.intro (by refine bool_eq ?_; exact (deq_false (fun e => by subst e; omega)).symm) True.intro)
 ·try simp only [q1, q2, q3, q4, q5, q6, q7, q8, q9] at hb1
  have hl : x.length = y.length := by omega
  refine sw_skip ?_
  refine sw_seq ?_
  refine sw_seq ?_
  refine sO [(0, _), (1, _), (4, _)] [] ?_
  refine sw_reg ?_
  refine rA ?_ (x := kA)
  refine sw_block ?_
  refine sO [(0, _), (1, _), (4, _), (5, _)] [] ?_
  refine sw_loop (l0 := [(0, RV.sv false [PV.sl _ _]), (1, RV.sv false [PV.sl _ _])]) (b0 := []) (fun k : Nat => k ≤ x.length ∧ x.take k = y.take k) (fun k : Nat => [(5, RV.int (k : Int))]) (fun k : Nat => []) (fun k : Nat => x.length - k) 0 (by exact ⟨by omega, by simp⟩) (by exact ⟨rfl, rfl, ⟨⟩⟩) (by exact ⟨⟩) (by exact And.intro (by exact rfl) (True.intro)) (by exact ⟨⟩) ?_
  rintro k ⟨hk, ha⟩
  refine sw_seq ?_
  refine sw_seq ?_
  refine sw_reg ?_
  refine rA ?_ (x := sM)
  refine rA ?_ (x := vM false [PV.sl .v _])
  refine rA ?_ (x := lN sl_36)
  refine rA ?_ (x := B_lss)
  refine sw_cond (t := 14) rfl (fun hb2 => ?_) (fun hb2 => ?_)
  ·try simp only [q1, q2, q3, q4, q5, q6, q7, q8, q9] at hb2
   have hlt : k < x.length := by omega
   have hlt2 : k < y.length := by omega
   refine sw_skip ?_
   refine sw_seq ?_
   refine sw_block ?_
   refine sw_seq ?_
   refine sO [(0, _), (1, _), (5, _)] [] ?_
   refine sw_draw hm_ ?_
   refine dA 0 ?_ (x := vM false [PV.sl .v _])
   refine dA 0 ?_ (x := sM)
   refine dA 3 ?_ (x := loc_index (by decide) sl_36 (by exact ⟨⟩) (by exact rfl) (by exact getm2 (by omega) rfl) (by exact rfl))
   refine dA 7 ?_ (x := lE [PV.val _, PV.val _, PV.sl .v _, PV.sl .v _, PV.val _, PV.sl .v _, PV.val _, PV.val _, PV.val _, PV.sl .v _] ty_85)
   refine dA 0 ?_ (x := vM false [PV.sl .v _])
   refine dA 0 ?_ (x := sM)
   refine dA 48 ?_ (x := loc_index (by decide) sl_36 (by exact ⟨⟩) (by exact rfl) (by exact getm2 (by omega) rfl) (by exact rfl))
   refine dA 112 ?_ (x := lE [PV.val _, PV.val _, PV.sl .v _, PV.sl .v _, PV.val _, PV.sl .v _, PV.val _, PV.val _, PV.val _, PV.sl .v _] ty_85)
   refine dA 255 ?_ (x := cL [(true, [PV.val _, PV.val _, PV.sl _ _, PV.sl _ _, PV.val _, PV.sl _ _, PV.val _, PV.val _, PV.val _, PV.sl _ _]), (true, [PV.val _, PV.val _, PV.sl _ _, PV.sl _ _, PV.val _, PV.sl _ _, PV.val _, PV.val _, PV.val _, PV.sl _ _])] [(true, [PV.val _, PV.val _, PV.sl .v _, PV.sl .v _, PV.val _, PV.sl .v _, PV.val _, PV.val _, PV.val _, PV.sl .v _]), (true, [PV.val _, PV.val _, PV.sl .v _, PV.sl .v _, PV.val _, PV.sl .v _, PV.val _, PV.val _, PV.val _, PV.sl .v _])] c_103 (hs := by exact eq_Active))
   refine dA 511 ?_ (x := nT)
   refine sw_cond (t := 26) rfl (fun hb3 => ?_) (fun hb3 => ?_)
   ·try simp only [q1, q2, q3, q4, q5, q6, q7, q8, q9] at hb3
    have hne : x[k] ≠ y[k] := by intro hxy; rw [hxy, deq_self] at hb3; simp at hb3
    refine sw_seq ?_
    refine sO [(0, _), (1, _), (5, _)] [] ?_
    refine sw_reg ?_
    refine rA ?_ (x := kA)
    refine sw_ret ?_
    exact (And.intro (by refine bool_eq ?_; exact (deq_false (eq_no hlt hlt2 hne)).symm) True.intro)
   ·try simp only [q1, q2, q3, q4, q5, q6, q7, q8, q9] at hb3
    have heq : x[k] = y[k] := by exact deq_iff.1 (by simpa using hb3)
    refine sw_skip ?_
    refine sO [(0, _), (1, _), (5, _)] [] ?_
    refine sw_reg ?_
    refine rA ?_ (x := sM)
    refine rA ?_ (x := B_add)
    refine rA ?_ (x := sA)
    refine Exists.intro (k + 1) (And.intro (by exact ⟨by omega, eq_succ ha hlt hlt2 heq⟩) (And.intro (by omega) (And.intro (And.intro (by exact ⟨rfl, rfl, ⟨⟩⟩) (by exact ⟨⟩)) (And.intro (by exact And.intro (by exact rfl) (True.intro)) (by exact ⟨⟩)))))
  ·try simp only [q1, q2, q3, q4, q5, q6, q7, q8, q9] at hb2
   refine sw_exit ?_
   refine sw_seq ?_
   refine sO [(0, _), (1, _), (5, _)] [] ?_
   refine sw_reg ?_
   refine rA ?_ (x := kA)
   refine sw_ret ?_
   exact (And.intro (by refine bool_eq ?_; exact (deq_true (eq_end hl (by rw [show x.length = k by omega]; exact ha))).symm) True.intro)
theorem eq_FinishedS {p1 p2 p3 p4 p6 p7 p8 p9 : Fl} {x : List Finished} {y : List Finished}  : SCall Tryz.prog 45 [(false, [PV.sl .v (x.map (cFinished p1 p2 p3 p4))]), (false, [PV.sl .v (y.map (cFinished p6 p7 p8 p9))])] (resRV [(false, [PV.val (.bool (deq x y))])]) := by
 refine scall_of (rs := [(false, [PV.val (.bool (deq x y))])]) Tryz.func45 rfl (Nat.le_of_ble_eq_true rfl) (borA_cons (BorL.cons (PV.bor_sl _) BorL.nil) (borA_cons (BorL.cons (PV.bor_sl _) BorL.nil) borA_nil)) ?_
 intro h0 w0 Fz0
 refine sw_len (s := 0) rfl fun hl0 => ?_
 try rw [List.length_map] at hl0
 refine sw_len (s := 1) rfl fun hl1 => ?_
 try rw [List.length_map] at hl1
 refine sw_seq ?_
 refine sw_reg ?_
 refine rA ?_ (x := kA)
 refine sw_seq ?_
 refine sw_seq ?_
 refine sO [(0, _), (1, _), (4, _)] [] ?_
 refine sw_reg ?_
 refine rA ?_ (x := vM false [PV.sl .v _])
 refine rA ?_ (x := lN sl_37)
 refine rA ?_ (x := vM false [PV.sl .v _])
 refine rA ?_ (x := lN sl_37)
 refine rA ?_ (x := B_neq)
 refine sw_cond (t := 10) rfl (fun hb1 => ?_) (fun hb1 => ?_)
 ·try simp only [q1, q2, q3, q4, q5, q6, q7, q8, q9] at hb1
  refine sw_seq ?_
  refine sO [(0, _), (1, _), (4, _)] [] ?_
  refine sw_reg ?_
  refine rA ?_ (x := kA)
  refine sw_ret ?_
  exact (And.intro (by refine bool_eq ?_; exact (deq_false (fun e => by subst e; omega)).symm) True.intro)
 ·try simp only [q1, q2, q3, q4, q5, q6, q7, q8, q9] at hb1
  have hl : x.length = y.length := by omega
  refine sw_skip ?_
  refine sw_seq ?_
  refine sw_seq ?_
  refine sO [(0, _), (1, _), (4, _)] [] ?_
  refine sw_reg ?_
  refine rA ?_ (x := kA)
  refine sw_block ?_
  refine sO [(0, _), (1, _), (4, _), (5, _)] [] ?_
  refine sw_loop (l0 := [(0, RV.sv false [PV.sl _ _]), (1, RV.sv false [PV.sl _ _])]) (b0 := []) (fun k : Nat => k ≤ x.length ∧ x.take k = y.take k) (fun k : Nat => [(5, RV.int (k : Int))]) (fun k : Nat => []) (fun k : Nat => x.length - k) 0 (by exact ⟨by omega, by simp⟩) (by exact ⟨rfl, rfl, ⟨⟩⟩) (by exact ⟨⟩) (by exact And.intro (by exact rfl) (True.intro)) (by exact ⟨⟩) ?_
  rintro k ⟨hk, ha⟩
  refine sw_seq ?_
  refine sw_seq ?_
  refine sw_reg ?_
  refine rA ?_ (x := sM)
  refine rA ?_ (x := vM false [PV.sl .v _])
  refine rA ?_ (x := lN sl_37)
  refine rA ?_ (x := B_lss)
  refine sw_cond (t := 14) rfl (fun hb2 => ?_) (fun hb2 => ?_)
  ·try simp only [q1, q2, q3, q4, q5, q6, q7, q8, q9] at hb2
   have hlt : k < x.length := by omega
   have hlt2 : k < y.length := by omega
   refine sw_skip ?_
   refine sw_seq ?_
   refine sw_block ?_
   refine sw_seq ?_
   refine sO [(0, _), (1, _), (5, _)] [] ?_
   refine sw_draw hm_ ?_
   refine dA 0 ?_ (x := vM false [PV.sl .v _])
   refine dA 0 ?_ (x := sM)
   refine dA 3 ?_ (x := loc_index (by decide) sl_37 (by exact ⟨⟩) (by exact rfl) (by exact getm2 (by omega) rfl) (by exact rfl))
   refine dA 7 ?_ (x := lE [PV.val _, PV.val _, PV.sl .v _, PV.sl .v _, PV.val _, PV.val _, PV.sl .v _] ty_132)
   refine dA 0 ?_ (x := vM false [PV.sl .v _])
   refine dA 0 ?_ (x := sM)
   refine dA 48 ?_ (x := loc_index (by decide) sl_37 (by exact ⟨⟩) (by exact rfl) (by exact getm2 (by omega) rfl) (by exact rfl))
   refine dA 112 ?_ (x := lE [PV.val _, PV.val _, PV.sl .v _, PV.sl .v _, PV.val _, PV.val _, PV.sl .v _] ty_132)
   refine dA 255 ?_ (x := cL [(true, [PV.val _, PV.val _, PV.sl _ _, PV.sl _ _, PV.val _, PV.val _, PV.sl _ _]), (true, [PV.val _, PV.val _, PV.sl _ _, PV.sl _ _, PV.val _, PV.val _, PV.sl _ _])] [(true, [PV.val _, PV.val _, PV.sl .v _, PV.sl .v _, PV.val _, PV.val _, PV.sl .v _]), (true, [PV.val _, PV.val _, PV.sl .v _, PV.sl .v _, PV.val _, PV.val _, PV.sl .v _])] c_104 (hs := by exact eq_Finished))
   refine dA 511 ?_ (x := nT)
   refine sw_cond (t := 26) rfl (fun hb3 => ?_) (fun hb3 => ?_)
   ·try simp only [q1, q2, q3, q4, q5, q6, q7, q8, q9] at hb3
    have hne : x[k] ≠ y[k] := by intro hxy; rw [hxy, deq_self] at hb3; simp at hb3
    refine sw_seq ?_
    refine sO [(0, _), (1, _), (5, _)] [] ?_
    refine sw_reg ?_
    refine rA ?_ (x := kA)
    refine sw_ret ?_
    exact (And.intro (by refine bool_eq ?_; exact (deq_false (eq_no hlt hlt2 hne)).symm) True.intro)
   ·try simp only [q1, q2, q3, q4, q5, q6, q7, q8, q9] at hb3
    have heq : x[k] = y[k] := by exact deq_iff.1 (by simpa using hb3)
    refine sw_skip ?_
    refine sO [(0, _), (1, _), (5, _)] [] ?_
    refine sw_reg ?_
    refine rA ?_ (x := sM)
    refine rA ?_ (x := B_add)
    refine rA ?_ (x := sA)
    refine Exists.intro (k + 1) (And.intro (by exact ⟨by omega, eq_succ ha hlt hlt2 heq⟩) (And.intro (by omega) (And.intro (And.intro (by exact ⟨rfl, rfl, ⟨⟩⟩) (by exact ⟨⟩)) (And.intro (by exact And.intro (by exact rfl) (True.intro)) (by exact ⟨⟩)))))
  ·try simp only [q1, q2, q3, q4, q5, q6, q7, q8, q9] at hb2
   refine sw_exit ?_
   refine sw_seq ?_
   refine sO [(0, _), (1, _), (5, _)] [] ?_
   refine sw_reg ?_
   refine rA ?_ (x := kA)
   refine sw_ret ?_
   exact (And.intro (by refine bool_eq ?_; exact (deq_true (eq_end hl (by rw [show x.length = k by omega]; exact ha))).symm) True.intro)
theorem eq_Engine {p1 p2 p5 p6 p7 p8 p9 p11 p12 p13 p14 p16 p17 p18 p20 p21 p24 p25 p26 p27 p28 p30 p31 p32 p33 p35 p36 p37 : Fl} {x : Engine} {y : Engine}  : SCall Tryz.prog 11 [(true, [PV.sl .v (x.Store.Segments.map (cVersionS p1 p2)), PV.val (vI x.Store.Now), PV.val (vI x.Cursor), PV.sl .v (x.Order.map cInt), PV.sl .v (x.Active.map (cActive p5 p6 p7 p8 p9)), PV.sl .v (x.Done.map (cFinished p11 p12 p13 p14)), PV.sl .v (x.Ledger.map (cCharge p16 p17 p18)), PV.val (vI x.Steps)]), (true, [PV.sl .v (y.Store.Segments.map (cVersionS p20 p21)), PV.val (vI y.Store.Now), PV.val (vI y.Cursor), PV.sl .v (y.Order.map cInt), PV.sl .v (y.Active.map (cActive p24 p25 p26 p27 p28)), PV.sl .v (y.Done.map (cFinished p30 p31 p32 p33)), PV.sl .v (y.Ledger.map (cCharge p35 p36 p37)), PV.val (vI y.Steps)])] (resRV [(false, [PV.val (.bool (deq x y))])]) := by
 refine scall_of (rs := [(false, [PV.val (.bool (deq x y))])]) Tryz.func11 rfl (Nat.le_of_ble_eq_true rfl) (borA_cons (BorL.cons (PV.bor_sl _) (BorL.cons (PV.bor_val _) (BorL.cons (PV.bor_val _) (BorL.cons (PV.bor_sl _) (BorL.cons (PV.bor_sl _) (BorL.cons (PV.bor_sl _) (BorL.cons (PV.bor_sl _) (BorL.cons (PV.bor_val _) BorL.nil)))))))) (borA_cons (BorL.cons (PV.bor_sl _) (BorL.cons (PV.bor_val _) (BorL.cons (PV.bor_val _) (BorL.cons (PV.bor_sl _) (BorL.cons (PV.bor_sl _) (BorL.cons (PV.bor_sl _) (BorL.cons (PV.bor_sl _) (BorL.cons (PV.bor_val _) BorL.nil)))))))) borA_nil)) ?_
 intro h0 w0 Fz0
 refine sw_slen (s := 0) (j := 0) rfl rfl fun hl0_0 => ?_
 try rw [List.length_map] at hl0_0
 refine sw_slen (s := 0) (j := 3) rfl rfl fun hl0_3 => ?_
 try rw [List.length_map] at hl0_3
 refine sw_slen (s := 0) (j := 4) rfl rfl fun hl0_4 => ?_
 try rw [List.length_map] at hl0_4
 refine sw_slen (s := 0) (j := 5) rfl rfl fun hl0_5 => ?_
 try rw [List.length_map] at hl0_5
 refine sw_slen (s := 0) (j := 6) rfl rfl fun hl0_6 => ?_
 try rw [List.length_map] at hl0_6
 refine sw_slen (s := 1) (j := 0) rfl rfl fun hl1_0 => ?_
 try rw [List.length_map] at hl1_0
 refine sw_slen (s := 1) (j := 3) rfl rfl fun hl1_3 => ?_
 try rw [List.length_map] at hl1_3
 refine sw_slen (s := 1) (j := 4) rfl rfl fun hl1_4 => ?_
 try rw [List.length_map] at hl1_4
 refine sw_slen (s := 1) (j := 5) rfl rfl fun hl1_5 => ?_
 try rw [List.length_map] at hl1_5
 refine sw_slen (s := 1) (j := 6) rfl rfl fun hl1_6 => ?_
 try rw [List.length_map] at hl1_6
 refine sw_seq ?_
 refine sw_reg ?_
 refine RunS.step (by exact ⟨rfl, ⟨⟩⟩) (by exact ⟨⟩) (LocG.of rfl (loc_box (ag := true) (cs := [PV.sl _ _, PV.val _, PV.val _, PV.sl _ _, PV.sl _ _, PV.sl _ _, PV.sl _ _, PV.val _]) (by decide) (by exact ⟨⟩))) (free1 (Free.of_ rfl)) ?_
 refine RunS.step (by exact ⟨rfl, ⟨⟩⟩) (by exact ⟨⟩) (LocG.of rfl (loc_box (ag := true) (cs := [PV.sl _ _, PV.val _, PV.val _, PV.sl _ _, PV.sl _ _, PV.sl _ _, PV.sl _ _, PV.val _]) (by decide) (by exact ⟨⟩))) (free1 (Free.app (Free.of_ rfl) rfl)) ?_
 refine rA ?_ (x := kA)
 refine sw_seq ?_
 refine sw_seq ?_
 refine sO [(2, _), (3, _), (4, _)] [(2, (40, [PV.sl _ _, PV.val _, PV.val _, PV.sl _ _, PV.sl _ _, PV.sl _ _, PV.sl _ _, PV.val _])), (3, (40, [PV.sl _ _, PV.val _, PV.val _, PV.sl _ _, PV.sl _ _, PV.sl _ _, PV.sl _ _, PV.val _]))] ?_
 refine sw_reg ?_
 refine rA ?_ (x := lF fd_40_0)
 refine rA ?_ (x := lD [PV.sl .v _, PV.val _] ty_35)
 refine rA ?_ (x := lF fd_40_0)
 refine rA ?_ (x := lD [PV.sl .v _, PV.val _] ty_35)
 refine rA ?_ (x := cL [(true, [PV.sl _ _, PV.val _]), (true, [PV.sl _ _, PV.val _])] [(true, [PV.sl .v _, PV.val _]), (true, [PV.sl .v _, PV.val _])] c_42 (hs := by exact eq_Store))
 refine rA ?_ (x := nT)
 refine sw_cond (t := 10) rfl (fun hb1 => ?_) (fun hb1 => ?_)
 ·try simp only [q1, q2, q3, q4, q5, q6, q7, q8, q9] at hb1
  refine sw_seq ?_
  refine sO [(2, _), (3, _), (4, _)] [(2, _), (3, _)] ?_
  refine sw_reg ?_
  refine rA ?_ (x := kA)
  refine sw_ret ?_
  exact (And.intro (by refine bool_eq ?_; exact (deq_false (fun e => by subst e; simp_all [deq_self])).symm) True.intro)
 ·try simp only [q1, q2, q3, q4, q5, q6, q7, q8, q9] at hb1
  refine sw_skip ?_
  refine sw_seq ?_
  refine sw_seq ?_
  refine sO [(2, _), (3, _), (4, _)] [(2, _), (3, _)] ?_
  refine sw_reg ?_
  refine rA ?_ (x := lF fd_40_1)
  refine rA ?_ (x := lD [PV.val _] ty_3)
  refine rA ?_ (x := lF fd_40_1)
  refine rA ?_ (x := lD [PV.val _] ty_3)
  refine rA ?_ (x := B_neq)
  refine sw_cond (t := 15) rfl (fun hb2 => ?_) (fun hb2 => ?_)
  ·try simp only [q1, q2, q3, q4, q5, q6, q7, q8, q9] at hb2
   refine sw_seq ?_
   refine sO [(2, _), (3, _), (4, _)] [(2, _), (3, _)] ?_
   refine sw_reg ?_
   refine rA ?_ (x := kA)
   refine sw_ret ?_
   exact (And.intro (by refine bool_eq ?_; exact (deq_false (fun e => by subst e; simp_all [deq_self])).symm) True.intro)
  ·try simp only [q1, q2, q3, q4, q5, q6, q7, q8, q9] at hb2
   refine sw_skip ?_
   refine sw_seq ?_
   refine sw_seq ?_
   refine sO [(2, _), (3, _), (4, _)] [(2, _), (3, _)] ?_
   refine sw_reg ?_
   refine rA ?_ (x := lF fd_40_2)
   refine rA ?_ (x := lD [PV.sl .v _] ty_25)
   refine rA ?_ (x := lF fd_40_2)
   refine rA ?_ (x := lD [PV.sl .v _] ty_25)
   refine rA ?_ (x := cL [(false, [PV.sl _ _]), (false, [PV.sl _ _])] [(false, [PV.sl .v _]), (false, [PV.sl .v _])] c_43 (hs := by exact eq_IntS))
   refine rA ?_ (x := nT)
   refine sw_cond (t := 21) rfl (fun hb3 => ?_) (fun hb3 => ?_)
   ·try simp only [q1, q2, q3, q4, q5, q6, q7, q8, q9] at hb3
    refine sw_seq ?_
    refine sO [(2, _), (3, _), (4, _)] [(2, _), (3, _)] ?_
    refine sw_reg ?_
    refine rA ?_ (x := kA)
    refine sw_ret ?_
    exact (And.intro (by refine bool_eq ?_; exact (deq_false (fun e => by subst e; simp_all [deq_self])).symm) True.intro)
   ·try simp only [q1, q2, q3, q4, q5, q6, q7, q8, q9] at hb3
    refine sw_skip ?_
    refine sw_seq ?_
    refine sw_seq ?_
    refine sO [(2, _), (3, _), (4, _)] [(2, _), (3, _)] ?_
    refine sw_reg ?_
    refine rA ?_ (x := lF fd_40_3)
    refine rA ?_ (x := lD [PV.sl .v _] ty_36)
    refine rA ?_ (x := lF fd_40_3)
    refine rA ?_ (x := lD [PV.sl .v _] ty_36)
    refine rA ?_ (x := cL [(false, [PV.sl _ _]), (false, [PV.sl _ _])] [(false, [PV.sl .v _]), (false, [PV.sl .v _])] c_44 (hs := by exact eq_ActiveS))
    refine rA ?_ (x := nT)
    refine sw_cond (t := 27) rfl (fun hb4 => ?_) (fun hb4 => ?_)
    ·try simp only [q1, q2, q3, q4, q5, q6, q7, q8, q9] at hb4
     refine sw_seq ?_
     refine sO [(2, _), (3, _), (4, _)] [(2, _), (3, _)] ?_
     refine sw_reg ?_
     refine rA ?_ (x := kA)
     refine sw_ret ?_
     exact (And.intro (by refine bool_eq ?_; exact (deq_false (fun e => by subst e; simp_all [deq_self])).symm) True.intro)
    ·try simp only [q1, q2, q3, q4, q5, q6, q7, q8, q9] at hb4
     refine sw_skip ?_
     refine sw_seq ?_
     refine sw_seq ?_
     refine sO [(2, _), (3, _), (4, _)] [(2, _), (3, _)] ?_
     refine sw_reg ?_
     refine rA ?_ (x := lF fd_40_4)
     refine rA ?_ (x := lD [PV.sl .v _] ty_37)
     refine rA ?_ (x := lF fd_40_4)
     refine rA ?_ (x := lD [PV.sl .v _] ty_37)
     refine rA ?_ (x := cL [(false, [PV.sl _ _]), (false, [PV.sl _ _])] [(false, [PV.sl .v _]), (false, [PV.sl .v _])] c_45 (hs := by exact eq_FinishedS))
     refine rA ?_ (x := nT)
     refine sw_cond (t := 33) rfl (fun hb5 => ?_) (fun hb5 => ?_)
     ·try simp only [q1, q2, q3, q4, q5, q6, q7, q8, q9] at hb5
      refine sw_seq ?_
      refine sO [(2, _), (3, _), (4, _)] [(2, _), (3, _)] ?_
      refine sw_reg ?_
      refine rA ?_ (x := kA)
      refine sw_ret ?_
      exact (And.intro (by refine bool_eq ?_; exact (deq_false (fun e => by subst e; simp_all [deq_self])).symm) True.intro)
     ·try simp only [q1, q2, q3, q4, q5, q6, q7, q8, q9] at hb5
      refine sw_skip ?_
      refine sw_seq ?_
      refine sw_seq ?_
      refine sO [(2, _), (3, _), (4, _)] [(2, _), (3, _)] ?_
      refine sw_reg ?_
      refine rA ?_ (x := lF fd_40_5)
      refine rA ?_ (x := lD [PV.sl .v _] ty_38)
      refine rA ?_ (x := lF fd_40_5)
      refine rA ?_ (x := lD [PV.sl .v _] ty_38)
      refine rA ?_ (x := cL [(false, [PV.sl _ _]), (false, [PV.sl _ _])] [(false, [PV.sl .v _]), (false, [PV.sl .v _])] c_46 (hs := by exact eq_ChargeS))
      refine rA ?_ (x := nT)
      refine sw_cond (t := 39) rfl (fun hb6 => ?_) (fun hb6 => ?_)
      ·try simp only [q1, q2, q3, q4, q5, q6, q7, q8, q9] at hb6
       refine sw_seq ?_
       refine sO [(2, _), (3, _), (4, _)] [(2, _), (3, _)] ?_
       refine sw_reg ?_
       refine rA ?_ (x := kA)
       refine sw_ret ?_
       exact (And.intro (by refine bool_eq ?_; exact (deq_false (fun e => by subst e; simp_all [deq_self])).symm) True.intro)
      ·try simp only [q1, q2, q3, q4, q5, q6, q7, q8, q9] at hb6
       refine sw_skip ?_
       refine sw_seq ?_
       refine sw_seq ?_
       refine sO [(2, _), (3, _), (4, _)] [(2, _), (3, _)] ?_
       refine sw_reg ?_
       refine rA ?_ (x := lF fd_40_6)
       refine rA ?_ (x := lD [PV.val _] ty_3)
       refine rA ?_ (x := lF fd_40_6)
       refine rA ?_ (x := lD [PV.val _] ty_3)
       refine rA ?_ (x := B_neq)
       refine sw_cond (t := 44) rfl (fun hb7 => ?_) (fun hb7 => ?_)
       ·try simp only [q1, q2, q3, q4, q5, q6, q7, q8, q9] at hb7
        refine sw_seq ?_
        refine sO [(2, _), (3, _), (4, _)] [(2, _), (3, _)] ?_
        refine sw_reg ?_
        refine rA ?_ (x := kA)
        refine sw_ret ?_
        exact (And.intro (by refine bool_eq ?_; exact (deq_false (fun e => by subst e; simp_all [deq_self])).symm) True.intro)
       ·try simp only [q1, q2, q3, q4, q5, q6, q7, q8, q9] at hb7
        refine sw_skip ?_
        refine sw_seq ?_
        refine sO [(2, _), (3, _), (4, _)] [(2, _), (3, _)] ?_
        refine sw_reg ?_
        refine rA ?_ (x := kA)
        refine sw_ret ?_
        exact (And.intro (by refine bool_eq ?_; exact (deq_true (by apply ext_Engine <;> simp_all [deq_iff])).symm) True.intro)
end Go.Proofs.YteflgldonmgejaaGreatDoor
