/- What functions of the program compute. No condition. -/
import Derived.Test.YtaomckpfgmhapaaCEqPFnTops
import Derived.KernelRfl
set_option linter.unusedVariables false
set_option linter.unusedSimpArgs false
namespace Go.Proofs.Ytaomckpfgmhapaa
open Go Go.RowKit M
set_option maxRecDepth 10000
attribute [local irreducible] PV.Lcl PV.LclR RV.Lcl
theorem spec_EqualRouted {p1 p2 p4 p5 : Fl} {x : List Routed} {y : List Routed}  : SCall Try.prog 19 [(false, [PV.sl .v (x.map (cRouted p1 p2))]), (false, [PV.sl .v (y.map (cRouted p4 p5))])] (resRV [(false, [PV.val (.bool (deq x y))])]) := by
 refine scall_of (rs := [(false, [PV.val (.bool (deq x y))])]) Try.func19 rfl (Nat.le_of_ble_eq_true rfl) (borA_cons (BorL.cons (PV.bor_sl _) BorL.nil) (borA_cons (BorL.cons (PV.bor_sl _) BorL.nil) borA_nil)) ?_
 intro h0 w0 Fz0
 refine sw_len (s := 0) rfl fun hl0 => ?_
 try rw [List.length_map] at hl0
 refine sw_len (s := 1) rfl fun hl1 => ?_
 try rw [List.length_map] at hl1
 refine sw_seq ?_
 refine sw_reg ?_
 refine rA ?_ (x := kA)
 refine sw_seq ?_
 refine sw_seq ?_
 refine sO [(0, _), (1, _), (4, _)] [] ?_
 refine sw_reg ?_
 refine rA ?_ (x := vM false [PV.sl .v _])
 refine rA ?_ (x := lN sl_43)
 refine rA ?_ (x := vM false [PV.sl .v _])
 refine rA ?_ (x := lN sl_43)
 refine rA ?_ (x := B_neq)
 refine sw_cond (t := 10) rfl (fun hb1 => ?_) (fun hb1 => ?_)
 ·try simp only [q1, q2, q3, q4, q5, q6, q7, q8, q9] at hb1
  refine sw_seq ?_
  refine sO [(0, _), (1, _), (4, _)] [] ?_
  refine sw_reg ?_
  refine rA ?_ (x := kA)
  refine sw_ret ?_
  exact (And.intro (by refine bool_eq ?_; exact (deq_false (fun e => by subst e; simp at *)).symm) True.intro)
 ·try simp only [q1, q2, q3, q4, q5, q6, q7, q8, q9] at hb1
  have hl : x.length = y.length := by omega
  refine sw_skip ?_
  refine sw_seq ?_
  refine sw_seq ?_
  refine sO [(0, _), (1, _), (4, _)] [] ?_
  refine sw_reg ?_
  refine rA ?_ (x := kA)
  refine sw_block ?_
  refine sO [(0, _), (1, _), (4, _), (5, _)] [] ?_
  refine sw_loop (l0 := [(0, RV.sv false [PV.sl _ _]), (1, RV.sv false [PV.sl _ _])]) (b0 := []) (fun k : Nat => k ≤ x.length ∧ x.take k = y.take k) (fun k : Nat => [(5, RV.int (k : Int))]) (fun k : Nat => []) (fun k : Nat => x.length - k) 0 (by exact ⟨by omega, by simp⟩) (by exact ⟨rfl, rfl, ⟨⟩⟩) (by exact ⟨⟩) (by exact And.intro (by exact rfl) (True.intro)) (by exact ⟨⟩) ?_
  rintro k ⟨hk, ha⟩
  refine sw_seq ?_
  refine sw_seq ?_
  refine sw_reg ?_
  refine rA ?_ (x := sM)
  refine rA ?_ (x := vM false [PV.sl .v _])
  refine rA ?_ (x := lN sl_43)
  refine rA ?_ (x := B_lss)
  refine sw_cond (t := 14) rfl (fun hb2 => ?_) (fun hb2 => ?_)
  ·try simp only [q1, q2, q3, q4, q5, q6, q7, q8, q9] at hb2
   have hlt : k < x.length := by omega
   have hlt2 : k < y.length := by omega
   refine sw_skip ?_
   refine sw_seq ?_
   refine sw_block ?_
   refine sw_seq ?_
   refine sO [(0, _), (1, _), (5, _)] [] ?_
   refine sw_draw hm_ ?_
   refine dA 0 ?_ (x := vM false [PV.sl .v _])
   refine dA 0 ?_ (x := sM)
   refine dA 3 ?_ (x := loc_index (by decide) sl_43 (by exact ⟨⟩) (by exact rfl) (by exact getm2 (by omega) rfl) (by exact rfl))
   refine dA 7 ?_ (x := loc_efield (by decide) fd_51_0 (by exact Nat.le_of_ble_eq_true rfl))
   refine dA 15 ?_ (x := lE [PV.val _] ty_3)
   refine dA 0 ?_ (x := vM false [PV.sl .v _])
   refine dA 0 ?_ (x := sM)
   refine dA 96 ?_ (x := loc_index (by decide) sl_43 (by exact ⟨⟩) (by exact rfl) (by exact getm2 (by omega) rfl) (by exact rfl))
   refine dA 224 ?_ (x := loc_efield (by decide) fd_51_0 (by exact Nat.le_of_ble_eq_true rfl))
   refine dA 480 ?_ (x := lE [PV.val _] ty_3)
   refine dA 1023 ?_ (x := B_neq)
   refine dA 2047 ?_ (x := sM)
   refine Run.cases (s := 28) rfl (fun g3 => ?_) (fun g3 => ?_)
   ·have sg3 := g3
    try simp only [q1, q2, q3, q4, q5, q6, q7, q8, q9] at sg3
    refine dT 4095 g3 ?_
    refine dT 4095 g3 ?_
    refine dT 16383 g3 ?_
    refine dT 32767 g3 ?_
    refine dT 65535 g3 ?_
    refine dT 4095 g3 ?_
    refine dT 4095 g3 ?_
    refine dT 397311 g3 ?_
    refine dT 921599 g3 ?_
    refine dT 1970175 g3 ?_
    refine dT 4194303 g3 ?_
    refine dT 8388607 g3 ?_
    refine dA 16777215 ?_ (x := pkT g3)
    refine sw_cond (t := 41) rfl (fun hb_ => ?_) (fun hb_ => nomatch hb_)
    refine sw_seq ?_
    refine sO [(0, _), (1, _), (5, _)] [] ?_
    refine sw_reg ?_
    refine rA ?_ (x := kA)
    refine sw_ret ?_
    exact (And.intro (by refine bool_eq ?_; exact (deq_false (eq_no hlt hlt2 (by intro e; simp [e, deq_self] at *))).symm) True.intro)
   ·have sg3 := g3
    try simp only [q1, q2, q3, q4, q5, q6, q7, q8, q9] at sg3
    refine dB 4095 g3 ?_ (x := vM false [PV.sl .v _])
    refine dB 4095 g3 ?_ (x := sM)
    refine dB 16383 g3 ?_ (x := loc_index (by decide) sl_43 (by exact ⟨⟩) (by exact rfl) (by exact getm2 (by omega) rfl) (by exact rfl))
    refine dB 32767 g3 ?_ (x := loc_efield (by decide) fd_51_1 (by exact Nat.le_of_ble_eq_true rfl))
    refine dB 65535 g3 ?_ (x := lE [PV.sl .v _] ty_39)
    refine dB 4095 g3 ?_ (x := vM false [PV.sl .v _])
    refine dB 4095 g3 ?_ (x := sM)
    refine dB 397311 g3 ?_ (x := loc_index (by decide) sl_43 (by exact ⟨⟩) (by exact rfl) (by exact getm2 (by omega) rfl) (by exact rfl))
    refine dB 921599 g3 ?_ (x := loc_efield (by decide) fd_51_1 (by exact Nat.le_of_ble_eq_true rfl))
    refine dB 1970175 g3 ?_ (x := lE [PV.sl .v _] ty_39)
    refine dB 4194303 g3 ?_ (x := cL [(false, [PV.sl _ _]), (false, [PV.sl _ _])] [(false, [PV.sl .v _]), (false, [PV.sl .v _])] c_23 (hs := by exact spec_EqualRows))
    refine dB 8388607 g3 ?_ (x := nT)
    refine dA 16777215 ?_ (x := pkF g3)
    refine sw_cond (t := 41) rfl (fun hb5 => ?_) (fun hb5 => ?_)
    ·try simp only [q1, q2, q3, q4, q5, q6, q7, q8, q9] at hb5
     refine sw_seq ?_
     refine sO [(0, _), (1, _), (5, _)] [] ?_
     refine sw_reg ?_
     refine rA ?_ (x := kA)
     refine sw_ret ?_
     exact (And.intro (by refine bool_eq ?_; exact (deq_false (eq_no hlt hlt2 (by intro e; simp [e, deq_self] at *))).symm) True.intro)
    ·try simp only [q1, q2, q3, q4, q5, q6, q7, q8, q9] at hb5
     refine sw_skip ?_
     refine sO [(0, _), (1, _), (5, _)] [] ?_
     refine sw_reg ?_
     refine rA ?_ (x := sM)
     refine rA ?_ (x := B_add)
     refine rA ?_ (x := sA)
     refine Exists.intro (k + 1) (And.intro (by exact ⟨by omega, eq_succ ha hlt hlt2 (by rw [ext_Routed_iff]; simp_all [deq_iff])⟩) (And.intro (by omega) (And.intro (And.intro (by exact ⟨rfl, rfl, ⟨⟩⟩) (by exact ⟨⟩)) (And.intro (by exact And.intro (by exact rfl) (True.intro)) (by exact ⟨⟩)))))
  ·try simp only [q1, q2, q3, q4, q5, q6, q7, q8, q9] at hb2
   refine sw_exit ?_
   refine sw_seq ?_
   refine sO [(0, _), (1, _), (5, _)] [] ?_
   refine sw_reg ?_
   refine rA ?_ (x := kA)
   refine sw_ret ?_
   exact (And.intro (by refine bool_eq ?_; exact (deq_true (eq_end hl (by rw [show x.length = k by omega]; exact ha))).symm) True.intro)
theorem impl_EqualRouted {p1 p2 p4 p5 : Fl} {x : List Routed} {y : List Routed}  : SCall Try.prog 26 [(false, [PV.sl .v (x.map (cRouted p1 p2))]), (false, [PV.sl .v (y.map (cRouted p4 p5))])] (resRV [(false, [PV.val (.bool (deq x y))])]) := by
 refine scall_of (rs := [(false, [PV.val (.bool (deq x y))])]) Try.func26 rfl (Nat.le_of_ble_eq_true rfl) (borA_cons (BorL.cons (PV.bor_sl _) BorL.nil) (borA_cons (BorL.cons (PV.bor_sl _) BorL.nil) borA_nil)) ?_
 intro h0 w0 Fz0
 refine sw_len (s := 0) rfl fun hl0 => ?_
 try rw [List.length_map] at hl0
 refine sw_len (s := 1) rfl fun hl1 => ?_
 try rw [List.length_map] at hl1
 refine sw_seq ?_
 refine sw_reg ?_
 refine rA ?_ (x := kA)
 refine sw_seq ?_
 refine sw_seq ?_
 refine sO [(0, _), (1, _), (4, _)] [] ?_
 refine sw_reg ?_
 refine rA ?_ (x := vM false [PV.sl .v _])
 refine rA ?_ (x := lN sl_43)
 refine rA ?_ (x := vM false [PV.sl .v _])
 refine rA ?_ (x := lN sl_43)
 refine rA ?_ (x := B_neq)
 refine sw_cond (t := 10) rfl (fun hb1 => ?_) (fun hb1 => ?_)
 ·try simp only [q1, q2, q3, q4, q5, q6, q7, q8, q9] at hb1
  refine sw_seq ?_
  refine sO [(0, _), (1, _), (4, _)] [] ?_
  refine sw_reg ?_
  refine rA ?_ (x := kA)
  refine sw_ret ?_
  exact (And.intro (by refine bool_eq ?_; exact (deq_false (fun e => by subst e; simp at *)).symm) True.intro)
 ·try simp only [q1, q2, q3, q4, q5, q6, q7, q8, q9] at hb1
  have hl : x.length = y.length := by omega
  refine sw_skip ?_
  refine sw_seq ?_
  refine sw_seq ?_
  refine sO [(0, _), (1, _), (4, _)] [] ?_
  refine sw_reg ?_
  refine rA ?_ (x := vM false [PV.sl .v _])
  refine rA ?_ (x := lN sl_43)
  refine rA ?_ (x := kM)
  refine sw_block ?_
  refine sO [(0, _), (1, _), (4, _), (12, _), (13, _)] [] ?_
  refine sw_loop (l0 := [(0, RV.sv false [PV.sl _ _]), (1, RV.sv false [PV.sl _ _]), (12, RV.sv false [PV.val _])]) (b0 := []) (fun k : Nat => k ≤ x.length ∧ x.take k = y.take k) (fun k : Nat => [(13, RV.int (k : Int))]) (fun k : Nat => []) (fun k : Nat => x.length - k) 0 (by exact ⟨by omega, by simp⟩) (by exact ⟨rfl, rfl, rfl, ⟨⟩⟩) (by exact ⟨⟩) (by exact And.intro (by exact rfl) (True.intro)) (by exact ⟨⟩) ?_
  rintro k ⟨hk, ha⟩
  refine sw_seq ?_
  refine sw_reg ?_
  refine rA ?_ (x := B_lss)
  refine sw_seq ?_
  refine sw_cond (t := 14) rfl (fun hb2 => ?_) (fun hb2 => ?_)
  ·try simp only [q1, q2, q3, q4, q5, q6, q7, q8, q9] at hb2
   have hlt : k < x.length := by omega
   have hlt2 : k < y.length := by omega
   refine sw_skip ?_
   refine sw_seq ?_
   refine sw_block ?_
   refine sw_seq ?_
   refine sO [(0, _), (1, _), (12, _), (13, _)] [] ?_
   refine sw_reg ?_
   refine rA ?_ (x := sM)
   refine rA ?_ (x := sA)
   refine sw_seq ?_
   refine sO [(0, _), (1, _), (5, _), (12, _), (13, _)] [] ?_
   refine sw_draw hm_ ?_
   refine dA 0 ?_ (x := vM false [PV.sl .v _])
   refine dA 0 ?_ (x := sM)
   refine dA 3 ?_ (x := loc_index (by decide) sl_43 (by exact ⟨⟩) (by exact rfl) (by exact getm2 (by omega) rfl) (by exact rfl))
   refine dA 7 ?_ (x := loc_efield (by decide) fd_51_0 (by exact Nat.le_of_ble_eq_true rfl))
   refine dA 15 ?_ (x := lE [PV.val _] ty_3)
   refine dA 0 ?_ (x := vM false [PV.sl .v _])
   refine dA 0 ?_ (x := sM)
   refine dA 96 ?_ (x := loc_index (by decide) sl_43 (by exact ⟨⟩) (by exact rfl) (by exact getm2 (by omega) rfl) (by exact rfl))
   refine dA 224 ?_ (x := loc_efield (by decide) fd_51_0 (by exact Nat.le_of_ble_eq_true rfl))
   refine dA 480 ?_ (x := lE [PV.val _] ty_3)
   refine dA 1023 ?_ (x := B_neq)
   refine dA 2047 ?_ (x := sM)
   refine Run.cases (s := 27) rfl (fun g3 => ?_) (fun g3 => ?_)
   ·have sg3 := g3
    try simp only [q1, q2, q3, q4, q5, q6, q7, q8, q9] at sg3
    refine dT 4095 g3 ?_
    refine dT 4095 g3 ?_
    refine dT 16383 g3 ?_
    refine dT 32767 g3 ?_
    refine dT 65535 g3 ?_
    refine dT 4095 g3 ?_
    refine dT 4095 g3 ?_
    refine dT 397311 g3 ?_
    refine dT 921599 g3 ?_
    refine dT 1970175 g3 ?_
    refine dT 4194303 g3 ?_
    refine dT 8388607 g3 ?_
    refine dA 16777215 ?_ (x := pkT g3)
    refine sw_cond (t := 40) rfl (fun hb_ => ?_) (fun hb_ => nomatch hb_)
    refine sw_seq ?_
    refine sO [(0, _), (1, _), (5, _), (12, _), (13, _)] [] ?_
    refine sw_reg ?_
    refine rA ?_ (x := kA)
    refine sw_ret ?_
    exact (And.intro (by refine bool_eq ?_; exact (deq_false (eq_no hlt hlt2 (by intro e; simp [e, deq_self] at *))).symm) True.intro)
   ·have sg3 := g3
    try simp only [q1, q2, q3, q4, q5, q6, q7, q8, q9] at sg3
    refine dB 4095 g3 ?_ (x := vM false [PV.sl .v _])
    refine dB 4095 g3 ?_ (x := sM)
    refine dB 16383 g3 ?_ (x := loc_index (by decide) sl_43 (by exact ⟨⟩) (by exact rfl) (by exact getm2 (by omega) rfl) (by exact rfl))
    refine dB 32767 g3 ?_ (x := loc_efield (by decide) fd_51_1 (by exact Nat.le_of_ble_eq_true rfl))
    refine dB 65535 g3 ?_ (x := lE [PV.sl .v _] ty_39)
    refine dB 4095 g3 ?_ (x := vM false [PV.sl .v _])
    refine dB 4095 g3 ?_ (x := sM)
    refine dB 397311 g3 ?_ (x := loc_index (by decide) sl_43 (by exact ⟨⟩) (by exact rfl) (by exact getm2 (by omega) rfl) (by exact rfl))
    refine dB 921599 g3 ?_ (x := loc_efield (by decide) fd_51_1 (by exact Nat.le_of_ble_eq_true rfl))
    refine dB 1970175 g3 ?_ (x := lE [PV.sl .v _] ty_39)
    refine dB 4194303 g3 ?_ (x := cL [(false, [PV.sl _ _]), (false, [PV.sl _ _])] [(false, [PV.sl .v _]), (false, [PV.sl .v _])] c_56 (hs := by exact impl_EqualRows))
    refine dB 8388607 g3 ?_ (x := nT)
    refine dA 16777215 ?_ (x := pkF g3)
    refine sw_cond (t := 40) rfl (fun hb5 => ?_) (fun hb5 => ?_)
    ·try simp only [q1, q2, q3, q4, q5, q6, q7, q8, q9] at hb5
     refine sw_seq ?_
     refine sO [(0, _), (1, _), (5, _), (12, _), (13, _)] [] ?_
     refine sw_reg ?_
     refine rA ?_ (x := kA)
     refine sw_ret ?_
     exact (And.intro (by refine bool_eq ?_; exact (deq_false (eq_no hlt hlt2 (by intro e; simp [e, deq_self] at *))).symm) True.intro)
    ·try simp only [q1, q2, q3, q4, q5, q6, q7, q8, q9] at hb5
     refine sw_skip ?_
     refine sO [(0, _), (1, _), (5, _), (12, _), (13, _)] [] ?_
     refine sw_reg ?_
     refine rA ?_ (x := B_add)
     refine rA ?_ (x := sM)
     refine Exists.intro (k + 1) (And.intro (by exact ⟨by omega, eq_succ ha hlt hlt2 (by rw [ext_Routed_iff]; simp_all [deq_iff])⟩) (And.intro (by omega) (And.intro (And.intro (by exact ⟨rfl, rfl, rfl, ⟨⟩⟩) (by exact ⟨⟩)) (And.intro (by exact And.intro (by exact rfl) (True.intro)) (by exact ⟨⟩)))))
  ·try simp only [q1, q2, q3, q4, q5, q6, q7, q8, q9] at hb2
   refine sw_exit ?_
   refine sw_seq ?_
   refine sO [(0, _), (1, _), (12, _), (13, _)] [] ?_
   refine sw_reg ?_
   refine rA ?_ (x := kA)
   refine sw_ret ?_
   exact (And.intro (by refine bool_eq ?_; exact (deq_true (eq_end hl (by rw [show x.length = k by omega]; exact ha))).symm) True.intro)
end Go.Proofs.Ytaomckpfgmhapaa
