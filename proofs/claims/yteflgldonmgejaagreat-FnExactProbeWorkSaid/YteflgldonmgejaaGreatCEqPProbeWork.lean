/- What functions of the program compute. No condition. -/
import Derived.Test.YteflgldonmgejaaGreatCProgProbeWork
import Derived.KernelRfl
set_option linter.unusedVariables false
set_option linter.unusedSimpArgs false
namespace Go.Proofs.YteflgldonmgejaaGreat
open Go Go.RowKit M
set_option maxRecDepth 10000
attribute [local irreducible] PV.Lcl PV.LclR RV.Lcl
theorem spec_l2Ints {x : List Int} {y : List Int}  : SCall Tryz.prog 223 [(false, [PV.sl .v (x.map cInt)]), (false, [PV.sl .v (y.map cInt)])] (resRV [(false, [PV.val (.bool (deq x y))])]) := by
 refine scall_of (rs := [(false, [PV.val (.bool (deq x y))])]) Tryz.func223 rfl (Nat.le_of_ble_eq_true rfl) (borA_cons (BorL.cons (PV.bor_sl _) BorL.nil) (borA_cons (BorL.cons (PV.bor_sl _) BorL.nil) borA_nil)) ?_
 intro h0 w0 Fz0
 refine sw_len (s := 0) rfl fun hl0 => ?_
 try rw [List.length_map] at hl0
 refine sw_len (s := 1) rfl fun hl1 => ?_
 try rw [List.length_map] at hl1
 refine sw_seq ?_
 refine sw_reg ?_
 refine rA ?_ (x := kA)
 refine sw_seq ?_
 refine sw_seq ?_
 refine sO [(0, _), (1, _), (4, _)] [] ?_
 refine sw_reg ?_
 refine rA ?_ (x := vM false [PV.sl .v _])
 refine rA ?_ (x := lN sl_25)
 refine rA ?_ (x := vM false [PV.sl .v _])
 refine rA ?_ (x := lN sl_25)
 refine rA ?_ (x := B_neq)
 refine sw_cond (t := 10) rfl (fun hb1 => ?_) (fun hb1 => ?_)
 ·try simp only [q1, q2, q3, q4, q5, q6, q7, q8, q9] at hb1
  refine sw_seq ?_
  refine sO [(0, _), (1, _), (4, _)] [] ?_
  refine sw_reg ?_
  refine rA ?_ (x := kA)
  refine sw_ret ?_
  exact (And.intro (by refine bool_eq ?_; exact (deq_false (fun e => by subst e; simp at *)).symm) True.intro)
 ·try simp only [q1, q2, q3, q4, q5, q6, q7, q8, q9] at hb1
  have hl : x.length = y.length := by omega
  refine sw_skip ?_
  refine sw_seq ?_
  refine sw_seq ?_
  refine sO [(0, _), (1, _), (4, _)] [] ?_
  refine sw_reg ?_
  refine rA ?_ (x := kA)
  refine sw_block ?_
  refine sO [(0, _), (1, _), (4, _), (5, _)] [] ?_
  refine sw_loop (l0 := [(0, RV.sv false [PV.sl _ _]), (1, RV.sv false [PV.sl _ _])]) (b0 := []) (fun k : Nat => k ≤ x.length ∧ x.take k = y.take k) (fun k : Nat => [(5, RV.int (k : Int))]) (fun k : Nat => []) (fun k : Nat => x.length - k) 0 (by exact ⟨by omega, by simp⟩) (by exact ⟨rfl, rfl, ⟨⟩⟩) (by exact ⟨⟩) (by exact And.intro (by exact rfl) (True.intro)) (by exact ⟨⟩) ?_
  rintro k ⟨hk, ha⟩
  refine sw_seq ?_
  refine sw_seq ?_
  refine sw_reg ?_
  refine rA ?_ (x := sM)
  refine rA ?_ (x := vM false [PV.sl .v _])
  refine rA ?_ (x := lN sl_25)
  refine rA ?_ (x := B_lss)
  refine sw_cond (t := 14) rfl (fun hb2 => ?_) (fun hb2 => ?_)
  ·try simp only [q1, q2, q3, q4, q5, q6, q7, q8, q9] at hb2
   have hlt : k < x.length := by omega
   have hlt2 : k < y.length := by omega
   refine sw_skip ?_
   refine sw_seq ?_
   refine sw_block ?_
   refine sw_seq ?_
   refine sO [(0, _), (1, _), (5, _)] [] ?_
   refine sw_draw hm_ ?_
   refine dA 0 ?_ (x := vM false [PV.sl .v _])
   refine dA 0 ?_ (x := sM)
   refine dA 3 ?_ (x := loc_index (by decide) sl_25 (by exact ⟨⟩) (by exact rfl) (by exact getm2 (by omega) rfl) (by exact rfl))
   refine dA 7 ?_ (x := lE [PV.val _] ty_3)
   refine dA 0 ?_ (x := vM false [PV.sl .v _])
   refine dA 0 ?_ (x := sM)
   refine dA 48 ?_ (x := loc_index (by decide) sl_25 (by exact ⟨⟩) (by exact rfl) (by exact getm2 (by omega) rfl) (by exact rfl))
   refine dA 112 ?_ (x := lE [PV.val _] ty_3)
   refine dA 255 ?_ (x := B_neq)
   refine sw_cond (t := 25) rfl (fun hb3 => ?_) (fun hb3 => ?_)
   ·try simp only [q1, q2, q3, q4, q5, q6, q7, q8, q9] at hb3
    refine sw_seq ?_
    refine sO [(0, _), (1, _), (5, _)] [] ?_
    refine sw_reg ?_
    refine rA ?_ (x := kA)
    refine sw_ret ?_
    exact (And.intro (by refine bool_eq ?_; exact (deq_false (eq_no hlt hlt2 (by intro e; simp [e, deq_self] at *))).symm) True.intro)
   ·try simp only [q1, q2, q3, q4, q5, q6, q7, q8, q9] at hb3
    refine sw_skip ?_
    refine sO [(0, _), (1, _), (5, _)] [] ?_
    refine sw_reg ?_
    refine rA ?_ (x := sM)
    refine rA ?_ (x := B_add)
    refine rA ?_ (x := sA)
    refine Exists.intro (k + 1) (And.intro (by exact ⟨by omega, eq_succ ha hlt hlt2 (by simp_all)⟩) (And.intro (by omega) (And.intro (And.intro (by exact ⟨rfl, rfl, ⟨⟩⟩) (by exact ⟨⟩)) (And.intro (by exact And.intro (by exact rfl) (True.intro)) (by exact ⟨⟩)))))
  ·try simp only [q1, q2, q3, q4, q5, q6, q7, q8, q9] at hb2
   refine sw_exit ?_
   refine sw_seq ?_
   refine sO [(0, _), (1, _), (5, _)] [] ?_
   refine sw_reg ?_
   refine rA ?_ (x := kA)
   refine sw_ret ?_
   exact (And.intro (by refine bool_eq ?_; exact (deq_true (eq_end hl (by rw [show x.length = k by omega]; exact ha))).symm) True.intro)
theorem impl_sameInts {x : List Int} {y : List Int}  : SCall Tryz.prog 217 [(false, [PV.sl .v (x.map cInt)]), (false, [PV.sl .v (y.map cInt)])] (resRV [(false, [PV.val (.bool (deq x y))])]) := by
 refine scall_of (rs := [(false, [PV.val (.bool (deq x y))])]) Tryz.func217 rfl (Nat.le_of_ble_eq_true rfl) (borA_cons (BorL.cons (PV.bor_sl _) BorL.nil) (borA_cons (BorL.cons (PV.bor_sl _) BorL.nil) borA_nil)) ?_
 intro h0 w0 Fz0
 refine sw_len (s := 0) rfl fun hl0 => ?_
 try rw [List.length_map] at hl0
 refine sw_len (s := 1) rfl fun hl1 => ?_
 try rw [List.length_map] at hl1
 refine sw_seq ?_
 refine sw_reg ?_
 refine rA ?_ (x := kA)
 refine sw_seq ?_
 refine sw_seq ?_
 refine sO [(0, _), (1, _), (4, _)] [] ?_
 refine sw_reg ?_
 refine rA ?_ (x := vM false [PV.sl .v _])
 refine rA ?_ (x := lN sl_25)
 refine rA ?_ (x := vM false [PV.sl .v _])
 refine rA ?_ (x := lN sl_25)
 refine rA ?_ (x := B_neq)
 refine sw_cond (t := 10) rfl (fun hb1 => ?_) (fun hb1 => ?_)
 ·try simp only [q1, q2, q3, q4, q5, q6, q7, q8, q9] at hb1
  refine sw_seq ?_
  refine sO [(0, _), (1, _), (4, _)] [] ?_
  refine sw_reg ?_
  refine rA ?_ (x := kA)
  refine sw_ret ?_
  exact (And.intro (by refine bool_eq ?_; exact (deq_false (fun e => by subst e; simp at *)).symm) True.intro)
 ·try simp only [q1, q2, q3, q4, q5, q6, q7, q8, q9] at hb1
  have hl : x.length = y.length := by omega
  refine sw_skip ?_
  refine sw_seq ?_
  refine sw_seq ?_
  refine sO [(0, _), (1, _), (4, _)] [] ?_
  refine sw_reg ?_
  refine rA ?_ (x := vM false [PV.sl .v _])
  refine rA ?_ (x := lN sl_25)
  refine rA ?_ (x := kM)
  refine sw_block ?_
  refine sO [(0, _), (1, _), (4, _), (12, _), (13, _)] [] ?_
  refine sw_loop (l0 := [(0, RV.sv false [PV.sl _ _]), (1, RV.sv false [PV.sl _ _]), (12, RV.sv false [PV.val _])]) (b0 := []) (fun k : Nat => k ≤ x.length ∧ x.take k = y.take k) (fun k : Nat => [(13, RV.int (k : Int))]) (fun k : Nat => []) (fun k : Nat => x.length - k) 0 (by exact ⟨by omega, by simp⟩) (by exact ⟨rfl, rfl, rfl, ⟨⟩⟩) (by exact ⟨⟩) (by exact And.intro (by exact rfl) (True.intro)) (by exact ⟨⟩) ?_
  rintro k ⟨hk, ha⟩
  refine sw_seq ?_
  refine sw_reg ?_
  refine rA ?_ (x := B_lss)
  refine sw_seq ?_
  refine sw_cond (t := 14) rfl (fun hb2 => ?_) (fun hb2 => ?_)
  ·try simp only [q1, q2, q3, q4, q5, q6, q7, q8, q9] at hb2
   have hlt : k < x.length := by omega
   have hlt2 : k < y.length := by omega
   refine sw_skip ?_
   refine sw_seq ?_
   refine sw_block ?_
   refine sw_seq ?_
   refine sO [(0, _), (1, _), (12, _), (13, _)] [] ?_
   refine sw_reg ?_
   refine rA ?_ (x := sM)
   refine rA ?_ (x := sA)
   refine sw_seq ?_
   refine sO [(0, _), (1, _), (5, _), (12, _), (13, _)] [] ?_
   refine sw_draw hm_ ?_
   refine dA 0 ?_ (x := vM false [PV.sl .v _])
   refine dA 0 ?_ (x := sM)
   refine dA 3 ?_ (x := loc_index (by decide) sl_25 (by exact ⟨⟩) (by exact rfl) (by exact getm2 (by omega) rfl) (by exact rfl))
   refine dA 7 ?_ (x := lE [PV.val _] ty_3)
   refine dA 0 ?_ (x := vM false [PV.sl .v _])
   refine dA 0 ?_ (x := sM)
   refine dA 48 ?_ (x := loc_index (by decide) sl_25 (by exact ⟨⟩) (by exact rfl) (by exact getm2 (by omega) rfl) (by exact rfl))
   refine dA 112 ?_ (x := lE [PV.val _] ty_3)
   refine dA 255 ?_ (x := B_neq)
   refine sw_cond (t := 24) rfl (fun hb3 => ?_) (fun hb3 => ?_)
   ·try simp only [q1, q2, q3, q4, q5, q6, q7, q8, q9] at hb3
    refine sw_seq ?_
    refine sO [(0, _), (1, _), (5, _), (12, _), (13, _)] [] ?_
    refine sw_reg ?_
    refine rA ?_ (x := kA)
    refine sw_ret ?_
    exact (And.intro (by refine bool_eq ?_; exact (deq_false (eq_no hlt hlt2 (by intro e; simp [e, deq_self] at *))).symm) True.intro)
   ·try simp only [q1, q2, q3, q4, q5, q6, q7, q8, q9] at hb3
    refine sw_skip ?_
    refine sO [(0, _), (1, _), (5, _), (12, _), (13, _)] [] ?_
    refine sw_reg ?_
    refine rA ?_ (x := B_add)
    refine rA ?_ (x := sM)
    refine Exists.intro (k + 1) (And.intro (by exact ⟨by omega, eq_succ ha hlt hlt2 (by simp_all)⟩) (And.intro (by omega) (And.intro (And.intro (by exact ⟨rfl, rfl, rfl, ⟨⟩⟩) (by exact ⟨⟩)) (And.intro (by exact And.intro (by exact rfl) (True.intro)) (by exact ⟨⟩)))))
  ·try simp only [q1, q2, q3, q4, q5, q6, q7, q8, q9] at hb2
   refine sw_exit ?_
   refine sw_seq ?_
   refine sO [(0, _), (1, _), (12, _), (13, _)] [] ?_
   refine sw_reg ?_
   refine rA ?_ (x := kA)
   refine sw_ret ?_
   exact (And.intro (by refine bool_eq ?_; exact (deq_true (eq_end hl (by rw [show x.length = k by omega]; exact ha))).symm) True.intro)
end Go.Proofs.YteflgldonmgejaaGreat
