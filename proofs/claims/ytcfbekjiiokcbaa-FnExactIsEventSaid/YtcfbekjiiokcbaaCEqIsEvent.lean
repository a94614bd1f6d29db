/- What functions of the program compute. No condition. -/
import Derived.Test.YtcfbekjiiokcbaaCDb
set_option linter.unusedVariables false
set_option linter.unusedSimpArgs false
namespace Go.Proofs.Ytcfbekjiiokcbaa
open Go Go.RowKit M
set_option maxRecDepth 10000
theorem eq_IntS {x : List Int} {y : List Int}  : SCall Try.prog 20 [(false, [PV.sl .v (x.map cInt)]), (false, [PV.sl .v (y.map cInt)])] (resRV [(false, [PV.val (.bool (deq x y))])]) := by
  refine scall_of (rs := [(false, [PV.val (.bool (deq x y))])]) Try.func20 rfl (Nat.le_of_ble_eq_true rfl) (borA_cons (BorL.cons (PV.bor_sl _) BorL.nil) (borA_cons (BorL.cons (PV.bor_sl _) BorL.nil) borA_nil)) ?_
  intro h0 w0 Fz0
  refine sw_len (s := 0) rfl fun hl0 => ?_
  try rw [List.length_map] at hl0
  refine sw_len (s := 1) rfl fun hl1 => ?_
  try rw [List.length_map] at hl1
  refine sw_seq ?_
  refine sw_reg ?_
  refine RunS.step (by exact True.intro) (by exact True.intro) (LocG.of rfl (loc_const (.inr rfl) (by decide) (ok_sc rfl))) nofree ?_
  refine sw_seq ?_
  refine sw_seq ?_
  refine sw_of (l := [(0, RV.sv false [PV.sl _ _]), (1, RV.sv false [PV.sl _ _]), (4, RV.sv false [PV.val _])]) (b := []) (by exact And.intro rfl (And.intro rfl (And.intro rfl True.intro))) (by exact True.intro) ?_
  refine sw_reg ?_
  refine RunS.step (by exact And.intro rfl True.intro) (by exact True.intro) (LocG.of rfl (loc_copy (r' := RV.sv false [PV.sl .v _]) (.inl rfl) (by decide) (by exact Cp.sv (ToL.cons PV.to_none ToL.nil) (BorL.cons (PV.bor_sl _) BorL.nil)))) nofree ?_
  refine RunS.step (by exact And.intro rfl True.intro) (by exact True.intro) (LocG.of rfl (loc_len (by decide) sl_23 (by first | exact List.length_map _ | exact rfl))) nofree ?_
  refine RunS.step (by exact And.intro rfl True.intro) (by exact True.intro) (LocG.of rfl (loc_copy (r' := RV.sv false [PV.sl .v _]) (.inl rfl) (by decide) (by exact Cp.sv (ToL.cons PV.to_none ToL.nil) (BorL.cons (PV.bor_sl _) BorL.nil)))) nofree ?_
  refine RunS.step (by exact And.intro rfl True.intro) (by exact True.intro) (LocG.of rfl (loc_len (by decide) sl_23 (by first | exact List.length_map _ | exact rfl))) nofree ?_
  refine RunS.step (by exact And.intro rfl (And.intro rfl True.intro)) (by exact True.intro) (LocG.of rfl (loc_neq (by decide) (by exact True.intro) (by exact True.intro))) nofree ?_
  refine sw_cond (t := 10) rfl (fun hb1 => ?_) (fun hb1 => ?_)
  · try simp only [decide_eq_true_eq, decide_eq_false_iff_not, bne_iff_ne, beq_iff_eq, Bool.not_eq_true', Bool.not_eq_false', ne_eq, bne_eq_false_iff_eq, beq_eq_false_iff_ne] at hb1
    refine sw_seq ?_
    refine sw_of (l := [(0, RV.sv false [PV.sl _ _]), (1, RV.sv false [PV.sl _ _]), (4, RV.sv false [PV.val _])]) (b := []) (by exact And.intro rfl (And.intro rfl (And.intro rfl True.intro))) (by exact True.intro) ?_
    refine sw_reg ?_
    refine RunS.step (by exact True.intro) (by exact True.intro) (LocG.of rfl (loc_const (.inr rfl) (by decide) (ok_sc rfl))) nofree ?_
    refine sw_ret ?_
    exact (And.intro (by refine bool_eq ?_; exact (deq_false (fun e => by subst e; omega)).symm) True.intro)
  · try simp only [decide_eq_true_eq, decide_eq_false_iff_not, bne_iff_ne, beq_iff_eq, Bool.not_eq_true', Bool.not_eq_false', ne_eq, bne_eq_false_iff_eq, beq_eq_false_iff_ne] at hb1
    have hl : x.length = y.length := by omega
    refine sw_skip ?_
    refine sw_seq ?_
    refine sw_seq ?_
    refine sw_of (l := [(0, RV.sv false [PV.sl _ _]), (1, RV.sv false [PV.sl _ _]), (4, RV.sv false [PV.val _])]) (b := []) (by exact And.intro rfl (And.intro rfl (And.intro rfl True.intro))) (by exact True.intro) ?_
    refine sw_reg ?_
    refine RunS.step (by exact True.intro) (by exact True.intro) (LocG.of rfl (loc_const (.inr rfl) (by decide) (ok_sc rfl))) nofree ?_
    refine sw_block ?_
    refine sw_of (l := [(0, RV.sv false [PV.sl _ _]), (1, RV.sv false [PV.sl _ _]), (4, RV.sv false [PV.val _]), (5, RV.sv false [PV.val _])]) (b := []) (by exact And.intro rfl (And.intro rfl (And.intro rfl (And.intro rfl True.intro)))) (by exact True.intro) ?_
    refine sw_loop (l0 := [(0, RV.sv false [PV.sl _ _]), (1, RV.sv false [PV.sl _ _])]) (b0 := []) (fun k : Nat => k ≤ x.length ∧ x.take k = y.take k) (fun k : Nat => [(5, RV.int (k : Int))]) (fun k : Nat => []) (fun k : Nat => x.length - k) 0 (by exact ⟨by omega, by simp⟩) (by exact And.intro rfl (And.intro rfl True.intro)) (by exact True.intro) (by exact And.intro (by exact rfl) (True.intro)) (by exact True.intro) ?_
    rintro k ⟨hk, ha⟩
    refine sw_seq ?_
    refine sw_seq ?_
    refine sw_reg ?_
    refine RunS.step (by exact And.intro rfl True.intro) (by exact True.intro) (LocG.of rfl (loc_copy (.inl rfl) (by decide) (by exact Cp.sc))) nofree ?_
    refine RunS.step (by exact And.intro rfl True.intro) (by exact True.intro) (LocG.of rfl (loc_copy (r' := RV.sv false [PV.sl .v _]) (.inl rfl) (by decide) (by exact Cp.sv (ToL.cons PV.to_none ToL.nil) (BorL.cons (PV.bor_sl _) BorL.nil)))) nofree ?_
    refine RunS.step (by exact And.intro rfl True.intro) (by exact True.intro) (LocG.of rfl (loc_len (by decide) sl_23 (by first | exact List.length_map _ | exact rfl))) nofree ?_
    refine RunS.step (by exact And.intro rfl (And.intro rfl True.intro)) (by exact True.intro) (LocG.of rfl (loc_lss (by decide) (by exact True.intro) (by exact True.intro))) nofree ?_
    refine sw_cond (t := 14) rfl (fun hb2 => ?_) (fun hb2 => ?_)
    · try simp only [decide_eq_true_eq, decide_eq_false_iff_not, bne_iff_ne, beq_iff_eq, Bool.not_eq_true', Bool.not_eq_false', ne_eq, bne_eq_false_iff_eq, beq_eq_false_iff_ne] at hb2
      have hlt : k < x.length := by omega
      have hlt2 : k < y.length := by omega
      refine sw_skip ?_
      refine sw_seq ?_
      refine sw_block ?_
      refine sw_seq ?_
      refine sw_of (l := [(0, RV.sv false [PV.sl _ _]), (1, RV.sv false [PV.sl _ _]), (5, RV.sv false [PV.val _])]) (b := []) (by exact And.intro rfl (And.intro rfl (And.intro rfl True.intro))) (by exact True.intro) ?_
      refine sw_draw hm_ ?_
      refine Run.step 0 (by exact And.intro rfl True.intro) (by exact True.intro) (LocG.of rfl (loc_copy (r' := RV.sv false [PV.sl .v _]) (.inl rfl) (by decide) (by exact Cp.sv (ToL.cons PV.to_none ToL.nil) (BorL.cons (PV.bor_sl _) BorL.nil)))) nofree (by kernel_rfl) ?_
      refine Run.step 0 (by exact And.intro rfl True.intro) (by exact True.intro) (LocG.of rfl (loc_copy (.inl rfl) (by decide) (by exact Cp.sc))) nofree (by kernel_rfl) ?_
      refine Run.step 3 (by exact And.intro rfl (And.intro rfl True.intro)) (by exact True.intro) (LocG.of rfl (loc_index (by decide) sl_23 (by exact True.intro) (by exact rfl) (by exact getm2 (by omega) rfl) (by exact rfl))) nofree (by kernel_rfl) ?_
      refine Run.step 7 (by exact And.intro rfl True.intro) (by exact True.intro) (LocG.of rfl (loc_eload (qs := [PV.val _]) (by decide) ty_3 (fun _ => rfl) (by exact Nat.le_of_ble_eq_true rfl) (by exact (ToL.cons (PV.To.refl _) ToL.nil)) (by exact (BorL.cons (PV.bor_val _) BorL.nil)))) nofree (by kernel_rfl) ?_
      refine Run.step 0 (by exact And.intro rfl True.intro) (by exact True.intro) (LocG.of rfl (loc_copy (r' := RV.sv false [PV.sl .v _]) (.inl rfl) (by decide) (by exact Cp.sv (ToL.cons PV.to_none ToL.nil) (BorL.cons (PV.bor_sl _) BorL.nil)))) nofree (by kernel_rfl) ?_
      refine Run.step 0 (by exact And.intro rfl True.intro) (by exact True.intro) (LocG.of rfl (loc_copy (.inl rfl) (by decide) (by exact Cp.sc))) nofree (by kernel_rfl) ?_
      refine Run.step 48 (by exact And.intro rfl (And.intro rfl True.intro)) (by exact True.intro) (LocG.of rfl (loc_index (by decide) sl_23 (by exact True.intro) (by exact rfl) (by exact getm2 (by omega) rfl) (by exact rfl))) nofree (by kernel_rfl) ?_
      refine Run.step 112 (by exact And.intro rfl True.intro) (by exact True.intro) (LocG.of rfl (loc_eload (qs := [PV.val _]) (by decide) ty_3 (fun _ => rfl) (by exact Nat.le_of_ble_eq_true rfl) (by exact (ToL.cons (PV.To.refl _) ToL.nil)) (by exact (BorL.cons (PV.bor_val _) BorL.nil)))) nofree (by kernel_rfl) ?_
      refine Run.step 255 (by exact And.intro rfl (And.intro rfl True.intro)) (by exact True.intro) (LocG.of rfl (loc_neq (by decide) (by exact True.intro) (by exact True.intro))) nofree (by kernel_rfl) ?_
      refine sw_cond (t := 25) rfl (fun hb3 => ?_) (fun hb3 => ?_)
      · try simp only [decide_eq_true_eq, decide_eq_false_iff_not, bne_iff_ne, beq_iff_eq, Bool.not_eq_true', Bool.not_eq_false', ne_eq, bne_eq_false_iff_eq, beq_eq_false_iff_ne] at hb3
        have hne : x[k] ≠ y[k] := by simpa using hb3
        refine sw_seq ?_
        refine sw_of (l := [(0, RV.sv false [PV.sl _ _]), (1, RV.sv false [PV.sl _ _]), (5, RV.sv false [PV.val _])]) (b := []) (by exact And.intro rfl (And.intro rfl (And.intro rfl True.intro))) (by exact True.intro) ?_
        refine sw_reg ?_
        refine RunS.step (by exact True.intro) (by exact True.intro) (LocG.of rfl (loc_const (.inr rfl) (by decide) (ok_sc rfl))) nofree ?_
        refine sw_ret ?_
        exact (And.intro (by refine bool_eq ?_; exact (deq_false (eq_no hlt hlt2 hne)).symm) True.intro)
      · try simp only [decide_eq_true_eq, decide_eq_false_iff_not, bne_iff_ne, beq_iff_eq, Bool.not_eq_true', Bool.not_eq_false', ne_eq, bne_eq_false_iff_eq, beq_eq_false_iff_ne] at hb3
        have heq : x[k] = y[k] := by simpa using hb3
        refine sw_skip ?_
        refine sw_of (l := [(0, RV.sv false [PV.sl _ _]), (1, RV.sv false [PV.sl _ _]), (5, RV.sv false [PV.val _])]) (b := []) (by exact And.intro rfl (And.intro rfl (And.intro rfl True.intro))) (by exact True.intro) ?_
        refine sw_reg ?_
        refine RunS.step (by exact And.intro rfl True.intro) (by exact True.intro) (LocG.of rfl (loc_copy (.inl rfl) (by decide) (by exact Cp.sc))) nofree ?_
        refine RunS.step (by exact And.intro rfl True.intro) (by exact True.intro) (LocG.of rfl (loc_add (by decide) (by exact True.intro) (ok_sc rfl) (by unfold I64; omega))) nofree ?_
        refine RunS.step (by exact And.intro rfl True.intro) (by exact True.intro) (LocG.of rfl (loc_copy (.inr rfl) (by decide) (by exact Cp.sc))) nofree ?_
        refine Exists.intro (k + 1) (And.intro (by exact ⟨by omega, eq_succ ha hlt hlt2 heq⟩) (And.intro (by omega) (And.intro (And.intro (by exact And.intro rfl (And.intro rfl True.intro)) (by exact True.intro)) (And.intro (by exact And.intro (by exact rfl) (True.intro)) (by exact True.intro)))))
    · try simp only [decide_eq_true_eq, decide_eq_false_iff_not, bne_iff_ne, beq_iff_eq, Bool.not_eq_true', Bool.not_eq_false', ne_eq, bne_eq_false_iff_eq, beq_eq_false_iff_ne] at hb2
      refine sw_exit ?_
      refine sw_seq ?_
      refine sw_of (l := [(0, RV.sv false [PV.sl _ _]), (1, RV.sv false [PV.sl _ _]), (5, RV.sv false [PV.val _])]) (b := []) (by exact And.intro rfl (And.intro rfl (And.intro rfl True.intro))) (by exact True.intro) ?_
      refine sw_reg ?_
      refine RunS.step (by exact True.intro) (by exact True.intro) (LocG.of rfl (loc_const (.inr rfl) (by decide) (ok_sc rfl))) nofree ?_
      refine sw_ret ?_
      exact (And.intro (by refine bool_eq ?_; exact (deq_true (eq_end hl (by rw [show x.length = k by omega]; exact ha))).symm) True.intro)
theorem eq_Cond {x : Cond} {y : Cond}  : SCall Try.prog 182 [(true, [PV.val (vI x.Field), PV.val (vI x.Low), PV.val (vI x.High)]), (true, [PV.val (vI y.Field), PV.val (vI y.Low), PV.val (vI y.High)])] (resRV [(false, [PV.val (.bool (deq x y))])]) := by
  refine scall_of (rs := [(false, [PV.val (.bool (deq x y))])]) Try.func182 rfl (Nat.le_of_ble_eq_true rfl) (borA_cons (BorL.cons (PV.bor_val _) (BorL.cons (PV.bor_val _) (BorL.cons (PV.bor_val _) BorL.nil))) (borA_cons (BorL.cons (PV.bor_val _) (BorL.cons (PV.bor_val _) (BorL.cons (PV.bor_val _) BorL.nil))) borA_nil)) ?_
  intro h0 w0 Fz0
  refine sw_seq ?_
  refine sw_reg ?_
  refine RunS.step (by exact And.intro rfl True.intro) (by exact True.intro) (LocG.of rfl (loc_box (ag := true) (cs := [PV.val _, PV.val _, PV.val _]) (by decide) (by exact True.intro))) (free1 (Free.of_ rfl)) ?_
  refine RunS.step (by exact And.intro rfl True.intro) (by exact True.intro) (LocG.of rfl (loc_box (ag := true) (cs := [PV.val _, PV.val _, PV.val _]) (by decide) (by exact True.intro))) (free1 (Free.app (Free.of_ rfl) rfl)) ?_
  refine RunS.step (by exact True.intro) (by exact True.intro) (LocG.of rfl (loc_const (.inr rfl) (by decide) (ok_sc rfl))) nofree ?_
  refine sw_seq ?_
  refine sw_seq ?_
  refine sw_of (l := [(2, RV.ptr 2 0), (3, RV.ptr 3 0), (4, RV.sv false [PV.val _])]) (b := [(2, (181, [PV.val _, PV.val _, PV.val _])), (3, (181, [PV.val _, PV.val _, PV.val _]))]) (by exact And.intro rfl (And.intro rfl (And.intro rfl True.intro))) (by exact And.intro rfl (And.intro rfl True.intro)) ?_
  refine sw_reg ?_
  refine RunS.step (by exact And.intro rfl True.intro) (by exact True.intro) (LocG.of rfl (loc_field (by decide) fd_181_0)) nofree ?_
  refine RunS.step (by exact And.intro rfl True.intro) (by exact And.intro rfl True.intro) (LocG.of rfl (loc_load (qs := [PV.val _]) (by decide) ty_3 (fun _ => rfl) (by exact Nat.le_of_ble_eq_true rfl) (by exact (ToL.cons (PV.To.refl _) ToL.nil)) (by exact (BorL.cons (PV.bor_val _) BorL.nil)))) nofree ?_
  refine RunS.step (by exact And.intro rfl True.intro) (by exact True.intro) (LocG.of rfl (loc_field (by decide) fd_181_0)) nofree ?_
  refine RunS.step (by exact And.intro rfl True.intro) (by exact And.intro rfl True.intro) (LocG.of rfl (loc_load (qs := [PV.val _]) (by decide) ty_3 (fun _ => rfl) (by exact Nat.le_of_ble_eq_true rfl) (by exact (ToL.cons (PV.To.refl _) ToL.nil)) (by exact (BorL.cons (PV.bor_val _) BorL.nil)))) nofree ?_
  refine RunS.step (by exact And.intro rfl (And.intro rfl True.intro)) (by exact True.intro) (LocG.of rfl (loc_neq (by decide) (by exact True.intro) (by exact True.intro))) nofree ?_
  refine sw_cond (t := 9) rfl (fun hb1 => ?_) (fun hb1 => ?_)
  · try simp only [decide_eq_true_eq, decide_eq_false_iff_not, bne_iff_ne, beq_iff_eq, Bool.not_eq_true', Bool.not_eq_false', ne_eq, bne_eq_false_iff_eq, beq_eq_false_iff_ne] at hb1
    refine sw_seq ?_
    refine sw_of (l := [(2, RV.ptr 2 0), (3, RV.ptr 3 0), (4, RV.sv false [PV.val _])]) (b := [(2, (181, [PV.val _, PV.val _, PV.val _])), (3, (181, [PV.val _, PV.val _, PV.val _]))]) (by exact And.intro rfl (And.intro rfl (And.intro rfl True.intro))) (by exact And.intro rfl (And.intro rfl True.intro)) ?_
    refine sw_reg ?_
    refine RunS.step (by exact True.intro) (by exact True.intro) (LocG.of rfl (loc_const (.inr rfl) (by decide) (ok_sc rfl))) nofree ?_
    refine sw_ret ?_
    exact (And.intro (by refine bool_eq ?_; exact (deq_false (fun e => by subst e; simp_all [deq_self])).symm) True.intro)
  · try simp only [decide_eq_true_eq, decide_eq_false_iff_not, bne_iff_ne, beq_iff_eq, Bool.not_eq_true', Bool.not_eq_false', ne_eq, bne_eq_false_iff_eq, beq_eq_false_iff_ne] at hb1
    refine sw_skip ?_
    refine sw_seq ?_
    refine sw_seq ?_
    refine sw_of (l := [(2, RV.ptr 2 0), (3, RV.ptr 3 0), (4, RV.sv false [PV.val _])]) (b := [(2, (181, [PV.val _, PV.val _, PV.val _])), (3, (181, [PV.val _, PV.val _, PV.val _]))]) (by exact And.intro rfl (And.intro rfl (And.intro rfl True.intro))) (by exact And.intro rfl (And.intro rfl True.intro)) ?_
    refine sw_reg ?_
    refine RunS.step (by exact And.intro rfl True.intro) (by exact True.intro) (LocG.of rfl (loc_field (by decide) fd_181_1)) nofree ?_
    refine RunS.step (by exact And.intro rfl True.intro) (by exact And.intro rfl True.intro) (LocG.of rfl (loc_load (qs := [PV.val _]) (by decide) ty_3 (fun _ => rfl) (by exact Nat.le_of_ble_eq_true rfl) (by exact (ToL.cons (PV.To.refl _) ToL.nil)) (by exact (BorL.cons (PV.bor_val _) BorL.nil)))) nofree ?_
    refine RunS.step (by exact And.intro rfl True.intro) (by exact True.intro) (LocG.of rfl (loc_field (by decide) fd_181_1)) nofree ?_
    refine RunS.step (by exact And.intro rfl True.intro) (by exact And.intro rfl True.intro) (LocG.of rfl (loc_load (qs := [PV.val _]) (by decide) ty_3 (fun _ => rfl) (by exact Nat.le_of_ble_eq_true rfl) (by exact (ToL.cons (PV.To.refl _) ToL.nil)) (by exact (BorL.cons (PV.bor_val _) BorL.nil)))) nofree ?_
    refine RunS.step (by exact And.intro rfl (And.intro rfl True.intro)) (by exact True.intro) (LocG.of rfl (loc_neq (by decide) (by exact True.intro) (by exact True.intro))) nofree ?_
    refine sw_cond (t := 14) rfl (fun hb2 => ?_) (fun hb2 => ?_)
    · try simp only [decide_eq_true_eq, decide_eq_false_iff_not, bne_iff_ne, beq_iff_eq, Bool.not_eq_true', Bool.not_eq_false', ne_eq, bne_eq_false_iff_eq, beq_eq_false_iff_ne] at hb2
      refine sw_seq ?_
      refine sw_of (l := [(2, RV.ptr 2 0), (3, RV.ptr 3 0), (4, RV.sv false [PV.val _])]) (b := [(2, (181, [PV.val _, PV.val _, PV.val _])), (3, (181, [PV.val _, PV.val _, PV.val _]))]) (by exact And.intro rfl (And.intro rfl (And.intro rfl True.intro))) (by exact And.intro rfl (And.intro rfl True.intro)) ?_
      refine sw_reg ?_
      refine RunS.step (by exact True.intro) (by exact True.intro) (LocG.of rfl (loc_const (.inr rfl) (by decide) (ok_sc rfl))) nofree ?_
      refine sw_ret ?_
      exact (And.intro (by refine bool_eq ?_; exact (deq_false (fun e => by subst e; simp_all [deq_self])).symm) True.intro)
    · try simp only [decide_eq_true_eq, decide_eq_false_iff_not, bne_iff_ne, beq_iff_eq, Bool.not_eq_true', Bool.not_eq_false', ne_eq, bne_eq_false_iff_eq, beq_eq_false_iff_ne] at hb2
      refine sw_skip ?_
      refine sw_seq ?_
      refine sw_seq ?_
      refine sw_of (l := [(2, RV.ptr 2 0), (3, RV.ptr 3 0), (4, RV.sv false [PV.val _])]) (b := [(2, (181, [PV.val _, PV.val _, PV.val _])), (3, (181, [PV.val _, PV.val _, PV.val _]))]) (by exact And.intro rfl (And.intro rfl (And.intro rfl True.intro))) (by exact And.intro rfl (And.intro rfl True.intro)) ?_
      refine sw_reg ?_
      refine RunS.step (by exact And.intro rfl True.intro) (by exact True.intro) (LocG.of rfl (loc_field (by decide) fd_181_2)) nofree ?_
      refine RunS.step (by exact And.intro rfl True.intro) (by exact And.intro rfl True.intro) (LocG.of rfl (loc_load (qs := [PV.val _]) (by decide) ty_3 (fun _ => rfl) (by exact Nat.le_of_ble_eq_true rfl) (by exact (ToL.cons (PV.To.refl _) ToL.nil)) (by exact (BorL.cons (PV.bor_val _) BorL.nil)))) nofree ?_
      refine RunS.step (by exact And.intro rfl True.intro) (by exact True.intro) (LocG.of rfl (loc_field (by decide) fd_181_2)) nofree ?_
      refine RunS.step (by exact And.intro rfl True.intro) (by exact And.intro rfl True.intro) (LocG.of rfl (loc_load (qs := [PV.val _]) (by decide) ty_3 (fun _ => rfl) (by exact Nat.le_of_ble_eq_true rfl) (by exact (ToL.cons (PV.To.refl _) ToL.nil)) (by exact (BorL.cons (PV.bor_val _) BorL.nil)))) nofree ?_
      refine RunS.step (by exact And.intro rfl (And.intro rfl True.intro)) (by exact True.intro) (LocG.of rfl (loc_neq (by decide) (by exact True.intro) (by exact True.intro))) nofree ?_
      refine sw_cond (t := 19) rfl (fun hb3 => ?_) (fun hb3 => ?_)
      · try simp only [decide_eq_true_eq, decide_eq_false_iff_not, bne_iff_ne, beq_iff_eq, Bool.not_eq_true', Bool.not_eq_false', ne_eq, bne_eq_false_iff_eq, beq_eq_false_iff_ne] at hb3
        refine sw_seq ?_
        refine sw_of (l := [(2, RV.ptr 2 0), (3, RV.ptr 3 0), (4, RV.sv false [PV.val _])]) (b := [(2, (181, [PV.val _, PV.val _, PV.val _])), (3, (181, [PV.val _, PV.val _, PV.val _]))]) (by exact And.intro rfl (And.intro rfl (And.intro rfl True.intro))) (by exact And.intro rfl (And.intro rfl True.intro)) ?_
        refine sw_reg ?_
        refine RunS.step (by exact True.intro) (by exact True.intro) (LocG.of rfl (loc_const (.inr rfl) (by decide) (ok_sc rfl))) nofree ?_
        refine sw_ret ?_
        exact (And.intro (by refine bool_eq ?_; exact (deq_false (fun e => by subst e; simp_all [deq_self])).symm) True.intro)
      · try simp only [decide_eq_true_eq, decide_eq_false_iff_not, bne_iff_ne, beq_iff_eq, Bool.not_eq_true', Bool.not_eq_false', ne_eq, bne_eq_false_iff_eq, beq_eq_false_iff_ne] at hb3
        refine sw_skip ?_
        refine sw_seq ?_
        refine sw_of (l := [(2, RV.ptr 2 0), (3, RV.ptr 3 0), (4, RV.sv false [PV.val _])]) (b := [(2, (181, [PV.val _, PV.val _, PV.val _])), (3, (181, [PV.val _, PV.val _, PV.val _]))]) (by exact And.intro rfl (And.intro rfl (And.intro rfl True.intro))) (by exact And.intro rfl (And.intro rfl True.intro)) ?_
        refine sw_reg ?_
        refine RunS.step (by exact True.intro) (by exact True.intro) (LocG.of rfl (loc_const (.inr rfl) (by decide) (ok_sc rfl))) nofree ?_
        refine sw_ret ?_
        exact (And.intro (by refine bool_eq ?_; exact (deq_true (by apply ext_Cond <;> simp_all [deq_iff])).symm) True.intro)
theorem eq_Row {x : Row} {y : Row}  : SCall Try.prog 83 [(true, [PV.val (vI x.Id), PV.sl .v (x.Values.map cInt)]), (true, [PV.val (vI y.Id), PV.sl .v (y.Values.map cInt)])] (resRV [(false, [PV.val (.bool (deq x y))])]) := by
  refine scall_of (rs := [(false, [PV.val (.bool (deq x y))])]) Try.func83 rfl (Nat.le_of_ble_eq_true rfl) (borA_cons (BorL.cons (PV.bor_val _) (BorL.cons (PV.bor_sl _) BorL.nil)) (borA_cons (BorL.cons (PV.bor_val _) (BorL.cons (PV.bor_sl _) BorL.nil)) borA_nil)) ?_
  intro h0 w0 Fz0
  refine sw_slen (s := 0) (j := 1) rfl rfl fun hl0_1 => ?_
  try rw [List.length_map] at hl0_1
  refine sw_slen (s := 1) (j := 1) rfl rfl fun hl1_1 => ?_
  try rw [List.length_map] at hl1_1
  refine sw_seq ?_
  refine sw_reg ?_
  refine RunS.step (by exact And.intro rfl True.intro) (by exact True.intro) (LocG.of rfl (loc_box (ag := true) (cs := [PV.val _, PV.sl _ _]) (by decide) (by exact True.intro))) (free1 (Free.of_ rfl)) ?_
  refine RunS.step (by exact And.intro rfl True.intro) (by exact True.intro) (LocG.of rfl (loc_box (ag := true) (cs := [PV.val _, PV.sl _ _]) (by decide) (by exact True.intro))) (free1 (Free.app (Free.of_ rfl) rfl)) ?_
  refine RunS.step (by exact True.intro) (by exact True.intro) (LocG.of rfl (loc_const (.inr rfl) (by decide) (ok_sc rfl))) nofree ?_
  refine sw_seq ?_
  refine sw_seq ?_
  refine sw_of (l := [(2, RV.ptr 2 0), (3, RV.ptr 3 0), (4, RV.sv false [PV.val _])]) (b := [(2, (57, [PV.val _, PV.sl _ _])), (3, (57, [PV.val _, PV.sl _ _]))]) (by exact And.intro rfl (And.intro rfl (And.intro rfl True.intro))) (by exact And.intro rfl (And.intro rfl True.intro)) ?_
  refine sw_reg ?_
  refine RunS.step (by exact And.intro rfl True.intro) (by exact True.intro) (LocG.of rfl (loc_field (by decide) fd_57_0)) nofree ?_
  refine RunS.step (by exact And.intro rfl True.intro) (by exact And.intro rfl True.intro) (LocG.of rfl (loc_load (qs := [PV.val _]) (by decide) ty_3 (fun _ => rfl) (by exact Nat.le_of_ble_eq_true rfl) (by exact (ToL.cons (PV.To.refl _) ToL.nil)) (by exact (BorL.cons (PV.bor_val _) BorL.nil)))) nofree ?_
  refine RunS.step (by exact And.intro rfl True.intro) (by exact True.intro) (LocG.of rfl (loc_field (by decide) fd_57_0)) nofree ?_
  refine RunS.step (by exact And.intro rfl True.intro) (by exact And.intro rfl True.intro) (LocG.of rfl (loc_load (qs := [PV.val _]) (by decide) ty_3 (fun _ => rfl) (by exact Nat.le_of_ble_eq_true rfl) (by exact (ToL.cons (PV.To.refl _) ToL.nil)) (by exact (BorL.cons (PV.bor_val _) BorL.nil)))) nofree ?_
  refine RunS.step (by exact And.intro rfl (And.intro rfl True.intro)) (by exact True.intro) (LocG.of rfl (loc_neq (by decide) (by exact True.intro) (by exact True.intro))) nofree ?_
  refine sw_cond (t := 9) rfl (fun hb1 => ?_) (fun hb1 => ?_)
  · try simp only [decide_eq_true_eq, decide_eq_false_iff_not, bne_iff_ne, beq_iff_eq, Bool.not_eq_true', Bool.not_eq_false', ne_eq, bne_eq_false_iff_eq, beq_eq_false_iff_ne] at hb1
    refine sw_seq ?_
    refine sw_of (l := [(2, RV.ptr 2 0), (3, RV.ptr 3 0), (4, RV.sv false [PV.val _])]) (b := [(2, (57, [PV.val _, PV.sl _ _])), (3, (57, [PV.val _, PV.sl _ _]))]) (by exact And.intro rfl (And.intro rfl (And.intro rfl True.intro))) (by exact And.intro rfl (And.intro rfl True.intro)) ?_
    refine sw_reg ?_
    refine RunS.step (by exact True.intro) (by exact True.intro) (LocG.of rfl (loc_const (.inr rfl) (by decide) (ok_sc rfl))) nofree ?_
    refine sw_ret ?_
    exact (And.intro (by refine bool_eq ?_; exact (deq_false (fun e => by subst e; simp_all [deq_self])).symm) True.intro)
  · try simp only [decide_eq_true_eq, decide_eq_false_iff_not, bne_iff_ne, beq_iff_eq, Bool.not_eq_true', Bool.not_eq_false', ne_eq, bne_eq_false_iff_eq, beq_eq_false_iff_ne] at hb1
    refine sw_skip ?_
    refine sw_seq ?_
    refine sw_seq ?_
    refine sw_of (l := [(2, RV.ptr 2 0), (3, RV.ptr 3 0), (4, RV.sv false [PV.val _])]) (b := [(2, (57, [PV.val _, PV.sl _ _])), (3, (57, [PV.val _, PV.sl _ _]))]) (by exact And.intro rfl (And.intro rfl (And.intro rfl True.intro))) (by exact And.intro rfl (And.intro rfl True.intro)) ?_
    refine sw_reg ?_
    refine RunS.step (by exact And.intro rfl True.intro) (by exact True.intro) (LocG.of rfl (loc_field (by decide) fd_57_1)) nofree ?_
    refine RunS.step (by exact And.intro rfl True.intro) (by exact And.intro rfl True.intro) (LocG.of rfl (loc_load (qs := [PV.sl .v _]) (by decide) ty_23 (fun _ => rfl) (by exact Nat.le_of_ble_eq_true rfl) (by exact (ToL.cons PV.to_none ToL.nil)) (by exact (BorL.cons (PV.bor_sl _) BorL.nil)))) nofree ?_
    refine RunS.step (by exact And.intro rfl True.intro) (by exact True.intro) (LocG.of rfl (loc_field (by decide) fd_57_1)) nofree ?_
    refine RunS.step (by exact And.intro rfl True.intro) (by exact And.intro rfl True.intro) (LocG.of rfl (loc_load (qs := [PV.sl .v _]) (by decide) ty_23 (fun _ => rfl) (by exact Nat.le_of_ble_eq_true rfl) (by exact (ToL.cons PV.to_none ToL.nil)) (by exact (BorL.cons (PV.bor_sl _) BorL.nil)))) nofree ?_
    refine RunS.step (by exact And.intro rfl (And.intro rfl True.intro)) (by exact True.intro) (LocG.of rfl (loc_call (qs := [(false, [PV.sl _ _]), (false, [PV.sl _ _])]) (as_ := [(false, [PV.sl .v _]), (false, [PV.sl .v _])]) (by decide) c_20 (by exact (And.intro (by exact True.intro) (And.intro (by exact True.intro) True.intro))) (by exact (And.intro (And.intro rfl (ToL.cons PV.to_none ToL.nil)) (And.intro (And.intro rfl (ToL.cons PV.to_none ToL.nil)) True.intro))) (by exact eq_IntS))) nofree ?_
    refine RunS.step (by exact And.intro rfl True.intro) (by exact True.intro) (LocG.of rfl (loc_not (by decide))) nofree ?_
    refine sw_cond (t := 15) rfl (fun hb2 => ?_) (fun hb2 => ?_)
    · try simp only [decide_eq_true_eq, decide_eq_false_iff_not, bne_iff_ne, beq_iff_eq, Bool.not_eq_true', Bool.not_eq_false', ne_eq, bne_eq_false_iff_eq, beq_eq_false_iff_ne] at hb2
      refine sw_seq ?_
      refine sw_of (l := [(2, RV.ptr 2 0), (3, RV.ptr 3 0), (4, RV.sv false [PV.val _])]) (b := [(2, (57, [PV.val _, PV.sl _ _])), (3, (57, [PV.val _, PV.sl _ _]))]) (by exact And.intro rfl (And.intro rfl (And.intro rfl True.intro))) (by exact And.intro rfl (And.intro rfl True.intro)) ?_
      refine sw_reg ?_
      refine RunS.step (by exact True.intro) (by exact True.intro) (LocG.of rfl (loc_const (.inr rfl) (by decide) (ok_sc rfl))) nofree ?_
      refine sw_ret ?_
      exact (And.intro (by refine bool_eq ?_; exact (deq_false (fun e => by subst e; simp_all [deq_self])).symm) True.intro)
    · try simp only [decide_eq_true_eq, decide_eq_false_iff_not, bne_iff_ne, beq_iff_eq, Bool.not_eq_true', Bool.not_eq_false', ne_eq, bne_eq_false_iff_eq, beq_eq_false_iff_ne] at hb2
      refine sw_skip ?_
      refine sw_seq ?_
      refine sw_of (l := [(2, RV.ptr 2 0), (3, RV.ptr 3 0), (4, RV.sv false [PV.val _])]) (b := [(2, (57, [PV.val _, PV.sl _ _])), (3, (57, [PV.val _, PV.sl _ _]))]) (by exact And.intro rfl (And.intro rfl (And.intro rfl True.intro))) (by exact And.intro rfl (And.intro rfl True.intro)) ?_
      refine sw_reg ?_
      refine RunS.step (by exact True.intro) (by exact True.intro) (LocG.of rfl (loc_const (.inr rfl) (by decide) (ok_sc rfl))) nofree ?_
      refine sw_ret ?_
      exact (And.intro (by refine bool_eq ?_; exact (deq_true (by apply ext_Row <;> simp_all [deq_iff])).symm) True.intro)
theorem eq_CondS {x : List Cond} {y : List Cond}  : SCall Try.prog 139 [(false, [PV.sl .v (x.map cCond)]), (false, [PV.sl .v (y.map cCond)])] (resRV [(false, [PV.val (.bool (deq x y))])]) := by
  refine scall_of (rs := [(false, [PV.val (.bool (deq x y))])]) Try.func139 rfl (Nat.le_of_ble_eq_true rfl) (borA_cons (BorL.cons (PV.bor_sl _) BorL.nil) (borA_cons (BorL.cons (PV.bor_sl _) BorL.nil) borA_nil)) ?_
  intro h0 w0 Fz0
  refine sw_len (s := 0) rfl fun hl0 => ?_
  try rw [List.length_map] at hl0
  refine sw_len (s := 1) rfl fun hl1 => ?_
  try rw [List.length_map] at hl1
  refine sw_seq ?_
  refine sw_reg ?_
  refine RunS.step (by exact True.intro) (by exact True.intro) (LocG.of rfl (loc_const (.inr rfl) (by decide) (ok_sc rfl))) nofree ?_
  refine sw_seq ?_
  refine sw_seq ?_
  refine sw_of (l := [(0, RV.sv false [PV.sl _ _]), (1, RV.sv false [PV.sl _ _]), (4, RV.sv false [PV.val _])]) (b := []) (by exact And.intro rfl (And.intro rfl (And.intro rfl True.intro))) (by exact True.intro) ?_
  refine sw_reg ?_
  refine RunS.step (by exact And.intro rfl True.intro) (by exact True.intro) (LocG.of rfl (loc_copy (r' := RV.sv false [PV.sl .v _]) (.inl rfl) (by decide) (by exact Cp.sv (ToL.cons PV.to_none ToL.nil) (BorL.cons (PV.bor_sl _) BorL.nil)))) nofree ?_
  refine RunS.step (by exact And.intro rfl True.intro) (by exact True.intro) (LocG.of rfl (loc_len (by decide) sl_54 (by first | exact List.length_map _ | exact rfl))) nofree ?_
  refine RunS.step (by exact And.intro rfl True.intro) (by exact True.intro) (LocG.of rfl (loc_copy (r' := RV.sv false [PV.sl .v _]) (.inl rfl) (by decide) (by exact Cp.sv (ToL.cons PV.to_none ToL.nil) (BorL.cons (PV.bor_sl _) BorL.nil)))) nofree ?_
  refine RunS.step (by exact And.intro rfl True.intro) (by exact True.intro) (LocG.of rfl (loc_len (by decide) sl_54 (by first | exact List.length_map _ | exact rfl))) nofree ?_
  refine RunS.step (by exact And.intro rfl (And.intro rfl True.intro)) (by exact True.intro) (LocG.of rfl (loc_neq (by decide) (by exact True.intro) (by exact True.intro))) nofree ?_
  refine sw_cond (t := 10) rfl (fun hb1 => ?_) (fun hb1 => ?_)
  · try simp only [decide_eq_true_eq, decide_eq_false_iff_not, bne_iff_ne, beq_iff_eq, Bool.not_eq_true', Bool.not_eq_false', ne_eq, bne_eq_false_iff_eq, beq_eq_false_iff_ne] at hb1
    refine sw_seq ?_
    refine sw_of (l := [(0, RV.sv false [PV.sl _ _]), (1, RV.sv false [PV.sl _ _]), (4, RV.sv false [PV.val _])]) (b := []) (by exact And.intro rfl (And.intro rfl (And.intro rfl True.intro))) (by exact True.intro) ?_
    refine sw_reg ?_
    refine RunS.step (by exact True.intro) (by exact True.intro) (LocG.of rfl (loc_const (.inr rfl) (by decide) (ok_sc rfl))) nofree ?_
    refine sw_ret ?_
    exact (And.intro (by refine bool_eq ?_; exact (deq_false (fun e => by subst e; omega)).symm) True.intro)
  · try simp only [decide_eq_true_eq, decide_eq_false_iff_not, bne_iff_ne, beq_iff_eq, Bool.not_eq_true', Bool.not_eq_false', ne_eq, bne_eq_false_iff_eq, beq_eq_false_iff_ne] at hb1
    have hl : x.length = y.length := by omega
    refine sw_skip ?_
    refine sw_seq ?_
    refine sw_seq ?_
    refine sw_of (l := [(0, RV.sv false [PV.sl _ _]), (1, RV.sv false [PV.sl _ _]), (4, RV.sv false [PV.val _])]) (b := []) (by exact And.intro rfl (And.intro rfl (And.intro rfl True.intro))) (by exact True.intro) ?_
    refine sw_reg ?_
    refine RunS.step (by exact True.intro) (by exact True.intro) (LocG.of rfl (loc_const (.inr rfl) (by decide) (ok_sc rfl))) nofree ?_
    refine sw_block ?_
    refine sw_of (l := [(0, RV.sv false [PV.sl _ _]), (1, RV.sv false [PV.sl _ _]), (4, RV.sv false [PV.val _]), (5, RV.sv false [PV.val _])]) (b := []) (by exact And.intro rfl (And.intro rfl (And.intro rfl (And.intro rfl True.intro)))) (by exact True.intro) ?_
    refine sw_loop (l0 := [(0, RV.sv false [PV.sl _ _]), (1, RV.sv false [PV.sl _ _])]) (b0 := []) (fun k : Nat => k ≤ x.length ∧ x.take k = y.take k) (fun k : Nat => [(5, RV.int (k : Int))]) (fun k : Nat => []) (fun k : Nat => x.length - k) 0 (by exact ⟨by omega, by simp⟩) (by exact And.intro rfl (And.intro rfl True.intro)) (by exact True.intro) (by exact And.intro (by exact rfl) (True.intro)) (by exact True.intro) ?_
    rintro k ⟨hk, ha⟩
    refine sw_seq ?_
    refine sw_seq ?_
    refine sw_reg ?_
    refine RunS.step (by exact And.intro rfl True.intro) (by exact True.intro) (LocG.of rfl (loc_copy (.inl rfl) (by decide) (by exact Cp.sc))) nofree ?_
    refine RunS.step (by exact And.intro rfl True.intro) (by exact True.intro) (LocG.of rfl (loc_copy (r' := RV.sv false [PV.sl .v _]) (.inl rfl) (by decide) (by exact Cp.sv (ToL.cons PV.to_none ToL.nil) (BorL.cons (PV.bor_sl _) BorL.nil)))) nofree ?_
    refine RunS.step (by exact And.intro rfl True.intro) (by exact True.intro) (LocG.of rfl (loc_len (by decide) sl_54 (by first | exact List.length_map _ | exact rfl))) nofree ?_
    refine RunS.step (by exact And.intro rfl (And.intro rfl True.intro)) (by exact True.intro) (LocG.of rfl (loc_lss (by decide) (by exact True.intro) (by exact True.intro))) nofree ?_
    refine sw_cond (t := 14) rfl (fun hb2 => ?_) (fun hb2 => ?_)
    · try simp only [decide_eq_true_eq, decide_eq_false_iff_not, bne_iff_ne, beq_iff_eq, Bool.not_eq_true', Bool.not_eq_false', ne_eq, bne_eq_false_iff_eq, beq_eq_false_iff_ne] at hb2
      have hlt : k < x.length := by omega
      have hlt2 : k < y.length := by omega
      refine sw_skip ?_
      refine sw_seq ?_
      refine sw_block ?_
      refine sw_seq ?_
      refine sw_of (l := [(0, RV.sv false [PV.sl _ _]), (1, RV.sv false [PV.sl _ _]), (5, RV.sv false [PV.val _])]) (b := []) (by exact And.intro rfl (And.intro rfl (And.intro rfl True.intro))) (by exact True.intro) ?_
      refine sw_draw hm_ ?_
      refine Run.step 0 (by exact And.intro rfl True.intro) (by exact True.intro) (LocG.of rfl (loc_copy (r' := RV.sv false [PV.sl .v _]) (.inl rfl) (by decide) (by exact Cp.sv (ToL.cons PV.to_none ToL.nil) (BorL.cons (PV.bor_sl _) BorL.nil)))) nofree (by kernel_rfl) ?_
      refine Run.step 0 (by exact And.intro rfl True.intro) (by exact True.intro) (LocG.of rfl (loc_copy (.inl rfl) (by decide) (by exact Cp.sc))) nofree (by kernel_rfl) ?_
      refine Run.step 3 (by exact And.intro rfl (And.intro rfl True.intro)) (by exact True.intro) (LocG.of rfl (loc_index (by decide) sl_54 (by exact True.intro) (by exact rfl) (by exact getm2 (by omega) rfl) (by exact rfl))) nofree (by kernel_rfl) ?_
      refine Run.step 7 (by exact And.intro rfl True.intro) (by exact True.intro) (LocG.of rfl (loc_eload (qs := [PV.val _, PV.val _, PV.val _]) (by decide) ty_181 (fun h => nomatch h) (by exact Nat.le_of_ble_eq_true rfl) (by exact (ToL.cons (PV.To.refl _) (ToL.cons (PV.To.refl _) (ToL.cons (PV.To.refl _) ToL.nil)))) (by exact (BorL.cons (PV.bor_val _) (BorL.cons (PV.bor_val _) (BorL.cons (PV.bor_val _) BorL.nil)))))) nofree (by kernel_rfl) ?_
      refine Run.step 0 (by exact And.intro rfl True.intro) (by exact True.intro) (LocG.of rfl (loc_copy (r' := RV.sv false [PV.sl .v _]) (.inl rfl) (by decide) (by exact Cp.sv (ToL.cons PV.to_none ToL.nil) (BorL.cons (PV.bor_sl _) BorL.nil)))) nofree (by kernel_rfl) ?_
      refine Run.step 0 (by exact And.intro rfl True.intro) (by exact True.intro) (LocG.of rfl (loc_copy (.inl rfl) (by decide) (by exact Cp.sc))) nofree (by kernel_rfl) ?_
      refine Run.step 48 (by exact And.intro rfl (And.intro rfl True.intro)) (by exact True.intro) (LocG.of rfl (loc_index (by decide) sl_54 (by exact True.intro) (by exact rfl) (by exact getm2 (by omega) rfl) (by exact rfl))) nofree (by kernel_rfl) ?_
      refine Run.step 112 (by exact And.intro rfl True.intro) (by exact True.intro) (LocG.of rfl (loc_eload (qs := [PV.val _, PV.val _, PV.val _]) (by decide) ty_181 (fun h => nomatch h) (by exact Nat.le_of_ble_eq_true rfl) (by exact (ToL.cons (PV.To.refl _) (ToL.cons (PV.To.refl _) (ToL.cons (PV.To.refl _) ToL.nil)))) (by exact (BorL.cons (PV.bor_val _) (BorL.cons (PV.bor_val _) (BorL.cons (PV.bor_val _) BorL.nil)))))) nofree (by kernel_rfl) ?_
      refine Run.step 255 (by exact And.intro rfl (And.intro rfl True.intro)) (by exact True.intro) (LocG.of rfl (loc_call (qs := [(true, [PV.val _, PV.val _, PV.val _]), (true, [PV.val _, PV.val _, PV.val _])]) (as_ := [(true, [PV.val _, PV.val _, PV.val _]), (true, [PV.val _, PV.val _, PV.val _])]) (by decide) c_182 (by exact (And.intro (by exact True.intro) (And.intro (by exact True.intro) True.intro))) (by exact (And.intro (And.intro rfl (ToL.cons (PV.To.refl _) (ToL.cons (PV.To.refl _) (ToL.cons (PV.To.refl _) ToL.nil)))) (And.intro (And.intro rfl (ToL.cons (PV.To.refl _) (ToL.cons (PV.To.refl _) (ToL.cons (PV.To.refl _) ToL.nil)))) True.intro))) (by exact eq_Cond))) nofree (by kernel_rfl) ?_
      refine Run.step 511 (by exact And.intro rfl True.intro) (by exact True.intro) (LocG.of rfl (loc_not (by decide))) nofree (by kernel_rfl) ?_
      refine sw_cond (t := 26) rfl (fun hb3 => ?_) (fun hb3 => ?_)
      · try simp only [decide_eq_true_eq, decide_eq_false_iff_not, bne_iff_ne, beq_iff_eq, Bool.not_eq_true', Bool.not_eq_false', ne_eq, bne_eq_false_iff_eq, beq_eq_false_iff_ne] at hb3
        have hne : x[k] ≠ y[k] := by intro hxy; rw [hxy, deq_self] at hb3; simp at hb3
        refine sw_seq ?_
        refine sw_of (l := [(0, RV.sv false [PV.sl _ _]), (1, RV.sv false [PV.sl _ _]), (5, RV.sv false [PV.val _])]) (b := []) (by exact And.intro rfl (And.intro rfl (And.intro rfl True.intro))) (by exact True.intro) ?_
        refine sw_reg ?_
        refine RunS.step (by exact True.intro) (by exact True.intro) (LocG.of rfl (loc_const (.inr rfl) (by decide) (ok_sc rfl))) nofree ?_
        refine sw_ret ?_
        exact (And.intro (by refine bool_eq ?_; exact (deq_false (eq_no hlt hlt2 hne)).symm) True.intro)
      · try simp only [decide_eq_true_eq, decide_eq_false_iff_not, bne_iff_ne, beq_iff_eq, Bool.not_eq_true', Bool.not_eq_false', ne_eq, bne_eq_false_iff_eq, beq_eq_false_iff_ne] at hb3
        have heq : x[k] = y[k] := by exact deq_iff.1 (by simpa using hb3)
        refine sw_skip ?_
        refine sw_of (l := [(0, RV.sv false [PV.sl _ _]), (1, RV.sv false [PV.sl _ _]), (5, RV.sv false [PV.val _])]) (b := []) (by exact And.intro rfl (And.intro rfl (And.intro rfl True.intro))) (by exact True.intro) ?_
        refine sw_reg ?_
        refine RunS.step (by exact And.intro rfl True.intro) (by exact True.intro) (LocG.of rfl (loc_copy (.inl rfl) (by decide) (by exact Cp.sc))) nofree ?_
        refine RunS.step (by exact And.intro rfl True.intro) (by exact True.intro) (LocG.of rfl (loc_add (by decide) (by exact True.intro) (ok_sc rfl) (by unfold I64; omega))) nofree ?_
        refine RunS.step (by exact And.intro rfl True.intro) (by exact True.intro) (LocG.of rfl (loc_copy (.inr rfl) (by decide) (by exact Cp.sc))) nofree ?_
        refine Exists.intro (k + 1) (And.intro (by exact ⟨by omega, eq_succ ha hlt hlt2 heq⟩) (And.intro (by omega) (And.intro (And.intro (by exact And.intro rfl (And.intro rfl True.intro)) (by exact True.intro)) (And.intro (by exact And.intro (by exact rfl) (True.intro)) (by exact True.intro)))))
    · try simp only [decide_eq_true_eq, decide_eq_false_iff_not, bne_iff_ne, beq_iff_eq, Bool.not_eq_true', Bool.not_eq_false', ne_eq, bne_eq_false_iff_eq, beq_eq_false_iff_ne] at hb2
      refine sw_exit ?_
      refine sw_seq ?_
      refine sw_of (l := [(0, RV.sv false [PV.sl _ _]), (1, RV.sv false [PV.sl _ _]), (5, RV.sv false [PV.val _])]) (b := []) (by exact And.intro rfl (And.intro rfl (And.intro rfl True.intro))) (by exact True.intro) ?_
      refine sw_reg ?_
      refine RunS.step (by exact True.intro) (by exact True.intro) (LocG.of rfl (loc_const (.inr rfl) (by decide) (ok_sc rfl))) nofree ?_
      refine sw_ret ?_
      exact (And.intro (by refine bool_eq ?_; exact (deq_true (eq_end hl (by rw [show x.length = k by omega]; exact ha))).symm) True.intro)
theorem eq_Query {x : Query} {y : Query}  : SCall Try.prog 69 [(true, [PV.val (vI x.Id), PV.val (vI x.Tenant), PV.sl .v (x.Conds.map cCond), PV.sl .v (x.Out.map cInt)]), (true, [PV.val (vI y.Id), PV.val (vI y.Tenant), PV.sl .v (y.Conds.map cCond), PV.sl .v (y.Out.map cInt)])] (resRV [(false, [PV.val (.bool (deq x y))])]) := by
  refine scall_of (rs := [(false, [PV.val (.bool (deq x y))])]) Try.func69 rfl (Nat.le_of_ble_eq_true rfl) (borA_cons (BorL.cons (PV.bor_val _) (BorL.cons (PV.bor_val _) (BorL.cons (PV.bor_sl _) (BorL.cons (PV.bor_sl _) BorL.nil)))) (borA_cons (BorL.cons (PV.bor_val _) (BorL.cons (PV.bor_val _) (BorL.cons (PV.bor_sl _) (BorL.cons (PV.bor_sl _) BorL.nil)))) borA_nil)) ?_
  intro h0 w0 Fz0
  refine sw_slen (s := 0) (j := 2) rfl rfl fun hl0_2 => ?_
  try rw [List.length_map] at hl0_2
  refine sw_slen (s := 0) (j := 3) rfl rfl fun hl0_3 => ?_
  try rw [List.length_map] at hl0_3
  refine sw_slen (s := 1) (j := 2) rfl rfl fun hl1_2 => ?_
  try rw [List.length_map] at hl1_2
  refine sw_slen (s := 1) (j := 3) rfl rfl fun hl1_3 => ?_
  try rw [List.length_map] at hl1_3
  refine sw_seq ?_
  refine sw_reg ?_
  refine RunS.step (by exact And.intro rfl True.intro) (by exact True.intro) (LocG.of rfl (loc_box (ag := true) (cs := [PV.val _, PV.val _, PV.sl _ _, PV.sl _ _]) (by decide) (by exact True.intro))) (free1 (Free.of_ rfl)) ?_
  refine RunS.step (by exact And.intro rfl True.intro) (by exact True.intro) (LocG.of rfl (loc_box (ag := true) (cs := [PV.val _, PV.val _, PV.sl _ _, PV.sl _ _]) (by decide) (by exact True.intro))) (free1 (Free.app (Free.of_ rfl) rfl)) ?_
  refine RunS.step (by exact True.intro) (by exact True.intro) (LocG.of rfl (loc_const (.inr rfl) (by decide) (ok_sc rfl))) nofree ?_
  refine sw_seq ?_
  refine sw_seq ?_
  refine sw_of (l := [(2, RV.ptr 2 0), (3, RV.ptr 3 0), (4, RV.sv false [PV.val _])]) (b := [(2, (56, [PV.val _, PV.val _, PV.sl _ _, PV.sl _ _])), (3, (56, [PV.val _, PV.val _, PV.sl _ _, PV.sl _ _]))]) (by exact And.intro rfl (And.intro rfl (And.intro rfl True.intro))) (by exact And.intro rfl (And.intro rfl True.intro)) ?_
  refine sw_reg ?_
  refine RunS.step (by exact And.intro rfl True.intro) (by exact True.intro) (LocG.of rfl (loc_field (by decide) fd_56_0)) nofree ?_
  refine RunS.step (by exact And.intro rfl True.intro) (by exact And.intro rfl True.intro) (LocG.of rfl (loc_load (qs := [PV.val _]) (by decide) ty_3 (fun _ => rfl) (by exact Nat.le_of_ble_eq_true rfl) (by exact (ToL.cons (PV.To.refl _) ToL.nil)) (by exact (BorL.cons (PV.bor_val _) BorL.nil)))) nofree ?_
  refine RunS.step (by exact And.intro rfl True.intro) (by exact True.intro) (LocG.of rfl (loc_field (by decide) fd_56_0)) nofree ?_
  refine RunS.step (by exact And.intro rfl True.intro) (by exact And.intro rfl True.intro) (LocG.of rfl (loc_load (qs := [PV.val _]) (by decide) ty_3 (fun _ => rfl) (by exact Nat.le_of_ble_eq_true rfl) (by exact (ToL.cons (PV.To.refl _) ToL.nil)) (by exact (BorL.cons (PV.bor_val _) BorL.nil)))) nofree ?_
  refine RunS.step (by exact And.intro rfl (And.intro rfl True.intro)) (by exact True.intro) (LocG.of rfl (loc_neq (by decide) (by exact True.intro) (by exact True.intro))) nofree ?_
  refine sw_cond (t := 9) rfl (fun hb1 => ?_) (fun hb1 => ?_)
  · try simp only [decide_eq_true_eq, decide_eq_false_iff_not, bne_iff_ne, beq_iff_eq, Bool.not_eq_true', Bool.not_eq_false', ne_eq, bne_eq_false_iff_eq, beq_eq_false_iff_ne] at hb1
    refine sw_seq ?_
    refine sw_of (l := [(2, RV.ptr 2 0), (3, RV.ptr 3 0), (4, RV.sv false [PV.val _])]) (b := [(2, (56, [PV.val _, PV.val _, PV.sl _ _, PV.sl _ _])), (3, (56, [PV.val _, PV.val _, PV.sl _ _, PV.sl _ _]))]) (by exact And.intro rfl (And.intro rfl (And.intro rfl True.intro))) (by exact And.intro rfl (And.intro rfl True.intro)) ?_
    refine sw_reg ?_
    refine RunS.step (by exact True.intro) (by exact True.intro) (LocG.of rfl (loc_const (.inr rfl) (by decide) (ok_sc rfl))) nofree ?_
    refine sw_ret ?_
    exact (And.intro (by refine bool_eq ?_; exact (deq_false (fun e => by subst e; simp_all [deq_self])).symm) True.intro)
  · try simp only [decide_eq_true_eq, decide_eq_false_iff_not, bne_iff_ne, beq_iff_eq, Bool.not_eq_true', Bool.not_eq_false', ne_eq, bne_eq_false_iff_eq, beq_eq_false_iff_ne] at hb1
    refine sw_skip ?_
    refine sw_seq ?_
    refine sw_seq ?_
    refine sw_of (l := [(2, RV.ptr 2 0), (3, RV.ptr 3 0), (4, RV.sv false [PV.val _])]) (b := [(2, (56, [PV.val _, PV.val _, PV.sl _ _, PV.sl _ _])), (3, (56, [PV.val _, PV.val _, PV.sl _ _, PV.sl _ _]))]) (by exact And.intro rfl (And.intro rfl (And.intro rfl True.intro))) (by exact And.intro rfl (And.intro rfl True.intro)) ?_
    refine sw_reg ?_
    refine RunS.step (by exact And.intro rfl True.intro) (by exact True.intro) (LocG.of rfl (loc_field (by decide) fd_56_1)) nofree ?_
    refine RunS.step (by exact And.intro rfl True.intro) (by exact And.intro rfl True.intro) (LocG.of rfl (loc_load (qs := [PV.val _]) (by decide) ty_3 (fun _ => rfl) (by exact Nat.le_of_ble_eq_true rfl) (by exact (ToL.cons (PV.To.refl _) ToL.nil)) (by exact (BorL.cons (PV.bor_val _) BorL.nil)))) nofree ?_
    refine RunS.step (by exact And.intro rfl True.intro) (by exact True.intro) (LocG.of rfl (loc_field (by decide) fd_56_1)) nofree ?_
    refine RunS.step (by exact And.intro rfl True.intro) (by exact And.intro rfl True.intro) (LocG.of rfl (loc_load (qs := [PV.val _]) (by decide) ty_3 (fun _ => rfl) (by exact Nat.le_of_ble_eq_true rfl) (by exact (ToL.cons (PV.To.refl _) ToL.nil)) (by exact (BorL.cons (PV.bor_val _) BorL.nil)))) nofree ?_
    refine RunS.step (by exact And.intro rfl (And.intro rfl True.intro)) (by exact True.intro) (LocG.of rfl (loc_neq (by decide) (by exact True.intro) (by exact True.intro))) nofree ?_
    refine sw_cond (t := 14) rfl (fun hb2 => ?_) (fun hb2 => ?_)
    · try simp only [decide_eq_true_eq, decide_eq_false_iff_not, bne_iff_ne, beq_iff_eq, Bool.not_eq_true', Bool.not_eq_false', ne_eq, bne_eq_false_iff_eq, beq_eq_false_iff_ne] at hb2
      refine sw_seq ?_
      refine sw_of (l := [(2, RV.ptr 2 0), (3, RV.ptr 3 0), (4, RV.sv false [PV.val _])]) (b := [(2, (56, [PV.val _, PV.val _, PV.sl _ _, PV.sl _ _])), (3, (56, [PV.val _, PV.val _, PV.sl _ _, PV.sl _ _]))]) (by exact And.intro rfl (And.intro rfl (And.intro rfl True.intro))) (by exact And.intro rfl (And.intro rfl True.intro)) ?_
      refine sw_reg ?_
      refine RunS.step (by exact True.intro) (by exact True.intro) (LocG.of rfl (loc_const (.inr rfl) (by decide) (ok_sc rfl))) nofree ?_
      refine sw_ret ?_
      exact (And.intro (by refine bool_eq ?_; exact (deq_false (fun e => by subst e; simp_all [deq_self])).symm) True.intro)
    · try simp only [decide_eq_true_eq, decide_eq_false_iff_not, bne_iff_ne, beq_iff_eq, Bool.not_eq_true', Bool.not_eq_false', ne_eq, bne_eq_false_iff_eq, beq_eq_false_iff_ne] at hb2
      refine sw_skip ?_
      refine sw_seq ?_
      refine sw_seq ?_
      refine sw_of (l := [(2, RV.ptr 2 0), (3, RV.ptr 3 0), (4, RV.sv false [PV.val _])]) (b := [(2, (56, [PV.val _, PV.val _, PV.sl _ _, PV.sl _ _])), (3, (56, [PV.val _, PV.val _, PV.sl _ _, PV.sl _ _]))]) (by exact And.intro rfl (And.intro rfl (And.intro rfl True.intro))) (by exact And.intro rfl (And.intro rfl True.intro)) ?_
      refine sw_reg ?_
      refine RunS.step (by exact And.intro rfl True.intro) (by exact True.intro) (LocG.of rfl (loc_field (by decide) fd_56_2)) nofree ?_
      refine RunS.step (by exact And.intro rfl True.intro) (by exact And.intro rfl True.intro) (LocG.of rfl (loc_load (qs := [PV.sl .v _]) (by decide) ty_54 (fun _ => rfl) (by exact Nat.le_of_ble_eq_true rfl) (by exact (ToL.cons PV.to_none ToL.nil)) (by exact (BorL.cons (PV.bor_sl _) BorL.nil)))) nofree ?_
      refine RunS.step (by exact And.intro rfl True.intro) (by exact True.intro) (LocG.of rfl (loc_field (by decide) fd_56_2)) nofree ?_
      refine RunS.step (by exact And.intro rfl True.intro) (by exact And.intro rfl True.intro) (LocG.of rfl (loc_load (qs := [PV.sl .v _]) (by decide) ty_54 (fun _ => rfl) (by exact Nat.le_of_ble_eq_true rfl) (by exact (ToL.cons PV.to_none ToL.nil)) (by exact (BorL.cons (PV.bor_sl _) BorL.nil)))) nofree ?_
      refine RunS.step (by exact And.intro rfl (And.intro rfl True.intro)) (by exact True.intro) (LocG.of rfl (loc_call (qs := [(false, [PV.sl _ _]), (false, [PV.sl _ _])]) (as_ := [(false, [PV.sl .v _]), (false, [PV.sl .v _])]) (by decide) c_139 (by exact (And.intro (by exact True.intro) (And.intro (by exact True.intro) True.intro))) (by exact (And.intro (And.intro rfl (ToL.cons PV.to_none ToL.nil)) (And.intro (And.intro rfl (ToL.cons PV.to_none ToL.nil)) True.intro))) (by exact eq_CondS))) nofree ?_
      refine RunS.step (by exact And.intro rfl True.intro) (by exact True.intro) (LocG.of rfl (loc_not (by decide))) nofree ?_
      refine sw_cond (t := 20) rfl (fun hb3 => ?_) (fun hb3 => ?_)
      · try simp only [decide_eq_true_eq, decide_eq_false_iff_not, bne_iff_ne, beq_iff_eq, Bool.not_eq_true', Bool.not_eq_false', ne_eq, bne_eq_false_iff_eq, beq_eq_false_iff_ne] at hb3
        refine sw_seq ?_
        refine sw_of (l := [(2, RV.ptr 2 0), (3, RV.ptr 3 0), (4, RV.sv false [PV.val _])]) (b := [(2, (56, [PV.val _, PV.val _, PV.sl _ _, PV.sl _ _])), (3, (56, [PV.val _, PV.val _, PV.sl _ _, PV.sl _ _]))]) (by exact And.intro rfl (And.intro rfl (And.intro rfl True.intro))) (by exact And.intro rfl (And.intro rfl True.intro)) ?_
        refine sw_reg ?_
        refine RunS.step (by exact True.intro) (by exact True.intro) (LocG.of rfl (loc_const (.inr rfl) (by decide) (ok_sc rfl))) nofree ?_
        refine sw_ret ?_
        exact (And.intro (by refine bool_eq ?_; exact (deq_false (fun e => by subst e; simp_all [deq_self])).symm) True.intro)
      · try simp only [decide_eq_true_eq, decide_eq_false_iff_not, bne_iff_ne, beq_iff_eq, Bool.not_eq_true', Bool.not_eq_false', ne_eq, bne_eq_false_iff_eq, beq_eq_false_iff_ne] at hb3
        refine sw_skip ?_
        refine sw_seq ?_
        refine sw_seq ?_
        refine sw_of (l := [(2, RV.ptr 2 0), (3, RV.ptr 3 0), (4, RV.sv false [PV.val _])]) (b := [(2, (56, [PV.val _, PV.val _, PV.sl _ _, PV.sl _ _])), (3, (56, [PV.val _, PV.val _, PV.sl _ _, PV.sl _ _]))]) (by exact And.intro rfl (And.intro rfl (And.intro rfl True.intro))) (by exact And.intro rfl (And.intro rfl True.intro)) ?_
        refine sw_reg ?_
        refine RunS.step (by exact And.intro rfl True.intro) (by exact True.intro) (LocG.of rfl (loc_field (by decide) fd_56_3)) nofree ?_
        refine RunS.step (by exact And.intro rfl True.intro) (by exact And.intro rfl True.intro) (LocG.of rfl (loc_load (qs := [PV.sl .v _]) (by decide) ty_23 (fun _ => rfl) (by exact Nat.le_of_ble_eq_true rfl) (by exact (ToL.cons PV.to_none ToL.nil)) (by exact (BorL.cons (PV.bor_sl _) BorL.nil)))) nofree ?_
        refine RunS.step (by exact And.intro rfl True.intro) (by exact True.intro) (LocG.of rfl (loc_field (by decide) fd_56_3)) nofree ?_
        refine RunS.step (by exact And.intro rfl True.intro) (by exact And.intro rfl True.intro) (LocG.of rfl (loc_load (qs := [PV.sl .v _]) (by decide) ty_23 (fun _ => rfl) (by exact Nat.le_of_ble_eq_true rfl) (by exact (ToL.cons PV.to_none ToL.nil)) (by exact (BorL.cons (PV.bor_sl _) BorL.nil)))) nofree ?_
        refine RunS.step (by exact And.intro rfl (And.intro rfl True.intro)) (by exact True.intro) (LocG.of rfl (loc_call (qs := [(false, [PV.sl _ _]), (false, [PV.sl _ _])]) (as_ := [(false, [PV.sl .v _]), (false, [PV.sl .v _])]) (by decide) c_20 (by exact (And.intro (by exact True.intro) (And.intro (by exact True.intro) True.intro))) (by exact (And.intro (And.intro rfl (ToL.cons PV.to_none ToL.nil)) (And.intro (And.intro rfl (ToL.cons PV.to_none ToL.nil)) True.intro))) (by exact eq_IntS))) nofree ?_
        refine RunS.step (by exact And.intro rfl True.intro) (by exact True.intro) (LocG.of rfl (loc_not (by decide))) nofree ?_
        refine sw_cond (t := 26) rfl (fun hb4 => ?_) (fun hb4 => ?_)
        · try simp only [decide_eq_true_eq, decide_eq_false_iff_not, bne_iff_ne, beq_iff_eq, Bool.not_eq_true', Bool.not_eq_false', ne_eq, bne_eq_false_iff_eq, beq_eq_false_iff_ne] at hb4
          refine sw_seq ?_
          refine sw_of (l := [(2, RV.ptr 2 0), (3, RV.ptr 3 0), (4, RV.sv false [PV.val _])]) (b := [(2, (56, [PV.val _, PV.val _, PV.sl _ _, PV.sl _ _])), (3, (56, [PV.val _, PV.val _, PV.sl _ _, PV.sl _ _]))]) (by exact And.intro rfl (And.intro rfl (And.intro rfl True.intro))) (by exact And.intro rfl (And.intro rfl True.intro)) ?_
          refine sw_reg ?_
          refine RunS.step (by exact True.intro) (by exact True.intro) (LocG.of rfl (loc_const (.inr rfl) (by decide) (ok_sc rfl))) nofree ?_
          refine sw_ret ?_
          exact (And.intro (by refine bool_eq ?_; exact (deq_false (fun e => by subst e; simp_all [deq_self])).symm) True.intro)
        · try simp only [decide_eq_true_eq, decide_eq_false_iff_not, bne_iff_ne, beq_iff_eq, Bool.not_eq_true', Bool.not_eq_false', ne_eq, bne_eq_false_iff_eq, beq_eq_false_iff_ne] at hb4
          refine sw_skip ?_
          refine sw_seq ?_
          refine sw_of (l := [(2, RV.ptr 2 0), (3, RV.ptr 3 0), (4, RV.sv false [PV.val _])]) (b := [(2, (56, [PV.val _, PV.val _, PV.sl _ _, PV.sl _ _])), (3, (56, [PV.val _, PV.val _, PV.sl _ _, PV.sl _ _]))]) (by exact And.intro rfl (And.intro rfl (And.intro rfl True.intro))) (by exact And.intro rfl (And.intro rfl True.intro)) ?_
          refine sw_reg ?_
          refine RunS.step (by exact True.intro) (by exact True.intro) (LocG.of rfl (loc_const (.inr rfl) (by decide) (ok_sc rfl))) nofree ?_
          refine sw_ret ?_
          exact (And.intro (by refine bool_eq ?_; exact (deq_true (by apply ext_Query <;> simp_all [deq_iff])).symm) True.intro)
theorem eq_Update {x : Update} {y : Update}  : SCall Try.prog 96 [(true, [PV.val (vI x.Kind), PV.val (vI x.Row.Id), PV.sl .v (x.Row.Values.map cInt), PV.val (vI x.Field), PV.val (vI x.Value)]), (true, [PV.val (vI y.Kind), PV.val (vI y.Row.Id), PV.sl .v (y.Row.Values.map cInt), PV.val (vI y.Field), PV.val (vI y.Value)])] (resRV [(false, [PV.val (.bool (deq x y))])]) := by
  refine scall_of (rs := [(false, [PV.val (.bool (deq x y))])]) Try.func96 rfl (Nat.le_of_ble_eq_true rfl) (borA_cons (BorL.cons (PV.bor_val _) (BorL.cons (PV.bor_val _) (BorL.cons (PV.bor_sl _) (BorL.cons (PV.bor_val _) (BorL.cons (PV.bor_val _) BorL.nil))))) (borA_cons (BorL.cons (PV.bor_val _) (BorL.cons (PV.bor_val _) (BorL.cons (PV.bor_sl _) (BorL.cons (PV.bor_val _) (BorL.cons (PV.bor_val _) BorL.nil))))) borA_nil)) ?_
  intro h0 w0 Fz0
  refine sw_slen (s := 0) (j := 2) rfl rfl fun hl0_2 => ?_
  try rw [List.length_map] at hl0_2
  refine sw_slen (s := 1) (j := 2) rfl rfl fun hl1_2 => ?_
  try rw [List.length_map] at hl1_2
  refine sw_seq ?_
  refine sw_reg ?_
  refine RunS.step (by exact And.intro rfl True.intro) (by exact True.intro) (LocG.of rfl (loc_box (ag := true) (cs := [PV.val _, PV.val _, PV.sl _ _, PV.val _, PV.val _]) (by decide) (by exact True.intro))) (free1 (Free.of_ rfl)) ?_
  refine RunS.step (by exact And.intro rfl True.intro) (by exact True.intro) (LocG.of rfl (loc_box (ag := true) (cs := [PV.val _, PV.val _, PV.sl _ _, PV.val _, PV.val _]) (by decide) (by exact True.intro))) (free1 (Free.app (Free.of_ rfl) rfl)) ?_
  refine RunS.step (by exact True.intro) (by exact True.intro) (LocG.of rfl (loc_const (.inr rfl) (by decide) (ok_sc rfl))) nofree ?_
  refine sw_seq ?_
  refine sw_seq ?_
  refine sw_of (l := [(2, RV.ptr 2 0), (3, RV.ptr 3 0), (4, RV.sv false [PV.val _])]) (b := [(2, (59, [PV.val _, PV.val _, PV.sl _ _, PV.val _, PV.val _])), (3, (59, [PV.val _, PV.val _, PV.sl _ _, PV.val _, PV.val _]))]) (by exact And.intro rfl (And.intro rfl (And.intro rfl True.intro))) (by exact And.intro rfl (And.intro rfl True.intro)) ?_
  refine sw_reg ?_
  refine RunS.step (by exact And.intro rfl True.intro) (by exact True.intro) (LocG.of rfl (loc_field (by decide) fd_59_0)) nofree ?_
  refine RunS.step (by exact And.intro rfl True.intro) (by exact And.intro rfl True.intro) (LocG.of rfl (loc_load (qs := [PV.val _]) (by decide) ty_3 (fun _ => rfl) (by exact Nat.le_of_ble_eq_true rfl) (by exact (ToL.cons (PV.To.refl _) ToL.nil)) (by exact (BorL.cons (PV.bor_val _) BorL.nil)))) nofree ?_
  refine RunS.step (by exact And.intro rfl True.intro) (by exact True.intro) (LocG.of rfl (loc_field (by decide) fd_59_0)) nofree ?_
  refine RunS.step (by exact And.intro rfl True.intro) (by exact And.intro rfl True.intro) (LocG.of rfl (loc_load (qs := [PV.val _]) (by decide) ty_3 (fun _ => rfl) (by exact Nat.le_of_ble_eq_true rfl) (by exact (ToL.cons (PV.To.refl _) ToL.nil)) (by exact (BorL.cons (PV.bor_val _) BorL.nil)))) nofree ?_
  refine RunS.step (by exact And.intro rfl (And.intro rfl True.intro)) (by exact True.intro) (LocG.of rfl (loc_neq (by decide) (by exact True.intro) (by exact True.intro))) nofree ?_
  refine sw_cond (t := 9) rfl (fun hb1 => ?_) (fun hb1 => ?_)
  · try simp only [decide_eq_true_eq, decide_eq_false_iff_not, bne_iff_ne, beq_iff_eq, Bool.not_eq_true', Bool.not_eq_false', ne_eq, bne_eq_false_iff_eq, beq_eq_false_iff_ne] at hb1
    refine sw_seq ?_
    refine sw_of (l := [(2, RV.ptr 2 0), (3, RV.ptr 3 0), (4, RV.sv false [PV.val _])]) (b := [(2, (59, [PV.val _, PV.val _, PV.sl _ _, PV.val _, PV.val _])), (3, (59, [PV.val _, PV.val _, PV.sl _ _, PV.val _, PV.val _]))]) (by exact And.intro rfl (And.intro rfl (And.intro rfl True.intro))) (by exact And.intro rfl (And.intro rfl True.intro)) ?_
    refine sw_reg ?_
    refine RunS.step (by exact True.intro) (by exact True.intro) (LocG.of rfl (loc_const (.inr rfl) (by decide) (ok_sc rfl))) nofree ?_
    refine sw_ret ?_
    exact (And.intro (by refine bool_eq ?_; exact (deq_false (fun e => by subst e; simp_all [deq_self])).symm) True.intro)
  · try simp only [decide_eq_true_eq, decide_eq_false_iff_not, bne_iff_ne, beq_iff_eq, Bool.not_eq_true', Bool.not_eq_false', ne_eq, bne_eq_false_iff_eq, beq_eq_false_iff_ne] at hb1
    refine sw_skip ?_
    refine sw_seq ?_
    refine sw_seq ?_
    refine sw_of (l := [(2, RV.ptr 2 0), (3, RV.ptr 3 0), (4, RV.sv false [PV.val _])]) (b := [(2, (59, [PV.val _, PV.val _, PV.sl _ _, PV.val _, PV.val _])), (3, (59, [PV.val _, PV.val _, PV.sl _ _, PV.val _, PV.val _]))]) (by exact And.intro rfl (And.intro rfl (And.intro rfl True.intro))) (by exact And.intro rfl (And.intro rfl True.intro)) ?_
    refine sw_reg ?_
    refine RunS.step (by exact And.intro rfl True.intro) (by exact True.intro) (LocG.of rfl (loc_field (by decide) fd_59_1)) nofree ?_
    refine RunS.step (by exact And.intro rfl True.intro) (by exact And.intro rfl True.intro) (LocG.of rfl (loc_load (qs := [PV.val _, PV.sl .v _]) (by decide) ty_57 (fun h => nomatch h) (by exact Nat.le_of_ble_eq_true rfl) (by exact (ToL.cons (PV.To.refl _) (ToL.cons PV.to_none ToL.nil))) (by exact (BorL.cons (PV.bor_val _) (BorL.cons (PV.bor_sl _) BorL.nil))))) nofree ?_
    refine RunS.step (by exact And.intro rfl True.intro) (by exact True.intro) (LocG.of rfl (loc_field (by decide) fd_59_1)) nofree ?_
    refine RunS.step (by exact And.intro rfl True.intro) (by exact And.intro rfl True.intro) (LocG.of rfl (loc_load (qs := [PV.val _, PV.sl .v _]) (by decide) ty_57 (fun h => nomatch h) (by exact Nat.le_of_ble_eq_true rfl) (by exact (ToL.cons (PV.To.refl _) (ToL.cons PV.to_none ToL.nil))) (by exact (BorL.cons (PV.bor_val _) (BorL.cons (PV.bor_sl _) BorL.nil))))) nofree ?_
    refine RunS.step (by exact And.intro rfl (And.intro rfl True.intro)) (by exact True.intro) (LocG.of rfl (loc_call (qs := [(true, [PV.val _, PV.sl _ _]), (true, [PV.val _, PV.sl _ _])]) (as_ := [(true, [PV.val _, PV.sl .v _]), (true, [PV.val _, PV.sl .v _])]) (by decide) c_83 (by exact (And.intro (by exact True.intro) (And.intro (by exact True.intro) True.intro))) (by exact (And.intro (And.intro rfl (ToL.cons (PV.To.refl _) (ToL.cons PV.to_none ToL.nil))) (And.intro (And.intro rfl (ToL.cons (PV.To.refl _) (ToL.cons PV.to_none ToL.nil))) True.intro))) (by exact eq_Row))) nofree ?_
    refine RunS.step (by exact And.intro rfl True.intro) (by exact True.intro) (LocG.of rfl (loc_not (by decide))) nofree ?_
    refine sw_cond (t := 15) rfl (fun hb2 => ?_) (fun hb2 => ?_)
    · try simp only [decide_eq_true_eq, decide_eq_false_iff_not, bne_iff_ne, beq_iff_eq, Bool.not_eq_true', Bool.not_eq_false', ne_eq, bne_eq_false_iff_eq, beq_eq_false_iff_ne] at hb2
      refine sw_seq ?_
      refine sw_of (l := [(2, RV.ptr 2 0), (3, RV.ptr 3 0), (4, RV.sv false [PV.val _])]) (b := [(2, (59, [PV.val _, PV.val _, PV.sl _ _, PV.val _, PV.val _])), (3, (59, [PV.val _, PV.val _, PV.sl _ _, PV.val _, PV.val _]))]) (by exact And.intro rfl (And.intro rfl (And.intro rfl True.intro))) (by exact And.intro rfl (And.intro rfl True.intro)) ?_
      refine sw_reg ?_
      refine RunS.step (by exact True.intro) (by exact True.intro) (LocG.of rfl (loc_const (.inr rfl) (by decide) (ok_sc rfl))) nofree ?_
      refine sw_ret ?_
      exact (And.intro (by refine bool_eq ?_; exact (deq_false (fun e => by subst e; simp_all [deq_self])).symm) True.intro)
    · try simp only [decide_eq_true_eq, decide_eq_false_iff_not, bne_iff_ne, beq_iff_eq, Bool.not_eq_true', Bool.not_eq_false', ne_eq, bne_eq_false_iff_eq, beq_eq_false_iff_ne] at hb2
      refine sw_skip ?_
      refine sw_seq ?_
      refine sw_seq ?_
      refine sw_of (l := [(2, RV.ptr 2 0), (3, RV.ptr 3 0), (4, RV.sv false [PV.val _])]) (b := [(2, (59, [PV.val _, PV.val _, PV.sl _ _, PV.val _, PV.val _])), (3, (59, [PV.val _, PV.val _, PV.sl _ _, PV.val _, PV.val _]))]) (by exact And.intro rfl (And.intro rfl (And.intro rfl True.intro))) (by exact And.intro rfl (And.intro rfl True.intro)) ?_
      refine sw_reg ?_
      refine RunS.step (by exact And.intro rfl True.intro) (by exact True.intro) (LocG.of rfl (loc_field (by decide) fd_59_2)) nofree ?_
      refine RunS.step (by exact And.intro rfl True.intro) (by exact And.intro rfl True.intro) (LocG.of rfl (loc_load (qs := [PV.val _]) (by decide) ty_3 (fun _ => rfl) (by exact Nat.le_of_ble_eq_true rfl) (by exact (ToL.cons (PV.To.refl _) ToL.nil)) (by exact (BorL.cons (PV.bor_val _) BorL.nil)))) nofree ?_
      refine RunS.step (by exact And.intro rfl True.intro) (by exact True.intro) (LocG.of rfl (loc_field (by decide) fd_59_2)) nofree ?_
      refine RunS.step (by exact And.intro rfl True.intro) (by exact And.intro rfl True.intro) (LocG.of rfl (loc_load (qs := [PV.val _]) (by decide) ty_3 (fun _ => rfl) (by exact Nat.le_of_ble_eq_true rfl) (by exact (ToL.cons (PV.To.refl _) ToL.nil)) (by exact (BorL.cons (PV.bor_val _) BorL.nil)))) nofree ?_
      refine RunS.step (by exact And.intro rfl (And.intro rfl True.intro)) (by exact True.intro) (LocG.of rfl (loc_neq (by decide) (by exact True.intro) (by exact True.intro))) nofree ?_
      refine sw_cond (t := 20) rfl (fun hb3 => ?_) (fun hb3 => ?_)
      · try simp only [decide_eq_true_eq, decide_eq_false_iff_not, bne_iff_ne, beq_iff_eq, Bool.not_eq_true', Bool.not_eq_false', ne_eq, bne_eq_false_iff_eq, beq_eq_false_iff_ne] at hb3
        refine sw_seq ?_
        refine sw_of (l := [(2, RV.ptr 2 0), (3, RV.ptr 3 0), (4, RV.sv false [PV.val _])]) (b := [(2, (59, [PV.val _, PV.val _, PV.sl _ _, PV.val _, PV.val _])), (3, (59, [PV.val _, PV.val _, PV.sl _ _, PV.val _, PV.val _]))]) (by exact And.intro rfl (And.intro rfl (And.intro rfl True.intro))) (by exact And.intro rfl (And.intro rfl True.intro)) ?_
        refine sw_reg ?_
        refine RunS.step (by exact True.intro) (by exact True.intro) (LocG.of rfl (loc_const (.inr rfl) (by decide) (ok_sc rfl))) nofree ?_
        refine sw_ret ?_
        exact (And.intro (by refine bool_eq ?_; exact (deq_false (fun e => by subst e; simp_all [deq_self])).symm) True.intro)
      · try simp only [decide_eq_true_eq, decide_eq_false_iff_not, bne_iff_ne, beq_iff_eq, Bool.not_eq_true', Bool.not_eq_false', ne_eq, bne_eq_false_iff_eq, beq_eq_false_iff_ne] at hb3
        refine sw_skip ?_
        refine sw_seq ?_
        refine sw_seq ?_
        refine sw_of (l := [(2, RV.ptr 2 0), (3, RV.ptr 3 0), (4, RV.sv false [PV.val _])]) (b := [(2, (59, [PV.val _, PV.val _, PV.sl _ _, PV.val _, PV.val _])), (3, (59, [PV.val _, PV.val _, PV.sl _ _, PV.val _, PV.val _]))]) (by exact And.intro rfl (And.intro rfl (And.intro rfl True.intro))) (by exact And.intro rfl (And.intro rfl True.intro)) ?_
        refine sw_reg ?_
        refine RunS.step (by exact And.intro rfl True.intro) (by exact True.intro) (LocG.of rfl (loc_field (by decide) fd_59_3)) nofree ?_
        refine RunS.step (by exact And.intro rfl True.intro) (by exact And.intro rfl True.intro) (LocG.of rfl (loc_load (qs := [PV.val _]) (by decide) ty_3 (fun _ => rfl) (by exact Nat.le_of_ble_eq_true rfl) (by exact (ToL.cons (PV.To.refl _) ToL.nil)) (by exact (BorL.cons (PV.bor_val _) BorL.nil)))) nofree ?_
        refine RunS.step (by exact And.intro rfl True.intro) (by exact True.intro) (LocG.of rfl (loc_field (by decide) fd_59_3)) nofree ?_
        refine RunS.step (by exact And.intro rfl True.intro) (by exact And.intro rfl True.intro) (LocG.of rfl (loc_load (qs := [PV.val _]) (by decide) ty_3 (fun _ => rfl) (by exact Nat.le_of_ble_eq_true rfl) (by exact (ToL.cons (PV.To.refl _) ToL.nil)) (by exact (BorL.cons (PV.bor_val _) BorL.nil)))) nofree ?_
        refine RunS.step (by exact And.intro rfl (And.intro rfl True.intro)) (by exact True.intro) (LocG.of rfl (loc_neq (by decide) (by exact True.intro) (by exact True.intro))) nofree ?_
        refine sw_cond (t := 25) rfl (fun hb4 => ?_) (fun hb4 => ?_)
        · try simp only [decide_eq_true_eq, decide_eq_false_iff_not, bne_iff_ne, beq_iff_eq, Bool.not_eq_true', Bool.not_eq_false', ne_eq, bne_eq_false_iff_eq, beq_eq_false_iff_ne] at hb4
          refine sw_seq ?_
          refine sw_of (l := [(2, RV.ptr 2 0), (3, RV.ptr 3 0), (4, RV.sv false [PV.val _])]) (b := [(2, (59, [PV.val _, PV.val _, PV.sl _ _, PV.val _, PV.val _])), (3, (59, [PV.val _, PV.val _, PV.sl _ _, PV.val _, PV.val _]))]) (by exact And.intro rfl (And.intro rfl (And.intro rfl True.intro))) (by exact And.intro rfl (And.intro rfl True.intro)) ?_
          refine sw_reg ?_
          refine RunS.step (by exact True.intro) (by exact True.intro) (LocG.of rfl (loc_const (.inr rfl) (by decide) (ok_sc rfl))) nofree ?_
          refine sw_ret ?_
          exact (And.intro (by refine bool_eq ?_; exact (deq_false (fun e => by subst e; simp_all [deq_self])).symm) True.intro)
        · try simp only [decide_eq_true_eq, decide_eq_false_iff_not, bne_iff_ne, beq_iff_eq, Bool.not_eq_true', Bool.not_eq_false', ne_eq, bne_eq_false_iff_eq, beq_eq_false_iff_ne] at hb4
          refine sw_skip ?_
          refine sw_seq ?_
          refine sw_of (l := [(2, RV.ptr 2 0), (3, RV.ptr 3 0), (4, RV.sv false [PV.val _])]) (b := [(2, (59, [PV.val _, PV.val _, PV.sl _ _, PV.val _, PV.val _])), (3, (59, [PV.val _, PV.val _, PV.sl _ _, PV.val _, PV.val _]))]) (by exact And.intro rfl (And.intro rfl (And.intro rfl True.intro))) (by exact And.intro rfl (And.intro rfl True.intro)) ?_
          refine sw_reg ?_
          refine RunS.step (by exact True.intro) (by exact True.intro) (LocG.of rfl (loc_const (.inr rfl) (by decide) (ok_sc rfl))) nofree ?_
          refine sw_ret ?_
          exact (And.intro (by refine bool_eq ?_; exact (deq_true (by apply ext_Update <;> simp_all [deq_iff])).symm) True.intro)
theorem eq_Event {x : Event} {y : Event}  : SCall Try.prog 31 [(true, [PV.val (vI x.Kind), PV.val (vI x.Query.Id), PV.val (vI x.Query.Tenant), PV.sl .v (x.Query.Conds.map cCond), PV.sl .v (x.Query.Out.map cInt), PV.val (vI x.Limit), PV.val (vI x.Id), PV.val (vI x.Update.Kind), PV.val (vI x.Update.Row.Id), PV.sl .v (x.Update.Row.Values.map cInt), PV.val (vI x.Update.Field), PV.val (vI x.Update.Value), PV.val (vI x.Steps)]), (true, [PV.val (vI y.Kind), PV.val (vI y.Query.Id), PV.val (vI y.Query.Tenant), PV.sl .v (y.Query.Conds.map cCond), PV.sl .v (y.Query.Out.map cInt), PV.val (vI y.Limit), PV.val (vI y.Id), PV.val (vI y.Update.Kind), PV.val (vI y.Update.Row.Id), PV.sl .v (y.Update.Row.Values.map cInt), PV.val (vI y.Update.Field), PV.val (vI y.Update.Value), PV.val (vI y.Steps)])] (resRV [(false, [PV.val (.bool (deq x y))])]) := by
  refine scall_of (rs := [(false, [PV.val (.bool (deq x y))])]) Try.func31 rfl (Nat.le_of_ble_eq_true rfl) (borA_cons (BorL.cons (PV.bor_val _) (BorL.cons (PV.bor_val _) (BorL.cons (PV.bor_val _) (BorL.cons (PV.bor_sl _) (BorL.cons (PV.bor_sl _) (BorL.cons (PV.bor_val _) (BorL.cons (PV.bor_val _) (BorL.cons (PV.bor_val _) (BorL.cons (PV.bor_val _) (BorL.cons (PV.bor_sl _) (BorL.cons (PV.bor_val _) (BorL.cons (PV.bor_val _) (BorL.cons (PV.bor_val _) BorL.nil))))))))))))) (borA_cons (BorL.cons (PV.bor_val _) (BorL.cons (PV.bor_val _) (BorL.cons (PV.bor_val _) (BorL.cons (PV.bor_sl _) (BorL.cons (PV.bor_sl _) (BorL.cons (PV.bor_val _) (BorL.cons (PV.bor_val _) (BorL.cons (PV.bor_val _) (BorL.cons (PV.bor_val _) (BorL.cons (PV.bor_sl _) (BorL.cons (PV.bor_val _) (BorL.cons (PV.bor_val _) (BorL.cons (PV.bor_val _) BorL.nil))))))))))))) borA_nil)) ?_
  intro h0 w0 Fz0
  refine sw_slen (s := 0) (j := 3) rfl rfl fun hl0_3 => ?_
  try rw [List.length_map] at hl0_3
  refine sw_slen (s := 0) (j := 4) rfl rfl fun hl0_4 => ?_
  try rw [List.length_map] at hl0_4
  refine sw_slen (s := 0) (j := 9) rfl rfl fun hl0_9 => ?_
  try rw [List.length_map] at hl0_9
  refine sw_slen (s := 1) (j := 3) rfl rfl fun hl1_3 => ?_
  try rw [List.length_map] at hl1_3
  refine sw_slen (s := 1) (j := 4) rfl rfl fun hl1_4 => ?_
  try rw [List.length_map] at hl1_4
  refine sw_slen (s := 1) (j := 9) rfl rfl fun hl1_9 => ?_
  try rw [List.length_map] at hl1_9
  refine sw_seq ?_
  refine sw_reg ?_
  refine RunS.step (by exact And.intro rfl True.intro) (by exact True.intro) (LocG.of rfl (loc_box (ag := true) (cs := [PV.val _, PV.val _, PV.val _, PV.sl _ _, PV.sl _ _, PV.val _, PV.val _, PV.val _, PV.val _, PV.sl _ _, PV.val _, PV.val _, PV.val _]) (by decide) (by exact True.intro))) (free1 (Free.of_ rfl)) ?_
  refine RunS.step (by exact And.intro rfl True.intro) (by exact True.intro) (LocG.of rfl (loc_box (ag := true) (cs := [PV.val _, PV.val _, PV.val _, PV.sl _ _, PV.sl _ _, PV.val _, PV.val _, PV.val _, PV.val _, PV.sl _ _, PV.val _, PV.val _, PV.val _]) (by decide) (by exact True.intro))) (free1 (Free.app (Free.of_ rfl) rfl)) ?_
  refine RunS.step (by exact True.intro) (by exact True.intro) (LocG.of rfl (loc_const (.inr rfl) (by decide) (ok_sc rfl))) nofree ?_
  refine sw_seq ?_
  refine sw_seq ?_
  refine sw_of (l := [(2, RV.ptr 2 0), (3, RV.ptr 3 0), (4, RV.sv false [PV.val _])]) (b := [(2, (61, [PV.val _, PV.val _, PV.val _, PV.sl _ _, PV.sl _ _, PV.val _, PV.val _, PV.val _, PV.val _, PV.sl _ _, PV.val _, PV.val _, PV.val _])), (3, (61, [PV.val _, PV.val _, PV.val _, PV.sl _ _, PV.sl _ _, PV.val _, PV.val _, PV.val _, PV.val _, PV.sl _ _, PV.val _, PV.val _, PV.val _]))]) (by exact And.intro rfl (And.intro rfl (And.intro rfl True.intro))) (by exact And.intro rfl (And.intro rfl True.intro)) ?_
  refine sw_reg ?_
  refine RunS.step (by exact And.intro rfl True.intro) (by exact True.intro) (LocG.of rfl (loc_field (by decide) fd_61_0)) nofree ?_
  refine RunS.step (by exact And.intro rfl True.intro) (by exact And.intro rfl True.intro) (LocG.of rfl (loc_load (qs := [PV.val _]) (by decide) ty_3 (fun _ => rfl) (by exact Nat.le_of_ble_eq_true rfl) (by exact (ToL.cons (PV.To.refl _) ToL.nil)) (by exact (BorL.cons (PV.bor_val _) BorL.nil)))) nofree ?_
  refine RunS.step (by exact And.intro rfl True.intro) (by exact True.intro) (LocG.of rfl (loc_field (by decide) fd_61_0)) nofree ?_
  refine RunS.step (by exact And.intro rfl True.intro) (by exact And.intro rfl True.intro) (LocG.of rfl (loc_load (qs := [PV.val _]) (by decide) ty_3 (fun _ => rfl) (by exact Nat.le_of_ble_eq_true rfl) (by exact (ToL.cons (PV.To.refl _) ToL.nil)) (by exact (BorL.cons (PV.bor_val _) BorL.nil)))) nofree ?_
  refine RunS.step (by exact And.intro rfl (And.intro rfl True.intro)) (by exact True.intro) (LocG.of rfl (loc_neq (by decide) (by exact True.intro) (by exact True.intro))) nofree ?_
  refine sw_cond (t := 9) rfl (fun hb1 => ?_) (fun hb1 => ?_)
  · try simp only [decide_eq_true_eq, decide_eq_false_iff_not, bne_iff_ne, beq_iff_eq, Bool.not_eq_true', Bool.not_eq_false', ne_eq, bne_eq_false_iff_eq, beq_eq_false_iff_ne] at hb1
    refine sw_seq ?_
    refine sw_of (l := [(2, RV.ptr 2 0), (3, RV.ptr 3 0), (4, RV.sv false [PV.val _])]) (b := [(2, (61, [PV.val _, PV.val _, PV.val _, PV.sl _ _, PV.sl _ _, PV.val _, PV.val _, PV.val _, PV.val _, PV.sl _ _, PV.val _, PV.val _, PV.val _])), (3, (61, [PV.val _, PV.val _, PV.val _, PV.sl _ _, PV.sl _ _, PV.val _, PV.val _, PV.val _, PV.val _, PV.sl _ _, PV.val _, PV.val _, PV.val _]))]) (by exact And.intro rfl (And.intro rfl (And.intro rfl True.intro))) (by exact And.intro rfl (And.intro rfl True.intro)) ?_
    refine sw_reg ?_
    refine RunS.step (by exact True.intro) (by exact True.intro) (LocG.of rfl (loc_const (.inr rfl) (by decide) (ok_sc rfl))) nofree ?_
    refine sw_ret ?_
    exact (And.intro (by refine bool_eq ?_; exact (deq_false (fun e => by subst e; simp_all [deq_self])).symm) True.intro)
  · try simp only [decide_eq_true_eq, decide_eq_false_iff_not, bne_iff_ne, beq_iff_eq, Bool.not_eq_true', Bool.not_eq_false', ne_eq, bne_eq_false_iff_eq, beq_eq_false_iff_ne] at hb1
    refine sw_skip ?_
    refine sw_seq ?_
    refine sw_seq ?_
    refine sw_of (l := [(2, RV.ptr 2 0), (3, RV.ptr 3 0), (4, RV.sv false [PV.val _])]) (b := [(2, (61, [PV.val _, PV.val _, PV.val _, PV.sl _ _, PV.sl _ _, PV.val _, PV.val _, PV.val _, PV.val _, PV.sl _ _, PV.val _, PV.val _, PV.val _])), (3, (61, [PV.val _, PV.val _, PV.val _, PV.sl _ _, PV.sl _ _, PV.val _, PV.val _, PV.val _, PV.val _, PV.sl _ _, PV.val _, PV.val _, PV.val _]))]) (by exact And.intro rfl (And.intro rfl (And.intro rfl True.intro))) (by exact And.intro rfl (And.intro rfl True.intro)) ?_
    refine sw_reg ?_
    refine RunS.step (by exact And.intro rfl True.intro) (by exact True.intro) (LocG.of rfl (loc_field (by decide) fd_61_1)) nofree ?_
    refine RunS.step (by exact And.intro rfl True.intro) (by exact And.intro rfl True.intro) (LocG.of rfl (loc_load (qs := [PV.val _, PV.val _, PV.sl .v _, PV.sl .v _]) (by decide) ty_56 (fun h => nomatch h) (by exact Nat.le_of_ble_eq_true rfl) (by exact (ToL.cons (PV.To.refl _) (ToL.cons (PV.To.refl _) (ToL.cons PV.to_none (ToL.cons PV.to_none ToL.nil))))) (by exact (BorL.cons (PV.bor_val _) (BorL.cons (PV.bor_val _) (BorL.cons (PV.bor_sl _) (BorL.cons (PV.bor_sl _) BorL.nil))))))) nofree ?_
    refine RunS.step (by exact And.intro rfl True.intro) (by exact True.intro) (LocG.of rfl (loc_field (by decide) fd_61_1)) nofree ?_
    refine RunS.step (by exact And.intro rfl True.intro) (by exact And.intro rfl True.intro) (LocG.of rfl (loc_load (qs := [PV.val _, PV.val _, PV.sl .v _, PV.sl .v _]) (by decide) ty_56 (fun h => nomatch h) (by exact Nat.le_of_ble_eq_true rfl) (by exact (ToL.cons (PV.To.refl _) (ToL.cons (PV.To.refl _) (ToL.cons PV.to_none (ToL.cons PV.to_none ToL.nil))))) (by exact (BorL.cons (PV.bor_val _) (BorL.cons (PV.bor_val _) (BorL.cons (PV.bor_sl _) (BorL.cons (PV.bor_sl _) BorL.nil))))))) nofree ?_
    refine RunS.step (by exact And.intro rfl (And.intro rfl True.intro)) (by exact True.intro) (LocG.of rfl (loc_call (qs := [(true, [PV.val _, PV.val _, PV.sl _ _, PV.sl _ _]), (true, [PV.val _, PV.val _, PV.sl _ _, PV.sl _ _])]) (as_ := [(true, [PV.val _, PV.val _, PV.sl .v _, PV.sl .v _]), (true, [PV.val _, PV.val _, PV.sl .v _, PV.sl .v _])]) (by decide) c_69 (by exact (And.intro (by exact True.intro) (And.intro (by exact True.intro) True.intro))) (by exact (And.intro (And.intro rfl (ToL.cons (PV.To.refl _) (ToL.cons (PV.To.refl _) (ToL.cons PV.to_none (ToL.cons PV.to_none ToL.nil))))) (And.intro (And.intro rfl (ToL.cons (PV.To.refl _) (ToL.cons (PV.To.refl _) (ToL.cons PV.to_none (ToL.cons PV.to_none ToL.nil))))) True.intro))) (by exact eq_Query))) nofree ?_
    refine RunS.step (by exact And.intro rfl True.intro) (by exact True.intro) (LocG.of rfl (loc_not (by decide))) nofree ?_
    refine sw_cond (t := 15) rfl (fun hb2 => ?_) (fun hb2 => ?_)
    · try simp only [decide_eq_true_eq, decide_eq_false_iff_not, bne_iff_ne, beq_iff_eq, Bool.not_eq_true', Bool.not_eq_false', ne_eq, bne_eq_false_iff_eq, beq_eq_false_iff_ne] at hb2
      refine sw_seq ?_
      refine sw_of (l := [(2, RV.ptr 2 0), (3, RV.ptr 3 0), (4, RV.sv false [PV.val _])]) (b := [(2, (61, [PV.val _, PV.val _, PV.val _, PV.sl _ _, PV.sl _ _, PV.val _, PV.val _, PV.val _, PV.val _, PV.sl _ _, PV.val _, PV.val _, PV.val _])), (3, (61, [PV.val _, PV.val _, PV.val _, PV.sl _ _, PV.sl _ _, PV.val _, PV.val _, PV.val _, PV.val _, PV.sl _ _, PV.val _, PV.val _, PV.val _]))]) (by exact And.intro rfl (And.intro rfl (And.intro rfl True.intro))) (by exact And.intro rfl (And.intro rfl True.intro)) ?_
      refine sw_reg ?_
      refine RunS.step (by exact True.intro) (by exact True.intro) (LocG.of rfl (loc_const (.inr rfl) (by decide) (ok_sc rfl))) nofree ?_
      refine sw_ret ?_
      exact (And.intro (by refine bool_eq ?_; exact (deq_false (fun e => by subst e; simp_all [deq_self])).symm) True.intro)
    · try simp only [decide_eq_true_eq, decide_eq_false_iff_not, bne_iff_ne, beq_iff_eq, Bool.not_eq_true', Bool.not_eq_false', ne_eq, bne_eq_false_iff_eq, beq_eq_false_iff_ne] at hb2
      refine sw_skip ?_
      refine sw_seq ?_
      refine sw_seq ?_
      refine sw_of (l := [(2, RV.ptr 2 0), (3, RV.ptr 3 0), (4, RV.sv false [PV.val _])]) (b := [(2, (61, [PV.val _, PV.val _, PV.val _, PV.sl _ _, PV.sl _ _, PV.val _, PV.val _, PV.val _, PV.val _, PV.sl _ _, PV.val _, PV.val _, PV.val _])), (3, (61, [PV.val _, PV.val _, PV.val _, PV.sl _ _, PV.sl _ _, PV.val _, PV.val _, PV.val _, PV.val _, PV.sl _ _, PV.val _, PV.val _, PV.val _]))]) (by exact And.intro rfl (And.intro rfl (And.intro rfl True.intro))) (by exact And.intro rfl (And.intro rfl True.intro)) ?_
      refine sw_reg ?_
      refine RunS.step (by exact And.intro rfl True.intro) (by exact True.intro) (LocG.of rfl (loc_field (by decide) fd_61_2)) nofree ?_
      refine RunS.step (by exact And.intro rfl True.intro) (by exact And.intro rfl True.intro) (LocG.of rfl (loc_load (qs := [PV.val _]) (by decide) ty_3 (fun _ => rfl) (by exact Nat.le_of_ble_eq_true rfl) (by exact (ToL.cons (PV.To.refl _) ToL.nil)) (by exact (BorL.cons (PV.bor_val _) BorL.nil)))) nofree ?_
      refine RunS.step (by exact And.intro rfl True.intro) (by exact True.intro) (LocG.of rfl (loc_field (by decide) fd_61_2)) nofree ?_
      refine RunS.step (by exact And.intro rfl True.intro) (by exact And.intro rfl True.intro) (LocG.of rfl (loc_load (qs := [PV.val _]) (by decide) ty_3 (fun _ => rfl) (by exact Nat.le_of_ble_eq_true rfl) (by exact (ToL.cons (PV.To.refl _) ToL.nil)) (by exact (BorL.cons (PV.bor_val _) BorL.nil)))) nofree ?_
      refine RunS.step (by exact And.intro rfl (And.intro rfl True.intro)) (by exact True.intro) (LocG.of rfl (loc_neq (by decide) (by exact True.intro) (by exact True.intro))) nofree ?_
      refine sw_cond (t := 20) rfl (fun hb3 => ?_) (fun hb3 => ?_)
      · try simp only [decide_eq_true_eq, decide_eq_false_iff_not, bne_iff_ne, beq_iff_eq, Bool.not_eq_true', Bool.not_eq_false', ne_eq, bne_eq_false_iff_eq, beq_eq_false_iff_ne] at hb3
        refine sw_seq ?_
        refine sw_of (l := [(2, RV.ptr 2 0), (3, RV.ptr 3 0), (4, RV.sv false [PV.val _])]) (b := [(2, (61, [PV.val _, PV.val _, PV.val _, PV.sl _ _, PV.sl _ _, PV.val _, PV.val _, PV.val _, PV.val _, PV.sl _ _, PV.val _, PV.val _, PV.val _])), (3, (61, [PV.val _, PV.val _, PV.val _, PV.sl _ _, PV.sl _ _, PV.val _, PV.val _, PV.val _, PV.val _, PV.sl _ _, PV.val _, PV.val _, PV.val _]))]) (by exact And.intro rfl (And.intro rfl (And.intro rfl True.intro))) (by exact And.intro rfl (And.intro rfl True.intro)) ?_
        refine sw_reg ?_
        refine RunS.step (by exact True.intro) (by exact True.intro) (LocG.of rfl (loc_const (.inr rfl) (by decide) (ok_sc rfl))) nofree ?_
        refine sw_ret ?_
        exact (And.intro (by refine bool_eq ?_; exact (deq_false (fun e => by subst e; simp_all [deq_self])).symm) True.intro)
      · try simp only [decide_eq_true_eq, decide_eq_false_iff_not, bne_iff_ne, beq_iff_eq, Bool.not_eq_true', Bool.not_eq_false', ne_eq, bne_eq_false_iff_eq, beq_eq_false_iff_ne] at hb3
        refine sw_skip ?_
        refine sw_seq ?_
        refine sw_seq ?_
        refine sw_of (l := [(2, RV.ptr 2 0), (3, RV.ptr 3 0), (4, RV.sv false [PV.val _])]) (b := [(2, (61, [PV.val _, PV.val _, PV.val _, PV.sl _ _, PV.sl _ _, PV.val _, PV.val _, PV.val _, PV.val _, PV.sl _ _, PV.val _, PV.val _, PV.val _])), (3, (61, [PV.val _, PV.val _, PV.val _, PV.sl _ _, PV.sl _ _, PV.val _, PV.val _, PV.val _, PV.val _, PV.sl _ _, PV.val _, PV.val _, PV.val _]))]) (by exact And.intro rfl (And.intro rfl (And.intro rfl True.intro))) (by exact And.intro rfl (And.intro rfl True.intro)) ?_
        refine sw_reg ?_
        refine RunS.step (by exact And.intro rfl True.intro) (by exact True.intro) (LocG.of rfl (loc_field (by decide) fd_61_3)) nofree ?_
        refine RunS.step (by exact And.intro rfl True.intro) (by exact And.intro rfl True.intro) (LocG.of rfl (loc_load (qs := [PV.val _]) (by decide) ty_3 (fun _ => rfl) (by exact Nat.le_of_ble_eq_true rfl) (by exact (ToL.cons (PV.To.refl _) ToL.nil)) (by exact (BorL.cons (PV.bor_val _) BorL.nil)))) nofree ?_
        refine RunS.step (by exact And.intro rfl True.intro) (by exact True.intro) (LocG.of rfl (loc_field (by decide) fd_61_3)) nofree ?_
        refine RunS.step (by exact And.intro rfl True.intro) (by exact And.intro rfl True.intro) (LocG.of rfl (loc_load (qs := [PV.val _]) (by decide) ty_3 (fun _ => rfl) (by exact Nat.le_of_ble_eq_true rfl) (by exact (ToL.cons (PV.To.refl _) ToL.nil)) (by exact (BorL.cons (PV.bor_val _) BorL.nil)))) nofree ?_
        refine RunS.step (by exact And.intro rfl (And.intro rfl True.intro)) (by exact True.intro) (LocG.of rfl (loc_neq (by decide) (by exact True.intro) (by exact True.intro))) nofree ?_
        refine sw_cond (t := 25) rfl (fun hb4 => ?_) (fun hb4 => ?_)
        · try simp only [decide_eq_true_eq, decide_eq_false_iff_not, bne_iff_ne, beq_iff_eq, Bool.not_eq_true', Bool.not_eq_false', ne_eq, bne_eq_false_iff_eq, beq_eq_false_iff_ne] at hb4
          refine sw_seq ?_
          refine sw_of (l := [(2, RV.ptr 2 0), (3, RV.ptr 3 0), (4, RV.sv false [PV.val _])]) (b := [(2, (61, [PV.val _, PV.val _, PV.val _, PV.sl _ _, PV.sl _ _, PV.val _, PV.val _, PV.val _, PV.val _, PV.sl _ _, PV.val _, PV.val _, PV.val _])), (3, (61, [PV.val _, PV.val _, PV.val _, PV.sl _ _, PV.sl _ _, PV.val _, PV.val _, PV.val _, PV.val _, PV.sl _ _, PV.val _, PV.val _, PV.val _]))]) (by exact And.intro rfl (And.intro rfl (And.intro rfl True.intro))) (by exact And.intro rfl (And.intro rfl True.intro)) ?_
          refine sw_reg ?_
          refine RunS.step (by exact True.intro) (by exact True.intro) (LocG.of rfl (loc_const (.inr rfl) (by decide) (ok_sc rfl))) nofree ?_
          refine sw_ret ?_
          exact (And.intro (by refine bool_eq ?_; exact (deq_false (fun e => by subst e; simp_all [deq_self])).symm) True.intro)
        · try simp only [decide_eq_true_eq, decide_eq_false_iff_not, bne_iff_ne, beq_iff_eq, Bool.not_eq_true', Bool.not_eq_false', ne_eq, bne_eq_false_iff_eq, beq_eq_false_iff_ne] at hb4
          refine sw_skip ?_
          refine sw_seq ?_
          refine sw_seq ?_
          refine sw_of (l := [(2, RV.ptr 2 0), (3, RV.ptr 3 0), (4, RV.sv false [PV.val _])]) (b := [(2, (61, [PV.val _, PV.val _, PV.val _, PV.sl _ _, PV.sl _ _, PV.val _, PV.val _, PV.val _, PV.val _, PV.sl _ _, PV.val _, PV.val _, PV.val _])), (3, (61, [PV.val _, PV.val _, PV.val _, PV.sl _ _, PV.sl _ _, PV.val _, PV.val _, PV.val _, PV.val _, PV.sl _ _, PV.val _, PV.val _, PV.val _]))]) (by exact And.intro rfl (And.intro rfl (And.intro rfl True.intro))) (by exact And.intro rfl (And.intro rfl True.intro)) ?_
          refine sw_reg ?_
          refine RunS.step (by exact And.intro rfl True.intro) (by exact True.intro) (LocG.of rfl (loc_field (by decide) fd_61_4)) nofree ?_
          refine RunS.step (by exact And.intro rfl True.intro) (by exact And.intro rfl True.intro) (LocG.of rfl (loc_load (qs := [PV.val _, PV.val _, PV.sl .v _, PV.val _, PV.val _]) (by decide) ty_59 (fun h => nomatch h) (by exact Nat.le_of_ble_eq_true rfl) (by exact (ToL.cons (PV.To.refl _) (ToL.cons (PV.To.refl _) (ToL.cons PV.to_none (ToL.cons (PV.To.refl _) (ToL.cons (PV.To.refl _) ToL.nil)))))) (by exact (BorL.cons (PV.bor_val _) (BorL.cons (PV.bor_val _) (BorL.cons (PV.bor_sl _) (BorL.cons (PV.bor_val _) (BorL.cons (PV.bor_val _) BorL.nil)))))))) nofree ?_
          refine RunS.step (by exact And.intro rfl True.intro) (by exact True.intro) (LocG.of rfl (loc_field (by decide) fd_61_4)) nofree ?_
          refine RunS.step (by exact And.intro rfl True.intro) (by exact And.intro rfl True.intro) (LocG.of rfl (loc_load (qs := [PV.val _, PV.val _, PV.sl .v _, PV.val _, PV.val _]) (by decide) ty_59 (fun h => nomatch h) (by exact Nat.le_of_ble_eq_true rfl) (by exact (ToL.cons (PV.To.refl _) (ToL.cons (PV.To.refl _) (ToL.cons PV.to_none (ToL.cons (PV.To.refl _) (ToL.cons (PV.To.refl _) ToL.nil)))))) (by exact (BorL.cons (PV.bor_val _) (BorL.cons (PV.bor_val _) (BorL.cons (PV.bor_sl _) (BorL.cons (PV.bor_val _) (BorL.cons (PV.bor_val _) BorL.nil)))))))) nofree ?_
          refine RunS.step (by exact And.intro rfl (And.intro rfl True.intro)) (by exact True.intro) (LocG.of rfl (loc_call (qs := [(true, [PV.val _, PV.val _, PV.sl _ _, PV.val _, PV.val _]), (true, [PV.val _, PV.val _, PV.sl _ _, PV.val _, PV.val _])]) (as_ := [(true, [PV.val _, PV.val _, PV.sl .v _, PV.val _, PV.val _]), (true, [PV.val _, PV.val _, PV.sl .v _, PV.val _, PV.val _])]) (by decide) c_96 (by exact (And.intro (by exact True.intro) (And.intro (by exact True.intro) True.intro))) (by exact (And.intro (And.intro rfl (ToL.cons (PV.To.refl _) (ToL.cons (PV.To.refl _) (ToL.cons PV.to_none (ToL.cons (PV.To.refl _) (ToL.cons (PV.To.refl _) ToL.nil)))))) (And.intro (And.intro rfl (ToL.cons (PV.To.refl _) (ToL.cons (PV.To.refl _) (ToL.cons PV.to_none (ToL.cons (PV.To.refl _) (ToL.cons (PV.To.refl _) ToL.nil)))))) True.intro))) (by exact eq_Update))) nofree ?_
          refine RunS.step (by exact And.intro rfl True.intro) (by exact True.intro) (LocG.of rfl (loc_not (by decide))) nofree ?_
          refine sw_cond (t := 31) rfl (fun hb5 => ?_) (fun hb5 => ?_)
          · try simp only [decide_eq_true_eq, decide_eq_false_iff_not, bne_iff_ne, beq_iff_eq, Bool.not_eq_true', Bool.not_eq_false', ne_eq, bne_eq_false_iff_eq, beq_eq_false_iff_ne] at hb5
            refine sw_seq ?_
            refine sw_of (l := [(2, RV.ptr 2 0), (3, RV.ptr 3 0), (4, RV.sv false [PV.val _])]) (b := [(2, (61, [PV.val _, PV.val _, PV.val _, PV.sl _ _, PV.sl _ _, PV.val _, PV.val _, PV.val _, PV.val _, PV.sl _ _, PV.val _, PV.val _, PV.val _])), (3, (61, [PV.val _, PV.val _, PV.val _, PV.sl _ _, PV.sl _ _, PV.val _, PV.val _, PV.val _, PV.val _, PV.sl _ _, PV.val _, PV.val _, PV.val _]))]) (by exact And.intro rfl (And.intro rfl (And.intro rfl True.intro))) (by exact And.intro rfl (And.intro rfl True.intro)) ?_
            refine sw_reg ?_
            refine RunS.step (by exact True.intro) (by exact True.intro) (LocG.of rfl (loc_const (.inr rfl) (by decide) (ok_sc rfl))) nofree ?_
            refine sw_ret ?_
            exact (And.intro (by refine bool_eq ?_; exact (deq_false (fun e => by subst e; simp_all [deq_self])).symm) True.intro)
          · try simp only [decide_eq_true_eq, decide_eq_false_iff_not, bne_iff_ne, beq_iff_eq, Bool.not_eq_true', Bool.not_eq_false', ne_eq, bne_eq_false_iff_eq, beq_eq_false_iff_ne] at hb5
            refine sw_skip ?_
            refine sw_seq ?_
            refine sw_seq ?_
            refine sw_of (l := [(2, RV.ptr 2 0), (3, RV.ptr 3 0), (4, RV.sv false [PV.val _])]) (b := [(2, (61, [PV.val _, PV.val _, PV.val _, PV.sl _ _, PV.sl _ _, PV.val _, PV.val _, PV.val _, PV.val _, PV.sl _ _, PV.val _, PV.val _, PV.val _])), (3, (61, [PV.val _, PV.val _, PV.val _, PV.sl _ _, PV.sl _ _, PV.val _, PV.val _, PV.val _, PV.val _, PV.sl _ _, PV.val _, PV.val _, PV.val _]))]) (by exact And.intro rfl (And.intro rfl (And.intro rfl True.intro))) (by exact And.intro rfl (And.intro rfl True.intro)) ?_
            refine sw_reg ?_
            refine RunS.step (by exact And.intro rfl True.intro) (by exact True.intro) (LocG.of rfl (loc_field (by decide) fd_61_5)) nofree ?_
            refine RunS.step (by exact And.intro rfl True.intro) (by exact And.intro rfl True.intro) (LocG.of rfl (loc_load (qs := [PV.val _]) (by decide) ty_3 (fun _ => rfl) (by exact Nat.le_of_ble_eq_true rfl) (by exact (ToL.cons (PV.To.refl _) ToL.nil)) (by exact (BorL.cons (PV.bor_val _) BorL.nil)))) nofree ?_
            refine RunS.step (by exact And.intro rfl True.intro) (by exact True.intro) (LocG.of rfl (loc_field (by decide) fd_61_5)) nofree ?_
            refine RunS.step (by exact And.intro rfl True.intro) (by exact And.intro rfl True.intro) (LocG.of rfl (loc_load (qs := [PV.val _]) (by decide) ty_3 (fun _ => rfl) (by exact Nat.le_of_ble_eq_true rfl) (by exact (ToL.cons (PV.To.refl _) ToL.nil)) (by exact (BorL.cons (PV.bor_val _) BorL.nil)))) nofree ?_
            refine RunS.step (by exact And.intro rfl (And.intro rfl True.intro)) (by exact True.intro) (LocG.of rfl (loc_neq (by decide) (by exact True.intro) (by exact True.intro))) nofree ?_
            refine sw_cond (t := 36) rfl (fun hb6 => ?_) (fun hb6 => ?_)
            · try simp only [decide_eq_true_eq, decide_eq_false_iff_not, bne_iff_ne, beq_iff_eq, Bool.not_eq_true', Bool.not_eq_false', ne_eq, bne_eq_false_iff_eq, beq_eq_false_iff_ne] at hb6
              refine sw_seq ?_
              refine sw_of (l := [(2, RV.ptr 2 0), (3, RV.ptr 3 0), (4, RV.sv false [PV.val _])]) (b := [(2, (61, [PV.val _, PV.val _, PV.val _, PV.sl _ _, PV.sl _ _, PV.val _, PV.val _, PV.val _, PV.val _, PV.sl _ _, PV.val _, PV.val _, PV.val _])), (3, (61, [PV.val _, PV.val _, PV.val _, PV.sl _ _, PV.sl _ _, PV.val _, PV.val _, PV.val _, PV.val _, PV.sl _ _, PV.val _, PV.val _, PV.val _]))]) (by exact And.intro rfl (And.intro rfl (And.intro rfl True.intro))) (by exact And.intro rfl (And.intro rfl True.intro)) ?_
              refine sw_reg ?_
              refine RunS.step (by exact True.intro) (by exact True.intro) (LocG.of rfl (loc_const (.inr rfl) (by decide) (ok_sc rfl))) nofree ?_
              refine sw_ret ?_
              exact (And.intro (by refine bool_eq ?_; exact (deq_false (fun e => by subst e; simp_all [deq_self])).symm) True.intro)
            · try simp only [decide_eq_true_eq, decide_eq_false_iff_not, bne_iff_ne, beq_iff_eq, Bool.not_eq_true', Bool.not_eq_false', ne_eq, bne_eq_false_iff_eq, beq_eq_false_iff_ne] at hb6
              refine sw_skip ?_
              refine sw_seq ?_
              refine sw_of (l := [(2, RV.ptr 2 0), (3, RV.ptr 3 0), (4, RV.sv false [PV.val _])]) (b := [(2, (61, [PV.val _, PV.val _, PV.val _, PV.sl _ _, PV.sl _ _, PV.val _, PV.val _, PV.val _, PV.val _, PV.sl _ _, PV.val _, PV.val _, PV.val _])), (3, (61, [PV.val _, PV.val _, PV.val _, PV.sl _ _, PV.sl _ _, PV.val _, PV.val _, PV.val _, PV.val _, PV.sl _ _, PV.val _, PV.val _, PV.val _]))]) (by exact And.intro rfl (And.intro rfl (And.intro rfl True.intro))) (by exact And.intro rfl (And.intro rfl True.intro)) ?_
              refine sw_reg ?_
              refine RunS.step (by exact True.intro) (by exact True.intro) (LocG.of rfl (loc_const (.inr rfl) (by decide) (ok_sc rfl))) nofree ?_
              refine sw_ret ?_
              exact (And.intro (by refine bool_eq ?_; exact (deq_true (by apply ext_Event <;> simp_all [deq_iff])).symm) True.intro)
end Go.Proofs.Ytcfbekjiiokcbaa
