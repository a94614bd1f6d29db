/- What functions of the program compute. No condition. -/
import Derived.Test.YtgaaaoapnhambaaCDb
set_option linter.unusedVariables false
set_option linter.unusedSimpArgs false
namespace Go.Proofs.Ytgaaaoapnhambaa
open Go Go.RowKit M
set_option maxRecDepth 10000
theorem eq_BoolS {x : List Bool} {y : List Bool}  : SCall Try.prog 64 [(false, [PV.sl .v (x.map cBool)]), (false, [PV.sl .v (y.map cBool)])] (resRV [(false, [PV.val (.bool (deq x y))])]) := by
  refine scall_of (rs := [(false, [PV.val (.bool (deq x y))])]) Try.func64 rfl (Nat.le_of_ble_eq_true rfl) (borA_cons (BorL.cons (PV.bor_sl _) BorL.nil) (borA_cons (BorL.cons (PV.bor_sl _) BorL.nil) borA_nil)) ?_
  intro h0 w0 Fz0
  refine sw_len (s := 0) rfl fun hl0 => ?_
  try rw [List.length_map] at hl0
  refine sw_len (s := 1) rfl fun hl1 => ?_
  try rw [List.length_map] at hl1
  refine sw_seq ?_
  refine sw_reg ?_
  refine RunS.s1 (x := loc_const (.inr rfl) (by decide) (ok_sc rfl)) (y := ?_)
  refine sw_seq ?_
  refine sw_seq ?_
  refine sw_of (l := [(0, RV.sv false [PV.sl _ _]), (1, RV.sv false [PV.sl _ _]), (4, RV.sv false [PV.val _])]) (b := []) (by exact ⟨rfl, rfl, rfl, ⟨⟩⟩) (by exact ⟨⟩) ?_
  refine sw_reg ?_
  refine RunS.s1 (x := loc_copy (r' := RV.sv false [PV.sl .v _]) (.inl rfl) (by decide) (by exact Cp.sv (ToL.cons PV.to_none ToL.nil) (BorL.cons (PV.bor_sl _) BorL.nil))) (y := ?_)
  refine RunS.s1 (x := loc_len (by decide) sl_27 (by first | exact List.length_map _ | exact rfl)) (y := ?_)
  refine RunS.s1 (x := loc_copy (r' := RV.sv false [PV.sl .v _]) (.inl rfl) (by decide) (by exact Cp.sv (ToL.cons PV.to_none ToL.nil) (BorL.cons (PV.bor_sl _) BorL.nil))) (y := ?_)
  refine RunS.s1 (x := loc_len (by decide) sl_27 (by first | exact List.length_map _ | exact rfl)) (y := ?_)
  refine RunS.s1 (x := loc_neq (by decide) (by exact ⟨⟩) (by exact ⟨⟩)) (y := ?_)
  refine sw_cond (t := 10) rfl (fun hb1 => ?_) (fun hb1 => ?_)
  · try simp only [q1, q2, q3, q4, q5, q6, q7, q8, q9] at hb1
    refine sw_seq ?_
    refine sw_of (l := [(0, RV.sv false [PV.sl _ _]), (1, RV.sv false [PV.sl _ _]), (4, RV.sv false [PV.val _])]) (b := []) (by exact ⟨rfl, rfl, rfl, ⟨⟩⟩) (by exact ⟨⟩) ?_
    refine sw_reg ?_
    refine RunS.s1 (x := loc_const (.inr rfl) (by decide) (ok_sc rfl)) (y := ?_)
    refine sw_ret ?_
    exact (And.intro (by refine bool_eq ?_; exact (deq_false (fun e => by subst e; omega)).symm) True.intro)
  · try simp only [q1, q2, q3, q4, q5, q6, q7, q8, q9] at hb1
    have hl : x.length = y.length := by omega
    refine sw_skip ?_
    refine sw_seq ?_
    refine sw_seq ?_
    refine sw_of (l := [(0, RV.sv false [PV.sl _ _]), (1, RV.sv false [PV.sl _ _]), (4, RV.sv false [PV.val _])]) (b := []) (by exact ⟨rfl, rfl, rfl, ⟨⟩⟩) (by exact ⟨⟩) ?_
    refine sw_reg ?_
    refine RunS.s1 (x := loc_const (.inr rfl) (by decide) (ok_sc rfl)) (y := ?_)
    refine sw_block ?_
    refine sw_of (l := [(0, RV.sv false [PV.sl _ _]), (1, RV.sv false [PV.sl _ _]), (4, RV.sv false [PV.val _]), (5, RV.sv false [PV.val _])]) (b := []) (by exact ⟨rfl, rfl, rfl, rfl, ⟨⟩⟩) (by exact ⟨⟩) ?_
    refine sw_loop (l0 := [(0, RV.sv false [PV.sl _ _]), (1, RV.sv false [PV.sl _ _])]) (b0 := []) (fun k : Nat => k ≤ x.length ∧ x.take k = y.take k) (fun k : Nat => [(5, RV.int (k : Int))]) (fun k : Nat => []) (fun k : Nat => x.length - k) 0 (by exact ⟨by omega, by simp⟩) (by exact ⟨rfl, rfl, ⟨⟩⟩) (by exact ⟨⟩) (by exact And.intro (by exact rfl) (True.intro)) (by exact ⟨⟩) ?_
    rintro k ⟨hk, ha⟩
    refine sw_seq ?_
    refine sw_seq ?_
    refine sw_reg ?_
    refine RunS.s1 (x := loc_copy (.inl rfl) (by decide) (by exact Cp.sc)) (y := ?_)
    refine RunS.s1 (x := loc_copy (r' := RV.sv false [PV.sl .v _]) (.inl rfl) (by decide) (by exact Cp.sv (ToL.cons PV.to_none ToL.nil) (BorL.cons (PV.bor_sl _) BorL.nil))) (y := ?_)
    refine RunS.s1 (x := loc_len (by decide) sl_27 (by first | exact List.length_map _ | exact rfl)) (y := ?_)
    refine RunS.s1 (x := loc_lss (by decide) (by exact ⟨⟩) (by exact ⟨⟩)) (y := ?_)
    refine sw_cond (t := 14) rfl (fun hb2 => ?_) (fun hb2 => ?_)
    · try simp only [q1, q2, q3, q4, q5, q6, q7, q8, q9] at hb2
      have hlt : k < x.length := by omega
      have hlt2 : k < y.length := by omega
      refine sw_skip ?_
      refine sw_seq ?_
      refine sw_block ?_
      refine sw_seq ?_
      refine sw_of (l := [(0, RV.sv false [PV.sl _ _]), (1, RV.sv false [PV.sl _ _]), (5, RV.sv false [PV.val _])]) (b := []) (by exact ⟨rfl, rfl, rfl, ⟨⟩⟩) (by exact ⟨⟩) ?_
      refine sw_draw hm_ ?_
      refine Run.step 0 (by exact ⟨rfl, ⟨⟩⟩) (by exact ⟨⟩) (LocG.of rfl (loc_copy (r' := RV.sv false [PV.sl .v _]) (.inl rfl) (by decide) (by exact Cp.sv (ToL.cons PV.to_none ToL.nil) (BorL.cons (PV.bor_sl _) BorL.nil)))) nofree (by kernel_rfl) ?_
      refine Run.step 0 (by exact ⟨rfl, ⟨⟩⟩) (by exact ⟨⟩) (LocG.of rfl (loc_copy (.inl rfl) (by decide) (by exact Cp.sc))) nofree (by kernel_rfl) ?_
      refine Run.step 3 (by exact ⟨rfl, rfl, ⟨⟩⟩) (by exact ⟨⟩) (LocG.of rfl (loc_index (by decide) sl_27 (by exact ⟨⟩) (by exact rfl) (by exact getm2 (by omega) rfl) (by exact rfl))) nofree (by kernel_rfl) ?_
      refine Run.step 7 (by exact ⟨rfl, ⟨⟩⟩) (by exact ⟨⟩) (LocG.of rfl (loc_eload (qs := [PV.val _]) (by decide) ty_4 (fun _ => rfl) (by exact Nat.le_of_ble_eq_true rfl) (by exact (ToL.cons (PV.To.refl _) ToL.nil)) (by exact (BorL.cons (PV.bor_val _) BorL.nil)))) nofree (by kernel_rfl) ?_
      refine Run.step 0 (by exact ⟨rfl, ⟨⟩⟩) (by exact ⟨⟩) (LocG.of rfl (loc_copy (r' := RV.sv false [PV.sl .v _]) (.inl rfl) (by decide) (by exact Cp.sv (ToL.cons PV.to_none ToL.nil) (BorL.cons (PV.bor_sl _) BorL.nil)))) nofree (by kernel_rfl) ?_
      refine Run.step 0 (by exact ⟨rfl, ⟨⟩⟩) (by exact ⟨⟩) (LocG.of rfl (loc_copy (.inl rfl) (by decide) (by exact Cp.sc))) nofree (by kernel_rfl) ?_
      refine Run.step 48 (by exact ⟨rfl, rfl, ⟨⟩⟩) (by exact ⟨⟩) (LocG.of rfl (loc_index (by decide) sl_27 (by exact ⟨⟩) (by exact rfl) (by exact getm2 (by omega) rfl) (by exact rfl))) nofree (by kernel_rfl) ?_
      refine Run.step 112 (by exact ⟨rfl, ⟨⟩⟩) (by exact ⟨⟩) (LocG.of rfl (loc_eload (qs := [PV.val _]) (by decide) ty_4 (fun _ => rfl) (by exact Nat.le_of_ble_eq_true rfl) (by exact (ToL.cons (PV.To.refl _) ToL.nil)) (by exact (BorL.cons (PV.bor_val _) BorL.nil)))) nofree (by kernel_rfl) ?_
      refine Run.step 255 (by exact ⟨rfl, rfl, ⟨⟩⟩) (by exact ⟨⟩) (LocG.of rfl (loc_bneq (by decide) ub_4 (by exact ⟨⟩) (by exact ⟨⟩))) nofree (by kernel_rfl) ?_
      refine sw_cond (t := 25) rfl (fun hb3 => ?_) (fun hb3 => ?_)
      · try simp only [q1, q2, q3, q4, q5, q6, q7, q8, q9] at hb3
        have hne : x[k] ≠ y[k] := by simpa using hb3
        refine sw_seq ?_
        refine sw_of (l := [(0, RV.sv false [PV.sl _ _]), (1, RV.sv false [PV.sl _ _]), (5, RV.sv false [PV.val _])]) (b := []) (by exact ⟨rfl, rfl, rfl, ⟨⟩⟩) (by exact ⟨⟩) ?_
        refine sw_reg ?_
        refine RunS.s1 (x := loc_const (.inr rfl) (by decide) (ok_sc rfl)) (y := ?_)
        refine sw_ret ?_
        exact (And.intro (by refine bool_eq ?_; exact (deq_false (eq_no hlt hlt2 hne)).symm) True.intro)
      · try simp only [q1, q2, q3, q4, q5, q6, q7, q8, q9] at hb3
        have heq : x[k] = y[k] := by simpa using hb3
        refine sw_skip ?_
        refine sw_of (l := [(0, RV.sv false [PV.sl _ _]), (1, RV.sv false [PV.sl _ _]), (5, RV.sv false [PV.val _])]) (b := []) (by exact ⟨rfl, rfl, rfl, ⟨⟩⟩) (by exact ⟨⟩) ?_
        refine sw_reg ?_
        refine RunS.s1 (x := loc_copy (.inl rfl) (by decide) (by exact Cp.sc)) (y := ?_)
        refine RunS.s1 (x := loc_add (by decide) (by exact ⟨⟩) (ok_sc rfl) (by unfold I64; omega)) (y := ?_)
        refine RunS.s1 (x := loc_copy (.inr rfl) (by decide) (by exact Cp.sc)) (y := ?_)
        refine Exists.intro (k + 1) (And.intro (by exact ⟨by omega, eq_succ ha hlt hlt2 heq⟩) (And.intro (by omega) (And.intro (And.intro (by exact ⟨rfl, rfl, ⟨⟩⟩) (by exact ⟨⟩)) (And.intro (by exact And.intro (by exact rfl) (True.intro)) (by exact ⟨⟩)))))
    · try simp only [q1, q2, q3, q4, q5, q6, q7, q8, q9] at hb2
      refine sw_exit ?_
      refine sw_seq ?_
      refine sw_of (l := [(0, RV.sv false [PV.sl _ _]), (1, RV.sv false [PV.sl _ _]), (5, RV.sv false [PV.val _])]) (b := []) (by exact ⟨rfl, rfl, rfl, ⟨⟩⟩) (by exact ⟨⟩) ?_
      refine sw_reg ?_
      refine RunS.s1 (x := loc_const (.inr rfl) (by decide) (ok_sc rfl)) (y := ?_)
      refine sw_ret ?_
      exact (And.intro (by refine bool_eq ?_; exact (deq_true (eq_end hl (by rw [show x.length = k by omega]; exact ha))).symm) True.intro)
theorem eq_IntS {x : List Int} {y : List Int}  : SCall Try.prog 65 [(false, [PV.sl .v (x.map cInt)]), (false, [PV.sl .v (y.map cInt)])] (resRV [(false, [PV.val (.bool (deq x y))])]) := by
  refine scall_of (rs := [(false, [PV.val (.bool (deq x y))])]) Try.func65 rfl (Nat.le_of_ble_eq_true rfl) (borA_cons (BorL.cons (PV.bor_sl _) BorL.nil) (borA_cons (BorL.cons (PV.bor_sl _) BorL.nil) borA_nil)) ?_
  intro h0 w0 Fz0
  refine sw_len (s := 0) rfl fun hl0 => ?_
  try rw [List.length_map] at hl0
  refine sw_len (s := 1) rfl fun hl1 => ?_
  try rw [List.length_map] at hl1
  refine sw_seq ?_
  refine sw_reg ?_
  refine RunS.s1 (x := loc_const (.inr rfl) (by decide) (ok_sc rfl)) (y := ?_)
  refine sw_seq ?_
  refine sw_seq ?_
  refine sw_of (l := [(0, RV.sv false [PV.sl _ _]), (1, RV.sv false [PV.sl _ _]), (4, RV.sv false [PV.val _])]) (b := []) (by exact ⟨rfl, rfl, rfl, ⟨⟩⟩) (by exact ⟨⟩) ?_
  refine sw_reg ?_
  refine RunS.s1 (x := loc_copy (r' := RV.sv false [PV.sl .v _]) (.inl rfl) (by decide) (by exact Cp.sv (ToL.cons PV.to_none ToL.nil) (BorL.cons (PV.bor_sl _) BorL.nil))) (y := ?_)
  refine RunS.s1 (x := loc_len (by decide) sl_23 (by first | exact List.length_map _ | exact rfl)) (y := ?_)
  refine RunS.s1 (x := loc_copy (r' := RV.sv false [PV.sl .v _]) (.inl rfl) (by decide) (by exact Cp.sv (ToL.cons PV.to_none ToL.nil) (BorL.cons (PV.bor_sl _) BorL.nil))) (y := ?_)
  refine RunS.s1 (x := loc_len (by decide) sl_23 (by first | exact List.length_map _ | exact rfl)) (y := ?_)
  refine RunS.s1 (x := loc_neq (by decide) (by exact ⟨⟩) (by exact ⟨⟩)) (y := ?_)
  refine sw_cond (t := 10) rfl (fun hb1 => ?_) (fun hb1 => ?_)
  · try simp only [q1, q2, q3, q4, q5, q6, q7, q8, q9] at hb1
    refine sw_seq ?_
    refine sw_of (l := [(0, RV.sv false [PV.sl _ _]), (1, RV.sv false [PV.sl _ _]), (4, RV.sv false [PV.val _])]) (b := []) (by exact ⟨rfl, rfl, rfl, ⟨⟩⟩) (by exact ⟨⟩) ?_
    refine sw_reg ?_
    refine RunS.s1 (x := loc_const (.inr rfl) (by decide) (ok_sc rfl)) (y := ?_)
    refine sw_ret ?_
    exact (And.intro (by refine bool_eq ?_; exact (deq_false (fun e => by subst e; omega)).symm) True.intro)
  · try simp only [q1, q2, q3, q4, q5, q6, q7, q8, q9] at hb1
    have hl : x.length = y.length := by omega
    refine sw_skip ?_
    refine sw_seq ?_
    refine sw_seq ?_
    refine sw_of (l := [(0, RV.sv false [PV.sl _ _]), (1, RV.sv false [PV.sl _ _]), (4, RV.sv false [PV.val _])]) (b := []) (by exact ⟨rfl, rfl, rfl, ⟨⟩⟩) (by exact ⟨⟩) ?_
    refine sw_reg ?_
    refine RunS.s1 (x := loc_const (.inr rfl) (by decide) (ok_sc rfl)) (y := ?_)
    refine sw_block ?_
    refine sw_of (l := [(0, RV.sv false [PV.sl _ _]), (1, RV.sv false [PV.sl _ _]), (4, RV.sv false [PV.val _]), (5, RV.sv false [PV.val _])]) (b := []) (by exact ⟨rfl, rfl, rfl, rfl, ⟨⟩⟩) (by exact ⟨⟩) ?_
    refine sw_loop (l0 := [(0, RV.sv false [PV.sl _ _]), (1, RV.sv false [PV.sl _ _])]) (b0 := []) (fun k : Nat => k ≤ x.length ∧ x.take k = y.take k) (fun k : Nat => [(5, RV.int (k : Int))]) (fun k : Nat => []) (fun k : Nat => x.length - k) 0 (by exact ⟨by omega, by simp⟩) (by exact ⟨rfl, rfl, ⟨⟩⟩) (by exact ⟨⟩) (by exact And.intro (by exact rfl) (True.intro)) (by exact ⟨⟩) ?_
    rintro k ⟨hk, ha⟩
    refine sw_seq ?_
    refine sw_seq ?_
    refine sw_reg ?_
    refine RunS.s1 (x := loc_copy (.inl rfl) (by decide) (by exact Cp.sc)) (y := ?_)
    refine RunS.s1 (x := loc_copy (r' := RV.sv false [PV.sl .v _]) (.inl rfl) (by decide) (by exact Cp.sv (ToL.cons PV.to_none ToL.nil) (BorL.cons (PV.bor_sl _) BorL.nil))) (y := ?_)
    refine RunS.s1 (x := loc_len (by decide) sl_23 (by first | exact List.length_map _ | exact rfl)) (y := ?_)
    refine RunS.s1 (x := loc_lss (by decide) (by exact ⟨⟩) (by exact ⟨⟩)) (y := ?_)
    refine sw_cond (t := 14) rfl (fun hb2 => ?_) (fun hb2 => ?_)
    · try simp only [q1, q2, q3, q4, q5, q6, q7, q8, q9] at hb2
      have hlt : k < x.length := by omega
      have hlt2 : k < y.length := by omega
      refine sw_skip ?_
      refine sw_seq ?_
      refine sw_block ?_
      refine sw_seq ?_
      refine sw_of (l := [(0, RV.sv false [PV.sl _ _]), (1, RV.sv false [PV.sl _ _]), (5, RV.sv false [PV.val _])]) (b := []) (by exact ⟨rfl, rfl, rfl, ⟨⟩⟩) (by exact ⟨⟩) ?_
      refine sw_draw hm_ ?_
      refine Run.step 0 (by exact ⟨rfl, ⟨⟩⟩) (by exact ⟨⟩) (LocG.of rfl (loc_copy (r' := RV.sv false [PV.sl .v _]) (.inl rfl) (by decide) (by exact Cp.sv (ToL.cons PV.to_none ToL.nil) (BorL.cons (PV.bor_sl _) BorL.nil)))) nofree (by kernel_rfl) ?_
      refine Run.step 0 (by exact ⟨rfl, ⟨⟩⟩) (by exact ⟨⟩) (LocG.of rfl (loc_copy (.inl rfl) (by decide) (by exact Cp.sc))) nofree (by kernel_rfl) ?_
      refine Run.step 3 (by exact ⟨rfl, rfl, ⟨⟩⟩) (by exact ⟨⟩) (LocG.of rfl (loc_index (by decide) sl_23 (by exact ⟨⟩) (by exact rfl) (by exact getm2 (by omega) rfl) (by exact rfl))) nofree (by kernel_rfl) ?_
      refine Run.step 7 (by exact ⟨rfl, ⟨⟩⟩) (by exact ⟨⟩) (LocG.of rfl (loc_eload (qs := [PV.val _]) (by decide) ty_3 (fun _ => rfl) (by exact Nat.le_of_ble_eq_true rfl) (by exact (ToL.cons (PV.To.refl _) ToL.nil)) (by exact (BorL.cons (PV.bor_val _) BorL.nil)))) nofree (by kernel_rfl) ?_
      refine Run.step 0 (by exact ⟨rfl, ⟨⟩⟩) (by exact ⟨⟩) (LocG.of rfl (loc_copy (r' := RV.sv false [PV.sl .v _]) (.inl rfl) (by decide) (by exact Cp.sv (ToL.cons PV.to_none ToL.nil) (BorL.cons (PV.bor_sl _) BorL.nil)))) nofree (by kernel_rfl) ?_
      refine Run.step 0 (by exact ⟨rfl, ⟨⟩⟩) (by exact ⟨⟩) (LocG.of rfl (loc_copy (.inl rfl) (by decide) (by exact Cp.sc))) nofree (by kernel_rfl) ?_
      refine Run.step 48 (by exact ⟨rfl, rfl, ⟨⟩⟩) (by exact ⟨⟩) (LocG.of rfl (loc_index (by decide) sl_23 (by exact ⟨⟩) (by exact rfl) (by exact getm2 (by omega) rfl) (by exact rfl))) nofree (by kernel_rfl) ?_
      refine Run.step 112 (by exact ⟨rfl, ⟨⟩⟩) (by exact ⟨⟩) (LocG.of rfl (loc_eload (qs := [PV.val _]) (by decide) ty_3 (fun _ => rfl) (by exact Nat.le_of_ble_eq_true rfl) (by exact (ToL.cons (PV.To.refl _) ToL.nil)) (by exact (BorL.cons (PV.bor_val _) BorL.nil)))) nofree (by kernel_rfl) ?_
      refine Run.step 255 (by exact ⟨rfl, rfl, ⟨⟩⟩) (by exact ⟨⟩) (LocG.of rfl (loc_neq (by decide) (by exact ⟨⟩) (by exact ⟨⟩))) nofree (by kernel_rfl) ?_
      refine sw_cond (t := 25) rfl (fun hb3 => ?_) (fun hb3 => ?_)
      · try simp only [q1, q2, q3, q4, q5, q6, q7, q8, q9] at hb3
        have hne : x[k] ≠ y[k] := by simpa using hb3
        refine sw_seq ?_
        refine sw_of (l := [(0, RV.sv false [PV.sl _ _]), (1, RV.sv false [PV.sl _ _]), (5, RV.sv false [PV.val _])]) (b := []) (by exact ⟨rfl, rfl, rfl, ⟨⟩⟩) (by exact ⟨⟩) ?_
        refine sw_reg ?_
        refine RunS.s1 (x := loc_const (.inr rfl) (by decide) (ok_sc rfl)) (y := ?_)
        refine sw_ret ?_
        exact (And.intro (by refine bool_eq ?_; exact (deq_false (eq_no hlt hlt2 hne)).symm) True.intro)
      · try simp only [q1, q2, q3, q4, q5, q6, q7, q8, q9] at hb3
        have heq : x[k] = y[k] := by simpa using hb3
        refine sw_skip ?_
        refine sw_of (l := [(0, RV.sv false [PV.sl _ _]), (1, RV.sv false [PV.sl _ _]), (5, RV.sv false [PV.val _])]) (b := []) (by exact ⟨rfl, rfl, rfl, ⟨⟩⟩) (by exact ⟨⟩) ?_
        refine sw_reg ?_
        refine RunS.s1 (x := loc_copy (.inl rfl) (by decide) (by exact Cp.sc)) (y := ?_)
        refine RunS.s1 (x := loc_add (by decide) (by exact ⟨⟩) (ok_sc rfl) (by unfold I64; omega)) (y := ?_)
        refine RunS.s1 (x := loc_copy (.inr rfl) (by decide) (by exact Cp.sc)) (y := ?_)
        refine Exists.intro (k + 1) (And.intro (by exact ⟨by omega, eq_succ ha hlt hlt2 heq⟩) (And.intro (by omega) (And.intro (And.intro (by exact ⟨rfl, rfl, ⟨⟩⟩) (by exact ⟨⟩)) (And.intro (by exact And.intro (by exact rfl) (True.intro)) (by exact ⟨⟩)))))
    · try simp only [q1, q2, q3, q4, q5, q6, q7, q8, q9] at hb2
      refine sw_exit ?_
      refine sw_seq ?_
      refine sw_of (l := [(0, RV.sv false [PV.sl _ _]), (1, RV.sv false [PV.sl _ _]), (5, RV.sv false [PV.val _])]) (b := []) (by exact ⟨rfl, rfl, rfl, ⟨⟩⟩) (by exact ⟨⟩) ?_
      refine sw_reg ?_
      refine RunS.s1 (x := loc_const (.inr rfl) (by decide) (ok_sc rfl)) (y := ?_)
      refine sw_ret ?_
      exact (And.intro (by refine bool_eq ?_; exact (deq_true (eq_end hl (by rw [show x.length = k by omega]; exact ha))).symm) True.intro)
theorem eq_Cond {x : Cond} {y : Cond}  : SCall Try.prog 188 [(true, [PV.val (vI x.Field), PV.val (vI x.Low), PV.val (vI x.High)]), (true, [PV.val (vI y.Field), PV.val (vI y.Low), PV.val (vI y.High)])] (resRV [(false, [PV.val (.bool (deq x y))])]) := by
  refine scall_of (rs := [(false, [PV.val (.bool (deq x y))])]) Try.func188 rfl (Nat.le_of_ble_eq_true rfl) (borA_cons (BorL.cons (PV.bor_val _) (BorL.cons (PV.bor_val _) (BorL.cons (PV.bor_val _) BorL.nil))) (borA_cons (BorL.cons (PV.bor_val _) (BorL.cons (PV.bor_val _) (BorL.cons (PV.bor_val _) BorL.nil))) borA_nil)) ?_
  intro h0 w0 Fz0
  refine sw_seq ?_
  refine sw_reg ?_
  refine RunS.step (by exact ⟨rfl, ⟨⟩⟩) (by exact ⟨⟩) (LocG.of rfl (loc_box (ag := true) (cs := [PV.val _, PV.val _, PV.val _]) (by decide) (by exact ⟨⟩))) (free1 (Free.of_ rfl)) ?_
  refine RunS.step (by exact ⟨rfl, ⟨⟩⟩) (by exact ⟨⟩) (LocG.of rfl (loc_box (ag := true) (cs := [PV.val _, PV.val _, PV.val _]) (by decide) (by exact ⟨⟩))) (free1 (Free.app (Free.of_ rfl) rfl)) ?_
  refine RunS.s1 (x := loc_const (.inr rfl) (by decide) (ok_sc rfl)) (y := ?_)
  refine sw_seq ?_
  refine sw_seq ?_
  refine sw_of (l := [(2, RV.ptr 2 0), (3, RV.ptr 3 0), (4, RV.sv false [PV.val _])]) (b := [(2, (73, [PV.val _, PV.val _, PV.val _])), (3, (73, [PV.val _, PV.val _, PV.val _]))]) (by exact ⟨rfl, rfl, rfl, ⟨⟩⟩) (by exact ⟨rfl, rfl, ⟨⟩⟩) ?_
  refine sw_reg ?_
  refine RunS.s1 (x := loc_field (by decide) fd_73_0) (y := ?_)
  refine RunS.s1 (x := loc_load (qs := [PV.val _]) (by decide) ty_3 (fun _ => rfl) (by exact Nat.le_of_ble_eq_true rfl) (by exact (ToL.cons (PV.To.refl _) ToL.nil)) (by exact (BorL.cons (PV.bor_val _) BorL.nil))) (y := ?_)
  refine RunS.s1 (x := loc_field (by decide) fd_73_0) (y := ?_)
  refine RunS.s1 (x := loc_load (qs := [PV.val _]) (by decide) ty_3 (fun _ => rfl) (by exact Nat.le_of_ble_eq_true rfl) (by exact (ToL.cons (PV.To.refl _) ToL.nil)) (by exact (BorL.cons (PV.bor_val _) BorL.nil))) (y := ?_)
  refine RunS.s1 (x := loc_neq (by decide) (by exact ⟨⟩) (by exact ⟨⟩)) (y := ?_)
  refine sw_cond (t := 9) rfl (fun hb1 => ?_) (fun hb1 => ?_)
  · try simp only [q1, q2, q3, q4, q5, q6, q7, q8, q9] at hb1
    refine sw_seq ?_
    refine sw_of (l := [(2, RV.ptr 2 0), (3, RV.ptr 3 0), (4, RV.sv false [PV.val _])]) (b := [(2, (73, [PV.val _, PV.val _, PV.val _])), (3, (73, [PV.val _, PV.val _, PV.val _]))]) (by exact ⟨rfl, rfl, rfl, ⟨⟩⟩) (by exact ⟨rfl, rfl, ⟨⟩⟩) ?_
    refine sw_reg ?_
    refine RunS.s1 (x := loc_const (.inr rfl) (by decide) (ok_sc rfl)) (y := ?_)
    refine sw_ret ?_
    exact (And.intro (by refine bool_eq ?_; exact (deq_false (fun e => by subst e; simp_all [deq_self])).symm) True.intro)
  · try simp only [q1, q2, q3, q4, q5, q6, q7, q8, q9] at hb1
    refine sw_skip ?_
    refine sw_seq ?_
    refine sw_seq ?_
    refine sw_of (l := [(2, RV.ptr 2 0), (3, RV.ptr 3 0), (4, RV.sv false [PV.val _])]) (b := [(2, (73, [PV.val _, PV.val _, PV.val _])), (3, (73, [PV.val _, PV.val _, PV.val _]))]) (by exact ⟨rfl, rfl, rfl, ⟨⟩⟩) (by exact ⟨rfl, rfl, ⟨⟩⟩) ?_
    refine sw_reg ?_
    refine RunS.s1 (x := loc_field (by decide) fd_73_1) (y := ?_)
    refine RunS.s1 (x := loc_load (qs := [PV.val _]) (by decide) ty_3 (fun _ => rfl) (by exact Nat.le_of_ble_eq_true rfl) (by exact (ToL.cons (PV.To.refl _) ToL.nil)) (by exact (BorL.cons (PV.bor_val _) BorL.nil))) (y := ?_)
    refine RunS.s1 (x := loc_field (by decide) fd_73_1) (y := ?_)
    refine RunS.s1 (x := loc_load (qs := [PV.val _]) (by decide) ty_3 (fun _ => rfl) (by exact Nat.le_of_ble_eq_true rfl) (by exact (ToL.cons (PV.To.refl _) ToL.nil)) (by exact (BorL.cons (PV.bor_val _) BorL.nil))) (y := ?_)
    refine RunS.s1 (x := loc_neq (by decide) (by exact ⟨⟩) (by exact ⟨⟩)) (y := ?_)
    refine sw_cond (t := 14) rfl (fun hb2 => ?_) (fun hb2 => ?_)
    · try simp only [q1, q2, q3, q4, q5, q6, q7, q8, q9] at hb2
      refine sw_seq ?_
      refine sw_of (l := [(2, RV.ptr 2 0), (3, RV.ptr 3 0), (4, RV.sv false [PV.val _])]) (b := [(2, (73, [PV.val _, PV.val _, PV.val _])), (3, (73, [PV.val _, PV.val _, PV.val _]))]) (by exact ⟨rfl, rfl, rfl, ⟨⟩⟩) (by exact ⟨rfl, rfl, ⟨⟩⟩) ?_
      refine sw_reg ?_
      refine RunS.s1 (x := loc_const (.inr rfl) (by decide) (ok_sc rfl)) (y := ?_)
      refine sw_ret ?_
      exact (And.intro (by refine bool_eq ?_; exact (deq_false (fun e => by subst e; simp_all [deq_self])).symm) True.intro)
    · try simp only [q1, q2, q3, q4, q5, q6, q7, q8, q9] at hb2
      refine sw_skip ?_
      refine sw_seq ?_
      refine sw_seq ?_
      refine sw_of (l := [(2, RV.ptr 2 0), (3, RV.ptr 3 0), (4, RV.sv false [PV.val _])]) (b := [(2, (73, [PV.val _, PV.val _, PV.val _])), (3, (73, [PV.val _, PV.val _, PV.val _]))]) (by exact ⟨rfl, rfl, rfl, ⟨⟩⟩) (by exact ⟨rfl, rfl, ⟨⟩⟩) ?_
      refine sw_reg ?_
      refine RunS.s1 (x := loc_field (by decide) fd_73_2) (y := ?_)
      refine RunS.s1 (x := loc_load (qs := [PV.val _]) (by decide) ty_3 (fun _ => rfl) (by exact Nat.le_of_ble_eq_true rfl) (by exact (ToL.cons (PV.To.refl _) ToL.nil)) (by exact (BorL.cons (PV.bor_val _) BorL.nil))) (y := ?_)
      refine RunS.s1 (x := loc_field (by decide) fd_73_2) (y := ?_)
      refine RunS.s1 (x := loc_load (qs := [PV.val _]) (by decide) ty_3 (fun _ => rfl) (by exact Nat.le_of_ble_eq_true rfl) (by exact (ToL.cons (PV.To.refl _) ToL.nil)) (by exact (BorL.cons (PV.bor_val _) BorL.nil))) (y := ?_)
      refine RunS.s1 (x := loc_neq (by decide) (by exact ⟨⟩) (by exact ⟨⟩)) (y := ?_)
      refine sw_cond (t := 19) rfl (fun hb3 => ?_) (fun hb3 => ?_)
      · try simp only [q1, q2, q3, q4, q5, q6, q7, q8, q9] at hb3
        refine sw_seq ?_
        refine sw_of (l := [(2, RV.ptr 2 0), (3, RV.ptr 3 0), (4, RV.sv false [PV.val _])]) (b := [(2, (73, [PV.val _, PV.val _, PV.val _])), (3, (73, [PV.val _, PV.val _, PV.val _]))]) (by exact ⟨rfl, rfl, rfl, ⟨⟩⟩) (by exact ⟨rfl, rfl, ⟨⟩⟩) ?_
        refine sw_reg ?_
        refine RunS.s1 (x := loc_const (.inr rfl) (by decide) (ok_sc rfl)) (y := ?_)
        refine sw_ret ?_
        exact (And.intro (by refine bool_eq ?_; exact (deq_false (fun e => by subst e; simp_all [deq_self])).symm) True.intro)
      · try simp only [q1, q2, q3, q4, q5, q6, q7, q8, q9] at hb3
        refine sw_skip ?_
        refine sw_seq ?_
        refine sw_of (l := [(2, RV.ptr 2 0), (3, RV.ptr 3 0), (4, RV.sv false [PV.val _])]) (b := [(2, (73, [PV.val _, PV.val _, PV.val _])), (3, (73, [PV.val _, PV.val _, PV.val _]))]) (by exact ⟨rfl, rfl, rfl, ⟨⟩⟩) (by exact ⟨rfl, rfl, ⟨⟩⟩) ?_
        refine sw_reg ?_
        refine RunS.s1 (x := loc_const (.inr rfl) (by decide) (ok_sc rfl)) (y := ?_)
        refine sw_ret ?_
        exact (And.intro (by refine bool_eq ?_; exact (deq_true (by apply ext_Cond <;> simp_all [deq_iff])).symm) True.intro)
theorem eq_Row {x : Row} {y : Row}  : SCall Try.prog 124 [(true, [PV.val (vI x.Id), PV.sl .v (x.Values.map cInt)]), (true, [PV.val (vI y.Id), PV.sl .v (y.Values.map cInt)])] (resRV [(false, [PV.val (.bool (deq x y))])]) := by
  refine scall_of (rs := [(false, [PV.val (.bool (deq x y))])]) Try.func124 rfl (Nat.le_of_ble_eq_true rfl) (borA_cons (BorL.cons (PV.bor_val _) (BorL.cons (PV.bor_sl _) BorL.nil)) (borA_cons (BorL.cons (PV.bor_val _) (BorL.cons (PV.bor_sl _) BorL.nil)) borA_nil)) ?_
  intro h0 w0 Fz0
  refine sw_slen (s := 0) (j := 1) rfl rfl fun hl0_1 => ?_
  try rw [List.length_map] at hl0_1
  refine sw_slen (s := 1) (j := 1) rfl rfl fun hl1_1 => ?_
  try rw [List.length_map] at hl1_1
  refine sw_seq ?_
  refine sw_reg ?_
  refine RunS.step (by exact ⟨rfl, ⟨⟩⟩) (by exact ⟨⟩) (LocG.of rfl (loc_box (ag := true) (cs := [PV.val _, PV.sl _ _]) (by decide) (by exact ⟨⟩))) (free1 (Free.of_ rfl)) ?_
  refine RunS.step (by exact ⟨rfl, ⟨⟩⟩) (by exact ⟨⟩) (LocG.of rfl (loc_box (ag := true) (cs := [PV.val _, PV.sl _ _]) (by decide) (by exact ⟨⟩))) (free1 (Free.app (Free.of_ rfl) rfl)) ?_
  refine RunS.s1 (x := loc_const (.inr rfl) (by decide) (ok_sc rfl)) (y := ?_)
  refine sw_seq ?_
  refine sw_seq ?_
  refine sw_of (l := [(2, RV.ptr 2 0), (3, RV.ptr 3 0), (4, RV.sv false [PV.val _])]) (b := [(2, (77, [PV.val _, PV.sl _ _])), (3, (77, [PV.val _, PV.sl _ _]))]) (by exact ⟨rfl, rfl, rfl, ⟨⟩⟩) (by exact ⟨rfl, rfl, ⟨⟩⟩) ?_
  refine sw_reg ?_
  refine RunS.s1 (x := loc_field (by decide) fd_77_0) (y := ?_)
  refine RunS.s1 (x := loc_load (qs := [PV.val _]) (by decide) ty_3 (fun _ => rfl) (by exact Nat.le_of_ble_eq_true rfl) (by exact (ToL.cons (PV.To.refl _) ToL.nil)) (by exact (BorL.cons (PV.bor_val _) BorL.nil))) (y := ?_)
  refine RunS.s1 (x := loc_field (by decide) fd_77_0) (y := ?_)
  refine RunS.s1 (x := loc_load (qs := [PV.val _]) (by decide) ty_3 (fun _ => rfl) (by exact Nat.le_of_ble_eq_true rfl) (by exact (ToL.cons (PV.To.refl _) ToL.nil)) (by exact (BorL.cons (PV.bor_val _) BorL.nil))) (y := ?_)
  refine RunS.s1 (x := loc_neq (by decide) (by exact ⟨⟩) (by exact ⟨⟩)) (y := ?_)
  refine sw_cond (t := 9) rfl (fun hb1 => ?_) (fun hb1 => ?_)
  · try simp only [q1, q2, q3, q4, q5, q6, q7, q8, q9] at hb1
    refine sw_seq ?_
    refine sw_of (l := [(2, RV.ptr 2 0), (3, RV.ptr 3 0), (4, RV.sv false [PV.val _])]) (b := [(2, (77, [PV.val _, PV.sl _ _])), (3, (77, [PV.val _, PV.sl _ _]))]) (by exact ⟨rfl, rfl, rfl, ⟨⟩⟩) (by exact ⟨rfl, rfl, ⟨⟩⟩) ?_
    refine sw_reg ?_
    refine RunS.s1 (x := loc_const (.inr rfl) (by decide) (ok_sc rfl)) (y := ?_)
    refine sw_ret ?_
    exact (And.intro (by refine bool_eq ?_; exact (deq_false (fun e => by subst e; simp_all [deq_self])).symm) True.intro)
  · try simp only [q1, q2, q3, q4, q5, q6, q7, q8, q9] at hb1
    refine sw_skip ?_
    refine sw_seq ?_
    refine sw_seq ?_
    refine sw_of (l := [(2, RV.ptr 2 0), (3, RV.ptr 3 0), (4, RV.sv false [PV.val _])]) (b := [(2, (77, [PV.val _, PV.sl _ _])), (3, (77, [PV.val _, PV.sl _ _]))]) (by exact ⟨rfl, rfl, rfl, ⟨⟩⟩) (by exact ⟨rfl, rfl, ⟨⟩⟩) ?_
    refine sw_reg ?_
    refine RunS.s1 (x := loc_field (by decide) fd_77_1) (y := ?_)
    refine RunS.s1 (x := loc_load (qs := [PV.sl .v _]) (by decide) ty_23 (fun _ => rfl) (by exact Nat.le_of_ble_eq_true rfl) (by exact (ToL.cons PV.to_none ToL.nil)) (by exact (BorL.cons (PV.bor_sl _) BorL.nil))) (y := ?_)
    refine RunS.s1 (x := loc_field (by decide) fd_77_1) (y := ?_)
    refine RunS.s1 (x := loc_load (qs := [PV.sl .v _]) (by decide) ty_23 (fun _ => rfl) (by exact Nat.le_of_ble_eq_true rfl) (by exact (ToL.cons PV.to_none ToL.nil)) (by exact (BorL.cons (PV.bor_sl _) BorL.nil))) (y := ?_)
    refine RunS.s1 (x := loc_call (qs := [(false, [PV.sl _ _]), (false, [PV.sl _ _])]) (as_ := [(false, [PV.sl .v _]), (false, [PV.sl .v _])]) (by decide) c_65 (by exact (And.intro (by exact ⟨⟩) (And.intro (by exact ⟨⟩) True.intro))) (by exact (And.intro (And.intro rfl (ToL.cons PV.to_none ToL.nil)) (And.intro (And.intro rfl (ToL.cons PV.to_none ToL.nil)) True.intro))) (by exact eq_IntS)) (y := ?_)
    refine RunS.s1 (x := loc_not (by decide)) (y := ?_)
    refine sw_cond (t := 15) rfl (fun hb2 => ?_) (fun hb2 => ?_)
    · try simp only [q1, q2, q3, q4, q5, q6, q7, q8, q9] at hb2
      refine sw_seq ?_
      refine sw_of (l := [(2, RV.ptr 2 0), (3, RV.ptr 3 0), (4, RV.sv false [PV.val _])]) (b := [(2, (77, [PV.val _, PV.sl _ _])), (3, (77, [PV.val _, PV.sl _ _]))]) (by exact ⟨rfl, rfl, rfl, ⟨⟩⟩) (by exact ⟨rfl, rfl, ⟨⟩⟩) ?_
      refine sw_reg ?_
      refine RunS.s1 (x := loc_const (.inr rfl) (by decide) (ok_sc rfl)) (y := ?_)
      refine sw_ret ?_
      exact (And.intro (by refine bool_eq ?_; exact (deq_false (fun e => by subst e; simp_all [deq_self])).symm) True.intro)
    · try simp only [q1, q2, q3, q4, q5, q6, q7, q8, q9] at hb2
      refine sw_skip ?_
      refine sw_seq ?_
      refine sw_of (l := [(2, RV.ptr 2 0), (3, RV.ptr 3 0), (4, RV.sv false [PV.val _])]) (b := [(2, (77, [PV.val _, PV.sl _ _])), (3, (77, [PV.val _, PV.sl _ _]))]) (by exact ⟨rfl, rfl, rfl, ⟨⟩⟩) (by exact ⟨rfl, rfl, ⟨⟩⟩) ?_
      refine sw_reg ?_
      refine RunS.s1 (x := loc_const (.inr rfl) (by decide) (ok_sc rfl)) (y := ?_)
      refine sw_ret ?_
      exact (And.intro (by refine bool_eq ?_; exact (deq_true (by apply ext_Row <;> simp_all [deq_iff])).symm) True.intro)
theorem eq_CondS {x : List Cond} {y : List Cond}  : SCall Try.prog 133 [(false, [PV.sl .v (x.map cCond)]), (false, [PV.sl .v (y.map cCond)])] (resRV [(false, [PV.val (.bool (deq x y))])]) := by
  refine scall_of (rs := [(false, [PV.val (.bool (deq x y))])]) Try.func133 rfl (Nat.le_of_ble_eq_true rfl) (borA_cons (BorL.cons (PV.bor_sl _) BorL.nil) (borA_cons (BorL.cons (PV.bor_sl _) BorL.nil) borA_nil)) ?_
  intro h0 w0 Fz0
  refine sw_len (s := 0) rfl fun hl0 => ?_
  try rw [List.length_map] at hl0
  refine sw_len (s := 1) rfl fun hl1 => ?_
  try rw [List.length_map] at hl1
  refine sw_seq ?_
  refine sw_reg ?_
  refine RunS.s1 (x := loc_const (.inr rfl) (by decide) (ok_sc rfl)) (y := ?_)
  refine sw_seq ?_
  refine sw_seq ?_
  refine sw_of (l := [(0, RV.sv false [PV.sl _ _]), (1, RV.sv false [PV.sl _ _]), (4, RV.sv false [PV.val _])]) (b := []) (by exact ⟨rfl, rfl, rfl, ⟨⟩⟩) (by exact ⟨⟩) ?_
  refine sw_reg ?_
  refine RunS.s1 (x := loc_copy (r' := RV.sv false [PV.sl .v _]) (.inl rfl) (by decide) (by exact Cp.sv (ToL.cons PV.to_none ToL.nil) (BorL.cons (PV.bor_sl _) BorL.nil))) (y := ?_)
  refine RunS.s1 (x := loc_len (by decide) sl_32 (by first | exact List.length_map _ | exact rfl)) (y := ?_)
  refine RunS.s1 (x := loc_copy (r' := RV.sv false [PV.sl .v _]) (.inl rfl) (by decide) (by exact Cp.sv (ToL.cons PV.to_none ToL.nil) (BorL.cons (PV.bor_sl _) BorL.nil))) (y := ?_)
  refine RunS.s1 (x := loc_len (by decide) sl_32 (by first | exact List.length_map _ | exact rfl)) (y := ?_)
  refine RunS.s1 (x := loc_neq (by decide) (by exact ⟨⟩) (by exact ⟨⟩)) (y := ?_)
  refine sw_cond (t := 10) rfl (fun hb1 => ?_) (fun hb1 => ?_)
  · try simp only [q1, q2, q3, q4, q5, q6, q7, q8, q9] at hb1
    refine sw_seq ?_
    refine sw_of (l := [(0, RV.sv false [PV.sl _ _]), (1, RV.sv false [PV.sl _ _]), (4, RV.sv false [PV.val _])]) (b := []) (by exact ⟨rfl, rfl, rfl, ⟨⟩⟩) (by exact ⟨⟩) ?_
    refine sw_reg ?_
    refine RunS.s1 (x := loc_const (.inr rfl) (by decide) (ok_sc rfl)) (y := ?_)
    refine sw_ret ?_
    exact (And.intro (by refine bool_eq ?_; exact (deq_false (fun e => by subst e; omega)).symm) True.intro)
  · try simp only [q1, q2, q3, q4, q5, q6, q7, q8, q9] at hb1
    have hl : x.length = y.length := by omega
    refine sw_skip ?_
    refine sw_seq ?_
    refine sw_seq ?_
    refine sw_of (l := [(0, RV.sv false [PV.sl _ _]), (1, RV.sv false [PV.sl _ _]), (4, RV.sv false [PV.val _])]) (b := []) (by exact ⟨rfl, rfl, rfl, ⟨⟩⟩) (by exact ⟨⟩) ?_
    refine sw_reg ?_
    refine RunS.s1 (x := loc_const (.inr rfl) (by decide) (ok_sc rfl)) (y := ?_)
    refine sw_block ?_
    refine sw_of (l := [(0, RV.sv false [PV.sl _ _]), (1, RV.sv false [PV.sl _ _]), (4, RV.sv false [PV.val _]), (5, RV.sv false [PV.val _])]) (b := []) (by exact ⟨rfl, rfl, rfl, rfl, ⟨⟩⟩) (by exact ⟨⟩) ?_
    refine sw_loop (l0 := [(0, RV.sv false [PV.sl _ _]), (1, RV.sv false [PV.sl _ _])]) (b0 := []) (fun k : Nat => k ≤ x.length ∧ x.take k = y.take k) (fun k : Nat => [(5, RV.int (k : Int))]) (fun k : Nat => []) (fun k : Nat => x.length - k) 0 (by exact ⟨by omega, by simp⟩) (by exact ⟨rfl, rfl, ⟨⟩⟩) (by exact ⟨⟩) (by exact And.intro (by exact rfl) (True.intro)) (by exact ⟨⟩) ?_
    rintro k ⟨hk, ha⟩
    refine sw_seq ?_
    refine sw_seq ?_
    refine sw_reg ?_
    refine RunS.s1 (x := loc_copy (.inl rfl) (by decide) (by exact Cp.sc)) (y := ?_)
    refine RunS.s1 (x := loc_copy (r' := RV.sv false [PV.sl .v _]) (.inl rfl) (by decide) (by exact Cp.sv (ToL.cons PV.to_none ToL.nil) (BorL.cons (PV.bor_sl _) BorL.nil))) (y := ?_)
    refine RunS.s1 (x := loc_len (by decide) sl_32 (by first | exact List.length_map _ | exact rfl)) (y := ?_)
    refine RunS.s1 (x := loc_lss (by decide) (by exact ⟨⟩) (by exact ⟨⟩)) (y := ?_)
    refine sw_cond (t := 14) rfl (fun hb2 => ?_) (fun hb2 => ?_)
    · try simp only [q1, q2, q3, q4, q5, q6, q7, q8, q9] at hb2
      have hlt : k < x.length := by omega
      have hlt2 : k < y.length := by omega
      refine sw_skip ?_
      refine sw_seq ?_
      refine sw_block ?_
      refine sw_seq ?_
      refine sw_of (l := [(0, RV.sv false [PV.sl _ _]), (1, RV.sv false [PV.sl _ _]), (5, RV.sv false [PV.val _])]) (b := []) (by exact ⟨rfl, rfl, rfl, ⟨⟩⟩) (by exact ⟨⟩) ?_
      refine sw_draw hm_ ?_
      refine Run.step 0 (by exact ⟨rfl, ⟨⟩⟩) (by exact ⟨⟩) (LocG.of rfl (loc_copy (r' := RV.sv false [PV.sl .v _]) (.inl rfl) (by decide) (by exact Cp.sv (ToL.cons PV.to_none ToL.nil) (BorL.cons (PV.bor_sl _) BorL.nil)))) nofree (by kernel_rfl) ?_
      refine Run.step 0 (by exact ⟨rfl, ⟨⟩⟩) (by exact ⟨⟩) (LocG.of rfl (loc_copy (.inl rfl) (by decide) (by exact Cp.sc))) nofree (by kernel_rfl) ?_
      refine Run.step 3 (by exact ⟨rfl, rfl, ⟨⟩⟩) (by exact ⟨⟩) (LocG.of rfl (loc_index (by decide) sl_32 (by exact ⟨⟩) (by exact rfl) (by exact getm2 (by omega) rfl) (by exact rfl))) nofree (by kernel_rfl) ?_
      refine Run.step 7 (by exact ⟨rfl, ⟨⟩⟩) (by exact ⟨⟩) (LocG.of rfl (loc_eload (qs := [PV.val _, PV.val _, PV.val _]) (by decide) ty_73 (fun h => nomatch h) (by exact Nat.le_of_ble_eq_true rfl) (by exact (ToL.cons (PV.To.refl _) (ToL.cons (PV.To.refl _) (ToL.cons (PV.To.refl _) ToL.nil)))) (by exact (BorL.cons (PV.bor_val _) (BorL.cons (PV.bor_val _) (BorL.cons (PV.bor_val _) BorL.nil)))))) nofree (by kernel_rfl) ?_
      refine Run.step 0 (by exact ⟨rfl, ⟨⟩⟩) (by exact ⟨⟩) (LocG.of rfl (loc_copy (r' := RV.sv false [PV.sl .v _]) (.inl rfl) (by decide) (by exact Cp.sv (ToL.cons PV.to_none ToL.nil) (BorL.cons (PV.bor_sl _) BorL.nil)))) nofree (by kernel_rfl) ?_
      refine Run.step 0 (by exact ⟨rfl, ⟨⟩⟩) (by exact ⟨⟩) (LocG.of rfl (loc_copy (.inl rfl) (by decide) (by exact Cp.sc))) nofree (by kernel_rfl) ?_
      refine Run.step 48 (by exact ⟨rfl, rfl, ⟨⟩⟩) (by exact ⟨⟩) (LocG.of rfl (loc_index (by decide) sl_32 (by exact ⟨⟩) (by exact rfl) (by exact getm2 (by omega) rfl) (by exact rfl))) nofree (by kernel_rfl) ?_
      refine Run.step 112 (by exact ⟨rfl, ⟨⟩⟩) (by exact ⟨⟩) (LocG.of rfl (loc_eload (qs := [PV.val _, PV.val _, PV.val _]) (by decide) ty_73 (fun h => nomatch h) (by exact Nat.le_of_ble_eq_true rfl) (by exact (ToL.cons (PV.To.refl _) (ToL.cons (PV.To.refl _) (ToL.cons (PV.To.refl _) ToL.nil)))) (by exact (BorL.cons (PV.bor_val _) (BorL.cons (PV.bor_val _) (BorL.cons (PV.bor_val _) BorL.nil)))))) nofree (by kernel_rfl) ?_
      refine Run.step 255 (by exact ⟨rfl, rfl, ⟨⟩⟩) (by exact ⟨⟩) (LocG.of rfl (loc_call (qs := [(true, [PV.val _, PV.val _, PV.val _]), (true, [PV.val _, PV.val _, PV.val _])]) (as_ := [(true, [PV.val _, PV.val _, PV.val _]), (true, [PV.val _, PV.val _, PV.val _])]) (by decide) c_188 (by exact (And.intro (by exact ⟨⟩) (And.intro (by exact ⟨⟩) True.intro))) (by exact (And.intro (And.intro rfl (ToL.cons (PV.To.refl _) (ToL.cons (PV.To.refl _) (ToL.cons (PV.To.refl _) ToL.nil)))) (And.intro (And.intro rfl (ToL.cons (PV.To.refl _) (ToL.cons (PV.To.refl _) (ToL.cons (PV.To.refl _) ToL.nil)))) True.intro))) (by exact eq_Cond))) nofree (by kernel_rfl) ?_
      refine Run.step 511 (by exact ⟨rfl, ⟨⟩⟩) (by exact ⟨⟩) (LocG.of rfl (loc_not (by decide))) nofree (by kernel_rfl) ?_
      refine sw_cond (t := 26) rfl (fun hb3 => ?_) (fun hb3 => ?_)
      · try simp only [q1, q2, q3, q4, q5, q6, q7, q8, q9] at hb3
        have hne : x[k] ≠ y[k] := by intro hxy; rw [hxy, deq_self] at hb3; simp at hb3
        refine sw_seq ?_
        refine sw_of (l := [(0, RV.sv false [PV.sl _ _]), (1, RV.sv false [PV.sl _ _]), (5, RV.sv false [PV.val _])]) (b := []) (by exact ⟨rfl, rfl, rfl, ⟨⟩⟩) (by exact ⟨⟩) ?_
        refine sw_reg ?_
        refine RunS.s1 (x := loc_const (.inr rfl) (by decide) (ok_sc rfl)) (y := ?_)
        refine sw_ret ?_
        exact (And.intro (by refine bool_eq ?_; exact (deq_false (eq_no hlt hlt2 hne)).symm) True.intro)
      · try simp only [q1, q2, q3, q4, q5, q6, q7, q8, q9] at hb3
        have heq : x[k] = y[k] := by exact deq_iff.1 (by simpa using hb3)
        refine sw_skip ?_
        refine sw_of (l := [(0, RV.sv false [PV.sl _ _]), (1, RV.sv false [PV.sl _ _]), (5, RV.sv false [PV.val _])]) (b := []) (by exact ⟨rfl, rfl, rfl, ⟨⟩⟩) (by exact ⟨⟩) ?_
        refine sw_reg ?_
        refine RunS.s1 (x := loc_copy (.inl rfl) (by decide) (by exact Cp.sc)) (y := ?_)
        refine RunS.s1 (x := loc_add (by decide) (by exact ⟨⟩) (ok_sc rfl) (by unfold I64; omega)) (y := ?_)
        refine RunS.s1 (x := loc_copy (.inr rfl) (by decide) (by exact Cp.sc)) (y := ?_)
        refine Exists.intro (k + 1) (And.intro (by exact ⟨by omega, eq_succ ha hlt hlt2 heq⟩) (And.intro (by omega) (And.intro (And.intro (by exact ⟨rfl, rfl, ⟨⟩⟩) (by exact ⟨⟩)) (And.intro (by exact And.intro (by exact rfl) (True.intro)) (by exact ⟨⟩)))))
    · try simp only [q1, q2, q3, q4, q5, q6, q7, q8, q9] at hb2
      refine sw_exit ?_
      refine sw_seq ?_
      refine sw_of (l := [(0, RV.sv false [PV.sl _ _]), (1, RV.sv false [PV.sl _ _]), (5, RV.sv false [PV.val _])]) (b := []) (by exact ⟨rfl, rfl, rfl, ⟨⟩⟩) (by exact ⟨⟩) ?_
      refine sw_reg ?_
      refine RunS.s1 (x := loc_const (.inr rfl) (by decide) (ok_sc rfl)) (y := ?_)
      refine sw_ret ?_
      exact (And.intro (by refine bool_eq ?_; exact (deq_true (eq_end hl (by rw [show x.length = k by omega]; exact ha))).symm) True.intro)
theorem eq_RowS {p1 p3 : Fl} {x : List Row} {y : List Row}  : SCall Try.prog 42 [(false, [PV.sl .v (x.map (cRow p1))]), (false, [PV.sl .v (y.map (cRow p3))])] (resRV [(false, [PV.val (.bool (deq x y))])]) := by
  refine scall_of (rs := [(false, [PV.val (.bool (deq x y))])]) Try.func42 rfl (Nat.le_of_ble_eq_true rfl) (borA_cons (BorL.cons (PV.bor_sl _) BorL.nil) (borA_cons (BorL.cons (PV.bor_sl _) BorL.nil) borA_nil)) ?_
  intro h0 w0 Fz0
  refine sw_len (s := 0) rfl fun hl0 => ?_
  try rw [List.length_map] at hl0
  refine sw_len (s := 1) rfl fun hl1 => ?_
  try rw [List.length_map] at hl1
  refine sw_seq ?_
  refine sw_reg ?_
  refine RunS.s1 (x := loc_const (.inr rfl) (by decide) (ok_sc rfl)) (y := ?_)
  refine sw_seq ?_
  refine sw_seq ?_
  refine sw_of (l := [(0, RV.sv false [PV.sl _ _]), (1, RV.sv false [PV.sl _ _]), (4, RV.sv false [PV.val _])]) (b := []) (by exact ⟨rfl, rfl, rfl, ⟨⟩⟩) (by exact ⟨⟩) ?_
  refine sw_reg ?_
  refine RunS.s1 (x := loc_copy (r' := RV.sv false [PV.sl .v _]) (.inl rfl) (by decide) (by exact Cp.sv (ToL.cons PV.to_none ToL.nil) (BorL.cons (PV.bor_sl _) BorL.nil))) (y := ?_)
  refine RunS.s1 (x := loc_len (by decide) sl_53 (by first | exact List.length_map _ | exact rfl)) (y := ?_)
  refine RunS.s1 (x := loc_copy (r' := RV.sv false [PV.sl .v _]) (.inl rfl) (by decide) (by exact Cp.sv (ToL.cons PV.to_none ToL.nil) (BorL.cons (PV.bor_sl _) BorL.nil))) (y := ?_)
  refine RunS.s1 (x := loc_len (by decide) sl_53 (by first | exact List.length_map _ | exact rfl)) (y := ?_)
  refine RunS.s1 (x := loc_neq (by decide) (by exact ⟨⟩) (by exact ⟨⟩)) (y := ?_)
  refine sw_cond (t := 10) rfl (fun hb1 => ?_) (fun hb1 => ?_)
  · try simp only [q1, q2, q3, q4, q5, q6, q7, q8, q9] at hb1
    refine sw_seq ?_
    refine sw_of (l := [(0, RV.sv false [PV.sl _ _]), (1, RV.sv false [PV.sl _ _]), (4, RV.sv false [PV.val _])]) (b := []) (by exact ⟨rfl, rfl, rfl, ⟨⟩⟩) (by exact ⟨⟩) ?_
    refine sw_reg ?_
    refine RunS.s1 (x := loc_const (.inr rfl) (by decide) (ok_sc rfl)) (y := ?_)
    refine sw_ret ?_
    exact (And.intro (by refine bool_eq ?_; exact (deq_false (fun e => by subst e; omega)).symm) True.intro)
  · try simp only [q1, q2, q3, q4, q5, q6, q7, q8, q9] at hb1
    have hl : x.length = y.length := by omega
    refine sw_skip ?_
    refine sw_seq ?_
    refine sw_seq ?_
    refine sw_of (l := [(0, RV.sv false [PV.sl _ _]), (1, RV.sv false [PV.sl _ _]), (4, RV.sv false [PV.val _])]) (b := []) (by exact ⟨rfl, rfl, rfl, ⟨⟩⟩) (by exact ⟨⟩) ?_
    refine sw_reg ?_
    refine RunS.s1 (x := loc_const (.inr rfl) (by decide) (ok_sc rfl)) (y := ?_)
    refine sw_block ?_
    refine sw_of (l := [(0, RV.sv false [PV.sl _ _]), (1, RV.sv false [PV.sl _ _]), (4, RV.sv false [PV.val _]), (5, RV.sv false [PV.val _])]) (b := []) (by exact ⟨rfl, rfl, rfl, rfl, ⟨⟩⟩) (by exact ⟨⟩) ?_
    refine sw_loop (l0 := [(0, RV.sv false [PV.sl _ _]), (1, RV.sv false [PV.sl _ _])]) (b0 := []) (fun k : Nat => k ≤ x.length ∧ x.take k = y.take k) (fun k : Nat => [(5, RV.int (k : Int))]) (fun k : Nat => []) (fun k : Nat => x.length - k) 0 (by exact ⟨by omega, by simp⟩) (by exact ⟨rfl, rfl, ⟨⟩⟩) (by exact ⟨⟩) (by exact And.intro (by exact rfl) (True.intro)) (by exact ⟨⟩) ?_
    rintro k ⟨hk, ha⟩
    refine sw_seq ?_
    refine sw_seq ?_
    refine sw_reg ?_
    refine RunS.s1 (x := loc_copy (.inl rfl) (by decide) (by exact Cp.sc)) (y := ?_)
    refine RunS.s1 (x := loc_copy (r' := RV.sv false [PV.sl .v _]) (.inl rfl) (by decide) (by exact Cp.sv (ToL.cons PV.to_none ToL.nil) (BorL.cons (PV.bor_sl _) BorL.nil))) (y := ?_)
    refine RunS.s1 (x := loc_len (by decide) sl_53 (by first | exact List.length_map _ | exact rfl)) (y := ?_)
    refine RunS.s1 (x := loc_lss (by decide) (by exact ⟨⟩) (by exact ⟨⟩)) (y := ?_)
    refine sw_cond (t := 14) rfl (fun hb2 => ?_) (fun hb2 => ?_)
    · try simp only [q1, q2, q3, q4, q5, q6, q7, q8, q9] at hb2
      have hlt : k < x.length := by omega
      have hlt2 : k < y.length := by omega
      refine sw_skip ?_
      refine sw_seq ?_
      refine sw_block ?_
      refine sw_seq ?_
      refine sw_of (l := [(0, RV.sv false [PV.sl _ _]), (1, RV.sv false [PV.sl _ _]), (5, RV.sv false [PV.val _])]) (b := []) (by exact ⟨rfl, rfl, rfl, ⟨⟩⟩) (by exact ⟨⟩) ?_
      refine sw_draw hm_ ?_
      refine Run.step 0 (by exact ⟨rfl, ⟨⟩⟩) (by exact ⟨⟩) (LocG.of rfl (loc_copy (r' := RV.sv false [PV.sl .v _]) (.inl rfl) (by decide) (by exact Cp.sv (ToL.cons PV.to_none ToL.nil) (BorL.cons (PV.bor_sl _) BorL.nil)))) nofree (by kernel_rfl) ?_
      refine Run.step 0 (by exact ⟨rfl, ⟨⟩⟩) (by exact ⟨⟩) (LocG.of rfl (loc_copy (.inl rfl) (by decide) (by exact Cp.sc))) nofree (by kernel_rfl) ?_
      refine Run.step 3 (by exact ⟨rfl, rfl, ⟨⟩⟩) (by exact ⟨⟩) (LocG.of rfl (loc_index (by decide) sl_53 (by exact ⟨⟩) (by exact rfl) (by exact getm2 (by omega) rfl) (by exact rfl))) nofree (by kernel_rfl) ?_
      refine Run.step 7 (by exact ⟨rfl, ⟨⟩⟩) (by exact ⟨⟩) (LocG.of rfl (loc_eload (qs := [PV.val _, PV.sl .v _]) (by decide) ty_77 (fun h => nomatch h) (by exact Nat.le_of_ble_eq_true rfl) (by exact (ToL.cons (PV.To.refl _) (ToL.cons PV.to_none ToL.nil))) (by exact (BorL.cons (PV.bor_val _) (BorL.cons (PV.bor_sl _) BorL.nil))))) nofree (by kernel_rfl) ?_
      refine Run.step 0 (by exact ⟨rfl, ⟨⟩⟩) (by exact ⟨⟩) (LocG.of rfl (loc_copy (r' := RV.sv false [PV.sl .v _]) (.inl rfl) (by decide) (by exact Cp.sv (ToL.cons PV.to_none ToL.nil) (BorL.cons (PV.bor_sl _) BorL.nil)))) nofree (by kernel_rfl) ?_
      refine Run.step 0 (by exact ⟨rfl, ⟨⟩⟩) (by exact ⟨⟩) (LocG.of rfl (loc_copy (.inl rfl) (by decide) (by exact Cp.sc))) nofree (by kernel_rfl) ?_
      refine Run.step 48 (by exact ⟨rfl, rfl, ⟨⟩⟩) (by exact ⟨⟩) (LocG.of rfl (loc_index (by decide) sl_53 (by exact ⟨⟩) (by exact rfl) (by exact getm2 (by omega) rfl) (by exact rfl))) nofree (by kernel_rfl) ?_
      refine Run.step 112 (by exact ⟨rfl, ⟨⟩⟩) (by exact ⟨⟩) (LocG.of rfl (loc_eload (qs := [PV.val _, PV.sl .v _]) (by decide) ty_77 (fun h => nomatch h) (by exact Nat.le_of_ble_eq_true rfl) (by exact (ToL.cons (PV.To.refl _) (ToL.cons PV.to_none ToL.nil))) (by exact (BorL.cons (PV.bor_val _) (BorL.cons (PV.bor_sl _) BorL.nil))))) nofree (by kernel_rfl) ?_
      refine Run.step 255 (by exact ⟨rfl, rfl, ⟨⟩⟩) (by exact ⟨⟩) (LocG.of rfl (loc_call (qs := [(true, [PV.val _, PV.sl _ _]), (true, [PV.val _, PV.sl _ _])]) (as_ := [(true, [PV.val _, PV.sl .v _]), (true, [PV.val _, PV.sl .v _])]) (by decide) c_124 (by exact (And.intro (by exact ⟨⟩) (And.intro (by exact ⟨⟩) True.intro))) (by exact (And.intro (And.intro rfl (ToL.cons (PV.To.refl _) (ToL.cons PV.to_none ToL.nil))) (And.intro (And.intro rfl (ToL.cons (PV.To.refl _) (ToL.cons PV.to_none ToL.nil))) True.intro))) (by exact eq_Row))) nofree (by kernel_rfl) ?_
      refine Run.step 511 (by exact ⟨rfl, ⟨⟩⟩) (by exact ⟨⟩) (LocG.of rfl (loc_not (by decide))) nofree (by kernel_rfl) ?_
      refine sw_cond (t := 26) rfl (fun hb3 => ?_) (fun hb3 => ?_)
      · try simp only [q1, q2, q3, q4, q5, q6, q7, q8, q9] at hb3
        have hne : x[k] ≠ y[k] := by intro hxy; rw [hxy, deq_self] at hb3; simp at hb3
        refine sw_seq ?_
        refine sw_of (l := [(0, RV.sv false [PV.sl _ _]), (1, RV.sv false [PV.sl _ _]), (5, RV.sv false [PV.val _])]) (b := []) (by exact ⟨rfl, rfl, rfl, ⟨⟩⟩) (by exact ⟨⟩) ?_
        refine sw_reg ?_
        refine RunS.s1 (x := loc_const (.inr rfl) (by decide) (ok_sc rfl)) (y := ?_)
        refine sw_ret ?_
        exact (And.intro (by refine bool_eq ?_; exact (deq_false (eq_no hlt hlt2 hne)).symm) True.intro)
      · try simp only [q1, q2, q3, q4, q5, q6, q7, q8, q9] at hb3
        have heq : x[k] = y[k] := by exact deq_iff.1 (by simpa using hb3)
        refine sw_skip ?_
        refine sw_of (l := [(0, RV.sv false [PV.sl _ _]), (1, RV.sv false [PV.sl _ _]), (5, RV.sv false [PV.val _])]) (b := []) (by exact ⟨rfl, rfl, rfl, ⟨⟩⟩) (by exact ⟨⟩) ?_
        refine sw_reg ?_
        refine RunS.s1 (x := loc_copy (.inl rfl) (by decide) (by exact Cp.sc)) (y := ?_)
        refine RunS.s1 (x := loc_add (by decide) (by exact ⟨⟩) (ok_sc rfl) (by unfold I64; omega)) (y := ?_)
        refine RunS.s1 (x := loc_copy (.inr rfl) (by decide) (by exact Cp.sc)) (y := ?_)
        refine Exists.intro (k + 1) (And.intro (by exact ⟨by omega, eq_succ ha hlt hlt2 heq⟩) (And.intro (by omega) (And.intro (And.intro (by exact ⟨rfl, rfl, ⟨⟩⟩) (by exact ⟨⟩)) (And.intro (by exact And.intro (by exact rfl) (True.intro)) (by exact ⟨⟩)))))
    · try simp only [q1, q2, q3, q4, q5, q6, q7, q8, q9] at hb2
      refine sw_exit ?_
      refine sw_seq ?_
      refine sw_of (l := [(0, RV.sv false [PV.sl _ _]), (1, RV.sv false [PV.sl _ _]), (5, RV.sv false [PV.val _])]) (b := []) (by exact ⟨rfl, rfl, rfl, ⟨⟩⟩) (by exact ⟨⟩) ?_
      refine sw_reg ?_
      refine RunS.s1 (x := loc_const (.inr rfl) (by decide) (ok_sc rfl)) (y := ?_)
      refine sw_ret ?_
      exact (And.intro (by refine bool_eq ?_; exact (deq_true (eq_end hl (by rw [show x.length = k by omega]; exact ha))).symm) True.intro)
theorem eq_Query {x : Query} {y : Query}  : SCall Try.prog 62 [(true, [PV.val (vI x.Id), PV.val (vI x.Tenant), PV.sl .v (x.Conds.map cCond), PV.sl .v (x.Out.map cInt)]), (true, [PV.val (vI y.Id), PV.val (vI y.Tenant), PV.sl .v (y.Conds.map cCond), PV.sl .v (y.Out.map cInt)])] (resRV [(false, [PV.val (.bool (deq x y))])]) := by
  refine scall_of (rs := [(false, [PV.val (.bool (deq x y))])]) Try.func62 rfl (Nat.le_of_ble_eq_true rfl) (borA_cons (BorL.cons (PV.bor_val _) (BorL.cons (PV.bor_val _) (BorL.cons (PV.bor_sl _) (BorL.cons (PV.bor_sl _) BorL.nil)))) (borA_cons (BorL.cons (PV.bor_val _) (BorL.cons (PV.bor_val _) (BorL.cons (PV.bor_sl _) (BorL.cons (PV.bor_sl _) BorL.nil)))) borA_nil)) ?_
  intro h0 w0 Fz0
  refine sw_slen (s := 0) (j := 2) rfl rfl fun hl0_2 => ?_
  try rw [List.length_map] at hl0_2
  refine sw_slen (s := 0) (j := 3) rfl rfl fun hl0_3 => ?_
  try rw [List.length_map] at hl0_3
  refine sw_slen (s := 1) (j := 2) rfl rfl fun hl1_2 => ?_
  try rw [List.length_map] at hl1_2
  refine sw_slen (s := 1) (j := 3) rfl rfl fun hl1_3 => ?_
  try rw [List.length_map] at hl1_3
  refine sw_seq ?_
  refine sw_reg ?_
  refine RunS.step (by exact ⟨rfl, ⟨⟩⟩) (by exact ⟨⟩) (LocG.of rfl (loc_box (ag := true) (cs := [PV.val _, PV.val _, PV.sl _ _, PV.sl _ _]) (by decide) (by exact ⟨⟩))) (free1 (Free.of_ rfl)) ?_
  refine RunS.step (by exact ⟨rfl, ⟨⟩⟩) (by exact ⟨⟩) (LocG.of rfl (loc_box (ag := true) (cs := [PV.val _, PV.val _, PV.sl _ _, PV.sl _ _]) (by decide) (by exact ⟨⟩))) (free1 (Free.app (Free.of_ rfl) rfl)) ?_
  refine RunS.s1 (x := loc_const (.inr rfl) (by decide) (ok_sc rfl)) (y := ?_)
  refine sw_seq ?_
  refine sw_seq ?_
  refine sw_of (l := [(2, RV.ptr 2 0), (3, RV.ptr 3 0), (4, RV.sv false [PV.val _])]) (b := [(2, (34, [PV.val _, PV.val _, PV.sl _ _, PV.sl _ _])), (3, (34, [PV.val _, PV.val _, PV.sl _ _, PV.sl _ _]))]) (by exact ⟨rfl, rfl, rfl, ⟨⟩⟩) (by exact ⟨rfl, rfl, ⟨⟩⟩) ?_
  refine sw_reg ?_
  refine RunS.s1 (x := loc_field (by decide) fd_34_0) (y := ?_)
  refine RunS.s1 (x := loc_load (qs := [PV.val _]) (by decide) ty_3 (fun _ => rfl) (by exact Nat.le_of_ble_eq_true rfl) (by exact (ToL.cons (PV.To.refl _) ToL.nil)) (by exact (BorL.cons (PV.bor_val _) BorL.nil))) (y := ?_)
  refine RunS.s1 (x := loc_field (by decide) fd_34_0) (y := ?_)
  refine RunS.s1 (x := loc_load (qs := [PV.val _]) (by decide) ty_3 (fun _ => rfl) (by exact Nat.le_of_ble_eq_true rfl) (by exact (ToL.cons (PV.To.refl _) ToL.nil)) (by exact (BorL.cons (PV.bor_val _) BorL.nil))) (y := ?_)
  refine RunS.s1 (x := loc_neq (by decide) (by exact ⟨⟩) (by exact ⟨⟩)) (y := ?_)
  refine sw_cond (t := 9) rfl (fun hb1 => ?_) (fun hb1 => ?_)
  · try simp only [q1, q2, q3, q4, q5, q6, q7, q8, q9] at hb1
    refine sw_seq ?_
    refine sw_of (l := [(2, RV.ptr 2 0), (3, RV.ptr 3 0), (4, RV.sv false [PV.val _])]) (b := [(2, (34, [PV.val _, PV.val _, PV.sl _ _, PV.sl _ _])), (3, (34, [PV.val _, PV.val _, PV.sl _ _, PV.sl _ _]))]) (by exact ⟨rfl, rfl, rfl, ⟨⟩⟩) (by exact ⟨rfl, rfl, ⟨⟩⟩) ?_
    refine sw_reg ?_
    refine RunS.s1 (x := loc_const (.inr rfl) (by decide) (ok_sc rfl)) (y := ?_)
    refine sw_ret ?_
    exact (And.intro (by refine bool_eq ?_; exact (deq_false (fun e => by subst e; simp_all [deq_self])).symm) True.intro)
  · try simp only [q1, q2, q3, q4, q5, q6, q7, q8, q9] at hb1
    refine sw_skip ?_
    refine sw_seq ?_
    refine sw_seq ?_
    refine sw_of (l := [(2, RV.ptr 2 0), (3, RV.ptr 3 0), (4, RV.sv false [PV.val _])]) (b := [(2, (34, [PV.val _, PV.val _, PV.sl _ _, PV.sl _ _])), (3, (34, [PV.val _, PV.val _, PV.sl _ _, PV.sl _ _]))]) (by exact ⟨rfl, rfl, rfl, ⟨⟩⟩) (by exact ⟨rfl, rfl, ⟨⟩⟩) ?_
    refine sw_reg ?_
    refine RunS.s1 (x := loc_field (by decide) fd_34_1) (y := ?_)
    refine RunS.s1 (x := loc_load (qs := [PV.val _]) (by decide) ty_3 (fun _ => rfl) (by exact Nat.le_of_ble_eq_true rfl) (by exact (ToL.cons (PV.To.refl _) ToL.nil)) (by exact (BorL.cons (PV.bor_val _) BorL.nil))) (y := ?_)
    refine RunS.s1 (x := loc_field (by decide) fd_34_1) (y := ?_)
    refine RunS.s1 (x := loc_load (qs := [PV.val _]) (by decide) ty_3 (fun _ => rfl) (by exact Nat.le_of_ble_eq_true rfl) (by exact (ToL.cons (PV.To.refl _) ToL.nil)) (by exact (BorL.cons (PV.bor_val _) BorL.nil))) (y := ?_)
    refine RunS.s1 (x := loc_neq (by decide) (by exact ⟨⟩) (by exact ⟨⟩)) (y := ?_)
    refine sw_cond (t := 14) rfl (fun hb2 => ?_) (fun hb2 => ?_)
    · try simp only [q1, q2, q3, q4, q5, q6, q7, q8, q9] at hb2
      refine sw_seq ?_
      refine sw_of (l := [(2, RV.ptr 2 0), (3, RV.ptr 3 0), (4, RV.sv false [PV.val _])]) (b := [(2, (34, [PV.val _, PV.val _, PV.sl _ _, PV.sl _ _])), (3, (34, [PV.val _, PV.val _, PV.sl _ _, PV.sl _ _]))]) (by exact ⟨rfl, rfl, rfl, ⟨⟩⟩) (by exact ⟨rfl, rfl, ⟨⟩⟩) ?_
      refine sw_reg ?_
      refine RunS.s1 (x := loc_const (.inr rfl) (by decide) (ok_sc rfl)) (y := ?_)
      refine sw_ret ?_
      exact (And.intro (by refine bool_eq ?_; exact (deq_false (fun e => by subst e; simp_all [deq_self])).symm) True.intro)
    · try simp only [q1, q2, q3, q4, q5, q6, q7, q8, q9] at hb2
      refine sw_skip ?_
      refine sw_seq ?_
      refine sw_seq ?_
      refine sw_of (l := [(2, RV.ptr 2 0), (3, RV.ptr 3 0), (4, RV.sv false [PV.val _])]) (b := [(2, (34, [PV.val _, PV.val _, PV.sl _ _, PV.sl _ _])), (3, (34, [PV.val _, PV.val _, PV.sl _ _, PV.sl _ _]))]) (by exact ⟨rfl, rfl, rfl, ⟨⟩⟩) (by exact ⟨rfl, rfl, ⟨⟩⟩) ?_
      refine sw_reg ?_
      refine RunS.s1 (x := loc_field (by decide) fd_34_2) (y := ?_)
      refine RunS.s1 (x := loc_load (qs := [PV.sl .v _]) (by decide) ty_32 (fun _ => rfl) (by exact Nat.le_of_ble_eq_true rfl) (by exact (ToL.cons PV.to_none ToL.nil)) (by exact (BorL.cons (PV.bor_sl _) BorL.nil))) (y := ?_)
      refine RunS.s1 (x := loc_field (by decide) fd_34_2) (y := ?_)
      refine RunS.s1 (x := loc_load (qs := [PV.sl .v _]) (by decide) ty_32 (fun _ => rfl) (by exact Nat.le_of_ble_eq_true rfl) (by exact (ToL.cons PV.to_none ToL.nil)) (by exact (BorL.cons (PV.bor_sl _) BorL.nil))) (y := ?_)
      refine RunS.s1 (x := loc_call (qs := [(false, [PV.sl _ _]), (false, [PV.sl _ _])]) (as_ := [(false, [PV.sl .v _]), (false, [PV.sl .v _])]) (by decide) c_133 (by exact (And.intro (by exact ⟨⟩) (And.intro (by exact ⟨⟩) True.intro))) (by exact (And.intro (And.intro rfl (ToL.cons PV.to_none ToL.nil)) (And.intro (And.intro rfl (ToL.cons PV.to_none ToL.nil)) True.intro))) (by exact eq_CondS)) (y := ?_)
      refine RunS.s1 (x := loc_not (by decide)) (y := ?_)
      refine sw_cond (t := 20) rfl (fun hb3 => ?_) (fun hb3 => ?_)
      · try simp only [q1, q2, q3, q4, q5, q6, q7, q8, q9] at hb3
        refine sw_seq ?_
        refine sw_of (l := [(2, RV.ptr 2 0), (3, RV.ptr 3 0), (4, RV.sv false [PV.val _])]) (b := [(2, (34, [PV.val _, PV.val _, PV.sl _ _, PV.sl _ _])), (3, (34, [PV.val _, PV.val _, PV.sl _ _, PV.sl _ _]))]) (by exact ⟨rfl, rfl, rfl, ⟨⟩⟩) (by exact ⟨rfl, rfl, ⟨⟩⟩) ?_
        refine sw_reg ?_
        refine RunS.s1 (x := loc_const (.inr rfl) (by decide) (ok_sc rfl)) (y := ?_)
        refine sw_ret ?_
        exact (And.intro (by refine bool_eq ?_; exact (deq_false (fun e => by subst e; simp_all [deq_self])).symm) True.intro)
      · try simp only [q1, q2, q3, q4, q5, q6, q7, q8, q9] at hb3
        refine sw_skip ?_
        refine sw_seq ?_
        refine sw_seq ?_
        refine sw_of (l := [(2, RV.ptr 2 0), (3, RV.ptr 3 0), (4, RV.sv false [PV.val _])]) (b := [(2, (34, [PV.val _, PV.val _, PV.sl _ _, PV.sl _ _])), (3, (34, [PV.val _, PV.val _, PV.sl _ _, PV.sl _ _]))]) (by exact ⟨rfl, rfl, rfl, ⟨⟩⟩) (by exact ⟨rfl, rfl, ⟨⟩⟩) ?_
        refine sw_reg ?_
        refine RunS.s1 (x := loc_field (by decide) fd_34_3) (y := ?_)
        refine RunS.s1 (x := loc_load (qs := [PV.sl .v _]) (by decide) ty_23 (fun _ => rfl) (by exact Nat.le_of_ble_eq_true rfl) (by exact (ToL.cons PV.to_none ToL.nil)) (by exact (BorL.cons (PV.bor_sl _) BorL.nil))) (y := ?_)
        refine RunS.s1 (x := loc_field (by decide) fd_34_3) (y := ?_)
        refine RunS.s1 (x := loc_load (qs := [PV.sl .v _]) (by decide) ty_23 (fun _ => rfl) (by exact Nat.le_of_ble_eq_true rfl) (by exact (ToL.cons PV.to_none ToL.nil)) (by exact (BorL.cons (PV.bor_sl _) BorL.nil))) (y := ?_)
        refine RunS.s1 (x := loc_call (qs := [(false, [PV.sl _ _]), (false, [PV.sl _ _])]) (as_ := [(false, [PV.sl .v _]), (false, [PV.sl .v _])]) (by decide) c_65 (by exact (And.intro (by exact ⟨⟩) (And.intro (by exact ⟨⟩) True.intro))) (by exact (And.intro (And.intro rfl (ToL.cons PV.to_none ToL.nil)) (And.intro (And.intro rfl (ToL.cons PV.to_none ToL.nil)) True.intro))) (by exact eq_IntS)) (y := ?_)
        refine RunS.s1 (x := loc_not (by decide)) (y := ?_)
        refine sw_cond (t := 26) rfl (fun hb4 => ?_) (fun hb4 => ?_)
        · try simp only [q1, q2, q3, q4, q5, q6, q7, q8, q9] at hb4
          refine sw_seq ?_
          refine sw_of (l := [(2, RV.ptr 2 0), (3, RV.ptr 3 0), (4, RV.sv false [PV.val _])]) (b := [(2, (34, [PV.val _, PV.val _, PV.sl _ _, PV.sl _ _])), (3, (34, [PV.val _, PV.val _, PV.sl _ _, PV.sl _ _]))]) (by exact ⟨rfl, rfl, rfl, ⟨⟩⟩) (by exact ⟨rfl, rfl, ⟨⟩⟩) ?_
          refine sw_reg ?_
          refine RunS.s1 (x := loc_const (.inr rfl) (by decide) (ok_sc rfl)) (y := ?_)
          refine sw_ret ?_
          exact (And.intro (by refine bool_eq ?_; exact (deq_false (fun e => by subst e; simp_all [deq_self])).symm) True.intro)
        · try simp only [q1, q2, q3, q4, q5, q6, q7, q8, q9] at hb4
          refine sw_skip ?_
          refine sw_seq ?_
          refine sw_of (l := [(2, RV.ptr 2 0), (3, RV.ptr 3 0), (4, RV.sv false [PV.val _])]) (b := [(2, (34, [PV.val _, PV.val _, PV.sl _ _, PV.sl _ _])), (3, (34, [PV.val _, PV.val _, PV.sl _ _, PV.sl _ _]))]) (by exact ⟨rfl, rfl, rfl, ⟨⟩⟩) (by exact ⟨rfl, rfl, ⟨⟩⟩) ?_
          refine sw_reg ?_
          refine RunS.s1 (x := loc_const (.inr rfl) (by decide) (ok_sc rfl)) (y := ?_)
          refine sw_ret ?_
          exact (And.intro (by refine bool_eq ?_; exact (deq_true (by apply ext_Query <;> simp_all [deq_iff])).symm) True.intro)
theorem eq_RowSS {p1 p2 p4 p5 : Fl} {x : List (List Row)} {y : List (List Row)}  : SCall Try.prog 63 [(false, [PV.sl .v (x.map (cRowS p1 p2))]), (false, [PV.sl .v (y.map (cRowS p4 p5))])] (resRV [(false, [PV.val (.bool (deq x y))])]) := by
  refine scall_of (rs := [(false, [PV.val (.bool (deq x y))])]) Try.func63 rfl (Nat.le_of_ble_eq_true rfl) (borA_cons (BorL.cons (PV.bor_sl _) BorL.nil) (borA_cons (BorL.cons (PV.bor_sl _) BorL.nil) borA_nil)) ?_
  intro h0 w0 Fz0
  refine sw_len (s := 0) rfl fun hl0 => ?_
  try rw [List.length_map] at hl0
  refine sw_len (s := 1) rfl fun hl1 => ?_
  try rw [List.length_map] at hl1
  refine sw_seq ?_
  refine sw_reg ?_
  refine RunS.s1 (x := loc_const (.inr rfl) (by decide) (ok_sc rfl)) (y := ?_)
  refine sw_seq ?_
  refine sw_seq ?_
  refine sw_of (l := [(0, RV.sv false [PV.sl _ _]), (1, RV.sv false [PV.sl _ _]), (4, RV.sv false [PV.val _])]) (b := []) (by exact ⟨rfl, rfl, rfl, ⟨⟩⟩) (by exact ⟨⟩) ?_
  refine sw_reg ?_
  refine RunS.s1 (x := loc_copy (r' := RV.sv false [PV.sl .v _]) (.inl rfl) (by decide) (by exact Cp.sv (ToL.cons PV.to_none ToL.nil) (BorL.cons (PV.bor_sl _) BorL.nil))) (y := ?_)
  refine RunS.s1 (x := loc_len (by decide) sl_35 (by first | exact List.length_map _ | exact rfl)) (y := ?_)
  refine RunS.s1 (x := loc_copy (r' := RV.sv false [PV.sl .v _]) (.inl rfl) (by decide) (by exact Cp.sv (ToL.cons PV.to_none ToL.nil) (BorL.cons (PV.bor_sl _) BorL.nil))) (y := ?_)
  refine RunS.s1 (x := loc_len (by decide) sl_35 (by first | exact List.length_map _ | exact rfl)) (y := ?_)
  refine RunS.s1 (x := loc_neq (by decide) (by exact ⟨⟩) (by exact ⟨⟩)) (y := ?_)
  refine sw_cond (t := 10) rfl (fun hb1 => ?_) (fun hb1 => ?_)
  · try simp only [q1, q2, q3, q4, q5, q6, q7, q8, q9] at hb1
    refine sw_seq ?_
    refine sw_of (l := [(0, RV.sv false [PV.sl _ _]), (1, RV.sv false [PV.sl _ _]), (4, RV.sv false [PV.val _])]) (b := []) (by exact ⟨rfl, rfl, rfl, ⟨⟩⟩) (by exact ⟨⟩) ?_
    refine sw_reg ?_
    refine RunS.s1 (x := loc_const (.inr rfl) (by decide) (ok_sc rfl)) (y := ?_)
    refine sw_ret ?_
    exact (And.intro (by refine bool_eq ?_; exact (deq_false (fun e => by subst e; omega)).symm) True.intro)
  · try simp only [q1, q2, q3, q4, q5, q6, q7, q8, q9] at hb1
    have hl : x.length = y.length := by omega
    refine sw_skip ?_
    refine sw_seq ?_
    refine sw_seq ?_
    refine sw_of (l := [(0, RV.sv false [PV.sl _ _]), (1, RV.sv false [PV.sl _ _]), (4, RV.sv false [PV.val _])]) (b := []) (by exact ⟨rfl, rfl, rfl, ⟨⟩⟩) (by exact ⟨⟩) ?_
    refine sw_reg ?_
    refine RunS.s1 (x := loc_const (.inr rfl) (by decide) (ok_sc rfl)) (y := ?_)
    refine sw_block ?_
    refine sw_of (l := [(0, RV.sv false [PV.sl _ _]), (1, RV.sv false [PV.sl _ _]), (4, RV.sv false [PV.val _]), (5, RV.sv false [PV.val _])]) (b := []) (by exact ⟨rfl, rfl, rfl, rfl, ⟨⟩⟩) (by exact ⟨⟩) ?_
    refine sw_loop (l0 := [(0, RV.sv false [PV.sl _ _]), (1, RV.sv false [PV.sl _ _])]) (b0 := []) (fun k : Nat => k ≤ x.length ∧ x.take k = y.take k) (fun k : Nat => [(5, RV.int (k : Int))]) (fun k : Nat => []) (fun k : Nat => x.length - k) 0 (by exact ⟨by omega, by simp⟩) (by exact ⟨rfl, rfl, ⟨⟩⟩) (by exact ⟨⟩) (by exact And.intro (by exact rfl) (True.intro)) (by exact ⟨⟩) ?_
    rintro k ⟨hk, ha⟩
    refine sw_seq ?_
    refine sw_seq ?_
    refine sw_reg ?_
    refine RunS.s1 (x := loc_copy (.inl rfl) (by decide) (by exact Cp.sc)) (y := ?_)
    refine RunS.s1 (x := loc_copy (r' := RV.sv false [PV.sl .v _]) (.inl rfl) (by decide) (by exact Cp.sv (ToL.cons PV.to_none ToL.nil) (BorL.cons (PV.bor_sl _) BorL.nil))) (y := ?_)
    refine RunS.s1 (x := loc_len (by decide) sl_35 (by first | exact List.length_map _ | exact rfl)) (y := ?_)
    refine RunS.s1 (x := loc_lss (by decide) (by exact ⟨⟩) (by exact ⟨⟩)) (y := ?_)
    refine sw_cond (t := 14) rfl (fun hb2 => ?_) (fun hb2 => ?_)
    · try simp only [q1, q2, q3, q4, q5, q6, q7, q8, q9] at hb2
      have hlt : k < x.length := by omega
      have hlt2 : k < y.length := by omega
      refine sw_skip ?_
      refine sw_seq ?_
      refine sw_block ?_
      refine sw_seq ?_
      refine sw_of (l := [(0, RV.sv false [PV.sl _ _]), (1, RV.sv false [PV.sl _ _]), (5, RV.sv false [PV.val _])]) (b := []) (by exact ⟨rfl, rfl, rfl, ⟨⟩⟩) (by exact ⟨⟩) ?_
      refine sw_draw hm_ ?_
      refine Run.step 0 (by exact ⟨rfl, ⟨⟩⟩) (by exact ⟨⟩) (LocG.of rfl (loc_copy (r' := RV.sv false [PV.sl .v _]) (.inl rfl) (by decide) (by exact Cp.sv (ToL.cons PV.to_none ToL.nil) (BorL.cons (PV.bor_sl _) BorL.nil)))) nofree (by kernel_rfl) ?_
      refine Run.step 0 (by exact ⟨rfl, ⟨⟩⟩) (by exact ⟨⟩) (LocG.of rfl (loc_copy (.inl rfl) (by decide) (by exact Cp.sc))) nofree (by kernel_rfl) ?_
      refine Run.step 3 (by exact ⟨rfl, rfl, ⟨⟩⟩) (by exact ⟨⟩) (LocG.of rfl (loc_index (by decide) sl_35 (by exact ⟨⟩) (by exact rfl) (by exact getm2 (by omega) rfl) (by exact rfl))) nofree (by kernel_rfl) ?_
      refine Run.step 7 (by exact ⟨rfl, ⟨⟩⟩) (by exact ⟨⟩) (LocG.of rfl (loc_eload (qs := [PV.sl .v _]) (by decide) ty_53 (fun _ => rfl) (by exact Nat.le_of_ble_eq_true rfl) (by exact (ToL.cons PV.to_none ToL.nil)) (by exact (BorL.cons (PV.bor_sl _) BorL.nil)))) nofree (by kernel_rfl) ?_
      refine Run.step 0 (by exact ⟨rfl, ⟨⟩⟩) (by exact ⟨⟩) (LocG.of rfl (loc_copy (r' := RV.sv false [PV.sl .v _]) (.inl rfl) (by decide) (by exact Cp.sv (ToL.cons PV.to_none ToL.nil) (BorL.cons (PV.bor_sl _) BorL.nil)))) nofree (by kernel_rfl) ?_
      refine Run.step 0 (by exact ⟨rfl, ⟨⟩⟩) (by exact ⟨⟩) (LocG.of rfl (loc_copy (.inl rfl) (by decide) (by exact Cp.sc))) nofree (by kernel_rfl) ?_
      refine Run.step 48 (by exact ⟨rfl, rfl, ⟨⟩⟩) (by exact ⟨⟩) (LocG.of rfl (loc_index (by decide) sl_35 (by exact ⟨⟩) (by exact rfl) (by exact getm2 (by omega) rfl) (by exact rfl))) nofree (by kernel_rfl) ?_
      refine Run.step 112 (by exact ⟨rfl, ⟨⟩⟩) (by exact ⟨⟩) (LocG.of rfl (loc_eload (qs := [PV.sl .v _]) (by decide) ty_53 (fun _ => rfl) (by exact Nat.le_of_ble_eq_true rfl) (by exact (ToL.cons PV.to_none ToL.nil)) (by exact (BorL.cons (PV.bor_sl _) BorL.nil)))) nofree (by kernel_rfl) ?_
      refine Run.step 255 (by exact ⟨rfl, rfl, ⟨⟩⟩) (by exact ⟨⟩) (LocG.of rfl (loc_call (qs := [(false, [PV.sl _ _]), (false, [PV.sl _ _])]) (as_ := [(false, [PV.sl .v _]), (false, [PV.sl .v _])]) (by decide) c_42 (by exact (And.intro (by exact ⟨⟩) (And.intro (by exact ⟨⟩) True.intro))) (by exact (And.intro (And.intro rfl (ToL.cons PV.to_none ToL.nil)) (And.intro (And.intro rfl (ToL.cons PV.to_none ToL.nil)) True.intro))) (by exact eq_RowS))) nofree (by kernel_rfl) ?_
      refine Run.step 511 (by exact ⟨rfl, ⟨⟩⟩) (by exact ⟨⟩) (LocG.of rfl (loc_not (by decide))) nofree (by kernel_rfl) ?_
      refine sw_cond (t := 26) rfl (fun hb3 => ?_) (fun hb3 => ?_)
      · try simp only [q1, q2, q3, q4, q5, q6, q7, q8, q9] at hb3
        have hne : x[k] ≠ y[k] := by intro hxy; rw [hxy, deq_self] at hb3; simp at hb3
        refine sw_seq ?_
        refine sw_of (l := [(0, RV.sv false [PV.sl _ _]), (1, RV.sv false [PV.sl _ _]), (5, RV.sv false [PV.val _])]) (b := []) (by exact ⟨rfl, rfl, rfl, ⟨⟩⟩) (by exact ⟨⟩) ?_
        refine sw_reg ?_
        refine RunS.s1 (x := loc_const (.inr rfl) (by decide) (ok_sc rfl)) (y := ?_)
        refine sw_ret ?_
        exact (And.intro (by refine bool_eq ?_; exact (deq_false (eq_no hlt hlt2 hne)).symm) True.intro)
      · try simp only [q1, q2, q3, q4, q5, q6, q7, q8, q9] at hb3
        have heq : x[k] = y[k] := by exact deq_iff.1 (by simpa using hb3)
        refine sw_skip ?_
        refine sw_of (l := [(0, RV.sv false [PV.sl _ _]), (1, RV.sv false [PV.sl _ _]), (5, RV.sv false [PV.val _])]) (b := []) (by exact ⟨rfl, rfl, rfl, ⟨⟩⟩) (by exact ⟨⟩) ?_
        refine sw_reg ?_
        refine RunS.s1 (x := loc_copy (.inl rfl) (by decide) (by exact Cp.sc)) (y := ?_)
        refine RunS.s1 (x := loc_add (by decide) (by exact ⟨⟩) (ok_sc rfl) (by unfold I64; omega)) (y := ?_)
        refine RunS.s1 (x := loc_copy (.inr rfl) (by decide) (by exact Cp.sc)) (y := ?_)
        refine Exists.intro (k + 1) (And.intro (by exact ⟨by omega, eq_succ ha hlt hlt2 heq⟩) (And.intro (by omega) (And.intro (And.intro (by exact ⟨rfl, rfl, ⟨⟩⟩) (by exact ⟨⟩)) (And.intro (by exact And.intro (by exact rfl) (True.intro)) (by exact ⟨⟩)))))
    · try simp only [q1, q2, q3, q4, q5, q6, q7, q8, q9] at hb2
      refine sw_exit ?_
      refine sw_seq ?_
      refine sw_of (l := [(0, RV.sv false [PV.sl _ _]), (1, RV.sv false [PV.sl _ _]), (5, RV.sv false [PV.val _])]) (b := []) (by exact ⟨rfl, rfl, rfl, ⟨⟩⟩) (by exact ⟨⟩) ?_
      refine sw_reg ?_
      refine RunS.s1 (x := loc_const (.inr rfl) (by decide) (ok_sc rfl)) (y := ?_)
      refine sw_ret ?_
      exact (And.intro (by refine bool_eq ?_; exact (deq_true (eq_end hl (by rw [show x.length = k by omega]; exact ha))).symm) True.intro)
theorem eq_Cluster {p3 p4 p9 p10 p13 p14 p18 p19 p24 p25 p28 p29 : Fl} {x : Cluster} {y : Cluster}  : SCall Try.prog 13 [(true, [PV.val (vI x.Query.Id), PV.val (vI x.Query.Tenant), PV.sl .v (x.Query.Conds.map cCond), PV.sl .v (x.Query.Out.map cInt), PV.sl .v (x.Parts.map (cRowS p3 p4)), PV.sl .v (x.Up.map cBool), PV.sl .v (x.At.map cInt), PV.sl .v (x.Pos.map cInt), PV.sl .v (x.Buffer.map (cRowS p9 p10)), PV.sl .v (x.Done.map cInt), PV.sl .v (x.Rows.map (cRowS p13 p14))]), (true, [PV.val (vI y.Query.Id), PV.val (vI y.Query.Tenant), PV.sl .v (y.Query.Conds.map cCond), PV.sl .v (y.Query.Out.map cInt), PV.sl .v (y.Parts.map (cRowS p18 p19)), PV.sl .v (y.Up.map cBool), PV.sl .v (y.At.map cInt), PV.sl .v (y.Pos.map cInt), PV.sl .v (y.Buffer.map (cRowS p24 p25)), PV.sl .v (y.Done.map cInt), PV.sl .v (y.Rows.map (cRowS p28 p29))])] (resRV [(false, [PV.val (.bool (deq x y))])]) := by
  refine scall_of (rs := [(false, [PV.val (.bool (deq x y))])]) Try.func13 rfl (Nat.le_of_ble_eq_true rfl) (borA_cons (BorL.cons (PV.bor_val _) (BorL.cons (PV.bor_val _) (BorL.cons (PV.bor_sl _) (BorL.cons (PV.bor_sl _) (BorL.cons (PV.bor_sl _) (BorL.cons (PV.bor_sl _) (BorL.cons (PV.bor_sl _) (BorL.cons (PV.bor_sl _) (BorL.cons (PV.bor_sl _) (BorL.cons (PV.bor_sl _) (BorL.cons (PV.bor_sl _) BorL.nil))))))))))) (borA_cons (BorL.cons (PV.bor_val _) (BorL.cons (PV.bor_val _) (BorL.cons (PV.bor_sl _) (BorL.cons (PV.bor_sl _) (BorL.cons (PV.bor_sl _) (BorL.cons (PV.bor_sl _) (BorL.cons (PV.bor_sl _) (BorL.cons (PV.bor_sl _) (BorL.cons (PV.bor_sl _) (BorL.cons (PV.bor_sl _) (BorL.cons (PV.bor_sl _) BorL.nil))))))))))) borA_nil)) ?_
  intro h0 w0 Fz0
  refine sw_slen (s := 0) (j := 2) rfl rfl fun hl0_2 => ?_
  try rw [List.length_map] at hl0_2
  refine sw_slen (s := 0) (j := 3) rfl rfl fun hl0_3 => ?_
  try rw [List.length_map] at hl0_3
  refine sw_slen (s := 0) (j := 4) rfl rfl fun hl0_4 => ?_
  try rw [List.length_map] at hl0_4
  refine sw_slen (s := 0) (j := 5) rfl rfl fun hl0_5 => ?_
  try rw [List.length_map] at hl0_5
  refine sw_slen (s := 0) (j := 6) rfl rfl fun hl0_6 => ?_
  try rw [List.length_map] at hl0_6
  refine sw_slen (s := 0) (j := 7) rfl rfl fun hl0_7 => ?_
  try rw [List.length_map] at hl0_7
  refine sw_slen (s := 0) (j := 8) rfl rfl fun hl0_8 => ?_
  try rw [List.length_map] at hl0_8
  refine sw_slen (s := 0) (j := 9) rfl rfl fun hl0_9 => ?_
  try rw [List.length_map] at hl0_9
  refine sw_slen (s := 0) (j := 10) rfl rfl fun hl0_10 => ?_
  try rw [List.length_map] at hl0_10
  refine sw_slen (s := 1) (j := 2) rfl rfl fun hl1_2 => ?_
  try rw [List.length_map] at hl1_2
  refine sw_slen (s := 1) (j := 3) rfl rfl fun hl1_3 => ?_
  try rw [List.length_map] at hl1_3
  refine sw_slen (s := 1) (j := 4) rfl rfl fun hl1_4 => ?_
  try rw [List.length_map] at hl1_4
  refine sw_slen (s := 1) (j := 5) rfl rfl fun hl1_5 => ?_
  try rw [List.length_map] at hl1_5
  refine sw_slen (s := 1) (j := 6) rfl rfl fun hl1_6 => ?_
  try rw [List.length_map] at hl1_6
  refine sw_slen (s := 1) (j := 7) rfl rfl fun hl1_7 => ?_
  try rw [List.length_map] at hl1_7
  refine sw_slen (s := 1) (j := 8) rfl rfl fun hl1_8 => ?_
  try rw [List.length_map] at hl1_8
  refine sw_slen (s := 1) (j := 9) rfl rfl fun hl1_9 => ?_
  try rw [List.length_map] at hl1_9
  refine sw_slen (s := 1) (j := 10) rfl rfl fun hl1_10 => ?_
  try rw [List.length_map] at hl1_10
  refine sw_seq ?_
  refine sw_reg ?_
  refine RunS.step (by exact ⟨rfl, ⟨⟩⟩) (by exact ⟨⟩) (LocG.of rfl (loc_box (ag := true) (cs := [PV.val _, PV.val _, PV.sl _ _, PV.sl _ _, PV.sl _ _, PV.sl _ _, PV.sl _ _, PV.sl _ _, PV.sl _ _, PV.sl _ _, PV.sl _ _]) (by decide) (by exact ⟨⟩))) (free1 (Free.of_ rfl)) ?_
  refine RunS.step (by exact ⟨rfl, ⟨⟩⟩) (by exact ⟨⟩) (LocG.of rfl (loc_box (ag := true) (cs := [PV.val _, PV.val _, PV.sl _ _, PV.sl _ _, PV.sl _ _, PV.sl _ _, PV.sl _ _, PV.sl _ _, PV.sl _ _, PV.sl _ _, PV.sl _ _]) (by decide) (by exact ⟨⟩))) (free1 (Free.app (Free.of_ rfl) rfl)) ?_
  refine RunS.s1 (x := loc_const (.inr rfl) (by decide) (ok_sc rfl)) (y := ?_)
  refine sw_seq ?_
  refine sw_seq ?_
  refine sw_of (l := [(2, RV.ptr 2 0), (3, RV.ptr 3 0), (4, RV.sv false [PV.val _])]) (b := [(2, (37, [PV.val _, PV.val _, PV.sl _ _, PV.sl _ _, PV.sl _ _, PV.sl _ _, PV.sl _ _, PV.sl _ _, PV.sl _ _, PV.sl _ _, PV.sl _ _])), (3, (37, [PV.val _, PV.val _, PV.sl _ _, PV.sl _ _, PV.sl _ _, PV.sl _ _, PV.sl _ _, PV.sl _ _, PV.sl _ _, PV.sl _ _, PV.sl _ _]))]) (by exact ⟨rfl, rfl, rfl, ⟨⟩⟩) (by exact ⟨rfl, rfl, ⟨⟩⟩) ?_
  refine sw_reg ?_
  refine RunS.s1 (x := loc_field (by decide) fd_37_0) (y := ?_)
  refine RunS.s1 (x := loc_load (qs := [PV.val _, PV.val _, PV.sl .v _, PV.sl .v _]) (by decide) ty_34 (fun h => nomatch h) (by exact Nat.le_of_ble_eq_true rfl) (by exact (ToL.cons (PV.To.refl _) (ToL.cons (PV.To.refl _) (ToL.cons PV.to_none (ToL.cons PV.to_none ToL.nil))))) (by exact (BorL.cons (PV.bor_val _) (BorL.cons (PV.bor_val _) (BorL.cons (PV.bor_sl _) (BorL.cons (PV.bor_sl _) BorL.nil)))))) (y := ?_)
  refine RunS.s1 (x := loc_field (by decide) fd_37_0) (y := ?_)
  refine RunS.s1 (x := loc_load (qs := [PV.val _, PV.val _, PV.sl .v _, PV.sl .v _]) (by decide) ty_34 (fun h => nomatch h) (by exact Nat.le_of_ble_eq_true rfl) (by exact (ToL.cons (PV.To.refl _) (ToL.cons (PV.To.refl _) (ToL.cons PV.to_none (ToL.cons PV.to_none ToL.nil))))) (by exact (BorL.cons (PV.bor_val _) (BorL.cons (PV.bor_val _) (BorL.cons (PV.bor_sl _) (BorL.cons (PV.bor_sl _) BorL.nil)))))) (y := ?_)
  refine RunS.s1 (x := loc_call (qs := [(true, [PV.val _, PV.val _, PV.sl _ _, PV.sl _ _]), (true, [PV.val _, PV.val _, PV.sl _ _, PV.sl _ _])]) (as_ := [(true, [PV.val _, PV.val _, PV.sl .v _, PV.sl .v _]), (true, [PV.val _, PV.val _, PV.sl .v _, PV.sl .v _])]) (by decide) c_62 (by exact (And.intro (by exact ⟨⟩) (And.intro (by exact ⟨⟩) True.intro))) (by exact (And.intro (And.intro rfl (ToL.cons (PV.To.refl _) (ToL.cons (PV.To.refl _) (ToL.cons PV.to_none (ToL.cons PV.to_none ToL.nil))))) (And.intro (And.intro rfl (ToL.cons (PV.To.refl _) (ToL.cons (PV.To.refl _) (ToL.cons PV.to_none (ToL.cons PV.to_none ToL.nil))))) True.intro))) (by exact eq_Query)) (y := ?_)
  refine RunS.s1 (x := loc_not (by decide)) (y := ?_)
  refine sw_cond (t := 10) rfl (fun hb1 => ?_) (fun hb1 => ?_)
  · try simp only [q1, q2, q3, q4, q5, q6, q7, q8, q9] at hb1
    refine sw_seq ?_
    refine sw_of (l := [(2, RV.ptr 2 0), (3, RV.ptr 3 0), (4, RV.sv false [PV.val _])]) (b := [(2, (37, [PV.val _, PV.val _, PV.sl _ _, PV.sl _ _, PV.sl _ _, PV.sl _ _, PV.sl _ _, PV.sl _ _, PV.sl _ _, PV.sl _ _, PV.sl _ _])), (3, (37, [PV.val _, PV.val _, PV.sl _ _, PV.sl _ _, PV.sl _ _, PV.sl _ _, PV.sl _ _, PV.sl _ _, PV.sl _ _, PV.sl _ _, PV.sl _ _]))]) (by exact ⟨rfl, rfl, rfl, ⟨⟩⟩) (by exact ⟨rfl, rfl, ⟨⟩⟩) ?_
    refine sw_reg ?_
    refine RunS.s1 (x := loc_const (.inr rfl) (by decide) (ok_sc rfl)) (y := ?_)
    refine sw_ret ?_
    exact (And.intro (by refine bool_eq ?_; exact (deq_false (fun e => by subst e; simp_all [deq_self])).symm) True.intro)
  · try simp only [q1, q2, q3, q4, q5, q6, q7, q8, q9] at hb1
    refine sw_skip ?_
    refine sw_seq ?_
    refine sw_seq ?_
    refine sw_of (l := [(2, RV.ptr 2 0), (3, RV.ptr 3 0), (4, RV.sv false [PV.val _])]) (b := [(2, (37, [PV.val _, PV.val _, PV.sl _ _, PV.sl _ _, PV.sl _ _, PV.sl _ _, PV.sl _ _, PV.sl _ _, PV.sl _ _, PV.sl _ _, PV.sl _ _])), (3, (37, [PV.val _, PV.val _, PV.sl _ _, PV.sl _ _, PV.sl _ _, PV.sl _ _, PV.sl _ _, PV.sl _ _, PV.sl _ _, PV.sl _ _, PV.sl _ _]))]) (by exact ⟨rfl, rfl, rfl, ⟨⟩⟩) (by exact ⟨rfl, rfl, ⟨⟩⟩) ?_
    refine sw_reg ?_
    refine RunS.s1 (x := loc_field (by decide) fd_37_1) (y := ?_)
    refine RunS.s1 (x := loc_load (qs := [PV.sl .v _]) (by decide) ty_35 (fun _ => rfl) (by exact Nat.le_of_ble_eq_true rfl) (by exact (ToL.cons PV.to_none ToL.nil)) (by exact (BorL.cons (PV.bor_sl _) BorL.nil))) (y := ?_)
    refine RunS.s1 (x := loc_field (by decide) fd_37_1) (y := ?_)
    refine RunS.s1 (x := loc_load (qs := [PV.sl .v _]) (by decide) ty_35 (fun _ => rfl) (by exact Nat.le_of_ble_eq_true rfl) (by exact (ToL.cons PV.to_none ToL.nil)) (by exact (BorL.cons (PV.bor_sl _) BorL.nil))) (y := ?_)
    refine RunS.s1 (x := loc_call (qs := [(false, [PV.sl _ _]), (false, [PV.sl _ _])]) (as_ := [(false, [PV.sl .v _]), (false, [PV.sl .v _])]) (by decide) c_63 (by exact (And.intro (by exact ⟨⟩) (And.intro (by exact ⟨⟩) True.intro))) (by exact (And.intro (And.intro rfl (ToL.cons PV.to_none ToL.nil)) (And.intro (And.intro rfl (ToL.cons PV.to_none ToL.nil)) True.intro))) (by exact eq_RowSS)) (y := ?_)
    refine RunS.s1 (x := loc_not (by decide)) (y := ?_)
    refine sw_cond (t := 16) rfl (fun hb2 => ?_) (fun hb2 => ?_)
    · try simp only [q1, q2, q3, q4, q5, q6, q7, q8, q9] at hb2
      refine sw_seq ?_
      refine sw_of (l := [(2, RV.ptr 2 0), (3, RV.ptr 3 0), (4, RV.sv false [PV.val _])]) (b := [(2, (37, [PV.val _, PV.val _, PV.sl _ _, PV.sl _ _, PV.sl _ _, PV.sl _ _, PV.sl _ _, PV.sl _ _, PV.sl _ _, PV.sl _ _, PV.sl _ _])), (3, (37, [PV.val _, PV.val _, PV.sl _ _, PV.sl _ _, PV.sl _ _, PV.sl _ _, PV.sl _ _, PV.sl _ _, PV.sl _ _, PV.sl _ _, PV.sl _ _]))]) (by exact ⟨rfl, rfl, rfl, ⟨⟩⟩) (by exact ⟨rfl, rfl, ⟨⟩⟩) ?_
      refine sw_reg ?_
      refine RunS.s1 (x := loc_const (.inr rfl) (by decide) (ok_sc rfl)) (y := ?_)
      refine sw_ret ?_
      exact (And.intro (by refine bool_eq ?_; exact (deq_false (fun e => by subst e; simp_all [deq_self])).symm) True.intro)
    · try simp only [q1, q2, q3, q4, q5, q6, q7, q8, q9] at hb2
      refine sw_skip ?_
      refine sw_seq ?_
      refine sw_seq ?_
      refine sw_of (l := [(2, RV.ptr 2 0), (3, RV.ptr 3 0), (4, RV.sv false [PV.val _])]) (b := [(2, (37, [PV.val _, PV.val _, PV.sl _ _, PV.sl _ _, PV.sl _ _, PV.sl _ _, PV.sl _ _, PV.sl _ _, PV.sl _ _, PV.sl _ _, PV.sl _ _])), (3, (37, [PV.val _, PV.val _, PV.sl _ _, PV.sl _ _, PV.sl _ _, PV.sl _ _, PV.sl _ _, PV.sl _ _, PV.sl _ _, PV.sl _ _, PV.sl _ _]))]) (by exact ⟨rfl, rfl, rfl, ⟨⟩⟩) (by exact ⟨rfl, rfl, ⟨⟩⟩) ?_
      refine sw_reg ?_
      refine RunS.s1 (x := loc_field (by decide) fd_37_2) (y := ?_)
      refine RunS.s1 (x := loc_load (qs := [PV.sl .v _]) (by decide) ty_27 (fun _ => rfl) (by exact Nat.le_of_ble_eq_true rfl) (by exact (ToL.cons PV.to_none ToL.nil)) (by exact (BorL.cons (PV.bor_sl _) BorL.nil))) (y := ?_)
      refine RunS.s1 (x := loc_field (by decide) fd_37_2) (y := ?_)
      refine RunS.s1 (x := loc_load (qs := [PV.sl .v _]) (by decide) ty_27 (fun _ => rfl) (by exact Nat.le_of_ble_eq_true rfl) (by exact (ToL.cons PV.to_none ToL.nil)) (by exact (BorL.cons (PV.bor_sl _) BorL.nil))) (y := ?_)
      refine RunS.s1 (x := loc_call (qs := [(false, [PV.sl _ _]), (false, [PV.sl _ _])]) (as_ := [(false, [PV.sl .v _]), (false, [PV.sl .v _])]) (by decide) c_64 (by exact (And.intro (by exact ⟨⟩) (And.intro (by exact ⟨⟩) True.intro))) (by exact (And.intro (And.intro rfl (ToL.cons PV.to_none ToL.nil)) (And.intro (And.intro rfl (ToL.cons PV.to_none ToL.nil)) True.intro))) (by exact eq_BoolS)) (y := ?_)
      refine RunS.s1 (x := loc_not (by decide)) (y := ?_)
      refine sw_cond (t := 22) rfl (fun hb3 => ?_) (fun hb3 => ?_)
      · try simp only [q1, q2, q3, q4, q5, q6, q7, q8, q9] at hb3
        refine sw_seq ?_
        refine sw_of (l := [(2, RV.ptr 2 0), (3, RV.ptr 3 0), (4, RV.sv false [PV.val _])]) (b := [(2, (37, [PV.val _, PV.val _, PV.sl _ _, PV.sl _ _, PV.sl _ _, PV.sl _ _, PV.sl _ _, PV.sl _ _, PV.sl _ _, PV.sl _ _, PV.sl _ _])), (3, (37, [PV.val _, PV.val _, PV.sl _ _, PV.sl _ _, PV.sl _ _, PV.sl _ _, PV.sl _ _, PV.sl _ _, PV.sl _ _, PV.sl _ _, PV.sl _ _]))]) (by exact ⟨rfl, rfl, rfl, ⟨⟩⟩) (by exact ⟨rfl, rfl, ⟨⟩⟩) ?_
        refine sw_reg ?_
        refine RunS.s1 (x := loc_const (.inr rfl) (by decide) (ok_sc rfl)) (y := ?_)
        refine sw_ret ?_
        exact (And.intro (by refine bool_eq ?_; exact (deq_false (fun e => by subst e; simp_all [deq_self])).symm) True.intro)
      · try simp only [q1, q2, q3, q4, q5, q6, q7, q8, q9] at hb3
        refine sw_skip ?_
        refine sw_seq ?_
        refine sw_seq ?_
        refine sw_of (l := [(2, RV.ptr 2 0), (3, RV.ptr 3 0), (4, RV.sv false [PV.val _])]) (b := [(2, (37, [PV.val _, PV.val _, PV.sl _ _, PV.sl _ _, PV.sl _ _, PV.sl _ _, PV.sl _ _, PV.sl _ _, PV.sl _ _, PV.sl _ _, PV.sl _ _])), (3, (37, [PV.val _, PV.val _, PV.sl _ _, PV.sl _ _, PV.sl _ _, PV.sl _ _, PV.sl _ _, PV.sl _ _, PV.sl _ _, PV.sl _ _, PV.sl _ _]))]) (by exact ⟨rfl, rfl, rfl, ⟨⟩⟩) (by exact ⟨rfl, rfl, ⟨⟩⟩) ?_
        refine sw_reg ?_
        refine RunS.s1 (x := loc_field (by decide) fd_37_3) (y := ?_)
        refine RunS.s1 (x := loc_load (qs := [PV.sl .v _]) (by decide) ty_23 (fun _ => rfl) (by exact Nat.le_of_ble_eq_true rfl) (by exact (ToL.cons PV.to_none ToL.nil)) (by exact (BorL.cons (PV.bor_sl _) BorL.nil))) (y := ?_)
        refine RunS.s1 (x := loc_field (by decide) fd_37_3) (y := ?_)
        refine RunS.s1 (x := loc_load (qs := [PV.sl .v _]) (by decide) ty_23 (fun _ => rfl) (by exact Nat.le_of_ble_eq_true rfl) (by exact (ToL.cons PV.to_none ToL.nil)) (by exact (BorL.cons (PV.bor_sl _) BorL.nil))) (y := ?_)
        refine RunS.s1 (x := loc_call (qs := [(false, [PV.sl _ _]), (false, [PV.sl _ _])]) (as_ := [(false, [PV.sl .v _]), (false, [PV.sl .v _])]) (by decide) c_65 (by exact (And.intro (by exact ⟨⟩) (And.intro (by exact ⟨⟩) True.intro))) (by exact (And.intro (And.intro rfl (ToL.cons PV.to_none ToL.nil)) (And.intro (And.intro rfl (ToL.cons PV.to_none ToL.nil)) True.intro))) (by exact eq_IntS)) (y := ?_)
        refine RunS.s1 (x := loc_not (by decide)) (y := ?_)
        refine sw_cond (t := 28) rfl (fun hb4 => ?_) (fun hb4 => ?_)
        · try simp only [q1, q2, q3, q4, q5, q6, q7, q8, q9] at hb4
          refine sw_seq ?_
          refine sw_of (l := [(2, RV.ptr 2 0), (3, RV.ptr 3 0), (4, RV.sv false [PV.val _])]) (b := [(2, (37, [PV.val _, PV.val _, PV.sl _ _, PV.sl _ _, PV.sl _ _, PV.sl _ _, PV.sl _ _, PV.sl _ _, PV.sl _ _, PV.sl _ _, PV.sl _ _])), (3, (37, [PV.val _, PV.val _, PV.sl _ _, PV.sl _ _, PV.sl _ _, PV.sl _ _, PV.sl _ _, PV.sl _ _, PV.sl _ _, PV.sl _ _, PV.sl _ _]))]) (by exact ⟨rfl, rfl, rfl, ⟨⟩⟩) (by exact ⟨rfl, rfl, ⟨⟩⟩) ?_
          refine sw_reg ?_
          refine RunS.s1 (x := loc_const (.inr rfl) (by decide) (ok_sc rfl)) (y := ?_)
          refine sw_ret ?_
          exact (And.intro (by refine bool_eq ?_; exact (deq_false (fun e => by subst e; simp_all [deq_self])).symm) True.intro)
        · try simp only [q1, q2, q3, q4, q5, q6, q7, q8, q9] at hb4
          refine sw_skip ?_
          refine sw_seq ?_
          refine sw_seq ?_
          refine sw_of (l := [(2, RV.ptr 2 0), (3, RV.ptr 3 0), (4, RV.sv false [PV.val _])]) (b := [(2, (37, [PV.val _, PV.val _, PV.sl _ _, PV.sl _ _, PV.sl _ _, PV.sl _ _, PV.sl _ _, PV.sl _ _, PV.sl _ _, PV.sl _ _, PV.sl _ _])), (3, (37, [PV.val _, PV.val _, PV.sl _ _, PV.sl _ _, PV.sl _ _, PV.sl _ _, PV.sl _ _, PV.sl _ _, PV.sl _ _, PV.sl _ _, PV.sl _ _]))]) (by exact ⟨rfl, rfl, rfl, ⟨⟩⟩) (by exact ⟨rfl, rfl, ⟨⟩⟩) ?_
          refine sw_reg ?_
          refine RunS.s1 (x := loc_field (by decide) fd_37_4) (y := ?_)
          refine RunS.s1 (x := loc_load (qs := [PV.sl .v _]) (by decide) ty_23 (fun _ => rfl) (by exact Nat.le_of_ble_eq_true rfl) (by exact (ToL.cons PV.to_none ToL.nil)) (by exact (BorL.cons (PV.bor_sl _) BorL.nil))) (y := ?_)
          refine RunS.s1 (x := loc_field (by decide) fd_37_4) (y := ?_)
          refine RunS.s1 (x := loc_load (qs := [PV.sl .v _]) (by decide) ty_23 (fun _ => rfl) (by exact Nat.le_of_ble_eq_true rfl) (by exact (ToL.cons PV.to_none ToL.nil)) (by exact (BorL.cons (PV.bor_sl _) BorL.nil))) (y := ?_)
          refine RunS.s1 (x := loc_call (qs := [(false, [PV.sl _ _]), (false, [PV.sl _ _])]) (as_ := [(false, [PV.sl .v _]), (false, [PV.sl .v _])]) (by decide) c_65 (by exact (And.intro (by exact ⟨⟩) (And.intro (by exact ⟨⟩) True.intro))) (by exact (And.intro (And.intro rfl (ToL.cons PV.to_none ToL.nil)) (And.intro (And.intro rfl (ToL.cons PV.to_none ToL.nil)) True.intro))) (by exact eq_IntS)) (y := ?_)
          refine RunS.s1 (x := loc_not (by decide)) (y := ?_)
          refine sw_cond (t := 34) rfl (fun hb5 => ?_) (fun hb5 => ?_)
          · try simp only [q1, q2, q3, q4, q5, q6, q7, q8, q9] at hb5
            refine sw_seq ?_
            refine sw_of (l := [(2, RV.ptr 2 0), (3, RV.ptr 3 0), (4, RV.sv false [PV.val _])]) (b := [(2, (37, [PV.val _, PV.val _, PV.sl _ _, PV.sl _ _, PV.sl _ _, PV.sl _ _, PV.sl _ _, PV.sl _ _, PV.sl _ _, PV.sl _ _, PV.sl _ _])), (3, (37, [PV.val _, PV.val _, PV.sl _ _, PV.sl _ _, PV.sl _ _, PV.sl _ _, PV.sl _ _, PV.sl _ _, PV.sl _ _, PV.sl _ _, PV.sl _ _]))]) (by exact ⟨rfl, rfl, rfl, ⟨⟩⟩) (by exact ⟨rfl, rfl, ⟨⟩⟩) ?_
            refine sw_reg ?_
            refine RunS.s1 (x := loc_const (.inr rfl) (by decide) (ok_sc rfl)) (y := ?_)
            refine sw_ret ?_
            exact (And.intro (by refine bool_eq ?_; exact (deq_false (fun e => by subst e; simp_all [deq_self])).symm) True.intro)
          · try simp only [q1, q2, q3, q4, q5, q6, q7, q8, q9] at hb5
            refine sw_skip ?_
            refine sw_seq ?_
            refine sw_seq ?_
            refine sw_of (l := [(2, RV.ptr 2 0), (3, RV.ptr 3 0), (4, RV.sv false [PV.val _])]) (b := [(2, (37, [PV.val _, PV.val _, PV.sl _ _, PV.sl _ _, PV.sl _ _, PV.sl _ _, PV.sl _ _, PV.sl _ _, PV.sl _ _, PV.sl _ _, PV.sl _ _])), (3, (37, [PV.val _, PV.val _, PV.sl _ _, PV.sl _ _, PV.sl _ _, PV.sl _ _, PV.sl _ _, PV.sl _ _, PV.sl _ _, PV.sl _ _, PV.sl _ _]))]) (by exact ⟨rfl, rfl, rfl, ⟨⟩⟩) (by exact ⟨rfl, rfl, ⟨⟩⟩) ?_
            refine sw_reg ?_
            refine RunS.s1 (x := loc_field (by decide) fd_37_5) (y := ?_)
            refine RunS.s1 (x := loc_load (qs := [PV.sl .v _]) (by decide) ty_35 (fun _ => rfl) (by exact Nat.le_of_ble_eq_true rfl) (by exact (ToL.cons PV.to_none ToL.nil)) (by exact (BorL.cons (PV.bor_sl _) BorL.nil))) (y := ?_)
            refine RunS.s1 (x := loc_field (by decide) fd_37_5) (y := ?_)
            refine RunS.s1 (x := loc_load (qs := [PV.sl .v _]) (by decide) ty_35 (fun _ => rfl) (by exact Nat.le_of_ble_eq_true rfl) (by exact (ToL.cons PV.to_none ToL.nil)) (by exact (BorL.cons (PV.bor_sl _) BorL.nil))) (y := ?_)
            refine RunS.s1 (x := loc_call (qs := [(false, [PV.sl _ _]), (false, [PV.sl _ _])]) (as_ := [(false, [PV.sl .v _]), (false, [PV.sl .v _])]) (by decide) c_63 (by exact (And.intro (by exact ⟨⟩) (And.intro (by exact ⟨⟩) True.intro))) (by exact (And.intro (And.intro rfl (ToL.cons PV.to_none ToL.nil)) (And.intro (And.intro rfl (ToL.cons PV.to_none ToL.nil)) True.intro))) (by exact eq_RowSS)) (y := ?_)
            refine RunS.s1 (x := loc_not (by decide)) (y := ?_)
            refine sw_cond (t := 40) rfl (fun hb6 => ?_) (fun hb6 => ?_)
            · try simp only [q1, q2, q3, q4, q5, q6, q7, q8, q9] at hb6
              refine sw_seq ?_
              refine sw_of (l := [(2, RV.ptr 2 0), (3, RV.ptr 3 0), (4, RV.sv false [PV.val _])]) (b := [(2, (37, [PV.val _, PV.val _, PV.sl _ _, PV.sl _ _, PV.sl _ _, PV.sl _ _, PV.sl _ _, PV.sl _ _, PV.sl _ _, PV.sl _ _, PV.sl _ _])), (3, (37, [PV.val _, PV.val _, PV.sl _ _, PV.sl _ _, PV.sl _ _, PV.sl _ _, PV.sl _ _, PV.sl _ _, PV.sl _ _, PV.sl _ _, PV.sl _ _]))]) (by exact ⟨rfl, rfl, rfl, ⟨⟩⟩) (by exact ⟨rfl, rfl, ⟨⟩⟩) ?_
              refine sw_reg ?_
              refine RunS.s1 (x := loc_const (.inr rfl) (by decide) (ok_sc rfl)) (y := ?_)
              refine sw_ret ?_
              exact (And.intro (by refine bool_eq ?_; exact (deq_false (fun e => by subst e; simp_all [deq_self])).symm) True.intro)
            · try simp only [q1, q2, q3, q4, q5, q6, q7, q8, q9] at hb6
              refine sw_skip ?_
              refine sw_seq ?_
              refine sw_seq ?_
              refine sw_of (l := [(2, RV.ptr 2 0), (3, RV.ptr 3 0), (4, RV.sv false [PV.val _])]) (b := [(2, (37, [PV.val _, PV.val _, PV.sl _ _, PV.sl _ _, PV.sl _ _, PV.sl _ _, PV.sl _ _, PV.sl _ _, PV.sl _ _, PV.sl _ _, PV.sl _ _])), (3, (37, [PV.val _, PV.val _, PV.sl _ _, PV.sl _ _, PV.sl _ _, PV.sl _ _, PV.sl _ _, PV.sl _ _, PV.sl _ _, PV.sl _ _, PV.sl _ _]))]) (by exact ⟨rfl, rfl, rfl, ⟨⟩⟩) (by exact ⟨rfl, rfl, ⟨⟩⟩) ?_
              refine sw_reg ?_
              refine RunS.s1 (x := loc_field (by decide) fd_37_6) (y := ?_)
              refine RunS.s1 (x := loc_load (qs := [PV.sl .v _]) (by decide) ty_23 (fun _ => rfl) (by exact Nat.le_of_ble_eq_true rfl) (by exact (ToL.cons PV.to_none ToL.nil)) (by exact (BorL.cons (PV.bor_sl _) BorL.nil))) (y := ?_)
              refine RunS.s1 (x := loc_field (by decide) fd_37_6) (y := ?_)
              refine RunS.s1 (x := loc_load (qs := [PV.sl .v _]) (by decide) ty_23 (fun _ => rfl) (by exact Nat.le_of_ble_eq_true rfl) (by exact (ToL.cons PV.to_none ToL.nil)) (by exact (BorL.cons (PV.bor_sl _) BorL.nil))) (y := ?_)
              refine RunS.s1 (x := loc_call (qs := [(false, [PV.sl _ _]), (false, [PV.sl _ _])]) (as_ := [(false, [PV.sl .v _]), (false, [PV.sl .v _])]) (by decide) c_65 (by exact (And.intro (by exact ⟨⟩) (And.intro (by exact ⟨⟩) True.intro))) (by exact (And.intro (And.intro rfl (ToL.cons PV.to_none ToL.nil)) (And.intro (And.intro rfl (ToL.cons PV.to_none ToL.nil)) True.intro))) (by exact eq_IntS)) (y := ?_)
              refine RunS.s1 (x := loc_not (by decide)) (y := ?_)
              refine sw_cond (t := 46) rfl (fun hb7 => ?_) (fun hb7 => ?_)
              · try simp only [q1, q2, q3, q4, q5, q6, q7, q8, q9] at hb7
                refine sw_seq ?_
                refine sw_of (l := [(2, RV.ptr 2 0), (3, RV.ptr 3 0), (4, RV.sv false [PV.val _])]) (b := [(2, (37, [PV.val _, PV.val _, PV.sl _ _, PV.sl _ _, PV.sl _ _, PV.sl _ _, PV.sl _ _, PV.sl _ _, PV.sl _ _, PV.sl _ _, PV.sl _ _])), (3, (37, [PV.val _, PV.val _, PV.sl _ _, PV.sl _ _, PV.sl _ _, PV.sl _ _, PV.sl _ _, PV.sl _ _, PV.sl _ _, PV.sl _ _, PV.sl _ _]))]) (by exact ⟨rfl, rfl, rfl, ⟨⟩⟩) (by exact ⟨rfl, rfl, ⟨⟩⟩) ?_
                refine sw_reg ?_
                refine RunS.s1 (x := loc_const (.inr rfl) (by decide) (ok_sc rfl)) (y := ?_)
                refine sw_ret ?_
                exact (And.intro (by refine bool_eq ?_; exact (deq_false (fun e => by subst e; simp_all [deq_self])).symm) True.intro)
              · try simp only [q1, q2, q3, q4, q5, q6, q7, q8, q9] at hb7
                refine sw_skip ?_
                refine sw_seq ?_
                refine sw_seq ?_
                refine sw_of (l := [(2, RV.ptr 2 0), (3, RV.ptr 3 0), (4, RV.sv false [PV.val _])]) (b := [(2, (37, [PV.val _, PV.val _, PV.sl _ _, PV.sl _ _, PV.sl _ _, PV.sl _ _, PV.sl _ _, PV.sl _ _, PV.sl _ _, PV.sl _ _, PV.sl _ _])), (3, (37, [PV.val _, PV.val _, PV.sl _ _, PV.sl _ _, PV.sl _ _, PV.sl _ _, PV.sl _ _, PV.sl _ _, PV.sl _ _, PV.sl _ _, PV.sl _ _]))]) (by exact ⟨rfl, rfl, rfl, ⟨⟩⟩) (by exact ⟨rfl, rfl, ⟨⟩⟩) ?_
                refine sw_reg ?_
                refine RunS.s1 (x := loc_field (by decide) fd_37_7) (y := ?_)
                refine RunS.s1 (x := loc_load (qs := [PV.sl .v _]) (by decide) ty_35 (fun _ => rfl) (by exact Nat.le_of_ble_eq_true rfl) (by exact (ToL.cons PV.to_none ToL.nil)) (by exact (BorL.cons (PV.bor_sl _) BorL.nil))) (y := ?_)
                refine RunS.s1 (x := loc_field (by decide) fd_37_7) (y := ?_)
                refine RunS.s1 (x := loc_load (qs := [PV.sl .v _]) (by decide) ty_35 (fun _ => rfl) (by exact Nat.le_of_ble_eq_true rfl) (by exact (ToL.cons PV.to_none ToL.nil)) (by exact (BorL.cons (PV.bor_sl _) BorL.nil))) (y := ?_)
                refine RunS.s1 (x := loc_call (qs := [(false, [PV.sl _ _]), (false, [PV.sl _ _])]) (as_ := [(false, [PV.sl .v _]), (false, [PV.sl .v _])]) (by decide) c_63 (by exact (And.intro (by exact ⟨⟩) (And.intro (by exact ⟨⟩) True.intro))) (by exact (And.intro (And.intro rfl (ToL.cons PV.to_none ToL.nil)) (And.intro (And.intro rfl (ToL.cons PV.to_none ToL.nil)) True.intro))) (by exact eq_RowSS)) (y := ?_)
                refine RunS.s1 (x := loc_not (by decide)) (y := ?_)
                refine sw_cond (t := 52) rfl (fun hb8 => ?_) (fun hb8 => ?_)
                · try simp only [q1, q2, q3, q4, q5, q6, q7, q8, q9] at hb8
                  refine sw_seq ?_
                  refine sw_of (l := [(2, RV.ptr 2 0), (3, RV.ptr 3 0), (4, RV.sv false [PV.val _])]) (b := [(2, (37, [PV.val _, PV.val _, PV.sl _ _, PV.sl _ _, PV.sl _ _, PV.sl _ _, PV.sl _ _, PV.sl _ _, PV.sl _ _, PV.sl _ _, PV.sl _ _])), (3, (37, [PV.val _, PV.val _, PV.sl _ _, PV.sl _ _, PV.sl _ _, PV.sl _ _, PV.sl _ _, PV.sl _ _, PV.sl _ _, PV.sl _ _, PV.sl _ _]))]) (by exact ⟨rfl, rfl, rfl, ⟨⟩⟩) (by exact ⟨rfl, rfl, ⟨⟩⟩) ?_
                  refine sw_reg ?_
                  refine RunS.s1 (x := loc_const (.inr rfl) (by decide) (ok_sc rfl)) (y := ?_)
                  refine sw_ret ?_
                  exact (And.intro (by refine bool_eq ?_; exact (deq_false (fun e => by subst e; simp_all [deq_self])).symm) True.intro)
                · try simp only [q1, q2, q3, q4, q5, q6, q7, q8, q9] at hb8
                  refine sw_skip ?_
                  refine sw_seq ?_
                  refine sw_of (l := [(2, RV.ptr 2 0), (3, RV.ptr 3 0), (4, RV.sv false [PV.val _])]) (b := [(2, (37, [PV.val _, PV.val _, PV.sl _ _, PV.sl _ _, PV.sl _ _, PV.sl _ _, PV.sl _ _, PV.sl _ _, PV.sl _ _, PV.sl _ _, PV.sl _ _])), (3, (37, [PV.val _, PV.val _, PV.sl _ _, PV.sl _ _, PV.sl _ _, PV.sl _ _, PV.sl _ _, PV.sl _ _, PV.sl _ _, PV.sl _ _, PV.sl _ _]))]) (by exact ⟨rfl, rfl, rfl, ⟨⟩⟩) (by exact ⟨rfl, rfl, ⟨⟩⟩) ?_
                  refine sw_reg ?_
                  refine RunS.s1 (x := loc_const (.inr rfl) (by decide) (ok_sc rfl)) (y := ?_)
                  refine sw_ret ?_
                  exact (And.intro (by refine bool_eq ?_; exact (deq_true (by apply ext_Cluster <;> simp_all [deq_iff])).symm) True.intro)
end Go.Proofs.Ytgaaaoapnhambaa
