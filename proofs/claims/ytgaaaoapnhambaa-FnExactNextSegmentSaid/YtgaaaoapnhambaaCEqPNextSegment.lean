/- What functions of the program compute. No condition. -/
import Derived.Test.YtgaaaoapnhambaaCProgNextSegment
set_option linter.unusedVariables false
set_option linter.unusedSimpArgs false
namespace Go.Proofs.Ytgaaaoapnhambaa
open Go Go.RowKit M
set_option maxRecDepth 10000
theorem spec_l2Ints {x : List Int} {y : List Int}  : SCall Try.prog 79 [(false, [PV.sl .v (x.map cInt)]), (false, [PV.sl .v (y.map cInt)])] (resRV [(false, [PV.val (.bool (deq x y))])]) := by
  refine scall_of (rs := [(false, [PV.val (.bool (deq x y))])]) Try.func79 rfl (Nat.le_of_ble_eq_true rfl) (borA_cons (BorL.cons (PV.bor_sl _) BorL.nil) (borA_cons (BorL.cons (PV.bor_sl _) BorL.nil) borA_nil)) ?_
  intro h0 w0 Fz0
  refine sw_len (s := 0) rfl fun hl0 => ?_
  try rw [List.length_map] at hl0
  refine sw_len (s := 1) rfl fun hl1 => ?_
  try rw [List.length_map] at hl1
  refine sw_seq ?_
  refine sw_reg ?_
  refine RunS.s1 (x := loc_const (.inr rfl) (by decide) (ok_sc rfl)) (y := ?_)
  refine sw_seq ?_
  refine sw_seq ?_
  refine sw_of (l := [(0, RV.sv false [PV.sl _ _]), (1, RV.sv false [PV.sl _ _]), (4, RV.sv false [PV.val _])]) (b := []) (by exact ⟨rfl, rfl, rfl, ⟨⟩⟩) (by exact ⟨⟩) ?_
  refine sw_reg ?_
  refine RunS.s1 (x := loc_copy (r' := RV.sv false [PV.sl .v _]) (.inl rfl) (by decide) (by exact Cp.sv (ToL.cons PV.to_none ToL.nil) (BorL.cons (PV.bor_sl _) BorL.nil))) (y := ?_)
  refine RunS.s1 (x := loc_len (by decide) sl_23 (by first | exact List.length_map _ | exact rfl)) (y := ?_)
  refine RunS.s1 (x := loc_copy (r' := RV.sv false [PV.sl .v _]) (.inl rfl) (by decide) (by exact Cp.sv (ToL.cons PV.to_none ToL.nil) (BorL.cons (PV.bor_sl _) BorL.nil))) (y := ?_)
  refine RunS.s1 (x := loc_len (by decide) sl_23 (by first | exact List.length_map _ | exact rfl)) (y := ?_)
  refine RunS.s1 (x := loc_neq (by decide) (by exact ⟨⟩) (by exact ⟨⟩)) (y := ?_)
  refine sw_cond (t := 10) rfl (fun hb1 => ?_) (fun hb1 => ?_)
  · try simp only [q1, q2, q3, q4, q5, q6, q7, q8, q9] at hb1
    refine sw_seq ?_
    refine sw_of (l := [(0, RV.sv false [PV.sl _ _]), (1, RV.sv false [PV.sl _ _]), (4, RV.sv false [PV.val _])]) (b := []) (by exact ⟨rfl, rfl, rfl, ⟨⟩⟩) (by exact ⟨⟩) ?_
    refine sw_reg ?_
    refine RunS.s1 (x := loc_const (.inr rfl) (by decide) (ok_sc rfl)) (y := ?_)
    refine sw_ret ?_
    exact (And.intro (by refine bool_eq ?_; exact (deq_false (fun e => by subst e; simp at *)).symm) True.intro)
  · try simp only [q1, q2, q3, q4, q5, q6, q7, q8, q9] at hb1
    have hl : x.length = y.length := by omega
    refine sw_skip ?_
    refine sw_seq ?_
    refine sw_seq ?_
    refine sw_of (l := [(0, RV.sv false [PV.sl _ _]), (1, RV.sv false [PV.sl _ _]), (4, RV.sv false [PV.val _])]) (b := []) (by exact ⟨rfl, rfl, rfl, ⟨⟩⟩) (by exact ⟨⟩) ?_
    refine sw_reg ?_
    refine RunS.s1 (x := loc_const (.inr rfl) (by decide) (ok_sc rfl)) (y := ?_)
    refine sw_block ?_
    refine sw_of (l := [(0, RV.sv false [PV.sl _ _]), (1, RV.sv false [PV.sl _ _]), (4, RV.sv false [PV.val _]), (5, RV.sv false [PV.val _])]) (b := []) (by exact ⟨rfl, rfl, rfl, rfl, ⟨⟩⟩) (by exact ⟨⟩) ?_
    refine sw_loop (l0 := [(0, RV.sv false [PV.sl _ _]), (1, RV.sv false [PV.sl _ _])]) (b0 := []) (fun k : Nat => k ≤ x.length ∧ x.take k = y.take k) (fun k : Nat => [(5, RV.int (k : Int))]) (fun k : Nat => []) (fun k : Nat => x.length - k) 0 (by exact ⟨by omega, by simp⟩) (by exact ⟨rfl, rfl, ⟨⟩⟩) (by exact ⟨⟩) (by exact And.intro (by exact rfl) (True.intro)) (by exact ⟨⟩) ?_
    rintro k ⟨hk, ha⟩
    refine sw_seq ?_
    refine sw_seq ?_
    refine sw_reg ?_
    refine RunS.s1 (x := loc_copy (.inl rfl) (by decide) (by exact Cp.sc)) (y := ?_)
    refine RunS.s1 (x := loc_copy (r' := RV.sv false [PV.sl .v _]) (.inl rfl) (by decide) (by exact Cp.sv (ToL.cons PV.to_none ToL.nil) (BorL.cons (PV.bor_sl _) BorL.nil))) (y := ?_)
    refine RunS.s1 (x := loc_len (by decide) sl_23 (by first | exact List.length_map _ | exact rfl)) (y := ?_)
    refine RunS.s1 (x := loc_lss (by decide) (by exact ⟨⟩) (by exact ⟨⟩)) (y := ?_)
    refine sw_cond (t := 14) rfl (fun hb2 => ?_) (fun hb2 => ?_)
    · try simp only [q1, q2, q3, q4, q5, q6, q7, q8, q9] at hb2
      have hlt : k < x.length := by omega
      have hlt2 : k < y.length := by omega
      refine sw_skip ?_
      refine sw_seq ?_
      refine sw_block ?_
      refine sw_seq ?_
      refine sw_of (l := [(0, RV.sv false [PV.sl _ _]), (1, RV.sv false [PV.sl _ _]), (5, RV.sv false [PV.val _])]) (b := []) (by exact ⟨rfl, rfl, rfl, ⟨⟩⟩) (by exact ⟨⟩) ?_
      refine sw_draw hm_ ?_
      refine Run.step 0 (by exact ⟨rfl, ⟨⟩⟩) (by exact ⟨⟩) (LocG.of rfl (loc_copy (r' := RV.sv false [PV.sl .v _]) (.inl rfl) (by decide) (by exact Cp.sv (ToL.cons PV.to_none ToL.nil) (BorL.cons (PV.bor_sl _) BorL.nil)))) nofree (by kernel_rfl) ?_
      refine Run.step 0 (by exact ⟨rfl, ⟨⟩⟩) (by exact ⟨⟩) (LocG.of rfl (loc_copy (.inl rfl) (by decide) (by exact Cp.sc))) nofree (by kernel_rfl) ?_
      refine Run.step 3 (by exact ⟨rfl, rfl, ⟨⟩⟩) (by exact ⟨⟩) (LocG.of rfl (loc_index (by decide) sl_23 (by exact ⟨⟩) (by exact rfl) (by exact getm2 (by omega) rfl) (by exact rfl))) nofree (by kernel_rfl) ?_
      refine Run.step 7 (by exact ⟨rfl, ⟨⟩⟩) (by exact ⟨⟩) (LocG.of rfl (loc_eload (qs := [PV.val _]) (by decide) ty_3 (fun _ => rfl) (by exact Nat.le_of_ble_eq_true rfl) (by exact (ToL.cons (PV.To.refl _) ToL.nil)) (by exact (BorL.cons (PV.bor_val _) BorL.nil)))) nofree (by kernel_rfl) ?_
      refine Run.step 0 (by exact ⟨rfl, ⟨⟩⟩) (by exact ⟨⟩) (LocG.of rfl (loc_copy (r' := RV.sv false [PV.sl .v _]) (.inl rfl) (by decide) (by exact Cp.sv (ToL.cons PV.to_none ToL.nil) (BorL.cons (PV.bor_sl _) BorL.nil)))) nofree (by kernel_rfl) ?_
      refine Run.step 0 (by exact ⟨rfl, ⟨⟩⟩) (by exact ⟨⟩) (LocG.of rfl (loc_copy (.inl rfl) (by decide) (by exact Cp.sc))) nofree (by kernel_rfl) ?_
      refine Run.step 48 (by exact ⟨rfl, rfl, ⟨⟩⟩) (by exact ⟨⟩) (LocG.of rfl (loc_index (by decide) sl_23 (by exact ⟨⟩) (by exact rfl) (by exact getm2 (by omega) rfl) (by exact rfl))) nofree (by kernel_rfl) ?_
      refine Run.step 112 (by exact ⟨rfl, ⟨⟩⟩) (by exact ⟨⟩) (LocG.of rfl (loc_eload (qs := [PV.val _]) (by decide) ty_3 (fun _ => rfl) (by exact Nat.le_of_ble_eq_true rfl) (by exact (ToL.cons (PV.To.refl _) ToL.nil)) (by exact (BorL.cons (PV.bor_val _) BorL.nil)))) nofree (by kernel_rfl) ?_
      refine Run.step 255 (by exact ⟨rfl, rfl, ⟨⟩⟩) (by exact ⟨⟩) (LocG.of rfl (loc_neq (by decide) (by exact ⟨⟩) (by exact ⟨⟩))) nofree (by kernel_rfl) ?_
      refine sw_cond (t := 25) rfl (fun hb3 => ?_) (fun hb3 => ?_)
      · try simp only [q1, q2, q3, q4, q5, q6, q7, q8, q9] at hb3
        refine sw_seq ?_
        refine sw_of (l := [(0, RV.sv false [PV.sl _ _]), (1, RV.sv false [PV.sl _ _]), (5, RV.sv false [PV.val _])]) (b := []) (by exact ⟨rfl, rfl, rfl, ⟨⟩⟩) (by exact ⟨⟩) ?_
        refine sw_reg ?_
        refine RunS.s1 (x := loc_const (.inr rfl) (by decide) (ok_sc rfl)) (y := ?_)
        refine sw_ret ?_
        exact (And.intro (by refine bool_eq ?_; exact (deq_false (eq_no hlt hlt2 (by intro e; simp [e, deq_self] at *))).symm) True.intro)
      · try simp only [q1, q2, q3, q4, q5, q6, q7, q8, q9] at hb3
        refine sw_skip ?_
        refine sw_of (l := [(0, RV.sv false [PV.sl _ _]), (1, RV.sv false [PV.sl _ _]), (5, RV.sv false [PV.val _])]) (b := []) (by exact ⟨rfl, rfl, rfl, ⟨⟩⟩) (by exact ⟨⟩) ?_
        refine sw_reg ?_
        refine RunS.s1 (x := loc_copy (.inl rfl) (by decide) (by exact Cp.sc)) (y := ?_)
        refine RunS.s1 (x := loc_add (by decide) (by exact ⟨⟩) (ok_sc rfl) (by unfold I64; omega)) (y := ?_)
        refine RunS.s1 (x := loc_copy (.inr rfl) (by decide) (by exact Cp.sc)) (y := ?_)
        refine Exists.intro (k + 1) (And.intro (by exact ⟨by omega, eq_succ ha hlt hlt2 (by simp_all)⟩) (And.intro (by omega) (And.intro (And.intro (by exact ⟨rfl, rfl, ⟨⟩⟩) (by exact ⟨⟩)) (And.intro (by exact And.intro (by exact rfl) (True.intro)) (by exact ⟨⟩)))))
    · try simp only [q1, q2, q3, q4, q5, q6, q7, q8, q9] at hb2
      refine sw_exit ?_
      refine sw_seq ?_
      refine sw_of (l := [(0, RV.sv false [PV.sl _ _]), (1, RV.sv false [PV.sl _ _]), (5, RV.sv false [PV.val _])]) (b := []) (by exact ⟨rfl, rfl, rfl, ⟨⟩⟩) (by exact ⟨⟩) ?_
      refine sw_reg ?_
      refine RunS.s1 (x := loc_const (.inr rfl) (by decide) (ok_sc rfl)) (y := ?_)
      refine sw_ret ?_
      exact (And.intro (by refine bool_eq ?_; exact (deq_true (eq_end hl (by rw [show x.length = k by omega]; exact ha))).symm) True.intro)
theorem impl_sameInts {x : List Int} {y : List Int}  : SCall Try.prog 194 [(false, [PV.sl .v (x.map cInt)]), (false, [PV.sl .v (y.map cInt)])] (resRV [(false, [PV.val (.bool (deq x y))])]) := by
  refine scall_of (rs := [(false, [PV.val (.bool (deq x y))])]) Try.func194 rfl (Nat.le_of_ble_eq_true rfl) (borA_cons (BorL.cons (PV.bor_sl _) BorL.nil) (borA_cons (BorL.cons (PV.bor_sl _) BorL.nil) borA_nil)) ?_
  intro h0 w0 Fz0
  refine sw_len (s := 0) rfl fun hl0 => ?_
  try rw [List.length_map] at hl0
  refine sw_len (s := 1) rfl fun hl1 => ?_
  try rw [List.length_map] at hl1
  refine sw_seq ?_
  refine sw_reg ?_
  refine RunS.s1 (x := loc_const (.inr rfl) (by decide) (ok_sc rfl)) (y := ?_)
  refine sw_seq ?_
  refine sw_seq ?_
  refine sw_of (l := [(0, RV.sv false [PV.sl _ _]), (1, RV.sv false [PV.sl _ _]), (4, RV.sv false [PV.val _])]) (b := []) (by exact ⟨rfl, rfl, rfl, ⟨⟩⟩) (by exact ⟨⟩) ?_
  refine sw_reg ?_
  refine RunS.s1 (x := loc_copy (r' := RV.sv false [PV.sl .v _]) (.inl rfl) (by decide) (by exact Cp.sv (ToL.cons PV.to_none ToL.nil) (BorL.cons (PV.bor_sl _) BorL.nil))) (y := ?_)
  refine RunS.s1 (x := loc_len (by decide) sl_23 (by first | exact List.length_map _ | exact rfl)) (y := ?_)
  refine RunS.s1 (x := loc_copy (r' := RV.sv false [PV.sl .v _]) (.inl rfl) (by decide) (by exact Cp.sv (ToL.cons PV.to_none ToL.nil) (BorL.cons (PV.bor_sl _) BorL.nil))) (y := ?_)
  refine RunS.s1 (x := loc_len (by decide) sl_23 (by first | exact List.length_map _ | exact rfl)) (y := ?_)
  refine RunS.s1 (x := loc_neq (by decide) (by exact ⟨⟩) (by exact ⟨⟩)) (y := ?_)
  refine sw_cond (t := 10) rfl (fun hb1 => ?_) (fun hb1 => ?_)
  · try simp only [q1, q2, q3, q4, q5, q6, q7, q8, q9] at hb1
    refine sw_seq ?_
    refine sw_of (l := [(0, RV.sv false [PV.sl _ _]), (1, RV.sv false [PV.sl _ _]), (4, RV.sv false [PV.val _])]) (b := []) (by exact ⟨rfl, rfl, rfl, ⟨⟩⟩) (by exact ⟨⟩) ?_
    refine sw_reg ?_
    refine RunS.s1 (x := loc_const (.inr rfl) (by decide) (ok_sc rfl)) (y := ?_)
    refine sw_ret ?_
    exact (And.intro (by refine bool_eq ?_; exact (deq_false (fun e => by subst e; simp at *)).symm) True.intro)
  · try simp only [q1, q2, q3, q4, q5, q6, q7, q8, q9] at hb1
    have hl : x.length = y.length := by omega
    refine sw_skip ?_
    refine sw_seq ?_
    refine sw_seq ?_
    refine sw_of (l := [(0, RV.sv false [PV.sl _ _]), (1, RV.sv false [PV.sl _ _]), (4, RV.sv false [PV.val _])]) (b := []) (by exact ⟨rfl, rfl, rfl, ⟨⟩⟩) (by exact ⟨⟩) ?_
    refine sw_reg ?_
    refine RunS.s1 (x := loc_copy (r' := RV.sv false [PV.sl .v _]) (.inl rfl) (by decide) (by exact Cp.sv (ToL.cons PV.to_none ToL.nil) (BorL.cons (PV.bor_sl _) BorL.nil))) (y := ?_)
    refine RunS.s1 (x := loc_len (by decide) sl_23 (by first | exact List.length_map _ | exact rfl)) (y := ?_)
    refine RunS.s1 (x := loc_const (.inl rfl) (by decide) (ok_sc rfl)) (y := ?_)
    refine sw_block ?_
    refine sw_of (l := [(0, RV.sv false [PV.sl _ _]), (1, RV.sv false [PV.sl _ _]), (4, RV.sv false [PV.val _]), (12, RV.sv false [PV.val _]), (13, RV.sv false [PV.val _])]) (b := []) (by exact ⟨rfl, rfl, rfl, rfl, rfl, ⟨⟩⟩) (by exact ⟨⟩) ?_
    refine sw_loop (l0 := [(0, RV.sv false [PV.sl _ _]), (1, RV.sv false [PV.sl _ _]), (12, RV.sv false [PV.val _])]) (b0 := []) (fun k : Nat => k ≤ x.length ∧ x.take k = y.take k) (fun k : Nat => [(13, RV.int (k : Int))]) (fun k : Nat => []) (fun k : Nat => x.length - k) 0 (by exact ⟨by omega, by simp⟩) (by exact ⟨rfl, rfl, rfl, ⟨⟩⟩) (by exact ⟨⟩) (by exact And.intro (by exact rfl) (True.intro)) (by exact ⟨⟩) ?_
    rintro k ⟨hk, ha⟩
    refine sw_seq ?_
    refine sw_reg ?_
    refine RunS.s1 (x := loc_lss (by decide) (by exact ⟨⟩) (by exact ⟨⟩)) (y := ?_)
    refine sw_seq ?_
    refine sw_cond (t := 14) rfl (fun hb2 => ?_) (fun hb2 => ?_)
    · try simp only [q1, q2, q3, q4, q5, q6, q7, q8, q9] at hb2
      have hlt : k < x.length := by omega
      have hlt2 : k < y.length := by omega
      refine sw_skip ?_
      refine sw_seq ?_
      refine sw_block ?_
      refine sw_seq ?_
      refine sw_of (l := [(0, RV.sv false [PV.sl _ _]), (1, RV.sv false [PV.sl _ _]), (12, RV.sv false [PV.val _]), (13, RV.sv false [PV.val _])]) (b := []) (by exact ⟨rfl, rfl, rfl, rfl, ⟨⟩⟩) (by exact ⟨⟩) ?_
      refine sw_reg ?_
      refine RunS.s1 (x := loc_copy (.inl rfl) (by decide) (by exact Cp.sc)) (y := ?_)
      refine RunS.s1 (x := loc_copy (.inr rfl) (by decide) (by exact Cp.sc)) (y := ?_)
      refine sw_seq ?_
      refine sw_of (l := [(0, RV.sv false [PV.sl _ _]), (1, RV.sv false [PV.sl _ _]), (5, RV.sv false [PV.val _]), (12, RV.sv false [PV.val _]), (13, RV.sv false [PV.val _])]) (b := []) (by exact ⟨rfl, rfl, rfl, rfl, rfl, ⟨⟩⟩) (by exact ⟨⟩) ?_
      refine sw_draw hm_ ?_
      refine Run.step 0 (by exact ⟨rfl, ⟨⟩⟩) (by exact ⟨⟩) (LocG.of rfl (loc_copy (r' := RV.sv false [PV.sl .v _]) (.inl rfl) (by decide) (by exact Cp.sv (ToL.cons PV.to_none ToL.nil) (BorL.cons (PV.bor_sl _) BorL.nil)))) nofree (by kernel_rfl) ?_
      refine Run.step 0 (by exact ⟨rfl, ⟨⟩⟩) (by exact ⟨⟩) (LocG.of rfl (loc_copy (.inl rfl) (by decide) (by exact Cp.sc))) nofree (by kernel_rfl) ?_
      refine Run.step 3 (by exact ⟨rfl, rfl, ⟨⟩⟩) (by exact ⟨⟩) (LocG.of rfl (loc_index (by decide) sl_23 (by exact ⟨⟩) (by exact rfl) (by exact getm2 (by omega) rfl) (by exact rfl))) nofree (by kernel_rfl) ?_
      refine Run.step 7 (by exact ⟨rfl, ⟨⟩⟩) (by exact ⟨⟩) (LocG.of rfl (loc_eload (qs := [PV.val _]) (by decide) ty_3 (fun _ => rfl) (by exact Nat.le_of_ble_eq_true rfl) (by exact (ToL.cons (PV.To.refl _) ToL.nil)) (by exact (BorL.cons (PV.bor_val _) BorL.nil)))) nofree (by kernel_rfl) ?_
      refine Run.step 0 (by exact ⟨rfl, ⟨⟩⟩) (by exact ⟨⟩) (LocG.of rfl (loc_copy (r' := RV.sv false [PV.sl .v _]) (.inl rfl) (by decide) (by exact Cp.sv (ToL.cons PV.to_none ToL.nil) (BorL.cons (PV.bor_sl _) BorL.nil)))) nofree (by kernel_rfl) ?_
      refine Run.step 0 (by exact ⟨rfl, ⟨⟩⟩) (by exact ⟨⟩) (LocG.of rfl (loc_copy (.inl rfl) (by decide) (by exact Cp.sc))) nofree (by kernel_rfl) ?_
      refine Run.step 48 (by exact ⟨rfl, rfl, ⟨⟩⟩) (by exact ⟨⟩) (LocG.of rfl (loc_index (by decide) sl_23 (by exact ⟨⟩) (by exact rfl) (by exact getm2 (by omega) rfl) (by exact rfl))) nofree (by kernel_rfl) ?_
      refine Run.step 112 (by exact ⟨rfl, ⟨⟩⟩) (by exact ⟨⟩) (LocG.of rfl (loc_eload (qs := [PV.val _]) (by decide) ty_3 (fun _ => rfl) (by exact Nat.le_of_ble_eq_true rfl) (by exact (ToL.cons (PV.To.refl _) ToL.nil)) (by exact (BorL.cons (PV.bor_val _) BorL.nil)))) nofree (by kernel_rfl) ?_
      refine Run.step 255 (by exact ⟨rfl, rfl, ⟨⟩⟩) (by exact ⟨⟩) (LocG.of rfl (loc_neq (by decide) (by exact ⟨⟩) (by exact ⟨⟩))) nofree (by kernel_rfl) ?_
      refine sw_cond (t := 24) rfl (fun hb3 => ?_) (fun hb3 => ?_)
      · try simp only [q1, q2, q3, q4, q5, q6, q7, q8, q9] at hb3
        refine sw_seq ?_
        refine sw_of (l := [(0, RV.sv false [PV.sl _ _]), (1, RV.sv false [PV.sl _ _]), (5, RV.sv false [PV.val _]), (12, RV.sv false [PV.val _]), (13, RV.sv false [PV.val _])]) (b := []) (by exact ⟨rfl, rfl, rfl, rfl, rfl, ⟨⟩⟩) (by exact ⟨⟩) ?_
        refine sw_reg ?_
        refine RunS.s1 (x := loc_const (.inr rfl) (by decide) (ok_sc rfl)) (y := ?_)
        refine sw_ret ?_
        exact (And.intro (by refine bool_eq ?_; exact (deq_false (eq_no hlt hlt2 (by intro e; simp [e, deq_self] at *))).symm) True.intro)
      · try simp only [q1, q2, q3, q4, q5, q6, q7, q8, q9] at hb3
        refine sw_skip ?_
        refine sw_of (l := [(0, RV.sv false [PV.sl _ _]), (1, RV.sv false [PV.sl _ _]), (5, RV.sv false [PV.val _]), (12, RV.sv false [PV.val _]), (13, RV.sv false [PV.val _])]) (b := []) (by exact ⟨rfl, rfl, rfl, rfl, rfl, ⟨⟩⟩) (by exact ⟨⟩) ?_
        refine sw_reg ?_
        refine RunS.s1 (x := loc_add (by decide) (by exact ⟨⟩) (ok_sc rfl) (by unfold I64; omega)) (y := ?_)
        refine RunS.s1 (x := loc_copy (.inl rfl) (by decide) (by exact Cp.sc)) (y := ?_)
        refine Exists.intro (k + 1) (And.intro (by exact ⟨by omega, eq_succ ha hlt hlt2 (by simp_all)⟩) (And.intro (by omega) (And.intro (And.intro (by exact ⟨rfl, rfl, rfl, ⟨⟩⟩) (by exact ⟨⟩)) (And.intro (by exact And.intro (by exact rfl) (True.intro)) (by exact ⟨⟩)))))
    · try simp only [q1, q2, q3, q4, q5, q6, q7, q8, q9] at hb2
      refine sw_exit ?_
      refine sw_seq ?_
      refine sw_of (l := [(0, RV.sv false [PV.sl _ _]), (1, RV.sv false [PV.sl _ _]), (12, RV.sv false [PV.val _]), (13, RV.sv false [PV.val _])]) (b := []) (by exact ⟨rfl, rfl, rfl, rfl, ⟨⟩⟩) (by exact ⟨⟩) ?_
      refine sw_reg ?_
      refine RunS.s1 (x := loc_const (.inr rfl) (by decide) (ok_sc rfl)) (y := ?_)
      refine sw_ret ?_
      exact (And.intro (by refine bool_eq ?_; exact (deq_true (eq_end hl (by rw [show x.length = k by omega]; exact ha))).symm) True.intro)
theorem impl_equalRow {x : Row} {y : Row}  : SCall Try.prog 143 [(true, [PV.val (vI x.Id), PV.sl .v (x.Values.map cInt)]), (true, [PV.val (vI y.Id), PV.sl .v (y.Values.map cInt)])] (resRV [(false, [PV.val (.bool (deq x y))])]) := by
  refine scall_of (rs := [(false, [PV.val (.bool (deq x y))])]) Try.func143 rfl (Nat.le_of_ble_eq_true rfl) (borA_cons (BorL.cons (PV.bor_val _) (BorL.cons (PV.bor_sl _) BorL.nil)) (borA_cons (BorL.cons (PV.bor_val _) (BorL.cons (PV.bor_sl _) BorL.nil)) borA_nil)) ?_
  intro h0 w0 Fz0
  refine sw_slen (s := 0) (j := 1) rfl rfl fun hl0_1 => ?_
  try rw [List.length_map] at hl0_1
  refine sw_slen (s := 1) (j := 1) rfl rfl fun hl1_1 => ?_
  try rw [List.length_map] at hl1_1
  refine sw_seq ?_
  refine sw_reg ?_
  refine RunS.step (by exact ⟨rfl, ⟨⟩⟩) (by exact ⟨⟩) (LocG.of rfl (loc_box (ag := true) (cs := [PV.val _, PV.sl _ _]) (by decide) (by exact ⟨⟩))) (free1 (Free.of_ rfl)) ?_
  refine RunS.step (by exact ⟨rfl, ⟨⟩⟩) (by exact ⟨⟩) (LocG.of rfl (loc_box (ag := true) (cs := [PV.val _, PV.sl _ _]) (by decide) (by exact ⟨⟩))) (free1 (Free.app (Free.of_ rfl) rfl)) ?_
  refine RunS.s1 (x := loc_const (.inr rfl) (by decide) (ok_sc rfl)) (y := ?_)
  refine sw_seq ?_
  refine sw_of (l := [(2, RV.ptr 2 0), (3, RV.ptr 3 0), (4, RV.sv false [PV.val _])]) (b := [(2, (77, [PV.val _, PV.sl _ _])), (3, (77, [PV.val _, PV.sl _ _]))]) (by exact ⟨rfl, rfl, rfl, ⟨⟩⟩) (by exact ⟨rfl, rfl, ⟨⟩⟩) ?_
  refine sw_reg ?_
  refine RunS.s1 (x := loc_field (by decide) fd_77_0) (y := ?_)
  refine RunS.s1 (x := loc_load (qs := [PV.val _]) (by decide) ty_3 (fun _ => rfl) (by exact Nat.le_of_ble_eq_true rfl) (by exact (ToL.cons (PV.To.refl _) ToL.nil)) (by exact (BorL.cons (PV.bor_val _) BorL.nil))) (y := ?_)
  refine RunS.s1 (x := loc_field (by decide) fd_77_0) (y := ?_)
  refine RunS.s1 (x := loc_load (qs := [PV.val _]) (by decide) ty_3 (fun _ => rfl) (by exact Nat.le_of_ble_eq_true rfl) (by exact (ToL.cons (PV.To.refl _) ToL.nil)) (by exact (BorL.cons (PV.bor_val _) BorL.nil))) (y := ?_)
  refine RunS.s1 (x := loc_eql (by decide) (by exact ⟨⟩) (by exact ⟨⟩)) (y := ?_)
  refine RunS.s1 (x := loc_copy (.inl rfl) (by decide) (by exact Cp.sc)) (y := ?_)
  refine RunS.cases (s := 10) rfl (fun g1 => ?_) (fun g1 => ?_)
  · have sg1 := g1
    try simp only [q1, q2, q3, q4, q5, q6, q7, q8, q9] at sg1
    refine RunS.s2 (hb := g1) (x := loc_field (by decide) fd_77_1) (y := ?_)
    refine RunS.s2 (hb := g1) (x := loc_load (qs := [PV.sl .v _]) (by decide) ty_23 (fun _ => rfl) (by exact Nat.le_of_ble_eq_true rfl) (by exact (ToL.cons PV.to_none ToL.nil)) (by exact (BorL.cons (PV.bor_sl _) BorL.nil))) (y := ?_)
    refine RunS.s2 (hb := g1) (x := loc_field (by decide) fd_77_1) (y := ?_)
    refine RunS.s2 (hb := g1) (x := loc_load (qs := [PV.sl .v _]) (by decide) ty_23 (fun _ => rfl) (by exact Nat.le_of_ble_eq_true rfl) (by exact (ToL.cons PV.to_none ToL.nil)) (by exact (BorL.cons (PV.bor_sl _) BorL.nil))) (y := ?_)
    refine RunS.s2 (hb := g1) (x := loc_call (qs := [(false, [PV.sl _ _]), (false, [PV.sl _ _])]) (as_ := [(false, [PV.sl .v _]), (false, [PV.sl .v _])]) (by decide) c_194 (by exact (And.intro (by exact ⟨⟩) (And.intro (by exact ⟨⟩) True.intro))) (by exact (And.intro (And.intro rfl (ToL.cons PV.to_none ToL.nil)) (And.intro (And.intro rfl (ToL.cons PV.to_none ToL.nil)) True.intro))) (by exact impl_sameInts)) (y := ?_)
    refine RunS.s1 (x := loc_pick (z := .tmp 15) (by decide) (by rw [g1]; rfl) (by exact ⟨⟩) (by exact ⟨⟩) (by exact Cp.sc)) (y := ?_)
    refine RunS.s1 (x := loc_copy (.inr rfl) (by decide) (by exact Cp.sc)) (y := ?_)
    refine sw_ret ?_
    exact (And.intro (by refine bool_eq ?_; rw [Bool.eq_iff_iff]; simp only [deq_iff, ext_Row_iff]; simp_all [deq_iff]) True.intro)
  · have sg1 := g1
    try simp only [q1, q2, q3, q4, q5, q6, q7, q8, q9] at sg1
    refine RunS.s0f g1 ?_
    refine RunS.s0f g1 ?_
    refine RunS.s0f g1 ?_
    refine RunS.s0f g1 ?_
    refine RunS.s0f g1 ?_
    refine RunS.s1 (x := loc_pick (z := .const (.bool false)) (by decide) (by rw [g1]; rfl) (by exact ⟨⟩) (ok_sc rfl) (by exact Cp.sc)) (y := ?_)
    refine RunS.s1 (x := loc_copy (.inr rfl) (by decide) (by exact Cp.sc)) (y := ?_)
    refine sw_ret ?_
    exact (And.intro (by refine bool_eq ?_; rw [Bool.eq_iff_iff]; simp only [deq_iff, ext_Row_iff]; simp_all [deq_iff]) True.intro)
theorem spec_l3Same {x : Row} {y : Row}  : SCall Try.prog 78 [(true, [PV.val (vI x.Id), PV.sl .v (x.Values.map cInt)]), (true, [PV.val (vI y.Id), PV.sl .v (y.Values.map cInt)])] (resRV [(false, [PV.val (.bool (deq x y))])]) := by
  refine scall_of (rs := [(false, [PV.val (.bool (deq x y))])]) Try.func78 rfl (Nat.le_of_ble_eq_true rfl) (borA_cons (BorL.cons (PV.bor_val _) (BorL.cons (PV.bor_sl _) BorL.nil)) (borA_cons (BorL.cons (PV.bor_val _) (BorL.cons (PV.bor_sl _) BorL.nil)) borA_nil)) ?_
  intro h0 w0 Fz0
  refine sw_slen (s := 0) (j := 1) rfl rfl fun hl0_1 => ?_
  try rw [List.length_map] at hl0_1
  refine sw_slen (s := 1) (j := 1) rfl rfl fun hl1_1 => ?_
  try rw [List.length_map] at hl1_1
  refine sw_seq ?_
  refine sw_reg ?_
  refine RunS.step (by exact ⟨rfl, ⟨⟩⟩) (by exact ⟨⟩) (LocG.of rfl (loc_box (ag := true) (cs := [PV.val _, PV.sl _ _]) (by decide) (by exact ⟨⟩))) (free1 (Free.of_ rfl)) ?_
  refine RunS.step (by exact ⟨rfl, ⟨⟩⟩) (by exact ⟨⟩) (LocG.of rfl (loc_box (ag := true) (cs := [PV.val _, PV.sl _ _]) (by decide) (by exact ⟨⟩))) (free1 (Free.app (Free.of_ rfl) rfl)) ?_
  refine RunS.s1 (x := loc_const (.inr rfl) (by decide) (ok_sc rfl)) (y := ?_)
  refine sw_seq ?_
  refine sw_of (l := [(2, RV.ptr 2 0), (3, RV.ptr 3 0), (4, RV.sv false [PV.val _])]) (b := [(2, (77, [PV.val _, PV.sl _ _])), (3, (77, [PV.val _, PV.sl _ _]))]) (by exact ⟨rfl, rfl, rfl, ⟨⟩⟩) (by exact ⟨rfl, rfl, ⟨⟩⟩) ?_
  refine sw_reg ?_
  refine RunS.s1 (x := loc_field (by decide) fd_77_0) (y := ?_)
  refine RunS.s1 (x := loc_load (qs := [PV.val _]) (by decide) ty_3 (fun _ => rfl) (by exact Nat.le_of_ble_eq_true rfl) (by exact (ToL.cons (PV.To.refl _) ToL.nil)) (by exact (BorL.cons (PV.bor_val _) BorL.nil))) (y := ?_)
  refine RunS.s1 (x := loc_field (by decide) fd_77_0) (y := ?_)
  refine RunS.s1 (x := loc_load (qs := [PV.val _]) (by decide) ty_3 (fun _ => rfl) (by exact Nat.le_of_ble_eq_true rfl) (by exact (ToL.cons (PV.To.refl _) ToL.nil)) (by exact (BorL.cons (PV.bor_val _) BorL.nil))) (y := ?_)
  refine RunS.s1 (x := loc_eql (by decide) (by exact ⟨⟩) (by exact ⟨⟩)) (y := ?_)
  refine RunS.s1 (x := loc_copy (.inl rfl) (by decide) (by exact Cp.sc)) (y := ?_)
  refine RunS.cases (s := 10) rfl (fun g1 => ?_) (fun g1 => ?_)
  · have sg1 := g1
    try simp only [q1, q2, q3, q4, q5, q6, q7, q8, q9] at sg1
    refine RunS.s2 (hb := g1) (x := loc_field (by decide) fd_77_1) (y := ?_)
    refine RunS.s2 (hb := g1) (x := loc_load (qs := [PV.sl .v _]) (by decide) ty_23 (fun _ => rfl) (by exact Nat.le_of_ble_eq_true rfl) (by exact (ToL.cons PV.to_none ToL.nil)) (by exact (BorL.cons (PV.bor_sl _) BorL.nil))) (y := ?_)
    refine RunS.s2 (hb := g1) (x := loc_field (by decide) fd_77_1) (y := ?_)
    refine RunS.s2 (hb := g1) (x := loc_load (qs := [PV.sl .v _]) (by decide) ty_23 (fun _ => rfl) (by exact Nat.le_of_ble_eq_true rfl) (by exact (ToL.cons PV.to_none ToL.nil)) (by exact (BorL.cons (PV.bor_sl _) BorL.nil))) (y := ?_)
    refine RunS.s2 (hb := g1) (x := loc_call (qs := [(false, [PV.sl _ _]), (false, [PV.sl _ _])]) (as_ := [(false, [PV.sl .v _]), (false, [PV.sl .v _])]) (by decide) c_79 (by exact (And.intro (by exact ⟨⟩) (And.intro (by exact ⟨⟩) True.intro))) (by exact (And.intro (And.intro rfl (ToL.cons PV.to_none ToL.nil)) (And.intro (And.intro rfl (ToL.cons PV.to_none ToL.nil)) True.intro))) (by exact spec_l2Ints)) (y := ?_)
    refine RunS.s1 (x := loc_pick (z := .tmp 15) (by decide) (by rw [g1]; rfl) (by exact ⟨⟩) (by exact ⟨⟩) (by exact Cp.sc)) (y := ?_)
    refine RunS.s1 (x := loc_copy (.inr rfl) (by decide) (by exact Cp.sc)) (y := ?_)
    refine sw_ret ?_
    exact (And.intro (by refine bool_eq ?_; rw [Bool.eq_iff_iff]; simp only [deq_iff, ext_Row_iff]; simp_all [deq_iff]) True.intro)
  · have sg1 := g1
    try simp only [q1, q2, q3, q4, q5, q6, q7, q8, q9] at sg1
    refine RunS.s0f g1 ?_
    refine RunS.s0f g1 ?_
    refine RunS.s0f g1 ?_
    refine RunS.s0f g1 ?_
    refine RunS.s0f g1 ?_
    refine RunS.s1 (x := loc_pick (z := .const (.bool false)) (by decide) (by rw [g1]; rfl) (by exact ⟨⟩) (ok_sc rfl) (by exact Cp.sc)) (y := ?_)
    refine RunS.s1 (x := loc_copy (.inr rfl) (by decide) (by exact Cp.sc)) (y := ?_)
    refine sw_ret ?_
    exact (And.intro (by refine bool_eq ?_; rw [Bool.eq_iff_iff]; simp only [deq_iff, ext_Row_iff]; simp_all [deq_iff]) True.intro)
theorem eqf_Row {p1 p3 : Fl} {x : List Row} {y : List Row}  : SCall Try.prog 142 [(false, [PV.sl .v (x.map (cRow p1))]), (false, [PV.sl .v (y.map (cRow p3))]), (false, [PV.clo Try.prog (as2 (fun x : Row => (true, [PV.val (vI x.Id), PV.sl .v (x.Values.map cInt)]))) (rsB deq2)])] (resRV [(false, [PV.val (.bool (deq x y))])]) := by
  refine scall_of (rs := [(false, [PV.val (.bool (deq x y))])]) Try.func142 rfl (Nat.le_of_ble_eq_true rfl) (borA_cons (BorL.cons (PV.bor_sl _) BorL.nil) (borA_cons (BorL.cons (PV.bor_sl _) BorL.nil) (borA_cons (BorL.cons (PV.bor_clo _ _) BorL.nil) borA_nil))) ?_
  intro h0 w0 Fz0
  refine sw_len (s := 0) rfl fun hl0 => ?_
  try rw [List.length_map] at hl0
  refine sw_len (s := 1) rfl fun hl1 => ?_
  try rw [List.length_map] at hl1
  refine sw_seq ?_
  refine sw_reg ?_
  refine RunS.s1 (x := loc_const (.inr rfl) (by decide) (ok_sc rfl)) (y := ?_)
  refine sw_seq ?_
  refine sw_seq ?_
  refine sw_of (l := [(0, RV.sv false [PV.sl _ _]), (1, RV.sv false [PV.sl _ _]), (2, RV.sv false [PV.clo _ _ _]), (6, RV.sv false [PV.val _])]) (b := []) (by exact ⟨rfl, rfl, rfl, rfl, ⟨⟩⟩) (by exact ⟨⟩) ?_
  refine sw_reg ?_
  refine RunS.s1 (x := loc_copy (r' := RV.sv false [PV.sl .v _]) (.inl rfl) (by decide) (by exact Cp.sv (ToL.cons PV.to_none ToL.nil) (BorL.cons (PV.bor_sl _) BorL.nil))) (y := ?_)
  refine RunS.s1 (x := loc_len (by decide) sl_53 (by first | exact List.length_map _ | exact rfl)) (y := ?_)
  refine RunS.s1 (x := loc_copy (r' := RV.sv false [PV.sl .v _]) (.inl rfl) (by decide) (by exact Cp.sv (ToL.cons PV.to_none ToL.nil) (BorL.cons (PV.bor_sl _) BorL.nil))) (y := ?_)
  refine RunS.s1 (x := loc_len (by decide) sl_53 (by first | exact List.length_map _ | exact rfl)) (y := ?_)
  refine RunS.s1 (x := loc_neq (by decide) (by exact ⟨⟩) (by exact ⟨⟩)) (y := ?_)
  refine sw_cond (t := 14) rfl (fun hb1 => ?_) (fun hb1 => ?_)
  · try simp only [q1, q2, q3, q4, q5, q6, q7, q8, q9] at hb1
    refine sw_seq ?_
    refine sw_of (l := [(0, RV.sv false [PV.sl _ _]), (1, RV.sv false [PV.sl _ _]), (2, RV.sv false [PV.clo _ _ _]), (6, RV.sv false [PV.val _])]) (b := []) (by exact ⟨rfl, rfl, rfl, rfl, ⟨⟩⟩) (by exact ⟨⟩) ?_
    refine sw_reg ?_
    refine RunS.s1 (x := loc_const (.inr rfl) (by decide) (ok_sc rfl)) (y := ?_)
    refine sw_ret ?_
    exact (And.intro (by refine bool_eq ?_; exact (deq_false (fun e => by subst e; simp at *)).symm) True.intro)
  · try simp only [q1, q2, q3, q4, q5, q6, q7, q8, q9] at hb1
    have hl : x.length = y.length := by omega
    refine sw_skip ?_
    refine sw_seq ?_
    refine sw_seq ?_
    refine sw_of (l := [(0, RV.sv false [PV.sl _ _]), (1, RV.sv false [PV.sl _ _]), (2, RV.sv false [PV.clo _ _ _]), (6, RV.sv false [PV.val _])]) (b := []) (by exact ⟨rfl, rfl, rfl, rfl, ⟨⟩⟩) (by exact ⟨⟩) ?_
    refine sw_reg ?_
    refine RunS.s1 (x := loc_copy (r' := RV.sv false [PV.sl .v _]) (.inl rfl) (by decide) (by exact Cp.sv (ToL.cons PV.to_none ToL.nil) (BorL.cons (PV.bor_sl _) BorL.nil))) (y := ?_)
    refine RunS.s1 (x := loc_len (by decide) sl_53 (by first | exact List.length_map _ | exact rfl)) (y := ?_)
    refine RunS.s1 (x := loc_const (.inl rfl) (by decide) (ok_sc rfl)) (y := ?_)
    refine sw_block ?_
    refine sw_of (l := [(0, RV.sv false [PV.sl _ _]), (1, RV.sv false [PV.sl _ _]), (2, RV.sv false [PV.clo _ _ _]), (6, RV.sv false [PV.val _]), (15, RV.sv false [PV.sl _ _]), (16, RV.sv false [PV.val _]), (17, RV.sv false [PV.val _])]) (b := []) (by exact ⟨rfl, rfl, rfl, rfl, rfl, rfl, rfl, ⟨⟩⟩) (by exact ⟨⟩) ?_
    refine sw_loop (l0 := [(0, RV.sv false [PV.sl _ _]), (1, RV.sv false [PV.sl _ _]), (2, RV.sv false [PV.clo _ _ _]), (15, RV.sv false [PV.sl _ _]), (16, RV.sv false [PV.val _])]) (b0 := []) (fun k : Nat => k ≤ x.length ∧ x.take k = y.take k) (fun k : Nat => [(17, RV.int (k : Int))]) (fun k : Nat => []) (fun k : Nat => x.length - k) 0 (by exact ⟨by omega, by simp⟩) (by exact ⟨rfl, rfl, rfl, rfl, rfl, ⟨⟩⟩) (by exact ⟨⟩) (by exact And.intro (by exact rfl) (True.intro)) (by exact ⟨⟩) ?_
    rintro k ⟨hk, ha⟩
    refine sw_seq ?_
    refine sw_reg ?_
    refine RunS.s1 (x := loc_lss (by decide) (by exact ⟨⟩) (by exact ⟨⟩)) (y := ?_)
    refine sw_seq ?_
    refine sw_cond (t := 18) rfl (fun hb2 => ?_) (fun hb2 => ?_)
    · try simp only [q1, q2, q3, q4, q5, q6, q7, q8, q9] at hb2
      have hlt : k < x.length := by omega
      have hlt2 : k < y.length := by omega
      refine sw_skip ?_
      refine sw_seq ?_
      refine sw_block ?_
      refine sw_seq ?_
      refine sw_of (l := [(0, RV.sv false [PV.sl _ _]), (1, RV.sv false [PV.sl _ _]), (2, RV.sv false [PV.clo _ _ _]), (15, RV.sv false [PV.sl _ _]), (16, RV.sv false [PV.val _]), (17, RV.sv false [PV.val _])]) (b := []) (by exact ⟨rfl, rfl, rfl, rfl, rfl, rfl, ⟨⟩⟩) (by exact ⟨⟩) ?_
      refine sw_reg ?_
      refine RunS.s1 (x := loc_copy (.inl rfl) (by decide) (by exact Cp.sc)) (y := ?_)
      refine RunS.s1 (x := loc_index (by decide) sl_53 (by exact ⟨⟩) (by exact rfl) (by exact getm2 (by omega) rfl) (by exact rfl)) (y := ?_)
      refine RunS.s1 (x := loc_eload (qs := [PV.val _, PV.sl .v _]) (by decide) ty_77 (fun h => nomatch h) (by exact Nat.le_of_ble_eq_true rfl) (by exact (ToL.cons (PV.To.refl _) (ToL.cons PV.to_none ToL.nil))) (by exact (BorL.cons (PV.bor_val _) (BorL.cons (PV.bor_sl _) BorL.nil)))) (y := ?_)
      refine RunS.step (by exact ⟨⟩) (by exact ⟨⟩) (LocG.of rfl (loc_alloc (by decide) z_77 zo_77)) (free1 (Free.app (Free.app (Free.app (Free.of_ rfl) rfl) rfl) rfl)) ?_
      refine RunS.s1 (x := loc_copy (.inr rfl) (by decide) (by exact Cp.sc)) (y := ?_)
      refine RunS.s1 (x := loc_store (ag := true) (vs := [PV.val _, PV.sl _ _]) ty_77 (by exact ⟨⟩) (by exact rfl) (by exact Nat.le_of_ble_eq_true rfl)) (y := ?_)
      refine sw_seq ?_
      refine sw_of (l := [(0, RV.sv false [PV.sl _ _]), (1, RV.sv false [PV.sl _ _]), (2, RV.sv false [PV.clo _ _ _]), (7, RV.sv false [PV.val _]), (8, RV.ptr 8 0), (15, RV.sv false [PV.sl _ _]), (16, RV.sv false [PV.val _]), (17, RV.sv false [PV.val _])]) (b := [(8, (77, [PV.val _, PV.sl _ _]))]) (by exact ⟨rfl, rfl, rfl, rfl, rfl, rfl, rfl, rfl, ⟨⟩⟩) (by exact ⟨rfl, ⟨⟩⟩) ?_
      refine sw_reg ?_
      refine RunS.s1 (x := loc_copy (r' := RV.sv false [PV.sl .v _]) (.inl rfl) (by decide) (by exact Cp.sv (ToL.cons PV.to_none ToL.nil) (BorL.cons (PV.bor_sl _) BorL.nil))) (y := ?_)
      refine RunS.s1 (x := loc_copy (.inl rfl) (by decide) (by exact Cp.sc)) (y := ?_)
      refine RunS.s1 (x := loc_index (by decide) sl_53 (by exact ⟨⟩) (by exact rfl) (by exact getm2 (by omega) rfl) (by exact rfl)) (y := ?_)
      refine RunS.s1 (x := loc_eload (qs := [PV.val _, PV.sl .v _]) (by decide) ty_77 (fun h => nomatch h) (by exact Nat.le_of_ble_eq_true rfl) (by exact (ToL.cons (PV.To.refl _) (ToL.cons PV.to_none ToL.nil))) (by exact (BorL.cons (PV.bor_val _) (BorL.cons (PV.bor_sl _) BorL.nil)))) (y := ?_)
      refine RunS.step (by exact ⟨⟩) (by exact ⟨⟩) (LocG.of rfl (loc_alloc (by decide) z_77 zo_77)) (free1 (Free.app (Free.app (Free.app (Free.app (Free.of_ rfl) rfl) rfl) rfl) rfl)) ?_
      refine RunS.s1 (x := loc_store (ag := true) (vs := [PV.val _, PV.sl _ _]) ty_77 (by exact ⟨⟩) (by exact rfl) (by exact Nat.le_of_ble_eq_true rfl)) (y := ?_)
      refine sw_seq ?_
      refine sw_of (l := [(0, RV.sv false [PV.sl _ _]), (1, RV.sv false [PV.sl _ _]), (2, RV.sv false [PV.clo _ _ _]), (7, RV.sv false [PV.val _]), (8, RV.ptr 8 0), (9, RV.ptr 9 0), (15, RV.sv false [PV.sl _ _]), (16, RV.sv false [PV.val _]), (17, RV.sv false [PV.val _])]) (b := [(8, (77, [PV.val _, PV.sl _ _])), (9, (77, [PV.val _, PV.sl _ _]))]) (by exact ⟨rfl, rfl, rfl, rfl, rfl, rfl, rfl, rfl, rfl, ⟨⟩⟩) (by exact ⟨rfl, rfl, ⟨⟩⟩) ?_
      refine sw_reg ?_
      refine RunS.s1 (x := loc_copy (r' := RV.sv false [PV.clo _ _ _]) (.inl rfl) (by decide) (by exact Cp.sv (ToL.cons (PV.To.refl _) ToL.nil) (BorL.cons (PV.bor_clo _ _) BorL.nil))) (y := ?_)
      refine RunS.s1 (x := loc_load (qs := [PV.val _, PV.sl .v _]) (by decide) ty_77 (fun h => nomatch h) (by exact Nat.le_of_ble_eq_true rfl) (by exact (ToL.cons (PV.To.refl _) (ToL.cons PV.to_none ToL.nil))) (by exact (BorL.cons (PV.bor_val _) (BorL.cons (PV.bor_sl _) BorL.nil)))) (y := ?_)
      refine RunS.s1 (x := loc_load (qs := [PV.val _, PV.sl .v _]) (by decide) ty_77 (fun h => nomatch h) (by exact Nat.le_of_ble_eq_true rfl) (by exact (ToL.cons (PV.To.refl _) (ToL.cons PV.to_none ToL.nil))) (by exact (BorL.cons (PV.bor_val _) (BorL.cons (PV.bor_sl _) BorL.nil)))) (y := ?_)
      refine RunS.s1 (x := loc_callp (x[k], y[k]) (qs := [(true, [PV.val _, PV.sl _ _]), (true, [PV.val _, PV.sl _ _])]) (r := RV.sv false [PV.val _]) (by decide) (by exact (And.intro (by exact ⟨⟩) (And.intro (by exact ⟨⟩) True.intro))) (by exact (And.intro (And.intro rfl (ToL.cons (PV.To.refl _) (ToL.cons (PV.to_map (fun _ => (ToL.cons (PV.To.refl _) ToL.nil))) ToL.nil))) (And.intro (And.intro rfl (ToL.cons (PV.To.refl _) (ToL.cons (PV.to_map (fun _ => (ToL.cons (PV.To.refl _) ToL.nil))) ToL.nil))) True.intro))) (by exact rfl)) (y := ?_)
      refine RunS.s1 (x := loc_not (by decide)) (y := ?_)
      refine sw_cond (t := 30) rfl (fun hb3 => ?_) (fun hb3 => ?_)
      · try simp only [q1, q2, q3, q4, q5, q6, q7, q8, q9] at hb3
        have hne : ¬ x[k] = y[k] := by intro e; rw [e] at hb3; simp [deq2, deq_self] at hb3
        refine sw_seq ?_
        refine sw_of (l := [(0, RV.sv false [PV.sl _ _]), (1, RV.sv false [PV.sl _ _]), (2, RV.sv false [PV.clo _ _ _]), (7, RV.sv false [PV.val _]), (8, RV.ptr 8 0), (9, RV.ptr 9 0), (15, RV.sv false [PV.sl _ _]), (16, RV.sv false [PV.val _]), (17, RV.sv false [PV.val _])]) (b := [(8, (77, [PV.val _, PV.sl _ _])), (9, (77, [PV.val _, PV.sl _ _]))]) (by exact ⟨rfl, rfl, rfl, rfl, rfl, rfl, rfl, rfl, rfl, ⟨⟩⟩) (by exact ⟨rfl, rfl, ⟨⟩⟩) ?_
        refine sw_reg ?_
        refine RunS.s1 (x := loc_const (.inr rfl) (by decide) (ok_sc rfl)) (y := ?_)
        refine sw_ret ?_
        exact (And.intro (by refine bool_eq ?_; exact (deq_false (eq_no hlt hlt2 hne)).symm) True.intro)
      · try simp only [q1, q2, q3, q4, q5, q6, q7, q8, q9] at hb3
        have heq : x[k] = y[k] := by simpa [deq2, deq_iff] using hb3
        refine sw_skip ?_
        refine sw_of (l := [(0, RV.sv false [PV.sl _ _]), (1, RV.sv false [PV.sl _ _]), (2, RV.sv false [PV.clo _ _ _]), (7, RV.sv false [PV.val _]), (8, RV.ptr 8 0), (9, RV.ptr 9 0), (15, RV.sv false [PV.sl _ _]), (16, RV.sv false [PV.val _]), (17, RV.sv false [PV.val _])]) (b := [(8, (77, [PV.val _, PV.sl _ _])), (9, (77, [PV.val _, PV.sl _ _]))]) (by exact ⟨rfl, rfl, rfl, rfl, rfl, rfl, rfl, rfl, rfl, ⟨⟩⟩) (by exact ⟨rfl, rfl, ⟨⟩⟩) ?_
        refine sw_reg ?_
        refine RunS.s1 (x := loc_add (by decide) (by exact ⟨⟩) (ok_sc rfl) (by unfold I64; omega)) (y := ?_)
        refine RunS.s1 (x := loc_copy (.inl rfl) (by decide) (by exact Cp.sc)) (y := ?_)
        refine Exists.intro (k + 1) (And.intro (by exact ⟨by omega, eq_succ ha hlt hlt2 heq⟩) (And.intro (by omega) (And.intro (And.intro (by exact ⟨rfl, rfl, rfl, rfl, rfl, ⟨⟩⟩) (by exact ⟨⟩)) (And.intro (by exact And.intro (by exact rfl) (True.intro)) (by exact ⟨⟩)))))
    · try simp only [q1, q2, q3, q4, q5, q6, q7, q8, q9] at hb2
      refine sw_exit ?_
      refine sw_seq ?_
      refine sw_of (l := [(0, RV.sv false [PV.sl _ _]), (1, RV.sv false [PV.sl _ _]), (2, RV.sv false [PV.clo _ _ _]), (15, RV.sv false [PV.sl _ _]), (16, RV.sv false [PV.val _]), (17, RV.sv false [PV.val _])]) (b := []) (by exact ⟨rfl, rfl, rfl, rfl, rfl, rfl, ⟨⟩⟩) (by exact ⟨⟩) ?_
      refine sw_reg ?_
      refine RunS.s1 (x := loc_const (.inr rfl) (by decide) (ok_sc rfl)) (y := ?_)
      refine sw_ret ?_
      exact (And.intro (by refine bool_eq ?_; exact (deq_true (eq_end hl (by rw [show x.length = k by omega]; exact ha))).symm) True.intro)
theorem impl_EqualRows {p1 p3 : Fl} {x : List Row} {y : List Row}  : SCall Try.prog 90 [(false, [PV.sl .v (x.map (cRow p1))]), (false, [PV.sl .v (y.map (cRow p3))])] (resRV [(false, [PV.val (.bool (deq x y))])]) := by
  refine scall_of (rs := [(false, [PV.val (.bool (deq x y))])]) Try.func90 rfl (Nat.le_of_ble_eq_true rfl) (borA_cons (BorL.cons (PV.bor_sl _) BorL.nil) (borA_cons (BorL.cons (PV.bor_sl _) BorL.nil) borA_nil)) ?_
  intro h0 w0 Fz0
  refine sw_len (s := 0) rfl fun hl0 => ?_
  try rw [List.length_map] at hl0
  refine sw_len (s := 1) rfl fun hl1 => ?_
  try rw [List.length_map] at hl1
  refine sw_seq ?_
  refine sw_reg ?_
  refine RunS.s1 (x := loc_const (.inr rfl) (by decide) (ok_sc rfl)) (y := ?_)
  refine sw_seq ?_
  refine sw_of (l := [(0, RV.sv false [PV.sl _ _]), (1, RV.sv false [PV.sl _ _]), (4, RV.sv false [PV.val _])]) (b := []) (by exact ⟨rfl, rfl, rfl, ⟨⟩⟩) (by exact ⟨⟩) ?_
  refine sw_reg ?_
  refine RunS.s1 (x := loc_copy (r' := RV.sv false [PV.sl .v _]) (.inl rfl) (by decide) (by exact Cp.sv (ToL.cons PV.to_none ToL.nil) (BorL.cons (PV.bor_sl _) BorL.nil))) (y := ?_)
  refine RunS.s1 (x := loc_copy (r' := RV.sv false [PV.sl .v _]) (.inl rfl) (by decide) (by exact Cp.sv (ToL.cons PV.to_none ToL.nil) (BorL.cons (PV.bor_sl _) BorL.nil))) (y := ?_)
  refine RunS.s1 (x := loc_call (qs := [(false, [PV.sl _ _]), (false, [PV.sl _ _]), (false, [PV.clo Try.prog (as2 (fun x : Row => (true, [PV.val (vI x.Id), PV.sl .v (x.Values.map cInt)]))) (rsB deq2)])]) (as_ := [(false, [PV.sl .v _]), (false, [PV.sl .v _]), (false, [PV.clo Try.prog (as2 (fun x : Row => (true, [PV.val (vI x.Id), PV.sl .v (x.Values.map cInt)]))) (rsB deq2)])]) (by decide) c_142 (by exact (And.intro (by exact ⟨⟩) (And.intro (by exact ⟨⟩) (And.intro (ok_clo c_143 (fun x => by exact impl_equalRow)) True.intro)))) (by exact (And.intro (And.intro rfl (ToL.cons PV.to_none ToL.nil)) (And.intro (And.intro rfl (ToL.cons PV.to_none ToL.nil)) (And.intro (And.intro rfl (ToL.cons (PV.To.refl _) ToL.nil)) True.intro)))) (by exact eqf_Row)) (y := ?_)
  refine RunS.s1 (x := loc_copy (.inr rfl) (by decide) (by exact Cp.sc)) (y := ?_)
  refine sw_ret ?_
  exact (And.intro (by exact rfl) True.intro)
theorem spec_EqualRows {p1 p3 : Fl} {x : List Row} {y : List Row}  : SCall Try.prog 22 [(false, [PV.sl .v (x.map (cRow p1))]), (false, [PV.sl .v (y.map (cRow p3))])] (resRV [(false, [PV.val (.bool (deq x y))])]) := by
  refine scall_of (rs := [(false, [PV.val (.bool (deq x y))])]) Try.func22 rfl (Nat.le_of_ble_eq_true rfl) (borA_cons (BorL.cons (PV.bor_sl _) BorL.nil) (borA_cons (BorL.cons (PV.bor_sl _) BorL.nil) borA_nil)) ?_
  intro h0 w0 Fz0
  refine sw_len (s := 0) rfl fun hl0 => ?_
  try rw [List.length_map] at hl0
  refine sw_len (s := 1) rfl fun hl1 => ?_
  try rw [List.length_map] at hl1
  refine sw_seq ?_
  refine sw_reg ?_
  refine RunS.s1 (x := loc_const (.inr rfl) (by decide) (ok_sc rfl)) (y := ?_)
  refine sw_seq ?_
  refine sw_seq ?_
  refine sw_of (l := [(0, RV.sv false [PV.sl _ _]), (1, RV.sv false [PV.sl _ _]), (4, RV.sv false [PV.val _])]) (b := []) (by exact ⟨rfl, rfl, rfl, ⟨⟩⟩) (by exact ⟨⟩) ?_
  refine sw_reg ?_
  refine RunS.s1 (x := loc_copy (r' := RV.sv false [PV.sl .v _]) (.inl rfl) (by decide) (by exact Cp.sv (ToL.cons PV.to_none ToL.nil) (BorL.cons (PV.bor_sl _) BorL.nil))) (y := ?_)
  refine RunS.s1 (x := loc_len (by decide) sl_53 (by first | exact List.length_map _ | exact rfl)) (y := ?_)
  refine RunS.s1 (x := loc_copy (r' := RV.sv false [PV.sl .v _]) (.inl rfl) (by decide) (by exact Cp.sv (ToL.cons PV.to_none ToL.nil) (BorL.cons (PV.bor_sl _) BorL.nil))) (y := ?_)
  refine RunS.s1 (x := loc_len (by decide) sl_53 (by first | exact List.length_map _ | exact rfl)) (y := ?_)
  refine RunS.s1 (x := loc_neq (by decide) (by exact ⟨⟩) (by exact ⟨⟩)) (y := ?_)
  refine sw_cond (t := 10) rfl (fun hb1 => ?_) (fun hb1 => ?_)
  · try simp only [q1, q2, q3, q4, q5, q6, q7, q8, q9] at hb1
    refine sw_seq ?_
    refine sw_of (l := [(0, RV.sv false [PV.sl _ _]), (1, RV.sv false [PV.sl _ _]), (4, RV.sv false [PV.val _])]) (b := []) (by exact ⟨rfl, rfl, rfl, ⟨⟩⟩) (by exact ⟨⟩) ?_
    refine sw_reg ?_
    refine RunS.s1 (x := loc_const (.inr rfl) (by decide) (ok_sc rfl)) (y := ?_)
    refine sw_ret ?_
    exact (And.intro (by refine bool_eq ?_; exact (deq_false (fun e => by subst e; simp at *)).symm) True.intro)
  · try simp only [q1, q2, q3, q4, q5, q6, q7, q8, q9] at hb1
    have hl : x.length = y.length := by omega
    refine sw_skip ?_
    refine sw_seq ?_
    refine sw_seq ?_
    refine sw_of (l := [(0, RV.sv false [PV.sl _ _]), (1, RV.sv false [PV.sl _ _]), (4, RV.sv false [PV.val _])]) (b := []) (by exact ⟨rfl, rfl, rfl, ⟨⟩⟩) (by exact ⟨⟩) ?_
    refine sw_reg ?_
    refine RunS.s1 (x := loc_const (.inr rfl) (by decide) (ok_sc rfl)) (y := ?_)
    refine sw_block ?_
    refine sw_of (l := [(0, RV.sv false [PV.sl _ _]), (1, RV.sv false [PV.sl _ _]), (4, RV.sv false [PV.val _]), (5, RV.sv false [PV.val _])]) (b := []) (by exact ⟨rfl, rfl, rfl, rfl, ⟨⟩⟩) (by exact ⟨⟩) ?_
    refine sw_loop (l0 := [(0, RV.sv false [PV.sl _ _]), (1, RV.sv false [PV.sl _ _])]) (b0 := []) (fun k : Nat => k ≤ x.length ∧ x.take k = y.take k) (fun k : Nat => [(5, RV.int (k : Int))]) (fun k : Nat => []) (fun k : Nat => x.length - k) 0 (by exact ⟨by omega, by simp⟩) (by exact ⟨rfl, rfl, ⟨⟩⟩) (by exact ⟨⟩) (by exact And.intro (by exact rfl) (True.intro)) (by exact ⟨⟩) ?_
    rintro k ⟨hk, ha⟩
    refine sw_seq ?_
    refine sw_seq ?_
    refine sw_reg ?_
    refine RunS.s1 (x := loc_copy (.inl rfl) (by decide) (by exact Cp.sc)) (y := ?_)
    refine RunS.s1 (x := loc_copy (r' := RV.sv false [PV.sl .v _]) (.inl rfl) (by decide) (by exact Cp.sv (ToL.cons PV.to_none ToL.nil) (BorL.cons (PV.bor_sl _) BorL.nil))) (y := ?_)
    refine RunS.s1 (x := loc_len (by decide) sl_53 (by first | exact List.length_map _ | exact rfl)) (y := ?_)
    refine RunS.s1 (x := loc_lss (by decide) (by exact ⟨⟩) (by exact ⟨⟩)) (y := ?_)
    refine sw_cond (t := 14) rfl (fun hb2 => ?_) (fun hb2 => ?_)
    · try simp only [q1, q2, q3, q4, q5, q6, q7, q8, q9] at hb2
      have hlt : k < x.length := by omega
      have hlt2 : k < y.length := by omega
      refine sw_skip ?_
      refine sw_seq ?_
      refine sw_block ?_
      refine sw_seq ?_
      refine sw_of (l := [(0, RV.sv false [PV.sl _ _]), (1, RV.sv false [PV.sl _ _]), (5, RV.sv false [PV.val _])]) (b := []) (by exact ⟨rfl, rfl, rfl, ⟨⟩⟩) (by exact ⟨⟩) ?_
      refine sw_draw hm_ ?_
      refine Run.step 0 (by exact ⟨rfl, ⟨⟩⟩) (by exact ⟨⟩) (LocG.of rfl (loc_copy (r' := RV.sv false [PV.sl .v _]) (.inl rfl) (by decide) (by exact Cp.sv (ToL.cons PV.to_none ToL.nil) (BorL.cons (PV.bor_sl _) BorL.nil)))) nofree (by kernel_rfl) ?_
      refine Run.step 0 (by exact ⟨rfl, ⟨⟩⟩) (by exact ⟨⟩) (LocG.of rfl (loc_copy (.inl rfl) (by decide) (by exact Cp.sc))) nofree (by kernel_rfl) ?_
      refine Run.step 3 (by exact ⟨rfl, rfl, ⟨⟩⟩) (by exact ⟨⟩) (LocG.of rfl (loc_index (by decide) sl_53 (by exact ⟨⟩) (by exact rfl) (by exact getm2 (by omega) rfl) (by exact rfl))) nofree (by kernel_rfl) ?_
      refine Run.step 7 (by exact ⟨rfl, ⟨⟩⟩) (by exact ⟨⟩) (LocG.of rfl (loc_eload (qs := [PV.val _, PV.sl .v _]) (by decide) ty_77 (fun h => nomatch h) (by exact Nat.le_of_ble_eq_true rfl) (by exact (ToL.cons (PV.To.refl _) (ToL.cons PV.to_none ToL.nil))) (by exact (BorL.cons (PV.bor_val _) (BorL.cons (PV.bor_sl _) BorL.nil))))) nofree (by kernel_rfl) ?_
      refine Run.step 0 (by exact ⟨rfl, ⟨⟩⟩) (by exact ⟨⟩) (LocG.of rfl (loc_copy (r' := RV.sv false [PV.sl .v _]) (.inl rfl) (by decide) (by exact Cp.sv (ToL.cons PV.to_none ToL.nil) (BorL.cons (PV.bor_sl _) BorL.nil)))) nofree (by kernel_rfl) ?_
      refine Run.step 0 (by exact ⟨rfl, ⟨⟩⟩) (by exact ⟨⟩) (LocG.of rfl (loc_copy (.inl rfl) (by decide) (by exact Cp.sc))) nofree (by kernel_rfl) ?_
      refine Run.step 48 (by exact ⟨rfl, rfl, ⟨⟩⟩) (by exact ⟨⟩) (LocG.of rfl (loc_index (by decide) sl_53 (by exact ⟨⟩) (by exact rfl) (by exact getm2 (by omega) rfl) (by exact rfl))) nofree (by kernel_rfl) ?_
      refine Run.step 112 (by exact ⟨rfl, ⟨⟩⟩) (by exact ⟨⟩) (LocG.of rfl (loc_eload (qs := [PV.val _, PV.sl .v _]) (by decide) ty_77 (fun h => nomatch h) (by exact Nat.le_of_ble_eq_true rfl) (by exact (ToL.cons (PV.To.refl _) (ToL.cons PV.to_none ToL.nil))) (by exact (BorL.cons (PV.bor_val _) (BorL.cons (PV.bor_sl _) BorL.nil))))) nofree (by kernel_rfl) ?_
      refine Run.step 255 (by exact ⟨rfl, rfl, ⟨⟩⟩) (by exact ⟨⟩) (LocG.of rfl (loc_call (qs := [(true, [PV.val _, PV.sl _ _]), (true, [PV.val _, PV.sl _ _])]) (as_ := [(true, [PV.val _, PV.sl .v _]), (true, [PV.val _, PV.sl .v _])]) (by decide) c_78 (by exact (And.intro (by exact ⟨⟩) (And.intro (by exact ⟨⟩) True.intro))) (by exact (And.intro (And.intro rfl (ToL.cons (PV.To.refl _) (ToL.cons PV.to_none ToL.nil))) (And.intro (And.intro rfl (ToL.cons (PV.To.refl _) (ToL.cons PV.to_none ToL.nil))) True.intro))) (by exact spec_l3Same))) nofree (by kernel_rfl) ?_
      refine Run.step 511 (by exact ⟨rfl, ⟨⟩⟩) (by exact ⟨⟩) (LocG.of rfl (loc_not (by decide))) nofree (by kernel_rfl) ?_
      refine sw_cond (t := 26) rfl (fun hb3 => ?_) (fun hb3 => ?_)
      · try simp only [q1, q2, q3, q4, q5, q6, q7, q8, q9] at hb3
        refine sw_seq ?_
        refine sw_of (l := [(0, RV.sv false [PV.sl _ _]), (1, RV.sv false [PV.sl _ _]), (5, RV.sv false [PV.val _])]) (b := []) (by exact ⟨rfl, rfl, rfl, ⟨⟩⟩) (by exact ⟨⟩) ?_
        refine sw_reg ?_
        refine RunS.s1 (x := loc_const (.inr rfl) (by decide) (ok_sc rfl)) (y := ?_)
        refine sw_ret ?_
        exact (And.intro (by refine bool_eq ?_; exact (deq_false (eq_no hlt hlt2 (by intro e; simp [e, deq_self] at *))).symm) True.intro)
      · try simp only [q1, q2, q3, q4, q5, q6, q7, q8, q9] at hb3
        refine sw_skip ?_
        refine sw_of (l := [(0, RV.sv false [PV.sl _ _]), (1, RV.sv false [PV.sl _ _]), (5, RV.sv false [PV.val _])]) (b := []) (by exact ⟨rfl, rfl, rfl, ⟨⟩⟩) (by exact ⟨⟩) ?_
        refine sw_reg ?_
        refine RunS.s1 (x := loc_copy (.inl rfl) (by decide) (by exact Cp.sc)) (y := ?_)
        refine RunS.s1 (x := loc_add (by decide) (by exact ⟨⟩) (ok_sc rfl) (by unfold I64; omega)) (y := ?_)
        refine RunS.s1 (x := loc_copy (.inr rfl) (by decide) (by exact Cp.sc)) (y := ?_)
        refine Exists.intro (k + 1) (And.intro (by exact ⟨by omega, eq_succ ha hlt hlt2 (by first | (simp_all [deq_iff]; done) | (apply deq_iff.1; simp_all))⟩) (And.intro (by omega) (And.intro (And.intro (by exact ⟨rfl, rfl, ⟨⟩⟩) (by exact ⟨⟩)) (And.intro (by exact And.intro (by exact rfl) (True.intro)) (by exact ⟨⟩)))))
    · try simp only [q1, q2, q3, q4, q5, q6, q7, q8, q9] at hb2
      refine sw_exit ?_
      refine sw_seq ?_
      refine sw_of (l := [(0, RV.sv false [PV.sl _ _]), (1, RV.sv false [PV.sl _ _]), (5, RV.sv false [PV.val _])]) (b := []) (by exact ⟨rfl, rfl, rfl, ⟨⟩⟩) (by exact ⟨⟩) ?_
      refine sw_reg ?_
      refine RunS.s1 (x := loc_const (.inr rfl) (by decide) (ok_sc rfl)) (y := ?_)
      refine sw_ret ?_
      exact (And.intro (by refine bool_eq ?_; exact (deq_true (eq_end hl (by rw [show x.length = k by omega]; exact ha))).symm) True.intro)
end Go.Proofs.Ytgaaaoapnhambaa
