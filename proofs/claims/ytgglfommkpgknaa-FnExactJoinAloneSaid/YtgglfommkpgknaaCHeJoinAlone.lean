/- What functions of the program compute. No condition. -/
import Derived.Test.YtgglfommkpgknaaCDb
set_option linter.unusedVariables false
set_option linter.unusedSimpArgs false
namespace Go.Proofs.Ytgglfommkpgknaa
open Go Go.RowKit M
set_option maxRecDepth 10000
theorem held_IntS {x : List Int} {k : Int}  (h0k : 0 ≤ k) (hbk : (mkL mkE_Int x k).2 ≤ 4611686018427387904): SCall Try.prog 85 [(false, [PV.sl .v ((mkL mkE_Int x k).1.map cInt)]), (false, [PV.val (vI k)])] (resRV [(false, [PV.val (vI (mkL mkE_Int x k).2)])]) := by
  refine scall_of (rs := [(false, [PV.val (vI (mkL mkE_Int x k).2)])]) Try.func85 rfl (Nat.le_of_ble_eq_true rfl) (borA_cons (BorL.cons (PV.bor_sl _) BorL.nil) (borA_cons (BorL.cons (PV.bor_val _) BorL.nil) borA_nil)) ?_
  intro h0 w0 Fz0
  refine sw_len (s := 0) rfl fun hl0 => ?_
  try rw [List.length_map] at hl0
  have hlm : (mkL mkE_Int x k).1.length = x.length := mkL_len _ _
  have hmono := mkL_take_le mkE_Int_le x
  have hmono0 := fun i => mkL_le mkE_Int_le (x.take i) k
  refine sw_seq ?_
  refine sw_reg ?_
  refine RunS.step (by exact True.intro) (by exact True.intro) (LocG.of rfl (loc_const (.inr rfl) (by decide) (ok_sc rfl))) nofree ?_
  refine sw_seq ?_
  refine sw_seq ?_
  refine sw_of (l := [(0, RV.sv false [PV.sl _ _]), (1, RV.sv false [PV.val _]), (4, RV.sv false [PV.val _])]) (b := []) (by exact And.intro rfl (And.intro rfl (And.intro rfl True.intro))) (by exact True.intro) ?_
  refine sw_reg ?_
  refine RunS.step (by exact True.intro) (by exact True.intro) (LocG.of rfl (loc_const (.inr rfl) (by decide) (ok_sc rfl))) nofree ?_
  refine sw_block ?_
  refine sw_of (l := [(0, RV.sv false [PV.sl _ _]), (1, RV.sv false [PV.val _]), (4, RV.sv false [PV.val _]), (5, RV.sv false [PV.val _])]) (b := []) (by exact And.intro rfl (And.intro rfl (And.intro rfl (And.intro rfl True.intro)))) (by exact True.intro) ?_
  refine sw_loop (l0 := [(0, RV.sv false [PV.sl _ _])]) (b0 := []) (fun i : Nat => i ≤ x.length) (fun i : Nat => [(1, RV.int (mkL mkE_Int (x.take i) k).2), (5, RV.int (i : Int))]) (fun i : Nat => []) (fun i : Nat => x.length - i) 0 (by omega) (by exact And.intro rfl True.intro) (by exact True.intro) (by exact And.intro (by exact rfl) (And.intro (by exact rfl) (True.intro))) (by exact True.intro) ?_
  rintro i hi
  refine sw_seq ?_
  refine sw_seq ?_
  refine sw_reg ?_
  refine RunS.step (by exact And.intro rfl True.intro) (by exact True.intro) (LocG.of rfl (loc_copy (.inl rfl) (by decide) (by exact Cp.sc))) nofree ?_
  refine RunS.step (by exact And.intro rfl True.intro) (by exact True.intro) (LocG.of rfl (loc_copy (r' := RV.sv false [PV.sl .v _]) (.inl rfl) (by decide) (by exact Cp.sv (ToL.cons PV.to_none ToL.nil) (BorL.cons (PV.bor_sl _) BorL.nil)))) nofree ?_
  refine RunS.step (by exact And.intro rfl True.intro) (by exact True.intro) (LocG.of rfl (loc_len (by decide) sl_58 (by first | exact List.length_map _ | exact rfl))) nofree ?_
  refine RunS.step (by exact And.intro rfl (And.intro rfl True.intro)) (by exact True.intro) (LocG.of rfl (loc_lss (by decide) (by exact True.intro) (by exact True.intro))) nofree ?_
  refine sw_cond (t := 9) rfl (fun hb1 => ?_) (fun hb1 => ?_)
  · try simp only [decide_eq_true_eq, decide_eq_false_iff_not, bne_iff_ne, beq_iff_eq, Bool.not_eq_true', Bool.not_eq_false', ne_eq, bne_eq_false_iff_eq, beq_eq_false_iff_ne] at hb1
    have hlt : i < x.length := by omega
    have hk0 := hmono0 i
    have hk1 := hmono (i + 1) k
    rw [mkL_succ hlt] at hk1
    dsimp only at hk1
    simp only [mkE_Int] at hk1
    refine sw_skip ?_
    refine sw_seq ?_
    refine sw_block ?_
    refine sw_seq ?_
    refine sw_seq ?_
    refine sw_of (l := [(0, RV.sv false [PV.sl _ _]), (1, RV.sv false [PV.val _]), (5, RV.sv false [PV.val _])]) (b := []) (by exact And.intro rfl (And.intro rfl (And.intro rfl True.intro))) (by exact True.intro) ?_
    refine sw_reg ?_
    refine RunS.step (by exact And.intro rfl True.intro) (by exact True.intro) (LocG.of rfl (loc_copy (r' := RV.sv false [PV.sl .v _]) (.inl rfl) (by decide) (by exact Cp.sv (ToL.cons PV.to_none ToL.nil) (BorL.cons (PV.bor_sl _) BorL.nil)))) nofree ?_
    refine RunS.step (by exact And.intro rfl True.intro) (by exact True.intro) (LocG.of rfl (loc_copy (.inl rfl) (by decide) (by exact Cp.sc))) nofree ?_
    refine RunS.step (by exact And.intro rfl (And.intro rfl True.intro)) (by exact True.intro) (LocG.of rfl (loc_index (by decide) sl_58 (by exact True.intro) (by exact rfl) (by exact mkL_getc hlt rfl) (by exact rfl))) nofree ?_
    refine RunS.step (by exact And.intro rfl True.intro) (by exact True.intro) (LocG.of rfl (loc_eload (qs := [PV.val _]) (by decide) ty_3 (fun _ => rfl) (by exact Nat.le_of_ble_eq_true rfl) (by exact (ToL.cons (PV.To.refl _) ToL.nil)) (by exact (BorL.cons (PV.bor_val _) BorL.nil)))) nofree ?_
    refine RunS.step (by exact And.intro rfl True.intro) (by exact True.intro) (LocG.of rfl (loc_copy (.inl rfl) (by decide) (by exact Cp.sc))) nofree ?_
    refine RunS.step (by exact And.intro rfl (And.intro rfl True.intro)) (by exact True.intro) (LocG.of rfl (loc_neq (by decide) (by exact True.intro) (by exact True.intro))) nofree ?_
    refine sw_cond (t := 17) rfl (fun hb2 => ?_) (fun hb2 => ?_)
    · try simp only [decide_eq_true_eq, decide_eq_false_iff_not, bne_iff_ne, beq_iff_eq, Bool.not_eq_true', Bool.not_eq_false', ne_eq, bne_eq_false_iff_eq, beq_eq_false_iff_ne] at hb2
      first | exact absurd rfl hb2 | omega
    · try simp only [decide_eq_true_eq, decide_eq_false_iff_not, bne_iff_ne, beq_iff_eq, Bool.not_eq_true', Bool.not_eq_false', ne_eq, bne_eq_false_iff_eq, beq_eq_false_iff_ne] at hb2
      refine sw_skip ?_
      refine sw_of (l := [(0, RV.sv false [PV.sl _ _]), (1, RV.sv false [PV.val _]), (5, RV.sv false [PV.val _])]) (b := []) (by exact And.intro rfl (And.intro rfl (And.intro rfl True.intro))) (by exact True.intro) ?_
      refine sw_reg ?_
      refine RunS.step (by exact And.intro rfl True.intro) (by exact True.intro) (LocG.of rfl (loc_copy (.inl rfl) (by decide) (by exact Cp.sc))) nofree ?_
      refine RunS.step (by exact And.intro rfl True.intro) (by exact True.intro) (LocG.of rfl (loc_add (by decide) (by exact True.intro) (ok_sc rfl) (by unfold I64; omega))) nofree ?_
      refine RunS.step (by exact And.intro rfl True.intro) (by exact True.intro) (LocG.of rfl (loc_copy (.inr rfl) (by decide) (by exact Cp.sc))) nofree ?_
      refine sw_of (l := [(0, RV.sv false [PV.sl _ _]), (1, RV.sv false [PV.val _]), (5, RV.sv false [PV.val _])]) (b := []) (by exact And.intro rfl (And.intro rfl (And.intro rfl True.intro))) (by exact True.intro) ?_
      refine sw_reg ?_
      refine RunS.step (by exact And.intro rfl True.intro) (by exact True.intro) (LocG.of rfl (loc_copy (.inl rfl) (by decide) (by exact Cp.sc))) nofree ?_
      refine RunS.step (by exact And.intro rfl True.intro) (by exact True.intro) (LocG.of rfl (loc_add (by decide) (by exact True.intro) (ok_sc rfl) (by unfold I64; omega))) nofree ?_
      refine RunS.step (by exact And.intro rfl True.intro) (by exact True.intro) (LocG.of rfl (loc_copy (.inr rfl) (by decide) (by exact Cp.sc))) nofree ?_
      refine Exists.intro (i + 1) (And.intro (by omega) (And.intro (by omega) (And.intro (And.intro (by exact And.intro rfl True.intro) (by exact True.intro)) (And.intro (by exact And.intro (by exact int_eq (by rw [mkL_succ hlt]; rfl)) (And.intro (by exact rfl) (True.intro))) (by exact True.intro)))))
  · try simp only [decide_eq_true_eq, decide_eq_false_iff_not, bne_iff_ne, beq_iff_eq, Bool.not_eq_true', Bool.not_eq_false', ne_eq, bne_eq_false_iff_eq, beq_eq_false_iff_ne] at hb1
    have hend : i = x.length := by omega
    refine sw_exit ?_
    refine sw_seq ?_
    refine sw_of (l := [(0, RV.sv false [PV.sl _ _]), (1, RV.sv false [PV.val _]), (5, RV.sv false [PV.val _])]) (b := []) (by exact And.intro rfl (And.intro rfl (And.intro rfl True.intro))) (by exact True.intro) ?_
    refine sw_reg ?_
    refine RunS.step (by exact And.intro rfl True.intro) (by exact True.intro) (LocG.of rfl (loc_copy (.inl rfl) (by decide) (by exact Cp.sc))) nofree ?_
    refine RunS.step (by exact And.intro rfl True.intro) (by exact True.intro) (LocG.of rfl (loc_copy (.inr rfl) (by decide) (by exact Cp.sc))) nofree ?_
    refine sw_ret ?_
    exact (And.intro (by refine int_eq ?_; first | rfl | rw [hend, List.take_length]) True.intro)
theorem held_JoinedS {p1 : Fl} {x : List Joined} {k : Int}  (h0k : 0 ≤ k) (hbk : (mkL mkE_Joined x k).2 ≤ 4611686018427387904): SCall Try.prog 28 [(false, [PV.sl .v ((mkL mkE_Joined x k).1.map (cJoined p1))]), (false, [PV.val (vI k)])] (resRV [(false, [PV.val (vI (mkL mkE_Joined x k).2)])]) := by
  refine scall_of (rs := [(false, [PV.val (vI (mkL mkE_Joined x k).2)])]) Try.func28 rfl (Nat.le_of_ble_eq_true rfl) (borA_cons (BorL.cons (PV.bor_sl _) BorL.nil) (borA_cons (BorL.cons (PV.bor_val _) BorL.nil) borA_nil)) ?_
  intro h0 w0 Fz0
  refine sw_len (s := 0) rfl fun hl0 => ?_
  try rw [List.length_map] at hl0
  have hlm : (mkL mkE_Joined x k).1.length = x.length := mkL_len _ _
  have hmono := mkL_take_le mkE_Joined_le x
  have hmono0 := fun i => mkL_le mkE_Joined_le (x.take i) k
  refine sw_seq ?_
  refine sw_reg ?_
  refine RunS.step (by exact True.intro) (by exact True.intro) (LocG.of rfl (loc_const (.inr rfl) (by decide) (ok_sc rfl))) nofree ?_
  refine sw_seq ?_
  refine sw_seq ?_
  refine sw_of (l := [(0, RV.sv false [PV.sl _ _]), (1, RV.sv false [PV.val _]), (4, RV.sv false [PV.val _])]) (b := []) (by exact And.intro rfl (And.intro rfl (And.intro rfl True.intro))) (by exact True.intro) ?_
  refine sw_reg ?_
  refine RunS.step (by exact True.intro) (by exact True.intro) (LocG.of rfl (loc_const (.inr rfl) (by decide) (ok_sc rfl))) nofree ?_
  refine sw_block ?_
  refine sw_of (l := [(0, RV.sv false [PV.sl _ _]), (1, RV.sv false [PV.val _]), (4, RV.sv false [PV.val _]), (5, RV.sv false [PV.val _])]) (b := []) (by exact And.intro rfl (And.intro rfl (And.intro rfl (And.intro rfl True.intro)))) (by exact True.intro) ?_
  refine sw_loop (l0 := [(0, RV.sv false [PV.sl _ _])]) (b0 := []) (fun i : Nat => i ≤ x.length) (fun i : Nat => [(1, RV.int (mkL mkE_Joined (x.take i) k).2), (5, RV.int (i : Int))]) (fun i : Nat => []) (fun i : Nat => x.length - i) 0 (by omega) (by exact And.intro rfl True.intro) (by exact True.intro) (by exact And.intro (by exact rfl) (And.intro (by exact rfl) (True.intro))) (by exact True.intro) ?_
  rintro i hi
  refine sw_seq ?_
  refine sw_seq ?_
  refine sw_reg ?_
  refine RunS.step (by exact And.intro rfl True.intro) (by exact True.intro) (LocG.of rfl (loc_copy (.inl rfl) (by decide) (by exact Cp.sc))) nofree ?_
  refine RunS.step (by exact And.intro rfl True.intro) (by exact True.intro) (LocG.of rfl (loc_copy (r' := RV.sv false [PV.sl .v _]) (.inl rfl) (by decide) (by exact Cp.sv (ToL.cons PV.to_none ToL.nil) (BorL.cons (PV.bor_sl _) BorL.nil)))) nofree ?_
  refine RunS.step (by exact And.intro rfl True.intro) (by exact True.intro) (LocG.of rfl (loc_len (by decide) sl_25 (by first | exact List.length_map _ | exact rfl))) nofree ?_
  refine RunS.step (by exact And.intro rfl (And.intro rfl True.intro)) (by exact True.intro) (LocG.of rfl (loc_lss (by decide) (by exact True.intro) (by exact True.intro))) nofree ?_
  refine sw_cond (t := 9) rfl (fun hb1 => ?_) (fun hb1 => ?_)
  · try simp only [decide_eq_true_eq, decide_eq_false_iff_not, bne_iff_ne, beq_iff_eq, Bool.not_eq_true', Bool.not_eq_false', ne_eq, bne_eq_false_iff_eq, beq_eq_false_iff_ne] at hb1
    have hlt : i < x.length := by omega
    have hk0 := hmono0 i
    have hk1 := hmono (i + 1) k
    rw [mkL_succ hlt] at hk1
    dsimp only at hk1
    have hm0 := mkL_le mkE_Int_le x[i].Set (((mkL mkE_Joined (x.take i) k).2 + 1) + 1)
    simp only [mkE_Joined] at hk1
    refine sw_skip ?_
    refine sw_seq ?_
    refine sw_block ?_
    refine sw_seq ?_
    refine sw_seq ?_
    refine sw_of (l := [(0, RV.sv false [PV.sl _ _]), (1, RV.sv false [PV.val _]), (5, RV.sv false [PV.val _])]) (b := []) (by exact And.intro rfl (And.intro rfl (And.intro rfl True.intro))) (by exact True.intro) ?_
    refine sw_reg ?_
    refine RunS.step (by exact And.intro rfl True.intro) (by exact True.intro) (LocG.of rfl (loc_copy (r' := RV.sv false [PV.sl .v _]) (.inl rfl) (by decide) (by exact Cp.sv (ToL.cons PV.to_none ToL.nil) (BorL.cons (PV.bor_sl _) BorL.nil)))) nofree ?_
    refine RunS.step (by exact And.intro rfl True.intro) (by exact True.intro) (LocG.of rfl (loc_copy (.inl rfl) (by decide) (by exact Cp.sc))) nofree ?_
    refine RunS.step (by exact And.intro rfl (And.intro rfl True.intro)) (by exact True.intro) (LocG.of rfl (loc_index (by decide) sl_25 (by exact True.intro) (by exact rfl) (by exact mkL_getc hlt rfl) (by exact rfl))) nofree ?_
    refine RunS.step (by exact And.intro rfl True.intro) (by exact True.intro) (LocG.of rfl (loc_efield (by decide) fd_103_0 (by exact Nat.le_of_ble_eq_true rfl))) nofree ?_
    refine RunS.step (by exact And.intro rfl True.intro) (by exact True.intro) (LocG.of rfl (loc_eload (qs := [PV.val _]) (by decide) ty_3 (fun _ => rfl) (by exact Nat.le_of_ble_eq_true rfl) (by exact (ToL.cons (PV.To.refl _) ToL.nil)) (by exact (BorL.cons (PV.bor_val _) BorL.nil)))) nofree ?_
    refine RunS.step (by exact And.intro rfl True.intro) (by exact True.intro) (LocG.of rfl (loc_copy (.inl rfl) (by decide) (by exact Cp.sc))) nofree ?_
    refine RunS.step (by exact And.intro rfl (And.intro rfl True.intro)) (by exact True.intro) (LocG.of rfl (loc_neq (by decide) (by exact True.intro) (by exact True.intro))) nofree ?_
    refine sw_cond (t := 18) rfl (fun hb2 => ?_) (fun hb2 => ?_)
    · try simp only [decide_eq_true_eq, decide_eq_false_iff_not, bne_iff_ne, beq_iff_eq, Bool.not_eq_true', Bool.not_eq_false', ne_eq, bne_eq_false_iff_eq, beq_eq_false_iff_ne] at hb2
      first | exact absurd rfl hb2 | omega
    · try simp only [decide_eq_true_eq, decide_eq_false_iff_not, bne_iff_ne, beq_iff_eq, Bool.not_eq_true', Bool.not_eq_false', ne_eq, bne_eq_false_iff_eq, beq_eq_false_iff_ne] at hb2
      refine sw_skip ?_
      refine sw_seq ?_
      refine sw_of (l := [(0, RV.sv false [PV.sl _ _]), (1, RV.sv false [PV.val _]), (5, RV.sv false [PV.val _])]) (b := []) (by exact And.intro rfl (And.intro rfl (And.intro rfl True.intro))) (by exact True.intro) ?_
      refine sw_reg ?_
      refine RunS.step (by exact And.intro rfl True.intro) (by exact True.intro) (LocG.of rfl (loc_copy (.inl rfl) (by decide) (by exact Cp.sc))) nofree ?_
      refine RunS.step (by exact And.intro rfl True.intro) (by exact True.intro) (LocG.of rfl (loc_add (by decide) (by exact True.intro) (ok_sc rfl) (by unfold I64; omega))) nofree ?_
      refine RunS.step (by exact And.intro rfl True.intro) (by exact True.intro) (LocG.of rfl (loc_copy (.inr rfl) (by decide) (by exact Cp.sc))) nofree ?_
      refine sw_seq ?_
      refine sw_seq ?_
      refine sw_of (l := [(0, RV.sv false [PV.sl _ _]), (1, RV.sv false [PV.val _]), (5, RV.sv false [PV.val _])]) (b := []) (by exact And.intro rfl (And.intro rfl (And.intro rfl True.intro))) (by exact True.intro) ?_
      refine sw_reg ?_
      refine RunS.step (by exact And.intro rfl True.intro) (by exact True.intro) (LocG.of rfl (loc_copy (r' := RV.sv false [PV.sl .v _]) (.inl rfl) (by decide) (by exact Cp.sv (ToL.cons PV.to_none ToL.nil) (BorL.cons (PV.bor_sl _) BorL.nil)))) nofree ?_
      refine RunS.step (by exact And.intro rfl True.intro) (by exact True.intro) (LocG.of rfl (loc_copy (.inl rfl) (by decide) (by exact Cp.sc))) nofree ?_
      refine RunS.step (by exact And.intro rfl (And.intro rfl True.intro)) (by exact True.intro) (LocG.of rfl (loc_index (by decide) sl_25 (by exact True.intro) (by exact rfl) (by exact mkL_getc hlt rfl) (by exact rfl))) nofree ?_
      refine RunS.step (by exact And.intro rfl True.intro) (by exact True.intro) (LocG.of rfl (loc_efield (by decide) fd_103_1 (by exact Nat.le_of_ble_eq_true rfl))) nofree ?_
      refine RunS.step (by exact And.intro rfl True.intro) (by exact True.intro) (LocG.of rfl (loc_eload (qs := [PV.val _]) (by decide) ty_3 (fun _ => rfl) (by exact Nat.le_of_ble_eq_true rfl) (by exact (ToL.cons (PV.To.refl _) ToL.nil)) (by exact (BorL.cons (PV.bor_val _) BorL.nil)))) nofree ?_
      refine RunS.step (by exact And.intro rfl True.intro) (by exact True.intro) (LocG.of rfl (loc_copy (.inl rfl) (by decide) (by exact Cp.sc))) nofree ?_
      refine RunS.step (by exact And.intro rfl (And.intro rfl True.intro)) (by exact True.intro) (LocG.of rfl (loc_neq (by decide) (by exact True.intro) (by exact True.intro))) nofree ?_
      refine sw_cond (t := 27) rfl (fun hb3 => ?_) (fun hb3 => ?_)
      · try simp only [decide_eq_true_eq, decide_eq_false_iff_not, bne_iff_ne, beq_iff_eq, Bool.not_eq_true', Bool.not_eq_false', ne_eq, bne_eq_false_iff_eq, beq_eq_false_iff_ne] at hb3
        first | exact absurd rfl hb3 | omega
      · try simp only [decide_eq_true_eq, decide_eq_false_iff_not, bne_iff_ne, beq_iff_eq, Bool.not_eq_true', Bool.not_eq_false', ne_eq, bne_eq_false_iff_eq, beq_eq_false_iff_ne] at hb3
        refine sw_skip ?_
        refine sw_seq ?_
        refine sw_of (l := [(0, RV.sv false [PV.sl _ _]), (1, RV.sv false [PV.val _]), (5, RV.sv false [PV.val _])]) (b := []) (by exact And.intro rfl (And.intro rfl (And.intro rfl True.intro))) (by exact True.intro) ?_
        refine sw_reg ?_
        refine RunS.step (by exact And.intro rfl True.intro) (by exact True.intro) (LocG.of rfl (loc_copy (.inl rfl) (by decide) (by exact Cp.sc))) nofree ?_
        refine RunS.step (by exact And.intro rfl True.intro) (by exact True.intro) (LocG.of rfl (loc_add (by decide) (by exact True.intro) (ok_sc rfl) (by unfold I64; omega))) nofree ?_
        refine RunS.step (by exact And.intro rfl True.intro) (by exact True.intro) (LocG.of rfl (loc_copy (.inr rfl) (by decide) (by exact Cp.sc))) nofree ?_
        refine sw_seq ?_
        refine sw_of (l := [(0, RV.sv false [PV.sl _ _]), (1, RV.sv false [PV.val _]), (5, RV.sv false [PV.val _])]) (b := []) (by exact And.intro rfl (And.intro rfl (And.intro rfl True.intro))) (by exact True.intro) ?_
        refine sw_reg ?_
        refine RunS.step (by exact And.intro rfl True.intro) (by exact True.intro) (LocG.of rfl (loc_copy (r' := RV.sv false [PV.sl .v _]) (.inl rfl) (by decide) (by exact Cp.sv (ToL.cons PV.to_none ToL.nil) (BorL.cons (PV.bor_sl _) BorL.nil)))) nofree ?_
        refine RunS.step (by exact And.intro rfl True.intro) (by exact True.intro) (LocG.of rfl (loc_copy (.inl rfl) (by decide) (by exact Cp.sc))) nofree ?_
        refine RunS.step (by exact And.intro rfl (And.intro rfl True.intro)) (by exact True.intro) (LocG.of rfl (loc_index (by decide) sl_25 (by exact True.intro) (by exact rfl) (by exact mkL_getc hlt rfl) (by exact rfl))) nofree ?_
        refine RunS.step (by exact And.intro rfl True.intro) (by exact True.intro) (LocG.of rfl (loc_efield (by decide) fd_103_2 (by exact Nat.le_of_ble_eq_true rfl))) nofree ?_
        refine RunS.step (by exact And.intro rfl True.intro) (by exact True.intro) (LocG.of rfl (loc_eload (qs := [PV.sl .v _]) (by decide) ty_58 (fun _ => rfl) (by exact Nat.le_of_ble_eq_true rfl) (by exact (ToL.cons PV.to_none ToL.nil)) (by exact (BorL.cons (PV.bor_sl _) BorL.nil)))) nofree ?_
        refine RunS.step (by exact And.intro rfl True.intro) (by exact True.intro) (LocG.of rfl (loc_copy (.inl rfl) (by decide) (by exact Cp.sc))) nofree ?_
        refine RunS.step (by exact And.intro rfl (And.intro rfl True.intro)) (by exact True.intro) (LocG.of rfl (loc_call (qs := [(false, [PV.sl _ _]), (false, [PV.val _])]) (as_ := [(false, [PV.sl .v _]), (false, [PV.val _])]) (by decide) c_85 (by exact (And.intro (by exact True.intro) (And.intro (by exact True.intro) True.intro))) (by exact (And.intro (And.intro rfl (ToL.cons PV.to_none ToL.nil)) (And.intro (And.intro rfl (ToL.cons (PV.To.refl _) ToL.nil)) True.intro))) (by exact held_IntS (by omega) (by omega)))) nofree ?_
        refine RunS.step (by exact And.intro rfl True.intro) (by exact True.intro) (LocG.of rfl (loc_copy (.inr rfl) (by decide) (by exact Cp.sc))) nofree ?_
        refine sw_seq ?_
        refine sw_of (l := [(0, RV.sv false [PV.sl _ _]), (1, RV.sv false [PV.val _]), (5, RV.sv false [PV.val _])]) (b := []) (by exact And.intro rfl (And.intro rfl (And.intro rfl True.intro))) (by exact True.intro) ?_
        refine sw_reg ?_
        refine RunS.step (by exact And.intro rfl True.intro) (by exact True.intro) (LocG.of rfl (loc_copy (.inl rfl) (by decide) (by exact Cp.sc))) nofree ?_
        refine RunS.step (by exact And.intro rfl True.intro) (by exact True.intro) (LocG.of rfl (loc_lss (by decide) (by exact True.intro) (ok_sc rfl))) nofree ?_
        refine sw_cond (t := 38) rfl (fun hb4 => ?_) (fun hb4 => ?_)
        · try simp only [decide_eq_true_eq, decide_eq_false_iff_not, bne_iff_ne, beq_iff_eq, Bool.not_eq_true', Bool.not_eq_false', ne_eq, bne_eq_false_iff_eq, beq_eq_false_iff_ne] at hb4
          first | exact absurd rfl hb4 | omega
        · try simp only [decide_eq_true_eq, decide_eq_false_iff_not, bne_iff_ne, beq_iff_eq, Bool.not_eq_true', Bool.not_eq_false', ne_eq, bne_eq_false_iff_eq, beq_eq_false_iff_ne] at hb4
          refine sw_skip ?_
          refine sw_of (l := [(0, RV.sv false [PV.sl _ _]), (1, RV.sv false [PV.val _]), (5, RV.sv false [PV.val _])]) (b := []) (by exact And.intro rfl (And.intro rfl (And.intro rfl True.intro))) (by exact True.intro) ?_
          refine sw_reg ?_
          refine RunS.step (by exact And.intro rfl True.intro) (by exact True.intro) (LocG.of rfl (loc_copy (.inl rfl) (by decide) (by exact Cp.sc))) nofree ?_
          refine RunS.step (by exact And.intro rfl True.intro) (by exact True.intro) (LocG.of rfl (loc_add (by decide) (by exact True.intro) (ok_sc rfl) (by unfold I64; omega))) nofree ?_
          refine RunS.step (by exact And.intro rfl True.intro) (by exact True.intro) (LocG.of rfl (loc_copy (.inr rfl) (by decide) (by exact Cp.sc))) nofree ?_
          refine Exists.intro (i + 1) (And.intro (by omega) (And.intro (by omega) (And.intro (And.intro (by exact And.intro rfl True.intro) (by exact True.intro)) (And.intro (by exact And.intro (by exact int_eq (by rw [mkL_succ hlt]; rfl)) (And.intro (by exact rfl) (True.intro))) (by exact True.intro)))))
  · try simp only [decide_eq_true_eq, decide_eq_false_iff_not, bne_iff_ne, beq_iff_eq, Bool.not_eq_true', Bool.not_eq_false', ne_eq, bne_eq_false_iff_eq, beq_eq_false_iff_ne] at hb1
    have hend : i = x.length := by omega
    refine sw_exit ?_
    refine sw_seq ?_
    refine sw_of (l := [(0, RV.sv false [PV.sl _ _]), (1, RV.sv false [PV.val _]), (5, RV.sv false [PV.val _])]) (b := []) (by exact And.intro rfl (And.intro rfl (And.intro rfl True.intro))) (by exact True.intro) ?_
    refine sw_reg ?_
    refine RunS.step (by exact And.intro rfl True.intro) (by exact True.intro) (LocG.of rfl (loc_copy (.inl rfl) (by decide) (by exact Cp.sc))) nofree ?_
    refine RunS.step (by exact And.intro rfl True.intro) (by exact True.intro) (LocG.of rfl (loc_copy (.inr rfl) (by decide) (by exact Cp.sc))) nofree ?_
    refine sw_ret ?_
    exact (And.intro (by refine int_eq ?_; first | rfl | rw [hend, List.take_length]) True.intro)
end Go.Proofs.Ytgglfommkpgknaa
