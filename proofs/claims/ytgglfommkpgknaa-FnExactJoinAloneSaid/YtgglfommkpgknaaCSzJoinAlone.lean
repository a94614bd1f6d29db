/- What functions of the program compute. No condition. -/
import Derived.Test.YtgglfommkpgknaaCDb
set_option linter.unusedVariables false
set_option linter.unusedSimpArgs false
namespace Go.Proofs.Ytgglfommkpgknaa
open Go Go.RowKit M
set_option maxRecDepth 10000
theorem wt0_IntS (x : List Int) : (wtIntS x : Int) = x.length := by
  have h : ∀ l : List Int, (l.map wtInt).sum = 0 := by
    intro l
    induction l with
    | nil => rfl
    | cons a l ih => rw [List.map_cons, List.sum_cons, ih]; rfl
  simp [wtIntS, h]
theorem sz_IntS {x : List Int} {l : Int}  (h0l : 0 ≤ l) (h1l : l ≤ 1048576) : SCall Try.prog 92 [(false, [PV.sl .v (x.map cInt)]), (false, [PV.val (vI l)])] (resRV [(false, [PV.val (vI (szR l (wtIntS x)))])]) := by
  refine scall_of (rs := [(false, [PV.val (vI (szR l (wtIntS x)))])]) Try.func92 rfl (Nat.le_of_ble_eq_true rfl) (borA_cons (BorL.cons (PV.bor_sl _) BorL.nil) (borA_cons (BorL.cons (PV.bor_val _) BorL.nil) borA_nil)) ?_
  intro h0 w0 Fz0
  refine sw_len (s := 0) rfl fun hl0 => ?_
  try rw [List.length_map] at hl0
  refine sw_seq ?_
  refine sw_reg ?_
  refine RunS.step (by exact True.intro) (by exact True.intro) (LocG.of rfl (loc_const (.inr rfl) (by decide) (ok_sc rfl))) nofree ?_
  refine sw_seq ?_
  refine sw_of (l := [(0, RV.sv false [PV.sl _ _]), (1, RV.sv false [PV.val _]), (4, RV.sv false [PV.val _])]) (b := []) (by exact And.intro rfl (And.intro rfl (And.intro rfl True.intro))) (by exact True.intro) ?_
  refine sw_reg ?_
  refine RunS.step (by exact And.intro rfl True.intro) (by exact True.intro) (LocG.of rfl (loc_copy (.inl rfl) (by decide) (by exact Cp.sc))) nofree ?_
  refine RunS.step (by exact And.intro rfl True.intro) (by exact True.intro) (LocG.of rfl (loc_copy (r' := RV.sv false [PV.sl .v _]) (.inl rfl) (by decide) (by exact Cp.sv (ToL.cons PV.to_none ToL.nil) (BorL.cons (PV.bor_sl _) BorL.nil)))) nofree ?_
  refine RunS.step (by exact And.intro rfl True.intro) (by exact True.intro) (LocG.of rfl (loc_len (by decide) sl_58 (by first | exact List.length_map _ | exact rfl))) nofree ?_
  refine RunS.step (by exact And.intro rfl (And.intro rfl True.intro)) (by exact True.intro) (LocG.of rfl (loc_sub (by decide) (by exact True.intro) (by exact True.intro) (by unfold I64; omega))) nofree ?_
  refine RunS.step (by exact And.intro rfl True.intro) (by exact True.intro) (LocG.of rfl (loc_copy (.inr rfl) (by decide) (by exact Cp.sc))) nofree ?_
  refine sw_seq ?_
  refine sw_seq ?_
  refine sw_of (l := [(0, RV.sv false [PV.sl _ _]), (1, RV.sv false [PV.val _]), (4, RV.sv false [PV.val _])]) (b := []) (by exact And.intro rfl (And.intro rfl (And.intro rfl True.intro))) (by exact True.intro) ?_
  refine sw_reg ?_
  refine RunS.step (by exact And.intro rfl True.intro) (by exact True.intro) (LocG.of rfl (loc_copy (.inl rfl) (by decide) (by exact Cp.sc))) nofree ?_
  refine RunS.step (by exact And.intro rfl True.intro) (by exact True.intro) (LocG.of rfl (loc_lss (by decide) (by exact True.intro) (ok_sc rfl))) nofree ?_
  refine sw_cond (t := 10) rfl (fun hb1 => ?_) (fun hb1 => ?_)
  · try simp only [decide_eq_true_eq, decide_eq_false_iff_not, bne_iff_ne, beq_iff_eq, Bool.not_eq_true', Bool.not_eq_false', ne_eq, bne_eq_false_iff_eq, beq_eq_false_iff_ne] at hb1
    refine sw_seq ?_
    refine sw_of (l := [(0, RV.sv false [PV.sl _ _]), (1, RV.sv false [PV.val _]), (4, RV.sv false [PV.val _])]) (b := []) (by exact And.intro rfl (And.intro rfl (And.intro rfl True.intro))) (by exact True.intro) ?_
    refine sw_reg ?_
    refine RunS.step (by exact True.intro) (by exact True.intro) (LocG.of rfl (loc_const (.inr rfl) (by decide) (ok_sc rfl))) nofree ?_
    refine sw_ret ?_
    exact (And.intro (by refine int_eq ?_; exact (szR_no (by have := wt0_IntS x; omega)).symm) True.intro)
  · try simp only [decide_eq_true_eq, decide_eq_false_iff_not, bne_iff_ne, beq_iff_eq, Bool.not_eq_true', Bool.not_eq_false', ne_eq, bne_eq_false_iff_eq, beq_eq_false_iff_ne] at hb1
    refine sw_skip ?_
    refine sw_seq ?_
    refine sw_of (l := [(0, RV.sv false [PV.sl _ _]), (1, RV.sv false [PV.val _]), (4, RV.sv false [PV.val _])]) (b := []) (by exact And.intro rfl (And.intro rfl (And.intro rfl True.intro))) (by exact True.intro) ?_
    refine sw_reg ?_
    refine RunS.step (by exact And.intro rfl True.intro) (by exact True.intro) (LocG.of rfl (loc_copy (.inl rfl) (by decide) (by exact Cp.sc))) nofree ?_
    refine RunS.step (by exact And.intro rfl True.intro) (by exact True.intro) (LocG.of rfl (loc_copy (.inr rfl) (by decide) (by exact Cp.sc))) nofree ?_
    refine sw_ret ?_
    exact (And.intro (by refine int_eq ?_; exact (by have := wt0_IntS x; rw [szR_yes (by omega), this])) True.intro)
theorem sz_Row {x : Row} {l : Int}  (h0l : 0 ≤ l) (h1l : l ≤ 1048576) : SCall Try.prog 43 [(true, [PV.val (vI x.Id), PV.sl .v (x.Values.map cInt)]), (false, [PV.val (vI l)])] (resRV [(false, [PV.val (vI (szR l (wtRow x)))])]) := by
  refine scall_of (rs := [(false, [PV.val (vI (szR l (wtRow x)))])]) Try.func43 rfl (Nat.le_of_ble_eq_true rfl) (borA_cons (BorL.cons (PV.bor_val _) (BorL.cons (PV.bor_sl _) BorL.nil)) (borA_cons (BorL.cons (PV.bor_val _) BorL.nil) borA_nil)) ?_
  intro h0 w0 Fz0
  refine sw_slen (s := 0) (j := 1) rfl rfl fun hl0_1 => ?_
  try rw [List.length_map] at hl0_1
  have hw : (wtRow x : Int) = (wtIntS x.Values : Int) := by simp [wtRow, wtInt]
  refine sw_seq ?_
  refine sw_reg ?_
  refine RunS.step (by exact And.intro rfl True.intro) (by exact True.intro) (LocG.of rfl (loc_box (ag := true) (cs := [PV.val _, PV.sl _ _]) (by decide) (by exact True.intro))) (free1 (Free.of_ rfl)) ?_
  refine RunS.step (by exact True.intro) (by exact True.intro) (LocG.of rfl (loc_const (.inr rfl) (by decide) (ok_sc rfl))) nofree ?_
  refine sw_seq ?_
  refine sw_of (l := [(1, RV.sv false [PV.val _]), (2, RV.ptr 2 0), (4, RV.sv false [PV.val _])]) (b := [(2, (60, [PV.val _, PV.sl _ _]))]) (by exact And.intro rfl (And.intro rfl (And.intro rfl True.intro))) (by exact And.intro rfl True.intro) ?_
  refine sw_reg ?_
  refine RunS.step (by exact And.intro rfl True.intro) (by exact True.intro) (LocG.of rfl (loc_field (by decide) fd_60_1)) nofree ?_
  refine RunS.step (by exact And.intro rfl True.intro) (by exact And.intro rfl True.intro) (LocG.of rfl (loc_load (qs := [PV.sl .v _]) (by decide) ty_58 (fun _ => rfl) (by exact Nat.le_of_ble_eq_true rfl) (by exact (ToL.cons PV.to_none ToL.nil)) (by exact (BorL.cons (PV.bor_sl _) BorL.nil)))) nofree ?_
  refine RunS.step (by exact And.intro rfl True.intro) (by exact True.intro) (LocG.of rfl (loc_copy (.inl rfl) (by decide) (by exact Cp.sc))) nofree ?_
  refine RunS.step (by exact And.intro rfl (And.intro rfl True.intro)) (by exact True.intro) (LocG.of rfl (loc_call (qs := [(false, [PV.sl _ _]), (false, [PV.val _])]) (as_ := [(false, [PV.sl .v _]), (false, [PV.val _])]) (by decide) c_92 (by exact (And.intro (by exact True.intro) (And.intro (by exact True.intro) True.intro))) (by exact (And.intro (And.intro rfl (ToL.cons PV.to_none ToL.nil)) (And.intro (And.intro rfl (ToL.cons (PV.To.refl _) ToL.nil)) True.intro))) (by exact sz_IntS (by omega) (by omega)))) nofree ?_
  refine RunS.step (by exact And.intro rfl True.intro) (by exact True.intro) (LocG.of rfl (loc_copy (.inr rfl) (by decide) (by exact Cp.sc))) nofree ?_
  refine sw_seq ?_
  refine sw_seq ?_
  refine sw_of (l := [(1, RV.sv false [PV.val _]), (2, RV.ptr 2 0), (4, RV.sv false [PV.val _])]) (b := [(2, (60, [PV.val _, PV.sl _ _]))]) (by exact And.intro rfl (And.intro rfl (And.intro rfl True.intro))) (by exact And.intro rfl True.intro) ?_
  refine sw_reg ?_
  refine RunS.step (by exact And.intro rfl True.intro) (by exact True.intro) (LocG.of rfl (loc_copy (.inl rfl) (by decide) (by exact Cp.sc))) nofree ?_
  refine RunS.step (by exact And.intro rfl True.intro) (by exact True.intro) (LocG.of rfl (loc_lss (by decide) (by exact True.intro) (ok_sc rfl))) nofree ?_
  refine sw_cond (t := 10) rfl (fun hb1 => ?_) (fun hb1 => ?_)
  · try simp only [decide_eq_true_eq, decide_eq_false_iff_not, bne_iff_ne, beq_iff_eq, Bool.not_eq_true', Bool.not_eq_false', ne_eq, bne_eq_false_iff_eq, beq_eq_false_iff_ne] at hb1
    have hn0 := szR_neg (w := wtIntS x.Values) (l := l) (by omega) hb1
    refine sw_seq ?_
    refine sw_of (l := [(1, RV.sv false [PV.val _]), (2, RV.ptr 2 0), (4, RV.sv false [PV.val _])]) (b := [(2, (60, [PV.val _, PV.sl _ _]))]) (by exact And.intro rfl (And.intro rfl (And.intro rfl True.intro))) (by exact And.intro rfl True.intro) ?_
    refine sw_reg ?_
    refine RunS.step (by exact True.intro) (by exact True.intro) (LocG.of rfl (loc_const (.inr rfl) (by decide) (ok_sc rfl))) nofree ?_
    refine sw_ret ?_
    exact (And.intro (by refine int_eq ?_; exact (szR_no (by omega)).symm) True.intro)
  · try simp only [decide_eq_true_eq, decide_eq_false_iff_not, bne_iff_ne, beq_iff_eq, Bool.not_eq_true', Bool.not_eq_false', ne_eq, bne_eq_false_iff_eq, beq_eq_false_iff_ne] at hb1
    have hp0 := szR_pos (w := wtIntS x.Values) (l := l) hb1
    have he0 := szR_yes hp0
    refine sw_skip ?_
    refine sw_seq ?_
    refine sw_of (l := [(1, RV.sv false [PV.val _]), (2, RV.ptr 2 0), (4, RV.sv false [PV.val _])]) (b := [(2, (60, [PV.val _, PV.sl _ _]))]) (by exact And.intro rfl (And.intro rfl (And.intro rfl True.intro))) (by exact And.intro rfl True.intro) ?_
    refine sw_reg ?_
    refine RunS.step (by exact And.intro rfl True.intro) (by exact True.intro) (LocG.of rfl (loc_copy (.inl rfl) (by decide) (by exact Cp.sc))) nofree ?_
    refine RunS.step (by exact And.intro rfl True.intro) (by exact True.intro) (LocG.of rfl (loc_copy (.inr rfl) (by decide) (by exact Cp.sc))) nofree ?_
    refine sw_ret ?_
    exact (And.intro (by refine int_eq ?_; (have hz := szR_yes (l := l) (n := (wtRow x : Int)) (by omega); omega)) True.intro)
theorem sz_RowS {p1 : Fl} {x : List Row} {l : Int}  (h0l : 0 ≤ l) (h1l : l ≤ 1048576) : SCall Try.prog 34 [(false, [PV.sl .v (x.map (cRow p1))]), (false, [PV.val (vI l)])] (resRV [(false, [PV.val (vI (szR l (wtRowS x)))])]) := by
  refine scall_of (rs := [(false, [PV.val (vI (szR l (wtRowS x)))])]) Try.func34 rfl (Nat.le_of_ble_eq_true rfl) (borA_cons (BorL.cons (PV.bor_sl _) BorL.nil) (borA_cons (BorL.cons (PV.bor_val _) BorL.nil) borA_nil)) ?_
  intro h0 w0 Fz0
  refine sw_len (s := 0) rfl fun hl0 => ?_
  try rw [List.length_map] at hl0
  refine sw_seq ?_
  refine sw_reg ?_
  refine RunS.step (by exact True.intro) (by exact True.intro) (LocG.of rfl (loc_const (.inr rfl) (by decide) (ok_sc rfl))) nofree ?_
  refine sw_seq ?_
  refine sw_of (l := [(0, RV.sv false [PV.sl _ _]), (1, RV.sv false [PV.val _]), (4, RV.sv false [PV.val _])]) (b := []) (by exact And.intro rfl (And.intro rfl (And.intro rfl True.intro))) (by exact True.intro) ?_
  refine sw_reg ?_
  refine RunS.step (by exact And.intro rfl True.intro) (by exact True.intro) (LocG.of rfl (loc_copy (.inl rfl) (by decide) (by exact Cp.sc))) nofree ?_
  refine RunS.step (by exact And.intro rfl True.intro) (by exact True.intro) (LocG.of rfl (loc_copy (r' := RV.sv false [PV.sl .v _]) (.inl rfl) (by decide) (by exact Cp.sv (ToL.cons PV.to_none ToL.nil) (BorL.cons (PV.bor_sl _) BorL.nil)))) nofree ?_
  refine RunS.step (by exact And.intro rfl True.intro) (by exact True.intro) (LocG.of rfl (loc_len (by decide) sl_28 (by first | exact List.length_map _ | exact rfl))) nofree ?_
  refine RunS.step (by exact And.intro rfl (And.intro rfl True.intro)) (by exact True.intro) (LocG.of rfl (loc_sub (by decide) (by exact True.intro) (by exact True.intro) (by unfold I64; omega))) nofree ?_
  refine RunS.step (by exact And.intro rfl True.intro) (by exact True.intro) (LocG.of rfl (loc_copy (.inr rfl) (by decide) (by exact Cp.sc))) nofree ?_
  refine sw_seq ?_
  refine sw_seq ?_
  refine sw_of (l := [(0, RV.sv false [PV.sl _ _]), (1, RV.sv false [PV.val _]), (4, RV.sv false [PV.val _])]) (b := []) (by exact And.intro rfl (And.intro rfl (And.intro rfl True.intro))) (by exact True.intro) ?_
  refine sw_reg ?_
  refine RunS.step (by exact And.intro rfl True.intro) (by exact True.intro) (LocG.of rfl (loc_copy (.inl rfl) (by decide) (by exact Cp.sc))) nofree ?_
  refine RunS.step (by exact And.intro rfl True.intro) (by exact True.intro) (LocG.of rfl (loc_lss (by decide) (by exact True.intro) (ok_sc rfl))) nofree ?_
  refine sw_cond (t := 11) rfl (fun hb1 => ?_) (fun hb1 => ?_)
  · try simp only [decide_eq_true_eq, decide_eq_false_iff_not, bne_iff_ne, beq_iff_eq, Bool.not_eq_true', Bool.not_eq_false', ne_eq, bne_eq_false_iff_eq, beq_eq_false_iff_ne] at hb1
    refine sw_seq ?_
    refine sw_of (l := [(0, RV.sv false [PV.sl _ _]), (1, RV.sv false [PV.val _]), (4, RV.sv false [PV.val _])]) (b := []) (by exact And.intro rfl (And.intro rfl (And.intro rfl True.intro))) (by exact True.intro) ?_
    refine sw_reg ?_
    refine RunS.step (by exact True.intro) (by exact True.intro) (LocG.of rfl (loc_const (.inr rfl) (by decide) (ok_sc rfl))) nofree ?_
    refine sw_ret ?_
    exact (And.intro (by refine int_eq ?_; exact (szR_no (by simp only [wtRowS]; omega)).symm) True.intro)
  · try simp only [decide_eq_true_eq, decide_eq_false_iff_not, bne_iff_ne, beq_iff_eq, Bool.not_eq_true', Bool.not_eq_false', ne_eq, bne_eq_false_iff_eq, beq_eq_false_iff_ne] at hb1
    refine sw_skip ?_
    refine sw_seq ?_
    refine sw_seq ?_
    refine sw_of (l := [(0, RV.sv false [PV.sl _ _]), (1, RV.sv false [PV.val _]), (4, RV.sv false [PV.val _])]) (b := []) (by exact And.intro rfl (And.intro rfl (And.intro rfl True.intro))) (by exact True.intro) ?_
    refine sw_reg ?_
    refine RunS.step (by exact True.intro) (by exact True.intro) (LocG.of rfl (loc_const (.inr rfl) (by decide) (ok_sc rfl))) nofree ?_
    refine sw_block ?_
    refine sw_of (l := [(0, RV.sv false [PV.sl _ _]), (1, RV.sv false [PV.val _]), (4, RV.sv false [PV.val _]), (5, RV.sv false [PV.val _])]) (b := []) (by exact And.intro rfl (And.intro rfl (And.intro rfl (And.intro rfl True.intro)))) (by exact True.intro) ?_
    refine sw_loop (l0 := [(0, RV.sv false [PV.sl _ _])]) (b0 := []) (fun q : Nat × Int => q.1 ≤ x.length ∧ 0 ≤ q.2 ∧ q.2 + x.length + ((x.take q.1).map wtRow).sum = l) (fun q : Nat × Int => [(1, RV.int q.2), (5, RV.int (q.1 : Int))]) (fun q : Nat × Int => []) (fun q : Nat × Int => x.length - q.1) (0, l - x.length) (by exact ⟨by simp, by dsimp only; omega, by simp⟩) (by exact And.intro rfl True.intro) (by exact True.intro) (by exact And.intro (by exact rfl) (And.intro (by exact rfl) (True.intro))) (by exact True.intro) ?_
    rintro ⟨k, ll⟩ ⟨hk, hll, hw⟩
    dsimp only at hk hll hw
    refine sw_seq ?_
    refine sw_seq ?_
    refine sw_reg ?_
    refine RunS.step (by exact And.intro rfl True.intro) (by exact True.intro) (LocG.of rfl (loc_copy (.inl rfl) (by decide) (by exact Cp.sc))) nofree ?_
    refine RunS.step (by exact And.intro rfl True.intro) (by exact True.intro) (LocG.of rfl (loc_copy (r' := RV.sv false [PV.sl .v _]) (.inl rfl) (by decide) (by exact Cp.sv (ToL.cons PV.to_none ToL.nil) (BorL.cons (PV.bor_sl _) BorL.nil)))) nofree ?_
    refine RunS.step (by exact And.intro rfl True.intro) (by exact True.intro) (LocG.of rfl (loc_len (by decide) sl_28 (by first | exact List.length_map _ | exact rfl))) nofree ?_
    refine RunS.step (by exact And.intro rfl (And.intro rfl True.intro)) (by exact True.intro) (LocG.of rfl (loc_lss (by decide) (by exact True.intro) (by exact True.intro))) nofree ?_
    refine sw_cond (t := 15) rfl (fun hb2 => ?_) (fun hb2 => ?_)
    · try simp only [decide_eq_true_eq, decide_eq_false_iff_not, bne_iff_ne, beq_iff_eq, Bool.not_eq_true', Bool.not_eq_false', ne_eq, bne_eq_false_iff_eq, beq_eq_false_iff_ne] at hb2
      have hlt : k < x.length := by omega
      refine sw_skip ?_
      refine sw_seq ?_
      refine sw_block ?_
      refine sw_seq ?_
      refine sw_of (l := [(0, RV.sv false [PV.sl _ _]), (1, RV.sv false [PV.val _]), (5, RV.sv false [PV.val _])]) (b := []) (by exact And.intro rfl (And.intro rfl (And.intro rfl True.intro))) (by exact True.intro) ?_
      refine sw_reg ?_
      refine RunS.step (by exact And.intro rfl True.intro) (by exact True.intro) (LocG.of rfl (loc_copy (r' := RV.sv false [PV.sl .v _]) (.inl rfl) (by decide) (by exact Cp.sv (ToL.cons PV.to_none ToL.nil) (BorL.cons (PV.bor_sl _) BorL.nil)))) nofree ?_
      refine RunS.step (by exact And.intro rfl True.intro) (by exact True.intro) (LocG.of rfl (loc_copy (.inl rfl) (by decide) (by exact Cp.sc))) nofree ?_
      refine RunS.step (by exact And.intro rfl (And.intro rfl True.intro)) (by exact True.intro) (LocG.of rfl (loc_index (by decide) sl_28 (by exact True.intro) (by exact rfl) (by exact getm2 (by omega) rfl) (by exact rfl))) nofree ?_
      refine RunS.step (by exact And.intro rfl True.intro) (by exact True.intro) (LocG.of rfl (loc_eload (qs := [PV.val _, PV.sl .v _]) (by decide) ty_60 (fun h => nomatch h) (by exact Nat.le_of_ble_eq_true rfl) (by exact (ToL.cons (PV.To.refl _) (ToL.cons PV.to_none ToL.nil))) (by exact (BorL.cons (PV.bor_val _) (BorL.cons (PV.bor_sl _) BorL.nil))))) nofree ?_
      refine RunS.step (by exact And.intro rfl True.intro) (by exact True.intro) (LocG.of rfl (loc_copy (.inl rfl) (by decide) (by exact Cp.sc))) nofree ?_
      refine RunS.step (by exact And.intro rfl (And.intro rfl True.intro)) (by exact True.intro) (LocG.of rfl (loc_call (qs := [(true, [PV.val _, PV.sl _ _]), (false, [PV.val _])]) (as_ := [(true, [PV.val _, PV.sl .v _]), (false, [PV.val _])]) (by decide) c_43 (by exact (And.intro (by exact True.intro) (And.intro (by exact True.intro) True.intro))) (by exact (And.intro (And.intro rfl (ToL.cons (PV.To.refl _) (ToL.cons PV.to_none ToL.nil))) (And.intro (And.intro rfl (ToL.cons (PV.To.refl _) ToL.nil)) True.intro))) (by exact sz_Row (by omega) (by omega)))) nofree ?_
      refine RunS.step (by exact And.intro rfl True.intro) (by exact True.intro) (LocG.of rfl (loc_copy (.inr rfl) (by decide) (by exact Cp.sc))) nofree ?_
      refine sw_seq ?_
      refine sw_of (l := [(0, RV.sv false [PV.sl _ _]), (1, RV.sv false [PV.val _]), (5, RV.sv false [PV.val _])]) (b := []) (by exact And.intro rfl (And.intro rfl (And.intro rfl True.intro))) (by exact True.intro) ?_
      refine sw_reg ?_
      refine RunS.step (by exact And.intro rfl True.intro) (by exact True.intro) (LocG.of rfl (loc_copy (.inl rfl) (by decide) (by exact Cp.sc))) nofree ?_
      refine RunS.step (by exact And.intro rfl True.intro) (by exact True.intro) (LocG.of rfl (loc_lss (by decide) (by exact True.intro) (ok_sc rfl))) nofree ?_
      refine sw_cond (t := 25) rfl (fun hb3 => ?_) (fun hb3 => ?_)
      · try simp only [decide_eq_true_eq, decide_eq_false_iff_not, bne_iff_ne, beq_iff_eq, Bool.not_eq_true', Bool.not_eq_false', ne_eq, bne_eq_false_iff_eq, beq_eq_false_iff_ne] at hb3
        have hlt : k < x.length := by omega
        have hneg := szR_neg (w := wtRow x[k]) (l := ll) (by omega) hb3
        have hwk := wtk (f := wtRow) hlt
        refine sw_seq ?_
        refine sw_of (l := [(0, RV.sv false [PV.sl _ _]), (1, RV.sv false [PV.val _]), (5, RV.sv false [PV.val _])]) (b := []) (by exact And.intro rfl (And.intro rfl (And.intro rfl True.intro))) (by exact True.intro) ?_
        refine sw_reg ?_
        refine RunS.step (by exact True.intro) (by exact True.intro) (LocG.of rfl (loc_const (.inr rfl) (by decide) (ok_sc rfl))) nofree ?_
        refine sw_ret ?_
        exact (And.intro (by refine int_eq ?_; exact (szR_no (by have := wtk_le (f := wtRow) x (k + 1); simp only [wtRowS]; omega)).symm) True.intro)
      · try simp only [decide_eq_true_eq, decide_eq_false_iff_not, bne_iff_ne, beq_iff_eq, Bool.not_eq_true', Bool.not_eq_false', ne_eq, bne_eq_false_iff_eq, beq_eq_false_iff_ne] at hb3
        have hlt : k < x.length := by omega
        have hpos := szR_pos (w := wtRow x[k]) (l := ll) hb3
        have hwk := wtk (f := wtRow) hlt
        refine sw_skip ?_
        refine sw_of (l := [(0, RV.sv false [PV.sl _ _]), (1, RV.sv false [PV.val _]), (5, RV.sv false [PV.val _])]) (b := []) (by exact And.intro rfl (And.intro rfl (And.intro rfl True.intro))) (by exact True.intro) ?_
        refine sw_reg ?_
        refine RunS.step (by exact And.intro rfl True.intro) (by exact True.intro) (LocG.of rfl (loc_copy (.inl rfl) (by decide) (by exact Cp.sc))) nofree ?_
        refine RunS.step (by exact And.intro rfl True.intro) (by exact True.intro) (LocG.of rfl (loc_add (by decide) (by exact True.intro) (ok_sc rfl) (by unfold I64; omega))) nofree ?_
        refine RunS.step (by exact And.intro rfl True.intro) (by exact True.intro) (LocG.of rfl (loc_copy (.inr rfl) (by decide) (by exact Cp.sc))) nofree ?_
        refine Exists.intro (k + 1, ll - wtRow x[k]) (And.intro (by exact ⟨by dsimp only; omega, by dsimp only; omega, by dsimp only; have := wtk (f := wtRow) hlt; omega⟩) (And.intro (by dsimp only; omega) (And.intro (And.intro (by exact And.intro rfl True.intro) (by exact True.intro)) (And.intro (by exact And.intro (by exact int_eq (szR_yes hpos)) (And.intro (by exact rfl) (True.intro))) (by exact True.intro)))))
    · try simp only [decide_eq_true_eq, decide_eq_false_iff_not, bne_iff_ne, beq_iff_eq, Bool.not_eq_true', Bool.not_eq_false', ne_eq, bne_eq_false_iff_eq, beq_eq_false_iff_ne] at hb2
      refine sw_exit ?_
      refine sw_seq ?_
      refine sw_of (l := [(0, RV.sv false [PV.sl _ _]), (1, RV.sv false [PV.val _]), (5, RV.sv false [PV.val _])]) (b := []) (by exact And.intro rfl (And.intro rfl (And.intro rfl True.intro))) (by exact True.intro) ?_
      refine sw_reg ?_
      refine RunS.step (by exact And.intro rfl True.intro) (by exact True.intro) (LocG.of rfl (loc_copy (.inl rfl) (by decide) (by exact Cp.sc))) nofree ?_
      refine RunS.step (by exact And.intro rfl True.intro) (by exact True.intro) (LocG.of rfl (loc_copy (.inr rfl) (by decide) (by exact Cp.sc))) nofree ?_
      refine sw_ret ?_
      exact (And.intro (by refine int_eq ?_; (rw [szR_yes (by have : (x.take k) = x := List.take_of_length_le (by omega); rw [this] at hw; simp only [wtRowS]; omega)]; have : (x.take k) = x := List.take_of_length_le (by omega); rw [this] at hw; simp only [wtRowS]; omega)) True.intro)
end Go.Proofs.Ytgglfommkpgknaa
