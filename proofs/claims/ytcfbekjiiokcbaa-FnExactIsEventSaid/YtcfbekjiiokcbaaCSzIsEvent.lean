/- What functions of the program compute. No condition. -/
import Derived.Test.YtcfbekjiiokcbaaCDb
set_option linter.unusedVariables false
set_option linter.unusedSimpArgs false
namespace Go.Proofs.Ytcfbekjiiokcbaa
open Go Go.RowKit M
set_option maxRecDepth 10000
theorem wt0_IntS (x : List Int) : (wtIntS x : Int) = x.length := by
  have h : ∀ l : List Int, (l.map wtInt).sum = 0 := by
    intro l
    induction l with
    | nil => rfl
    | cons a l ih => rw [List.map_cons, List.sum_cons, ih]; rfl
  simp [wtIntS, h]
theorem sz_IntS {x : List Int} {l : Int}  (h0l : 0 ≤ l) (h1l : l ≤ 1048576) : SCall Try.prog 111 [(false, [PV.sl .v (x.map cInt)]), (false, [PV.val (vI l)])] (resRV [(false, [PV.val (vI (szR l (wtIntS x)))])]) := by
  refine scall_of (rs := [(false, [PV.val (vI (szR l (wtIntS x)))])]) Try.func111 rfl (Nat.le_of_ble_eq_true rfl) (borA_cons (BorL.cons (PV.bor_sl _) BorL.nil) (borA_cons (BorL.cons (PV.bor_val _) BorL.nil) borA_nil)) ?_
  intro h0 w0 Fz0
  refine sw_len (s := 0) rfl fun hl0 => ?_
  try rw [List.length_map] at hl0
  refine sw_seq ?_
  refine sw_reg ?_
  refine RunS.step (by exact True.intro) (by exact True.intro) (LocG.of rfl (loc_const (.inr rfl) (by decide) (ok_sc rfl))) nofree ?_
  refine sw_seq ?_
  refine sw_of (l := [(0, RV.sv false [PV.sl _ _]), (1, RV.sv false [PV.val _]), (4, RV.sv false [PV.val _])]) (b := []) (by exact And.intro rfl (And.intro rfl (And.intro rfl True.intro))) (by exact True.intro) ?_
  refine sw_reg ?_
  refine RunS.step (by exact And.intro rfl True.intro) (by exact True.intro) (LocG.of rfl (loc_copy (.inl rfl) (by decide) (by exact Cp.sc))) nofree ?_
  refine RunS.step (by exact And.intro rfl True.intro) (by exact True.intro) (LocG.of rfl (loc_copy (r' := RV.sv false [PV.sl .v _]) (.inl rfl) (by decide) (by exact Cp.sv (ToL.cons PV.to_none ToL.nil) (BorL.cons (PV.bor_sl _) BorL.nil)))) nofree ?_
  refine RunS.step (by exact And.intro rfl True.intro) (by exact True.intro) (LocG.of rfl (loc_len (by decide) sl_23 (by first | exact List.length_map _ | exact rfl))) nofree ?_
  refine RunS.step (by exact And.intro rfl (And.intro rfl True.intro)) (by exact True.intro) (LocG.of rfl (loc_sub (by decide) (by exact True.intro) (by exact True.intro) (by unfold I64; omega))) nofree ?_
  refine RunS.step (by exact And.intro rfl True.intro) (by exact True.intro) (LocG.of rfl (loc_copy (.inr rfl) (by decide) (by exact Cp.sc))) nofree ?_
  refine sw_seq ?_
  refine sw_seq ?_
  refine sw_of (l := [(0, RV.sv false [PV.sl _ _]), (1, RV.sv false [PV.val _]), (4, RV.sv false [PV.val _])]) (b := []) (by exact And.intro rfl (And.intro rfl (And.intro rfl True.intro))) (by exact True.intro) ?_
  refine sw_reg ?_
  refine RunS.step (by exact And.intro rfl True.intro) (by exact True.intro) (LocG.of rfl (loc_copy (.inl rfl) (by decide) (by exact Cp.sc))) nofree ?_
  refine RunS.step (by exact And.intro rfl True.intro) (by exact True.intro) (LocG.of rfl (loc_lss (by decide) (by exact True.intro) (ok_sc rfl))) nofree ?_
  refine sw_cond (t := 10) rfl (fun hb1 => ?_) (fun hb1 => ?_)
  · try simp only [decide_eq_true_eq, decide_eq_false_iff_not, bne_iff_ne, beq_iff_eq, Bool.not_eq_true', Bool.not_eq_false', ne_eq, bne_eq_false_iff_eq, beq_eq_false_iff_ne] at hb1
    refine sw_seq ?_
    refine sw_of (l := [(0, RV.sv false [PV.sl _ _]), (1, RV.sv false [PV.val _]), (4, RV.sv false [PV.val _])]) (b := []) (by exact And.intro rfl (And.intro rfl (And.intro rfl True.intro))) (by exact True.intro) ?_
    refine sw_reg ?_
    refine RunS.step (by exact True.intro) (by exact True.intro) (LocG.of rfl (loc_const (.inr rfl) (by decide) (ok_sc rfl))) nofree ?_
    refine sw_ret ?_
    exact (And.intro (by refine int_eq ?_; exact (szR_no (by have := wt0_IntS x; omega)).symm) True.intro)
  · try simp only [decide_eq_true_eq, decide_eq_false_iff_not, bne_iff_ne, beq_iff_eq, Bool.not_eq_true', Bool.not_eq_false', ne_eq, bne_eq_false_iff_eq, beq_eq_false_iff_ne] at hb1
    refine sw_skip ?_
    refine sw_seq ?_
    refine sw_of (l := [(0, RV.sv false [PV.sl _ _]), (1, RV.sv false [PV.val _]), (4, RV.sv false [PV.val _])]) (b := []) (by exact And.intro rfl (And.intro rfl (And.intro rfl True.intro))) (by exact True.intro) ?_
    refine sw_reg ?_
    refine RunS.step (by exact And.intro rfl True.intro) (by exact True.intro) (LocG.of rfl (loc_copy (.inl rfl) (by decide) (by exact Cp.sc))) nofree ?_
    refine RunS.step (by exact And.intro rfl True.intro) (by exact True.intro) (LocG.of rfl (loc_copy (.inr rfl) (by decide) (by exact Cp.sc))) nofree ?_
    refine sw_ret ?_
    exact (And.intro (by refine int_eq ?_; exact (by have := wt0_IntS x; rw [szR_yes (by omega), this])) True.intro)
theorem sz_Row {x : Row} {l : Int}  (h0l : 0 ≤ l) (h1l : l ≤ 1048576) : SCall Try.prog 77 [(true, [PV.val (vI x.Id), PV.sl .v (x.Values.map cInt)]), (false, [PV.val (vI l)])] (resRV [(false, [PV.val (vI (szR l (wtRow x)))])]) := by
  refine scall_of (rs := [(false, [PV.val (vI (szR l (wtRow x)))])]) Try.func77 rfl (Nat.le_of_ble_eq_true rfl) (borA_cons (BorL.cons (PV.bor_val _) (BorL.cons (PV.bor_sl _) BorL.nil)) (borA_cons (BorL.cons (PV.bor_val _) BorL.nil) borA_nil)) ?_
  intro h0 w0 Fz0
  refine sw_slen (s := 0) (j := 1) rfl rfl fun hl0_1 => ?_
  try rw [List.length_map] at hl0_1
  have hw : (wtRow x : Int) = (wtIntS x.Values : Int) := by simp [wtRow, wtInt]
  refine sw_seq ?_
  refine sw_reg ?_
  refine RunS.step (by exact And.intro rfl True.intro) (by exact True.intro) (LocG.of rfl (loc_box (ag := true) (cs := [PV.val _, PV.sl _ _]) (by decide) (by exact True.intro))) (free1 (Free.of_ rfl)) ?_
  refine RunS.step (by exact True.intro) (by exact True.intro) (LocG.of rfl (loc_const (.inr rfl) (by decide) (ok_sc rfl))) nofree ?_
  refine sw_seq ?_
  refine sw_of (l := [(1, RV.sv false [PV.val _]), (2, RV.ptr 2 0), (4, RV.sv false [PV.val _])]) (b := [(2, (47, [PV.val _, PV.sl _ _]))]) (by exact And.intro rfl (And.intro rfl (And.intro rfl True.intro))) (by exact And.intro rfl True.intro) ?_
  refine sw_reg ?_
  refine RunS.step (by exact And.intro rfl True.intro) (by exact True.intro) (LocG.of rfl (loc_field (by decide) fd_47_1)) nofree ?_
  refine RunS.step (by exact And.intro rfl True.intro) (by exact And.intro rfl True.intro) (LocG.of rfl (loc_load (qs := [PV.sl .v _]) (by decide) ty_23 (fun _ => rfl) (by exact Nat.le_of_ble_eq_true rfl) (by exact (ToL.cons PV.to_none ToL.nil)) (by exact (BorL.cons (PV.bor_sl _) BorL.nil)))) nofree ?_
  refine RunS.step (by exact And.intro rfl True.intro) (by exact True.intro) (LocG.of rfl (loc_copy (.inl rfl) (by decide) (by exact Cp.sc))) nofree ?_
  refine RunS.step (by exact And.intro rfl (And.intro rfl True.intro)) (by exact True.intro) (LocG.of rfl (loc_call (qs := [(false, [PV.sl _ _]), (false, [PV.val _])]) (as_ := [(false, [PV.sl .v _]), (false, [PV.val _])]) (by decide) c_111 (by exact (And.intro (by exact True.intro) (And.intro (by exact True.intro) True.intro))) (by exact (And.intro (And.intro rfl (ToL.cons PV.to_none ToL.nil)) (And.intro (And.intro rfl (ToL.cons (PV.To.refl _) ToL.nil)) True.intro))) (by exact sz_IntS (by omega) (by omega)))) nofree ?_
  refine RunS.step (by exact And.intro rfl True.intro) (by exact True.intro) (LocG.of rfl (loc_copy (.inr rfl) (by decide) (by exact Cp.sc))) nofree ?_
  refine sw_seq ?_
  refine sw_seq ?_
  refine sw_of (l := [(1, RV.sv false [PV.val _]), (2, RV.ptr 2 0), (4, RV.sv false [PV.val _])]) (b := [(2, (47, [PV.val _, PV.sl _ _]))]) (by exact And.intro rfl (And.intro rfl (And.intro rfl True.intro))) (by exact And.intro rfl True.intro) ?_
  refine sw_reg ?_
  refine RunS.step (by exact And.intro rfl True.intro) (by exact True.intro) (LocG.of rfl (loc_copy (.inl rfl) (by decide) (by exact Cp.sc))) nofree ?_
  refine RunS.step (by exact And.intro rfl True.intro) (by exact True.intro) (LocG.of rfl (loc_lss (by decide) (by exact True.intro) (ok_sc rfl))) nofree ?_
  refine sw_cond (t := 10) rfl (fun hb1 => ?_) (fun hb1 => ?_)
  · try simp only [decide_eq_true_eq, decide_eq_false_iff_not, bne_iff_ne, beq_iff_eq, Bool.not_eq_true', Bool.not_eq_false', ne_eq, bne_eq_false_iff_eq, beq_eq_false_iff_ne] at hb1
    have hn0 := szR_neg (w := wtIntS x.Values) (l := l) (by omega) hb1
    refine sw_seq ?_
    refine sw_of (l := [(1, RV.sv false [PV.val _]), (2, RV.ptr 2 0), (4, RV.sv false [PV.val _])]) (b := [(2, (47, [PV.val _, PV.sl _ _]))]) (by exact And.intro rfl (And.intro rfl (And.intro rfl True.intro))) (by exact And.intro rfl True.intro) ?_
    refine sw_reg ?_
    refine RunS.step (by exact True.intro) (by exact True.intro) (LocG.of rfl (loc_const (.inr rfl) (by decide) (ok_sc rfl))) nofree ?_
    refine sw_ret ?_
    exact (And.intro (by refine int_eq ?_; exact (szR_no (by omega)).symm) True.intro)
  · try simp only [decide_eq_true_eq, decide_eq_false_iff_not, bne_iff_ne, beq_iff_eq, Bool.not_eq_true', Bool.not_eq_false', ne_eq, bne_eq_false_iff_eq, beq_eq_false_iff_ne] at hb1
    have hp0 := szR_pos (w := wtIntS x.Values) (l := l) hb1
    have he0 := szR_yes hp0
    refine sw_skip ?_
    refine sw_seq ?_
    refine sw_of (l := [(1, RV.sv false [PV.val _]), (2, RV.ptr 2 0), (4, RV.sv false [PV.val _])]) (b := [(2, (47, [PV.val _, PV.sl _ _]))]) (by exact And.intro rfl (And.intro rfl (And.intro rfl True.intro))) (by exact And.intro rfl True.intro) ?_
    refine sw_reg ?_
    refine RunS.step (by exact And.intro rfl True.intro) (by exact True.intro) (LocG.of rfl (loc_copy (.inl rfl) (by decide) (by exact Cp.sc))) nofree ?_
    refine RunS.step (by exact And.intro rfl True.intro) (by exact True.intro) (LocG.of rfl (loc_copy (.inr rfl) (by decide) (by exact Cp.sc))) nofree ?_
    refine sw_ret ?_
    exact (And.intro (by refine int_eq ?_; (have hz := szR_yes (l := l) (n := (wtRow x : Int)) (by omega); omega)) True.intro)
theorem wt0_CondS (x : List Cond) : (wtCondS x : Int) = x.length := by
  have h : ∀ l : List Cond, (l.map wtCond).sum = 0 := by
    intro l
    induction l with
    | nil => rfl
    | cons a l ih => rw [List.map_cons, List.sum_cons, ih]; rfl
  simp [wtCondS, h]
theorem sz_CondS {x : List Cond} {l : Int}  (h0l : 0 ≤ l) (h1l : l ≤ 1048576) : SCall Try.prog 131 [(false, [PV.sl .v (x.map cCond)]), (false, [PV.val (vI l)])] (resRV [(false, [PV.val (vI (szR l (wtCondS x)))])]) := by
  refine scall_of (rs := [(false, [PV.val (vI (szR l (wtCondS x)))])]) Try.func131 rfl (Nat.le_of_ble_eq_true rfl) (borA_cons (BorL.cons (PV.bor_sl _) BorL.nil) (borA_cons (BorL.cons (PV.bor_val _) BorL.nil) borA_nil)) ?_
  intro h0 w0 Fz0
  refine sw_len (s := 0) rfl fun hl0 => ?_
  try rw [List.length_map] at hl0
  refine sw_seq ?_
  refine sw_reg ?_
  refine RunS.step (by exact True.intro) (by exact True.intro) (LocG.of rfl (loc_const (.inr rfl) (by decide) (ok_sc rfl))) nofree ?_
  refine sw_seq ?_
  refine sw_of (l := [(0, RV.sv false [PV.sl _ _]), (1, RV.sv false [PV.val _]), (4, RV.sv false [PV.val _])]) (b := []) (by exact And.intro rfl (And.intro rfl (And.intro rfl True.intro))) (by exact True.intro) ?_
  refine sw_reg ?_
  refine RunS.step (by exact And.intro rfl True.intro) (by exact True.intro) (LocG.of rfl (loc_copy (.inl rfl) (by decide) (by exact Cp.sc))) nofree ?_
  refine RunS.step (by exact And.intro rfl True.intro) (by exact True.intro) (LocG.of rfl (loc_copy (r' := RV.sv false [PV.sl .v _]) (.inl rfl) (by decide) (by exact Cp.sv (ToL.cons PV.to_none ToL.nil) (BorL.cons (PV.bor_sl _) BorL.nil)))) nofree ?_
  refine RunS.step (by exact And.intro rfl True.intro) (by exact True.intro) (LocG.of rfl (loc_len (by decide) sl_43 (by first | exact List.length_map _ | exact rfl))) nofree ?_
  refine RunS.step (by exact And.intro rfl (And.intro rfl True.intro)) (by exact True.intro) (LocG.of rfl (loc_sub (by decide) (by exact True.intro) (by exact True.intro) (by unfold I64; omega))) nofree ?_
  refine RunS.step (by exact And.intro rfl True.intro) (by exact True.intro) (LocG.of rfl (loc_copy (.inr rfl) (by decide) (by exact Cp.sc))) nofree ?_
  refine sw_seq ?_
  refine sw_seq ?_
  refine sw_of (l := [(0, RV.sv false [PV.sl _ _]), (1, RV.sv false [PV.val _]), (4, RV.sv false [PV.val _])]) (b := []) (by exact And.intro rfl (And.intro rfl (And.intro rfl True.intro))) (by exact True.intro) ?_
  refine sw_reg ?_
  refine RunS.step (by exact And.intro rfl True.intro) (by exact True.intro) (LocG.of rfl (loc_copy (.inl rfl) (by decide) (by exact Cp.sc))) nofree ?_
  refine RunS.step (by exact And.intro rfl True.intro) (by exact True.intro) (LocG.of rfl (loc_lss (by decide) (by exact True.intro) (ok_sc rfl))) nofree ?_
  refine sw_cond (t := 10) rfl (fun hb1 => ?_) (fun hb1 => ?_)
  · try simp only [decide_eq_true_eq, decide_eq_false_iff_not, bne_iff_ne, beq_iff_eq, Bool.not_eq_true', Bool.not_eq_false', ne_eq, bne_eq_false_iff_eq, beq_eq_false_iff_ne] at hb1
    refine sw_seq ?_
    refine sw_of (l := [(0, RV.sv false [PV.sl _ _]), (1, RV.sv false [PV.val _]), (4, RV.sv false [PV.val _])]) (b := []) (by exact And.intro rfl (And.intro rfl (And.intro rfl True.intro))) (by exact True.intro) ?_
    refine sw_reg ?_
    refine RunS.step (by exact True.intro) (by exact True.intro) (LocG.of rfl (loc_const (.inr rfl) (by decide) (ok_sc rfl))) nofree ?_
    refine sw_ret ?_
    exact (And.intro (by refine int_eq ?_; exact (szR_no (by have := wt0_CondS x; omega)).symm) True.intro)
  · try simp only [decide_eq_true_eq, decide_eq_false_iff_not, bne_iff_ne, beq_iff_eq, Bool.not_eq_true', Bool.not_eq_false', ne_eq, bne_eq_false_iff_eq, beq_eq_false_iff_ne] at hb1
    refine sw_skip ?_
    refine sw_seq ?_
    refine sw_of (l := [(0, RV.sv false [PV.sl _ _]), (1, RV.sv false [PV.val _]), (4, RV.sv false [PV.val _])]) (b := []) (by exact And.intro rfl (And.intro rfl (And.intro rfl True.intro))) (by exact True.intro) ?_
    refine sw_reg ?_
    refine RunS.step (by exact And.intro rfl True.intro) (by exact True.intro) (LocG.of rfl (loc_copy (.inl rfl) (by decide) (by exact Cp.sc))) nofree ?_
    refine RunS.step (by exact And.intro rfl True.intro) (by exact True.intro) (LocG.of rfl (loc_copy (.inr rfl) (by decide) (by exact Cp.sc))) nofree ?_
    refine sw_ret ?_
    exact (And.intro (by refine int_eq ?_; exact (by have := wt0_CondS x; rw [szR_yes (by omega), this])) True.intro)
theorem sz_Query {x : Query} {l : Int}  (h0l : 0 ≤ l) (h1l : l ≤ 1048576) : SCall Try.prog 63 [(true, [PV.val (vI x.Id), PV.val (vI x.Tenant), PV.sl .v (x.Conds.map cCond), PV.sl .v (x.Out.map cInt)]), (false, [PV.val (vI l)])] (resRV [(false, [PV.val (vI (szR l (wtQuery x)))])]) := by
  refine scall_of (rs := [(false, [PV.val (vI (szR l (wtQuery x)))])]) Try.func63 rfl (Nat.le_of_ble_eq_true rfl) (borA_cons (BorL.cons (PV.bor_val _) (BorL.cons (PV.bor_val _) (BorL.cons (PV.bor_sl _) (BorL.cons (PV.bor_sl _) BorL.nil)))) (borA_cons (BorL.cons (PV.bor_val _) BorL.nil) borA_nil)) ?_
  intro h0 w0 Fz0
  refine sw_slen (s := 0) (j := 2) rfl rfl fun hl0_2 => ?_
  try rw [List.length_map] at hl0_2
  refine sw_slen (s := 0) (j := 3) rfl rfl fun hl0_3 => ?_
  try rw [List.length_map] at hl0_3
  have hw : (wtQuery x : Int) = (wtCondS x.Conds : Int) + (wtIntS x.Out : Int) := by simp [wtQuery, wtInt]
  refine sw_seq ?_
  refine sw_reg ?_
  refine RunS.step (by exact And.intro rfl True.intro) (by exact True.intro) (LocG.of rfl (loc_box (ag := true) (cs := [PV.val _, PV.val _, PV.sl _ _, PV.sl _ _]) (by decide) (by exact True.intro))) (free1 (Free.of_ rfl)) ?_
  refine RunS.step (by exact True.intro) (by exact True.intro) (LocG.of rfl (loc_const (.inr rfl) (by decide) (ok_sc rfl))) nofree ?_
  refine sw_seq ?_
  refine sw_of (l := [(1, RV.sv false [PV.val _]), (2, RV.ptr 2 0), (4, RV.sv false [PV.val _])]) (b := [(2, (45, [PV.val _, PV.val _, PV.sl _ _, PV.sl _ _]))]) (by exact And.intro rfl (And.intro rfl (And.intro rfl True.intro))) (by exact And.intro rfl True.intro) ?_
  refine sw_reg ?_
  refine RunS.step (by exact And.intro rfl True.intro) (by exact True.intro) (LocG.of rfl (loc_field (by decide) fd_45_2)) nofree ?_
  refine RunS.step (by exact And.intro rfl True.intro) (by exact And.intro rfl True.intro) (LocG.of rfl (loc_load (qs := [PV.sl .v _]) (by decide) ty_43 (fun _ => rfl) (by exact Nat.le_of_ble_eq_true rfl) (by exact (ToL.cons PV.to_none ToL.nil)) (by exact (BorL.cons (PV.bor_sl _) BorL.nil)))) nofree ?_
  refine RunS.step (by exact And.intro rfl True.intro) (by exact True.intro) (LocG.of rfl (loc_copy (.inl rfl) (by decide) (by exact Cp.sc))) nofree ?_
  refine RunS.step (by exact And.intro rfl (And.intro rfl True.intro)) (by exact True.intro) (LocG.of rfl (loc_call (qs := [(false, [PV.sl _ _]), (false, [PV.val _])]) (as_ := [(false, [PV.sl .v _]), (false, [PV.val _])]) (by decide) c_131 (by exact (And.intro (by exact True.intro) (And.intro (by exact True.intro) True.intro))) (by exact (And.intro (And.intro rfl (ToL.cons PV.to_none ToL.nil)) (And.intro (And.intro rfl (ToL.cons (PV.To.refl _) ToL.nil)) True.intro))) (by exact sz_CondS (by omega) (by omega)))) nofree ?_
  refine RunS.step (by exact And.intro rfl True.intro) (by exact True.intro) (LocG.of rfl (loc_copy (.inr rfl) (by decide) (by exact Cp.sc))) nofree ?_
  refine sw_seq ?_
  refine sw_seq ?_
  refine sw_of (l := [(1, RV.sv false [PV.val _]), (2, RV.ptr 2 0), (4, RV.sv false [PV.val _])]) (b := [(2, (45, [PV.val _, PV.val _, PV.sl _ _, PV.sl _ _]))]) (by exact And.intro rfl (And.intro rfl (And.intro rfl True.intro))) (by exact And.intro rfl True.intro) ?_
  refine sw_reg ?_
  refine RunS.step (by exact And.intro rfl True.intro) (by exact True.intro) (LocG.of rfl (loc_copy (.inl rfl) (by decide) (by exact Cp.sc))) nofree ?_
  refine RunS.step (by exact And.intro rfl True.intro) (by exact True.intro) (LocG.of rfl (loc_lss (by decide) (by exact True.intro) (ok_sc rfl))) nofree ?_
  refine sw_cond (t := 10) rfl (fun hb1 => ?_) (fun hb1 => ?_)
  · try simp only [decide_eq_true_eq, decide_eq_false_iff_not, bne_iff_ne, beq_iff_eq, Bool.not_eq_true', Bool.not_eq_false', ne_eq, bne_eq_false_iff_eq, beq_eq_false_iff_ne] at hb1
    have hn0 := szR_neg (w := wtCondS x.Conds) (l := l) (by omega) hb1
    refine sw_seq ?_
    refine sw_of (l := [(1, RV.sv false [PV.val _]), (2, RV.ptr 2 0), (4, RV.sv false [PV.val _])]) (b := [(2, (45, [PV.val _, PV.val _, PV.sl _ _, PV.sl _ _]))]) (by exact And.intro rfl (And.intro rfl (And.intro rfl True.intro))) (by exact And.intro rfl True.intro) ?_
    refine sw_reg ?_
    refine RunS.step (by exact True.intro) (by exact True.intro) (LocG.of rfl (loc_const (.inr rfl) (by decide) (ok_sc rfl))) nofree ?_
    refine sw_ret ?_
    exact (And.intro (by refine int_eq ?_; exact (szR_no (by omega)).symm) True.intro)
  · try simp only [decide_eq_true_eq, decide_eq_false_iff_not, bne_iff_ne, beq_iff_eq, Bool.not_eq_true', Bool.not_eq_false', ne_eq, bne_eq_false_iff_eq, beq_eq_false_iff_ne] at hb1
    have hp0 := szR_pos (w := wtCondS x.Conds) (l := l) hb1
    have he0 := szR_yes hp0
    refine sw_skip ?_
    refine sw_seq ?_
    refine sw_of (l := [(1, RV.sv false [PV.val _]), (2, RV.ptr 2 0), (4, RV.sv false [PV.val _])]) (b := [(2, (45, [PV.val _, PV.val _, PV.sl _ _, PV.sl _ _]))]) (by exact And.intro rfl (And.intro rfl (And.intro rfl True.intro))) (by exact And.intro rfl True.intro) ?_
    refine sw_reg ?_
    refine RunS.step (by exact And.intro rfl True.intro) (by exact True.intro) (LocG.of rfl (loc_field (by decide) fd_45_3)) nofree ?_
    refine RunS.step (by exact And.intro rfl True.intro) (by exact And.intro rfl True.intro) (LocG.of rfl (loc_load (qs := [PV.sl .v _]) (by decide) ty_23 (fun _ => rfl) (by exact Nat.le_of_ble_eq_true rfl) (by exact (ToL.cons PV.to_none ToL.nil)) (by exact (BorL.cons (PV.bor_sl _) BorL.nil)))) nofree ?_
    refine RunS.step (by exact And.intro rfl True.intro) (by exact True.intro) (LocG.of rfl (loc_copy (.inl rfl) (by decide) (by exact Cp.sc))) nofree ?_
    refine RunS.step (by exact And.intro rfl (And.intro rfl True.intro)) (by exact True.intro) (LocG.of rfl (loc_call (qs := [(false, [PV.sl _ _]), (false, [PV.val _])]) (as_ := [(false, [PV.sl .v _]), (false, [PV.val _])]) (by decide) c_111 (by exact (And.intro (by exact True.intro) (And.intro (by exact True.intro) True.intro))) (by exact (And.intro (And.intro rfl (ToL.cons PV.to_none ToL.nil)) (And.intro (And.intro rfl (ToL.cons (PV.To.refl _) ToL.nil)) True.intro))) (by exact sz_IntS (by omega) (by omega)))) nofree ?_
    refine RunS.step (by exact And.intro rfl True.intro) (by exact True.intro) (LocG.of rfl (loc_copy (.inr rfl) (by decide) (by exact Cp.sc))) nofree ?_
    refine sw_seq ?_
    refine sw_seq ?_
    refine sw_of (l := [(1, RV.sv false [PV.val _]), (2, RV.ptr 2 0), (4, RV.sv false [PV.val _])]) (b := [(2, (45, [PV.val _, PV.val _, PV.sl _ _, PV.sl _ _]))]) (by exact And.intro rfl (And.intro rfl (And.intro rfl True.intro))) (by exact And.intro rfl True.intro) ?_
    refine sw_reg ?_
    refine RunS.step (by exact And.intro rfl True.intro) (by exact True.intro) (LocG.of rfl (loc_copy (.inl rfl) (by decide) (by exact Cp.sc))) nofree ?_
    refine RunS.step (by exact And.intro rfl True.intro) (by exact True.intro) (LocG.of rfl (loc_lss (by decide) (by exact True.intro) (ok_sc rfl))) nofree ?_
    refine sw_cond (t := 16) rfl (fun hb2 => ?_) (fun hb2 => ?_)
    · try simp only [decide_eq_true_eq, decide_eq_false_iff_not, bne_iff_ne, beq_iff_eq, Bool.not_eq_true', Bool.not_eq_false', ne_eq, bne_eq_false_iff_eq, beq_eq_false_iff_ne] at hb2
      have hn1 := szR_neg (w := wtIntS x.Out) (l := (szR l (wtCondS x.Conds))) (by omega) hb2
      refine sw_seq ?_
      refine sw_of (l := [(1, RV.sv false [PV.val _]), (2, RV.ptr 2 0), (4, RV.sv false [PV.val _])]) (b := [(2, (45, [PV.val _, PV.val _, PV.sl _ _, PV.sl _ _]))]) (by exact And.intro rfl (And.intro rfl (And.intro rfl True.intro))) (by exact And.intro rfl True.intro) ?_
      refine sw_reg ?_
      refine RunS.step (by exact True.intro) (by exact True.intro) (LocG.of rfl (loc_const (.inr rfl) (by decide) (ok_sc rfl))) nofree ?_
      refine sw_ret ?_
      exact (And.intro (by refine int_eq ?_; exact (szR_no (by omega)).symm) True.intro)
    · try simp only [decide_eq_true_eq, decide_eq_false_iff_not, bne_iff_ne, beq_iff_eq, Bool.not_eq_true', Bool.not_eq_false', ne_eq, bne_eq_false_iff_eq, beq_eq_false_iff_ne] at hb2
      have hp1 := szR_pos (w := wtIntS x.Out) (l := (szR l (wtCondS x.Conds))) hb2
      have he1 := szR_yes hp1
      refine sw_skip ?_
      refine sw_seq ?_
      refine sw_of (l := [(1, RV.sv false [PV.val _]), (2, RV.ptr 2 0), (4, RV.sv false [PV.val _])]) (b := [(2, (45, [PV.val _, PV.val _, PV.sl _ _, PV.sl _ _]))]) (by exact And.intro rfl (And.intro rfl (And.intro rfl True.intro))) (by exact And.intro rfl True.intro) ?_
      refine sw_reg ?_
      refine RunS.step (by exact And.intro rfl True.intro) (by exact True.intro) (LocG.of rfl (loc_copy (.inl rfl) (by decide) (by exact Cp.sc))) nofree ?_
      refine RunS.step (by exact And.intro rfl True.intro) (by exact True.intro) (LocG.of rfl (loc_copy (.inr rfl) (by decide) (by exact Cp.sc))) nofree ?_
      refine sw_ret ?_
      exact (And.intro (by refine int_eq ?_; (have hz := szR_yes (l := l) (n := (wtQuery x : Int)) (by omega); omega)) True.intro)
theorem sz_Update {x : Update} {l : Int}  (h0l : 0 ≤ l) (h1l : l ≤ 1048576) : SCall Try.prog 84 [(true, [PV.val (vI x.Kind), PV.val (vI x.Row.Id), PV.sl .v (x.Row.Values.map cInt), PV.val (vI x.Field), PV.val (vI x.Value)]), (false, [PV.val (vI l)])] (resRV [(false, [PV.val (vI (szR l (wtUpdate x)))])]) := by
  refine scall_of (rs := [(false, [PV.val (vI (szR l (wtUpdate x)))])]) Try.func84 rfl (Nat.le_of_ble_eq_true rfl) (borA_cons (BorL.cons (PV.bor_val _) (BorL.cons (PV.bor_val _) (BorL.cons (PV.bor_sl _) (BorL.cons (PV.bor_val _) (BorL.cons (PV.bor_val _) BorL.nil))))) (borA_cons (BorL.cons (PV.bor_val _) BorL.nil) borA_nil)) ?_
  intro h0 w0 Fz0
  refine sw_slen (s := 0) (j := 2) rfl rfl fun hl0_2 => ?_
  try rw [List.length_map] at hl0_2
  have hw : (wtUpdate x : Int) = (wtRow x.Row : Int) := by simp [wtUpdate, wtInt]
  refine sw_seq ?_
  refine sw_reg ?_
  refine RunS.step (by exact And.intro rfl True.intro) (by exact True.intro) (LocG.of rfl (loc_box (ag := true) (cs := [PV.val _, PV.val _, PV.sl _ _, PV.val _, PV.val _]) (by decide) (by exact True.intro))) (free1 (Free.of_ rfl)) ?_
  refine RunS.step (by exact True.intro) (by exact True.intro) (LocG.of rfl (loc_const (.inr rfl) (by decide) (ok_sc rfl))) nofree ?_
  refine sw_seq ?_
  refine sw_of (l := [(1, RV.sv false [PV.val _]), (2, RV.ptr 2 0), (4, RV.sv false [PV.val _])]) (b := [(2, (49, [PV.val _, PV.val _, PV.sl _ _, PV.val _, PV.val _]))]) (by exact And.intro rfl (And.intro rfl (And.intro rfl True.intro))) (by exact And.intro rfl True.intro) ?_
  refine sw_reg ?_
  refine RunS.step (by exact And.intro rfl True.intro) (by exact True.intro) (LocG.of rfl (loc_field (by decide) fd_49_1)) nofree ?_
  refine RunS.step (by exact And.intro rfl True.intro) (by exact And.intro rfl True.intro) (LocG.of rfl (loc_load (qs := [PV.val _, PV.sl .v _]) (by decide) ty_47 (fun h => nomatch h) (by exact Nat.le_of_ble_eq_true rfl) (by exact (ToL.cons (PV.To.refl _) (ToL.cons PV.to_none ToL.nil))) (by exact (BorL.cons (PV.bor_val _) (BorL.cons (PV.bor_sl _) BorL.nil))))) nofree ?_
  refine RunS.step (by exact And.intro rfl True.intro) (by exact True.intro) (LocG.of rfl (loc_copy (.inl rfl) (by decide) (by exact Cp.sc))) nofree ?_
  refine RunS.step (by exact And.intro rfl (And.intro rfl True.intro)) (by exact True.intro) (LocG.of rfl (loc_call (qs := [(true, [PV.val _, PV.sl _ _]), (false, [PV.val _])]) (as_ := [(true, [PV.val _, PV.sl .v _]), (false, [PV.val _])]) (by decide) c_77 (by exact (And.intro (by exact True.intro) (And.intro (by exact True.intro) True.intro))) (by exact (And.intro (And.intro rfl (ToL.cons (PV.To.refl _) (ToL.cons PV.to_none ToL.nil))) (And.intro (And.intro rfl (ToL.cons (PV.To.refl _) ToL.nil)) True.intro))) (by exact sz_Row (by omega) (by omega)))) nofree ?_
  refine RunS.step (by exact And.intro rfl True.intro) (by exact True.intro) (LocG.of rfl (loc_copy (.inr rfl) (by decide) (by exact Cp.sc))) nofree ?_
  refine sw_seq ?_
  refine sw_seq ?_
  refine sw_of (l := [(1, RV.sv false [PV.val _]), (2, RV.ptr 2 0), (4, RV.sv false [PV.val _])]) (b := [(2, (49, [PV.val _, PV.val _, PV.sl _ _, PV.val _, PV.val _]))]) (by exact And.intro rfl (And.intro rfl (And.intro rfl True.intro))) (by exact And.intro rfl True.intro) ?_
  refine sw_reg ?_
  refine RunS.step (by exact And.intro rfl True.intro) (by exact True.intro) (LocG.of rfl (loc_copy (.inl rfl) (by decide) (by exact Cp.sc))) nofree ?_
  refine RunS.step (by exact And.intro rfl True.intro) (by exact True.intro) (LocG.of rfl (loc_lss (by decide) (by exact True.intro) (ok_sc rfl))) nofree ?_
  refine sw_cond (t := 10) rfl (fun hb1 => ?_) (fun hb1 => ?_)
  · try simp only [decide_eq_true_eq, decide_eq_false_iff_not, bne_iff_ne, beq_iff_eq, Bool.not_eq_true', Bool.not_eq_false', ne_eq, bne_eq_false_iff_eq, beq_eq_false_iff_ne] at hb1
    have hn0 := szR_neg (w := wtRow x.Row) (l := l) (by omega) hb1
    refine sw_seq ?_
    refine sw_of (l := [(1, RV.sv false [PV.val _]), (2, RV.ptr 2 0), (4, RV.sv false [PV.val _])]) (b := [(2, (49, [PV.val _, PV.val _, PV.sl _ _, PV.val _, PV.val _]))]) (by exact And.intro rfl (And.intro rfl (And.intro rfl True.intro))) (by exact And.intro rfl True.intro) ?_
    refine sw_reg ?_
    refine RunS.step (by exact True.intro) (by exact True.intro) (LocG.of rfl (loc_const (.inr rfl) (by decide) (ok_sc rfl))) nofree ?_
    refine sw_ret ?_
    exact (And.intro (by refine int_eq ?_; exact (szR_no (by omega)).symm) True.intro)
  · try simp only [decide_eq_true_eq, decide_eq_false_iff_not, bne_iff_ne, beq_iff_eq, Bool.not_eq_true', Bool.not_eq_false', ne_eq, bne_eq_false_iff_eq, beq_eq_false_iff_ne] at hb1
    have hp0 := szR_pos (w := wtRow x.Row) (l := l) hb1
    have he0 := szR_yes hp0
    refine sw_skip ?_
    refine sw_seq ?_
    refine sw_of (l := [(1, RV.sv false [PV.val _]), (2, RV.ptr 2 0), (4, RV.sv false [PV.val _])]) (b := [(2, (49, [PV.val _, PV.val _, PV.sl _ _, PV.val _, PV.val _]))]) (by exact And.intro rfl (And.intro rfl (And.intro rfl True.intro))) (by exact And.intro rfl True.intro) ?_
    refine sw_reg ?_
    refine RunS.step (by exact And.intro rfl True.intro) (by exact True.intro) (LocG.of rfl (loc_copy (.inl rfl) (by decide) (by exact Cp.sc))) nofree ?_
    refine RunS.step (by exact And.intro rfl True.intro) (by exact True.intro) (LocG.of rfl (loc_copy (.inr rfl) (by decide) (by exact Cp.sc))) nofree ?_
    refine sw_ret ?_
    exact (And.intro (by refine int_eq ?_; (have hz := szR_yes (l := l) (n := (wtUpdate x : Int)) (by omega); omega)) True.intro)
theorem sz_Event {x : Event} {l : Int}  (h0l : 0 ≤ l) (h1l : l ≤ 1048576) : SCall Try.prog 27 [(true, [PV.val (vI x.Kind), PV.val (vI x.Query.Id), PV.val (vI x.Query.Tenant), PV.sl .v (x.Query.Conds.map cCond), PV.sl .v (x.Query.Out.map cInt), PV.val (vI x.Limit), PV.val (vI x.Id), PV.val (vI x.Update.Kind), PV.val (vI x.Update.Row.Id), PV.sl .v (x.Update.Row.Values.map cInt), PV.val (vI x.Update.Field), PV.val (vI x.Update.Value), PV.val (vI x.Steps)]), (false, [PV.val (vI l)])] (resRV [(false, [PV.val (vI (szR l (wtEvent x)))])]) := by
  refine scall_of (rs := [(false, [PV.val (vI (szR l (wtEvent x)))])]) Try.func27 rfl (Nat.le_of_ble_eq_true rfl) (borA_cons (BorL.cons (PV.bor_val _) (BorL.cons (PV.bor_val _) (BorL.cons (PV.bor_val _) (BorL.cons (PV.bor_sl _) (BorL.cons (PV.bor_sl _) (BorL.cons (PV.bor_val _) (BorL.cons (PV.bor_val _) (BorL.cons (PV.bor_val _) (BorL.cons (PV.bor_val _) (BorL.cons (PV.bor_sl _) (BorL.cons (PV.bor_val _) (BorL.cons (PV.bor_val _) (BorL.cons (PV.bor_val _) BorL.nil))))))))))))) (borA_cons (BorL.cons (PV.bor_val _) BorL.nil) borA_nil)) ?_
  intro h0 w0 Fz0
  refine sw_slen (s := 0) (j := 3) rfl rfl fun hl0_3 => ?_
  try rw [List.length_map] at hl0_3
  refine sw_slen (s := 0) (j := 4) rfl rfl fun hl0_4 => ?_
  try rw [List.length_map] at hl0_4
  refine sw_slen (s := 0) (j := 9) rfl rfl fun hl0_9 => ?_
  try rw [List.length_map] at hl0_9
  have hw : (wtEvent x : Int) = (wtQuery x.Query : Int) + (wtUpdate x.Update : Int) := by simp [wtEvent, wtInt]
  refine sw_seq ?_
  refine sw_reg ?_
  refine RunS.step (by exact And.intro rfl True.intro) (by exact True.intro) (LocG.of rfl (loc_box (ag := true) (cs := [PV.val _, PV.val _, PV.val _, PV.sl _ _, PV.sl _ _, PV.val _, PV.val _, PV.val _, PV.val _, PV.sl _ _, PV.val _, PV.val _, PV.val _]) (by decide) (by exact True.intro))) (free1 (Free.of_ rfl)) ?_
  refine RunS.step (by exact True.intro) (by exact True.intro) (LocG.of rfl (loc_const (.inr rfl) (by decide) (ok_sc rfl))) nofree ?_
  refine sw_seq ?_
  refine sw_of (l := [(1, RV.sv false [PV.val _]), (2, RV.ptr 2 0), (4, RV.sv false [PV.val _])]) (b := [(2, (51, [PV.val _, PV.val _, PV.val _, PV.sl _ _, PV.sl _ _, PV.val _, PV.val _, PV.val _, PV.val _, PV.sl _ _, PV.val _, PV.val _, PV.val _]))]) (by exact And.intro rfl (And.intro rfl (And.intro rfl True.intro))) (by exact And.intro rfl True.intro) ?_
  refine sw_reg ?_
  refine RunS.step (by exact And.intro rfl True.intro) (by exact True.intro) (LocG.of rfl (loc_field (by decide) fd_51_1)) nofree ?_
  refine RunS.step (by exact And.intro rfl True.intro) (by exact And.intro rfl True.intro) (LocG.of rfl (loc_load (qs := [PV.val _, PV.val _, PV.sl .v _, PV.sl .v _]) (by decide) ty_45 (fun h => nomatch h) (by exact Nat.le_of_ble_eq_true rfl) (by exact (ToL.cons (PV.To.refl _) (ToL.cons (PV.To.refl _) (ToL.cons PV.to_none (ToL.cons PV.to_none ToL.nil))))) (by exact (BorL.cons (PV.bor_val _) (BorL.cons (PV.bor_val _) (BorL.cons (PV.bor_sl _) (BorL.cons (PV.bor_sl _) BorL.nil))))))) nofree ?_
  refine RunS.step (by exact And.intro rfl True.intro) (by exact True.intro) (LocG.of rfl (loc_copy (.inl rfl) (by decide) (by exact Cp.sc))) nofree ?_
  refine RunS.step (by exact And.intro rfl (And.intro rfl True.intro)) (by exact True.intro) (LocG.of rfl (loc_call (qs := [(true, [PV.val _, PV.val _, PV.sl _ _, PV.sl _ _]), (false, [PV.val _])]) (as_ := [(true, [PV.val _, PV.val _, PV.sl .v _, PV.sl .v _]), (false, [PV.val _])]) (by decide) c_63 (by exact (And.intro (by exact True.intro) (And.intro (by exact True.intro) True.intro))) (by exact (And.intro (And.intro rfl (ToL.cons (PV.To.refl _) (ToL.cons (PV.To.refl _) (ToL.cons PV.to_none (ToL.cons PV.to_none ToL.nil))))) (And.intro (And.intro rfl (ToL.cons (PV.To.refl _) ToL.nil)) True.intro))) (by exact sz_Query (by omega) (by omega)))) nofree ?_
  refine RunS.step (by exact And.intro rfl True.intro) (by exact True.intro) (LocG.of rfl (loc_copy (.inr rfl) (by decide) (by exact Cp.sc))) nofree ?_
  refine sw_seq ?_
  refine sw_seq ?_
  refine sw_of (l := [(1, RV.sv false [PV.val _]), (2, RV.ptr 2 0), (4, RV.sv false [PV.val _])]) (b := [(2, (51, [PV.val _, PV.val _, PV.val _, PV.sl _ _, PV.sl _ _, PV.val _, PV.val _, PV.val _, PV.val _, PV.sl _ _, PV.val _, PV.val _, PV.val _]))]) (by exact And.intro rfl (And.intro rfl (And.intro rfl True.intro))) (by exact And.intro rfl True.intro) ?_
  refine sw_reg ?_
  refine RunS.step (by exact And.intro rfl True.intro) (by exact True.intro) (LocG.of rfl (loc_copy (.inl rfl) (by decide) (by exact Cp.sc))) nofree ?_
  refine RunS.step (by exact And.intro rfl True.intro) (by exact True.intro) (LocG.of rfl (loc_lss (by decide) (by exact True.intro) (ok_sc rfl))) nofree ?_
  refine sw_cond (t := 10) rfl (fun hb1 => ?_) (fun hb1 => ?_)
  · try simp only [decide_eq_true_eq, decide_eq_false_iff_not, bne_iff_ne, beq_iff_eq, Bool.not_eq_true', Bool.not_eq_false', ne_eq, bne_eq_false_iff_eq, beq_eq_false_iff_ne] at hb1
    have hn0 := szR_neg (w := wtQuery x.Query) (l := l) (by omega) hb1
    refine sw_seq ?_
    refine sw_of (l := [(1, RV.sv false [PV.val _]), (2, RV.ptr 2 0), (4, RV.sv false [PV.val _])]) (b := [(2, (51, [PV.val _, PV.val _, PV.val _, PV.sl _ _, PV.sl _ _, PV.val _, PV.val _, PV.val _, PV.val _, PV.sl _ _, PV.val _, PV.val _, PV.val _]))]) (by exact And.intro rfl (And.intro rfl (And.intro rfl True.intro))) (by exact And.intro rfl True.intro) ?_
    refine sw_reg ?_
    refine RunS.step (by exact True.intro) (by exact True.intro) (LocG.of rfl (loc_const (.inr rfl) (by decide) (ok_sc rfl))) nofree ?_
    refine sw_ret ?_
    exact (And.intro (by refine int_eq ?_; exact (szR_no (by omega)).symm) True.intro)
  · try simp only [decide_eq_true_eq, decide_eq_false_iff_not, bne_iff_ne, beq_iff_eq, Bool.not_eq_true', Bool.not_eq_false', ne_eq, bne_eq_false_iff_eq, beq_eq_false_iff_ne] at hb1
    have hp0 := szR_pos (w := wtQuery x.Query) (l := l) hb1
    have he0 := szR_yes hp0
    refine sw_skip ?_
    refine sw_seq ?_
    refine sw_of (l := [(1, RV.sv false [PV.val _]), (2, RV.ptr 2 0), (4, RV.sv false [PV.val _])]) (b := [(2, (51, [PV.val _, PV.val _, PV.val _, PV.sl _ _, PV.sl _ _, PV.val _, PV.val _, PV.val _, PV.val _, PV.sl _ _, PV.val _, PV.val _, PV.val _]))]) (by exact And.intro rfl (And.intro rfl (And.intro rfl True.intro))) (by exact And.intro rfl True.intro) ?_
    refine sw_reg ?_
    refine RunS.step (by exact And.intro rfl True.intro) (by exact True.intro) (LocG.of rfl (loc_field (by decide) fd_51_4)) nofree ?_
    refine RunS.step (by exact And.intro rfl True.intro) (by exact And.intro rfl True.intro) (LocG.of rfl (loc_load (qs := [PV.val _, PV.val _, PV.sl .v _, PV.val _, PV.val _]) (by decide) ty_49 (fun h => nomatch h) (by exact Nat.le_of_ble_eq_true rfl) (by exact (ToL.cons (PV.To.refl _) (ToL.cons (PV.To.refl _) (ToL.cons PV.to_none (ToL.cons (PV.To.refl _) (ToL.cons (PV.To.refl _) ToL.nil)))))) (by exact (BorL.cons (PV.bor_val _) (BorL.cons (PV.bor_val _) (BorL.cons (PV.bor_sl _) (BorL.cons (PV.bor_val _) (BorL.cons (PV.bor_val _) BorL.nil)))))))) nofree ?_
    refine RunS.step (by exact And.intro rfl True.intro) (by exact True.intro) (LocG.of rfl (loc_copy (.inl rfl) (by decide) (by exact Cp.sc))) nofree ?_
    refine RunS.step (by exact And.intro rfl (And.intro rfl True.intro)) (by exact True.intro) (LocG.of rfl (loc_call (qs := [(true, [PV.val _, PV.val _, PV.sl _ _, PV.val _, PV.val _]), (false, [PV.val _])]) (as_ := [(true, [PV.val _, PV.val _, PV.sl .v _, PV.val _, PV.val _]), (false, [PV.val _])]) (by decide) c_84 (by exact (And.intro (by exact True.intro) (And.intro (by exact True.intro) True.intro))) (by exact (And.intro (And.intro rfl (ToL.cons (PV.To.refl _) (ToL.cons (PV.To.refl _) (ToL.cons PV.to_none (ToL.cons (PV.To.refl _) (ToL.cons (PV.To.refl _) ToL.nil)))))) (And.intro (And.intro rfl (ToL.cons (PV.To.refl _) ToL.nil)) True.intro))) (by exact sz_Update (by omega) (by omega)))) nofree ?_
    refine RunS.step (by exact And.intro rfl True.intro) (by exact True.intro) (LocG.of rfl (loc_copy (.inr rfl) (by decide) (by exact Cp.sc))) nofree ?_
    refine sw_seq ?_
    refine sw_seq ?_
    refine sw_of (l := [(1, RV.sv false [PV.val _]), (2, RV.ptr 2 0), (4, RV.sv false [PV.val _])]) (b := [(2, (51, [PV.val _, PV.val _, PV.val _, PV.sl _ _, PV.sl _ _, PV.val _, PV.val _, PV.val _, PV.val _, PV.sl _ _, PV.val _, PV.val _, PV.val _]))]) (by exact And.intro rfl (And.intro rfl (And.intro rfl True.intro))) (by exact And.intro rfl True.intro) ?_
    refine sw_reg ?_
    refine RunS.step (by exact And.intro rfl True.intro) (by exact True.intro) (LocG.of rfl (loc_copy (.inl rfl) (by decide) (by exact Cp.sc))) nofree ?_
    refine RunS.step (by exact And.intro rfl True.intro) (by exact True.intro) (LocG.of rfl (loc_lss (by decide) (by exact True.intro) (ok_sc rfl))) nofree ?_
    refine sw_cond (t := 16) rfl (fun hb2 => ?_) (fun hb2 => ?_)
    · try simp only [decide_eq_true_eq, decide_eq_false_iff_not, bne_iff_ne, beq_iff_eq, Bool.not_eq_true', Bool.not_eq_false', ne_eq, bne_eq_false_iff_eq, beq_eq_false_iff_ne] at hb2
      have hn1 := szR_neg (w := wtUpdate x.Update) (l := (szR l (wtQuery x.Query))) (by omega) hb2
      refine sw_seq ?_
      refine sw_of (l := [(1, RV.sv false [PV.val _]), (2, RV.ptr 2 0), (4, RV.sv false [PV.val _])]) (b := [(2, (51, [PV.val _, PV.val _, PV.val _, PV.sl _ _, PV.sl _ _, PV.val _, PV.val _, PV.val _, PV.val _, PV.sl _ _, PV.val _, PV.val _, PV.val _]))]) (by exact And.intro rfl (And.intro rfl (And.intro rfl True.intro))) (by exact And.intro rfl True.intro) ?_
      refine sw_reg ?_
      refine RunS.step (by exact True.intro) (by exact True.intro) (LocG.of rfl (loc_const (.inr rfl) (by decide) (ok_sc rfl))) nofree ?_
      refine sw_ret ?_
      exact (And.intro (by refine int_eq ?_; exact (szR_no (by omega)).symm) True.intro)
    · try simp only [decide_eq_true_eq, decide_eq_false_iff_not, bne_iff_ne, beq_iff_eq, Bool.not_eq_true', Bool.not_eq_false', ne_eq, bne_eq_false_iff_eq, beq_eq_false_iff_ne] at hb2
      have hp1 := szR_pos (w := wtUpdate x.Update) (l := (szR l (wtQuery x.Query))) hb2
      have he1 := szR_yes hp1
      refine sw_skip ?_
      refine sw_seq ?_
      refine sw_of (l := [(1, RV.sv false [PV.val _]), (2, RV.ptr 2 0), (4, RV.sv false [PV.val _])]) (b := [(2, (51, [PV.val _, PV.val _, PV.val _, PV.sl _ _, PV.sl _ _, PV.val _, PV.val _, PV.val _, PV.val _, PV.sl _ _, PV.val _, PV.val _, PV.val _]))]) (by exact And.intro rfl (And.intro rfl (And.intro rfl True.intro))) (by exact And.intro rfl True.intro) ?_
      refine sw_reg ?_
      refine RunS.step (by exact And.intro rfl True.intro) (by exact True.intro) (LocG.of rfl (loc_copy (.inl rfl) (by decide) (by exact Cp.sc))) nofree ?_
      refine RunS.step (by exact And.intro rfl True.intro) (by exact True.intro) (LocG.of rfl (loc_copy (.inr rfl) (by decide) (by exact Cp.sc))) nofree ?_
      refine sw_ret ?_
      exact (And.intro (by refine int_eq ?_; (have hz := szR_yes (l := l) (n := (wtEvent x : Int)) (by omega); omega)) True.intro)
end Go.Proofs.Ytcfbekjiiokcbaa
