/- What functions of the program compute. No condition. -/
import Derived.Test.YtcfbekjiiokcbaaCDb
set_option linter.unusedVariables false
set_option linter.unusedSimpArgs false
namespace Go.Proofs.Ytcfbekjiiokcbaa
open Go Go.RowKit M
set_option maxRecDepth 10000
theorem impl_within {n : Int} {l : Int} {h : Int}  : SCall Try.prog 94 [(false, [PV.val (vI n)]), (false, [PV.val (vI l)]), (false, [PV.val (vI h)])] (resRV [(false, [PV.val (.bool (inB n l h))])]) := by
  refine scall_of (rs := [(false, [PV.val (.bool (inB n l h))])]) Try.func94 rfl (Nat.le_of_ble_eq_true rfl) (borA_cons (BorL.cons (PV.bor_val _) BorL.nil) (borA_cons (BorL.cons (PV.bor_val _) BorL.nil) (borA_cons (BorL.cons (PV.bor_val _) BorL.nil) borA_nil))) ?_
  intro h0 w0 Fz0
  refine sw_seq ?_
  refine sw_reg ?_
  refine RunS.step (by exact True.intro) (by exact True.intro) (LocG.of rfl (loc_const (.inr rfl) (by decide) (ok_sc rfl))) nofree ?_
  refine sw_seq ?_
  refine sw_of (l := [(0, RV.sv false [PV.val _]), (1, RV.sv false [PV.val _]), (2, RV.sv false [PV.val _]), (6, RV.sv false [PV.val _])]) (b := []) (by exact And.intro rfl (And.intro rfl (And.intro rfl (And.intro rfl True.intro)))) (by exact True.intro) ?_
  refine sw_reg ?_
  refine RunS.step (by exact And.intro rfl True.intro) (by exact True.intro) (LocG.of rfl (loc_copy (.inl rfl) (by decide) (by exact Cp.sc))) nofree ?_
  refine RunS.step (by exact And.intro rfl True.intro) (by exact True.intro) (LocG.of rfl (loc_copy (.inl rfl) (by decide) (by exact Cp.sc))) nofree ?_
  refine RunS.step (by exact And.intro rfl (And.intro rfl True.intro)) (by exact True.intro) (LocG.of rfl (loc_geq (by decide) (by exact True.intro) (by exact True.intro))) nofree ?_
  refine RunS.step (by exact And.intro rfl True.intro) (by exact True.intro) (LocG.of rfl (loc_copy (.inl rfl) (by decide) (by exact Cp.sc))) nofree ?_
  refine RunS.cases (s := 10) rfl (fun g1 => ?_) (fun g1 => ?_)
  · refine RunS.step (by exact And.intro rfl (And.intro rfl True.intro)) (by exact True.intro) (LocG.yes rfl rfl (by decide) g1 (loc_copy (.inl rfl) (by decide) (by exact Cp.sc))) nofree ?_
    refine RunS.step (by exact And.intro rfl (And.intro rfl True.intro)) (by exact True.intro) (LocG.yes rfl rfl (by decide) g1 (loc_copy (.inl rfl) (by decide) (by exact Cp.sc))) nofree ?_
    refine RunS.step (by exact And.intro rfl (And.intro rfl (And.intro rfl True.intro))) (by exact True.intro) (LocG.yes rfl rfl (by decide) g1 (loc_leq (by decide) (by exact True.intro) (by exact True.intro))) nofree ?_
    refine RunS.step (by exact And.intro rfl (And.intro rfl True.intro)) (by exact True.intro) (LocG.of rfl (loc_pick (z := .tmp 13) (by decide) (by rw [g1]; rfl) (by exact True.intro) (by exact True.intro) (by exact Cp.sc))) nofree ?_
    refine RunS.step (by exact And.intro rfl True.intro) (by exact True.intro) (LocG.of rfl (loc_copy (.inr rfl) (by decide) (by exact Cp.sc))) nofree ?_
    refine sw_ret ?_
    exact (And.intro (by refine bool_eq ?_; simp [inB, *]) True.intro)
  · refine RunS.step (by exact And.intro rfl True.intro) (by exact True.intro) (LocG.no (ops := _) rfl rfl (by decide) g1 rfl) nofree ?_
    refine RunS.step (by exact And.intro rfl True.intro) (by exact True.intro) (LocG.no (ops := _) rfl rfl (by decide) g1 rfl) nofree ?_
    refine RunS.step (by exact And.intro rfl True.intro) (by exact True.intro) (LocG.no (ops := _) rfl rfl (by decide) g1 rfl) nofree ?_
    refine RunS.step (by exact And.intro rfl True.intro) (by exact True.intro) (LocG.of rfl (loc_pick (z := .const (.bool false)) (by decide) (by rw [g1]; rfl) (by exact True.intro) (ok_sc rfl) (by exact Cp.sc))) nofree ?_
    refine RunS.step (by exact And.intro rfl True.intro) (by exact True.intro) (LocG.of rfl (loc_copy (.inr rfl) (by decide) (by exact Cp.sc))) nofree ?_
    refine sw_ret ?_
    exact (And.intro (by refine bool_eq ?_; simp [inB, *]) True.intro)
theorem spec_l1In {n : Int} {l : Int} {h : Int}  : SCall Try.prog 86 [(false, [PV.val (vI n)]), (false, [PV.val (vI l)]), (false, [PV.val (vI h)])] (resRV [(false, [PV.val (.bool (inB n l h))])]) := by
  refine scall_of (rs := [(false, [PV.val (.bool (inB n l h))])]) Try.func86 rfl (Nat.le_of_ble_eq_true rfl) (borA_cons (BorL.cons (PV.bor_val _) BorL.nil) (borA_cons (BorL.cons (PV.bor_val _) BorL.nil) (borA_cons (BorL.cons (PV.bor_val _) BorL.nil) borA_nil))) ?_
  intro h0 w0 Fz0
  refine sw_seq ?_
  refine sw_reg ?_
  refine RunS.step (by exact True.intro) (by exact True.intro) (LocG.of rfl (loc_const (.inr rfl) (by decide) (ok_sc rfl))) nofree ?_
  refine sw_seq ?_
  refine sw_of (l := [(0, RV.sv false [PV.val _]), (1, RV.sv false [PV.val _]), (2, RV.sv false [PV.val _]), (6, RV.sv false [PV.val _])]) (b := []) (by exact And.intro rfl (And.intro rfl (And.intro rfl (And.intro rfl True.intro)))) (by exact True.intro) ?_
  refine sw_reg ?_
  refine RunS.step (by exact And.intro rfl True.intro) (by exact True.intro) (LocG.of rfl (loc_copy (.inl rfl) (by decide) (by exact Cp.sc))) nofree ?_
  refine RunS.step (by exact And.intro rfl True.intro) (by exact True.intro) (LocG.of rfl (loc_copy (.inl rfl) (by decide) (by exact Cp.sc))) nofree ?_
  refine RunS.step (by exact And.intro rfl (And.intro rfl True.intro)) (by exact True.intro) (LocG.of rfl (loc_geq (by decide) (by exact True.intro) (by exact True.intro))) nofree ?_
  refine RunS.step (by exact And.intro rfl True.intro) (by exact True.intro) (LocG.of rfl (loc_copy (.inl rfl) (by decide) (by exact Cp.sc))) nofree ?_
  refine RunS.cases (s := 10) rfl (fun g1 => ?_) (fun g1 => ?_)
  · refine RunS.step (by exact And.intro rfl (And.intro rfl True.intro)) (by exact True.intro) (LocG.yes rfl rfl (by decide) g1 (loc_copy (.inl rfl) (by decide) (by exact Cp.sc))) nofree ?_
    refine RunS.step (by exact And.intro rfl (And.intro rfl True.intro)) (by exact True.intro) (LocG.yes rfl rfl (by decide) g1 (loc_copy (.inl rfl) (by decide) (by exact Cp.sc))) nofree ?_
    refine RunS.step (by exact And.intro rfl (And.intro rfl (And.intro rfl True.intro))) (by exact True.intro) (LocG.yes rfl rfl (by decide) g1 (loc_leq (by decide) (by exact True.intro) (by exact True.intro))) nofree ?_
    refine RunS.step (by exact And.intro rfl (And.intro rfl True.intro)) (by exact True.intro) (LocG.of rfl (loc_pick (z := .tmp 13) (by decide) (by rw [g1]; rfl) (by exact True.intro) (by exact True.intro) (by exact Cp.sc))) nofree ?_
    refine RunS.step (by exact And.intro rfl True.intro) (by exact True.intro) (LocG.of rfl (loc_copy (.inr rfl) (by decide) (by exact Cp.sc))) nofree ?_
    refine sw_ret ?_
    exact (And.intro (by refine bool_eq ?_; simp [inB, *]) True.intro)
  · refine RunS.step (by exact And.intro rfl True.intro) (by exact True.intro) (LocG.no (ops := _) rfl rfl (by decide) g1 rfl) nofree ?_
    refine RunS.step (by exact And.intro rfl True.intro) (by exact True.intro) (LocG.no (ops := _) rfl rfl (by decide) g1 rfl) nofree ?_
    refine RunS.step (by exact And.intro rfl True.intro) (by exact True.intro) (LocG.no (ops := _) rfl rfl (by decide) g1 rfl) nofree ?_
    refine RunS.step (by exact And.intro rfl True.intro) (by exact True.intro) (LocG.of rfl (loc_pick (z := .const (.bool false)) (by decide) (by rw [g1]; rfl) (by exact True.intro) (ok_sc rfl) (by exact Cp.sc))) nofree ?_
    refine RunS.step (by exact And.intro rfl True.intro) (by exact True.intro) (LocG.of rfl (loc_copy (.inr rfl) (by decide) (by exact Cp.sc))) nofree ?_
    refine sw_ret ?_
    exact (And.intro (by refine bool_eq ?_; simp [inB, *]) True.intro)
theorem impl_copyInts {x : List Int}  (hb : x.length ≤ 68719476736) : SCall Try.prog 104 [(false, [PV.sl .v (x.map cInt)])] (resRV [(false, [PV.sl (.own 3 1) (x.map cInt)])]) := by
  refine scall_of (rs := [(false, [PV.sl (.own 3 1) (x.map cInt)])]) Try.func104 rfl (Nat.le_of_ble_eq_true rfl) (borA_cons (BorL.cons (PV.bor_sl _) BorL.nil) borA_nil) ?_
  intro h0 w0 Fz0
  refine sw_len (s := 0) rfl fun hl0 => ?_
  try rw [List.length_map] at hl0
  refine sw_seq ?_
  refine sw_reg ?_
  refine RunS.step (by exact True.intro) (by exact True.intro) (LocG.of rfl (loc_const (.inr rfl) (by decide) (ok_nil (t := 3) (e := 1)))) nofree ?_
  refine sw_seq ?_
  refine sw_of (l := [(0, RV.sv false [PV.sl _ _]), (2, RV.sv false [PV.sl _ _])]) (b := []) (by exact And.intro rfl (And.intro rfl True.intro)) (by exact True.intro) ?_
  refine sw_reg ?_
  refine RunS.step (by exact True.intro) (by exact True.intro) (LocG.of rfl (loc_bslice (qs := []) (by decide) sl_23 z_3 (by decide) rfl rfl rfl rfl rfl (by exact Nat.le_of_ble_eq_true rfl) (by exact True.intro) rfl)) nofree ?_
  refine RunS.step (by exact And.intro rfl True.intro) (by exact True.intro) (LocG.of rfl (loc_copy (r' := RV.sv false [PV.sl .v _]) (.inl rfl) (by decide) (by exact Cp.sv (ToL.cons PV.to_none ToL.nil) (BorL.cons (PV.bor_sl _) BorL.nil)))) nofree ?_
  refine RunS.step (by exact And.intro rfl (And.intro rfl True.intro)) (by exact True.intro) (LocG.of rfl (loc_appendb (by decide) sl_23 z_3 rfl rfl (by decide) (by first | (intro cs hcs; obtain ⟨x, _, rfl⟩ := List.mem_map.1 hcs; exact rfl) | simp) (by first | (intro cs hcs; obtain ⟨x, _, rfl⟩ := List.mem_map.1 hcs; exact (BorL.cons (PV.bor_val _) BorL.nil)) | simp) (by simp only [List.length_map, List.length_append, List.length_cons, List.length_nil]; omega) (by simp only [List.length_map, List.length_append, List.length_cons, List.length_nil]; omega))) nofree ?_
  refine RunS.step (by exact And.intro rfl True.intro) (by exact True.intro) (LocG.of rfl (loc_take (.inr rfl) (by decide))) nofree ?_
  refine sw_ret ?_
  exact (And.intro (by exact rfl) True.intro)
theorem impl_IsRow {x : Row}  : SCall Try.prog 169 [(true, [PV.val (vI x.Id), PV.sl .v (x.Values.map cInt)])] (resRV [(false, [PV.val (.bool (okRow x))])]) := by
  refine scall_of (rs := [(false, [PV.val (.bool (okRow x))])]) Try.func169 rfl (Nat.le_of_ble_eq_true rfl) (borA_cons (BorL.cons (PV.bor_val _) (BorL.cons (PV.bor_sl _) BorL.nil)) borA_nil) ?_
  intro h0 w0 Fz0
  refine sw_slen (s := 0) (j := 1) rfl rfl fun hl0_1 => ?_
  try rw [List.length_map] at hl0_1
  refine sw_seq ?_
  refine sw_reg ?_
  refine RunS.step (by exact And.intro rfl True.intro) (by exact True.intro) (LocG.of rfl (loc_box (ag := true) (cs := [PV.val _, PV.sl _ _]) (by decide) (by exact True.intro))) (free1 (Free.of_ rfl)) ?_
  refine RunS.step (by exact True.intro) (by exact True.intro) (LocG.of rfl (loc_const (.inr rfl) (by decide) (ok_sc rfl))) nofree ?_
  refine sw_seq ?_
  refine sw_seq ?_
  refine sw_of (l := [(1, RV.ptr 1 0), (2, RV.sv false [PV.val _])]) (b := [(1, (57, [PV.val _, PV.sl _ _]))]) (by exact And.intro rfl (And.intro rfl True.intro)) (by exact And.intro rfl True.intro) ?_
  refine sw_reg ?_
  refine RunS.step (by exact And.intro rfl True.intro) (by exact True.intro) (LocG.of rfl (loc_field (by decide) fd_57_1)) nofree ?_
  refine RunS.step (by exact And.intro rfl True.intro) (by exact And.intro rfl True.intro) (LocG.of rfl (loc_load (qs := [PV.sl .v _]) (by decide) ty_23 (fun _ => rfl) (by exact Nat.le_of_ble_eq_true rfl) (by exact (ToL.cons PV.to_none ToL.nil)) (by exact (BorL.cons (PV.bor_sl _) BorL.nil)))) nofree ?_
  refine RunS.step (by exact And.intro rfl True.intro) (by exact True.intro) (LocG.of rfl (loc_len (by decide) sl_23 (by first | exact List.length_map _ | exact rfl))) nofree ?_
  refine RunS.step (by exact True.intro) (by exact True.intro) (LocG.of rfl (loc_const (.inl rfl) (by decide) (ok_sc rfl))) nofree ?_
  refine sw_block ?_
  refine sw_of (l := [(1, RV.ptr 1 0), (2, RV.sv false [PV.val _]), (6, RV.sv false [PV.sl _ _]), (7, RV.sv false [PV.val _]), (8, RV.sv false [PV.val _])]) (b := [(1, (57, [PV.val _, PV.sl _ _]))]) (by exact And.intro rfl (And.intro rfl (And.intro rfl (And.intro rfl (And.intro rfl True.intro))))) (by exact And.intro rfl True.intro) ?_
  refine sw_loop (l0 := [(1, RV.ptr 1 0), (6, RV.sv false [PV.sl _ _]), (7, RV.sv false [PV.val _])]) (b0 := [(1, (57, [PV.val _, PV.sl _ _]))]) (fun k : Nat => k ≤ x.Values.length ∧ (x.Values.take k).all okVal = true) (fun k : Nat => [(8, RV.int (k : Int))]) (fun k : Nat => []) (fun k : Nat => x.Values.length - k) 0 (by exact ⟨by omega, by simp⟩) (by exact And.intro rfl (And.intro rfl (And.intro rfl True.intro))) (by exact And.intro rfl True.intro) (by exact And.intro (by exact rfl) (True.intro)) (by exact True.intro) ?_
  rintro k ⟨hk, ha⟩
  refine sw_seq ?_
  refine sw_reg ?_
  refine RunS.step (by exact And.intro rfl (And.intro rfl True.intro)) (by exact True.intro) (LocG.of rfl (loc_lss (by decide) (by exact True.intro) (by exact True.intro))) nofree ?_
  refine sw_seq ?_
  refine sw_cond (t := 9) rfl (fun hb1 => ?_) (fun hb1 => ?_)
  · try simp only [decide_eq_true_eq, decide_eq_false_iff_not, bne_iff_ne, beq_iff_eq, Bool.not_eq_true', Bool.not_eq_false', ne_eq, bne_eq_false_iff_eq, beq_eq_false_iff_ne] at hb1
    have hlt : k < x.Values.length := by omega
    refine sw_skip ?_
    refine sw_seq ?_
    refine sw_block ?_
    refine sw_seq ?_
    refine sw_of (l := [(1, RV.ptr 1 0), (6, RV.sv false [PV.sl _ _]), (7, RV.sv false [PV.val _]), (8, RV.sv false [PV.val _])]) (b := [(1, (57, [PV.val _, PV.sl _ _]))]) (by exact And.intro rfl (And.intro rfl (And.intro rfl (And.intro rfl True.intro)))) (by exact And.intro rfl True.intro) ?_
    refine sw_reg ?_
    refine RunS.step (by exact And.intro rfl (And.intro rfl True.intro)) (by exact True.intro) (LocG.of rfl (loc_index (by decide) sl_23 (by exact True.intro) (by exact rfl) (by exact getm2 (by omega) rfl) (by exact rfl))) nofree ?_
    refine RunS.step (by exact And.intro rfl True.intro) (by exact True.intro) (LocG.of rfl (loc_eload (qs := [PV.val _]) (by decide) ty_3 (fun _ => rfl) (by exact Nat.le_of_ble_eq_true rfl) (by exact (ToL.cons (PV.To.refl _) ToL.nil)) (by exact (BorL.cons (PV.bor_val _) BorL.nil)))) nofree ?_
    refine RunS.step (by exact And.intro rfl True.intro) (by exact True.intro) (LocG.of rfl (loc_copy (.inr rfl) (by decide) (by exact Cp.sc))) nofree ?_
    refine sw_seq ?_
    refine sw_of (l := [(1, RV.ptr 1 0), (4, RV.sv false [PV.val _]), (6, RV.sv false [PV.sl _ _]), (7, RV.sv false [PV.val _]), (8, RV.sv false [PV.val _])]) (b := [(1, (57, [PV.val _, PV.sl _ _]))]) (by exact And.intro rfl (And.intro rfl (And.intro rfl (And.intro rfl (And.intro rfl True.intro))))) (by exact And.intro rfl True.intro) ?_
    refine sw_reg ?_
    refine RunS.step (by exact And.intro rfl True.intro) (by exact True.intro) (LocG.of rfl (loc_copy (.inl rfl) (by decide) (by exact Cp.sc))) nofree ?_
    refine RunS.step (by exact And.intro rfl True.intro) (by exact True.intro) (LocG.of rfl (loc_call (qs := [(false, [PV.val _]), (false, [PV.val _]), (false, [PV.val _])]) (as_ := [(false, [PV.val _]), (false, [PV.val _]), (false, [PV.val _])]) (by decide) c_94 (by exact (And.intro (by exact True.intro) (And.intro (ok_sc rfl) (And.intro (ok_sc rfl) True.intro)))) (by exact (And.intro (And.intro rfl (ToL.cons (PV.To.refl _) ToL.nil)) (And.intro (And.intro rfl (ToL.cons (PV.To.refl _) ToL.nil)) (And.intro (And.intro rfl (ToL.cons (PV.To.refl _) ToL.nil)) True.intro)))) (by exact impl_within))) nofree ?_
    refine RunS.step (by exact And.intro rfl True.intro) (by exact True.intro) (LocG.of rfl (loc_not (by decide))) nofree ?_
    refine sw_cond (t := 14) rfl (fun hb2 => ?_) (fun hb2 => ?_)
    · try simp only [decide_eq_true_eq, decide_eq_false_iff_not, bne_iff_ne, beq_iff_eq, Bool.not_eq_true', Bool.not_eq_false', ne_eq, bne_eq_false_iff_eq, beq_eq_false_iff_ne] at hb2
      have hno : okVal x.Values[k] = false := by simpa [okVal] using hb2
      refine sw_seq ?_
      refine sw_of (l := [(1, RV.ptr 1 0), (4, RV.sv false [PV.val _]), (6, RV.sv false [PV.sl _ _]), (7, RV.sv false [PV.val _]), (8, RV.sv false [PV.val _])]) (b := [(1, (57, [PV.val _, PV.sl _ _]))]) (by exact And.intro rfl (And.intro rfl (And.intro rfl (And.intro rfl (And.intro rfl True.intro))))) (by exact And.intro rfl True.intro) ?_
      refine sw_reg ?_
      refine RunS.step (by exact True.intro) (by exact True.intro) (LocG.of rfl (loc_const (.inr rfl) (by decide) (ok_sc rfl))) nofree ?_
      refine sw_ret ?_
      exact (And.intro (by refine bool_eq ?_; simp [okRow, beq_dec, all_no (P := okVal) hlt hno]) True.intro)
    · try simp only [decide_eq_true_eq, decide_eq_false_iff_not, bne_iff_ne, beq_iff_eq, Bool.not_eq_true', Bool.not_eq_false', ne_eq, bne_eq_false_iff_eq, beq_eq_false_iff_ne] at hb2
      have hyes : okVal x.Values[k] = true := by simpa [okVal] using hb2
      refine sw_skip ?_
      refine sw_of (l := [(1, RV.ptr 1 0), (4, RV.sv false [PV.val _]), (6, RV.sv false [PV.sl _ _]), (7, RV.sv false [PV.val _]), (8, RV.sv false [PV.val _])]) (b := [(1, (57, [PV.val _, PV.sl _ _]))]) (by exact And.intro rfl (And.intro rfl (And.intro rfl (And.intro rfl (And.intro rfl True.intro))))) (by exact And.intro rfl True.intro) ?_
      refine sw_reg ?_
      refine RunS.step (by exact And.intro rfl True.intro) (by exact True.intro) (LocG.of rfl (loc_add (by decide) (by exact True.intro) (ok_sc rfl) (by unfold I64; omega))) nofree ?_
      refine RunS.step (by exact And.intro rfl True.intro) (by exact True.intro) (LocG.of rfl (loc_copy (.inl rfl) (by decide) (by exact Cp.sc))) nofree ?_
      refine Exists.intro (k + 1) (And.intro (by exact ⟨by omega, all_succ ha hlt hyes⟩) (And.intro (by omega) (And.intro (And.intro (by exact And.intro rfl (And.intro rfl (And.intro rfl True.intro))) (by exact And.intro rfl True.intro)) (And.intro (by exact And.intro (by exact rfl) (True.intro)) (by exact True.intro)))))
  · try simp only [decide_eq_true_eq, decide_eq_false_iff_not, bne_iff_ne, beq_iff_eq, Bool.not_eq_true', Bool.not_eq_false', ne_eq, bne_eq_false_iff_eq, beq_eq_false_iff_ne] at hb1
    have hall : x.Values.all okVal = true := all_end (by rw [show x.Values.length = k by omega]; exact ha)
    refine sw_exit ?_
    refine sw_seq ?_
    refine sw_of (l := [(1, RV.ptr 1 0), (6, RV.sv false [PV.sl _ _]), (7, RV.sv false [PV.val _]), (8, RV.sv false [PV.val _])]) (b := [(1, (57, [PV.val _, PV.sl _ _]))]) (by exact And.intro rfl (And.intro rfl (And.intro rfl (And.intro rfl True.intro)))) (by exact And.intro rfl True.intro) ?_
    refine sw_reg ?_
    refine RunS.step (by exact And.intro rfl True.intro) (by exact True.intro) (LocG.of rfl (loc_field (by decide) fd_57_0)) nofree ?_
    refine RunS.step (by exact And.intro rfl True.intro) (by exact And.intro rfl True.intro) (LocG.of rfl (loc_load (qs := [PV.val _]) (by decide) ty_3 (fun _ => rfl) (by exact Nat.le_of_ble_eq_true rfl) (by exact (ToL.cons (PV.To.refl _) ToL.nil)) (by exact (BorL.cons (PV.bor_val _) BorL.nil)))) nofree ?_
    refine RunS.step (by exact And.intro rfl True.intro) (by exact True.intro) (LocG.of rfl (loc_call (qs := [(false, [PV.val _]), (false, [PV.val _]), (false, [PV.val _])]) (as_ := [(false, [PV.val _]), (false, [PV.val _]), (false, [PV.val _])]) (by decide) c_94 (by exact (And.intro (by exact True.intro) (And.intro (ok_sc rfl) (And.intro (ok_sc rfl) True.intro)))) (by exact (And.intro (And.intro rfl (ToL.cons (PV.To.refl _) ToL.nil)) (And.intro (And.intro rfl (ToL.cons (PV.To.refl _) ToL.nil)) (And.intro (And.intro rfl (ToL.cons (PV.To.refl _) ToL.nil)) True.intro)))) (by exact impl_within))) nofree ?_
    refine RunS.step (by exact And.intro rfl True.intro) (by exact True.intro) (LocG.of rfl (loc_copy (.inl rfl) (by decide) (by exact Cp.sc))) nofree ?_
    refine RunS.cases (s := 19) rfl (fun g3 => ?_) (fun g3 => ?_)
    · refine RunS.step (by exact And.intro rfl (And.intro rfl True.intro)) (by exact True.intro) (LocG.yes rfl rfl (by decide) g3 (loc_field (by decide) fd_57_1)) nofree ?_
      refine RunS.step (by exact And.intro rfl (And.intro rfl True.intro)) (by exact And.intro rfl True.intro) (LocG.yes rfl rfl (by decide) g3 (loc_load (qs := [PV.sl .v _]) (by decide) ty_23 (fun _ => rfl) (by exact Nat.le_of_ble_eq_true rfl) (by exact (ToL.cons PV.to_none ToL.nil)) (by exact (BorL.cons (PV.bor_sl _) BorL.nil)))) nofree ?_
      refine RunS.step (by exact And.intro rfl (And.intro rfl True.intro)) (by exact True.intro) (LocG.yes rfl rfl (by decide) g3 (loc_len (by decide) sl_23 (by first | exact List.length_map _ | exact rfl))) nofree ?_
      refine RunS.step (by exact And.intro rfl (And.intro rfl True.intro)) (by exact True.intro) (LocG.yes rfl rfl (by decide) g3 (loc_eql (by decide) (by exact True.intro) (ok_sc rfl))) nofree ?_
      refine RunS.step (by exact And.intro rfl (And.intro rfl True.intro)) (by exact True.intro) (LocG.of rfl (loc_pick (z := .tmp 23) (by decide) (by rw [g3]; rfl) (by exact True.intro) (by exact True.intro) (by exact Cp.sc))) nofree ?_
      refine RunS.step (by exact And.intro rfl True.intro) (by exact True.intro) (LocG.of rfl (loc_copy (.inr rfl) (by decide) (by exact Cp.sc))) nofree ?_
      refine sw_ret ?_
      exact (And.intro (by refine bool_eq ?_; simp [okRow, beq_dec, hall, *]) True.intro)
    · refine RunS.step (by exact And.intro rfl True.intro) (by exact True.intro) (LocG.no (ops := _) rfl rfl (by decide) g3 rfl) nofree ?_
      refine RunS.step (by exact And.intro rfl True.intro) (by exact True.intro) (LocG.no (ops := _) rfl rfl (by decide) g3 rfl) nofree ?_
      refine RunS.step (by exact And.intro rfl True.intro) (by exact True.intro) (LocG.no (ops := _) rfl rfl (by decide) g3 rfl) nofree ?_
      refine RunS.step (by exact And.intro rfl True.intro) (by exact True.intro) (LocG.no (ops := _) rfl rfl (by decide) g3 rfl) nofree ?_
      refine RunS.step (by exact And.intro rfl True.intro) (by exact True.intro) (LocG.of rfl (loc_pick (z := .const (.bool false)) (by decide) (by rw [g3]; rfl) (by exact True.intro) (ok_sc rfl) (by exact Cp.sc))) nofree ?_
      refine RunS.step (by exact And.intro rfl True.intro) (by exact True.intro) (LocG.of rfl (loc_copy (.inr rfl) (by decide) (by exact Cp.sc))) nofree ?_
      refine sw_ret ?_
      exact (And.intro (by refine bool_eq ?_; simp [okRow, beq_dec, hall, *]) True.intro)
theorem spec_IsRow {x : Row}  : SCall Try.prog 54 [(true, [PV.val (vI x.Id), PV.sl .v (x.Values.map cInt)])] (resRV [(false, [PV.val (.bool (okRow x))])]) := by
  refine scall_of (rs := [(false, [PV.val (.bool (okRow x))])]) Try.func54 rfl (Nat.le_of_ble_eq_true rfl) (borA_cons (BorL.cons (PV.bor_val _) (BorL.cons (PV.bor_sl _) BorL.nil)) borA_nil) ?_
  intro h0 w0 Fz0
  refine sw_slen (s := 0) (j := 1) rfl rfl fun hl0_1 => ?_
  try rw [List.length_map] at hl0_1
  refine sw_seq ?_
  refine sw_reg ?_
  refine RunS.step (by exact And.intro rfl True.intro) (by exact True.intro) (LocG.of rfl (loc_box (ag := true) (cs := [PV.val _, PV.sl _ _]) (by decide) (by exact True.intro))) (free1 (Free.of_ rfl)) ?_
  refine RunS.step (by exact True.intro) (by exact True.intro) (LocG.of rfl (loc_const (.inr rfl) (by decide) (ok_sc rfl))) nofree ?_
  refine sw_seq ?_
  refine sw_seq ?_
  refine sw_of (l := [(1, RV.ptr 1 0), (2, RV.sv false [PV.val _])]) (b := [(1, (57, [PV.val _, PV.sl _ _]))]) (by exact And.intro rfl (And.intro rfl True.intro)) (by exact And.intro rfl True.intro) ?_
  refine sw_reg ?_
  refine RunS.step (by exact True.intro) (by exact True.intro) (LocG.of rfl (loc_const (.inr rfl) (by decide) (ok_sc rfl))) nofree ?_
  refine sw_block ?_
  refine sw_of (l := [(1, RV.ptr 1 0), (2, RV.sv false [PV.val _]), (3, RV.sv false [PV.val _])]) (b := [(1, (57, [PV.val _, PV.sl _ _]))]) (by exact And.intro rfl (And.intro rfl (And.intro rfl True.intro))) (by exact And.intro rfl True.intro) ?_
  refine sw_loop (l0 := [(1, RV.ptr 1 0)]) (b0 := [(1, (57, [PV.val _, PV.sl _ _]))]) (fun k : Nat => k ≤ x.Values.length ∧ (x.Values.take k).all okVal = true) (fun k : Nat => [(3, RV.int (k : Int))]) (fun k : Nat => []) (fun k : Nat => x.Values.length - k) 0 (by exact ⟨by omega, by simp⟩) (by exact And.intro rfl True.intro) (by exact And.intro rfl True.intro) (by exact And.intro (by exact rfl) (True.intro)) (by exact True.intro) ?_
  rintro k ⟨hk, ha⟩
  refine sw_seq ?_
  refine sw_seq ?_
  refine sw_reg ?_
  refine RunS.step (by exact And.intro rfl True.intro) (by exact True.intro) (LocG.of rfl (loc_copy (.inl rfl) (by decide) (by exact Cp.sc))) nofree ?_
  refine RunS.step (by exact And.intro rfl True.intro) (by exact True.intro) (LocG.of rfl (loc_field (by decide) fd_57_1)) nofree ?_
  refine RunS.step (by exact And.intro rfl True.intro) (by exact And.intro rfl True.intro) (LocG.of rfl (loc_load (qs := [PV.sl .v _]) (by decide) ty_23 (fun _ => rfl) (by exact Nat.le_of_ble_eq_true rfl) (by exact (ToL.cons PV.to_none ToL.nil)) (by exact (BorL.cons (PV.bor_sl _) BorL.nil)))) nofree ?_
  refine RunS.step (by exact And.intro rfl True.intro) (by exact True.intro) (LocG.of rfl (loc_len (by decide) sl_23 (by first | exact List.length_map _ | exact rfl))) nofree ?_
  refine RunS.step (by exact And.intro rfl (And.intro rfl True.intro)) (by exact True.intro) (LocG.of rfl (loc_lss (by decide) (by exact True.intro) (by exact True.intro))) nofree ?_
  refine sw_cond (t := 8) rfl (fun hb1 => ?_) (fun hb1 => ?_)
  · try simp only [decide_eq_true_eq, decide_eq_false_iff_not, bne_iff_ne, beq_iff_eq, Bool.not_eq_true', Bool.not_eq_false', ne_eq, bne_eq_false_iff_eq, beq_eq_false_iff_ne] at hb1
    have hlt : k < x.Values.length := by omega
    refine sw_skip ?_
    refine sw_seq ?_
    refine sw_block ?_
    refine sw_seq ?_
    refine sw_of (l := [(1, RV.ptr 1 0), (3, RV.sv false [PV.val _])]) (b := [(1, (57, [PV.val _, PV.sl _ _]))]) (by exact And.intro rfl (And.intro rfl True.intro)) (by exact And.intro rfl True.intro) ?_
    refine sw_reg ?_
    refine RunS.step (by exact And.intro rfl True.intro) (by exact True.intro) (LocG.of rfl (loc_field (by decide) fd_57_1)) nofree ?_
    refine RunS.step (by exact And.intro rfl True.intro) (by exact And.intro rfl True.intro) (LocG.of rfl (loc_load (qs := [PV.sl .v _]) (by decide) ty_23 (fun _ => rfl) (by exact Nat.le_of_ble_eq_true rfl) (by exact (ToL.cons PV.to_none ToL.nil)) (by exact (BorL.cons (PV.bor_sl _) BorL.nil)))) nofree ?_
    refine RunS.step (by exact And.intro rfl True.intro) (by exact True.intro) (LocG.of rfl (loc_copy (.inl rfl) (by decide) (by exact Cp.sc))) nofree ?_
    refine RunS.step (by exact And.intro rfl (And.intro rfl True.intro)) (by exact True.intro) (LocG.of rfl (loc_index (by decide) sl_23 (by exact True.intro) (by exact rfl) (by exact getm2 (by omega) rfl) (by exact rfl))) nofree ?_
    refine RunS.step (by exact And.intro rfl True.intro) (by exact True.intro) (LocG.of rfl (loc_eload (qs := [PV.val _]) (by decide) ty_3 (fun _ => rfl) (by exact Nat.le_of_ble_eq_true rfl) (by exact (ToL.cons (PV.To.refl _) ToL.nil)) (by exact (BorL.cons (PV.bor_val _) BorL.nil)))) nofree ?_
    refine RunS.step (by exact And.intro rfl True.intro) (by exact True.intro) (LocG.of rfl (loc_call (qs := [(false, [PV.val _]), (false, [PV.val _]), (false, [PV.val _])]) (as_ := [(false, [PV.val _]), (false, [PV.val _]), (false, [PV.val _])]) (by decide) c_86 (by exact (And.intro (by exact True.intro) (And.intro (ok_sc rfl) (And.intro (ok_sc rfl) True.intro)))) (by exact (And.intro (And.intro rfl (ToL.cons (PV.To.refl _) ToL.nil)) (And.intro (And.intro rfl (ToL.cons (PV.To.refl _) ToL.nil)) (And.intro (And.intro rfl (ToL.cons (PV.To.refl _) ToL.nil)) True.intro)))) (by exact spec_l1In))) nofree ?_
    refine RunS.step (by exact And.intro rfl True.intro) (by exact True.intro) (LocG.of rfl (loc_not (by decide))) nofree ?_
    refine sw_cond (t := 17) rfl (fun hb2 => ?_) (fun hb2 => ?_)
    · try simp only [decide_eq_true_eq, decide_eq_false_iff_not, bne_iff_ne, beq_iff_eq, Bool.not_eq_true', Bool.not_eq_false', ne_eq, bne_eq_false_iff_eq, beq_eq_false_iff_ne] at hb2
      have hno : okVal x.Values[k] = false := by simpa [okVal] using hb2
      refine sw_seq ?_
      refine sw_of (l := [(1, RV.ptr 1 0), (3, RV.sv false [PV.val _])]) (b := [(1, (57, [PV.val _, PV.sl _ _]))]) (by exact And.intro rfl (And.intro rfl True.intro)) (by exact And.intro rfl True.intro) ?_
      refine sw_reg ?_
      refine RunS.step (by exact True.intro) (by exact True.intro) (LocG.of rfl (loc_const (.inr rfl) (by decide) (ok_sc rfl))) nofree ?_
      refine sw_ret ?_
      exact (And.intro (by refine bool_eq ?_; simp [okRow, beq_dec, all_no (P := okVal) hlt hno]) True.intro)
    · try simp only [decide_eq_true_eq, decide_eq_false_iff_not, bne_iff_ne, beq_iff_eq, Bool.not_eq_true', Bool.not_eq_false', ne_eq, bne_eq_false_iff_eq, beq_eq_false_iff_ne] at hb2
      have hyes : okVal x.Values[k] = true := by simpa [okVal] using hb2
      refine sw_skip ?_
      refine sw_of (l := [(1, RV.ptr 1 0), (3, RV.sv false [PV.val _])]) (b := [(1, (57, [PV.val _, PV.sl _ _]))]) (by exact And.intro rfl (And.intro rfl True.intro)) (by exact And.intro rfl True.intro) ?_
      refine sw_reg ?_
      refine RunS.step (by exact And.intro rfl True.intro) (by exact True.intro) (LocG.of rfl (loc_copy (.inl rfl) (by decide) (by exact Cp.sc))) nofree ?_
      refine RunS.step (by exact And.intro rfl True.intro) (by exact True.intro) (LocG.of rfl (loc_add (by decide) (by exact True.intro) (ok_sc rfl) (by unfold I64; omega))) nofree ?_
      refine RunS.step (by exact And.intro rfl True.intro) (by exact True.intro) (LocG.of rfl (loc_copy (.inr rfl) (by decide) (by exact Cp.sc))) nofree ?_
      refine Exists.intro (k + 1) (And.intro (by exact ⟨by omega, all_succ ha hlt hyes⟩) (And.intro (by omega) (And.intro (And.intro (by exact And.intro rfl True.intro) (by exact And.intro rfl True.intro)) (And.intro (by exact And.intro (by exact rfl) (True.intro)) (by exact True.intro)))))
  · try simp only [decide_eq_true_eq, decide_eq_false_iff_not, bne_iff_ne, beq_iff_eq, Bool.not_eq_true', Bool.not_eq_false', ne_eq, bne_eq_false_iff_eq, beq_eq_false_iff_ne] at hb1
    have hall : x.Values.all okVal = true := all_end (by rw [show x.Values.length = k by omega]; exact ha)
    refine sw_exit ?_
    refine sw_seq ?_
    refine sw_of (l := [(1, RV.ptr 1 0), (3, RV.sv false [PV.val _])]) (b := [(1, (57, [PV.val _, PV.sl _ _]))]) (by exact And.intro rfl (And.intro rfl True.intro)) (by exact And.intro rfl True.intro) ?_
    refine sw_reg ?_
    refine RunS.step (by exact And.intro rfl True.intro) (by exact True.intro) (LocG.of rfl (loc_field (by decide) fd_57_0)) nofree ?_
    refine RunS.step (by exact And.intro rfl True.intro) (by exact And.intro rfl True.intro) (LocG.of rfl (loc_load (qs := [PV.val _]) (by decide) ty_3 (fun _ => rfl) (by exact Nat.le_of_ble_eq_true rfl) (by exact (ToL.cons (PV.To.refl _) ToL.nil)) (by exact (BorL.cons (PV.bor_val _) BorL.nil)))) nofree ?_
    refine RunS.step (by exact And.intro rfl True.intro) (by exact True.intro) (LocG.of rfl (loc_call (qs := [(false, [PV.val _]), (false, [PV.val _]), (false, [PV.val _])]) (as_ := [(false, [PV.val _]), (false, [PV.val _]), (false, [PV.val _])]) (by decide) c_86 (by exact (And.intro (by exact True.intro) (And.intro (ok_sc rfl) (And.intro (ok_sc rfl) True.intro)))) (by exact (And.intro (And.intro rfl (ToL.cons (PV.To.refl _) ToL.nil)) (And.intro (And.intro rfl (ToL.cons (PV.To.refl _) ToL.nil)) (And.intro (And.intro rfl (ToL.cons (PV.To.refl _) ToL.nil)) True.intro)))) (by exact spec_l1In))) nofree ?_
    refine RunS.step (by exact And.intro rfl True.intro) (by exact True.intro) (LocG.of rfl (loc_copy (.inl rfl) (by decide) (by exact Cp.sc))) nofree ?_
    refine RunS.cases (s := 21) rfl (fun g3 => ?_) (fun g3 => ?_)
    · refine RunS.step (by exact And.intro rfl (And.intro rfl True.intro)) (by exact True.intro) (LocG.yes rfl rfl (by decide) g3 (loc_field (by decide) fd_57_1)) nofree ?_
      refine RunS.step (by exact And.intro rfl (And.intro rfl True.intro)) (by exact And.intro rfl True.intro) (LocG.yes rfl rfl (by decide) g3 (loc_load (qs := [PV.sl .v _]) (by decide) ty_23 (fun _ => rfl) (by exact Nat.le_of_ble_eq_true rfl) (by exact (ToL.cons PV.to_none ToL.nil)) (by exact (BorL.cons (PV.bor_sl _) BorL.nil)))) nofree ?_
      refine RunS.step (by exact And.intro rfl (And.intro rfl True.intro)) (by exact True.intro) (LocG.yes rfl rfl (by decide) g3 (loc_len (by decide) sl_23 (by first | exact List.length_map _ | exact rfl))) nofree ?_
      refine RunS.step (by exact And.intro rfl (And.intro rfl True.intro)) (by exact True.intro) (LocG.yes rfl rfl (by decide) g3 (loc_eql (by decide) (by exact True.intro) (ok_sc rfl))) nofree ?_
      refine RunS.step (by exact And.intro rfl (And.intro rfl True.intro)) (by exact True.intro) (LocG.of rfl (loc_pick (z := .tmp 25) (by decide) (by rw [g3]; rfl) (by exact True.intro) (by exact True.intro) (by exact Cp.sc))) nofree ?_
      refine RunS.step (by exact And.intro rfl True.intro) (by exact True.intro) (LocG.of rfl (loc_copy (.inr rfl) (by decide) (by exact Cp.sc))) nofree ?_
      refine sw_ret ?_
      exact (And.intro (by refine bool_eq ?_; simp [okRow, beq_dec, hall, *]) True.intro)
    · refine RunS.step (by exact And.intro rfl True.intro) (by exact True.intro) (LocG.no (ops := _) rfl rfl (by decide) g3 rfl) nofree ?_
      refine RunS.step (by exact And.intro rfl True.intro) (by exact True.intro) (LocG.no (ops := _) rfl rfl (by decide) g3 rfl) nofree ?_
      refine RunS.step (by exact And.intro rfl True.intro) (by exact True.intro) (LocG.no (ops := _) rfl rfl (by decide) g3 rfl) nofree ?_
      refine RunS.step (by exact And.intro rfl True.intro) (by exact True.intro) (LocG.no (ops := _) rfl rfl (by decide) g3 rfl) nofree ?_
      refine RunS.step (by exact And.intro rfl True.intro) (by exact True.intro) (LocG.of rfl (loc_pick (z := .const (.bool false)) (by decide) (by rw [g3]; rfl) (by exact True.intro) (ok_sc rfl) (by exact Cp.sc))) nofree ?_
      refine RunS.step (by exact And.intro rfl True.intro) (by exact True.intro) (LocG.of rfl (loc_copy (.inr rfl) (by decide) (by exact Cp.sc))) nofree ?_
      refine sw_ret ?_
      exact (And.intro (by refine bool_eq ?_; simp [okRow, beq_dec, hall, *]) True.intro)
theorem impl_allRows {p1 : Fl} {x : List Row}  : SCall Try.prog 181 [(false, [PV.sl .v (x.map (cRow p1))])] (resRV [(false, [PV.val (.bool (x.all okRow))])]) := by
  refine scall_of (rs := [(false, [PV.val (.bool (x.all okRow))])]) Try.func181 rfl (Nat.le_of_ble_eq_true rfl) (borA_cons (BorL.cons (PV.bor_sl _) BorL.nil) borA_nil) ?_
  intro h0 w0 Fz0
  refine sw_len (s := 0) rfl fun hl0 => ?_
  try rw [List.length_map] at hl0
  refine sw_seq ?_
  refine sw_reg ?_
  refine RunS.step (by exact True.intro) (by exact True.intro) (LocG.of rfl (loc_const (.inr rfl) (by decide) (ok_sc rfl))) nofree ?_
  refine sw_seq ?_
  refine sw_seq ?_
  refine sw_of (l := [(0, RV.sv false [PV.sl _ _]), (2, RV.sv false [PV.val _])]) (b := []) (by exact And.intro rfl (And.intro rfl True.intro)) (by exact True.intro) ?_
  refine sw_reg ?_
  refine RunS.step (by exact And.intro rfl True.intro) (by exact True.intro) (LocG.of rfl (loc_copy (r' := RV.sv false [PV.sl .v _]) (.inl rfl) (by decide) (by exact Cp.sv (ToL.cons PV.to_none ToL.nil) (BorL.cons (PV.bor_sl _) BorL.nil)))) nofree ?_
  refine RunS.step (by exact And.intro rfl True.intro) (by exact True.intro) (LocG.of rfl (loc_len (by decide) sl_25 (by first | exact List.length_map _ | exact rfl))) nofree ?_
  refine RunS.step (by exact True.intro) (by exact True.intro) (LocG.of rfl (loc_const (.inl rfl) (by decide) (ok_sc rfl))) nofree ?_
  refine sw_block ?_
  refine sw_of (l := [(0, RV.sv false [PV.sl _ _]), (2, RV.sv false [PV.val _]), (5, RV.sv false [PV.sl _ _]), (6, RV.sv false [PV.val _]), (7, RV.sv false [PV.val _])]) (b := []) (by exact And.intro rfl (And.intro rfl (And.intro rfl (And.intro rfl (And.intro rfl True.intro))))) (by exact True.intro) ?_
  refine sw_loop (l0 := [(0, RV.sv false [PV.sl _ _]), (5, RV.sv false [PV.sl _ _]), (6, RV.sv false [PV.val _])]) (b0 := []) (fun k : Nat => k ≤ x.length ∧ (x.take k).all okRow = true) (fun k : Nat => [(7, RV.int (k : Int))]) (fun k : Nat => []) (fun k : Nat => x.length - k) 0 (by exact ⟨by omega, by simp⟩) (by exact And.intro rfl (And.intro rfl (And.intro rfl True.intro))) (by exact True.intro) (by exact And.intro (by exact rfl) (True.intro)) (by exact True.intro) ?_
  rintro k ⟨hk, ha⟩
  refine sw_seq ?_
  refine sw_reg ?_
  refine RunS.step (by exact And.intro rfl (And.intro rfl True.intro)) (by exact True.intro) (LocG.of rfl (loc_lss (by decide) (by exact True.intro) (by exact True.intro))) nofree ?_
  refine sw_seq ?_
  refine sw_cond (t := 8) rfl (fun hb1 => ?_) (fun hb1 => ?_)
  · try simp only [decide_eq_true_eq, decide_eq_false_iff_not, bne_iff_ne, beq_iff_eq, Bool.not_eq_true', Bool.not_eq_false', ne_eq, bne_eq_false_iff_eq, beq_eq_false_iff_ne] at hb1
    have hlt : k < x.length := by omega
    refine sw_skip ?_
    refine sw_seq ?_
    refine sw_block ?_
    refine sw_seq ?_
    refine sw_of (l := [(0, RV.sv false [PV.sl _ _]), (5, RV.sv false [PV.sl _ _]), (6, RV.sv false [PV.val _]), (7, RV.sv false [PV.val _])]) (b := []) (by exact And.intro rfl (And.intro rfl (And.intro rfl (And.intro rfl True.intro)))) (by exact True.intro) ?_
    refine sw_reg ?_
    refine RunS.step (by exact And.intro rfl (And.intro rfl True.intro)) (by exact True.intro) (LocG.of rfl (loc_index (by decide) sl_25 (by exact True.intro) (by exact rfl) (by exact getm2 (by omega) rfl) (by exact rfl))) nofree ?_
    refine RunS.step (by exact And.intro rfl True.intro) (by exact True.intro) (LocG.of rfl (loc_eload (qs := [PV.val _, PV.sl .v _]) (by decide) ty_57 (fun h => nomatch h) (by exact Nat.le_of_ble_eq_true rfl) (by exact (ToL.cons (PV.To.refl _) (ToL.cons PV.to_none ToL.nil))) (by exact (BorL.cons (PV.bor_val _) (BorL.cons (PV.bor_sl _) BorL.nil))))) nofree ?_
    refine RunS.step (by exact True.intro) (by exact True.intro) (LocG.of rfl (loc_alloc (by decide) z_57 zo_57)) (free1 (Free.app (Free.app (Free.of_ rfl) rfl) rfl)) ?_
    refine RunS.step (by exact And.intro rfl (And.intro rfl True.intro)) (by exact And.intro rfl True.intro) (LocG.of rfl (loc_store (ag := true) (vs := [PV.val _, PV.sl _ _]) ty_57 (by exact True.intro) (by exact rfl) (by exact Nat.le_of_ble_eq_true rfl))) nofree ?_
    refine sw_seq ?_
    refine sw_of (l := [(0, RV.sv false [PV.sl _ _]), (4, RV.ptr 4 0), (5, RV.sv false [PV.sl _ _]), (6, RV.sv false [PV.val _]), (7, RV.sv false [PV.val _])]) (b := [(4, (57, [PV.val _, PV.sl _ _]))]) (by exact And.intro rfl (And.intro rfl (And.intro rfl (And.intro rfl (And.intro rfl True.intro))))) (by exact And.intro rfl True.intro) ?_
    refine sw_reg ?_
    refine RunS.step (by exact And.intro rfl True.intro) (by exact And.intro rfl True.intro) (LocG.of rfl (loc_load (qs := [PV.val _, PV.sl .v _]) (by decide) ty_57 (fun h => nomatch h) (by exact Nat.le_of_ble_eq_true rfl) (by exact (ToL.cons (PV.To.refl _) (ToL.cons PV.to_none ToL.nil))) (by exact (BorL.cons (PV.bor_val _) (BorL.cons (PV.bor_sl _) BorL.nil))))) nofree ?_
    refine RunS.step (by exact And.intro rfl True.intro) (by exact True.intro) (LocG.of rfl (loc_call (qs := [(true, [PV.val _, PV.sl _ _])]) (as_ := [(true, [PV.val _, PV.sl .v _])]) (by decide) c_169 (by exact (And.intro (by exact True.intro) True.intro)) (by exact (And.intro (And.intro rfl (ToL.cons (PV.To.refl _) (ToL.cons PV.to_none ToL.nil))) True.intro)) (by exact impl_IsRow))) nofree ?_
    refine RunS.step (by exact And.intro rfl True.intro) (by exact True.intro) (LocG.of rfl (loc_not (by decide))) nofree ?_
    refine sw_cond (t := 13) rfl (fun hb2 => ?_) (fun hb2 => ?_)
    · try simp only [decide_eq_true_eq, decide_eq_false_iff_not, bne_iff_ne, beq_iff_eq, Bool.not_eq_true', Bool.not_eq_false', ne_eq, bne_eq_false_iff_eq, beq_eq_false_iff_ne] at hb2
      have hno : okRow x[k] = false := by simpa [] using hb2
      refine sw_seq ?_
      refine sw_of (l := [(0, RV.sv false [PV.sl _ _]), (4, RV.ptr 4 0), (5, RV.sv false [PV.sl _ _]), (6, RV.sv false [PV.val _]), (7, RV.sv false [PV.val _])]) (b := [(4, (57, [PV.val _, PV.sl _ _]))]) (by exact And.intro rfl (And.intro rfl (And.intro rfl (And.intro rfl (And.intro rfl True.intro))))) (by exact And.intro rfl True.intro) ?_
      refine sw_reg ?_
      refine RunS.step (by exact True.intro) (by exact True.intro) (LocG.of rfl (loc_const (.inr rfl) (by decide) (ok_sc rfl))) nofree ?_
      refine sw_ret ?_
      exact (And.intro (by refine bool_eq ?_; simp [id, all_no (P := okRow) hlt hno]) True.intro)
    · try simp only [decide_eq_true_eq, decide_eq_false_iff_not, bne_iff_ne, beq_iff_eq, Bool.not_eq_true', Bool.not_eq_false', ne_eq, bne_eq_false_iff_eq, beq_eq_false_iff_ne] at hb2
      have hyes : okRow x[k] = true := by simpa [] using hb2
      refine sw_skip ?_
      refine sw_of (l := [(0, RV.sv false [PV.sl _ _]), (4, RV.ptr 4 0), (5, RV.sv false [PV.sl _ _]), (6, RV.sv false [PV.val _]), (7, RV.sv false [PV.val _])]) (b := [(4, (57, [PV.val _, PV.sl _ _]))]) (by exact And.intro rfl (And.intro rfl (And.intro rfl (And.intro rfl (And.intro rfl True.intro))))) (by exact And.intro rfl True.intro) ?_
      refine sw_reg ?_
      refine RunS.step (by exact And.intro rfl True.intro) (by exact True.intro) (LocG.of rfl (loc_add (by decide) (by exact True.intro) (ok_sc rfl) (by unfold I64; omega))) nofree ?_
      refine RunS.step (by exact And.intro rfl True.intro) (by exact True.intro) (LocG.of rfl (loc_copy (.inl rfl) (by decide) (by exact Cp.sc))) nofree ?_
      refine Exists.intro (k + 1) (And.intro (by exact ⟨by omega, all_succ ha hlt hyes⟩) (And.intro (by omega) (And.intro (And.intro (by exact And.intro rfl (And.intro rfl (And.intro rfl True.intro))) (by exact True.intro)) (And.intro (by exact And.intro (by exact rfl) (True.intro)) (by exact True.intro)))))
  · try simp only [decide_eq_true_eq, decide_eq_false_iff_not, bne_iff_ne, beq_iff_eq, Bool.not_eq_true', Bool.not_eq_false', ne_eq, bne_eq_false_iff_eq, beq_eq_false_iff_ne] at hb1
    have hall : x.all okRow = true := all_end (by rw [show x.length = k by omega]; exact ha)
    refine sw_exit ?_
    refine sw_seq ?_
    refine sw_of (l := [(0, RV.sv false [PV.sl _ _]), (5, RV.sv false [PV.sl _ _]), (6, RV.sv false [PV.val _]), (7, RV.sv false [PV.val _])]) (b := []) (by exact And.intro rfl (And.intro rfl (And.intro rfl (And.intro rfl True.intro)))) (by exact True.intro) ?_
    refine sw_reg ?_
    refine RunS.step (by exact True.intro) (by exact True.intro) (LocG.of rfl (loc_const (.inr rfl) (by decide) (ok_sc rfl))) nofree ?_
    refine sw_ret ?_
    exact (And.intro (by refine bool_eq ?_; simp [id, hall, *]) True.intro)
theorem impl_resultOk {p1 : Fl} {x : List Row}  : SCall Try.prog 157 [(false, [PV.sl .v (x.map (cRow p1))])] (resRV [(false, [PV.val (.bool (okRows x))])]) := by
  refine scall_of (rs := [(false, [PV.val (.bool (okRows x))])]) Try.func157 rfl (Nat.le_of_ble_eq_true rfl) (borA_cons (BorL.cons (PV.bor_sl _) BorL.nil) borA_nil) ?_
  intro h0 w0 Fz0
  refine sw_len (s := 0) rfl fun hl0 => ?_
  try rw [List.length_map] at hl0
  refine sw_seq ?_
  refine sw_reg ?_
  refine RunS.step (by exact True.intro) (by exact True.intro) (LocG.of rfl (loc_const (.inr rfl) (by decide) (ok_sc rfl))) nofree ?_
  refine sw_seq ?_
  refine sw_of (l := [(0, RV.sv false [PV.sl _ _]), (2, RV.sv false [PV.val _])]) (b := []) (by exact And.intro rfl (And.intro rfl True.intro)) (by exact True.intro) ?_
  refine sw_reg ?_
  refine RunS.step (by exact And.intro rfl True.intro) (by exact True.intro) (LocG.of rfl (loc_copy (r' := RV.sv false [PV.sl .v _]) (.inl rfl) (by decide) (by exact Cp.sv (ToL.cons PV.to_none ToL.nil) (BorL.cons (PV.bor_sl _) BorL.nil)))) nofree ?_
  refine RunS.step (by exact And.intro rfl True.intro) (by exact True.intro) (LocG.of rfl (loc_len (by decide) sl_25 (by first | exact List.length_map _ | exact rfl))) nofree ?_
  refine RunS.step (by exact And.intro rfl True.intro) (by exact True.intro) (LocG.of rfl (loc_leq (by decide) (by exact True.intro) (ok_sc rfl))) nofree ?_
  refine RunS.step (by exact And.intro rfl True.intro) (by exact True.intro) (LocG.of rfl (loc_copy (.inl rfl) (by decide) (by exact Cp.sc))) nofree ?_
  refine RunS.cases (s := 6) rfl (fun g1 => ?_) (fun g1 => ?_)
  · refine RunS.step (by exact And.intro rfl (And.intro rfl True.intro)) (by exact True.intro) (LocG.yes rfl rfl (by decide) g1 (loc_copy (r' := RV.sv false [PV.sl .v _]) (.inl rfl) (by decide) (by exact Cp.sv (ToL.cons PV.to_none ToL.nil) (BorL.cons (PV.bor_sl _) BorL.nil)))) nofree ?_
    refine RunS.step (by exact And.intro rfl (And.intro rfl True.intro)) (by exact True.intro) (LocG.yes rfl rfl (by decide) g1 (loc_call (qs := [(false, [PV.sl _ _])]) (as_ := [(false, [PV.sl .v _])]) (by decide) c_181 (by exact (And.intro (by exact True.intro) True.intro)) (by exact (And.intro (And.intro rfl (ToL.cons PV.to_none ToL.nil)) True.intro)) (by exact impl_allRows))) nofree ?_
    refine RunS.step (by exact And.intro rfl (And.intro rfl True.intro)) (by exact True.intro) (LocG.of rfl (loc_pick (z := .tmp 8) (by decide) (by rw [g1]; rfl) (by exact True.intro) (by exact True.intro) (by exact Cp.sc))) nofree ?_
    refine RunS.step (by exact And.intro rfl True.intro) (by exact True.intro) (LocG.of rfl (loc_copy (.inr rfl) (by decide) (by exact Cp.sc))) nofree ?_
    refine sw_ret ?_
    exact (And.intro (by refine bool_eq ?_; simp [okRows, *]) True.intro)
  · refine RunS.step (by exact And.intro rfl True.intro) (by exact True.intro) (LocG.no (ops := _) rfl rfl (by decide) g1 rfl) nofree ?_
    refine RunS.step (by exact And.intro rfl True.intro) (by exact True.intro) (LocG.no (ops := _) rfl rfl (by decide) g1 rfl) nofree ?_
    refine RunS.step (by exact And.intro rfl True.intro) (by exact True.intro) (LocG.of rfl (loc_pick (z := .const (.bool false)) (by decide) (by rw [g1]; rfl) (by exact True.intro) (ok_sc rfl) (by exact Cp.sc))) nofree ?_
    refine RunS.step (by exact And.intro rfl True.intro) (by exact True.intro) (LocG.of rfl (loc_copy (.inr rfl) (by decide) (by exact Cp.sc))) nofree ?_
    refine sw_ret ?_
    exact (And.intro (by refine bool_eq ?_; simp [okRows, *]) True.intro)
theorem spec_l9List {p1 : Fl} {x : List Row}  : SCall Try.prog 151 [(false, [PV.sl .v (x.map (cRow p1))])] (resRV [(false, [PV.val (.bool (okRows x))])]) := by
  refine scall_of (rs := [(false, [PV.val (.bool (okRows x))])]) Try.func151 rfl (Nat.le_of_ble_eq_true rfl) (borA_cons (BorL.cons (PV.bor_sl _) BorL.nil) borA_nil) ?_
  intro h0 w0 Fz0
  refine sw_len (s := 0) rfl fun hl0 => ?_
  try rw [List.length_map] at hl0
  refine sw_seq ?_
  refine sw_reg ?_
  refine RunS.step (by exact True.intro) (by exact True.intro) (LocG.of rfl (loc_const (.inr rfl) (by decide) (ok_sc rfl))) nofree ?_
  refine sw_seq ?_
  refine sw_seq ?_
  refine sw_of (l := [(0, RV.sv false [PV.sl _ _]), (2, RV.sv false [PV.val _])]) (b := []) (by exact And.intro rfl (And.intro rfl True.intro)) (by exact True.intro) ?_
  refine sw_reg ?_
  refine RunS.step (by exact True.intro) (by exact True.intro) (LocG.of rfl (loc_const (.inr rfl) (by decide) (ok_sc rfl))) nofree ?_
  refine sw_block ?_
  refine sw_of (l := [(0, RV.sv false [PV.sl _ _]), (2, RV.sv false [PV.val _]), (3, RV.sv false [PV.val _])]) (b := []) (by exact And.intro rfl (And.intro rfl (And.intro rfl True.intro))) (by exact True.intro) ?_
  refine sw_loop (l0 := [(0, RV.sv false [PV.sl _ _])]) (b0 := []) (fun k : Nat => k ≤ x.length ∧ (x.take k).all okRow = true) (fun k : Nat => [(3, RV.int (k : Int))]) (fun k : Nat => []) (fun k : Nat => x.length - k) 0 (by exact ⟨by omega, by simp⟩) (by exact And.intro rfl True.intro) (by exact True.intro) (by exact And.intro (by exact rfl) (True.intro)) (by exact True.intro) ?_
  rintro k ⟨hk, ha⟩
  refine sw_seq ?_
  refine sw_seq ?_
  refine sw_reg ?_
  refine RunS.step (by exact And.intro rfl True.intro) (by exact True.intro) (LocG.of rfl (loc_copy (.inl rfl) (by decide) (by exact Cp.sc))) nofree ?_
  refine RunS.step (by exact And.intro rfl True.intro) (by exact True.intro) (LocG.of rfl (loc_copy (r' := RV.sv false [PV.sl .v _]) (.inl rfl) (by decide) (by exact Cp.sv (ToL.cons PV.to_none ToL.nil) (BorL.cons (PV.bor_sl _) BorL.nil)))) nofree ?_
  refine RunS.step (by exact And.intro rfl True.intro) (by exact True.intro) (LocG.of rfl (loc_len (by decide) sl_25 (by first | exact List.length_map _ | exact rfl))) nofree ?_
  refine RunS.step (by exact And.intro rfl (And.intro rfl True.intro)) (by exact True.intro) (LocG.of rfl (loc_lss (by decide) (by exact True.intro) (by exact True.intro))) nofree ?_
  refine sw_cond (t := 7) rfl (fun hb1 => ?_) (fun hb1 => ?_)
  · try simp only [decide_eq_true_eq, decide_eq_false_iff_not, bne_iff_ne, beq_iff_eq, Bool.not_eq_true', Bool.not_eq_false', ne_eq, bne_eq_false_iff_eq, beq_eq_false_iff_ne] at hb1
    have hlt : k < x.length := by omega
    refine sw_skip ?_
    refine sw_seq ?_
    refine sw_block ?_
    refine sw_seq ?_
    refine sw_of (l := [(0, RV.sv false [PV.sl _ _]), (3, RV.sv false [PV.val _])]) (b := []) (by exact And.intro rfl (And.intro rfl True.intro)) (by exact True.intro) ?_
    refine sw_reg ?_
    refine RunS.step (by exact And.intro rfl True.intro) (by exact True.intro) (LocG.of rfl (loc_copy (r' := RV.sv false [PV.sl .v _]) (.inl rfl) (by decide) (by exact Cp.sv (ToL.cons PV.to_none ToL.nil) (BorL.cons (PV.bor_sl _) BorL.nil)))) nofree ?_
    refine RunS.step (by exact And.intro rfl True.intro) (by exact True.intro) (LocG.of rfl (loc_copy (.inl rfl) (by decide) (by exact Cp.sc))) nofree ?_
    refine RunS.step (by exact And.intro rfl (And.intro rfl True.intro)) (by exact True.intro) (LocG.of rfl (loc_index (by decide) sl_25 (by exact True.intro) (by exact rfl) (by exact getm2 (by omega) rfl) (by exact rfl))) nofree ?_
    refine RunS.step (by exact And.intro rfl True.intro) (by exact True.intro) (LocG.of rfl (loc_eload (qs := [PV.val _, PV.sl .v _]) (by decide) ty_57 (fun h => nomatch h) (by exact Nat.le_of_ble_eq_true rfl) (by exact (ToL.cons (PV.To.refl _) (ToL.cons PV.to_none ToL.nil))) (by exact (BorL.cons (PV.bor_val _) (BorL.cons (PV.bor_sl _) BorL.nil))))) nofree ?_
    refine RunS.step (by exact And.intro rfl True.intro) (by exact True.intro) (LocG.of rfl (loc_call (qs := [(true, [PV.val _, PV.sl _ _])]) (as_ := [(true, [PV.val _, PV.sl .v _])]) (by decide) c_54 (by exact (And.intro (by exact True.intro) True.intro)) (by exact (And.intro (And.intro rfl (ToL.cons (PV.To.refl _) (ToL.cons PV.to_none ToL.nil))) True.intro)) (by exact spec_IsRow))) nofree ?_
    refine RunS.step (by exact And.intro rfl True.intro) (by exact True.intro) (LocG.of rfl (loc_not (by decide))) nofree ?_
    refine sw_cond (t := 15) rfl (fun hb2 => ?_) (fun hb2 => ?_)
    · try simp only [decide_eq_true_eq, decide_eq_false_iff_not, bne_iff_ne, beq_iff_eq, Bool.not_eq_true', Bool.not_eq_false', ne_eq, bne_eq_false_iff_eq, beq_eq_false_iff_ne] at hb2
      have hno : okRow x[k] = false := by simpa [] using hb2
      refine sw_seq ?_
      refine sw_of (l := [(0, RV.sv false [PV.sl _ _]), (3, RV.sv false [PV.val _])]) (b := []) (by exact And.intro rfl (And.intro rfl True.intro)) (by exact True.intro) ?_
      refine sw_reg ?_
      refine RunS.step (by exact True.intro) (by exact True.intro) (LocG.of rfl (loc_const (.inr rfl) (by decide) (ok_sc rfl))) nofree ?_
      refine sw_ret ?_
      exact (And.intro (by refine bool_eq ?_; simp [okRows, all_no (P := okRow) hlt hno]) True.intro)
    · try simp only [decide_eq_true_eq, decide_eq_false_iff_not, bne_iff_ne, beq_iff_eq, Bool.not_eq_true', Bool.not_eq_false', ne_eq, bne_eq_false_iff_eq, beq_eq_false_iff_ne] at hb2
      have hyes : okRow x[k] = true := by simpa [] using hb2
      refine sw_skip ?_
      refine sw_of (l := [(0, RV.sv false [PV.sl _ _]), (3, RV.sv false [PV.val _])]) (b := []) (by exact And.intro rfl (And.intro rfl True.intro)) (by exact True.intro) ?_
      refine sw_reg ?_
      refine RunS.step (by exact And.intro rfl True.intro) (by exact True.intro) (LocG.of rfl (loc_copy (.inl rfl) (by decide) (by exact Cp.sc))) nofree ?_
      refine RunS.step (by exact And.intro rfl True.intro) (by exact True.intro) (LocG.of rfl (loc_add (by decide) (by exact True.intro) (ok_sc rfl) (by unfold I64; omega))) nofree ?_
      refine RunS.step (by exact And.intro rfl True.intro) (by exact True.intro) (LocG.of rfl (loc_copy (.inr rfl) (by decide) (by exact Cp.sc))) nofree ?_
      refine Exists.intro (k + 1) (And.intro (by exact ⟨by omega, all_succ ha hlt hyes⟩) (And.intro (by omega) (And.intro (And.intro (by exact And.intro rfl True.intro) (by exact True.intro)) (And.intro (by exact And.intro (by exact rfl) (True.intro)) (by exact True.intro)))))
  · try simp only [decide_eq_true_eq, decide_eq_false_iff_not, bne_iff_ne, beq_iff_eq, Bool.not_eq_true', Bool.not_eq_false', ne_eq, bne_eq_false_iff_eq, beq_eq_false_iff_ne] at hb1
    have hall : x.all okRow = true := all_end (by rw [show x.length = k by omega]; exact ha)
    refine sw_exit ?_
    refine sw_seq ?_
    refine sw_of (l := [(0, RV.sv false [PV.sl _ _]), (3, RV.sv false [PV.val _])]) (b := []) (by exact And.intro rfl (And.intro rfl True.intro)) (by exact True.intro) ?_
    refine sw_reg ?_
    refine RunS.step (by exact And.intro rfl True.intro) (by exact True.intro) (LocG.of rfl (loc_copy (r' := RV.sv false [PV.sl .v _]) (.inl rfl) (by decide) (by exact Cp.sv (ToL.cons PV.to_none ToL.nil) (BorL.cons (PV.bor_sl _) BorL.nil)))) nofree ?_
    refine RunS.step (by exact And.intro rfl True.intro) (by exact True.intro) (LocG.of rfl (loc_len (by decide) sl_25 (by first | exact List.length_map _ | exact rfl))) nofree ?_
    refine RunS.step (by exact And.intro rfl True.intro) (by exact True.intro) (LocG.of rfl (loc_leq (by decide) (by exact True.intro) (ok_sc rfl))) nofree ?_
    refine RunS.step (by exact And.intro rfl True.intro) (by exact True.intro) (LocG.of rfl (loc_copy (.inr rfl) (by decide) (by exact Cp.sc))) nofree ?_
    refine sw_ret ?_
    exact (And.intro (by refine bool_eq ?_; simp [okRows, hall, *]) True.intro)
theorem impl_copyRow {x : Row}  (hb : wtRow x ≤ 68719476736) : SCall Try.prog 103 [(true, [PV.val (vI x.Id), PV.sl .v (x.Values.map cInt)])] (resRV [(true, [PV.val (vI x.Id), PV.sl (.own 3 1) (x.Values.map cInt)])]) := by
  refine scall_of (rs := [(true, [PV.val (vI x.Id), PV.sl (.own 3 1) (x.Values.map cInt)])]) Try.func103 rfl (Nat.le_of_ble_eq_true rfl) (borA_cons (BorL.cons (PV.bor_val _) (BorL.cons (PV.bor_sl _) BorL.nil)) borA_nil) ?_
  intro h0 w0 Fz0
  refine sw_slen (s := 0) (j := 1) rfl rfl fun hl0_1 => ?_
  try rw [List.length_map] at hl0_1
  have hbu := hb
  simp only [wtRow, wtIntS_len, wtInt] at hbu
  refine sw_seq ?_
  refine sw_reg ?_
  refine RunS.step (by exact And.intro rfl True.intro) (by exact True.intro) (LocG.of rfl (loc_box (ag := true) (cs := [PV.val _, PV.sl _ _]) (by decide) (by exact True.intro))) (free1 (Free.of_ rfl)) ?_
  refine RunS.step (by exact True.intro) (by exact True.intro) (LocG.of rfl (loc_alloc (by decide) z_57 zo_57)) (free1 (Free.app (Free.of_ rfl) rfl)) ?_
  refine sw_seq ?_
  refine sw_of (l := [(1, RV.ptr 1 0), (2, RV.ptr 2 0)]) (b := [(1, (57, [PV.val _, PV.sl _ _])), (2, (57, [PV.val _, PV.sl _ _]))]) (by exact And.intro rfl (And.intro rfl True.intro)) (by exact And.intro rfl (And.intro rfl True.intro)) ?_
  refine sw_draw hm_ ?_
  refine Run.step 0 (by exact And.intro rfl True.intro) (by exact True.intro) (LocG.of rfl (loc_field (by decide) fd_57_0)) nofree (by kernel_rfl) ?_
  refine Run.step 1 (by exact And.intro rfl True.intro) (by exact And.intro rfl True.intro) (LocG.of rfl (loc_load (qs := [PV.val _]) (by decide) ty_3 (fun _ => rfl) (by exact Nat.le_of_ble_eq_true rfl) (by exact (ToL.cons (PV.To.refl _) ToL.nil)) (by exact (BorL.cons (PV.bor_val _) BorL.nil)))) nofree (by kernel_rfl) ?_
  refine Run.step 0 (by exact And.intro rfl True.intro) (by exact True.intro) (LocG.of rfl (loc_field (by decide) fd_57_1)) nofree (by kernel_rfl) ?_
  refine Run.step 4 (by exact And.intro rfl True.intro) (by exact And.intro rfl True.intro) (LocG.of rfl (loc_load (qs := [PV.sl .v _]) (by decide) ty_23 (fun _ => rfl) (by exact Nat.le_of_ble_eq_true rfl) (by exact (ToL.cons PV.to_none ToL.nil)) (by exact (BorL.cons (PV.bor_sl _) BorL.nil)))) nofree (by kernel_rfl) ?_
  refine Run.step 12 (by exact And.intro rfl True.intro) (by exact True.intro) (LocG.of rfl (loc_call (qs := [(false, [PV.sl _ _])]) (as_ := [(false, [PV.sl .v _])]) (by decide) c_104 (by exact (And.intro (by exact True.intro) True.intro)) (by exact (And.intro (And.intro rfl (ToL.cons PV.to_none ToL.nil)) True.intro)) (by exact impl_copyInts (by omega)))) nofree (by kernel_rfl) ?_
  refine Run.step 31 (by exact And.intro rfl (And.intro rfl True.intro)) (by exact True.intro) (LocG.of rfl (loc_build (qs := [(false, [PV.val _]), (false, [PV.sl _ _])]) (cs := [PV.val _, PV.sl _ _]) (by decide) z_57 zo_57 pl_57 (by exact rfl) (by exact (And.intro (by exact True.intro) (And.intro (by exact True.intro) True.intro))) rfl (by exact rfl))) nofree (by kernel_rfl) ?_
  refine Run.step 63 (by exact And.intro rfl (And.intro rfl True.intro)) (by exact And.intro rfl True.intro) (LocG.of rfl (loc_store (ag := true) (vs := [PV.val _, PV.sl _ _]) ty_57 (by exact True.intro) (by exact rfl) (by exact Nat.le_of_ble_eq_true rfl))) nofree (by kernel_rfl) ?_
  refine sw_ret ?_
  exact (Exists.intro 2 (Exists.intro _ (And.intro (by exact rfl) (And.intro (by exact rfl) (And.intro ty_57 (And.intro (fun h => nomatch h) True.intro))))))
theorem spec_l3Copy {x : Row}  (hb : wtRow x ≤ 68719476736) : SCall Try.prog 127 [(true, [PV.val (vI x.Id), PV.sl .v (x.Values.map cInt)])] (resRV [(true, [PV.val (vI x.Id), PV.sl (.own 3 1) (x.Values.map cInt)])]) := by
  refine scall_of (rs := [(true, [PV.val (vI x.Id), PV.sl (.own 3 1) (x.Values.map cInt)])]) Try.func127 rfl (Nat.le_of_ble_eq_true rfl) (borA_cons (BorL.cons (PV.bor_val _) (BorL.cons (PV.bor_sl _) BorL.nil)) borA_nil) ?_
  intro h0 w0 Fz0
  refine sw_slen (s := 0) (j := 1) rfl rfl fun hl0_1 => ?_
  try rw [List.length_map] at hl0_1
  have hbu := hb
  simp only [wtRow, wtIntS_len, wtInt] at hbu
  refine sw_seq ?_
  refine sw_reg ?_
  refine RunS.step (by exact And.intro rfl True.intro) (by exact True.intro) (LocG.of rfl (loc_box (ag := true) (cs := [PV.val _, PV.sl _ _]) (by decide) (by exact True.intro))) (free1 (Free.of_ rfl)) ?_
  refine RunS.step (by exact True.intro) (by exact True.intro) (LocG.of rfl (loc_alloc (by decide) z_57 zo_57)) (free1 (Free.app (Free.of_ rfl) rfl)) ?_
  refine sw_seq ?_
  refine sw_of (l := [(1, RV.ptr 1 0), (2, RV.ptr 2 0)]) (b := [(1, (57, [PV.val _, PV.sl _ _])), (2, (57, [PV.val _, PV.sl _ _]))]) (by exact And.intro rfl (And.intro rfl True.intro)) (by exact And.intro rfl (And.intro rfl True.intro)) ?_
  refine sw_draw hm_ ?_
  refine Run.step 0 (by exact And.intro rfl True.intro) (by exact True.intro) (LocG.of rfl (loc_field (by decide) fd_57_0)) nofree (by kernel_rfl) ?_
  refine Run.step 1 (by exact And.intro rfl True.intro) (by exact And.intro rfl True.intro) (LocG.of rfl (loc_load (qs := [PV.val _]) (by decide) ty_3 (fun _ => rfl) (by exact Nat.le_of_ble_eq_true rfl) (by exact (ToL.cons (PV.To.refl _) ToL.nil)) (by exact (BorL.cons (PV.bor_val _) BorL.nil)))) nofree (by kernel_rfl) ?_
  refine Run.step 0 (by exact True.intro) (by exact True.intro) (LocG.of rfl (loc_bslice (qs := []) (by decide) sl_23 z_3 (by decide) rfl rfl rfl rfl rfl (by exact Nat.le_of_ble_eq_true rfl) (by exact True.intro) rfl)) nofree (by kernel_rfl) ?_
  refine Run.step 0 (by exact And.intro rfl True.intro) (by exact True.intro) (LocG.of rfl (loc_field (by decide) fd_57_1)) nofree (by kernel_rfl) ?_
  refine Run.step 8 (by exact And.intro rfl True.intro) (by exact And.intro rfl True.intro) (LocG.of rfl (loc_load (qs := [PV.sl .v _]) (by decide) ty_23 (fun _ => rfl) (by exact Nat.le_of_ble_eq_true rfl) (by exact (ToL.cons PV.to_none ToL.nil)) (by exact (BorL.cons (PV.bor_sl _) BorL.nil)))) nofree (by kernel_rfl) ?_
  refine Run.step 28 (by exact And.intro rfl (And.intro rfl True.intro)) (by exact True.intro) (LocG.of rfl (loc_appendb (by decide) sl_23 z_3 rfl rfl (by decide) (by first | (intro cs hcs; obtain ⟨x, _, rfl⟩ := List.mem_map.1 hcs; exact rfl) | simp) (by first | (intro cs hcs; obtain ⟨x, _, rfl⟩ := List.mem_map.1 hcs; exact (BorL.cons (PV.bor_val _) BorL.nil)) | simp) (by simp only [List.length_map, List.length_append, List.length_cons, List.length_nil]; omega) (by simp only [List.length_map, List.length_append, List.length_cons, List.length_nil]; omega))) nofree (by kernel_rfl) ?_
  refine Run.step 63 (by exact And.intro rfl (And.intro rfl True.intro)) (by exact True.intro) (LocG.of rfl (loc_build (qs := [(false, [PV.val _]), (false, [PV.sl _ _])]) (cs := [PV.val _, PV.sl _ _]) (by decide) z_57 zo_57 pl_57 (by exact rfl) (by exact (And.intro (by exact True.intro) (And.intro (by exact True.intro) True.intro))) rfl (by exact rfl))) nofree (by kernel_rfl) ?_
  refine Run.step 127 (by exact And.intro rfl (And.intro rfl True.intro)) (by exact And.intro rfl True.intro) (LocG.of rfl (loc_store (ag := true) (vs := [PV.val _, PV.sl _ _]) ty_57 (by exact True.intro) (by exact rfl) (by exact Nat.le_of_ble_eq_true rfl))) nofree (by kernel_rfl) ?_
  refine sw_ret ?_
  exact (Exists.intro 2 (Exists.intro _ (And.intro (by exact rfl) (And.intro (by exact rfl) (And.intro ty_57 (And.intro (fun h => nomatch h) True.intro))))))
theorem impl_copyRows {p1 : Fl} {x : List Row}  (hb : wtRowS x ≤ 68719476736) : SCall Try.prog 158 [(false, [PV.sl .v (x.map (cRow p1))])] (resRV [(false, [PV.sl (.own 57 2) (x.map (cRow (.own 3 1)))])]) := by
  refine scall_of (rs := [(false, [PV.sl (.own 57 2) (x.map (cRow (.own 3 1)))])]) Try.func158 rfl (Nat.le_of_ble_eq_true rfl) (borA_cons (BorL.cons (PV.bor_sl _) BorL.nil) borA_nil) ?_
  intro h0 w0 Fz0
  refine sw_len (s := 0) rfl fun hl0 => ?_
  try rw [List.length_map] at hl0
  have hbu := hb
  simp only [wtRowS] at hbu
  refine sw_seq ?_
  refine sw_reg ?_
  refine RunS.step (by exact True.intro) (by exact True.intro) (LocG.of rfl (loc_const (.inr rfl) (by decide) (ok_nil (t := 57) (e := 2)))) nofree ?_
  refine sw_seq ?_
  refine sw_of (l := [(0, RV.sv false [PV.sl _ _]), (2, RV.sv false [PV.sl _ _])]) (b := []) (by exact And.intro rfl (And.intro rfl True.intro)) (by exact True.intro) ?_
  refine sw_reg ?_
  refine RunS.step (by exact True.intro) (by exact True.intro) (LocG.of rfl (loc_bslice (qs := []) (by decide) sl_25 z_57 (by decide) rfl rfl rfl rfl rfl (by exact Nat.le_of_ble_eq_true rfl) (by exact True.intro) rfl)) nofree ?_
  refine RunS.step (by exact And.intro rfl True.intro) (by exact True.intro) (LocG.of rfl (loc_take (.inr rfl) (by decide))) nofree ?_
  refine sw_seq ?_
  refine sw_seq ?_
  refine sw_of (l := [(0, RV.sv false [PV.sl _ _]), (2, RV.sv false [PV.sl _ _]), (3, RV.sv false [PV.sl _ _])]) (b := []) (by exact And.intro rfl (And.intro rfl (And.intro rfl True.intro))) (by exact True.intro) ?_
  refine sw_reg ?_
  refine RunS.step (by exact And.intro rfl True.intro) (by exact True.intro) (LocG.of rfl (loc_copy (r' := RV.sv false [PV.sl .v _]) (.inl rfl) (by decide) (by exact Cp.sv (ToL.cons PV.to_none ToL.nil) (BorL.cons (PV.bor_sl _) BorL.nil)))) nofree ?_
  refine RunS.step (by exact And.intro rfl True.intro) (by exact True.intro) (LocG.of rfl (loc_len (by decide) sl_25 (by first | exact List.length_map _ | exact rfl))) nofree ?_
  refine RunS.step (by exact True.intro) (by exact True.intro) (LocG.of rfl (loc_const (.inl rfl) (by decide) (ok_sc rfl))) nofree ?_
  refine sw_block ?_
  refine sw_of (l := [(0, RV.sv false [PV.sl _ _]), (2, RV.sv false [PV.sl _ _]), (3, RV.sv false [PV.sl _ _]), (7, RV.sv false [PV.sl _ _]), (8, RV.sv false [PV.val _]), (9, RV.sv false [PV.val _])]) (b := []) (by exact And.intro rfl (And.intro rfl (And.intro rfl (And.intro rfl (And.intro rfl (And.intro rfl True.intro)))))) (by exact True.intro) ?_
  refine sw_loop (l0 := [(0, RV.sv false [PV.sl _ _]), (2, RV.sv false [PV.sl _ _]), (7, RV.sv false [PV.sl _ _]), (8, RV.sv false [PV.val _])]) (b0 := []) (fun k : Nat => k ≤ x.length) (fun k : Nat => [(3, RV.slc (.own 57 2) ((x.take k).map (cRow (.own 3 1)))), (9, RV.int (k : Int))]) (fun k : Nat => []) (fun k : Nat => x.length - k) 0 (by omega) (by exact And.intro rfl (And.intro rfl (And.intro rfl (And.intro rfl True.intro)))) (by exact True.intro) (by exact And.intro (by first | exact rfl | simp) (And.intro (by exact rfl) (True.intro))) (by exact True.intro) ?_
  rintro k hk
  refine sw_seq ?_
  refine sw_reg ?_
  refine RunS.step (by exact And.intro rfl (And.intro rfl True.intro)) (by exact True.intro) (LocG.of rfl (loc_lss (by decide) (by exact True.intro) (by exact True.intro))) nofree ?_
  refine sw_seq ?_
  refine sw_cond (t := 10) rfl (fun hb1 => ?_) (fun hb1 => ?_)
  · try simp only [decide_eq_true_eq, decide_eq_false_iff_not, bne_iff_ne, beq_iff_eq, Bool.not_eq_true', Bool.not_eq_false', ne_eq, bne_eq_false_iff_eq, beq_eq_false_iff_ne] at hb1
    have hlt : k < x.length := by omega
    have hwm := wt_mem (f := wtRow) hlt
    have htl : (x.take k).length = k := by rw [List.length_take]; omega
    refine sw_skip ?_
    refine sw_seq ?_
    refine sw_block ?_
    refine sw_seq ?_
    refine sw_of (l := [(0, RV.sv false [PV.sl _ _]), (2, RV.sv false [PV.sl _ _]), (3, RV.sv false [PV.sl _ _]), (7, RV.sv false [PV.sl _ _]), (8, RV.sv false [PV.val _]), (9, RV.sv false [PV.val _])]) (b := []) (by exact And.intro rfl (And.intro rfl (And.intro rfl (And.intro rfl (And.intro rfl (And.intro rfl True.intro)))))) (by exact True.intro) ?_
    refine sw_reg ?_
    refine RunS.step (by exact And.intro rfl (And.intro rfl True.intro)) (by exact True.intro) (LocG.of rfl (loc_index (by decide) sl_25 (by exact True.intro) (by exact rfl) (by exact getm2 (by omega) rfl) (by exact rfl))) nofree ?_
    refine RunS.step (by exact And.intro rfl True.intro) (by exact True.intro) (LocG.of rfl (loc_eload (qs := [PV.val _, PV.sl .v _]) (by decide) ty_57 (fun h => nomatch h) (by exact Nat.le_of_ble_eq_true rfl) (by exact (ToL.cons (PV.To.refl _) (ToL.cons PV.to_none ToL.nil))) (by exact (BorL.cons (PV.bor_val _) (BorL.cons (PV.bor_sl _) BorL.nil))))) nofree ?_
    refine RunS.step (by exact True.intro) (by exact True.intro) (LocG.of rfl (loc_alloc (by decide) z_57 zo_57)) (free1 (Free.app (Free.app (Free.of_ rfl) rfl) rfl)) ?_
    refine RunS.step (by exact And.intro rfl (And.intro rfl True.intro)) (by exact And.intro rfl True.intro) (LocG.of rfl (loc_store (ag := true) (vs := [PV.val _, PV.sl _ _]) ty_57 (by exact True.intro) (by exact rfl) (by exact Nat.le_of_ble_eq_true rfl))) nofree ?_
    refine sw_of (l := [(0, RV.sv false [PV.sl _ _]), (2, RV.sv false [PV.sl _ _]), (3, RV.sv false [PV.sl _ _]), (5, RV.ptr 5 0), (7, RV.sv false [PV.sl _ _]), (8, RV.sv false [PV.val _]), (9, RV.sv false [PV.val _])]) (b := [(5, (57, [PV.val _, PV.sl _ _]))]) (by exact And.intro rfl (And.intro rfl (And.intro rfl (And.intro rfl (And.intro rfl (And.intro rfl (And.intro rfl True.intro))))))) (by exact And.intro rfl True.intro) ?_
    refine sw_reg ?_
    refine RunS.step (by exact And.intro rfl True.intro) (by exact True.intro) (LocG.of rfl (loc_take (.inl rfl) (by decide))) nofree ?_
    refine RunS.step (by exact And.intro rfl True.intro) (by exact And.intro rfl True.intro) (LocG.of rfl (loc_load (qs := [PV.val _, PV.sl .v _]) (by decide) ty_57 (fun h => nomatch h) (by exact Nat.le_of_ble_eq_true rfl) (by exact (ToL.cons (PV.To.refl _) (ToL.cons PV.to_none ToL.nil))) (by exact (BorL.cons (PV.bor_val _) (BorL.cons (PV.bor_sl _) BorL.nil))))) nofree ?_
    refine RunS.step (by exact And.intro rfl True.intro) (by exact True.intro) (LocG.of rfl (loc_call (qs := [(true, [PV.val _, PV.sl _ _])]) (as_ := [(true, [PV.val _, PV.sl .v _])]) (by decide) c_103 (by exact (And.intro (by exact True.intro) True.intro)) (by exact (And.intro (And.intro rfl (ToL.cons (PV.To.refl _) (ToL.cons PV.to_none ToL.nil))) True.intro)) (by exact impl_copyRow (by omega)))) nofree ?_
    refine RunS.step (by exact And.intro rfl True.intro) (by exact True.intro) (LocG.of rfl (loc_bslice (qs := [(true, [PV.val _, PV.sl _ _])]) (by decide) sl_25 z_57 (by decide) rfl rfl rfl rfl rfl (by exact Nat.le_of_ble_eq_true rfl) (by exact (And.intro (by exact True.intro) True.intro)) rfl)) nofree ?_
    refine RunS.step (by exact And.intro rfl (And.intro rfl True.intro)) (by exact True.intro) (LocG.of rfl (loc_append (by decide) sl_25 z_57 rfl rfl (by decide) rfl (by simp only [List.length_map, List.length_append, List.length_cons, List.length_nil]; omega) (by simp only [List.length_map, List.length_append, List.length_cons, List.length_nil]; omega))) nofree ?_
    refine RunS.step (by exact And.intro rfl True.intro) (by exact True.intro) (LocG.of rfl (loc_take (.inr rfl) (by decide))) nofree ?_
    refine sw_of (l := [(0, RV.sv false [PV.sl _ _]), (2, RV.sv false [PV.sl _ _]), (3, RV.sv false [PV.sl _ _]), (5, RV.ptr 5 0), (7, RV.sv false [PV.sl _ _]), (8, RV.sv false [PV.val _]), (9, RV.sv false [PV.val _])]) (b := [(5, (57, [PV.val _, PV.sl _ _]))]) (by exact And.intro rfl (And.intro rfl (And.intro rfl (And.intro rfl (And.intro rfl (And.intro rfl (And.intro rfl True.intro))))))) (by exact And.intro rfl True.intro) ?_
    refine sw_reg ?_
    refine RunS.step (by exact And.intro rfl True.intro) (by exact True.intro) (LocG.of rfl (loc_add (by decide) (by exact True.intro) (ok_sc rfl) (by unfold I64; omega))) nofree ?_
    refine RunS.step (by exact And.intro rfl True.intro) (by exact True.intro) (LocG.of rfl (loc_copy (.inl rfl) (by decide) (by exact Cp.sc))) nofree ?_
    refine Exists.intro (k + 1) (And.intro (by omega) (And.intro (by omega) (And.intro (And.intro (by exact And.intro rfl (And.intro rfl (And.intro rfl (And.intro rfl True.intro)))) (by exact True.intro)) (And.intro (by exact And.intro (by exact slc_eq (by rw [tk_succ hlt, List.map_append]; rfl)) (And.intro (by exact rfl) (True.intro))) (by exact True.intro)))))
  · try simp only [decide_eq_true_eq, decide_eq_false_iff_not, bne_iff_ne, beq_iff_eq, Bool.not_eq_true', Bool.not_eq_false', ne_eq, bne_eq_false_iff_eq, beq_eq_false_iff_ne] at hb1
    have hend : k = x.length := by omega
    refine sw_exit ?_
    refine sw_seq ?_
    refine sw_of (l := [(0, RV.sv false [PV.sl _ _]), (2, RV.sv false [PV.sl _ _]), (3, RV.sv false [PV.sl _ _]), (7, RV.sv false [PV.sl _ _]), (8, RV.sv false [PV.val _]), (9, RV.sv false [PV.val _])]) (b := []) (by exact And.intro rfl (And.intro rfl (And.intro rfl (And.intro rfl (And.intro rfl (And.intro rfl True.intro)))))) (by exact True.intro) ?_
    refine sw_reg ?_
    refine RunS.step (by exact And.intro rfl True.intro) (by exact True.intro) (LocG.of rfl (loc_take (.inl rfl) (by decide))) nofree ?_
    refine RunS.step (by exact And.intro rfl True.intro) (by exact True.intro) (LocG.of rfl (loc_take (.inr rfl) (by decide))) nofree ?_
    refine sw_ret ?_
    exact (And.intro (by refine slc_eq ?_; rw [hend, List.take_length]) True.intro)
theorem spec_l9Rows {p1 : Fl} {x : List Row}  (hb : wtRowS x ≤ 68719476736) : SCall Try.prog 152 [(false, [PV.sl .v (x.map (cRow p1))])] (resRV [(false, [PV.sl (.own 57 2) (x.map (cRow (.own 3 1)))])]) := by
  refine scall_of (rs := [(false, [PV.sl (.own 57 2) (x.map (cRow (.own 3 1)))])]) Try.func152 rfl (Nat.le_of_ble_eq_true rfl) (borA_cons (BorL.cons (PV.bor_sl _) BorL.nil) borA_nil) ?_
  intro h0 w0 Fz0
  refine sw_len (s := 0) rfl fun hl0 => ?_
  try rw [List.length_map] at hl0
  have hbu := hb
  simp only [wtRowS] at hbu
  refine sw_seq ?_
  refine sw_reg ?_
  refine RunS.step (by exact True.intro) (by exact True.intro) (LocG.of rfl (loc_const (.inr rfl) (by decide) (ok_nil (t := 57) (e := 2)))) nofree ?_
  refine sw_seq ?_
  refine sw_of (l := [(0, RV.sv false [PV.sl _ _]), (2, RV.sv false [PV.sl _ _])]) (b := []) (by exact And.intro rfl (And.intro rfl True.intro)) (by exact True.intro) ?_
  refine sw_reg ?_
  refine RunS.step (by exact True.intro) (by exact True.intro) (LocG.of rfl (loc_bslice (qs := []) (by decide) sl_25 z_57 (by decide) rfl rfl rfl rfl rfl (by exact Nat.le_of_ble_eq_true rfl) (by exact True.intro) rfl)) nofree ?_
  refine RunS.step (by exact And.intro rfl True.intro) (by exact True.intro) (LocG.of rfl (loc_take (.inr rfl) (by decide))) nofree ?_
  refine sw_seq ?_
  refine sw_seq ?_
  refine sw_of (l := [(0, RV.sv false [PV.sl _ _]), (2, RV.sv false [PV.sl _ _]), (3, RV.sv false [PV.sl _ _])]) (b := []) (by exact And.intro rfl (And.intro rfl (And.intro rfl True.intro))) (by exact True.intro) ?_
  refine sw_reg ?_
  refine RunS.step (by exact True.intro) (by exact True.intro) (LocG.of rfl (loc_const (.inr rfl) (by decide) (ok_sc rfl))) nofree ?_
  refine sw_block ?_
  refine sw_of (l := [(0, RV.sv false [PV.sl _ _]), (2, RV.sv false [PV.sl _ _]), (3, RV.sv false [PV.sl _ _]), (4, RV.sv false [PV.val _])]) (b := []) (by exact And.intro rfl (And.intro rfl (And.intro rfl (And.intro rfl True.intro)))) (by exact True.intro) ?_
  refine sw_loop (l0 := [(0, RV.sv false [PV.sl _ _]), (2, RV.sv false [PV.sl _ _])]) (b0 := []) (fun k : Nat => k ≤ x.length) (fun k : Nat => [(3, RV.slc (.own 57 2) ((x.take k).map (cRow (.own 3 1)))), (4, RV.int (k : Int))]) (fun k : Nat => []) (fun k : Nat => x.length - k) 0 (by omega) (by exact And.intro rfl (And.intro rfl True.intro)) (by exact True.intro) (by exact And.intro (by first | exact rfl | simp) (And.intro (by exact rfl) (True.intro))) (by exact True.intro) ?_
  rintro k hk
  refine sw_seq ?_
  refine sw_seq ?_
  refine sw_reg ?_
  refine RunS.step (by exact And.intro rfl True.intro) (by exact True.intro) (LocG.of rfl (loc_copy (.inl rfl) (by decide) (by exact Cp.sc))) nofree ?_
  refine RunS.step (by exact And.intro rfl True.intro) (by exact True.intro) (LocG.of rfl (loc_copy (r' := RV.sv false [PV.sl .v _]) (.inl rfl) (by decide) (by exact Cp.sv (ToL.cons PV.to_none ToL.nil) (BorL.cons (PV.bor_sl _) BorL.nil)))) nofree ?_
  refine RunS.step (by exact And.intro rfl True.intro) (by exact True.intro) (LocG.of rfl (loc_len (by decide) sl_25 (by first | exact List.length_map _ | exact rfl))) nofree ?_
  refine RunS.step (by exact And.intro rfl (And.intro rfl True.intro)) (by exact True.intro) (LocG.of rfl (loc_lss (by decide) (by exact True.intro) (by exact True.intro))) nofree ?_
  refine sw_cond (t := 9) rfl (fun hb1 => ?_) (fun hb1 => ?_)
  · try simp only [decide_eq_true_eq, decide_eq_false_iff_not, bne_iff_ne, beq_iff_eq, Bool.not_eq_true', Bool.not_eq_false', ne_eq, bne_eq_false_iff_eq, beq_eq_false_iff_ne] at hb1
    have hlt : k < x.length := by omega
    have hwm := wt_mem (f := wtRow) hlt
    have htl : (x.take k).length = k := by rw [List.length_take]; omega
    refine sw_skip ?_
    refine sw_seq ?_
    refine sw_block ?_
    refine sw_of (l := [(0, RV.sv false [PV.sl _ _]), (2, RV.sv false [PV.sl _ _]), (3, RV.sv false [PV.sl _ _]), (4, RV.sv false [PV.val _])]) (b := []) (by exact And.intro rfl (And.intro rfl (And.intro rfl (And.intro rfl True.intro)))) (by exact True.intro) ?_
    refine sw_reg ?_
    refine RunS.step (by exact And.intro rfl True.intro) (by exact True.intro) (LocG.of rfl (loc_take (.inl rfl) (by decide))) nofree ?_
    refine RunS.step (by exact And.intro rfl True.intro) (by exact True.intro) (LocG.of rfl (loc_copy (r' := RV.sv false [PV.sl .v _]) (.inl rfl) (by decide) (by exact Cp.sv (ToL.cons PV.to_none ToL.nil) (BorL.cons (PV.bor_sl _) BorL.nil)))) nofree ?_
    refine RunS.step (by exact And.intro rfl True.intro) (by exact True.intro) (LocG.of rfl (loc_copy (.inl rfl) (by decide) (by exact Cp.sc))) nofree ?_
    refine RunS.step (by exact And.intro rfl (And.intro rfl True.intro)) (by exact True.intro) (LocG.of rfl (loc_index (by decide) sl_25 (by exact True.intro) (by exact rfl) (by exact getm2 (by omega) rfl) (by exact rfl))) nofree ?_
    refine RunS.step (by exact And.intro rfl True.intro) (by exact True.intro) (LocG.of rfl (loc_eload (qs := [PV.val _, PV.sl .v _]) (by decide) ty_57 (fun h => nomatch h) (by exact Nat.le_of_ble_eq_true rfl) (by exact (ToL.cons (PV.To.refl _) (ToL.cons PV.to_none ToL.nil))) (by exact (BorL.cons (PV.bor_val _) (BorL.cons (PV.bor_sl _) BorL.nil))))) nofree ?_
    refine RunS.step (by exact And.intro rfl True.intro) (by exact True.intro) (LocG.of rfl (loc_call (qs := [(true, [PV.val _, PV.sl _ _])]) (as_ := [(true, [PV.val _, PV.sl .v _])]) (by decide) c_127 (by exact (And.intro (by exact True.intro) True.intro)) (by exact (And.intro (And.intro rfl (ToL.cons (PV.To.refl _) (ToL.cons PV.to_none ToL.nil))) True.intro)) (by exact spec_l3Copy (by omega)))) nofree ?_
    refine RunS.step (by exact And.intro rfl True.intro) (by exact True.intro) (LocG.of rfl (loc_bslice (qs := [(true, [PV.val _, PV.sl _ _])]) (by decide) sl_25 z_57 (by decide) rfl rfl rfl rfl rfl (by exact Nat.le_of_ble_eq_true rfl) (by exact (And.intro (by exact True.intro) True.intro)) rfl)) nofree ?_
    refine RunS.step (by exact And.intro rfl (And.intro rfl True.intro)) (by exact True.intro) (LocG.of rfl (loc_append (by decide) sl_25 z_57 rfl rfl (by decide) rfl (by simp only [List.length_map, List.length_append, List.length_cons, List.length_nil]; omega) (by simp only [List.length_map, List.length_append, List.length_cons, List.length_nil]; omega))) nofree ?_
    refine RunS.step (by exact And.intro rfl True.intro) (by exact True.intro) (LocG.of rfl (loc_take (.inr rfl) (by decide))) nofree ?_
    refine sw_of (l := [(0, RV.sv false [PV.sl _ _]), (2, RV.sv false [PV.sl _ _]), (3, RV.sv false [PV.sl _ _]), (4, RV.sv false [PV.val _])]) (b := []) (by exact And.intro rfl (And.intro rfl (And.intro rfl (And.intro rfl True.intro)))) (by exact True.intro) ?_
    refine sw_reg ?_
    refine RunS.step (by exact And.intro rfl True.intro) (by exact True.intro) (LocG.of rfl (loc_copy (.inl rfl) (by decide) (by exact Cp.sc))) nofree ?_
    refine RunS.step (by exact And.intro rfl True.intro) (by exact True.intro) (LocG.of rfl (loc_add (by decide) (by exact True.intro) (ok_sc rfl) (by unfold I64; omega))) nofree ?_
    refine RunS.step (by exact And.intro rfl True.intro) (by exact True.intro) (LocG.of rfl (loc_copy (.inr rfl) (by decide) (by exact Cp.sc))) nofree ?_
    refine Exists.intro (k + 1) (And.intro (by omega) (And.intro (by omega) (And.intro (And.intro (by exact And.intro rfl (And.intro rfl True.intro)) (by exact True.intro)) (And.intro (by exact And.intro (by exact slc_eq (by rw [tk_succ hlt, List.map_append]; rfl)) (And.intro (by exact rfl) (True.intro))) (by exact True.intro)))))
  · try simp only [decide_eq_true_eq, decide_eq_false_iff_not, bne_iff_ne, beq_iff_eq, Bool.not_eq_true', Bool.not_eq_false', ne_eq, bne_eq_false_iff_eq, beq_eq_false_iff_ne] at hb1
    have hend : k = x.length := by omega
    refine sw_exit ?_
    refine sw_seq ?_
    refine sw_of (l := [(0, RV.sv false [PV.sl _ _]), (2, RV.sv false [PV.sl _ _]), (3, RV.sv false [PV.sl _ _]), (4, RV.sv false [PV.val _])]) (b := []) (by exact And.intro rfl (And.intro rfl (And.intro rfl (And.intro rfl True.intro)))) (by exact True.intro) ?_
    refine sw_reg ?_
    refine RunS.step (by exact And.intro rfl True.intro) (by exact True.intro) (LocG.of rfl (loc_take (.inl rfl) (by decide))) nofree ?_
    refine RunS.step (by exact And.intro rfl True.intro) (by exact True.intro) (LocG.of rfl (loc_take (.inr rfl) (by decide))) nofree ?_
    refine sw_ret ?_
    exact (And.intro (by refine slc_eq ?_; rw [hend, List.take_length]) True.intro)
end Go.Proofs.Ytcfbekjiiokcbaa
