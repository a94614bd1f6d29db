/- What functions of the program compute. No condition. -/
import Derived.Test.YtcfbekjiiokcbaaCEqQIsEvent
set_option linter.unusedVariables false
set_option linter.unusedSimpArgs false
namespace Go.Proofs.Ytcfbekjiiokcbaa
open Go Go.RowKit M
set_option maxRecDepth 10000
theorem spec_l20Zero {x : Query}  : SCall Try.prog 88 [(true, [PV.val (vI x.Id), PV.val (vI x.Tenant), PV.sl .v (x.Conds.map cCond), PV.sl .v (x.Out.map cInt)])] (resRV [(false, [PV.val (.bool (zeroQ x))])]) := by
  refine scall_of (rs := [(false, [PV.val (.bool (zeroQ x))])]) Try.func88 rfl (Nat.le_of_ble_eq_true rfl) (borA_cons (BorL.cons (PV.bor_val _) (BorL.cons (PV.bor_val _) (BorL.cons (PV.bor_sl _) (BorL.cons (PV.bor_sl _) BorL.nil)))) borA_nil) ?_
  intro h0 w0 Fz0
  refine sw_slen (s := 0) (j := 2) rfl rfl fun hl0_2 => ?_
  try rw [List.length_map] at hl0_2
  refine sw_slen (s := 0) (j := 3) rfl rfl fun hl0_3 => ?_
  try rw [List.length_map] at hl0_3
  refine sw_seq ?_
  refine sw_reg ?_
  refine RunS.step (by exact And.intro rfl True.intro) (by exact True.intro) (LocG.of rfl (loc_box (ag := true) (cs := [PV.val _, PV.val _, PV.sl _ _, PV.sl _ _]) (by decide) (by exact True.intro))) (free1 (Free.of_ rfl)) ?_
  refine RunS.step (by exact True.intro) (by exact True.intro) (LocG.of rfl (loc_const (.inr rfl) (by decide) (ok_sc rfl))) nofree ?_
  refine sw_seq ?_
  refine sw_of (l := [(1, RV.ptr 1 0), (2, RV.sv false [PV.val _])]) (b := [(1, (56, [PV.val _, PV.val _, PV.sl _ _, PV.sl _ _]))]) (by exact And.intro rfl (And.intro rfl True.intro)) (by exact And.intro rfl True.intro) ?_
  refine sw_reg ?_
  refine RunS.step (by exact And.intro rfl True.intro) (by exact True.intro) (LocG.of rfl (loc_field (by decide) fd_56_0)) nofree ?_
  refine RunS.step (by exact And.intro rfl True.intro) (by exact And.intro rfl True.intro) (LocG.of rfl (loc_load (qs := [PV.val _]) (by decide) ty_3 (fun _ => rfl) (by exact Nat.le_of_ble_eq_true rfl) (by exact (ToL.cons (PV.To.refl _) ToL.nil)) (by exact (BorL.cons (PV.bor_val _) BorL.nil)))) nofree ?_
  refine RunS.step (by exact And.intro rfl True.intro) (by exact True.intro) (LocG.of rfl (loc_eql (by decide) (by exact True.intro) (ok_sc rfl))) nofree ?_
  refine RunS.step (by exact And.intro rfl True.intro) (by exact True.intro) (LocG.of rfl (loc_copy (.inl rfl) (by decide) (by exact Cp.sc))) nofree ?_
  refine RunS.cases (s := 6) rfl (fun g1 => ?_) (fun g1 => ?_)
  · have sg1 := g1
    try simp only [decide_eq_true_eq, decide_eq_false_iff_not, bne_iff_ne, beq_iff_eq, Bool.not_eq_true', Bool.not_eq_false', ne_eq, bne_eq_false_iff_eq, beq_eq_false_iff_ne] at sg1
    refine RunS.step (by exact And.intro rfl (And.intro rfl True.intro)) (by exact True.intro) (LocG.yes rfl rfl (by decide) g1 (loc_field (by decide) fd_56_1)) nofree ?_
    refine RunS.step (by exact And.intro rfl (And.intro rfl True.intro)) (by exact And.intro rfl True.intro) (LocG.yes rfl rfl (by decide) g1 (loc_load (qs := [PV.val _]) (by decide) ty_3 (fun _ => rfl) (by exact Nat.le_of_ble_eq_true rfl) (by exact (ToL.cons (PV.To.refl _) ToL.nil)) (by exact (BorL.cons (PV.bor_val _) BorL.nil)))) nofree ?_
    refine RunS.step (by exact And.intro rfl (And.intro rfl True.intro)) (by exact True.intro) (LocG.yes rfl rfl (by decide) g1 (loc_eql (by decide) (by exact True.intro) (ok_sc rfl))) nofree ?_
    refine RunS.step (by exact And.intro rfl (And.intro rfl True.intro)) (by exact True.intro) (LocG.of rfl (loc_pick (z := .tmp 9) (by decide) (by rw [g1]; rfl) (by exact True.intro) (by exact True.intro) (by exact Cp.sc))) nofree ?_
    refine RunS.step (by exact And.intro rfl True.intro) (by exact True.intro) (LocG.of rfl (loc_copy (.inl rfl) (by decide) (by exact Cp.sc))) nofree ?_
    refine RunS.cases (s := 11) rfl (fun g2 => ?_) (fun g2 => ?_)
    · have sg2 := g2
      try simp only [decide_eq_true_eq, decide_eq_false_iff_not, bne_iff_ne, beq_iff_eq, Bool.not_eq_true', Bool.not_eq_false', ne_eq, bne_eq_false_iff_eq, beq_eq_false_iff_ne] at sg2
      refine RunS.step (by exact And.intro rfl (And.intro rfl True.intro)) (by exact True.intro) (LocG.yes rfl rfl (by decide) g2 (loc_field (by decide) fd_56_2)) nofree ?_
      refine RunS.step (by exact And.intro rfl (And.intro rfl True.intro)) (by exact And.intro rfl True.intro) (LocG.yes rfl rfl (by decide) g2 (loc_load (qs := [PV.sl .v _]) (by decide) ty_54 (fun _ => rfl) (by exact Nat.le_of_ble_eq_true rfl) (by exact (ToL.cons PV.to_none ToL.nil)) (by exact (BorL.cons (PV.bor_sl _) BorL.nil)))) nofree ?_
      refine RunS.step (by exact And.intro rfl (And.intro rfl True.intro)) (by exact True.intro) (LocG.yes rfl rfl (by decide) g2 (loc_len (by decide) sl_54 (by first | exact List.length_map _ | exact rfl))) nofree ?_
      refine RunS.step (by exact And.intro rfl (And.intro rfl True.intro)) (by exact True.intro) (LocG.yes rfl rfl (by decide) g2 (loc_eql (by decide) (by exact True.intro) (ok_sc rfl))) nofree ?_
      refine RunS.step (by exact And.intro rfl (And.intro rfl True.intro)) (by exact True.intro) (LocG.of rfl (loc_pick (z := .tmp 15) (by decide) (by rw [g2]; rfl) (by exact True.intro) (by exact True.intro) (by exact Cp.sc))) nofree ?_
      refine RunS.step (by exact And.intro rfl True.intro) (by exact True.intro) (LocG.of rfl (loc_copy (.inl rfl) (by decide) (by exact Cp.sc))) nofree ?_
      refine RunS.cases (s := 17) rfl (fun g3 => ?_) (fun g3 => ?_)
      · have sg3 := g3
        try simp only [decide_eq_true_eq, decide_eq_false_iff_not, bne_iff_ne, beq_iff_eq, Bool.not_eq_true', Bool.not_eq_false', ne_eq, bne_eq_false_iff_eq, beq_eq_false_iff_ne] at sg3
        refine RunS.step (by exact And.intro rfl (And.intro rfl True.intro)) (by exact True.intro) (LocG.yes rfl rfl (by decide) g3 (loc_field (by decide) fd_56_3)) nofree ?_
        refine RunS.step (by exact And.intro rfl (And.intro rfl True.intro)) (by exact And.intro rfl True.intro) (LocG.yes rfl rfl (by decide) g3 (loc_load (qs := [PV.sl .v _]) (by decide) ty_23 (fun _ => rfl) (by exact Nat.le_of_ble_eq_true rfl) (by exact (ToL.cons PV.to_none ToL.nil)) (by exact (BorL.cons (PV.bor_sl _) BorL.nil)))) nofree ?_
        refine RunS.step (by exact And.intro rfl (And.intro rfl True.intro)) (by exact True.intro) (LocG.yes rfl rfl (by decide) g3 (loc_len (by decide) sl_23 (by first | exact List.length_map _ | exact rfl))) nofree ?_
        refine RunS.step (by exact And.intro rfl (And.intro rfl True.intro)) (by exact True.intro) (LocG.yes rfl rfl (by decide) g3 (loc_eql (by decide) (by exact True.intro) (ok_sc rfl))) nofree ?_
        refine RunS.step (by exact And.intro rfl (And.intro rfl True.intro)) (by exact True.intro) (LocG.of rfl (loc_pick (z := .tmp 21) (by decide) (by rw [g3]; rfl) (by exact True.intro) (by exact True.intro) (by exact Cp.sc))) nofree ?_
        refine RunS.step (by exact And.intro rfl True.intro) (by exact True.intro) (LocG.of rfl (loc_copy (.inr rfl) (by decide) (by exact Cp.sc))) nofree ?_
        refine sw_ret ?_
        exact (And.intro (by refine bool_eq ?_; first | (rw [Bool.eq_iff_iff]; simp_all [zeroQ]; done) | (rw [Bool.eq_iff_iff]; simp_all [zeroQ]; omega) | (simp_all [zeroQ]; done) | (simp_all [zeroQ]; rfl) | (simp_all [zeroQ]; omega) | (simp_all [zeroQ]; intros; omega)) True.intro)
      · have sg3 := g3
        try simp only [decide_eq_true_eq, decide_eq_false_iff_not, bne_iff_ne, beq_iff_eq, Bool.not_eq_true', Bool.not_eq_false', ne_eq, bne_eq_false_iff_eq, beq_eq_false_iff_ne] at sg3
        refine RunS.step (by exact And.intro rfl True.intro) (by exact True.intro) (LocG.no (ops := _) rfl rfl (by decide) g3 rfl) nofree ?_
        refine RunS.step (by exact And.intro rfl True.intro) (by exact True.intro) (LocG.no (ops := _) rfl rfl (by decide) g3 rfl) nofree ?_
        refine RunS.step (by exact And.intro rfl True.intro) (by exact True.intro) (LocG.no (ops := _) rfl rfl (by decide) g3 rfl) nofree ?_
        refine RunS.step (by exact And.intro rfl True.intro) (by exact True.intro) (LocG.no (ops := _) rfl rfl (by decide) g3 rfl) nofree ?_
        refine RunS.step (by exact And.intro rfl True.intro) (by exact True.intro) (LocG.of rfl (loc_pick (z := .const (.bool false)) (by decide) (by rw [g3]; rfl) (by exact True.intro) (ok_sc rfl) (by exact Cp.sc))) nofree ?_
        refine RunS.step (by exact And.intro rfl True.intro) (by exact True.intro) (LocG.of rfl (loc_copy (.inr rfl) (by decide) (by exact Cp.sc))) nofree ?_
        refine sw_ret ?_
        exact (And.intro (by refine bool_eq ?_; first | (rw [Bool.eq_iff_iff]; simp_all [zeroQ]; done) | (rw [Bool.eq_iff_iff]; simp_all [zeroQ]; omega) | (simp_all [zeroQ]; done) | (simp_all [zeroQ]; rfl) | (simp_all [zeroQ]; omega) | (simp_all [zeroQ]; intros; omega)) True.intro)
    · have sg2 := g2
      try simp only [decide_eq_true_eq, decide_eq_false_iff_not, bne_iff_ne, beq_iff_eq, Bool.not_eq_true', Bool.not_eq_false', ne_eq, bne_eq_false_iff_eq, beq_eq_false_iff_ne] at sg2
      refine RunS.step (by exact And.intro rfl True.intro) (by exact True.intro) (LocG.no (ops := _) rfl rfl (by decide) g2 rfl) nofree ?_
      refine RunS.step (by exact And.intro rfl True.intro) (by exact True.intro) (LocG.no (ops := _) rfl rfl (by decide) g2 rfl) nofree ?_
      refine RunS.step (by exact And.intro rfl True.intro) (by exact True.intro) (LocG.no (ops := _) rfl rfl (by decide) g2 rfl) nofree ?_
      refine RunS.step (by exact And.intro rfl True.intro) (by exact True.intro) (LocG.no (ops := _) rfl rfl (by decide) g2 rfl) nofree ?_
      refine RunS.step (by exact And.intro rfl True.intro) (by exact True.intro) (LocG.of rfl (loc_pick (z := .const (.bool false)) (by decide) (by rw [g2]; rfl) (by exact True.intro) (ok_sc rfl) (by exact Cp.sc))) nofree ?_
      refine RunS.step (by exact And.intro rfl True.intro) (by exact True.intro) (LocG.of rfl (loc_copy (.inl rfl) (by decide) (by exact Cp.sc))) nofree ?_
      refine RunS.cases (s := 17) rfl (fun g4 => nomatch g4) (fun g4 => ?_)
      refine RunS.step (by exact And.intro rfl True.intro) (by exact True.intro) (LocG.no (ops := _) rfl rfl (by decide) g4 rfl) nofree ?_
      refine RunS.step (by exact And.intro rfl True.intro) (by exact True.intro) (LocG.no (ops := _) rfl rfl (by decide) g4 rfl) nofree ?_
      refine RunS.step (by exact And.intro rfl True.intro) (by exact True.intro) (LocG.no (ops := _) rfl rfl (by decide) g4 rfl) nofree ?_
      refine RunS.step (by exact And.intro rfl True.intro) (by exact True.intro) (LocG.no (ops := _) rfl rfl (by decide) g4 rfl) nofree ?_
      refine RunS.step (by exact And.intro rfl True.intro) (by exact True.intro) (LocG.of rfl (loc_pick (z := .const (.bool false)) (by decide) (by rw [g4]; rfl) (by exact True.intro) (ok_sc rfl) (by exact Cp.sc))) nofree ?_
      refine RunS.step (by exact And.intro rfl True.intro) (by exact True.intro) (LocG.of rfl (loc_copy (.inr rfl) (by decide) (by exact Cp.sc))) nofree ?_
      refine sw_ret ?_
      exact (And.intro (by refine bool_eq ?_; first | (rw [Bool.eq_iff_iff]; simp_all [zeroQ]; done) | (rw [Bool.eq_iff_iff]; simp_all [zeroQ]; omega) | (simp_all [zeroQ]; done) | (simp_all [zeroQ]; rfl) | (simp_all [zeroQ]; omega) | (simp_all [zeroQ]; intros; omega)) True.intro)
  · have sg1 := g1
    try simp only [decide_eq_true_eq, decide_eq_false_iff_not, bne_iff_ne, beq_iff_eq, Bool.not_eq_true', Bool.not_eq_false', ne_eq, bne_eq_false_iff_eq, beq_eq_false_iff_ne] at sg1
    refine RunS.step (by exact And.intro rfl True.intro) (by exact True.intro) (LocG.no (ops := _) rfl rfl (by decide) g1 rfl) nofree ?_
    refine RunS.step (by exact And.intro rfl True.intro) (by exact True.intro) (LocG.no (ops := _) rfl rfl (by decide) g1 rfl) nofree ?_
    refine RunS.step (by exact And.intro rfl True.intro) (by exact True.intro) (LocG.no (ops := _) rfl rfl (by decide) g1 rfl) nofree ?_
    refine RunS.step (by exact And.intro rfl True.intro) (by exact True.intro) (LocG.of rfl (loc_pick (z := .const (.bool false)) (by decide) (by rw [g1]; rfl) (by exact True.intro) (ok_sc rfl) (by exact Cp.sc))) nofree ?_
    refine RunS.step (by exact And.intro rfl True.intro) (by exact True.intro) (LocG.of rfl (loc_copy (.inl rfl) (by decide) (by exact Cp.sc))) nofree ?_
    refine RunS.cases (s := 11) rfl (fun g5 => nomatch g5) (fun g5 => ?_)
    refine RunS.step (by exact And.intro rfl True.intro) (by exact True.intro) (LocG.no (ops := _) rfl rfl (by decide) g5 rfl) nofree ?_
    refine RunS.step (by exact And.intro rfl True.intro) (by exact True.intro) (LocG.no (ops := _) rfl rfl (by decide) g5 rfl) nofree ?_
    refine RunS.step (by exact And.intro rfl True.intro) (by exact True.intro) (LocG.no (ops := _) rfl rfl (by decide) g5 rfl) nofree ?_
    refine RunS.step (by exact And.intro rfl True.intro) (by exact True.intro) (LocG.no (ops := _) rfl rfl (by decide) g5 rfl) nofree ?_
    refine RunS.step (by exact And.intro rfl True.intro) (by exact True.intro) (LocG.of rfl (loc_pick (z := .const (.bool false)) (by decide) (by rw [g5]; rfl) (by exact True.intro) (ok_sc rfl) (by exact Cp.sc))) nofree ?_
    refine RunS.step (by exact And.intro rfl True.intro) (by exact True.intro) (LocG.of rfl (loc_copy (.inl rfl) (by decide) (by exact Cp.sc))) nofree ?_
    refine RunS.cases (s := 17) rfl (fun g6 => nomatch g6) (fun g6 => ?_)
    refine RunS.step (by exact And.intro rfl True.intro) (by exact True.intro) (LocG.no (ops := _) rfl rfl (by decide) g6 rfl) nofree ?_
    refine RunS.step (by exact And.intro rfl True.intro) (by exact True.intro) (LocG.no (ops := _) rfl rfl (by decide) g6 rfl) nofree ?_
    refine RunS.step (by exact And.intro rfl True.intro) (by exact True.intro) (LocG.no (ops := _) rfl rfl (by decide) g6 rfl) nofree ?_
    refine RunS.step (by exact And.intro rfl True.intro) (by exact True.intro) (LocG.no (ops := _) rfl rfl (by decide) g6 rfl) nofree ?_
    refine RunS.step (by exact And.intro rfl True.intro) (by exact True.intro) (LocG.of rfl (loc_pick (z := .const (.bool false)) (by decide) (by rw [g6]; rfl) (by exact True.intro) (ok_sc rfl) (by exact Cp.sc))) nofree ?_
    refine RunS.step (by exact And.intro rfl True.intro) (by exact True.intro) (LocG.of rfl (loc_copy (.inr rfl) (by decide) (by exact Cp.sc))) nofree ?_
    refine sw_ret ?_
    exact (And.intro (by refine bool_eq ?_; first | (rw [Bool.eq_iff_iff]; simp_all [zeroQ]; done) | (rw [Bool.eq_iff_iff]; simp_all [zeroQ]; omega) | (simp_all [zeroQ]; done) | (simp_all [zeroQ]; rfl) | (simp_all [zeroQ]; omega) | (simp_all [zeroQ]; intros; omega)) True.intro)
theorem spec_l20NoUpdate {x : Update}  : SCall Try.prog 87 [(true, [PV.val (vI x.Kind), PV.val (vI x.Row.Id), PV.sl .v (x.Row.Values.map cInt), PV.val (vI x.Field), PV.val (vI x.Value)])] (resRV [(false, [PV.val (.bool (zeroU x))])]) := by
  refine scall_of (rs := [(false, [PV.val (.bool (zeroU x))])]) Try.func87 rfl (Nat.le_of_ble_eq_true rfl) (borA_cons (BorL.cons (PV.bor_val _) (BorL.cons (PV.bor_val _) (BorL.cons (PV.bor_sl _) (BorL.cons (PV.bor_val _) (BorL.cons (PV.bor_val _) BorL.nil))))) borA_nil) ?_
  intro h0 w0 Fz0
  refine sw_slen (s := 0) (j := 2) rfl rfl fun hl0_2 => ?_
  try rw [List.length_map] at hl0_2
  refine sw_seq ?_
  refine sw_reg ?_
  refine RunS.step (by exact And.intro rfl True.intro) (by exact True.intro) (LocG.of rfl (loc_box (ag := true) (cs := [PV.val _, PV.val _, PV.sl _ _, PV.val _, PV.val _]) (by decide) (by exact True.intro))) (free1 (Free.of_ rfl)) ?_
  refine RunS.step (by exact True.intro) (by exact True.intro) (LocG.of rfl (loc_const (.inr rfl) (by decide) (ok_sc rfl))) nofree ?_
  refine sw_seq ?_
  refine sw_of (l := [(1, RV.ptr 1 0), (2, RV.sv false [PV.val _])]) (b := [(1, (59, [PV.val _, PV.val _, PV.sl _ _, PV.val _, PV.val _]))]) (by exact And.intro rfl (And.intro rfl True.intro)) (by exact And.intro rfl True.intro) ?_
  refine sw_reg ?_
  refine RunS.step (by exact And.intro rfl True.intro) (by exact True.intro) (LocG.of rfl (loc_field (by decide) fd_59_0)) nofree ?_
  refine RunS.step (by exact And.intro rfl True.intro) (by exact And.intro rfl True.intro) (LocG.of rfl (loc_load (qs := [PV.val _]) (by decide) ty_3 (fun _ => rfl) (by exact Nat.le_of_ble_eq_true rfl) (by exact (ToL.cons (PV.To.refl _) ToL.nil)) (by exact (BorL.cons (PV.bor_val _) BorL.nil)))) nofree ?_
  refine RunS.step (by exact And.intro rfl True.intro) (by exact True.intro) (LocG.of rfl (loc_eql (by decide) (by exact True.intro) (ok_sc rfl))) nofree ?_
  refine RunS.step (by exact And.intro rfl True.intro) (by exact True.intro) (LocG.of rfl (loc_copy (.inl rfl) (by decide) (by exact Cp.sc))) nofree ?_
  refine RunS.cases (s := 6) rfl (fun g1 => ?_) (fun g1 => ?_)
  · have sg1 := g1
    try simp only [decide_eq_true_eq, decide_eq_false_iff_not, bne_iff_ne, beq_iff_eq, Bool.not_eq_true', Bool.not_eq_false', ne_eq, bne_eq_false_iff_eq, beq_eq_false_iff_ne] at sg1
    refine RunS.step (by exact And.intro rfl (And.intro rfl True.intro)) (by exact True.intro) (LocG.yes rfl rfl (by decide) g1 (loc_field (by decide) fd_59_1)) nofree ?_
    refine RunS.step (by exact And.intro rfl (And.intro rfl True.intro)) (by exact True.intro) (LocG.yes rfl rfl (by decide) g1 (loc_field (by decide) fd_57_0)) nofree ?_
    refine RunS.step (by exact And.intro rfl (And.intro rfl True.intro)) (by exact And.intro rfl True.intro) (LocG.yes rfl rfl (by decide) g1 (loc_load (qs := [PV.val _]) (by decide) ty_3 (fun _ => rfl) (by exact Nat.le_of_ble_eq_true rfl) (by exact (ToL.cons (PV.To.refl _) ToL.nil)) (by exact (BorL.cons (PV.bor_val _) BorL.nil)))) nofree ?_
    refine RunS.step (by exact And.intro rfl (And.intro rfl True.intro)) (by exact True.intro) (LocG.yes rfl rfl (by decide) g1 (loc_eql (by decide) (by exact True.intro) (ok_sc rfl))) nofree ?_
    refine RunS.step (by exact And.intro rfl (And.intro rfl True.intro)) (by exact True.intro) (LocG.of rfl (loc_pick (z := .tmp 10) (by decide) (by rw [g1]; rfl) (by exact True.intro) (by exact True.intro) (by exact Cp.sc))) nofree ?_
    refine RunS.step (by exact And.intro rfl True.intro) (by exact True.intro) (LocG.of rfl (loc_copy (.inl rfl) (by decide) (by exact Cp.sc))) nofree ?_
    refine RunS.cases (s := 12) rfl (fun g2 => ?_) (fun g2 => ?_)
    · have sg2 := g2
      try simp only [decide_eq_true_eq, decide_eq_false_iff_not, bne_iff_ne, beq_iff_eq, Bool.not_eq_true', Bool.not_eq_false', ne_eq, bne_eq_false_iff_eq, beq_eq_false_iff_ne] at sg2
      refine RunS.step (by exact And.intro rfl (And.intro rfl True.intro)) (by exact True.intro) (LocG.yes rfl rfl (by decide) g2 (loc_field (by decide) fd_59_1)) nofree ?_
      refine RunS.step (by exact And.intro rfl (And.intro rfl True.intro)) (by exact True.intro) (LocG.yes rfl rfl (by decide) g2 (loc_field (by decide) fd_57_1)) nofree ?_
      refine RunS.step (by exact And.intro rfl (And.intro rfl True.intro)) (by exact And.intro rfl True.intro) (LocG.yes rfl rfl (by decide) g2 (loc_load (qs := [PV.sl .v _]) (by decide) ty_23 (fun _ => rfl) (by exact Nat.le_of_ble_eq_true rfl) (by exact (ToL.cons PV.to_none ToL.nil)) (by exact (BorL.cons (PV.bor_sl _) BorL.nil)))) nofree ?_
      refine RunS.step (by exact And.intro rfl (And.intro rfl True.intro)) (by exact True.intro) (LocG.yes rfl rfl (by decide) g2 (loc_len (by decide) sl_23 (by first | exact List.length_map _ | exact rfl))) nofree ?_
      refine RunS.step (by exact And.intro rfl (And.intro rfl True.intro)) (by exact True.intro) (LocG.yes rfl rfl (by decide) g2 (loc_eql (by decide) (by exact True.intro) (ok_sc rfl))) nofree ?_
      refine RunS.step (by exact And.intro rfl (And.intro rfl True.intro)) (by exact True.intro) (LocG.of rfl (loc_pick (z := .tmp 17) (by decide) (by rw [g2]; rfl) (by exact True.intro) (by exact True.intro) (by exact Cp.sc))) nofree ?_
      refine RunS.step (by exact And.intro rfl True.intro) (by exact True.intro) (LocG.of rfl (loc_copy (.inl rfl) (by decide) (by exact Cp.sc))) nofree ?_
      refine RunS.cases (s := 19) rfl (fun g3 => ?_) (fun g3 => ?_)
      · have sg3 := g3
        try simp only [decide_eq_true_eq, decide_eq_false_iff_not, bne_iff_ne, beq_iff_eq, Bool.not_eq_true', Bool.not_eq_false', ne_eq, bne_eq_false_iff_eq, beq_eq_false_iff_ne] at sg3
        refine RunS.step (by exact And.intro rfl (And.intro rfl True.intro)) (by exact True.intro) (LocG.yes rfl rfl (by decide) g3 (loc_field (by decide) fd_59_2)) nofree ?_
        refine RunS.step (by exact And.intro rfl (And.intro rfl True.intro)) (by exact And.intro rfl True.intro) (LocG.yes rfl rfl (by decide) g3 (loc_load (qs := [PV.val _]) (by decide) ty_3 (fun _ => rfl) (by exact Nat.le_of_ble_eq_true rfl) (by exact (ToL.cons (PV.To.refl _) ToL.nil)) (by exact (BorL.cons (PV.bor_val _) BorL.nil)))) nofree ?_
        refine RunS.step (by exact And.intro rfl (And.intro rfl True.intro)) (by exact True.intro) (LocG.yes rfl rfl (by decide) g3 (loc_eql (by decide) (by exact True.intro) (ok_sc rfl))) nofree ?_
        refine RunS.step (by exact And.intro rfl (And.intro rfl True.intro)) (by exact True.intro) (LocG.of rfl (loc_pick (z := .tmp 22) (by decide) (by rw [g3]; rfl) (by exact True.intro) (by exact True.intro) (by exact Cp.sc))) nofree ?_
        refine RunS.step (by exact And.intro rfl True.intro) (by exact True.intro) (LocG.of rfl (loc_copy (.inl rfl) (by decide) (by exact Cp.sc))) nofree ?_
        refine RunS.cases (s := 24) rfl (fun g4 => ?_) (fun g4 => ?_)
        · have sg4 := g4
          try simp only [decide_eq_true_eq, decide_eq_false_iff_not, bne_iff_ne, beq_iff_eq, Bool.not_eq_true', Bool.not_eq_false', ne_eq, bne_eq_false_iff_eq, beq_eq_false_iff_ne] at sg4
          refine RunS.step (by exact And.intro rfl (And.intro rfl True.intro)) (by exact True.intro) (LocG.yes rfl rfl (by decide) g4 (loc_field (by decide) fd_59_3)) nofree ?_
          refine RunS.step (by exact And.intro rfl (And.intro rfl True.intro)) (by exact And.intro rfl True.intro) (LocG.yes rfl rfl (by decide) g4 (loc_load (qs := [PV.val _]) (by decide) ty_3 (fun _ => rfl) (by exact Nat.le_of_ble_eq_true rfl) (by exact (ToL.cons (PV.To.refl _) ToL.nil)) (by exact (BorL.cons (PV.bor_val _) BorL.nil)))) nofree ?_
          refine RunS.step (by exact And.intro rfl (And.intro rfl True.intro)) (by exact True.intro) (LocG.yes rfl rfl (by decide) g4 (loc_eql (by decide) (by exact True.intro) (ok_sc rfl))) nofree ?_
          refine RunS.step (by exact And.intro rfl (And.intro rfl True.intro)) (by exact True.intro) (LocG.of rfl (loc_pick (z := .tmp 27) (by decide) (by rw [g4]; rfl) (by exact True.intro) (by exact True.intro) (by exact Cp.sc))) nofree ?_
          refine RunS.step (by exact And.intro rfl True.intro) (by exact True.intro) (LocG.of rfl (loc_copy (.inr rfl) (by decide) (by exact Cp.sc))) nofree ?_
          refine sw_ret ?_
          exact (And.intro (by refine bool_eq ?_; first | (rw [Bool.eq_iff_iff]; simp_all [zeroU]; done) | (rw [Bool.eq_iff_iff]; simp_all [zeroU]; omega) | (simp_all [zeroU]; done) | (simp_all [zeroU]; rfl) | (simp_all [zeroU]; omega) | (simp_all [zeroU]; intros; omega)) True.intro)
        · have sg4 := g4
          try simp only [decide_eq_true_eq, decide_eq_false_iff_not, bne_iff_ne, beq_iff_eq, Bool.not_eq_true', Bool.not_eq_false', ne_eq, bne_eq_false_iff_eq, beq_eq_false_iff_ne] at sg4
          refine RunS.step (by exact And.intro rfl True.intro) (by exact True.intro) (LocG.no (ops := _) rfl rfl (by decide) g4 rfl) nofree ?_
          refine RunS.step (by exact And.intro rfl True.intro) (by exact True.intro) (LocG.no (ops := _) rfl rfl (by decide) g4 rfl) nofree ?_
          refine RunS.step (by exact And.intro rfl True.intro) (by exact True.intro) (LocG.no (ops := _) rfl rfl (by decide) g4 rfl) nofree ?_
          refine RunS.step (by exact And.intro rfl True.intro) (by exact True.intro) (LocG.of rfl (loc_pick (z := .const (.bool false)) (by decide) (by rw [g4]; rfl) (by exact True.intro) (ok_sc rfl) (by exact Cp.sc))) nofree ?_
          refine RunS.step (by exact And.intro rfl True.intro) (by exact True.intro) (LocG.of rfl (loc_copy (.inr rfl) (by decide) (by exact Cp.sc))) nofree ?_
          refine sw_ret ?_
          exact (And.intro (by refine bool_eq ?_; first | (rw [Bool.eq_iff_iff]; simp_all [zeroU]; done) | (rw [Bool.eq_iff_iff]; simp_all [zeroU]; omega) | (simp_all [zeroU]; done) | (simp_all [zeroU]; rfl) | (simp_all [zeroU]; omega) | (simp_all [zeroU]; intros; omega)) True.intro)
      · have sg3 := g3
        try simp only [decide_eq_true_eq, decide_eq_false_iff_not, bne_iff_ne, beq_iff_eq, Bool.not_eq_true', Bool.not_eq_false', ne_eq, bne_eq_false_iff_eq, beq_eq_false_iff_ne] at sg3
        refine RunS.step (by exact And.intro rfl True.intro) (by exact True.intro) (LocG.no (ops := _) rfl rfl (by decide) g3 rfl) nofree ?_
        refine RunS.step (by exact And.intro rfl True.intro) (by exact True.intro) (LocG.no (ops := _) rfl rfl (by decide) g3 rfl) nofree ?_
        refine RunS.step (by exact And.intro rfl True.intro) (by exact True.intro) (LocG.no (ops := _) rfl rfl (by decide) g3 rfl) nofree ?_
        refine RunS.step (by exact And.intro rfl True.intro) (by exact True.intro) (LocG.of rfl (loc_pick (z := .const (.bool false)) (by decide) (by rw [g3]; rfl) (by exact True.intro) (ok_sc rfl) (by exact Cp.sc))) nofree ?_
        refine RunS.step (by exact And.intro rfl True.intro) (by exact True.intro) (LocG.of rfl (loc_copy (.inl rfl) (by decide) (by exact Cp.sc))) nofree ?_
        refine RunS.cases (s := 24) rfl (fun g5 => nomatch g5) (fun g5 => ?_)
        refine RunS.step (by exact And.intro rfl True.intro) (by exact True.intro) (LocG.no (ops := _) rfl rfl (by decide) g5 rfl) nofree ?_
        refine RunS.step (by exact And.intro rfl True.intro) (by exact True.intro) (LocG.no (ops := _) rfl rfl (by decide) g5 rfl) nofree ?_
        refine RunS.step (by exact And.intro rfl True.intro) (by exact True.intro) (LocG.no (ops := _) rfl rfl (by decide) g5 rfl) nofree ?_
        refine RunS.step (by exact And.intro rfl True.intro) (by exact True.intro) (LocG.of rfl (loc_pick (z := .const (.bool false)) (by decide) (by rw [g5]; rfl) (by exact True.intro) (ok_sc rfl) (by exact Cp.sc))) nofree ?_
        refine RunS.step (by exact And.intro rfl True.intro) (by exact True.intro) (LocG.of rfl (loc_copy (.inr rfl) (by decide) (by exact Cp.sc))) nofree ?_
        refine sw_ret ?_
        exact (And.intro (by refine bool_eq ?_; first | (rw [Bool.eq_iff_iff]; simp_all [zeroU]; done) | (rw [Bool.eq_iff_iff]; simp_all [zeroU]; omega) | (simp_all [zeroU]; done) | (simp_all [zeroU]; rfl) | (simp_all [zeroU]; omega) | (simp_all [zeroU]; intros; omega)) True.intro)
    · have sg2 := g2
      try simp only [decide_eq_true_eq, decide_eq_false_iff_not, bne_iff_ne, beq_iff_eq, Bool.not_eq_true', Bool.not_eq_false', ne_eq, bne_eq_false_iff_eq, beq_eq_false_iff_ne] at sg2
      refine RunS.step (by exact And.intro rfl True.intro) (by exact True.intro) (LocG.no (ops := _) rfl rfl (by decide) g2 rfl) nofree ?_
      refine RunS.step (by exact And.intro rfl True.intro) (by exact True.intro) (LocG.no (ops := _) rfl rfl (by decide) g2 rfl) nofree ?_
      refine RunS.step (by exact And.intro rfl True.intro) (by exact True.intro) (LocG.no (ops := _) rfl rfl (by decide) g2 rfl) nofree ?_
      refine RunS.step (by exact And.intro rfl True.intro) (by exact True.intro) (LocG.no (ops := _) rfl rfl (by decide) g2 rfl) nofree ?_
      refine RunS.step (by exact And.intro rfl True.intro) (by exact True.intro) (LocG.no (ops := _) rfl rfl (by decide) g2 rfl) nofree ?_
      refine RunS.step (by exact And.intro rfl True.intro) (by exact True.intro) (LocG.of rfl (loc_pick (z := .const (.bool false)) (by decide) (by rw [g2]; rfl) (by exact True.intro) (ok_sc rfl) (by exact Cp.sc))) nofree ?_
      refine RunS.step (by exact And.intro rfl True.intro) (by exact True.intro) (LocG.of rfl (loc_copy (.inl rfl) (by decide) (by exact Cp.sc))) nofree ?_
      refine RunS.cases (s := 19) rfl (fun g6 => nomatch g6) (fun g6 => ?_)
      refine RunS.step (by exact And.intro rfl True.intro) (by exact True.intro) (LocG.no (ops := _) rfl rfl (by decide) g6 rfl) nofree ?_
      refine RunS.step (by exact And.intro rfl True.intro) (by exact True.intro) (LocG.no (ops := _) rfl rfl (by decide) g6 rfl) nofree ?_
      refine RunS.step (by exact And.intro rfl True.intro) (by exact True.intro) (LocG.no (ops := _) rfl rfl (by decide) g6 rfl) nofree ?_
      refine RunS.step (by exact And.intro rfl True.intro) (by exact True.intro) (LocG.of rfl (loc_pick (z := .const (.bool false)) (by decide) (by rw [g6]; rfl) (by exact True.intro) (ok_sc rfl) (by exact Cp.sc))) nofree ?_
      refine RunS.step (by exact And.intro rfl True.intro) (by exact True.intro) (LocG.of rfl (loc_copy (.inl rfl) (by decide) (by exact Cp.sc))) nofree ?_
      refine RunS.cases (s := 24) rfl (fun g7 => nomatch g7) (fun g7 => ?_)
      refine RunS.step (by exact And.intro rfl True.intro) (by exact True.intro) (LocG.no (ops := _) rfl rfl (by decide) g7 rfl) nofree ?_
      refine RunS.step (by exact And.intro rfl True.intro) (by exact True.intro) (LocG.no (ops := _) rfl rfl (by decide) g7 rfl) nofree ?_
      refine RunS.step (by exact And.intro rfl True.intro) (by exact True.intro) (LocG.no (ops := _) rfl rfl (by decide) g7 rfl) nofree ?_
      refine RunS.step (by exact And.intro rfl True.intro) (by exact True.intro) (LocG.of rfl (loc_pick (z := .const (.bool false)) (by decide) (by rw [g7]; rfl) (by exact True.intro) (ok_sc rfl) (by exact Cp.sc))) nofree ?_
      refine RunS.step (by exact And.intro rfl True.intro) (by exact True.intro) (LocG.of rfl (loc_copy (.inr rfl) (by decide) (by exact Cp.sc))) nofree ?_
      refine sw_ret ?_
      exact (And.intro (by refine bool_eq ?_; first | (rw [Bool.eq_iff_iff]; simp_all [zeroU]; done) | (rw [Bool.eq_iff_iff]; simp_all [zeroU]; omega) | (simp_all [zeroU]; done) | (simp_all [zeroU]; rfl) | (simp_all [zeroU]; omega) | (simp_all [zeroU]; intros; omega)) True.intro)
  · have sg1 := g1
    try simp only [decide_eq_true_eq, decide_eq_false_iff_not, bne_iff_ne, beq_iff_eq, Bool.not_eq_true', Bool.not_eq_false', ne_eq, bne_eq_false_iff_eq, beq_eq_false_iff_ne] at sg1
    refine RunS.step (by exact And.intro rfl True.intro) (by exact True.intro) (LocG.no (ops := _) rfl rfl (by decide) g1 rfl) nofree ?_
    refine RunS.step (by exact And.intro rfl True.intro) (by exact True.intro) (LocG.no (ops := _) rfl rfl (by decide) g1 rfl) nofree ?_
    refine RunS.step (by exact And.intro rfl True.intro) (by exact True.intro) (LocG.no (ops := _) rfl rfl (by decide) g1 rfl) nofree ?_
    refine RunS.step (by exact And.intro rfl True.intro) (by exact True.intro) (LocG.no (ops := _) rfl rfl (by decide) g1 rfl) nofree ?_
    refine RunS.step (by exact And.intro rfl True.intro) (by exact True.intro) (LocG.of rfl (loc_pick (z := .const (.bool false)) (by decide) (by rw [g1]; rfl) (by exact True.intro) (ok_sc rfl) (by exact Cp.sc))) nofree ?_
    refine RunS.step (by exact And.intro rfl True.intro) (by exact True.intro) (LocG.of rfl (loc_copy (.inl rfl) (by decide) (by exact Cp.sc))) nofree ?_
    refine RunS.cases (s := 12) rfl (fun g8 => nomatch g8) (fun g8 => ?_)
    refine RunS.step (by exact And.intro rfl True.intro) (by exact True.intro) (LocG.no (ops := _) rfl rfl (by decide) g8 rfl) nofree ?_
    refine RunS.step (by exact And.intro rfl True.intro) (by exact True.intro) (LocG.no (ops := _) rfl rfl (by decide) g8 rfl) nofree ?_
    refine RunS.step (by exact And.intro rfl True.intro) (by exact True.intro) (LocG.no (ops := _) rfl rfl (by decide) g8 rfl) nofree ?_
    refine RunS.step (by exact And.intro rfl True.intro) (by exact True.intro) (LocG.no (ops := _) rfl rfl (by decide) g8 rfl) nofree ?_
    refine RunS.step (by exact And.intro rfl True.intro) (by exact True.intro) (LocG.no (ops := _) rfl rfl (by decide) g8 rfl) nofree ?_
    refine RunS.step (by exact And.intro rfl True.intro) (by exact True.intro) (LocG.of rfl (loc_pick (z := .const (.bool false)) (by decide) (by rw [g8]; rfl) (by exact True.intro) (ok_sc rfl) (by exact Cp.sc))) nofree ?_
    refine RunS.step (by exact And.intro rfl True.intro) (by exact True.intro) (LocG.of rfl (loc_copy (.inl rfl) (by decide) (by exact Cp.sc))) nofree ?_
    refine RunS.cases (s := 19) rfl (fun g9 => nomatch g9) (fun g9 => ?_)
    refine RunS.step (by exact And.intro rfl True.intro) (by exact True.intro) (LocG.no (ops := _) rfl rfl (by decide) g9 rfl) nofree ?_
    refine RunS.step (by exact And.intro rfl True.intro) (by exact True.intro) (LocG.no (ops := _) rfl rfl (by decide) g9 rfl) nofree ?_
    refine RunS.step (by exact And.intro rfl True.intro) (by exact True.intro) (LocG.no (ops := _) rfl rfl (by decide) g9 rfl) nofree ?_
    refine RunS.step (by exact And.intro rfl True.intro) (by exact True.intro) (LocG.of rfl (loc_pick (z := .const (.bool false)) (by decide) (by rw [g9]; rfl) (by exact True.intro) (ok_sc rfl) (by exact Cp.sc))) nofree ?_
    refine RunS.step (by exact And.intro rfl True.intro) (by exact True.intro) (LocG.of rfl (loc_copy (.inl rfl) (by decide) (by exact Cp.sc))) nofree ?_
    refine RunS.cases (s := 24) rfl (fun g10 => nomatch g10) (fun g10 => ?_)
    refine RunS.step (by exact And.intro rfl True.intro) (by exact True.intro) (LocG.no (ops := _) rfl rfl (by decide) g10 rfl) nofree ?_
    refine RunS.step (by exact And.intro rfl True.intro) (by exact True.intro) (LocG.no (ops := _) rfl rfl (by decide) g10 rfl) nofree ?_
    refine RunS.step (by exact And.intro rfl True.intro) (by exact True.intro) (LocG.no (ops := _) rfl rfl (by decide) g10 rfl) nofree ?_
    refine RunS.step (by exact And.intro rfl True.intro) (by exact True.intro) (LocG.of rfl (loc_pick (z := .const (.bool false)) (by decide) (by rw [g10]; rfl) (by exact True.intro) (ok_sc rfl) (by exact Cp.sc))) nofree ?_
    refine RunS.step (by exact And.intro rfl True.intro) (by exact True.intro) (LocG.of rfl (loc_copy (.inr rfl) (by decide) (by exact Cp.sc))) nofree ?_
    refine sw_ret ?_
    exact (And.intro (by refine bool_eq ?_; first | (rw [Bool.eq_iff_iff]; simp_all [zeroU]; done) | (rw [Bool.eq_iff_iff]; simp_all [zeroU]; omega) | (simp_all [zeroU]; done) | (simp_all [zeroU]; rfl) | (simp_all [zeroU]; omega) | (simp_all [zeroU]; intros; omega)) True.intro)
theorem spec_IsEvent {x : Event}  : SCall Try.prog 28 [(true, [PV.val (vI x.Kind), PV.val (vI x.Query.Id), PV.val (vI x.Query.Tenant), PV.sl .v (x.Query.Conds.map cCond), PV.sl .v (x.Query.Out.map cInt), PV.val (vI x.Limit), PV.val (vI x.Id), PV.val (vI x.Update.Kind), PV.val (vI x.Update.Row.Id), PV.sl .v (x.Update.Row.Values.map cInt), PV.val (vI x.Update.Field), PV.val (vI x.Update.Value), PV.val (vI x.Steps)])] (resRV [(false, [PV.val (.bool (okEvent x))])]) := by
  refine scall_of (rs := [(false, [PV.val (.bool (okEvent x))])]) Try.func28 rfl (Nat.le_of_ble_eq_true rfl) (borA_cons (BorL.cons (PV.bor_val _) (BorL.cons (PV.bor_val _) (BorL.cons (PV.bor_val _) (BorL.cons (PV.bor_sl _) (BorL.cons (PV.bor_sl _) (BorL.cons (PV.bor_val _) (BorL.cons (PV.bor_val _) (BorL.cons (PV.bor_val _) (BorL.cons (PV.bor_val _) (BorL.cons (PV.bor_sl _) (BorL.cons (PV.bor_val _) (BorL.cons (PV.bor_val _) (BorL.cons (PV.bor_val _) BorL.nil))))))))))))) borA_nil) ?_
  intro h0 w0 Fz0
  refine sw_slen (s := 0) (j := 3) rfl rfl fun hl0_3 => ?_
  try rw [List.length_map] at hl0_3
  refine sw_slen (s := 0) (j := 4) rfl rfl fun hl0_4 => ?_
  try rw [List.length_map] at hl0_4
  refine sw_slen (s := 0) (j := 9) rfl rfl fun hl0_9 => ?_
  try rw [List.length_map] at hl0_9
  refine sw_seq ?_
  refine sw_reg ?_
  refine RunS.step (by exact And.intro rfl True.intro) (by exact True.intro) (LocG.of rfl (loc_box (ag := true) (cs := [PV.val _, PV.val _, PV.val _, PV.sl _ _, PV.sl _ _, PV.val _, PV.val _, PV.val _, PV.val _, PV.sl _ _, PV.val _, PV.val _, PV.val _]) (by decide) (by exact True.intro))) (free1 (Free.of_ rfl)) ?_
  refine RunS.step (by exact True.intro) (by exact True.intro) (LocG.of rfl (loc_const (.inr rfl) (by decide) (ok_sc rfl))) nofree ?_
  refine sw_seq ?_
  refine sw_seq ?_
  refine sw_of (l := [(1, RV.ptr 1 0), (2, RV.sv false [PV.val _])]) (b := [(1, (61, [PV.val _, PV.val _, PV.val _, PV.sl _ _, PV.sl _ _, PV.val _, PV.val _, PV.val _, PV.val _, PV.sl _ _, PV.val _, PV.val _, PV.val _]))]) (by exact And.intro rfl (And.intro rfl True.intro)) (by exact And.intro rfl True.intro) ?_
  refine sw_reg ?_
  refine RunS.step (by exact And.intro rfl True.intro) (by exact True.intro) (LocG.of rfl (loc_field (by decide) fd_61_0)) nofree ?_
  refine RunS.step (by exact And.intro rfl True.intro) (by exact And.intro rfl True.intro) (LocG.of rfl (loc_load (qs := [PV.val _]) (by decide) ty_3 (fun _ => rfl) (by exact Nat.le_of_ble_eq_true rfl) (by exact (ToL.cons (PV.To.refl _) ToL.nil)) (by exact (BorL.cons (PV.bor_val _) BorL.nil)))) nofree ?_
  refine sw_block ?_
  refine sw_seq ?_
  refine sw_of (l := [(1, RV.ptr 1 0), (2, RV.sv false [PV.val _]), (4, RV.sv false [PV.val _])]) (b := [(1, (61, [PV.val _, PV.val _, PV.val _, PV.sl _ _, PV.sl _ _, PV.val _, PV.val _, PV.val _, PV.val _, PV.sl _ _, PV.val _, PV.val _, PV.val _]))]) (by exact And.intro rfl (And.intro rfl (And.intro rfl True.intro))) (by exact And.intro rfl True.intro) ?_
  refine sw_reg ?_
  refine RunS.step (by exact And.intro rfl True.intro) (by exact True.intro) (LocG.of rfl (loc_eql (by decide) (by exact True.intro) (ok_sc rfl))) nofree ?_
  refine RunS.step (by exact And.intro rfl True.intro) (by exact True.intro) (LocG.of rfl (loc_copy (.inr rfl) (by decide) (by exact Cp.sc))) nofree ?_
  refine sw_cond (t := 5) rfl (fun hb1 => ?_) (fun hb1 => ?_)
  · try simp only [decide_eq_true_eq, decide_eq_false_iff_not, bne_iff_ne, beq_iff_eq, Bool.not_eq_true', Bool.not_eq_false', ne_eq, bne_eq_false_iff_eq, beq_eq_false_iff_ne] at hb1
    refine sw_seq ?_
    refine sw_of (l := [(1, RV.ptr 1 0), (2, RV.sv false [PV.val _]), (4, RV.sv false [PV.val _])]) (b := [(1, (61, [PV.val _, PV.val _, PV.val _, PV.sl _ _, PV.sl _ _, PV.val _, PV.val _, PV.val _, PV.val _, PV.sl _ _, PV.val _, PV.val _, PV.val _]))]) (by exact And.intro rfl (And.intro rfl (And.intro rfl True.intro))) (by exact And.intro rfl True.intro) ?_
    refine sw_reg ?_
    refine RunS.step (by exact And.intro rfl True.intro) (by exact True.intro) (LocG.of rfl (loc_field (by decide) fd_61_1)) nofree ?_
    refine RunS.step (by exact And.intro rfl True.intro) (by exact And.intro rfl True.intro) (LocG.of rfl (loc_load (qs := [PV.val _, PV.val _, PV.sl .v _, PV.sl .v _]) (by decide) ty_56 (fun h => nomatch h) (by exact Nat.le_of_ble_eq_true rfl) (by exact (ToL.cons (PV.To.refl _) (ToL.cons (PV.To.refl _) (ToL.cons PV.to_none (ToL.cons PV.to_none ToL.nil))))) (by exact (BorL.cons (PV.bor_val _) (BorL.cons (PV.bor_val _) (BorL.cons (PV.bor_sl _) (BorL.cons (PV.bor_sl _) BorL.nil))))))) nofree ?_
    refine RunS.step (by exact And.intro rfl True.intro) (by exact True.intro) (LocG.of rfl (loc_call (qs := [(true, [PV.val _, PV.val _, PV.sl _ _, PV.sl _ _])]) (as_ := [(true, [PV.val _, PV.val _, PV.sl .v _, PV.sl .v _])]) (by decide) c_85 (by exact (And.intro (by exact True.intro) True.intro)) (by exact (And.intro (And.intro rfl (ToL.cons (PV.To.refl _) (ToL.cons (PV.To.refl _) (ToL.cons PV.to_none (ToL.cons PV.to_none ToL.nil))))) True.intro)) (by exact spec_IsQuery))) nofree ?_
    refine RunS.step (by exact And.intro rfl True.intro) (by exact True.intro) (LocG.of rfl (loc_copy (.inl rfl) (by decide) (by exact Cp.sc))) nofree ?_
    refine RunS.cases (s := 10) rfl (fun g2 => ?_) (fun g2 => ?_)
    · have sg2 := g2
      try simp only [decide_eq_true_eq, decide_eq_false_iff_not, bne_iff_ne, beq_iff_eq, Bool.not_eq_true', Bool.not_eq_false', ne_eq, bne_eq_false_iff_eq, beq_eq_false_iff_ne] at sg2
      refine RunS.step (by exact And.intro rfl (And.intro rfl True.intro)) (by exact True.intro) (LocG.yes rfl rfl (by decide) g2 (loc_field (by decide) fd_61_2)) nofree ?_
      refine RunS.step (by exact And.intro rfl (And.intro rfl True.intro)) (by exact And.intro rfl True.intro) (LocG.yes rfl rfl (by decide) g2 (loc_load (qs := [PV.val _]) (by decide) ty_3 (fun _ => rfl) (by exact Nat.le_of_ble_eq_true rfl) (by exact (ToL.cons (PV.To.refl _) ToL.nil)) (by exact (BorL.cons (PV.bor_val _) BorL.nil)))) nofree ?_
      refine RunS.step (by exact And.intro rfl (And.intro rfl True.intro)) (by exact True.intro) (LocG.yes rfl rfl (by decide) g2 (loc_call (qs := [(false, [PV.val _]), (false, [PV.val _]), (false, [PV.val _])]) (as_ := [(false, [PV.val _]), (false, [PV.val _]), (false, [PV.val _])]) (by decide) c_86 (by exact (And.intro (by exact True.intro) (And.intro (ok_sc rfl) (And.intro (ok_sc rfl) True.intro)))) (by exact (And.intro (And.intro rfl (ToL.cons (PV.To.refl _) ToL.nil)) (And.intro (And.intro rfl (ToL.cons (PV.To.refl _) ToL.nil)) (And.intro (And.intro rfl (ToL.cons (PV.To.refl _) ToL.nil)) True.intro)))) (by exact spec_l1In))) nofree ?_
      refine RunS.step (by exact And.intro rfl (And.intro rfl True.intro)) (by exact True.intro) (LocG.of rfl (loc_pick (z := .tmp 13) (by decide) (by rw [g2]; rfl) (by exact True.intro) (by exact True.intro) (by exact Cp.sc))) nofree ?_
      refine RunS.step (by exact And.intro rfl True.intro) (by exact True.intro) (LocG.of rfl (loc_copy (.inl rfl) (by decide) (by exact Cp.sc))) nofree ?_
      refine RunS.cases (s := 15) rfl (fun g3 => ?_) (fun g3 => ?_)
      · have sg3 := g3
        try simp only [decide_eq_true_eq, decide_eq_false_iff_not, bne_iff_ne, beq_iff_eq, Bool.not_eq_true', Bool.not_eq_false', ne_eq, bne_eq_false_iff_eq, beq_eq_false_iff_ne] at sg3
        refine RunS.step (by exact And.intro rfl (And.intro rfl True.intro)) (by exact True.intro) (LocG.yes rfl rfl (by decide) g3 (loc_field (by decide) fd_61_3)) nofree ?_
        refine RunS.step (by exact And.intro rfl (And.intro rfl True.intro)) (by exact And.intro rfl True.intro) (LocG.yes rfl rfl (by decide) g3 (loc_load (qs := [PV.val _]) (by decide) ty_3 (fun _ => rfl) (by exact Nat.le_of_ble_eq_true rfl) (by exact (ToL.cons (PV.To.refl _) ToL.nil)) (by exact (BorL.cons (PV.bor_val _) BorL.nil)))) nofree ?_
        refine RunS.step (by exact And.intro rfl (And.intro rfl True.intro)) (by exact True.intro) (LocG.yes rfl rfl (by decide) g3 (loc_eql (by decide) (by exact True.intro) (ok_sc rfl))) nofree ?_
        refine RunS.step (by exact And.intro rfl (And.intro rfl True.intro)) (by exact True.intro) (LocG.of rfl (loc_pick (z := .tmp 18) (by decide) (by rw [g3]; rfl) (by exact True.intro) (by exact True.intro) (by exact Cp.sc))) nofree ?_
        refine RunS.step (by exact And.intro rfl True.intro) (by exact True.intro) (LocG.of rfl (loc_copy (.inl rfl) (by decide) (by exact Cp.sc))) nofree ?_
        refine RunS.cases (s := 20) rfl (fun g4 => ?_) (fun g4 => ?_)
        · have sg4 := g4
          try simp only [decide_eq_true_eq, decide_eq_false_iff_not, bne_iff_ne, beq_iff_eq, Bool.not_eq_true', Bool.not_eq_false', ne_eq, bne_eq_false_iff_eq, beq_eq_false_iff_ne] at sg4
          refine RunS.step (by exact And.intro rfl (And.intro rfl True.intro)) (by exact True.intro) (LocG.yes rfl rfl (by decide) g4 (loc_field (by decide) fd_61_4)) nofree ?_
          refine RunS.step (by exact And.intro rfl (And.intro rfl True.intro)) (by exact And.intro rfl True.intro) (LocG.yes rfl rfl (by decide) g4 (loc_load (qs := [PV.val _, PV.val _, PV.sl .v _, PV.val _, PV.val _]) (by decide) ty_59 (fun h => nomatch h) (by exact Nat.le_of_ble_eq_true rfl) (by exact (ToL.cons (PV.To.refl _) (ToL.cons (PV.To.refl _) (ToL.cons PV.to_none (ToL.cons (PV.To.refl _) (ToL.cons (PV.To.refl _) ToL.nil)))))) (by exact (BorL.cons (PV.bor_val _) (BorL.cons (PV.bor_val _) (BorL.cons (PV.bor_sl _) (BorL.cons (PV.bor_val _) (BorL.cons (PV.bor_val _) BorL.nil)))))))) nofree ?_
          refine RunS.step (by exact And.intro rfl (And.intro rfl True.intro)) (by exact True.intro) (LocG.yes rfl rfl (by decide) g4 (loc_call (qs := [(true, [PV.val _, PV.val _, PV.sl _ _, PV.val _, PV.val _])]) (as_ := [(true, [PV.val _, PV.val _, PV.sl .v _, PV.val _, PV.val _])]) (by decide) c_87 (by exact (And.intro (by exact True.intro) True.intro)) (by exact (And.intro (And.intro rfl (ToL.cons (PV.To.refl _) (ToL.cons (PV.To.refl _) (ToL.cons PV.to_none (ToL.cons (PV.To.refl _) (ToL.cons (PV.To.refl _) ToL.nil)))))) True.intro)) (by exact spec_l20NoUpdate))) nofree ?_
          refine RunS.step (by exact And.intro rfl (And.intro rfl True.intro)) (by exact True.intro) (LocG.of rfl (loc_pick (z := .tmp 23) (by decide) (by rw [g4]; rfl) (by exact True.intro) (by exact True.intro) (by exact Cp.sc))) nofree ?_
          refine RunS.step (by exact And.intro rfl True.intro) (by exact True.intro) (LocG.of rfl (loc_copy (.inl rfl) (by decide) (by exact Cp.sc))) nofree ?_
          refine RunS.cases (s := 25) rfl (fun g5 => ?_) (fun g5 => ?_)
          · have sg5 := g5
            try simp only [decide_eq_true_eq, decide_eq_false_iff_not, bne_iff_ne, beq_iff_eq, Bool.not_eq_true', Bool.not_eq_false', ne_eq, bne_eq_false_iff_eq, beq_eq_false_iff_ne] at sg5
            refine RunS.step (by exact And.intro rfl (And.intro rfl True.intro)) (by exact True.intro) (LocG.yes rfl rfl (by decide) g5 (loc_field (by decide) fd_61_5)) nofree ?_
            refine RunS.step (by exact And.intro rfl (And.intro rfl True.intro)) (by exact And.intro rfl True.intro) (LocG.yes rfl rfl (by decide) g5 (loc_load (qs := [PV.val _]) (by decide) ty_3 (fun _ => rfl) (by exact Nat.le_of_ble_eq_true rfl) (by exact (ToL.cons (PV.To.refl _) ToL.nil)) (by exact (BorL.cons (PV.bor_val _) BorL.nil)))) nofree ?_
            refine RunS.step (by exact And.intro rfl (And.intro rfl True.intro)) (by exact True.intro) (LocG.yes rfl rfl (by decide) g5 (loc_eql (by decide) (by exact True.intro) (ok_sc rfl))) nofree ?_
            refine RunS.step (by exact And.intro rfl (And.intro rfl True.intro)) (by exact True.intro) (LocG.of rfl (loc_pick (z := .tmp 28) (by decide) (by rw [g5]; rfl) (by exact True.intro) (by exact True.intro) (by exact Cp.sc))) nofree ?_
            refine RunS.step (by exact And.intro rfl True.intro) (by exact True.intro) (LocG.of rfl (loc_copy (.inr rfl) (by decide) (by exact Cp.sc))) nofree ?_
            refine sw_ret ?_
            exact (And.intro (by refine bool_eq ?_; first | (simp_all [okEvent]; done) | (simp_all [okEvent]; rfl) | (simp_all [okEvent]; omega) | (simp_all [okEvent]; intros; omega)) True.intro)
          · have sg5 := g5
            try simp only [decide_eq_true_eq, decide_eq_false_iff_not, bne_iff_ne, beq_iff_eq, Bool.not_eq_true', Bool.not_eq_false', ne_eq, bne_eq_false_iff_eq, beq_eq_false_iff_ne] at sg5
            refine RunS.step (by exact And.intro rfl True.intro) (by exact True.intro) (LocG.no (ops := _) rfl rfl (by decide) g5 rfl) nofree ?_
            refine RunS.step (by exact And.intro rfl True.intro) (by exact True.intro) (LocG.no (ops := _) rfl rfl (by decide) g5 rfl) nofree ?_
            refine RunS.step (by exact And.intro rfl True.intro) (by exact True.intro) (LocG.no (ops := _) rfl rfl (by decide) g5 rfl) nofree ?_
            refine RunS.step (by exact And.intro rfl True.intro) (by exact True.intro) (LocG.of rfl (loc_pick (z := .const (.bool false)) (by decide) (by rw [g5]; rfl) (by exact True.intro) (ok_sc rfl) (by exact Cp.sc))) nofree ?_
            refine RunS.step (by exact And.intro rfl True.intro) (by exact True.intro) (LocG.of rfl (loc_copy (.inr rfl) (by decide) (by exact Cp.sc))) nofree ?_
            refine sw_ret ?_
            exact (And.intro (by refine bool_eq ?_; first | (simp_all [okEvent]; done) | (simp_all [okEvent]; rfl) | (simp_all [okEvent]; omega) | (simp_all [okEvent]; intros; omega)) True.intro)
        · have sg4 := g4
          try simp only [decide_eq_true_eq, decide_eq_false_iff_not, bne_iff_ne, beq_iff_eq, Bool.not_eq_true', Bool.not_eq_false', ne_eq, bne_eq_false_iff_eq, beq_eq_false_iff_ne] at sg4
          refine RunS.step (by exact And.intro rfl True.intro) (by exact True.intro) (LocG.no (ops := _) rfl rfl (by decide) g4 rfl) nofree ?_
          refine RunS.step (by exact And.intro rfl True.intro) (by exact True.intro) (LocG.no (ops := _) rfl rfl (by decide) g4 rfl) nofree ?_
          refine RunS.step (by exact And.intro rfl True.intro) (by exact True.intro) (LocG.no (ops := _) rfl rfl (by decide) g4 rfl) nofree ?_
          refine RunS.step (by exact And.intro rfl True.intro) (by exact True.intro) (LocG.of rfl (loc_pick (z := .const (.bool false)) (by decide) (by rw [g4]; rfl) (by exact True.intro) (ok_sc rfl) (by exact Cp.sc))) nofree ?_
          refine RunS.step (by exact And.intro rfl True.intro) (by exact True.intro) (LocG.of rfl (loc_copy (.inl rfl) (by decide) (by exact Cp.sc))) nofree ?_
          refine RunS.cases (s := 25) rfl (fun g6 => nomatch g6) (fun g6 => ?_)
          refine RunS.step (by exact And.intro rfl True.intro) (by exact True.intro) (LocG.no (ops := _) rfl rfl (by decide) g6 rfl) nofree ?_
          refine RunS.step (by exact And.intro rfl True.intro) (by exact True.intro) (LocG.no (ops := _) rfl rfl (by decide) g6 rfl) nofree ?_
          refine RunS.step (by exact And.intro rfl True.intro) (by exact True.intro) (LocG.no (ops := _) rfl rfl (by decide) g6 rfl) nofree ?_
          refine RunS.step (by exact And.intro rfl True.intro) (by exact True.intro) (LocG.of rfl (loc_pick (z := .const (.bool false)) (by decide) (by rw [g6]; rfl) (by exact True.intro) (ok_sc rfl) (by exact Cp.sc))) nofree ?_
          refine RunS.step (by exact And.intro rfl True.intro) (by exact True.intro) (LocG.of rfl (loc_copy (.inr rfl) (by decide) (by exact Cp.sc))) nofree ?_
          refine sw_ret ?_
          exact (And.intro (by refine bool_eq ?_; first | (simp_all [okEvent]; done) | (simp_all [okEvent]; rfl) | (simp_all [okEvent]; omega) | (simp_all [okEvent]; intros; omega)) True.intro)
      · have sg3 := g3
        try simp only [decide_eq_true_eq, decide_eq_false_iff_not, bne_iff_ne, beq_iff_eq, Bool.not_eq_true', Bool.not_eq_false', ne_eq, bne_eq_false_iff_eq, beq_eq_false_iff_ne] at sg3
        refine RunS.step (by exact And.intro rfl True.intro) (by exact True.intro) (LocG.no (ops := _) rfl rfl (by decide) g3 rfl) nofree ?_
        refine RunS.step (by exact And.intro rfl True.intro) (by exact True.intro) (LocG.no (ops := _) rfl rfl (by decide) g3 rfl) nofree ?_
        refine RunS.step (by exact And.intro rfl True.intro) (by exact True.intro) (LocG.no (ops := _) rfl rfl (by decide) g3 rfl) nofree ?_
        refine RunS.step (by exact And.intro rfl True.intro) (by exact True.intro) (LocG.of rfl (loc_pick (z := .const (.bool false)) (by decide) (by rw [g3]; rfl) (by exact True.intro) (ok_sc rfl) (by exact Cp.sc))) nofree ?_
        refine RunS.step (by exact And.intro rfl True.intro) (by exact True.intro) (LocG.of rfl (loc_copy (.inl rfl) (by decide) (by exact Cp.sc))) nofree ?_
        refine RunS.cases (s := 20) rfl (fun g7 => nomatch g7) (fun g7 => ?_)
        refine RunS.step (by exact And.intro rfl True.intro) (by exact True.intro) (LocG.no (ops := _) rfl rfl (by decide) g7 rfl) nofree ?_
        refine RunS.step (by exact And.intro rfl True.intro) (by exact True.intro) (LocG.no (ops := _) rfl rfl (by decide) g7 rfl) nofree ?_
        refine RunS.step (by exact And.intro rfl True.intro) (by exact True.intro) (LocG.no (ops := _) rfl rfl (by decide) g7 rfl) nofree ?_
        refine RunS.step (by exact And.intro rfl True.intro) (by exact True.intro) (LocG.of rfl (loc_pick (z := .const (.bool false)) (by decide) (by rw [g7]; rfl) (by exact True.intro) (ok_sc rfl) (by exact Cp.sc))) nofree ?_
        refine RunS.step (by exact And.intro rfl True.intro) (by exact True.intro) (LocG.of rfl (loc_copy (.inl rfl) (by decide) (by exact Cp.sc))) nofree ?_
        refine RunS.cases (s := 25) rfl (fun g8 => nomatch g8) (fun g8 => ?_)
        refine RunS.step (by exact And.intro rfl True.intro) (by exact True.intro) (LocG.no (ops := _) rfl rfl (by decide) g8 rfl) nofree ?_
        refine RunS.step (by exact And.intro rfl True.intro) (by exact True.intro) (LocG.no (ops := _) rfl rfl (by decide) g8 rfl) nofree ?_
        refine RunS.step (by exact And.intro rfl True.intro) (by exact True.intro) (LocG.no (ops := _) rfl rfl (by decide) g8 rfl) nofree ?_
        refine RunS.step (by exact And.intro rfl True.intro) (by exact True.intro) (LocG.of rfl (loc_pick (z := .const (.bool false)) (by decide) (by rw [g8]; rfl) (by exact True.intro) (ok_sc rfl) (by exact Cp.sc))) nofree ?_
        refine RunS.step (by exact And.intro rfl True.intro) (by exact True.intro) (LocG.of rfl (loc_copy (.inr rfl) (by decide) (by exact Cp.sc))) nofree ?_
        refine sw_ret ?_
        exact (And.intro (by refine bool_eq ?_; first | (simp_all [okEvent]; done) | (simp_all [okEvent]; rfl) | (simp_all [okEvent]; omega) | (simp_all [okEvent]; intros; omega)) True.intro)
    · have sg2 := g2
      try simp only [decide_eq_true_eq, decide_eq_false_iff_not, bne_iff_ne, beq_iff_eq, Bool.not_eq_true', Bool.not_eq_false', ne_eq, bne_eq_false_iff_eq, beq_eq_false_iff_ne] at sg2
      refine RunS.step (by exact And.intro rfl True.intro) (by exact True.intro) (LocG.no (ops := _) rfl rfl (by decide) g2 rfl) nofree ?_
      refine RunS.step (by exact And.intro rfl True.intro) (by exact True.intro) (LocG.no (ops := _) rfl rfl (by decide) g2 rfl) nofree ?_
      refine RunS.step (by exact And.intro rfl True.intro) (by exact True.intro) (LocG.no (ops := _) rfl rfl (by decide) g2 rfl) nofree ?_
      refine RunS.step (by exact And.intro rfl True.intro) (by exact True.intro) (LocG.of rfl (loc_pick (z := .const (.bool false)) (by decide) (by rw [g2]; rfl) (by exact True.intro) (ok_sc rfl) (by exact Cp.sc))) nofree ?_
      refine RunS.step (by exact And.intro rfl True.intro) (by exact True.intro) (LocG.of rfl (loc_copy (.inl rfl) (by decide) (by exact Cp.sc))) nofree ?_
      refine RunS.cases (s := 15) rfl (fun g9 => nomatch g9) (fun g9 => ?_)
      refine RunS.step (by exact And.intro rfl True.intro) (by exact True.intro) (LocG.no (ops := _) rfl rfl (by decide) g9 rfl) nofree ?_
      refine RunS.step (by exact And.intro rfl True.intro) (by exact True.intro) (LocG.no (ops := _) rfl rfl (by decide) g9 rfl) nofree ?_
      refine RunS.step (by exact And.intro rfl True.intro) (by exact True.intro) (LocG.no (ops := _) rfl rfl (by decide) g9 rfl) nofree ?_
      refine RunS.step (by exact And.intro rfl True.intro) (by exact True.intro) (LocG.of rfl (loc_pick (z := .const (.bool false)) (by decide) (by rw [g9]; rfl) (by exact True.intro) (ok_sc rfl) (by exact Cp.sc))) nofree ?_
      refine RunS.step (by exact And.intro rfl True.intro) (by exact True.intro) (LocG.of rfl (loc_copy (.inl rfl) (by decide) (by exact Cp.sc))) nofree ?_
      refine RunS.cases (s := 20) rfl (fun g10 => nomatch g10) (fun g10 => ?_)
      refine RunS.step (by exact And.intro rfl True.intro) (by exact True.intro) (LocG.no (ops := _) rfl rfl (by decide) g10 rfl) nofree ?_
      refine RunS.step (by exact And.intro rfl True.intro) (by exact True.intro) (LocG.no (ops := _) rfl rfl (by decide) g10 rfl) nofree ?_
      refine RunS.step (by exact And.intro rfl True.intro) (by exact True.intro) (LocG.no (ops := _) rfl rfl (by decide) g10 rfl) nofree ?_
      refine RunS.step (by exact And.intro rfl True.intro) (by exact True.intro) (LocG.of rfl (loc_pick (z := .const (.bool false)) (by decide) (by rw [g10]; rfl) (by exact True.intro) (ok_sc rfl) (by exact Cp.sc))) nofree ?_
      refine RunS.step (by exact And.intro rfl True.intro) (by exact True.intro) (LocG.of rfl (loc_copy (.inl rfl) (by decide) (by exact Cp.sc))) nofree ?_
      refine RunS.cases (s := 25) rfl (fun g11 => nomatch g11) (fun g11 => ?_)
      refine RunS.step (by exact And.intro rfl True.intro) (by exact True.intro) (LocG.no (ops := _) rfl rfl (by decide) g11 rfl) nofree ?_
      refine RunS.step (by exact And.intro rfl True.intro) (by exact True.intro) (LocG.no (ops := _) rfl rfl (by decide) g11 rfl) nofree ?_
      refine RunS.step (by exact And.intro rfl True.intro) (by exact True.intro) (LocG.no (ops := _) rfl rfl (by decide) g11 rfl) nofree ?_
      refine RunS.step (by exact And.intro rfl True.intro) (by exact True.intro) (LocG.of rfl (loc_pick (z := .const (.bool false)) (by decide) (by rw [g11]; rfl) (by exact True.intro) (ok_sc rfl) (by exact Cp.sc))) nofree ?_
      refine RunS.step (by exact And.intro rfl True.intro) (by exact True.intro) (LocG.of rfl (loc_copy (.inr rfl) (by decide) (by exact Cp.sc))) nofree ?_
      refine sw_ret ?_
      exact (And.intro (by refine bool_eq ?_; first | (simp_all [okEvent]; done) | (simp_all [okEvent]; rfl) | (simp_all [okEvent]; omega) | (simp_all [okEvent]; intros; omega)) True.intro)
  · try simp only [decide_eq_true_eq, decide_eq_false_iff_not, bne_iff_ne, beq_iff_eq, Bool.not_eq_true', Bool.not_eq_false', ne_eq, bne_eq_false_iff_eq, beq_eq_false_iff_ne] at hb1
    refine sw_seq ?_
    refine sw_of (l := [(1, RV.ptr 1 0), (2, RV.sv false [PV.val _]), (4, RV.sv false [PV.val _])]) (b := [(1, (61, [PV.val _, PV.val _, PV.val _, PV.sl _ _, PV.sl _ _, PV.val _, PV.val _, PV.val _, PV.val _, PV.sl _ _, PV.val _, PV.val _, PV.val _]))]) (by exact And.intro rfl (And.intro rfl (And.intro rfl True.intro))) (by exact And.intro rfl True.intro) ?_
    refine sw_reg ?_
    refine RunS.step (by exact And.intro rfl True.intro) (by exact True.intro) (LocG.of rfl (loc_eql (by decide) (by exact True.intro) (ok_sc rfl))) nofree ?_
    refine RunS.step (by exact And.intro rfl True.intro) (by exact True.intro) (LocG.of rfl (loc_copy (.inr rfl) (by decide) (by exact Cp.sc))) nofree ?_
    refine sw_cond (t := 30) rfl (fun hb12 => ?_) (fun hb12 => ?_)
    · try simp only [decide_eq_true_eq, decide_eq_false_iff_not, bne_iff_ne, beq_iff_eq, Bool.not_eq_true', Bool.not_eq_false', ne_eq, bne_eq_false_iff_eq, beq_eq_false_iff_ne] at hb12
      refine sw_seq ?_
      refine sw_of (l := [(1, RV.ptr 1 0), (2, RV.sv false [PV.val _]), (4, RV.sv false [PV.val _])]) (b := [(1, (61, [PV.val _, PV.val _, PV.val _, PV.sl _ _, PV.sl _ _, PV.val _, PV.val _, PV.val _, PV.val _, PV.sl _ _, PV.val _, PV.val _, PV.val _]))]) (by exact And.intro rfl (And.intro rfl (And.intro rfl True.intro))) (by exact And.intro rfl True.intro) ?_
      refine sw_reg ?_
      refine RunS.step (by exact And.intro rfl True.intro) (by exact True.intro) (LocG.of rfl (loc_field (by decide) fd_61_1)) nofree ?_
      refine RunS.step (by exact And.intro rfl True.intro) (by exact And.intro rfl True.intro) (LocG.of rfl (loc_load (qs := [PV.val _, PV.val _, PV.sl .v _, PV.sl .v _]) (by decide) ty_56 (fun h => nomatch h) (by exact Nat.le_of_ble_eq_true rfl) (by exact (ToL.cons (PV.To.refl _) (ToL.cons (PV.To.refl _) (ToL.cons PV.to_none (ToL.cons PV.to_none ToL.nil))))) (by exact (BorL.cons (PV.bor_val _) (BorL.cons (PV.bor_val _) (BorL.cons (PV.bor_sl _) (BorL.cons (PV.bor_sl _) BorL.nil))))))) nofree ?_
      refine RunS.step (by exact And.intro rfl True.intro) (by exact True.intro) (LocG.of rfl (loc_call (qs := [(true, [PV.val _, PV.val _, PV.sl _ _, PV.sl _ _])]) (as_ := [(true, [PV.val _, PV.val _, PV.sl .v _, PV.sl .v _])]) (by decide) c_88 (by exact (And.intro (by exact True.intro) True.intro)) (by exact (And.intro (And.intro rfl (ToL.cons (PV.To.refl _) (ToL.cons (PV.To.refl _) (ToL.cons PV.to_none (ToL.cons PV.to_none ToL.nil))))) True.intro)) (by exact spec_l20Zero))) nofree ?_
      refine RunS.step (by exact And.intro rfl True.intro) (by exact True.intro) (LocG.of rfl (loc_copy (.inl rfl) (by decide) (by exact Cp.sc))) nofree ?_
      refine RunS.cases (s := 35) rfl (fun g13 => ?_) (fun g13 => ?_)
      · have sg13 := g13
        try simp only [decide_eq_true_eq, decide_eq_false_iff_not, bne_iff_ne, beq_iff_eq, Bool.not_eq_true', Bool.not_eq_false', ne_eq, bne_eq_false_iff_eq, beq_eq_false_iff_ne] at sg13
        refine RunS.step (by exact And.intro rfl (And.intro rfl True.intro)) (by exact True.intro) (LocG.yes rfl rfl (by decide) g13 (loc_field (by decide) fd_61_2)) nofree ?_
        refine RunS.step (by exact And.intro rfl (And.intro rfl True.intro)) (by exact And.intro rfl True.intro) (LocG.yes rfl rfl (by decide) g13 (loc_load (qs := [PV.val _]) (by decide) ty_3 (fun _ => rfl) (by exact Nat.le_of_ble_eq_true rfl) (by exact (ToL.cons (PV.To.refl _) ToL.nil)) (by exact (BorL.cons (PV.bor_val _) BorL.nil)))) nofree ?_
        refine RunS.step (by exact And.intro rfl (And.intro rfl True.intro)) (by exact True.intro) (LocG.yes rfl rfl (by decide) g13 (loc_eql (by decide) (by exact True.intro) (ok_sc rfl))) nofree ?_
        refine RunS.step (by exact And.intro rfl (And.intro rfl True.intro)) (by exact True.intro) (LocG.of rfl (loc_pick (z := .tmp 38) (by decide) (by rw [g13]; rfl) (by exact True.intro) (by exact True.intro) (by exact Cp.sc))) nofree ?_
        refine RunS.step (by exact And.intro rfl True.intro) (by exact True.intro) (LocG.of rfl (loc_copy (.inl rfl) (by decide) (by exact Cp.sc))) nofree ?_
        refine RunS.cases (s := 40) rfl (fun g14 => ?_) (fun g14 => ?_)
        · have sg14 := g14
          try simp only [decide_eq_true_eq, decide_eq_false_iff_not, bne_iff_ne, beq_iff_eq, Bool.not_eq_true', Bool.not_eq_false', ne_eq, bne_eq_false_iff_eq, beq_eq_false_iff_ne] at sg14
          refine RunS.step (by exact And.intro rfl (And.intro rfl True.intro)) (by exact True.intro) (LocG.yes rfl rfl (by decide) g14 (loc_field (by decide) fd_61_3)) nofree ?_
          refine RunS.step (by exact And.intro rfl (And.intro rfl True.intro)) (by exact And.intro rfl True.intro) (LocG.yes rfl rfl (by decide) g14 (loc_load (qs := [PV.val _]) (by decide) ty_3 (fun _ => rfl) (by exact Nat.le_of_ble_eq_true rfl) (by exact (ToL.cons (PV.To.refl _) ToL.nil)) (by exact (BorL.cons (PV.bor_val _) BorL.nil)))) nofree ?_
          refine RunS.step (by exact And.intro rfl (And.intro rfl True.intro)) (by exact True.intro) (LocG.yes rfl rfl (by decide) g14 (loc_call (qs := [(false, [PV.val _]), (false, [PV.val _]), (false, [PV.val _])]) (as_ := [(false, [PV.val _]), (false, [PV.val _]), (false, [PV.val _])]) (by decide) c_86 (by exact (And.intro (by exact True.intro) (And.intro (ok_sc rfl) (And.intro (ok_sc rfl) True.intro)))) (by exact (And.intro (And.intro rfl (ToL.cons (PV.To.refl _) ToL.nil)) (And.intro (And.intro rfl (ToL.cons (PV.To.refl _) ToL.nil)) (And.intro (And.intro rfl (ToL.cons (PV.To.refl _) ToL.nil)) True.intro)))) (by exact spec_l1In))) nofree ?_
          refine RunS.step (by exact And.intro rfl (And.intro rfl True.intro)) (by exact True.intro) (LocG.of rfl (loc_pick (z := .tmp 43) (by decide) (by rw [g14]; rfl) (by exact True.intro) (by exact True.intro) (by exact Cp.sc))) nofree ?_
          refine RunS.step (by exact And.intro rfl True.intro) (by exact True.intro) (LocG.of rfl (loc_copy (.inl rfl) (by decide) (by exact Cp.sc))) nofree ?_
          refine RunS.cases (s := 45) rfl (fun g15 => ?_) (fun g15 => ?_)
          · have sg15 := g15
            try simp only [decide_eq_true_eq, decide_eq_false_iff_not, bne_iff_ne, beq_iff_eq, Bool.not_eq_true', Bool.not_eq_false', ne_eq, bne_eq_false_iff_eq, beq_eq_false_iff_ne] at sg15
            refine RunS.step (by exact And.intro rfl (And.intro rfl True.intro)) (by exact True.intro) (LocG.yes rfl rfl (by decide) g15 (loc_field (by decide) fd_61_4)) nofree ?_
            refine RunS.step (by exact And.intro rfl (And.intro rfl True.intro)) (by exact And.intro rfl True.intro) (LocG.yes rfl rfl (by decide) g15 (loc_load (qs := [PV.val _, PV.val _, PV.sl .v _, PV.val _, PV.val _]) (by decide) ty_59 (fun h => nomatch h) (by exact Nat.le_of_ble_eq_true rfl) (by exact (ToL.cons (PV.To.refl _) (ToL.cons (PV.To.refl _) (ToL.cons PV.to_none (ToL.cons (PV.To.refl _) (ToL.cons (PV.To.refl _) ToL.nil)))))) (by exact (BorL.cons (PV.bor_val _) (BorL.cons (PV.bor_val _) (BorL.cons (PV.bor_sl _) (BorL.cons (PV.bor_val _) (BorL.cons (PV.bor_val _) BorL.nil)))))))) nofree ?_
            refine RunS.step (by exact And.intro rfl (And.intro rfl True.intro)) (by exact True.intro) (LocG.yes rfl rfl (by decide) g15 (loc_call (qs := [(true, [PV.val _, PV.val _, PV.sl _ _, PV.val _, PV.val _])]) (as_ := [(true, [PV.val _, PV.val _, PV.sl .v _, PV.val _, PV.val _])]) (by decide) c_87 (by exact (And.intro (by exact True.intro) True.intro)) (by exact (And.intro (And.intro rfl (ToL.cons (PV.To.refl _) (ToL.cons (PV.To.refl _) (ToL.cons PV.to_none (ToL.cons (PV.To.refl _) (ToL.cons (PV.To.refl _) ToL.nil)))))) True.intro)) (by exact spec_l20NoUpdate))) nofree ?_
            refine RunS.step (by exact And.intro rfl (And.intro rfl True.intro)) (by exact True.intro) (LocG.of rfl (loc_pick (z := .tmp 48) (by decide) (by rw [g15]; rfl) (by exact True.intro) (by exact True.intro) (by exact Cp.sc))) nofree ?_
            refine RunS.step (by exact And.intro rfl True.intro) (by exact True.intro) (LocG.of rfl (loc_copy (.inl rfl) (by decide) (by exact Cp.sc))) nofree ?_
            refine RunS.cases (s := 50) rfl (fun g16 => ?_) (fun g16 => ?_)
            · have sg16 := g16
              try simp only [decide_eq_true_eq, decide_eq_false_iff_not, bne_iff_ne, beq_iff_eq, Bool.not_eq_true', Bool.not_eq_false', ne_eq, bne_eq_false_iff_eq, beq_eq_false_iff_ne] at sg16
              refine RunS.step (by exact And.intro rfl (And.intro rfl True.intro)) (by exact True.intro) (LocG.yes rfl rfl (by decide) g16 (loc_field (by decide) fd_61_5)) nofree ?_
              refine RunS.step (by exact And.intro rfl (And.intro rfl True.intro)) (by exact And.intro rfl True.intro) (LocG.yes rfl rfl (by decide) g16 (loc_load (qs := [PV.val _]) (by decide) ty_3 (fun _ => rfl) (by exact Nat.le_of_ble_eq_true rfl) (by exact (ToL.cons (PV.To.refl _) ToL.nil)) (by exact (BorL.cons (PV.bor_val _) BorL.nil)))) nofree ?_
              refine RunS.step (by exact And.intro rfl (And.intro rfl True.intro)) (by exact True.intro) (LocG.yes rfl rfl (by decide) g16 (loc_eql (by decide) (by exact True.intro) (ok_sc rfl))) nofree ?_
              refine RunS.step (by exact And.intro rfl (And.intro rfl True.intro)) (by exact True.intro) (LocG.of rfl (loc_pick (z := .tmp 53) (by decide) (by rw [g16]; rfl) (by exact True.intro) (by exact True.intro) (by exact Cp.sc))) nofree ?_
              refine RunS.step (by exact And.intro rfl True.intro) (by exact True.intro) (LocG.of rfl (loc_copy (.inr rfl) (by decide) (by exact Cp.sc))) nofree ?_
              refine sw_ret ?_
              exact (And.intro (by refine bool_eq ?_; first | (simp_all [okEvent]; done) | (simp_all [okEvent]; rfl) | (simp_all [okEvent]; omega) | (simp_all [okEvent]; intros; omega)) True.intro)
            · have sg16 := g16
              try simp only [decide_eq_true_eq, decide_eq_false_iff_not, bne_iff_ne, beq_iff_eq, Bool.not_eq_true', Bool.not_eq_false', ne_eq, bne_eq_false_iff_eq, beq_eq_false_iff_ne] at sg16
              refine RunS.step (by exact And.intro rfl True.intro) (by exact True.intro) (LocG.no (ops := _) rfl rfl (by decide) g16 rfl) nofree ?_
              refine RunS.step (by exact And.intro rfl True.intro) (by exact True.intro) (LocG.no (ops := _) rfl rfl (by decide) g16 rfl) nofree ?_
              refine RunS.step (by exact And.intro rfl True.intro) (by exact True.intro) (LocG.no (ops := _) rfl rfl (by decide) g16 rfl) nofree ?_
              refine RunS.step (by exact And.intro rfl True.intro) (by exact True.intro) (LocG.of rfl (loc_pick (z := .const (.bool false)) (by decide) (by rw [g16]; rfl) (by exact True.intro) (ok_sc rfl) (by exact Cp.sc))) nofree ?_
              refine RunS.step (by exact And.intro rfl True.intro) (by exact True.intro) (LocG.of rfl (loc_copy (.inr rfl) (by decide) (by exact Cp.sc))) nofree ?_
              refine sw_ret ?_
              exact (And.intro (by refine bool_eq ?_; first | (simp_all [okEvent]; done) | (simp_all [okEvent]; rfl) | (simp_all [okEvent]; omega) | (simp_all [okEvent]; intros; omega)) True.intro)
          · have sg15 := g15
            try simp only [decide_eq_true_eq, decide_eq_false_iff_not, bne_iff_ne, beq_iff_eq, Bool.not_eq_true', Bool.not_eq_false', ne_eq, bne_eq_false_iff_eq, beq_eq_false_iff_ne] at sg15
            refine RunS.step (by exact And.intro rfl True.intro) (by exact True.intro) (LocG.no (ops := _) rfl rfl (by decide) g15 rfl) nofree ?_
            refine RunS.step (by exact And.intro rfl True.intro) (by exact True.intro) (LocG.no (ops := _) rfl rfl (by decide) g15 rfl) nofree ?_
            refine RunS.step (by exact And.intro rfl True.intro) (by exact True.intro) (LocG.no (ops := _) rfl rfl (by decide) g15 rfl) nofree ?_
            refine RunS.step (by exact And.intro rfl True.intro) (by exact True.intro) (LocG.of rfl (loc_pick (z := .const (.bool false)) (by decide) (by rw [g15]; rfl) (by exact True.intro) (ok_sc rfl) (by exact Cp.sc))) nofree ?_
            refine RunS.step (by exact And.intro rfl True.intro) (by exact True.intro) (LocG.of rfl (loc_copy (.inl rfl) (by decide) (by exact Cp.sc))) nofree ?_
            refine RunS.cases (s := 50) rfl (fun g17 => nomatch g17) (fun g17 => ?_)
            refine RunS.step (by exact And.intro rfl True.intro) (by exact True.intro) (LocG.no (ops := _) rfl rfl (by decide) g17 rfl) nofree ?_
            refine RunS.step (by exact And.intro rfl True.intro) (by exact True.intro) (LocG.no (ops := _) rfl rfl (by decide) g17 rfl) nofree ?_
            refine RunS.step (by exact And.intro rfl True.intro) (by exact True.intro) (LocG.no (ops := _) rfl rfl (by decide) g17 rfl) nofree ?_
            refine RunS.step (by exact And.intro rfl True.intro) (by exact True.intro) (LocG.of rfl (loc_pick (z := .const (.bool false)) (by decide) (by rw [g17]; rfl) (by exact True.intro) (ok_sc rfl) (by exact Cp.sc))) nofree ?_
            refine RunS.step (by exact And.intro rfl True.intro) (by exact True.intro) (LocG.of rfl (loc_copy (.inr rfl) (by decide) (by exact Cp.sc))) nofree ?_
            refine sw_ret ?_
            exact (And.intro (by refine bool_eq ?_; first | (simp_all [okEvent]; done) | (simp_all [okEvent]; rfl) | (simp_all [okEvent]; omega) | (simp_all [okEvent]; intros; omega)) True.intro)
        · have sg14 := g14
          try simp only [decide_eq_true_eq, decide_eq_false_iff_not, bne_iff_ne, beq_iff_eq, Bool.not_eq_true', Bool.not_eq_false', ne_eq, bne_eq_false_iff_eq, beq_eq_false_iff_ne] at sg14
          refine RunS.step (by exact And.intro rfl True.intro) (by exact True.intro) (LocG.no (ops := _) rfl rfl (by decide) g14 rfl) nofree ?_
          refine RunS.step (by exact And.intro rfl True.intro) (by exact True.intro) (LocG.no (ops := _) rfl rfl (by decide) g14 rfl) nofree ?_
          refine RunS.step (by exact And.intro rfl True.intro) (by exact True.intro) (LocG.no (ops := _) rfl rfl (by decide) g14 rfl) nofree ?_
          refine RunS.step (by exact And.intro rfl True.intro) (by exact True.intro) (LocG.of rfl (loc_pick (z := .const (.bool false)) (by decide) (by rw [g14]; rfl) (by exact True.intro) (ok_sc rfl) (by exact Cp.sc))) nofree ?_
          refine RunS.step (by exact And.intro rfl True.intro) (by exact True.intro) (LocG.of rfl (loc_copy (.inl rfl) (by decide) (by exact Cp.sc))) nofree ?_
          refine RunS.cases (s := 45) rfl (fun g18 => nomatch g18) (fun g18 => ?_)
          refine RunS.step (by exact And.intro rfl True.intro) (by exact True.intro) (LocG.no (ops := _) rfl rfl (by decide) g18 rfl) nofree ?_
          refine RunS.step (by exact And.intro rfl True.intro) (by exact True.intro) (LocG.no (ops := _) rfl rfl (by decide) g18 rfl) nofree ?_
          refine RunS.step (by exact And.intro rfl True.intro) (by exact True.intro) (LocG.no (ops := _) rfl rfl (by decide) g18 rfl) nofree ?_
          refine RunS.step (by exact And.intro rfl True.intro) (by exact True.intro) (LocG.of rfl (loc_pick (z := .const (.bool false)) (by decide) (by rw [g18]; rfl) (by exact True.intro) (ok_sc rfl) (by exact Cp.sc))) nofree ?_
          refine RunS.step (by exact And.intro rfl True.intro) (by exact True.intro) (LocG.of rfl (loc_copy (.inl rfl) (by decide) (by exact Cp.sc))) nofree ?_
          refine RunS.cases (s := 50) rfl (fun g19 => nomatch g19) (fun g19 => ?_)
          refine RunS.step (by exact And.intro rfl True.intro) (by exact True.intro) (LocG.no (ops := _) rfl rfl (by decide) g19 rfl) nofree ?_
          refine RunS.step (by exact And.intro rfl True.intro) (by exact True.intro) (LocG.no (ops := _) rfl rfl (by decide) g19 rfl) nofree ?_
          refine RunS.step (by exact And.intro rfl True.intro) (by exact True.intro) (LocG.no (ops := _) rfl rfl (by decide) g19 rfl) nofree ?_
          refine RunS.step (by exact And.intro rfl True.intro) (by exact True.intro) (LocG.of rfl (loc_pick (z := .const (.bool false)) (by decide) (by rw [g19]; rfl) (by exact True.intro) (ok_sc rfl) (by exact Cp.sc))) nofree ?_
          refine RunS.step (by exact And.intro rfl True.intro) (by exact True.intro) (LocG.of rfl (loc_copy (.inr rfl) (by decide) (by exact Cp.sc))) nofree ?_
          refine sw_ret ?_
          exact (And.intro (by refine bool_eq ?_; first | (simp_all [okEvent]; done) | (simp_all [okEvent]; rfl) | (simp_all [okEvent]; omega) | (simp_all [okEvent]; intros; omega)) True.intro)
      · have sg13 := g13
        try simp only [decide_eq_true_eq, decide_eq_false_iff_not, bne_iff_ne, beq_iff_eq, Bool.not_eq_true', Bool.not_eq_false', ne_eq, bne_eq_false_iff_eq, beq_eq_false_iff_ne] at sg13
        refine RunS.step (by exact And.intro rfl True.intro) (by exact True.intro) (LocG.no (ops := _) rfl rfl (by decide) g13 rfl) nofree ?_
        refine RunS.step (by exact And.intro rfl True.intro) (by exact True.intro) (LocG.no (ops := _) rfl rfl (by decide) g13 rfl) nofree ?_
        refine RunS.step (by exact And.intro rfl True.intro) (by exact True.intro) (LocG.no (ops := _) rfl rfl (by decide) g13 rfl) nofree ?_
        refine RunS.step (by exact And.intro rfl True.intro) (by exact True.intro) (LocG.of rfl (loc_pick (z := .const (.bool false)) (by decide) (by rw [g13]; rfl) (by exact True.intro) (ok_sc rfl) (by exact Cp.sc))) nofree ?_
        refine RunS.step (by exact And.intro rfl True.intro) (by exact True.intro) (LocG.of rfl (loc_copy (.inl rfl) (by decide) (by exact Cp.sc))) nofree ?_
        refine RunS.cases (s := 40) rfl (fun g20 => nomatch g20) (fun g20 => ?_)
        refine RunS.step (by exact And.intro rfl True.intro) (by exact True.intro) (LocG.no (ops := _) rfl rfl (by decide) g20 rfl) nofree ?_
        refine RunS.step (by exact And.intro rfl True.intro) (by exact True.intro) (LocG.no (ops := _) rfl rfl (by decide) g20 rfl) nofree ?_
        refine RunS.step (by exact And.intro rfl True.intro) (by exact True.intro) (LocG.no (ops := _) rfl rfl (by decide) g20 rfl) nofree ?_
        refine RunS.step (by exact And.intro rfl True.intro) (by exact True.intro) (LocG.of rfl (loc_pick (z := .const (.bool false)) (by decide) (by rw [g20]; rfl) (by exact True.intro) (ok_sc rfl) (by exact Cp.sc))) nofree ?_
        refine RunS.step (by exact And.intro rfl True.intro) (by exact True.intro) (LocG.of rfl (loc_copy (.inl rfl) (by decide) (by exact Cp.sc))) nofree ?_
        refine RunS.cases (s := 45) rfl (fun g21 => nomatch g21) (fun g21 => ?_)
        refine RunS.step (by exact And.intro rfl True.intro) (by exact True.intro) (LocG.no (ops := _) rfl rfl (by decide) g21 rfl) nofree ?_
        refine RunS.step (by exact And.intro rfl True.intro) (by exact True.intro) (LocG.no (ops := _) rfl rfl (by decide) g21 rfl) nofree ?_
        refine RunS.step (by exact And.intro rfl True.intro) (by exact True.intro) (LocG.no (ops := _) rfl rfl (by decide) g21 rfl) nofree ?_
        refine RunS.step (by exact And.intro rfl True.intro) (by exact True.intro) (LocG.of rfl (loc_pick (z := .const (.bool false)) (by decide) (by rw [g21]; rfl) (by exact True.intro) (ok_sc rfl) (by exact Cp.sc))) nofree ?_
        refine RunS.step (by exact And.intro rfl True.intro) (by exact True.intro) (LocG.of rfl (loc_copy (.inl rfl) (by decide) (by exact Cp.sc))) nofree ?_
        refine RunS.cases (s := 50) rfl (fun g22 => nomatch g22) (fun g22 => ?_)
        refine RunS.step (by exact And.intro rfl True.intro) (by exact True.intro) (LocG.no (ops := _) rfl rfl (by decide) g22 rfl) nofree ?_
        refine RunS.step (by exact And.intro rfl True.intro) (by exact True.intro) (LocG.no (ops := _) rfl rfl (by decide) g22 rfl) nofree ?_
        refine RunS.step (by exact And.intro rfl True.intro) (by exact True.intro) (LocG.no (ops := _) rfl rfl (by decide) g22 rfl) nofree ?_
        refine RunS.step (by exact And.intro rfl True.intro) (by exact True.intro) (LocG.of rfl (loc_pick (z := .const (.bool false)) (by decide) (by rw [g22]; rfl) (by exact True.intro) (ok_sc rfl) (by exact Cp.sc))) nofree ?_
        refine RunS.step (by exact And.intro rfl True.intro) (by exact True.intro) (LocG.of rfl (loc_copy (.inr rfl) (by decide) (by exact Cp.sc))) nofree ?_
        refine sw_ret ?_
        exact (And.intro (by refine bool_eq ?_; first | (simp_all [okEvent]; done) | (simp_all [okEvent]; rfl) | (simp_all [okEvent]; omega) | (simp_all [okEvent]; intros; omega)) True.intro)
    · try simp only [decide_eq_true_eq, decide_eq_false_iff_not, bne_iff_ne, beq_iff_eq, Bool.not_eq_true', Bool.not_eq_false', ne_eq, bne_eq_false_iff_eq, beq_eq_false_iff_ne] at hb12
      refine sw_seq ?_
      refine sw_of (l := [(1, RV.ptr 1 0), (2, RV.sv false [PV.val _]), (4, RV.sv false [PV.val _])]) (b := [(1, (61, [PV.val _, PV.val _, PV.val _, PV.sl _ _, PV.sl _ _, PV.val _, PV.val _, PV.val _, PV.val _, PV.sl _ _, PV.val _, PV.val _, PV.val _]))]) (by exact And.intro rfl (And.intro rfl (And.intro rfl True.intro))) (by exact And.intro rfl True.intro) ?_
      refine sw_reg ?_
      refine RunS.step (by exact And.intro rfl True.intro) (by exact True.intro) (LocG.of rfl (loc_eql (by decide) (by exact True.intro) (ok_sc rfl))) nofree ?_
      refine RunS.step (by exact And.intro rfl True.intro) (by exact True.intro) (LocG.of rfl (loc_copy (.inr rfl) (by decide) (by exact Cp.sc))) nofree ?_
      refine sw_cond (t := 55) rfl (fun hb23 => ?_) (fun hb23 => ?_)
      · try simp only [decide_eq_true_eq, decide_eq_false_iff_not, bne_iff_ne, beq_iff_eq, Bool.not_eq_true', Bool.not_eq_false', ne_eq, bne_eq_false_iff_eq, beq_eq_false_iff_ne] at hb23
        refine sw_seq ?_
        refine sw_of (l := [(1, RV.ptr 1 0), (2, RV.sv false [PV.val _]), (4, RV.sv false [PV.val _])]) (b := [(1, (61, [PV.val _, PV.val _, PV.val _, PV.sl _ _, PV.sl _ _, PV.val _, PV.val _, PV.val _, PV.val _, PV.sl _ _, PV.val _, PV.val _, PV.val _]))]) (by exact And.intro rfl (And.intro rfl (And.intro rfl True.intro))) (by exact And.intro rfl True.intro) ?_
        refine sw_reg ?_
        refine RunS.step (by exact And.intro rfl True.intro) (by exact True.intro) (LocG.of rfl (loc_field (by decide) fd_61_1)) nofree ?_
        refine RunS.step (by exact And.intro rfl True.intro) (by exact And.intro rfl True.intro) (LocG.of rfl (loc_load (qs := [PV.val _, PV.val _, PV.sl .v _, PV.sl .v _]) (by decide) ty_56 (fun h => nomatch h) (by exact Nat.le_of_ble_eq_true rfl) (by exact (ToL.cons (PV.To.refl _) (ToL.cons (PV.To.refl _) (ToL.cons PV.to_none (ToL.cons PV.to_none ToL.nil))))) (by exact (BorL.cons (PV.bor_val _) (BorL.cons (PV.bor_val _) (BorL.cons (PV.bor_sl _) (BorL.cons (PV.bor_sl _) BorL.nil))))))) nofree ?_
        refine RunS.step (by exact And.intro rfl True.intro) (by exact True.intro) (LocG.of rfl (loc_call (qs := [(true, [PV.val _, PV.val _, PV.sl _ _, PV.sl _ _])]) (as_ := [(true, [PV.val _, PV.val _, PV.sl .v _, PV.sl .v _])]) (by decide) c_88 (by exact (And.intro (by exact True.intro) True.intro)) (by exact (And.intro (And.intro rfl (ToL.cons (PV.To.refl _) (ToL.cons (PV.To.refl _) (ToL.cons PV.to_none (ToL.cons PV.to_none ToL.nil))))) True.intro)) (by exact spec_l20Zero))) nofree ?_
        refine RunS.step (by exact And.intro rfl True.intro) (by exact True.intro) (LocG.of rfl (loc_copy (.inl rfl) (by decide) (by exact Cp.sc))) nofree ?_
        refine RunS.cases (s := 60) rfl (fun g24 => ?_) (fun g24 => ?_)
        · have sg24 := g24
          try simp only [decide_eq_true_eq, decide_eq_false_iff_not, bne_iff_ne, beq_iff_eq, Bool.not_eq_true', Bool.not_eq_false', ne_eq, bne_eq_false_iff_eq, beq_eq_false_iff_ne] at sg24
          refine RunS.step (by exact And.intro rfl (And.intro rfl True.intro)) (by exact True.intro) (LocG.yes rfl rfl (by decide) g24 (loc_field (by decide) fd_61_2)) nofree ?_
          refine RunS.step (by exact And.intro rfl (And.intro rfl True.intro)) (by exact And.intro rfl True.intro) (LocG.yes rfl rfl (by decide) g24 (loc_load (qs := [PV.val _]) (by decide) ty_3 (fun _ => rfl) (by exact Nat.le_of_ble_eq_true rfl) (by exact (ToL.cons (PV.To.refl _) ToL.nil)) (by exact (BorL.cons (PV.bor_val _) BorL.nil)))) nofree ?_
          refine RunS.step (by exact And.intro rfl (And.intro rfl True.intro)) (by exact True.intro) (LocG.yes rfl rfl (by decide) g24 (loc_eql (by decide) (by exact True.intro) (ok_sc rfl))) nofree ?_
          refine RunS.step (by exact And.intro rfl (And.intro rfl True.intro)) (by exact True.intro) (LocG.of rfl (loc_pick (z := .tmp 63) (by decide) (by rw [g24]; rfl) (by exact True.intro) (by exact True.intro) (by exact Cp.sc))) nofree ?_
          refine RunS.step (by exact And.intro rfl True.intro) (by exact True.intro) (LocG.of rfl (loc_copy (.inl rfl) (by decide) (by exact Cp.sc))) nofree ?_
          refine RunS.cases (s := 65) rfl (fun g25 => ?_) (fun g25 => ?_)
          · have sg25 := g25
            try simp only [decide_eq_true_eq, decide_eq_false_iff_not, bne_iff_ne, beq_iff_eq, Bool.not_eq_true', Bool.not_eq_false', ne_eq, bne_eq_false_iff_eq, beq_eq_false_iff_ne] at sg25
            refine RunS.step (by exact And.intro rfl (And.intro rfl True.intro)) (by exact True.intro) (LocG.yes rfl rfl (by decide) g25 (loc_field (by decide) fd_61_3)) nofree ?_
            refine RunS.step (by exact And.intro rfl (And.intro rfl True.intro)) (by exact And.intro rfl True.intro) (LocG.yes rfl rfl (by decide) g25 (loc_load (qs := [PV.val _]) (by decide) ty_3 (fun _ => rfl) (by exact Nat.le_of_ble_eq_true rfl) (by exact (ToL.cons (PV.To.refl _) ToL.nil)) (by exact (BorL.cons (PV.bor_val _) BorL.nil)))) nofree ?_
            refine RunS.step (by exact And.intro rfl (And.intro rfl True.intro)) (by exact True.intro) (LocG.yes rfl rfl (by decide) g25 (loc_eql (by decide) (by exact True.intro) (ok_sc rfl))) nofree ?_
            refine RunS.step (by exact And.intro rfl (And.intro rfl True.intro)) (by exact True.intro) (LocG.of rfl (loc_pick (z := .tmp 68) (by decide) (by rw [g25]; rfl) (by exact True.intro) (by exact True.intro) (by exact Cp.sc))) nofree ?_
            refine RunS.step (by exact And.intro rfl True.intro) (by exact True.intro) (LocG.of rfl (loc_copy (.inl rfl) (by decide) (by exact Cp.sc))) nofree ?_
            refine RunS.cases (s := 70) rfl (fun g26 => ?_) (fun g26 => ?_)
            · have sg26 := g26
              try simp only [decide_eq_true_eq, decide_eq_false_iff_not, bne_iff_ne, beq_iff_eq, Bool.not_eq_true', Bool.not_eq_false', ne_eq, bne_eq_false_iff_eq, beq_eq_false_iff_ne] at sg26
              refine RunS.step (by exact And.intro rfl (And.intro rfl True.intro)) (by exact True.intro) (LocG.yes rfl rfl (by decide) g26 (loc_field (by decide) fd_61_4)) nofree ?_
              refine RunS.step (by exact And.intro rfl (And.intro rfl True.intro)) (by exact And.intro rfl True.intro) (LocG.yes rfl rfl (by decide) g26 (loc_load (qs := [PV.val _, PV.val _, PV.sl .v _, PV.val _, PV.val _]) (by decide) ty_59 (fun h => nomatch h) (by exact Nat.le_of_ble_eq_true rfl) (by exact (ToL.cons (PV.To.refl _) (ToL.cons (PV.To.refl _) (ToL.cons PV.to_none (ToL.cons (PV.To.refl _) (ToL.cons (PV.To.refl _) ToL.nil)))))) (by exact (BorL.cons (PV.bor_val _) (BorL.cons (PV.bor_val _) (BorL.cons (PV.bor_sl _) (BorL.cons (PV.bor_val _) (BorL.cons (PV.bor_val _) BorL.nil)))))))) nofree ?_
              refine RunS.step (by exact And.intro rfl (And.intro rfl True.intro)) (by exact True.intro) (LocG.yes rfl rfl (by decide) g26 (loc_call (qs := [(true, [PV.val _, PV.val _, PV.sl _ _, PV.val _, PV.val _])]) (as_ := [(true, [PV.val _, PV.val _, PV.sl .v _, PV.val _, PV.val _])]) (by decide) c_89 (by exact (And.intro (by exact True.intro) True.intro)) (by exact (And.intro (And.intro rfl (ToL.cons (PV.To.refl _) (ToL.cons (PV.To.refl _) (ToL.cons PV.to_none (ToL.cons (PV.To.refl _) (ToL.cons (PV.To.refl _) ToL.nil)))))) True.intro)) (by exact spec_IsUpdate))) nofree ?_
              refine RunS.step (by exact And.intro rfl (And.intro rfl True.intro)) (by exact True.intro) (LocG.of rfl (loc_pick (z := .tmp 73) (by decide) (by rw [g26]; rfl) (by exact True.intro) (by exact True.intro) (by exact Cp.sc))) nofree ?_
              refine RunS.step (by exact And.intro rfl True.intro) (by exact True.intro) (LocG.of rfl (loc_copy (.inl rfl) (by decide) (by exact Cp.sc))) nofree ?_
              refine RunS.cases (s := 75) rfl (fun g27 => ?_) (fun g27 => ?_)
              · have sg27 := g27
                try simp only [decide_eq_true_eq, decide_eq_false_iff_not, bne_iff_ne, beq_iff_eq, Bool.not_eq_true', Bool.not_eq_false', ne_eq, bne_eq_false_iff_eq, beq_eq_false_iff_ne] at sg27
                refine RunS.step (by exact And.intro rfl (And.intro rfl True.intro)) (by exact True.intro) (LocG.yes rfl rfl (by decide) g27 (loc_field (by decide) fd_61_5)) nofree ?_
                refine RunS.step (by exact And.intro rfl (And.intro rfl True.intro)) (by exact And.intro rfl True.intro) (LocG.yes rfl rfl (by decide) g27 (loc_load (qs := [PV.val _]) (by decide) ty_3 (fun _ => rfl) (by exact Nat.le_of_ble_eq_true rfl) (by exact (ToL.cons (PV.To.refl _) ToL.nil)) (by exact (BorL.cons (PV.bor_val _) BorL.nil)))) nofree ?_
                refine RunS.step (by exact And.intro rfl (And.intro rfl True.intro)) (by exact True.intro) (LocG.yes rfl rfl (by decide) g27 (loc_eql (by decide) (by exact True.intro) (ok_sc rfl))) nofree ?_
                refine RunS.step (by exact And.intro rfl (And.intro rfl True.intro)) (by exact True.intro) (LocG.of rfl (loc_pick (z := .tmp 78) (by decide) (by rw [g27]; rfl) (by exact True.intro) (by exact True.intro) (by exact Cp.sc))) nofree ?_
                refine RunS.step (by exact And.intro rfl True.intro) (by exact True.intro) (LocG.of rfl (loc_copy (.inr rfl) (by decide) (by exact Cp.sc))) nofree ?_
                refine sw_ret ?_
                exact (And.intro (by refine bool_eq ?_; first | (simp_all [okEvent]; done) | (simp_all [okEvent]; rfl) | (simp_all [okEvent]; omega) | (simp_all [okEvent]; intros; omega)) True.intro)
              · have sg27 := g27
                try simp only [decide_eq_true_eq, decide_eq_false_iff_not, bne_iff_ne, beq_iff_eq, Bool.not_eq_true', Bool.not_eq_false', ne_eq, bne_eq_false_iff_eq, beq_eq_false_iff_ne] at sg27
                refine RunS.step (by exact And.intro rfl True.intro) (by exact True.intro) (LocG.no (ops := _) rfl rfl (by decide) g27 rfl) nofree ?_
                refine RunS.step (by exact And.intro rfl True.intro) (by exact True.intro) (LocG.no (ops := _) rfl rfl (by decide) g27 rfl) nofree ?_
                refine RunS.step (by exact And.intro rfl True.intro) (by exact True.intro) (LocG.no (ops := _) rfl rfl (by decide) g27 rfl) nofree ?_
                refine RunS.step (by exact And.intro rfl True.intro) (by exact True.intro) (LocG.of rfl (loc_pick (z := .const (.bool false)) (by decide) (by rw [g27]; rfl) (by exact True.intro) (ok_sc rfl) (by exact Cp.sc))) nofree ?_
                refine RunS.step (by exact And.intro rfl True.intro) (by exact True.intro) (LocG.of rfl (loc_copy (.inr rfl) (by decide) (by exact Cp.sc))) nofree ?_
                refine sw_ret ?_
                exact (And.intro (by refine bool_eq ?_; first | (simp_all [okEvent]; done) | (simp_all [okEvent]; rfl) | (simp_all [okEvent]; omega) | (simp_all [okEvent]; intros; omega)) True.intro)
            · have sg26 := g26
              try simp only [decide_eq_true_eq, decide_eq_false_iff_not, bne_iff_ne, beq_iff_eq, Bool.not_eq_true', Bool.not_eq_false', ne_eq, bne_eq_false_iff_eq, beq_eq_false_iff_ne] at sg26
              refine RunS.step (by exact And.intro rfl True.intro) (by exact True.intro) (LocG.no (ops := _) rfl rfl (by decide) g26 rfl) nofree ?_
              refine RunS.step (by exact And.intro rfl True.intro) (by exact True.intro) (LocG.no (ops := _) rfl rfl (by decide) g26 rfl) nofree ?_
              refine RunS.step (by exact And.intro rfl True.intro) (by exact True.intro) (LocG.no (ops := _) rfl rfl (by decide) g26 rfl) nofree ?_
              refine RunS.step (by exact And.intro rfl True.intro) (by exact True.intro) (LocG.of rfl (loc_pick (z := .const (.bool false)) (by decide) (by rw [g26]; rfl) (by exact True.intro) (ok_sc rfl) (by exact Cp.sc))) nofree ?_
              refine RunS.step (by exact And.intro rfl True.intro) (by exact True.intro) (LocG.of rfl (loc_copy (.inl rfl) (by decide) (by exact Cp.sc))) nofree ?_
              refine RunS.cases (s := 75) rfl (fun g28 => nomatch g28) (fun g28 => ?_)
              refine RunS.step (by exact And.intro rfl True.intro) (by exact True.intro) (LocG.no (ops := _) rfl rfl (by decide) g28 rfl) nofree ?_
              refine RunS.step (by exact And.intro rfl True.intro) (by exact True.intro) (LocG.no (ops := _) rfl rfl (by decide) g28 rfl) nofree ?_
              refine RunS.step (by exact And.intro rfl True.intro) (by exact True.intro) (LocG.no (ops := _) rfl rfl (by decide) g28 rfl) nofree ?_
              refine RunS.step (by exact And.intro rfl True.intro) (by exact True.intro) (LocG.of rfl (loc_pick (z := .const (.bool false)) (by decide) (by rw [g28]; rfl) (by exact True.intro) (ok_sc rfl) (by exact Cp.sc))) nofree ?_
              refine RunS.step (by exact And.intro rfl True.intro) (by exact True.intro) (LocG.of rfl (loc_copy (.inr rfl) (by decide) (by exact Cp.sc))) nofree ?_
              refine sw_ret ?_
              exact (And.intro (by refine bool_eq ?_; first | (simp_all [okEvent]; done) | (simp_all [okEvent]; rfl) | (simp_all [okEvent]; omega) | (simp_all [okEvent]; intros; omega)) True.intro)
          · have sg25 := g25
            try simp only [decide_eq_true_eq, decide_eq_false_iff_not, bne_iff_ne, beq_iff_eq, Bool.not_eq_true', Bool.not_eq_false', ne_eq, bne_eq_false_iff_eq, beq_eq_false_iff_ne] at sg25
            refine RunS.step (by exact And.intro rfl True.intro) (by exact True.intro) (LocG.no (ops := _) rfl rfl (by decide) g25 rfl) nofree ?_
            refine RunS.step (by exact And.intro rfl True.intro) (by exact True.intro) (LocG.no (ops := _) rfl rfl (by decide) g25 rfl) nofree ?_
            refine RunS.step (by exact And.intro rfl True.intro) (by exact True.intro) (LocG.no (ops := _) rfl rfl (by decide) g25 rfl) nofree ?_
            refine RunS.step (by exact And.intro rfl True.intro) (by exact True.intro) (LocG.of rfl (loc_pick (z := .const (.bool false)) (by decide) (by rw [g25]; rfl) (by exact True.intro) (ok_sc rfl) (by exact Cp.sc))) nofree ?_
            refine RunS.step (by exact And.intro rfl True.intro) (by exact True.intro) (LocG.of rfl (loc_copy (.inl rfl) (by decide) (by exact Cp.sc))) nofree ?_
            refine RunS.cases (s := 70) rfl (fun g29 => nomatch g29) (fun g29 => ?_)
            refine RunS.step (by exact And.intro rfl True.intro) (by exact True.intro) (LocG.no (ops := _) rfl rfl (by decide) g29 rfl) nofree ?_
            refine RunS.step (by exact And.intro rfl True.intro) (by exact True.intro) (LocG.no (ops := _) rfl rfl (by decide) g29 rfl) nofree ?_
            refine RunS.step (by exact And.intro rfl True.intro) (by exact True.intro) (LocG.no (ops := _) rfl rfl (by decide) g29 rfl) nofree ?_
            refine RunS.step (by exact And.intro rfl True.intro) (by exact True.intro) (LocG.of rfl (loc_pick (z := .const (.bool false)) (by decide) (by rw [g29]; rfl) (by exact True.intro) (ok_sc rfl) (by exact Cp.sc))) nofree ?_
            refine RunS.step (by exact And.intro rfl True.intro) (by exact True.intro) (LocG.of rfl (loc_copy (.inl rfl) (by decide) (by exact Cp.sc))) nofree ?_
            refine RunS.cases (s := 75) rfl (fun g30 => nomatch g30) (fun g30 => ?_)
            refine RunS.step (by exact And.intro rfl True.intro) (by exact True.intro) (LocG.no (ops := _) rfl rfl (by decide) g30 rfl) nofree ?_
            refine RunS.step (by exact And.intro rfl True.intro) (by exact True.intro) (LocG.no (ops := _) rfl rfl (by decide) g30 rfl) nofree ?_
            refine RunS.step (by exact And.intro rfl True.intro) (by exact True.intro) (LocG.no (ops := _) rfl rfl (by decide) g30 rfl) nofree ?_
            refine RunS.step (by exact And.intro rfl True.intro) (by exact True.intro) (LocG.of rfl (loc_pick (z := .const (.bool false)) (by decide) (by rw [g30]; rfl) (by exact True.intro) (ok_sc rfl) (by exact Cp.sc))) nofree ?_
            refine RunS.step (by exact And.intro rfl True.intro) (by exact True.intro) (LocG.of rfl (loc_copy (.inr rfl) (by decide) (by exact Cp.sc))) nofree ?_
            refine sw_ret ?_
            exact (And.intro (by refine bool_eq ?_; first | (simp_all [okEvent]; done) | (simp_all [okEvent]; rfl) | (simp_all [okEvent]; omega) | (simp_all [okEvent]; intros; omega)) True.intro)
        · have sg24 := g24
          try simp only [decide_eq_true_eq, decide_eq_false_iff_not, bne_iff_ne, beq_iff_eq, Bool.not_eq_true', Bool.not_eq_false', ne_eq, bne_eq_false_iff_eq, beq_eq_false_iff_ne] at sg24
          refine RunS.step (by exact And.intro rfl True.intro) (by exact True.intro) (LocG.no (ops := _) rfl rfl (by decide) g24 rfl) nofree ?_
          refine RunS.step (by exact And.intro rfl True.intro) (by exact True.intro) (LocG.no (ops := _) rfl rfl (by decide) g24 rfl) nofree ?_
          refine RunS.step (by exact And.intro rfl True.intro) (by exact True.intro) (LocG.no (ops := _) rfl rfl (by decide) g24 rfl) nofree ?_
          refine RunS.step (by exact And.intro rfl True.intro) (by exact True.intro) (LocG.of rfl (loc_pick (z := .const (.bool false)) (by decide) (by rw [g24]; rfl) (by exact True.intro) (ok_sc rfl) (by exact Cp.sc))) nofree ?_
          refine RunS.step (by exact And.intro rfl True.intro) (by exact True.intro) (LocG.of rfl (loc_copy (.inl rfl) (by decide) (by exact Cp.sc))) nofree ?_
          refine RunS.cases (s := 65) rfl (fun g31 => nomatch g31) (fun g31 => ?_)
          refine RunS.step (by exact And.intro rfl True.intro) (by exact True.intro) (LocG.no (ops := _) rfl rfl (by decide) g31 rfl) nofree ?_
          refine RunS.step (by exact And.intro rfl True.intro) (by exact True.intro) (LocG.no (ops := _) rfl rfl (by decide) g31 rfl) nofree ?_
          refine RunS.step (by exact And.intro rfl True.intro) (by exact True.intro) (LocG.no (ops := _) rfl rfl (by decide) g31 rfl) nofree ?_
          refine RunS.step (by exact And.intro rfl True.intro) (by exact True.intro) (LocG.of rfl (loc_pick (z := .const (.bool false)) (by decide) (by rw [g31]; rfl) (by exact True.intro) (ok_sc rfl) (by exact Cp.sc))) nofree ?_
          refine RunS.step (by exact And.intro rfl True.intro) (by exact True.intro) (LocG.of rfl (loc_copy (.inl rfl) (by decide) (by exact Cp.sc))) nofree ?_
          refine RunS.cases (s := 70) rfl (fun g32 => nomatch g32) (fun g32 => ?_)
          refine RunS.step (by exact And.intro rfl True.intro) (by exact True.intro) (LocG.no (ops := _) rfl rfl (by decide) g32 rfl) nofree ?_
          refine RunS.step (by exact And.intro rfl True.intro) (by exact True.intro) (LocG.no (ops := _) rfl rfl (by decide) g32 rfl) nofree ?_
          refine RunS.step (by exact And.intro rfl True.intro) (by exact True.intro) (LocG.no (ops := _) rfl rfl (by decide) g32 rfl) nofree ?_
          refine RunS.step (by exact And.intro rfl True.intro) (by exact True.intro) (LocG.of rfl (loc_pick (z := .const (.bool false)) (by decide) (by rw [g32]; rfl) (by exact True.intro) (ok_sc rfl) (by exact Cp.sc))) nofree ?_
          refine RunS.step (by exact And.intro rfl True.intro) (by exact True.intro) (LocG.of rfl (loc_copy (.inl rfl) (by decide) (by exact Cp.sc))) nofree ?_
          refine RunS.cases (s := 75) rfl (fun g33 => nomatch g33) (fun g33 => ?_)
          refine RunS.step (by exact And.intro rfl True.intro) (by exact True.intro) (LocG.no (ops := _) rfl rfl (by decide) g33 rfl) nofree ?_
          refine RunS.step (by exact And.intro rfl True.intro) (by exact True.intro) (LocG.no (ops := _) rfl rfl (by decide) g33 rfl) nofree ?_
          refine RunS.step (by exact And.intro rfl True.intro) (by exact True.intro) (LocG.no (ops := _) rfl rfl (by decide) g33 rfl) nofree ?_
          refine RunS.step (by exact And.intro rfl True.intro) (by exact True.intro) (LocG.of rfl (loc_pick (z := .const (.bool false)) (by decide) (by rw [g33]; rfl) (by exact True.intro) (ok_sc rfl) (by exact Cp.sc))) nofree ?_
          refine RunS.step (by exact And.intro rfl True.intro) (by exact True.intro) (LocG.of rfl (loc_copy (.inr rfl) (by decide) (by exact Cp.sc))) nofree ?_
          refine sw_ret ?_
          exact (And.intro (by refine bool_eq ?_; first | (simp_all [okEvent]; done) | (simp_all [okEvent]; rfl) | (simp_all [okEvent]; omega) | (simp_all [okEvent]; intros; omega)) True.intro)
      · try simp only [decide_eq_true_eq, decide_eq_false_iff_not, bne_iff_ne, beq_iff_eq, Bool.not_eq_true', Bool.not_eq_false', ne_eq, bne_eq_false_iff_eq, beq_eq_false_iff_ne] at hb23
        refine sw_seq ?_
        refine sw_of (l := [(1, RV.ptr 1 0), (2, RV.sv false [PV.val _]), (4, RV.sv false [PV.val _])]) (b := [(1, (61, [PV.val _, PV.val _, PV.val _, PV.sl _ _, PV.sl _ _, PV.val _, PV.val _, PV.val _, PV.val _, PV.sl _ _, PV.val _, PV.val _, PV.val _]))]) (by exact And.intro rfl (And.intro rfl (And.intro rfl True.intro))) (by exact And.intro rfl True.intro) ?_
        refine sw_reg ?_
        refine RunS.step (by exact And.intro rfl True.intro) (by exact True.intro) (LocG.of rfl (loc_eql (by decide) (by exact True.intro) (ok_sc rfl))) nofree ?_
        refine RunS.step (by exact And.intro rfl True.intro) (by exact True.intro) (LocG.of rfl (loc_copy (.inr rfl) (by decide) (by exact Cp.sc))) nofree ?_
        refine sw_cond (t := 80) rfl (fun hb34 => ?_) (fun hb34 => ?_)
        · try simp only [decide_eq_true_eq, decide_eq_false_iff_not, bne_iff_ne, beq_iff_eq, Bool.not_eq_true', Bool.not_eq_false', ne_eq, bne_eq_false_iff_eq, beq_eq_false_iff_ne] at hb34
          refine sw_seq ?_
          refine sw_of (l := [(1, RV.ptr 1 0), (2, RV.sv false [PV.val _]), (4, RV.sv false [PV.val _])]) (b := [(1, (61, [PV.val _, PV.val _, PV.val _, PV.sl _ _, PV.sl _ _, PV.val _, PV.val _, PV.val _, PV.val _, PV.sl _ _, PV.val _, PV.val _, PV.val _]))]) (by exact And.intro rfl (And.intro rfl (And.intro rfl True.intro))) (by exact And.intro rfl True.intro) ?_
          refine sw_reg ?_
          refine RunS.step (by exact And.intro rfl True.intro) (by exact True.intro) (LocG.of rfl (loc_field (by decide) fd_61_1)) nofree ?_
          refine RunS.step (by exact And.intro rfl True.intro) (by exact And.intro rfl True.intro) (LocG.of rfl (loc_load (qs := [PV.val _, PV.val _, PV.sl .v _, PV.sl .v _]) (by decide) ty_56 (fun h => nomatch h) (by exact Nat.le_of_ble_eq_true rfl) (by exact (ToL.cons (PV.To.refl _) (ToL.cons (PV.To.refl _) (ToL.cons PV.to_none (ToL.cons PV.to_none ToL.nil))))) (by exact (BorL.cons (PV.bor_val _) (BorL.cons (PV.bor_val _) (BorL.cons (PV.bor_sl _) (BorL.cons (PV.bor_sl _) BorL.nil))))))) nofree ?_
          refine RunS.step (by exact And.intro rfl True.intro) (by exact True.intro) (LocG.of rfl (loc_call (qs := [(true, [PV.val _, PV.val _, PV.sl _ _, PV.sl _ _])]) (as_ := [(true, [PV.val _, PV.val _, PV.sl .v _, PV.sl .v _])]) (by decide) c_88 (by exact (And.intro (by exact True.intro) True.intro)) (by exact (And.intro (And.intro rfl (ToL.cons (PV.To.refl _) (ToL.cons (PV.To.refl _) (ToL.cons PV.to_none (ToL.cons PV.to_none ToL.nil))))) True.intro)) (by exact spec_l20Zero))) nofree ?_
          refine RunS.step (by exact And.intro rfl True.intro) (by exact True.intro) (LocG.of rfl (loc_copy (.inl rfl) (by decide) (by exact Cp.sc))) nofree ?_
          refine RunS.cases (s := 85) rfl (fun g35 => ?_) (fun g35 => ?_)
          · have sg35 := g35
            try simp only [decide_eq_true_eq, decide_eq_false_iff_not, bne_iff_ne, beq_iff_eq, Bool.not_eq_true', Bool.not_eq_false', ne_eq, bne_eq_false_iff_eq, beq_eq_false_iff_ne] at sg35
            refine RunS.step (by exact And.intro rfl (And.intro rfl True.intro)) (by exact True.intro) (LocG.yes rfl rfl (by decide) g35 (loc_field (by decide) fd_61_2)) nofree ?_
            refine RunS.step (by exact And.intro rfl (And.intro rfl True.intro)) (by exact And.intro rfl True.intro) (LocG.yes rfl rfl (by decide) g35 (loc_load (qs := [PV.val _]) (by decide) ty_3 (fun _ => rfl) (by exact Nat.le_of_ble_eq_true rfl) (by exact (ToL.cons (PV.To.refl _) ToL.nil)) (by exact (BorL.cons (PV.bor_val _) BorL.nil)))) nofree ?_
            refine RunS.step (by exact And.intro rfl (And.intro rfl True.intro)) (by exact True.intro) (LocG.yes rfl rfl (by decide) g35 (loc_eql (by decide) (by exact True.intro) (ok_sc rfl))) nofree ?_
            refine RunS.step (by exact And.intro rfl (And.intro rfl True.intro)) (by exact True.intro) (LocG.of rfl (loc_pick (z := .tmp 88) (by decide) (by rw [g35]; rfl) (by exact True.intro) (by exact True.intro) (by exact Cp.sc))) nofree ?_
            refine RunS.step (by exact And.intro rfl True.intro) (by exact True.intro) (LocG.of rfl (loc_copy (.inl rfl) (by decide) (by exact Cp.sc))) nofree ?_
            refine RunS.cases (s := 90) rfl (fun g36 => ?_) (fun g36 => ?_)
            · have sg36 := g36
              try simp only [decide_eq_true_eq, decide_eq_false_iff_not, bne_iff_ne, beq_iff_eq, Bool.not_eq_true', Bool.not_eq_false', ne_eq, bne_eq_false_iff_eq, beq_eq_false_iff_ne] at sg36
              refine RunS.step (by exact And.intro rfl (And.intro rfl True.intro)) (by exact True.intro) (LocG.yes rfl rfl (by decide) g36 (loc_field (by decide) fd_61_3)) nofree ?_
              refine RunS.step (by exact And.intro rfl (And.intro rfl True.intro)) (by exact And.intro rfl True.intro) (LocG.yes rfl rfl (by decide) g36 (loc_load (qs := [PV.val _]) (by decide) ty_3 (fun _ => rfl) (by exact Nat.le_of_ble_eq_true rfl) (by exact (ToL.cons (PV.To.refl _) ToL.nil)) (by exact (BorL.cons (PV.bor_val _) BorL.nil)))) nofree ?_
              refine RunS.step (by exact And.intro rfl (And.intro rfl True.intro)) (by exact True.intro) (LocG.yes rfl rfl (by decide) g36 (loc_eql (by decide) (by exact True.intro) (ok_sc rfl))) nofree ?_
              refine RunS.step (by exact And.intro rfl (And.intro rfl True.intro)) (by exact True.intro) (LocG.of rfl (loc_pick (z := .tmp 93) (by decide) (by rw [g36]; rfl) (by exact True.intro) (by exact True.intro) (by exact Cp.sc))) nofree ?_
              refine RunS.step (by exact And.intro rfl True.intro) (by exact True.intro) (LocG.of rfl (loc_copy (.inl rfl) (by decide) (by exact Cp.sc))) nofree ?_
              refine RunS.cases (s := 95) rfl (fun g37 => ?_) (fun g37 => ?_)
              · have sg37 := g37
                try simp only [decide_eq_true_eq, decide_eq_false_iff_not, bne_iff_ne, beq_iff_eq, Bool.not_eq_true', Bool.not_eq_false', ne_eq, bne_eq_false_iff_eq, beq_eq_false_iff_ne] at sg37
                refine RunS.step (by exact And.intro rfl (And.intro rfl True.intro)) (by exact True.intro) (LocG.yes rfl rfl (by decide) g37 (loc_field (by decide) fd_61_4)) nofree ?_
                refine RunS.step (by exact And.intro rfl (And.intro rfl True.intro)) (by exact And.intro rfl True.intro) (LocG.yes rfl rfl (by decide) g37 (loc_load (qs := [PV.val _, PV.val _, PV.sl .v _, PV.val _, PV.val _]) (by decide) ty_59 (fun h => nomatch h) (by exact Nat.le_of_ble_eq_true rfl) (by exact (ToL.cons (PV.To.refl _) (ToL.cons (PV.To.refl _) (ToL.cons PV.to_none (ToL.cons (PV.To.refl _) (ToL.cons (PV.To.refl _) ToL.nil)))))) (by exact (BorL.cons (PV.bor_val _) (BorL.cons (PV.bor_val _) (BorL.cons (PV.bor_sl _) (BorL.cons (PV.bor_val _) (BorL.cons (PV.bor_val _) BorL.nil)))))))) nofree ?_
                refine RunS.step (by exact And.intro rfl (And.intro rfl True.intro)) (by exact True.intro) (LocG.yes rfl rfl (by decide) g37 (loc_call (qs := [(true, [PV.val _, PV.val _, PV.sl _ _, PV.val _, PV.val _])]) (as_ := [(true, [PV.val _, PV.val _, PV.sl .v _, PV.val _, PV.val _])]) (by decide) c_87 (by exact (And.intro (by exact True.intro) True.intro)) (by exact (And.intro (And.intro rfl (ToL.cons (PV.To.refl _) (ToL.cons (PV.To.refl _) (ToL.cons PV.to_none (ToL.cons (PV.To.refl _) (ToL.cons (PV.To.refl _) ToL.nil)))))) True.intro)) (by exact spec_l20NoUpdate))) nofree ?_
                refine RunS.step (by exact And.intro rfl (And.intro rfl True.intro)) (by exact True.intro) (LocG.of rfl (loc_pick (z := .tmp 98) (by decide) (by rw [g37]; rfl) (by exact True.intro) (by exact True.intro) (by exact Cp.sc))) nofree ?_
                refine RunS.step (by exact And.intro rfl True.intro) (by exact True.intro) (LocG.of rfl (loc_copy (.inl rfl) (by decide) (by exact Cp.sc))) nofree ?_
                refine RunS.cases (s := 100) rfl (fun g38 => ?_) (fun g38 => ?_)
                · have sg38 := g38
                  try simp only [decide_eq_true_eq, decide_eq_false_iff_not, bne_iff_ne, beq_iff_eq, Bool.not_eq_true', Bool.not_eq_false', ne_eq, bne_eq_false_iff_eq, beq_eq_false_iff_ne] at sg38
                  refine RunS.step (by exact And.intro rfl (And.intro rfl True.intro)) (by exact True.intro) (LocG.yes rfl rfl (by decide) g38 (loc_field (by decide) fd_61_5)) nofree ?_
                  refine RunS.step (by exact And.intro rfl (And.intro rfl True.intro)) (by exact And.intro rfl True.intro) (LocG.yes rfl rfl (by decide) g38 (loc_load (qs := [PV.val _]) (by decide) ty_3 (fun _ => rfl) (by exact Nat.le_of_ble_eq_true rfl) (by exact (ToL.cons (PV.To.refl _) ToL.nil)) (by exact (BorL.cons (PV.bor_val _) BorL.nil)))) nofree ?_
                  refine RunS.step (by exact And.intro rfl (And.intro rfl True.intro)) (by exact True.intro) (LocG.yes rfl rfl (by decide) g38 (loc_call (qs := [(false, [PV.val _]), (false, [PV.val _]), (false, [PV.val _])]) (as_ := [(false, [PV.val _]), (false, [PV.val _]), (false, [PV.val _])]) (by decide) c_86 (by exact (And.intro (by exact True.intro) (And.intro (ok_sc rfl) (And.intro (ok_sc rfl) True.intro)))) (by exact (And.intro (And.intro rfl (ToL.cons (PV.To.refl _) ToL.nil)) (And.intro (And.intro rfl (ToL.cons (PV.To.refl _) ToL.nil)) (And.intro (And.intro rfl (ToL.cons (PV.To.refl _) ToL.nil)) True.intro)))) (by exact spec_l1In))) nofree ?_
                  refine RunS.step (by exact And.intro rfl (And.intro rfl True.intro)) (by exact True.intro) (LocG.of rfl (loc_pick (z := .tmp 103) (by decide) (by rw [g38]; rfl) (by exact True.intro) (by exact True.intro) (by exact Cp.sc))) nofree ?_
                  refine RunS.step (by exact And.intro rfl True.intro) (by exact True.intro) (LocG.of rfl (loc_copy (.inr rfl) (by decide) (by exact Cp.sc))) nofree ?_
                  refine sw_ret ?_
                  exact (And.intro (by refine bool_eq ?_; first | (simp_all [okEvent]; done) | (simp_all [okEvent]; rfl) | (simp_all [okEvent]; omega) | (simp_all [okEvent]; intros; omega)) True.intro)
                · have sg38 := g38
                  try simp only [decide_eq_true_eq, decide_eq_false_iff_not, bne_iff_ne, beq_iff_eq, Bool.not_eq_true', Bool.not_eq_false', ne_eq, bne_eq_false_iff_eq, beq_eq_false_iff_ne] at sg38
                  refine RunS.step (by exact And.intro rfl True.intro) (by exact True.intro) (LocG.no (ops := _) rfl rfl (by decide) g38 rfl) nofree ?_
                  refine RunS.step (by exact And.intro rfl True.intro) (by exact True.intro) (LocG.no (ops := _) rfl rfl (by decide) g38 rfl) nofree ?_
                  refine RunS.step (by exact And.intro rfl True.intro) (by exact True.intro) (LocG.no (ops := _) rfl rfl (by decide) g38 rfl) nofree ?_
                  refine RunS.step (by exact And.intro rfl True.intro) (by exact True.intro) (LocG.of rfl (loc_pick (z := .const (.bool false)) (by decide) (by rw [g38]; rfl) (by exact True.intro) (ok_sc rfl) (by exact Cp.sc))) nofree ?_
                  refine RunS.step (by exact And.intro rfl True.intro) (by exact True.intro) (LocG.of rfl (loc_copy (.inr rfl) (by decide) (by exact Cp.sc))) nofree ?_
                  refine sw_ret ?_
                  exact (And.intro (by refine bool_eq ?_; first | (simp_all [okEvent]; done) | (simp_all [okEvent]; rfl) | (simp_all [okEvent]; omega) | (simp_all [okEvent]; intros; omega)) True.intro)
              · have sg37 := g37
                try simp only [decide_eq_true_eq, decide_eq_false_iff_not, bne_iff_ne, beq_iff_eq, Bool.not_eq_true', Bool.not_eq_false', ne_eq, bne_eq_false_iff_eq, beq_eq_false_iff_ne] at sg37
                refine RunS.step (by exact And.intro rfl True.intro) (by exact True.intro) (LocG.no (ops := _) rfl rfl (by decide) g37 rfl) nofree ?_
                refine RunS.step (by exact And.intro rfl True.intro) (by exact True.intro) (LocG.no (ops := _) rfl rfl (by decide) g37 rfl) nofree ?_
                refine RunS.step (by exact And.intro rfl True.intro) (by exact True.intro) (LocG.no (ops := _) rfl rfl (by decide) g37 rfl) nofree ?_
                refine RunS.step (by exact And.intro rfl True.intro) (by exact True.intro) (LocG.of rfl (loc_pick (z := .const (.bool false)) (by decide) (by rw [g37]; rfl) (by exact True.intro) (ok_sc rfl) (by exact Cp.sc))) nofree ?_
                refine RunS.step (by exact And.intro rfl True.intro) (by exact True.intro) (LocG.of rfl (loc_copy (.inl rfl) (by decide) (by exact Cp.sc))) nofree ?_
                refine RunS.cases (s := 100) rfl (fun g39 => nomatch g39) (fun g39 => ?_)
                refine RunS.step (by exact And.intro rfl True.intro) (by exact True.intro) (LocG.no (ops := _) rfl rfl (by decide) g39 rfl) nofree ?_
                refine RunS.step (by exact And.intro rfl True.intro) (by exact True.intro) (LocG.no (ops := _) rfl rfl (by decide) g39 rfl) nofree ?_
                refine RunS.step (by exact And.intro rfl True.intro) (by exact True.intro) (LocG.no (ops := _) rfl rfl (by decide) g39 rfl) nofree ?_
                refine RunS.step (by exact And.intro rfl True.intro) (by exact True.intro) (LocG.of rfl (loc_pick (z := .const (.bool false)) (by decide) (by rw [g39]; rfl) (by exact True.intro) (ok_sc rfl) (by exact Cp.sc))) nofree ?_
                refine RunS.step (by exact And.intro rfl True.intro) (by exact True.intro) (LocG.of rfl (loc_copy (.inr rfl) (by decide) (by exact Cp.sc))) nofree ?_
                refine sw_ret ?_
                exact (And.intro (by refine bool_eq ?_; first | (simp_all [okEvent]; done) | (simp_all [okEvent]; rfl) | (simp_all [okEvent]; omega) | (simp_all [okEvent]; intros; omega)) True.intro)
            · have sg36 := g36
              try simp only [decide_eq_true_eq, decide_eq_false_iff_not, bne_iff_ne, beq_iff_eq, Bool.not_eq_true', Bool.not_eq_false', ne_eq, bne_eq_false_iff_eq, beq_eq_false_iff_ne] at sg36
              refine RunS.step (by exact And.intro rfl True.intro) (by exact True.intro) (LocG.no (ops := _) rfl rfl (by decide) g36 rfl) nofree ?_
              refine RunS.step (by exact And.intro rfl True.intro) (by exact True.intro) (LocG.no (ops := _) rfl rfl (by decide) g36 rfl) nofree ?_
              refine RunS.step (by exact And.intro rfl True.intro) (by exact True.intro) (LocG.no (ops := _) rfl rfl (by decide) g36 rfl) nofree ?_
              refine RunS.step (by exact And.intro rfl True.intro) (by exact True.intro) (LocG.of rfl (loc_pick (z := .const (.bool false)) (by decide) (by rw [g36]; rfl) (by exact True.intro) (ok_sc rfl) (by exact Cp.sc))) nofree ?_
              refine RunS.step (by exact And.intro rfl True.intro) (by exact True.intro) (LocG.of rfl (loc_copy (.inl rfl) (by decide) (by exact Cp.sc))) nofree ?_
              refine RunS.cases (s := 95) rfl (fun g40 => nomatch g40) (fun g40 => ?_)
              refine RunS.step (by exact And.intro rfl True.intro) (by exact True.intro) (LocG.no (ops := _) rfl rfl (by decide) g40 rfl) nofree ?_
              refine RunS.step (by exact And.intro rfl True.intro) (by exact True.intro) (LocG.no (ops := _) rfl rfl (by decide) g40 rfl) nofree ?_
              refine RunS.step (by exact And.intro rfl True.intro) (by exact True.intro) (LocG.no (ops := _) rfl rfl (by decide) g40 rfl) nofree ?_
              refine RunS.step (by exact And.intro rfl True.intro) (by exact True.intro) (LocG.of rfl (loc_pick (z := .const (.bool false)) (by decide) (by rw [g40]; rfl) (by exact True.intro) (ok_sc rfl) (by exact Cp.sc))) nofree ?_
              refine RunS.step (by exact And.intro rfl True.intro) (by exact True.intro) (LocG.of rfl (loc_copy (.inl rfl) (by decide) (by exact Cp.sc))) nofree ?_
              refine RunS.cases (s := 100) rfl (fun g41 => nomatch g41) (fun g41 => ?_)
              refine RunS.step (by exact And.intro rfl True.intro) (by exact True.intro) (LocG.no (ops := _) rfl rfl (by decide) g41 rfl) nofree ?_
              refine RunS.step (by exact And.intro rfl True.intro) (by exact True.intro) (LocG.no (ops := _) rfl rfl (by decide) g41 rfl) nofree ?_
              refine RunS.step (by exact And.intro rfl True.intro) (by exact True.intro) (LocG.no (ops := _) rfl rfl (by decide) g41 rfl) nofree ?_
              refine RunS.step (by exact And.intro rfl True.intro) (by exact True.intro) (LocG.of rfl (loc_pick (z := .const (.bool false)) (by decide) (by rw [g41]; rfl) (by exact True.intro) (ok_sc rfl) (by exact Cp.sc))) nofree ?_
              refine RunS.step (by exact And.intro rfl True.intro) (by exact True.intro) (LocG.of rfl (loc_copy (.inr rfl) (by decide) (by exact Cp.sc))) nofree ?_
              refine sw_ret ?_
              exact (And.intro (by refine bool_eq ?_; first | (simp_all [okEvent]; done) | (simp_all [okEvent]; rfl) | (simp_all [okEvent]; omega) | (simp_all [okEvent]; intros; omega)) True.intro)
          · have sg35 := g35
            try simp only [decide_eq_true_eq, decide_eq_false_iff_not, bne_iff_ne, beq_iff_eq, Bool.not_eq_true', Bool.not_eq_false', ne_eq, bne_eq_false_iff_eq, beq_eq_false_iff_ne] at sg35
            refine RunS.step (by exact And.intro rfl True.intro) (by exact True.intro) (LocG.no (ops := _) rfl rfl (by decide) g35 rfl) nofree ?_
            refine RunS.step (by exact And.intro rfl True.intro) (by exact True.intro) (LocG.no (ops := _) rfl rfl (by decide) g35 rfl) nofree ?_
            refine RunS.step (by exact And.intro rfl True.intro) (by exact True.intro) (LocG.no (ops := _) rfl rfl (by decide) g35 rfl) nofree ?_
            refine RunS.step (by exact And.intro rfl True.intro) (by exact True.intro) (LocG.of rfl (loc_pick (z := .const (.bool false)) (by decide) (by rw [g35]; rfl) (by exact True.intro) (ok_sc rfl) (by exact Cp.sc))) nofree ?_
            refine RunS.step (by exact And.intro rfl True.intro) (by exact True.intro) (LocG.of rfl (loc_copy (.inl rfl) (by decide) (by exact Cp.sc))) nofree ?_
            refine RunS.cases (s := 90) rfl (fun g42 => nomatch g42) (fun g42 => ?_)
            refine RunS.step (by exact And.intro rfl True.intro) (by exact True.intro) (LocG.no (ops := _) rfl rfl (by decide) g42 rfl) nofree ?_
            refine RunS.step (by exact And.intro rfl True.intro) (by exact True.intro) (LocG.no (ops := _) rfl rfl (by decide) g42 rfl) nofree ?_
            refine RunS.step (by exact And.intro rfl True.intro) (by exact True.intro) (LocG.no (ops := _) rfl rfl (by decide) g42 rfl) nofree ?_
            refine RunS.step (by exact And.intro rfl True.intro) (by exact True.intro) (LocG.of rfl (loc_pick (z := .const (.bool false)) (by decide) (by rw [g42]; rfl) (by exact True.intro) (ok_sc rfl) (by exact Cp.sc))) nofree ?_
            refine RunS.step (by exact And.intro rfl True.intro) (by exact True.intro) (LocG.of rfl (loc_copy (.inl rfl) (by decide) (by exact Cp.sc))) nofree ?_
            refine RunS.cases (s := 95) rfl (fun g43 => nomatch g43) (fun g43 => ?_)
            refine RunS.step (by exact And.intro rfl True.intro) (by exact True.intro) (LocG.no (ops := _) rfl rfl (by decide) g43 rfl) nofree ?_
            refine RunS.step (by exact And.intro rfl True.intro) (by exact True.intro) (LocG.no (ops := _) rfl rfl (by decide) g43 rfl) nofree ?_
            refine RunS.step (by exact And.intro rfl True.intro) (by exact True.intro) (LocG.no (ops := _) rfl rfl (by decide) g43 rfl) nofree ?_
            refine RunS.step (by exact And.intro rfl True.intro) (by exact True.intro) (LocG.of rfl (loc_pick (z := .const (.bool false)) (by decide) (by rw [g43]; rfl) (by exact True.intro) (ok_sc rfl) (by exact Cp.sc))) nofree ?_
            refine RunS.step (by exact And.intro rfl True.intro) (by exact True.intro) (LocG.of rfl (loc_copy (.inl rfl) (by decide) (by exact Cp.sc))) nofree ?_
            refine RunS.cases (s := 100) rfl (fun g44 => nomatch g44) (fun g44 => ?_)
            refine RunS.step (by exact And.intro rfl True.intro) (by exact True.intro) (LocG.no (ops := _) rfl rfl (by decide) g44 rfl) nofree ?_
            refine RunS.step (by exact And.intro rfl True.intro) (by exact True.intro) (LocG.no (ops := _) rfl rfl (by decide) g44 rfl) nofree ?_
            refine RunS.step (by exact And.intro rfl True.intro) (by exact True.intro) (LocG.no (ops := _) rfl rfl (by decide) g44 rfl) nofree ?_
            refine RunS.step (by exact And.intro rfl True.intro) (by exact True.intro) (LocG.of rfl (loc_pick (z := .const (.bool false)) (by decide) (by rw [g44]; rfl) (by exact True.intro) (ok_sc rfl) (by exact Cp.sc))) nofree ?_
            refine RunS.step (by exact And.intro rfl True.intro) (by exact True.intro) (LocG.of rfl (loc_copy (.inr rfl) (by decide) (by exact Cp.sc))) nofree ?_
            refine sw_ret ?_
            exact (And.intro (by refine bool_eq ?_; first | (simp_all [okEvent]; done) | (simp_all [okEvent]; rfl) | (simp_all [okEvent]; omega) | (simp_all [okEvent]; intros; omega)) True.intro)
        · try simp only [decide_eq_true_eq, decide_eq_false_iff_not, bne_iff_ne, beq_iff_eq, Bool.not_eq_true', Bool.not_eq_false', ne_eq, bne_eq_false_iff_eq, beq_eq_false_iff_ne] at hb34
          refine sw_skip ?_
          refine sw_seq ?_
          refine sw_of (l := [(1, RV.ptr 1 0), (2, RV.sv false [PV.val _]), (4, RV.sv false [PV.val _])]) (b := [(1, (61, [PV.val _, PV.val _, PV.val _, PV.sl _ _, PV.sl _ _, PV.val _, PV.val _, PV.val _, PV.val _, PV.sl _ _, PV.val _, PV.val _, PV.val _]))]) (by exact And.intro rfl (And.intro rfl (And.intro rfl True.intro))) (by exact And.intro rfl True.intro) ?_
          refine sw_reg ?_
          refine RunS.step (by exact True.intro) (by exact True.intro) (LocG.of rfl (loc_const (.inr rfl) (by decide) (ok_sc rfl))) nofree ?_
          refine sw_ret ?_
          exact (And.intro (by refine bool_eq ?_; first | (simp_all [okEvent]; done) | (simp_all [okEvent]; rfl) | (simp_all [okEvent]; omega) | (simp_all [okEvent]; intros; omega)) True.intro)
theorem impl_IsEvent {x : Event}  : SCall Try.prog 30 [(true, [PV.val (vI x.Kind), PV.val (vI x.Query.Id), PV.val (vI x.Query.Tenant), PV.sl .v (x.Query.Conds.map cCond), PV.sl .v (x.Query.Out.map cInt), PV.val (vI x.Limit), PV.val (vI x.Id), PV.val (vI x.Update.Kind), PV.val (vI x.Update.Row.Id), PV.sl .v (x.Update.Row.Values.map cInt), PV.val (vI x.Update.Field), PV.val (vI x.Update.Value), PV.val (vI x.Steps)])] (resRV [(false, [PV.val (.bool (okEvent x))])]) := by
  refine scall_of (rs := [(false, [PV.val (.bool (okEvent x))])]) Try.func30 rfl (Nat.le_of_ble_eq_true rfl) (borA_cons (BorL.cons (PV.bor_val _) (BorL.cons (PV.bor_val _) (BorL.cons (PV.bor_val _) (BorL.cons (PV.bor_sl _) (BorL.cons (PV.bor_sl _) (BorL.cons (PV.bor_val _) (BorL.cons (PV.bor_val _) (BorL.cons (PV.bor_val _) (BorL.cons (PV.bor_val _) (BorL.cons (PV.bor_sl _) (BorL.cons (PV.bor_val _) (BorL.cons (PV.bor_val _) (BorL.cons (PV.bor_val _) BorL.nil))))))))))))) borA_nil) ?_
  intro h0 w0 Fz0
  refine sw_slen (s := 0) (j := 3) rfl rfl fun hl0_3 => ?_
  try rw [List.length_map] at hl0_3
  refine sw_slen (s := 0) (j := 4) rfl rfl fun hl0_4 => ?_
  try rw [List.length_map] at hl0_4
  refine sw_slen (s := 0) (j := 9) rfl rfl fun hl0_9 => ?_
  try rw [List.length_map] at hl0_9
  refine sw_seq ?_
  refine sw_reg ?_
  refine RunS.step (by exact And.intro rfl True.intro) (by exact True.intro) (LocG.of rfl (loc_box (ag := true) (cs := [PV.val _, PV.val _, PV.val _, PV.sl _ _, PV.sl _ _, PV.val _, PV.val _, PV.val _, PV.val _, PV.sl _ _, PV.val _, PV.val _, PV.val _]) (by decide) (by exact True.intro))) (free1 (Free.of_ rfl)) ?_
  refine RunS.step (by exact True.intro) (by exact True.intro) (LocG.of rfl (loc_const (.inr rfl) (by decide) (ok_sc rfl))) nofree ?_
  refine sw_seq ?_
  refine sw_of (l := [(1, RV.ptr 1 0), (2, RV.sv false [PV.val _])]) (b := [(1, (61, [PV.val _, PV.val _, PV.val _, PV.sl _ _, PV.sl _ _, PV.val _, PV.val _, PV.val _, PV.val _, PV.sl _ _, PV.val _, PV.val _, PV.val _]))]) (by exact And.intro rfl (And.intro rfl True.intro)) (by exact And.intro rfl True.intro) ?_
  refine sw_reg ?_
  refine RunS.step (by exact And.intro rfl True.intro) (by exact True.intro) (LocG.of rfl (loc_field (by decide) fd_61_1)) nofree ?_
  refine RunS.step (by exact And.intro rfl True.intro) (by exact And.intro rfl True.intro) (LocG.of rfl (loc_load (qs := [PV.val _, PV.val _, PV.sl .v _, PV.sl .v _]) (by decide) ty_56 (fun h => nomatch h) (by exact Nat.le_of_ble_eq_true rfl) (by exact (ToL.cons (PV.To.refl _) (ToL.cons (PV.To.refl _) (ToL.cons PV.to_none (ToL.cons PV.to_none ToL.nil))))) (by exact (BorL.cons (PV.bor_val _) (BorL.cons (PV.bor_val _) (BorL.cons (PV.bor_sl _) (BorL.cons (PV.bor_sl _) BorL.nil))))))) nofree ?_
  refine RunS.step (by exact True.intro) (by exact True.intro) (LocG.of rfl (loc_build (qs := []) (cs := [PV.val _, PV.val _, PV.sl _ _, PV.sl _ _]) (by decide) z_56 zo_56 pl_56 (by exact rfl) (by exact True.intro) rfl (by exact rfl))) nofree ?_
  refine RunS.step (by exact And.intro rfl (And.intro rfl True.intro)) (by exact True.intro) (LocG.of rfl (loc_call (qs := [(true, [PV.val _, PV.val _, PV.sl _ _, PV.sl _ _]), (true, [PV.val _, PV.val _, PV.sl _ _, PV.sl _ _])]) (as_ := [(true, [PV.val _, PV.val _, PV.sl .v _, PV.sl .v _]), (true, [PV.val _, PV.val _, PV.sl .v _, PV.sl .v _])]) (by decide) c_91 (by exact (And.intro (by exact True.intro) (And.intro (by exact True.intro) True.intro))) (by exact (And.intro (And.intro rfl (ToL.cons (PV.To.refl _) (ToL.cons (PV.To.refl _) (ToL.cons PV.to_none (ToL.cons PV.to_none ToL.nil))))) (And.intro (And.intro rfl (ToL.cons (PV.To.refl _) (ToL.cons (PV.To.refl _) (ToL.cons PV.to_none (ToL.cons PV.to_none ToL.nil))))) True.intro))) (by exact (impl_equalQuery (x := x.Query) (y := ⟨0, 0, [], []⟩))))) nofree ?_
  refine RunS.step (by exact And.intro rfl True.intro) (by exact True.intro) (LocG.of rfl (loc_copy (.inl rfl) (by decide) (by exact Cp.sc))) nofree ?_
  refine RunS.cases (s := 9) rfl (fun g1 => ?_) (fun g1 => ?_)
  · have sg1 := g1
    try simp only [decide_eq_true_eq, decide_eq_false_iff_not, bne_iff_ne, beq_iff_eq, Bool.not_eq_true', Bool.not_eq_false', ne_eq, bne_eq_false_iff_eq, beq_eq_false_iff_ne] at sg1
    refine RunS.step (by exact And.intro rfl (And.intro rfl True.intro)) (by exact True.intro) (LocG.yes rfl rfl (by decide) g1 (loc_field (by decide) fd_61_2)) nofree ?_
    refine RunS.step (by exact And.intro rfl (And.intro rfl True.intro)) (by exact And.intro rfl True.intro) (LocG.yes rfl rfl (by decide) g1 (loc_load (qs := [PV.val _]) (by decide) ty_3 (fun _ => rfl) (by exact Nat.le_of_ble_eq_true rfl) (by exact (ToL.cons (PV.To.refl _) ToL.nil)) (by exact (BorL.cons (PV.bor_val _) BorL.nil)))) nofree ?_
    refine RunS.step (by exact And.intro rfl (And.intro rfl True.intro)) (by exact True.intro) (LocG.yes rfl rfl (by decide) g1 (loc_eql (by decide) (by exact True.intro) (ok_sc rfl))) nofree ?_
    refine RunS.step (by exact And.intro rfl (And.intro rfl True.intro)) (by exact True.intro) (LocG.of rfl (loc_pick (z := .tmp 12) (by decide) (by rw [g1]; rfl) (by exact True.intro) (by exact True.intro) (by exact Cp.sc))) nofree ?_
    refine RunS.step (by exact And.intro rfl True.intro) (by exact True.intro) (LocG.of rfl (loc_copy (.inr rfl) (by decide) (by exact Cp.sc))) nofree ?_
    refine sw_seq ?_
    refine sw_of (l := [(1, RV.ptr 1 0), (2, RV.sv false [PV.val _]), (3, RV.sv false [PV.val _])]) (b := [(1, (61, [PV.val _, PV.val _, PV.val _, PV.sl _ _, PV.sl _ _, PV.val _, PV.val _, PV.val _, PV.val _, PV.sl _ _, PV.val _, PV.val _, PV.val _]))]) (by exact And.intro rfl (And.intro rfl (And.intro rfl True.intro))) (by exact And.intro rfl True.intro) ?_
    refine sw_reg ?_
    refine RunS.step (by exact And.intro rfl True.intro) (by exact True.intro) (LocG.of rfl (loc_field (by decide) fd_61_4)) nofree ?_
    refine RunS.step (by exact And.intro rfl True.intro) (by exact And.intro rfl True.intro) (LocG.of rfl (loc_load (qs := [PV.val _, PV.val _, PV.sl .v _, PV.val _, PV.val _]) (by decide) ty_59 (fun h => nomatch h) (by exact Nat.le_of_ble_eq_true rfl) (by exact (ToL.cons (PV.To.refl _) (ToL.cons (PV.To.refl _) (ToL.cons PV.to_none (ToL.cons (PV.To.refl _) (ToL.cons (PV.To.refl _) ToL.nil)))))) (by exact (BorL.cons (PV.bor_val _) (BorL.cons (PV.bor_val _) (BorL.cons (PV.bor_sl _) (BorL.cons (PV.bor_val _) (BorL.cons (PV.bor_val _) BorL.nil)))))))) nofree ?_
    refine RunS.step (by exact True.intro) (by exact True.intro) (LocG.of rfl (loc_build (qs := []) (cs := [PV.val _, PV.val _, PV.sl _ _, PV.val _, PV.val _]) (by decide) z_59 zo_59 pl_59 (by exact rfl) (by exact True.intro) rfl (by exact rfl))) nofree ?_
    refine RunS.step (by exact And.intro rfl (And.intro rfl True.intro)) (by exact True.intro) (LocG.of rfl (loc_call (qs := [(true, [PV.val _, PV.val _, PV.sl _ _, PV.val _, PV.val _]), (true, [PV.val _, PV.val _, PV.sl _ _, PV.val _, PV.val _])]) (as_ := [(true, [PV.val _, PV.val _, PV.sl .v _, PV.val _, PV.val _]), (true, [PV.val _, PV.val _, PV.sl .v _, PV.val _, PV.val _])]) (by decide) c_92 (by exact (And.intro (by exact True.intro) (And.intro (by exact True.intro) True.intro))) (by exact (And.intro (And.intro rfl (ToL.cons (PV.To.refl _) (ToL.cons (PV.To.refl _) (ToL.cons PV.to_none (ToL.cons (PV.To.refl _) (ToL.cons (PV.To.refl _) ToL.nil)))))) (And.intro (And.intro rfl (ToL.cons (PV.To.refl _) (ToL.cons (PV.To.refl _) (ToL.cons PV.to_none (ToL.cons (PV.To.refl _) (ToL.cons (PV.To.refl _) ToL.nil)))))) True.intro))) (by exact (impl_equalUpdate (x := x.Update) (y := ⟨0, ⟨0, []⟩, 0, 0⟩))))) nofree ?_
    refine RunS.step (by exact And.intro rfl True.intro) (by exact True.intro) (LocG.of rfl (loc_copy (.inr rfl) (by decide) (by exact Cp.sc))) nofree ?_
    refine sw_seq ?_
    refine sw_seq ?_
    refine sw_of (l := [(1, RV.ptr 1 0), (2, RV.sv false [PV.val _]), (3, RV.sv false [PV.val _]), (4, RV.sv false [PV.val _])]) (b := [(1, (61, [PV.val _, PV.val _, PV.val _, PV.sl _ _, PV.sl _ _, PV.val _, PV.val _, PV.val _, PV.val _, PV.sl _ _, PV.val _, PV.val _, PV.val _]))]) (by exact And.intro rfl (And.intro rfl (And.intro rfl (And.intro rfl True.intro)))) (by exact And.intro rfl True.intro) ?_
    refine sw_reg ?_
    refine RunS.step (by exact And.intro rfl True.intro) (by exact True.intro) (LocG.of rfl (loc_field (by decide) fd_61_0)) nofree ?_
    refine RunS.step (by exact And.intro rfl True.intro) (by exact And.intro rfl True.intro) (LocG.of rfl (loc_load (qs := [PV.val _]) (by decide) ty_3 (fun _ => rfl) (by exact Nat.le_of_ble_eq_true rfl) (by exact (ToL.cons (PV.To.refl _) ToL.nil)) (by exact (BorL.cons (PV.bor_val _) BorL.nil)))) nofree ?_
    refine sw_block ?_
    refine sw_seq ?_
    refine sw_of (l := [(1, RV.ptr 1 0), (2, RV.sv false [PV.val _]), (3, RV.sv false [PV.val _]), (4, RV.sv false [PV.val _]), (19, RV.sv false [PV.val _])]) (b := [(1, (61, [PV.val _, PV.val _, PV.val _, PV.sl _ _, PV.sl _ _, PV.val _, PV.val _, PV.val _, PV.val _, PV.sl _ _, PV.val _, PV.val _, PV.val _]))]) (by exact And.intro rfl (And.intro rfl (And.intro rfl (And.intro rfl (And.intro rfl True.intro))))) (by exact And.intro rfl True.intro) ?_
    refine sw_reg ?_
    refine RunS.step (by exact And.intro rfl True.intro) (by exact True.intro) (LocG.of rfl (loc_eql (by decide) (by exact True.intro) (ok_sc rfl))) nofree ?_
    refine RunS.step (by exact And.intro rfl True.intro) (by exact True.intro) (LocG.of rfl (loc_copy (.inr rfl) (by decide) (by exact Cp.sc))) nofree ?_
    refine sw_cond (t := 20) rfl (fun hb2 => ?_) (fun hb2 => ?_)
    · try simp only [decide_eq_true_eq, decide_eq_false_iff_not, bne_iff_ne, beq_iff_eq, Bool.not_eq_true', Bool.not_eq_false', ne_eq, bne_eq_false_iff_eq, beq_eq_false_iff_ne] at hb2
      refine sw_seq ?_
      refine sw_of (l := [(1, RV.ptr 1 0), (2, RV.sv false [PV.val _]), (3, RV.sv false [PV.val _]), (4, RV.sv false [PV.val _]), (19, RV.sv false [PV.val _])]) (b := [(1, (61, [PV.val _, PV.val _, PV.val _, PV.sl _ _, PV.sl _ _, PV.val _, PV.val _, PV.val _, PV.val _, PV.sl _ _, PV.val _, PV.val _, PV.val _]))]) (by exact And.intro rfl (And.intro rfl (And.intro rfl (And.intro rfl (And.intro rfl True.intro))))) (by exact And.intro rfl True.intro) ?_
      refine sw_reg ?_
      refine RunS.step (by exact And.intro rfl True.intro) (by exact True.intro) (LocG.of rfl (loc_field (by decide) fd_61_1)) nofree ?_
      refine RunS.step (by exact And.intro rfl True.intro) (by exact And.intro rfl True.intro) (LocG.of rfl (loc_load (qs := [PV.val _, PV.val _, PV.sl .v _, PV.sl .v _]) (by decide) ty_56 (fun h => nomatch h) (by exact Nat.le_of_ble_eq_true rfl) (by exact (ToL.cons (PV.To.refl _) (ToL.cons (PV.To.refl _) (ToL.cons PV.to_none (ToL.cons PV.to_none ToL.nil))))) (by exact (BorL.cons (PV.bor_val _) (BorL.cons (PV.bor_val _) (BorL.cons (PV.bor_sl _) (BorL.cons (PV.bor_sl _) BorL.nil))))))) nofree ?_
      refine RunS.step (by exact And.intro rfl True.intro) (by exact True.intro) (LocG.of rfl (loc_call (qs := [(true, [PV.val _, PV.val _, PV.sl _ _, PV.sl _ _])]) (as_ := [(true, [PV.val _, PV.val _, PV.sl .v _, PV.sl .v _])]) (by decide) c_93 (by exact (And.intro (by exact True.intro) True.intro)) (by exact (And.intro (And.intro rfl (ToL.cons (PV.To.refl _) (ToL.cons (PV.To.refl _) (ToL.cons PV.to_none (ToL.cons PV.to_none ToL.nil))))) True.intro)) (by exact impl_IsQuery))) nofree ?_
      refine RunS.step (by exact And.intro rfl True.intro) (by exact True.intro) (LocG.of rfl (loc_copy (.inl rfl) (by decide) (by exact Cp.sc))) nofree ?_
      refine RunS.cases (s := 25) rfl (fun g3 => ?_) (fun g3 => ?_)
      · have sg3 := g3
        try simp only [decide_eq_true_eq, decide_eq_false_iff_not, bne_iff_ne, beq_iff_eq, Bool.not_eq_true', Bool.not_eq_false', ne_eq, bne_eq_false_iff_eq, beq_eq_false_iff_ne] at sg3
        refine RunS.step (by exact And.intro rfl (And.intro rfl True.intro)) (by exact True.intro) (LocG.yes rfl rfl (by decide) g3 (loc_field (by decide) fd_61_2)) nofree ?_
        refine RunS.step (by exact And.intro rfl (And.intro rfl True.intro)) (by exact And.intro rfl True.intro) (LocG.yes rfl rfl (by decide) g3 (loc_load (qs := [PV.val _]) (by decide) ty_3 (fun _ => rfl) (by exact Nat.le_of_ble_eq_true rfl) (by exact (ToL.cons (PV.To.refl _) ToL.nil)) (by exact (BorL.cons (PV.bor_val _) BorL.nil)))) nofree ?_
        refine RunS.step (by exact And.intro rfl (And.intro rfl True.intro)) (by exact True.intro) (LocG.yes rfl rfl (by decide) g3 (loc_call (qs := [(false, [PV.val _]), (false, [PV.val _]), (false, [PV.val _])]) (as_ := [(false, [PV.val _]), (false, [PV.val _]), (false, [PV.val _])]) (by decide) c_94 (by exact (And.intro (by exact True.intro) (And.intro (ok_sc rfl) (And.intro (ok_sc rfl) True.intro)))) (by exact (And.intro (And.intro rfl (ToL.cons (PV.To.refl _) ToL.nil)) (And.intro (And.intro rfl (ToL.cons (PV.To.refl _) ToL.nil)) (And.intro (And.intro rfl (ToL.cons (PV.To.refl _) ToL.nil)) True.intro)))) (by exact impl_within))) nofree ?_
        refine RunS.step (by exact And.intro rfl (And.intro rfl True.intro)) (by exact True.intro) (LocG.of rfl (loc_pick (z := .tmp 28) (by decide) (by rw [g3]; rfl) (by exact True.intro) (by exact True.intro) (by exact Cp.sc))) nofree ?_
        refine RunS.step (by exact And.intro rfl True.intro) (by exact True.intro) (LocG.of rfl (loc_copy (.inl rfl) (by decide) (by exact Cp.sc))) nofree ?_
        refine RunS.cases (s := 30) rfl (fun g4 => ?_) (fun g4 => ?_)
        · have sg4 := g4
          try simp only [decide_eq_true_eq, decide_eq_false_iff_not, bne_iff_ne, beq_iff_eq, Bool.not_eq_true', Bool.not_eq_false', ne_eq, bne_eq_false_iff_eq, beq_eq_false_iff_ne] at sg4
          refine RunS.step (by exact And.intro rfl (And.intro rfl True.intro)) (by exact True.intro) (LocG.yes rfl rfl (by decide) g4 (loc_field (by decide) fd_61_3)) nofree ?_
          refine RunS.step (by exact And.intro rfl (And.intro rfl True.intro)) (by exact And.intro rfl True.intro) (LocG.yes rfl rfl (by decide) g4 (loc_load (qs := [PV.val _]) (by decide) ty_3 (fun _ => rfl) (by exact Nat.le_of_ble_eq_true rfl) (by exact (ToL.cons (PV.To.refl _) ToL.nil)) (by exact (BorL.cons (PV.bor_val _) BorL.nil)))) nofree ?_
          refine RunS.step (by exact And.intro rfl (And.intro rfl True.intro)) (by exact True.intro) (LocG.yes rfl rfl (by decide) g4 (loc_eql (by decide) (by exact True.intro) (ok_sc rfl))) nofree ?_
          refine RunS.step (by exact And.intro rfl (And.intro rfl True.intro)) (by exact True.intro) (LocG.of rfl (loc_pick (z := .tmp 33) (by decide) (by rw [g4]; rfl) (by exact True.intro) (by exact True.intro) (by exact Cp.sc))) nofree ?_
          refine RunS.step (by exact And.intro rfl True.intro) (by exact True.intro) (LocG.of rfl (loc_copy (.inl rfl) (by decide) (by exact Cp.sc))) nofree ?_
          refine RunS.cases (s := 35) rfl (fun g5 => ?_) (fun g5 => ?_)
          · have sg5 := g5
            try simp only [decide_eq_true_eq, decide_eq_false_iff_not, bne_iff_ne, beq_iff_eq, Bool.not_eq_true', Bool.not_eq_false', ne_eq, bne_eq_false_iff_eq, beq_eq_false_iff_ne] at sg5
            refine RunS.step (by exact And.intro rfl (And.intro rfl True.intro)) (by exact True.intro) (LocG.yes rfl rfl (by decide) g5 (loc_copy (.inl rfl) (by decide) (by exact Cp.sc))) nofree ?_
            refine RunS.step (by exact And.intro rfl (And.intro rfl True.intro)) (by exact True.intro) (LocG.of rfl (loc_pick (z := .tmp 36) (by decide) (by rw [g5]; rfl) (by exact True.intro) (by exact True.intro) (by exact Cp.sc))) nofree ?_
            refine RunS.step (by exact And.intro rfl True.intro) (by exact True.intro) (LocG.of rfl (loc_copy (.inl rfl) (by decide) (by exact Cp.sc))) nofree ?_
            refine RunS.cases (s := 38) rfl (fun g6 => ?_) (fun g6 => ?_)
            · have sg6 := g6
              try simp only [decide_eq_true_eq, decide_eq_false_iff_not, bne_iff_ne, beq_iff_eq, Bool.not_eq_true', Bool.not_eq_false', ne_eq, bne_eq_false_iff_eq, beq_eq_false_iff_ne] at sg6
              refine RunS.step (by exact And.intro rfl (And.intro rfl True.intro)) (by exact True.intro) (LocG.yes rfl rfl (by decide) g6 (loc_field (by decide) fd_61_5)) nofree ?_
              refine RunS.step (by exact And.intro rfl (And.intro rfl True.intro)) (by exact And.intro rfl True.intro) (LocG.yes rfl rfl (by decide) g6 (loc_load (qs := [PV.val _]) (by decide) ty_3 (fun _ => rfl) (by exact Nat.le_of_ble_eq_true rfl) (by exact (ToL.cons (PV.To.refl _) ToL.nil)) (by exact (BorL.cons (PV.bor_val _) BorL.nil)))) nofree ?_
              refine RunS.step (by exact And.intro rfl (And.intro rfl True.intro)) (by exact True.intro) (LocG.yes rfl rfl (by decide) g6 (loc_eql (by decide) (by exact True.intro) (ok_sc rfl))) nofree ?_
              refine RunS.step (by exact And.intro rfl (And.intro rfl True.intro)) (by exact True.intro) (LocG.of rfl (loc_pick (z := .tmp 41) (by decide) (by rw [g6]; rfl) (by exact True.intro) (by exact True.intro) (by exact Cp.sc))) nofree ?_
              refine RunS.step (by exact And.intro rfl True.intro) (by exact True.intro) (LocG.of rfl (loc_copy (.inr rfl) (by decide) (by exact Cp.sc))) nofree ?_
              refine sw_ret ?_
              exact (And.intro (by refine bool_eq ?_; first | (simp_all [okEvent, deq_zeroQ, deq_zeroU]; done) | (simp_all [okEvent, deq_zeroQ, deq_zeroU]; rfl) | (simp_all [okEvent, deq_zeroQ, deq_zeroU]; omega) | (simp_all [okEvent, deq_zeroQ, deq_zeroU]; intros; omega)) True.intro)
            · have sg6 := g6
              try simp only [decide_eq_true_eq, decide_eq_false_iff_not, bne_iff_ne, beq_iff_eq, Bool.not_eq_true', Bool.not_eq_false', ne_eq, bne_eq_false_iff_eq, beq_eq_false_iff_ne] at sg6
              refine RunS.step (by exact And.intro rfl True.intro) (by exact True.intro) (LocG.no (ops := _) rfl rfl (by decide) g6 rfl) nofree ?_
              refine RunS.step (by exact And.intro rfl True.intro) (by exact True.intro) (LocG.no (ops := _) rfl rfl (by decide) g6 rfl) nofree ?_
              refine RunS.step (by exact And.intro rfl True.intro) (by exact True.intro) (LocG.no (ops := _) rfl rfl (by decide) g6 rfl) nofree ?_
              refine RunS.step (by exact And.intro rfl True.intro) (by exact True.intro) (LocG.of rfl (loc_pick (z := .const (.bool false)) (by decide) (by rw [g6]; rfl) (by exact True.intro) (ok_sc rfl) (by exact Cp.sc))) nofree ?_
              refine RunS.step (by exact And.intro rfl True.intro) (by exact True.intro) (LocG.of rfl (loc_copy (.inr rfl) (by decide) (by exact Cp.sc))) nofree ?_
              refine sw_ret ?_
              exact (And.intro (by refine bool_eq ?_; first | (simp_all [okEvent, deq_zeroQ, deq_zeroU]; done) | (simp_all [okEvent, deq_zeroQ, deq_zeroU]; rfl) | (simp_all [okEvent, deq_zeroQ, deq_zeroU]; omega) | (simp_all [okEvent, deq_zeroQ, deq_zeroU]; intros; omega)) True.intro)
          · have sg5 := g5
            try simp only [decide_eq_true_eq, decide_eq_false_iff_not, bne_iff_ne, beq_iff_eq, Bool.not_eq_true', Bool.not_eq_false', ne_eq, bne_eq_false_iff_eq, beq_eq_false_iff_ne] at sg5
            refine RunS.step (by exact And.intro rfl True.intro) (by exact True.intro) (LocG.no (ops := _) rfl rfl (by decide) g5 rfl) nofree ?_
            refine RunS.step (by exact And.intro rfl True.intro) (by exact True.intro) (LocG.of rfl (loc_pick (z := .const (.bool false)) (by decide) (by rw [g5]; rfl) (by exact True.intro) (ok_sc rfl) (by exact Cp.sc))) nofree ?_
            refine RunS.step (by exact And.intro rfl True.intro) (by exact True.intro) (LocG.of rfl (loc_copy (.inl rfl) (by decide) (by exact Cp.sc))) nofree ?_
            refine RunS.cases (s := 38) rfl (fun g7 => nomatch g7) (fun g7 => ?_)
            refine RunS.step (by exact And.intro rfl True.intro) (by exact True.intro) (LocG.no (ops := _) rfl rfl (by decide) g7 rfl) nofree ?_
            refine RunS.step (by exact And.intro rfl True.intro) (by exact True.intro) (LocG.no (ops := _) rfl rfl (by decide) g7 rfl) nofree ?_
            refine RunS.step (by exact And.intro rfl True.intro) (by exact True.intro) (LocG.no (ops := _) rfl rfl (by decide) g7 rfl) nofree ?_
            refine RunS.step (by exact And.intro rfl True.intro) (by exact True.intro) (LocG.of rfl (loc_pick (z := .const (.bool false)) (by decide) (by rw [g7]; rfl) (by exact True.intro) (ok_sc rfl) (by exact Cp.sc))) nofree ?_
            refine RunS.step (by exact And.intro rfl True.intro) (by exact True.intro) (LocG.of rfl (loc_copy (.inr rfl) (by decide) (by exact Cp.sc))) nofree ?_
            refine sw_ret ?_
            exact (And.intro (by refine bool_eq ?_; first | (simp_all [okEvent, deq_zeroQ, deq_zeroU]; done) | (simp_all [okEvent, deq_zeroQ, deq_zeroU]; rfl) | (simp_all [okEvent, deq_zeroQ, deq_zeroU]; omega) | (simp_all [okEvent, deq_zeroQ, deq_zeroU]; intros; omega)) True.intro)
        · have sg4 := g4
          try simp only [decide_eq_true_eq, decide_eq_false_iff_not, bne_iff_ne, beq_iff_eq, Bool.not_eq_true', Bool.not_eq_false', ne_eq, bne_eq_false_iff_eq, beq_eq_false_iff_ne] at sg4
          refine RunS.step (by exact And.intro rfl True.intro) (by exact True.intro) (LocG.no (ops := _) rfl rfl (by decide) g4 rfl) nofree ?_
          refine RunS.step (by exact And.intro rfl True.intro) (by exact True.intro) (LocG.no (ops := _) rfl rfl (by decide) g4 rfl) nofree ?_
          refine RunS.step (by exact And.intro rfl True.intro) (by exact True.intro) (LocG.no (ops := _) rfl rfl (by decide) g4 rfl) nofree ?_
          refine RunS.step (by exact And.intro rfl True.intro) (by exact True.intro) (LocG.of rfl (loc_pick (z := .const (.bool false)) (by decide) (by rw [g4]; rfl) (by exact True.intro) (ok_sc rfl) (by exact Cp.sc))) nofree ?_
          refine RunS.step (by exact And.intro rfl True.intro) (by exact True.intro) (LocG.of rfl (loc_copy (.inl rfl) (by decide) (by exact Cp.sc))) nofree ?_
          refine RunS.cases (s := 35) rfl (fun g8 => nomatch g8) (fun g8 => ?_)
          refine RunS.step (by exact And.intro rfl True.intro) (by exact True.intro) (LocG.no (ops := _) rfl rfl (by decide) g8 rfl) nofree ?_
          refine RunS.step (by exact And.intro rfl True.intro) (by exact True.intro) (LocG.of rfl (loc_pick (z := .const (.bool false)) (by decide) (by rw [g8]; rfl) (by exact True.intro) (ok_sc rfl) (by exact Cp.sc))) nofree ?_
          refine RunS.step (by exact And.intro rfl True.intro) (by exact True.intro) (LocG.of rfl (loc_copy (.inl rfl) (by decide) (by exact Cp.sc))) nofree ?_
          refine RunS.cases (s := 38) rfl (fun g9 => nomatch g9) (fun g9 => ?_)
          refine RunS.step (by exact And.intro rfl True.intro) (by exact True.intro) (LocG.no (ops := _) rfl rfl (by decide) g9 rfl) nofree ?_
          refine RunS.step (by exact And.intro rfl True.intro) (by exact True.intro) (LocG.no (ops := _) rfl rfl (by decide) g9 rfl) nofree ?_
          refine RunS.step (by exact And.intro rfl True.intro) (by exact True.intro) (LocG.no (ops := _) rfl rfl (by decide) g9 rfl) nofree ?_
          refine RunS.step (by exact And.intro rfl True.intro) (by exact True.intro) (LocG.of rfl (loc_pick (z := .const (.bool false)) (by decide) (by rw [g9]; rfl) (by exact True.intro) (ok_sc rfl) (by exact Cp.sc))) nofree ?_
          refine RunS.step (by exact And.intro rfl True.intro) (by exact True.intro) (LocG.of rfl (loc_copy (.inr rfl) (by decide) (by exact Cp.sc))) nofree ?_
          refine sw_ret ?_
          exact (And.intro (by refine bool_eq ?_; first | (simp_all [okEvent, deq_zeroQ, deq_zeroU]; done) | (simp_all [okEvent, deq_zeroQ, deq_zeroU]; rfl) | (simp_all [okEvent, deq_zeroQ, deq_zeroU]; omega) | (simp_all [okEvent, deq_zeroQ, deq_zeroU]; intros; omega)) True.intro)
      · have sg3 := g3
        try simp only [decide_eq_true_eq, decide_eq_false_iff_not, bne_iff_ne, beq_iff_eq, Bool.not_eq_true', Bool.not_eq_false', ne_eq, bne_eq_false_iff_eq, beq_eq_false_iff_ne] at sg3
        refine RunS.step (by exact And.intro rfl True.intro) (by exact True.intro) (LocG.no (ops := _) rfl rfl (by decide) g3 rfl) nofree ?_
        refine RunS.step (by exact And.intro rfl True.intro) (by exact True.intro) (LocG.no (ops := _) rfl rfl (by decide) g3 rfl) nofree ?_
        refine RunS.step (by exact And.intro rfl True.intro) (by exact True.intro) (LocG.no (ops := _) rfl rfl (by decide) g3 rfl) nofree ?_
        refine RunS.step (by exact And.intro rfl True.intro) (by exact True.intro) (LocG.of rfl (loc_pick (z := .const (.bool false)) (by decide) (by rw [g3]; rfl) (by exact True.intro) (ok_sc rfl) (by exact Cp.sc))) nofree ?_
        refine RunS.step (by exact And.intro rfl True.intro) (by exact True.intro) (LocG.of rfl (loc_copy (.inl rfl) (by decide) (by exact Cp.sc))) nofree ?_
        refine RunS.cases (s := 30) rfl (fun g10 => nomatch g10) (fun g10 => ?_)
        refine RunS.step (by exact And.intro rfl True.intro) (by exact True.intro) (LocG.no (ops := _) rfl rfl (by decide) g10 rfl) nofree ?_
        refine RunS.step (by exact And.intro rfl True.intro) (by exact True.intro) (LocG.no (ops := _) rfl rfl (by decide) g10 rfl) nofree ?_
        refine RunS.step (by exact And.intro rfl True.intro) (by exact True.intro) (LocG.no (ops := _) rfl rfl (by decide) g10 rfl) nofree ?_
        refine RunS.step (by exact And.intro rfl True.intro) (by exact True.intro) (LocG.of rfl (loc_pick (z := .const (.bool false)) (by decide) (by rw [g10]; rfl) (by exact True.intro) (ok_sc rfl) (by exact Cp.sc))) nofree ?_
        refine RunS.step (by exact And.intro rfl True.intro) (by exact True.intro) (LocG.of rfl (loc_copy (.inl rfl) (by decide) (by exact Cp.sc))) nofree ?_
        refine RunS.cases (s := 35) rfl (fun g11 => nomatch g11) (fun g11 => ?_)
        refine RunS.step (by exact And.intro rfl True.intro) (by exact True.intro) (LocG.no (ops := _) rfl rfl (by decide) g11 rfl) nofree ?_
        refine RunS.step (by exact And.intro rfl True.intro) (by exact True.intro) (LocG.of rfl (loc_pick (z := .const (.bool false)) (by decide) (by rw [g11]; rfl) (by exact True.intro) (ok_sc rfl) (by exact Cp.sc))) nofree ?_
        refine RunS.step (by exact And.intro rfl True.intro) (by exact True.intro) (LocG.of rfl (loc_copy (.inl rfl) (by decide) (by exact Cp.sc))) nofree ?_
        refine RunS.cases (s := 38) rfl (fun g12 => nomatch g12) (fun g12 => ?_)
        refine RunS.step (by exact And.intro rfl True.intro) (by exact True.intro) (LocG.no (ops := _) rfl rfl (by decide) g12 rfl) nofree ?_
        refine RunS.step (by exact And.intro rfl True.intro) (by exact True.intro) (LocG.no (ops := _) rfl rfl (by decide) g12 rfl) nofree ?_
        refine RunS.step (by exact And.intro rfl True.intro) (by exact True.intro) (LocG.no (ops := _) rfl rfl (by decide) g12 rfl) nofree ?_
        refine RunS.step (by exact And.intro rfl True.intro) (by exact True.intro) (LocG.of rfl (loc_pick (z := .const (.bool false)) (by decide) (by rw [g12]; rfl) (by exact True.intro) (ok_sc rfl) (by exact Cp.sc))) nofree ?_
        refine RunS.step (by exact And.intro rfl True.intro) (by exact True.intro) (LocG.of rfl (loc_copy (.inr rfl) (by decide) (by exact Cp.sc))) nofree ?_
        refine sw_ret ?_
        exact (And.intro (by refine bool_eq ?_; first | (simp_all [okEvent, deq_zeroQ, deq_zeroU]; done) | (simp_all [okEvent, deq_zeroQ, deq_zeroU]; rfl) | (simp_all [okEvent, deq_zeroQ, deq_zeroU]; omega) | (simp_all [okEvent, deq_zeroQ, deq_zeroU]; intros; omega)) True.intro)
    · try simp only [decide_eq_true_eq, decide_eq_false_iff_not, bne_iff_ne, beq_iff_eq, Bool.not_eq_true', Bool.not_eq_false', ne_eq, bne_eq_false_iff_eq, beq_eq_false_iff_ne] at hb2
      refine sw_seq ?_
      refine sw_of (l := [(1, RV.ptr 1 0), (2, RV.sv false [PV.val _]), (3, RV.sv false [PV.val _]), (4, RV.sv false [PV.val _]), (19, RV.sv false [PV.val _])]) (b := [(1, (61, [PV.val _, PV.val _, PV.val _, PV.sl _ _, PV.sl _ _, PV.val _, PV.val _, PV.val _, PV.val _, PV.sl _ _, PV.val _, PV.val _, PV.val _]))]) (by exact And.intro rfl (And.intro rfl (And.intro rfl (And.intro rfl (And.intro rfl True.intro))))) (by exact And.intro rfl True.intro) ?_
      refine sw_reg ?_
      refine RunS.step (by exact And.intro rfl True.intro) (by exact True.intro) (LocG.of rfl (loc_eql (by decide) (by exact True.intro) (ok_sc rfl))) nofree ?_
      refine RunS.step (by exact And.intro rfl True.intro) (by exact True.intro) (LocG.of rfl (loc_copy (.inr rfl) (by decide) (by exact Cp.sc))) nofree ?_
      refine sw_cond (t := 43) rfl (fun hb13 => ?_) (fun hb13 => ?_)
      · try simp only [decide_eq_true_eq, decide_eq_false_iff_not, bne_iff_ne, beq_iff_eq, Bool.not_eq_true', Bool.not_eq_false', ne_eq, bne_eq_false_iff_eq, beq_eq_false_iff_ne] at hb13
        refine sw_seq ?_
        refine sw_of (l := [(1, RV.ptr 1 0), (2, RV.sv false [PV.val _]), (3, RV.sv false [PV.val _]), (4, RV.sv false [PV.val _]), (19, RV.sv false [PV.val _])]) (b := [(1, (61, [PV.val _, PV.val _, PV.val _, PV.sl _ _, PV.sl _ _, PV.val _, PV.val _, PV.val _, PV.val _, PV.sl _ _, PV.val _, PV.val _, PV.val _]))]) (by exact And.intro rfl (And.intro rfl (And.intro rfl (And.intro rfl (And.intro rfl True.intro))))) (by exact And.intro rfl True.intro) ?_
        refine sw_reg ?_
        refine RunS.step (by exact And.intro rfl True.intro) (by exact True.intro) (LocG.of rfl (loc_field (by decide) fd_61_3)) nofree ?_
        refine RunS.step (by exact And.intro rfl True.intro) (by exact And.intro rfl True.intro) (LocG.of rfl (loc_load (qs := [PV.val _]) (by decide) ty_3 (fun _ => rfl) (by exact Nat.le_of_ble_eq_true rfl) (by exact (ToL.cons (PV.To.refl _) ToL.nil)) (by exact (BorL.cons (PV.bor_val _) BorL.nil)))) nofree ?_
        refine RunS.step (by exact And.intro rfl True.intro) (by exact True.intro) (LocG.of rfl (loc_call (qs := [(false, [PV.val _]), (false, [PV.val _]), (false, [PV.val _])]) (as_ := [(false, [PV.val _]), (false, [PV.val _]), (false, [PV.val _])]) (by decide) c_94 (by exact (And.intro (by exact True.intro) (And.intro (ok_sc rfl) (And.intro (ok_sc rfl) True.intro)))) (by exact (And.intro (And.intro rfl (ToL.cons (PV.To.refl _) ToL.nil)) (And.intro (And.intro rfl (ToL.cons (PV.To.refl _) ToL.nil)) (And.intro (And.intro rfl (ToL.cons (PV.To.refl _) ToL.nil)) True.intro)))) (by exact impl_within))) nofree ?_
        refine RunS.step (by exact And.intro rfl True.intro) (by exact True.intro) (LocG.of rfl (loc_copy (.inl rfl) (by decide) (by exact Cp.sc))) nofree ?_
        refine RunS.cases (s := 48) rfl (fun g14 => ?_) (fun g14 => ?_)
        · have sg14 := g14
          try simp only [decide_eq_true_eq, decide_eq_false_iff_not, bne_iff_ne, beq_iff_eq, Bool.not_eq_true', Bool.not_eq_false', ne_eq, bne_eq_false_iff_eq, beq_eq_false_iff_ne] at sg14
          refine RunS.step (by exact And.intro rfl (And.intro rfl True.intro)) (by exact True.intro) (LocG.yes rfl rfl (by decide) g14 (loc_copy (.inl rfl) (by decide) (by exact Cp.sc))) nofree ?_
          refine RunS.step (by exact And.intro rfl (And.intro rfl True.intro)) (by exact True.intro) (LocG.of rfl (loc_pick (z := .tmp 49) (by decide) (by rw [g14]; rfl) (by exact True.intro) (by exact True.intro) (by exact Cp.sc))) nofree ?_
          refine RunS.step (by exact And.intro rfl True.intro) (by exact True.intro) (LocG.of rfl (loc_copy (.inl rfl) (by decide) (by exact Cp.sc))) nofree ?_
          refine RunS.cases (s := 51) rfl (fun g15 => ?_) (fun g15 => ?_)
          · have sg15 := g15
            try simp only [decide_eq_true_eq, decide_eq_false_iff_not, bne_iff_ne, beq_iff_eq, Bool.not_eq_true', Bool.not_eq_false', ne_eq, bne_eq_false_iff_eq, beq_eq_false_iff_ne] at sg15
            refine RunS.step (by exact And.intro rfl (And.intro rfl True.intro)) (by exact True.intro) (LocG.yes rfl rfl (by decide) g15 (loc_copy (.inl rfl) (by decide) (by exact Cp.sc))) nofree ?_
            refine RunS.step (by exact And.intro rfl (And.intro rfl True.intro)) (by exact True.intro) (LocG.of rfl (loc_pick (z := .tmp 52) (by decide) (by rw [g15]; rfl) (by exact True.intro) (by exact True.intro) (by exact Cp.sc))) nofree ?_
            refine RunS.step (by exact And.intro rfl True.intro) (by exact True.intro) (LocG.of rfl (loc_copy (.inl rfl) (by decide) (by exact Cp.sc))) nofree ?_
            refine RunS.cases (s := 54) rfl (fun g16 => ?_) (fun g16 => ?_)
            · have sg16 := g16
              try simp only [decide_eq_true_eq, decide_eq_false_iff_not, bne_iff_ne, beq_iff_eq, Bool.not_eq_true', Bool.not_eq_false', ne_eq, bne_eq_false_iff_eq, beq_eq_false_iff_ne] at sg16
              refine RunS.step (by exact And.intro rfl (And.intro rfl True.intro)) (by exact True.intro) (LocG.yes rfl rfl (by decide) g16 (loc_field (by decide) fd_61_5)) nofree ?_
              refine RunS.step (by exact And.intro rfl (And.intro rfl True.intro)) (by exact And.intro rfl True.intro) (LocG.yes rfl rfl (by decide) g16 (loc_load (qs := [PV.val _]) (by decide) ty_3 (fun _ => rfl) (by exact Nat.le_of_ble_eq_true rfl) (by exact (ToL.cons (PV.To.refl _) ToL.nil)) (by exact (BorL.cons (PV.bor_val _) BorL.nil)))) nofree ?_
              refine RunS.step (by exact And.intro rfl (And.intro rfl True.intro)) (by exact True.intro) (LocG.yes rfl rfl (by decide) g16 (loc_eql (by decide) (by exact True.intro) (ok_sc rfl))) nofree ?_
              refine RunS.step (by exact And.intro rfl (And.intro rfl True.intro)) (by exact True.intro) (LocG.of rfl (loc_pick (z := .tmp 57) (by decide) (by rw [g16]; rfl) (by exact True.intro) (by exact True.intro) (by exact Cp.sc))) nofree ?_
              refine RunS.step (by exact And.intro rfl True.intro) (by exact True.intro) (LocG.of rfl (loc_copy (.inr rfl) (by decide) (by exact Cp.sc))) nofree ?_
              refine sw_ret ?_
              exact (And.intro (by refine bool_eq ?_; first | (simp_all [okEvent, deq_zeroQ, deq_zeroU]; done) | (simp_all [okEvent, deq_zeroQ, deq_zeroU]; rfl) | (simp_all [okEvent, deq_zeroQ, deq_zeroU]; omega) | (simp_all [okEvent, deq_zeroQ, deq_zeroU]; intros; omega)) True.intro)
            · have sg16 := g16
              try simp only [decide_eq_true_eq, decide_eq_false_iff_not, bne_iff_ne, beq_iff_eq, Bool.not_eq_true', Bool.not_eq_false', ne_eq, bne_eq_false_iff_eq, beq_eq_false_iff_ne] at sg16
              refine RunS.step (by exact And.intro rfl True.intro) (by exact True.intro) (LocG.no (ops := _) rfl rfl (by decide) g16 rfl) nofree ?_
              refine RunS.step (by exact And.intro rfl True.intro) (by exact True.intro) (LocG.no (ops := _) rfl rfl (by decide) g16 rfl) nofree ?_
              refine RunS.step (by exact And.intro rfl True.intro) (by exact True.intro) (LocG.no (ops := _) rfl rfl (by decide) g16 rfl) nofree ?_
              refine RunS.step (by exact And.intro rfl True.intro) (by exact True.intro) (LocG.of rfl (loc_pick (z := .const (.bool false)) (by decide) (by rw [g16]; rfl) (by exact True.intro) (ok_sc rfl) (by exact Cp.sc))) nofree ?_
              refine RunS.step (by exact And.intro rfl True.intro) (by exact True.intro) (LocG.of rfl (loc_copy (.inr rfl) (by decide) (by exact Cp.sc))) nofree ?_
              refine sw_ret ?_
              exact (And.intro (by refine bool_eq ?_; first | (simp_all [okEvent, deq_zeroQ, deq_zeroU]; done) | (simp_all [okEvent, deq_zeroQ, deq_zeroU]; rfl) | (simp_all [okEvent, deq_zeroQ, deq_zeroU]; omega) | (simp_all [okEvent, deq_zeroQ, deq_zeroU]; intros; omega)) True.intro)
          · have sg15 := g15
            try simp only [decide_eq_true_eq, decide_eq_false_iff_not, bne_iff_ne, beq_iff_eq, Bool.not_eq_true', Bool.not_eq_false', ne_eq, bne_eq_false_iff_eq, beq_eq_false_iff_ne] at sg15
            refine RunS.step (by exact And.intro rfl True.intro) (by exact True.intro) (LocG.no (ops := _) rfl rfl (by decide) g15 rfl) nofree ?_
            refine RunS.step (by exact And.intro rfl True.intro) (by exact True.intro) (LocG.of rfl (loc_pick (z := .const (.bool false)) (by decide) (by rw [g15]; rfl) (by exact True.intro) (ok_sc rfl) (by exact Cp.sc))) nofree ?_
            refine RunS.step (by exact And.intro rfl True.intro) (by exact True.intro) (LocG.of rfl (loc_copy (.inl rfl) (by decide) (by exact Cp.sc))) nofree ?_
            refine RunS.cases (s := 54) rfl (fun g17 => nomatch g17) (fun g17 => ?_)
            refine RunS.step (by exact And.intro rfl True.intro) (by exact True.intro) (LocG.no (ops := _) rfl rfl (by decide) g17 rfl) nofree ?_
            refine RunS.step (by exact And.intro rfl True.intro) (by exact True.intro) (LocG.no (ops := _) rfl rfl (by decide) g17 rfl) nofree ?_
            refine RunS.step (by exact And.intro rfl True.intro) (by exact True.intro) (LocG.no (ops := _) rfl rfl (by decide) g17 rfl) nofree ?_
            refine RunS.step (by exact And.intro rfl True.intro) (by exact True.intro) (LocG.of rfl (loc_pick (z := .const (.bool false)) (by decide) (by rw [g17]; rfl) (by exact True.intro) (ok_sc rfl) (by exact Cp.sc))) nofree ?_
            refine RunS.step (by exact And.intro rfl True.intro) (by exact True.intro) (LocG.of rfl (loc_copy (.inr rfl) (by decide) (by exact Cp.sc))) nofree ?_
            refine sw_ret ?_
            exact (And.intro (by refine bool_eq ?_; first | (simp_all [okEvent, deq_zeroQ, deq_zeroU]; done) | (simp_all [okEvent, deq_zeroQ, deq_zeroU]; rfl) | (simp_all [okEvent, deq_zeroQ, deq_zeroU]; omega) | (simp_all [okEvent, deq_zeroQ, deq_zeroU]; intros; omega)) True.intro)
        · have sg14 := g14
          try simp only [decide_eq_true_eq, decide_eq_false_iff_not, bne_iff_ne, beq_iff_eq, Bool.not_eq_true', Bool.not_eq_false', ne_eq, bne_eq_false_iff_eq, beq_eq_false_iff_ne] at sg14
          refine RunS.step (by exact And.intro rfl True.intro) (by exact True.intro) (LocG.no (ops := _) rfl rfl (by decide) g14 rfl) nofree ?_
          refine RunS.step (by exact And.intro rfl True.intro) (by exact True.intro) (LocG.of rfl (loc_pick (z := .const (.bool false)) (by decide) (by rw [g14]; rfl) (by exact True.intro) (ok_sc rfl) (by exact Cp.sc))) nofree ?_
          refine RunS.step (by exact And.intro rfl True.intro) (by exact True.intro) (LocG.of rfl (loc_copy (.inl rfl) (by decide) (by exact Cp.sc))) nofree ?_
          refine RunS.cases (s := 51) rfl (fun g18 => nomatch g18) (fun g18 => ?_)
          refine RunS.step (by exact And.intro rfl True.intro) (by exact True.intro) (LocG.no (ops := _) rfl rfl (by decide) g18 rfl) nofree ?_
          refine RunS.step (by exact And.intro rfl True.intro) (by exact True.intro) (LocG.of rfl (loc_pick (z := .const (.bool false)) (by decide) (by rw [g18]; rfl) (by exact True.intro) (ok_sc rfl) (by exact Cp.sc))) nofree ?_
          refine RunS.step (by exact And.intro rfl True.intro) (by exact True.intro) (LocG.of rfl (loc_copy (.inl rfl) (by decide) (by exact Cp.sc))) nofree ?_
          refine RunS.cases (s := 54) rfl (fun g19 => nomatch g19) (fun g19 => ?_)
          refine RunS.step (by exact And.intro rfl True.intro) (by exact True.intro) (LocG.no (ops := _) rfl rfl (by decide) g19 rfl) nofree ?_
          refine RunS.step (by exact And.intro rfl True.intro) (by exact True.intro) (LocG.no (ops := _) rfl rfl (by decide) g19 rfl) nofree ?_
          refine RunS.step (by exact And.intro rfl True.intro) (by exact True.intro) (LocG.no (ops := _) rfl rfl (by decide) g19 rfl) nofree ?_
          refine RunS.step (by exact And.intro rfl True.intro) (by exact True.intro) (LocG.of rfl (loc_pick (z := .const (.bool false)) (by decide) (by rw [g19]; rfl) (by exact True.intro) (ok_sc rfl) (by exact Cp.sc))) nofree ?_
          refine RunS.step (by exact And.intro rfl True.intro) (by exact True.intro) (LocG.of rfl (loc_copy (.inr rfl) (by decide) (by exact Cp.sc))) nofree ?_
          refine sw_ret ?_
          exact (And.intro (by refine bool_eq ?_; first | (simp_all [okEvent, deq_zeroQ, deq_zeroU]; done) | (simp_all [okEvent, deq_zeroQ, deq_zeroU]; rfl) | (simp_all [okEvent, deq_zeroQ, deq_zeroU]; omega) | (simp_all [okEvent, deq_zeroQ, deq_zeroU]; intros; omega)) True.intro)
      · try simp only [decide_eq_true_eq, decide_eq_false_iff_not, bne_iff_ne, beq_iff_eq, Bool.not_eq_true', Bool.not_eq_false', ne_eq, bne_eq_false_iff_eq, beq_eq_false_iff_ne] at hb13
        refine sw_seq ?_
        refine sw_of (l := [(1, RV.ptr 1 0), (2, RV.sv false [PV.val _]), (3, RV.sv false [PV.val _]), (4, RV.sv false [PV.val _]), (19, RV.sv false [PV.val _])]) (b := [(1, (61, [PV.val _, PV.val _, PV.val _, PV.sl _ _, PV.sl _ _, PV.val _, PV.val _, PV.val _, PV.val _, PV.sl _ _, PV.val _, PV.val _, PV.val _]))]) (by exact And.intro rfl (And.intro rfl (And.intro rfl (And.intro rfl (And.intro rfl True.intro))))) (by exact And.intro rfl True.intro) ?_
        refine sw_reg ?_
        refine RunS.step (by exact And.intro rfl True.intro) (by exact True.intro) (LocG.of rfl (loc_eql (by decide) (by exact True.intro) (ok_sc rfl))) nofree ?_
        refine RunS.step (by exact And.intro rfl True.intro) (by exact True.intro) (LocG.of rfl (loc_copy (.inr rfl) (by decide) (by exact Cp.sc))) nofree ?_
        refine sw_cond (t := 59) rfl (fun hb20 => ?_) (fun hb20 => ?_)
        · try simp only [decide_eq_true_eq, decide_eq_false_iff_not, bne_iff_ne, beq_iff_eq, Bool.not_eq_true', Bool.not_eq_false', ne_eq, bne_eq_false_iff_eq, beq_eq_false_iff_ne] at hb20
          refine sw_seq ?_
          refine sw_of (l := [(1, RV.ptr 1 0), (2, RV.sv false [PV.val _]), (3, RV.sv false [PV.val _]), (4, RV.sv false [PV.val _]), (19, RV.sv false [PV.val _])]) (b := [(1, (61, [PV.val _, PV.val _, PV.val _, PV.sl _ _, PV.sl _ _, PV.val _, PV.val _, PV.val _, PV.val _, PV.sl _ _, PV.val _, PV.val _, PV.val _]))]) (by exact And.intro rfl (And.intro rfl (And.intro rfl (And.intro rfl (And.intro rfl True.intro))))) (by exact And.intro rfl True.intro) ?_
          refine sw_reg ?_
          refine RunS.step (by exact And.intro rfl True.intro) (by exact True.intro) (LocG.of rfl (loc_field (by decide) fd_61_4)) nofree ?_
          refine RunS.step (by exact And.intro rfl True.intro) (by exact And.intro rfl True.intro) (LocG.of rfl (loc_load (qs := [PV.val _, PV.val _, PV.sl .v _, PV.val _, PV.val _]) (by decide) ty_59 (fun h => nomatch h) (by exact Nat.le_of_ble_eq_true rfl) (by exact (ToL.cons (PV.To.refl _) (ToL.cons (PV.To.refl _) (ToL.cons PV.to_none (ToL.cons (PV.To.refl _) (ToL.cons (PV.To.refl _) ToL.nil)))))) (by exact (BorL.cons (PV.bor_val _) (BorL.cons (PV.bor_val _) (BorL.cons (PV.bor_sl _) (BorL.cons (PV.bor_val _) (BorL.cons (PV.bor_val _) BorL.nil)))))))) nofree ?_
          refine RunS.step (by exact And.intro rfl True.intro) (by exact True.intro) (LocG.of rfl (loc_call (qs := [(true, [PV.val _, PV.val _, PV.sl _ _, PV.val _, PV.val _])]) (as_ := [(true, [PV.val _, PV.val _, PV.sl .v _, PV.val _, PV.val _])]) (by decide) c_95 (by exact (And.intro (by exact True.intro) True.intro)) (by exact (And.intro (And.intro rfl (ToL.cons (PV.To.refl _) (ToL.cons (PV.To.refl _) (ToL.cons PV.to_none (ToL.cons (PV.To.refl _) (ToL.cons (PV.To.refl _) ToL.nil)))))) True.intro)) (by exact impl_IsUpdate))) nofree ?_
          refine RunS.step (by exact And.intro rfl True.intro) (by exact True.intro) (LocG.of rfl (loc_copy (.inl rfl) (by decide) (by exact Cp.sc))) nofree ?_
          refine RunS.cases (s := 64) rfl (fun g21 => ?_) (fun g21 => ?_)
          · have sg21 := g21
            try simp only [decide_eq_true_eq, decide_eq_false_iff_not, bne_iff_ne, beq_iff_eq, Bool.not_eq_true', Bool.not_eq_false', ne_eq, bne_eq_false_iff_eq, beq_eq_false_iff_ne] at sg21
            refine RunS.step (by exact And.intro rfl (And.intro rfl True.intro)) (by exact True.intro) (LocG.yes rfl rfl (by decide) g21 (loc_copy (.inl rfl) (by decide) (by exact Cp.sc))) nofree ?_
            refine RunS.step (by exact And.intro rfl (And.intro rfl True.intro)) (by exact True.intro) (LocG.of rfl (loc_pick (z := .tmp 65) (by decide) (by rw [g21]; rfl) (by exact True.intro) (by exact True.intro) (by exact Cp.sc))) nofree ?_
            refine RunS.step (by exact And.intro rfl True.intro) (by exact True.intro) (LocG.of rfl (loc_copy (.inl rfl) (by decide) (by exact Cp.sc))) nofree ?_
            refine RunS.cases (s := 67) rfl (fun g22 => ?_) (fun g22 => ?_)
            · have sg22 := g22
              try simp only [decide_eq_true_eq, decide_eq_false_iff_not, bne_iff_ne, beq_iff_eq, Bool.not_eq_true', Bool.not_eq_false', ne_eq, bne_eq_false_iff_eq, beq_eq_false_iff_ne] at sg22
              refine RunS.step (by exact And.intro rfl (And.intro rfl True.intro)) (by exact True.intro) (LocG.yes rfl rfl (by decide) g22 (loc_field (by decide) fd_61_3)) nofree ?_
              refine RunS.step (by exact And.intro rfl (And.intro rfl True.intro)) (by exact And.intro rfl True.intro) (LocG.yes rfl rfl (by decide) g22 (loc_load (qs := [PV.val _]) (by decide) ty_3 (fun _ => rfl) (by exact Nat.le_of_ble_eq_true rfl) (by exact (ToL.cons (PV.To.refl _) ToL.nil)) (by exact (BorL.cons (PV.bor_val _) BorL.nil)))) nofree ?_
              refine RunS.step (by exact And.intro rfl (And.intro rfl True.intro)) (by exact True.intro) (LocG.yes rfl rfl (by decide) g22 (loc_eql (by decide) (by exact True.intro) (ok_sc rfl))) nofree ?_
              refine RunS.step (by exact And.intro rfl (And.intro rfl True.intro)) (by exact True.intro) (LocG.of rfl (loc_pick (z := .tmp 70) (by decide) (by rw [g22]; rfl) (by exact True.intro) (by exact True.intro) (by exact Cp.sc))) nofree ?_
              refine RunS.step (by exact And.intro rfl True.intro) (by exact True.intro) (LocG.of rfl (loc_copy (.inl rfl) (by decide) (by exact Cp.sc))) nofree ?_
              refine RunS.cases (s := 72) rfl (fun g23 => ?_) (fun g23 => ?_)
              · have sg23 := g23
                try simp only [decide_eq_true_eq, decide_eq_false_iff_not, bne_iff_ne, beq_iff_eq, Bool.not_eq_true', Bool.not_eq_false', ne_eq, bne_eq_false_iff_eq, beq_eq_false_iff_ne] at sg23
                refine RunS.step (by exact And.intro rfl (And.intro rfl True.intro)) (by exact True.intro) (LocG.yes rfl rfl (by decide) g23 (loc_field (by decide) fd_61_5)) nofree ?_
                refine RunS.step (by exact And.intro rfl (And.intro rfl True.intro)) (by exact And.intro rfl True.intro) (LocG.yes rfl rfl (by decide) g23 (loc_load (qs := [PV.val _]) (by decide) ty_3 (fun _ => rfl) (by exact Nat.le_of_ble_eq_true rfl) (by exact (ToL.cons (PV.To.refl _) ToL.nil)) (by exact (BorL.cons (PV.bor_val _) BorL.nil)))) nofree ?_
                refine RunS.step (by exact And.intro rfl (And.intro rfl True.intro)) (by exact True.intro) (LocG.yes rfl rfl (by decide) g23 (loc_eql (by decide) (by exact True.intro) (ok_sc rfl))) nofree ?_
                refine RunS.step (by exact And.intro rfl (And.intro rfl True.intro)) (by exact True.intro) (LocG.of rfl (loc_pick (z := .tmp 75) (by decide) (by rw [g23]; rfl) (by exact True.intro) (by exact True.intro) (by exact Cp.sc))) nofree ?_
                refine RunS.step (by exact And.intro rfl True.intro) (by exact True.intro) (LocG.of rfl (loc_copy (.inr rfl) (by decide) (by exact Cp.sc))) nofree ?_
                refine sw_ret ?_
                exact (And.intro (by refine bool_eq ?_; first | (simp_all [okEvent, deq_zeroQ, deq_zeroU]; done) | (simp_all [okEvent, deq_zeroQ, deq_zeroU]; rfl) | (simp_all [okEvent, deq_zeroQ, deq_zeroU]; omega) | (simp_all [okEvent, deq_zeroQ, deq_zeroU]; intros; omega)) True.intro)
              · have sg23 := g23
                try simp only [decide_eq_true_eq, decide_eq_false_iff_not, bne_iff_ne, beq_iff_eq, Bool.not_eq_true', Bool.not_eq_false', ne_eq, bne_eq_false_iff_eq, beq_eq_false_iff_ne] at sg23
                refine RunS.step (by exact And.intro rfl True.intro) (by exact True.intro) (LocG.no (ops := _) rfl rfl (by decide) g23 rfl) nofree ?_
                refine RunS.step (by exact And.intro rfl True.intro) (by exact True.intro) (LocG.no (ops := _) rfl rfl (by decide) g23 rfl) nofree ?_
                refine RunS.step (by exact And.intro rfl True.intro) (by exact True.intro) (LocG.no (ops := _) rfl rfl (by decide) g23 rfl) nofree ?_
                refine RunS.step (by exact And.intro rfl True.intro) (by exact True.intro) (LocG.of rfl (loc_pick (z := .const (.bool false)) (by decide) (by rw [g23]; rfl) (by exact True.intro) (ok_sc rfl) (by exact Cp.sc))) nofree ?_
                refine RunS.step (by exact And.intro rfl True.intro) (by exact True.intro) (LocG.of rfl (loc_copy (.inr rfl) (by decide) (by exact Cp.sc))) nofree ?_
                refine sw_ret ?_
                exact (And.intro (by refine bool_eq ?_; first | (simp_all [okEvent, deq_zeroQ, deq_zeroU]; done) | (simp_all [okEvent, deq_zeroQ, deq_zeroU]; rfl) | (simp_all [okEvent, deq_zeroQ, deq_zeroU]; omega) | (simp_all [okEvent, deq_zeroQ, deq_zeroU]; intros; omega)) True.intro)
            · have sg22 := g22
              try simp only [decide_eq_true_eq, decide_eq_false_iff_not, bne_iff_ne, beq_iff_eq, Bool.not_eq_true', Bool.not_eq_false', ne_eq, bne_eq_false_iff_eq, beq_eq_false_iff_ne] at sg22
              refine RunS.step (by exact And.intro rfl True.intro) (by exact True.intro) (LocG.no (ops := _) rfl rfl (by decide) g22 rfl) nofree ?_
              refine RunS.step (by exact And.intro rfl True.intro) (by exact True.intro) (LocG.no (ops := _) rfl rfl (by decide) g22 rfl) nofree ?_
              refine RunS.step (by exact And.intro rfl True.intro) (by exact True.intro) (LocG.no (ops := _) rfl rfl (by decide) g22 rfl) nofree ?_
              refine RunS.step (by exact And.intro rfl True.intro) (by exact True.intro) (LocG.of rfl (loc_pick (z := .const (.bool false)) (by decide) (by rw [g22]; rfl) (by exact True.intro) (ok_sc rfl) (by exact Cp.sc))) nofree ?_
              refine RunS.step (by exact And.intro rfl True.intro) (by exact True.intro) (LocG.of rfl (loc_copy (.inl rfl) (by decide) (by exact Cp.sc))) nofree ?_
              refine RunS.cases (s := 72) rfl (fun g24 => nomatch g24) (fun g24 => ?_)
              refine RunS.step (by exact And.intro rfl True.intro) (by exact True.intro) (LocG.no (ops := _) rfl rfl (by decide) g24 rfl) nofree ?_
              refine RunS.step (by exact And.intro rfl True.intro) (by exact True.intro) (LocG.no (ops := _) rfl rfl (by decide) g24 rfl) nofree ?_
              refine RunS.step (by exact And.intro rfl True.intro) (by exact True.intro) (LocG.no (ops := _) rfl rfl (by decide) g24 rfl) nofree ?_
              refine RunS.step (by exact And.intro rfl True.intro) (by exact True.intro) (LocG.of rfl (loc_pick (z := .const (.bool false)) (by decide) (by rw [g24]; rfl) (by exact True.intro) (ok_sc rfl) (by exact Cp.sc))) nofree ?_
              refine RunS.step (by exact And.intro rfl True.intro) (by exact True.intro) (LocG.of rfl (loc_copy (.inr rfl) (by decide) (by exact Cp.sc))) nofree ?_
              refine sw_ret ?_
              exact (And.intro (by refine bool_eq ?_; first | (simp_all [okEvent, deq_zeroQ, deq_zeroU]; done) | (simp_all [okEvent, deq_zeroQ, deq_zeroU]; rfl) | (simp_all [okEvent, deq_zeroQ, deq_zeroU]; omega) | (simp_all [okEvent, deq_zeroQ, deq_zeroU]; intros; omega)) True.intro)
          · have sg21 := g21
            try simp only [decide_eq_true_eq, decide_eq_false_iff_not, bne_iff_ne, beq_iff_eq, Bool.not_eq_true', Bool.not_eq_false', ne_eq, bne_eq_false_iff_eq, beq_eq_false_iff_ne] at sg21
            refine RunS.step (by exact And.intro rfl True.intro) (by exact True.intro) (LocG.no (ops := _) rfl rfl (by decide) g21 rfl) nofree ?_
            refine RunS.step (by exact And.intro rfl True.intro) (by exact True.intro) (LocG.of rfl (loc_pick (z := .const (.bool false)) (by decide) (by rw [g21]; rfl) (by exact True.intro) (ok_sc rfl) (by exact Cp.sc))) nofree ?_
            refine RunS.step (by exact And.intro rfl True.intro) (by exact True.intro) (LocG.of rfl (loc_copy (.inl rfl) (by decide) (by exact Cp.sc))) nofree ?_
            refine RunS.cases (s := 67) rfl (fun g25 => nomatch g25) (fun g25 => ?_)
            refine RunS.step (by exact And.intro rfl True.intro) (by exact True.intro) (LocG.no (ops := _) rfl rfl (by decide) g25 rfl) nofree ?_
            refine RunS.step (by exact And.intro rfl True.intro) (by exact True.intro) (LocG.no (ops := _) rfl rfl (by decide) g25 rfl) nofree ?_
            refine RunS.step (by exact And.intro rfl True.intro) (by exact True.intro) (LocG.no (ops := _) rfl rfl (by decide) g25 rfl) nofree ?_
            refine RunS.step (by exact And.intro rfl True.intro) (by exact True.intro) (LocG.of rfl (loc_pick (z := .const (.bool false)) (by decide) (by rw [g25]; rfl) (by exact True.intro) (ok_sc rfl) (by exact Cp.sc))) nofree ?_
            refine RunS.step (by exact And.intro rfl True.intro) (by exact True.intro) (LocG.of rfl (loc_copy (.inl rfl) (by decide) (by exact Cp.sc))) nofree ?_
            refine RunS.cases (s := 72) rfl (fun g26 => nomatch g26) (fun g26 => ?_)
            refine RunS.step (by exact And.intro rfl True.intro) (by exact True.intro) (LocG.no (ops := _) rfl rfl (by decide) g26 rfl) nofree ?_
            refine RunS.step (by exact And.intro rfl True.intro) (by exact True.intro) (LocG.no (ops := _) rfl rfl (by decide) g26 rfl) nofree ?_
            refine RunS.step (by exact And.intro rfl True.intro) (by exact True.intro) (LocG.no (ops := _) rfl rfl (by decide) g26 rfl) nofree ?_
            refine RunS.step (by exact And.intro rfl True.intro) (by exact True.intro) (LocG.of rfl (loc_pick (z := .const (.bool false)) (by decide) (by rw [g26]; rfl) (by exact True.intro) (ok_sc rfl) (by exact Cp.sc))) nofree ?_
            refine RunS.step (by exact And.intro rfl True.intro) (by exact True.intro) (LocG.of rfl (loc_copy (.inr rfl) (by decide) (by exact Cp.sc))) nofree ?_
            refine sw_ret ?_
            exact (And.intro (by refine bool_eq ?_; first | (simp_all [okEvent, deq_zeroQ, deq_zeroU]; done) | (simp_all [okEvent, deq_zeroQ, deq_zeroU]; rfl) | (simp_all [okEvent, deq_zeroQ, deq_zeroU]; omega) | (simp_all [okEvent, deq_zeroQ, deq_zeroU]; intros; omega)) True.intro)
        · try simp only [decide_eq_true_eq, decide_eq_false_iff_not, bne_iff_ne, beq_iff_eq, Bool.not_eq_true', Bool.not_eq_false', ne_eq, bne_eq_false_iff_eq, beq_eq_false_iff_ne] at hb20
          refine sw_seq ?_
          refine sw_of (l := [(1, RV.ptr 1 0), (2, RV.sv false [PV.val _]), (3, RV.sv false [PV.val _]), (4, RV.sv false [PV.val _]), (19, RV.sv false [PV.val _])]) (b := [(1, (61, [PV.val _, PV.val _, PV.val _, PV.sl _ _, PV.sl _ _, PV.val _, PV.val _, PV.val _, PV.val _, PV.sl _ _, PV.val _, PV.val _, PV.val _]))]) (by exact And.intro rfl (And.intro rfl (And.intro rfl (And.intro rfl (And.intro rfl True.intro))))) (by exact And.intro rfl True.intro) ?_
          refine sw_reg ?_
          refine RunS.step (by exact And.intro rfl True.intro) (by exact True.intro) (LocG.of rfl (loc_eql (by decide) (by exact True.intro) (ok_sc rfl))) nofree ?_
          refine RunS.step (by exact And.intro rfl True.intro) (by exact True.intro) (LocG.of rfl (loc_copy (.inr rfl) (by decide) (by exact Cp.sc))) nofree ?_
          refine sw_cond (t := 77) rfl (fun hb27 => ?_) (fun hb27 => ?_)
          · try simp only [decide_eq_true_eq, decide_eq_false_iff_not, bne_iff_ne, beq_iff_eq, Bool.not_eq_true', Bool.not_eq_false', ne_eq, bne_eq_false_iff_eq, beq_eq_false_iff_ne] at hb27
            refine sw_seq ?_
            refine sw_of (l := [(1, RV.ptr 1 0), (2, RV.sv false [PV.val _]), (3, RV.sv false [PV.val _]), (4, RV.sv false [PV.val _]), (19, RV.sv false [PV.val _])]) (b := [(1, (61, [PV.val _, PV.val _, PV.val _, PV.sl _ _, PV.sl _ _, PV.val _, PV.val _, PV.val _, PV.val _, PV.sl _ _, PV.val _, PV.val _, PV.val _]))]) (by exact And.intro rfl (And.intro rfl (And.intro rfl (And.intro rfl (And.intro rfl True.intro))))) (by exact And.intro rfl True.intro) ?_
            refine sw_reg ?_
            refine RunS.step (by exact And.intro rfl True.intro) (by exact True.intro) (LocG.of rfl (loc_field (by decide) fd_61_5)) nofree ?_
            refine RunS.step (by exact And.intro rfl True.intro) (by exact And.intro rfl True.intro) (LocG.of rfl (loc_load (qs := [PV.val _]) (by decide) ty_3 (fun _ => rfl) (by exact Nat.le_of_ble_eq_true rfl) (by exact (ToL.cons (PV.To.refl _) ToL.nil)) (by exact (BorL.cons (PV.bor_val _) BorL.nil)))) nofree ?_
            refine RunS.step (by exact And.intro rfl True.intro) (by exact True.intro) (LocG.of rfl (loc_call (qs := [(false, [PV.val _]), (false, [PV.val _]), (false, [PV.val _])]) (as_ := [(false, [PV.val _]), (false, [PV.val _]), (false, [PV.val _])]) (by decide) c_94 (by exact (And.intro (by exact True.intro) (And.intro (ok_sc rfl) (And.intro (ok_sc rfl) True.intro)))) (by exact (And.intro (And.intro rfl (ToL.cons (PV.To.refl _) ToL.nil)) (And.intro (And.intro rfl (ToL.cons (PV.To.refl _) ToL.nil)) (And.intro (And.intro rfl (ToL.cons (PV.To.refl _) ToL.nil)) True.intro)))) (by exact impl_within))) nofree ?_
            refine RunS.step (by exact And.intro rfl True.intro) (by exact True.intro) (LocG.of rfl (loc_copy (.inl rfl) (by decide) (by exact Cp.sc))) nofree ?_
            refine RunS.cases (s := 82) rfl (fun g28 => ?_) (fun g28 => ?_)
            · have sg28 := g28
              try simp only [decide_eq_true_eq, decide_eq_false_iff_not, bne_iff_ne, beq_iff_eq, Bool.not_eq_true', Bool.not_eq_false', ne_eq, bne_eq_false_iff_eq, beq_eq_false_iff_ne] at sg28
              refine RunS.step (by exact And.intro rfl (And.intro rfl True.intro)) (by exact True.intro) (LocG.yes rfl rfl (by decide) g28 (loc_copy (.inl rfl) (by decide) (by exact Cp.sc))) nofree ?_
              refine RunS.step (by exact And.intro rfl (And.intro rfl True.intro)) (by exact True.intro) (LocG.of rfl (loc_pick (z := .tmp 83) (by decide) (by rw [g28]; rfl) (by exact True.intro) (by exact True.intro) (by exact Cp.sc))) nofree ?_
              refine RunS.step (by exact And.intro rfl True.intro) (by exact True.intro) (LocG.of rfl (loc_copy (.inl rfl) (by decide) (by exact Cp.sc))) nofree ?_
              refine RunS.cases (s := 85) rfl (fun g29 => ?_) (fun g29 => ?_)
              · have sg29 := g29
                try simp only [decide_eq_true_eq, decide_eq_false_iff_not, bne_iff_ne, beq_iff_eq, Bool.not_eq_true', Bool.not_eq_false', ne_eq, bne_eq_false_iff_eq, beq_eq_false_iff_ne] at sg29
                refine RunS.step (by exact And.intro rfl (And.intro rfl True.intro)) (by exact True.intro) (LocG.yes rfl rfl (by decide) g29 (loc_field (by decide) fd_61_3)) nofree ?_
                refine RunS.step (by exact And.intro rfl (And.intro rfl True.intro)) (by exact And.intro rfl True.intro) (LocG.yes rfl rfl (by decide) g29 (loc_load (qs := [PV.val _]) (by decide) ty_3 (fun _ => rfl) (by exact Nat.le_of_ble_eq_true rfl) (by exact (ToL.cons (PV.To.refl _) ToL.nil)) (by exact (BorL.cons (PV.bor_val _) BorL.nil)))) nofree ?_
                refine RunS.step (by exact And.intro rfl (And.intro rfl True.intro)) (by exact True.intro) (LocG.yes rfl rfl (by decide) g29 (loc_eql (by decide) (by exact True.intro) (ok_sc rfl))) nofree ?_
                refine RunS.step (by exact And.intro rfl (And.intro rfl True.intro)) (by exact True.intro) (LocG.of rfl (loc_pick (z := .tmp 88) (by decide) (by rw [g29]; rfl) (by exact True.intro) (by exact True.intro) (by exact Cp.sc))) nofree ?_
                refine RunS.step (by exact And.intro rfl True.intro) (by exact True.intro) (LocG.of rfl (loc_copy (.inl rfl) (by decide) (by exact Cp.sc))) nofree ?_
                refine RunS.cases (s := 90) rfl (fun g30 => ?_) (fun g30 => ?_)
                · have sg30 := g30
                  try simp only [decide_eq_true_eq, decide_eq_false_iff_not, bne_iff_ne, beq_iff_eq, Bool.not_eq_true', Bool.not_eq_false', ne_eq, bne_eq_false_iff_eq, beq_eq_false_iff_ne] at sg30
                  refine RunS.step (by exact And.intro rfl (And.intro rfl True.intro)) (by exact True.intro) (LocG.yes rfl rfl (by decide) g30 (loc_copy (.inl rfl) (by decide) (by exact Cp.sc))) nofree ?_
                  refine RunS.step (by exact And.intro rfl (And.intro rfl True.intro)) (by exact True.intro) (LocG.of rfl (loc_pick (z := .tmp 91) (by decide) (by rw [g30]; rfl) (by exact True.intro) (by exact True.intro) (by exact Cp.sc))) nofree ?_
                  refine RunS.step (by exact And.intro rfl True.intro) (by exact True.intro) (LocG.of rfl (loc_copy (.inr rfl) (by decide) (by exact Cp.sc))) nofree ?_
                  refine sw_ret ?_
                  exact (And.intro (by refine bool_eq ?_; first | (simp_all [okEvent, deq_zeroQ, deq_zeroU]; done) | (simp_all [okEvent, deq_zeroQ, deq_zeroU]; rfl) | (simp_all [okEvent, deq_zeroQ, deq_zeroU]; omega) | (simp_all [okEvent, deq_zeroQ, deq_zeroU]; intros; omega)) True.intro)
                · have sg30 := g30
                  try simp only [decide_eq_true_eq, decide_eq_false_iff_not, bne_iff_ne, beq_iff_eq, Bool.not_eq_true', Bool.not_eq_false', ne_eq, bne_eq_false_iff_eq, beq_eq_false_iff_ne] at sg30
                  refine RunS.step (by exact And.intro rfl True.intro) (by exact True.intro) (LocG.no (ops := _) rfl rfl (by decide) g30 rfl) nofree ?_
                  refine RunS.step (by exact And.intro rfl True.intro) (by exact True.intro) (LocG.of rfl (loc_pick (z := .const (.bool false)) (by decide) (by rw [g30]; rfl) (by exact True.intro) (ok_sc rfl) (by exact Cp.sc))) nofree ?_
                  refine RunS.step (by exact And.intro rfl True.intro) (by exact True.intro) (LocG.of rfl (loc_copy (.inr rfl) (by decide) (by exact Cp.sc))) nofree ?_
                  refine sw_ret ?_
                  exact (And.intro (by refine bool_eq ?_; first | (simp_all [okEvent, deq_zeroQ, deq_zeroU]; done) | (simp_all [okEvent, deq_zeroQ, deq_zeroU]; rfl) | (simp_all [okEvent, deq_zeroQ, deq_zeroU]; omega) | (simp_all [okEvent, deq_zeroQ, deq_zeroU]; intros; omega)) True.intro)
              · have sg29 := g29
                try simp only [decide_eq_true_eq, decide_eq_false_iff_not, bne_iff_ne, beq_iff_eq, Bool.not_eq_true', Bool.not_eq_false', ne_eq, bne_eq_false_iff_eq, beq_eq_false_iff_ne] at sg29
                refine RunS.step (by exact And.intro rfl True.intro) (by exact True.intro) (LocG.no (ops := _) rfl rfl (by decide) g29 rfl) nofree ?_
                refine RunS.step (by exact And.intro rfl True.intro) (by exact True.intro) (LocG.no (ops := _) rfl rfl (by decide) g29 rfl) nofree ?_
                refine RunS.step (by exact And.intro rfl True.intro) (by exact True.intro) (LocG.no (ops := _) rfl rfl (by decide) g29 rfl) nofree ?_
                refine RunS.step (by exact And.intro rfl True.intro) (by exact True.intro) (LocG.of rfl (loc_pick (z := .const (.bool false)) (by decide) (by rw [g29]; rfl) (by exact True.intro) (ok_sc rfl) (by exact Cp.sc))) nofree ?_
                refine RunS.step (by exact And.intro rfl True.intro) (by exact True.intro) (LocG.of rfl (loc_copy (.inl rfl) (by decide) (by exact Cp.sc))) nofree ?_
                refine RunS.cases (s := 90) rfl (fun g31 => nomatch g31) (fun g31 => ?_)
                refine RunS.step (by exact And.intro rfl True.intro) (by exact True.intro) (LocG.no (ops := _) rfl rfl (by decide) g31 rfl) nofree ?_
                refine RunS.step (by exact And.intro rfl True.intro) (by exact True.intro) (LocG.of rfl (loc_pick (z := .const (.bool false)) (by decide) (by rw [g31]; rfl) (by exact True.intro) (ok_sc rfl) (by exact Cp.sc))) nofree ?_
                refine RunS.step (by exact And.intro rfl True.intro) (by exact True.intro) (LocG.of rfl (loc_copy (.inr rfl) (by decide) (by exact Cp.sc))) nofree ?_
                refine sw_ret ?_
                exact (And.intro (by refine bool_eq ?_; first | (simp_all [okEvent, deq_zeroQ, deq_zeroU]; done) | (simp_all [okEvent, deq_zeroQ, deq_zeroU]; rfl) | (simp_all [okEvent, deq_zeroQ, deq_zeroU]; omega) | (simp_all [okEvent, deq_zeroQ, deq_zeroU]; intros; omega)) True.intro)
            · have sg28 := g28
              try simp only [decide_eq_true_eq, decide_eq_false_iff_not, bne_iff_ne, beq_iff_eq, Bool.not_eq_true', Bool.not_eq_false', ne_eq, bne_eq_false_iff_eq, beq_eq_false_iff_ne] at sg28
              refine RunS.step (by exact And.intro rfl True.intro) (by exact True.intro) (LocG.no (ops := _) rfl rfl (by decide) g28 rfl) nofree ?_
              refine RunS.step (by exact And.intro rfl True.intro) (by exact True.intro) (LocG.of rfl (loc_pick (z := .const (.bool false)) (by decide) (by rw [g28]; rfl) (by exact True.intro) (ok_sc rfl) (by exact Cp.sc))) nofree ?_
              refine RunS.step (by exact And.intro rfl True.intro) (by exact True.intro) (LocG.of rfl (loc_copy (.inl rfl) (by decide) (by exact Cp.sc))) nofree ?_
              refine RunS.cases (s := 85) rfl (fun g32 => nomatch g32) (fun g32 => ?_)
              refine RunS.step (by exact And.intro rfl True.intro) (by exact True.intro) (LocG.no (ops := _) rfl rfl (by decide) g32 rfl) nofree ?_
              refine RunS.step (by exact And.intro rfl True.intro) (by exact True.intro) (LocG.no (ops := _) rfl rfl (by decide) g32 rfl) nofree ?_
              refine RunS.step (by exact And.intro rfl True.intro) (by exact True.intro) (LocG.no (ops := _) rfl rfl (by decide) g32 rfl) nofree ?_
              refine RunS.step (by exact And.intro rfl True.intro) (by exact True.intro) (LocG.of rfl (loc_pick (z := .const (.bool false)) (by decide) (by rw [g32]; rfl) (by exact True.intro) (ok_sc rfl) (by exact Cp.sc))) nofree ?_
              refine RunS.step (by exact And.intro rfl True.intro) (by exact True.intro) (LocG.of rfl (loc_copy (.inl rfl) (by decide) (by exact Cp.sc))) nofree ?_
              refine RunS.cases (s := 90) rfl (fun g33 => nomatch g33) (fun g33 => ?_)
              refine RunS.step (by exact And.intro rfl True.intro) (by exact True.intro) (LocG.no (ops := _) rfl rfl (by decide) g33 rfl) nofree ?_
              refine RunS.step (by exact And.intro rfl True.intro) (by exact True.intro) (LocG.of rfl (loc_pick (z := .const (.bool false)) (by decide) (by rw [g33]; rfl) (by exact True.intro) (ok_sc rfl) (by exact Cp.sc))) nofree ?_
              refine RunS.step (by exact And.intro rfl True.intro) (by exact True.intro) (LocG.of rfl (loc_copy (.inr rfl) (by decide) (by exact Cp.sc))) nofree ?_
              refine sw_ret ?_
              exact (And.intro (by refine bool_eq ?_; first | (simp_all [okEvent, deq_zeroQ, deq_zeroU]; done) | (simp_all [okEvent, deq_zeroQ, deq_zeroU]; rfl) | (simp_all [okEvent, deq_zeroQ, deq_zeroU]; omega) | (simp_all [okEvent, deq_zeroQ, deq_zeroU]; intros; omega)) True.intro)
          · try simp only [decide_eq_true_eq, decide_eq_false_iff_not, bne_iff_ne, beq_iff_eq, Bool.not_eq_true', Bool.not_eq_false', ne_eq, bne_eq_false_iff_eq, beq_eq_false_iff_ne] at hb27
            refine sw_skip ?_
            refine sw_seq ?_
            refine sw_of (l := [(1, RV.ptr 1 0), (2, RV.sv false [PV.val _]), (3, RV.sv false [PV.val _]), (4, RV.sv false [PV.val _]), (19, RV.sv false [PV.val _])]) (b := [(1, (61, [PV.val _, PV.val _, PV.val _, PV.sl _ _, PV.sl _ _, PV.val _, PV.val _, PV.val _, PV.val _, PV.sl _ _, PV.val _, PV.val _, PV.val _]))]) (by exact And.intro rfl (And.intro rfl (And.intro rfl (And.intro rfl (And.intro rfl True.intro))))) (by exact And.intro rfl True.intro) ?_
            refine sw_reg ?_
            refine RunS.step (by exact True.intro) (by exact True.intro) (LocG.of rfl (loc_const (.inr rfl) (by decide) (ok_sc rfl))) nofree ?_
            refine sw_ret ?_
            exact (And.intro (by refine bool_eq ?_; first | (simp_all [okEvent, deq_zeroQ, deq_zeroU]; done) | (simp_all [okEvent, deq_zeroQ, deq_zeroU]; rfl) | (simp_all [okEvent, deq_zeroQ, deq_zeroU]; omega) | (simp_all [okEvent, deq_zeroQ, deq_zeroU]; intros; omega)) True.intro)
  · have sg1 := g1
    try simp only [decide_eq_true_eq, decide_eq_false_iff_not, bne_iff_ne, beq_iff_eq, Bool.not_eq_true', Bool.not_eq_false', ne_eq, bne_eq_false_iff_eq, beq_eq_false_iff_ne] at sg1
    refine RunS.step (by exact And.intro rfl True.intro) (by exact True.intro) (LocG.no (ops := _) rfl rfl (by decide) g1 rfl) nofree ?_
    refine RunS.step (by exact And.intro rfl True.intro) (by exact True.intro) (LocG.no (ops := _) rfl rfl (by decide) g1 rfl) nofree ?_
    refine RunS.step (by exact And.intro rfl True.intro) (by exact True.intro) (LocG.no (ops := _) rfl rfl (by decide) g1 rfl) nofree ?_
    refine RunS.step (by exact And.intro rfl True.intro) (by exact True.intro) (LocG.of rfl (loc_pick (z := .const (.bool false)) (by decide) (by rw [g1]; rfl) (by exact True.intro) (ok_sc rfl) (by exact Cp.sc))) nofree ?_
    refine RunS.step (by exact And.intro rfl True.intro) (by exact True.intro) (LocG.of rfl (loc_copy (.inr rfl) (by decide) (by exact Cp.sc))) nofree ?_
    refine sw_seq ?_
    refine sw_of (l := [(1, RV.ptr 1 0), (2, RV.sv false [PV.val _]), (3, RV.sv false [PV.val _])]) (b := [(1, (61, [PV.val _, PV.val _, PV.val _, PV.sl _ _, PV.sl _ _, PV.val _, PV.val _, PV.val _, PV.val _, PV.sl _ _, PV.val _, PV.val _, PV.val _]))]) (by exact And.intro rfl (And.intro rfl (And.intro rfl True.intro))) (by exact And.intro rfl True.intro) ?_
    refine sw_reg ?_
    refine RunS.step (by exact And.intro rfl True.intro) (by exact True.intro) (LocG.of rfl (loc_field (by decide) fd_61_4)) nofree ?_
    refine RunS.step (by exact And.intro rfl True.intro) (by exact And.intro rfl True.intro) (LocG.of rfl (loc_load (qs := [PV.val _, PV.val _, PV.sl .v _, PV.val _, PV.val _]) (by decide) ty_59 (fun h => nomatch h) (by exact Nat.le_of_ble_eq_true rfl) (by exact (ToL.cons (PV.To.refl _) (ToL.cons (PV.To.refl _) (ToL.cons PV.to_none (ToL.cons (PV.To.refl _) (ToL.cons (PV.To.refl _) ToL.nil)))))) (by exact (BorL.cons (PV.bor_val _) (BorL.cons (PV.bor_val _) (BorL.cons (PV.bor_sl _) (BorL.cons (PV.bor_val _) (BorL.cons (PV.bor_val _) BorL.nil)))))))) nofree ?_
    refine RunS.step (by exact True.intro) (by exact True.intro) (LocG.of rfl (loc_build (qs := []) (cs := [PV.val _, PV.val _, PV.sl _ _, PV.val _, PV.val _]) (by decide) z_59 zo_59 pl_59 (by exact rfl) (by exact True.intro) rfl (by exact rfl))) nofree ?_
    refine RunS.step (by exact And.intro rfl (And.intro rfl True.intro)) (by exact True.intro) (LocG.of rfl (loc_call (qs := [(true, [PV.val _, PV.val _, PV.sl _ _, PV.val _, PV.val _]), (true, [PV.val _, PV.val _, PV.sl _ _, PV.val _, PV.val _])]) (as_ := [(true, [PV.val _, PV.val _, PV.sl .v _, PV.val _, PV.val _]), (true, [PV.val _, PV.val _, PV.sl .v _, PV.val _, PV.val _])]) (by decide) c_92 (by exact (And.intro (by exact True.intro) (And.intro (by exact True.intro) True.intro))) (by exact (And.intro (And.intro rfl (ToL.cons (PV.To.refl _) (ToL.cons (PV.To.refl _) (ToL.cons PV.to_none (ToL.cons (PV.To.refl _) (ToL.cons (PV.To.refl _) ToL.nil)))))) (And.intro (And.intro rfl (ToL.cons (PV.To.refl _) (ToL.cons (PV.To.refl _) (ToL.cons PV.to_none (ToL.cons (PV.To.refl _) (ToL.cons (PV.To.refl _) ToL.nil)))))) True.intro))) (by exact (impl_equalUpdate (x := x.Update) (y := ⟨0, ⟨0, []⟩, 0, 0⟩))))) nofree ?_
    refine RunS.step (by exact And.intro rfl True.intro) (by exact True.intro) (LocG.of rfl (loc_copy (.inr rfl) (by decide) (by exact Cp.sc))) nofree ?_
    refine sw_seq ?_
    refine sw_seq ?_
    refine sw_of (l := [(1, RV.ptr 1 0), (2, RV.sv false [PV.val _]), (3, RV.sv false [PV.val _]), (4, RV.sv false [PV.val _])]) (b := [(1, (61, [PV.val _, PV.val _, PV.val _, PV.sl _ _, PV.sl _ _, PV.val _, PV.val _, PV.val _, PV.val _, PV.sl _ _, PV.val _, PV.val _, PV.val _]))]) (by exact And.intro rfl (And.intro rfl (And.intro rfl (And.intro rfl True.intro)))) (by exact And.intro rfl True.intro) ?_
    refine sw_reg ?_
    refine RunS.step (by exact And.intro rfl True.intro) (by exact True.intro) (LocG.of rfl (loc_field (by decide) fd_61_0)) nofree ?_
    refine RunS.step (by exact And.intro rfl True.intro) (by exact And.intro rfl True.intro) (LocG.of rfl (loc_load (qs := [PV.val _]) (by decide) ty_3 (fun _ => rfl) (by exact Nat.le_of_ble_eq_true rfl) (by exact (ToL.cons (PV.To.refl _) ToL.nil)) (by exact (BorL.cons (PV.bor_val _) BorL.nil)))) nofree ?_
    refine sw_block ?_
    refine sw_seq ?_
    refine sw_of (l := [(1, RV.ptr 1 0), (2, RV.sv false [PV.val _]), (3, RV.sv false [PV.val _]), (4, RV.sv false [PV.val _]), (19, RV.sv false [PV.val _])]) (b := [(1, (61, [PV.val _, PV.val _, PV.val _, PV.sl _ _, PV.sl _ _, PV.val _, PV.val _, PV.val _, PV.val _, PV.sl _ _, PV.val _, PV.val _, PV.val _]))]) (by exact And.intro rfl (And.intro rfl (And.intro rfl (And.intro rfl (And.intro rfl True.intro))))) (by exact And.intro rfl True.intro) ?_
    refine sw_reg ?_
    refine RunS.step (by exact And.intro rfl True.intro) (by exact True.intro) (LocG.of rfl (loc_eql (by decide) (by exact True.intro) (ok_sc rfl))) nofree ?_
    refine RunS.step (by exact And.intro rfl True.intro) (by exact True.intro) (LocG.of rfl (loc_copy (.inr rfl) (by decide) (by exact Cp.sc))) nofree ?_
    refine sw_cond (t := 20) rfl (fun hb34 => ?_) (fun hb34 => ?_)
    · try simp only [decide_eq_true_eq, decide_eq_false_iff_not, bne_iff_ne, beq_iff_eq, Bool.not_eq_true', Bool.not_eq_false', ne_eq, bne_eq_false_iff_eq, beq_eq_false_iff_ne] at hb34
      refine sw_seq ?_
      refine sw_of (l := [(1, RV.ptr 1 0), (2, RV.sv false [PV.val _]), (3, RV.sv false [PV.val _]), (4, RV.sv false [PV.val _]), (19, RV.sv false [PV.val _])]) (b := [(1, (61, [PV.val _, PV.val _, PV.val _, PV.sl _ _, PV.sl _ _, PV.val _, PV.val _, PV.val _, PV.val _, PV.sl _ _, PV.val _, PV.val _, PV.val _]))]) (by exact And.intro rfl (And.intro rfl (And.intro rfl (And.intro rfl (And.intro rfl True.intro))))) (by exact And.intro rfl True.intro) ?_
      refine sw_reg ?_
      refine RunS.step (by exact And.intro rfl True.intro) (by exact True.intro) (LocG.of rfl (loc_field (by decide) fd_61_1)) nofree ?_
      refine RunS.step (by exact And.intro rfl True.intro) (by exact And.intro rfl True.intro) (LocG.of rfl (loc_load (qs := [PV.val _, PV.val _, PV.sl .v _, PV.sl .v _]) (by decide) ty_56 (fun h => nomatch h) (by exact Nat.le_of_ble_eq_true rfl) (by exact (ToL.cons (PV.To.refl _) (ToL.cons (PV.To.refl _) (ToL.cons PV.to_none (ToL.cons PV.to_none ToL.nil))))) (by exact (BorL.cons (PV.bor_val _) (BorL.cons (PV.bor_val _) (BorL.cons (PV.bor_sl _) (BorL.cons (PV.bor_sl _) BorL.nil))))))) nofree ?_
      refine RunS.step (by exact And.intro rfl True.intro) (by exact True.intro) (LocG.of rfl (loc_call (qs := [(true, [PV.val _, PV.val _, PV.sl _ _, PV.sl _ _])]) (as_ := [(true, [PV.val _, PV.val _, PV.sl .v _, PV.sl .v _])]) (by decide) c_93 (by exact (And.intro (by exact True.intro) True.intro)) (by exact (And.intro (And.intro rfl (ToL.cons (PV.To.refl _) (ToL.cons (PV.To.refl _) (ToL.cons PV.to_none (ToL.cons PV.to_none ToL.nil))))) True.intro)) (by exact impl_IsQuery))) nofree ?_
      refine RunS.step (by exact And.intro rfl True.intro) (by exact True.intro) (LocG.of rfl (loc_copy (.inl rfl) (by decide) (by exact Cp.sc))) nofree ?_
      refine RunS.cases (s := 25) rfl (fun g35 => ?_) (fun g35 => ?_)
      · have sg35 := g35
        try simp only [decide_eq_true_eq, decide_eq_false_iff_not, bne_iff_ne, beq_iff_eq, Bool.not_eq_true', Bool.not_eq_false', ne_eq, bne_eq_false_iff_eq, beq_eq_false_iff_ne] at sg35
        refine RunS.step (by exact And.intro rfl (And.intro rfl True.intro)) (by exact True.intro) (LocG.yes rfl rfl (by decide) g35 (loc_field (by decide) fd_61_2)) nofree ?_
        refine RunS.step (by exact And.intro rfl (And.intro rfl True.intro)) (by exact And.intro rfl True.intro) (LocG.yes rfl rfl (by decide) g35 (loc_load (qs := [PV.val _]) (by decide) ty_3 (fun _ => rfl) (by exact Nat.le_of_ble_eq_true rfl) (by exact (ToL.cons (PV.To.refl _) ToL.nil)) (by exact (BorL.cons (PV.bor_val _) BorL.nil)))) nofree ?_
        refine RunS.step (by exact And.intro rfl (And.intro rfl True.intro)) (by exact True.intro) (LocG.yes rfl rfl (by decide) g35 (loc_call (qs := [(false, [PV.val _]), (false, [PV.val _]), (false, [PV.val _])]) (as_ := [(false, [PV.val _]), (false, [PV.val _]), (false, [PV.val _])]) (by decide) c_94 (by exact (And.intro (by exact True.intro) (And.intro (ok_sc rfl) (And.intro (ok_sc rfl) True.intro)))) (by exact (And.intro (And.intro rfl (ToL.cons (PV.To.refl _) ToL.nil)) (And.intro (And.intro rfl (ToL.cons (PV.To.refl _) ToL.nil)) (And.intro (And.intro rfl (ToL.cons (PV.To.refl _) ToL.nil)) True.intro)))) (by exact impl_within))) nofree ?_
        refine RunS.step (by exact And.intro rfl (And.intro rfl True.intro)) (by exact True.intro) (LocG.of rfl (loc_pick (z := .tmp 28) (by decide) (by rw [g35]; rfl) (by exact True.intro) (by exact True.intro) (by exact Cp.sc))) nofree ?_
        refine RunS.step (by exact And.intro rfl True.intro) (by exact True.intro) (LocG.of rfl (loc_copy (.inl rfl) (by decide) (by exact Cp.sc))) nofree ?_
        refine RunS.cases (s := 30) rfl (fun g36 => ?_) (fun g36 => ?_)
        · have sg36 := g36
          try simp only [decide_eq_true_eq, decide_eq_false_iff_not, bne_iff_ne, beq_iff_eq, Bool.not_eq_true', Bool.not_eq_false', ne_eq, bne_eq_false_iff_eq, beq_eq_false_iff_ne] at sg36
          refine RunS.step (by exact And.intro rfl (And.intro rfl True.intro)) (by exact True.intro) (LocG.yes rfl rfl (by decide) g36 (loc_field (by decide) fd_61_3)) nofree ?_
          refine RunS.step (by exact And.intro rfl (And.intro rfl True.intro)) (by exact And.intro rfl True.intro) (LocG.yes rfl rfl (by decide) g36 (loc_load (qs := [PV.val _]) (by decide) ty_3 (fun _ => rfl) (by exact Nat.le_of_ble_eq_true rfl) (by exact (ToL.cons (PV.To.refl _) ToL.nil)) (by exact (BorL.cons (PV.bor_val _) BorL.nil)))) nofree ?_
          refine RunS.step (by exact And.intro rfl (And.intro rfl True.intro)) (by exact True.intro) (LocG.yes rfl rfl (by decide) g36 (loc_eql (by decide) (by exact True.intro) (ok_sc rfl))) nofree ?_
          refine RunS.step (by exact And.intro rfl (And.intro rfl True.intro)) (by exact True.intro) (LocG.of rfl (loc_pick (z := .tmp 33) (by decide) (by rw [g36]; rfl) (by exact True.intro) (by exact True.intro) (by exact Cp.sc))) nofree ?_
          refine RunS.step (by exact And.intro rfl True.intro) (by exact True.intro) (LocG.of rfl (loc_copy (.inl rfl) (by decide) (by exact Cp.sc))) nofree ?_
          refine RunS.cases (s := 35) rfl (fun g37 => ?_) (fun g37 => ?_)
          · have sg37 := g37
            try simp only [decide_eq_true_eq, decide_eq_false_iff_not, bne_iff_ne, beq_iff_eq, Bool.not_eq_true', Bool.not_eq_false', ne_eq, bne_eq_false_iff_eq, beq_eq_false_iff_ne] at sg37
            refine RunS.step (by exact And.intro rfl (And.intro rfl True.intro)) (by exact True.intro) (LocG.yes rfl rfl (by decide) g37 (loc_copy (.inl rfl) (by decide) (by exact Cp.sc))) nofree ?_
            refine RunS.step (by exact And.intro rfl (And.intro rfl True.intro)) (by exact True.intro) (LocG.of rfl (loc_pick (z := .tmp 36) (by decide) (by rw [g37]; rfl) (by exact True.intro) (by exact True.intro) (by exact Cp.sc))) nofree ?_
            refine RunS.step (by exact And.intro rfl True.intro) (by exact True.intro) (LocG.of rfl (loc_copy (.inl rfl) (by decide) (by exact Cp.sc))) nofree ?_
            refine RunS.cases (s := 38) rfl (fun g38 => ?_) (fun g38 => ?_)
            · have sg38 := g38
              try simp only [decide_eq_true_eq, decide_eq_false_iff_not, bne_iff_ne, beq_iff_eq, Bool.not_eq_true', Bool.not_eq_false', ne_eq, bne_eq_false_iff_eq, beq_eq_false_iff_ne] at sg38
              refine RunS.step (by exact And.intro rfl (And.intro rfl True.intro)) (by exact True.intro) (LocG.yes rfl rfl (by decide) g38 (loc_field (by decide) fd_61_5)) nofree ?_
              refine RunS.step (by exact And.intro rfl (And.intro rfl True.intro)) (by exact And.intro rfl True.intro) (LocG.yes rfl rfl (by decide) g38 (loc_load (qs := [PV.val _]) (by decide) ty_3 (fun _ => rfl) (by exact Nat.le_of_ble_eq_true rfl) (by exact (ToL.cons (PV.To.refl _) ToL.nil)) (by exact (BorL.cons (PV.bor_val _) BorL.nil)))) nofree ?_
              refine RunS.step (by exact And.intro rfl (And.intro rfl True.intro)) (by exact True.intro) (LocG.yes rfl rfl (by decide) g38 (loc_eql (by decide) (by exact True.intro) (ok_sc rfl))) nofree ?_
              refine RunS.step (by exact And.intro rfl (And.intro rfl True.intro)) (by exact True.intro) (LocG.of rfl (loc_pick (z := .tmp 41) (by decide) (by rw [g38]; rfl) (by exact True.intro) (by exact True.intro) (by exact Cp.sc))) nofree ?_
              refine RunS.step (by exact And.intro rfl True.intro) (by exact True.intro) (LocG.of rfl (loc_copy (.inr rfl) (by decide) (by exact Cp.sc))) nofree ?_
              refine sw_ret ?_
              exact (And.intro (by refine bool_eq ?_; first | (simp_all [okEvent, deq_zeroQ, deq_zeroU]; done) | (simp_all [okEvent, deq_zeroQ, deq_zeroU]; rfl) | (simp_all [okEvent, deq_zeroQ, deq_zeroU]; omega) | (simp_all [okEvent, deq_zeroQ, deq_zeroU]; intros; omega)) True.intro)
            · have sg38 := g38
              try simp only [decide_eq_true_eq, decide_eq_false_iff_not, bne_iff_ne, beq_iff_eq, Bool.not_eq_true', Bool.not_eq_false', ne_eq, bne_eq_false_iff_eq, beq_eq_false_iff_ne] at sg38
              refine RunS.step (by exact And.intro rfl True.intro) (by exact True.intro) (LocG.no (ops := _) rfl rfl (by decide) g38 rfl) nofree ?_
              refine RunS.step (by exact And.intro rfl True.intro) (by exact True.intro) (LocG.no (ops := _) rfl rfl (by decide) g38 rfl) nofree ?_
              refine RunS.step (by exact And.intro rfl True.intro) (by exact True.intro) (LocG.no (ops := _) rfl rfl (by decide) g38 rfl) nofree ?_
              refine RunS.step (by exact And.intro rfl True.intro) (by exact True.intro) (LocG.of rfl (loc_pick (z := .const (.bool false)) (by decide) (by rw [g38]; rfl) (by exact True.intro) (ok_sc rfl) (by exact Cp.sc))) nofree ?_
              refine RunS.step (by exact And.intro rfl True.intro) (by exact True.intro) (LocG.of rfl (loc_copy (.inr rfl) (by decide) (by exact Cp.sc))) nofree ?_
              refine sw_ret ?_
              exact (And.intro (by refine bool_eq ?_; first | (simp_all [okEvent, deq_zeroQ, deq_zeroU]; done) | (simp_all [okEvent, deq_zeroQ, deq_zeroU]; rfl) | (simp_all [okEvent, deq_zeroQ, deq_zeroU]; omega) | (simp_all [okEvent, deq_zeroQ, deq_zeroU]; intros; omega)) True.intro)
          · have sg37 := g37
            try simp only [decide_eq_true_eq, decide_eq_false_iff_not, bne_iff_ne, beq_iff_eq, Bool.not_eq_true', Bool.not_eq_false', ne_eq, bne_eq_false_iff_eq, beq_eq_false_iff_ne] at sg37
            refine RunS.step (by exact And.intro rfl True.intro) (by exact True.intro) (LocG.no (ops := _) rfl rfl (by decide) g37 rfl) nofree ?_
            refine RunS.step (by exact And.intro rfl True.intro) (by exact True.intro) (LocG.of rfl (loc_pick (z := .const (.bool false)) (by decide) (by rw [g37]; rfl) (by exact True.intro) (ok_sc rfl) (by exact Cp.sc))) nofree ?_
            refine RunS.step (by exact And.intro rfl True.intro) (by exact True.intro) (LocG.of rfl (loc_copy (.inl rfl) (by decide) (by exact Cp.sc))) nofree ?_
            refine RunS.cases (s := 38) rfl (fun g39 => nomatch g39) (fun g39 => ?_)
            refine RunS.step (by exact And.intro rfl True.intro) (by exact True.intro) (LocG.no (ops := _) rfl rfl (by decide) g39 rfl) nofree ?_
            refine RunS.step (by exact And.intro rfl True.intro) (by exact True.intro) (LocG.no (ops := _) rfl rfl (by decide) g39 rfl) nofree ?_
            refine RunS.step (by exact And.intro rfl True.intro) (by exact True.intro) (LocG.no (ops := _) rfl rfl (by decide) g39 rfl) nofree ?_
            refine RunS.step (by exact And.intro rfl True.intro) (by exact True.intro) (LocG.of rfl (loc_pick (z := .const (.bool false)) (by decide) (by rw [g39]; rfl) (by exact True.intro) (ok_sc rfl) (by exact Cp.sc))) nofree ?_
            refine RunS.step (by exact And.intro rfl True.intro) (by exact True.intro) (LocG.of rfl (loc_copy (.inr rfl) (by decide) (by exact Cp.sc))) nofree ?_
            refine sw_ret ?_
            exact (And.intro (by refine bool_eq ?_; first | (simp_all [okEvent, deq_zeroQ, deq_zeroU]; done) | (simp_all [okEvent, deq_zeroQ, deq_zeroU]; rfl) | (simp_all [okEvent, deq_zeroQ, deq_zeroU]; omega) | (simp_all [okEvent, deq_zeroQ, deq_zeroU]; intros; omega)) True.intro)
        · have sg36 := g36
          try simp only [decide_eq_true_eq, decide_eq_false_iff_not, bne_iff_ne, beq_iff_eq, Bool.not_eq_true', Bool.not_eq_false', ne_eq, bne_eq_false_iff_eq, beq_eq_false_iff_ne] at sg36
          refine RunS.step (by exact And.intro rfl True.intro) (by exact True.intro) (LocG.no (ops := _) rfl rfl (by decide) g36 rfl) nofree ?_
          refine RunS.step (by exact And.intro rfl True.intro) (by exact True.intro) (LocG.no (ops := _) rfl rfl (by decide) g36 rfl) nofree ?_
          refine RunS.step (by exact And.intro rfl True.intro) (by exact True.intro) (LocG.no (ops := _) rfl rfl (by decide) g36 rfl) nofree ?_
          refine RunS.step (by exact And.intro rfl True.intro) (by exact True.intro) (LocG.of rfl (loc_pick (z := .const (.bool false)) (by decide) (by rw [g36]; rfl) (by exact True.intro) (ok_sc rfl) (by exact Cp.sc))) nofree ?_
          refine RunS.step (by exact And.intro rfl True.intro) (by exact True.intro) (LocG.of rfl (loc_copy (.inl rfl) (by decide) (by exact Cp.sc))) nofree ?_
          refine RunS.cases (s := 35) rfl (fun g40 => nomatch g40) (fun g40 => ?_)
          refine RunS.step (by exact And.intro rfl True.intro) (by exact True.intro) (LocG.no (ops := _) rfl rfl (by decide) g40 rfl) nofree ?_
          refine RunS.step (by exact And.intro rfl True.intro) (by exact True.intro) (LocG.of rfl (loc_pick (z := .const (.bool false)) (by decide) (by rw [g40]; rfl) (by exact True.intro) (ok_sc rfl) (by exact Cp.sc))) nofree ?_
          refine RunS.step (by exact And.intro rfl True.intro) (by exact True.intro) (LocG.of rfl (loc_copy (.inl rfl) (by decide) (by exact Cp.sc))) nofree ?_
          refine RunS.cases (s := 38) rfl (fun g41 => nomatch g41) (fun g41 => ?_)
          refine RunS.step (by exact And.intro rfl True.intro) (by exact True.intro) (LocG.no (ops := _) rfl rfl (by decide) g41 rfl) nofree ?_
          refine RunS.step (by exact And.intro rfl True.intro) (by exact True.intro) (LocG.no (ops := _) rfl rfl (by decide) g41 rfl) nofree ?_
          refine RunS.step (by exact And.intro rfl True.intro) (by exact True.intro) (LocG.no (ops := _) rfl rfl (by decide) g41 rfl) nofree ?_
          refine RunS.step (by exact And.intro rfl True.intro) (by exact True.intro) (LocG.of rfl (loc_pick (z := .const (.bool false)) (by decide) (by rw [g41]; rfl) (by exact True.intro) (ok_sc rfl) (by exact Cp.sc))) nofree ?_
          refine RunS.step (by exact And.intro rfl True.intro) (by exact True.intro) (LocG.of rfl (loc_copy (.inr rfl) (by decide) (by exact Cp.sc))) nofree ?_
          refine sw_ret ?_
          exact (And.intro (by refine bool_eq ?_; first | (simp_all [okEvent, deq_zeroQ, deq_zeroU]; done) | (simp_all [okEvent, deq_zeroQ, deq_zeroU]; rfl) | (simp_all [okEvent, deq_zeroQ, deq_zeroU]; omega) | (simp_all [okEvent, deq_zeroQ, deq_zeroU]; intros; omega)) True.intro)
      · have sg35 := g35
        try simp only [decide_eq_true_eq, decide_eq_false_iff_not, bne_iff_ne, beq_iff_eq, Bool.not_eq_true', Bool.not_eq_false', ne_eq, bne_eq_false_iff_eq, beq_eq_false_iff_ne] at sg35
        refine RunS.step (by exact And.intro rfl True.intro) (by exact True.intro) (LocG.no (ops := _) rfl rfl (by decide) g35 rfl) nofree ?_
        refine RunS.step (by exact And.intro rfl True.intro) (by exact True.intro) (LocG.no (ops := _) rfl rfl (by decide) g35 rfl) nofree ?_
        refine RunS.step (by exact And.intro rfl True.intro) (by exact True.intro) (LocG.no (ops := _) rfl rfl (by decide) g35 rfl) nofree ?_
        refine RunS.step (by exact And.intro rfl True.intro) (by exact True.intro) (LocG.of rfl (loc_pick (z := .const (.bool false)) (by decide) (by rw [g35]; rfl) (by exact True.intro) (ok_sc rfl) (by exact Cp.sc))) nofree ?_
        refine RunS.step (by exact And.intro rfl True.intro) (by exact True.intro) (LocG.of rfl (loc_copy (.inl rfl) (by decide) (by exact Cp.sc))) nofree ?_
        refine RunS.cases (s := 30) rfl (fun g42 => nomatch g42) (fun g42 => ?_)
        refine RunS.step (by exact And.intro rfl True.intro) (by exact True.intro) (LocG.no (ops := _) rfl rfl (by decide) g42 rfl) nofree ?_
        refine RunS.step (by exact And.intro rfl True.intro) (by exact True.intro) (LocG.no (ops := _) rfl rfl (by decide) g42 rfl) nofree ?_
        refine RunS.step (by exact And.intro rfl True.intro) (by exact True.intro) (LocG.no (ops := _) rfl rfl (by decide) g42 rfl) nofree ?_
        refine RunS.step (by exact And.intro rfl True.intro) (by exact True.intro) (LocG.of rfl (loc_pick (z := .const (.bool false)) (by decide) (by rw [g42]; rfl) (by exact True.intro) (ok_sc rfl) (by exact Cp.sc))) nofree ?_
        refine RunS.step (by exact And.intro rfl True.intro) (by exact True.intro) (LocG.of rfl (loc_copy (.inl rfl) (by decide) (by exact Cp.sc))) nofree ?_
        refine RunS.cases (s := 35) rfl (fun g43 => nomatch g43) (fun g43 => ?_)
        refine RunS.step (by exact And.intro rfl True.intro) (by exact True.intro) (LocG.no (ops := _) rfl rfl (by decide) g43 rfl) nofree ?_
        refine RunS.step (by exact And.intro rfl True.intro) (by exact True.intro) (LocG.of rfl (loc_pick (z := .const (.bool false)) (by decide) (by rw [g43]; rfl) (by exact True.intro) (ok_sc rfl) (by exact Cp.sc))) nofree ?_
        refine RunS.step (by exact And.intro rfl True.intro) (by exact True.intro) (LocG.of rfl (loc_copy (.inl rfl) (by decide) (by exact Cp.sc))) nofree ?_
        refine RunS.cases (s := 38) rfl (fun g44 => nomatch g44) (fun g44 => ?_)
        refine RunS.step (by exact And.intro rfl True.intro) (by exact True.intro) (LocG.no (ops := _) rfl rfl (by decide) g44 rfl) nofree ?_
        refine RunS.step (by exact And.intro rfl True.intro) (by exact True.intro) (LocG.no (ops := _) rfl rfl (by decide) g44 rfl) nofree ?_
        refine RunS.step (by exact And.intro rfl True.intro) (by exact True.intro) (LocG.no (ops := _) rfl rfl (by decide) g44 rfl) nofree ?_
        refine RunS.step (by exact And.intro rfl True.intro) (by exact True.intro) (LocG.of rfl (loc_pick (z := .const (.bool false)) (by decide) (by rw [g44]; rfl) (by exact True.intro) (ok_sc rfl) (by exact Cp.sc))) nofree ?_
        refine RunS.step (by exact And.intro rfl True.intro) (by exact True.intro) (LocG.of rfl (loc_copy (.inr rfl) (by decide) (by exact Cp.sc))) nofree ?_
        refine sw_ret ?_
        exact (And.intro (by refine bool_eq ?_; first | (simp_all [okEvent, deq_zeroQ, deq_zeroU]; done) | (simp_all [okEvent, deq_zeroQ, deq_zeroU]; rfl) | (simp_all [okEvent, deq_zeroQ, deq_zeroU]; omega) | (simp_all [okEvent, deq_zeroQ, deq_zeroU]; intros; omega)) True.intro)
    · try simp only [decide_eq_true_eq, decide_eq_false_iff_not, bne_iff_ne, beq_iff_eq, Bool.not_eq_true', Bool.not_eq_false', ne_eq, bne_eq_false_iff_eq, beq_eq_false_iff_ne] at hb34
      refine sw_seq ?_
      refine sw_of (l := [(1, RV.ptr 1 0), (2, RV.sv false [PV.val _]), (3, RV.sv false [PV.val _]), (4, RV.sv false [PV.val _]), (19, RV.sv false [PV.val _])]) (b := [(1, (61, [PV.val _, PV.val _, PV.val _, PV.sl _ _, PV.sl _ _, PV.val _, PV.val _, PV.val _, PV.val _, PV.sl _ _, PV.val _, PV.val _, PV.val _]))]) (by exact And.intro rfl (And.intro rfl (And.intro rfl (And.intro rfl (And.intro rfl True.intro))))) (by exact And.intro rfl True.intro) ?_
      refine sw_reg ?_
      refine RunS.step (by exact And.intro rfl True.intro) (by exact True.intro) (LocG.of rfl (loc_eql (by decide) (by exact True.intro) (ok_sc rfl))) nofree ?_
      refine RunS.step (by exact And.intro rfl True.intro) (by exact True.intro) (LocG.of rfl (loc_copy (.inr rfl) (by decide) (by exact Cp.sc))) nofree ?_
      refine sw_cond (t := 43) rfl (fun hb45 => ?_) (fun hb45 => ?_)
      · try simp only [decide_eq_true_eq, decide_eq_false_iff_not, bne_iff_ne, beq_iff_eq, Bool.not_eq_true', Bool.not_eq_false', ne_eq, bne_eq_false_iff_eq, beq_eq_false_iff_ne] at hb45
        refine sw_seq ?_
        refine sw_of (l := [(1, RV.ptr 1 0), (2, RV.sv false [PV.val _]), (3, RV.sv false [PV.val _]), (4, RV.sv false [PV.val _]), (19, RV.sv false [PV.val _])]) (b := [(1, (61, [PV.val _, PV.val _, PV.val _, PV.sl _ _, PV.sl _ _, PV.val _, PV.val _, PV.val _, PV.val _, PV.sl _ _, PV.val _, PV.val _, PV.val _]))]) (by exact And.intro rfl (And.intro rfl (And.intro rfl (And.intro rfl (And.intro rfl True.intro))))) (by exact And.intro rfl True.intro) ?_
        refine sw_reg ?_
        refine RunS.step (by exact And.intro rfl True.intro) (by exact True.intro) (LocG.of rfl (loc_field (by decide) fd_61_3)) nofree ?_
        refine RunS.step (by exact And.intro rfl True.intro) (by exact And.intro rfl True.intro) (LocG.of rfl (loc_load (qs := [PV.val _]) (by decide) ty_3 (fun _ => rfl) (by exact Nat.le_of_ble_eq_true rfl) (by exact (ToL.cons (PV.To.refl _) ToL.nil)) (by exact (BorL.cons (PV.bor_val _) BorL.nil)))) nofree ?_
        refine RunS.step (by exact And.intro rfl True.intro) (by exact True.intro) (LocG.of rfl (loc_call (qs := [(false, [PV.val _]), (false, [PV.val _]), (false, [PV.val _])]) (as_ := [(false, [PV.val _]), (false, [PV.val _]), (false, [PV.val _])]) (by decide) c_94 (by exact (And.intro (by exact True.intro) (And.intro (ok_sc rfl) (And.intro (ok_sc rfl) True.intro)))) (by exact (And.intro (And.intro rfl (ToL.cons (PV.To.refl _) ToL.nil)) (And.intro (And.intro rfl (ToL.cons (PV.To.refl _) ToL.nil)) (And.intro (And.intro rfl (ToL.cons (PV.To.refl _) ToL.nil)) True.intro)))) (by exact impl_within))) nofree ?_
        refine RunS.step (by exact And.intro rfl True.intro) (by exact True.intro) (LocG.of rfl (loc_copy (.inl rfl) (by decide) (by exact Cp.sc))) nofree ?_
        refine RunS.cases (s := 48) rfl (fun g46 => ?_) (fun g46 => ?_)
        · have sg46 := g46
          try simp only [decide_eq_true_eq, decide_eq_false_iff_not, bne_iff_ne, beq_iff_eq, Bool.not_eq_true', Bool.not_eq_false', ne_eq, bne_eq_false_iff_eq, beq_eq_false_iff_ne] at sg46
          refine RunS.step (by exact And.intro rfl (And.intro rfl True.intro)) (by exact True.intro) (LocG.yes rfl rfl (by decide) g46 (loc_copy (.inl rfl) (by decide) (by exact Cp.sc))) nofree ?_
          refine RunS.step (by exact And.intro rfl (And.intro rfl True.intro)) (by exact True.intro) (LocG.of rfl (loc_pick (z := .tmp 49) (by decide) (by rw [g46]; rfl) (by exact True.intro) (by exact True.intro) (by exact Cp.sc))) nofree ?_
          refine RunS.step (by exact And.intro rfl True.intro) (by exact True.intro) (LocG.of rfl (loc_copy (.inl rfl) (by decide) (by exact Cp.sc))) nofree ?_
          refine RunS.cases (s := 51) rfl (fun g47 => nomatch g47) (fun g47 => ?_)
          refine RunS.step (by exact And.intro rfl True.intro) (by exact True.intro) (LocG.no (ops := _) rfl rfl (by decide) g47 rfl) nofree ?_
          refine RunS.step (by exact And.intro rfl True.intro) (by exact True.intro) (LocG.of rfl (loc_pick (z := .const (.bool false)) (by decide) (by rw [g47]; rfl) (by exact True.intro) (ok_sc rfl) (by exact Cp.sc))) nofree ?_
          refine RunS.step (by exact And.intro rfl True.intro) (by exact True.intro) (LocG.of rfl (loc_copy (.inl rfl) (by decide) (by exact Cp.sc))) nofree ?_
          refine RunS.cases (s := 54) rfl (fun g48 => nomatch g48) (fun g48 => ?_)
          refine RunS.step (by exact And.intro rfl True.intro) (by exact True.intro) (LocG.no (ops := _) rfl rfl (by decide) g48 rfl) nofree ?_
          refine RunS.step (by exact And.intro rfl True.intro) (by exact True.intro) (LocG.no (ops := _) rfl rfl (by decide) g48 rfl) nofree ?_
          refine RunS.step (by exact And.intro rfl True.intro) (by exact True.intro) (LocG.no (ops := _) rfl rfl (by decide) g48 rfl) nofree ?_
          refine RunS.step (by exact And.intro rfl True.intro) (by exact True.intro) (LocG.of rfl (loc_pick (z := .const (.bool false)) (by decide) (by rw [g48]; rfl) (by exact True.intro) (ok_sc rfl) (by exact Cp.sc))) nofree ?_
          refine RunS.step (by exact And.intro rfl True.intro) (by exact True.intro) (LocG.of rfl (loc_copy (.inr rfl) (by decide) (by exact Cp.sc))) nofree ?_
          refine sw_ret ?_
          exact (And.intro (by refine bool_eq ?_; first | (simp_all [okEvent, deq_zeroQ, deq_zeroU]; done) | (simp_all [okEvent, deq_zeroQ, deq_zeroU]; rfl) | (simp_all [okEvent, deq_zeroQ, deq_zeroU]; omega) | (simp_all [okEvent, deq_zeroQ, deq_zeroU]; intros; omega)) True.intro)
        · have sg46 := g46
          try simp only [decide_eq_true_eq, decide_eq_false_iff_not, bne_iff_ne, beq_iff_eq, Bool.not_eq_true', Bool.not_eq_false', ne_eq, bne_eq_false_iff_eq, beq_eq_false_iff_ne] at sg46
          refine RunS.step (by exact And.intro rfl True.intro) (by exact True.intro) (LocG.no (ops := _) rfl rfl (by decide) g46 rfl) nofree ?_
          refine RunS.step (by exact And.intro rfl True.intro) (by exact True.intro) (LocG.of rfl (loc_pick (z := .const (.bool false)) (by decide) (by rw [g46]; rfl) (by exact True.intro) (ok_sc rfl) (by exact Cp.sc))) nofree ?_
          refine RunS.step (by exact And.intro rfl True.intro) (by exact True.intro) (LocG.of rfl (loc_copy (.inl rfl) (by decide) (by exact Cp.sc))) nofree ?_
          refine RunS.cases (s := 51) rfl (fun g49 => nomatch g49) (fun g49 => ?_)
          refine RunS.step (by exact And.intro rfl True.intro) (by exact True.intro) (LocG.no (ops := _) rfl rfl (by decide) g49 rfl) nofree ?_
          refine RunS.step (by exact And.intro rfl True.intro) (by exact True.intro) (LocG.of rfl (loc_pick (z := .const (.bool false)) (by decide) (by rw [g49]; rfl) (by exact True.intro) (ok_sc rfl) (by exact Cp.sc))) nofree ?_
          refine RunS.step (by exact And.intro rfl True.intro) (by exact True.intro) (LocG.of rfl (loc_copy (.inl rfl) (by decide) (by exact Cp.sc))) nofree ?_
          refine RunS.cases (s := 54) rfl (fun g50 => nomatch g50) (fun g50 => ?_)
          refine RunS.step (by exact And.intro rfl True.intro) (by exact True.intro) (LocG.no (ops := _) rfl rfl (by decide) g50 rfl) nofree ?_
          refine RunS.step (by exact And.intro rfl True.intro) (by exact True.intro) (LocG.no (ops := _) rfl rfl (by decide) g50 rfl) nofree ?_
          refine RunS.step (by exact And.intro rfl True.intro) (by exact True.intro) (LocG.no (ops := _) rfl rfl (by decide) g50 rfl) nofree ?_
          refine RunS.step (by exact And.intro rfl True.intro) (by exact True.intro) (LocG.of rfl (loc_pick (z := .const (.bool false)) (by decide) (by rw [g50]; rfl) (by exact True.intro) (ok_sc rfl) (by exact Cp.sc))) nofree ?_
          refine RunS.step (by exact And.intro rfl True.intro) (by exact True.intro) (LocG.of rfl (loc_copy (.inr rfl) (by decide) (by exact Cp.sc))) nofree ?_
          refine sw_ret ?_
          exact (And.intro (by refine bool_eq ?_; first | (simp_all [okEvent, deq_zeroQ, deq_zeroU]; done) | (simp_all [okEvent, deq_zeroQ, deq_zeroU]; rfl) | (simp_all [okEvent, deq_zeroQ, deq_zeroU]; omega) | (simp_all [okEvent, deq_zeroQ, deq_zeroU]; intros; omega)) True.intro)
      · try simp only [decide_eq_true_eq, decide_eq_false_iff_not, bne_iff_ne, beq_iff_eq, Bool.not_eq_true', Bool.not_eq_false', ne_eq, bne_eq_false_iff_eq, beq_eq_false_iff_ne] at hb45
        refine sw_seq ?_
        refine sw_of (l := [(1, RV.ptr 1 0), (2, RV.sv false [PV.val _]), (3, RV.sv false [PV.val _]), (4, RV.sv false [PV.val _]), (19, RV.sv false [PV.val _])]) (b := [(1, (61, [PV.val _, PV.val _, PV.val _, PV.sl _ _, PV.sl _ _, PV.val _, PV.val _, PV.val _, PV.val _, PV.sl _ _, PV.val _, PV.val _, PV.val _]))]) (by exact And.intro rfl (And.intro rfl (And.intro rfl (And.intro rfl (And.intro rfl True.intro))))) (by exact And.intro rfl True.intro) ?_
        refine sw_reg ?_
        refine RunS.step (by exact And.intro rfl True.intro) (by exact True.intro) (LocG.of rfl (loc_eql (by decide) (by exact True.intro) (ok_sc rfl))) nofree ?_
        refine RunS.step (by exact And.intro rfl True.intro) (by exact True.intro) (LocG.of rfl (loc_copy (.inr rfl) (by decide) (by exact Cp.sc))) nofree ?_
        refine sw_cond (t := 59) rfl (fun hb51 => ?_) (fun hb51 => ?_)
        · try simp only [decide_eq_true_eq, decide_eq_false_iff_not, bne_iff_ne, beq_iff_eq, Bool.not_eq_true', Bool.not_eq_false', ne_eq, bne_eq_false_iff_eq, beq_eq_false_iff_ne] at hb51
          refine sw_seq ?_
          refine sw_of (l := [(1, RV.ptr 1 0), (2, RV.sv false [PV.val _]), (3, RV.sv false [PV.val _]), (4, RV.sv false [PV.val _]), (19, RV.sv false [PV.val _])]) (b := [(1, (61, [PV.val _, PV.val _, PV.val _, PV.sl _ _, PV.sl _ _, PV.val _, PV.val _, PV.val _, PV.val _, PV.sl _ _, PV.val _, PV.val _, PV.val _]))]) (by exact And.intro rfl (And.intro rfl (And.intro rfl (And.intro rfl (And.intro rfl True.intro))))) (by exact And.intro rfl True.intro) ?_
          refine sw_reg ?_
          refine RunS.step (by exact And.intro rfl True.intro) (by exact True.intro) (LocG.of rfl (loc_field (by decide) fd_61_4)) nofree ?_
          refine RunS.step (by exact And.intro rfl True.intro) (by exact And.intro rfl True.intro) (LocG.of rfl (loc_load (qs := [PV.val _, PV.val _, PV.sl .v _, PV.val _, PV.val _]) (by decide) ty_59 (fun h => nomatch h) (by exact Nat.le_of_ble_eq_true rfl) (by exact (ToL.cons (PV.To.refl _) (ToL.cons (PV.To.refl _) (ToL.cons PV.to_none (ToL.cons (PV.To.refl _) (ToL.cons (PV.To.refl _) ToL.nil)))))) (by exact (BorL.cons (PV.bor_val _) (BorL.cons (PV.bor_val _) (BorL.cons (PV.bor_sl _) (BorL.cons (PV.bor_val _) (BorL.cons (PV.bor_val _) BorL.nil)))))))) nofree ?_
          refine RunS.step (by exact And.intro rfl True.intro) (by exact True.intro) (LocG.of rfl (loc_call (qs := [(true, [PV.val _, PV.val _, PV.sl _ _, PV.val _, PV.val _])]) (as_ := [(true, [PV.val _, PV.val _, PV.sl .v _, PV.val _, PV.val _])]) (by decide) c_95 (by exact (And.intro (by exact True.intro) True.intro)) (by exact (And.intro (And.intro rfl (ToL.cons (PV.To.refl _) (ToL.cons (PV.To.refl _) (ToL.cons PV.to_none (ToL.cons (PV.To.refl _) (ToL.cons (PV.To.refl _) ToL.nil)))))) True.intro)) (by exact impl_IsUpdate))) nofree ?_
          refine RunS.step (by exact And.intro rfl True.intro) (by exact True.intro) (LocG.of rfl (loc_copy (.inl rfl) (by decide) (by exact Cp.sc))) nofree ?_
          refine RunS.cases (s := 64) rfl (fun g52 => ?_) (fun g52 => ?_)
          · have sg52 := g52
            try simp only [decide_eq_true_eq, decide_eq_false_iff_not, bne_iff_ne, beq_iff_eq, Bool.not_eq_true', Bool.not_eq_false', ne_eq, bne_eq_false_iff_eq, beq_eq_false_iff_ne] at sg52
            refine RunS.step (by exact And.intro rfl (And.intro rfl True.intro)) (by exact True.intro) (LocG.yes rfl rfl (by decide) g52 (loc_copy (.inl rfl) (by decide) (by exact Cp.sc))) nofree ?_
            refine RunS.step (by exact And.intro rfl (And.intro rfl True.intro)) (by exact True.intro) (LocG.of rfl (loc_pick (z := .tmp 65) (by decide) (by rw [g52]; rfl) (by exact True.intro) (by exact True.intro) (by exact Cp.sc))) nofree ?_
            refine RunS.step (by exact And.intro rfl True.intro) (by exact True.intro) (LocG.of rfl (loc_copy (.inl rfl) (by decide) (by exact Cp.sc))) nofree ?_
            refine RunS.cases (s := 67) rfl (fun g53 => nomatch g53) (fun g53 => ?_)
            refine RunS.step (by exact And.intro rfl True.intro) (by exact True.intro) (LocG.no (ops := _) rfl rfl (by decide) g53 rfl) nofree ?_
            refine RunS.step (by exact And.intro rfl True.intro) (by exact True.intro) (LocG.no (ops := _) rfl rfl (by decide) g53 rfl) nofree ?_
            refine RunS.step (by exact And.intro rfl True.intro) (by exact True.intro) (LocG.no (ops := _) rfl rfl (by decide) g53 rfl) nofree ?_
            refine RunS.step (by exact And.intro rfl True.intro) (by exact True.intro) (LocG.of rfl (loc_pick (z := .const (.bool false)) (by decide) (by rw [g53]; rfl) (by exact True.intro) (ok_sc rfl) (by exact Cp.sc))) nofree ?_
            refine RunS.step (by exact And.intro rfl True.intro) (by exact True.intro) (LocG.of rfl (loc_copy (.inl rfl) (by decide) (by exact Cp.sc))) nofree ?_
            refine RunS.cases (s := 72) rfl (fun g54 => nomatch g54) (fun g54 => ?_)
            refine RunS.step (by exact And.intro rfl True.intro) (by exact True.intro) (LocG.no (ops := _) rfl rfl (by decide) g54 rfl) nofree ?_
            refine RunS.step (by exact And.intro rfl True.intro) (by exact True.intro) (LocG.no (ops := _) rfl rfl (by decide) g54 rfl) nofree ?_
            refine RunS.step (by exact And.intro rfl True.intro) (by exact True.intro) (LocG.no (ops := _) rfl rfl (by decide) g54 rfl) nofree ?_
            refine RunS.step (by exact And.intro rfl True.intro) (by exact True.intro) (LocG.of rfl (loc_pick (z := .const (.bool false)) (by decide) (by rw [g54]; rfl) (by exact True.intro) (ok_sc rfl) (by exact Cp.sc))) nofree ?_
            refine RunS.step (by exact And.intro rfl True.intro) (by exact True.intro) (LocG.of rfl (loc_copy (.inr rfl) (by decide) (by exact Cp.sc))) nofree ?_
            refine sw_ret ?_
            exact (And.intro (by refine bool_eq ?_; first | (simp_all [okEvent, deq_zeroQ, deq_zeroU]; done) | (simp_all [okEvent, deq_zeroQ, deq_zeroU]; rfl) | (simp_all [okEvent, deq_zeroQ, deq_zeroU]; omega) | (simp_all [okEvent, deq_zeroQ, deq_zeroU]; intros; omega)) True.intro)
          · have sg52 := g52
            try simp only [decide_eq_true_eq, decide_eq_false_iff_not, bne_iff_ne, beq_iff_eq, Bool.not_eq_true', Bool.not_eq_false', ne_eq, bne_eq_false_iff_eq, beq_eq_false_iff_ne] at sg52
            refine RunS.step (by exact And.intro rfl True.intro) (by exact True.intro) (LocG.no (ops := _) rfl rfl (by decide) g52 rfl) nofree ?_
            refine RunS.step (by exact And.intro rfl True.intro) (by exact True.intro) (LocG.of rfl (loc_pick (z := .const (.bool false)) (by decide) (by rw [g52]; rfl) (by exact True.intro) (ok_sc rfl) (by exact Cp.sc))) nofree ?_
            refine RunS.step (by exact And.intro rfl True.intro) (by exact True.intro) (LocG.of rfl (loc_copy (.inl rfl) (by decide) (by exact Cp.sc))) nofree ?_
            refine RunS.cases (s := 67) rfl (fun g55 => nomatch g55) (fun g55 => ?_)
            refine RunS.step (by exact And.intro rfl True.intro) (by exact True.intro) (LocG.no (ops := _) rfl rfl (by decide) g55 rfl) nofree ?_
            refine RunS.step (by exact And.intro rfl True.intro) (by exact True.intro) (LocG.no (ops := _) rfl rfl (by decide) g55 rfl) nofree ?_
            refine RunS.step (by exact And.intro rfl True.intro) (by exact True.intro) (LocG.no (ops := _) rfl rfl (by decide) g55 rfl) nofree ?_
            refine RunS.step (by exact And.intro rfl True.intro) (by exact True.intro) (LocG.of rfl (loc_pick (z := .const (.bool false)) (by decide) (by rw [g55]; rfl) (by exact True.intro) (ok_sc rfl) (by exact Cp.sc))) nofree ?_
            refine RunS.step (by exact And.intro rfl True.intro) (by exact True.intro) (LocG.of rfl (loc_copy (.inl rfl) (by decide) (by exact Cp.sc))) nofree ?_
            refine RunS.cases (s := 72) rfl (fun g56 => nomatch g56) (fun g56 => ?_)
            refine RunS.step (by exact And.intro rfl True.intro) (by exact True.intro) (LocG.no (ops := _) rfl rfl (by decide) g56 rfl) nofree ?_
            refine RunS.step (by exact And.intro rfl True.intro) (by exact True.intro) (LocG.no (ops := _) rfl rfl (by decide) g56 rfl) nofree ?_
            refine RunS.step (by exact And.intro rfl True.intro) (by exact True.intro) (LocG.no (ops := _) rfl rfl (by decide) g56 rfl) nofree ?_
            refine RunS.step (by exact And.intro rfl True.intro) (by exact True.intro) (LocG.of rfl (loc_pick (z := .const (.bool false)) (by decide) (by rw [g56]; rfl) (by exact True.intro) (ok_sc rfl) (by exact Cp.sc))) nofree ?_
            refine RunS.step (by exact And.intro rfl True.intro) (by exact True.intro) (LocG.of rfl (loc_copy (.inr rfl) (by decide) (by exact Cp.sc))) nofree ?_
            refine sw_ret ?_
            exact (And.intro (by refine bool_eq ?_; first | (simp_all [okEvent, deq_zeroQ, deq_zeroU]; done) | (simp_all [okEvent, deq_zeroQ, deq_zeroU]; rfl) | (simp_all [okEvent, deq_zeroQ, deq_zeroU]; omega) | (simp_all [okEvent, deq_zeroQ, deq_zeroU]; intros; omega)) True.intro)
        · try simp only [decide_eq_true_eq, decide_eq_false_iff_not, bne_iff_ne, beq_iff_eq, Bool.not_eq_true', Bool.not_eq_false', ne_eq, bne_eq_false_iff_eq, beq_eq_false_iff_ne] at hb51
          refine sw_seq ?_
          refine sw_of (l := [(1, RV.ptr 1 0), (2, RV.sv false [PV.val _]), (3, RV.sv false [PV.val _]), (4, RV.sv false [PV.val _]), (19, RV.sv false [PV.val _])]) (b := [(1, (61, [PV.val _, PV.val _, PV.val _, PV.sl _ _, PV.sl _ _, PV.val _, PV.val _, PV.val _, PV.val _, PV.sl _ _, PV.val _, PV.val _, PV.val _]))]) (by exact And.intro rfl (And.intro rfl (And.intro rfl (And.intro rfl (And.intro rfl True.intro))))) (by exact And.intro rfl True.intro) ?_
          refine sw_reg ?_
          refine RunS.step (by exact And.intro rfl True.intro) (by exact True.intro) (LocG.of rfl (loc_eql (by decide) (by exact True.intro) (ok_sc rfl))) nofree ?_
          refine RunS.step (by exact And.intro rfl True.intro) (by exact True.intro) (LocG.of rfl (loc_copy (.inr rfl) (by decide) (by exact Cp.sc))) nofree ?_
          refine sw_cond (t := 77) rfl (fun hb57 => ?_) (fun hb57 => ?_)
          · try simp only [decide_eq_true_eq, decide_eq_false_iff_not, bne_iff_ne, beq_iff_eq, Bool.not_eq_true', Bool.not_eq_false', ne_eq, bne_eq_false_iff_eq, beq_eq_false_iff_ne] at hb57
            refine sw_seq ?_
            refine sw_of (l := [(1, RV.ptr 1 0), (2, RV.sv false [PV.val _]), (3, RV.sv false [PV.val _]), (4, RV.sv false [PV.val _]), (19, RV.sv false [PV.val _])]) (b := [(1, (61, [PV.val _, PV.val _, PV.val _, PV.sl _ _, PV.sl _ _, PV.val _, PV.val _, PV.val _, PV.val _, PV.sl _ _, PV.val _, PV.val _, PV.val _]))]) (by exact And.intro rfl (And.intro rfl (And.intro rfl (And.intro rfl (And.intro rfl True.intro))))) (by exact And.intro rfl True.intro) ?_
            refine sw_reg ?_
            refine RunS.step (by exact And.intro rfl True.intro) (by exact True.intro) (LocG.of rfl (loc_field (by decide) fd_61_5)) nofree ?_
            refine RunS.step (by exact And.intro rfl True.intro) (by exact And.intro rfl True.intro) (LocG.of rfl (loc_load (qs := [PV.val _]) (by decide) ty_3 (fun _ => rfl) (by exact Nat.le_of_ble_eq_true rfl) (by exact (ToL.cons (PV.To.refl _) ToL.nil)) (by exact (BorL.cons (PV.bor_val _) BorL.nil)))) nofree ?_
            refine RunS.step (by exact And.intro rfl True.intro) (by exact True.intro) (LocG.of rfl (loc_call (qs := [(false, [PV.val _]), (false, [PV.val _]), (false, [PV.val _])]) (as_ := [(false, [PV.val _]), (false, [PV.val _]), (false, [PV.val _])]) (by decide) c_94 (by exact (And.intro (by exact True.intro) (And.intro (ok_sc rfl) (And.intro (ok_sc rfl) True.intro)))) (by exact (And.intro (And.intro rfl (ToL.cons (PV.To.refl _) ToL.nil)) (And.intro (And.intro rfl (ToL.cons (PV.To.refl _) ToL.nil)) (And.intro (And.intro rfl (ToL.cons (PV.To.refl _) ToL.nil)) True.intro)))) (by exact impl_within))) nofree ?_
            refine RunS.step (by exact And.intro rfl True.intro) (by exact True.intro) (LocG.of rfl (loc_copy (.inl rfl) (by decide) (by exact Cp.sc))) nofree ?_
            refine RunS.cases (s := 82) rfl (fun g58 => ?_) (fun g58 => ?_)
            · have sg58 := g58
              try simp only [decide_eq_true_eq, decide_eq_false_iff_not, bne_iff_ne, beq_iff_eq, Bool.not_eq_true', Bool.not_eq_false', ne_eq, bne_eq_false_iff_eq, beq_eq_false_iff_ne] at sg58
              refine RunS.step (by exact And.intro rfl (And.intro rfl True.intro)) (by exact True.intro) (LocG.yes rfl rfl (by decide) g58 (loc_copy (.inl rfl) (by decide) (by exact Cp.sc))) nofree ?_
              refine RunS.step (by exact And.intro rfl (And.intro rfl True.intro)) (by exact True.intro) (LocG.of rfl (loc_pick (z := .tmp 83) (by decide) (by rw [g58]; rfl) (by exact True.intro) (by exact True.intro) (by exact Cp.sc))) nofree ?_
              refine RunS.step (by exact And.intro rfl True.intro) (by exact True.intro) (LocG.of rfl (loc_copy (.inl rfl) (by decide) (by exact Cp.sc))) nofree ?_
              refine RunS.cases (s := 85) rfl (fun g59 => nomatch g59) (fun g59 => ?_)
              refine RunS.step (by exact And.intro rfl True.intro) (by exact True.intro) (LocG.no (ops := _) rfl rfl (by decide) g59 rfl) nofree ?_
              refine RunS.step (by exact And.intro rfl True.intro) (by exact True.intro) (LocG.no (ops := _) rfl rfl (by decide) g59 rfl) nofree ?_
              refine RunS.step (by exact And.intro rfl True.intro) (by exact True.intro) (LocG.no (ops := _) rfl rfl (by decide) g59 rfl) nofree ?_
              refine RunS.step (by exact And.intro rfl True.intro) (by exact True.intro) (LocG.of rfl (loc_pick (z := .const (.bool false)) (by decide) (by rw [g59]; rfl) (by exact True.intro) (ok_sc rfl) (by exact Cp.sc))) nofree ?_
              refine RunS.step (by exact And.intro rfl True.intro) (by exact True.intro) (LocG.of rfl (loc_copy (.inl rfl) (by decide) (by exact Cp.sc))) nofree ?_
              refine RunS.cases (s := 90) rfl (fun g60 => nomatch g60) (fun g60 => ?_)
              refine RunS.step (by exact And.intro rfl True.intro) (by exact True.intro) (LocG.no (ops := _) rfl rfl (by decide) g60 rfl) nofree ?_
              refine RunS.step (by exact And.intro rfl True.intro) (by exact True.intro) (LocG.of rfl (loc_pick (z := .const (.bool false)) (by decide) (by rw [g60]; rfl) (by exact True.intro) (ok_sc rfl) (by exact Cp.sc))) nofree ?_
              refine RunS.step (by exact And.intro rfl True.intro) (by exact True.intro) (LocG.of rfl (loc_copy (.inr rfl) (by decide) (by exact Cp.sc))) nofree ?_
              refine sw_ret ?_
              exact (And.intro (by refine bool_eq ?_; first | (simp_all [okEvent, deq_zeroQ, deq_zeroU]; done) | (simp_all [okEvent, deq_zeroQ, deq_zeroU]; rfl) | (simp_all [okEvent, deq_zeroQ, deq_zeroU]; omega) | (simp_all [okEvent, deq_zeroQ, deq_zeroU]; intros; omega)) True.intro)
            · have sg58 := g58
              try simp only [decide_eq_true_eq, decide_eq_false_iff_not, bne_iff_ne, beq_iff_eq, Bool.not_eq_true', Bool.not_eq_false', ne_eq, bne_eq_false_iff_eq, beq_eq_false_iff_ne] at sg58
              refine RunS.step (by exact And.intro rfl True.intro) (by exact True.intro) (LocG.no (ops := _) rfl rfl (by decide) g58 rfl) nofree ?_
              refine RunS.step (by exact And.intro rfl True.intro) (by exact True.intro) (LocG.of rfl (loc_pick (z := .const (.bool false)) (by decide) (by rw [g58]; rfl) (by exact True.intro) (ok_sc rfl) (by exact Cp.sc))) nofree ?_
              refine RunS.step (by exact And.intro rfl True.intro) (by exact True.intro) (LocG.of rfl (loc_copy (.inl rfl) (by decide) (by exact Cp.sc))) nofree ?_
              refine RunS.cases (s := 85) rfl (fun g61 => nomatch g61) (fun g61 => ?_)
              refine RunS.step (by exact And.intro rfl True.intro) (by exact True.intro) (LocG.no (ops := _) rfl rfl (by decide) g61 rfl) nofree ?_
              refine RunS.step (by exact And.intro rfl True.intro) (by exact True.intro) (LocG.no (ops := _) rfl rfl (by decide) g61 rfl) nofree ?_
              refine RunS.step (by exact And.intro rfl True.intro) (by exact True.intro) (LocG.no (ops := _) rfl rfl (by decide) g61 rfl) nofree ?_
              refine RunS.step (by exact And.intro rfl True.intro) (by exact True.intro) (LocG.of rfl (loc_pick (z := .const (.bool false)) (by decide) (by rw [g61]; rfl) (by exact True.intro) (ok_sc rfl) (by exact Cp.sc))) nofree ?_
              refine RunS.step (by exact And.intro rfl True.intro) (by exact True.intro) (LocG.of rfl (loc_copy (.inl rfl) (by decide) (by exact Cp.sc))) nofree ?_
              refine RunS.cases (s := 90) rfl (fun g62 => nomatch g62) (fun g62 => ?_)
              refine RunS.step (by exact And.intro rfl True.intro) (by exact True.intro) (LocG.no (ops := _) rfl rfl (by decide) g62 rfl) nofree ?_
              refine RunS.step (by exact And.intro rfl True.intro) (by exact True.intro) (LocG.of rfl (loc_pick (z := .const (.bool false)) (by decide) (by rw [g62]; rfl) (by exact True.intro) (ok_sc rfl) (by exact Cp.sc))) nofree ?_
              refine RunS.step (by exact And.intro rfl True.intro) (by exact True.intro) (LocG.of rfl (loc_copy (.inr rfl) (by decide) (by exact Cp.sc))) nofree ?_
              refine sw_ret ?_
              exact (And.intro (by refine bool_eq ?_; first | (simp_all [okEvent, deq_zeroQ, deq_zeroU]; done) | (simp_all [okEvent, deq_zeroQ, deq_zeroU]; rfl) | (simp_all [okEvent, deq_zeroQ, deq_zeroU]; omega) | (simp_all [okEvent, deq_zeroQ, deq_zeroU]; intros; omega)) True.intro)
          · try simp only [decide_eq_true_eq, decide_eq_false_iff_not, bne_iff_ne, beq_iff_eq, Bool.not_eq_true', Bool.not_eq_false', ne_eq, bne_eq_false_iff_eq, beq_eq_false_iff_ne] at hb57
            refine sw_skip ?_
            refine sw_seq ?_
            refine sw_of (l := [(1, RV.ptr 1 0), (2, RV.sv false [PV.val _]), (3, RV.sv false [PV.val _]), (4, RV.sv false [PV.val _]), (19, RV.sv false [PV.val _])]) (b := [(1, (61, [PV.val _, PV.val _, PV.val _, PV.sl _ _, PV.sl _ _, PV.val _, PV.val _, PV.val _, PV.val _, PV.sl _ _, PV.val _, PV.val _, PV.val _]))]) (by exact And.intro rfl (And.intro rfl (And.intro rfl (And.intro rfl (And.intro rfl True.intro))))) (by exact And.intro rfl True.intro) ?_
            refine sw_reg ?_
            refine RunS.step (by exact True.intro) (by exact True.intro) (LocG.of rfl (loc_const (.inr rfl) (by decide) (ok_sc rfl))) nofree ?_
            refine sw_ret ?_
            exact (And.intro (by refine bool_eq ?_; first | (simp_all [okEvent, deq_zeroQ, deq_zeroU]; done) | (simp_all [okEvent, deq_zeroQ, deq_zeroU]; rfl) | (simp_all [okEvent, deq_zeroQ, deq_zeroU]; omega) | (simp_all [okEvent, deq_zeroQ, deq_zeroU]; intros; omega)) True.intro)
end Go.Proofs.Ytcfbekjiiokcbaa
