/- What functions of the program compute. No condition. -/
import Derived.Test.YtcfbekjiiokcbaaCEqPIsEvent
import Derived.Test.YtcfbekjiiokcbaaCQuerIsEvent
set_option linter.unusedVariables false
set_option linter.unusedSimpArgs false
namespace Go.Proofs.Ytcfbekjiiokcbaa
open Go Go.RowKit M
set_option maxRecDepth 10000
theorem eqs_Cond {x : List Cond} {y : List Cond}  : SCall Try.prog 165 [(false, [PV.sl .v (x.map cCond)]), (false, [PV.sl .v (y.map cCond)])] (resRV [(false, [PV.val (.bool (deq x y))])]) := by
  refine scall_of (rs := [(false, [PV.val (.bool (deq x y))])]) Try.func165 rfl (Nat.le_of_ble_eq_true rfl) (borA_cons (BorL.cons (PV.bor_sl _) BorL.nil) (borA_cons (BorL.cons (PV.bor_sl _) BorL.nil) borA_nil)) ?_
  intro h0 w0 Fz0
  refine sw_len (s := 0) rfl fun hl0 => ?_
  try rw [List.length_map] at hl0
  refine sw_len (s := 1) rfl fun hl1 => ?_
  try rw [List.length_map] at hl1
  refine sw_seq ?_
  refine sw_reg ?_
  refine RunS.step (by exact True.intro) (by exact True.intro) (LocG.of rfl (loc_const (.inr rfl) (by decide) (ok_sc rfl))) nofree ?_
  refine sw_seq ?_
  refine sw_seq ?_
  refine sw_of (l := [(0, RV.sv false [PV.sl _ _]), (1, RV.sv false [PV.sl _ _]), (4, RV.sv false [PV.val _])]) (b := []) (by exact And.intro rfl (And.intro rfl (And.intro rfl True.intro))) (by exact True.intro) ?_
  refine sw_reg ?_
  refine RunS.step (by exact And.intro rfl True.intro) (by exact True.intro) (LocG.of rfl (loc_copy (r' := RV.sv false [PV.sl .v _]) (.inl rfl) (by decide) (by exact Cp.sv (ToL.cons PV.to_none ToL.nil) (BorL.cons (PV.bor_sl _) BorL.nil)))) nofree ?_
  refine RunS.step (by exact And.intro rfl True.intro) (by exact True.intro) (LocG.of rfl (loc_len (by decide) sl_54 (by first | exact List.length_map _ | exact rfl))) nofree ?_
  refine RunS.step (by exact And.intro rfl True.intro) (by exact True.intro) (LocG.of rfl (loc_copy (r' := RV.sv false [PV.sl .v _]) (.inl rfl) (by decide) (by exact Cp.sv (ToL.cons PV.to_none ToL.nil) (BorL.cons (PV.bor_sl _) BorL.nil)))) nofree ?_
  refine RunS.step (by exact And.intro rfl True.intro) (by exact True.intro) (LocG.of rfl (loc_len (by decide) sl_54 (by first | exact List.length_map _ | exact rfl))) nofree ?_
  refine RunS.step (by exact And.intro rfl (And.intro rfl True.intro)) (by exact True.intro) (LocG.of rfl (loc_neq (by decide) (by exact True.intro) (by exact True.intro))) nofree ?_
  refine sw_cond (t := 10) rfl (fun hb1 => ?_) (fun hb1 => ?_)
  · try simp only [decide_eq_true_eq, decide_eq_false_iff_not, bne_iff_ne, beq_iff_eq, Bool.not_eq_true', Bool.not_eq_false', ne_eq, bne_eq_false_iff_eq, beq_eq_false_iff_ne] at hb1
    refine sw_seq ?_
    refine sw_of (l := [(0, RV.sv false [PV.sl _ _]), (1, RV.sv false [PV.sl _ _]), (4, RV.sv false [PV.val _])]) (b := []) (by exact And.intro rfl (And.intro rfl (And.intro rfl True.intro))) (by exact True.intro) ?_
    refine sw_reg ?_
    refine RunS.step (by exact True.intro) (by exact True.intro) (LocG.of rfl (loc_const (.inr rfl) (by decide) (ok_sc rfl))) nofree ?_
    refine sw_ret ?_
    exact (And.intro (by refine bool_eq ?_; exact (deq_false (fun e => by subst e; simp at *)).symm) True.intro)
  · try simp only [decide_eq_true_eq, decide_eq_false_iff_not, bne_iff_ne, beq_iff_eq, Bool.not_eq_true', Bool.not_eq_false', ne_eq, bne_eq_false_iff_eq, beq_eq_false_iff_ne] at hb1
    have hl : x.length = y.length := by omega
    refine sw_skip ?_
    refine sw_seq ?_
    refine sw_seq ?_
    refine sw_of (l := [(0, RV.sv false [PV.sl _ _]), (1, RV.sv false [PV.sl _ _]), (4, RV.sv false [PV.val _])]) (b := []) (by exact And.intro rfl (And.intro rfl (And.intro rfl True.intro))) (by exact True.intro) ?_
    refine sw_reg ?_
    refine RunS.step (by exact And.intro rfl True.intro) (by exact True.intro) (LocG.of rfl (loc_copy (r' := RV.sv false [PV.sl .v _]) (.inl rfl) (by decide) (by exact Cp.sv (ToL.cons PV.to_none ToL.nil) (BorL.cons (PV.bor_sl _) BorL.nil)))) nofree ?_
    refine RunS.step (by exact And.intro rfl True.intro) (by exact True.intro) (LocG.of rfl (loc_len (by decide) sl_54 (by first | exact List.length_map _ | exact rfl))) nofree ?_
    refine RunS.step (by exact True.intro) (by exact True.intro) (LocG.of rfl (loc_const (.inl rfl) (by decide) (ok_sc rfl))) nofree ?_
    refine sw_block ?_
    refine sw_of (l := [(0, RV.sv false [PV.sl _ _]), (1, RV.sv false [PV.sl _ _]), (4, RV.sv false [PV.val _]), (12, RV.sv false [PV.val _]), (13, RV.sv false [PV.val _])]) (b := []) (by exact And.intro rfl (And.intro rfl (And.intro rfl (And.intro rfl (And.intro rfl True.intro))))) (by exact True.intro) ?_
    refine sw_loop (l0 := [(0, RV.sv false [PV.sl _ _]), (1, RV.sv false [PV.sl _ _]), (12, RV.sv false [PV.val _])]) (b0 := []) (fun k : Nat => k ≤ x.length ∧ x.take k = y.take k) (fun k : Nat => [(13, RV.int (k : Int))]) (fun k : Nat => []) (fun k : Nat => x.length - k) 0 (by exact ⟨by omega, by simp⟩) (by exact And.intro rfl (And.intro rfl (And.intro rfl True.intro))) (by exact True.intro) (by exact And.intro (by exact rfl) (True.intro)) (by exact True.intro) ?_
    rintro k ⟨hk, ha⟩
    refine sw_seq ?_
    refine sw_reg ?_
    refine RunS.step (by exact And.intro rfl (And.intro rfl True.intro)) (by exact True.intro) (LocG.of rfl (loc_lss (by decide) (by exact True.intro) (by exact True.intro))) nofree ?_
    refine sw_seq ?_
    refine sw_cond (t := 14) rfl (fun hb2 => ?_) (fun hb2 => ?_)
    · try simp only [decide_eq_true_eq, decide_eq_false_iff_not, bne_iff_ne, beq_iff_eq, Bool.not_eq_true', Bool.not_eq_false', ne_eq, bne_eq_false_iff_eq, beq_eq_false_iff_ne] at hb2
      have hlt : k < x.length := by omega
      have hlt2 : k < y.length := by omega
      refine sw_skip ?_
      refine sw_seq ?_
      refine sw_block ?_
      refine sw_seq ?_
      refine sw_of (l := [(0, RV.sv false [PV.sl _ _]), (1, RV.sv false [PV.sl _ _]), (12, RV.sv false [PV.val _]), (13, RV.sv false [PV.val _])]) (b := []) (by exact And.intro rfl (And.intro rfl (And.intro rfl (And.intro rfl True.intro)))) (by exact True.intro) ?_
      refine sw_reg ?_
      refine RunS.step (by exact And.intro rfl True.intro) (by exact True.intro) (LocG.of rfl (loc_copy (.inl rfl) (by decide) (by exact Cp.sc))) nofree ?_
      refine RunS.step (by exact And.intro rfl True.intro) (by exact True.intro) (LocG.of rfl (loc_copy (.inr rfl) (by decide) (by exact Cp.sc))) nofree ?_
      refine sw_seq ?_
      refine sw_of (l := [(0, RV.sv false [PV.sl _ _]), (1, RV.sv false [PV.sl _ _]), (5, RV.sv false [PV.val _]), (12, RV.sv false [PV.val _]), (13, RV.sv false [PV.val _])]) (b := []) (by exact And.intro rfl (And.intro rfl (And.intro rfl (And.intro rfl (And.intro rfl True.intro))))) (by exact True.intro) ?_
      refine sw_draw hm_ ?_
      refine Run.step 0 (by exact And.intro rfl True.intro) (by exact True.intro) (LocG.of rfl (loc_copy (r' := RV.sv false [PV.sl .v _]) (.inl rfl) (by decide) (by exact Cp.sv (ToL.cons PV.to_none ToL.nil) (BorL.cons (PV.bor_sl _) BorL.nil)))) nofree (by kernel_rfl) ?_
      refine Run.step 0 (by exact And.intro rfl True.intro) (by exact True.intro) (LocG.of rfl (loc_copy (.inl rfl) (by decide) (by exact Cp.sc))) nofree (by kernel_rfl) ?_
      refine Run.step 3 (by exact And.intro rfl (And.intro rfl True.intro)) (by exact True.intro) (LocG.of rfl (loc_index (by decide) sl_54 (by exact True.intro) (by exact rfl) (by exact getm2 (by omega) rfl) (by exact rfl))) nofree (by kernel_rfl) ?_
      refine Run.step 7 (by exact And.intro rfl True.intro) (by exact True.intro) (LocG.of rfl (loc_eload (qs := [PV.val _, PV.val _, PV.val _]) (by decide) ty_181 (fun h => nomatch h) (by exact Nat.le_of_ble_eq_true rfl) (by exact (ToL.cons (PV.To.refl _) (ToL.cons (PV.To.refl _) (ToL.cons (PV.To.refl _) ToL.nil)))) (by exact (BorL.cons (PV.bor_val _) (BorL.cons (PV.bor_val _) (BorL.cons (PV.bor_val _) BorL.nil)))))) nofree (by kernel_rfl) ?_
      refine Run.step 0 (by exact And.intro rfl True.intro) (by exact True.intro) (LocG.of rfl (loc_copy (r' := RV.sv false [PV.sl .v _]) (.inl rfl) (by decide) (by exact Cp.sv (ToL.cons PV.to_none ToL.nil) (BorL.cons (PV.bor_sl _) BorL.nil)))) nofree (by kernel_rfl) ?_
      refine Run.step 0 (by exact And.intro rfl True.intro) (by exact True.intro) (LocG.of rfl (loc_copy (.inl rfl) (by decide) (by exact Cp.sc))) nofree (by kernel_rfl) ?_
      refine Run.step 48 (by exact And.intro rfl (And.intro rfl True.intro)) (by exact True.intro) (LocG.of rfl (loc_index (by decide) sl_54 (by exact True.intro) (by exact rfl) (by exact getm2 (by omega) rfl) (by exact rfl))) nofree (by kernel_rfl) ?_
      refine Run.step 112 (by exact And.intro rfl True.intro) (by exact True.intro) (LocG.of rfl (loc_eload (qs := [PV.val _, PV.val _, PV.val _]) (by decide) ty_181 (fun h => nomatch h) (by exact Nat.le_of_ble_eq_true rfl) (by exact (ToL.cons (PV.To.refl _) (ToL.cons (PV.To.refl _) (ToL.cons (PV.To.refl _) ToL.nil)))) (by exact (BorL.cons (PV.bor_val _) (BorL.cons (PV.bor_val _) (BorL.cons (PV.bor_val _) BorL.nil)))))) nofree (by kernel_rfl) ?_
      refine Run.step 255 (by exact And.intro rfl (And.intro rfl True.intro)) (by exact True.intro) (LocG.of rfl (loc_sbin [vI _, vI _, vI _] [vI _, vI _, vI _] (by decide) (se_neq_181 _ _ _ _ _ _ _ _))) nofree (by kernel_rfl) ?_
      refine sw_cond (t := 24) rfl (fun hb3 => ?_) (fun hb3 => ?_)
      · try simp only [decide_eq_true_eq, decide_eq_false_iff_not, bne_iff_ne, beq_iff_eq, Bool.not_eq_true', Bool.not_eq_false', ne_eq, bne_eq_false_iff_eq, beq_eq_false_iff_ne] at hb3
        refine sw_seq ?_
        refine sw_of (l := [(0, RV.sv false [PV.sl _ _]), (1, RV.sv false [PV.sl _ _]), (5, RV.sv false [PV.val _]), (12, RV.sv false [PV.val _]), (13, RV.sv false [PV.val _])]) (b := []) (by exact And.intro rfl (And.intro rfl (And.intro rfl (And.intro rfl (And.intro rfl True.intro))))) (by exact True.intro) ?_
        refine sw_reg ?_
        refine RunS.step (by exact True.intro) (by exact True.intro) (LocG.of rfl (loc_const (.inr rfl) (by decide) (ok_sc rfl))) nofree ?_
        refine sw_ret ?_
        exact (And.intro (by refine bool_eq ?_; exact (deq_false (eq_no hlt hlt2 (by intro e; simp [e, deq_self] at *))).symm) True.intro)
      · try simp only [decide_eq_true_eq, decide_eq_false_iff_not, bne_iff_ne, beq_iff_eq, Bool.not_eq_true', Bool.not_eq_false', ne_eq, bne_eq_false_iff_eq, beq_eq_false_iff_ne] at hb3
        refine sw_skip ?_
        refine sw_of (l := [(0, RV.sv false [PV.sl _ _]), (1, RV.sv false [PV.sl _ _]), (5, RV.sv false [PV.val _]), (12, RV.sv false [PV.val _]), (13, RV.sv false [PV.val _])]) (b := []) (by exact And.intro rfl (And.intro rfl (And.intro rfl (And.intro rfl (And.intro rfl True.intro))))) (by exact True.intro) ?_
        refine sw_reg ?_
        refine RunS.step (by exact And.intro rfl True.intro) (by exact True.intro) (LocG.of rfl (loc_add (by decide) (by exact True.intro) (ok_sc rfl) (by unfold I64; omega))) nofree ?_
        refine RunS.step (by exact And.intro rfl True.intro) (by exact True.intro) (LocG.of rfl (loc_copy (.inl rfl) (by decide) (by exact Cp.sc))) nofree ?_
        refine Exists.intro (k + 1) (And.intro (by exact ⟨by omega, eq_succ ha hlt hlt2 (by simp_all [ext_Cond_iff])⟩) (And.intro (by omega) (And.intro (And.intro (by exact And.intro rfl (And.intro rfl (And.intro rfl True.intro))) (by exact True.intro)) (And.intro (by exact And.intro (by exact rfl) (True.intro)) (by exact True.intro)))))
    · try simp only [decide_eq_true_eq, decide_eq_false_iff_not, bne_iff_ne, beq_iff_eq, Bool.not_eq_true', Bool.not_eq_false', ne_eq, bne_eq_false_iff_eq, beq_eq_false_iff_ne] at hb2
      refine sw_exit ?_
      refine sw_seq ?_
      refine sw_of (l := [(0, RV.sv false [PV.sl _ _]), (1, RV.sv false [PV.sl _ _]), (12, RV.sv false [PV.val _]), (13, RV.sv false [PV.val _])]) (b := []) (by exact And.intro rfl (And.intro rfl (And.intro rfl (And.intro rfl True.intro)))) (by exact True.intro) ?_
      refine sw_reg ?_
      refine RunS.step (by exact True.intro) (by exact True.intro) (LocG.of rfl (loc_const (.inr rfl) (by decide) (ok_sc rfl))) nofree ?_
      refine sw_ret ?_
      exact (And.intro (by refine bool_eq ?_; exact (deq_true (eq_end hl (by rw [show x.length = k by omega]; exact ha))).symm) True.intro)
theorem impl_equalQuery {x : Query} {y : Query}  : SCall Try.prog 91 [(true, [PV.val (vI x.Id), PV.val (vI x.Tenant), PV.sl .v (x.Conds.map cCond), PV.sl .v (x.Out.map cInt)]), (true, [PV.val (vI y.Id), PV.val (vI y.Tenant), PV.sl .v (y.Conds.map cCond), PV.sl .v (y.Out.map cInt)])] (resRV [(false, [PV.val (.bool (deq x y))])]) := by
  refine scall_of (rs := [(false, [PV.val (.bool (deq x y))])]) Try.func91 rfl (Nat.le_of_ble_eq_true rfl) (borA_cons (BorL.cons (PV.bor_val _) (BorL.cons (PV.bor_val _) (BorL.cons (PV.bor_sl _) (BorL.cons (PV.bor_sl _) BorL.nil)))) (borA_cons (BorL.cons (PV.bor_val _) (BorL.cons (PV.bor_val _) (BorL.cons (PV.bor_sl _) (BorL.cons (PV.bor_sl _) BorL.nil)))) borA_nil)) ?_
  intro h0 w0 Fz0
  refine sw_slen (s := 0) (j := 2) rfl rfl fun hl0_2 => ?_
  try rw [List.length_map] at hl0_2
  refine sw_slen (s := 0) (j := 3) rfl rfl fun hl0_3 => ?_
  try rw [List.length_map] at hl0_3
  refine sw_slen (s := 1) (j := 2) rfl rfl fun hl1_2 => ?_
  try rw [List.length_map] at hl1_2
  refine sw_slen (s := 1) (j := 3) rfl rfl fun hl1_3 => ?_
  try rw [List.length_map] at hl1_3
  refine sw_seq ?_
  refine sw_reg ?_
  refine RunS.step (by exact And.intro rfl True.intro) (by exact True.intro) (LocG.of rfl (loc_box (ag := true) (cs := [PV.val _, PV.val _, PV.sl _ _, PV.sl _ _]) (by decide) (by exact True.intro))) (free1 (Free.of_ rfl)) ?_
  refine RunS.step (by exact And.intro rfl True.intro) (by exact True.intro) (LocG.of rfl (loc_box (ag := true) (cs := [PV.val _, PV.val _, PV.sl _ _, PV.sl _ _]) (by decide) (by exact True.intro))) (free1 (Free.app (Free.of_ rfl) rfl)) ?_
  refine RunS.step (by exact True.intro) (by exact True.intro) (LocG.of rfl (loc_const (.inr rfl) (by decide) (ok_sc rfl))) nofree ?_
  refine sw_seq ?_
  refine sw_of (l := [(2, RV.ptr 2 0), (3, RV.ptr 3 0), (4, RV.sv false [PV.val _])]) (b := [(2, (56, [PV.val _, PV.val _, PV.sl _ _, PV.sl _ _])), (3, (56, [PV.val _, PV.val _, PV.sl _ _, PV.sl _ _]))]) (by exact And.intro rfl (And.intro rfl (And.intro rfl True.intro))) (by exact And.intro rfl (And.intro rfl True.intro)) ?_
  refine sw_reg ?_
  refine RunS.step (by exact And.intro rfl True.intro) (by exact True.intro) (LocG.of rfl (loc_field (by decide) fd_56_0)) nofree ?_
  refine RunS.step (by exact And.intro rfl True.intro) (by exact And.intro rfl True.intro) (LocG.of rfl (loc_load (qs := [PV.val _]) (by decide) ty_3 (fun _ => rfl) (by exact Nat.le_of_ble_eq_true rfl) (by exact (ToL.cons (PV.To.refl _) ToL.nil)) (by exact (BorL.cons (PV.bor_val _) BorL.nil)))) nofree ?_
  refine RunS.step (by exact And.intro rfl True.intro) (by exact True.intro) (LocG.of rfl (loc_field (by decide) fd_56_0)) nofree ?_
  refine RunS.step (by exact And.intro rfl True.intro) (by exact And.intro rfl True.intro) (LocG.of rfl (loc_load (qs := [PV.val _]) (by decide) ty_3 (fun _ => rfl) (by exact Nat.le_of_ble_eq_true rfl) (by exact (ToL.cons (PV.To.refl _) ToL.nil)) (by exact (BorL.cons (PV.bor_val _) BorL.nil)))) nofree ?_
  refine RunS.step (by exact And.intro rfl (And.intro rfl True.intro)) (by exact True.intro) (LocG.of rfl (loc_eql (by decide) (by exact True.intro) (by exact True.intro))) nofree ?_
  refine RunS.step (by exact And.intro rfl True.intro) (by exact True.intro) (LocG.of rfl (loc_copy (.inl rfl) (by decide) (by exact Cp.sc))) nofree ?_
  refine RunS.cases (s := 10) rfl (fun g1 => ?_) (fun g1 => ?_)
  · have sg1 := g1
    try simp only [decide_eq_true_eq, decide_eq_false_iff_not, bne_iff_ne, beq_iff_eq, Bool.not_eq_true', Bool.not_eq_false', ne_eq, bne_eq_false_iff_eq, beq_eq_false_iff_ne] at sg1
    refine RunS.step (by exact And.intro rfl (And.intro rfl True.intro)) (by exact True.intro) (LocG.yes rfl rfl (by decide) g1 (loc_field (by decide) fd_56_1)) nofree ?_
    refine RunS.step (by exact And.intro rfl (And.intro rfl True.intro)) (by exact And.intro rfl True.intro) (LocG.yes rfl rfl (by decide) g1 (loc_load (qs := [PV.val _]) (by decide) ty_3 (fun _ => rfl) (by exact Nat.le_of_ble_eq_true rfl) (by exact (ToL.cons (PV.To.refl _) ToL.nil)) (by exact (BorL.cons (PV.bor_val _) BorL.nil)))) nofree ?_
    refine RunS.step (by exact And.intro rfl (And.intro rfl True.intro)) (by exact True.intro) (LocG.yes rfl rfl (by decide) g1 (loc_field (by decide) fd_56_1)) nofree ?_
    refine RunS.step (by exact And.intro rfl (And.intro rfl True.intro)) (by exact And.intro rfl True.intro) (LocG.yes rfl rfl (by decide) g1 (loc_load (qs := [PV.val _]) (by decide) ty_3 (fun _ => rfl) (by exact Nat.le_of_ble_eq_true rfl) (by exact (ToL.cons (PV.To.refl _) ToL.nil)) (by exact (BorL.cons (PV.bor_val _) BorL.nil)))) nofree ?_
    refine RunS.step (by exact And.intro rfl (And.intro rfl (And.intro rfl True.intro))) (by exact True.intro) (LocG.yes rfl rfl (by decide) g1 (loc_eql (by decide) (by exact True.intro) (by exact True.intro))) nofree ?_
    refine RunS.step (by exact And.intro rfl (And.intro rfl True.intro)) (by exact True.intro) (LocG.of rfl (loc_pick (z := .tmp 15) (by decide) (by rw [g1]; rfl) (by exact True.intro) (by exact True.intro) (by exact Cp.sc))) nofree ?_
    refine RunS.step (by exact And.intro rfl True.intro) (by exact True.intro) (LocG.of rfl (loc_copy (.inl rfl) (by decide) (by exact Cp.sc))) nofree ?_
    refine RunS.cases (s := 17) rfl (fun g2 => ?_) (fun g2 => ?_)
    · have sg2 := g2
      try simp only [decide_eq_true_eq, decide_eq_false_iff_not, bne_iff_ne, beq_iff_eq, Bool.not_eq_true', Bool.not_eq_false', ne_eq, bne_eq_false_iff_eq, beq_eq_false_iff_ne] at sg2
      refine RunS.step (by exact And.intro rfl (And.intro rfl True.intro)) (by exact True.intro) (LocG.yes rfl rfl (by decide) g2 (loc_field (by decide) fd_56_2)) nofree ?_
      refine RunS.step (by exact And.intro rfl (And.intro rfl True.intro)) (by exact And.intro rfl True.intro) (LocG.yes rfl rfl (by decide) g2 (loc_load (qs := [PV.sl .v _]) (by decide) ty_54 (fun _ => rfl) (by exact Nat.le_of_ble_eq_true rfl) (by exact (ToL.cons PV.to_none ToL.nil)) (by exact (BorL.cons (PV.bor_sl _) BorL.nil)))) nofree ?_
      refine RunS.step (by exact And.intro rfl (And.intro rfl True.intro)) (by exact True.intro) (LocG.yes rfl rfl (by decide) g2 (loc_field (by decide) fd_56_2)) nofree ?_
      refine RunS.step (by exact And.intro rfl (And.intro rfl True.intro)) (by exact And.intro rfl True.intro) (LocG.yes rfl rfl (by decide) g2 (loc_load (qs := [PV.sl .v _]) (by decide) ty_54 (fun _ => rfl) (by exact Nat.le_of_ble_eq_true rfl) (by exact (ToL.cons PV.to_none ToL.nil)) (by exact (BorL.cons (PV.bor_sl _) BorL.nil)))) nofree ?_
      refine RunS.step (by exact And.intro rfl (And.intro rfl (And.intro rfl True.intro))) (by exact True.intro) (LocG.yes rfl rfl (by decide) g2 (loc_call (qs := [(false, [PV.sl _ _]), (false, [PV.sl _ _])]) (as_ := [(false, [PV.sl .v _]), (false, [PV.sl .v _])]) (by decide) c_165 (by exact (And.intro (by exact True.intro) (And.intro (by exact True.intro) True.intro))) (by exact (And.intro (And.intro rfl (ToL.cons PV.to_none ToL.nil)) (And.intro (And.intro rfl (ToL.cons PV.to_none ToL.nil)) True.intro))) (by exact eqs_Cond))) nofree ?_
      refine RunS.step (by exact And.intro rfl (And.intro rfl True.intro)) (by exact True.intro) (LocG.of rfl (loc_pick (z := .tmp 22) (by decide) (by rw [g2]; rfl) (by exact True.intro) (by exact True.intro) (by exact Cp.sc))) nofree ?_
      refine RunS.step (by exact And.intro rfl True.intro) (by exact True.intro) (LocG.of rfl (loc_copy (.inl rfl) (by decide) (by exact Cp.sc))) nofree ?_
      refine RunS.cases (s := 24) rfl (fun g3 => ?_) (fun g3 => ?_)
      · have sg3 := g3
        try simp only [decide_eq_true_eq, decide_eq_false_iff_not, bne_iff_ne, beq_iff_eq, Bool.not_eq_true', Bool.not_eq_false', ne_eq, bne_eq_false_iff_eq, beq_eq_false_iff_ne] at sg3
        refine RunS.step (by exact And.intro rfl (And.intro rfl True.intro)) (by exact True.intro) (LocG.yes rfl rfl (by decide) g3 (loc_field (by decide) fd_56_3)) nofree ?_
        refine RunS.step (by exact And.intro rfl (And.intro rfl True.intro)) (by exact And.intro rfl True.intro) (LocG.yes rfl rfl (by decide) g3 (loc_load (qs := [PV.sl .v _]) (by decide) ty_23 (fun _ => rfl) (by exact Nat.le_of_ble_eq_true rfl) (by exact (ToL.cons PV.to_none ToL.nil)) (by exact (BorL.cons (PV.bor_sl _) BorL.nil)))) nofree ?_
        refine RunS.step (by exact And.intro rfl (And.intro rfl True.intro)) (by exact True.intro) (LocG.yes rfl rfl (by decide) g3 (loc_field (by decide) fd_56_3)) nofree ?_
        refine RunS.step (by exact And.intro rfl (And.intro rfl True.intro)) (by exact And.intro rfl True.intro) (LocG.yes rfl rfl (by decide) g3 (loc_load (qs := [PV.sl .v _]) (by decide) ty_23 (fun _ => rfl) (by exact Nat.le_of_ble_eq_true rfl) (by exact (ToL.cons PV.to_none ToL.nil)) (by exact (BorL.cons (PV.bor_sl _) BorL.nil)))) nofree ?_
        refine RunS.step (by exact And.intro rfl (And.intro rfl (And.intro rfl True.intro))) (by exact True.intro) (LocG.yes rfl rfl (by decide) g3 (loc_call (qs := [(false, [PV.sl _ _]), (false, [PV.sl _ _])]) (as_ := [(false, [PV.sl .v _]), (false, [PV.sl .v _])]) (by decide) c_119 (by exact (And.intro (by exact True.intro) (And.intro (by exact True.intro) True.intro))) (by exact (And.intro (And.intro rfl (ToL.cons PV.to_none ToL.nil)) (And.intro (And.intro rfl (ToL.cons PV.to_none ToL.nil)) True.intro))) (by exact impl_sameInts))) nofree ?_
        refine RunS.step (by exact And.intro rfl (And.intro rfl True.intro)) (by exact True.intro) (LocG.of rfl (loc_pick (z := .tmp 29) (by decide) (by rw [g3]; rfl) (by exact True.intro) (by exact True.intro) (by exact Cp.sc))) nofree ?_
        refine RunS.step (by exact And.intro rfl True.intro) (by exact True.intro) (LocG.of rfl (loc_copy (.inr rfl) (by decide) (by exact Cp.sc))) nofree ?_
        refine sw_ret ?_
        exact (And.intro (by refine bool_eq ?_; rw [Bool.eq_iff_iff]; simp only [deq_iff, ext_Query_iff]; simp_all [deq_iff, deq_no]) True.intro)
      · have sg3 := g3
        try simp only [decide_eq_true_eq, decide_eq_false_iff_not, bne_iff_ne, beq_iff_eq, Bool.not_eq_true', Bool.not_eq_false', ne_eq, bne_eq_false_iff_eq, beq_eq_false_iff_ne] at sg3
        refine RunS.step (by exact And.intro rfl True.intro) (by exact True.intro) (LocG.no (ops := _) rfl rfl (by decide) g3 rfl) nofree ?_
        refine RunS.step (by exact And.intro rfl True.intro) (by exact True.intro) (LocG.no (ops := _) rfl rfl (by decide) g3 rfl) nofree ?_
        refine RunS.step (by exact And.intro rfl True.intro) (by exact True.intro) (LocG.no (ops := _) rfl rfl (by decide) g3 rfl) nofree ?_
        refine RunS.step (by exact And.intro rfl True.intro) (by exact True.intro) (LocG.no (ops := _) rfl rfl (by decide) g3 rfl) nofree ?_
        refine RunS.step (by exact And.intro rfl True.intro) (by exact True.intro) (LocG.no (ops := _) rfl rfl (by decide) g3 rfl) nofree ?_
        refine RunS.step (by exact And.intro rfl True.intro) (by exact True.intro) (LocG.of rfl (loc_pick (z := .const (.bool false)) (by decide) (by rw [g3]; rfl) (by exact True.intro) (ok_sc rfl) (by exact Cp.sc))) nofree ?_
        refine RunS.step (by exact And.intro rfl True.intro) (by exact True.intro) (LocG.of rfl (loc_copy (.inr rfl) (by decide) (by exact Cp.sc))) nofree ?_
        refine sw_ret ?_
        exact (And.intro (by refine bool_eq ?_; rw [Bool.eq_iff_iff]; simp only [deq_iff, ext_Query_iff]; simp_all [deq_iff, deq_no]) True.intro)
    · have sg2 := g2
      try simp only [decide_eq_true_eq, decide_eq_false_iff_not, bne_iff_ne, beq_iff_eq, Bool.not_eq_true', Bool.not_eq_false', ne_eq, bne_eq_false_iff_eq, beq_eq_false_iff_ne] at sg2
      refine RunS.step (by exact And.intro rfl True.intro) (by exact True.intro) (LocG.no (ops := _) rfl rfl (by decide) g2 rfl) nofree ?_
      refine RunS.step (by exact And.intro rfl True.intro) (by exact True.intro) (LocG.no (ops := _) rfl rfl (by decide) g2 rfl) nofree ?_
      refine RunS.step (by exact And.intro rfl True.intro) (by exact True.intro) (LocG.no (ops := _) rfl rfl (by decide) g2 rfl) nofree ?_
      refine RunS.step (by exact And.intro rfl True.intro) (by exact True.intro) (LocG.no (ops := _) rfl rfl (by decide) g2 rfl) nofree ?_
      refine RunS.step (by exact And.intro rfl True.intro) (by exact True.intro) (LocG.no (ops := _) rfl rfl (by decide) g2 rfl) nofree ?_
      refine RunS.step (by exact And.intro rfl True.intro) (by exact True.intro) (LocG.of rfl (loc_pick (z := .const (.bool false)) (by decide) (by rw [g2]; rfl) (by exact True.intro) (ok_sc rfl) (by exact Cp.sc))) nofree ?_
      refine RunS.step (by exact And.intro rfl True.intro) (by exact True.intro) (LocG.of rfl (loc_copy (.inl rfl) (by decide) (by exact Cp.sc))) nofree ?_
      refine RunS.cases (s := 24) rfl (fun g4 => nomatch g4) (fun g4 => ?_)
      refine RunS.step (by exact And.intro rfl True.intro) (by exact True.intro) (LocG.no (ops := _) rfl rfl (by decide) g4 rfl) nofree ?_
      refine RunS.step (by exact And.intro rfl True.intro) (by exact True.intro) (LocG.no (ops := _) rfl rfl (by decide) g4 rfl) nofree ?_
      refine RunS.step (by exact And.intro rfl True.intro) (by exact True.intro) (LocG.no (ops := _) rfl rfl (by decide) g4 rfl) nofree ?_
      refine RunS.step (by exact And.intro rfl True.intro) (by exact True.intro) (LocG.no (ops := _) rfl rfl (by decide) g4 rfl) nofree ?_
      refine RunS.step (by exact And.intro rfl True.intro) (by exact True.intro) (LocG.no (ops := _) rfl rfl (by decide) g4 rfl) nofree ?_
      refine RunS.step (by exact And.intro rfl True.intro) (by exact True.intro) (LocG.of rfl (loc_pick (z := .const (.bool false)) (by decide) (by rw [g4]; rfl) (by exact True.intro) (ok_sc rfl) (by exact Cp.sc))) nofree ?_
      refine RunS.step (by exact And.intro rfl True.intro) (by exact True.intro) (LocG.of rfl (loc_copy (.inr rfl) (by decide) (by exact Cp.sc))) nofree ?_
      refine sw_ret ?_
      exact (And.intro (by refine bool_eq ?_; rw [Bool.eq_iff_iff]; simp only [deq_iff, ext_Query_iff]; simp_all [deq_iff, deq_no]) True.intro)
  · have sg1 := g1
    try simp only [decide_eq_true_eq, decide_eq_false_iff_not, bne_iff_ne, beq_iff_eq, Bool.not_eq_true', Bool.not_eq_false', ne_eq, bne_eq_false_iff_eq, beq_eq_false_iff_ne] at sg1
    refine RunS.step (by exact And.intro rfl True.intro) (by exact True.intro) (LocG.no (ops := _) rfl rfl (by decide) g1 rfl) nofree ?_
    refine RunS.step (by exact And.intro rfl True.intro) (by exact True.intro) (LocG.no (ops := _) rfl rfl (by decide) g1 rfl) nofree ?_
    refine RunS.step (by exact And.intro rfl True.intro) (by exact True.intro) (LocG.no (ops := _) rfl rfl (by decide) g1 rfl) nofree ?_
    refine RunS.step (by exact And.intro rfl True.intro) (by exact True.intro) (LocG.no (ops := _) rfl rfl (by decide) g1 rfl) nofree ?_
    refine RunS.step (by exact And.intro rfl True.intro) (by exact True.intro) (LocG.no (ops := _) rfl rfl (by decide) g1 rfl) nofree ?_
    refine RunS.step (by exact And.intro rfl True.intro) (by exact True.intro) (LocG.of rfl (loc_pick (z := .const (.bool false)) (by decide) (by rw [g1]; rfl) (by exact True.intro) (ok_sc rfl) (by exact Cp.sc))) nofree ?_
    refine RunS.step (by exact And.intro rfl True.intro) (by exact True.intro) (LocG.of rfl (loc_copy (.inl rfl) (by decide) (by exact Cp.sc))) nofree ?_
    refine RunS.cases (s := 17) rfl (fun g5 => nomatch g5) (fun g5 => ?_)
    refine RunS.step (by exact And.intro rfl True.intro) (by exact True.intro) (LocG.no (ops := _) rfl rfl (by decide) g5 rfl) nofree ?_
    refine RunS.step (by exact And.intro rfl True.intro) (by exact True.intro) (LocG.no (ops := _) rfl rfl (by decide) g5 rfl) nofree ?_
    refine RunS.step (by exact And.intro rfl True.intro) (by exact True.intro) (LocG.no (ops := _) rfl rfl (by decide) g5 rfl) nofree ?_
    refine RunS.step (by exact And.intro rfl True.intro) (by exact True.intro) (LocG.no (ops := _) rfl rfl (by decide) g5 rfl) nofree ?_
    refine RunS.step (by exact And.intro rfl True.intro) (by exact True.intro) (LocG.no (ops := _) rfl rfl (by decide) g5 rfl) nofree ?_
    refine RunS.step (by exact And.intro rfl True.intro) (by exact True.intro) (LocG.of rfl (loc_pick (z := .const (.bool false)) (by decide) (by rw [g5]; rfl) (by exact True.intro) (ok_sc rfl) (by exact Cp.sc))) nofree ?_
    refine RunS.step (by exact And.intro rfl True.intro) (by exact True.intro) (LocG.of rfl (loc_copy (.inl rfl) (by decide) (by exact Cp.sc))) nofree ?_
    refine RunS.cases (s := 24) rfl (fun g6 => nomatch g6) (fun g6 => ?_)
    refine RunS.step (by exact And.intro rfl True.intro) (by exact True.intro) (LocG.no (ops := _) rfl rfl (by decide) g6 rfl) nofree ?_
    refine RunS.step (by exact And.intro rfl True.intro) (by exact True.intro) (LocG.no (ops := _) rfl rfl (by decide) g6 rfl) nofree ?_
    refine RunS.step (by exact And.intro rfl True.intro) (by exact True.intro) (LocG.no (ops := _) rfl rfl (by decide) g6 rfl) nofree ?_
    refine RunS.step (by exact And.intro rfl True.intro) (by exact True.intro) (LocG.no (ops := _) rfl rfl (by decide) g6 rfl) nofree ?_
    refine RunS.step (by exact And.intro rfl True.intro) (by exact True.intro) (LocG.no (ops := _) rfl rfl (by decide) g6 rfl) nofree ?_
    refine RunS.step (by exact And.intro rfl True.intro) (by exact True.intro) (LocG.of rfl (loc_pick (z := .const (.bool false)) (by decide) (by rw [g6]; rfl) (by exact True.intro) (ok_sc rfl) (by exact Cp.sc))) nofree ?_
    refine RunS.step (by exact And.intro rfl True.intro) (by exact True.intro) (LocG.of rfl (loc_copy (.inr rfl) (by decide) (by exact Cp.sc))) nofree ?_
    refine sw_ret ?_
    exact (And.intro (by refine bool_eq ?_; rw [Bool.eq_iff_iff]; simp only [deq_iff, ext_Query_iff]; simp_all [deq_iff, deq_no]) True.intro)
theorem impl_equalUpdate {x : Update} {y : Update}  : SCall Try.prog 92 [(true, [PV.val (vI x.Kind), PV.val (vI x.Row.Id), PV.sl .v (x.Row.Values.map cInt), PV.val (vI x.Field), PV.val (vI x.Value)]), (true, [PV.val (vI y.Kind), PV.val (vI y.Row.Id), PV.sl .v (y.Row.Values.map cInt), PV.val (vI y.Field), PV.val (vI y.Value)])] (resRV [(false, [PV.val (.bool (deq x y))])]) := by
  refine scall_of (rs := [(false, [PV.val (.bool (deq x y))])]) Try.func92 rfl (Nat.le_of_ble_eq_true rfl) (borA_cons (BorL.cons (PV.bor_val _) (BorL.cons (PV.bor_val _) (BorL.cons (PV.bor_sl _) (BorL.cons (PV.bor_val _) (BorL.cons (PV.bor_val _) BorL.nil))))) (borA_cons (BorL.cons (PV.bor_val _) (BorL.cons (PV.bor_val _) (BorL.cons (PV.bor_sl _) (BorL.cons (PV.bor_val _) (BorL.cons (PV.bor_val _) BorL.nil))))) borA_nil)) ?_
  intro h0 w0 Fz0
  refine sw_slen (s := 0) (j := 2) rfl rfl fun hl0_2 => ?_
  try rw [List.length_map] at hl0_2
  refine sw_slen (s := 1) (j := 2) rfl rfl fun hl1_2 => ?_
  try rw [List.length_map] at hl1_2
  refine sw_seq ?_
  refine sw_reg ?_
  refine RunS.step (by exact And.intro rfl True.intro) (by exact True.intro) (LocG.of rfl (loc_box (ag := true) (cs := [PV.val _, PV.val _, PV.sl _ _, PV.val _, PV.val _]) (by decide) (by exact True.intro))) (free1 (Free.of_ rfl)) ?_
  refine RunS.step (by exact And.intro rfl True.intro) (by exact True.intro) (LocG.of rfl (loc_box (ag := true) (cs := [PV.val _, PV.val _, PV.sl _ _, PV.val _, PV.val _]) (by decide) (by exact True.intro))) (free1 (Free.app (Free.of_ rfl) rfl)) ?_
  refine RunS.step (by exact True.intro) (by exact True.intro) (LocG.of rfl (loc_const (.inr rfl) (by decide) (ok_sc rfl))) nofree ?_
  refine sw_seq ?_
  refine sw_of (l := [(2, RV.ptr 2 0), (3, RV.ptr 3 0), (4, RV.sv false [PV.val _])]) (b := [(2, (59, [PV.val _, PV.val _, PV.sl _ _, PV.val _, PV.val _])), (3, (59, [PV.val _, PV.val _, PV.sl _ _, PV.val _, PV.val _]))]) (by exact And.intro rfl (And.intro rfl (And.intro rfl True.intro))) (by exact And.intro rfl (And.intro rfl True.intro)) ?_
  refine sw_reg ?_
  refine RunS.step (by exact And.intro rfl True.intro) (by exact True.intro) (LocG.of rfl (loc_field (by decide) fd_59_0)) nofree ?_
  refine RunS.step (by exact And.intro rfl True.intro) (by exact And.intro rfl True.intro) (LocG.of rfl (loc_load (qs := [PV.val _]) (by decide) ty_3 (fun _ => rfl) (by exact Nat.le_of_ble_eq_true rfl) (by exact (ToL.cons (PV.To.refl _) ToL.nil)) (by exact (BorL.cons (PV.bor_val _) BorL.nil)))) nofree ?_
  refine RunS.step (by exact And.intro rfl True.intro) (by exact True.intro) (LocG.of rfl (loc_field (by decide) fd_59_0)) nofree ?_
  refine RunS.step (by exact And.intro rfl True.intro) (by exact And.intro rfl True.intro) (LocG.of rfl (loc_load (qs := [PV.val _]) (by decide) ty_3 (fun _ => rfl) (by exact Nat.le_of_ble_eq_true rfl) (by exact (ToL.cons (PV.To.refl _) ToL.nil)) (by exact (BorL.cons (PV.bor_val _) BorL.nil)))) nofree ?_
  refine RunS.step (by exact And.intro rfl (And.intro rfl True.intro)) (by exact True.intro) (LocG.of rfl (loc_eql (by decide) (by exact True.intro) (by exact True.intro))) nofree ?_
  refine RunS.step (by exact And.intro rfl True.intro) (by exact True.intro) (LocG.of rfl (loc_copy (.inl rfl) (by decide) (by exact Cp.sc))) nofree ?_
  refine RunS.cases (s := 10) rfl (fun g1 => ?_) (fun g1 => ?_)
  · have sg1 := g1
    try simp only [decide_eq_true_eq, decide_eq_false_iff_not, bne_iff_ne, beq_iff_eq, Bool.not_eq_true', Bool.not_eq_false', ne_eq, bne_eq_false_iff_eq, beq_eq_false_iff_ne] at sg1
    refine RunS.step (by exact And.intro rfl (And.intro rfl True.intro)) (by exact True.intro) (LocG.yes rfl rfl (by decide) g1 (loc_field (by decide) fd_59_1)) nofree ?_
    refine RunS.step (by exact And.intro rfl (And.intro rfl True.intro)) (by exact And.intro rfl True.intro) (LocG.yes rfl rfl (by decide) g1 (loc_load (qs := [PV.val _, PV.sl .v _]) (by decide) ty_57 (fun h => nomatch h) (by exact Nat.le_of_ble_eq_true rfl) (by exact (ToL.cons (PV.To.refl _) (ToL.cons PV.to_none ToL.nil))) (by exact (BorL.cons (PV.bor_val _) (BorL.cons (PV.bor_sl _) BorL.nil))))) nofree ?_
    refine RunS.step (by exact And.intro rfl (And.intro rfl True.intro)) (by exact True.intro) (LocG.yes rfl rfl (by decide) g1 (loc_field (by decide) fd_59_1)) nofree ?_
    refine RunS.step (by exact And.intro rfl (And.intro rfl True.intro)) (by exact And.intro rfl True.intro) (LocG.yes rfl rfl (by decide) g1 (loc_load (qs := [PV.val _, PV.sl .v _]) (by decide) ty_57 (fun h => nomatch h) (by exact Nat.le_of_ble_eq_true rfl) (by exact (ToL.cons (PV.To.refl _) (ToL.cons PV.to_none ToL.nil))) (by exact (BorL.cons (PV.bor_val _) (BorL.cons (PV.bor_sl _) BorL.nil))))) nofree ?_
    refine RunS.step (by exact And.intro rfl (And.intro rfl (And.intro rfl True.intro))) (by exact True.intro) (LocG.yes rfl rfl (by decide) g1 (loc_call (qs := [(true, [PV.val _, PV.sl _ _]), (true, [PV.val _, PV.sl _ _])]) (as_ := [(true, [PV.val _, PV.sl .v _]), (true, [PV.val _, PV.sl .v _])]) (by decide) c_166 (by exact (And.intro (by exact True.intro) (And.intro (by exact True.intro) True.intro))) (by exact (And.intro (And.intro rfl (ToL.cons (PV.To.refl _) (ToL.cons PV.to_none ToL.nil))) (And.intro (And.intro rfl (ToL.cons (PV.To.refl _) (ToL.cons PV.to_none ToL.nil))) True.intro))) (by exact impl_equalRow))) nofree ?_
    refine RunS.step (by exact And.intro rfl (And.intro rfl True.intro)) (by exact True.intro) (LocG.of rfl (loc_pick (z := .tmp 15) (by decide) (by rw [g1]; rfl) (by exact True.intro) (by exact True.intro) (by exact Cp.sc))) nofree ?_
    refine RunS.step (by exact And.intro rfl True.intro) (by exact True.intro) (LocG.of rfl (loc_copy (.inl rfl) (by decide) (by exact Cp.sc))) nofree ?_
    refine RunS.cases (s := 17) rfl (fun g2 => ?_) (fun g2 => ?_)
    · have sg2 := g2
      try simp only [decide_eq_true_eq, decide_eq_false_iff_not, bne_iff_ne, beq_iff_eq, Bool.not_eq_true', Bool.not_eq_false', ne_eq, bne_eq_false_iff_eq, beq_eq_false_iff_ne] at sg2
      refine RunS.step (by exact And.intro rfl (And.intro rfl True.intro)) (by exact True.intro) (LocG.yes rfl rfl (by decide) g2 (loc_field (by decide) fd_59_2)) nofree ?_
      refine RunS.step (by exact And.intro rfl (And.intro rfl True.intro)) (by exact And.intro rfl True.intro) (LocG.yes rfl rfl (by decide) g2 (loc_load (qs := [PV.val _]) (by decide) ty_3 (fun _ => rfl) (by exact Nat.le_of_ble_eq_true rfl) (by exact (ToL.cons (PV.To.refl _) ToL.nil)) (by exact (BorL.cons (PV.bor_val _) BorL.nil)))) nofree ?_
      refine RunS.step (by exact And.intro rfl (And.intro rfl True.intro)) (by exact True.intro) (LocG.yes rfl rfl (by decide) g2 (loc_field (by decide) fd_59_2)) nofree ?_
      refine RunS.step (by exact And.intro rfl (And.intro rfl True.intro)) (by exact And.intro rfl True.intro) (LocG.yes rfl rfl (by decide) g2 (loc_load (qs := [PV.val _]) (by decide) ty_3 (fun _ => rfl) (by exact Nat.le_of_ble_eq_true rfl) (by exact (ToL.cons (PV.To.refl _) ToL.nil)) (by exact (BorL.cons (PV.bor_val _) BorL.nil)))) nofree ?_
      refine RunS.step (by exact And.intro rfl (And.intro rfl (And.intro rfl True.intro))) (by exact True.intro) (LocG.yes rfl rfl (by decide) g2 (loc_eql (by decide) (by exact True.intro) (by exact True.intro))) nofree ?_
      refine RunS.step (by exact And.intro rfl (And.intro rfl True.intro)) (by exact True.intro) (LocG.of rfl (loc_pick (z := .tmp 22) (by decide) (by rw [g2]; rfl) (by exact True.intro) (by exact True.intro) (by exact Cp.sc))) nofree ?_
      refine RunS.step (by exact And.intro rfl True.intro) (by exact True.intro) (LocG.of rfl (loc_copy (.inl rfl) (by decide) (by exact Cp.sc))) nofree ?_
      refine RunS.cases (s := 24) rfl (fun g3 => ?_) (fun g3 => ?_)
      · have sg3 := g3
        try simp only [decide_eq_true_eq, decide_eq_false_iff_not, bne_iff_ne, beq_iff_eq, Bool.not_eq_true', Bool.not_eq_false', ne_eq, bne_eq_false_iff_eq, beq_eq_false_iff_ne] at sg3
        refine RunS.step (by exact And.intro rfl (And.intro rfl True.intro)) (by exact True.intro) (LocG.yes rfl rfl (by decide) g3 (loc_field (by decide) fd_59_3)) nofree ?_
        refine RunS.step (by exact And.intro rfl (And.intro rfl True.intro)) (by exact And.intro rfl True.intro) (LocG.yes rfl rfl (by decide) g3 (loc_load (qs := [PV.val _]) (by decide) ty_3 (fun _ => rfl) (by exact Nat.le_of_ble_eq_true rfl) (by exact (ToL.cons (PV.To.refl _) ToL.nil)) (by exact (BorL.cons (PV.bor_val _) BorL.nil)))) nofree ?_
        refine RunS.step (by exact And.intro rfl (And.intro rfl True.intro)) (by exact True.intro) (LocG.yes rfl rfl (by decide) g3 (loc_field (by decide) fd_59_3)) nofree ?_
        refine RunS.step (by exact And.intro rfl (And.intro rfl True.intro)) (by exact And.intro rfl True.intro) (LocG.yes rfl rfl (by decide) g3 (loc_load (qs := [PV.val _]) (by decide) ty_3 (fun _ => rfl) (by exact Nat.le_of_ble_eq_true rfl) (by exact (ToL.cons (PV.To.refl _) ToL.nil)) (by exact (BorL.cons (PV.bor_val _) BorL.nil)))) nofree ?_
        refine RunS.step (by exact And.intro rfl (And.intro rfl (And.intro rfl True.intro))) (by exact True.intro) (LocG.yes rfl rfl (by decide) g3 (loc_eql (by decide) (by exact True.intro) (by exact True.intro))) nofree ?_
        refine RunS.step (by exact And.intro rfl (And.intro rfl True.intro)) (by exact True.intro) (LocG.of rfl (loc_pick (z := .tmp 29) (by decide) (by rw [g3]; rfl) (by exact True.intro) (by exact True.intro) (by exact Cp.sc))) nofree ?_
        refine RunS.step (by exact And.intro rfl True.intro) (by exact True.intro) (LocG.of rfl (loc_copy (.inr rfl) (by decide) (by exact Cp.sc))) nofree ?_
        refine sw_ret ?_
        exact (And.intro (by refine bool_eq ?_; rw [Bool.eq_iff_iff]; simp only [deq_iff, ext_Update_iff]; simp_all [deq_iff, deq_no]) True.intro)
      · have sg3 := g3
        try simp only [decide_eq_true_eq, decide_eq_false_iff_not, bne_iff_ne, beq_iff_eq, Bool.not_eq_true', Bool.not_eq_false', ne_eq, bne_eq_false_iff_eq, beq_eq_false_iff_ne] at sg3
        refine RunS.step (by exact And.intro rfl True.intro) (by exact True.intro) (LocG.no (ops := _) rfl rfl (by decide) g3 rfl) nofree ?_
        refine RunS.step (by exact And.intro rfl True.intro) (by exact True.intro) (LocG.no (ops := _) rfl rfl (by decide) g3 rfl) nofree ?_
        refine RunS.step (by exact And.intro rfl True.intro) (by exact True.intro) (LocG.no (ops := _) rfl rfl (by decide) g3 rfl) nofree ?_
        refine RunS.step (by exact And.intro rfl True.intro) (by exact True.intro) (LocG.no (ops := _) rfl rfl (by decide) g3 rfl) nofree ?_
        refine RunS.step (by exact And.intro rfl True.intro) (by exact True.intro) (LocG.no (ops := _) rfl rfl (by decide) g3 rfl) nofree ?_
        refine RunS.step (by exact And.intro rfl True.intro) (by exact True.intro) (LocG.of rfl (loc_pick (z := .const (.bool false)) (by decide) (by rw [g3]; rfl) (by exact True.intro) (ok_sc rfl) (by exact Cp.sc))) nofree ?_
        refine RunS.step (by exact And.intro rfl True.intro) (by exact True.intro) (LocG.of rfl (loc_copy (.inr rfl) (by decide) (by exact Cp.sc))) nofree ?_
        refine sw_ret ?_
        exact (And.intro (by refine bool_eq ?_; rw [Bool.eq_iff_iff]; simp only [deq_iff, ext_Update_iff]; simp_all [deq_iff, deq_no]) True.intro)
    · have sg2 := g2
      try simp only [decide_eq_true_eq, decide_eq_false_iff_not, bne_iff_ne, beq_iff_eq, Bool.not_eq_true', Bool.not_eq_false', ne_eq, bne_eq_false_iff_eq, beq_eq_false_iff_ne] at sg2
      refine RunS.step (by exact And.intro rfl True.intro) (by exact True.intro) (LocG.no (ops := _) rfl rfl (by decide) g2 rfl) nofree ?_
      refine RunS.step (by exact And.intro rfl True.intro) (by exact True.intro) (LocG.no (ops := _) rfl rfl (by decide) g2 rfl) nofree ?_
      refine RunS.step (by exact And.intro rfl True.intro) (by exact True.intro) (LocG.no (ops := _) rfl rfl (by decide) g2 rfl) nofree ?_
      refine RunS.step (by exact And.intro rfl True.intro) (by exact True.intro) (LocG.no (ops := _) rfl rfl (by decide) g2 rfl) nofree ?_
      refine RunS.step (by exact And.intro rfl True.intro) (by exact True.intro) (LocG.no (ops := _) rfl rfl (by decide) g2 rfl) nofree ?_
      refine RunS.step (by exact And.intro rfl True.intro) (by exact True.intro) (LocG.of rfl (loc_pick (z := .const (.bool false)) (by decide) (by rw [g2]; rfl) (by exact True.intro) (ok_sc rfl) (by exact Cp.sc))) nofree ?_
      refine RunS.step (by exact And.intro rfl True.intro) (by exact True.intro) (LocG.of rfl (loc_copy (.inl rfl) (by decide) (by exact Cp.sc))) nofree ?_
      refine RunS.cases (s := 24) rfl (fun g4 => nomatch g4) (fun g4 => ?_)
      refine RunS.step (by exact And.intro rfl True.intro) (by exact True.intro) (LocG.no (ops := _) rfl rfl (by decide) g4 rfl) nofree ?_
      refine RunS.step (by exact And.intro rfl True.intro) (by exact True.intro) (LocG.no (ops := _) rfl rfl (by decide) g4 rfl) nofree ?_
      refine RunS.step (by exact And.intro rfl True.intro) (by exact True.intro) (LocG.no (ops := _) rfl rfl (by decide) g4 rfl) nofree ?_
      refine RunS.step (by exact And.intro rfl True.intro) (by exact True.intro) (LocG.no (ops := _) rfl rfl (by decide) g4 rfl) nofree ?_
      refine RunS.step (by exact And.intro rfl True.intro) (by exact True.intro) (LocG.no (ops := _) rfl rfl (by decide) g4 rfl) nofree ?_
      refine RunS.step (by exact And.intro rfl True.intro) (by exact True.intro) (LocG.of rfl (loc_pick (z := .const (.bool false)) (by decide) (by rw [g4]; rfl) (by exact True.intro) (ok_sc rfl) (by exact Cp.sc))) nofree ?_
      refine RunS.step (by exact And.intro rfl True.intro) (by exact True.intro) (LocG.of rfl (loc_copy (.inr rfl) (by decide) (by exact Cp.sc))) nofree ?_
      refine sw_ret ?_
      exact (And.intro (by refine bool_eq ?_; rw [Bool.eq_iff_iff]; simp only [deq_iff, ext_Update_iff]; simp_all [deq_iff, deq_no]) True.intro)
  · have sg1 := g1
    try simp only [decide_eq_true_eq, decide_eq_false_iff_not, bne_iff_ne, beq_iff_eq, Bool.not_eq_true', Bool.not_eq_false', ne_eq, bne_eq_false_iff_eq, beq_eq_false_iff_ne] at sg1
    refine RunS.step (by exact And.intro rfl True.intro) (by exact True.intro) (LocG.no (ops := _) rfl rfl (by decide) g1 rfl) nofree ?_
    refine RunS.step (by exact And.intro rfl True.intro) (by exact True.intro) (LocG.no (ops := _) rfl rfl (by decide) g1 rfl) nofree ?_
    refine RunS.step (by exact And.intro rfl True.intro) (by exact True.intro) (LocG.no (ops := _) rfl rfl (by decide) g1 rfl) nofree ?_
    refine RunS.step (by exact And.intro rfl True.intro) (by exact True.intro) (LocG.no (ops := _) rfl rfl (by decide) g1 rfl) nofree ?_
    refine RunS.step (by exact And.intro rfl True.intro) (by exact True.intro) (LocG.no (ops := _) rfl rfl (by decide) g1 rfl) nofree ?_
    refine RunS.step (by exact And.intro rfl True.intro) (by exact True.intro) (LocG.of rfl (loc_pick (z := .const (.bool false)) (by decide) (by rw [g1]; rfl) (by exact True.intro) (ok_sc rfl) (by exact Cp.sc))) nofree ?_
    refine RunS.step (by exact And.intro rfl True.intro) (by exact True.intro) (LocG.of rfl (loc_copy (.inl rfl) (by decide) (by exact Cp.sc))) nofree ?_
    refine RunS.cases (s := 17) rfl (fun g5 => nomatch g5) (fun g5 => ?_)
    refine RunS.step (by exact And.intro rfl True.intro) (by exact True.intro) (LocG.no (ops := _) rfl rfl (by decide) g5 rfl) nofree ?_
    refine RunS.step (by exact And.intro rfl True.intro) (by exact True.intro) (LocG.no (ops := _) rfl rfl (by decide) g5 rfl) nofree ?_
    refine RunS.step (by exact And.intro rfl True.intro) (by exact True.intro) (LocG.no (ops := _) rfl rfl (by decide) g5 rfl) nofree ?_
    refine RunS.step (by exact And.intro rfl True.intro) (by exact True.intro) (LocG.no (ops := _) rfl rfl (by decide) g5 rfl) nofree ?_
    refine RunS.step (by exact And.intro rfl True.intro) (by exact True.intro) (LocG.no (ops := _) rfl rfl (by decide) g5 rfl) nofree ?_
    refine RunS.step (by exact And.intro rfl True.intro) (by exact True.intro) (LocG.of rfl (loc_pick (z := .const (.bool false)) (by decide) (by rw [g5]; rfl) (by exact True.intro) (ok_sc rfl) (by exact Cp.sc))) nofree ?_
    refine RunS.step (by exact And.intro rfl True.intro) (by exact True.intro) (LocG.of rfl (loc_copy (.inl rfl) (by decide) (by exact Cp.sc))) nofree ?_
    refine RunS.cases (s := 24) rfl (fun g6 => nomatch g6) (fun g6 => ?_)
    refine RunS.step (by exact And.intro rfl True.intro) (by exact True.intro) (LocG.no (ops := _) rfl rfl (by decide) g6 rfl) nofree ?_
    refine RunS.step (by exact And.intro rfl True.intro) (by exact True.intro) (LocG.no (ops := _) rfl rfl (by decide) g6 rfl) nofree ?_
    refine RunS.step (by exact And.intro rfl True.intro) (by exact True.intro) (LocG.no (ops := _) rfl rfl (by decide) g6 rfl) nofree ?_
    refine RunS.step (by exact And.intro rfl True.intro) (by exact True.intro) (LocG.no (ops := _) rfl rfl (by decide) g6 rfl) nofree ?_
    refine RunS.step (by exact And.intro rfl True.intro) (by exact True.intro) (LocG.no (ops := _) rfl rfl (by decide) g6 rfl) nofree ?_
    refine RunS.step (by exact And.intro rfl True.intro) (by exact True.intro) (LocG.of rfl (loc_pick (z := .const (.bool false)) (by decide) (by rw [g6]; rfl) (by exact True.intro) (ok_sc rfl) (by exact Cp.sc))) nofree ?_
    refine RunS.step (by exact And.intro rfl True.intro) (by exact True.intro) (LocG.of rfl (loc_copy (.inr rfl) (by decide) (by exact Cp.sc))) nofree ?_
    refine sw_ret ?_
    exact (And.intro (by refine bool_eq ?_; rw [Bool.eq_iff_iff]; simp only [deq_iff, ext_Update_iff]; simp_all [deq_iff, deq_no]) True.intro)
end Go.Proofs.Ytcfbekjiiokcbaa
