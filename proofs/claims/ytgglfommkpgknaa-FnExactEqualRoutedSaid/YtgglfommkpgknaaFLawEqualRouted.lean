/- What functions of the program compute. No condition. -/
import Derived.Test.YtgglfommkpgknaaFTo
import Derived.Test.YtgglfommkpgknaaFEq
import Derived.Test.YtgglfommkpgknaaFGen2
set_option linter.unusedVariables false
set_option linter.unusedSimpArgs false
namespace Go.Proofs.Ytgglfommkpgknaa
open Go Go.RowKit M
set_option maxRecDepth 10000
theorem law_EqualRouted {p1 p2 p4 p5 : Option (Nat × Nat)} {aA : List Routed} {aB : List Routed}  : SCall Try.prog 6 [(false, [PV.sl none (aA.map (cRouted p1 p2))]), (false, [PV.sl none (aB.map (cRouted p4 p5))])] (resRV [(false, [PV.val (.bool true)])]) := by
  refine scall_of (rs := [(false, [PV.val (.bool true)])]) Try.func6 rfl (Nat.le_of_ble_eq_true rfl) (borA_cons (BorL.cons (PV.bor_sl _) BorL.nil) (borA_cons (BorL.cons (PV.bor_sl _) BorL.nil) borA_nil)) ?_
  intro h0 w0 Fz0
  refine sw_len (s := 0) rfl fun hl0 => ?_
  try rw [List.length_map] at hl0
  refine sw_len (s := 1) rfl fun hl1 => ?_
  try rw [List.length_map] at hl1
  refine sw_seq ?_
  refine sw_reg ?_
  refine RunS.step (by exact True.intro) (by exact True.intro) (LocG.of rfl (loc_const (.inr rfl) (by decide) (ok_sc rfl))) nofree ?_
  refine sw_seq ?_
  refine sw_of (l := [(0, RV.sv false [PV.sl _ _]), (1, RV.sv false [PV.sl _ _]), (4, RV.sv false [PV.val _])]) (b := []) (by exact And.intro rfl (And.intro rfl (And.intro rfl True.intro))) (by exact True.intro) ?_
  refine sw_reg ?_
  refine RunS.step (by exact True.intro) (by exact True.intro) (LocG.of rfl (loc_const (.inr rfl) (by decide) (ok_sc rfl))) nofree ?_
  refine sw_seq ?_
  refine sw_of (l := [(0, RV.sv false [PV.sl _ _]), (1, RV.sv false [PV.sl _ _]), (4, RV.sv false [PV.val _]), (5, RV.sv false [PV.val _])]) (b := []) (by exact And.intro rfl (And.intro rfl (And.intro rfl (And.intro rfl True.intro)))) (by exact True.intro) ?_
  refine sw_reg ?_
  refine RunS.step (by exact And.intro rfl True.intro) (by exact True.intro) (LocG.of rfl (loc_copy (r' := RV.sv false [PV.sl none _]) (.inl rfl) (by decide) (by exact Cp.sv (ToL.cons PV.to_none ToL.nil) (BorL.cons (PV.bor_sl _) BorL.nil)))) nofree ?_
  refine RunS.step (by exact And.intro rfl True.intro) (by exact True.intro) (LocG.of rfl (loc_copy (.inl rfl) (by decide) (by exact Cp.sc))) nofree ?_
  refine RunS.step (by exact And.intro rfl (And.intro rfl True.intro)) (by exact True.intro) (LocG.of rfl (loc_call (qs := [(false, [PV.sl _ _]), (false, [PV.val _])]) (as_ := [(false, [PV.sl none _]), (false, [PV.val _])]) (by decide) c_29 (by exact (And.intro (by exact True.intro) (And.intro (by exact True.intro) True.intro))) (by exact (And.intro (And.intro rfl (ToL.cons PV.to_none ToL.nil)) (And.intro (And.intro rfl (ToL.cons (PV.To.refl _) ToL.nil)) True.intro))) (by exact sz_RoutedS (by omega) (by omega)))) nofree ?_
  refine RunS.step (by exact And.intro rfl True.intro) (by exact True.intro) (LocG.of rfl (loc_copy (.inr rfl) (by decide) (by exact Cp.sc))) nofree ?_
  refine sw_seq ?_
  refine sw_seq ?_
  refine sw_of (l := [(0, RV.sv false [PV.sl _ _]), (1, RV.sv false [PV.sl _ _]), (4, RV.sv false [PV.val _]), (5, RV.sv false [PV.val _])]) (b := []) (by exact And.intro rfl (And.intro rfl (And.intro rfl (And.intro rfl True.intro)))) (by exact True.intro) ?_
  refine sw_reg ?_
  refine RunS.step (by exact And.intro rfl True.intro) (by exact True.intro) (LocG.of rfl (loc_copy (.inl rfl) (by decide) (by exact Cp.sc))) nofree ?_
  refine RunS.step (by exact And.intro rfl True.intro) (by exact True.intro) (LocG.of rfl (loc_lss (by decide) (by exact True.intro) (ok_sc rfl))) nofree ?_
  refine sw_cond (t := 14) rfl (fun hb1 => ?_) (fun hb1 => ?_)
  · try simp only [decide_eq_true_eq, decide_eq_false_iff_not, bne_iff_ne, beq_iff_eq, Bool.not_eq_true', Bool.not_eq_false', ne_eq, bne_eq_false_iff_eq, beq_eq_false_iff_ne] at hb1
    refine sw_seq ?_
    refine sw_of (l := [(0, RV.sv false [PV.sl _ _]), (1, RV.sv false [PV.sl _ _]), (4, RV.sv false [PV.val _]), (5, RV.sv false [PV.val _])]) (b := []) (by exact And.intro rfl (And.intro rfl (And.intro rfl (And.intro rfl True.intro)))) (by exact True.intro) ?_
    refine sw_reg ?_
    refine RunS.step (by exact True.intro) (by exact True.intro) (LocG.of rfl (loc_const (.inr rfl) (by decide) (ok_sc rfl))) nofree ?_
    refine sw_ret ?_
    exact (And.intro (by exact rfl) True.intro)
  · try simp only [decide_eq_true_eq, decide_eq_false_iff_not, bne_iff_ne, beq_iff_eq, Bool.not_eq_true', Bool.not_eq_false', ne_eq, bne_eq_false_iff_eq, beq_eq_false_iff_ne] at hb1
    have hp0 := szR_pos (w := wtRoutedS aA) (l := 1048576) hb1
    have he0 := szR_yes hp0
    refine sw_skip ?_
    refine sw_seq ?_
    refine sw_of (l := [(0, RV.sv false [PV.sl _ _]), (1, RV.sv false [PV.sl _ _]), (4, RV.sv false [PV.val _]), (5, RV.sv false [PV.val _])]) (b := []) (by exact And.intro rfl (And.intro rfl (And.intro rfl (And.intro rfl True.intro)))) (by exact True.intro) ?_
    refine sw_reg ?_
    refine RunS.step (by exact And.intro rfl True.intro) (by exact True.intro) (LocG.of rfl (loc_copy (r' := RV.sv false [PV.sl none _]) (.inl rfl) (by decide) (by exact Cp.sv (ToL.cons PV.to_none ToL.nil) (BorL.cons (PV.bor_sl _) BorL.nil)))) nofree ?_
    refine RunS.step (by exact And.intro rfl True.intro) (by exact True.intro) (LocG.of rfl (loc_copy (.inl rfl) (by decide) (by exact Cp.sc))) nofree ?_
    refine RunS.step (by exact And.intro rfl (And.intro rfl True.intro)) (by exact True.intro) (LocG.of rfl (loc_call (qs := [(false, [PV.sl _ _]), (false, [PV.val _])]) (as_ := [(false, [PV.sl none _]), (false, [PV.val _])]) (by decide) c_29 (by exact (And.intro (by exact True.intro) (And.intro (by exact True.intro) True.intro))) (by exact (And.intro (And.intro rfl (ToL.cons PV.to_none ToL.nil)) (And.intro (And.intro rfl (ToL.cons (PV.To.refl _) ToL.nil)) True.intro))) (by exact sz_RoutedS (by omega) (by omega)))) nofree ?_
    refine RunS.step (by exact And.intro rfl True.intro) (by exact True.intro) (LocG.of rfl (loc_copy (.inr rfl) (by decide) (by exact Cp.sc))) nofree ?_
    refine sw_seq ?_
    refine sw_seq ?_
    refine sw_of (l := [(0, RV.sv false [PV.sl _ _]), (1, RV.sv false [PV.sl _ _]), (4, RV.sv false [PV.val _]), (5, RV.sv false [PV.val _])]) (b := []) (by exact And.intro rfl (And.intro rfl (And.intro rfl (And.intro rfl True.intro)))) (by exact True.intro) ?_
    refine sw_reg ?_
    refine RunS.step (by exact And.intro rfl True.intro) (by exact True.intro) (LocG.of rfl (loc_copy (.inl rfl) (by decide) (by exact Cp.sc))) nofree ?_
    refine RunS.step (by exact And.intro rfl True.intro) (by exact True.intro) (LocG.of rfl (loc_lss (by decide) (by exact True.intro) (ok_sc rfl))) nofree ?_
    refine sw_cond (t := 19) rfl (fun hb2 => ?_) (fun hb2 => ?_)
    · try simp only [decide_eq_true_eq, decide_eq_false_iff_not, bne_iff_ne, beq_iff_eq, Bool.not_eq_true', Bool.not_eq_false', ne_eq, bne_eq_false_iff_eq, beq_eq_false_iff_ne] at hb2
      refine sw_seq ?_
      refine sw_of (l := [(0, RV.sv false [PV.sl _ _]), (1, RV.sv false [PV.sl _ _]), (4, RV.sv false [PV.val _]), (5, RV.sv false [PV.val _])]) (b := []) (by exact And.intro rfl (And.intro rfl (And.intro rfl (And.intro rfl True.intro)))) (by exact True.intro) ?_
      refine sw_reg ?_
      refine RunS.step (by exact True.intro) (by exact True.intro) (LocG.of rfl (loc_const (.inr rfl) (by decide) (ok_sc rfl))) nofree ?_
      refine sw_ret ?_
      exact (And.intro (by exact rfl) True.intro)
    · try simp only [decide_eq_true_eq, decide_eq_false_iff_not, bne_iff_ne, beq_iff_eq, Bool.not_eq_true', Bool.not_eq_false', ne_eq, bne_eq_false_iff_eq, beq_eq_false_iff_ne] at hb2
      have hp1 := szR_pos (w := wtRoutedS aB) (l := (szR 1048576 (wtRoutedS aA))) hb2
      have he1 := szR_yes hp1
      refine sw_skip ?_
      refine sw_seq ?_
      refine sw_of (l := [(0, RV.sv false [PV.sl _ _]), (1, RV.sv false [PV.sl _ _]), (4, RV.sv false [PV.val _]), (5, RV.sv false [PV.val _])]) (b := []) (by exact And.intro rfl (And.intro rfl (And.intro rfl (And.intro rfl True.intro)))) (by exact True.intro) ?_
      refine sw_reg ?_
      refine RunS.step (by exact And.intro rfl True.intro) (by exact True.intro) (LocG.of rfl (loc_copy (r' := RV.sv false [PV.sl none _]) (.inl rfl) (by decide) (by exact Cp.sv (ToL.cons PV.to_none ToL.nil) (BorL.cons (PV.bor_sl _) BorL.nil)))) nofree ?_
      refine RunS.step (by exact And.intro rfl True.intro) (by exact True.intro) (LocG.of rfl (loc_call (qs := [(false, [PV.sl _ _])]) (as_ := [(false, [PV.sl none _])]) (by decide) c_31 (by exact (And.intro (by exact True.intro) True.intro)) (by exact (And.intro (And.intro rfl (ToL.cons PV.to_none ToL.nil)) True.intro)) (by exact to_RoutedS (by omega)))) nofree ?_
      refine RunS.step (by exact And.intro rfl True.intro) (by exact True.intro) (LocG.of rfl (loc_copy (r' := RV.sv false [PV.sl none _]) (.inl rfl) (by decide) (by exact Cp.sv (ToL.cons PV.to_none ToL.nil) (BorL.cons (PV.bor_sl _) BorL.nil)))) nofree ?_
      refine RunS.step (by exact And.intro rfl True.intro) (by exact True.intro) (LocG.of rfl (loc_call (qs := [(false, [PV.sl _ _])]) (as_ := [(false, [PV.sl none _])]) (by decide) c_31 (by exact (And.intro (by exact True.intro) True.intro)) (by exact (And.intro (And.intro rfl (ToL.cons PV.to_none ToL.nil)) True.intro)) (by exact to_RoutedS (by omega)))) nofree ?_
      refine RunS.step (by exact And.intro rfl (And.intro rfl True.intro)) (by exact True.intro) (LocG.of rfl (loc_call (qs := [(false, [PV.sl _ _]), (false, [PV.sl _ _])]) (as_ := [(false, [PV.sl none _]), (false, [PV.sl none _])]) (by decide) c_30 (by exact (And.intro (by exact True.intro) (And.intro (by exact True.intro) True.intro))) (by exact (And.intro (And.intro rfl (ToL.cons PV.to_none ToL.nil)) (And.intro (And.intro rfl (ToL.cons PV.to_none ToL.nil)) True.intro))) (by exact spec_EqualRouted))) nofree ?_
      refine RunS.step (by exact And.intro rfl True.intro) (by exact True.intro) (LocG.of rfl (loc_copy (.inr rfl) (by decide) (by exact Cp.sc))) nofree ?_
      refine sw_seq ?_
      refine sw_of (l := [(0, RV.sv false [PV.sl _ _]), (1, RV.sv false [PV.sl _ _]), (4, RV.sv false [PV.val _]), (5, RV.sv false [PV.val _]), (6, RV.sv false [PV.val _])]) (b := []) (by exact And.intro rfl (And.intro rfl (And.intro rfl (And.intro rfl (And.intro rfl True.intro))))) (by exact True.intro) ?_
      refine sw_reg ?_
      refine RunS.step (by exact And.intro rfl True.intro) (by exact True.intro) (LocG.of rfl (loc_copy (r' := RV.sv false [PV.sl none _]) (.inl rfl) (by decide) (by exact Cp.sv (ToL.cons PV.to_none ToL.nil) (BorL.cons (PV.bor_sl _) BorL.nil)))) nofree ?_
      refine RunS.step (by exact And.intro rfl True.intro) (by exact True.intro) (LocG.of rfl (loc_call (qs := [(false, [PV.sl _ _])]) (as_ := [(false, [PV.sl none _])]) (by decide) c_31 (by exact (And.intro (by exact True.intro) True.intro)) (by exact (And.intro (And.intro rfl (ToL.cons PV.to_none ToL.nil)) True.intro)) (by exact to_RoutedS (by omega)))) nofree ?_
      refine RunS.step (by exact And.intro rfl True.intro) (by exact True.intro) (LocG.of rfl (loc_take (.inr rfl) (by decide))) nofree ?_
      refine sw_seq ?_
      refine sw_of (l := [(0, RV.sv false [PV.sl _ _]), (1, RV.sv false [PV.sl _ _]), (4, RV.sv false [PV.val _]), (5, RV.sv false [PV.val _]), (6, RV.sv false [PV.val _]), (7, RV.sv false [PV.sl _ _])]) (b := []) (by exact And.intro rfl (And.intro rfl (And.intro rfl (And.intro rfl (And.intro rfl (And.intro rfl True.intro)))))) (by exact True.intro) ?_
      refine sw_reg ?_
      refine RunS.step (by exact And.intro rfl True.intro) (by exact True.intro) (LocG.of rfl (loc_copy (r' := RV.sv false [PV.sl none _]) (.inl rfl) (by decide) (by exact Cp.sv (ToL.cons PV.to_none ToL.nil) (BorL.cons (PV.bor_sl _) BorL.nil)))) nofree ?_
      refine RunS.step (by exact And.intro rfl True.intro) (by exact True.intro) (LocG.of rfl (loc_call (qs := [(false, [PV.sl _ _])]) (as_ := [(false, [PV.sl none _])]) (by decide) c_31 (by exact (And.intro (by exact True.intro) True.intro)) (by exact (And.intro (And.intro rfl (ToL.cons PV.to_none ToL.nil)) True.intro)) (by exact to_RoutedS (by omega)))) nofree ?_
      refine RunS.step (by exact And.intro rfl True.intro) (by exact True.intro) (LocG.of rfl (loc_take (.inr rfl) (by decide))) nofree ?_
      refine sw_seq ?_
      refine sw_of (l := [(0, RV.sv false [PV.sl _ _]), (1, RV.sv false [PV.sl _ _]), (4, RV.sv false [PV.val _]), (5, RV.sv false [PV.val _]), (6, RV.sv false [PV.val _]), (7, RV.sv false [PV.sl _ _]), (8, RV.sv false [PV.sl _ _])]) (b := []) (by exact And.intro rfl (And.intro rfl (And.intro rfl (And.intro rfl (And.intro rfl (And.intro rfl (And.intro rfl True.intro))))))) (by exact True.intro) ?_
      refine sw_reg ?_
      refine RunS.step (by exact And.intro rfl True.intro) (by exact True.intro) (LocG.of rfl (loc_copy (r' := RV.sv false [PV.sl none _]) (.inl rfl) (by decide) (by exact Cp.sv (ToL.cons PV.to_none ToL.nil) (BorL.cons (PV.bor_sl _) BorL.nil)))) nofree ?_
      refine RunS.step (by exact And.intro rfl True.intro) (by exact True.intro) (LocG.of rfl (loc_copy (r' := RV.sv false [PV.sl none _]) (.inl rfl) (by decide) (by exact Cp.sv (ToL.cons PV.to_none ToL.nil) (BorL.cons (PV.bor_sl _) BorL.nil)))) nofree ?_
      refine RunS.step (by exact And.intro rfl (And.intro rfl True.intro)) (by exact True.intro) (LocG.of rfl (loc_call (qs := [(false, [PV.sl _ _]), (false, [PV.sl _ _])]) (as_ := [(false, [PV.sl none _]), (false, [PV.sl none _])]) (by decide) c_32 (by exact (And.intro (by exact True.intro) (And.intro (by exact True.intro) True.intro))) (by exact (And.intro (And.intro rfl (ToL.cons PV.to_none ToL.nil)) (And.intro (And.intro rfl (ToL.cons PV.to_none ToL.nil)) True.intro))) (by exact impl_EqualRouted))) nofree ?_
      refine RunS.step (by exact And.intro rfl True.intro) (by exact True.intro) (LocG.of rfl (loc_copy (.inr rfl) (by decide) (by exact Cp.sc))) nofree ?_
      refine sw_seq ?_
      refine sw_seq ?_
      refine sw_of (l := [(0, RV.sv false [PV.sl _ _]), (1, RV.sv false [PV.sl _ _]), (4, RV.sv false [PV.val _]), (5, RV.sv false [PV.val _]), (6, RV.sv false [PV.val _]), (7, RV.sv false [PV.sl _ _]), (8, RV.sv false [PV.sl _ _]), (9, RV.sv false [PV.val _])]) (b := []) (by exact And.intro rfl (And.intro rfl (And.intro rfl (And.intro rfl (And.intro rfl (And.intro rfl (And.intro rfl (And.intro rfl True.intro)))))))) (by exact True.intro) ?_
      refine sw_reg ?_
      refine RunS.step (by exact And.intro rfl True.intro) (by exact True.intro) (LocG.of rfl (loc_copy (.inl rfl) (by decide) (by exact Cp.sc))) nofree ?_
      refine RunS.step (by exact And.intro rfl True.intro) (by exact True.intro) (LocG.of rfl (loc_copy (.inl rfl) (by decide) (by exact Cp.sc))) nofree ?_
      refine RunS.step (by exact And.intro rfl (And.intro rfl True.intro)) (by exact True.intro) (LocG.of rfl (loc_bneq (by decide) ub_4 (by exact True.intro) (by exact True.intro))) nofree ?_
      refine sw_cond (t := 34) rfl (fun hb3 => ?_) (fun hb3 => ?_)
      · try simp only [decide_eq_true_eq, decide_eq_false_iff_not, bne_iff_ne, beq_iff_eq, Bool.not_eq_true', Bool.not_eq_false', ne_eq, bne_eq_false_iff_eq, beq_eq_false_iff_ne] at hb3
        simp [deq_self] at hb3
      · try simp only [decide_eq_true_eq, decide_eq_false_iff_not, bne_iff_ne, beq_iff_eq, Bool.not_eq_true', Bool.not_eq_false', ne_eq, bne_eq_false_iff_eq, beq_eq_false_iff_ne] at hb3
        refine sw_skip ?_
        refine sw_seq ?_
        refine sw_seq ?_
        refine sw_of (l := [(0, RV.sv false [PV.sl _ _]), (1, RV.sv false [PV.sl _ _]), (4, RV.sv false [PV.val _]), (5, RV.sv false [PV.val _]), (6, RV.sv false [PV.val _]), (7, RV.sv false [PV.sl _ _]), (8, RV.sv false [PV.sl _ _]), (9, RV.sv false [PV.val _])]) (b := []) (by exact And.intro rfl (And.intro rfl (And.intro rfl (And.intro rfl (And.intro rfl (And.intro rfl (And.intro rfl (And.intro rfl True.intro)))))))) (by exact True.intro) ?_
        refine sw_reg ?_
        refine RunS.step (by exact And.intro rfl True.intro) (by exact True.intro) (LocG.of rfl (loc_copy (r' := RV.sv false [PV.sl none _]) (.inl rfl) (by decide) (by exact Cp.sv (ToL.cons PV.to_none ToL.nil) (BorL.cons (PV.bor_sl _) BorL.nil)))) nofree ?_
        refine RunS.step (by exact And.intro rfl True.intro) (by exact True.intro) (LocG.of rfl (loc_copy (r' := RV.sv false [PV.sl none _]) (.inl rfl) (by decide) (by exact Cp.sv (ToL.cons PV.to_none ToL.nil) (BorL.cons (PV.bor_sl _) BorL.nil)))) nofree ?_
        refine RunS.step (by exact And.intro rfl True.intro) (by exact True.intro) (LocG.of rfl (loc_call (qs := [(false, [PV.sl _ _])]) (as_ := [(false, [PV.sl none _])]) (by decide) c_31 (by exact (And.intro (by exact True.intro) True.intro)) (by exact (And.intro (And.intro rfl (ToL.cons PV.to_none ToL.nil)) True.intro)) (by exact to_RoutedS (by omega)))) nofree ?_
        refine RunS.step (by exact And.intro rfl (And.intro rfl True.intro)) (by exact True.intro) (LocG.of rfl (loc_call (qs := [(false, [PV.sl _ _]), (false, [PV.sl _ _])]) (as_ := [(false, [PV.sl none _]), (false, [PV.sl none _])]) (by decide) c_33 (by exact (And.intro (by exact True.intro) (And.intro (by exact True.intro) True.intro))) (by exact (And.intro (And.intro rfl (ToL.cons PV.to_none ToL.nil)) (And.intro (And.intro rfl (ToL.cons PV.to_none ToL.nil)) True.intro))) (by exact eq_RoutedS))) nofree ?_
        refine RunS.step (by exact And.intro rfl True.intro) (by exact True.intro) (LocG.of rfl (loc_not (by decide))) nofree ?_
        refine sw_cond (t := 39) rfl (fun hb4 => ?_) (fun hb4 => ?_)
        · try simp only [decide_eq_true_eq, decide_eq_false_iff_not, bne_iff_ne, beq_iff_eq, Bool.not_eq_true', Bool.not_eq_false', ne_eq, bne_eq_false_iff_eq, beq_eq_false_iff_ne] at hb4
          simp [deq_self] at hb4
        · try simp only [decide_eq_true_eq, decide_eq_false_iff_not, bne_iff_ne, beq_iff_eq, Bool.not_eq_true', Bool.not_eq_false', ne_eq, bne_eq_false_iff_eq, beq_eq_false_iff_ne] at hb4
          refine sw_skip ?_
          refine sw_seq ?_
          refine sw_seq ?_
          refine sw_of (l := [(0, RV.sv false [PV.sl _ _]), (1, RV.sv false [PV.sl _ _]), (4, RV.sv false [PV.val _]), (5, RV.sv false [PV.val _]), (6, RV.sv false [PV.val _]), (7, RV.sv false [PV.sl _ _]), (8, RV.sv false [PV.sl _ _]), (9, RV.sv false [PV.val _])]) (b := []) (by exact And.intro rfl (And.intro rfl (And.intro rfl (And.intro rfl (And.intro rfl (And.intro rfl (And.intro rfl (And.intro rfl True.intro)))))))) (by exact True.intro) ?_
          refine sw_reg ?_
          refine RunS.step (by exact And.intro rfl True.intro) (by exact True.intro) (LocG.of rfl (loc_copy (r' := RV.sv false [PV.sl none _]) (.inl rfl) (by decide) (by exact Cp.sv (ToL.cons PV.to_none ToL.nil) (BorL.cons (PV.bor_sl _) BorL.nil)))) nofree ?_
          refine RunS.step (by exact And.intro rfl True.intro) (by exact True.intro) (LocG.of rfl (loc_copy (r' := RV.sv false [PV.sl none _]) (.inl rfl) (by decide) (by exact Cp.sv (ToL.cons PV.to_none ToL.nil) (BorL.cons (PV.bor_sl _) BorL.nil)))) nofree ?_
          refine RunS.step (by exact And.intro rfl True.intro) (by exact True.intro) (LocG.of rfl (loc_call (qs := [(false, [PV.sl _ _])]) (as_ := [(false, [PV.sl none _])]) (by decide) c_31 (by exact (And.intro (by exact True.intro) True.intro)) (by exact (And.intro (And.intro rfl (ToL.cons PV.to_none ToL.nil)) True.intro)) (by exact to_RoutedS (by omega)))) nofree ?_
          refine RunS.step (by exact And.intro rfl (And.intro rfl True.intro)) (by exact True.intro) (LocG.of rfl (loc_call (qs := [(false, [PV.sl _ _]), (false, [PV.sl _ _])]) (as_ := [(false, [PV.sl none _]), (false, [PV.sl none _])]) (by decide) c_33 (by exact (And.intro (by exact True.intro) (And.intro (by exact True.intro) True.intro))) (by exact (And.intro (And.intro rfl (ToL.cons PV.to_none ToL.nil)) (And.intro (And.intro rfl (ToL.cons PV.to_none ToL.nil)) True.intro))) (by exact eq_RoutedS))) nofree ?_
          refine RunS.step (by exact And.intro rfl True.intro) (by exact True.intro) (LocG.of rfl (loc_not (by decide))) nofree ?_
          refine sw_cond (t := 44) rfl (fun hb5 => ?_) (fun hb5 => ?_)
          · try simp only [decide_eq_true_eq, decide_eq_false_iff_not, bne_iff_ne, beq_iff_eq, Bool.not_eq_true', Bool.not_eq_false', ne_eq, bne_eq_false_iff_eq, beq_eq_false_iff_ne] at hb5
            simp [deq_self] at hb5
          · try simp only [decide_eq_true_eq, decide_eq_false_iff_not, bne_iff_ne, beq_iff_eq, Bool.not_eq_true', Bool.not_eq_false', ne_eq, bne_eq_false_iff_eq, beq_eq_false_iff_ne] at hb5
            refine sw_skip ?_
            refine sw_seq ?_
            refine sw_of (l := [(0, RV.sv false [PV.sl _ _]), (1, RV.sv false [PV.sl _ _]), (4, RV.sv false [PV.val _]), (5, RV.sv false [PV.val _]), (6, RV.sv false [PV.val _]), (7, RV.sv false [PV.sl _ _]), (8, RV.sv false [PV.sl _ _]), (9, RV.sv false [PV.val _])]) (b := []) (by exact And.intro rfl (And.intro rfl (And.intro rfl (And.intro rfl (And.intro rfl (And.intro rfl (And.intro rfl (And.intro rfl True.intro)))))))) (by exact True.intro) ?_
            refine sw_reg ?_
            refine RunS.step (by exact True.intro) (by exact True.intro) (LocG.of rfl (loc_const (.inr rfl) (by decide) (ok_sc rfl))) nofree ?_
            refine sw_ret ?_
            exact (And.intro (by exact rfl) True.intro)
end Go.Proofs.Ytgglfommkpgknaa
