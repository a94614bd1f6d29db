/- What functions of the program compute. No condition. -/
import Derived.Test.YtgaaaoapnhambaaCCluCNextSegment
set_option linter.unusedVariables false
set_option linter.unusedSimpArgs false
namespace Go.Proofs.Ytgaaaoapnhambaa
open Go Go.RowKit M
set_option maxRecDepth 10000
theorem spec_l18Node {p3 p4 p9 p10 p13 p14 : Fl} {c : Cluster} {n : Int}  (hn : 0 ≤ n ∧ n.toNat < c.Up.length) (hl : c.At.length = c.Up.length ∧ c.Pos.length = c.Up.length ∧ c.Buffer.length = c.Up.length) (hb : wtRowSS c.Parts ≤ 68719476736) : SCall Try.prog 130 [(true, [PV.val (vI c.Query.Id), PV.val (vI c.Query.Tenant), PV.sl .v (c.Query.Conds.map cCond), PV.sl .v (c.Query.Out.map cInt), PV.sl .v (c.Parts.map (cRowS p3 p4)), PV.sl .v (c.Up.map cBool), PV.sl .v (c.At.map cInt), PV.sl .v (c.Pos.map cInt), PV.sl .v (c.Buffer.map (cRowS p9 p10)), PV.sl .v (c.Done.map cInt), PV.sl .v (c.Rows.map (cRowS p13 p14))]), (false, [PV.val (vI n)])] (resRV [(false, [PV.val (.bool (nodeB c n))])]) := by
  refine scall_of (rs := [(false, [PV.val (.bool (nodeB c n))])]) Try.func130 rfl (Nat.le_of_ble_eq_true rfl) (borA_cons (BorL.cons (PV.bor_val _) (BorL.cons (PV.bor_val _) (BorL.cons (PV.bor_sl _) (BorL.cons (PV.bor_sl _) (BorL.cons (PV.bor_sl _) (BorL.cons (PV.bor_sl _) (BorL.cons (PV.bor_sl _) (BorL.cons (PV.bor_sl _) (BorL.cons (PV.bor_sl _) (BorL.cons (PV.bor_sl _) (BorL.cons (PV.bor_sl _) BorL.nil))))))))))) (borA_cons (BorL.cons (PV.bor_val _) BorL.nil) borA_nil)) ?_
  intro h0 w0 Fz0
  refine sw_slen (s := 0) (j := 2) rfl rfl fun hl0_2 => ?_
  try rw [List.length_map] at hl0_2
  refine sw_slen (s := 0) (j := 3) rfl rfl fun hl0_3 => ?_
  try rw [List.length_map] at hl0_3
  refine sw_slen (s := 0) (j := 4) rfl rfl fun hl0_4 => ?_
  try rw [List.length_map] at hl0_4
  refine sw_slen (s := 0) (j := 5) rfl rfl fun hl0_5 => ?_
  try rw [List.length_map] at hl0_5
  refine sw_slen (s := 0) (j := 6) rfl rfl fun hl0_6 => ?_
  try rw [List.length_map] at hl0_6
  refine sw_slen (s := 0) (j := 7) rfl rfl fun hl0_7 => ?_
  try rw [List.length_map] at hl0_7
  refine sw_slen (s := 0) (j := 8) rfl rfl fun hl0_8 => ?_
  try rw [List.length_map] at hl0_8
  refine sw_slen (s := 0) (j := 9) rfl rfl fun hl0_9 => ?_
  try rw [List.length_map] at hl0_9
  refine sw_slen (s := 0) (j := 10) rfl rfl fun hl0_10 => ?_
  try rw [List.length_map] at hl0_10
  have hwp := part_wt (s := atI c.At n) hb
  have hwt := take_wt (k := (atI c.Pos n).toNat) hwp
  refine sw_seq ?_
  refine sw_reg ?_
  refine RunS.step (by exact ⟨rfl, ⟨⟩⟩) (by exact ⟨⟩) (LocG.of rfl (loc_box (ag := true) (cs := [PV.val _, PV.val _, PV.sl _ _, PV.sl _ _, PV.sl _ _, PV.sl _ _, PV.sl _ _, PV.sl _ _, PV.sl _ _, PV.sl _ _, PV.sl _ _]) (by decide) (by exact ⟨⟩))) (free1 (Free.of_ rfl)) ?_
  refine RunS.s1 (x := loc_const (.inr rfl) (by decide) (ok_sc rfl)) (y := ?_)
  refine sw_seq ?_
  refine sw_seq ?_
  refine sw_of (l := [(1, RV.sv false [PV.val _]), (2, RV.ptr 2 0), (4, RV.sv false [PV.val _])]) (b := [(2, (37, [PV.val _, PV.val _, PV.sl _ _, PV.sl _ _, PV.sl _ _, PV.sl _ _, PV.sl _ _, PV.sl _ _, PV.sl _ _, PV.sl _ _, PV.sl _ _]))]) (by exact ⟨rfl, rfl, rfl, ⟨⟩⟩) (by exact ⟨rfl, ⟨⟩⟩) ?_
  refine sw_reg ?_
  refine RunS.s1 (x := loc_field (by decide) fd_37_3) (y := ?_)
  refine RunS.s1 (x := loc_load (qs := [PV.sl .v _]) (by decide) ty_23 (fun _ => rfl) (by exact Nat.le_of_ble_eq_true rfl) (by exact (ToL.cons PV.to_none ToL.nil)) (by exact (BorL.cons (PV.bor_sl _) BorL.nil))) (y := ?_)
  refine RunS.s1 (x := loc_copy (.inl rfl) (by decide) (by exact Cp.sc)) (y := ?_)
  refine RunS.s1 (x := loc_index (k := (n).toNat) (by decide) sl_23 (by exact ⟨⟩) (by omega) (by exact getm2 (by omega) (by rw [atI_eq (by omega)])) (by exact rfl)) (y := ?_)
  refine RunS.s1 (x := loc_eload (qs := [PV.val _]) (by decide) ty_3 (fun _ => rfl) (by exact Nat.le_of_ble_eq_true rfl) (by exact (ToL.cons (PV.To.refl _) ToL.nil)) (by exact (BorL.cons (PV.bor_val _) BorL.nil))) (y := ?_)
  refine RunS.s1 (x := loc_eql (by decide) (by exact ⟨⟩) (ok_sc rfl)) (y := ?_)
  refine sw_cond (t := 11) rfl (fun hb1 => ?_) (fun hb1 => ?_)
  · try simp only [q1, q2, q3, q4, q5, q6, q7, q8, q9] at hb1
    refine sw_seq ?_
    refine sw_of (l := [(1, RV.sv false [PV.val _]), (2, RV.ptr 2 0), (4, RV.sv false [PV.val _])]) (b := [(2, (37, [PV.val _, PV.val _, PV.sl _ _, PV.sl _ _, PV.sl _ _, PV.sl _ _, PV.sl _ _, PV.sl _ _, PV.sl _ _, PV.sl _ _, PV.sl _ _]))]) (by exact ⟨rfl, rfl, rfl, ⟨⟩⟩) (by exact ⟨rfl, ⟨⟩⟩) ?_
    refine sw_reg ?_
    refine RunS.s1 (x := loc_field (by decide) fd_37_4) (y := ?_)
    refine RunS.s1 (x := loc_load (qs := [PV.sl .v _]) (by decide) ty_23 (fun _ => rfl) (by exact Nat.le_of_ble_eq_true rfl) (by exact (ToL.cons PV.to_none ToL.nil)) (by exact (BorL.cons (PV.bor_sl _) BorL.nil))) (y := ?_)
    refine RunS.s1 (x := loc_copy (.inl rfl) (by decide) (by exact Cp.sc)) (y := ?_)
    refine RunS.s1 (x := loc_index (k := (n).toNat) (by decide) sl_23 (by exact ⟨⟩) (by omega) (by exact getm2 (by omega) (by rw [atI_eq (by omega)])) (by exact rfl)) (y := ?_)
    refine RunS.s1 (x := loc_eload (qs := [PV.val _]) (by decide) ty_3 (fun _ => rfl) (by exact Nat.le_of_ble_eq_true rfl) (by exact (ToL.cons (PV.To.refl _) ToL.nil)) (by exact (BorL.cons (PV.bor_val _) BorL.nil))) (y := ?_)
    refine RunS.s1 (x := loc_eql (by decide) (by exact ⟨⟩) (ok_sc rfl)) (y := ?_)
    refine RunS.s1 (x := loc_copy (.inl rfl) (by decide) (by exact Cp.sc)) (y := ?_)
    refine RunS.cases (s := 18) rfl (fun g2 => ?_) (fun g2 => ?_)
    · have sg2 := g2
      try simp only [q1, q2, q3, q4, q5, q6, q7, q8, q9] at sg2
      refine RunS.s2 (hb := g2) (x := loc_field (by decide) fd_37_5) (y := ?_)
      refine RunS.s2 (hb := g2) (x := loc_load (qs := [PV.sl .v _]) (by decide) ty_35 (fun _ => rfl) (by exact Nat.le_of_ble_eq_true rfl) (by exact (ToL.cons PV.to_none ToL.nil)) (by exact (BorL.cons (PV.bor_sl _) BorL.nil))) (y := ?_)
      refine RunS.s2 (hb := g2) (x := loc_copy (.inl rfl) (by decide) (by exact Cp.sc)) (y := ?_)
      refine RunS.s2 (hb := g2) (x := loc_index (k := (n).toNat) (by decide) sl_35 (by exact ⟨⟩) (by omega) (by exact getm2 (by omega) (by rw [bufAt_eq (by omega)])) (by exact rfl)) (y := ?_)
      refine RunS.s2 (hb := g2) (x := loc_eload (qs := [PV.sl .v _]) (by decide) ty_53 (fun _ => rfl) (by exact Nat.le_of_ble_eq_true rfl) (by exact (ToL.cons PV.to_none ToL.nil)) (by exact (BorL.cons (PV.bor_sl _) BorL.nil))) (y := ?_)
      refine RunS.s2 (hb := g2) (x := loc_len (by decide) sl_53 (by first | exact List.length_map _ | exact rfl)) (y := ?_)
      refine RunS.s2 (hb := g2) (x := loc_eql (by decide) (by exact ⟨⟩) (ok_sc rfl)) (y := ?_)
      refine RunS.s1 (x := loc_pick (z := .tmp 25) (by decide) (by rw [g2]; rfl) (by exact ⟨⟩) (by exact ⟨⟩) (by exact Cp.sc)) (y := ?_)
      refine RunS.s1 (x := loc_copy (.inr rfl) (by decide) (by exact Cp.sc)) (y := ?_)
      refine sw_ret ?_
      exact (And.intro (by refine bool_eq ?_; unfold nodeB; rw [if_pos (by assumption)]; first | (simp_all; done) | (rw [Bool.eq_iff_iff]; simp_all)) True.intro)
    · have sg2 := g2
      try simp only [q1, q2, q3, q4, q5, q6, q7, q8, q9] at sg2
      refine RunS.s0f g2 ?_
      refine RunS.s0f g2 ?_
      refine RunS.s0f g2 ?_
      refine RunS.s0f g2 ?_
      refine RunS.s0f g2 ?_
      refine RunS.s0f g2 ?_
      refine RunS.s0f g2 ?_
      refine RunS.s1 (x := loc_pick (z := .const (.bool false)) (by decide) (by rw [g2]; rfl) (by exact ⟨⟩) (ok_sc rfl) (by exact Cp.sc)) (y := ?_)
      refine RunS.s1 (x := loc_copy (.inr rfl) (by decide) (by exact Cp.sc)) (y := ?_)
      refine sw_ret ?_
      exact (And.intro (by refine bool_eq ?_; unfold nodeB; rw [if_pos (by assumption)]; first | (simp_all; done) | (rw [Bool.eq_iff_iff]; simp_all)) True.intro)
  · try simp only [q1, q2, q3, q4, q5, q6, q7, q8, q9] at hb1
    refine sw_skip ?_
    refine sw_seq ?_
    refine sw_of (l := [(1, RV.sv false [PV.val _]), (2, RV.ptr 2 0), (4, RV.sv false [PV.val _])]) (b := [(2, (37, [PV.val _, PV.val _, PV.sl _ _, PV.sl _ _, PV.sl _ _, PV.sl _ _, PV.sl _ _, PV.sl _ _, PV.sl _ _, PV.sl _ _, PV.sl _ _]))]) (by exact ⟨rfl, rfl, rfl, ⟨⟩⟩) (by exact ⟨rfl, ⟨⟩⟩) ?_
    refine sw_reg ?_
    refine RunS.s1 (x := loc_field (by decide) fd_37_2) (y := ?_)
    refine RunS.s1 (x := loc_load (qs := [PV.sl .v _]) (by decide) ty_27 (fun _ => rfl) (by exact Nat.le_of_ble_eq_true rfl) (by exact (ToL.cons PV.to_none ToL.nil)) (by exact (BorL.cons (PV.bor_sl _) BorL.nil))) (y := ?_)
    refine RunS.s1 (x := loc_len (by decide) sl_27 (by first | exact List.length_map _ | exact rfl)) (y := ?_)
    refine RunS.s1 (x := loc_copy (.inr rfl) (by decide) (by exact Cp.sc)) (y := ?_)
    refine sw_seq ?_
    refine sw_seq ?_
    refine sw_of (l := [(1, RV.sv false [PV.val _]), (2, RV.ptr 2 0), (4, RV.sv false [PV.val _]), (5, RV.sv false [PV.val _])]) (b := [(2, (37, [PV.val _, PV.val _, PV.sl _ _, PV.sl _ _, PV.sl _ _, PV.sl _ _, PV.sl _ _, PV.sl _ _, PV.sl _ _, PV.sl _ _, PV.sl _ _]))]) (by exact ⟨rfl, rfl, rfl, rfl, ⟨⟩⟩) (by exact ⟨rfl, ⟨⟩⟩) ?_
    refine sw_draw hm_ ?_
    refine Run.step 0 (by exact ⟨rfl, ⟨⟩⟩) (by exact ⟨⟩) (LocG.of rfl (loc_field (by decide) fd_37_2)) nofree (by kernel_rfl) ?_
    refine Run.step 1 (by exact ⟨rfl, ⟨⟩⟩) (by exact ⟨rfl, ⟨⟩⟩) (LocG.of rfl (loc_load (qs := [PV.sl .v _]) (by decide) ty_27 (fun _ => rfl) (by exact Nat.le_of_ble_eq_true rfl) (by exact (ToL.cons PV.to_none ToL.nil)) (by exact (BorL.cons (PV.bor_sl _) BorL.nil)))) nofree (by kernel_rfl) ?_
    refine Run.step 0 (by exact ⟨rfl, ⟨⟩⟩) (by exact ⟨⟩) (LocG.of rfl (loc_copy (.inl rfl) (by decide) (by exact Cp.sc))) nofree (by kernel_rfl) ?_
    refine Run.step 7 (by exact ⟨rfl, rfl, ⟨⟩⟩) (by exact ⟨⟩) (LocG.of rfl (loc_index (k := (n).toNat) (by decide) sl_27 (by exact ⟨⟩) (by omega) (by exact getm2 (by omega) (by rw [upAt_eq (by omega)])) (by exact rfl))) nofree (by kernel_rfl) ?_
    refine Run.step 15 (by exact ⟨rfl, ⟨⟩⟩) (by exact ⟨⟩) (LocG.of rfl (loc_eload (qs := [PV.val _]) (by decide) ty_4 (fun _ => rfl) (by exact Nat.le_of_ble_eq_true rfl) (by exact (ToL.cons (PV.To.refl _) ToL.nil)) (by exact (BorL.cons (PV.bor_val _) BorL.nil)))) nofree (by kernel_rfl) ?_
    refine Run.step 31 (by exact ⟨rfl, ⟨⟩⟩) (by exact ⟨⟩) (LocG.of rfl (loc_not (by decide))) nofree (by kernel_rfl) ?_
    refine Run.step 63 (by exact ⟨rfl, ⟨⟩⟩) (by exact ⟨⟩) (LocG.of rfl (loc_copy (.inl rfl) (by decide) (by exact Cp.sc))) nofree (by kernel_rfl) ?_
    refine Run.cases (s := 36) rfl (fun g3 => ?_) (fun g3 => ?_)
    · have sg3 := g3
      try simp only [q1, q2, q3, q4, q5, q6, q7, q8, q9] at sg3
      refine Run.step 127 (by exact ⟨rfl, ⟨⟩⟩) (by exact ⟨⟩) (LocG.no (ops := _) rfl rfl (by decide) g3 rfl) nofree (by kernel_rfl) ?_
      refine Run.step 255 (by exact ⟨rfl, ⟨⟩⟩) (by exact ⟨⟩) (LocG.no (ops := _) rfl rfl (by decide) g3 rfl) nofree (by kernel_rfl) ?_
      refine Run.step 127 (by exact ⟨rfl, ⟨⟩⟩) (by exact ⟨⟩) (LocG.no (ops := _) rfl rfl (by decide) g3 rfl) nofree (by kernel_rfl) ?_
      refine Run.step 1023 (by exact ⟨rfl, ⟨⟩⟩) (by exact ⟨⟩) (LocG.no (ops := _) rfl rfl (by decide) g3 rfl) nofree (by kernel_rfl) ?_
      refine Run.step 2047 (by exact ⟨rfl, ⟨⟩⟩) (by exact ⟨⟩) (LocG.no (ops := _) rfl rfl (by decide) g3 rfl) nofree (by kernel_rfl) ?_
      refine Run.step 127 (by exact ⟨rfl, ⟨⟩⟩) (by exact ⟨⟩) (LocG.no (ops := _) rfl rfl (by decide) g3 rfl) nofree (by kernel_rfl) ?_
      refine Run.step 4223 (by exact ⟨rfl, ⟨⟩⟩) (by exact ⟨⟩) (LocG.no (ops := _) rfl rfl (by decide) g3 rfl) nofree (by kernel_rfl) ?_
      refine Run.step 12415 (by exact ⟨rfl, ⟨⟩⟩) (by exact ⟨⟩) (LocG.no (ops := _) rfl rfl (by decide) g3 rfl) nofree (by kernel_rfl) ?_
      refine Run.step 28799 (by exact ⟨rfl, ⟨⟩⟩) (by exact ⟨⟩) (LocG.no (ops := _) rfl rfl (by decide) g3 rfl) nofree (by kernel_rfl) ?_
      refine Run.step 65535 (by exact ⟨rfl, ⟨⟩⟩) (by exact ⟨⟩) (LocG.no (ops := _) rfl rfl (by decide) g3 rfl) nofree (by kernel_rfl) ?_
      refine Run.step 131071 (by exact ⟨rfl, ⟨⟩⟩) (by exact ⟨⟩) (LocG.no (ops := _) rfl rfl (by decide) g3 rfl) nofree (by kernel_rfl) ?_
      refine Run.step 262143 (by exact ⟨rfl, ⟨⟩⟩) (by exact ⟨⟩) (LocG.of rfl (loc_pick (z := .const (.bool true)) (by decide) (by rw [g3]; rfl) (by exact ⟨⟩) (ok_sc rfl) (by exact Cp.sc))) nofree (by kernel_rfl) ?_
      refine Run.step 524287 (by exact ⟨rfl, ⟨⟩⟩) (by exact ⟨⟩) (LocG.of rfl (loc_copy (.inl rfl) (by decide) (by exact Cp.sc))) nofree (by kernel_rfl) ?_
      refine Run.cases (s := 49) rfl (fun g4 => ?_) (fun g4 => nomatch g4)
      refine Run.step 1048575 (by exact ⟨rfl, ⟨⟩⟩) (by exact ⟨⟩) (LocG.no (ops := _) rfl rfl (by decide) g4 rfl) nofree (by kernel_rfl) ?_
      refine Run.step 2097151 (by exact ⟨rfl, ⟨⟩⟩) (by exact ⟨⟩) (LocG.no (ops := _) rfl rfl (by decide) g4 rfl) nofree (by kernel_rfl) ?_
      refine Run.step 1048575 (by exact ⟨rfl, ⟨⟩⟩) (by exact ⟨⟩) (LocG.no (ops := _) rfl rfl (by decide) g4 rfl) nofree (by kernel_rfl) ?_
      refine Run.step 5242879 (by exact ⟨rfl, ⟨⟩⟩) (by exact ⟨⟩) (LocG.no (ops := _) rfl rfl (by decide) g4 rfl) nofree (by kernel_rfl) ?_
      refine Run.step 1048575 (by exact ⟨rfl, ⟨⟩⟩) (by exact ⟨⟩) (LocG.no (ops := _) rfl rfl (by decide) g4 rfl) nofree (by kernel_rfl) ?_
      refine Run.step 30408703 (by exact ⟨rfl, ⟨⟩⟩) (by exact ⟨⟩) (LocG.no (ops := _) rfl rfl (by decide) g4 rfl) nofree (by kernel_rfl) ?_
      refine Run.step 63963135 (by exact ⟨rfl, ⟨⟩⟩) (by exact ⟨⟩) (LocG.no (ops := _) rfl rfl (by decide) g4 rfl) nofree (by kernel_rfl) ?_
      refine Run.step 134217727 (by exact ⟨rfl, ⟨⟩⟩) (by exact ⟨⟩) (LocG.no (ops := _) rfl rfl (by decide) g4 rfl) nofree (by kernel_rfl) ?_
      refine Run.step 268435455 (by exact ⟨rfl, ⟨⟩⟩) (by exact ⟨⟩) (LocG.of rfl (loc_pick (z := .const (.bool true)) (by decide) (by rw [g4]; rfl) (by exact ⟨⟩) (ok_sc rfl) (by exact Cp.sc))) nofree (by kernel_rfl) ?_
      refine Run.step 536870911 (by exact ⟨rfl, ⟨⟩⟩) (by exact ⟨⟩) (LocG.of rfl (loc_copy (.inl rfl) (by decide) (by exact Cp.sc))) nofree (by kernel_rfl) ?_
      refine Run.cases (s := 59) rfl (fun g5 => ?_) (fun g5 => nomatch g5)
      refine Run.step 1073741823 (by exact ⟨rfl, ⟨⟩⟩) (by exact ⟨⟩) (LocG.no (ops := _) rfl rfl (by decide) g5 rfl) nofree (by kernel_rfl) ?_
      refine Run.step 2147483647 (by exact ⟨rfl, ⟨⟩⟩) (by exact ⟨⟩) (LocG.no (ops := _) rfl rfl (by decide) g5 rfl) nofree (by kernel_rfl) ?_
      refine Run.step 1073741823 (by exact ⟨rfl, ⟨⟩⟩) (by exact ⟨⟩) (LocG.no (ops := _) rfl rfl (by decide) g5 rfl) nofree (by kernel_rfl) ?_
      refine Run.step 8589934591 (by exact ⟨rfl, ⟨⟩⟩) (by exact ⟨⟩) (LocG.no (ops := _) rfl rfl (by decide) g5 rfl) nofree (by kernel_rfl) ?_
      refine Run.step 17179869183 (by exact ⟨rfl, ⟨⟩⟩) (by exact ⟨⟩) (LocG.no (ops := _) rfl rfl (by decide) g5 rfl) nofree (by kernel_rfl) ?_
      refine Run.step 1073741823 (by exact ⟨rfl, ⟨⟩⟩) (by exact ⟨⟩) (LocG.no (ops := _) rfl rfl (by decide) g5 rfl) nofree (by kernel_rfl) ?_
      refine Run.step 68719476735 (by exact ⟨rfl, ⟨⟩⟩) (by exact ⟨⟩) (LocG.no (ops := _) rfl rfl (by decide) g5 rfl) nofree (by kernel_rfl) ?_
      refine Run.step 1073741823 (by exact ⟨rfl, ⟨⟩⟩) (by exact ⟨⟩) (LocG.no (ops := _) rfl rfl (by decide) g5 rfl) nofree (by kernel_rfl) ?_
      refine Run.step 274877906943 (by exact ⟨rfl, ⟨⟩⟩) (by exact ⟨⟩) (LocG.no (ops := _) rfl rfl (by decide) g5 rfl) nofree (by kernel_rfl) ?_
      refine Run.step 549755813887 (by exact ⟨rfl, ⟨⟩⟩) (by exact ⟨⟩) (LocG.no (ops := _) rfl rfl (by decide) g5 rfl) nofree (by kernel_rfl) ?_
      refine Run.step 1099511627775 (by exact ⟨rfl, ⟨⟩⟩) (by exact ⟨⟩) (LocG.noU (ops := _) rfl rfl rfl) nofree (by kernel_rfl) ?_
      refine Run.step 2199023255551 (by exact ⟨rfl, ⟨⟩⟩) (by exact ⟨⟩) (LocG.noU (ops := _) rfl rfl rfl) nofree (by kernel_rfl) ?_
      refine Run.step 1099511627775 (by exact ⟨rfl, ⟨⟩⟩) (by exact ⟨⟩) (LocG.noU (ops := _) rfl rfl rfl) nofree (by kernel_rfl) ?_
      refine Run.step 8796093022207 (by exact ⟨rfl, ⟨⟩⟩) (by exact ⟨⟩) (LocG.noU (ops := _) rfl rfl rfl) nofree (by kernel_rfl) ?_
      refine Run.step 17592186044415 (by exact ⟨rfl, ⟨⟩⟩) (by exact ⟨⟩) (LocG.noU (ops := _) rfl rfl rfl) nofree (by kernel_rfl) ?_
      refine Run.step 1099511627775 (by exact ⟨rfl, ⟨⟩⟩) (by exact ⟨⟩) (LocG.noU (ops := _) rfl rfl rfl) nofree (by kernel_rfl) ?_
      refine Run.step 70368744177663 (by exact ⟨rfl, ⟨⟩⟩) (by exact ⟨⟩) (LocG.noU (ops := _) rfl rfl rfl) nofree (by kernel_rfl) ?_
      refine Run.step 1099511627775 (by exact ⟨rfl, ⟨⟩⟩) (by exact ⟨⟩) (LocG.noU (ops := _) rfl rfl rfl) nofree (by kernel_rfl) ?_
      refine Run.step 281474976710655 (by exact ⟨rfl, ⟨⟩⟩) (by exact ⟨⟩) (LocG.noU (ops := _) rfl rfl rfl) nofree (by kernel_rfl) ?_
      refine Run.step 562949953421311 (by exact ⟨rfl, ⟨⟩⟩) (by exact ⟨⟩) (LocG.no (ops := _) rfl rfl (by decide) g5 rfl) nofree (by kernel_rfl) ?_
      refine Run.step 1125899906842623 (by exact ⟨rfl, ⟨⟩⟩) (by exact ⟨⟩) (LocG.of rfl (loc_pick (z := .const (.bool true)) (by decide) (by rw [g5]; rfl) (by exact ⟨⟩) (ok_sc rfl) (by exact Cp.sc))) nofree (by kernel_rfl) ?_
      refine sw_cond (t := 80) rfl (fun hb_ => ?_) (fun hb_ => nomatch hb_)
      have hbad : nodeB c n = false := by unfold nodeB; rw [if_neg (by assumption)]; simp_all; try (intros; simp_all)
      refine sw_seq ?_
      refine sw_of (l := [(1, RV.sv false [PV.val _]), (2, RV.ptr 2 0), (4, RV.sv false [PV.val _]), (5, RV.sv false [PV.val _])]) (b := [(2, (37, [PV.val _, PV.val _, PV.sl _ _, PV.sl _ _, PV.sl _ _, PV.sl _ _, PV.sl _ _, PV.sl _ _, PV.sl _ _, PV.sl _ _, PV.sl _ _]))]) (by exact ⟨rfl, rfl, rfl, rfl, ⟨⟩⟩) (by exact ⟨rfl, ⟨⟩⟩) ?_
      refine sw_reg ?_
      refine RunS.s1 (x := loc_const (.inr rfl) (by decide) (ok_sc rfl)) (y := ?_)
      refine sw_ret ?_
      exact (And.intro (by refine bool_eq ?_; exact hbad.symm) True.intro)
    · have sg3 := g3
      try simp only [q1, q2, q3, q4, q5, q6, q7, q8, q9] at sg3
      refine Run.step 127 (by exact ⟨rfl, rfl, ⟨⟩⟩) (by exact ⟨⟩) (LocG.yes rfl rfl (by decide) g3 (loc_field (by decide) fd_37_3)) nofree (by kernel_rfl) ?_
      refine Run.step 255 (by exact ⟨rfl, rfl, ⟨⟩⟩) (by exact ⟨rfl, ⟨⟩⟩) (LocG.yes rfl rfl (by decide) g3 (loc_load (qs := [PV.sl .v _]) (by decide) ty_23 (fun _ => rfl) (by exact Nat.le_of_ble_eq_true rfl) (by exact (ToL.cons PV.to_none ToL.nil)) (by exact (BorL.cons (PV.bor_sl _) BorL.nil)))) nofree (by kernel_rfl) ?_
      refine Run.step 127 (by exact ⟨rfl, rfl, ⟨⟩⟩) (by exact ⟨⟩) (LocG.yes rfl rfl (by decide) g3 (loc_copy (.inl rfl) (by decide) (by exact Cp.sc))) nofree (by kernel_rfl) ?_
      refine Run.step 1023 (by exact ⟨rfl, rfl, rfl, ⟨⟩⟩) (by exact ⟨⟩) (LocG.yes rfl rfl (by decide) g3 (loc_index (k := (n).toNat) (by decide) sl_23 (by exact ⟨⟩) (by omega) (by exact getm2 (by omega) (by rw [atI_eq (by omega)])) (by exact rfl))) nofree (by kernel_rfl) ?_
      refine Run.step 2047 (by exact ⟨rfl, rfl, ⟨⟩⟩) (by exact ⟨⟩) (LocG.yes rfl rfl (by decide) g3 (loc_eload (qs := [PV.val _]) (by decide) ty_3 (fun _ => rfl) (by exact Nat.le_of_ble_eq_true rfl) (by exact (ToL.cons (PV.To.refl _) ToL.nil)) (by exact (BorL.cons (PV.bor_val _) BorL.nil)))) nofree (by kernel_rfl) ?_
      refine Run.step 127 (by exact ⟨rfl, rfl, ⟨⟩⟩) (by exact ⟨⟩) (LocG.yes rfl rfl (by decide) g3 (loc_field (by decide) fd_37_1)) nofree (by kernel_rfl) ?_
      refine Run.step 4223 (by exact ⟨rfl, rfl, ⟨⟩⟩) (by exact ⟨rfl, ⟨⟩⟩) (LocG.yes rfl rfl (by decide) g3 (loc_load (qs := [PV.sl .v _]) (by decide) ty_35 (fun _ => rfl) (by exact Nat.le_of_ble_eq_true rfl) (by exact (ToL.cons PV.to_none ToL.nil)) (by exact (BorL.cons (PV.bor_sl _) BorL.nil)))) nofree (by kernel_rfl) ?_
      refine Run.step 12415 (by exact ⟨rfl, rfl, ⟨⟩⟩) (by exact ⟨⟩) (LocG.yes rfl rfl (by decide) g3 (loc_len (by decide) sl_35 (by first | exact List.length_map _ | exact rfl))) nofree (by kernel_rfl) ?_
      refine Run.step 28799 (by exact ⟨rfl, rfl, ⟨⟩⟩) (by exact ⟨⟩) (LocG.yes rfl rfl (by decide) g3 (loc_sub (by decide) (by exact ⟨⟩) (ok_sc rfl) (by unfold I64; omega))) nofree (by kernel_rfl) ?_
      refine Run.step 65535 (by exact ⟨rfl, rfl, rfl, ⟨⟩⟩) (by exact ⟨⟩) (LocG.yes rfl rfl (by decide) g3 (loc_call (qs := [(false, [PV.val _]), (false, [PV.val _]), (false, [PV.val _])]) (as_ := [(false, [PV.val _]), (false, [PV.val _]), (false, [PV.val _])]) (by decide) c_50 (by exact (And.intro (by exact ⟨⟩) (And.intro (ok_sc rfl) (And.intro (by exact ⟨⟩) True.intro)))) (by exact (And.intro (And.intro rfl (ToL.cons (PV.To.refl _) ToL.nil)) (And.intro (And.intro rfl (ToL.cons (PV.To.refl _) ToL.nil)) (And.intro (And.intro rfl (ToL.cons (PV.To.refl _) ToL.nil)) True.intro)))) (by exact spec_l1In))) nofree (by kernel_rfl) ?_
      refine Run.step 131071 (by exact ⟨rfl, rfl, ⟨⟩⟩) (by exact ⟨⟩) (LocG.yes rfl rfl (by decide) g3 (loc_not (by decide))) nofree (by kernel_rfl) ?_
      refine Run.step 262143 (by exact ⟨rfl, rfl, ⟨⟩⟩) (by exact ⟨⟩) (LocG.of rfl (loc_pick (z := .tmp 47) (by decide) (by rw [g3]; rfl) (by exact ⟨⟩) (by exact ⟨⟩) (by exact Cp.sc))) nofree (by kernel_rfl) ?_
      refine Run.step 524287 (by exact ⟨rfl, ⟨⟩⟩) (by exact ⟨⟩) (LocG.of rfl (loc_copy (.inl rfl) (by decide) (by exact Cp.sc))) nofree (by kernel_rfl) ?_
      refine Run.cases (s := 49) rfl (fun g7 => ?_) (fun g7 => ?_)
      · have sg7 := g7
        try simp only [q1, q2, q3, q4, q5, q6, q7, q8, q9] at sg7
        refine Run.step 1048575 (by exact ⟨rfl, ⟨⟩⟩) (by exact ⟨⟩) (LocG.no (ops := _) rfl rfl (by decide) g7 rfl) nofree (by kernel_rfl) ?_
        refine Run.step 2097151 (by exact ⟨rfl, ⟨⟩⟩) (by exact ⟨⟩) (LocG.no (ops := _) rfl rfl (by decide) g7 rfl) nofree (by kernel_rfl) ?_
        refine Run.step 1048575 (by exact ⟨rfl, ⟨⟩⟩) (by exact ⟨⟩) (LocG.no (ops := _) rfl rfl (by decide) g7 rfl) nofree (by kernel_rfl) ?_
        refine Run.step 5242879 (by exact ⟨rfl, ⟨⟩⟩) (by exact ⟨⟩) (LocG.no (ops := _) rfl rfl (by decide) g7 rfl) nofree (by kernel_rfl) ?_
        refine Run.step 1048575 (by exact ⟨rfl, ⟨⟩⟩) (by exact ⟨⟩) (LocG.no (ops := _) rfl rfl (by decide) g7 rfl) nofree (by kernel_rfl) ?_
        refine Run.step 30408703 (by exact ⟨rfl, ⟨⟩⟩) (by exact ⟨⟩) (LocG.no (ops := _) rfl rfl (by decide) g7 rfl) nofree (by kernel_rfl) ?_
        refine Run.step 63963135 (by exact ⟨rfl, ⟨⟩⟩) (by exact ⟨⟩) (LocG.no (ops := _) rfl rfl (by decide) g7 rfl) nofree (by kernel_rfl) ?_
        refine Run.step 134217727 (by exact ⟨rfl, ⟨⟩⟩) (by exact ⟨⟩) (LocG.no (ops := _) rfl rfl (by decide) g7 rfl) nofree (by kernel_rfl) ?_
        refine Run.step 268435455 (by exact ⟨rfl, ⟨⟩⟩) (by exact ⟨⟩) (LocG.of rfl (loc_pick (z := .const (.bool true)) (by decide) (by rw [g7]; rfl) (by exact ⟨⟩) (ok_sc rfl) (by exact Cp.sc))) nofree (by kernel_rfl) ?_
        refine Run.step 536870911 (by exact ⟨rfl, ⟨⟩⟩) (by exact ⟨⟩) (LocG.of rfl (loc_copy (.inl rfl) (by decide) (by exact Cp.sc))) nofree (by kernel_rfl) ?_
        refine Run.cases (s := 59) rfl (fun g8 => ?_) (fun g8 => nomatch g8)
        refine Run.step 1073741823 (by exact ⟨rfl, ⟨⟩⟩) (by exact ⟨⟩) (LocG.no (ops := _) rfl rfl (by decide) g8 rfl) nofree (by kernel_rfl) ?_
        refine Run.step 2147483647 (by exact ⟨rfl, ⟨⟩⟩) (by exact ⟨⟩) (LocG.no (ops := _) rfl rfl (by decide) g8 rfl) nofree (by kernel_rfl) ?_
        refine Run.step 1073741823 (by exact ⟨rfl, ⟨⟩⟩) (by exact ⟨⟩) (LocG.no (ops := _) rfl rfl (by decide) g8 rfl) nofree (by kernel_rfl) ?_
        refine Run.step 8589934591 (by exact ⟨rfl, ⟨⟩⟩) (by exact ⟨⟩) (LocG.no (ops := _) rfl rfl (by decide) g8 rfl) nofree (by kernel_rfl) ?_
        refine Run.step 17179869183 (by exact ⟨rfl, ⟨⟩⟩) (by exact ⟨⟩) (LocG.no (ops := _) rfl rfl (by decide) g8 rfl) nofree (by kernel_rfl) ?_
        refine Run.step 1073741823 (by exact ⟨rfl, ⟨⟩⟩) (by exact ⟨⟩) (LocG.no (ops := _) rfl rfl (by decide) g8 rfl) nofree (by kernel_rfl) ?_
        refine Run.step 68719476735 (by exact ⟨rfl, ⟨⟩⟩) (by exact ⟨⟩) (LocG.no (ops := _) rfl rfl (by decide) g8 rfl) nofree (by kernel_rfl) ?_
        refine Run.step 1073741823 (by exact ⟨rfl, ⟨⟩⟩) (by exact ⟨⟩) (LocG.no (ops := _) rfl rfl (by decide) g8 rfl) nofree (by kernel_rfl) ?_
        refine Run.step 274877906943 (by exact ⟨rfl, ⟨⟩⟩) (by exact ⟨⟩) (LocG.no (ops := _) rfl rfl (by decide) g8 rfl) nofree (by kernel_rfl) ?_
        refine Run.step 549755813887 (by exact ⟨rfl, ⟨⟩⟩) (by exact ⟨⟩) (LocG.no (ops := _) rfl rfl (by decide) g8 rfl) nofree (by kernel_rfl) ?_
        refine Run.step 1099511627775 (by exact ⟨rfl, ⟨⟩⟩) (by exact ⟨⟩) (LocG.noU (ops := _) rfl rfl rfl) nofree (by kernel_rfl) ?_
        refine Run.step 2199023255551 (by exact ⟨rfl, ⟨⟩⟩) (by exact ⟨⟩) (LocG.noU (ops := _) rfl rfl rfl) nofree (by kernel_rfl) ?_
        refine Run.step 1099511627775 (by exact ⟨rfl, ⟨⟩⟩) (by exact ⟨⟩) (LocG.noU (ops := _) rfl rfl rfl) nofree (by kernel_rfl) ?_
        refine Run.step 8796093022207 (by exact ⟨rfl, ⟨⟩⟩) (by exact ⟨⟩) (LocG.noU (ops := _) rfl rfl rfl) nofree (by kernel_rfl) ?_
        refine Run.step 17592186044415 (by exact ⟨rfl, ⟨⟩⟩) (by exact ⟨⟩) (LocG.noU (ops := _) rfl rfl rfl) nofree (by kernel_rfl) ?_
        refine Run.step 1099511627775 (by exact ⟨rfl, ⟨⟩⟩) (by exact ⟨⟩) (LocG.noU (ops := _) rfl rfl rfl) nofree (by kernel_rfl) ?_
        refine Run.step 70368744177663 (by exact ⟨rfl, ⟨⟩⟩) (by exact ⟨⟩) (LocG.noU (ops := _) rfl rfl rfl) nofree (by kernel_rfl) ?_
        refine Run.step 1099511627775 (by exact ⟨rfl, ⟨⟩⟩) (by exact ⟨⟩) (LocG.noU (ops := _) rfl rfl rfl) nofree (by kernel_rfl) ?_
        refine Run.step 281474976710655 (by exact ⟨rfl, ⟨⟩⟩) (by exact ⟨⟩) (LocG.noU (ops := _) rfl rfl rfl) nofree (by kernel_rfl) ?_
        refine Run.step 562949953421311 (by exact ⟨rfl, ⟨⟩⟩) (by exact ⟨⟩) (LocG.no (ops := _) rfl rfl (by decide) g8 rfl) nofree (by kernel_rfl) ?_
        refine Run.step 1125899906842623 (by exact ⟨rfl, ⟨⟩⟩) (by exact ⟨⟩) (LocG.of rfl (loc_pick (z := .const (.bool true)) (by decide) (by rw [g8]; rfl) (by exact ⟨⟩) (ok_sc rfl) (by exact Cp.sc))) nofree (by kernel_rfl) ?_
        refine sw_cond (t := 80) rfl (fun hb_ => ?_) (fun hb_ => nomatch hb_)
        have hbad : nodeB c n = false := by unfold nodeB; rw [if_neg (by assumption)]; simp_all; try (intros; simp_all)
        refine sw_seq ?_
        refine sw_of (l := [(1, RV.sv false [PV.val _]), (2, RV.ptr 2 0), (4, RV.sv false [PV.val _]), (5, RV.sv false [PV.val _])]) (b := [(2, (37, [PV.val _, PV.val _, PV.sl _ _, PV.sl _ _, PV.sl _ _, PV.sl _ _, PV.sl _ _, PV.sl _ _, PV.sl _ _, PV.sl _ _, PV.sl _ _]))]) (by exact ⟨rfl, rfl, rfl, rfl, ⟨⟩⟩) (by exact ⟨rfl, ⟨⟩⟩) ?_
        refine sw_reg ?_
        refine RunS.s1 (x := loc_const (.inr rfl) (by decide) (ok_sc rfl)) (y := ?_)
        refine sw_ret ?_
        exact (And.intro (by refine bool_eq ?_; exact hbad.symm) True.intro)
      · have sg7 := g7
        try simp only [q1, q2, q3, q4, q5, q6, q7, q8, q9] at sg7
        refine Run.step 1048575 (by exact ⟨rfl, rfl, ⟨⟩⟩) (by exact ⟨⟩) (LocG.yes rfl rfl (by decide) g7 (loc_field (by decide) fd_37_6)) nofree (by kernel_rfl) ?_
        refine Run.step 2097151 (by exact ⟨rfl, rfl, ⟨⟩⟩) (by exact ⟨rfl, ⟨⟩⟩) (LocG.yes rfl rfl (by decide) g7 (loc_load (qs := [PV.sl .v _]) (by decide) ty_23 (fun _ => rfl) (by exact Nat.le_of_ble_eq_true rfl) (by exact (ToL.cons PV.to_none ToL.nil)) (by exact (BorL.cons (PV.bor_sl _) BorL.nil)))) nofree (by kernel_rfl) ?_
        refine Run.step 1048575 (by exact ⟨rfl, rfl, ⟨⟩⟩) (by exact ⟨⟩) (LocG.yes rfl rfl (by decide) g7 (loc_field (by decide) fd_37_3)) nofree (by kernel_rfl) ?_
        refine Run.step 5242879 (by exact ⟨rfl, rfl, ⟨⟩⟩) (by exact ⟨rfl, ⟨⟩⟩) (LocG.yes rfl rfl (by decide) g7 (loc_load (qs := [PV.sl .v _]) (by decide) ty_23 (fun _ => rfl) (by exact Nat.le_of_ble_eq_true rfl) (by exact (ToL.cons PV.to_none ToL.nil)) (by exact (BorL.cons (PV.bor_sl _) BorL.nil)))) nofree (by kernel_rfl) ?_
        refine Run.step 1048575 (by exact ⟨rfl, rfl, ⟨⟩⟩) (by exact ⟨⟩) (LocG.yes rfl rfl (by decide) g7 (loc_copy (.inl rfl) (by decide) (by exact Cp.sc))) nofree (by kernel_rfl) ?_
        refine Run.step 30408703 (by exact ⟨rfl, rfl, rfl, ⟨⟩⟩) (by exact ⟨⟩) (LocG.yes rfl rfl (by decide) g7 (loc_index (k := (n).toNat) (by decide) sl_23 (by exact ⟨⟩) (by omega) (by exact getm2 (by omega) (by rw [atI_eq (by omega)])) (by exact rfl))) nofree (by kernel_rfl) ?_
        refine Run.step 63963135 (by exact ⟨rfl, rfl, ⟨⟩⟩) (by exact ⟨⟩) (LocG.yes rfl rfl (by decide) g7 (loc_eload (qs := [PV.val _]) (by decide) ty_3 (fun _ => rfl) (by exact Nat.le_of_ble_eq_true rfl) (by exact (ToL.cons (PV.To.refl _) ToL.nil)) (by exact (BorL.cons (PV.bor_val _) BorL.nil)))) nofree (by kernel_rfl) ?_
        refine Run.step 134217727 (by exact ⟨rfl, rfl, rfl, ⟨⟩⟩) (by exact ⟨⟩) (LocG.yes rfl rfl (by decide) g7 (loc_call (qs := [(false, [PV.sl _ _]), (false, [PV.val _])]) (as_ := [(false, [PV.sl .v _]), (false, [PV.val _])]) (by decide) c_51 (by exact (And.intro (by exact ⟨⟩) (And.intro (by exact ⟨⟩) True.intro))) (by exact (And.intro (And.intro rfl (ToL.cons PV.to_none ToL.nil)) (And.intro (And.intro rfl (ToL.cons (PV.To.refl _) ToL.nil)) True.intro))) (by exact spec_HasMember))) nofree (by kernel_rfl) ?_
        refine Run.step 268435455 (by exact ⟨rfl, rfl, ⟨⟩⟩) (by exact ⟨⟩) (LocG.of rfl (loc_pick (z := .tmp 57) (by decide) (by rw [g7]; rfl) (by exact ⟨⟩) (by exact ⟨⟩) (by exact Cp.sc))) nofree (by kernel_rfl) ?_
        refine Run.step 536870911 (by exact ⟨rfl, ⟨⟩⟩) (by exact ⟨⟩) (LocG.of rfl (loc_copy (.inl rfl) (by decide) (by exact Cp.sc))) nofree (by kernel_rfl) ?_
        refine Run.cases (s := 59) rfl (fun g10 => ?_) (fun g10 => ?_)
        · have sg10 := g10
          try simp only [q1, q2, q3, q4, q5, q6, q7, q8, q9] at sg10
          refine Run.step 1073741823 (by exact ⟨rfl, ⟨⟩⟩) (by exact ⟨⟩) (LocG.no (ops := _) rfl rfl (by decide) g10 rfl) nofree (by kernel_rfl) ?_
          refine Run.step 2147483647 (by exact ⟨rfl, ⟨⟩⟩) (by exact ⟨⟩) (LocG.no (ops := _) rfl rfl (by decide) g10 rfl) nofree (by kernel_rfl) ?_
          refine Run.step 1073741823 (by exact ⟨rfl, ⟨⟩⟩) (by exact ⟨⟩) (LocG.no (ops := _) rfl rfl (by decide) g10 rfl) nofree (by kernel_rfl) ?_
          refine Run.step 8589934591 (by exact ⟨rfl, ⟨⟩⟩) (by exact ⟨⟩) (LocG.no (ops := _) rfl rfl (by decide) g10 rfl) nofree (by kernel_rfl) ?_
          refine Run.step 17179869183 (by exact ⟨rfl, ⟨⟩⟩) (by exact ⟨⟩) (LocG.no (ops := _) rfl rfl (by decide) g10 rfl) nofree (by kernel_rfl) ?_
          refine Run.step 1073741823 (by exact ⟨rfl, ⟨⟩⟩) (by exact ⟨⟩) (LocG.no (ops := _) rfl rfl (by decide) g10 rfl) nofree (by kernel_rfl) ?_
          refine Run.step 68719476735 (by exact ⟨rfl, ⟨⟩⟩) (by exact ⟨⟩) (LocG.no (ops := _) rfl rfl (by decide) g10 rfl) nofree (by kernel_rfl) ?_
          refine Run.step 1073741823 (by exact ⟨rfl, ⟨⟩⟩) (by exact ⟨⟩) (LocG.no (ops := _) rfl rfl (by decide) g10 rfl) nofree (by kernel_rfl) ?_
          refine Run.step 274877906943 (by exact ⟨rfl, ⟨⟩⟩) (by exact ⟨⟩) (LocG.no (ops := _) rfl rfl (by decide) g10 rfl) nofree (by kernel_rfl) ?_
          refine Run.step 549755813887 (by exact ⟨rfl, ⟨⟩⟩) (by exact ⟨⟩) (LocG.no (ops := _) rfl rfl (by decide) g10 rfl) nofree (by kernel_rfl) ?_
          refine Run.step 1099511627775 (by exact ⟨rfl, ⟨⟩⟩) (by exact ⟨⟩) (LocG.noU (ops := _) rfl rfl rfl) nofree (by kernel_rfl) ?_
          refine Run.step 2199023255551 (by exact ⟨rfl, ⟨⟩⟩) (by exact ⟨⟩) (LocG.noU (ops := _) rfl rfl rfl) nofree (by kernel_rfl) ?_
          refine Run.step 1099511627775 (by exact ⟨rfl, ⟨⟩⟩) (by exact ⟨⟩) (LocG.noU (ops := _) rfl rfl rfl) nofree (by kernel_rfl) ?_
          refine Run.step 8796093022207 (by exact ⟨rfl, ⟨⟩⟩) (by exact ⟨⟩) (LocG.noU (ops := _) rfl rfl rfl) nofree (by kernel_rfl) ?_
          refine Run.step 17592186044415 (by exact ⟨rfl, ⟨⟩⟩) (by exact ⟨⟩) (LocG.noU (ops := _) rfl rfl rfl) nofree (by kernel_rfl) ?_
          refine Run.step 1099511627775 (by exact ⟨rfl, ⟨⟩⟩) (by exact ⟨⟩) (LocG.noU (ops := _) rfl rfl rfl) nofree (by kernel_rfl) ?_
          refine Run.step 70368744177663 (by exact ⟨rfl, ⟨⟩⟩) (by exact ⟨⟩) (LocG.noU (ops := _) rfl rfl rfl) nofree (by kernel_rfl) ?_
          refine Run.step 1099511627775 (by exact ⟨rfl, ⟨⟩⟩) (by exact ⟨⟩) (LocG.noU (ops := _) rfl rfl rfl) nofree (by kernel_rfl) ?_
          refine Run.step 281474976710655 (by exact ⟨rfl, ⟨⟩⟩) (by exact ⟨⟩) (LocG.noU (ops := _) rfl rfl rfl) nofree (by kernel_rfl) ?_
          refine Run.step 562949953421311 (by exact ⟨rfl, ⟨⟩⟩) (by exact ⟨⟩) (LocG.no (ops := _) rfl rfl (by decide) g10 rfl) nofree (by kernel_rfl) ?_
          refine Run.step 1125899906842623 (by exact ⟨rfl, ⟨⟩⟩) (by exact ⟨⟩) (LocG.of rfl (loc_pick (z := .const (.bool true)) (by decide) (by rw [g10]; rfl) (by exact ⟨⟩) (ok_sc rfl) (by exact Cp.sc))) nofree (by kernel_rfl) ?_
          refine sw_cond (t := 80) rfl (fun hb_ => ?_) (fun hb_ => nomatch hb_)
          have hbad : nodeB c n = false := by unfold nodeB; rw [if_neg (by assumption)]; simp_all; try (intros; simp_all)
          refine sw_seq ?_
          refine sw_of (l := [(1, RV.sv false [PV.val _]), (2, RV.ptr 2 0), (4, RV.sv false [PV.val _]), (5, RV.sv false [PV.val _])]) (b := [(2, (37, [PV.val _, PV.val _, PV.sl _ _, PV.sl _ _, PV.sl _ _, PV.sl _ _, PV.sl _ _, PV.sl _ _, PV.sl _ _, PV.sl _ _, PV.sl _ _]))]) (by exact ⟨rfl, rfl, rfl, rfl, ⟨⟩⟩) (by exact ⟨rfl, ⟨⟩⟩) ?_
          refine sw_reg ?_
          refine RunS.s1 (x := loc_const (.inr rfl) (by decide) (ok_sc rfl)) (y := ?_)
          refine sw_ret ?_
          exact (And.intro (by refine bool_eq ?_; exact hbad.symm) True.intro)
        · have sg10 := g10
          try simp only [q1, q2, q3, q4, q5, q6, q7, q8, q9] at sg10
          refine Run.step 1073741823 (by exact ⟨rfl, rfl, ⟨⟩⟩) (by exact ⟨⟩) (LocG.yes rfl rfl (by decide) g10 (loc_field (by decide) fd_37_3)) nofree (by kernel_rfl) ?_
          refine Run.step 2147483647 (by exact ⟨rfl, rfl, ⟨⟩⟩) (by exact ⟨rfl, ⟨⟩⟩) (LocG.yes rfl rfl (by decide) g10 (loc_load (qs := [PV.sl .v _]) (by decide) ty_23 (fun _ => rfl) (by exact Nat.le_of_ble_eq_true rfl) (by exact (ToL.cons PV.to_none ToL.nil)) (by exact (BorL.cons (PV.bor_sl _) BorL.nil)))) nofree (by kernel_rfl) ?_
          refine Run.step 1073741823 (by exact ⟨rfl, rfl, ⟨⟩⟩) (by exact ⟨⟩) (LocG.yes rfl rfl (by decide) g10 (loc_copy (.inl rfl) (by decide) (by exact Cp.sc))) nofree (by kernel_rfl) ?_
          refine Run.step 8589934591 (by exact ⟨rfl, rfl, rfl, ⟨⟩⟩) (by exact ⟨⟩) (LocG.yes rfl rfl (by decide) g10 (loc_index (k := (n).toNat) (by decide) sl_23 (by exact ⟨⟩) (by omega) (by exact getm2 (by omega) (by rw [atI_eq (by omega)])) (by exact rfl))) nofree (by kernel_rfl) ?_
          refine Run.step 17179869183 (by exact ⟨rfl, rfl, ⟨⟩⟩) (by exact ⟨⟩) (LocG.yes rfl rfl (by decide) g10 (loc_eload (qs := [PV.val _]) (by decide) ty_3 (fun _ => rfl) (by exact Nat.le_of_ble_eq_true rfl) (by exact (ToL.cons (PV.To.refl _) ToL.nil)) (by exact (BorL.cons (PV.bor_val _) BorL.nil)))) nofree (by kernel_rfl) ?_
          refine Run.step 1073741823 (by exact ⟨rfl, rfl, ⟨⟩⟩) (by exact ⟨⟩) (LocG.yes rfl rfl (by decide) g10 (loc_copy (.inl rfl) (by decide) (by exact Cp.sc))) nofree (by kernel_rfl) ?_
          refine Run.step 68719476735 (by exact ⟨rfl, rfl, rfl, ⟨⟩⟩) (by exact ⟨⟩) (LocG.yes rfl rfl (by decide) g10 (loc_call (qs := [(false, [PV.val _]), (false, [PV.val _])]) (as_ := [(false, [PV.val _]), (false, [PV.val _])]) (by decide) c_53 (by exact (And.intro (by exact ⟨⟩) (And.intro (by exact ⟨⟩) True.intro))) (by exact (And.intro (And.intro rfl (ToL.cons (PV.To.refl _) ToL.nil)) (And.intro (And.intro rfl (ToL.cons (PV.To.refl _) ToL.nil)) True.intro))) (by exact spec_HomeOf))) nofree (by kernel_rfl) ?_
          refine Run.step 1073741823 (by exact ⟨rfl, rfl, ⟨⟩⟩) (by exact ⟨⟩) (LocG.yes rfl rfl (by decide) g10 (loc_copy (.inl rfl) (by decide) (by exact Cp.sc))) nofree (by kernel_rfl) ?_
          refine Run.step 274877906943 (by exact ⟨rfl, rfl, rfl, ⟨⟩⟩) (by exact ⟨⟩) (LocG.yes rfl rfl (by decide) g10 (loc_neq (by decide) (by exact ⟨⟩) (by exact ⟨⟩))) nofree (by kernel_rfl) ?_
          refine Run.step 549755813887 (by exact ⟨rfl, rfl, ⟨⟩⟩) (by exact ⟨⟩) (LocG.yes rfl rfl (by decide) g10 (loc_copy (.inl rfl) (by decide) (by exact Cp.sc))) nofree (by kernel_rfl) ?_
          refine Run.cases (s := 69) rfl (fun g12 => ?_) (fun g12 => ?_)
          · have sg12 := g12
            try simp only [q1, q2, q3, q4, q5, q6, q7, q8, q9] at sg12
            refine Run.step 1099511627775 (by exact ⟨rfl, rfl, ⟨⟩⟩) (by exact ⟨⟩) (LocG.yes rfl rfl (by decide) g12 (loc_field (by decide) fd_37_3)) nofree (by kernel_rfl) ?_
            refine Run.step 2199023255551 (by exact ⟨rfl, rfl, ⟨⟩⟩) (by exact ⟨rfl, ⟨⟩⟩) (LocG.yes rfl rfl (by decide) g12 (loc_load (qs := [PV.sl .v _]) (by decide) ty_23 (fun _ => rfl) (by exact Nat.le_of_ble_eq_true rfl) (by exact (ToL.cons PV.to_none ToL.nil)) (by exact (BorL.cons (PV.bor_sl _) BorL.nil)))) nofree (by kernel_rfl) ?_
            refine Run.step 1099511627775 (by exact ⟨rfl, rfl, ⟨⟩⟩) (by exact ⟨⟩) (LocG.yes rfl rfl (by decide) g12 (loc_copy (.inl rfl) (by decide) (by exact Cp.sc))) nofree (by kernel_rfl) ?_
            refine Run.step 8796093022207 (by exact ⟨rfl, rfl, rfl, ⟨⟩⟩) (by exact ⟨⟩) (LocG.yes rfl rfl (by decide) g12 (loc_index (k := (n).toNat) (by decide) sl_23 (by exact ⟨⟩) (by omega) (by exact getm2 (by omega) (by rw [atI_eq (by omega)])) (by exact rfl))) nofree (by kernel_rfl) ?_
            refine Run.step 17592186044415 (by exact ⟨rfl, rfl, ⟨⟩⟩) (by exact ⟨⟩) (LocG.yes rfl rfl (by decide) g12 (loc_eload (qs := [PV.val _]) (by decide) ty_3 (fun _ => rfl) (by exact Nat.le_of_ble_eq_true rfl) (by exact (ToL.cons (PV.To.refl _) ToL.nil)) (by exact (BorL.cons (PV.bor_val _) BorL.nil)))) nofree (by kernel_rfl) ?_
            refine Run.step 1099511627775 (by exact ⟨rfl, rfl, ⟨⟩⟩) (by exact ⟨⟩) (LocG.yes rfl rfl (by decide) g12 (loc_copy (.inl rfl) (by decide) (by exact Cp.sc))) nofree (by kernel_rfl) ?_
            refine Run.step 70368744177663 (by exact ⟨rfl, rfl, rfl, ⟨⟩⟩) (by exact ⟨⟩) (LocG.yes rfl rfl (by decide) g12 (loc_call (qs := [(false, [PV.val _]), (false, [PV.val _])]) (as_ := [(false, [PV.val _]), (false, [PV.val _])]) (by decide) c_52 (by exact (And.intro (by exact ⟨⟩) (And.intro (by exact ⟨⟩) True.intro))) (by exact (And.intro (And.intro rfl (ToL.cons (PV.To.refl _) ToL.nil)) (And.intro (And.intro rfl (ToL.cons (PV.To.refl _) ToL.nil)) True.intro))) (by exact spec_BackupOf))) nofree (by kernel_rfl) ?_
            refine Run.step 1099511627775 (by exact ⟨rfl, rfl, ⟨⟩⟩) (by exact ⟨⟩) (LocG.yes rfl rfl (by decide) g12 (loc_copy (.inl rfl) (by decide) (by exact Cp.sc))) nofree (by kernel_rfl) ?_
            refine Run.step 281474976710655 (by exact ⟨rfl, rfl, rfl, ⟨⟩⟩) (by exact ⟨⟩) (LocG.yes rfl rfl (by decide) g12 (loc_neq (by decide) (by exact ⟨⟩) (by exact ⟨⟩))) nofree (by kernel_rfl) ?_
            refine Run.step 562949953421311 (by exact ⟨rfl, rfl, rfl, ⟨⟩⟩) (by exact ⟨⟩) (LocG.yes rfl rfl (by decide) g10 (loc_pick (z := .tmp 78) (by decide) (by rw [g12]; rfl) (by exact ⟨⟩) (by exact ⟨⟩) (by exact Cp.sc))) nofree (by kernel_rfl) ?_
            refine Run.step 1125899906842623 (by exact ⟨rfl, rfl, ⟨⟩⟩) (by exact ⟨⟩) (LocG.of rfl (loc_pick (z := .tmp 79) (by decide) (by rw [g10]; rfl) (by exact ⟨⟩) (by exact ⟨⟩) (by exact Cp.sc))) nofree (by kernel_rfl) ?_
            refine sw_cond (t := 80) rfl (fun hb13 => ?_) (fun hb13 => ?_)
            · try simp only [q1, q2, q3, q4, q5, q6, q7, q8, q9] at hb13
              have hbad : nodeB c n = false := by unfold nodeB; rw [if_neg (by assumption)]; simp_all; try (intros; simp_all)
              refine sw_seq ?_
              refine sw_of (l := [(1, RV.sv false [PV.val _]), (2, RV.ptr 2 0), (4, RV.sv false [PV.val _]), (5, RV.sv false [PV.val _])]) (b := [(2, (37, [PV.val _, PV.val _, PV.sl _ _, PV.sl _ _, PV.sl _ _, PV.sl _ _, PV.sl _ _, PV.sl _ _, PV.sl _ _, PV.sl _ _, PV.sl _ _]))]) (by exact ⟨rfl, rfl, rfl, rfl, ⟨⟩⟩) (by exact ⟨rfl, ⟨⟩⟩) ?_
              refine sw_reg ?_
              refine RunS.s1 (x := loc_const (.inr rfl) (by decide) (ok_sc rfl)) (y := ?_)
              refine sw_ret ?_
              exact (And.intro (by refine bool_eq ?_; exact hbad.symm) True.intro)
            · try simp only [q1, q2, q3, q4, q5, q6, q7, q8, q9] at hb13
              have hin : inB (atI c.At n) 0 ((c.Parts.length : Int) - 1) = true := by simp_all
              have hin2 := hin
              simp only [inB, Bool.and_eq_true, decide_eq_true_eq] at hin2
              refine sw_skip ?_
              refine sw_seq ?_
              refine sw_of (l := [(1, RV.sv false [PV.val _]), (2, RV.ptr 2 0), (4, RV.sv false [PV.val _]), (5, RV.sv false [PV.val _])]) (b := [(2, (37, [PV.val _, PV.val _, PV.sl _ _, PV.sl _ _, PV.sl _ _, PV.sl _ _, PV.sl _ _, PV.sl _ _, PV.sl _ _, PV.sl _ _, PV.sl _ _]))]) (by exact ⟨rfl, rfl, rfl, rfl, ⟨⟩⟩) (by exact ⟨rfl, ⟨⟩⟩) ?_
              refine sw_draw hm_ ?_
              refine Run.step 0 (by exact ⟨rfl, ⟨⟩⟩) (by exact ⟨⟩) (LocG.of rfl (loc_field (by decide) fd_37_4)) nofree (by kernel_rfl) ?_
              refine Run.step 1 (by exact ⟨rfl, ⟨⟩⟩) (by exact ⟨rfl, ⟨⟩⟩) (LocG.of rfl (loc_load (qs := [PV.sl .v _]) (by decide) ty_23 (fun _ => rfl) (by exact Nat.le_of_ble_eq_true rfl) (by exact (ToL.cons PV.to_none ToL.nil)) (by exact (BorL.cons (PV.bor_sl _) BorL.nil)))) nofree (by kernel_rfl) ?_
              refine Run.step 0 (by exact ⟨rfl, ⟨⟩⟩) (by exact ⟨⟩) (LocG.of rfl (loc_copy (.inl rfl) (by decide) (by exact Cp.sc))) nofree (by kernel_rfl) ?_
              refine Run.step 7 (by exact ⟨rfl, rfl, ⟨⟩⟩) (by exact ⟨⟩) (LocG.of rfl (loc_index (k := (n).toNat) (by decide) sl_23 (by exact ⟨⟩) (by omega) (by exact getm2 (by omega) (by rw [atI_eq (by omega)])) (by exact rfl))) nofree (by kernel_rfl) ?_
              refine Run.step 15 (by exact ⟨rfl, ⟨⟩⟩) (by exact ⟨⟩) (LocG.of rfl (loc_eload (qs := [PV.val _]) (by decide) ty_3 (fun _ => rfl) (by exact Nat.le_of_ble_eq_true rfl) (by exact (ToL.cons (PV.To.refl _) ToL.nil)) (by exact (BorL.cons (PV.bor_val _) BorL.nil)))) nofree (by kernel_rfl) ?_
              refine Run.step 0 (by exact ⟨rfl, ⟨⟩⟩) (by exact ⟨⟩) (LocG.of rfl (loc_field (by decide) fd_37_1)) nofree (by kernel_rfl) ?_
              refine Run.step 32 (by exact ⟨rfl, ⟨⟩⟩) (by exact ⟨rfl, ⟨⟩⟩) (LocG.of rfl (loc_load (qs := [PV.sl .v _]) (by decide) ty_35 (fun _ => rfl) (by exact Nat.le_of_ble_eq_true rfl) (by exact (ToL.cons PV.to_none ToL.nil)) (by exact (BorL.cons (PV.bor_sl _) BorL.nil)))) nofree (by kernel_rfl) ?_
              refine Run.step 0 (by exact ⟨rfl, ⟨⟩⟩) (by exact ⟨⟩) (LocG.of rfl (loc_field (by decide) fd_37_3)) nofree (by kernel_rfl) ?_
              refine Run.step 128 (by exact ⟨rfl, ⟨⟩⟩) (by exact ⟨rfl, ⟨⟩⟩) (LocG.of rfl (loc_load (qs := [PV.sl .v _]) (by decide) ty_23 (fun _ => rfl) (by exact Nat.le_of_ble_eq_true rfl) (by exact (ToL.cons PV.to_none ToL.nil)) (by exact (BorL.cons (PV.bor_sl _) BorL.nil)))) nofree (by kernel_rfl) ?_
              refine Run.step 0 (by exact ⟨rfl, ⟨⟩⟩) (by exact ⟨⟩) (LocG.of rfl (loc_copy (.inl rfl) (by decide) (by exact Cp.sc))) nofree (by kernel_rfl) ?_
              refine Run.step 896 (by exact ⟨rfl, rfl, ⟨⟩⟩) (by exact ⟨⟩) (LocG.of rfl (loc_index (k := (n).toNat) (by decide) sl_23 (by exact ⟨⟩) (by omega) (by exact getm2 (by omega) (by rw [atI_eq (by omega)])) (by exact rfl))) nofree (by kernel_rfl) ?_
              refine Run.step 1920 (by exact ⟨rfl, ⟨⟩⟩) (by exact ⟨⟩) (LocG.of rfl (loc_eload (qs := [PV.val _]) (by decide) ty_3 (fun _ => rfl) (by exact Nat.le_of_ble_eq_true rfl) (by exact (ToL.cons (PV.To.refl _) ToL.nil)) (by exact (BorL.cons (PV.bor_val _) BorL.nil)))) nofree (by kernel_rfl) ?_
              refine Run.step 4064 (by exact ⟨rfl, rfl, ⟨⟩⟩) (by exact ⟨⟩) (LocG.of rfl (loc_index (k := (atI c.At n).toNat) (by decide) sl_35 (by exact ⟨⟩) (by omega) (by exact getm2 (by omega) (by rw [partAt_eq (by omega)])) (by exact rfl))) nofree (by kernel_rfl) ?_
              refine Run.step 8160 (by exact ⟨rfl, ⟨⟩⟩) (by exact ⟨⟩) (LocG.of rfl (loc_eload (qs := [PV.sl .v _]) (by decide) ty_53 (fun _ => rfl) (by exact Nat.le_of_ble_eq_true rfl) (by exact (ToL.cons PV.to_none ToL.nil)) (by exact (BorL.cons (PV.bor_sl _) BorL.nil)))) nofree (by kernel_rfl) ?_
              refine Run.step 16352 (by exact ⟨rfl, ⟨⟩⟩) (by exact ⟨⟩) (LocG.of rfl (loc_len (by decide) sl_53 (by first | exact List.length_map _ | exact rfl))) nofree (by kernel_rfl) ?_
              refine Run.step 32767 (by exact ⟨rfl, rfl, ⟨⟩⟩) (by exact ⟨⟩) (LocG.of rfl (loc_call (qs := [(false, [PV.val _]), (false, [PV.val _]), (false, [PV.val _])]) (as_ := [(false, [PV.val _]), (false, [PV.val _]), (false, [PV.val _])]) (by decide) c_50 (by exact (And.intro (by exact ⟨⟩) (And.intro (ok_sc rfl) (And.intro (by exact ⟨⟩) True.intro)))) (by exact (And.intro (And.intro rfl (ToL.cons (PV.To.refl _) ToL.nil)) (And.intro (And.intro rfl (ToL.cons (PV.To.refl _) ToL.nil)) (And.intro (And.intro rfl (ToL.cons (PV.To.refl _) ToL.nil)) True.intro)))) (by exact spec_l1In))) nofree (by kernel_rfl) ?_
              refine Run.step 65535 (by exact ⟨rfl, ⟨⟩⟩) (by exact ⟨⟩) (LocG.of rfl (loc_copy (.inl rfl) (by decide) (by exact Cp.sc))) nofree (by kernel_rfl) ?_
              refine Run.cases (s := 97) rfl (fun g14 => ?_) (fun g14 => ?_)
              · have sg14 := g14
                try simp only [q1, q2, q3, q4, q5, q6, q7, q8, q9] at sg14
                refine Run.step 131071 (by exact ⟨rfl, rfl, ⟨⟩⟩) (by exact ⟨⟩) (LocG.yes rfl rfl (by decide) g14 (loc_field (by decide) fd_37_5)) nofree (by kernel_rfl) ?_
                refine Run.step 262143 (by exact ⟨rfl, rfl, ⟨⟩⟩) (by exact ⟨rfl, ⟨⟩⟩) (LocG.yes rfl rfl (by decide) g14 (loc_load (qs := [PV.sl .v _]) (by decide) ty_35 (fun _ => rfl) (by exact Nat.le_of_ble_eq_true rfl) (by exact (ToL.cons PV.to_none ToL.nil)) (by exact (BorL.cons (PV.bor_sl _) BorL.nil)))) nofree (by kernel_rfl) ?_
                refine Run.step 131071 (by exact ⟨rfl, rfl, ⟨⟩⟩) (by exact ⟨⟩) (LocG.yes rfl rfl (by decide) g14 (loc_copy (.inl rfl) (by decide) (by exact Cp.sc))) nofree (by kernel_rfl) ?_
                refine Run.step 1048575 (by exact ⟨rfl, rfl, rfl, ⟨⟩⟩) (by exact ⟨⟩) (LocG.yes rfl rfl (by decide) g14 (loc_index (k := (n).toNat) (by decide) sl_35 (by exact ⟨⟩) (by omega) (by exact getm2 (by omega) (by rw [bufAt_eq (by omega)])) (by exact rfl))) nofree (by kernel_rfl) ?_
                refine Run.step 2097151 (by exact ⟨rfl, rfl, ⟨⟩⟩) (by exact ⟨⟩) (LocG.yes rfl rfl (by decide) g14 (loc_eload (qs := [PV.sl .v _]) (by decide) ty_53 (fun _ => rfl) (by exact Nat.le_of_ble_eq_true rfl) (by exact (ToL.cons PV.to_none ToL.nil)) (by exact (BorL.cons (PV.bor_sl _) BorL.nil)))) nofree (by kernel_rfl) ?_
                refine Run.step 131071 (by exact ⟨rfl, rfl, ⟨⟩⟩) (by exact ⟨rfl, ⟨⟩⟩) (LocG.yes rfl rfl (by decide) g14 (loc_load (qs := [PV.val _, PV.val _, PV.sl .v _, PV.sl .v _, PV.sl .v _, PV.sl .v _, PV.sl .v _, PV.sl .v _, PV.sl .v _, PV.sl .v _, PV.sl .v _]) (by decide) ty_37 (fun h => nomatch h) (by exact Nat.le_of_ble_eq_true rfl) (by exact (ToL.cons (PV.To.refl _) (ToL.cons (PV.To.refl _) (ToL.cons PV.to_none (ToL.cons PV.to_none (ToL.cons PV.to_none (ToL.cons PV.to_none (ToL.cons PV.to_none (ToL.cons PV.to_none (ToL.cons PV.to_none (ToL.cons PV.to_none (ToL.cons PV.to_none ToL.nil)))))))))))) (by exact (BorL.cons (PV.bor_val _) (BorL.cons (PV.bor_val _) (BorL.cons (PV.bor_sl _) (BorL.cons (PV.bor_sl _) (BorL.cons (PV.bor_sl _) (BorL.cons (PV.bor_sl _) (BorL.cons (PV.bor_sl _) (BorL.cons (PV.bor_sl _) (BorL.cons (PV.bor_sl _) (BorL.cons (PV.bor_sl _) (BorL.cons (PV.bor_sl _) BorL.nil)))))))))))))) nofree (by kernel_rfl) ?_
                refine Run.step 131071 (by exact ⟨rfl, rfl, ⟨⟩⟩) (by exact ⟨⟩) (LocG.yes rfl rfl (by decide) g14 (loc_field (by decide) fd_37_3)) nofree (by kernel_rfl) ?_
                refine Run.step 8519679 (by exact ⟨rfl, rfl, ⟨⟩⟩) (by exact ⟨rfl, ⟨⟩⟩) (LocG.yes rfl rfl (by decide) g14 (loc_load (qs := [PV.sl .v _]) (by decide) ty_23 (fun _ => rfl) (by exact Nat.le_of_ble_eq_true rfl) (by exact (ToL.cons PV.to_none ToL.nil)) (by exact (BorL.cons (PV.bor_sl _) BorL.nil)))) nofree (by kernel_rfl) ?_
                refine Run.step 131071 (by exact ⟨rfl, rfl, ⟨⟩⟩) (by exact ⟨⟩) (LocG.yes rfl rfl (by decide) g14 (loc_copy (.inl rfl) (by decide) (by exact Cp.sc))) nofree (by kernel_rfl) ?_
                refine Run.step 58851327 (by exact ⟨rfl, rfl, rfl, ⟨⟩⟩) (by exact ⟨⟩) (LocG.yes rfl rfl (by decide) g14 (loc_index (k := (n).toNat) (by decide) sl_23 (by exact ⟨⟩) (by omega) (by exact getm2 (by omega) (by rw [atI_eq (by omega)])) (by exact rfl))) nofree (by kernel_rfl) ?_
                refine Run.step 125960191 (by exact ⟨rfl, rfl, ⟨⟩⟩) (by exact ⟨⟩) (LocG.yes rfl rfl (by decide) g14 (loc_eload (qs := [PV.val _]) (by decide) ty_3 (fun _ => rfl) (by exact Nat.le_of_ble_eq_true rfl) (by exact (ToL.cons (PV.To.refl _) ToL.nil)) (by exact (BorL.cons (PV.bor_val _) BorL.nil)))) nofree (by kernel_rfl) ?_
                refine Run.step 131071 (by exact ⟨rfl, rfl, ⟨⟩⟩) (by exact ⟨⟩) (LocG.yes rfl rfl (by decide) g14 (loc_field (by decide) fd_37_4)) nofree (by kernel_rfl) ?_
                refine Run.step 268566527 (by exact ⟨rfl, rfl, ⟨⟩⟩) (by exact ⟨rfl, ⟨⟩⟩) (LocG.yes rfl rfl (by decide) g14 (loc_load (qs := [PV.sl .v _]) (by decide) ty_23 (fun _ => rfl) (by exact Nat.le_of_ble_eq_true rfl) (by exact (ToL.cons PV.to_none ToL.nil)) (by exact (BorL.cons (PV.bor_sl _) BorL.nil)))) nofree (by kernel_rfl) ?_
                refine Run.step 131071 (by exact ⟨rfl, rfl, ⟨⟩⟩) (by exact ⟨⟩) (LocG.yes rfl rfl (by decide) g14 (loc_copy (.inl rfl) (by decide) (by exact Cp.sc))) nofree (by kernel_rfl) ?_
                refine Run.step 1879179263 (by exact ⟨rfl, rfl, rfl, ⟨⟩⟩) (by exact ⟨⟩) (LocG.yes rfl rfl (by decide) g14 (loc_index (k := (n).toNat) (by decide) sl_23 (by exact ⟨⟩) (by omega) (by exact getm2 (by omega) (by rw [atI_eq (by omega)])) (by exact rfl))) nofree (by kernel_rfl) ?_
                refine Run.step 4026662911 (by exact ⟨rfl, rfl, ⟨⟩⟩) (by exact ⟨⟩) (LocG.yes rfl rfl (by decide) g14 (loc_eload (qs := [PV.val _]) (by decide) ty_3 (fun _ => rfl) (by exact Nat.le_of_ble_eq_true rfl) (by exact (ToL.cons (PV.To.refl _) ToL.nil)) (by exact (BorL.cons (PV.bor_val _) BorL.nil)))) nofree (by kernel_rfl) ?_
                refine Run.step 8585871359 (by exact ⟨rfl, rfl, rfl, rfl, ⟨⟩⟩) (by exact ⟨⟩) (LocG.yes rfl rfl (by decide) g14 (loc_call (qs := [(true, [PV.val _, PV.val _, PV.sl _ _, PV.sl _ _, PV.sl _ _, PV.sl _ _, PV.sl _ _, PV.sl _ _, PV.sl _ _, PV.sl _ _, PV.sl _ _]), (false, [PV.val _]), (false, [PV.val _])]) (as_ := [(true, [PV.val _, PV.val _, PV.sl .v _, PV.sl .v _, PV.sl .v _, PV.sl .v _, PV.sl .v _, PV.sl .v _, PV.sl .v _, PV.sl .v _, PV.sl .v _]), (false, [PV.val _]), (false, [PV.val _])]) (by decide) c_129 (by exact (And.intro (by exact ⟨⟩) (And.intro (by exact ⟨⟩) (And.intro (by exact ⟨⟩) True.intro)))) (by exact (And.intro (And.intro rfl (ToL.cons (PV.To.refl _) (ToL.cons (PV.To.refl _) (ToL.cons PV.to_none (ToL.cons PV.to_none (ToL.cons PV.to_none (ToL.cons PV.to_none (ToL.cons PV.to_none (ToL.cons PV.to_none (ToL.cons PV.to_none (ToL.cons PV.to_none (ToL.cons PV.to_none ToL.nil)))))))))))) (And.intro (And.intro rfl (ToL.cons (PV.To.refl _) ToL.nil)) (And.intro (And.intro rfl (ToL.cons (PV.To.refl _) ToL.nil)) True.intro)))) (by exact spec_l18Found (by omega) (by first | omega | assumption)))) nofree (by kernel_rfl) ?_
                refine Run.step 17179869183 (by exact ⟨rfl, rfl, rfl, ⟨⟩⟩) (by exact ⟨⟩) (LocG.yes rfl rfl (by decide) g14 (loc_call (qs := [(false, [PV.sl _ _]), (false, [PV.sl _ _])]) (as_ := [(false, [PV.sl .v _]), (false, [PV.sl .v _])]) (by decide) c_22 (by exact (And.intro (by exact ⟨⟩) (And.intro (by exact ⟨⟩) True.intro))) (by exact (And.intro (And.intro rfl (ToL.cons PV.to_none ToL.nil)) (And.intro (And.intro rfl (ToL.cons PV.to_none ToL.nil)) True.intro))) (by exact spec_EqualRows))) nofree (by kernel_rfl) ?_
                refine Run.step 34359738367 (by exact ⟨rfl, rfl, ⟨⟩⟩) (by exact ⟨⟩) (LocG.of rfl (loc_pick (z := .tmp 115) (by decide) (by rw [g14]; rfl) (by exact ⟨⟩) (by exact ⟨⟩) (by exact Cp.sc))) nofree (by kernel_rfl) ?_
                refine Run.step 68719476735 (by exact ⟨rfl, ⟨⟩⟩) (by exact ⟨⟩) (LocG.of rfl (loc_copy (.inr rfl) (by decide) (by exact Cp.sc))) nofree (by kernel_rfl) ?_
                refine sw_ret ?_
                exact (And.intro (by refine bool_eq ?_; unfold nodeB; rw [if_neg (by assumption)]; simp_all) True.intro)
              · have sg14 := g14
                try simp only [q1, q2, q3, q4, q5, q6, q7, q8, q9] at sg14
                refine Run.step 131071 (by exact ⟨rfl, ⟨⟩⟩) (by exact ⟨⟩) (LocG.no (ops := _) rfl rfl (by decide) g14 rfl) nofree (by kernel_rfl) ?_
                refine Run.step 262143 (by exact ⟨rfl, ⟨⟩⟩) (by exact ⟨⟩) (LocG.no (ops := _) rfl rfl (by decide) g14 rfl) nofree (by kernel_rfl) ?_
                refine Run.step 131071 (by exact ⟨rfl, ⟨⟩⟩) (by exact ⟨⟩) (LocG.no (ops := _) rfl rfl (by decide) g14 rfl) nofree (by kernel_rfl) ?_
                refine Run.step 1048575 (by exact ⟨rfl, ⟨⟩⟩) (by exact ⟨⟩) (LocG.no (ops := _) rfl rfl (by decide) g14 rfl) nofree (by kernel_rfl) ?_
                refine Run.step 2097151 (by exact ⟨rfl, ⟨⟩⟩) (by exact ⟨⟩) (LocG.no (ops := _) rfl rfl (by decide) g14 rfl) nofree (by kernel_rfl) ?_
                refine Run.step 131071 (by exact ⟨rfl, ⟨⟩⟩) (by exact ⟨⟩) (LocG.no (ops := _) rfl rfl (by decide) g14 rfl) nofree (by kernel_rfl) ?_
                refine Run.step 131071 (by exact ⟨rfl, ⟨⟩⟩) (by exact ⟨⟩) (LocG.no (ops := _) rfl rfl (by decide) g14 rfl) nofree (by kernel_rfl) ?_
                refine Run.step 8519679 (by exact ⟨rfl, ⟨⟩⟩) (by exact ⟨⟩) (LocG.no (ops := _) rfl rfl (by decide) g14 rfl) nofree (by kernel_rfl) ?_
                refine Run.step 131071 (by exact ⟨rfl, ⟨⟩⟩) (by exact ⟨⟩) (LocG.no (ops := _) rfl rfl (by decide) g14 rfl) nofree (by kernel_rfl) ?_
                refine Run.step 58851327 (by exact ⟨rfl, ⟨⟩⟩) (by exact ⟨⟩) (LocG.no (ops := _) rfl rfl (by decide) g14 rfl) nofree (by kernel_rfl) ?_
                refine Run.step 125960191 (by exact ⟨rfl, ⟨⟩⟩) (by exact ⟨⟩) (LocG.no (ops := _) rfl rfl (by decide) g14 rfl) nofree (by kernel_rfl) ?_
                refine Run.step 131071 (by exact ⟨rfl, ⟨⟩⟩) (by exact ⟨⟩) (LocG.no (ops := _) rfl rfl (by decide) g14 rfl) nofree (by kernel_rfl) ?_
                refine Run.step 268566527 (by exact ⟨rfl, ⟨⟩⟩) (by exact ⟨⟩) (LocG.no (ops := _) rfl rfl (by decide) g14 rfl) nofree (by kernel_rfl) ?_
                refine Run.step 131071 (by exact ⟨rfl, ⟨⟩⟩) (by exact ⟨⟩) (LocG.no (ops := _) rfl rfl (by decide) g14 rfl) nofree (by kernel_rfl) ?_
                refine Run.step 1879179263 (by exact ⟨rfl, ⟨⟩⟩) (by exact ⟨⟩) (LocG.no (ops := _) rfl rfl (by decide) g14 rfl) nofree (by kernel_rfl) ?_
                refine Run.step 4026662911 (by exact ⟨rfl, ⟨⟩⟩) (by exact ⟨⟩) (LocG.no (ops := _) rfl rfl (by decide) g14 rfl) nofree (by kernel_rfl) ?_
                refine Run.step 8585871359 (by exact ⟨rfl, ⟨⟩⟩) (by exact ⟨⟩) (LocG.no (ops := _) rfl rfl (by decide) g14 rfl) nofree (by kernel_rfl) ?_
                refine Run.step 17179869183 (by exact ⟨rfl, ⟨⟩⟩) (by exact ⟨⟩) (LocG.no (ops := _) rfl rfl (by decide) g14 rfl) nofree (by kernel_rfl) ?_
                refine Run.step 34359738367 (by exact ⟨rfl, ⟨⟩⟩) (by exact ⟨⟩) (LocG.of rfl (loc_pick (z := .const (.bool false)) (by decide) (by rw [g14]; rfl) (by exact ⟨⟩) (ok_sc rfl) (by exact Cp.sc))) nofree (by kernel_rfl) ?_
                refine Run.step 68719476735 (by exact ⟨rfl, ⟨⟩⟩) (by exact ⟨⟩) (LocG.of rfl (loc_copy (.inr rfl) (by decide) (by exact Cp.sc))) nofree (by kernel_rfl) ?_
                refine sw_ret ?_
                exact (And.intro (by refine bool_eq ?_; unfold nodeB; rw [if_neg (by assumption)]; simp_all) True.intro)
          · have sg12 := g12
            try simp only [q1, q2, q3, q4, q5, q6, q7, q8, q9] at sg12
            refine Run.step 1099511627775 (by exact ⟨rfl, ⟨⟩⟩) (by exact ⟨⟩) (LocG.no (ops := _) rfl rfl (by decide) g12 rfl) nofree (by kernel_rfl) ?_
            refine Run.step 2199023255551 (by exact ⟨rfl, ⟨⟩⟩) (by exact ⟨⟩) (LocG.no (ops := _) rfl rfl (by decide) g12 rfl) nofree (by kernel_rfl) ?_
            refine Run.step 1099511627775 (by exact ⟨rfl, ⟨⟩⟩) (by exact ⟨⟩) (LocG.no (ops := _) rfl rfl (by decide) g12 rfl) nofree (by kernel_rfl) ?_
            refine Run.step 8796093022207 (by exact ⟨rfl, ⟨⟩⟩) (by exact ⟨⟩) (LocG.no (ops := _) rfl rfl (by decide) g12 rfl) nofree (by kernel_rfl) ?_
            refine Run.step 17592186044415 (by exact ⟨rfl, ⟨⟩⟩) (by exact ⟨⟩) (LocG.no (ops := _) rfl rfl (by decide) g12 rfl) nofree (by kernel_rfl) ?_
            refine Run.step 1099511627775 (by exact ⟨rfl, ⟨⟩⟩) (by exact ⟨⟩) (LocG.no (ops := _) rfl rfl (by decide) g12 rfl) nofree (by kernel_rfl) ?_
            refine Run.step 70368744177663 (by exact ⟨rfl, ⟨⟩⟩) (by exact ⟨⟩) (LocG.no (ops := _) rfl rfl (by decide) g12 rfl) nofree (by kernel_rfl) ?_
            refine Run.step 1099511627775 (by exact ⟨rfl, ⟨⟩⟩) (by exact ⟨⟩) (LocG.no (ops := _) rfl rfl (by decide) g12 rfl) nofree (by kernel_rfl) ?_
            refine Run.step 281474976710655 (by exact ⟨rfl, ⟨⟩⟩) (by exact ⟨⟩) (LocG.no (ops := _) rfl rfl (by decide) g12 rfl) nofree (by kernel_rfl) ?_
            refine Run.step 562949953421311 (by exact ⟨rfl, rfl, ⟨⟩⟩) (by exact ⟨⟩) (LocG.yes rfl rfl (by decide) g10 (loc_pick (z := .const (.bool false)) (by decide) (by rw [g12]; rfl) (by exact ⟨⟩) (ok_sc rfl) (by exact Cp.sc))) nofree (by kernel_rfl) ?_
            refine Run.step 1125899906842623 (by exact ⟨rfl, rfl, ⟨⟩⟩) (by exact ⟨⟩) (LocG.of rfl (loc_pick (z := .tmp 79) (by decide) (by rw [g10]; rfl) (by exact ⟨⟩) (by exact ⟨⟩) (by exact Cp.sc))) nofree (by kernel_rfl) ?_
            refine sw_cond (t := 80) rfl (fun hb_ => nomatch hb_) (fun hb_ => ?_)
            have hin : inB (atI c.At n) 0 ((c.Parts.length : Int) - 1) = true := by simp_all
            have hin2 := hin
            simp only [inB, Bool.and_eq_true, decide_eq_true_eq] at hin2
            refine sw_skip ?_
            refine sw_seq ?_
            refine sw_of (l := [(1, RV.sv false [PV.val _]), (2, RV.ptr 2 0), (4, RV.sv false [PV.val _]), (5, RV.sv false [PV.val _])]) (b := [(2, (37, [PV.val _, PV.val _, PV.sl _ _, PV.sl _ _, PV.sl _ _, PV.sl _ _, PV.sl _ _, PV.sl _ _, PV.sl _ _, PV.sl _ _, PV.sl _ _]))]) (by exact ⟨rfl, rfl, rfl, rfl, ⟨⟩⟩) (by exact ⟨rfl, ⟨⟩⟩) ?_
            refine sw_draw hm_ ?_
            refine Run.step 0 (by exact ⟨rfl, ⟨⟩⟩) (by exact ⟨⟩) (LocG.of rfl (loc_field (by decide) fd_37_4)) nofree (by kernel_rfl) ?_
            refine Run.step 1 (by exact ⟨rfl, ⟨⟩⟩) (by exact ⟨rfl, ⟨⟩⟩) (LocG.of rfl (loc_load (qs := [PV.sl .v _]) (by decide) ty_23 (fun _ => rfl) (by exact Nat.le_of_ble_eq_true rfl) (by exact (ToL.cons PV.to_none ToL.nil)) (by exact (BorL.cons (PV.bor_sl _) BorL.nil)))) nofree (by kernel_rfl) ?_
            refine Run.step 0 (by exact ⟨rfl, ⟨⟩⟩) (by exact ⟨⟩) (LocG.of rfl (loc_copy (.inl rfl) (by decide) (by exact Cp.sc))) nofree (by kernel_rfl) ?_
            refine Run.step 7 (by exact ⟨rfl, rfl, ⟨⟩⟩) (by exact ⟨⟩) (LocG.of rfl (loc_index (k := (n).toNat) (by decide) sl_23 (by exact ⟨⟩) (by omega) (by exact getm2 (by omega) (by rw [atI_eq (by omega)])) (by exact rfl))) nofree (by kernel_rfl) ?_
            refine Run.step 15 (by exact ⟨rfl, ⟨⟩⟩) (by exact ⟨⟩) (LocG.of rfl (loc_eload (qs := [PV.val _]) (by decide) ty_3 (fun _ => rfl) (by exact Nat.le_of_ble_eq_true rfl) (by exact (ToL.cons (PV.To.refl _) ToL.nil)) (by exact (BorL.cons (PV.bor_val _) BorL.nil)))) nofree (by kernel_rfl) ?_
            refine Run.step 0 (by exact ⟨rfl, ⟨⟩⟩) (by exact ⟨⟩) (LocG.of rfl (loc_field (by decide) fd_37_1)) nofree (by kernel_rfl) ?_
            refine Run.step 32 (by exact ⟨rfl, ⟨⟩⟩) (by exact ⟨rfl, ⟨⟩⟩) (LocG.of rfl (loc_load (qs := [PV.sl .v _]) (by decide) ty_35 (fun _ => rfl) (by exact Nat.le_of_ble_eq_true rfl) (by exact (ToL.cons PV.to_none ToL.nil)) (by exact (BorL.cons (PV.bor_sl _) BorL.nil)))) nofree (by kernel_rfl) ?_
            refine Run.step 0 (by exact ⟨rfl, ⟨⟩⟩) (by exact ⟨⟩) (LocG.of rfl (loc_field (by decide) fd_37_3)) nofree (by kernel_rfl) ?_
            refine Run.step 128 (by exact ⟨rfl, ⟨⟩⟩) (by exact ⟨rfl, ⟨⟩⟩) (LocG.of rfl (loc_load (qs := [PV.sl .v _]) (by decide) ty_23 (fun _ => rfl) (by exact Nat.le_of_ble_eq_true rfl) (by exact (ToL.cons PV.to_none ToL.nil)) (by exact (BorL.cons (PV.bor_sl _) BorL.nil)))) nofree (by kernel_rfl) ?_
            refine Run.step 0 (by exact ⟨rfl, ⟨⟩⟩) (by exact ⟨⟩) (LocG.of rfl (loc_copy (.inl rfl) (by decide) (by exact Cp.sc))) nofree (by kernel_rfl) ?_
            refine Run.step 896 (by exact ⟨rfl, rfl, ⟨⟩⟩) (by exact ⟨⟩) (LocG.of rfl (loc_index (k := (n).toNat) (by decide) sl_23 (by exact ⟨⟩) (by omega) (by exact getm2 (by omega) (by rw [atI_eq (by omega)])) (by exact rfl))) nofree (by kernel_rfl) ?_
            refine Run.step 1920 (by exact ⟨rfl, ⟨⟩⟩) (by exact ⟨⟩) (LocG.of rfl (loc_eload (qs := [PV.val _]) (by decide) ty_3 (fun _ => rfl) (by exact Nat.le_of_ble_eq_true rfl) (by exact (ToL.cons (PV.To.refl _) ToL.nil)) (by exact (BorL.cons (PV.bor_val _) BorL.nil)))) nofree (by kernel_rfl) ?_
            refine Run.step 4064 (by exact ⟨rfl, rfl, ⟨⟩⟩) (by exact ⟨⟩) (LocG.of rfl (loc_index (k := (atI c.At n).toNat) (by decide) sl_35 (by exact ⟨⟩) (by omega) (by exact getm2 (by omega) (by rw [partAt_eq (by omega)])) (by exact rfl))) nofree (by kernel_rfl) ?_
            refine Run.step 8160 (by exact ⟨rfl, ⟨⟩⟩) (by exact ⟨⟩) (LocG.of rfl (loc_eload (qs := [PV.sl .v _]) (by decide) ty_53 (fun _ => rfl) (by exact Nat.le_of_ble_eq_true rfl) (by exact (ToL.cons PV.to_none ToL.nil)) (by exact (BorL.cons (PV.bor_sl _) BorL.nil)))) nofree (by kernel_rfl) ?_
            refine Run.step 16352 (by exact ⟨rfl, ⟨⟩⟩) (by exact ⟨⟩) (LocG.of rfl (loc_len (by decide) sl_53 (by first | exact List.length_map _ | exact rfl))) nofree (by kernel_rfl) ?_
            refine Run.step 32767 (by exact ⟨rfl, rfl, ⟨⟩⟩) (by exact ⟨⟩) (LocG.of rfl (loc_call (qs := [(false, [PV.val _]), (false, [PV.val _]), (false, [PV.val _])]) (as_ := [(false, [PV.val _]), (false, [PV.val _]), (false, [PV.val _])]) (by decide) c_50 (by exact (And.intro (by exact ⟨⟩) (And.intro (ok_sc rfl) (And.intro (by exact ⟨⟩) True.intro)))) (by exact (And.intro (And.intro rfl (ToL.cons (PV.To.refl _) ToL.nil)) (And.intro (And.intro rfl (ToL.cons (PV.To.refl _) ToL.nil)) (And.intro (And.intro rfl (ToL.cons (PV.To.refl _) ToL.nil)) True.intro)))) (by exact spec_l1In))) nofree (by kernel_rfl) ?_
            refine Run.step 65535 (by exact ⟨rfl, ⟨⟩⟩) (by exact ⟨⟩) (LocG.of rfl (loc_copy (.inl rfl) (by decide) (by exact Cp.sc))) nofree (by kernel_rfl) ?_
            refine Run.cases (s := 97) rfl (fun g16 => ?_) (fun g16 => ?_)
            · have sg16 := g16
              try simp only [q1, q2, q3, q4, q5, q6, q7, q8, q9] at sg16
              refine Run.step 131071 (by exact ⟨rfl, rfl, ⟨⟩⟩) (by exact ⟨⟩) (LocG.yes rfl rfl (by decide) g16 (loc_field (by decide) fd_37_5)) nofree (by kernel_rfl) ?_
              refine Run.step 262143 (by exact ⟨rfl, rfl, ⟨⟩⟩) (by exact ⟨rfl, ⟨⟩⟩) (LocG.yes rfl rfl (by decide) g16 (loc_load (qs := [PV.sl .v _]) (by decide) ty_35 (fun _ => rfl) (by exact Nat.le_of_ble_eq_true rfl) (by exact (ToL.cons PV.to_none ToL.nil)) (by exact (BorL.cons (PV.bor_sl _) BorL.nil)))) nofree (by kernel_rfl) ?_
              refine Run.step 131071 (by exact ⟨rfl, rfl, ⟨⟩⟩) (by exact ⟨⟩) (LocG.yes rfl rfl (by decide) g16 (loc_copy (.inl rfl) (by decide) (by exact Cp.sc))) nofree (by kernel_rfl) ?_
              refine Run.step 1048575 (by exact ⟨rfl, rfl, rfl, ⟨⟩⟩) (by exact ⟨⟩) (LocG.yes rfl rfl (by decide) g16 (loc_index (k := (n).toNat) (by decide) sl_35 (by exact ⟨⟩) (by omega) (by exact getm2 (by omega) (by rw [bufAt_eq (by omega)])) (by exact rfl))) nofree (by kernel_rfl) ?_
              refine Run.step 2097151 (by exact ⟨rfl, rfl, ⟨⟩⟩) (by exact ⟨⟩) (LocG.yes rfl rfl (by decide) g16 (loc_eload (qs := [PV.sl .v _]) (by decide) ty_53 (fun _ => rfl) (by exact Nat.le_of_ble_eq_true rfl) (by exact (ToL.cons PV.to_none ToL.nil)) (by exact (BorL.cons (PV.bor_sl _) BorL.nil)))) nofree (by kernel_rfl) ?_
              refine Run.step 131071 (by exact ⟨rfl, rfl, ⟨⟩⟩) (by exact ⟨rfl, ⟨⟩⟩) (LocG.yes rfl rfl (by decide) g16 (loc_load (qs := [PV.val _, PV.val _, PV.sl .v _, PV.sl .v _, PV.sl .v _, PV.sl .v _, PV.sl .v _, PV.sl .v _, PV.sl .v _, PV.sl .v _, PV.sl .v _]) (by decide) ty_37 (fun h => nomatch h) (by exact Nat.le_of_ble_eq_true rfl) (by exact (ToL.cons (PV.To.refl _) (ToL.cons (PV.To.refl _) (ToL.cons PV.to_none (ToL.cons PV.to_none (ToL.cons PV.to_none (ToL.cons PV.to_none (ToL.cons PV.to_none (ToL.cons PV.to_none (ToL.cons PV.to_none (ToL.cons PV.to_none (ToL.cons PV.to_none ToL.nil)))))))))))) (by exact (BorL.cons (PV.bor_val _) (BorL.cons (PV.bor_val _) (BorL.cons (PV.bor_sl _) (BorL.cons (PV.bor_sl _) (BorL.cons (PV.bor_sl _) (BorL.cons (PV.bor_sl _) (BorL.cons (PV.bor_sl _) (BorL.cons (PV.bor_sl _) (BorL.cons (PV.bor_sl _) (BorL.cons (PV.bor_sl _) (BorL.cons (PV.bor_sl _) BorL.nil)))))))))))))) nofree (by kernel_rfl) ?_
              refine Run.step 131071 (by exact ⟨rfl, rfl, ⟨⟩⟩) (by exact ⟨⟩) (LocG.yes rfl rfl (by decide) g16 (loc_field (by decide) fd_37_3)) nofree (by kernel_rfl) ?_
              refine Run.step 8519679 (by exact ⟨rfl, rfl, ⟨⟩⟩) (by exact ⟨rfl, ⟨⟩⟩) (LocG.yes rfl rfl (by decide) g16 (loc_load (qs := [PV.sl .v _]) (by decide) ty_23 (fun _ => rfl) (by exact Nat.le_of_ble_eq_true rfl) (by exact (ToL.cons PV.to_none ToL.nil)) (by exact (BorL.cons (PV.bor_sl _) BorL.nil)))) nofree (by kernel_rfl) ?_
              refine Run.step 131071 (by exact ⟨rfl, rfl, ⟨⟩⟩) (by exact ⟨⟩) (LocG.yes rfl rfl (by decide) g16 (loc_copy (.inl rfl) (by decide) (by exact Cp.sc))) nofree (by kernel_rfl) ?_
              refine Run.step 58851327 (by exact ⟨rfl, rfl, rfl, ⟨⟩⟩) (by exact ⟨⟩) (LocG.yes rfl rfl (by decide) g16 (loc_index (k := (n).toNat) (by decide) sl_23 (by exact ⟨⟩) (by omega) (by exact getm2 (by omega) (by rw [atI_eq (by omega)])) (by exact rfl))) nofree (by kernel_rfl) ?_
              refine Run.step 125960191 (by exact ⟨rfl, rfl, ⟨⟩⟩) (by exact ⟨⟩) (LocG.yes rfl rfl (by decide) g16 (loc_eload (qs := [PV.val _]) (by decide) ty_3 (fun _ => rfl) (by exact Nat.le_of_ble_eq_true rfl) (by exact (ToL.cons (PV.To.refl _) ToL.nil)) (by exact (BorL.cons (PV.bor_val _) BorL.nil)))) nofree (by kernel_rfl) ?_
              refine Run.step 131071 (by exact ⟨rfl, rfl, ⟨⟩⟩) (by exact ⟨⟩) (LocG.yes rfl rfl (by decide) g16 (loc_field (by decide) fd_37_4)) nofree (by kernel_rfl) ?_
              refine Run.step 268566527 (by exact ⟨rfl, rfl, ⟨⟩⟩) (by exact ⟨rfl, ⟨⟩⟩) (LocG.yes rfl rfl (by decide) g16 (loc_load (qs := [PV.sl .v _]) (by decide) ty_23 (fun _ => rfl) (by exact Nat.le_of_ble_eq_true rfl) (by exact (ToL.cons PV.to_none ToL.nil)) (by exact (BorL.cons (PV.bor_sl _) BorL.nil)))) nofree (by kernel_rfl) ?_
              refine Run.step 131071 (by exact ⟨rfl, rfl, ⟨⟩⟩) (by exact ⟨⟩) (LocG.yes rfl rfl (by decide) g16 (loc_copy (.inl rfl) (by decide) (by exact Cp.sc))) nofree (by kernel_rfl) ?_
              refine Run.step 1879179263 (by exact ⟨rfl, rfl, rfl, ⟨⟩⟩) (by exact ⟨⟩) (LocG.yes rfl rfl (by decide) g16 (loc_index (k := (n).toNat) (by decide) sl_23 (by exact ⟨⟩) (by omega) (by exact getm2 (by omega) (by rw [atI_eq (by omega)])) (by exact rfl))) nofree (by kernel_rfl) ?_
              refine Run.step 4026662911 (by exact ⟨rfl, rfl, ⟨⟩⟩) (by exact ⟨⟩) (LocG.yes rfl rfl (by decide) g16 (loc_eload (qs := [PV.val _]) (by decide) ty_3 (fun _ => rfl) (by exact Nat.le_of_ble_eq_true rfl) (by exact (ToL.cons (PV.To.refl _) ToL.nil)) (by exact (BorL.cons (PV.bor_val _) BorL.nil)))) nofree (by kernel_rfl) ?_
              refine Run.step 8585871359 (by exact ⟨rfl, rfl, rfl, rfl, ⟨⟩⟩) (by exact ⟨⟩) (LocG.yes rfl rfl (by decide) g16 (loc_call (qs := [(true, [PV.val _, PV.val _, PV.sl _ _, PV.sl _ _, PV.sl _ _, PV.sl _ _, PV.sl _ _, PV.sl _ _, PV.sl _ _, PV.sl _ _, PV.sl _ _]), (false, [PV.val _]), (false, [PV.val _])]) (as_ := [(true, [PV.val _, PV.val _, PV.sl .v _, PV.sl .v _, PV.sl .v _, PV.sl .v _, PV.sl .v _, PV.sl .v _, PV.sl .v _, PV.sl .v _, PV.sl .v _]), (false, [PV.val _]), (false, [PV.val _])]) (by decide) c_129 (by exact (And.intro (by exact ⟨⟩) (And.intro (by exact ⟨⟩) (And.intro (by exact ⟨⟩) True.intro)))) (by exact (And.intro (And.intro rfl (ToL.cons (PV.To.refl _) (ToL.cons (PV.To.refl _) (ToL.cons PV.to_none (ToL.cons PV.to_none (ToL.cons PV.to_none (ToL.cons PV.to_none (ToL.cons PV.to_none (ToL.cons PV.to_none (ToL.cons PV.to_none (ToL.cons PV.to_none (ToL.cons PV.to_none ToL.nil)))))))))))) (And.intro (And.intro rfl (ToL.cons (PV.To.refl _) ToL.nil)) (And.intro (And.intro rfl (ToL.cons (PV.To.refl _) ToL.nil)) True.intro)))) (by exact spec_l18Found (by omega) (by first | omega | assumption)))) nofree (by kernel_rfl) ?_
              refine Run.step 17179869183 (by exact ⟨rfl, rfl, rfl, ⟨⟩⟩) (by exact ⟨⟩) (LocG.yes rfl rfl (by decide) g16 (loc_call (qs := [(false, [PV.sl _ _]), (false, [PV.sl _ _])]) (as_ := [(false, [PV.sl .v _]), (false, [PV.sl .v _])]) (by decide) c_22 (by exact (And.intro (by exact ⟨⟩) (And.intro (by exact ⟨⟩) True.intro))) (by exact (And.intro (And.intro rfl (ToL.cons PV.to_none ToL.nil)) (And.intro (And.intro rfl (ToL.cons PV.to_none ToL.nil)) True.intro))) (by exact spec_EqualRows))) nofree (by kernel_rfl) ?_
              refine Run.step 34359738367 (by exact ⟨rfl, rfl, ⟨⟩⟩) (by exact ⟨⟩) (LocG.of rfl (loc_pick (z := .tmp 115) (by decide) (by rw [g16]; rfl) (by exact ⟨⟩) (by exact ⟨⟩) (by exact Cp.sc))) nofree (by kernel_rfl) ?_
              refine Run.step 68719476735 (by exact ⟨rfl, ⟨⟩⟩) (by exact ⟨⟩) (LocG.of rfl (loc_copy (.inr rfl) (by decide) (by exact Cp.sc))) nofree (by kernel_rfl) ?_
              refine sw_ret ?_
              exact (And.intro (by refine bool_eq ?_; unfold nodeB; rw [if_neg (by assumption)]; simp_all) True.intro)
            · have sg16 := g16
              try simp only [q1, q2, q3, q4, q5, q6, q7, q8, q9] at sg16
              refine Run.step 131071 (by exact ⟨rfl, ⟨⟩⟩) (by exact ⟨⟩) (LocG.no (ops := _) rfl rfl (by decide) g16 rfl) nofree (by kernel_rfl) ?_
              refine Run.step 262143 (by exact ⟨rfl, ⟨⟩⟩) (by exact ⟨⟩) (LocG.no (ops := _) rfl rfl (by decide) g16 rfl) nofree (by kernel_rfl) ?_
              refine Run.step 131071 (by exact ⟨rfl, ⟨⟩⟩) (by exact ⟨⟩) (LocG.no (ops := _) rfl rfl (by decide) g16 rfl) nofree (by kernel_rfl) ?_
              refine Run.step 1048575 (by exact ⟨rfl, ⟨⟩⟩) (by exact ⟨⟩) (LocG.no (ops := _) rfl rfl (by decide) g16 rfl) nofree (by kernel_rfl) ?_
              refine Run.step 2097151 (by exact ⟨rfl, ⟨⟩⟩) (by exact ⟨⟩) (LocG.no (ops := _) rfl rfl (by decide) g16 rfl) nofree (by kernel_rfl) ?_
              refine Run.step 131071 (by exact ⟨rfl, ⟨⟩⟩) (by exact ⟨⟩) (LocG.no (ops := _) rfl rfl (by decide) g16 rfl) nofree (by kernel_rfl) ?_
              refine Run.step 131071 (by exact ⟨rfl, ⟨⟩⟩) (by exact ⟨⟩) (LocG.no (ops := _) rfl rfl (by decide) g16 rfl) nofree (by kernel_rfl) ?_
              refine Run.step 8519679 (by exact ⟨rfl, ⟨⟩⟩) (by exact ⟨⟩) (LocG.no (ops := _) rfl rfl (by decide) g16 rfl) nofree (by kernel_rfl) ?_
              refine Run.step 131071 (by exact ⟨rfl, ⟨⟩⟩) (by exact ⟨⟩) (LocG.no (ops := _) rfl rfl (by decide) g16 rfl) nofree (by kernel_rfl) ?_
              refine Run.step 58851327 (by exact ⟨rfl, ⟨⟩⟩) (by exact ⟨⟩) (LocG.no (ops := _) rfl rfl (by decide) g16 rfl) nofree (by kernel_rfl) ?_
              refine Run.step 125960191 (by exact ⟨rfl, ⟨⟩⟩) (by exact ⟨⟩) (LocG.no (ops := _) rfl rfl (by decide) g16 rfl) nofree (by kernel_rfl) ?_
              refine Run.step 131071 (by exact ⟨rfl, ⟨⟩⟩) (by exact ⟨⟩) (LocG.no (ops := _) rfl rfl (by decide) g16 rfl) nofree (by kernel_rfl) ?_
              refine Run.step 268566527 (by exact ⟨rfl, ⟨⟩⟩) (by exact ⟨⟩) (LocG.no (ops := _) rfl rfl (by decide) g16 rfl) nofree (by kernel_rfl) ?_
              refine Run.step 131071 (by exact ⟨rfl, ⟨⟩⟩) (by exact ⟨⟩) (LocG.no (ops := _) rfl rfl (by decide) g16 rfl) nofree (by kernel_rfl) ?_
              refine Run.step 1879179263 (by exact ⟨rfl, ⟨⟩⟩) (by exact ⟨⟩) (LocG.no (ops := _) rfl rfl (by decide) g16 rfl) nofree (by kernel_rfl) ?_
              refine Run.step 4026662911 (by exact ⟨rfl, ⟨⟩⟩) (by exact ⟨⟩) (LocG.no (ops := _) rfl rfl (by decide) g16 rfl) nofree (by kernel_rfl) ?_
              refine Run.step 8585871359 (by exact ⟨rfl, ⟨⟩⟩) (by exact ⟨⟩) (LocG.no (ops := _) rfl rfl (by decide) g16 rfl) nofree (by kernel_rfl) ?_
              refine Run.step 17179869183 (by exact ⟨rfl, ⟨⟩⟩) (by exact ⟨⟩) (LocG.no (ops := _) rfl rfl (by decide) g16 rfl) nofree (by kernel_rfl) ?_
              refine Run.step 34359738367 (by exact ⟨rfl, ⟨⟩⟩) (by exact ⟨⟩) (LocG.of rfl (loc_pick (z := .const (.bool false)) (by decide) (by rw [g16]; rfl) (by exact ⟨⟩) (ok_sc rfl) (by exact Cp.sc))) nofree (by kernel_rfl) ?_
              refine Run.step 68719476735 (by exact ⟨rfl, ⟨⟩⟩) (by exact ⟨⟩) (LocG.of rfl (loc_copy (.inr rfl) (by decide) (by exact Cp.sc))) nofree (by kernel_rfl) ?_
              refine sw_ret ?_
              exact (And.intro (by refine bool_eq ?_; unfold nodeB; rw [if_neg (by assumption)]; simp_all) True.intro)
theorem impl_nodeOk {p3 p4 p9 p10 p13 p14 : Fl} {c : Cluster} {n : Int}  (hn : 0 ≤ n ∧ n.toNat < c.Up.length) (hl : c.At.length = c.Up.length ∧ c.Pos.length = c.Up.length ∧ c.Buffer.length = c.Up.length) (hb : wtRowSS c.Parts ≤ 68719476736) : SCall Try.prog 175 [(true, [PV.val (vI c.Query.Id), PV.val (vI c.Query.Tenant), PV.sl .v (c.Query.Conds.map cCond), PV.sl .v (c.Query.Out.map cInt), PV.sl .v (c.Parts.map (cRowS p3 p4)), PV.sl .v (c.Up.map cBool), PV.sl .v (c.At.map cInt), PV.sl .v (c.Pos.map cInt), PV.sl .v (c.Buffer.map (cRowS p9 p10)), PV.sl .v (c.Done.map cInt), PV.sl .v (c.Rows.map (cRowS p13 p14))]), (false, [PV.val (vI n)])] (resRV [(false, [PV.val (.bool (nodeI c n))])]) := by
  refine scall_of (rs := [(false, [PV.val (.bool (nodeI c n))])]) Try.func175 rfl (Nat.le_of_ble_eq_true rfl) (borA_cons (BorL.cons (PV.bor_val _) (BorL.cons (PV.bor_val _) (BorL.cons (PV.bor_sl _) (BorL.cons (PV.bor_sl _) (BorL.cons (PV.bor_sl _) (BorL.cons (PV.bor_sl _) (BorL.cons (PV.bor_sl _) (BorL.cons (PV.bor_sl _) (BorL.cons (PV.bor_sl _) (BorL.cons (PV.bor_sl _) (BorL.cons (PV.bor_sl _) BorL.nil))))))))))) (borA_cons (BorL.cons (PV.bor_val _) BorL.nil) borA_nil)) ?_
  intro h0 w0 Fz0
  refine sw_slen (s := 0) (j := 2) rfl rfl fun hl0_2 => ?_
  try rw [List.length_map] at hl0_2
  refine sw_slen (s := 0) (j := 3) rfl rfl fun hl0_3 => ?_
  try rw [List.length_map] at hl0_3
  refine sw_slen (s := 0) (j := 4) rfl rfl fun hl0_4 => ?_
  try rw [List.length_map] at hl0_4
  refine sw_slen (s := 0) (j := 5) rfl rfl fun hl0_5 => ?_
  try rw [List.length_map] at hl0_5
  refine sw_slen (s := 0) (j := 6) rfl rfl fun hl0_6 => ?_
  try rw [List.length_map] at hl0_6
  refine sw_slen (s := 0) (j := 7) rfl rfl fun hl0_7 => ?_
  try rw [List.length_map] at hl0_7
  refine sw_slen (s := 0) (j := 8) rfl rfl fun hl0_8 => ?_
  try rw [List.length_map] at hl0_8
  refine sw_slen (s := 0) (j := 9) rfl rfl fun hl0_9 => ?_
  try rw [List.length_map] at hl0_9
  refine sw_slen (s := 0) (j := 10) rfl rfl fun hl0_10 => ?_
  try rw [List.length_map] at hl0_10
  have hwp := part_wt (s := atI c.At n) hb
  have hwt := take_wt (k := (atI c.Pos n).toNat) hwp
  refine sw_seq ?_
  refine sw_reg ?_
  refine RunS.step (by exact ⟨rfl, ⟨⟩⟩) (by exact ⟨⟩) (LocG.of rfl (loc_box (ag := true) (cs := [PV.val _, PV.val _, PV.sl _ _, PV.sl _ _, PV.sl _ _, PV.sl _ _, PV.sl _ _, PV.sl _ _, PV.sl _ _, PV.sl _ _, PV.sl _ _]) (by decide) (by exact ⟨⟩))) (free1 (Free.of_ rfl)) ?_
  refine RunS.s1 (x := loc_const (.inr rfl) (by decide) (ok_sc rfl)) (y := ?_)
  refine sw_seq ?_
  refine sw_of (l := [(1, RV.sv false [PV.val _]), (2, RV.ptr 2 0), (4, RV.sv false [PV.val _])]) (b := [(2, (37, [PV.val _, PV.val _, PV.sl _ _, PV.sl _ _, PV.sl _ _, PV.sl _ _, PV.sl _ _, PV.sl _ _, PV.sl _ _, PV.sl _ _, PV.sl _ _]))]) (by exact ⟨rfl, rfl, rfl, ⟨⟩⟩) (by exact ⟨rfl, ⟨⟩⟩) ?_
  refine sw_reg ?_
  refine RunS.s1 (x := loc_field (by decide) fd_37_3) (y := ?_)
  refine RunS.s1 (x := loc_load (qs := [PV.sl .v _]) (by decide) ty_23 (fun _ => rfl) (by exact Nat.le_of_ble_eq_true rfl) (by exact (ToL.cons PV.to_none ToL.nil)) (by exact (BorL.cons (PV.bor_sl _) BorL.nil))) (y := ?_)
  refine RunS.s1 (x := loc_copy (.inl rfl) (by decide) (by exact Cp.sc)) (y := ?_)
  refine RunS.s1 (x := loc_index (k := (n).toNat) (by decide) sl_23 (by exact ⟨⟩) (by omega) (by exact getm2 (by omega) (by rw [atI_eq (by omega)])) (by exact rfl)) (y := ?_)
  refine RunS.s1 (x := loc_eload (qs := [PV.val _]) (by decide) ty_3 (fun _ => rfl) (by exact Nat.le_of_ble_eq_true rfl) (by exact (ToL.cons (PV.To.refl _) ToL.nil)) (by exact (BorL.cons (PV.bor_val _) BorL.nil))) (y := ?_)
  refine RunS.s1 (x := loc_copy (.inr rfl) (by decide) (by exact Cp.sc)) (y := ?_)
  refine sw_seq ?_
  refine sw_seq ?_
  refine sw_of (l := [(1, RV.sv false [PV.val _]), (2, RV.ptr 2 0), (4, RV.sv false [PV.val _]), (5, RV.sv false [PV.val _])]) (b := [(2, (37, [PV.val _, PV.val _, PV.sl _ _, PV.sl _ _, PV.sl _ _, PV.sl _ _, PV.sl _ _, PV.sl _ _, PV.sl _ _, PV.sl _ _, PV.sl _ _]))]) (by exact ⟨rfl, rfl, rfl, rfl, ⟨⟩⟩) (by exact ⟨rfl, ⟨⟩⟩) ?_
  refine sw_reg ?_
  refine RunS.s1 (x := loc_copy (.inl rfl) (by decide) (by exact Cp.sc)) (y := ?_)
  refine RunS.s1 (x := loc_eql (by decide) (by exact ⟨⟩) (ok_sc rfl)) (y := ?_)
  refine sw_cond (t := 14) rfl (fun hb1 => ?_) (fun hb1 => ?_)
  · try simp only [q1, q2, q3, q4, q5, q6, q7, q8, q9] at hb1
    refine sw_seq ?_
    refine sw_of (l := [(1, RV.sv false [PV.val _]), (2, RV.ptr 2 0), (4, RV.sv false [PV.val _]), (5, RV.sv false [PV.val _])]) (b := [(2, (37, [PV.val _, PV.val _, PV.sl _ _, PV.sl _ _, PV.sl _ _, PV.sl _ _, PV.sl _ _, PV.sl _ _, PV.sl _ _, PV.sl _ _, PV.sl _ _]))]) (by exact ⟨rfl, rfl, rfl, rfl, ⟨⟩⟩) (by exact ⟨rfl, ⟨⟩⟩) ?_
    refine sw_reg ?_
    refine RunS.s1 (x := loc_field (by decide) fd_37_4) (y := ?_)
    refine RunS.s1 (x := loc_load (qs := [PV.sl .v _]) (by decide) ty_23 (fun _ => rfl) (by exact Nat.le_of_ble_eq_true rfl) (by exact (ToL.cons PV.to_none ToL.nil)) (by exact (BorL.cons (PV.bor_sl _) BorL.nil))) (y := ?_)
    refine RunS.s1 (x := loc_copy (.inl rfl) (by decide) (by exact Cp.sc)) (y := ?_)
    refine RunS.s1 (x := loc_index (k := (n).toNat) (by decide) sl_23 (by exact ⟨⟩) (by omega) (by exact getm2 (by omega) (by rw [atI_eq (by omega)])) (by exact rfl)) (y := ?_)
    refine RunS.s1 (x := loc_eload (qs := [PV.val _]) (by decide) ty_3 (fun _ => rfl) (by exact Nat.le_of_ble_eq_true rfl) (by exact (ToL.cons (PV.To.refl _) ToL.nil)) (by exact (BorL.cons (PV.bor_val _) BorL.nil))) (y := ?_)
    refine RunS.s1 (x := loc_eql (by decide) (by exact ⟨⟩) (ok_sc rfl)) (y := ?_)
    refine RunS.s1 (x := loc_copy (.inl rfl) (by decide) (by exact Cp.sc)) (y := ?_)
    refine RunS.cases (s := 21) rfl (fun g2 => ?_) (fun g2 => ?_)
    · have sg2 := g2
      try simp only [q1, q2, q3, q4, q5, q6, q7, q8, q9] at sg2
      refine RunS.s2 (hb := g2) (x := loc_field (by decide) fd_37_5) (y := ?_)
      refine RunS.s2 (hb := g2) (x := loc_load (qs := [PV.sl .v _]) (by decide) ty_35 (fun _ => rfl) (by exact Nat.le_of_ble_eq_true rfl) (by exact (ToL.cons PV.to_none ToL.nil)) (by exact (BorL.cons (PV.bor_sl _) BorL.nil))) (y := ?_)
      refine RunS.s2 (hb := g2) (x := loc_copy (.inl rfl) (by decide) (by exact Cp.sc)) (y := ?_)
      refine RunS.s2 (hb := g2) (x := loc_index (k := (n).toNat) (by decide) sl_35 (by exact ⟨⟩) (by omega) (by exact getm2 (by omega) (by rw [bufAt_eq (by omega)])) (by exact rfl)) (y := ?_)
      refine RunS.s2 (hb := g2) (x := loc_eload (qs := [PV.sl .v _]) (by decide) ty_53 (fun _ => rfl) (by exact Nat.le_of_ble_eq_true rfl) (by exact (ToL.cons PV.to_none ToL.nil)) (by exact (BorL.cons (PV.bor_sl _) BorL.nil))) (y := ?_)
      refine RunS.s2 (hb := g2) (x := loc_len (by decide) sl_53 (by first | exact List.length_map _ | exact rfl)) (y := ?_)
      refine RunS.s2 (hb := g2) (x := loc_eql (by decide) (by exact ⟨⟩) (ok_sc rfl)) (y := ?_)
      refine RunS.s1 (x := loc_pick (z := .tmp 28) (by decide) (by rw [g2]; rfl) (by exact ⟨⟩) (by exact ⟨⟩) (by exact Cp.sc)) (y := ?_)
      refine RunS.s1 (x := loc_copy (.inr rfl) (by decide) (by exact Cp.sc)) (y := ?_)
      refine sw_ret ?_
      exact (And.intro (by refine bool_eq ?_; unfold nodeI nodeB loneB; rw [if_pos (by assumption)]; first | (simp_all; done) | (rw [Bool.eq_iff_iff]; simp_all)) True.intro)
    · have sg2 := g2
      try simp only [q1, q2, q3, q4, q5, q6, q7, q8, q9] at sg2
      refine RunS.s0f g2 ?_
      refine RunS.s0f g2 ?_
      refine RunS.s0f g2 ?_
      refine RunS.s0f g2 ?_
      refine RunS.s0f g2 ?_
      refine RunS.s0f g2 ?_
      refine RunS.s0f g2 ?_
      refine RunS.s1 (x := loc_pick (z := .const (.bool false)) (by decide) (by rw [g2]; rfl) (by exact ⟨⟩) (ok_sc rfl) (by exact Cp.sc)) (y := ?_)
      refine RunS.s1 (x := loc_copy (.inr rfl) (by decide) (by exact Cp.sc)) (y := ?_)
      refine sw_ret ?_
      exact (And.intro (by refine bool_eq ?_; unfold nodeI nodeB loneB; rw [if_pos (by assumption)]; first | (simp_all; done) | (rw [Bool.eq_iff_iff]; simp_all)) True.intro)
  · try simp only [q1, q2, q3, q4, q5, q6, q7, q8, q9] at hb1
    refine sw_skip ?_
    refine sw_seq ?_
    refine sw_seq ?_
    refine sw_of (l := [(1, RV.sv false [PV.val _]), (2, RV.ptr 2 0), (4, RV.sv false [PV.val _]), (5, RV.sv false [PV.val _])]) (b := [(2, (37, [PV.val _, PV.val _, PV.sl _ _, PV.sl _ _, PV.sl _ _, PV.sl _ _, PV.sl _ _, PV.sl _ _, PV.sl _ _, PV.sl _ _, PV.sl _ _]))]) (by exact ⟨rfl, rfl, rfl, rfl, ⟨⟩⟩) (by exact ⟨rfl, ⟨⟩⟩) ?_
    refine sw_reg ?_
    refine RunS.s1 (x := loc_copy (.inl rfl) (by decide) (by exact Cp.sc)) (y := ?_)
    refine RunS.s1 (x := loc_field (by decide) fd_37_1) (y := ?_)
    refine RunS.s1 (x := loc_load (qs := [PV.sl .v _]) (by decide) ty_35 (fun _ => rfl) (by exact Nat.le_of_ble_eq_true rfl) (by exact (ToL.cons PV.to_none ToL.nil)) (by exact (BorL.cons (PV.bor_sl _) BorL.nil))) (y := ?_)
    refine RunS.s1 (x := loc_len (by decide) sl_35 (by first | exact List.length_map _ | exact rfl)) (y := ?_)
    refine RunS.s1 (x := loc_sub (by decide) (by exact ⟨⟩) (ok_sc rfl) (by unfold I64; omega)) (y := ?_)
    refine RunS.s1 (x := loc_call (qs := [(false, [PV.val _]), (false, [PV.val _]), (false, [PV.val _])]) (as_ := [(false, [PV.val _]), (false, [PV.val _]), (false, [PV.val _])]) (by decide) c_71 (by exact (And.intro (by exact ⟨⟩) (And.intro (ok_sc rfl) (And.intro (by exact ⟨⟩) True.intro)))) (by exact (And.intro (And.intro rfl (ToL.cons (PV.To.refl _) ToL.nil)) (And.intro (And.intro rfl (ToL.cons (PV.To.refl _) ToL.nil)) (And.intro (And.intro rfl (ToL.cons (PV.To.refl _) ToL.nil)) True.intro)))) (by exact impl_within)) (y := ?_)
    refine RunS.s1 (x := loc_not (by decide)) (y := ?_)
    refine RunS.s1 (x := loc_copy (.inl rfl) (by decide) (by exact Cp.sc)) (y := ?_)
    refine RunS.cases (s := 37) rfl (fun g3 => ?_) (fun g3 => ?_)
    · have sg3 := g3
      try simp only [q1, q2, q3, q4, q5, q6, q7, q8, q9] at sg3
      refine RunS.s0t g3 ?_
      refine RunS.s0t g3 ?_
      refine RunS.s0t g3 ?_
      refine RunS.s0t g3 ?_
      refine RunS.s0t g3 ?_
      refine RunS.s0t g3 ?_
      refine RunS.s1 (x := loc_pick (z := .const (.bool true)) (by decide) (by rw [g3]; rfl) (by exact ⟨⟩) (ok_sc rfl) (by exact Cp.sc)) (y := ?_)
      refine RunS.s1 (x := loc_copy (.inl rfl) (by decide) (by exact Cp.sc)) (y := ?_)
      refine RunS.cases (s := 45) rfl (fun g4 => ?_) (fun g4 => nomatch g4)
      refine RunS.s0t g4 ?_
      refine RunS.s0t g4 ?_
      refine RunS.s0t g4 ?_
      refine RunS.s0t g4 ?_
      refine RunS.s1 (x := loc_pick (z := .const (.bool true)) (by decide) (by rw [g4]; rfl) (by exact ⟨⟩) (ok_sc rfl) (by exact Cp.sc)) (y := ?_)
      refine RunS.s1 (x := loc_copy (.inl rfl) (by decide) (by exact Cp.sc)) (y := ?_)
      refine RunS.cases (s := 51) rfl (fun g5 => ?_) (fun g5 => nomatch g5)
      refine RunS.s0t g5 ?_
      refine RunS.s0t g5 ?_
      refine RunS.s0t g5 ?_
      refine RunS.s0t g5 ?_
      refine RunS.s0t g5 ?_
      refine RunS.s0t g5 ?_
      refine RunS.s1 (x := loc_pick (z := .const (.bool true)) (by decide) (by rw [g5]; rfl) (by exact ⟨⟩) (ok_sc rfl) (by exact Cp.sc)) (y := ?_)
      refine sw_cond (t := 58) rfl (fun hb_ => ?_) (fun hb_ => nomatch hb_)
      have hbad : nodeI c n = false := by unfold nodeI nodeB loneB; rw [if_neg (by assumption)]; simp_all; try (intros; simp_all)
      refine sw_seq ?_
      refine sw_of (l := [(1, RV.sv false [PV.val _]), (2, RV.ptr 2 0), (4, RV.sv false [PV.val _]), (5, RV.sv false [PV.val _])]) (b := [(2, (37, [PV.val _, PV.val _, PV.sl _ _, PV.sl _ _, PV.sl _ _, PV.sl _ _, PV.sl _ _, PV.sl _ _, PV.sl _ _, PV.sl _ _, PV.sl _ _]))]) (by exact ⟨rfl, rfl, rfl, rfl, ⟨⟩⟩) (by exact ⟨rfl, ⟨⟩⟩) ?_
      refine sw_reg ?_
      refine RunS.s1 (x := loc_const (.inr rfl) (by decide) (ok_sc rfl)) (y := ?_)
      refine sw_ret ?_
      exact (And.intro (by refine bool_eq ?_; exact hbad.symm) True.intro)
    · have sg3 := g3
      try simp only [q1, q2, q3, q4, q5, q6, q7, q8, q9] at sg3
      refine RunS.s2 (hb := g3) (x := loc_field (by decide) fd_37_2) (y := ?_)
      refine RunS.s2 (hb := g3) (x := loc_load (qs := [PV.sl .v _]) (by decide) ty_27 (fun _ => rfl) (by exact Nat.le_of_ble_eq_true rfl) (by exact (ToL.cons PV.to_none ToL.nil)) (by exact (BorL.cons (PV.bor_sl _) BorL.nil))) (y := ?_)
      refine RunS.s2 (hb := g3) (x := loc_copy (.inl rfl) (by decide) (by exact Cp.sc)) (y := ?_)
      refine RunS.s2 (hb := g3) (x := loc_index (k := (n).toNat) (by decide) sl_27 (by exact ⟨⟩) (by omega) (by exact getm2 (by omega) (by rw [upAt_eq (by omega)])) (by exact rfl)) (y := ?_)
      refine RunS.s2 (hb := g3) (x := loc_eload (qs := [PV.val _]) (by decide) ty_4 (fun _ => rfl) (by exact Nat.le_of_ble_eq_true rfl) (by exact (ToL.cons (PV.To.refl _) ToL.nil)) (by exact (BorL.cons (PV.bor_val _) BorL.nil))) (y := ?_)
      refine RunS.s2 (hb := g3) (x := loc_not (by decide)) (y := ?_)
      refine RunS.s1 (x := loc_pick (z := .tmp 43) (by decide) (by rw [g3]; rfl) (by exact ⟨⟩) (by exact ⟨⟩) (by exact Cp.sc)) (y := ?_)
      refine RunS.s1 (x := loc_copy (.inl rfl) (by decide) (by exact Cp.sc)) (y := ?_)
      refine RunS.cases (s := 45) rfl (fun g7 => ?_) (fun g7 => ?_)
      · have sg7 := g7
        try simp only [q1, q2, q3, q4, q5, q6, q7, q8, q9] at sg7
        refine RunS.s0t g7 ?_
        refine RunS.s0t g7 ?_
        refine RunS.s0t g7 ?_
        refine RunS.s0t g7 ?_
        refine RunS.s1 (x := loc_pick (z := .const (.bool true)) (by decide) (by rw [g7]; rfl) (by exact ⟨⟩) (ok_sc rfl) (by exact Cp.sc)) (y := ?_)
        refine RunS.s1 (x := loc_copy (.inl rfl) (by decide) (by exact Cp.sc)) (y := ?_)
        refine RunS.cases (s := 51) rfl (fun g8 => ?_) (fun g8 => nomatch g8)
        refine RunS.s0t g8 ?_
        refine RunS.s0t g8 ?_
        refine RunS.s0t g8 ?_
        refine RunS.s0t g8 ?_
        refine RunS.s0t g8 ?_
        refine RunS.s0t g8 ?_
        refine RunS.s1 (x := loc_pick (z := .const (.bool true)) (by decide) (by rw [g8]; rfl) (by exact ⟨⟩) (ok_sc rfl) (by exact Cp.sc)) (y := ?_)
        refine sw_cond (t := 58) rfl (fun hb_ => ?_) (fun hb_ => nomatch hb_)
        have hbad : nodeI c n = false := by unfold nodeI nodeB loneB; rw [if_neg (by assumption)]; simp_all; try (intros; simp_all)
        refine sw_seq ?_
        refine sw_of (l := [(1, RV.sv false [PV.val _]), (2, RV.ptr 2 0), (4, RV.sv false [PV.val _]), (5, RV.sv false [PV.val _])]) (b := [(2, (37, [PV.val _, PV.val _, PV.sl _ _, PV.sl _ _, PV.sl _ _, PV.sl _ _, PV.sl _ _, PV.sl _ _, PV.sl _ _, PV.sl _ _, PV.sl _ _]))]) (by exact ⟨rfl, rfl, rfl, rfl, ⟨⟩⟩) (by exact ⟨rfl, ⟨⟩⟩) ?_
        refine sw_reg ?_
        refine RunS.s1 (x := loc_const (.inr rfl) (by decide) (ok_sc rfl)) (y := ?_)
        refine sw_ret ?_
        exact (And.intro (by refine bool_eq ?_; exact hbad.symm) True.intro)
      · have sg7 := g7
        try simp only [q1, q2, q3, q4, q5, q6, q7, q8, q9] at sg7
        refine RunS.s2 (hb := g7) (x := loc_field (by decide) fd_37_6) (y := ?_)
        refine RunS.s2 (hb := g7) (x := loc_load (qs := [PV.sl .v _]) (by decide) ty_23 (fun _ => rfl) (by exact Nat.le_of_ble_eq_true rfl) (by exact (ToL.cons PV.to_none ToL.nil)) (by exact (BorL.cons (PV.bor_sl _) BorL.nil))) (y := ?_)
        refine RunS.s2 (hb := g7) (x := loc_copy (.inl rfl) (by decide) (by exact Cp.sc)) (y := ?_)
        refine RunS.s2 (hb := g7) (x := loc_call (qs := [(false, [PV.sl _ _]), (false, [PV.val _])]) (as_ := [(false, [PV.sl .v _]), (false, [PV.val _])]) (by decide) c_59 (by exact (And.intro (by exact ⟨⟩) (And.intro (by exact ⟨⟩) True.intro))) (by exact (And.intro (And.intro rfl (ToL.cons PV.to_none ToL.nil)) (And.intro (And.intro rfl (ToL.cons (PV.To.refl _) ToL.nil)) True.intro))) (by exact impl_hasInt)) (y := ?_)
        refine RunS.s1 (x := loc_pick (z := .tmp 49) (by decide) (by rw [g7]; rfl) (by exact ⟨⟩) (by exact ⟨⟩) (by exact Cp.sc)) (y := ?_)
        refine RunS.s1 (x := loc_copy (.inl rfl) (by decide) (by exact Cp.sc)) (y := ?_)
        refine RunS.cases (s := 51) rfl (fun g10 => ?_) (fun g10 => ?_)
        · have sg10 := g10
          try simp only [q1, q2, q3, q4, q5, q6, q7, q8, q9] at sg10
          refine RunS.s0t g10 ?_
          refine RunS.s0t g10 ?_
          refine RunS.s0t g10 ?_
          refine RunS.s0t g10 ?_
          refine RunS.s0t g10 ?_
          refine RunS.s0t g10 ?_
          refine RunS.s1 (x := loc_pick (z := .const (.bool true)) (by decide) (by rw [g10]; rfl) (by exact ⟨⟩) (ok_sc rfl) (by exact Cp.sc)) (y := ?_)
          refine sw_cond (t := 58) rfl (fun hb_ => ?_) (fun hb_ => nomatch hb_)
          have hbad : nodeI c n = false := by unfold nodeI nodeB loneB; rw [if_neg (by assumption)]; simp_all; try (intros; simp_all)
          refine sw_seq ?_
          refine sw_of (l := [(1, RV.sv false [PV.val _]), (2, RV.ptr 2 0), (4, RV.sv false [PV.val _]), (5, RV.sv false [PV.val _])]) (b := [(2, (37, [PV.val _, PV.val _, PV.sl _ _, PV.sl _ _, PV.sl _ _, PV.sl _ _, PV.sl _ _, PV.sl _ _, PV.sl _ _, PV.sl _ _, PV.sl _ _]))]) (by exact ⟨rfl, rfl, rfl, rfl, ⟨⟩⟩) (by exact ⟨rfl, ⟨⟩⟩) ?_
          refine sw_reg ?_
          refine RunS.s1 (x := loc_const (.inr rfl) (by decide) (ok_sc rfl)) (y := ?_)
          refine sw_ret ?_
          exact (And.intro (by refine bool_eq ?_; exact hbad.symm) True.intro)
        · have sg10 := g10
          try simp only [q1, q2, q3, q4, q5, q6, q7, q8, q9] at sg10
          refine RunS.s2 (hb := g10) (x := loc_field (by decide) fd_37_3) (y := ?_)
          refine RunS.s2 (hb := g10) (x := loc_load (qs := [PV.sl .v _]) (by decide) ty_23 (fun _ => rfl) (by exact Nat.le_of_ble_eq_true rfl) (by exact (ToL.cons PV.to_none ToL.nil)) (by exact (BorL.cons (PV.bor_sl _) BorL.nil))) (y := ?_)
          refine RunS.s2 (hb := g10) (x := loc_copy (.inl rfl) (by decide) (by exact Cp.sc)) (y := ?_)
          refine RunS.s2 (hb := g10) (x := loc_sliceM (i := 0) (j := n.toNat) (ys := (c.At.take n.toNat)) (q := (0 : Int)) (by decide) sl_23 (by exact rfl) (by exact ⟨⟩) (by omega) (by omega) (by omega) (by omega) (fun _ => rfl) (by simp)) (y := ?_)
          refine RunS.s2 (hb := g10) (x := loc_copy (.inl rfl) (by decide) (by exact Cp.sc)) (y := ?_)
          refine RunS.s2 (hb := g10) (x := loc_call (qs := [(false, [PV.sl _ _]), (false, [PV.val _])]) (as_ := [(false, [PV.sl .v _]), (false, [PV.val _])]) (by decide) c_59 (by exact (And.intro (by exact ⟨⟩) (And.intro (by exact ⟨⟩) True.intro))) (by exact (And.intro (And.intro rfl (ToL.cons PV.to_none ToL.nil)) (And.intro (And.intro rfl (ToL.cons (PV.To.refl _) ToL.nil)) True.intro))) (by exact impl_hasInt)) (y := ?_)
          refine RunS.s1 (x := loc_pick (z := .tmp 57) (by decide) (by rw [g10]; rfl) (by exact ⟨⟩) (by exact ⟨⟩) (by exact Cp.sc)) (y := ?_)
          refine sw_cond (t := 58) rfl (fun hb12 => ?_) (fun hb12 => ?_)
          · try simp only [q1, q2, q3, q4, q5, q6, q7, q8, q9] at hb12
            have hbad : nodeI c n = false := by unfold nodeI nodeB loneB; rw [if_neg (by assumption)]; simp_all; try (intros; simp_all)
            refine sw_seq ?_
            refine sw_of (l := [(1, RV.sv false [PV.val _]), (2, RV.ptr 2 0), (4, RV.sv false [PV.val _]), (5, RV.sv false [PV.val _])]) (b := [(2, (37, [PV.val _, PV.val _, PV.sl _ _, PV.sl _ _, PV.sl _ _, PV.sl _ _, PV.sl _ _, PV.sl _ _, PV.sl _ _, PV.sl _ _, PV.sl _ _]))]) (by exact ⟨rfl, rfl, rfl, rfl, ⟨⟩⟩) (by exact ⟨rfl, ⟨⟩⟩) ?_
            refine sw_reg ?_
            refine RunS.s1 (x := loc_const (.inr rfl) (by decide) (ok_sc rfl)) (y := ?_)
            refine sw_ret ?_
            exact (And.intro (by refine bool_eq ?_; exact hbad.symm) True.intro)
          · try simp only [q1, q2, q3, q4, q5, q6, q7, q8, q9] at hb12
            have hin : inB (atI c.At n) 0 ((c.Parts.length : Int) - 1) = true := by simp_all
            have hin2 := hin
            simp only [inB, Bool.and_eq_true, decide_eq_true_eq] at hin2
            refine sw_skip ?_
            refine sw_seq ?_
            refine sw_of (l := [(1, RV.sv false [PV.val _]), (2, RV.ptr 2 0), (4, RV.sv false [PV.val _]), (5, RV.sv false [PV.val _])]) (b := [(2, (37, [PV.val _, PV.val _, PV.sl _ _, PV.sl _ _, PV.sl _ _, PV.sl _ _, PV.sl _ _, PV.sl _ _, PV.sl _ _, PV.sl _ _, PV.sl _ _]))]) (by exact ⟨rfl, rfl, rfl, rfl, ⟨⟩⟩) (by exact ⟨rfl, ⟨⟩⟩) ?_
            refine sw_reg ?_
            refine RunS.s1 (x := loc_field (by decide) fd_37_2) (y := ?_)
            refine RunS.s1 (x := loc_load (qs := [PV.sl .v _]) (by decide) ty_27 (fun _ => rfl) (by exact Nat.le_of_ble_eq_true rfl) (by exact (ToL.cons PV.to_none ToL.nil)) (by exact (BorL.cons (PV.bor_sl _) BorL.nil))) (y := ?_)
            refine RunS.s1 (x := loc_len (by decide) sl_27 (by first | exact List.length_map _ | exact rfl)) (y := ?_)
            refine RunS.s1 (x := loc_copy (.inr rfl) (by decide) (by exact Cp.sc)) (y := ?_)
            refine sw_seq ?_
            refine sw_seq ?_
            refine sw_of (l := [(1, RV.sv false [PV.val _]), (2, RV.ptr 2 0), (4, RV.sv false [PV.val _]), (5, RV.sv false [PV.val _]), (6, RV.sv false [PV.val _])]) (b := [(2, (37, [PV.val _, PV.val _, PV.sl _ _, PV.sl _ _, PV.sl _ _, PV.sl _ _, PV.sl _ _, PV.sl _ _, PV.sl _ _, PV.sl _ _, PV.sl _ _]))]) (by exact ⟨rfl, rfl, rfl, rfl, rfl, ⟨⟩⟩) (by exact ⟨rfl, ⟨⟩⟩) ?_
            refine sw_reg ?_
            refine RunS.s1 (x := loc_copy (.inl rfl) (by decide) (by exact Cp.sc)) (y := ?_)
            refine RunS.s1 (x := loc_copy (.inl rfl) (by decide) (by exact Cp.sc)) (y := ?_)
            refine RunS.s1 (x := loc_call (qs := [(false, [PV.val _]), (false, [PV.val _])]) (as_ := [(false, [PV.val _]), (false, [PV.val _])]) (by decide) c_60 (by exact (And.intro (by exact ⟨⟩) (And.intro (by exact ⟨⟩) True.intro))) (by exact (And.intro (And.intro rfl (ToL.cons (PV.To.refl _) ToL.nil)) (And.intro (And.intro rfl (ToL.cons (PV.To.refl _) ToL.nil)) True.intro))) (by exact impl_HomeOf)) (y := ?_)
            refine RunS.s1 (x := loc_copy (.inl rfl) (by decide) (by exact Cp.sc)) (y := ?_)
            refine RunS.s1 (x := loc_neq (by decide) (by exact ⟨⟩) (by exact ⟨⟩)) (y := ?_)
            refine RunS.s1 (x := loc_copy (.inl rfl) (by decide) (by exact Cp.sc)) (y := ?_)
            refine RunS.cases (s := 67) rfl (fun g13 => ?_) (fun g13 => ?_)
            · have sg13 := g13
              try simp only [q1, q2, q3, q4, q5, q6, q7, q8, q9] at sg13
              refine RunS.s2 (hb := g13) (x := loc_copy (.inl rfl) (by decide) (by exact Cp.sc)) (y := ?_)
              refine RunS.s2 (hb := g13) (x := loc_copy (.inl rfl) (by decide) (by exact Cp.sc)) (y := ?_)
              refine RunS.s2 (hb := g13) (x := loc_call (qs := [(false, [PV.val _]), (false, [PV.val _])]) (as_ := [(false, [PV.val _]), (false, [PV.val _])]) (by decide) c_61 (by exact (And.intro (by exact ⟨⟩) (And.intro (by exact ⟨⟩) True.intro))) (by exact (And.intro (And.intro rfl (ToL.cons (PV.To.refl _) ToL.nil)) (And.intro (And.intro rfl (ToL.cons (PV.To.refl _) ToL.nil)) True.intro))) (by exact impl_BackupOf)) (y := ?_)
              refine RunS.s2 (hb := g13) (x := loc_copy (.inl rfl) (by decide) (by exact Cp.sc)) (y := ?_)
              refine RunS.s2 (hb := g13) (x := loc_neq (by decide) (by exact ⟨⟩) (by exact ⟨⟩)) (y := ?_)
              refine RunS.s1 (x := loc_pick (z := .tmp 72) (by decide) (by rw [g13]; rfl) (by exact ⟨⟩) (by exact ⟨⟩) (by exact Cp.sc)) (y := ?_)
              refine sw_cond (t := 73) rfl (fun hb14 => ?_) (fun hb14 => ?_)
              · try simp only [q1, q2, q3, q4, q5, q6, q7, q8, q9] at hb14
                have hbad : nodeI c n = false := by unfold nodeI nodeB loneB; rw [if_neg (by assumption)]; simp_all; try (intros; simp_all)
                refine sw_seq ?_
                refine sw_of (l := [(1, RV.sv false [PV.val _]), (2, RV.ptr 2 0), (4, RV.sv false [PV.val _]), (5, RV.sv false [PV.val _]), (6, RV.sv false [PV.val _])]) (b := [(2, (37, [PV.val _, PV.val _, PV.sl _ _, PV.sl _ _, PV.sl _ _, PV.sl _ _, PV.sl _ _, PV.sl _ _, PV.sl _ _, PV.sl _ _, PV.sl _ _]))]) (by exact ⟨rfl, rfl, rfl, rfl, rfl, ⟨⟩⟩) (by exact ⟨rfl, ⟨⟩⟩) ?_
                refine sw_reg ?_
                refine RunS.s1 (x := loc_const (.inr rfl) (by decide) (ok_sc rfl)) (y := ?_)
                refine sw_ret ?_
                exact (And.intro (by refine bool_eq ?_; exact hbad.symm) True.intro)
              · try simp only [q1, q2, q3, q4, q5, q6, q7, q8, q9] at hb14
                refine sw_skip ?_
                refine sw_seq ?_
                refine sw_of (l := [(1, RV.sv false [PV.val _]), (2, RV.ptr 2 0), (4, RV.sv false [PV.val _]), (5, RV.sv false [PV.val _]), (6, RV.sv false [PV.val _])]) (b := [(2, (37, [PV.val _, PV.val _, PV.sl _ _, PV.sl _ _, PV.sl _ _, PV.sl _ _, PV.sl _ _, PV.sl _ _, PV.sl _ _, PV.sl _ _, PV.sl _ _]))]) (by exact ⟨rfl, rfl, rfl, rfl, rfl, ⟨⟩⟩) (by exact ⟨rfl, ⟨⟩⟩) ?_
                refine sw_reg ?_
                refine RunS.s1 (x := loc_field (by decide) fd_37_1) (y := ?_)
                refine RunS.s1 (x := loc_load (qs := [PV.sl .v _]) (by decide) ty_35 (fun _ => rfl) (by exact Nat.le_of_ble_eq_true rfl) (by exact (ToL.cons PV.to_none ToL.nil)) (by exact (BorL.cons (PV.bor_sl _) BorL.nil))) (y := ?_)
                refine RunS.s1 (x := loc_copy (.inl rfl) (by decide) (by exact Cp.sc)) (y := ?_)
                refine RunS.s1 (x := loc_index (k := (atI c.At n).toNat) (by decide) sl_35 (by exact ⟨⟩) (by omega) (by exact getm2 (by omega) (by rw [partAt_eq (by omega)])) (by exact rfl)) (y := ?_)
                refine RunS.s1 (x := loc_eload (qs := [PV.sl .v _]) (by decide) ty_53 (fun _ => rfl) (by exact Nat.le_of_ble_eq_true rfl) (by exact (ToL.cons PV.to_none ToL.nil)) (by exact (BorL.cons (PV.bor_sl _) BorL.nil))) (y := ?_)
                refine RunS.s1 (x := loc_copy (r' := RV.sv false [PV.sl .v _]) (.inr rfl) (by decide) (by exact Cp.sv (ToL.cons PV.to_none ToL.nil) (BorL.cons (PV.bor_sl _) BorL.nil))) (y := ?_)
                refine sw_seq ?_
                refine sw_of (l := [(1, RV.sv false [PV.val _]), (2, RV.ptr 2 0), (4, RV.sv false [PV.val _]), (5, RV.sv false [PV.val _]), (6, RV.sv false [PV.val _]), (7, RV.sv false [PV.sl _ _])]) (b := [(2, (37, [PV.val _, PV.val _, PV.sl _ _, PV.sl _ _, PV.sl _ _, PV.sl _ _, PV.sl _ _, PV.sl _ _, PV.sl _ _, PV.sl _ _, PV.sl _ _]))]) (by exact ⟨rfl, rfl, rfl, rfl, rfl, rfl, ⟨⟩⟩) (by exact ⟨rfl, ⟨⟩⟩) ?_
                refine sw_draw hm_ ?_
                refine Run.step 0 (by exact ⟨rfl, ⟨⟩⟩) (by exact ⟨⟩) (LocG.of rfl (loc_field (by decide) fd_37_4)) nofree (by kernel_rfl) ?_
                refine Run.step 1 (by exact ⟨rfl, ⟨⟩⟩) (by exact ⟨rfl, ⟨⟩⟩) (LocG.of rfl (loc_load (qs := [PV.sl .v _]) (by decide) ty_23 (fun _ => rfl) (by exact Nat.le_of_ble_eq_true rfl) (by exact (ToL.cons PV.to_none ToL.nil)) (by exact (BorL.cons (PV.bor_sl _) BorL.nil)))) nofree (by kernel_rfl) ?_
                refine Run.step 0 (by exact ⟨rfl, ⟨⟩⟩) (by exact ⟨⟩) (LocG.of rfl (loc_copy (.inl rfl) (by decide) (by exact Cp.sc))) nofree (by kernel_rfl) ?_
                refine Run.step 7 (by exact ⟨rfl, rfl, ⟨⟩⟩) (by exact ⟨⟩) (LocG.of rfl (loc_index (k := (n).toNat) (by decide) sl_23 (by exact ⟨⟩) (by omega) (by exact getm2 (by omega) (by rw [atI_eq (by omega)])) (by exact rfl))) nofree (by kernel_rfl) ?_
                refine Run.step 15 (by exact ⟨rfl, ⟨⟩⟩) (by exact ⟨⟩) (LocG.of rfl (loc_eload (qs := [PV.val _]) (by decide) ty_3 (fun _ => rfl) (by exact Nat.le_of_ble_eq_true rfl) (by exact (ToL.cons (PV.To.refl _) ToL.nil)) (by exact (BorL.cons (PV.bor_val _) BorL.nil)))) nofree (by kernel_rfl) ?_
                refine Run.step 0 (by exact ⟨rfl, ⟨⟩⟩) (by exact ⟨⟩) (LocG.of rfl (loc_copy (r' := RV.sv false [PV.sl .v _]) (.inl rfl) (by decide) (by exact Cp.sv (ToL.cons PV.to_none ToL.nil) (BorL.cons (PV.bor_sl _) BorL.nil)))) nofree (by kernel_rfl) ?_
                refine Run.step 32 (by exact ⟨rfl, ⟨⟩⟩) (by exact ⟨⟩) (LocG.of rfl (loc_len (by decide) sl_53 (by first | exact List.length_map _ | exact rfl))) nofree (by kernel_rfl) ?_
                refine Run.step 127 (by exact ⟨rfl, rfl, ⟨⟩⟩) (by exact ⟨⟩) (LocG.of rfl (loc_call (qs := [(false, [PV.val _]), (false, [PV.val _]), (false, [PV.val _])]) (as_ := [(false, [PV.val _]), (false, [PV.val _]), (false, [PV.val _])]) (by decide) c_71 (by exact (And.intro (by exact ⟨⟩) (And.intro (ok_sc rfl) (And.intro (by exact ⟨⟩) True.intro)))) (by exact (And.intro (And.intro rfl (ToL.cons (PV.To.refl _) ToL.nil)) (And.intro (And.intro rfl (ToL.cons (PV.To.refl _) ToL.nil)) (And.intro (And.intro rfl (ToL.cons (PV.To.refl _) ToL.nil)) True.intro)))) (by exact impl_within))) nofree (by kernel_rfl) ?_
                refine Run.step 255 (by exact ⟨rfl, ⟨⟩⟩) (by exact ⟨⟩) (LocG.of rfl (loc_copy (.inl rfl) (by decide) (by exact Cp.sc))) nofree (by kernel_rfl) ?_
                refine Run.cases (s := 87) rfl (fun g15 => ?_) (fun g15 => ?_)
                · have sg15 := g15
                  try simp only [q1, q2, q3, q4, q5, q6, q7, q8, q9] at sg15
                  refine Run.step 511 (by exact ⟨rfl, rfl, ⟨⟩⟩) (by exact ⟨⟩) (LocG.yes rfl rfl (by decide) g15 (loc_field (by decide) fd_37_5)) nofree (by kernel_rfl) ?_
                  refine Run.step 1023 (by exact ⟨rfl, rfl, ⟨⟩⟩) (by exact ⟨rfl, ⟨⟩⟩) (LocG.yes rfl rfl (by decide) g15 (loc_load (qs := [PV.sl .v _]) (by decide) ty_35 (fun _ => rfl) (by exact Nat.le_of_ble_eq_true rfl) (by exact (ToL.cons PV.to_none ToL.nil)) (by exact (BorL.cons (PV.bor_sl _) BorL.nil)))) nofree (by kernel_rfl) ?_
                  refine Run.step 511 (by exact ⟨rfl, rfl, ⟨⟩⟩) (by exact ⟨⟩) (LocG.yes rfl rfl (by decide) g15 (loc_copy (.inl rfl) (by decide) (by exact Cp.sc))) nofree (by kernel_rfl) ?_
                  refine Run.step 4095 (by exact ⟨rfl, rfl, rfl, ⟨⟩⟩) (by exact ⟨⟩) (LocG.yes rfl rfl (by decide) g15 (loc_index (k := (n).toNat) (by decide) sl_35 (by exact ⟨⟩) (by omega) (by exact getm2 (by omega) (by rw [bufAt_eq (by omega)])) (by exact rfl))) nofree (by kernel_rfl) ?_
                  refine Run.step 8191 (by exact ⟨rfl, rfl, ⟨⟩⟩) (by exact ⟨⟩) (LocG.yes rfl rfl (by decide) g15 (loc_eload (qs := [PV.sl .v _]) (by decide) ty_53 (fun _ => rfl) (by exact Nat.le_of_ble_eq_true rfl) (by exact (ToL.cons PV.to_none ToL.nil)) (by exact (BorL.cons (PV.bor_sl _) BorL.nil)))) nofree (by kernel_rfl) ?_
                  refine Run.step 511 (by exact ⟨rfl, rfl, ⟨⟩⟩) (by exact ⟨⟩) (LocG.yes rfl rfl (by decide) g15 (loc_field (by decide) fd_37_0)) nofree (by kernel_rfl) ?_
                  refine Run.step 16895 (by exact ⟨rfl, rfl, ⟨⟩⟩) (by exact ⟨rfl, ⟨⟩⟩) (LocG.yes rfl rfl (by decide) g15 (loc_load (qs := [PV.val _, PV.val _, PV.sl .v _, PV.sl .v _]) (by decide) ty_34 (fun h => nomatch h) (by exact Nat.le_of_ble_eq_true rfl) (by exact (ToL.cons (PV.To.refl _) (ToL.cons (PV.To.refl _) (ToL.cons PV.to_none (ToL.cons PV.to_none ToL.nil))))) (by exact (BorL.cons (PV.bor_val _) (BorL.cons (PV.bor_val _) (BorL.cons (PV.bor_sl _) (BorL.cons (PV.bor_sl _) BorL.nil))))))) nofree (by kernel_rfl) ?_
                  refine Run.step 511 (by exact ⟨rfl, rfl, ⟨⟩⟩) (by exact ⟨⟩) (LocG.yes rfl rfl (by decide) g15 (loc_copy (r' := RV.sv false [PV.sl .v _]) (.inl rfl) (by decide) (by exact Cp.sv (ToL.cons PV.to_none ToL.nil) (BorL.cons (PV.bor_sl _) BorL.nil)))) nofree (by kernel_rfl) ?_
                  refine Run.step 511 (by exact ⟨rfl, rfl, ⟨⟩⟩) (by exact ⟨⟩) (LocG.yes rfl rfl (by decide) g15 (loc_field (by decide) fd_37_4)) nofree (by kernel_rfl) ?_
                  refine Run.step 131583 (by exact ⟨rfl, rfl, ⟨⟩⟩) (by exact ⟨rfl, ⟨⟩⟩) (LocG.yes rfl rfl (by decide) g15 (loc_load (qs := [PV.sl .v _]) (by decide) ty_23 (fun _ => rfl) (by exact Nat.le_of_ble_eq_true rfl) (by exact (ToL.cons PV.to_none ToL.nil)) (by exact (BorL.cons (PV.bor_sl _) BorL.nil)))) nofree (by kernel_rfl) ?_
                  refine Run.step 511 (by exact ⟨rfl, rfl, ⟨⟩⟩) (by exact ⟨⟩) (LocG.yes rfl rfl (by decide) g15 (loc_copy (.inl rfl) (by decide) (by exact Cp.sc))) nofree (by kernel_rfl) ?_
                  refine Run.step 918015 (by exact ⟨rfl, rfl, rfl, ⟨⟩⟩) (by exact ⟨⟩) (LocG.yes rfl rfl (by decide) g15 (loc_index (k := (n).toNat) (by decide) sl_23 (by exact ⟨⟩) (by omega) (by exact getm2 (by omega) (by rw [atI_eq (by omega)])) (by exact rfl))) nofree (by kernel_rfl) ?_
                  refine Run.step 1966591 (by exact ⟨rfl, rfl, ⟨⟩⟩) (by exact ⟨⟩) (LocG.yes rfl rfl (by decide) g15 (loc_eload (qs := [PV.val _]) (by decide) ty_3 (fun _ => rfl) (by exact Nat.le_of_ble_eq_true rfl) (by exact (ToL.cons (PV.To.refl _) ToL.nil)) (by exact (BorL.cons (PV.bor_val _) BorL.nil)))) nofree (by kernel_rfl) ?_
                  refine Run.step 4129279 (by exact ⟨rfl, rfl, rfl, ⟨⟩⟩) (by exact ⟨⟩) (LocG.yes rfl rfl (by decide) g15 (loc_sliceM (i := 0) (j := (atI c.Pos n).toNat) (ys := ((partAt c (atI c.At n)).take (atI c.Pos n).toNat)) (q := (0 : Int)) (by decide) sl_53 (by exact rfl) (by exact ⟨⟩) (by omega) (by have hq := inB_iff.1 ‹inB (atI c.Pos n) 0 ((partAt c (atI c.At n)).length : Int) = true›; omega) (by omega) (by have hq := inB_iff.1 ‹inB (atI c.Pos n) 0 ((partAt c (atI c.At n)).length : Int) = true›; omega) (fun _ => rfl) (by simp))) nofree (by kernel_rfl) ?_
                  refine Run.step 8372735 (by exact ⟨rfl, rfl, rfl, ⟨⟩⟩) (by exact ⟨⟩) (LocG.yes rfl rfl (by decide) g15 (loc_call (qs := [(true, [PV.val _, PV.val _, PV.sl _ _, PV.sl _ _]), (false, [PV.sl _ _])]) (as_ := [(true, [PV.val _, PV.val _, PV.sl .v _, PV.sl .v _]), (false, [PV.sl .v _])]) (by decide) c_174 (by exact (And.intro (by exact ⟨⟩) (And.intro (by exact ⟨⟩) True.intro))) (by exact (And.intro (And.intro rfl (ToL.cons (PV.To.refl _) (ToL.cons (PV.To.refl _) (ToL.cons PV.to_none (ToL.cons PV.to_none ToL.nil))))) (And.intro (And.intro rfl (ToL.cons PV.to_none ToL.nil)) True.intro))) (by exact impl_matching (by first | omega | exact hwp _)))) nofree (by kernel_rfl) ?_
                  refine Run.step 16777215 (by exact ⟨rfl, rfl, rfl, ⟨⟩⟩) (by exact ⟨⟩) (LocG.yes rfl rfl (by decide) g15 (loc_call (qs := [(false, [PV.sl _ _]), (false, [PV.sl _ _])]) (as_ := [(false, [PV.sl .v _]), (false, [PV.sl .v _])]) (by decide) c_90 (by exact (And.intro (by exact ⟨⟩) (And.intro (by exact ⟨⟩) True.intro))) (by exact (And.intro (And.intro rfl (ToL.cons PV.to_none ToL.nil)) (And.intro (And.intro rfl (ToL.cons PV.to_none ToL.nil)) True.intro))) (by exact impl_EqualRows))) nofree (by kernel_rfl) ?_
                  refine Run.step 33554431 (by exact ⟨rfl, rfl, ⟨⟩⟩) (by exact ⟨⟩) (LocG.of rfl (loc_pick (z := .tmp 103) (by decide) (by rw [g15]; rfl) (by exact ⟨⟩) (by exact ⟨⟩) (by exact Cp.sc))) nofree (by kernel_rfl) ?_
                  refine Run.step 67108863 (by exact ⟨rfl, ⟨⟩⟩) (by exact ⟨⟩) (LocG.of rfl (loc_copy (.inr rfl) (by decide) (by exact Cp.sc))) nofree (by kernel_rfl) ?_
                  refine sw_ret ?_
                  exact (And.intro (by refine bool_eq ?_; unfold nodeI nodeB loneB; rw [if_neg (by assumption)]; simp_all) True.intro)
                · have sg15 := g15
                  try simp only [q1, q2, q3, q4, q5, q6, q7, q8, q9] at sg15
                  refine Run.step 511 (by exact ⟨rfl, ⟨⟩⟩) (by exact ⟨⟩) (LocG.no (ops := _) rfl rfl (by decide) g15 rfl) nofree (by kernel_rfl) ?_
                  refine Run.step 1023 (by exact ⟨rfl, ⟨⟩⟩) (by exact ⟨⟩) (LocG.no (ops := _) rfl rfl (by decide) g15 rfl) nofree (by kernel_rfl) ?_
                  refine Run.step 511 (by exact ⟨rfl, ⟨⟩⟩) (by exact ⟨⟩) (LocG.no (ops := _) rfl rfl (by decide) g15 rfl) nofree (by kernel_rfl) ?_
                  refine Run.step 4095 (by exact ⟨rfl, ⟨⟩⟩) (by exact ⟨⟩) (LocG.no (ops := _) rfl rfl (by decide) g15 rfl) nofree (by kernel_rfl) ?_
                  refine Run.step 8191 (by exact ⟨rfl, ⟨⟩⟩) (by exact ⟨⟩) (LocG.no (ops := _) rfl rfl (by decide) g15 rfl) nofree (by kernel_rfl) ?_
                  refine Run.step 511 (by exact ⟨rfl, ⟨⟩⟩) (by exact ⟨⟩) (LocG.no (ops := _) rfl rfl (by decide) g15 rfl) nofree (by kernel_rfl) ?_
                  refine Run.step 16895 (by exact ⟨rfl, ⟨⟩⟩) (by exact ⟨⟩) (LocG.no (ops := _) rfl rfl (by decide) g15 rfl) nofree (by kernel_rfl) ?_
                  refine Run.step 511 (by exact ⟨rfl, ⟨⟩⟩) (by exact ⟨⟩) (LocG.no (ops := _) rfl rfl (by decide) g15 rfl) nofree (by kernel_rfl) ?_
                  refine Run.step 511 (by exact ⟨rfl, ⟨⟩⟩) (by exact ⟨⟩) (LocG.no (ops := _) rfl rfl (by decide) g15 rfl) nofree (by kernel_rfl) ?_
                  refine Run.step 131583 (by exact ⟨rfl, ⟨⟩⟩) (by exact ⟨⟩) (LocG.no (ops := _) rfl rfl (by decide) g15 rfl) nofree (by kernel_rfl) ?_
                  refine Run.step 511 (by exact ⟨rfl, ⟨⟩⟩) (by exact ⟨⟩) (LocG.no (ops := _) rfl rfl (by decide) g15 rfl) nofree (by kernel_rfl) ?_
                  refine Run.step 918015 (by exact ⟨rfl, ⟨⟩⟩) (by exact ⟨⟩) (LocG.no (ops := _) rfl rfl (by decide) g15 rfl) nofree (by kernel_rfl) ?_
                  refine Run.step 1966591 (by exact ⟨rfl, ⟨⟩⟩) (by exact ⟨⟩) (LocG.no (ops := _) rfl rfl (by decide) g15 rfl) nofree (by kernel_rfl) ?_
                  refine Run.step 4129279 (by exact ⟨rfl, ⟨⟩⟩) (by exact ⟨⟩) (LocG.no (ops := _) rfl rfl (by decide) g15 rfl) nofree (by kernel_rfl) ?_
                  refine Run.step 8372735 (by exact ⟨rfl, ⟨⟩⟩) (by exact ⟨⟩) (LocG.no (ops := _) rfl rfl (by decide) g15 rfl) nofree (by kernel_rfl) ?_
                  refine Run.step 16777215 (by exact ⟨rfl, ⟨⟩⟩) (by exact ⟨⟩) (LocG.no (ops := _) rfl rfl (by decide) g15 rfl) nofree (by kernel_rfl) ?_
                  refine Run.step 33554431 (by exact ⟨rfl, ⟨⟩⟩) (by exact ⟨⟩) (LocG.of rfl (loc_pick (z := .const (.bool false)) (by decide) (by rw [g15]; rfl) (by exact ⟨⟩) (ok_sc rfl) (by exact Cp.sc))) nofree (by kernel_rfl) ?_
                  refine Run.step 67108863 (by exact ⟨rfl, ⟨⟩⟩) (by exact ⟨⟩) (LocG.of rfl (loc_copy (.inr rfl) (by decide) (by exact Cp.sc))) nofree (by kernel_rfl) ?_
                  refine sw_ret ?_
                  exact (And.intro (by refine bool_eq ?_; unfold nodeI nodeB loneB; rw [if_neg (by assumption)]; simp_all) True.intro)
            · have sg13 := g13
              try simp only [q1, q2, q3, q4, q5, q6, q7, q8, q9] at sg13
              refine RunS.s0f g13 ?_
              refine RunS.s0f g13 ?_
              refine RunS.s0f g13 ?_
              refine RunS.s0f g13 ?_
              refine RunS.s0f g13 ?_
              refine RunS.s1 (x := loc_pick (z := .const (.bool false)) (by decide) (by rw [g13]; rfl) (by exact ⟨⟩) (ok_sc rfl) (by exact Cp.sc)) (y := ?_)
              refine sw_cond (t := 73) rfl (fun hb_ => nomatch hb_) (fun hb_ => ?_)
              refine sw_skip ?_
              refine sw_seq ?_
              refine sw_of (l := [(1, RV.sv false [PV.val _]), (2, RV.ptr 2 0), (4, RV.sv false [PV.val _]), (5, RV.sv false [PV.val _]), (6, RV.sv false [PV.val _])]) (b := [(2, (37, [PV.val _, PV.val _, PV.sl _ _, PV.sl _ _, PV.sl _ _, PV.sl _ _, PV.sl _ _, PV.sl _ _, PV.sl _ _, PV.sl _ _, PV.sl _ _]))]) (by exact ⟨rfl, rfl, rfl, rfl, rfl, ⟨⟩⟩) (by exact ⟨rfl, ⟨⟩⟩) ?_
              refine sw_reg ?_
              refine RunS.s1 (x := loc_field (by decide) fd_37_1) (y := ?_)
              refine RunS.s1 (x := loc_load (qs := [PV.sl .v _]) (by decide) ty_35 (fun _ => rfl) (by exact Nat.le_of_ble_eq_true rfl) (by exact (ToL.cons PV.to_none ToL.nil)) (by exact (BorL.cons (PV.bor_sl _) BorL.nil))) (y := ?_)
              refine RunS.s1 (x := loc_copy (.inl rfl) (by decide) (by exact Cp.sc)) (y := ?_)
              refine RunS.s1 (x := loc_index (k := (atI c.At n).toNat) (by decide) sl_35 (by exact ⟨⟩) (by omega) (by exact getm2 (by omega) (by rw [partAt_eq (by omega)])) (by exact rfl)) (y := ?_)
              refine RunS.s1 (x := loc_eload (qs := [PV.sl .v _]) (by decide) ty_53 (fun _ => rfl) (by exact Nat.le_of_ble_eq_true rfl) (by exact (ToL.cons PV.to_none ToL.nil)) (by exact (BorL.cons (PV.bor_sl _) BorL.nil))) (y := ?_)
              refine RunS.s1 (x := loc_copy (r' := RV.sv false [PV.sl .v _]) (.inr rfl) (by decide) (by exact Cp.sv (ToL.cons PV.to_none ToL.nil) (BorL.cons (PV.bor_sl _) BorL.nil))) (y := ?_)
              refine sw_seq ?_
              refine sw_of (l := [(1, RV.sv false [PV.val _]), (2, RV.ptr 2 0), (4, RV.sv false [PV.val _]), (5, RV.sv false [PV.val _]), (6, RV.sv false [PV.val _]), (7, RV.sv false [PV.sl _ _])]) (b := [(2, (37, [PV.val _, PV.val _, PV.sl _ _, PV.sl _ _, PV.sl _ _, PV.sl _ _, PV.sl _ _, PV.sl _ _, PV.sl _ _, PV.sl _ _, PV.sl _ _]))]) (by exact ⟨rfl, rfl, rfl, rfl, rfl, rfl, ⟨⟩⟩) (by exact ⟨rfl, ⟨⟩⟩) ?_
              refine sw_draw hm_ ?_
              refine Run.step 0 (by exact ⟨rfl, ⟨⟩⟩) (by exact ⟨⟩) (LocG.of rfl (loc_field (by decide) fd_37_4)) nofree (by kernel_rfl) ?_
              refine Run.step 1 (by exact ⟨rfl, ⟨⟩⟩) (by exact ⟨rfl, ⟨⟩⟩) (LocG.of rfl (loc_load (qs := [PV.sl .v _]) (by decide) ty_23 (fun _ => rfl) (by exact Nat.le_of_ble_eq_true rfl) (by exact (ToL.cons PV.to_none ToL.nil)) (by exact (BorL.cons (PV.bor_sl _) BorL.nil)))) nofree (by kernel_rfl) ?_
              refine Run.step 0 (by exact ⟨rfl, ⟨⟩⟩) (by exact ⟨⟩) (LocG.of rfl (loc_copy (.inl rfl) (by decide) (by exact Cp.sc))) nofree (by kernel_rfl) ?_
              refine Run.step 7 (by exact ⟨rfl, rfl, ⟨⟩⟩) (by exact ⟨⟩) (LocG.of rfl (loc_index (k := (n).toNat) (by decide) sl_23 (by exact ⟨⟩) (by omega) (by exact getm2 (by omega) (by rw [atI_eq (by omega)])) (by exact rfl))) nofree (by kernel_rfl) ?_
              refine Run.step 15 (by exact ⟨rfl, ⟨⟩⟩) (by exact ⟨⟩) (LocG.of rfl (loc_eload (qs := [PV.val _]) (by decide) ty_3 (fun _ => rfl) (by exact Nat.le_of_ble_eq_true rfl) (by exact (ToL.cons (PV.To.refl _) ToL.nil)) (by exact (BorL.cons (PV.bor_val _) BorL.nil)))) nofree (by kernel_rfl) ?_
              refine Run.step 0 (by exact ⟨rfl, ⟨⟩⟩) (by exact ⟨⟩) (LocG.of rfl (loc_copy (r' := RV.sv false [PV.sl .v _]) (.inl rfl) (by decide) (by exact Cp.sv (ToL.cons PV.to_none ToL.nil) (BorL.cons (PV.bor_sl _) BorL.nil)))) nofree (by kernel_rfl) ?_
              refine Run.step 32 (by exact ⟨rfl, ⟨⟩⟩) (by exact ⟨⟩) (LocG.of rfl (loc_len (by decide) sl_53 (by first | exact List.length_map _ | exact rfl))) nofree (by kernel_rfl) ?_
              refine Run.step 127 (by exact ⟨rfl, rfl, ⟨⟩⟩) (by exact ⟨⟩) (LocG.of rfl (loc_call (qs := [(false, [PV.val _]), (false, [PV.val _]), (false, [PV.val _])]) (as_ := [(false, [PV.val _]), (false, [PV.val _]), (false, [PV.val _])]) (by decide) c_71 (by exact (And.intro (by exact ⟨⟩) (And.intro (ok_sc rfl) (And.intro (by exact ⟨⟩) True.intro)))) (by exact (And.intro (And.intro rfl (ToL.cons (PV.To.refl _) ToL.nil)) (And.intro (And.intro rfl (ToL.cons (PV.To.refl _) ToL.nil)) (And.intro (And.intro rfl (ToL.cons (PV.To.refl _) ToL.nil)) True.intro)))) (by exact impl_within))) nofree (by kernel_rfl) ?_
              refine Run.step 255 (by exact ⟨rfl, ⟨⟩⟩) (by exact ⟨⟩) (LocG.of rfl (loc_copy (.inl rfl) (by decide) (by exact Cp.sc))) nofree (by kernel_rfl) ?_
              refine Run.cases (s := 87) rfl (fun g17 => ?_) (fun g17 => ?_)
              · have sg17 := g17
                try simp only [q1, q2, q3, q4, q5, q6, q7, q8, q9] at sg17
                refine Run.step 511 (by exact ⟨rfl, rfl, ⟨⟩⟩) (by exact ⟨⟩) (LocG.yes rfl rfl (by decide) g17 (loc_field (by decide) fd_37_5)) nofree (by kernel_rfl) ?_
                refine Run.step 1023 (by exact ⟨rfl, rfl, ⟨⟩⟩) (by exact ⟨rfl, ⟨⟩⟩) (LocG.yes rfl rfl (by decide) g17 (loc_load (qs := [PV.sl .v _]) (by decide) ty_35 (fun _ => rfl) (by exact Nat.le_of_ble_eq_true rfl) (by exact (ToL.cons PV.to_none ToL.nil)) (by exact (BorL.cons (PV.bor_sl _) BorL.nil)))) nofree (by kernel_rfl) ?_
                refine Run.step 511 (by exact ⟨rfl, rfl, ⟨⟩⟩) (by exact ⟨⟩) (LocG.yes rfl rfl (by decide) g17 (loc_copy (.inl rfl) (by decide) (by exact Cp.sc))) nofree (by kernel_rfl) ?_
                refine Run.step 4095 (by exact ⟨rfl, rfl, rfl, ⟨⟩⟩) (by exact ⟨⟩) (LocG.yes rfl rfl (by decide) g17 (loc_index (k := (n).toNat) (by decide) sl_35 (by exact ⟨⟩) (by omega) (by exact getm2 (by omega) (by rw [bufAt_eq (by omega)])) (by exact rfl))) nofree (by kernel_rfl) ?_
                refine Run.step 8191 (by exact ⟨rfl, rfl, ⟨⟩⟩) (by exact ⟨⟩) (LocG.yes rfl rfl (by decide) g17 (loc_eload (qs := [PV.sl .v _]) (by decide) ty_53 (fun _ => rfl) (by exact Nat.le_of_ble_eq_true rfl) (by exact (ToL.cons PV.to_none ToL.nil)) (by exact (BorL.cons (PV.bor_sl _) BorL.nil)))) nofree (by kernel_rfl) ?_
                refine Run.step 511 (by exact ⟨rfl, rfl, ⟨⟩⟩) (by exact ⟨⟩) (LocG.yes rfl rfl (by decide) g17 (loc_field (by decide) fd_37_0)) nofree (by kernel_rfl) ?_
                refine Run.step 16895 (by exact ⟨rfl, rfl, ⟨⟩⟩) (by exact ⟨rfl, ⟨⟩⟩) (LocG.yes rfl rfl (by decide) g17 (loc_load (qs := [PV.val _, PV.val _, PV.sl .v _, PV.sl .v _]) (by decide) ty_34 (fun h => nomatch h) (by exact Nat.le_of_ble_eq_true rfl) (by exact (ToL.cons (PV.To.refl _) (ToL.cons (PV.To.refl _) (ToL.cons PV.to_none (ToL.cons PV.to_none ToL.nil))))) (by exact (BorL.cons (PV.bor_val _) (BorL.cons (PV.bor_val _) (BorL.cons (PV.bor_sl _) (BorL.cons (PV.bor_sl _) BorL.nil))))))) nofree (by kernel_rfl) ?_
                refine Run.step 511 (by exact ⟨rfl, rfl, ⟨⟩⟩) (by exact ⟨⟩) (LocG.yes rfl rfl (by decide) g17 (loc_copy (r' := RV.sv false [PV.sl .v _]) (.inl rfl) (by decide) (by exact Cp.sv (ToL.cons PV.to_none ToL.nil) (BorL.cons (PV.bor_sl _) BorL.nil)))) nofree (by kernel_rfl) ?_
                refine Run.step 511 (by exact ⟨rfl, rfl, ⟨⟩⟩) (by exact ⟨⟩) (LocG.yes rfl rfl (by decide) g17 (loc_field (by decide) fd_37_4)) nofree (by kernel_rfl) ?_
                refine Run.step 131583 (by exact ⟨rfl, rfl, ⟨⟩⟩) (by exact ⟨rfl, ⟨⟩⟩) (LocG.yes rfl rfl (by decide) g17 (loc_load (qs := [PV.sl .v _]) (by decide) ty_23 (fun _ => rfl) (by exact Nat.le_of_ble_eq_true rfl) (by exact (ToL.cons PV.to_none ToL.nil)) (by exact (BorL.cons (PV.bor_sl _) BorL.nil)))) nofree (by kernel_rfl) ?_
                refine Run.step 511 (by exact ⟨rfl, rfl, ⟨⟩⟩) (by exact ⟨⟩) (LocG.yes rfl rfl (by decide) g17 (loc_copy (.inl rfl) (by decide) (by exact Cp.sc))) nofree (by kernel_rfl) ?_
                refine Run.step 918015 (by exact ⟨rfl, rfl, rfl, ⟨⟩⟩) (by exact ⟨⟩) (LocG.yes rfl rfl (by decide) g17 (loc_index (k := (n).toNat) (by decide) sl_23 (by exact ⟨⟩) (by omega) (by exact getm2 (by omega) (by rw [atI_eq (by omega)])) (by exact rfl))) nofree (by kernel_rfl) ?_
                refine Run.step 1966591 (by exact ⟨rfl, rfl, ⟨⟩⟩) (by exact ⟨⟩) (LocG.yes rfl rfl (by decide) g17 (loc_eload (qs := [PV.val _]) (by decide) ty_3 (fun _ => rfl) (by exact Nat.le_of_ble_eq_true rfl) (by exact (ToL.cons (PV.To.refl _) ToL.nil)) (by exact (BorL.cons (PV.bor_val _) BorL.nil)))) nofree (by kernel_rfl) ?_
                refine Run.step 4129279 (by exact ⟨rfl, rfl, rfl, ⟨⟩⟩) (by exact ⟨⟩) (LocG.yes rfl rfl (by decide) g17 (loc_sliceM (i := 0) (j := (atI c.Pos n).toNat) (ys := ((partAt c (atI c.At n)).take (atI c.Pos n).toNat)) (q := (0 : Int)) (by decide) sl_53 (by exact rfl) (by exact ⟨⟩) (by omega) (by have hq := inB_iff.1 ‹inB (atI c.Pos n) 0 ((partAt c (atI c.At n)).length : Int) = true›; omega) (by omega) (by have hq := inB_iff.1 ‹inB (atI c.Pos n) 0 ((partAt c (atI c.At n)).length : Int) = true›; omega) (fun _ => rfl) (by simp))) nofree (by kernel_rfl) ?_
                refine Run.step 8372735 (by exact ⟨rfl, rfl, rfl, ⟨⟩⟩) (by exact ⟨⟩) (LocG.yes rfl rfl (by decide) g17 (loc_call (qs := [(true, [PV.val _, PV.val _, PV.sl _ _, PV.sl _ _]), (false, [PV.sl _ _])]) (as_ := [(true, [PV.val _, PV.val _, PV.sl .v _, PV.sl .v _]), (false, [PV.sl .v _])]) (by decide) c_174 (by exact (And.intro (by exact ⟨⟩) (And.intro (by exact ⟨⟩) True.intro))) (by exact (And.intro (And.intro rfl (ToL.cons (PV.To.refl _) (ToL.cons (PV.To.refl _) (ToL.cons PV.to_none (ToL.cons PV.to_none ToL.nil))))) (And.intro (And.intro rfl (ToL.cons PV.to_none ToL.nil)) True.intro))) (by exact impl_matching (by first | omega | exact hwp _)))) nofree (by kernel_rfl) ?_
                refine Run.step 16777215 (by exact ⟨rfl, rfl, rfl, ⟨⟩⟩) (by exact ⟨⟩) (LocG.yes rfl rfl (by decide) g17 (loc_call (qs := [(false, [PV.sl _ _]), (false, [PV.sl _ _])]) (as_ := [(false, [PV.sl .v _]), (false, [PV.sl .v _])]) (by decide) c_90 (by exact (And.intro (by exact ⟨⟩) (And.intro (by exact ⟨⟩) True.intro))) (by exact (And.intro (And.intro rfl (ToL.cons PV.to_none ToL.nil)) (And.intro (And.intro rfl (ToL.cons PV.to_none ToL.nil)) True.intro))) (by exact impl_EqualRows))) nofree (by kernel_rfl) ?_
                refine Run.step 33554431 (by exact ⟨rfl, rfl, ⟨⟩⟩) (by exact ⟨⟩) (LocG.of rfl (loc_pick (z := .tmp 103) (by decide) (by rw [g17]; rfl) (by exact ⟨⟩) (by exact ⟨⟩) (by exact Cp.sc))) nofree (by kernel_rfl) ?_
                refine Run.step 67108863 (by exact ⟨rfl, ⟨⟩⟩) (by exact ⟨⟩) (LocG.of rfl (loc_copy (.inr rfl) (by decide) (by exact Cp.sc))) nofree (by kernel_rfl) ?_
                refine sw_ret ?_
                exact (And.intro (by refine bool_eq ?_; unfold nodeI nodeB loneB; rw [if_neg (by assumption)]; simp_all) True.intro)
              · have sg17 := g17
                try simp only [q1, q2, q3, q4, q5, q6, q7, q8, q9] at sg17
                refine Run.step 511 (by exact ⟨rfl, ⟨⟩⟩) (by exact ⟨⟩) (LocG.no (ops := _) rfl rfl (by decide) g17 rfl) nofree (by kernel_rfl) ?_
                refine Run.step 1023 (by exact ⟨rfl, ⟨⟩⟩) (by exact ⟨⟩) (LocG.no (ops := _) rfl rfl (by decide) g17 rfl) nofree (by kernel_rfl) ?_
                refine Run.step 511 (by exact ⟨rfl, ⟨⟩⟩) (by exact ⟨⟩) (LocG.no (ops := _) rfl rfl (by decide) g17 rfl) nofree (by kernel_rfl) ?_
                refine Run.step 4095 (by exact ⟨rfl, ⟨⟩⟩) (by exact ⟨⟩) (LocG.no (ops := _) rfl rfl (by decide) g17 rfl) nofree (by kernel_rfl) ?_
                refine Run.step 8191 (by exact ⟨rfl, ⟨⟩⟩) (by exact ⟨⟩) (LocG.no (ops := _) rfl rfl (by decide) g17 rfl) nofree (by kernel_rfl) ?_
                refine Run.step 511 (by exact ⟨rfl, ⟨⟩⟩) (by exact ⟨⟩) (LocG.no (ops := _) rfl rfl (by decide) g17 rfl) nofree (by kernel_rfl) ?_
                refine Run.step 16895 (by exact ⟨rfl, ⟨⟩⟩) (by exact ⟨⟩) (LocG.no (ops := _) rfl rfl (by decide) g17 rfl) nofree (by kernel_rfl) ?_
                refine Run.step 511 (by exact ⟨rfl, ⟨⟩⟩) (by exact ⟨⟩) (LocG.no (ops := _) rfl rfl (by decide) g17 rfl) nofree (by kernel_rfl) ?_
                refine Run.step 511 (by exact ⟨rfl, ⟨⟩⟩) (by exact ⟨⟩) (LocG.no (ops := _) rfl rfl (by decide) g17 rfl) nofree (by kernel_rfl) ?_
                refine Run.step 131583 (by exact ⟨rfl, ⟨⟩⟩) (by exact ⟨⟩) (LocG.no (ops := _) rfl rfl (by decide) g17 rfl) nofree (by kernel_rfl) ?_
                refine Run.step 511 (by exact ⟨rfl, ⟨⟩⟩) (by exact ⟨⟩) (LocG.no (ops := _) rfl rfl (by decide) g17 rfl) nofree (by kernel_rfl) ?_
                refine Run.step 918015 (by exact ⟨rfl, ⟨⟩⟩) (by exact ⟨⟩) (LocG.no (ops := _) rfl rfl (by decide) g17 rfl) nofree (by kernel_rfl) ?_
                refine Run.step 1966591 (by exact ⟨rfl, ⟨⟩⟩) (by exact ⟨⟩) (LocG.no (ops := _) rfl rfl (by decide) g17 rfl) nofree (by kernel_rfl) ?_
                refine Run.step 4129279 (by exact ⟨rfl, ⟨⟩⟩) (by exact ⟨⟩) (LocG.no (ops := _) rfl rfl (by decide) g17 rfl) nofree (by kernel_rfl) ?_
                refine Run.step 8372735 (by exact ⟨rfl, ⟨⟩⟩) (by exact ⟨⟩) (LocG.no (ops := _) rfl rfl (by decide) g17 rfl) nofree (by kernel_rfl) ?_
                refine Run.step 16777215 (by exact ⟨rfl, ⟨⟩⟩) (by exact ⟨⟩) (LocG.no (ops := _) rfl rfl (by decide) g17 rfl) nofree (by kernel_rfl) ?_
                refine Run.step 33554431 (by exact ⟨rfl, ⟨⟩⟩) (by exact ⟨⟩) (LocG.of rfl (loc_pick (z := .const (.bool false)) (by decide) (by rw [g17]; rfl) (by exact ⟨⟩) (ok_sc rfl) (by exact Cp.sc))) nofree (by kernel_rfl) ?_
                refine Run.step 67108863 (by exact ⟨rfl, ⟨⟩⟩) (by exact ⟨⟩) (LocG.of rfl (loc_copy (.inr rfl) (by decide) (by exact Cp.sc))) nofree (by kernel_rfl) ?_
                refine sw_ret ?_
                exact (And.intro (by refine bool_eq ?_; unfold nodeI nodeB loneB; rw [if_neg (by assumption)]; simp_all) True.intro)
end Go.Proofs.Ytgaaaoapnhambaa
