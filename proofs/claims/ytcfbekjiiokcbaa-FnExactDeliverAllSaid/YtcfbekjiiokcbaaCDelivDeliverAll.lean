/- What functions of the program compute. No condition. -/
import Derived.Test.YtcfbekjiiokcbaaCProgDeliverAll
set_option linter.unusedVariables false
set_option linter.unusedSimpArgs false
namespace Go.Proofs.Ytcfbekjiiokcbaa
open Go Go.RowKit M
set_option maxRecDepth 10000
theorem impl_IsOutbox {p1 : Fl} {x : Outbox}  : SCall Try.prog 161 [(true, [PV.sl .v (x.Rows.map (cRow p1)), PV.val (vI x.Acked), PV.val (vI x.Tries)])] (resRV [(false, [PV.val (.bool (okBox x))])]) := by
  refine scall_of (rs := [(false, [PV.val (.bool (okBox x))])]) Try.func161 rfl (Nat.le_of_ble_eq_true rfl) (borA_cons (BorL.cons (PV.bor_sl _) (BorL.cons (PV.bor_val _) (BorL.cons (PV.bor_val _) BorL.nil))) borA_nil) ?_
  intro h0 w0 Fz0
  refine sw_slen (s := 0) (j := 0) rfl rfl fun hl0_0 => ?_
  try rw [List.length_map] at hl0_0
  refine sw_seq ?_
  refine sw_reg ?_
  refine RunS.step (by exact And.intro rfl True.intro) (by exact True.intro) (LocG.of rfl (loc_box (ag := true) (cs := [PV.sl _ _, PV.val _, PV.val _]) (by decide) (by exact True.intro))) (free1 (Free.of_ rfl)) ?_
  refine RunS.step (by exact True.intro) (by exact True.intro) (LocG.of rfl (loc_const (.inr rfl) (by decide) (ok_sc rfl))) nofree ?_
  refine sw_seq ?_
  refine sw_of (l := [(1, RV.ptr 1 0), (2, RV.sv false [PV.val _])]) (b := [(1, (27, [PV.sl _ _, PV.val _, PV.val _]))]) (by exact And.intro rfl (And.intro rfl True.intro)) (by exact And.intro rfl True.intro) ?_
  refine sw_reg ?_
  refine RunS.step (by exact And.intro rfl True.intro) (by exact True.intro) (LocG.of rfl (loc_field (by decide) fd_27_0)) nofree ?_
  refine RunS.step (by exact And.intro rfl True.intro) (by exact And.intro rfl True.intro) (LocG.of rfl (loc_load (qs := [PV.sl .v _]) (by decide) ty_25 (fun _ => rfl) (by exact Nat.le_of_ble_eq_true rfl) (by exact (ToL.cons PV.to_none ToL.nil)) (by exact (BorL.cons (PV.bor_sl _) BorL.nil)))) nofree ?_
  refine RunS.step (by exact And.intro rfl True.intro) (by exact True.intro) (LocG.of rfl (loc_call (qs := [(false, [PV.sl _ _])]) (as_ := [(false, [PV.sl .v _])]) (by decide) c_157 (by exact (And.intro (by exact True.intro) True.intro)) (by exact (And.intro (And.intro rfl (ToL.cons PV.to_none ToL.nil)) True.intro)) (by exact impl_resultOk))) nofree ?_
  refine RunS.step (by exact And.intro rfl True.intro) (by exact True.intro) (LocG.of rfl (loc_copy (.inl rfl) (by decide) (by exact Cp.sc))) nofree ?_
  refine RunS.cases (s := 6) rfl (fun g1 => ?_) (fun g1 => ?_)
  · refine RunS.step (by exact And.intro rfl (And.intro rfl True.intro)) (by exact True.intro) (LocG.yes rfl rfl (by decide) g1 (loc_field (by decide) fd_27_1)) nofree ?_
    refine RunS.step (by exact And.intro rfl (And.intro rfl True.intro)) (by exact And.intro rfl True.intro) (LocG.yes rfl rfl (by decide) g1 (loc_load (qs := [PV.val _]) (by decide) ty_3 (fun _ => rfl) (by exact Nat.le_of_ble_eq_true rfl) (by exact (ToL.cons (PV.To.refl _) ToL.nil)) (by exact (BorL.cons (PV.bor_val _) BorL.nil)))) nofree ?_
    refine RunS.step (by exact And.intro rfl (And.intro rfl True.intro)) (by exact True.intro) (LocG.yes rfl rfl (by decide) g1 (loc_field (by decide) fd_27_0)) nofree ?_
    refine RunS.step (by exact And.intro rfl (And.intro rfl True.intro)) (by exact And.intro rfl True.intro) (LocG.yes rfl rfl (by decide) g1 (loc_load (qs := [PV.sl .v _]) (by decide) ty_25 (fun _ => rfl) (by exact Nat.le_of_ble_eq_true rfl) (by exact (ToL.cons PV.to_none ToL.nil)) (by exact (BorL.cons (PV.bor_sl _) BorL.nil)))) nofree ?_
    refine RunS.step (by exact And.intro rfl (And.intro rfl True.intro)) (by exact True.intro) (LocG.yes rfl rfl (by decide) g1 (loc_len (by decide) sl_25 (by first | exact List.length_map _ | exact rfl))) nofree ?_
    refine RunS.step (by exact And.intro rfl (And.intro rfl (And.intro rfl True.intro))) (by exact True.intro) (LocG.yes rfl rfl (by decide) g1 (loc_call (qs := [(false, [PV.val _]), (false, [PV.val _]), (false, [PV.val _])]) (as_ := [(false, [PV.val _]), (false, [PV.val _]), (false, [PV.val _])]) (by decide) c_94 (by exact (And.intro (by exact True.intro) (And.intro (ok_sc rfl) (And.intro (by exact True.intro) True.intro)))) (by exact (And.intro (And.intro rfl (ToL.cons (PV.To.refl _) ToL.nil)) (And.intro (And.intro rfl (ToL.cons (PV.To.refl _) ToL.nil)) (And.intro (And.intro rfl (ToL.cons (PV.To.refl _) ToL.nil)) True.intro)))) (by exact impl_within))) nofree ?_
    refine RunS.step (by exact And.intro rfl (And.intro rfl True.intro)) (by exact True.intro) (LocG.of rfl (loc_pick (z := .tmp 12) (by decide) (by rw [g1]; rfl) (by exact True.intro) (by exact True.intro) (by exact Cp.sc))) nofree ?_
    refine RunS.step (by exact And.intro rfl True.intro) (by exact True.intro) (LocG.of rfl (loc_copy (.inl rfl) (by decide) (by exact Cp.sc))) nofree ?_
    refine RunS.cases (s := 14) rfl (fun g2 => ?_) (fun g2 => ?_)
    · refine RunS.step (by exact And.intro rfl (And.intro rfl True.intro)) (by exact True.intro) (LocG.yes rfl rfl (by decide) g2 (loc_field (by decide) fd_27_2)) nofree ?_
      refine RunS.step (by exact And.intro rfl (And.intro rfl True.intro)) (by exact And.intro rfl True.intro) (LocG.yes rfl rfl (by decide) g2 (loc_load (qs := [PV.val _]) (by decide) ty_3 (fun _ => rfl) (by exact Nat.le_of_ble_eq_true rfl) (by exact (ToL.cons (PV.To.refl _) ToL.nil)) (by exact (BorL.cons (PV.bor_val _) BorL.nil)))) nofree ?_
      refine RunS.step (by exact And.intro rfl (And.intro rfl True.intro)) (by exact True.intro) (LocG.yes rfl rfl (by decide) g2 (loc_call (qs := [(false, [PV.val _]), (false, [PV.val _]), (false, [PV.val _])]) (as_ := [(false, [PV.val _]), (false, [PV.val _]), (false, [PV.val _])]) (by decide) c_94 (by exact (And.intro (by exact True.intro) (And.intro (ok_sc rfl) (And.intro (ok_sc rfl) True.intro)))) (by exact (And.intro (And.intro rfl (ToL.cons (PV.To.refl _) ToL.nil)) (And.intro (And.intro rfl (ToL.cons (PV.To.refl _) ToL.nil)) (And.intro (And.intro rfl (ToL.cons (PV.To.refl _) ToL.nil)) True.intro)))) (by exact impl_within))) nofree ?_
      refine RunS.step (by exact And.intro rfl (And.intro rfl True.intro)) (by exact True.intro) (LocG.of rfl (loc_pick (z := .tmp 17) (by decide) (by rw [g2]; rfl) (by exact True.intro) (by exact True.intro) (by exact Cp.sc))) nofree ?_
      refine RunS.step (by exact And.intro rfl True.intro) (by exact True.intro) (LocG.of rfl (loc_copy (.inr rfl) (by decide) (by exact Cp.sc))) nofree ?_
      refine sw_ret ?_
      exact (And.intro (by refine bool_eq ?_; simp_all [okBox]) True.intro)
    · refine RunS.step (by exact And.intro rfl True.intro) (by exact True.intro) (LocG.no (ops := _) rfl rfl (by decide) g2 rfl) nofree ?_
      refine RunS.step (by exact And.intro rfl True.intro) (by exact True.intro) (LocG.no (ops := _) rfl rfl (by decide) g2 rfl) nofree ?_
      refine RunS.step (by exact And.intro rfl True.intro) (by exact True.intro) (LocG.no (ops := _) rfl rfl (by decide) g2 rfl) nofree ?_
      refine RunS.step (by exact And.intro rfl True.intro) (by exact True.intro) (LocG.of rfl (loc_pick (z := .const (.bool false)) (by decide) (by rw [g2]; rfl) (by exact True.intro) (ok_sc rfl) (by exact Cp.sc))) nofree ?_
      refine RunS.step (by exact And.intro rfl True.intro) (by exact True.intro) (LocG.of rfl (loc_copy (.inr rfl) (by decide) (by exact Cp.sc))) nofree ?_
      refine sw_ret ?_
      exact (And.intro (by refine bool_eq ?_; simp_all [okBox]) True.intro)
  · refine RunS.step (by exact And.intro rfl True.intro) (by exact True.intro) (LocG.no (ops := _) rfl rfl (by decide) g1 rfl) nofree ?_
    refine RunS.step (by exact And.intro rfl True.intro) (by exact True.intro) (LocG.no (ops := _) rfl rfl (by decide) g1 rfl) nofree ?_
    refine RunS.step (by exact And.intro rfl True.intro) (by exact True.intro) (LocG.no (ops := _) rfl rfl (by decide) g1 rfl) nofree ?_
    refine RunS.step (by exact And.intro rfl True.intro) (by exact True.intro) (LocG.no (ops := _) rfl rfl (by decide) g1 rfl) nofree ?_
    refine RunS.step (by exact And.intro rfl True.intro) (by exact True.intro) (LocG.no (ops := _) rfl rfl (by decide) g1 rfl) nofree ?_
    refine RunS.step (by exact And.intro rfl True.intro) (by exact True.intro) (LocG.no (ops := _) rfl rfl (by decide) g1 rfl) nofree ?_
    refine RunS.step (by exact And.intro rfl True.intro) (by exact True.intro) (LocG.of rfl (loc_pick (z := .const (.bool false)) (by decide) (by rw [g1]; rfl) (by exact True.intro) (ok_sc rfl) (by exact Cp.sc))) nofree ?_
    refine RunS.step (by exact And.intro rfl True.intro) (by exact True.intro) (LocG.of rfl (loc_copy (.inl rfl) (by decide) (by exact Cp.sc))) nofree ?_
    refine RunS.cases (s := 14) rfl (fun g3 => nomatch g3) (fun g3 => ?_)
    refine RunS.step (by exact And.intro rfl True.intro) (by exact True.intro) (LocG.no (ops := _) rfl rfl (by decide) g3 rfl) nofree ?_
    refine RunS.step (by exact And.intro rfl True.intro) (by exact True.intro) (LocG.no (ops := _) rfl rfl (by decide) g3 rfl) nofree ?_
    refine RunS.step (by exact And.intro rfl True.intro) (by exact True.intro) (LocG.no (ops := _) rfl rfl (by decide) g3 rfl) nofree ?_
    refine RunS.step (by exact And.intro rfl True.intro) (by exact True.intro) (LocG.of rfl (loc_pick (z := .const (.bool false)) (by decide) (by rw [g3]; rfl) (by exact True.intro) (ok_sc rfl) (by exact Cp.sc))) nofree ?_
    refine RunS.step (by exact And.intro rfl True.intro) (by exact True.intro) (LocG.of rfl (loc_copy (.inr rfl) (by decide) (by exact Cp.sc))) nofree ?_
    refine sw_ret ?_
    exact (And.intro (by refine bool_eq ?_; simp_all [okBox]) True.intro)
theorem spec_IsOutbox {p1 : Fl} {x : Outbox}  : SCall Try.prog 155 [(true, [PV.sl .v (x.Rows.map (cRow p1)), PV.val (vI x.Acked), PV.val (vI x.Tries)])] (resRV [(false, [PV.val (.bool (okBox x))])]) := by
  refine scall_of (rs := [(false, [PV.val (.bool (okBox x))])]) Try.func155 rfl (Nat.le_of_ble_eq_true rfl) (borA_cons (BorL.cons (PV.bor_sl _) (BorL.cons (PV.bor_val _) (BorL.cons (PV.bor_val _) BorL.nil))) borA_nil) ?_
  intro h0 w0 Fz0
  refine sw_slen (s := 0) (j := 0) rfl rfl fun hl0_0 => ?_
  try rw [List.length_map] at hl0_0
  refine sw_seq ?_
  refine sw_reg ?_
  refine RunS.step (by exact And.intro rfl True.intro) (by exact True.intro) (LocG.of rfl (loc_box (ag := true) (cs := [PV.sl _ _, PV.val _, PV.val _]) (by decide) (by exact True.intro))) (free1 (Free.of_ rfl)) ?_
  refine RunS.step (by exact True.intro) (by exact True.intro) (LocG.of rfl (loc_const (.inr rfl) (by decide) (ok_sc rfl))) nofree ?_
  refine sw_seq ?_
  refine sw_of (l := [(1, RV.ptr 1 0), (2, RV.sv false [PV.val _])]) (b := [(1, (27, [PV.sl _ _, PV.val _, PV.val _]))]) (by exact And.intro rfl (And.intro rfl True.intro)) (by exact And.intro rfl True.intro) ?_
  refine sw_reg ?_
  refine RunS.step (by exact And.intro rfl True.intro) (by exact True.intro) (LocG.of rfl (loc_field (by decide) fd_27_0)) nofree ?_
  refine RunS.step (by exact And.intro rfl True.intro) (by exact And.intro rfl True.intro) (LocG.of rfl (loc_load (qs := [PV.sl .v _]) (by decide) ty_25 (fun _ => rfl) (by exact Nat.le_of_ble_eq_true rfl) (by exact (ToL.cons PV.to_none ToL.nil)) (by exact (BorL.cons (PV.bor_sl _) BorL.nil)))) nofree ?_
  refine RunS.step (by exact And.intro rfl True.intro) (by exact True.intro) (LocG.of rfl (loc_call (qs := [(false, [PV.sl _ _])]) (as_ := [(false, [PV.sl .v _])]) (by decide) c_151 (by exact (And.intro (by exact True.intro) True.intro)) (by exact (And.intro (And.intro rfl (ToL.cons PV.to_none ToL.nil)) True.intro)) (by exact spec_l9List))) nofree ?_
  refine RunS.step (by exact And.intro rfl True.intro) (by exact True.intro) (LocG.of rfl (loc_copy (.inl rfl) (by decide) (by exact Cp.sc))) nofree ?_
  refine RunS.cases (s := 6) rfl (fun g1 => ?_) (fun g1 => ?_)
  · refine RunS.step (by exact And.intro rfl (And.intro rfl True.intro)) (by exact True.intro) (LocG.yes rfl rfl (by decide) g1 (loc_field (by decide) fd_27_1)) nofree ?_
    refine RunS.step (by exact And.intro rfl (And.intro rfl True.intro)) (by exact And.intro rfl True.intro) (LocG.yes rfl rfl (by decide) g1 (loc_load (qs := [PV.val _]) (by decide) ty_3 (fun _ => rfl) (by exact Nat.le_of_ble_eq_true rfl) (by exact (ToL.cons (PV.To.refl _) ToL.nil)) (by exact (BorL.cons (PV.bor_val _) BorL.nil)))) nofree ?_
    refine RunS.step (by exact And.intro rfl (And.intro rfl True.intro)) (by exact True.intro) (LocG.yes rfl rfl (by decide) g1 (loc_field (by decide) fd_27_0)) nofree ?_
    refine RunS.step (by exact And.intro rfl (And.intro rfl True.intro)) (by exact And.intro rfl True.intro) (LocG.yes rfl rfl (by decide) g1 (loc_load (qs := [PV.sl .v _]) (by decide) ty_25 (fun _ => rfl) (by exact Nat.le_of_ble_eq_true rfl) (by exact (ToL.cons PV.to_none ToL.nil)) (by exact (BorL.cons (PV.bor_sl _) BorL.nil)))) nofree ?_
    refine RunS.step (by exact And.intro rfl (And.intro rfl True.intro)) (by exact True.intro) (LocG.yes rfl rfl (by decide) g1 (loc_len (by decide) sl_25 (by first | exact List.length_map _ | exact rfl))) nofree ?_
    refine RunS.step (by exact And.intro rfl (And.intro rfl (And.intro rfl True.intro))) (by exact True.intro) (LocG.yes rfl rfl (by decide) g1 (loc_call (qs := [(false, [PV.val _]), (false, [PV.val _]), (false, [PV.val _])]) (as_ := [(false, [PV.val _]), (false, [PV.val _]), (false, [PV.val _])]) (by decide) c_86 (by exact (And.intro (by exact True.intro) (And.intro (ok_sc rfl) (And.intro (by exact True.intro) True.intro)))) (by exact (And.intro (And.intro rfl (ToL.cons (PV.To.refl _) ToL.nil)) (And.intro (And.intro rfl (ToL.cons (PV.To.refl _) ToL.nil)) (And.intro (And.intro rfl (ToL.cons (PV.To.refl _) ToL.nil)) True.intro)))) (by exact spec_l1In))) nofree ?_
    refine RunS.step (by exact And.intro rfl (And.intro rfl True.intro)) (by exact True.intro) (LocG.of rfl (loc_pick (z := .tmp 12) (by decide) (by rw [g1]; rfl) (by exact True.intro) (by exact True.intro) (by exact Cp.sc))) nofree ?_
    refine RunS.step (by exact And.intro rfl True.intro) (by exact True.intro) (LocG.of rfl (loc_copy (.inl rfl) (by decide) (by exact Cp.sc))) nofree ?_
    refine RunS.cases (s := 14) rfl (fun g2 => ?_) (fun g2 => ?_)
    · refine RunS.step (by exact And.intro rfl (And.intro rfl True.intro)) (by exact True.intro) (LocG.yes rfl rfl (by decide) g2 (loc_field (by decide) fd_27_2)) nofree ?_
      refine RunS.step (by exact And.intro rfl (And.intro rfl True.intro)) (by exact And.intro rfl True.intro) (LocG.yes rfl rfl (by decide) g2 (loc_load (qs := [PV.val _]) (by decide) ty_3 (fun _ => rfl) (by exact Nat.le_of_ble_eq_true rfl) (by exact (ToL.cons (PV.To.refl _) ToL.nil)) (by exact (BorL.cons (PV.bor_val _) BorL.nil)))) nofree ?_
      refine RunS.step (by exact And.intro rfl (And.intro rfl True.intro)) (by exact True.intro) (LocG.yes rfl rfl (by decide) g2 (loc_call (qs := [(false, [PV.val _]), (false, [PV.val _]), (false, [PV.val _])]) (as_ := [(false, [PV.val _]), (false, [PV.val _]), (false, [PV.val _])]) (by decide) c_86 (by exact (And.intro (by exact True.intro) (And.intro (ok_sc rfl) (And.intro (ok_sc rfl) True.intro)))) (by exact (And.intro (And.intro rfl (ToL.cons (PV.To.refl _) ToL.nil)) (And.intro (And.intro rfl (ToL.cons (PV.To.refl _) ToL.nil)) (And.intro (And.intro rfl (ToL.cons (PV.To.refl _) ToL.nil)) True.intro)))) (by exact spec_l1In))) nofree ?_
      refine RunS.step (by exact And.intro rfl (And.intro rfl True.intro)) (by exact True.intro) (LocG.of rfl (loc_pick (z := .tmp 17) (by decide) (by rw [g2]; rfl) (by exact True.intro) (by exact True.intro) (by exact Cp.sc))) nofree ?_
      refine RunS.step (by exact And.intro rfl True.intro) (by exact True.intro) (LocG.of rfl (loc_copy (.inr rfl) (by decide) (by exact Cp.sc))) nofree ?_
      refine sw_ret ?_
      exact (And.intro (by refine bool_eq ?_; simp_all [okBox]) True.intro)
    · refine RunS.step (by exact And.intro rfl True.intro) (by exact True.intro) (LocG.no (ops := _) rfl rfl (by decide) g2 rfl) nofree ?_
      refine RunS.step (by exact And.intro rfl True.intro) (by exact True.intro) (LocG.no (ops := _) rfl rfl (by decide) g2 rfl) nofree ?_
      refine RunS.step (by exact And.intro rfl True.intro) (by exact True.intro) (LocG.no (ops := _) rfl rfl (by decide) g2 rfl) nofree ?_
      refine RunS.step (by exact And.intro rfl True.intro) (by exact True.intro) (LocG.of rfl (loc_pick (z := .const (.bool false)) (by decide) (by rw [g2]; rfl) (by exact True.intro) (ok_sc rfl) (by exact Cp.sc))) nofree ?_
      refine RunS.step (by exact And.intro rfl True.intro) (by exact True.intro) (LocG.of rfl (loc_copy (.inr rfl) (by decide) (by exact Cp.sc))) nofree ?_
      refine sw_ret ?_
      exact (And.intro (by refine bool_eq ?_; simp_all [okBox]) True.intro)
  · refine RunS.step (by exact And.intro rfl True.intro) (by exact True.intro) (LocG.no (ops := _) rfl rfl (by decide) g1 rfl) nofree ?_
    refine RunS.step (by exact And.intro rfl True.intro) (by exact True.intro) (LocG.no (ops := _) rfl rfl (by decide) g1 rfl) nofree ?_
    refine RunS.step (by exact And.intro rfl True.intro) (by exact True.intro) (LocG.no (ops := _) rfl rfl (by decide) g1 rfl) nofree ?_
    refine RunS.step (by exact And.intro rfl True.intro) (by exact True.intro) (LocG.no (ops := _) rfl rfl (by decide) g1 rfl) nofree ?_
    refine RunS.step (by exact And.intro rfl True.intro) (by exact True.intro) (LocG.no (ops := _) rfl rfl (by decide) g1 rfl) nofree ?_
    refine RunS.step (by exact And.intro rfl True.intro) (by exact True.intro) (LocG.no (ops := _) rfl rfl (by decide) g1 rfl) nofree ?_
    refine RunS.step (by exact And.intro rfl True.intro) (by exact True.intro) (LocG.of rfl (loc_pick (z := .const (.bool false)) (by decide) (by rw [g1]; rfl) (by exact True.intro) (ok_sc rfl) (by exact Cp.sc))) nofree ?_
    refine RunS.step (by exact And.intro rfl True.intro) (by exact True.intro) (LocG.of rfl (loc_copy (.inl rfl) (by decide) (by exact Cp.sc))) nofree ?_
    refine RunS.cases (s := 14) rfl (fun g3 => nomatch g3) (fun g3 => ?_)
    refine RunS.step (by exact And.intro rfl True.intro) (by exact True.intro) (LocG.no (ops := _) rfl rfl (by decide) g3 rfl) nofree ?_
    refine RunS.step (by exact And.intro rfl True.intro) (by exact True.intro) (LocG.no (ops := _) rfl rfl (by decide) g3 rfl) nofree ?_
    refine RunS.step (by exact And.intro rfl True.intro) (by exact True.intro) (LocG.no (ops := _) rfl rfl (by decide) g3 rfl) nofree ?_
    refine RunS.step (by exact And.intro rfl True.intro) (by exact True.intro) (LocG.of rfl (loc_pick (z := .const (.bool false)) (by decide) (by rw [g3]; rfl) (by exact True.intro) (ok_sc rfl) (by exact Cp.sc))) nofree ?_
    refine RunS.step (by exact And.intro rfl True.intro) (by exact True.intro) (LocG.of rfl (loc_copy (.inr rfl) (by decide) (by exact Cp.sc))) nofree ?_
    refine sw_ret ?_
    exact (And.intro (by refine bool_eq ?_; simp_all [okBox]) True.intro)
theorem impl_copyOutbox {p1 : Fl} {x : Outbox}  (hb : wtOutbox x ≤ 68719476736) : SCall Try.prog 159 [(true, [PV.sl .v (x.Rows.map (cRow p1)), PV.val (vI x.Acked), PV.val (vI x.Tries)])] (resRV [(true, [PV.sl (.own 57 2) (x.Rows.map (cRow (.own 3 1))), PV.val (vI x.Acked), PV.val (vI x.Tries)])]) := by
  refine scall_of (rs := [(true, [PV.sl (.own 57 2) (x.Rows.map (cRow (.own 3 1))), PV.val (vI x.Acked), PV.val (vI x.Tries)])]) Try.func159 rfl (Nat.le_of_ble_eq_true rfl) (borA_cons (BorL.cons (PV.bor_sl _) (BorL.cons (PV.bor_val _) (BorL.cons (PV.bor_val _) BorL.nil))) borA_nil) ?_
  intro h0 w0 Fz0
  refine sw_slen (s := 0) (j := 0) rfl rfl fun hl0_0 => ?_
  try rw [List.length_map] at hl0_0
  have hbu := hb
  simp only [wtOutbox, wtInt] at hbu
  refine sw_seq ?_
  refine sw_reg ?_
  refine RunS.step (by exact And.intro rfl True.intro) (by exact True.intro) (LocG.of rfl (loc_box (ag := true) (cs := [PV.sl _ _, PV.val _, PV.val _]) (by decide) (by exact True.intro))) (free1 (Free.of_ rfl)) ?_
  refine RunS.step (by exact True.intro) (by exact True.intro) (LocG.of rfl (loc_alloc (by decide) z_27 zo_27)) (free1 (Free.app (Free.of_ rfl) rfl)) ?_
  refine sw_seq ?_
  refine sw_of (l := [(1, RV.ptr 1 0), (2, RV.ptr 2 0)]) (b := [(1, (27, [PV.sl _ _, PV.val _, PV.val _])), (2, (27, [PV.sl _ _, PV.val _, PV.val _]))]) (by exact And.intro rfl (And.intro rfl True.intro)) (by exact And.intro rfl (And.intro rfl True.intro)) ?_
  refine sw_draw hm_ ?_
  refine Run.step 0 (by exact And.intro rfl True.intro) (by exact True.intro) (LocG.of rfl (loc_field (by decide) fd_27_0)) nofree (by kernel_rfl) ?_
  refine Run.step 1 (by exact And.intro rfl True.intro) (by exact And.intro rfl True.intro) (LocG.of rfl (loc_load (qs := [PV.sl .v _]) (by decide) ty_25 (fun _ => rfl) (by exact Nat.le_of_ble_eq_true rfl) (by exact (ToL.cons PV.to_none ToL.nil)) (by exact (BorL.cons (PV.bor_sl _) BorL.nil)))) nofree (by kernel_rfl) ?_
  refine Run.step 3 (by exact And.intro rfl True.intro) (by exact True.intro) (LocG.of rfl (loc_call (qs := [(false, [PV.sl _ _])]) (as_ := [(false, [PV.sl .v _])]) (by decide) c_158 (by exact (And.intro (by exact True.intro) True.intro)) (by exact (And.intro (And.intro rfl (ToL.cons PV.to_none ToL.nil)) True.intro)) (by exact impl_copyRows (by omega)))) nofree (by kernel_rfl) ?_
  refine Run.step 0 (by exact And.intro rfl True.intro) (by exact True.intro) (LocG.of rfl (loc_field (by decide) fd_27_1)) nofree (by kernel_rfl) ?_
  refine Run.step 8 (by exact And.intro rfl True.intro) (by exact And.intro rfl True.intro) (LocG.of rfl (loc_load (qs := [PV.val _]) (by decide) ty_3 (fun _ => rfl) (by exact Nat.le_of_ble_eq_true rfl) (by exact (ToL.cons (PV.To.refl _) ToL.nil)) (by exact (BorL.cons (PV.bor_val _) BorL.nil)))) nofree (by kernel_rfl) ?_
  refine Run.step 0 (by exact And.intro rfl True.intro) (by exact True.intro) (LocG.of rfl (loc_field (by decide) fd_27_2)) nofree (by kernel_rfl) ?_
  refine Run.step 32 (by exact And.intro rfl True.intro) (by exact And.intro rfl True.intro) (LocG.of rfl (loc_load (qs := [PV.val _]) (by decide) ty_3 (fun _ => rfl) (by exact Nat.le_of_ble_eq_true rfl) (by exact (ToL.cons (PV.To.refl _) ToL.nil)) (by exact (BorL.cons (PV.bor_val _) BorL.nil)))) nofree (by kernel_rfl) ?_
  refine Run.step 127 (by exact And.intro rfl (And.intro rfl (And.intro rfl True.intro))) (by exact True.intro) (LocG.of rfl (loc_build (qs := [(false, [PV.sl _ _]), (false, [PV.val _]), (false, [PV.val _])]) (cs := [PV.sl _ _, PV.val _, PV.val _]) (by decide) z_27 zo_27 pl_27 (by exact rfl) (by exact (And.intro (by exact True.intro) (And.intro (by exact True.intro) (And.intro (by exact True.intro) True.intro)))) rfl (by exact rfl))) nofree (by kernel_rfl) ?_
  refine Run.step 255 (by exact And.intro rfl (And.intro rfl True.intro)) (by exact And.intro rfl True.intro) (LocG.of rfl (loc_store (ag := true) (vs := [PV.sl _ _, PV.val _, PV.val _]) ty_27 (by exact True.intro) (by exact rfl) (by exact Nat.le_of_ble_eq_true rfl))) nofree (by kernel_rfl) ?_
  refine sw_ret ?_
  exact (Exists.intro 2 (Exists.intro _ (And.intro (by exact rfl) (And.intro (by exact rfl) (And.intro ty_27 (And.intro (fun h => nomatch h) True.intro))))))
theorem spec_l17Outbox {p1 : Fl} {x : Outbox}  (hb : wtOutbox x ≤ 68719476736) : SCall Try.prog 153 [(true, [PV.sl .v (x.Rows.map (cRow p1)), PV.val (vI x.Acked), PV.val (vI x.Tries)])] (resRV [(true, [PV.sl (.own 57 2) (x.Rows.map (cRow (.own 3 1))), PV.val (vI x.Acked), PV.val (vI x.Tries)])]) := by
  refine scall_of (rs := [(true, [PV.sl (.own 57 2) (x.Rows.map (cRow (.own 3 1))), PV.val (vI x.Acked), PV.val (vI x.Tries)])]) Try.func153 rfl (Nat.le_of_ble_eq_true rfl) (borA_cons (BorL.cons (PV.bor_sl _) (BorL.cons (PV.bor_val _) (BorL.cons (PV.bor_val _) BorL.nil))) borA_nil) ?_
  intro h0 w0 Fz0
  refine sw_slen (s := 0) (j := 0) rfl rfl fun hl0_0 => ?_
  try rw [List.length_map] at hl0_0
  have hbu := hb
  simp only [wtOutbox, wtInt] at hbu
  refine sw_seq ?_
  refine sw_reg ?_
  refine RunS.step (by exact And.intro rfl True.intro) (by exact True.intro) (LocG.of rfl (loc_box (ag := true) (cs := [PV.sl _ _, PV.val _, PV.val _]) (by decide) (by exact True.intro))) (free1 (Free.of_ rfl)) ?_
  refine RunS.step (by exact True.intro) (by exact True.intro) (LocG.of rfl (loc_alloc (by decide) z_27 zo_27)) (free1 (Free.app (Free.of_ rfl) rfl)) ?_
  refine sw_seq ?_
  refine sw_of (l := [(1, RV.ptr 1 0), (2, RV.ptr 2 0)]) (b := [(1, (27, [PV.sl _ _, PV.val _, PV.val _])), (2, (27, [PV.sl _ _, PV.val _, PV.val _]))]) (by exact And.intro rfl (And.intro rfl True.intro)) (by exact And.intro rfl (And.intro rfl True.intro)) ?_
  refine sw_draw hm_ ?_
  refine Run.step 0 (by exact And.intro rfl True.intro) (by exact True.intro) (LocG.of rfl (loc_field (by decide) fd_27_0)) nofree (by kernel_rfl) ?_
  refine Run.step 1 (by exact And.intro rfl True.intro) (by exact And.intro rfl True.intro) (LocG.of rfl (loc_load (qs := [PV.sl .v _]) (by decide) ty_25 (fun _ => rfl) (by exact Nat.le_of_ble_eq_true rfl) (by exact (ToL.cons PV.to_none ToL.nil)) (by exact (BorL.cons (PV.bor_sl _) BorL.nil)))) nofree (by kernel_rfl) ?_
  refine Run.step 3 (by exact And.intro rfl True.intro) (by exact True.intro) (LocG.of rfl (loc_call (qs := [(false, [PV.sl _ _])]) (as_ := [(false, [PV.sl .v _])]) (by decide) c_152 (by exact (And.intro (by exact True.intro) True.intro)) (by exact (And.intro (And.intro rfl (ToL.cons PV.to_none ToL.nil)) True.intro)) (by exact spec_l9Rows (by omega)))) nofree (by kernel_rfl) ?_
  refine Run.step 0 (by exact And.intro rfl True.intro) (by exact True.intro) (LocG.of rfl (loc_field (by decide) fd_27_1)) nofree (by kernel_rfl) ?_
  refine Run.step 8 (by exact And.intro rfl True.intro) (by exact And.intro rfl True.intro) (LocG.of rfl (loc_load (qs := [PV.val _]) (by decide) ty_3 (fun _ => rfl) (by exact Nat.le_of_ble_eq_true rfl) (by exact (ToL.cons (PV.To.refl _) ToL.nil)) (by exact (BorL.cons (PV.bor_val _) BorL.nil)))) nofree (by kernel_rfl) ?_
  refine Run.step 0 (by exact And.intro rfl True.intro) (by exact True.intro) (LocG.of rfl (loc_field (by decide) fd_27_2)) nofree (by kernel_rfl) ?_
  refine Run.step 32 (by exact And.intro rfl True.intro) (by exact And.intro rfl True.intro) (LocG.of rfl (loc_load (qs := [PV.val _]) (by decide) ty_3 (fun _ => rfl) (by exact Nat.le_of_ble_eq_true rfl) (by exact (ToL.cons (PV.To.refl _) ToL.nil)) (by exact (BorL.cons (PV.bor_val _) BorL.nil)))) nofree (by kernel_rfl) ?_
  refine Run.step 127 (by exact And.intro rfl (And.intro rfl (And.intro rfl True.intro))) (by exact True.intro) (LocG.of rfl (loc_build (qs := [(false, [PV.sl _ _]), (false, [PV.val _]), (false, [PV.val _])]) (cs := [PV.sl _ _, PV.val _, PV.val _]) (by decide) z_27 zo_27 pl_27 (by exact rfl) (by exact (And.intro (by exact True.intro) (And.intro (by exact True.intro) (And.intro (by exact True.intro) True.intro)))) rfl (by exact rfl))) nofree (by kernel_rfl) ?_
  refine Run.step 255 (by exact And.intro rfl (And.intro rfl True.intro)) (by exact And.intro rfl True.intro) (LocG.of rfl (loc_store (ag := true) (vs := [PV.sl _ _, PV.val _, PV.val _]) ty_27 (by exact True.intro) (by exact rfl) (by exact Nat.le_of_ble_eq_true rfl))) nofree (by kernel_rfl) ?_
  refine sw_ret ?_
  exact (Exists.intro 2 (Exists.intro _ (And.intro (by exact rfl) (And.intro (by exact rfl) (And.intro ty_27 (And.intro (fun h => nomatch h) True.intro))))))
theorem impl_NewOutbox {p1 : Fl} {x : List Row}  (hb : wtRowS x ≤ 68719476736) : SCall Try.prog 81 [(false, [PV.sl .v (x.map (cRow p1))])] (resRV [(true, [PV.sl (.own 57 2) ((newBox x).1.Rows.map (cRow (.own 3 1))), PV.val (vI (newBox x).1.Acked), PV.val (vI (newBox x).1.Tries)]), (false, [PV.val (.bool (newBox x).2)])]) := by
  refine scall_of (rs := [(true, [PV.sl (.own 57 2) ((newBox x).1.Rows.map (cRow (.own 3 1))), PV.val (vI (newBox x).1.Acked), PV.val (vI (newBox x).1.Tries)]), (false, [PV.val (.bool (newBox x).2)])]) Try.func81 rfl (Nat.le_of_ble_eq_true rfl) (borA_cons (BorL.cons (PV.bor_sl _) BorL.nil) borA_nil) ?_
  intro h0 w0 Fz0
  refine sw_len (s := 0) rfl fun hl0 => ?_
  try rw [List.length_map] at hl0
  refine sw_seq ?_
  refine sw_reg ?_
  refine RunS.step (by exact True.intro) (by exact True.intro) (LocG.of rfl (loc_alloc (by decide) z_27 zo_27)) (free1 (Free.of_ rfl)) ?_
  refine RunS.step (by exact True.intro) (by exact True.intro) (LocG.of rfl (loc_const (.inr rfl) (by decide) (ok_sc rfl))) nofree ?_
  refine sw_seq ?_
  refine sw_seq ?_
  refine sw_of (l := [(0, RV.sv false [PV.sl _ _]), (2, RV.ptr 2 0), (3, RV.sv false [PV.val _])]) (b := [(2, (27, [PV.sl _ _, PV.val _, PV.val _]))]) (by exact And.intro rfl (And.intro rfl (And.intro rfl True.intro))) (by exact And.intro rfl True.intro) ?_
  refine sw_reg ?_
  refine RunS.step (by exact And.intro rfl True.intro) (by exact True.intro) (LocG.of rfl (loc_copy (r' := RV.sv false [PV.sl .v _]) (.inl rfl) (by decide) (by exact Cp.sv (ToL.cons PV.to_none ToL.nil) (BorL.cons (PV.bor_sl _) BorL.nil)))) nofree ?_
  refine RunS.step (by exact And.intro rfl True.intro) (by exact True.intro) (LocG.of rfl (loc_call (qs := [(false, [PV.sl _ _])]) (as_ := [(false, [PV.sl .v _])]) (by decide) c_157 (by exact (And.intro (by exact True.intro) True.intro)) (by exact (And.intro (And.intro rfl (ToL.cons PV.to_none ToL.nil)) True.intro)) (by exact impl_resultOk))) nofree ?_
  refine RunS.step (by exact And.intro rfl True.intro) (by exact True.intro) (LocG.of rfl (loc_not (by decide))) nofree ?_
  refine sw_cond (t := 6) rfl (fun hb1 => ?_) (fun hb1 => ?_)
  · try simp only [decide_eq_true_eq, decide_eq_false_iff_not, bne_iff_ne, beq_iff_eq, Bool.not_eq_true', Bool.not_eq_false', ne_eq, bne_eq_false_iff_eq, beq_eq_false_iff_ne] at hb1
    refine sw_seq ?_
    refine sw_of (l := [(0, RV.sv false [PV.sl _ _]), (2, RV.ptr 2 0), (3, RV.sv false [PV.val _])]) (b := [(2, (27, [PV.sl _ _, PV.val _, PV.val _]))]) (by exact And.intro rfl (And.intro rfl (And.intro rfl True.intro))) (by exact And.intro rfl True.intro) ?_
    refine sw_reg ?_
    refine RunS.step (by exact True.intro) (by exact True.intro) (LocG.of rfl (loc_build (qs := []) (cs := [PV.sl _ _, PV.val _, PV.val _]) (by decide) z_27 zo_27 pl_27 (by exact rfl) (by exact True.intro) rfl (by exact rfl))) nofree ?_
    refine RunS.step (by exact And.intro rfl (And.intro rfl True.intro)) (by exact And.intro rfl True.intro) (LocG.of rfl (loc_store (ag := true) (vs := [PV.sl _ _, PV.val _, PV.val _]) ty_27 (by exact True.intro) (by exact rfl) (by exact Nat.le_of_ble_eq_true rfl))) nofree ?_
    refine RunS.step (by exact True.intro) (by exact True.intro) (LocG.of rfl (loc_const (.inr rfl) (by decide) (ok_sc rfl))) nofree ?_
    refine sw_ret ?_
    exact (Exists.intro 2 (Exists.intro _ (And.intro (by exact rfl) (And.intro (by refine box_eq ?_; simp [newBox, *]) (And.intro ty_27 (And.intro (fun h => nomatch h) (And.intro (by refine bool_eq ?_; simp [newBox, *]) True.intro)))))))
  · try simp only [decide_eq_true_eq, decide_eq_false_iff_not, bne_iff_ne, beq_iff_eq, Bool.not_eq_true', Bool.not_eq_false', ne_eq, bne_eq_false_iff_eq, beq_eq_false_iff_ne] at hb1
    refine sw_skip ?_
    refine sw_seq ?_
    refine sw_of (l := [(0, RV.sv false [PV.sl _ _]), (2, RV.ptr 2 0), (3, RV.sv false [PV.val _])]) (b := [(2, (27, [PV.sl _ _, PV.val _, PV.val _]))]) (by exact And.intro rfl (And.intro rfl (And.intro rfl True.intro))) (by exact And.intro rfl True.intro) ?_
    refine sw_reg ?_
    refine RunS.step (by exact And.intro rfl True.intro) (by exact True.intro) (LocG.of rfl (loc_copy (r' := RV.sv false [PV.sl .v _]) (.inl rfl) (by decide) (by exact Cp.sv (ToL.cons PV.to_none ToL.nil) (BorL.cons (PV.bor_sl _) BorL.nil)))) nofree ?_
    refine RunS.step (by exact And.intro rfl True.intro) (by exact True.intro) (LocG.of rfl (loc_call (qs := [(false, [PV.sl _ _])]) (as_ := [(false, [PV.sl .v _])]) (by decide) c_158 (by exact (And.intro (by exact True.intro) True.intro)) (by exact (And.intro (And.intro rfl (ToL.cons PV.to_none ToL.nil)) True.intro)) (by exact impl_copyRows (by omega)))) nofree ?_
    refine RunS.step (by exact And.intro rfl True.intro) (by exact True.intro) (LocG.of rfl (loc_build (qs := [(false, [PV.sl _ _])]) (cs := [PV.sl _ _, PV.val _, PV.val _]) (by decide) z_27 zo_27 pl_27 (by exact rfl) (by exact (And.intro (by exact True.intro) True.intro)) rfl (by exact rfl))) nofree ?_
    refine RunS.step (by exact And.intro rfl (And.intro rfl True.intro)) (by exact And.intro rfl True.intro) (LocG.of rfl (loc_store (ag := true) (vs := [PV.sl _ _, PV.val _, PV.val _]) ty_27 (by exact True.intro) (by exact rfl) (by exact Nat.le_of_ble_eq_true rfl))) nofree ?_
    refine RunS.step (by exact True.intro) (by exact True.intro) (LocG.of rfl (loc_const (.inr rfl) (by decide) (ok_sc rfl))) nofree ?_
    refine sw_ret ?_
    exact (Exists.intro 2 (Exists.intro _ (And.intro (by exact rfl) (And.intro (by refine box_eq ?_; simp [newBox, *]) (And.intro ty_27 (And.intro (fun h => nomatch h) (And.intro (by refine bool_eq ?_; simp [newBox, *]) True.intro)))))))
theorem spec_NewOutbox {p1 : Fl} {x : List Row}  (hb : wtRowS x ≤ 68719476736) : SCall Try.prog 78 [(false, [PV.sl .v (x.map (cRow p1))])] (resRV [(true, [PV.sl (.own 57 2) ((newBox x).1.Rows.map (cRow (.own 3 1))), PV.val (vI (newBox x).1.Acked), PV.val (vI (newBox x).1.Tries)]), (false, [PV.val (.bool (newBox x).2)])]) := by
  refine scall_of (rs := [(true, [PV.sl (.own 57 2) ((newBox x).1.Rows.map (cRow (.own 3 1))), PV.val (vI (newBox x).1.Acked), PV.val (vI (newBox x).1.Tries)]), (false, [PV.val (.bool (newBox x).2)])]) Try.func78 rfl (Nat.le_of_ble_eq_true rfl) (borA_cons (BorL.cons (PV.bor_sl _) BorL.nil) borA_nil) ?_
  intro h0 w0 Fz0
  refine sw_len (s := 0) rfl fun hl0 => ?_
  try rw [List.length_map] at hl0
  refine sw_seq ?_
  refine sw_reg ?_
  refine RunS.step (by exact True.intro) (by exact True.intro) (LocG.of rfl (loc_alloc (by decide) z_27 zo_27)) (free1 (Free.of_ rfl)) ?_
  refine RunS.step (by exact True.intro) (by exact True.intro) (LocG.of rfl (loc_const (.inr rfl) (by decide) (ok_sc rfl))) nofree ?_
  refine sw_seq ?_
  refine sw_seq ?_
  refine sw_of (l := [(0, RV.sv false [PV.sl _ _]), (2, RV.ptr 2 0), (3, RV.sv false [PV.val _])]) (b := [(2, (27, [PV.sl _ _, PV.val _, PV.val _]))]) (by exact And.intro rfl (And.intro rfl (And.intro rfl True.intro))) (by exact And.intro rfl True.intro) ?_
  refine sw_reg ?_
  refine RunS.step (by exact And.intro rfl True.intro) (by exact True.intro) (LocG.of rfl (loc_copy (r' := RV.sv false [PV.sl .v _]) (.inl rfl) (by decide) (by exact Cp.sv (ToL.cons PV.to_none ToL.nil) (BorL.cons (PV.bor_sl _) BorL.nil)))) nofree ?_
  refine RunS.step (by exact And.intro rfl True.intro) (by exact True.intro) (LocG.of rfl (loc_call (qs := [(false, [PV.sl _ _])]) (as_ := [(false, [PV.sl .v _])]) (by decide) c_151 (by exact (And.intro (by exact True.intro) True.intro)) (by exact (And.intro (And.intro rfl (ToL.cons PV.to_none ToL.nil)) True.intro)) (by exact spec_l9List))) nofree ?_
  refine RunS.step (by exact And.intro rfl True.intro) (by exact True.intro) (LocG.of rfl (loc_not (by decide))) nofree ?_
  refine sw_cond (t := 6) rfl (fun hb1 => ?_) (fun hb1 => ?_)
  · try simp only [decide_eq_true_eq, decide_eq_false_iff_not, bne_iff_ne, beq_iff_eq, Bool.not_eq_true', Bool.not_eq_false', ne_eq, bne_eq_false_iff_eq, beq_eq_false_iff_ne] at hb1
    refine sw_seq ?_
    refine sw_of (l := [(0, RV.sv false [PV.sl _ _]), (2, RV.ptr 2 0), (3, RV.sv false [PV.val _])]) (b := [(2, (27, [PV.sl _ _, PV.val _, PV.val _]))]) (by exact And.intro rfl (And.intro rfl (And.intro rfl True.intro))) (by exact And.intro rfl True.intro) ?_
    refine sw_reg ?_
    refine RunS.step (by exact True.intro) (by exact True.intro) (LocG.of rfl (loc_build (qs := []) (cs := [PV.sl _ _, PV.val _, PV.val _]) (by decide) z_27 zo_27 pl_27 (by exact rfl) (by exact True.intro) rfl (by exact rfl))) nofree ?_
    refine RunS.step (by exact And.intro rfl (And.intro rfl True.intro)) (by exact And.intro rfl True.intro) (LocG.of rfl (loc_store (ag := true) (vs := [PV.sl _ _, PV.val _, PV.val _]) ty_27 (by exact True.intro) (by exact rfl) (by exact Nat.le_of_ble_eq_true rfl))) nofree ?_
    refine RunS.step (by exact True.intro) (by exact True.intro) (LocG.of rfl (loc_const (.inr rfl) (by decide) (ok_sc rfl))) nofree ?_
    refine sw_ret ?_
    exact (Exists.intro 2 (Exists.intro _ (And.intro (by exact rfl) (And.intro (by refine box_eq ?_; simp [newBox, *]) (And.intro ty_27 (And.intro (fun h => nomatch h) (And.intro (by refine bool_eq ?_; simp [newBox, *]) True.intro)))))))
  · try simp only [decide_eq_true_eq, decide_eq_false_iff_not, bne_iff_ne, beq_iff_eq, Bool.not_eq_true', Bool.not_eq_false', ne_eq, bne_eq_false_iff_eq, beq_eq_false_iff_ne] at hb1
    refine sw_skip ?_
    refine sw_seq ?_
    refine sw_of (l := [(0, RV.sv false [PV.sl _ _]), (2, RV.ptr 2 0), (3, RV.sv false [PV.val _])]) (b := [(2, (27, [PV.sl _ _, PV.val _, PV.val _]))]) (by exact And.intro rfl (And.intro rfl (And.intro rfl True.intro))) (by exact And.intro rfl True.intro) ?_
    refine sw_reg ?_
    refine RunS.step (by exact And.intro rfl True.intro) (by exact True.intro) (LocG.of rfl (loc_copy (r' := RV.sv false [PV.sl .v _]) (.inl rfl) (by decide) (by exact Cp.sv (ToL.cons PV.to_none ToL.nil) (BorL.cons (PV.bor_sl _) BorL.nil)))) nofree ?_
    refine RunS.step (by exact And.intro rfl True.intro) (by exact True.intro) (LocG.of rfl (loc_call (qs := [(false, [PV.sl _ _])]) (as_ := [(false, [PV.sl .v _])]) (by decide) c_152 (by exact (And.intro (by exact True.intro) True.intro)) (by exact (And.intro (And.intro rfl (ToL.cons PV.to_none ToL.nil)) True.intro)) (by exact spec_l9Rows (by omega)))) nofree ?_
    refine RunS.step (by exact And.intro rfl True.intro) (by exact True.intro) (LocG.of rfl (loc_build (qs := [(false, [PV.sl _ _])]) (cs := [PV.sl _ _, PV.val _, PV.val _]) (by decide) z_27 zo_27 pl_27 (by exact rfl) (by exact (And.intro (by exact True.intro) True.intro)) rfl (by exact rfl))) nofree ?_
    refine RunS.step (by exact And.intro rfl (And.intro rfl True.intro)) (by exact And.intro rfl True.intro) (LocG.of rfl (loc_store (ag := true) (vs := [PV.sl _ _, PV.val _, PV.val _]) ty_27 (by exact True.intro) (by exact rfl) (by exact Nat.le_of_ble_eq_true rfl))) nofree ?_
    refine RunS.step (by exact True.intro) (by exact True.intro) (LocG.of rfl (loc_const (.inr rfl) (by decide) (ok_sc rfl))) nofree ?_
    refine sw_ret ?_
    exact (Exists.intro 2 (Exists.intro _ (And.intro (by exact rfl) (And.intro (by refine box_eq ?_; simp [newBox, *]) (And.intro ty_27 (And.intro (fun h => nomatch h) (And.intro (by refine bool_eq ?_; simp [newBox, *]) True.intro)))))))
theorem impl_copyClient {p1 : Fl} {x : Client}  (hb : wtClient x ≤ 68719476736) : SCall Try.prog 160 [(true, [PV.val (vI x.Next), PV.sl .v (x.Rows.map (cRow p1))])] (resRV [(true, [PV.val (vI x.Next), PV.sl (.own 57 2) (x.Rows.map (cRow (.own 3 1)))])]) := by
  refine scall_of (rs := [(true, [PV.val (vI x.Next), PV.sl (.own 57 2) (x.Rows.map (cRow (.own 3 1)))])]) Try.func160 rfl (Nat.le_of_ble_eq_true rfl) (borA_cons (BorL.cons (PV.bor_val _) (BorL.cons (PV.bor_sl _) BorL.nil)) borA_nil) ?_
  intro h0 w0 Fz0
  refine sw_slen (s := 0) (j := 1) rfl rfl fun hl0_1 => ?_
  try rw [List.length_map] at hl0_1
  have hbu := hb
  simp only [wtClient, wtInt] at hbu
  refine sw_seq ?_
  refine sw_reg ?_
  refine RunS.step (by exact And.intro rfl True.intro) (by exact True.intro) (LocG.of rfl (loc_box (ag := true) (cs := [PV.val _, PV.sl _ _]) (by decide) (by exact True.intro))) (free1 (Free.of_ rfl)) ?_
  refine RunS.step (by exact True.intro) (by exact True.intro) (LocG.of rfl (loc_alloc (by decide) z_29 zo_29)) (free1 (Free.app (Free.of_ rfl) rfl)) ?_
  refine sw_seq ?_
  refine sw_of (l := [(1, RV.ptr 1 0), (2, RV.ptr 2 0)]) (b := [(1, (29, [PV.val _, PV.sl _ _])), (2, (29, [PV.val _, PV.sl _ _]))]) (by exact And.intro rfl (And.intro rfl True.intro)) (by exact And.intro rfl (And.intro rfl True.intro)) ?_
  refine sw_draw hm_ ?_
  refine Run.step 0 (by exact And.intro rfl True.intro) (by exact True.intro) (LocG.of rfl (loc_field (by decide) fd_29_0)) nofree (by kernel_rfl) ?_
  refine Run.step 1 (by exact And.intro rfl True.intro) (by exact And.intro rfl True.intro) (LocG.of rfl (loc_load (qs := [PV.val _]) (by decide) ty_3 (fun _ => rfl) (by exact Nat.le_of_ble_eq_true rfl) (by exact (ToL.cons (PV.To.refl _) ToL.nil)) (by exact (BorL.cons (PV.bor_val _) BorL.nil)))) nofree (by kernel_rfl) ?_
  refine Run.step 0 (by exact And.intro rfl True.intro) (by exact True.intro) (LocG.of rfl (loc_field (by decide) fd_29_1)) nofree (by kernel_rfl) ?_
  refine Run.step 4 (by exact And.intro rfl True.intro) (by exact And.intro rfl True.intro) (LocG.of rfl (loc_load (qs := [PV.sl .v _]) (by decide) ty_25 (fun _ => rfl) (by exact Nat.le_of_ble_eq_true rfl) (by exact (ToL.cons PV.to_none ToL.nil)) (by exact (BorL.cons (PV.bor_sl _) BorL.nil)))) nofree (by kernel_rfl) ?_
  refine Run.step 12 (by exact And.intro rfl True.intro) (by exact True.intro) (LocG.of rfl (loc_call (qs := [(false, [PV.sl _ _])]) (as_ := [(false, [PV.sl .v _])]) (by decide) c_158 (by exact (And.intro (by exact True.intro) True.intro)) (by exact (And.intro (And.intro rfl (ToL.cons PV.to_none ToL.nil)) True.intro)) (by exact impl_copyRows (by omega)))) nofree (by kernel_rfl) ?_
  refine Run.step 31 (by exact And.intro rfl (And.intro rfl True.intro)) (by exact True.intro) (LocG.of rfl (loc_build (qs := [(false, [PV.val _]), (false, [PV.sl _ _])]) (cs := [PV.val _, PV.sl _ _]) (by decide) z_29 zo_29 pl_29 (by exact rfl) (by exact (And.intro (by exact True.intro) (And.intro (by exact True.intro) True.intro))) rfl (by exact rfl))) nofree (by kernel_rfl) ?_
  refine Run.step 63 (by exact And.intro rfl (And.intro rfl True.intro)) (by exact And.intro rfl True.intro) (LocG.of rfl (loc_store (ag := true) (vs := [PV.val _, PV.sl _ _]) ty_29 (by exact True.intro) (by exact rfl) (by exact Nat.le_of_ble_eq_true rfl))) nofree (by kernel_rfl) ?_
  refine sw_ret ?_
  exact (Exists.intro 2 (Exists.intro _ (And.intro (by exact rfl) (And.intro (by exact rfl) (And.intro ty_29 (And.intro (fun h => nomatch h) True.intro))))))
theorem spec_l17Client {p1 : Fl} {x : Client}  (hb : wtClient x ≤ 68719476736) : SCall Try.prog 154 [(true, [PV.val (vI x.Next), PV.sl .v (x.Rows.map (cRow p1))])] (resRV [(true, [PV.val (vI x.Next), PV.sl (.own 57 2) (x.Rows.map (cRow (.own 3 1)))])]) := by
  refine scall_of (rs := [(true, [PV.val (vI x.Next), PV.sl (.own 57 2) (x.Rows.map (cRow (.own 3 1)))])]) Try.func154 rfl (Nat.le_of_ble_eq_true rfl) (borA_cons (BorL.cons (PV.bor_val _) (BorL.cons (PV.bor_sl _) BorL.nil)) borA_nil) ?_
  intro h0 w0 Fz0
  refine sw_slen (s := 0) (j := 1) rfl rfl fun hl0_1 => ?_
  try rw [List.length_map] at hl0_1
  have hbu := hb
  simp only [wtClient, wtInt] at hbu
  refine sw_seq ?_
  refine sw_reg ?_
  refine RunS.step (by exact And.intro rfl True.intro) (by exact True.intro) (LocG.of rfl (loc_box (ag := true) (cs := [PV.val _, PV.sl _ _]) (by decide) (by exact True.intro))) (free1 (Free.of_ rfl)) ?_
  refine RunS.step (by exact True.intro) (by exact True.intro) (LocG.of rfl (loc_alloc (by decide) z_29 zo_29)) (free1 (Free.app (Free.of_ rfl) rfl)) ?_
  refine sw_seq ?_
  refine sw_of (l := [(1, RV.ptr 1 0), (2, RV.ptr 2 0)]) (b := [(1, (29, [PV.val _, PV.sl _ _])), (2, (29, [PV.val _, PV.sl _ _]))]) (by exact And.intro rfl (And.intro rfl True.intro)) (by exact And.intro rfl (And.intro rfl True.intro)) ?_
  refine sw_draw hm_ ?_
  refine Run.step 0 (by exact And.intro rfl True.intro) (by exact True.intro) (LocG.of rfl (loc_field (by decide) fd_29_0)) nofree (by kernel_rfl) ?_
  refine Run.step 1 (by exact And.intro rfl True.intro) (by exact And.intro rfl True.intro) (LocG.of rfl (loc_load (qs := [PV.val _]) (by decide) ty_3 (fun _ => rfl) (by exact Nat.le_of_ble_eq_true rfl) (by exact (ToL.cons (PV.To.refl _) ToL.nil)) (by exact (BorL.cons (PV.bor_val _) BorL.nil)))) nofree (by kernel_rfl) ?_
  refine Run.step 0 (by exact And.intro rfl True.intro) (by exact True.intro) (LocG.of rfl (loc_field (by decide) fd_29_1)) nofree (by kernel_rfl) ?_
  refine Run.step 4 (by exact And.intro rfl True.intro) (by exact And.intro rfl True.intro) (LocG.of rfl (loc_load (qs := [PV.sl .v _]) (by decide) ty_25 (fun _ => rfl) (by exact Nat.le_of_ble_eq_true rfl) (by exact (ToL.cons PV.to_none ToL.nil)) (by exact (BorL.cons (PV.bor_sl _) BorL.nil)))) nofree (by kernel_rfl) ?_
  refine Run.step 12 (by exact And.intro rfl True.intro) (by exact True.intro) (LocG.of rfl (loc_call (qs := [(false, [PV.sl _ _])]) (as_ := [(false, [PV.sl .v _])]) (by decide) c_152 (by exact (And.intro (by exact True.intro) True.intro)) (by exact (And.intro (And.intro rfl (ToL.cons PV.to_none ToL.nil)) True.intro)) (by exact spec_l9Rows (by omega)))) nofree (by kernel_rfl) ?_
  refine Run.step 31 (by exact And.intro rfl (And.intro rfl True.intro)) (by exact True.intro) (LocG.of rfl (loc_build (qs := [(false, [PV.val _]), (false, [PV.sl _ _])]) (cs := [PV.val _, PV.sl _ _]) (by decide) z_29 zo_29 pl_29 (by exact rfl) (by exact (And.intro (by exact True.intro) (And.intro (by exact True.intro) True.intro))) rfl (by exact rfl))) nofree (by kernel_rfl) ?_
  refine Run.step 63 (by exact And.intro rfl (And.intro rfl True.intro)) (by exact And.intro rfl True.intro) (LocG.of rfl (loc_store (ag := true) (vs := [PV.val _, PV.sl _ _]) ty_29 (by exact True.intro) (by exact rfl) (by exact Nat.le_of_ble_eq_true rfl))) nofree (by kernel_rfl) ?_
  refine sw_ret ?_
  exact (Exists.intro 2 (Exists.intro _ (And.intro (by exact rfl) (And.intro (by exact rfl) (And.intro ty_29 (And.intro (fun h => nomatch h) True.intro))))))
theorem impl_Receive {p1 : Fl} {c : Client} {n : Int} {r : Row}  (hb : wtClient c ≤ 68719476736) (hb2 : wtRow r ≤ 68719476736) : SCall Try.prog 162 [(true, [PV.val (vI c.Next), PV.sl .v (c.Rows.map (cRow p1))]), (false, [PV.val (vI n)]), (true, [PV.val (vI r.Id), PV.sl .v (r.Values.map cInt)])] (resRV [(true, [PV.val (vI (recv c n r).1.Next), PV.sl (.own 57 2) ((recv c n r).1.Rows.map (cRow (.own 3 1)))]), (false, [PV.val (vI (recv c n r).2)])]) := by
  refine scall_of (rs := [(true, [PV.val (vI (recv c n r).1.Next), PV.sl (.own 57 2) ((recv c n r).1.Rows.map (cRow (.own 3 1)))]), (false, [PV.val (vI (recv c n r).2)])]) Try.func162 rfl (Nat.le_of_ble_eq_true rfl) (borA_cons (BorL.cons (PV.bor_val _) (BorL.cons (PV.bor_sl _) BorL.nil)) (borA_cons (BorL.cons (PV.bor_val _) BorL.nil) (borA_cons (BorL.cons (PV.bor_val _) (BorL.cons (PV.bor_sl _) BorL.nil)) borA_nil))) ?_
  intro h0 w0 Fz0
  refine sw_slen (s := 0) (j := 1) rfl rfl fun hl0_1 => ?_
  try rw [List.length_map] at hl0_1
  refine sw_slen (s := 2) (j := 1) rfl rfl fun hl2_1 => ?_
  try rw [List.length_map] at hl2_1
  have hbu := hb
  simp only [wtClient, wtInt] at hbu
  have hln : c.Rows.length ≤ wtRowS c.Rows := Nat.le_add_right _ _
  refine sw_seq ?_
  refine sw_reg ?_
  refine RunS.step (by exact And.intro rfl True.intro) (by exact True.intro) (LocG.of rfl (loc_box (ag := true) (cs := [PV.val _, PV.sl _ _]) (by decide) (by exact True.intro))) (free1 (Free.of_ rfl)) ?_
  refine RunS.step (by exact And.intro rfl True.intro) (by exact True.intro) (LocG.of rfl (loc_box (ag := true) (cs := [PV.val _, PV.sl _ _]) (by decide) (by exact True.intro))) (free1 (Free.app (Free.of_ rfl) rfl)) ?_
  refine RunS.step (by exact True.intro) (by exact True.intro) (LocG.of rfl (loc_alloc (by decide) z_29 zo_29)) (free1 (Free.app (Free.app (Free.of_ rfl) rfl) rfl)) ?_
  refine RunS.step (by exact True.intro) (by exact True.intro) (LocG.of rfl (loc_const (.inr rfl) (by decide) (ok_sc rfl))) nofree ?_
  refine sw_seq ?_
  refine sw_of (l := [(1, RV.sv false [PV.val _]), (3, RV.ptr 3 0), (5, RV.ptr 5 0), (6, RV.ptr 6 0), (7, RV.sv false [PV.val _])]) (b := [(3, (29, [PV.val _, PV.sl _ _])), (5, (57, [PV.val _, PV.sl _ _])), (6, (29, [PV.val _, PV.sl _ _]))]) (by exact And.intro rfl (And.intro rfl (And.intro rfl (And.intro rfl (And.intro rfl True.intro))))) (by exact And.intro rfl (And.intro rfl (And.intro rfl True.intro))) ?_
  refine sw_reg ?_
  refine RunS.step (by exact And.intro rfl True.intro) (by exact And.intro rfl True.intro) (LocG.of rfl (loc_load (qs := [PV.val _, PV.sl .v _]) (by decide) ty_29 (fun h => nomatch h) (by exact Nat.le_of_ble_eq_true rfl) (by exact (ToL.cons (PV.To.refl _) (ToL.cons PV.to_none ToL.nil))) (by exact (BorL.cons (PV.bor_val _) (BorL.cons (PV.bor_sl _) BorL.nil))))) nofree ?_
  refine RunS.step (by exact And.intro rfl True.intro) (by exact True.intro) (LocG.of rfl (loc_call (qs := [(true, [PV.val _, PV.sl _ _])]) (as_ := [(true, [PV.val _, PV.sl .v _])]) (by decide) c_160 (by exact (And.intro (by exact True.intro) True.intro)) (by exact (And.intro (And.intro rfl (ToL.cons (PV.To.refl _) (ToL.cons PV.to_none ToL.nil))) True.intro)) (by exact impl_copyClient (by omega)))) nofree ?_
  refine RunS.step (by exact True.intro) (by exact True.intro) (LocG.of rfl (loc_alloc (by decide) z_29 zo_29)) (free1 (Free.app (Free.app (Free.of_ rfl) rfl) rfl)) ?_
  refine RunS.step (by exact And.intro rfl (And.intro rfl True.intro)) (by exact And.intro rfl True.intro) (LocG.of rfl (loc_store (ag := true) (vs := [PV.val _, PV.sl _ _]) ty_29 (by exact True.intro) (by exact rfl) (by exact Nat.le_of_ble_eq_true rfl))) nofree ?_
  refine sw_seq ?_
  refine sw_seq ?_
  refine sw_of (l := [(1, RV.sv false [PV.val _]), (3, RV.ptr 3 0), (5, RV.ptr 5 0), (6, RV.ptr 6 0), (7, RV.sv false [PV.val _]), (8, RV.ptr 8 0)]) (b := [(3, (29, [PV.val _, PV.sl _ _])), (5, (57, [PV.val _, PV.sl _ _])), (6, (29, [PV.val _, PV.sl _ _])), (8, (29, [PV.val _, PV.sl _ _]))]) (by exact And.intro rfl (And.intro rfl (And.intro rfl (And.intro rfl (And.intro rfl (And.intro rfl True.intro)))))) (by exact And.intro rfl (And.intro rfl (And.intro rfl (And.intro rfl True.intro)))) ?_
  refine sw_reg ?_
  refine RunS.step (by exact And.intro rfl True.intro) (by exact True.intro) (LocG.of rfl (loc_copy (.inl rfl) (by decide) (by exact Cp.sc))) nofree ?_
  refine RunS.step (by exact And.intro rfl True.intro) (by exact True.intro) (LocG.of rfl (loc_field (by decide) fd_29_0)) nofree ?_
  refine RunS.step (by exact And.intro rfl True.intro) (by exact And.intro rfl True.intro) (LocG.of rfl (loc_load (qs := [PV.val _]) (by decide) ty_3 (fun _ => rfl) (by exact Nat.le_of_ble_eq_true rfl) (by exact (ToL.cons (PV.To.refl _) ToL.nil)) (by exact (BorL.cons (PV.bor_val _) BorL.nil)))) nofree ?_
  refine RunS.step (by exact And.intro rfl (And.intro rfl True.intro)) (by exact True.intro) (LocG.of rfl (loc_eql (by decide) (by exact True.intro) (by exact True.intro))) nofree ?_
  refine RunS.step (by exact And.intro rfl True.intro) (by exact True.intro) (LocG.of rfl (loc_copy (.inl rfl) (by decide) (by exact Cp.sc))) nofree ?_
  refine RunS.cases (s := 15) rfl (fun g1 => ?_) (fun g1 => ?_)
  · refine RunS.step (by exact And.intro rfl (And.intro rfl True.intro)) (by exact And.intro rfl True.intro) (LocG.yes rfl rfl (by decide) g1 (loc_load (qs := [PV.val _, PV.sl .v _]) (by decide) ty_57 (fun h => nomatch h) (by exact Nat.le_of_ble_eq_true rfl) (by exact (ToL.cons (PV.To.refl _) (ToL.cons PV.to_none ToL.nil))) (by exact (BorL.cons (PV.bor_val _) (BorL.cons (PV.bor_sl _) BorL.nil))))) nofree ?_
    refine RunS.step (by exact And.intro rfl (And.intro rfl True.intro)) (by exact True.intro) (LocG.yes rfl rfl (by decide) g1 (loc_call (qs := [(true, [PV.val _, PV.sl _ _])]) (as_ := [(true, [PV.val _, PV.sl .v _])]) (by decide) c_169 (by exact (And.intro (by exact True.intro) True.intro)) (by exact (And.intro (And.intro rfl (ToL.cons (PV.To.refl _) (ToL.cons PV.to_none ToL.nil))) True.intro)) (by exact impl_IsRow))) nofree ?_
    refine RunS.step (by exact And.intro rfl (And.intro rfl True.intro)) (by exact True.intro) (LocG.of rfl (loc_pick (z := .tmp 17) (by decide) (by rw [g1]; rfl) (by exact True.intro) (by exact True.intro) (by exact Cp.sc))) nofree ?_
    refine RunS.step (by exact And.intro rfl True.intro) (by exact True.intro) (LocG.of rfl (loc_copy (.inl rfl) (by decide) (by exact Cp.sc))) nofree ?_
    refine RunS.cases (s := 19) rfl (fun g2 => ?_) (fun g2 => ?_)
    · refine RunS.step (by exact And.intro rfl (And.intro rfl True.intro)) (by exact True.intro) (LocG.yes rfl rfl (by decide) g2 (loc_field (by decide) fd_29_0)) nofree ?_
      refine RunS.step (by exact And.intro rfl (And.intro rfl True.intro)) (by exact And.intro rfl True.intro) (LocG.yes rfl rfl (by decide) g2 (loc_load (qs := [PV.val _]) (by decide) ty_3 (fun _ => rfl) (by exact Nat.le_of_ble_eq_true rfl) (by exact (ToL.cons (PV.To.refl _) ToL.nil)) (by exact (BorL.cons (PV.bor_val _) BorL.nil)))) nofree ?_
      refine RunS.step (by exact And.intro rfl (And.intro rfl True.intro)) (by exact True.intro) (LocG.yes rfl rfl (by decide) g2 (loc_call (qs := [(false, [PV.val _]), (false, [PV.val _]), (false, [PV.val _])]) (as_ := [(false, [PV.val _]), (false, [PV.val _]), (false, [PV.val _])]) (by decide) c_94 (by exact (And.intro (by exact True.intro) (And.intro (ok_sc rfl) (And.intro (ok_sc rfl) True.intro)))) (by exact (And.intro (And.intro rfl (ToL.cons (PV.To.refl _) ToL.nil)) (And.intro (And.intro rfl (ToL.cons (PV.To.refl _) ToL.nil)) (And.intro (And.intro rfl (ToL.cons (PV.To.refl _) ToL.nil)) True.intro)))) (by exact impl_within))) nofree ?_
      refine RunS.step (by exact And.intro rfl (And.intro rfl True.intro)) (by exact True.intro) (LocG.of rfl (loc_pick (z := .tmp 22) (by decide) (by rw [g2]; rfl) (by exact True.intro) (by exact True.intro) (by exact Cp.sc))) nofree ?_
      refine sw_cond (t := 23) rfl (fun hb3 => ?_) (fun hb3 => ?_)
      · try simp only [decide_eq_true_eq, decide_eq_false_iff_not, bne_iff_ne, beq_iff_eq, Bool.not_eq_true', Bool.not_eq_false', ne_eq, bne_eq_false_iff_eq, beq_eq_false_iff_ne] at hb3
        have hin := hb3
        simp only [inB, Bool.and_eq_true, decide_eq_true_eq] at hin
        refine sw_seq ?_
        refine sw_of (l := [(1, RV.sv false [PV.val _]), (3, RV.ptr 3 0), (5, RV.ptr 5 0), (6, RV.ptr 6 0), (7, RV.sv false [PV.val _]), (8, RV.ptr 8 0)]) (b := [(3, (29, [PV.val _, PV.sl _ _])), (5, (57, [PV.val _, PV.sl _ _])), (6, (29, [PV.val _, PV.sl _ _])), (8, (29, [PV.val _, PV.sl _ _]))]) (by exact And.intro rfl (And.intro rfl (And.intro rfl (And.intro rfl (And.intro rfl (And.intro rfl True.intro)))))) (by exact And.intro rfl (And.intro rfl (And.intro rfl (And.intro rfl True.intro)))) ?_
        refine sw_draw hm_ ?_
        refine Run.step 0 (by exact And.intro rfl True.intro) (by exact True.intro) (LocG.of rfl (loc_field (by decide) fd_29_1)) nofree (by kernel_rfl) ?_
        refine Run.step 1 (by exact And.intro rfl True.intro) (by exact And.intro rfl True.intro) (LocG.of rfl (loc_ltake (ms := [PV.sl _ _]) (qs := [PV.sl .v _]) (by decide) ty_25 (fun _ => rfl) (by exact Nat.le_of_ble_eq_true rfl) (by exact rfl) (by exact (ToL.cons PV.to_none ToL.nil)) (by exact (BorL.cons (PV.bor_sl _) BorL.nil)))) nofree (by kernel_rfl) ?_
        refine Run.step 0 (by exact And.intro rfl True.intro) (by exact And.intro rfl True.intro) (LocG.of rfl (loc_load (qs := [PV.val _, PV.sl .v _]) (by decide) ty_57 (fun h => nomatch h) (by exact Nat.le_of_ble_eq_true rfl) (by exact (ToL.cons (PV.To.refl _) (ToL.cons PV.to_none ToL.nil))) (by exact (BorL.cons (PV.bor_val _) (BorL.cons (PV.bor_sl _) BorL.nil))))) nofree (by kernel_rfl) ?_
        refine Run.step 4 (by exact And.intro rfl True.intro) (by exact True.intro) (LocG.of rfl (loc_call (qs := [(true, [PV.val _, PV.sl _ _])]) (as_ := [(true, [PV.val _, PV.sl .v _])]) (by decide) c_103 (by exact (And.intro (by exact True.intro) True.intro)) (by exact (And.intro (And.intro rfl (ToL.cons (PV.To.refl _) (ToL.cons PV.to_none ToL.nil))) True.intro)) (by exact impl_copyRow (by omega)))) nofree (by kernel_rfl) ?_
        refine Run.step 12 (by exact And.intro rfl True.intro) (by exact True.intro) (LocG.of rfl (loc_bslice (qs := [(true, [PV.val _, PV.sl _ _])]) (by decide) sl_25 z_57 (by decide) rfl rfl rfl rfl rfl (by exact Nat.le_of_ble_eq_true rfl) (by exact (And.intro (by exact True.intro) True.intro)) rfl)) nofree (by kernel_rfl) ?_
        refine Run.step 31 (by exact And.intro rfl (And.intro rfl True.intro)) (by exact True.intro) (LocG.of rfl (loc_append (by decide) sl_25 z_57 rfl rfl (by decide) rfl (by simp only [List.length_map, List.length_append, List.length_cons, List.length_nil]; omega) (by simp only [List.length_map, List.length_append, List.length_cons, List.length_nil]; omega))) nofree (by kernel_rfl) ?_
        refine Run.step 63 (by exact And.intro rfl True.intro) (by exact True.intro) (LocG.of rfl (loc_field (by decide) fd_29_1)) nofree (by kernel_rfl) ?_
        refine Run.step 127 (by exact And.intro rfl (And.intro rfl True.intro)) (by exact And.intro rfl True.intro) (LocG.of rfl (loc_store (ag := false) (vs := [PV.sl _ _]) ty_25 (by exact True.intro) (by exact rfl) (by exact Nat.le_of_ble_eq_true rfl))) nofree (by kernel_rfl) ?_
        refine sw_of (l := [(1, RV.sv false [PV.val _]), (3, RV.ptr 3 0), (5, RV.ptr 5 0), (6, RV.ptr 6 0), (7, RV.sv false [PV.val _]), (8, RV.ptr 8 0)]) (b := [(3, (29, [PV.val _, PV.sl _ _])), (5, (57, [PV.val _, PV.sl _ _])), (6, (29, [PV.val _, PV.sl _ _])), (8, (29, [PV.val _, PV.sl _ _]))]) (by exact And.intro rfl (And.intro rfl (And.intro rfl (And.intro rfl (And.intro rfl (And.intro rfl True.intro)))))) (by exact And.intro rfl (And.intro rfl (And.intro rfl (And.intro rfl True.intro)))) ?_
        refine sw_reg ?_
        refine RunS.step (by exact And.intro rfl True.intro) (by exact True.intro) (LocG.of rfl (loc_field (by decide) fd_29_0)) nofree ?_
        refine RunS.step (by exact And.intro rfl True.intro) (by exact And.intro rfl True.intro) (LocG.of rfl (loc_load (qs := [PV.val _]) (by decide) ty_3 (fun _ => rfl) (by exact Nat.le_of_ble_eq_true rfl) (by exact (ToL.cons (PV.To.refl _) ToL.nil)) (by exact (BorL.cons (PV.bor_val _) BorL.nil)))) nofree ?_
        refine RunS.step (by exact And.intro rfl True.intro) (by exact True.intro) (LocG.of rfl (loc_add (by decide) (by exact True.intro) (ok_sc rfl) (by unfold I64; omega))) nofree ?_
        refine RunS.step (by exact And.intro rfl True.intro) (by exact True.intro) (LocG.of rfl (loc_field (by decide) fd_29_0)) nofree ?_
        refine RunS.step (by exact And.intro rfl (And.intro rfl True.intro)) (by exact And.intro rfl True.intro) (LocG.of rfl (loc_store (ag := false) (vs := [PV.val _]) ty_3 (by exact True.intro) (by exact rfl) (by exact Nat.le_of_ble_eq_true rfl))) nofree ?_
        refine sw_seq ?_
        refine sw_of (l := [(1, RV.sv false [PV.val _]), (3, RV.ptr 3 0), (5, RV.ptr 5 0), (6, RV.ptr 6 0), (7, RV.sv false [PV.val _]), (8, RV.ptr 8 0)]) (b := [(3, (29, [PV.val _, PV.sl _ _])), (5, (57, [PV.val _, PV.sl _ _])), (6, (29, [PV.val _, PV.sl _ _])), (8, (29, [PV.val _, PV.sl _ _]))]) (by exact And.intro rfl (And.intro rfl (And.intro rfl (And.intro rfl (And.intro rfl (And.intro rfl True.intro)))))) (by exact And.intro rfl (And.intro rfl (And.intro rfl (And.intro rfl True.intro)))) ?_
        refine sw_lendB (d := 8) (G := 1008) (by exact rfl) (by exact rfl) fun us hus hR => ?_
        obtain ⟨u4_0, u4_1, rfl⟩ := us_2 hus
        obtain rfl := relval hR (j := 0) rfl rfl
        refine sw_of (l := [(1, RV.sv false [PV.val _]), (3, RV.ptr 3 0), (5, RV.ptr 5 0), (6, RV.ptr 6 0), (7, RV.sv false [PV.val _]), (8, RV.ptr 8 0), (1008, RV.gh _ _)]) (b := [(3, (29, [PV.val _, PV.sl _ _])), (5, (57, [PV.val _, PV.sl _ _])), (6, (29, [PV.val _, PV.sl _ _])), (8, (29, [PV.val _, PV.val _]))]) (by exact And.intro rfl (And.intro rfl (And.intro rfl (And.intro rfl (And.intro rfl (And.intro rfl (And.intro rfl True.intro))))))) (by exact And.intro rfl (And.intro rfl (And.intro rfl (And.intro rfl True.intro)))) ?_
        refine sw_draw hm_ ?_
        refine Run.step 0 (by exact And.intro rfl True.intro) (by exact And.intro rfl True.intro) (LocG.of rfl (loc_load (qs := [PV.val _, PV.val _]) (by decide) ty_29 (fun h => nomatch h) (by exact Nat.le_of_ble_eq_true rfl) (by exact (ToL.cons (PV.To.refl _) (ToL.cons (PV.To.refl _) ToL.nil))) (by exact (BorL.cons (PV.bor_val _) (BorL.cons (PV.bor_val _) BorL.nil))))) nofree (by kernel_rfl) ?_
        refine Run.step 0 (by exact And.intro rfl True.intro) (by exact True.intro) (LocG.of rfl (loc_field (by decide) fd_29_0)) nofree (by kernel_rfl) ?_
        refine Run.step 2 (by exact And.intro rfl True.intro) (by exact And.intro rfl True.intro) (LocG.of rfl (loc_load (qs := [PV.val _]) (by decide) ty_3 (fun _ => rfl) (by exact Nat.le_of_ble_eq_true rfl) (by exact (ToL.cons (PV.To.refl _) ToL.nil)) (by exact (BorL.cons (PV.bor_val _) BorL.nil)))) nofree (by kernel_rfl) ?_
        refine Run.step 1 (by exact And.intro rfl (And.intro rfl True.intro)) (by exact And.intro rfl True.intro) (LocG.of rfl (loc_store (ag := true) (vs := [PV.val _, PV.val _]) ty_29 (by exact True.intro) (by exact rfl) (by exact Nat.le_of_ble_eq_true rfl))) nofree (by kernel_rfl) ?_
        refine Run.step 15 (by exact And.intro rfl True.intro) (by exact True.intro) (LocG.of rfl (loc_copy (.inr rfl) (by decide) (by exact Cp.sc))) nofree (by kernel_rfl) ?_
        refine sw_backB (d := 6) (G := 1008) (by exact rfl) (by exact (Nm.val (Nm.val Nm.nil))) (by exact rfl) ?_
        refine sw_ret ?_
        exact (Exists.intro 6 (Exists.intro _ (And.intro (by exact rfl) (And.intro (by refine box_eq ?_; simp_all [recv, recvOk, cClient, cRow, cInt]) (And.intro ty_29 (And.intro (fun h => nomatch h) (And.intro (by refine int_eq ?_; simp_all [recv, recvOk, cClient, cRow, cInt]) True.intro)))))))
      · try simp only [decide_eq_true_eq, decide_eq_false_iff_not, bne_iff_ne, beq_iff_eq, Bool.not_eq_true', Bool.not_eq_false', ne_eq, bne_eq_false_iff_eq, beq_eq_false_iff_ne] at hb3
        refine sw_skip ?_
        refine sw_seq ?_
        refine sw_of (l := [(1, RV.sv false [PV.val _]), (3, RV.ptr 3 0), (5, RV.ptr 5 0), (6, RV.ptr 6 0), (7, RV.sv false [PV.val _]), (8, RV.ptr 8 0)]) (b := [(3, (29, [PV.val _, PV.sl _ _])), (5, (57, [PV.val _, PV.sl _ _])), (6, (29, [PV.val _, PV.sl _ _])), (8, (29, [PV.val _, PV.sl _ _]))]) (by exact And.intro rfl (And.intro rfl (And.intro rfl (And.intro rfl (And.intro rfl (And.intro rfl True.intro)))))) (by exact And.intro rfl (And.intro rfl (And.intro rfl (And.intro rfl True.intro)))) ?_
        refine sw_lendB (d := 8) (G := 1008) (by exact rfl) (by exact rfl) fun us hus hR => ?_
        obtain ⟨u5_0, u5_1, rfl⟩ := us_2 hus
        obtain rfl := relval hR (j := 0) rfl rfl
        refine sw_of (l := [(1, RV.sv false [PV.val _]), (3, RV.ptr 3 0), (5, RV.ptr 5 0), (6, RV.ptr 6 0), (7, RV.sv false [PV.val _]), (8, RV.ptr 8 0), (1008, RV.gh _ _)]) (b := [(3, (29, [PV.val _, PV.sl _ _])), (5, (57, [PV.val _, PV.sl _ _])), (6, (29, [PV.val _, PV.sl _ _])), (8, (29, [PV.val _, PV.val _]))]) (by exact And.intro rfl (And.intro rfl (And.intro rfl (And.intro rfl (And.intro rfl (And.intro rfl (And.intro rfl True.intro))))))) (by exact And.intro rfl (And.intro rfl (And.intro rfl (And.intro rfl True.intro)))) ?_
        refine sw_draw hm_ ?_
        refine Run.step 0 (by exact And.intro rfl True.intro) (by exact And.intro rfl True.intro) (LocG.of rfl (loc_load (qs := [PV.val _, PV.val _]) (by decide) ty_29 (fun h => nomatch h) (by exact Nat.le_of_ble_eq_true rfl) (by exact (ToL.cons (PV.To.refl _) (ToL.cons (PV.To.refl _) ToL.nil))) (by exact (BorL.cons (PV.bor_val _) (BorL.cons (PV.bor_val _) BorL.nil))))) nofree (by kernel_rfl) ?_
        refine Run.step 0 (by exact And.intro rfl True.intro) (by exact True.intro) (LocG.of rfl (loc_field (by decide) fd_29_0)) nofree (by kernel_rfl) ?_
        refine Run.step 2 (by exact And.intro rfl True.intro) (by exact And.intro rfl True.intro) (LocG.of rfl (loc_load (qs := [PV.val _]) (by decide) ty_3 (fun _ => rfl) (by exact Nat.le_of_ble_eq_true rfl) (by exact (ToL.cons (PV.To.refl _) ToL.nil)) (by exact (BorL.cons (PV.bor_val _) BorL.nil)))) nofree (by kernel_rfl) ?_
        refine Run.step 1 (by exact And.intro rfl (And.intro rfl True.intro)) (by exact And.intro rfl True.intro) (LocG.of rfl (loc_store (ag := true) (vs := [PV.val _, PV.val _]) ty_29 (by exact True.intro) (by exact rfl) (by exact Nat.le_of_ble_eq_true rfl))) nofree (by kernel_rfl) ?_
        refine Run.step 15 (by exact And.intro rfl True.intro) (by exact True.intro) (LocG.of rfl (loc_copy (.inr rfl) (by decide) (by exact Cp.sc))) nofree (by kernel_rfl) ?_
        refine sw_backB (d := 6) (G := 1008) (by exact rfl) (by exact (Nm.val (Nm.val Nm.nil))) (by exact rfl) ?_
        refine sw_ret ?_
        exact (Exists.intro 6 (Exists.intro _ (And.intro (by exact rfl) (And.intro (by refine box_eq ?_; simp_all [recv, recvOk, cClient, cRow, cInt]) (And.intro ty_29 (And.intro (fun h => nomatch h) (And.intro (by refine int_eq ?_; simp_all [recv, recvOk, cClient, cRow, cInt]) True.intro)))))))
    · refine RunS.step (by exact And.intro rfl True.intro) (by exact True.intro) (LocG.no (ops := _) rfl rfl (by decide) g2 rfl) nofree ?_
      refine RunS.step (by exact And.intro rfl True.intro) (by exact True.intro) (LocG.no (ops := _) rfl rfl (by decide) g2 rfl) nofree ?_
      refine RunS.step (by exact And.intro rfl True.intro) (by exact True.intro) (LocG.no (ops := _) rfl rfl (by decide) g2 rfl) nofree ?_
      refine RunS.step (by exact And.intro rfl True.intro) (by exact True.intro) (LocG.of rfl (loc_pick (z := .const (.bool false)) (by decide) (by rw [g2]; rfl) (by exact True.intro) (ok_sc rfl) (by exact Cp.sc))) nofree ?_
      refine sw_cond (t := 23) rfl (fun hb_ => nomatch hb_) (fun hb_ => ?_)
      refine sw_skip ?_
      refine sw_seq ?_
      refine sw_of (l := [(1, RV.sv false [PV.val _]), (3, RV.ptr 3 0), (5, RV.ptr 5 0), (6, RV.ptr 6 0), (7, RV.sv false [PV.val _]), (8, RV.ptr 8 0)]) (b := [(3, (29, [PV.val _, PV.sl _ _])), (5, (57, [PV.val _, PV.sl _ _])), (6, (29, [PV.val _, PV.sl _ _])), (8, (29, [PV.val _, PV.sl _ _]))]) (by exact And.intro rfl (And.intro rfl (And.intro rfl (And.intro rfl (And.intro rfl (And.intro rfl True.intro)))))) (by exact And.intro rfl (And.intro rfl (And.intro rfl (And.intro rfl True.intro)))) ?_
      refine sw_lendB (d := 8) (G := 1008) (by exact rfl) (by exact rfl) fun us hus hR => ?_
      obtain ⟨u7_0, u7_1, rfl⟩ := us_2 hus
      obtain rfl := relval hR (j := 0) rfl rfl
      refine sw_of (l := [(1, RV.sv false [PV.val _]), (3, RV.ptr 3 0), (5, RV.ptr 5 0), (6, RV.ptr 6 0), (7, RV.sv false [PV.val _]), (8, RV.ptr 8 0), (1008, RV.gh _ _)]) (b := [(3, (29, [PV.val _, PV.sl _ _])), (5, (57, [PV.val _, PV.sl _ _])), (6, (29, [PV.val _, PV.sl _ _])), (8, (29, [PV.val _, PV.val _]))]) (by exact And.intro rfl (And.intro rfl (And.intro rfl (And.intro rfl (And.intro rfl (And.intro rfl (And.intro rfl True.intro))))))) (by exact And.intro rfl (And.intro rfl (And.intro rfl (And.intro rfl True.intro)))) ?_
      refine sw_draw hm_ ?_
      refine Run.step 0 (by exact And.intro rfl True.intro) (by exact And.intro rfl True.intro) (LocG.of rfl (loc_load (qs := [PV.val _, PV.val _]) (by decide) ty_29 (fun h => nomatch h) (by exact Nat.le_of_ble_eq_true rfl) (by exact (ToL.cons (PV.To.refl _) (ToL.cons (PV.To.refl _) ToL.nil))) (by exact (BorL.cons (PV.bor_val _) (BorL.cons (PV.bor_val _) BorL.nil))))) nofree (by kernel_rfl) ?_
      refine Run.step 0 (by exact And.intro rfl True.intro) (by exact True.intro) (LocG.of rfl (loc_field (by decide) fd_29_0)) nofree (by kernel_rfl) ?_
      refine Run.step 2 (by exact And.intro rfl True.intro) (by exact And.intro rfl True.intro) (LocG.of rfl (loc_load (qs := [PV.val _]) (by decide) ty_3 (fun _ => rfl) (by exact Nat.le_of_ble_eq_true rfl) (by exact (ToL.cons (PV.To.refl _) ToL.nil)) (by exact (BorL.cons (PV.bor_val _) BorL.nil)))) nofree (by kernel_rfl) ?_
      refine Run.step 1 (by exact And.intro rfl (And.intro rfl True.intro)) (by exact And.intro rfl True.intro) (LocG.of rfl (loc_store (ag := true) (vs := [PV.val _, PV.val _]) ty_29 (by exact True.intro) (by exact rfl) (by exact Nat.le_of_ble_eq_true rfl))) nofree (by kernel_rfl) ?_
      refine Run.step 15 (by exact And.intro rfl True.intro) (by exact True.intro) (LocG.of rfl (loc_copy (.inr rfl) (by decide) (by exact Cp.sc))) nofree (by kernel_rfl) ?_
      refine sw_backB (d := 6) (G := 1008) (by exact rfl) (by exact (Nm.val (Nm.val Nm.nil))) (by exact rfl) ?_
      refine sw_ret ?_
      exact (Exists.intro 6 (Exists.intro _ (And.intro (by exact rfl) (And.intro (by refine box_eq ?_; simp_all [recv, recvOk, cClient, cRow, cInt]) (And.intro ty_29 (And.intro (fun h => nomatch h) (And.intro (by refine int_eq ?_; simp_all [recv, recvOk, cClient, cRow, cInt]) True.intro)))))))
  · refine RunS.step (by exact And.intro rfl True.intro) (by exact True.intro) (LocG.no (ops := _) rfl rfl (by decide) g1 rfl) nofree ?_
    refine RunS.step (by exact And.intro rfl True.intro) (by exact True.intro) (LocG.no (ops := _) rfl rfl (by decide) g1 rfl) nofree ?_
    refine RunS.step (by exact And.intro rfl True.intro) (by exact True.intro) (LocG.of rfl (loc_pick (z := .const (.bool false)) (by decide) (by rw [g1]; rfl) (by exact True.intro) (ok_sc rfl) (by exact Cp.sc))) nofree ?_
    refine RunS.step (by exact And.intro rfl True.intro) (by exact True.intro) (LocG.of rfl (loc_copy (.inl rfl) (by decide) (by exact Cp.sc))) nofree ?_
    refine RunS.cases (s := 19) rfl (fun g8 => nomatch g8) (fun g8 => ?_)
    refine RunS.step (by exact And.intro rfl True.intro) (by exact True.intro) (LocG.no (ops := _) rfl rfl (by decide) g8 rfl) nofree ?_
    refine RunS.step (by exact And.intro rfl True.intro) (by exact True.intro) (LocG.no (ops := _) rfl rfl (by decide) g8 rfl) nofree ?_
    refine RunS.step (by exact And.intro rfl True.intro) (by exact True.intro) (LocG.no (ops := _) rfl rfl (by decide) g8 rfl) nofree ?_
    refine RunS.step (by exact And.intro rfl True.intro) (by exact True.intro) (LocG.of rfl (loc_pick (z := .const (.bool false)) (by decide) (by rw [g8]; rfl) (by exact True.intro) (ok_sc rfl) (by exact Cp.sc))) nofree ?_
    refine sw_cond (t := 23) rfl (fun hb_ => nomatch hb_) (fun hb_ => ?_)
    refine sw_skip ?_
    refine sw_seq ?_
    refine sw_of (l := [(1, RV.sv false [PV.val _]), (3, RV.ptr 3 0), (5, RV.ptr 5 0), (6, RV.ptr 6 0), (7, RV.sv false [PV.val _]), (8, RV.ptr 8 0)]) (b := [(3, (29, [PV.val _, PV.sl _ _])), (5, (57, [PV.val _, PV.sl _ _])), (6, (29, [PV.val _, PV.sl _ _])), (8, (29, [PV.val _, PV.sl _ _]))]) (by exact And.intro rfl (And.intro rfl (And.intro rfl (And.intro rfl (And.intro rfl (And.intro rfl True.intro)))))) (by exact And.intro rfl (And.intro rfl (And.intro rfl (And.intro rfl True.intro)))) ?_
    refine sw_lendB (d := 8) (G := 1008) (by exact rfl) (by exact rfl) fun us hus hR => ?_
    obtain ⟨u10_0, u10_1, rfl⟩ := us_2 hus
    obtain rfl := relval hR (j := 0) rfl rfl
    refine sw_of (l := [(1, RV.sv false [PV.val _]), (3, RV.ptr 3 0), (5, RV.ptr 5 0), (6, RV.ptr 6 0), (7, RV.sv false [PV.val _]), (8, RV.ptr 8 0), (1008, RV.gh _ _)]) (b := [(3, (29, [PV.val _, PV.sl _ _])), (5, (57, [PV.val _, PV.sl _ _])), (6, (29, [PV.val _, PV.sl _ _])), (8, (29, [PV.val _, PV.val _]))]) (by exact And.intro rfl (And.intro rfl (And.intro rfl (And.intro rfl (And.intro rfl (And.intro rfl (And.intro rfl True.intro))))))) (by exact And.intro rfl (And.intro rfl (And.intro rfl (And.intro rfl True.intro)))) ?_
    refine sw_draw hm_ ?_
    refine Run.step 0 (by exact And.intro rfl True.intro) (by exact And.intro rfl True.intro) (LocG.of rfl (loc_load (qs := [PV.val _, PV.val _]) (by decide) ty_29 (fun h => nomatch h) (by exact Nat.le_of_ble_eq_true rfl) (by exact (ToL.cons (PV.To.refl _) (ToL.cons (PV.To.refl _) ToL.nil))) (by exact (BorL.cons (PV.bor_val _) (BorL.cons (PV.bor_val _) BorL.nil))))) nofree (by kernel_rfl) ?_
    refine Run.step 0 (by exact And.intro rfl True.intro) (by exact True.intro) (LocG.of rfl (loc_field (by decide) fd_29_0)) nofree (by kernel_rfl) ?_
    refine Run.step 2 (by exact And.intro rfl True.intro) (by exact And.intro rfl True.intro) (LocG.of rfl (loc_load (qs := [PV.val _]) (by decide) ty_3 (fun _ => rfl) (by exact Nat.le_of_ble_eq_true rfl) (by exact (ToL.cons (PV.To.refl _) ToL.nil)) (by exact (BorL.cons (PV.bor_val _) BorL.nil)))) nofree (by kernel_rfl) ?_
    refine Run.step 1 (by exact And.intro rfl (And.intro rfl True.intro)) (by exact And.intro rfl True.intro) (LocG.of rfl (loc_store (ag := true) (vs := [PV.val _, PV.val _]) ty_29 (by exact True.intro) (by exact rfl) (by exact Nat.le_of_ble_eq_true rfl))) nofree (by kernel_rfl) ?_
    refine Run.step 15 (by exact And.intro rfl True.intro) (by exact True.intro) (LocG.of rfl (loc_copy (.inr rfl) (by decide) (by exact Cp.sc))) nofree (by kernel_rfl) ?_
    refine sw_backB (d := 6) (G := 1008) (by exact rfl) (by exact (Nm.val (Nm.val Nm.nil))) (by exact rfl) ?_
    refine sw_ret ?_
    exact (Exists.intro 6 (Exists.intro _ (And.intro (by exact rfl) (And.intro (by refine box_eq ?_; simp_all [recv, recvOk, cClient, cRow, cInt]) (And.intro ty_29 (And.intro (fun h => nomatch h) (And.intro (by refine int_eq ?_; simp_all [recv, recvOk, cClient, cRow, cInt]) True.intro)))))))
theorem spec_Receive {p1 : Fl} {c : Client} {n : Int} {r : Row}  (hb : wtClient c ≤ 68719476736) (hb2 : wtRow r ≤ 68719476736) : SCall Try.prog 156 [(true, [PV.val (vI c.Next), PV.sl .v (c.Rows.map (cRow p1))]), (false, [PV.val (vI n)]), (true, [PV.val (vI r.Id), PV.sl .v (r.Values.map cInt)])] (resRV [(true, [PV.val (vI (recv c n r).1.Next), PV.sl (.own 57 2) ((recv c n r).1.Rows.map (cRow (.own 3 1)))]), (false, [PV.val (vI (recv c n r).2)])]) := by
  refine scall_of (rs := [(true, [PV.val (vI (recv c n r).1.Next), PV.sl (.own 57 2) ((recv c n r).1.Rows.map (cRow (.own 3 1)))]), (false, [PV.val (vI (recv c n r).2)])]) Try.func156 rfl (Nat.le_of_ble_eq_true rfl) (borA_cons (BorL.cons (PV.bor_val _) (BorL.cons (PV.bor_sl _) BorL.nil)) (borA_cons (BorL.cons (PV.bor_val _) BorL.nil) (borA_cons (BorL.cons (PV.bor_val _) (BorL.cons (PV.bor_sl _) BorL.nil)) borA_nil))) ?_
  intro h0 w0 Fz0
  refine sw_slen (s := 0) (j := 1) rfl rfl fun hl0_1 => ?_
  try rw [List.length_map] at hl0_1
  refine sw_slen (s := 2) (j := 1) rfl rfl fun hl2_1 => ?_
  try rw [List.length_map] at hl2_1
  have hbu := hb
  simp only [wtClient, wtInt] at hbu
  have hln : c.Rows.length ≤ wtRowS c.Rows := Nat.le_add_right _ _
  refine sw_seq ?_
  refine sw_reg ?_
  refine RunS.step (by exact And.intro rfl True.intro) (by exact True.intro) (LocG.of rfl (loc_box (ag := true) (cs := [PV.val _, PV.sl _ _]) (by decide) (by exact True.intro))) (free1 (Free.of_ rfl)) ?_
  refine RunS.step (by exact And.intro rfl True.intro) (by exact True.intro) (LocG.of rfl (loc_box (ag := true) (cs := [PV.val _, PV.sl _ _]) (by decide) (by exact True.intro))) (free1 (Free.app (Free.of_ rfl) rfl)) ?_
  refine RunS.step (by exact True.intro) (by exact True.intro) (LocG.of rfl (loc_alloc (by decide) z_29 zo_29)) (free1 (Free.app (Free.app (Free.of_ rfl) rfl) rfl)) ?_
  refine RunS.step (by exact True.intro) (by exact True.intro) (LocG.of rfl (loc_const (.inr rfl) (by decide) (ok_sc rfl))) nofree ?_
  refine sw_seq ?_
  refine sw_of (l := [(1, RV.sv false [PV.val _]), (3, RV.ptr 3 0), (5, RV.ptr 5 0), (6, RV.ptr 6 0), (7, RV.sv false [PV.val _])]) (b := [(3, (29, [PV.val _, PV.sl _ _])), (5, (57, [PV.val _, PV.sl _ _])), (6, (29, [PV.val _, PV.sl _ _]))]) (by exact And.intro rfl (And.intro rfl (And.intro rfl (And.intro rfl (And.intro rfl True.intro))))) (by exact And.intro rfl (And.intro rfl (And.intro rfl True.intro))) ?_
  refine sw_reg ?_
  refine RunS.step (by exact And.intro rfl True.intro) (by exact And.intro rfl True.intro) (LocG.of rfl (loc_load (qs := [PV.val _, PV.sl .v _]) (by decide) ty_29 (fun h => nomatch h) (by exact Nat.le_of_ble_eq_true rfl) (by exact (ToL.cons (PV.To.refl _) (ToL.cons PV.to_none ToL.nil))) (by exact (BorL.cons (PV.bor_val _) (BorL.cons (PV.bor_sl _) BorL.nil))))) nofree ?_
  refine RunS.step (by exact And.intro rfl True.intro) (by exact True.intro) (LocG.of rfl (loc_call (qs := [(true, [PV.val _, PV.sl _ _])]) (as_ := [(true, [PV.val _, PV.sl .v _])]) (by decide) c_154 (by exact (And.intro (by exact True.intro) True.intro)) (by exact (And.intro (And.intro rfl (ToL.cons (PV.To.refl _) (ToL.cons PV.to_none ToL.nil))) True.intro)) (by exact spec_l17Client (by omega)))) nofree ?_
  refine RunS.step (by exact True.intro) (by exact True.intro) (LocG.of rfl (loc_alloc (by decide) z_29 zo_29)) (free1 (Free.app (Free.app (Free.of_ rfl) rfl) rfl)) ?_
  refine RunS.step (by exact And.intro rfl (And.intro rfl True.intro)) (by exact And.intro rfl True.intro) (LocG.of rfl (loc_store (ag := true) (vs := [PV.val _, PV.sl _ _]) ty_29 (by exact True.intro) (by exact rfl) (by exact Nat.le_of_ble_eq_true rfl))) nofree ?_
  refine sw_seq ?_
  refine sw_seq ?_
  refine sw_of (l := [(1, RV.sv false [PV.val _]), (3, RV.ptr 3 0), (5, RV.ptr 5 0), (6, RV.ptr 6 0), (7, RV.sv false [PV.val _]), (8, RV.ptr 8 0)]) (b := [(3, (29, [PV.val _, PV.sl _ _])), (5, (57, [PV.val _, PV.sl _ _])), (6, (29, [PV.val _, PV.sl _ _])), (8, (29, [PV.val _, PV.sl _ _]))]) (by exact And.intro rfl (And.intro rfl (And.intro rfl (And.intro rfl (And.intro rfl (And.intro rfl True.intro)))))) (by exact And.intro rfl (And.intro rfl (And.intro rfl (And.intro rfl True.intro)))) ?_
  refine sw_reg ?_
  refine RunS.step (by exact And.intro rfl True.intro) (by exact True.intro) (LocG.of rfl (loc_copy (.inl rfl) (by decide) (by exact Cp.sc))) nofree ?_
  refine RunS.step (by exact And.intro rfl True.intro) (by exact True.intro) (LocG.of rfl (loc_field (by decide) fd_29_0)) nofree ?_
  refine RunS.step (by exact And.intro rfl True.intro) (by exact And.intro rfl True.intro) (LocG.of rfl (loc_load (qs := [PV.val _]) (by decide) ty_3 (fun _ => rfl) (by exact Nat.le_of_ble_eq_true rfl) (by exact (ToL.cons (PV.To.refl _) ToL.nil)) (by exact (BorL.cons (PV.bor_val _) BorL.nil)))) nofree ?_
  refine RunS.step (by exact And.intro rfl (And.intro rfl True.intro)) (by exact True.intro) (LocG.of rfl (loc_eql (by decide) (by exact True.intro) (by exact True.intro))) nofree ?_
  refine RunS.step (by exact And.intro rfl True.intro) (by exact True.intro) (LocG.of rfl (loc_copy (.inl rfl) (by decide) (by exact Cp.sc))) nofree ?_
  refine RunS.cases (s := 15) rfl (fun g1 => ?_) (fun g1 => ?_)
  · refine RunS.step (by exact And.intro rfl (And.intro rfl True.intro)) (by exact And.intro rfl True.intro) (LocG.yes rfl rfl (by decide) g1 (loc_load (qs := [PV.val _, PV.sl .v _]) (by decide) ty_57 (fun h => nomatch h) (by exact Nat.le_of_ble_eq_true rfl) (by exact (ToL.cons (PV.To.refl _) (ToL.cons PV.to_none ToL.nil))) (by exact (BorL.cons (PV.bor_val _) (BorL.cons (PV.bor_sl _) BorL.nil))))) nofree ?_
    refine RunS.step (by exact And.intro rfl (And.intro rfl True.intro)) (by exact True.intro) (LocG.yes rfl rfl (by decide) g1 (loc_call (qs := [(true, [PV.val _, PV.sl _ _])]) (as_ := [(true, [PV.val _, PV.sl .v _])]) (by decide) c_54 (by exact (And.intro (by exact True.intro) True.intro)) (by exact (And.intro (And.intro rfl (ToL.cons (PV.To.refl _) (ToL.cons PV.to_none ToL.nil))) True.intro)) (by exact spec_IsRow))) nofree ?_
    refine RunS.step (by exact And.intro rfl (And.intro rfl True.intro)) (by exact True.intro) (LocG.of rfl (loc_pick (z := .tmp 17) (by decide) (by rw [g1]; rfl) (by exact True.intro) (by exact True.intro) (by exact Cp.sc))) nofree ?_
    refine RunS.step (by exact And.intro rfl True.intro) (by exact True.intro) (LocG.of rfl (loc_copy (.inl rfl) (by decide) (by exact Cp.sc))) nofree ?_
    refine RunS.cases (s := 19) rfl (fun g2 => ?_) (fun g2 => ?_)
    · refine RunS.step (by exact And.intro rfl (And.intro rfl True.intro)) (by exact True.intro) (LocG.yes rfl rfl (by decide) g2 (loc_field (by decide) fd_29_0)) nofree ?_
      refine RunS.step (by exact And.intro rfl (And.intro rfl True.intro)) (by exact And.intro rfl True.intro) (LocG.yes rfl rfl (by decide) g2 (loc_load (qs := [PV.val _]) (by decide) ty_3 (fun _ => rfl) (by exact Nat.le_of_ble_eq_true rfl) (by exact (ToL.cons (PV.To.refl _) ToL.nil)) (by exact (BorL.cons (PV.bor_val _) BorL.nil)))) nofree ?_
      refine RunS.step (by exact And.intro rfl (And.intro rfl True.intro)) (by exact True.intro) (LocG.yes rfl rfl (by decide) g2 (loc_call (qs := [(false, [PV.val _]), (false, [PV.val _]), (false, [PV.val _])]) (as_ := [(false, [PV.val _]), (false, [PV.val _]), (false, [PV.val _])]) (by decide) c_86 (by exact (And.intro (by exact True.intro) (And.intro (ok_sc rfl) (And.intro (ok_sc rfl) True.intro)))) (by exact (And.intro (And.intro rfl (ToL.cons (PV.To.refl _) ToL.nil)) (And.intro (And.intro rfl (ToL.cons (PV.To.refl _) ToL.nil)) (And.intro (And.intro rfl (ToL.cons (PV.To.refl _) ToL.nil)) True.intro)))) (by exact spec_l1In))) nofree ?_
      refine RunS.step (by exact And.intro rfl (And.intro rfl True.intro)) (by exact True.intro) (LocG.of rfl (loc_pick (z := .tmp 22) (by decide) (by rw [g2]; rfl) (by exact True.intro) (by exact True.intro) (by exact Cp.sc))) nofree ?_
      refine sw_cond (t := 23) rfl (fun hb3 => ?_) (fun hb3 => ?_)
      · try simp only [decide_eq_true_eq, decide_eq_false_iff_not, bne_iff_ne, beq_iff_eq, Bool.not_eq_true', Bool.not_eq_false', ne_eq, bne_eq_false_iff_eq, beq_eq_false_iff_ne] at hb3
        have hin := hb3
        simp only [inB, Bool.and_eq_true, decide_eq_true_eq] at hin
        refine sw_seq ?_
        refine sw_of (l := [(1, RV.sv false [PV.val _]), (3, RV.ptr 3 0), (5, RV.ptr 5 0), (6, RV.ptr 6 0), (7, RV.sv false [PV.val _]), (8, RV.ptr 8 0)]) (b := [(3, (29, [PV.val _, PV.sl _ _])), (5, (57, [PV.val _, PV.sl _ _])), (6, (29, [PV.val _, PV.sl _ _])), (8, (29, [PV.val _, PV.sl _ _]))]) (by exact And.intro rfl (And.intro rfl (And.intro rfl (And.intro rfl (And.intro rfl (And.intro rfl True.intro)))))) (by exact And.intro rfl (And.intro rfl (And.intro rfl (And.intro rfl True.intro)))) ?_
        refine sw_draw hm_ ?_
        refine Run.step 0 (by exact And.intro rfl True.intro) (by exact True.intro) (LocG.of rfl (loc_field (by decide) fd_29_1)) nofree (by kernel_rfl) ?_
        refine Run.step 1 (by exact And.intro rfl True.intro) (by exact And.intro rfl True.intro) (LocG.of rfl (loc_ltake (ms := [PV.sl _ _]) (qs := [PV.sl .v _]) (by decide) ty_25 (fun _ => rfl) (by exact Nat.le_of_ble_eq_true rfl) (by exact rfl) (by exact (ToL.cons PV.to_none ToL.nil)) (by exact (BorL.cons (PV.bor_sl _) BorL.nil)))) nofree (by kernel_rfl) ?_
        refine Run.step 0 (by exact And.intro rfl True.intro) (by exact And.intro rfl True.intro) (LocG.of rfl (loc_load (qs := [PV.val _, PV.sl .v _]) (by decide) ty_57 (fun h => nomatch h) (by exact Nat.le_of_ble_eq_true rfl) (by exact (ToL.cons (PV.To.refl _) (ToL.cons PV.to_none ToL.nil))) (by exact (BorL.cons (PV.bor_val _) (BorL.cons (PV.bor_sl _) BorL.nil))))) nofree (by kernel_rfl) ?_
        refine Run.step 4 (by exact And.intro rfl True.intro) (by exact True.intro) (LocG.of rfl (loc_call (qs := [(true, [PV.val _, PV.sl _ _])]) (as_ := [(true, [PV.val _, PV.sl .v _])]) (by decide) c_127 (by exact (And.intro (by exact True.intro) True.intro)) (by exact (And.intro (And.intro rfl (ToL.cons (PV.To.refl _) (ToL.cons PV.to_none ToL.nil))) True.intro)) (by exact spec_l3Copy (by omega)))) nofree (by kernel_rfl) ?_
        refine Run.step 12 (by exact And.intro rfl True.intro) (by exact True.intro) (LocG.of rfl (loc_bslice (qs := [(true, [PV.val _, PV.sl _ _])]) (by decide) sl_25 z_57 (by decide) rfl rfl rfl rfl rfl (by exact Nat.le_of_ble_eq_true rfl) (by exact (And.intro (by exact True.intro) True.intro)) rfl)) nofree (by kernel_rfl) ?_
        refine Run.step 31 (by exact And.intro rfl (And.intro rfl True.intro)) (by exact True.intro) (LocG.of rfl (loc_append (by decide) sl_25 z_57 rfl rfl (by decide) rfl (by simp only [List.length_map, List.length_append, List.length_cons, List.length_nil]; omega) (by simp only [List.length_map, List.length_append, List.length_cons, List.length_nil]; omega))) nofree (by kernel_rfl) ?_
        refine Run.step 63 (by exact And.intro rfl True.intro) (by exact True.intro) (LocG.of rfl (loc_field (by decide) fd_29_1)) nofree (by kernel_rfl) ?_
        refine Run.step 127 (by exact And.intro rfl (And.intro rfl True.intro)) (by exact And.intro rfl True.intro) (LocG.of rfl (loc_store (ag := false) (vs := [PV.sl _ _]) ty_25 (by exact True.intro) (by exact rfl) (by exact Nat.le_of_ble_eq_true rfl))) nofree (by kernel_rfl) ?_
        refine sw_of (l := [(1, RV.sv false [PV.val _]), (3, RV.ptr 3 0), (5, RV.ptr 5 0), (6, RV.ptr 6 0), (7, RV.sv false [PV.val _]), (8, RV.ptr 8 0)]) (b := [(3, (29, [PV.val _, PV.sl _ _])), (5, (57, [PV.val _, PV.sl _ _])), (6, (29, [PV.val _, PV.sl _ _])), (8, (29, [PV.val _, PV.sl _ _]))]) (by exact And.intro rfl (And.intro rfl (And.intro rfl (And.intro rfl (And.intro rfl (And.intro rfl True.intro)))))) (by exact And.intro rfl (And.intro rfl (And.intro rfl (And.intro rfl True.intro)))) ?_
        refine sw_reg ?_
        refine RunS.step (by exact And.intro rfl True.intro) (by exact True.intro) (LocG.of rfl (loc_field (by decide) fd_29_0)) nofree ?_
        refine RunS.step (by exact And.intro rfl True.intro) (by exact And.intro rfl True.intro) (LocG.of rfl (loc_load (qs := [PV.val _]) (by decide) ty_3 (fun _ => rfl) (by exact Nat.le_of_ble_eq_true rfl) (by exact (ToL.cons (PV.To.refl _) ToL.nil)) (by exact (BorL.cons (PV.bor_val _) BorL.nil)))) nofree ?_
        refine RunS.step (by exact And.intro rfl True.intro) (by exact True.intro) (LocG.of rfl (loc_add (by decide) (by exact True.intro) (ok_sc rfl) (by unfold I64; omega))) nofree ?_
        refine RunS.step (by exact And.intro rfl True.intro) (by exact True.intro) (LocG.of rfl (loc_field (by decide) fd_29_0)) nofree ?_
        refine RunS.step (by exact And.intro rfl (And.intro rfl True.intro)) (by exact And.intro rfl True.intro) (LocG.of rfl (loc_store (ag := false) (vs := [PV.val _]) ty_3 (by exact True.intro) (by exact rfl) (by exact Nat.le_of_ble_eq_true rfl))) nofree ?_
        refine sw_seq ?_
        refine sw_of (l := [(1, RV.sv false [PV.val _]), (3, RV.ptr 3 0), (5, RV.ptr 5 0), (6, RV.ptr 6 0), (7, RV.sv false [PV.val _]), (8, RV.ptr 8 0)]) (b := [(3, (29, [PV.val _, PV.sl _ _])), (5, (57, [PV.val _, PV.sl _ _])), (6, (29, [PV.val _, PV.sl _ _])), (8, (29, [PV.val _, PV.sl _ _]))]) (by exact And.intro rfl (And.intro rfl (And.intro rfl (And.intro rfl (And.intro rfl (And.intro rfl True.intro)))))) (by exact And.intro rfl (And.intro rfl (And.intro rfl (And.intro rfl True.intro)))) ?_
        refine sw_lendB (d := 8) (G := 1008) (by exact rfl) (by exact rfl) fun us hus hR => ?_
        obtain ⟨u4_0, u4_1, rfl⟩ := us_2 hus
        obtain rfl := relval hR (j := 0) rfl rfl
        refine sw_of (l := [(1, RV.sv false [PV.val _]), (3, RV.ptr 3 0), (5, RV.ptr 5 0), (6, RV.ptr 6 0), (7, RV.sv false [PV.val _]), (8, RV.ptr 8 0), (1008, RV.gh _ _)]) (b := [(3, (29, [PV.val _, PV.sl _ _])), (5, (57, [PV.val _, PV.sl _ _])), (6, (29, [PV.val _, PV.sl _ _])), (8, (29, [PV.val _, PV.val _]))]) (by exact And.intro rfl (And.intro rfl (And.intro rfl (And.intro rfl (And.intro rfl (And.intro rfl (And.intro rfl True.intro))))))) (by exact And.intro rfl (And.intro rfl (And.intro rfl (And.intro rfl True.intro)))) ?_
        refine sw_draw hm_ ?_
        refine Run.step 0 (by exact And.intro rfl True.intro) (by exact And.intro rfl True.intro) (LocG.of rfl (loc_load (qs := [PV.val _, PV.val _]) (by decide) ty_29 (fun h => nomatch h) (by exact Nat.le_of_ble_eq_true rfl) (by exact (ToL.cons (PV.To.refl _) (ToL.cons (PV.To.refl _) ToL.nil))) (by exact (BorL.cons (PV.bor_val _) (BorL.cons (PV.bor_val _) BorL.nil))))) nofree (by kernel_rfl) ?_
        refine Run.step 0 (by exact And.intro rfl True.intro) (by exact True.intro) (LocG.of rfl (loc_field (by decide) fd_29_0)) nofree (by kernel_rfl) ?_
        refine Run.step 2 (by exact And.intro rfl True.intro) (by exact And.intro rfl True.intro) (LocG.of rfl (loc_load (qs := [PV.val _]) (by decide) ty_3 (fun _ => rfl) (by exact Nat.le_of_ble_eq_true rfl) (by exact (ToL.cons (PV.To.refl _) ToL.nil)) (by exact (BorL.cons (PV.bor_val _) BorL.nil)))) nofree (by kernel_rfl) ?_
        refine Run.step 1 (by exact And.intro rfl (And.intro rfl True.intro)) (by exact And.intro rfl True.intro) (LocG.of rfl (loc_store (ag := true) (vs := [PV.val _, PV.val _]) ty_29 (by exact True.intro) (by exact rfl) (by exact Nat.le_of_ble_eq_true rfl))) nofree (by kernel_rfl) ?_
        refine Run.step 15 (by exact And.intro rfl True.intro) (by exact True.intro) (LocG.of rfl (loc_copy (.inr rfl) (by decide) (by exact Cp.sc))) nofree (by kernel_rfl) ?_
        refine sw_backB (d := 6) (G := 1008) (by exact rfl) (by exact (Nm.val (Nm.val Nm.nil))) (by exact rfl) ?_
        refine sw_ret ?_
        exact (Exists.intro 6 (Exists.intro _ (And.intro (by exact rfl) (And.intro (by refine box_eq ?_; simp_all [recv, recvOk, cClient, cRow, cInt]) (And.intro ty_29 (And.intro (fun h => nomatch h) (And.intro (by refine int_eq ?_; simp_all [recv, recvOk, cClient, cRow, cInt]) True.intro)))))))
      · try simp only [decide_eq_true_eq, decide_eq_false_iff_not, bne_iff_ne, beq_iff_eq, Bool.not_eq_true', Bool.not_eq_false', ne_eq, bne_eq_false_iff_eq, beq_eq_false_iff_ne] at hb3
        refine sw_skip ?_
        refine sw_seq ?_
        refine sw_of (l := [(1, RV.sv false [PV.val _]), (3, RV.ptr 3 0), (5, RV.ptr 5 0), (6, RV.ptr 6 0), (7, RV.sv false [PV.val _]), (8, RV.ptr 8 0)]) (b := [(3, (29, [PV.val _, PV.sl _ _])), (5, (57, [PV.val _, PV.sl _ _])), (6, (29, [PV.val _, PV.sl _ _])), (8, (29, [PV.val _, PV.sl _ _]))]) (by exact And.intro rfl (And.intro rfl (And.intro rfl (And.intro rfl (And.intro rfl (And.intro rfl True.intro)))))) (by exact And.intro rfl (And.intro rfl (And.intro rfl (And.intro rfl True.intro)))) ?_
        refine sw_lendB (d := 8) (G := 1008) (by exact rfl) (by exact rfl) fun us hus hR => ?_
        obtain ⟨u5_0, u5_1, rfl⟩ := us_2 hus
        obtain rfl := relval hR (j := 0) rfl rfl
        refine sw_of (l := [(1, RV.sv false [PV.val _]), (3, RV.ptr 3 0), (5, RV.ptr 5 0), (6, RV.ptr 6 0), (7, RV.sv false [PV.val _]), (8, RV.ptr 8 0), (1008, RV.gh _ _)]) (b := [(3, (29, [PV.val _, PV.sl _ _])), (5, (57, [PV.val _, PV.sl _ _])), (6, (29, [PV.val _, PV.sl _ _])), (8, (29, [PV.val _, PV.val _]))]) (by exact And.intro rfl (And.intro rfl (And.intro rfl (And.intro rfl (And.intro rfl (And.intro rfl (And.intro rfl True.intro))))))) (by exact And.intro rfl (And.intro rfl (And.intro rfl (And.intro rfl True.intro)))) ?_
        refine sw_draw hm_ ?_
        refine Run.step 0 (by exact And.intro rfl True.intro) (by exact And.intro rfl True.intro) (LocG.of rfl (loc_load (qs := [PV.val _, PV.val _]) (by decide) ty_29 (fun h => nomatch h) (by exact Nat.le_of_ble_eq_true rfl) (by exact (ToL.cons (PV.To.refl _) (ToL.cons (PV.To.refl _) ToL.nil))) (by exact (BorL.cons (PV.bor_val _) (BorL.cons (PV.bor_val _) BorL.nil))))) nofree (by kernel_rfl) ?_
        refine Run.step 0 (by exact And.intro rfl True.intro) (by exact True.intro) (LocG.of rfl (loc_field (by decide) fd_29_0)) nofree (by kernel_rfl) ?_
        refine Run.step 2 (by exact And.intro rfl True.intro) (by exact And.intro rfl True.intro) (LocG.of rfl (loc_load (qs := [PV.val _]) (by decide) ty_3 (fun _ => rfl) (by exact Nat.le_of_ble_eq_true rfl) (by exact (ToL.cons (PV.To.refl _) ToL.nil)) (by exact (BorL.cons (PV.bor_val _) BorL.nil)))) nofree (by kernel_rfl) ?_
        refine Run.step 1 (by exact And.intro rfl (And.intro rfl True.intro)) (by exact And.intro rfl True.intro) (LocG.of rfl (loc_store (ag := true) (vs := [PV.val _, PV.val _]) ty_29 (by exact True.intro) (by exact rfl) (by exact Nat.le_of_ble_eq_true rfl))) nofree (by kernel_rfl) ?_
        refine Run.step 15 (by exact And.intro rfl True.intro) (by exact True.intro) (LocG.of rfl (loc_copy (.inr rfl) (by decide) (by exact Cp.sc))) nofree (by kernel_rfl) ?_
        refine sw_backB (d := 6) (G := 1008) (by exact rfl) (by exact (Nm.val (Nm.val Nm.nil))) (by exact rfl) ?_
        refine sw_ret ?_
        exact (Exists.intro 6 (Exists.intro _ (And.intro (by exact rfl) (And.intro (by refine box_eq ?_; simp_all [recv, recvOk, cClient, cRow, cInt]) (And.intro ty_29 (And.intro (fun h => nomatch h) (And.intro (by refine int_eq ?_; simp_all [recv, recvOk, cClient, cRow, cInt]) True.intro)))))))
    · refine RunS.step (by exact And.intro rfl True.intro) (by exact True.intro) (LocG.no (ops := _) rfl rfl (by decide) g2 rfl) nofree ?_
      refine RunS.step (by exact And.intro rfl True.intro) (by exact True.intro) (LocG.no (ops := _) rfl rfl (by decide) g2 rfl) nofree ?_
      refine RunS.step (by exact And.intro rfl True.intro) (by exact True.intro) (LocG.no (ops := _) rfl rfl (by decide) g2 rfl) nofree ?_
      refine RunS.step (by exact And.intro rfl True.intro) (by exact True.intro) (LocG.of rfl (loc_pick (z := .const (.bool false)) (by decide) (by rw [g2]; rfl) (by exact True.intro) (ok_sc rfl) (by exact Cp.sc))) nofree ?_
      refine sw_cond (t := 23) rfl (fun hb_ => nomatch hb_) (fun hb_ => ?_)
      refine sw_skip ?_
      refine sw_seq ?_
      refine sw_of (l := [(1, RV.sv false [PV.val _]), (3, RV.ptr 3 0), (5, RV.ptr 5 0), (6, RV.ptr 6 0), (7, RV.sv false [PV.val _]), (8, RV.ptr 8 0)]) (b := [(3, (29, [PV.val _, PV.sl _ _])), (5, (57, [PV.val _, PV.sl _ _])), (6, (29, [PV.val _, PV.sl _ _])), (8, (29, [PV.val _, PV.sl _ _]))]) (by exact And.intro rfl (And.intro rfl (And.intro rfl (And.intro rfl (And.intro rfl (And.intro rfl True.intro)))))) (by exact And.intro rfl (And.intro rfl (And.intro rfl (And.intro rfl True.intro)))) ?_
      refine sw_lendB (d := 8) (G := 1008) (by exact rfl) (by exact rfl) fun us hus hR => ?_
      obtain ⟨u7_0, u7_1, rfl⟩ := us_2 hus
      obtain rfl := relval hR (j := 0) rfl rfl
      refine sw_of (l := [(1, RV.sv false [PV.val _]), (3, RV.ptr 3 0), (5, RV.ptr 5 0), (6, RV.ptr 6 0), (7, RV.sv false [PV.val _]), (8, RV.ptr 8 0), (1008, RV.gh _ _)]) (b := [(3, (29, [PV.val _, PV.sl _ _])), (5, (57, [PV.val _, PV.sl _ _])), (6, (29, [PV.val _, PV.sl _ _])), (8, (29, [PV.val _, PV.val _]))]) (by exact And.intro rfl (And.intro rfl (And.intro rfl (And.intro rfl (And.intro rfl (And.intro rfl (And.intro rfl True.intro))))))) (by exact And.intro rfl (And.intro rfl (And.intro rfl (And.intro rfl True.intro)))) ?_
      refine sw_draw hm_ ?_
      refine Run.step 0 (by exact And.intro rfl True.intro) (by exact And.intro rfl True.intro) (LocG.of rfl (loc_load (qs := [PV.val _, PV.val _]) (by decide) ty_29 (fun h => nomatch h) (by exact Nat.le_of_ble_eq_true rfl) (by exact (ToL.cons (PV.To.refl _) (ToL.cons (PV.To.refl _) ToL.nil))) (by exact (BorL.cons (PV.bor_val _) (BorL.cons (PV.bor_val _) BorL.nil))))) nofree (by kernel_rfl) ?_
      refine Run.step 0 (by exact And.intro rfl True.intro) (by exact True.intro) (LocG.of rfl (loc_field (by decide) fd_29_0)) nofree (by kernel_rfl) ?_
      refine Run.step 2 (by exact And.intro rfl True.intro) (by exact And.intro rfl True.intro) (LocG.of rfl (loc_load (qs := [PV.val _]) (by decide) ty_3 (fun _ => rfl) (by exact Nat.le_of_ble_eq_true rfl) (by exact (ToL.cons (PV.To.refl _) ToL.nil)) (by exact (BorL.cons (PV.bor_val _) BorL.nil)))) nofree (by kernel_rfl) ?_
      refine Run.step 1 (by exact And.intro rfl (And.intro rfl True.intro)) (by exact And.intro rfl True.intro) (LocG.of rfl (loc_store (ag := true) (vs := [PV.val _, PV.val _]) ty_29 (by exact True.intro) (by exact rfl) (by exact Nat.le_of_ble_eq_true rfl))) nofree (by kernel_rfl) ?_
      refine Run.step 15 (by exact And.intro rfl True.intro) (by exact True.intro) (LocG.of rfl (loc_copy (.inr rfl) (by decide) (by exact Cp.sc))) nofree (by kernel_rfl) ?_
      refine sw_backB (d := 6) (G := 1008) (by exact rfl) (by exact (Nm.val (Nm.val Nm.nil))) (by exact rfl) ?_
      refine sw_ret ?_
      exact (Exists.intro 6 (Exists.intro _ (And.intro (by exact rfl) (And.intro (by refine box_eq ?_; simp_all [recv, recvOk, cClient, cRow, cInt]) (And.intro ty_29 (And.intro (fun h => nomatch h) (And.intro (by refine int_eq ?_; simp_all [recv, recvOk, cClient, cRow, cInt]) True.intro)))))))
  · refine RunS.step (by exact And.intro rfl True.intro) (by exact True.intro) (LocG.no (ops := _) rfl rfl (by decide) g1 rfl) nofree ?_
    refine RunS.step (by exact And.intro rfl True.intro) (by exact True.intro) (LocG.no (ops := _) rfl rfl (by decide) g1 rfl) nofree ?_
    refine RunS.step (by exact And.intro rfl True.intro) (by exact True.intro) (LocG.of rfl (loc_pick (z := .const (.bool false)) (by decide) (by rw [g1]; rfl) (by exact True.intro) (ok_sc rfl) (by exact Cp.sc))) nofree ?_
    refine RunS.step (by exact And.intro rfl True.intro) (by exact True.intro) (LocG.of rfl (loc_copy (.inl rfl) (by decide) (by exact Cp.sc))) nofree ?_
    refine RunS.cases (s := 19) rfl (fun g8 => nomatch g8) (fun g8 => ?_)
    refine RunS.step (by exact And.intro rfl True.intro) (by exact True.intro) (LocG.no (ops := _) rfl rfl (by decide) g8 rfl) nofree ?_
    refine RunS.step (by exact And.intro rfl True.intro) (by exact True.intro) (LocG.no (ops := _) rfl rfl (by decide) g8 rfl) nofree ?_
    refine RunS.step (by exact And.intro rfl True.intro) (by exact True.intro) (LocG.no (ops := _) rfl rfl (by decide) g8 rfl) nofree ?_
    refine RunS.step (by exact And.intro rfl True.intro) (by exact True.intro) (LocG.of rfl (loc_pick (z := .const (.bool false)) (by decide) (by rw [g8]; rfl) (by exact True.intro) (ok_sc rfl) (by exact Cp.sc))) nofree ?_
    refine sw_cond (t := 23) rfl (fun hb_ => nomatch hb_) (fun hb_ => ?_)
    refine sw_skip ?_
    refine sw_seq ?_
    refine sw_of (l := [(1, RV.sv false [PV.val _]), (3, RV.ptr 3 0), (5, RV.ptr 5 0), (6, RV.ptr 6 0), (7, RV.sv false [PV.val _]), (8, RV.ptr 8 0)]) (b := [(3, (29, [PV.val _, PV.sl _ _])), (5, (57, [PV.val _, PV.sl _ _])), (6, (29, [PV.val _, PV.sl _ _])), (8, (29, [PV.val _, PV.sl _ _]))]) (by exact And.intro rfl (And.intro rfl (And.intro rfl (And.intro rfl (And.intro rfl (And.intro rfl True.intro)))))) (by exact And.intro rfl (And.intro rfl (And.intro rfl (And.intro rfl True.intro)))) ?_
    refine sw_lendB (d := 8) (G := 1008) (by exact rfl) (by exact rfl) fun us hus hR => ?_
    obtain ⟨u10_0, u10_1, rfl⟩ := us_2 hus
    obtain rfl := relval hR (j := 0) rfl rfl
    refine sw_of (l := [(1, RV.sv false [PV.val _]), (3, RV.ptr 3 0), (5, RV.ptr 5 0), (6, RV.ptr 6 0), (7, RV.sv false [PV.val _]), (8, RV.ptr 8 0), (1008, RV.gh _ _)]) (b := [(3, (29, [PV.val _, PV.sl _ _])), (5, (57, [PV.val _, PV.sl _ _])), (6, (29, [PV.val _, PV.sl _ _])), (8, (29, [PV.val _, PV.val _]))]) (by exact And.intro rfl (And.intro rfl (And.intro rfl (And.intro rfl (And.intro rfl (And.intro rfl (And.intro rfl True.intro))))))) (by exact And.intro rfl (And.intro rfl (And.intro rfl (And.intro rfl True.intro)))) ?_
    refine sw_draw hm_ ?_
    refine Run.step 0 (by exact And.intro rfl True.intro) (by exact And.intro rfl True.intro) (LocG.of rfl (loc_load (qs := [PV.val _, PV.val _]) (by decide) ty_29 (fun h => nomatch h) (by exact Nat.le_of_ble_eq_true rfl) (by exact (ToL.cons (PV.To.refl _) (ToL.cons (PV.To.refl _) ToL.nil))) (by exact (BorL.cons (PV.bor_val _) (BorL.cons (PV.bor_val _) BorL.nil))))) nofree (by kernel_rfl) ?_
    refine Run.step 0 (by exact And.intro rfl True.intro) (by exact True.intro) (LocG.of rfl (loc_field (by decide) fd_29_0)) nofree (by kernel_rfl) ?_
    refine Run.step 2 (by exact And.intro rfl True.intro) (by exact And.intro rfl True.intro) (LocG.of rfl (loc_load (qs := [PV.val _]) (by decide) ty_3 (fun _ => rfl) (by exact Nat.le_of_ble_eq_true rfl) (by exact (ToL.cons (PV.To.refl _) ToL.nil)) (by exact (BorL.cons (PV.bor_val _) BorL.nil)))) nofree (by kernel_rfl) ?_
    refine Run.step 1 (by exact And.intro rfl (And.intro rfl True.intro)) (by exact And.intro rfl True.intro) (LocG.of rfl (loc_store (ag := true) (vs := [PV.val _, PV.val _]) ty_29 (by exact True.intro) (by exact rfl) (by exact Nat.le_of_ble_eq_true rfl))) nofree (by kernel_rfl) ?_
    refine Run.step 15 (by exact And.intro rfl True.intro) (by exact True.intro) (LocG.of rfl (loc_copy (.inr rfl) (by decide) (by exact Cp.sc))) nofree (by kernel_rfl) ?_
    refine sw_backB (d := 6) (G := 1008) (by exact rfl) (by exact (Nm.val (Nm.val Nm.nil))) (by exact rfl) ?_
    refine sw_ret ?_
    exact (Exists.intro 6 (Exists.intro _ (And.intro (by exact rfl) (And.intro (by refine box_eq ?_; simp_all [recv, recvOk, cClient, cRow, cInt]) (And.intro ty_29 (And.intro (fun h => nomatch h) (And.intro (by refine int_eq ?_; simp_all [recv, recvOk, cClient, cRow, cInt]) True.intro)))))))
end Go.Proofs.Ytcfbekjiiokcbaa
