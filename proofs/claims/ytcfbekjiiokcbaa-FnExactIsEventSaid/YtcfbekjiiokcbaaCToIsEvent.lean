/- What functions of the program compute. No condition. -/
import Derived.Test.YtcfbekjiiokcbaaCSzIsEvent
set_option linter.unusedVariables false
set_option linter.unusedSimpArgs false
namespace Go.Proofs.Ytcfbekjiiokcbaa
open Go Go.RowKit M
set_option maxRecDepth 10000
theorem to_IntS {x : List Int}  (hb : wtIntS x ≤ 1048576) : SCall Try.prog 15 [(false, [PV.sl .v (x.map cInt)])] (resRV [(false, [PV.sl (.own 3 1) (x.map cInt)])]) := by
  refine scall_of (rs := [(false, [PV.sl (.own 3 1) (x.map cInt)])]) Try.func15 rfl (Nat.le_of_ble_eq_true rfl) (borA_cons (BorL.cons (PV.bor_sl _) BorL.nil) borA_nil) ?_
  intro h0 w0 Fz0
  refine sw_len (s := 0) rfl fun hl0 => ?_
  try rw [List.length_map] at hl0
  have hbu := hb
  simp only [wtIntS] at hbu
  refine sw_seq ?_
  refine sw_reg ?_
  refine RunS.step (by exact True.intro) (by exact True.intro) (LocG.of rfl (loc_const (.inr rfl) (by decide) (ok_nil (t := 3) (e := 1)))) nofree ?_
  refine sw_seq ?_
  refine sw_of (l := [(0, RV.sv false [PV.sl _ _]), (2, RV.sv false [PV.sl _ _])]) (b := []) (by exact And.intro rfl (And.intro rfl True.intro)) (by exact True.intro) ?_
  refine sw_reg ?_
  refine RunS.step (by exact And.intro rfl True.intro) (by exact True.intro) (LocG.of rfl (loc_copy (r' := RV.sv false [PV.sl .v _]) (.inl rfl) (by decide) (by exact Cp.sv (ToL.cons PV.to_none ToL.nil) (BorL.cons (PV.bor_sl _) BorL.nil)))) nofree ?_
  refine RunS.step (by exact And.intro rfl True.intro) (by exact True.intro) (LocG.of rfl (loc_len (by decide) sl_23 (by first | exact List.length_map _ | exact rfl))) nofree ?_
  refine RunS.step (by exact And.intro rfl (And.intro rfl True.intro)) (by exact True.intro) (LocG.of rfl (loc_make (by decide) sl_23 z_3 rfl zo_3 (by exact True.intro) (by exact True.intro) (by exact rfl) (by exact rfl) (by omega) (by omega))) (free1 (Free.app (Free.app (Free.of_ rfl) rfl) rfl)) ?_
  refine RunS.step (by exact And.intro rfl True.intro) (by exact True.intro) (LocG.of rfl (loc_copy (.inr rfl) (by decide) (by exact Cp.hdr))) nofree ?_
  refine sw_seq ?_
  refine sw_seq ?_
  refine sw_of (l := [(0, RV.sv false [PV.sl _ _]), (2, RV.sv false [PV.sl _ _]), (3, RV.hdr 7 _)]) (b := [(7, (3, _))]) (by exact And.intro rfl (And.intro rfl (And.intro rfl True.intro))) (by exact And.intro rfl True.intro) ?_
  refine sw_reg ?_
  refine RunS.step (by exact True.intro) (by exact True.intro) (LocG.of rfl (loc_const (.inr rfl) (by decide) (ok_sc rfl))) nofree ?_
  refine sw_block ?_
  refine sw_of (l := [(0, RV.sv false [PV.sl _ _]), (2, RV.sv false [PV.sl _ _]), (3, RV.hdr 7 _), (4, RV.sv false [PV.val _])]) (b := [(7, (3, _))]) (by exact And.intro rfl (And.intro rfl (And.intro rfl (And.intro rfl True.intro)))) (by exact And.intro rfl True.intro) ?_
  refine sw_loop (l0 := [(0, RV.sv false [PV.sl _ _]), (2, RV.sv false [PV.sl _ _]), (3, RV.hdr 7 _)]) (b0 := []) (fun k : Nat => k ≤ x.length) (fun k : Nat => [(4, RV.int (k : Int))]) (fun k : Nat => [(7, (3, (filled x cInt [PV.val (.int .i64 0)] k).flatten))]) (fun k : Nat => x.length - k) 0 (by omega) (by exact And.intro rfl (And.intro rfl (And.intro rfl True.intro))) (by exact True.intro) (by exact And.intro (by exact rfl) (True.intro)) (by exact And.intro (by rw [filled_zero]; exact rfl) (True.intro)) ?_
  rintro k hk
  refine sw_seq ?_
  refine sw_seq ?_
  refine sw_reg ?_
  refine RunS.step (by exact And.intro rfl True.intro) (by exact True.intro) (LocG.of rfl (loc_copy (.inl rfl) (by decide) (by exact Cp.sc))) nofree ?_
  refine RunS.step (by exact And.intro rfl True.intro) (by exact True.intro) (LocG.of rfl (loc_copy (r' := RV.sv false [PV.sl .v _]) (.inl rfl) (by decide) (by exact Cp.sv (ToL.cons PV.to_none ToL.nil) (BorL.cons (PV.bor_sl _) BorL.nil)))) nofree ?_
  refine RunS.step (by exact And.intro rfl True.intro) (by exact True.intro) (LocG.of rfl (loc_len (by decide) sl_23 (by first | exact List.length_map _ | exact rfl))) nofree ?_
  refine RunS.step (by exact And.intro rfl (And.intro rfl True.intro)) (by exact True.intro) (LocG.of rfl (loc_lss (by decide) (by exact True.intro) (by exact True.intro))) nofree ?_
  refine sw_cond (t := 11) rfl (fun hb1 => ?_) (fun hb1 => ?_)
  · try simp only [decide_eq_true_eq, decide_eq_false_iff_not, bne_iff_ne, beq_iff_eq, Bool.not_eq_true', Bool.not_eq_false', ne_eq, bne_eq_false_iff_eq, beq_eq_false_iff_ne] at hb1
    have hlt : k < x.length := by omega
    have hwm := wt_mem (f := wtInt) hlt
    refine sw_skip ?_
    refine sw_seq ?_
    refine sw_block ?_
    refine sw_of (l := [(0, RV.sv false [PV.sl _ _]), (2, RV.sv false [PV.sl _ _]), (3, RV.hdr 7 _), (4, RV.sv false [PV.val _])]) (b := [(7, (3, _))]) (by exact And.intro rfl (And.intro rfl (And.intro rfl (And.intro rfl True.intro)))) (by exact And.intro rfl True.intro) ?_
    refine sw_reg ?_
    refine RunS.step (by exact And.intro rfl True.intro) (by exact True.intro) (LocG.of rfl (loc_copy (.inl rfl) (by decide) (by exact Cp.hdr))) nofree ?_
    refine RunS.step (by exact And.intro rfl True.intro) (by exact True.intro) (LocG.of rfl (loc_copy (.inl rfl) (by decide) (by exact Cp.sc))) nofree ?_
    refine RunS.step (by exact And.intro rfl True.intro) (by exact True.intro) (LocG.of rfl (loc_copy (r' := RV.sv false [PV.sl .v _]) (.inl rfl) (by decide) (by exact Cp.sv (ToL.cons PV.to_none ToL.nil) (BorL.cons (PV.bor_sl _) BorL.nil)))) nofree ?_
    refine RunS.step (by exact And.intro rfl True.intro) (by exact True.intro) (LocG.of rfl (loc_copy (.inl rfl) (by decide) (by exact Cp.sc))) nofree ?_
    refine RunS.step (by exact And.intro rfl (And.intro rfl True.intro)) (by exact True.intro) (LocG.of rfl (loc_index (by decide) sl_23 (by exact True.intro) (by exact rfl) (by exact getm2 (by omega) rfl) (by exact rfl))) nofree ?_
    refine RunS.step (by exact And.intro rfl True.intro) (by exact True.intro) (LocG.of rfl (loc_eload (qs := [PV.val _]) (by decide) ty_3 (fun _ => rfl) (by exact Nat.le_of_ble_eq_true rfl) (by exact (ToL.cons (PV.To.refl _) ToL.nil)) (by exact (BorL.cons (PV.bor_val _) BorL.nil)))) nofree ?_
    refine RunS.step (by exact And.intro rfl (And.intro rfl True.intro)) (by exact True.intro) (LocG.of rfl (loc_hindex (by decide) sl_23 (by exact True.intro) (by exact rfl) (by omega))) nofree ?_
    refine RunS.step (by exact And.intro rfl (And.intro rfl True.intro)) (by exact And.intro rfl True.intro) (LocG.of rfl (loc_store (ag := false) (vs := [PV.val _]) ty_3 (by exact True.intro) (by exact rfl) (by exact fill_room (fun _ => rfl) rfl hlt))) nofree ?_
    refine sw_of (l := [(0, RV.sv false [PV.sl _ _]), (2, RV.sv false [PV.sl _ _]), (3, RV.hdr 7 _), (4, RV.sv false [PV.val _])]) (b := [(7, (3, _))]) (by exact And.intro rfl (And.intro rfl (And.intro rfl (And.intro rfl True.intro)))) (by exact And.intro rfl True.intro) ?_
    refine sw_reg ?_
    refine RunS.step (by exact And.intro rfl True.intro) (by exact True.intro) (LocG.of rfl (loc_copy (.inl rfl) (by decide) (by exact Cp.sc))) nofree ?_
    refine RunS.step (by exact And.intro rfl True.intro) (by exact True.intro) (LocG.of rfl (loc_add (by decide) (by exact True.intro) (ok_sc rfl) (by unfold I64; omega))) nofree ?_
    refine RunS.step (by exact And.intro rfl True.intro) (by exact True.intro) (LocG.of rfl (loc_copy (.inr rfl) (by decide) (by exact Cp.sc))) nofree ?_
    refine Exists.intro (k + 1) (And.intro (by omega) (And.intro (by omega) (And.intro (And.intro (by exact And.intro rfl (And.intro rfl (And.intro rfl True.intro))) (by exact True.intro)) (And.intro (by exact And.intro (by exact rfl) (True.intro)) (by exact And.intro (by exact congrArg (fun z => some (3, z)) (fill_next (e := 1) (fun _ => rfl) rfl hlt)) (True.intro))))))
  · try simp only [decide_eq_true_eq, decide_eq_false_iff_not, bne_iff_ne, beq_iff_eq, Bool.not_eq_true', Bool.not_eq_false', ne_eq, bne_eq_false_iff_eq, beq_eq_false_iff_ne] at hb1
    have hlt : k = x.length := by omega
    refine sw_exit ?_
    refine sw_seq ?_
    refine sw_of (l := [(0, RV.sv false [PV.sl _ _]), (2, RV.sv false [PV.sl _ _]), (3, RV.hdr 7 _), (4, RV.sv false [PV.val _])]) (b := [(7, (3, _))]) (by exact And.intro rfl (And.intro rfl (And.intro rfl (And.intro rfl True.intro)))) (by exact And.intro rfl True.intro) ?_
    refine sw_reg ?_
    refine RunS.step (by exact And.intro rfl True.intro) (by exact And.intro rfl True.intro) (LocG.of rfl (loc_freeze (es := (x.map cInt)) (e := 1) (.inl rfl) (by decide) (by rw [hlt, filled_all]) (by exact List.length_map _) (by intro c hc; obtain ⟨y, _, rfl⟩ := List.mem_map.1 hc; rfl))) nofree ?_
    refine RunS.step (by exact And.intro rfl True.intro) (by exact True.intro) (LocG.of rfl (loc_take (.inr rfl) (by decide))) nofree ?_
    refine sw_ret ?_
    exact (And.intro (by exact rfl) True.intro)
theorem to_Cond {x : Cond}  (hb : wtCond x ≤ 1048576) : SCall Try.prog 180 [(true, [PV.val (vI x.Field), PV.val (vI x.Low), PV.val (vI x.High)])] (resRV [(true, [PV.val (vI x.Field), PV.val (vI x.Low), PV.val (vI x.High)])]) := by
  refine scall_of (rs := [(true, [PV.val (vI x.Field), PV.val (vI x.Low), PV.val (vI x.High)])]) Try.func180 rfl (Nat.le_of_ble_eq_true rfl) (borA_cons (BorL.cons (PV.bor_val _) (BorL.cons (PV.bor_val _) (BorL.cons (PV.bor_val _) BorL.nil))) borA_nil) ?_
  intro h0 w0 Fz0
  have hbu := hb
  simp only [wtCond] at hbu
  refine sw_seq ?_
  refine sw_reg ?_
  refine RunS.step (by exact And.intro rfl True.intro) (by exact True.intro) (LocG.of rfl (loc_box (ag := true) (cs := [PV.val _, PV.val _, PV.val _]) (by decide) (by exact True.intro))) (free1 (Free.of_ rfl)) ?_
  refine RunS.step (by exact True.intro) (by exact True.intro) (LocG.of rfl (loc_alloc (by decide) z_181 zo_181)) (free1 (Free.app (Free.of_ rfl) rfl)) ?_
  refine sw_seq ?_
  refine sw_of (l := [(1, RV.ptr 1 0), (2, RV.ptr 2 0)]) (b := [(1, (192, [PV.val _, PV.val _, PV.val _])), (2, (181, [PV.val _, PV.val _, PV.val _]))]) (by exact And.intro rfl (And.intro rfl True.intro)) (by exact And.intro rfl (And.intro rfl True.intro)) ?_
  refine sw_reg ?_
  refine RunS.step (by exact True.intro) (by exact True.intro) (LocG.of rfl (loc_alloc (by decide) z_181 zo_181)) (free1 (Free.of_ rfl)) ?_
  refine sw_seq ?_
  refine sw_of (l := [(1, RV.ptr 1 0), (2, RV.ptr 2 0), (3, RV.ptr 3 0)]) (b := [(1, (192, [PV.val _, PV.val _, PV.val _])), (2, (181, [PV.val _, PV.val _, PV.val _])), (3, (181, [PV.val _, PV.val _, PV.val _]))]) (by exact And.intro rfl (And.intro rfl (And.intro rfl True.intro))) (by exact And.intro rfl (And.intro rfl (And.intro rfl True.intro))) ?_
  refine sw_reg ?_
  refine RunS.step (by exact And.intro rfl True.intro) (by exact True.intro) (LocG.of rfl (loc_field (by decide) fd_192_0)) nofree ?_
  refine RunS.step (by exact And.intro rfl True.intro) (by exact And.intro rfl True.intro) (LocG.of rfl (loc_load (qs := [PV.val _]) (by decide) ty_3 (fun _ => rfl) (by exact Nat.le_of_ble_eq_true rfl) (by exact (ToL.cons (PV.To.refl _) ToL.nil)) (by exact (BorL.cons (PV.bor_val _) BorL.nil)))) nofree ?_
  refine RunS.step (by exact And.intro rfl True.intro) (by exact True.intro) (LocG.of rfl (loc_field (by decide) fd_181_0)) nofree ?_
  refine RunS.step (by exact And.intro rfl (And.intro rfl True.intro)) (by exact And.intro rfl True.intro) (LocG.of rfl (loc_store (ag := false) (vs := [PV.val _]) ty_3 (by exact True.intro) (by exact rfl) (by exact Nat.le_of_ble_eq_true rfl))) nofree ?_
  refine sw_seq ?_
  refine sw_of (l := [(1, RV.ptr 1 0), (2, RV.ptr 2 0), (3, RV.ptr 3 0)]) (b := [(1, (192, [PV.val _, PV.val _, PV.val _])), (2, (181, [PV.val _, PV.val _, PV.val _])), (3, (181, [PV.val _, PV.val _, PV.val _]))]) (by exact And.intro rfl (And.intro rfl (And.intro rfl True.intro))) (by exact And.intro rfl (And.intro rfl (And.intro rfl True.intro))) ?_
  refine sw_reg ?_
  refine RunS.step (by exact And.intro rfl True.intro) (by exact True.intro) (LocG.of rfl (loc_field (by decide) fd_192_1)) nofree ?_
  refine RunS.step (by exact And.intro rfl True.intro) (by exact And.intro rfl True.intro) (LocG.of rfl (loc_load (qs := [PV.val _]) (by decide) ty_3 (fun _ => rfl) (by exact Nat.le_of_ble_eq_true rfl) (by exact (ToL.cons (PV.To.refl _) ToL.nil)) (by exact (BorL.cons (PV.bor_val _) BorL.nil)))) nofree ?_
  refine RunS.step (by exact And.intro rfl True.intro) (by exact True.intro) (LocG.of rfl (loc_field (by decide) fd_181_1)) nofree ?_
  refine RunS.step (by exact And.intro rfl (And.intro rfl True.intro)) (by exact And.intro rfl True.intro) (LocG.of rfl (loc_store (ag := false) (vs := [PV.val _]) ty_3 (by exact True.intro) (by exact rfl) (by exact Nat.le_of_ble_eq_true rfl))) nofree ?_
  refine sw_seq ?_
  refine sw_of (l := [(1, RV.ptr 1 0), (2, RV.ptr 2 0), (3, RV.ptr 3 0)]) (b := [(1, (192, [PV.val _, PV.val _, PV.val _])), (2, (181, [PV.val _, PV.val _, PV.val _])), (3, (181, [PV.val _, PV.val _, PV.val _]))]) (by exact And.intro rfl (And.intro rfl (And.intro rfl True.intro))) (by exact And.intro rfl (And.intro rfl (And.intro rfl True.intro))) ?_
  refine sw_reg ?_
  refine RunS.step (by exact And.intro rfl True.intro) (by exact True.intro) (LocG.of rfl (loc_field (by decide) fd_192_2)) nofree ?_
  refine RunS.step (by exact And.intro rfl True.intro) (by exact And.intro rfl True.intro) (LocG.of rfl (loc_load (qs := [PV.val _]) (by decide) ty_3 (fun _ => rfl) (by exact Nat.le_of_ble_eq_true rfl) (by exact (ToL.cons (PV.To.refl _) ToL.nil)) (by exact (BorL.cons (PV.bor_val _) BorL.nil)))) nofree ?_
  refine RunS.step (by exact And.intro rfl True.intro) (by exact True.intro) (LocG.of rfl (loc_field (by decide) fd_181_2)) nofree ?_
  refine RunS.step (by exact And.intro rfl (And.intro rfl True.intro)) (by exact And.intro rfl True.intro) (LocG.of rfl (loc_store (ag := false) (vs := [PV.val _]) ty_3 (by exact True.intro) (by exact rfl) (by exact Nat.le_of_ble_eq_true rfl))) nofree ?_
  refine sw_seq ?_
  refine sw_of (l := [(1, RV.ptr 1 0), (2, RV.ptr 2 0), (3, RV.ptr 3 0)]) (b := [(1, (192, [PV.val _, PV.val _, PV.val _])), (2, (181, [PV.val _, PV.val _, PV.val _])), (3, (181, [PV.val _, PV.val _, PV.val _]))]) (by exact And.intro rfl (And.intro rfl (And.intro rfl True.intro))) (by exact And.intro rfl (And.intro rfl (And.intro rfl True.intro))) ?_
  refine sw_reg ?_
  refine RunS.step (by exact And.intro rfl True.intro) (by exact And.intro rfl True.intro) (LocG.of rfl (loc_load (qs := [PV.val _, PV.val _, PV.val _]) (by decide) ty_181 (fun h => nomatch h) (by exact Nat.le_of_ble_eq_true rfl) (by exact (ToL.cons (PV.To.refl _) (ToL.cons (PV.To.refl _) (ToL.cons (PV.To.refl _) ToL.nil)))) (by exact (BorL.cons (PV.bor_val _) (BorL.cons (PV.bor_val _) (BorL.cons (PV.bor_val _) BorL.nil)))))) nofree ?_
  refine RunS.step (by exact And.intro rfl (And.intro rfl True.intro)) (by exact And.intro rfl True.intro) (LocG.of rfl (loc_store (ag := true) (vs := [PV.val _, PV.val _, PV.val _]) ty_181 (by exact True.intro) (by exact rfl) (by exact Nat.le_of_ble_eq_true rfl))) nofree ?_
  refine sw_ret ?_
  exact (Exists.intro 2 (Exists.intro _ (And.intro (by exact rfl) (And.intro (by exact rfl) (And.intro ty_181 (And.intro (fun h => nomatch h) True.intro))))))
theorem to_Row {x : Row}  (hb : wtRow x ≤ 1048576) : SCall Try.prog 80 [(true, [PV.val (vI x.Id), PV.sl .v (x.Values.map cInt)])] (resRV [(true, [PV.val (vI x.Id), PV.sl (.own 3 1) (x.Values.map cInt)])]) := by
  refine scall_of (rs := [(true, [PV.val (vI x.Id), PV.sl (.own 3 1) (x.Values.map cInt)])]) Try.func80 rfl (Nat.le_of_ble_eq_true rfl) (borA_cons (BorL.cons (PV.bor_val _) (BorL.cons (PV.bor_sl _) BorL.nil)) borA_nil) ?_
  intro h0 w0 Fz0
  refine sw_slen (s := 0) (j := 1) rfl rfl fun hl0_1 => ?_
  try rw [List.length_map] at hl0_1
  have hbu := hb
  simp only [wtRow] at hbu
  refine sw_seq ?_
  refine sw_reg ?_
  refine RunS.step (by exact And.intro rfl True.intro) (by exact True.intro) (LocG.of rfl (loc_box (ag := true) (cs := [PV.val _, PV.sl _ _]) (by decide) (by exact True.intro))) (free1 (Free.of_ rfl)) ?_
  refine RunS.step (by exact True.intro) (by exact True.intro) (LocG.of rfl (loc_alloc (by decide) z_57 zo_57)) (free1 (Free.app (Free.of_ rfl) rfl)) ?_
  refine sw_seq ?_
  refine sw_of (l := [(1, RV.ptr 1 0), (2, RV.ptr 2 0)]) (b := [(1, (47, [PV.val _, PV.sl _ _])), (2, (57, [PV.val _, PV.sl _ _]))]) (by exact And.intro rfl (And.intro rfl True.intro)) (by exact And.intro rfl (And.intro rfl True.intro)) ?_
  refine sw_reg ?_
  refine RunS.step (by exact True.intro) (by exact True.intro) (LocG.of rfl (loc_alloc (by decide) z_57 zo_57)) (free1 (Free.of_ rfl)) ?_
  refine sw_seq ?_
  refine sw_of (l := [(1, RV.ptr 1 0), (2, RV.ptr 2 0), (3, RV.ptr 3 0)]) (b := [(1, (47, [PV.val _, PV.sl _ _])), (2, (57, [PV.val _, PV.sl _ _])), (3, (57, [PV.val _, PV.sl _ _]))]) (by exact And.intro rfl (And.intro rfl (And.intro rfl True.intro))) (by exact And.intro rfl (And.intro rfl (And.intro rfl True.intro))) ?_
  refine sw_reg ?_
  refine RunS.step (by exact And.intro rfl True.intro) (by exact True.intro) (LocG.of rfl (loc_field (by decide) fd_47_0)) nofree ?_
  refine RunS.step (by exact And.intro rfl True.intro) (by exact And.intro rfl True.intro) (LocG.of rfl (loc_load (qs := [PV.val _]) (by decide) ty_3 (fun _ => rfl) (by exact Nat.le_of_ble_eq_true rfl) (by exact (ToL.cons (PV.To.refl _) ToL.nil)) (by exact (BorL.cons (PV.bor_val _) BorL.nil)))) nofree ?_
  refine RunS.step (by exact And.intro rfl True.intro) (by exact True.intro) (LocG.of rfl (loc_field (by decide) fd_57_0)) nofree ?_
  refine RunS.step (by exact And.intro rfl (And.intro rfl True.intro)) (by exact And.intro rfl True.intro) (LocG.of rfl (loc_store (ag := false) (vs := [PV.val _]) ty_3 (by exact True.intro) (by exact rfl) (by exact Nat.le_of_ble_eq_true rfl))) nofree ?_
  refine sw_seq ?_
  refine sw_of (l := [(1, RV.ptr 1 0), (2, RV.ptr 2 0), (3, RV.ptr 3 0)]) (b := [(1, (47, [PV.val _, PV.sl _ _])), (2, (57, [PV.val _, PV.sl _ _])), (3, (57, [PV.val _, PV.sl _ _]))]) (by exact And.intro rfl (And.intro rfl (And.intro rfl True.intro))) (by exact And.intro rfl (And.intro rfl (And.intro rfl True.intro))) ?_
  refine sw_reg ?_
  refine RunS.step (by exact And.intro rfl True.intro) (by exact True.intro) (LocG.of rfl (loc_field (by decide) fd_47_1)) nofree ?_
  refine RunS.step (by exact And.intro rfl True.intro) (by exact And.intro rfl True.intro) (LocG.of rfl (loc_load (qs := [PV.sl .v _]) (by decide) ty_23 (fun _ => rfl) (by exact Nat.le_of_ble_eq_true rfl) (by exact (ToL.cons PV.to_none ToL.nil)) (by exact (BorL.cons (PV.bor_sl _) BorL.nil)))) nofree ?_
  refine RunS.step (by exact And.intro rfl True.intro) (by exact True.intro) (LocG.of rfl (loc_call (qs := [(false, [PV.sl _ _])]) (as_ := [(false, [PV.sl .v _])]) (by decide) c_15 (by exact (And.intro (by exact True.intro) True.intro)) (by exact (And.intro (And.intro rfl (ToL.cons PV.to_none ToL.nil)) True.intro)) (by exact to_IntS (by omega)))) nofree ?_
  refine RunS.step (by exact And.intro rfl True.intro) (by exact True.intro) (LocG.of rfl (loc_field (by decide) fd_57_1)) nofree ?_
  refine RunS.step (by exact And.intro rfl (And.intro rfl True.intro)) (by exact And.intro rfl True.intro) (LocG.of rfl (loc_store (ag := false) (vs := [PV.sl _ _]) ty_23 (by exact True.intro) (by exact rfl) (by exact Nat.le_of_ble_eq_true rfl))) nofree ?_
  refine sw_seq ?_
  refine sw_of (l := [(1, RV.ptr 1 0), (2, RV.ptr 2 0), (3, RV.ptr 3 0)]) (b := [(1, (47, [PV.val _, PV.sl _ _])), (2, (57, [PV.val _, PV.sl _ _])), (3, (57, [PV.val _, PV.sl _ _]))]) (by exact And.intro rfl (And.intro rfl (And.intro rfl True.intro))) (by exact And.intro rfl (And.intro rfl (And.intro rfl True.intro))) ?_
  refine sw_reg ?_
  refine RunS.step (by exact And.intro rfl True.intro) (by exact And.intro rfl True.intro) (LocG.of rfl (loc_ltake (ms := [PV.val _, PV.sl _ _]) (qs := [PV.val _, PV.sl .v _]) (by decide) ty_57 (fun h => nomatch h) (by exact Nat.le_of_ble_eq_true rfl) (by exact rfl) (by exact (ToL.cons (PV.To.refl _) (ToL.cons PV.to_none ToL.nil))) (by exact (BorL.cons (PV.bor_val _) (BorL.cons (PV.bor_sl _) BorL.nil))))) nofree ?_
  refine RunS.step (by exact And.intro rfl (And.intro rfl True.intro)) (by exact And.intro rfl True.intro) (LocG.of rfl (loc_store (ag := true) (vs := [PV.val _, PV.sl _ _]) ty_57 (by exact True.intro) (by exact rfl) (by exact Nat.le_of_ble_eq_true rfl))) nofree ?_
  refine sw_ret ?_
  exact (Exists.intro 2 (Exists.intro _ (And.intro (by exact rfl) (And.intro (by exact rfl) (And.intro ty_57 (And.intro (fun h => nomatch h) True.intro))))))
theorem to_CondS {x : List Cond}  (hb : wtCondS x ≤ 1048576) : SCall Try.prog 135 [(false, [PV.sl .v (x.map cCond)])] (resRV [(false, [PV.sl (.own 181 3) (x.map cCond)])]) := by
  refine scall_of (rs := [(false, [PV.sl (.own 181 3) (x.map cCond)])]) Try.func135 rfl (Nat.le_of_ble_eq_true rfl) (borA_cons (BorL.cons (PV.bor_sl _) BorL.nil) borA_nil) ?_
  intro h0 w0 Fz0
  refine sw_len (s := 0) rfl fun hl0 => ?_
  try rw [List.length_map] at hl0
  have hbu := hb
  simp only [wtCondS] at hbu
  refine sw_seq ?_
  refine sw_reg ?_
  refine RunS.step (by exact True.intro) (by exact True.intro) (LocG.of rfl (loc_const (.inr rfl) (by decide) (ok_nil (t := 181) (e := 3)))) nofree ?_
  refine sw_seq ?_
  refine sw_of (l := [(0, RV.sv false [PV.sl _ _]), (2, RV.sv false [PV.sl _ _])]) (b := []) (by exact And.intro rfl (And.intro rfl True.intro)) (by exact True.intro) ?_
  refine sw_reg ?_
  refine RunS.step (by exact And.intro rfl True.intro) (by exact True.intro) (LocG.of rfl (loc_copy (r' := RV.sv false [PV.sl .v _]) (.inl rfl) (by decide) (by exact Cp.sv (ToL.cons PV.to_none ToL.nil) (BorL.cons (PV.bor_sl _) BorL.nil)))) nofree ?_
  refine RunS.step (by exact And.intro rfl True.intro) (by exact True.intro) (LocG.of rfl (loc_len (by decide) sl_43 (by first | exact List.length_map _ | exact rfl))) nofree ?_
  refine RunS.step (by exact And.intro rfl (And.intro rfl True.intro)) (by exact True.intro) (LocG.of rfl (loc_make (by decide) sl_54 z_181 rfl zo_181 (by exact True.intro) (by exact True.intro) (by exact rfl) (by exact rfl) (by omega) (by omega))) (free1 (Free.app (Free.app (Free.of_ rfl) rfl) rfl)) ?_
  refine RunS.step (by exact And.intro rfl True.intro) (by exact True.intro) (LocG.of rfl (loc_copy (.inr rfl) (by decide) (by exact Cp.hdr))) nofree ?_
  refine sw_seq ?_
  refine sw_seq ?_
  refine sw_of (l := [(0, RV.sv false [PV.sl _ _]), (2, RV.sv false [PV.sl _ _]), (3, RV.hdr 7 _)]) (b := [(7, (181, _))]) (by exact And.intro rfl (And.intro rfl (And.intro rfl True.intro))) (by exact And.intro rfl True.intro) ?_
  refine sw_reg ?_
  refine RunS.step (by exact True.intro) (by exact True.intro) (LocG.of rfl (loc_const (.inr rfl) (by decide) (ok_sc rfl))) nofree ?_
  refine sw_block ?_
  refine sw_of (l := [(0, RV.sv false [PV.sl _ _]), (2, RV.sv false [PV.sl _ _]), (3, RV.hdr 7 _), (4, RV.sv false [PV.val _])]) (b := [(7, (181, _))]) (by exact And.intro rfl (And.intro rfl (And.intro rfl (And.intro rfl True.intro)))) (by exact And.intro rfl True.intro) ?_
  refine sw_loop (l0 := [(0, RV.sv false [PV.sl _ _]), (2, RV.sv false [PV.sl _ _]), (3, RV.hdr 7 _)]) (b0 := []) (fun k : Nat => k ≤ x.length) (fun k : Nat => [(4, RV.int (k : Int))]) (fun k : Nat => [(7, (181, (filled x cCond [PV.val (.int .i64 0), PV.val (.int .i64 0), PV.val (.int .i64 0)] k).flatten))]) (fun k : Nat => x.length - k) 0 (by omega) (by exact And.intro rfl (And.intro rfl (And.intro rfl True.intro))) (by exact True.intro) (by exact And.intro (by exact rfl) (True.intro)) (by exact And.intro (by rw [filled_zero]; exact rfl) (True.intro)) ?_
  rintro k hk
  refine sw_seq ?_
  refine sw_seq ?_
  refine sw_reg ?_
  refine RunS.step (by exact And.intro rfl True.intro) (by exact True.intro) (LocG.of rfl (loc_copy (.inl rfl) (by decide) (by exact Cp.sc))) nofree ?_
  refine RunS.step (by exact And.intro rfl True.intro) (by exact True.intro) (LocG.of rfl (loc_copy (r' := RV.sv false [PV.sl .v _]) (.inl rfl) (by decide) (by exact Cp.sv (ToL.cons PV.to_none ToL.nil) (BorL.cons (PV.bor_sl _) BorL.nil)))) nofree ?_
  refine RunS.step (by exact And.intro rfl True.intro) (by exact True.intro) (LocG.of rfl (loc_len (by decide) sl_43 (by first | exact List.length_map _ | exact rfl))) nofree ?_
  refine RunS.step (by exact And.intro rfl (And.intro rfl True.intro)) (by exact True.intro) (LocG.of rfl (loc_lss (by decide) (by exact True.intro) (by exact True.intro))) nofree ?_
  refine sw_cond (t := 11) rfl (fun hb1 => ?_) (fun hb1 => ?_)
  · try simp only [decide_eq_true_eq, decide_eq_false_iff_not, bne_iff_ne, beq_iff_eq, Bool.not_eq_true', Bool.not_eq_false', ne_eq, bne_eq_false_iff_eq, beq_eq_false_iff_ne] at hb1
    have hlt : k < x.length := by omega
    have hwm := wt_mem (f := wtCond) hlt
    refine sw_skip ?_
    refine sw_seq ?_
    refine sw_block ?_
    refine sw_of (l := [(0, RV.sv false [PV.sl _ _]), (2, RV.sv false [PV.sl _ _]), (3, RV.hdr 7 _), (4, RV.sv false [PV.val _])]) (b := [(7, (181, _))]) (by exact And.intro rfl (And.intro rfl (And.intro rfl (And.intro rfl True.intro)))) (by exact And.intro rfl True.intro) ?_
    refine sw_reg ?_
    refine RunS.step (by exact And.intro rfl True.intro) (by exact True.intro) (LocG.of rfl (loc_copy (.inl rfl) (by decide) (by exact Cp.hdr))) nofree ?_
    refine RunS.step (by exact And.intro rfl True.intro) (by exact True.intro) (LocG.of rfl (loc_copy (.inl rfl) (by decide) (by exact Cp.sc))) nofree ?_
    refine RunS.step (by exact And.intro rfl True.intro) (by exact True.intro) (LocG.of rfl (loc_copy (r' := RV.sv false [PV.sl .v _]) (.inl rfl) (by decide) (by exact Cp.sv (ToL.cons PV.to_none ToL.nil) (BorL.cons (PV.bor_sl _) BorL.nil)))) nofree ?_
    refine RunS.step (by exact And.intro rfl True.intro) (by exact True.intro) (LocG.of rfl (loc_copy (.inl rfl) (by decide) (by exact Cp.sc))) nofree ?_
    refine RunS.step (by exact And.intro rfl (And.intro rfl True.intro)) (by exact True.intro) (LocG.of rfl (loc_index (by decide) sl_43 (by exact True.intro) (by exact rfl) (by exact getm2 (by omega) rfl) (by exact rfl))) nofree ?_
    refine RunS.step (by exact And.intro rfl True.intro) (by exact True.intro) (LocG.of rfl (loc_eload (qs := [PV.val _, PV.val _, PV.val _]) (by decide) ty_192 (fun h => nomatch h) (by exact Nat.le_of_ble_eq_true rfl) (by exact (ToL.cons (PV.To.refl _) (ToL.cons (PV.To.refl _) (ToL.cons (PV.To.refl _) ToL.nil)))) (by exact (BorL.cons (PV.bor_val _) (BorL.cons (PV.bor_val _) (BorL.cons (PV.bor_val _) BorL.nil)))))) nofree ?_
    refine RunS.step (by exact And.intro rfl True.intro) (by exact True.intro) (LocG.of rfl (loc_call (qs := [(true, [PV.val _, PV.val _, PV.val _])]) (as_ := [(true, [PV.val _, PV.val _, PV.val _])]) (by decide) c_180 (by exact (And.intro (by exact True.intro) True.intro)) (by exact (And.intro (And.intro rfl (ToL.cons (PV.To.refl _) (ToL.cons (PV.To.refl _) (ToL.cons (PV.To.refl _) ToL.nil)))) True.intro)) (by exact to_Cond (by omega)))) nofree ?_
    refine RunS.step (by exact And.intro rfl (And.intro rfl True.intro)) (by exact True.intro) (LocG.of rfl (loc_hindex (by decide) sl_54 (by exact True.intro) (by exact rfl) (by omega))) nofree ?_
    refine RunS.step (by exact And.intro rfl (And.intro rfl True.intro)) (by exact And.intro rfl True.intro) (LocG.of rfl (loc_store (ag := true) (vs := [PV.val _, PV.val _, PV.val _]) ty_181 (by exact True.intro) (by exact rfl) (by exact fill_room (fun _ => rfl) rfl hlt))) nofree ?_
    refine sw_of (l := [(0, RV.sv false [PV.sl _ _]), (2, RV.sv false [PV.sl _ _]), (3, RV.hdr 7 _), (4, RV.sv false [PV.val _])]) (b := [(7, (181, _))]) (by exact And.intro rfl (And.intro rfl (And.intro rfl (And.intro rfl True.intro)))) (by exact And.intro rfl True.intro) ?_
    refine sw_reg ?_
    refine RunS.step (by exact And.intro rfl True.intro) (by exact True.intro) (LocG.of rfl (loc_copy (.inl rfl) (by decide) (by exact Cp.sc))) nofree ?_
    refine RunS.step (by exact And.intro rfl True.intro) (by exact True.intro) (LocG.of rfl (loc_add (by decide) (by exact True.intro) (ok_sc rfl) (by unfold I64; omega))) nofree ?_
    refine RunS.step (by exact And.intro rfl True.intro) (by exact True.intro) (LocG.of rfl (loc_copy (.inr rfl) (by decide) (by exact Cp.sc))) nofree ?_
    refine Exists.intro (k + 1) (And.intro (by omega) (And.intro (by omega) (And.intro (And.intro (by exact And.intro rfl (And.intro rfl (And.intro rfl True.intro))) (by exact True.intro)) (And.intro (by exact And.intro (by exact rfl) (True.intro)) (by exact And.intro (by exact congrArg (fun z => some (181, z)) (fill_next (e := 3) (fun _ => rfl) rfl hlt)) (True.intro))))))
  · try simp only [decide_eq_true_eq, decide_eq_false_iff_not, bne_iff_ne, beq_iff_eq, Bool.not_eq_true', Bool.not_eq_false', ne_eq, bne_eq_false_iff_eq, beq_eq_false_iff_ne] at hb1
    have hlt : k = x.length := by omega
    refine sw_exit ?_
    refine sw_seq ?_
    refine sw_of (l := [(0, RV.sv false [PV.sl _ _]), (2, RV.sv false [PV.sl _ _]), (3, RV.hdr 7 _), (4, RV.sv false [PV.val _])]) (b := [(7, (181, _))]) (by exact And.intro rfl (And.intro rfl (And.intro rfl (And.intro rfl True.intro)))) (by exact And.intro rfl True.intro) ?_
    refine sw_reg ?_
    refine RunS.step (by exact And.intro rfl True.intro) (by exact And.intro rfl True.intro) (LocG.of rfl (loc_freeze (es := (x.map cCond)) (e := 3) (.inl rfl) (by decide) (by rw [hlt, filled_all]) (by exact List.length_map _) (by intro c hc; obtain ⟨y, _, rfl⟩ := List.mem_map.1 hc; rfl))) nofree ?_
    refine RunS.step (by exact And.intro rfl True.intro) (by exact True.intro) (LocG.of rfl (loc_take (.inr rfl) (by decide))) nofree ?_
    refine sw_ret ?_
    exact (And.intro (by exact rfl) True.intro)
theorem to_Query {x : Query}  (hb : wtQuery x ≤ 1048576) : SCall Try.prog 66 [(true, [PV.val (vI x.Id), PV.val (vI x.Tenant), PV.sl .v (x.Conds.map cCond), PV.sl .v (x.Out.map cInt)])] (resRV [(true, [PV.val (vI x.Id), PV.val (vI x.Tenant), PV.sl (.own 181 3) (x.Conds.map cCond), PV.sl (.own 3 1) (x.Out.map cInt)])]) := by
  refine scall_of (rs := [(true, [PV.val (vI x.Id), PV.val (vI x.Tenant), PV.sl (.own 181 3) (x.Conds.map cCond), PV.sl (.own 3 1) (x.Out.map cInt)])]) Try.func66 rfl (Nat.le_of_ble_eq_true rfl) (borA_cons (BorL.cons (PV.bor_val _) (BorL.cons (PV.bor_val _) (BorL.cons (PV.bor_sl _) (BorL.cons (PV.bor_sl _) BorL.nil)))) borA_nil) ?_
  intro h0 w0 Fz0
  refine sw_slen (s := 0) (j := 2) rfl rfl fun hl0_2 => ?_
  try rw [List.length_map] at hl0_2
  refine sw_slen (s := 0) (j := 3) rfl rfl fun hl0_3 => ?_
  try rw [List.length_map] at hl0_3
  have hbu := hb
  simp only [wtQuery] at hbu
  refine sw_seq ?_
  refine sw_reg ?_
  refine RunS.step (by exact And.intro rfl True.intro) (by exact True.intro) (LocG.of rfl (loc_box (ag := true) (cs := [PV.val _, PV.val _, PV.sl _ _, PV.sl _ _]) (by decide) (by exact True.intro))) (free1 (Free.of_ rfl)) ?_
  refine RunS.step (by exact True.intro) (by exact True.intro) (LocG.of rfl (loc_alloc (by decide) z_56 zo_56)) (free1 (Free.app (Free.of_ rfl) rfl)) ?_
  refine sw_seq ?_
  refine sw_of (l := [(1, RV.ptr 1 0), (2, RV.ptr 2 0)]) (b := [(1, (45, [PV.val _, PV.val _, PV.sl _ _, PV.sl _ _])), (2, (56, [PV.val _, PV.val _, PV.sl _ _, PV.sl _ _]))]) (by exact And.intro rfl (And.intro rfl True.intro)) (by exact And.intro rfl (And.intro rfl True.intro)) ?_
  refine sw_reg ?_
  refine RunS.step (by exact True.intro) (by exact True.intro) (LocG.of rfl (loc_alloc (by decide) z_56 zo_56)) (free1 (Free.of_ rfl)) ?_
  refine sw_seq ?_
  refine sw_of (l := [(1, RV.ptr 1 0), (2, RV.ptr 2 0), (3, RV.ptr 3 0)]) (b := [(1, (45, [PV.val _, PV.val _, PV.sl _ _, PV.sl _ _])), (2, (56, [PV.val _, PV.val _, PV.sl _ _, PV.sl _ _])), (3, (56, [PV.val _, PV.val _, PV.sl _ _, PV.sl _ _]))]) (by exact And.intro rfl (And.intro rfl (And.intro rfl True.intro))) (by exact And.intro rfl (And.intro rfl (And.intro rfl True.intro))) ?_
  refine sw_reg ?_
  refine RunS.step (by exact And.intro rfl True.intro) (by exact True.intro) (LocG.of rfl (loc_field (by decide) fd_45_0)) nofree ?_
  refine RunS.step (by exact And.intro rfl True.intro) (by exact And.intro rfl True.intro) (LocG.of rfl (loc_load (qs := [PV.val _]) (by decide) ty_3 (fun _ => rfl) (by exact Nat.le_of_ble_eq_true rfl) (by exact (ToL.cons (PV.To.refl _) ToL.nil)) (by exact (BorL.cons (PV.bor_val _) BorL.nil)))) nofree ?_
  refine RunS.step (by exact And.intro rfl True.intro) (by exact True.intro) (LocG.of rfl (loc_field (by decide) fd_56_0)) nofree ?_
  refine RunS.step (by exact And.intro rfl (And.intro rfl True.intro)) (by exact And.intro rfl True.intro) (LocG.of rfl (loc_store (ag := false) (vs := [PV.val _]) ty_3 (by exact True.intro) (by exact rfl) (by exact Nat.le_of_ble_eq_true rfl))) nofree ?_
  refine sw_seq ?_
  refine sw_of (l := [(1, RV.ptr 1 0), (2, RV.ptr 2 0), (3, RV.ptr 3 0)]) (b := [(1, (45, [PV.val _, PV.val _, PV.sl _ _, PV.sl _ _])), (2, (56, [PV.val _, PV.val _, PV.sl _ _, PV.sl _ _])), (3, (56, [PV.val _, PV.val _, PV.sl _ _, PV.sl _ _]))]) (by exact And.intro rfl (And.intro rfl (And.intro rfl True.intro))) (by exact And.intro rfl (And.intro rfl (And.intro rfl True.intro))) ?_
  refine sw_reg ?_
  refine RunS.step (by exact And.intro rfl True.intro) (by exact True.intro) (LocG.of rfl (loc_field (by decide) fd_45_1)) nofree ?_
  refine RunS.step (by exact And.intro rfl True.intro) (by exact And.intro rfl True.intro) (LocG.of rfl (loc_load (qs := [PV.val _]) (by decide) ty_3 (fun _ => rfl) (by exact Nat.le_of_ble_eq_true rfl) (by exact (ToL.cons (PV.To.refl _) ToL.nil)) (by exact (BorL.cons (PV.bor_val _) BorL.nil)))) nofree ?_
  refine RunS.step (by exact And.intro rfl True.intro) (by exact True.intro) (LocG.of rfl (loc_field (by decide) fd_56_1)) nofree ?_
  refine RunS.step (by exact And.intro rfl (And.intro rfl True.intro)) (by exact And.intro rfl True.intro) (LocG.of rfl (loc_store (ag := false) (vs := [PV.val _]) ty_3 (by exact True.intro) (by exact rfl) (by exact Nat.le_of_ble_eq_true rfl))) nofree ?_
  refine sw_seq ?_
  refine sw_of (l := [(1, RV.ptr 1 0), (2, RV.ptr 2 0), (3, RV.ptr 3 0)]) (b := [(1, (45, [PV.val _, PV.val _, PV.sl _ _, PV.sl _ _])), (2, (56, [PV.val _, PV.val _, PV.sl _ _, PV.sl _ _])), (3, (56, [PV.val _, PV.val _, PV.sl _ _, PV.sl _ _]))]) (by exact And.intro rfl (And.intro rfl (And.intro rfl True.intro))) (by exact And.intro rfl (And.intro rfl (And.intro rfl True.intro))) ?_
  refine sw_reg ?_
  refine RunS.step (by exact And.intro rfl True.intro) (by exact True.intro) (LocG.of rfl (loc_field (by decide) fd_45_2)) nofree ?_
  refine RunS.step (by exact And.intro rfl True.intro) (by exact And.intro rfl True.intro) (LocG.of rfl (loc_load (qs := [PV.sl .v _]) (by decide) ty_43 (fun _ => rfl) (by exact Nat.le_of_ble_eq_true rfl) (by exact (ToL.cons PV.to_none ToL.nil)) (by exact (BorL.cons (PV.bor_sl _) BorL.nil)))) nofree ?_
  refine RunS.step (by exact And.intro rfl True.intro) (by exact True.intro) (LocG.of rfl (loc_call (qs := [(false, [PV.sl _ _])]) (as_ := [(false, [PV.sl .v _])]) (by decide) c_135 (by exact (And.intro (by exact True.intro) True.intro)) (by exact (And.intro (And.intro rfl (ToL.cons PV.to_none ToL.nil)) True.intro)) (by exact to_CondS (by omega)))) nofree ?_
  refine RunS.step (by exact And.intro rfl True.intro) (by exact True.intro) (LocG.of rfl (loc_field (by decide) fd_56_2)) nofree ?_
  refine RunS.step (by exact And.intro rfl (And.intro rfl True.intro)) (by exact And.intro rfl True.intro) (LocG.of rfl (loc_store (ag := false) (vs := [PV.sl _ _]) ty_54 (by exact True.intro) (by exact rfl) (by exact Nat.le_of_ble_eq_true rfl))) nofree ?_
  refine sw_seq ?_
  refine sw_of (l := [(1, RV.ptr 1 0), (2, RV.ptr 2 0), (3, RV.ptr 3 0)]) (b := [(1, (45, [PV.val _, PV.val _, PV.sl _ _, PV.sl _ _])), (2, (56, [PV.val _, PV.val _, PV.sl _ _, PV.sl _ _])), (3, (56, [PV.val _, PV.val _, PV.sl _ _, PV.sl _ _]))]) (by exact And.intro rfl (And.intro rfl (And.intro rfl True.intro))) (by exact And.intro rfl (And.intro rfl (And.intro rfl True.intro))) ?_
  refine sw_reg ?_
  refine RunS.step (by exact And.intro rfl True.intro) (by exact True.intro) (LocG.of rfl (loc_field (by decide) fd_45_3)) nofree ?_
  refine RunS.step (by exact And.intro rfl True.intro) (by exact And.intro rfl True.intro) (LocG.of rfl (loc_load (qs := [PV.sl .v _]) (by decide) ty_23 (fun _ => rfl) (by exact Nat.le_of_ble_eq_true rfl) (by exact (ToL.cons PV.to_none ToL.nil)) (by exact (BorL.cons (PV.bor_sl _) BorL.nil)))) nofree ?_
  refine RunS.step (by exact And.intro rfl True.intro) (by exact True.intro) (LocG.of rfl (loc_call (qs := [(false, [PV.sl _ _])]) (as_ := [(false, [PV.sl .v _])]) (by decide) c_15 (by exact (And.intro (by exact True.intro) True.intro)) (by exact (And.intro (And.intro rfl (ToL.cons PV.to_none ToL.nil)) True.intro)) (by exact to_IntS (by omega)))) nofree ?_
  refine RunS.step (by exact And.intro rfl True.intro) (by exact True.intro) (LocG.of rfl (loc_field (by decide) fd_56_3)) nofree ?_
  refine RunS.step (by exact And.intro rfl (And.intro rfl True.intro)) (by exact And.intro rfl True.intro) (LocG.of rfl (loc_store (ag := false) (vs := [PV.sl _ _]) ty_23 (by exact True.intro) (by exact rfl) (by exact Nat.le_of_ble_eq_true rfl))) nofree ?_
  refine sw_seq ?_
  refine sw_of (l := [(1, RV.ptr 1 0), (2, RV.ptr 2 0), (3, RV.ptr 3 0)]) (b := [(1, (45, [PV.val _, PV.val _, PV.sl _ _, PV.sl _ _])), (2, (56, [PV.val _, PV.val _, PV.sl _ _, PV.sl _ _])), (3, (56, [PV.val _, PV.val _, PV.sl _ _, PV.sl _ _]))]) (by exact And.intro rfl (And.intro rfl (And.intro rfl True.intro))) (by exact And.intro rfl (And.intro rfl (And.intro rfl True.intro))) ?_
  refine sw_reg ?_
  refine RunS.step (by exact And.intro rfl True.intro) (by exact And.intro rfl True.intro) (LocG.of rfl (loc_ltake (ms := [PV.val _, PV.val _, PV.sl _ _, PV.sl _ _]) (qs := [PV.val _, PV.val _, PV.sl .v _, PV.sl .v _]) (by decide) ty_56 (fun h => nomatch h) (by exact Nat.le_of_ble_eq_true rfl) (by exact rfl) (by exact (ToL.cons (PV.To.refl _) (ToL.cons (PV.To.refl _) (ToL.cons PV.to_none (ToL.cons PV.to_none ToL.nil))))) (by exact (BorL.cons (PV.bor_val _) (BorL.cons (PV.bor_val _) (BorL.cons (PV.bor_sl _) (BorL.cons (PV.bor_sl _) BorL.nil))))))) nofree ?_
  refine RunS.step (by exact And.intro rfl (And.intro rfl True.intro)) (by exact And.intro rfl True.intro) (LocG.of rfl (loc_store (ag := true) (vs := [PV.val _, PV.val _, PV.sl _ _, PV.sl _ _]) ty_56 (by exact True.intro) (by exact rfl) (by exact Nat.le_of_ble_eq_true rfl))) nofree ?_
  refine sw_ret ?_
  exact (Exists.intro 2 (Exists.intro _ (And.intro (by exact rfl) (And.intro (by exact rfl) (And.intro ty_56 (And.intro (fun h => nomatch h) True.intro))))))
theorem to_Update {x : Update}  (hb : wtUpdate x ≤ 1048576) : SCall Try.prog 90 [(true, [PV.val (vI x.Kind), PV.val (vI x.Row.Id), PV.sl .v (x.Row.Values.map cInt), PV.val (vI x.Field), PV.val (vI x.Value)])] (resRV [(true, [PV.val (vI x.Kind), PV.val (vI x.Row.Id), PV.sl (.own 3 1) (x.Row.Values.map cInt), PV.val (vI x.Field), PV.val (vI x.Value)])]) := by
  refine scall_of (rs := [(true, [PV.val (vI x.Kind), PV.val (vI x.Row.Id), PV.sl (.own 3 1) (x.Row.Values.map cInt), PV.val (vI x.Field), PV.val (vI x.Value)])]) Try.func90 rfl (Nat.le_of_ble_eq_true rfl) (borA_cons (BorL.cons (PV.bor_val _) (BorL.cons (PV.bor_val _) (BorL.cons (PV.bor_sl _) (BorL.cons (PV.bor_val _) (BorL.cons (PV.bor_val _) BorL.nil))))) borA_nil) ?_
  intro h0 w0 Fz0
  refine sw_slen (s := 0) (j := 2) rfl rfl fun hl0_2 => ?_
  try rw [List.length_map] at hl0_2
  have hbu := hb
  simp only [wtUpdate] at hbu
  refine sw_seq ?_
  refine sw_reg ?_
  refine RunS.step (by exact And.intro rfl True.intro) (by exact True.intro) (LocG.of rfl (loc_box (ag := true) (cs := [PV.val _, PV.val _, PV.sl _ _, PV.val _, PV.val _]) (by decide) (by exact True.intro))) (free1 (Free.of_ rfl)) ?_
  refine RunS.step (by exact True.intro) (by exact True.intro) (LocG.of rfl (loc_alloc (by decide) z_59 zo_59)) (free1 (Free.app (Free.of_ rfl) rfl)) ?_
  refine sw_seq ?_
  refine sw_of (l := [(1, RV.ptr 1 0), (2, RV.ptr 2 0)]) (b := [(1, (49, [PV.val _, PV.val _, PV.sl _ _, PV.val _, PV.val _])), (2, (59, [PV.val _, PV.val _, PV.sl _ _, PV.val _, PV.val _]))]) (by exact And.intro rfl (And.intro rfl True.intro)) (by exact And.intro rfl (And.intro rfl True.intro)) ?_
  refine sw_reg ?_
  refine RunS.step (by exact True.intro) (by exact True.intro) (LocG.of rfl (loc_alloc (by decide) z_59 zo_59)) (free1 (Free.of_ rfl)) ?_
  refine sw_seq ?_
  refine sw_of (l := [(1, RV.ptr 1 0), (2, RV.ptr 2 0), (3, RV.ptr 3 0)]) (b := [(1, (49, [PV.val _, PV.val _, PV.sl _ _, PV.val _, PV.val _])), (2, (59, [PV.val _, PV.val _, PV.sl _ _, PV.val _, PV.val _])), (3, (59, [PV.val _, PV.val _, PV.sl _ _, PV.val _, PV.val _]))]) (by exact And.intro rfl (And.intro rfl (And.intro rfl True.intro))) (by exact And.intro rfl (And.intro rfl (And.intro rfl True.intro))) ?_
  refine sw_reg ?_
  refine RunS.step (by exact And.intro rfl True.intro) (by exact True.intro) (LocG.of rfl (loc_field (by decide) fd_49_0)) nofree ?_
  refine RunS.step (by exact And.intro rfl True.intro) (by exact And.intro rfl True.intro) (LocG.of rfl (loc_load (qs := [PV.val _]) (by decide) ty_3 (fun _ => rfl) (by exact Nat.le_of_ble_eq_true rfl) (by exact (ToL.cons (PV.To.refl _) ToL.nil)) (by exact (BorL.cons (PV.bor_val _) BorL.nil)))) nofree ?_
  refine RunS.step (by exact And.intro rfl True.intro) (by exact True.intro) (LocG.of rfl (loc_field (by decide) fd_59_0)) nofree ?_
  refine RunS.step (by exact And.intro rfl (And.intro rfl True.intro)) (by exact And.intro rfl True.intro) (LocG.of rfl (loc_store (ag := false) (vs := [PV.val _]) ty_3 (by exact True.intro) (by exact rfl) (by exact Nat.le_of_ble_eq_true rfl))) nofree ?_
  refine sw_seq ?_
  refine sw_of (l := [(1, RV.ptr 1 0), (2, RV.ptr 2 0), (3, RV.ptr 3 0)]) (b := [(1, (49, [PV.val _, PV.val _, PV.sl _ _, PV.val _, PV.val _])), (2, (59, [PV.val _, PV.val _, PV.sl _ _, PV.val _, PV.val _])), (3, (59, [PV.val _, PV.val _, PV.sl _ _, PV.val _, PV.val _]))]) (by exact And.intro rfl (And.intro rfl (And.intro rfl True.intro))) (by exact And.intro rfl (And.intro rfl (And.intro rfl True.intro))) ?_
  refine sw_reg ?_
  refine RunS.step (by exact And.intro rfl True.intro) (by exact True.intro) (LocG.of rfl (loc_field (by decide) fd_49_1)) nofree ?_
  refine RunS.step (by exact And.intro rfl True.intro) (by exact And.intro rfl True.intro) (LocG.of rfl (loc_load (qs := [PV.val _, PV.sl .v _]) (by decide) ty_47 (fun h => nomatch h) (by exact Nat.le_of_ble_eq_true rfl) (by exact (ToL.cons (PV.To.refl _) (ToL.cons PV.to_none ToL.nil))) (by exact (BorL.cons (PV.bor_val _) (BorL.cons (PV.bor_sl _) BorL.nil))))) nofree ?_
  refine RunS.step (by exact And.intro rfl True.intro) (by exact True.intro) (LocG.of rfl (loc_call (qs := [(true, [PV.val _, PV.sl _ _])]) (as_ := [(true, [PV.val _, PV.sl .v _])]) (by decide) c_80 (by exact (And.intro (by exact True.intro) True.intro)) (by exact (And.intro (And.intro rfl (ToL.cons (PV.To.refl _) (ToL.cons PV.to_none ToL.nil))) True.intro)) (by exact to_Row (by omega)))) nofree ?_
  refine RunS.step (by exact And.intro rfl True.intro) (by exact True.intro) (LocG.of rfl (loc_field (by decide) fd_59_1)) nofree ?_
  refine RunS.step (by exact And.intro rfl (And.intro rfl True.intro)) (by exact And.intro rfl True.intro) (LocG.of rfl (loc_store (ag := true) (vs := [PV.val _, PV.sl _ _]) ty_57 (by exact True.intro) (by exact rfl) (by exact Nat.le_of_ble_eq_true rfl))) nofree ?_
  refine sw_seq ?_
  refine sw_of (l := [(1, RV.ptr 1 0), (2, RV.ptr 2 0), (3, RV.ptr 3 0)]) (b := [(1, (49, [PV.val _, PV.val _, PV.sl _ _, PV.val _, PV.val _])), (2, (59, [PV.val _, PV.val _, PV.sl _ _, PV.val _, PV.val _])), (3, (59, [PV.val _, PV.val _, PV.sl _ _, PV.val _, PV.val _]))]) (by exact And.intro rfl (And.intro rfl (And.intro rfl True.intro))) (by exact And.intro rfl (And.intro rfl (And.intro rfl True.intro))) ?_
  refine sw_reg ?_
  refine RunS.step (by exact And.intro rfl True.intro) (by exact True.intro) (LocG.of rfl (loc_field (by decide) fd_49_2)) nofree ?_
  refine RunS.step (by exact And.intro rfl True.intro) (by exact And.intro rfl True.intro) (LocG.of rfl (loc_load (qs := [PV.val _]) (by decide) ty_3 (fun _ => rfl) (by exact Nat.le_of_ble_eq_true rfl) (by exact (ToL.cons (PV.To.refl _) ToL.nil)) (by exact (BorL.cons (PV.bor_val _) BorL.nil)))) nofree ?_
  refine RunS.step (by exact And.intro rfl True.intro) (by exact True.intro) (LocG.of rfl (loc_field (by decide) fd_59_2)) nofree ?_
  refine RunS.step (by exact And.intro rfl (And.intro rfl True.intro)) (by exact And.intro rfl True.intro) (LocG.of rfl (loc_store (ag := false) (vs := [PV.val _]) ty_3 (by exact True.intro) (by exact rfl) (by exact Nat.le_of_ble_eq_true rfl))) nofree ?_
  refine sw_seq ?_
  refine sw_of (l := [(1, RV.ptr 1 0), (2, RV.ptr 2 0), (3, RV.ptr 3 0)]) (b := [(1, (49, [PV.val _, PV.val _, PV.sl _ _, PV.val _, PV.val _])), (2, (59, [PV.val _, PV.val _, PV.sl _ _, PV.val _, PV.val _])), (3, (59, [PV.val _, PV.val _, PV.sl _ _, PV.val _, PV.val _]))]) (by exact And.intro rfl (And.intro rfl (And.intro rfl True.intro))) (by exact And.intro rfl (And.intro rfl (And.intro rfl True.intro))) ?_
  refine sw_reg ?_
  refine RunS.step (by exact And.intro rfl True.intro) (by exact True.intro) (LocG.of rfl (loc_field (by decide) fd_49_3)) nofree ?_
  refine RunS.step (by exact And.intro rfl True.intro) (by exact And.intro rfl True.intro) (LocG.of rfl (loc_load (qs := [PV.val _]) (by decide) ty_3 (fun _ => rfl) (by exact Nat.le_of_ble_eq_true rfl) (by exact (ToL.cons (PV.To.refl _) ToL.nil)) (by exact (BorL.cons (PV.bor_val _) BorL.nil)))) nofree ?_
  refine RunS.step (by exact And.intro rfl True.intro) (by exact True.intro) (LocG.of rfl (loc_field (by decide) fd_59_3)) nofree ?_
  refine RunS.step (by exact And.intro rfl (And.intro rfl True.intro)) (by exact And.intro rfl True.intro) (LocG.of rfl (loc_store (ag := false) (vs := [PV.val _]) ty_3 (by exact True.intro) (by exact rfl) (by exact Nat.le_of_ble_eq_true rfl))) nofree ?_
  refine sw_seq ?_
  refine sw_of (l := [(1, RV.ptr 1 0), (2, RV.ptr 2 0), (3, RV.ptr 3 0)]) (b := [(1, (49, [PV.val _, PV.val _, PV.sl _ _, PV.val _, PV.val _])), (2, (59, [PV.val _, PV.val _, PV.sl _ _, PV.val _, PV.val _])), (3, (59, [PV.val _, PV.val _, PV.sl _ _, PV.val _, PV.val _]))]) (by exact And.intro rfl (And.intro rfl (And.intro rfl True.intro))) (by exact And.intro rfl (And.intro rfl (And.intro rfl True.intro))) ?_
  refine sw_reg ?_
  refine RunS.step (by exact And.intro rfl True.intro) (by exact And.intro rfl True.intro) (LocG.of rfl (loc_ltake (ms := [PV.val _, PV.val _, PV.sl _ _, PV.val _, PV.val _]) (qs := [PV.val _, PV.val _, PV.sl .v _, PV.val _, PV.val _]) (by decide) ty_59 (fun h => nomatch h) (by exact Nat.le_of_ble_eq_true rfl) (by exact rfl) (by exact (ToL.cons (PV.To.refl _) (ToL.cons (PV.To.refl _) (ToL.cons PV.to_none (ToL.cons (PV.To.refl _) (ToL.cons (PV.To.refl _) ToL.nil)))))) (by exact (BorL.cons (PV.bor_val _) (BorL.cons (PV.bor_val _) (BorL.cons (PV.bor_sl _) (BorL.cons (PV.bor_val _) (BorL.cons (PV.bor_val _) BorL.nil)))))))) nofree ?_
  refine RunS.step (by exact And.intro rfl (And.intro rfl True.intro)) (by exact And.intro rfl True.intro) (LocG.of rfl (loc_store (ag := true) (vs := [PV.val _, PV.val _, PV.sl _ _, PV.val _, PV.val _]) ty_59 (by exact True.intro) (by exact rfl) (by exact Nat.le_of_ble_eq_true rfl))) nofree ?_
  refine sw_ret ?_
  exact (Exists.intro 2 (Exists.intro _ (And.intro (by exact rfl) (And.intro (by exact rfl) (And.intro ty_59 (And.intro (fun h => nomatch h) True.intro))))))
theorem to_Event {x : Event}  (hb : wtEvent x ≤ 1048576) : SCall Try.prog 29 [(true, [PV.val (vI x.Kind), PV.val (vI x.Query.Id), PV.val (vI x.Query.Tenant), PV.sl .v (x.Query.Conds.map cCond), PV.sl .v (x.Query.Out.map cInt), PV.val (vI x.Limit), PV.val (vI x.Id), PV.val (vI x.Update.Kind), PV.val (vI x.Update.Row.Id), PV.sl .v (x.Update.Row.Values.map cInt), PV.val (vI x.Update.Field), PV.val (vI x.Update.Value), PV.val (vI x.Steps)])] (resRV [(true, [PV.val (vI x.Kind), PV.val (vI x.Query.Id), PV.val (vI x.Query.Tenant), PV.sl (.own 181 3) (x.Query.Conds.map cCond), PV.sl (.own 3 1) (x.Query.Out.map cInt), PV.val (vI x.Limit), PV.val (vI x.Id), PV.val (vI x.Update.Kind), PV.val (vI x.Update.Row.Id), PV.sl (.own 3 1) (x.Update.Row.Values.map cInt), PV.val (vI x.Update.Field), PV.val (vI x.Update.Value), PV.val (vI x.Steps)])]) := by
  refine scall_of (rs := [(true, [PV.val (vI x.Kind), PV.val (vI x.Query.Id), PV.val (vI x.Query.Tenant), PV.sl (.own 181 3) (x.Query.Conds.map cCond), PV.sl (.own 3 1) (x.Query.Out.map cInt), PV.val (vI x.Limit), PV.val (vI x.Id), PV.val (vI x.Update.Kind), PV.val (vI x.Update.Row.Id), PV.sl (.own 3 1) (x.Update.Row.Values.map cInt), PV.val (vI x.Update.Field), PV.val (vI x.Update.Value), PV.val (vI x.Steps)])]) Try.func29 rfl (Nat.le_of_ble_eq_true rfl) (borA_cons (BorL.cons (PV.bor_val _) (BorL.cons (PV.bor_val _) (BorL.cons (PV.bor_val _) (BorL.cons (PV.bor_sl _) (BorL.cons (PV.bor_sl _) (BorL.cons (PV.bor_val _) (BorL.cons (PV.bor_val _) (BorL.cons (PV.bor_val _) (BorL.cons (PV.bor_val _) (BorL.cons (PV.bor_sl _) (BorL.cons (PV.bor_val _) (BorL.cons (PV.bor_val _) (BorL.cons (PV.bor_val _) BorL.nil))))))))))))) borA_nil) ?_
  intro h0 w0 Fz0
  refine sw_slen (s := 0) (j := 3) rfl rfl fun hl0_3 => ?_
  try rw [List.length_map] at hl0_3
  refine sw_slen (s := 0) (j := 4) rfl rfl fun hl0_4 => ?_
  try rw [List.length_map] at hl0_4
  refine sw_slen (s := 0) (j := 9) rfl rfl fun hl0_9 => ?_
  try rw [List.length_map] at hl0_9
  have hbu := hb
  simp only [wtEvent] at hbu
  refine sw_seq ?_
  refine sw_reg ?_
  refine RunS.step (by exact And.intro rfl True.intro) (by exact True.intro) (LocG.of rfl (loc_box (ag := true) (cs := [PV.val _, PV.val _, PV.val _, PV.sl _ _, PV.sl _ _, PV.val _, PV.val _, PV.val _, PV.val _, PV.sl _ _, PV.val _, PV.val _, PV.val _]) (by decide) (by exact True.intro))) (free1 (Free.of_ rfl)) ?_
  refine RunS.step (by exact True.intro) (by exact True.intro) (LocG.of rfl (loc_alloc (by decide) z_61 zo_61)) (free1 (Free.app (Free.of_ rfl) rfl)) ?_
  refine sw_seq ?_
  refine sw_of (l := [(1, RV.ptr 1 0), (2, RV.ptr 2 0)]) (b := [(1, (51, [PV.val _, PV.val _, PV.val _, PV.sl _ _, PV.sl _ _, PV.val _, PV.val _, PV.val _, PV.val _, PV.sl _ _, PV.val _, PV.val _, PV.val _])), (2, (61, [PV.val _, PV.val _, PV.val _, PV.sl _ _, PV.sl _ _, PV.val _, PV.val _, PV.val _, PV.val _, PV.sl _ _, PV.val _, PV.val _, PV.val _]))]) (by exact And.intro rfl (And.intro rfl True.intro)) (by exact And.intro rfl (And.intro rfl True.intro)) ?_
  refine sw_reg ?_
  refine RunS.step (by exact True.intro) (by exact True.intro) (LocG.of rfl (loc_alloc (by decide) z_61 zo_61)) (free1 (Free.of_ rfl)) ?_
  refine sw_seq ?_
  refine sw_of (l := [(1, RV.ptr 1 0), (2, RV.ptr 2 0), (3, RV.ptr 3 0)]) (b := [(1, (51, [PV.val _, PV.val _, PV.val _, PV.sl _ _, PV.sl _ _, PV.val _, PV.val _, PV.val _, PV.val _, PV.sl _ _, PV.val _, PV.val _, PV.val _])), (2, (61, [PV.val _, PV.val _, PV.val _, PV.sl _ _, PV.sl _ _, PV.val _, PV.val _, PV.val _, PV.val _, PV.sl _ _, PV.val _, PV.val _, PV.val _])), (3, (61, [PV.val _, PV.val _, PV.val _, PV.sl _ _, PV.sl _ _, PV.val _, PV.val _, PV.val _, PV.val _, PV.sl _ _, PV.val _, PV.val _, PV.val _]))]) (by exact And.intro rfl (And.intro rfl (And.intro rfl True.intro))) (by exact And.intro rfl (And.intro rfl (And.intro rfl True.intro))) ?_
  refine sw_reg ?_
  refine RunS.step (by exact And.intro rfl True.intro) (by exact True.intro) (LocG.of rfl (loc_field (by decide) fd_51_0)) nofree ?_
  refine RunS.step (by exact And.intro rfl True.intro) (by exact And.intro rfl True.intro) (LocG.of rfl (loc_load (qs := [PV.val _]) (by decide) ty_3 (fun _ => rfl) (by exact Nat.le_of_ble_eq_true rfl) (by exact (ToL.cons (PV.To.refl _) ToL.nil)) (by exact (BorL.cons (PV.bor_val _) BorL.nil)))) nofree ?_
  refine RunS.step (by exact And.intro rfl True.intro) (by exact True.intro) (LocG.of rfl (loc_field (by decide) fd_61_0)) nofree ?_
  refine RunS.step (by exact And.intro rfl (And.intro rfl True.intro)) (by exact And.intro rfl True.intro) (LocG.of rfl (loc_store (ag := false) (vs := [PV.val _]) ty_3 (by exact True.intro) (by exact rfl) (by exact Nat.le_of_ble_eq_true rfl))) nofree ?_
  refine sw_seq ?_
  refine sw_of (l := [(1, RV.ptr 1 0), (2, RV.ptr 2 0), (3, RV.ptr 3 0)]) (b := [(1, (51, [PV.val _, PV.val _, PV.val _, PV.sl _ _, PV.sl _ _, PV.val _, PV.val _, PV.val _, PV.val _, PV.sl _ _, PV.val _, PV.val _, PV.val _])), (2, (61, [PV.val _, PV.val _, PV.val _, PV.sl _ _, PV.sl _ _, PV.val _, PV.val _, PV.val _, PV.val _, PV.sl _ _, PV.val _, PV.val _, PV.val _])), (3, (61, [PV.val _, PV.val _, PV.val _, PV.sl _ _, PV.sl _ _, PV.val _, PV.val _, PV.val _, PV.val _, PV.sl _ _, PV.val _, PV.val _, PV.val _]))]) (by exact And.intro rfl (And.intro rfl (And.intro rfl True.intro))) (by exact And.intro rfl (And.intro rfl (And.intro rfl True.intro))) ?_
  refine sw_reg ?_
  refine RunS.step (by exact And.intro rfl True.intro) (by exact True.intro) (LocG.of rfl (loc_field (by decide) fd_51_1)) nofree ?_
  refine RunS.step (by exact And.intro rfl True.intro) (by exact And.intro rfl True.intro) (LocG.of rfl (loc_load (qs := [PV.val _, PV.val _, PV.sl .v _, PV.sl .v _]) (by decide) ty_45 (fun h => nomatch h) (by exact Nat.le_of_ble_eq_true rfl) (by exact (ToL.cons (PV.To.refl _) (ToL.cons (PV.To.refl _) (ToL.cons PV.to_none (ToL.cons PV.to_none ToL.nil))))) (by exact (BorL.cons (PV.bor_val _) (BorL.cons (PV.bor_val _) (BorL.cons (PV.bor_sl _) (BorL.cons (PV.bor_sl _) BorL.nil))))))) nofree ?_
  refine RunS.step (by exact And.intro rfl True.intro) (by exact True.intro) (LocG.of rfl (loc_call (qs := [(true, [PV.val _, PV.val _, PV.sl _ _, PV.sl _ _])]) (as_ := [(true, [PV.val _, PV.val _, PV.sl .v _, PV.sl .v _])]) (by decide) c_66 (by exact (And.intro (by exact True.intro) True.intro)) (by exact (And.intro (And.intro rfl (ToL.cons (PV.To.refl _) (ToL.cons (PV.To.refl _) (ToL.cons PV.to_none (ToL.cons PV.to_none ToL.nil))))) True.intro)) (by exact to_Query (by omega)))) nofree ?_
  refine RunS.step (by exact And.intro rfl True.intro) (by exact True.intro) (LocG.of rfl (loc_field (by decide) fd_61_1)) nofree ?_
  refine RunS.step (by exact And.intro rfl (And.intro rfl True.intro)) (by exact And.intro rfl True.intro) (LocG.of rfl (loc_store (ag := true) (vs := [PV.val _, PV.val _, PV.sl _ _, PV.sl _ _]) ty_56 (by exact True.intro) (by exact rfl) (by exact Nat.le_of_ble_eq_true rfl))) nofree ?_
  refine sw_seq ?_
  refine sw_of (l := [(1, RV.ptr 1 0), (2, RV.ptr 2 0), (3, RV.ptr 3 0)]) (b := [(1, (51, [PV.val _, PV.val _, PV.val _, PV.sl _ _, PV.sl _ _, PV.val _, PV.val _, PV.val _, PV.val _, PV.sl _ _, PV.val _, PV.val _, PV.val _])), (2, (61, [PV.val _, PV.val _, PV.val _, PV.sl _ _, PV.sl _ _, PV.val _, PV.val _, PV.val _, PV.val _, PV.sl _ _, PV.val _, PV.val _, PV.val _])), (3, (61, [PV.val _, PV.val _, PV.val _, PV.sl _ _, PV.sl _ _, PV.val _, PV.val _, PV.val _, PV.val _, PV.sl _ _, PV.val _, PV.val _, PV.val _]))]) (by exact And.intro rfl (And.intro rfl (And.intro rfl True.intro))) (by exact And.intro rfl (And.intro rfl (And.intro rfl True.intro))) ?_
  refine sw_reg ?_
  refine RunS.step (by exact And.intro rfl True.intro) (by exact True.intro) (LocG.of rfl (loc_field (by decide) fd_51_2)) nofree ?_
  refine RunS.step (by exact And.intro rfl True.intro) (by exact And.intro rfl True.intro) (LocG.of rfl (loc_load (qs := [PV.val _]) (by decide) ty_3 (fun _ => rfl) (by exact Nat.le_of_ble_eq_true rfl) (by exact (ToL.cons (PV.To.refl _) ToL.nil)) (by exact (BorL.cons (PV.bor_val _) BorL.nil)))) nofree ?_
  refine RunS.step (by exact And.intro rfl True.intro) (by exact True.intro) (LocG.of rfl (loc_field (by decide) fd_61_2)) nofree ?_
  refine RunS.step (by exact And.intro rfl (And.intro rfl True.intro)) (by exact And.intro rfl True.intro) (LocG.of rfl (loc_store (ag := false) (vs := [PV.val _]) ty_3 (by exact True.intro) (by exact rfl) (by exact Nat.le_of_ble_eq_true rfl))) nofree ?_
  refine sw_seq ?_
  refine sw_of (l := [(1, RV.ptr 1 0), (2, RV.ptr 2 0), (3, RV.ptr 3 0)]) (b := [(1, (51, [PV.val _, PV.val _, PV.val _, PV.sl _ _, PV.sl _ _, PV.val _, PV.val _, PV.val _, PV.val _, PV.sl _ _, PV.val _, PV.val _, PV.val _])), (2, (61, [PV.val _, PV.val _, PV.val _, PV.sl _ _, PV.sl _ _, PV.val _, PV.val _, PV.val _, PV.val _, PV.sl _ _, PV.val _, PV.val _, PV.val _])), (3, (61, [PV.val _, PV.val _, PV.val _, PV.sl _ _, PV.sl _ _, PV.val _, PV.val _, PV.val _, PV.val _, PV.sl _ _, PV.val _, PV.val _, PV.val _]))]) (by exact And.intro rfl (And.intro rfl (And.intro rfl True.intro))) (by exact And.intro rfl (And.intro rfl (And.intro rfl True.intro))) ?_
  refine sw_reg ?_
  refine RunS.step (by exact And.intro rfl True.intro) (by exact True.intro) (LocG.of rfl (loc_field (by decide) fd_51_3)) nofree ?_
  refine RunS.step (by exact And.intro rfl True.intro) (by exact And.intro rfl True.intro) (LocG.of rfl (loc_load (qs := [PV.val _]) (by decide) ty_3 (fun _ => rfl) (by exact Nat.le_of_ble_eq_true rfl) (by exact (ToL.cons (PV.To.refl _) ToL.nil)) (by exact (BorL.cons (PV.bor_val _) BorL.nil)))) nofree ?_
  refine RunS.step (by exact And.intro rfl True.intro) (by exact True.intro) (LocG.of rfl (loc_field (by decide) fd_61_3)) nofree ?_
  refine RunS.step (by exact And.intro rfl (And.intro rfl True.intro)) (by exact And.intro rfl True.intro) (LocG.of rfl (loc_store (ag := false) (vs := [PV.val _]) ty_3 (by exact True.intro) (by exact rfl) (by exact Nat.le_of_ble_eq_true rfl))) nofree ?_
  refine sw_seq ?_
  refine sw_of (l := [(1, RV.ptr 1 0), (2, RV.ptr 2 0), (3, RV.ptr 3 0)]) (b := [(1, (51, [PV.val _, PV.val _, PV.val _, PV.sl _ _, PV.sl _ _, PV.val _, PV.val _, PV.val _, PV.val _, PV.sl _ _, PV.val _, PV.val _, PV.val _])), (2, (61, [PV.val _, PV.val _, PV.val _, PV.sl _ _, PV.sl _ _, PV.val _, PV.val _, PV.val _, PV.val _, PV.sl _ _, PV.val _, PV.val _, PV.val _])), (3, (61, [PV.val _, PV.val _, PV.val _, PV.sl _ _, PV.sl _ _, PV.val _, PV.val _, PV.val _, PV.val _, PV.sl _ _, PV.val _, PV.val _, PV.val _]))]) (by exact And.intro rfl (And.intro rfl (And.intro rfl True.intro))) (by exact And.intro rfl (And.intro rfl (And.intro rfl True.intro))) ?_
  refine sw_reg ?_
  refine RunS.step (by exact And.intro rfl True.intro) (by exact True.intro) (LocG.of rfl (loc_field (by decide) fd_51_4)) nofree ?_
  refine RunS.step (by exact And.intro rfl True.intro) (by exact And.intro rfl True.intro) (LocG.of rfl (loc_load (qs := [PV.val _, PV.val _, PV.sl .v _, PV.val _, PV.val _]) (by decide) ty_49 (fun h => nomatch h) (by exact Nat.le_of_ble_eq_true rfl) (by exact (ToL.cons (PV.To.refl _) (ToL.cons (PV.To.refl _) (ToL.cons PV.to_none (ToL.cons (PV.To.refl _) (ToL.cons (PV.To.refl _) ToL.nil)))))) (by exact (BorL.cons (PV.bor_val _) (BorL.cons (PV.bor_val _) (BorL.cons (PV.bor_sl _) (BorL.cons (PV.bor_val _) (BorL.cons (PV.bor_val _) BorL.nil)))))))) nofree ?_
  refine RunS.step (by exact And.intro rfl True.intro) (by exact True.intro) (LocG.of rfl (loc_call (qs := [(true, [PV.val _, PV.val _, PV.sl _ _, PV.val _, PV.val _])]) (as_ := [(true, [PV.val _, PV.val _, PV.sl .v _, PV.val _, PV.val _])]) (by decide) c_90 (by exact (And.intro (by exact True.intro) True.intro)) (by exact (And.intro (And.intro rfl (ToL.cons (PV.To.refl _) (ToL.cons (PV.To.refl _) (ToL.cons PV.to_none (ToL.cons (PV.To.refl _) (ToL.cons (PV.To.refl _) ToL.nil)))))) True.intro)) (by exact to_Update (by omega)))) nofree ?_
  refine RunS.step (by exact And.intro rfl True.intro) (by exact True.intro) (LocG.of rfl (loc_field (by decide) fd_61_4)) nofree ?_
  refine RunS.step (by exact And.intro rfl (And.intro rfl True.intro)) (by exact And.intro rfl True.intro) (LocG.of rfl (loc_store (ag := true) (vs := [PV.val _, PV.val _, PV.sl _ _, PV.val _, PV.val _]) ty_59 (by exact True.intro) (by exact rfl) (by exact Nat.le_of_ble_eq_true rfl))) nofree ?_
  refine sw_seq ?_
  refine sw_of (l := [(1, RV.ptr 1 0), (2, RV.ptr 2 0), (3, RV.ptr 3 0)]) (b := [(1, (51, [PV.val _, PV.val _, PV.val _, PV.sl _ _, PV.sl _ _, PV.val _, PV.val _, PV.val _, PV.val _, PV.sl _ _, PV.val _, PV.val _, PV.val _])), (2, (61, [PV.val _, PV.val _, PV.val _, PV.sl _ _, PV.sl _ _, PV.val _, PV.val _, PV.val _, PV.val _, PV.sl _ _, PV.val _, PV.val _, PV.val _])), (3, (61, [PV.val _, PV.val _, PV.val _, PV.sl _ _, PV.sl _ _, PV.val _, PV.val _, PV.val _, PV.val _, PV.sl _ _, PV.val _, PV.val _, PV.val _]))]) (by exact And.intro rfl (And.intro rfl (And.intro rfl True.intro))) (by exact And.intro rfl (And.intro rfl (And.intro rfl True.intro))) ?_
  refine sw_reg ?_
  refine RunS.step (by exact And.intro rfl True.intro) (by exact True.intro) (LocG.of rfl (loc_field (by decide) fd_51_5)) nofree ?_
  refine RunS.step (by exact And.intro rfl True.intro) (by exact And.intro rfl True.intro) (LocG.of rfl (loc_load (qs := [PV.val _]) (by decide) ty_3 (fun _ => rfl) (by exact Nat.le_of_ble_eq_true rfl) (by exact (ToL.cons (PV.To.refl _) ToL.nil)) (by exact (BorL.cons (PV.bor_val _) BorL.nil)))) nofree ?_
  refine RunS.step (by exact And.intro rfl True.intro) (by exact True.intro) (LocG.of rfl (loc_field (by decide) fd_61_5)) nofree ?_
  refine RunS.step (by exact And.intro rfl (And.intro rfl True.intro)) (by exact And.intro rfl True.intro) (LocG.of rfl (loc_store (ag := false) (vs := [PV.val _]) ty_3 (by exact True.intro) (by exact rfl) (by exact Nat.le_of_ble_eq_true rfl))) nofree ?_
  refine sw_seq ?_
  refine sw_of (l := [(1, RV.ptr 1 0), (2, RV.ptr 2 0), (3, RV.ptr 3 0)]) (b := [(1, (51, [PV.val _, PV.val _, PV.val _, PV.sl _ _, PV.sl _ _, PV.val _, PV.val _, PV.val _, PV.val _, PV.sl _ _, PV.val _, PV.val _, PV.val _])), (2, (61, [PV.val _, PV.val _, PV.val _, PV.sl _ _, PV.sl _ _, PV.val _, PV.val _, PV.val _, PV.val _, PV.sl _ _, PV.val _, PV.val _, PV.val _])), (3, (61, [PV.val _, PV.val _, PV.val _, PV.sl _ _, PV.sl _ _, PV.val _, PV.val _, PV.val _, PV.val _, PV.sl _ _, PV.val _, PV.val _, PV.val _]))]) (by exact And.intro rfl (And.intro rfl (And.intro rfl True.intro))) (by exact And.intro rfl (And.intro rfl (And.intro rfl True.intro))) ?_
  refine sw_reg ?_
  refine RunS.step (by exact And.intro rfl True.intro) (by exact And.intro rfl True.intro) (LocG.of rfl (loc_ltake (ms := [PV.val _, PV.val _, PV.val _, PV.sl _ _, PV.sl _ _, PV.val _, PV.val _, PV.val _, PV.val _, PV.sl _ _, PV.val _, PV.val _, PV.val _]) (qs := [PV.val _, PV.val _, PV.val _, PV.sl .v _, PV.sl .v _, PV.val _, PV.val _, PV.val _, PV.val _, PV.sl .v _, PV.val _, PV.val _, PV.val _]) (by decide) ty_61 (fun h => nomatch h) (by exact Nat.le_of_ble_eq_true rfl) (by exact rfl) (by exact (ToL.cons (PV.To.refl _) (ToL.cons (PV.To.refl _) (ToL.cons (PV.To.refl _) (ToL.cons PV.to_none (ToL.cons PV.to_none (ToL.cons (PV.To.refl _) (ToL.cons (PV.To.refl _) (ToL.cons (PV.To.refl _) (ToL.cons (PV.To.refl _) (ToL.cons PV.to_none (ToL.cons (PV.To.refl _) (ToL.cons (PV.To.refl _) (ToL.cons (PV.To.refl _) ToL.nil)))))))))))))) (by exact (BorL.cons (PV.bor_val _) (BorL.cons (PV.bor_val _) (BorL.cons (PV.bor_val _) (BorL.cons (PV.bor_sl _) (BorL.cons (PV.bor_sl _) (BorL.cons (PV.bor_val _) (BorL.cons (PV.bor_val _) (BorL.cons (PV.bor_val _) (BorL.cons (PV.bor_val _) (BorL.cons (PV.bor_sl _) (BorL.cons (PV.bor_val _) (BorL.cons (PV.bor_val _) (BorL.cons (PV.bor_val _) BorL.nil)))))))))))))))) nofree ?_
  refine RunS.step (by exact And.intro rfl (And.intro rfl True.intro)) (by exact And.intro rfl True.intro) (LocG.of rfl (loc_store (ag := true) (vs := [PV.val _, PV.val _, PV.val _, PV.sl _ _, PV.sl _ _, PV.val _, PV.val _, PV.val _, PV.val _, PV.sl _ _, PV.val _, PV.val _, PV.val _]) ty_61 (by exact True.intro) (by exact rfl) (by exact Nat.le_of_ble_eq_true rfl))) nofree ?_
  refine sw_ret ?_
  exact (Exists.intro 2 (Exists.intro _ (And.intro (by exact rfl) (And.intro (by exact rfl) (And.intro ty_61 (And.intro (fun h => nomatch h) True.intro))))))
end Go.Proofs.Ytcfbekjiiokcbaa
