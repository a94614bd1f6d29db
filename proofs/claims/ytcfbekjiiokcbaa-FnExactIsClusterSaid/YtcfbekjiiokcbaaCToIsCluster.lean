/- What functions of the program compute. No condition. -/
import Derived.Test.YtcfbekjiiokcbaaCSzIsCluster
set_option linter.unusedVariables false
set_option linter.unusedSimpArgs false
namespace Go.Proofs.Ytcfbekjiiokcbaa
open Go Go.RowKit M
set_option maxRecDepth 10000
theorem to_IntS {x : List Int}  (hb : wtIntS x ≤ 1048576) : SCall Try.prog 15 [(false, [PV.sl .v (x.map cInt)])] (resRV [(false, [PV.sl (.own 3 1) (x.map cInt)])]) := by
  refine scall_of (rs := [(false, [PV.sl (.own 3 1) (x.map cInt)])]) Try.func15 rfl (Nat.le_of_ble_eq_true rfl) (borA_cons (BorL.cons (PV.bor_sl _) BorL.nil) borA_nil) ?_
  intro h0 w0 Fz0
  refine sw_len (s := 0) rfl fun hl0 => ?_
  try rw [List.length_map] at hl0
  have hbu := hb
  simp only [wtIntS] at hbu
  refine sw_seq ?_
  refine sw_reg ?_
  refine RunS.s1 (x := loc_const (.inr rfl) (by decide) (ok_nil (t := 3) (e := 1))) (y := ?_)
  refine sw_seq ?_
  refine sw_of (l := [(0, RV.sv false [PV.sl _ _]), (2, RV.sv false [PV.sl _ _])]) (b := []) (by exact ⟨rfl, rfl, ⟨⟩⟩) (by exact ⟨⟩) ?_
  refine sw_reg ?_
  refine RunS.s1 (x := loc_copy (r' := RV.sv false [PV.sl .v _]) (.inl rfl) (by decide) (by exact Cp.sv (ToL.cons PV.to_none ToL.nil) (BorL.cons (PV.bor_sl _) BorL.nil))) (y := ?_)
  refine RunS.s1 (x := loc_len (by decide) sl_23 (by first | exact List.length_map _ | exact rfl)) (y := ?_)
  refine RunS.step (by exact ⟨rfl, rfl, ⟨⟩⟩) (by exact ⟨⟩) (LocG.of rfl (loc_make (by decide) sl_23 z_3 rfl zo_3 (by exact ⟨⟩) (by exact ⟨⟩) (by exact rfl) (by exact rfl) (by omega) (by omega))) (free1 (Free.app (Free.app (Free.of_ rfl) rfl) rfl)) ?_
  refine RunS.s1 (x := loc_copy (.inr rfl) (by decide) (by exact Cp.hdr)) (y := ?_)
  refine sw_seq ?_
  refine sw_seq ?_
  refine sw_of (l := [(0, RV.sv false [PV.sl _ _]), (2, RV.sv false [PV.sl _ _]), (3, RV.hdr 7 _)]) (b := [(7, (3, _))]) (by exact ⟨rfl, rfl, rfl, ⟨⟩⟩) (by exact ⟨rfl, ⟨⟩⟩) ?_
  refine sw_reg ?_
  refine RunS.s1 (x := loc_const (.inr rfl) (by decide) (ok_sc rfl)) (y := ?_)
  refine sw_block ?_
  refine sw_of (l := [(0, RV.sv false [PV.sl _ _]), (2, RV.sv false [PV.sl _ _]), (3, RV.hdr 7 _), (4, RV.sv false [PV.val _])]) (b := [(7, (3, _))]) (by exact ⟨rfl, rfl, rfl, rfl, ⟨⟩⟩) (by exact ⟨rfl, ⟨⟩⟩) ?_
  refine sw_loop (l0 := [(0, RV.sv false [PV.sl _ _]), (2, RV.sv false [PV.sl _ _]), (3, RV.hdr 7 _)]) (b0 := []) (fun k : Nat => k ≤ x.length) (fun k : Nat => [(4, RV.int (k : Int))]) (fun k : Nat => [(7, (3, (filled x cInt [PV.val (.int .i64 0)] k).flatten))]) (fun k : Nat => x.length - k) 0 (by omega) (by exact ⟨rfl, rfl, rfl, ⟨⟩⟩) (by exact ⟨⟩) (by exact And.intro (by exact rfl) (True.intro)) (by exact And.intro (by rw [filled_zero]; exact rfl) (True.intro)) ?_
  rintro k hk
  refine sw_seq ?_
  refine sw_seq ?_
  refine sw_reg ?_
  refine RunS.s1 (x := loc_copy (.inl rfl) (by decide) (by exact Cp.sc)) (y := ?_)
  refine RunS.s1 (x := loc_copy (r' := RV.sv false [PV.sl .v _]) (.inl rfl) (by decide) (by exact Cp.sv (ToL.cons PV.to_none ToL.nil) (BorL.cons (PV.bor_sl _) BorL.nil))) (y := ?_)
  refine RunS.s1 (x := loc_len (by decide) sl_23 (by first | exact List.length_map _ | exact rfl)) (y := ?_)
  refine RunS.s1 (x := loc_lss (by decide) (by exact ⟨⟩) (by exact ⟨⟩)) (y := ?_)
  refine sw_cond (t := 11) rfl (fun hb1 => ?_) (fun hb1 => ?_)
  · try simp only [q1, q2, q3, q4, q5, q6, q7, q8, q9] at hb1
    have hlt : k < x.length := by omega
    have hwm := wt_mem (f := wtInt) hlt
    refine sw_skip ?_
    refine sw_seq ?_
    refine sw_block ?_
    refine sw_of (l := [(0, RV.sv false [PV.sl _ _]), (2, RV.sv false [PV.sl _ _]), (3, RV.hdr 7 _), (4, RV.sv false [PV.val _])]) (b := [(7, (3, _))]) (by exact ⟨rfl, rfl, rfl, rfl, ⟨⟩⟩) (by exact ⟨rfl, ⟨⟩⟩) ?_
    refine sw_reg ?_
    refine RunS.s1 (x := loc_copy (.inl rfl) (by decide) (by exact Cp.hdr)) (y := ?_)
    refine RunS.s1 (x := loc_copy (.inl rfl) (by decide) (by exact Cp.sc)) (y := ?_)
    refine RunS.s1 (x := loc_copy (r' := RV.sv false [PV.sl .v _]) (.inl rfl) (by decide) (by exact Cp.sv (ToL.cons PV.to_none ToL.nil) (BorL.cons (PV.bor_sl _) BorL.nil))) (y := ?_)
    refine RunS.s1 (x := loc_copy (.inl rfl) (by decide) (by exact Cp.sc)) (y := ?_)
    refine RunS.s1 (x := loc_index (by decide) sl_23 (by exact ⟨⟩) (by exact rfl) (by exact getm2 (by omega) rfl) (by exact rfl)) (y := ?_)
    refine RunS.s1 (x := loc_eload (qs := [PV.val _]) (by decide) ty_3 (fun _ => rfl) (by exact Nat.le_of_ble_eq_true rfl) (by exact (ToL.cons (PV.To.refl _) ToL.nil)) (by exact (BorL.cons (PV.bor_val _) BorL.nil))) (y := ?_)
    refine RunS.s1 (x := loc_hindex (by decide) sl_23 (by exact ⟨⟩) (by exact rfl) (by omega)) (y := ?_)
    refine RunS.s1 (x := loc_store (ag := false) (vs := [PV.val _]) ty_3 (by exact ⟨⟩) (by exact rfl) (by exact fill_room (fun _ => rfl) rfl hlt)) (y := ?_)
    refine sw_of (l := [(0, RV.sv false [PV.sl _ _]), (2, RV.sv false [PV.sl _ _]), (3, RV.hdr 7 _), (4, RV.sv false [PV.val _])]) (b := [(7, (3, _))]) (by exact ⟨rfl, rfl, rfl, rfl, ⟨⟩⟩) (by exact ⟨rfl, ⟨⟩⟩) ?_
    refine sw_reg ?_
    refine RunS.s1 (x := loc_copy (.inl rfl) (by decide) (by exact Cp.sc)) (y := ?_)
    refine RunS.s1 (x := loc_add (by decide) (by exact ⟨⟩) (ok_sc rfl) (by unfold I64; omega)) (y := ?_)
    refine RunS.s1 (x := loc_copy (.inr rfl) (by decide) (by exact Cp.sc)) (y := ?_)
    refine Exists.intro (k + 1) (And.intro (by omega) (And.intro (by omega) (And.intro (And.intro (by exact ⟨rfl, rfl, rfl, ⟨⟩⟩) (by exact ⟨⟩)) (And.intro (by exact And.intro (by exact rfl) (True.intro)) (by exact And.intro (by exact congrArg (fun z => some (3, z)) (fill_next (e := 1) (fun _ => rfl) rfl hlt)) (True.intro))))))
  · try simp only [q1, q2, q3, q4, q5, q6, q7, q8, q9] at hb1
    have hlt : k = x.length := by omega
    refine sw_exit ?_
    refine sw_seq ?_
    refine sw_of (l := [(0, RV.sv false [PV.sl _ _]), (2, RV.sv false [PV.sl _ _]), (3, RV.hdr 7 _), (4, RV.sv false [PV.val _])]) (b := [(7, (3, _))]) (by exact ⟨rfl, rfl, rfl, rfl, ⟨⟩⟩) (by exact ⟨rfl, ⟨⟩⟩) ?_
    refine sw_reg ?_
    refine RunS.s1 (x := loc_freeze (es := (x.map cInt)) (e := 1) (.inl rfl) (by decide) (by rw [hlt, filled_all]) (by exact List.length_map _) (by intro c hc; obtain ⟨y, _, rfl⟩ := List.mem_map.1 hc; rfl)) (y := ?_)
    refine RunS.s1 (x := loc_take (.inr rfl) (by decide)) (y := ?_)
    refine sw_ret ?_
    exact (And.intro (by exact rfl) True.intro)
theorem to_BoolS {x : List Bool}  (hb : wtBoolS x ≤ 1048576) : SCall Try.prog 115 [(false, [PV.sl .v (x.map cBool)])] (resRV [(false, [PV.sl (.own 4 1) (x.map cBool)])]) := by
  refine scall_of (rs := [(false, [PV.sl (.own 4 1) (x.map cBool)])]) Try.func115 rfl (Nat.le_of_ble_eq_true rfl) (borA_cons (BorL.cons (PV.bor_sl _) BorL.nil) borA_nil) ?_
  intro h0 w0 Fz0
  refine sw_len (s := 0) rfl fun hl0 => ?_
  try rw [List.length_map] at hl0
  have hbu := hb
  simp only [wtBoolS] at hbu
  refine sw_seq ?_
  refine sw_reg ?_
  refine RunS.s1 (x := loc_const (.inr rfl) (by decide) (ok_nil (t := 4) (e := 1))) (y := ?_)
  refine sw_seq ?_
  refine sw_of (l := [(0, RV.sv false [PV.sl _ _]), (2, RV.sv false [PV.sl _ _])]) (b := []) (by exact ⟨rfl, rfl, ⟨⟩⟩) (by exact ⟨⟩) ?_
  refine sw_reg ?_
  refine RunS.s1 (x := loc_copy (r' := RV.sv false [PV.sl .v _]) (.inl rfl) (by decide) (by exact Cp.sv (ToL.cons PV.to_none ToL.nil) (BorL.cons (PV.bor_sl _) BorL.nil))) (y := ?_)
  refine RunS.s1 (x := loc_len (by decide) sl_74 (by first | exact List.length_map _ | exact rfl)) (y := ?_)
  refine RunS.step (by exact ⟨rfl, rfl, ⟨⟩⟩) (by exact ⟨⟩) (LocG.of rfl (loc_make (by decide) sl_74 z_4 rfl zo_4 (by exact ⟨⟩) (by exact ⟨⟩) (by exact rfl) (by exact rfl) (by omega) (by omega))) (free1 (Free.app (Free.app (Free.of_ rfl) rfl) rfl)) ?_
  refine RunS.s1 (x := loc_copy (.inr rfl) (by decide) (by exact Cp.hdr)) (y := ?_)
  refine sw_seq ?_
  refine sw_seq ?_
  refine sw_of (l := [(0, RV.sv false [PV.sl _ _]), (2, RV.sv false [PV.sl _ _]), (3, RV.hdr 7 _)]) (b := [(7, (4, _))]) (by exact ⟨rfl, rfl, rfl, ⟨⟩⟩) (by exact ⟨rfl, ⟨⟩⟩) ?_
  refine sw_reg ?_
  refine RunS.s1 (x := loc_const (.inr rfl) (by decide) (ok_sc rfl)) (y := ?_)
  refine sw_block ?_
  refine sw_of (l := [(0, RV.sv false [PV.sl _ _]), (2, RV.sv false [PV.sl _ _]), (3, RV.hdr 7 _), (4, RV.sv false [PV.val _])]) (b := [(7, (4, _))]) (by exact ⟨rfl, rfl, rfl, rfl, ⟨⟩⟩) (by exact ⟨rfl, ⟨⟩⟩) ?_
  refine sw_loop (l0 := [(0, RV.sv false [PV.sl _ _]), (2, RV.sv false [PV.sl _ _]), (3, RV.hdr 7 _)]) (b0 := []) (fun k : Nat => k ≤ x.length) (fun k : Nat => [(4, RV.int (k : Int))]) (fun k : Nat => [(7, (4, (filled x cBool [PV.val (.bool false)] k).flatten))]) (fun k : Nat => x.length - k) 0 (by omega) (by exact ⟨rfl, rfl, rfl, ⟨⟩⟩) (by exact ⟨⟩) (by exact And.intro (by exact rfl) (True.intro)) (by exact And.intro (by rw [filled_zero]; exact rfl) (True.intro)) ?_
  rintro k hk
  refine sw_seq ?_
  refine sw_seq ?_
  refine sw_reg ?_
  refine RunS.s1 (x := loc_copy (.inl rfl) (by decide) (by exact Cp.sc)) (y := ?_)
  refine RunS.s1 (x := loc_copy (r' := RV.sv false [PV.sl .v _]) (.inl rfl) (by decide) (by exact Cp.sv (ToL.cons PV.to_none ToL.nil) (BorL.cons (PV.bor_sl _) BorL.nil))) (y := ?_)
  refine RunS.s1 (x := loc_len (by decide) sl_74 (by first | exact List.length_map _ | exact rfl)) (y := ?_)
  refine RunS.s1 (x := loc_lss (by decide) (by exact ⟨⟩) (by exact ⟨⟩)) (y := ?_)
  refine sw_cond (t := 11) rfl (fun hb1 => ?_) (fun hb1 => ?_)
  · try simp only [q1, q2, q3, q4, q5, q6, q7, q8, q9] at hb1
    have hlt : k < x.length := by omega
    have hwm := wt_mem (f := wtBool) hlt
    refine sw_skip ?_
    refine sw_seq ?_
    refine sw_block ?_
    refine sw_of (l := [(0, RV.sv false [PV.sl _ _]), (2, RV.sv false [PV.sl _ _]), (3, RV.hdr 7 _), (4, RV.sv false [PV.val _])]) (b := [(7, (4, _))]) (by exact ⟨rfl, rfl, rfl, rfl, ⟨⟩⟩) (by exact ⟨rfl, ⟨⟩⟩) ?_
    refine sw_reg ?_
    refine RunS.s1 (x := loc_copy (.inl rfl) (by decide) (by exact Cp.hdr)) (y := ?_)
    refine RunS.s1 (x := loc_copy (.inl rfl) (by decide) (by exact Cp.sc)) (y := ?_)
    refine RunS.s1 (x := loc_copy (r' := RV.sv false [PV.sl .v _]) (.inl rfl) (by decide) (by exact Cp.sv (ToL.cons PV.to_none ToL.nil) (BorL.cons (PV.bor_sl _) BorL.nil))) (y := ?_)
    refine RunS.s1 (x := loc_copy (.inl rfl) (by decide) (by exact Cp.sc)) (y := ?_)
    refine RunS.s1 (x := loc_index (by decide) sl_74 (by exact ⟨⟩) (by exact rfl) (by exact getm2 (by omega) rfl) (by exact rfl)) (y := ?_)
    refine RunS.s1 (x := loc_eload (qs := [PV.val _]) (by decide) ty_4 (fun _ => rfl) (by exact Nat.le_of_ble_eq_true rfl) (by exact (ToL.cons (PV.To.refl _) ToL.nil)) (by exact (BorL.cons (PV.bor_val _) BorL.nil))) (y := ?_)
    refine RunS.s1 (x := loc_hindex (by decide) sl_74 (by exact ⟨⟩) (by exact rfl) (by omega)) (y := ?_)
    refine RunS.s1 (x := loc_store (ag := false) (vs := [PV.val _]) ty_4 (by exact ⟨⟩) (by exact rfl) (by exact fill_room (fun _ => rfl) rfl hlt)) (y := ?_)
    refine sw_of (l := [(0, RV.sv false [PV.sl _ _]), (2, RV.sv false [PV.sl _ _]), (3, RV.hdr 7 _), (4, RV.sv false [PV.val _])]) (b := [(7, (4, _))]) (by exact ⟨rfl, rfl, rfl, rfl, ⟨⟩⟩) (by exact ⟨rfl, ⟨⟩⟩) ?_
    refine sw_reg ?_
    refine RunS.s1 (x := loc_copy (.inl rfl) (by decide) (by exact Cp.sc)) (y := ?_)
    refine RunS.s1 (x := loc_add (by decide) (by exact ⟨⟩) (ok_sc rfl) (by unfold I64; omega)) (y := ?_)
    refine RunS.s1 (x := loc_copy (.inr rfl) (by decide) (by exact Cp.sc)) (y := ?_)
    refine Exists.intro (k + 1) (And.intro (by omega) (And.intro (by omega) (And.intro (And.intro (by exact ⟨rfl, rfl, rfl, ⟨⟩⟩) (by exact ⟨⟩)) (And.intro (by exact And.intro (by exact rfl) (True.intro)) (by exact And.intro (by exact congrArg (fun z => some (4, z)) (fill_next (e := 1) (fun _ => rfl) rfl hlt)) (True.intro))))))
  · try simp only [q1, q2, q3, q4, q5, q6, q7, q8, q9] at hb1
    have hlt : k = x.length := by omega
    refine sw_exit ?_
    refine sw_seq ?_
    refine sw_of (l := [(0, RV.sv false [PV.sl _ _]), (2, RV.sv false [PV.sl _ _]), (3, RV.hdr 7 _), (4, RV.sv false [PV.val _])]) (b := [(7, (4, _))]) (by exact ⟨rfl, rfl, rfl, rfl, ⟨⟩⟩) (by exact ⟨rfl, ⟨⟩⟩) ?_
    refine sw_reg ?_
    refine RunS.s1 (x := loc_freeze (es := (x.map cBool)) (e := 1) (.inl rfl) (by decide) (by rw [hlt, filled_all]) (by exact List.length_map _) (by intro c hc; obtain ⟨y, _, rfl⟩ := List.mem_map.1 hc; rfl)) (y := ?_)
    refine RunS.s1 (x := loc_take (.inr rfl) (by decide)) (y := ?_)
    refine sw_ret ?_
    exact (And.intro (by exact rfl) True.intro)
theorem to_Cond {x : Cond}  (hb : wtCond x ≤ 1048576) : SCall Try.prog 180 [(true, [PV.val (vI x.Field), PV.val (vI x.Low), PV.val (vI x.High)])] (resRV [(true, [PV.val (vI x.Field), PV.val (vI x.Low), PV.val (vI x.High)])]) := by
  refine scall_of (rs := [(true, [PV.val (vI x.Field), PV.val (vI x.Low), PV.val (vI x.High)])]) Try.func180 rfl (Nat.le_of_ble_eq_true rfl) (borA_cons (BorL.cons (PV.bor_val _) (BorL.cons (PV.bor_val _) (BorL.cons (PV.bor_val _) BorL.nil))) borA_nil) ?_
  intro h0 w0 Fz0
  have hbu := hb
  simp only [wtCond] at hbu
  refine sw_seq ?_
  refine sw_reg ?_
  refine RunS.step (by exact ⟨rfl, ⟨⟩⟩) (by exact ⟨⟩) (LocG.of rfl (loc_box (ag := true) (cs := [PV.val _, PV.val _, PV.val _]) (by decide) (by exact ⟨⟩))) (free1 (Free.of_ rfl)) ?_
  refine RunS.step (by exact ⟨⟩) (by exact ⟨⟩) (LocG.of rfl (loc_alloc (by decide) z_181 zo_181)) (free1 (Free.app (Free.of_ rfl) rfl)) ?_
  refine sw_seq ?_
  refine sw_of (l := [(1, RV.ptr 1 0), (2, RV.ptr 2 0)]) (b := [(1, (192, [PV.val _, PV.val _, PV.val _])), (2, (181, [PV.val _, PV.val _, PV.val _]))]) (by exact ⟨rfl, rfl, ⟨⟩⟩) (by exact ⟨rfl, rfl, ⟨⟩⟩) ?_
  refine sw_reg ?_
  refine RunS.step (by exact ⟨⟩) (by exact ⟨⟩) (LocG.of rfl (loc_alloc (by decide) z_181 zo_181)) (free1 (Free.of_ rfl)) ?_
  refine sw_seq ?_
  refine sw_of (l := [(1, RV.ptr 1 0), (2, RV.ptr 2 0), (3, RV.ptr 3 0)]) (b := [(1, (192, [PV.val _, PV.val _, PV.val _])), (2, (181, [PV.val _, PV.val _, PV.val _])), (3, (181, [PV.val _, PV.val _, PV.val _]))]) (by exact ⟨rfl, rfl, rfl, ⟨⟩⟩) (by exact ⟨rfl, rfl, rfl, ⟨⟩⟩) ?_
  refine sw_reg ?_
  refine RunS.s1 (x := loc_field (by decide) fd_192_0) (y := ?_)
  refine RunS.s1 (x := loc_load (qs := [PV.val _]) (by decide) ty_3 (fun _ => rfl) (by exact Nat.le_of_ble_eq_true rfl) (by exact (ToL.cons (PV.To.refl _) ToL.nil)) (by exact (BorL.cons (PV.bor_val _) BorL.nil))) (y := ?_)
  refine RunS.s1 (x := loc_field (by decide) fd_181_0) (y := ?_)
  refine RunS.s1 (x := loc_store (ag := false) (vs := [PV.val _]) ty_3 (by exact ⟨⟩) (by exact rfl) (by exact Nat.le_of_ble_eq_true rfl)) (y := ?_)
  refine sw_seq ?_
  refine sw_of (l := [(1, RV.ptr 1 0), (2, RV.ptr 2 0), (3, RV.ptr 3 0)]) (b := [(1, (192, [PV.val _, PV.val _, PV.val _])), (2, (181, [PV.val _, PV.val _, PV.val _])), (3, (181, [PV.val _, PV.val _, PV.val _]))]) (by exact ⟨rfl, rfl, rfl, ⟨⟩⟩) (by exact ⟨rfl, rfl, rfl, ⟨⟩⟩) ?_
  refine sw_reg ?_
  refine RunS.s1 (x := loc_field (by decide) fd_192_1) (y := ?_)
  refine RunS.s1 (x := loc_load (qs := [PV.val _]) (by decide) ty_3 (fun _ => rfl) (by exact Nat.le_of_ble_eq_true rfl) (by exact (ToL.cons (PV.To.refl _) ToL.nil)) (by exact (BorL.cons (PV.bor_val _) BorL.nil))) (y := ?_)
  refine RunS.s1 (x := loc_field (by decide) fd_181_1) (y := ?_)
  refine RunS.s1 (x := loc_store (ag := false) (vs := [PV.val _]) ty_3 (by exact ⟨⟩) (by exact rfl) (by exact Nat.le_of_ble_eq_true rfl)) (y := ?_)
  refine sw_seq ?_
  refine sw_of (l := [(1, RV.ptr 1 0), (2, RV.ptr 2 0), (3, RV.ptr 3 0)]) (b := [(1, (192, [PV.val _, PV.val _, PV.val _])), (2, (181, [PV.val _, PV.val _, PV.val _])), (3, (181, [PV.val _, PV.val _, PV.val _]))]) (by exact ⟨rfl, rfl, rfl, ⟨⟩⟩) (by exact ⟨rfl, rfl, rfl, ⟨⟩⟩) ?_
  refine sw_reg ?_
  refine RunS.s1 (x := loc_field (by decide) fd_192_2) (y := ?_)
  refine RunS.s1 (x := loc_load (qs := [PV.val _]) (by decide) ty_3 (fun _ => rfl) (by exact Nat.le_of_ble_eq_true rfl) (by exact (ToL.cons (PV.To.refl _) ToL.nil)) (by exact (BorL.cons (PV.bor_val _) BorL.nil))) (y := ?_)
  refine RunS.s1 (x := loc_field (by decide) fd_181_2) (y := ?_)
  refine RunS.s1 (x := loc_store (ag := false) (vs := [PV.val _]) ty_3 (by exact ⟨⟩) (by exact rfl) (by exact Nat.le_of_ble_eq_true rfl)) (y := ?_)
  refine sw_seq ?_
  refine sw_of (l := [(1, RV.ptr 1 0), (2, RV.ptr 2 0), (3, RV.ptr 3 0)]) (b := [(1, (192, [PV.val _, PV.val _, PV.val _])), (2, (181, [PV.val _, PV.val _, PV.val _])), (3, (181, [PV.val _, PV.val _, PV.val _]))]) (by exact ⟨rfl, rfl, rfl, ⟨⟩⟩) (by exact ⟨rfl, rfl, rfl, ⟨⟩⟩) ?_
  refine sw_reg ?_
  refine RunS.s1 (x := loc_load (qs := [PV.val _, PV.val _, PV.val _]) (by decide) ty_181 (fun h => nomatch h) (by exact Nat.le_of_ble_eq_true rfl) (by exact (ToL.cons (PV.To.refl _) (ToL.cons (PV.To.refl _) (ToL.cons (PV.To.refl _) ToL.nil)))) (by exact (BorL.cons (PV.bor_val _) (BorL.cons (PV.bor_val _) (BorL.cons (PV.bor_val _) BorL.nil))))) (y := ?_)
  refine RunS.s1 (x := loc_store (ag := true) (vs := [PV.val _, PV.val _, PV.val _]) ty_181 (by exact ⟨⟩) (by exact rfl) (by exact Nat.le_of_ble_eq_true rfl)) (y := ?_)
  refine sw_ret ?_
  exact (Exists.intro 2 (Exists.intro _ (And.intro (by exact rfl) (And.intro (by exact rfl) (And.intro ty_181 (And.intro (fun h => nomatch h) True.intro))))))
theorem to_Row {x : Row}  (hb : wtRow x ≤ 1048576) : SCall Try.prog 80 [(true, [PV.val (vI x.Id), PV.sl .v (x.Values.map cInt)])] (resRV [(true, [PV.val (vI x.Id), PV.sl (.own 3 1) (x.Values.map cInt)])]) := by
  refine scall_of (rs := [(true, [PV.val (vI x.Id), PV.sl (.own 3 1) (x.Values.map cInt)])]) Try.func80 rfl (Nat.le_of_ble_eq_true rfl) (borA_cons (BorL.cons (PV.bor_val _) (BorL.cons (PV.bor_sl _) BorL.nil)) borA_nil) ?_
  intro h0 w0 Fz0
  refine sw_slen (s := 0) (j := 1) rfl rfl fun hl0_1 => ?_
  try rw [List.length_map] at hl0_1
  have hbu := hb
  simp only [wtRow] at hbu
  refine sw_seq ?_
  refine sw_reg ?_
  refine RunS.step (by exact ⟨rfl, ⟨⟩⟩) (by exact ⟨⟩) (LocG.of rfl (loc_box (ag := true) (cs := [PV.val _, PV.sl _ _]) (by decide) (by exact ⟨⟩))) (free1 (Free.of_ rfl)) ?_
  refine RunS.step (by exact ⟨⟩) (by exact ⟨⟩) (LocG.of rfl (loc_alloc (by decide) z_57 zo_57)) (free1 (Free.app (Free.of_ rfl) rfl)) ?_
  refine sw_seq ?_
  refine sw_of (l := [(1, RV.ptr 1 0), (2, RV.ptr 2 0)]) (b := [(1, (47, [PV.val _, PV.sl _ _])), (2, (57, [PV.val _, PV.sl _ _]))]) (by exact ⟨rfl, rfl, ⟨⟩⟩) (by exact ⟨rfl, rfl, ⟨⟩⟩) ?_
  refine sw_reg ?_
  refine RunS.step (by exact ⟨⟩) (by exact ⟨⟩) (LocG.of rfl (loc_alloc (by decide) z_57 zo_57)) (free1 (Free.of_ rfl)) ?_
  refine sw_seq ?_
  refine sw_of (l := [(1, RV.ptr 1 0), (2, RV.ptr 2 0), (3, RV.ptr 3 0)]) (b := [(1, (47, [PV.val _, PV.sl _ _])), (2, (57, [PV.val _, PV.sl _ _])), (3, (57, [PV.val _, PV.sl _ _]))]) (by exact ⟨rfl, rfl, rfl, ⟨⟩⟩) (by exact ⟨rfl, rfl, rfl, ⟨⟩⟩) ?_
  refine sw_reg ?_
  refine RunS.s1 (x := loc_field (by decide) fd_47_0) (y := ?_)
  refine RunS.s1 (x := loc_load (qs := [PV.val _]) (by decide) ty_3 (fun _ => rfl) (by exact Nat.le_of_ble_eq_true rfl) (by exact (ToL.cons (PV.To.refl _) ToL.nil)) (by exact (BorL.cons (PV.bor_val _) BorL.nil))) (y := ?_)
  refine RunS.s1 (x := loc_field (by decide) fd_57_0) (y := ?_)
  refine RunS.s1 (x := loc_store (ag := false) (vs := [PV.val _]) ty_3 (by exact ⟨⟩) (by exact rfl) (by exact Nat.le_of_ble_eq_true rfl)) (y := ?_)
  refine sw_seq ?_
  refine sw_of (l := [(1, RV.ptr 1 0), (2, RV.ptr 2 0), (3, RV.ptr 3 0)]) (b := [(1, (47, [PV.val _, PV.sl _ _])), (2, (57, [PV.val _, PV.sl _ _])), (3, (57, [PV.val _, PV.sl _ _]))]) (by exact ⟨rfl, rfl, rfl, ⟨⟩⟩) (by exact ⟨rfl, rfl, rfl, ⟨⟩⟩) ?_
  refine sw_reg ?_
  refine RunS.s1 (x := loc_field (by decide) fd_47_1) (y := ?_)
  refine RunS.s1 (x := loc_load (qs := [PV.sl .v _]) (by decide) ty_23 (fun _ => rfl) (by exact Nat.le_of_ble_eq_true rfl) (by exact (ToL.cons PV.to_none ToL.nil)) (by exact (BorL.cons (PV.bor_sl _) BorL.nil))) (y := ?_)
  refine RunS.s1 (x := loc_call (qs := [(false, [PV.sl _ _])]) (as_ := [(false, [PV.sl .v _])]) (by decide) c_15 (by exact (And.intro (by exact ⟨⟩) True.intro)) (by exact (And.intro (And.intro rfl (ToL.cons PV.to_none ToL.nil)) True.intro)) (by exact to_IntS (by omega))) (y := ?_)
  refine RunS.s1 (x := loc_field (by decide) fd_57_1) (y := ?_)
  refine RunS.s1 (x := loc_store (ag := false) (vs := [PV.sl _ _]) ty_23 (by exact ⟨⟩) (by exact rfl) (by exact Nat.le_of_ble_eq_true rfl)) (y := ?_)
  refine sw_seq ?_
  refine sw_of (l := [(1, RV.ptr 1 0), (2, RV.ptr 2 0), (3, RV.ptr 3 0)]) (b := [(1, (47, [PV.val _, PV.sl _ _])), (2, (57, [PV.val _, PV.sl _ _])), (3, (57, [PV.val _, PV.sl _ _]))]) (by exact ⟨rfl, rfl, rfl, ⟨⟩⟩) (by exact ⟨rfl, rfl, rfl, ⟨⟩⟩) ?_
  refine sw_reg ?_
  refine RunS.s1 (x := loc_ltake (ms := [PV.val _, PV.sl _ _]) (qs := [PV.val _, PV.sl .v _]) (by decide) ty_57 (fun h => nomatch h) (by exact Nat.le_of_ble_eq_true rfl) (by exact rfl) (by exact (ToL.cons (PV.To.refl _) (ToL.cons PV.to_none ToL.nil))) (by exact (BorL.cons (PV.bor_val _) (BorL.cons (PV.bor_sl _) BorL.nil)))) (y := ?_)
  refine RunS.s1 (x := loc_store (ag := true) (vs := [PV.val _, PV.sl _ _]) ty_57 (by exact ⟨⟩) (by exact rfl) (by exact Nat.le_of_ble_eq_true rfl)) (y := ?_)
  refine sw_ret ?_
  exact (Exists.intro 2 (Exists.intro _ (And.intro (by exact rfl) (And.intro (by exact rfl) (And.intro ty_57 (And.intro (fun h => nomatch h) True.intro))))))
theorem to_CondS {x : List Cond}  (hb : wtCondS x ≤ 1048576) : SCall Try.prog 135 [(false, [PV.sl .v (x.map cCond)])] (resRV [(false, [PV.sl (.own 181 3) (x.map cCond)])]) := by
  refine scall_of (rs := [(false, [PV.sl (.own 181 3) (x.map cCond)])]) Try.func135 rfl (Nat.le_of_ble_eq_true rfl) (borA_cons (BorL.cons (PV.bor_sl _) BorL.nil) borA_nil) ?_
  intro h0 w0 Fz0
  refine sw_len (s := 0) rfl fun hl0 => ?_
  try rw [List.length_map] at hl0
  have hbu := hb
  simp only [wtCondS] at hbu
  refine sw_seq ?_
  refine sw_reg ?_
  refine RunS.s1 (x := loc_const (.inr rfl) (by decide) (ok_nil (t := 181) (e := 3))) (y := ?_)
  refine sw_seq ?_
  refine sw_of (l := [(0, RV.sv false [PV.sl _ _]), (2, RV.sv false [PV.sl _ _])]) (b := []) (by exact ⟨rfl, rfl, ⟨⟩⟩) (by exact ⟨⟩) ?_
  refine sw_reg ?_
  refine RunS.s1 (x := loc_copy (r' := RV.sv false [PV.sl .v _]) (.inl rfl) (by decide) (by exact Cp.sv (ToL.cons PV.to_none ToL.nil) (BorL.cons (PV.bor_sl _) BorL.nil))) (y := ?_)
  refine RunS.s1 (x := loc_len (by decide) sl_43 (by first | exact List.length_map _ | exact rfl)) (y := ?_)
  refine RunS.step (by exact ⟨rfl, rfl, ⟨⟩⟩) (by exact ⟨⟩) (LocG.of rfl (loc_make (by decide) sl_54 z_181 rfl zo_181 (by exact ⟨⟩) (by exact ⟨⟩) (by exact rfl) (by exact rfl) (by omega) (by omega))) (free1 (Free.app (Free.app (Free.of_ rfl) rfl) rfl)) ?_
  refine RunS.s1 (x := loc_copy (.inr rfl) (by decide) (by exact Cp.hdr)) (y := ?_)
  refine sw_seq ?_
  refine sw_seq ?_
  refine sw_of (l := [(0, RV.sv false [PV.sl _ _]), (2, RV.sv false [PV.sl _ _]), (3, RV.hdr 7 _)]) (b := [(7, (181, _))]) (by exact ⟨rfl, rfl, rfl, ⟨⟩⟩) (by exact ⟨rfl, ⟨⟩⟩) ?_
  refine sw_reg ?_
  refine RunS.s1 (x := loc_const (.inr rfl) (by decide) (ok_sc rfl)) (y := ?_)
  refine sw_block ?_
  refine sw_of (l := [(0, RV.sv false [PV.sl _ _]), (2, RV.sv false [PV.sl _ _]), (3, RV.hdr 7 _), (4, RV.sv false [PV.val _])]) (b := [(7, (181, _))]) (by exact ⟨rfl, rfl, rfl, rfl, ⟨⟩⟩) (by exact ⟨rfl, ⟨⟩⟩) ?_
  refine sw_loop (l0 := [(0, RV.sv false [PV.sl _ _]), (2, RV.sv false [PV.sl _ _]), (3, RV.hdr 7 _)]) (b0 := []) (fun k : Nat => k ≤ x.length) (fun k : Nat => [(4, RV.int (k : Int))]) (fun k : Nat => [(7, (181, (filled x cCond [PV.val (.int .i64 0), PV.val (.int .i64 0), PV.val (.int .i64 0)] k).flatten))]) (fun k : Nat => x.length - k) 0 (by omega) (by exact ⟨rfl, rfl, rfl, ⟨⟩⟩) (by exact ⟨⟩) (by exact And.intro (by exact rfl) (True.intro)) (by exact And.intro (by rw [filled_zero]; exact rfl) (True.intro)) ?_
  rintro k hk
  refine sw_seq ?_
  refine sw_seq ?_
  refine sw_reg ?_
  refine RunS.s1 (x := loc_copy (.inl rfl) (by decide) (by exact Cp.sc)) (y := ?_)
  refine RunS.s1 (x := loc_copy (r' := RV.sv false [PV.sl .v _]) (.inl rfl) (by decide) (by exact Cp.sv (ToL.cons PV.to_none ToL.nil) (BorL.cons (PV.bor_sl _) BorL.nil))) (y := ?_)
  refine RunS.s1 (x := loc_len (by decide) sl_43 (by first | exact List.length_map _ | exact rfl)) (y := ?_)
  refine RunS.s1 (x := loc_lss (by decide) (by exact ⟨⟩) (by exact ⟨⟩)) (y := ?_)
  refine sw_cond (t := 11) rfl (fun hb1 => ?_) (fun hb1 => ?_)
  · try simp only [q1, q2, q3, q4, q5, q6, q7, q8, q9] at hb1
    have hlt : k < x.length := by omega
    have hwm := wt_mem (f := wtCond) hlt
    refine sw_skip ?_
    refine sw_seq ?_
    refine sw_block ?_
    refine sw_of (l := [(0, RV.sv false [PV.sl _ _]), (2, RV.sv false [PV.sl _ _]), (3, RV.hdr 7 _), (4, RV.sv false [PV.val _])]) (b := [(7, (181, _))]) (by exact ⟨rfl, rfl, rfl, rfl, ⟨⟩⟩) (by exact ⟨rfl, ⟨⟩⟩) ?_
    refine sw_reg ?_
    refine RunS.s1 (x := loc_copy (.inl rfl) (by decide) (by exact Cp.hdr)) (y := ?_)
    refine RunS.s1 (x := loc_copy (.inl rfl) (by decide) (by exact Cp.sc)) (y := ?_)
    refine RunS.s1 (x := loc_copy (r' := RV.sv false [PV.sl .v _]) (.inl rfl) (by decide) (by exact Cp.sv (ToL.cons PV.to_none ToL.nil) (BorL.cons (PV.bor_sl _) BorL.nil))) (y := ?_)
    refine RunS.s1 (x := loc_copy (.inl rfl) (by decide) (by exact Cp.sc)) (y := ?_)
    refine RunS.s1 (x := loc_index (by decide) sl_43 (by exact ⟨⟩) (by exact rfl) (by exact getm2 (by omega) rfl) (by exact rfl)) (y := ?_)
    refine RunS.s1 (x := loc_eload (qs := [PV.val _, PV.val _, PV.val _]) (by decide) ty_192 (fun h => nomatch h) (by exact Nat.le_of_ble_eq_true rfl) (by exact (ToL.cons (PV.To.refl _) (ToL.cons (PV.To.refl _) (ToL.cons (PV.To.refl _) ToL.nil)))) (by exact (BorL.cons (PV.bor_val _) (BorL.cons (PV.bor_val _) (BorL.cons (PV.bor_val _) BorL.nil))))) (y := ?_)
    refine RunS.s1 (x := loc_call (qs := [(true, [PV.val _, PV.val _, PV.val _])]) (as_ := [(true, [PV.val _, PV.val _, PV.val _])]) (by decide) c_180 (by exact (And.intro (by exact ⟨⟩) True.intro)) (by exact (And.intro (And.intro rfl (ToL.cons (PV.To.refl _) (ToL.cons (PV.To.refl _) (ToL.cons (PV.To.refl _) ToL.nil)))) True.intro)) (by exact to_Cond (by omega))) (y := ?_)
    refine RunS.s1 (x := loc_hindex (by decide) sl_54 (by exact ⟨⟩) (by exact rfl) (by omega)) (y := ?_)
    refine RunS.s1 (x := loc_store (ag := true) (vs := [PV.val _, PV.val _, PV.val _]) ty_181 (by exact ⟨⟩) (by exact rfl) (by exact fill_room (fun _ => rfl) rfl hlt)) (y := ?_)
    refine sw_of (l := [(0, RV.sv false [PV.sl _ _]), (2, RV.sv false [PV.sl _ _]), (3, RV.hdr 7 _), (4, RV.sv false [PV.val _])]) (b := [(7, (181, _))]) (by exact ⟨rfl, rfl, rfl, rfl, ⟨⟩⟩) (by exact ⟨rfl, ⟨⟩⟩) ?_
    refine sw_reg ?_
    refine RunS.s1 (x := loc_copy (.inl rfl) (by decide) (by exact Cp.sc)) (y := ?_)
    refine RunS.s1 (x := loc_add (by decide) (by exact ⟨⟩) (ok_sc rfl) (by unfold I64; omega)) (y := ?_)
    refine RunS.s1 (x := loc_copy (.inr rfl) (by decide) (by exact Cp.sc)) (y := ?_)
    refine Exists.intro (k + 1) (And.intro (by omega) (And.intro (by omega) (And.intro (And.intro (by exact ⟨rfl, rfl, rfl, ⟨⟩⟩) (by exact ⟨⟩)) (And.intro (by exact And.intro (by exact rfl) (True.intro)) (by exact And.intro (by exact congrArg (fun z => some (181, z)) (fill_next (e := 3) (fun _ => rfl) rfl hlt)) (True.intro))))))
  · try simp only [q1, q2, q3, q4, q5, q6, q7, q8, q9] at hb1
    have hlt : k = x.length := by omega
    refine sw_exit ?_
    refine sw_seq ?_
    refine sw_of (l := [(0, RV.sv false [PV.sl _ _]), (2, RV.sv false [PV.sl _ _]), (3, RV.hdr 7 _), (4, RV.sv false [PV.val _])]) (b := [(7, (181, _))]) (by exact ⟨rfl, rfl, rfl, rfl, ⟨⟩⟩) (by exact ⟨rfl, ⟨⟩⟩) ?_
    refine sw_reg ?_
    refine RunS.s1 (x := loc_freeze (es := (x.map cCond)) (e := 3) (.inl rfl) (by decide) (by rw [hlt, filled_all]) (by exact List.length_map _) (by intro c hc; obtain ⟨y, _, rfl⟩ := List.mem_map.1 hc; rfl)) (y := ?_)
    refine RunS.s1 (x := loc_take (.inr rfl) (by decide)) (y := ?_)
    refine sw_ret ?_
    exact (And.intro (by exact rfl) True.intro)
theorem to_RowS {p1 : Fl} {x : List Row}  (hb : wtRowS x ≤ 1048576) : SCall Try.prog 14 [(false, [PV.sl .v (x.map (cRow p1))])] (resRV [(false, [PV.sl (.own 57 2) (x.map (cRow (.own 3 1)))])]) := by
  refine scall_of (rs := [(false, [PV.sl (.own 57 2) (x.map (cRow (.own 3 1)))])]) Try.func14 rfl (Nat.le_of_ble_eq_true rfl) (borA_cons (BorL.cons (PV.bor_sl _) BorL.nil) borA_nil) ?_
  intro h0 w0 Fz0
  refine sw_len (s := 0) rfl fun hl0 => ?_
  try rw [List.length_map] at hl0
  have hbu := hb
  simp only [wtRowS] at hbu
  refine sw_seq ?_
  refine sw_reg ?_
  refine RunS.s1 (x := loc_const (.inr rfl) (by decide) (ok_nil (t := 57) (e := 2))) (y := ?_)
  refine sw_seq ?_
  refine sw_of (l := [(0, RV.sv false [PV.sl _ _]), (2, RV.sv false [PV.sl _ _])]) (b := []) (by exact ⟨rfl, rfl, ⟨⟩⟩) (by exact ⟨⟩) ?_
  refine sw_reg ?_
  refine RunS.s1 (x := loc_copy (r' := RV.sv false [PV.sl .v _]) (.inl rfl) (by decide) (by exact Cp.sv (ToL.cons PV.to_none ToL.nil) (BorL.cons (PV.bor_sl _) BorL.nil))) (y := ?_)
  refine RunS.s1 (x := loc_len (by decide) sl_22 (by first | exact List.length_map _ | exact rfl)) (y := ?_)
  refine RunS.step (by exact ⟨rfl, rfl, ⟨⟩⟩) (by exact ⟨⟩) (LocG.of rfl (loc_make (by decide) sl_25 z_57 rfl zo_57 (by exact ⟨⟩) (by exact ⟨⟩) (by exact rfl) (by exact rfl) (by omega) (by omega))) (free1 (Free.app (Free.app (Free.of_ rfl) rfl) rfl)) ?_
  refine RunS.s1 (x := loc_copy (.inr rfl) (by decide) (by exact Cp.hdr)) (y := ?_)
  refine sw_seq ?_
  refine sw_seq ?_
  refine sw_of (l := [(0, RV.sv false [PV.sl _ _]), (2, RV.sv false [PV.sl _ _]), (3, RV.hdr 7 _)]) (b := [(7, (57, _))]) (by exact ⟨rfl, rfl, rfl, ⟨⟩⟩) (by exact ⟨rfl, ⟨⟩⟩) ?_
  refine sw_reg ?_
  refine RunS.s1 (x := loc_const (.inr rfl) (by decide) (ok_sc rfl)) (y := ?_)
  refine sw_block ?_
  refine sw_of (l := [(0, RV.sv false [PV.sl _ _]), (2, RV.sv false [PV.sl _ _]), (3, RV.hdr 7 _), (4, RV.sv false [PV.val _])]) (b := [(7, (57, _))]) (by exact ⟨rfl, rfl, rfl, rfl, ⟨⟩⟩) (by exact ⟨rfl, ⟨⟩⟩) ?_
  refine sw_loop (l0 := [(0, RV.sv false [PV.sl _ _]), (2, RV.sv false [PV.sl _ _]), (3, RV.hdr 7 _)]) (b0 := []) (fun k : Nat => k ≤ x.length) (fun k : Nat => [(4, RV.int (k : Int))]) (fun k : Nat => [(7, (57, (filled x (cRow (.own 3 1)) [PV.val (.int .i64 0), PV.sl (.own 3 1) []] k).flatten))]) (fun k : Nat => x.length - k) 0 (by omega) (by exact ⟨rfl, rfl, rfl, ⟨⟩⟩) (by exact ⟨⟩) (by exact And.intro (by exact rfl) (True.intro)) (by exact And.intro (by rw [filled_zero]; exact rfl) (True.intro)) ?_
  rintro k hk
  refine sw_seq ?_
  refine sw_seq ?_
  refine sw_reg ?_
  refine RunS.s1 (x := loc_copy (.inl rfl) (by decide) (by exact Cp.sc)) (y := ?_)
  refine RunS.s1 (x := loc_copy (r' := RV.sv false [PV.sl .v _]) (.inl rfl) (by decide) (by exact Cp.sv (ToL.cons PV.to_none ToL.nil) (BorL.cons (PV.bor_sl _) BorL.nil))) (y := ?_)
  refine RunS.s1 (x := loc_len (by decide) sl_22 (by first | exact List.length_map _ | exact rfl)) (y := ?_)
  refine RunS.s1 (x := loc_lss (by decide) (by exact ⟨⟩) (by exact ⟨⟩)) (y := ?_)
  refine sw_cond (t := 11) rfl (fun hb1 => ?_) (fun hb1 => ?_)
  · try simp only [q1, q2, q3, q4, q5, q6, q7, q8, q9] at hb1
    have hlt : k < x.length := by omega
    have hwm := wt_mem (f := wtRow) hlt
    refine sw_skip ?_
    refine sw_seq ?_
    refine sw_block ?_
    refine sw_of (l := [(0, RV.sv false [PV.sl _ _]), (2, RV.sv false [PV.sl _ _]), (3, RV.hdr 7 _), (4, RV.sv false [PV.val _])]) (b := [(7, (57, _))]) (by exact ⟨rfl, rfl, rfl, rfl, ⟨⟩⟩) (by exact ⟨rfl, ⟨⟩⟩) ?_
    refine sw_reg ?_
    refine RunS.s1 (x := loc_copy (.inl rfl) (by decide) (by exact Cp.hdr)) (y := ?_)
    refine RunS.s1 (x := loc_copy (.inl rfl) (by decide) (by exact Cp.sc)) (y := ?_)
    refine RunS.s1 (x := loc_copy (r' := RV.sv false [PV.sl .v _]) (.inl rfl) (by decide) (by exact Cp.sv (ToL.cons PV.to_none ToL.nil) (BorL.cons (PV.bor_sl _) BorL.nil))) (y := ?_)
    refine RunS.s1 (x := loc_copy (.inl rfl) (by decide) (by exact Cp.sc)) (y := ?_)
    refine RunS.s1 (x := loc_index (by decide) sl_22 (by exact ⟨⟩) (by exact rfl) (by exact getm2 (by omega) rfl) (by exact rfl)) (y := ?_)
    refine RunS.s1 (x := loc_eload (qs := [PV.val _, PV.sl .v _]) (by decide) ty_47 (fun h => nomatch h) (by exact Nat.le_of_ble_eq_true rfl) (by exact (ToL.cons (PV.To.refl _) (ToL.cons PV.to_none ToL.nil))) (by exact (BorL.cons (PV.bor_val _) (BorL.cons (PV.bor_sl _) BorL.nil)))) (y := ?_)
    refine RunS.s1 (x := loc_call (qs := [(true, [PV.val _, PV.sl _ _])]) (as_ := [(true, [PV.val _, PV.sl .v _])]) (by decide) c_80 (by exact (And.intro (by exact ⟨⟩) True.intro)) (by exact (And.intro (And.intro rfl (ToL.cons (PV.To.refl _) (ToL.cons PV.to_none ToL.nil))) True.intro)) (by exact to_Row (by omega))) (y := ?_)
    refine RunS.s1 (x := loc_hindex (by decide) sl_25 (by exact ⟨⟩) (by exact rfl) (by omega)) (y := ?_)
    refine RunS.s1 (x := loc_store (ag := true) (vs := [PV.val _, PV.sl _ _]) ty_57 (by exact ⟨⟩) (by exact rfl) (by exact fill_room (fun _ => rfl) rfl hlt)) (y := ?_)
    refine sw_of (l := [(0, RV.sv false [PV.sl _ _]), (2, RV.sv false [PV.sl _ _]), (3, RV.hdr 7 _), (4, RV.sv false [PV.val _])]) (b := [(7, (57, _))]) (by exact ⟨rfl, rfl, rfl, rfl, ⟨⟩⟩) (by exact ⟨rfl, ⟨⟩⟩) ?_
    refine sw_reg ?_
    refine RunS.s1 (x := loc_copy (.inl rfl) (by decide) (by exact Cp.sc)) (y := ?_)
    refine RunS.s1 (x := loc_add (by decide) (by exact ⟨⟩) (ok_sc rfl) (by unfold I64; omega)) (y := ?_)
    refine RunS.s1 (x := loc_copy (.inr rfl) (by decide) (by exact Cp.sc)) (y := ?_)
    refine Exists.intro (k + 1) (And.intro (by omega) (And.intro (by omega) (And.intro (And.intro (by exact ⟨rfl, rfl, rfl, ⟨⟩⟩) (by exact ⟨⟩)) (And.intro (by exact And.intro (by exact rfl) (True.intro)) (by exact And.intro (by exact congrArg (fun z => some (57, z)) (fill_next (e := 2) (fun _ => rfl) rfl hlt)) (True.intro))))))
  · try simp only [q1, q2, q3, q4, q5, q6, q7, q8, q9] at hb1
    have hlt : k = x.length := by omega
    refine sw_exit ?_
    refine sw_seq ?_
    refine sw_of (l := [(0, RV.sv false [PV.sl _ _]), (2, RV.sv false [PV.sl _ _]), (3, RV.hdr 7 _), (4, RV.sv false [PV.val _])]) (b := [(7, (57, _))]) (by exact ⟨rfl, rfl, rfl, rfl, ⟨⟩⟩) (by exact ⟨rfl, ⟨⟩⟩) ?_
    refine sw_reg ?_
    refine RunS.s1 (x := loc_freeze (es := (x.map (cRow (.own 3 1)))) (e := 2) (.inl rfl) (by decide) (by rw [hlt, filled_all]) (by exact List.length_map _) (by intro c hc; obtain ⟨y, _, rfl⟩ := List.mem_map.1 hc; rfl)) (y := ?_)
    refine RunS.s1 (x := loc_take (.inr rfl) (by decide)) (y := ?_)
    refine sw_ret ?_
    exact (And.intro (by exact rfl) True.intro)
theorem to_Query {x : Query}  (hb : wtQuery x ≤ 1048576) : SCall Try.prog 66 [(true, [PV.val (vI x.Id), PV.val (vI x.Tenant), PV.sl .v (x.Conds.map cCond), PV.sl .v (x.Out.map cInt)])] (resRV [(true, [PV.val (vI x.Id), PV.val (vI x.Tenant), PV.sl (.own 181 3) (x.Conds.map cCond), PV.sl (.own 3 1) (x.Out.map cInt)])]) := by
  refine scall_of (rs := [(true, [PV.val (vI x.Id), PV.val (vI x.Tenant), PV.sl (.own 181 3) (x.Conds.map cCond), PV.sl (.own 3 1) (x.Out.map cInt)])]) Try.func66 rfl (Nat.le_of_ble_eq_true rfl) (borA_cons (BorL.cons (PV.bor_val _) (BorL.cons (PV.bor_val _) (BorL.cons (PV.bor_sl _) (BorL.cons (PV.bor_sl _) BorL.nil)))) borA_nil) ?_
  intro h0 w0 Fz0
  refine sw_slen (s := 0) (j := 2) rfl rfl fun hl0_2 => ?_
  try rw [List.length_map] at hl0_2
  refine sw_slen (s := 0) (j := 3) rfl rfl fun hl0_3 => ?_
  try rw [List.length_map] at hl0_3
  have hbu := hb
  simp only [wtQuery] at hbu
  refine sw_seq ?_
  refine sw_reg ?_
  refine RunS.step (by exact ⟨rfl, ⟨⟩⟩) (by exact ⟨⟩) (LocG.of rfl (loc_box (ag := true) (cs := [PV.val _, PV.val _, PV.sl _ _, PV.sl _ _]) (by decide) (by exact ⟨⟩))) (free1 (Free.of_ rfl)) ?_
  refine RunS.step (by exact ⟨⟩) (by exact ⟨⟩) (LocG.of rfl (loc_alloc (by decide) z_56 zo_56)) (free1 (Free.app (Free.of_ rfl) rfl)) ?_
  refine sw_seq ?_
  refine sw_of (l := [(1, RV.ptr 1 0), (2, RV.ptr 2 0)]) (b := [(1, (45, [PV.val _, PV.val _, PV.sl _ _, PV.sl _ _])), (2, (56, [PV.val _, PV.val _, PV.sl _ _, PV.sl _ _]))]) (by exact ⟨rfl, rfl, ⟨⟩⟩) (by exact ⟨rfl, rfl, ⟨⟩⟩) ?_
  refine sw_reg ?_
  refine RunS.step (by exact ⟨⟩) (by exact ⟨⟩) (LocG.of rfl (loc_alloc (by decide) z_56 zo_56)) (free1 (Free.of_ rfl)) ?_
  refine sw_seq ?_
  refine sw_of (l := [(1, RV.ptr 1 0), (2, RV.ptr 2 0), (3, RV.ptr 3 0)]) (b := [(1, (45, [PV.val _, PV.val _, PV.sl _ _, PV.sl _ _])), (2, (56, [PV.val _, PV.val _, PV.sl _ _, PV.sl _ _])), (3, (56, [PV.val _, PV.val _, PV.sl _ _, PV.sl _ _]))]) (by exact ⟨rfl, rfl, rfl, ⟨⟩⟩) (by exact ⟨rfl, rfl, rfl, ⟨⟩⟩) ?_
  refine sw_reg ?_
  refine RunS.s1 (x := loc_field (by decide) fd_45_0) (y := ?_)
  refine RunS.s1 (x := loc_load (qs := [PV.val _]) (by decide) ty_3 (fun _ => rfl) (by exact Nat.le_of_ble_eq_true rfl) (by exact (ToL.cons (PV.To.refl _) ToL.nil)) (by exact (BorL.cons (PV.bor_val _) BorL.nil))) (y := ?_)
  refine RunS.s1 (x := loc_field (by decide) fd_56_0) (y := ?_)
  refine RunS.s1 (x := loc_store (ag := false) (vs := [PV.val _]) ty_3 (by exact ⟨⟩) (by exact rfl) (by exact Nat.le_of_ble_eq_true rfl)) (y := ?_)
  refine sw_seq ?_
  refine sw_of (l := [(1, RV.ptr 1 0), (2, RV.ptr 2 0), (3, RV.ptr 3 0)]) (b := [(1, (45, [PV.val _, PV.val _, PV.sl _ _, PV.sl _ _])), (2, (56, [PV.val _, PV.val _, PV.sl _ _, PV.sl _ _])), (3, (56, [PV.val _, PV.val _, PV.sl _ _, PV.sl _ _]))]) (by exact ⟨rfl, rfl, rfl, ⟨⟩⟩) (by exact ⟨rfl, rfl, rfl, ⟨⟩⟩) ?_
  refine sw_reg ?_
  refine RunS.s1 (x := loc_field (by decide) fd_45_1) (y := ?_)
  refine RunS.s1 (x := loc_load (qs := [PV.val _]) (by decide) ty_3 (fun _ => rfl) (by exact Nat.le_of_ble_eq_true rfl) (by exact (ToL.cons (PV.To.refl _) ToL.nil)) (by exact (BorL.cons (PV.bor_val _) BorL.nil))) (y := ?_)
  refine RunS.s1 (x := loc_field (by decide) fd_56_1) (y := ?_)
  refine RunS.s1 (x := loc_store (ag := false) (vs := [PV.val _]) ty_3 (by exact ⟨⟩) (by exact rfl) (by exact Nat.le_of_ble_eq_true rfl)) (y := ?_)
  refine sw_seq ?_
  refine sw_of (l := [(1, RV.ptr 1 0), (2, RV.ptr 2 0), (3, RV.ptr 3 0)]) (b := [(1, (45, [PV.val _, PV.val _, PV.sl _ _, PV.sl _ _])), (2, (56, [PV.val _, PV.val _, PV.sl _ _, PV.sl _ _])), (3, (56, [PV.val _, PV.val _, PV.sl _ _, PV.sl _ _]))]) (by exact ⟨rfl, rfl, rfl, ⟨⟩⟩) (by exact ⟨rfl, rfl, rfl, ⟨⟩⟩) ?_
  refine sw_reg ?_
  refine RunS.s1 (x := loc_field (by decide) fd_45_2) (y := ?_)
  refine RunS.s1 (x := loc_load (qs := [PV.sl .v _]) (by decide) ty_43 (fun _ => rfl) (by exact Nat.le_of_ble_eq_true rfl) (by exact (ToL.cons PV.to_none ToL.nil)) (by exact (BorL.cons (PV.bor_sl _) BorL.nil))) (y := ?_)
  refine RunS.s1 (x := loc_call (qs := [(false, [PV.sl _ _])]) (as_ := [(false, [PV.sl .v _])]) (by decide) c_135 (by exact (And.intro (by exact ⟨⟩) True.intro)) (by exact (And.intro (And.intro rfl (ToL.cons PV.to_none ToL.nil)) True.intro)) (by exact to_CondS (by omega))) (y := ?_)
  refine RunS.s1 (x := loc_field (by decide) fd_56_2) (y := ?_)
  refine RunS.s1 (x := loc_store (ag := false) (vs := [PV.sl _ _]) ty_54 (by exact ⟨⟩) (by exact rfl) (by exact Nat.le_of_ble_eq_true rfl)) (y := ?_)
  refine sw_seq ?_
  refine sw_of (l := [(1, RV.ptr 1 0), (2, RV.ptr 2 0), (3, RV.ptr 3 0)]) (b := [(1, (45, [PV.val _, PV.val _, PV.sl _ _, PV.sl _ _])), (2, (56, [PV.val _, PV.val _, PV.sl _ _, PV.sl _ _])), (3, (56, [PV.val _, PV.val _, PV.sl _ _, PV.sl _ _]))]) (by exact ⟨rfl, rfl, rfl, ⟨⟩⟩) (by exact ⟨rfl, rfl, rfl, ⟨⟩⟩) ?_
  refine sw_reg ?_
  refine RunS.s1 (x := loc_field (by decide) fd_45_3) (y := ?_)
  refine RunS.s1 (x := loc_load (qs := [PV.sl .v _]) (by decide) ty_23 (fun _ => rfl) (by exact Nat.le_of_ble_eq_true rfl) (by exact (ToL.cons PV.to_none ToL.nil)) (by exact (BorL.cons (PV.bor_sl _) BorL.nil))) (y := ?_)
  refine RunS.s1 (x := loc_call (qs := [(false, [PV.sl _ _])]) (as_ := [(false, [PV.sl .v _])]) (by decide) c_15 (by exact (And.intro (by exact ⟨⟩) True.intro)) (by exact (And.intro (And.intro rfl (ToL.cons PV.to_none ToL.nil)) True.intro)) (by exact to_IntS (by omega))) (y := ?_)
  refine RunS.s1 (x := loc_field (by decide) fd_56_3) (y := ?_)
  refine RunS.s1 (x := loc_store (ag := false) (vs := [PV.sl _ _]) ty_23 (by exact ⟨⟩) (by exact rfl) (by exact Nat.le_of_ble_eq_true rfl)) (y := ?_)
  refine sw_seq ?_
  refine sw_of (l := [(1, RV.ptr 1 0), (2, RV.ptr 2 0), (3, RV.ptr 3 0)]) (b := [(1, (45, [PV.val _, PV.val _, PV.sl _ _, PV.sl _ _])), (2, (56, [PV.val _, PV.val _, PV.sl _ _, PV.sl _ _])), (3, (56, [PV.val _, PV.val _, PV.sl _ _, PV.sl _ _]))]) (by exact ⟨rfl, rfl, rfl, ⟨⟩⟩) (by exact ⟨rfl, rfl, rfl, ⟨⟩⟩) ?_
  refine sw_reg ?_
  refine RunS.s1 (x := loc_ltake (ms := [PV.val _, PV.val _, PV.sl _ _, PV.sl _ _]) (qs := [PV.val _, PV.val _, PV.sl .v _, PV.sl .v _]) (by decide) ty_56 (fun h => nomatch h) (by exact Nat.le_of_ble_eq_true rfl) (by exact rfl) (by exact (ToL.cons (PV.To.refl _) (ToL.cons (PV.To.refl _) (ToL.cons PV.to_none (ToL.cons PV.to_none ToL.nil))))) (by exact (BorL.cons (PV.bor_val _) (BorL.cons (PV.bor_val _) (BorL.cons (PV.bor_sl _) (BorL.cons (PV.bor_sl _) BorL.nil)))))) (y := ?_)
  refine RunS.s1 (x := loc_store (ag := true) (vs := [PV.val _, PV.val _, PV.sl _ _, PV.sl _ _]) ty_56 (by exact ⟨⟩) (by exact rfl) (by exact Nat.le_of_ble_eq_true rfl)) (y := ?_)
  refine sw_ret ?_
  exact (Exists.intro 2 (Exists.intro _ (And.intro (by exact rfl) (And.intro (by exact rfl) (And.intro ty_56 (And.intro (fun h => nomatch h) True.intro))))))
theorem to_RowSS {p1 p2 : Fl} {x : List (List Row)}  (hb : wtRowSS x ≤ 1048576) : SCall Try.prog 67 [(false, [PV.sl .v (x.map (cRowS p1 p2))])] (resRV [(false, [PV.sl (.own 25 1) (x.map (cRowS (.own 57 2) (.own 3 1)))])]) := by
  refine scall_of (rs := [(false, [PV.sl (.own 25 1) (x.map (cRowS (.own 57 2) (.own 3 1)))])]) Try.func67 rfl (Nat.le_of_ble_eq_true rfl) (borA_cons (BorL.cons (PV.bor_sl _) BorL.nil) borA_nil) ?_
  intro h0 w0 Fz0
  refine sw_len (s := 0) rfl fun hl0 => ?_
  try rw [List.length_map] at hl0
  have hbu := hb
  simp only [wtRowSS] at hbu
  refine sw_seq ?_
  refine sw_reg ?_
  refine RunS.s1 (x := loc_const (.inr rfl) (by decide) (ok_nil (t := 25) (e := 1))) (y := ?_)
  refine sw_seq ?_
  refine sw_of (l := [(0, RV.sv false [PV.sl _ _]), (2, RV.sv false [PV.sl _ _])]) (b := []) (by exact ⟨rfl, rfl, ⟨⟩⟩) (by exact ⟨⟩) ?_
  refine sw_reg ?_
  refine RunS.s1 (x := loc_copy (r' := RV.sv false [PV.sl .v _]) (.inl rfl) (by decide) (by exact Cp.sv (ToL.cons PV.to_none ToL.nil) (BorL.cons (PV.bor_sl _) BorL.nil))) (y := ?_)
  refine RunS.s1 (x := loc_len (by decide) sl_73 (by first | exact List.length_map _ | exact rfl)) (y := ?_)
  refine RunS.step (by exact ⟨rfl, rfl, ⟨⟩⟩) (by exact ⟨⟩) (LocG.of rfl (loc_make (by decide) sl_79 z_25 rfl zo_25 (by exact ⟨⟩) (by exact ⟨⟩) (by exact rfl) (by exact rfl) (by omega) (by omega))) (free1 (Free.app (Free.app (Free.of_ rfl) rfl) rfl)) ?_
  refine RunS.s1 (x := loc_copy (.inr rfl) (by decide) (by exact Cp.hdr)) (y := ?_)
  refine sw_seq ?_
  refine sw_seq ?_
  refine sw_of (l := [(0, RV.sv false [PV.sl _ _]), (2, RV.sv false [PV.sl _ _]), (3, RV.hdr 7 _)]) (b := [(7, (25, _))]) (by exact ⟨rfl, rfl, rfl, ⟨⟩⟩) (by exact ⟨rfl, ⟨⟩⟩) ?_
  refine sw_reg ?_
  refine RunS.s1 (x := loc_const (.inr rfl) (by decide) (ok_sc rfl)) (y := ?_)
  refine sw_block ?_
  refine sw_of (l := [(0, RV.sv false [PV.sl _ _]), (2, RV.sv false [PV.sl _ _]), (3, RV.hdr 7 _), (4, RV.sv false [PV.val _])]) (b := [(7, (25, _))]) (by exact ⟨rfl, rfl, rfl, rfl, ⟨⟩⟩) (by exact ⟨rfl, ⟨⟩⟩) ?_
  refine sw_loop (l0 := [(0, RV.sv false [PV.sl _ _]), (2, RV.sv false [PV.sl _ _]), (3, RV.hdr 7 _)]) (b0 := []) (fun k : Nat => k ≤ x.length) (fun k : Nat => [(4, RV.int (k : Int))]) (fun k : Nat => [(7, (25, (filled x (cRowS (.own 57 2) (.own 3 1)) [PV.sl (.own 57 2) []] k).flatten))]) (fun k : Nat => x.length - k) 0 (by omega) (by exact ⟨rfl, rfl, rfl, ⟨⟩⟩) (by exact ⟨⟩) (by exact And.intro (by exact rfl) (True.intro)) (by exact And.intro (by rw [filled_zero]; exact rfl) (True.intro)) ?_
  rintro k hk
  refine sw_seq ?_
  refine sw_seq ?_
  refine sw_reg ?_
  refine RunS.s1 (x := loc_copy (.inl rfl) (by decide) (by exact Cp.sc)) (y := ?_)
  refine RunS.s1 (x := loc_copy (r' := RV.sv false [PV.sl .v _]) (.inl rfl) (by decide) (by exact Cp.sv (ToL.cons PV.to_none ToL.nil) (BorL.cons (PV.bor_sl _) BorL.nil))) (y := ?_)
  refine RunS.s1 (x := loc_len (by decide) sl_73 (by first | exact List.length_map _ | exact rfl)) (y := ?_)
  refine RunS.s1 (x := loc_lss (by decide) (by exact ⟨⟩) (by exact ⟨⟩)) (y := ?_)
  refine sw_cond (t := 11) rfl (fun hb1 => ?_) (fun hb1 => ?_)
  · try simp only [q1, q2, q3, q4, q5, q6, q7, q8, q9] at hb1
    have hlt : k < x.length := by omega
    have hwm := wt_mem (f := wtRowS) hlt
    refine sw_skip ?_
    refine sw_seq ?_
    refine sw_block ?_
    refine sw_of (l := [(0, RV.sv false [PV.sl _ _]), (2, RV.sv false [PV.sl _ _]), (3, RV.hdr 7 _), (4, RV.sv false [PV.val _])]) (b := [(7, (25, _))]) (by exact ⟨rfl, rfl, rfl, rfl, ⟨⟩⟩) (by exact ⟨rfl, ⟨⟩⟩) ?_
    refine sw_reg ?_
    refine RunS.s1 (x := loc_copy (.inl rfl) (by decide) (by exact Cp.hdr)) (y := ?_)
    refine RunS.s1 (x := loc_copy (.inl rfl) (by decide) (by exact Cp.sc)) (y := ?_)
    refine RunS.s1 (x := loc_copy (r' := RV.sv false [PV.sl .v _]) (.inl rfl) (by decide) (by exact Cp.sv (ToL.cons PV.to_none ToL.nil) (BorL.cons (PV.bor_sl _) BorL.nil))) (y := ?_)
    refine RunS.s1 (x := loc_copy (.inl rfl) (by decide) (by exact Cp.sc)) (y := ?_)
    refine RunS.s1 (x := loc_index (by decide) sl_73 (by exact ⟨⟩) (by exact rfl) (by exact getm2 (by omega) rfl) (by exact rfl)) (y := ?_)
    refine RunS.s1 (x := loc_eload (qs := [PV.sl .v _]) (by decide) ty_22 (fun _ => rfl) (by exact Nat.le_of_ble_eq_true rfl) (by exact (ToL.cons PV.to_none ToL.nil)) (by exact (BorL.cons (PV.bor_sl _) BorL.nil))) (y := ?_)
    refine RunS.s1 (x := loc_call (qs := [(false, [PV.sl _ _])]) (as_ := [(false, [PV.sl .v _])]) (by decide) c_14 (by exact (And.intro (by exact ⟨⟩) True.intro)) (by exact (And.intro (And.intro rfl (ToL.cons PV.to_none ToL.nil)) True.intro)) (by exact to_RowS (by omega))) (y := ?_)
    refine RunS.s1 (x := loc_hindex (by decide) sl_79 (by exact ⟨⟩) (by exact rfl) (by omega)) (y := ?_)
    refine RunS.s1 (x := loc_store (ag := false) (vs := [PV.sl _ _]) ty_25 (by exact ⟨⟩) (by exact rfl) (by exact fill_room (fun _ => rfl) rfl hlt)) (y := ?_)
    refine sw_of (l := [(0, RV.sv false [PV.sl _ _]), (2, RV.sv false [PV.sl _ _]), (3, RV.hdr 7 _), (4, RV.sv false [PV.val _])]) (b := [(7, (25, _))]) (by exact ⟨rfl, rfl, rfl, rfl, ⟨⟩⟩) (by exact ⟨rfl, ⟨⟩⟩) ?_
    refine sw_reg ?_
    refine RunS.s1 (x := loc_copy (.inl rfl) (by decide) (by exact Cp.sc)) (y := ?_)
    refine RunS.s1 (x := loc_add (by decide) (by exact ⟨⟩) (ok_sc rfl) (by unfold I64; omega)) (y := ?_)
    refine RunS.s1 (x := loc_copy (.inr rfl) (by decide) (by exact Cp.sc)) (y := ?_)
    refine Exists.intro (k + 1) (And.intro (by omega) (And.intro (by omega) (And.intro (And.intro (by exact ⟨rfl, rfl, rfl, ⟨⟩⟩) (by exact ⟨⟩)) (And.intro (by exact And.intro (by exact rfl) (True.intro)) (by exact And.intro (by exact congrArg (fun z => some (25, z)) (fill_next (e := 1) (fun _ => rfl) rfl hlt)) (True.intro))))))
  · try simp only [q1, q2, q3, q4, q5, q6, q7, q8, q9] at hb1
    have hlt : k = x.length := by omega
    refine sw_exit ?_
    refine sw_seq ?_
    refine sw_of (l := [(0, RV.sv false [PV.sl _ _]), (2, RV.sv false [PV.sl _ _]), (3, RV.hdr 7 _), (4, RV.sv false [PV.val _])]) (b := [(7, (25, _))]) (by exact ⟨rfl, rfl, rfl, rfl, ⟨⟩⟩) (by exact ⟨rfl, ⟨⟩⟩) ?_
    refine sw_reg ?_
    refine RunS.s1 (x := loc_freeze (es := (x.map (cRowS (.own 57 2) (.own 3 1)))) (e := 1) (.inl rfl) (by decide) (by rw [hlt, filled_all]) (by exact List.length_map _) (by intro c hc; obtain ⟨y, _, rfl⟩ := List.mem_map.1 hc; rfl)) (y := ?_)
    refine RunS.s1 (x := loc_take (.inr rfl) (by decide)) (y := ?_)
    refine sw_ret ?_
    exact (And.intro (by exact rfl) True.intro)
theorem to_Cluster {p3 p4 p9 p10 p13 p14 : Fl} {x : Cluster}  (hb : wtCluster x ≤ 1048576) : SCall Try.prog 41 [(true, [PV.val (vI x.Query.Id), PV.val (vI x.Query.Tenant), PV.sl .v (x.Query.Conds.map cCond), PV.sl .v (x.Query.Out.map cInt), PV.sl .v (x.Parts.map (cRowS p3 p4)), PV.sl .v (x.Up.map cBool), PV.sl .v (x.At.map cInt), PV.sl .v (x.Pos.map cInt), PV.sl .v (x.Buffer.map (cRowS p9 p10)), PV.sl .v (x.Done.map cInt), PV.sl .v (x.Rows.map (cRowS p13 p14))])] (resRV [(true, [PV.val (vI x.Query.Id), PV.val (vI x.Query.Tenant), PV.sl (.own 181 3) (x.Query.Conds.map cCond), PV.sl (.own 3 1) (x.Query.Out.map cInt), PV.sl (.own 25 1) (x.Parts.map (cRowS (.own 57 2) (.own 3 1))), PV.sl (.own 4 1) (x.Up.map cBool), PV.sl (.own 3 1) (x.At.map cInt), PV.sl (.own 3 1) (x.Pos.map cInt), PV.sl (.own 25 1) (x.Buffer.map (cRowS (.own 57 2) (.own 3 1))), PV.sl (.own 3 1) (x.Done.map cInt), PV.sl (.own 25 1) (x.Rows.map (cRowS (.own 57 2) (.own 3 1)))])]) := by
  refine scall_of (rs := [(true, [PV.val (vI x.Query.Id), PV.val (vI x.Query.Tenant), PV.sl (.own 181 3) (x.Query.Conds.map cCond), PV.sl (.own 3 1) (x.Query.Out.map cInt), PV.sl (.own 25 1) (x.Parts.map (cRowS (.own 57 2) (.own 3 1))), PV.sl (.own 4 1) (x.Up.map cBool), PV.sl (.own 3 1) (x.At.map cInt), PV.sl (.own 3 1) (x.Pos.map cInt), PV.sl (.own 25 1) (x.Buffer.map (cRowS (.own 57 2) (.own 3 1))), PV.sl (.own 3 1) (x.Done.map cInt), PV.sl (.own 25 1) (x.Rows.map (cRowS (.own 57 2) (.own 3 1)))])]) Try.func41 rfl (Nat.le_of_ble_eq_true rfl) (borA_cons (BorL.cons (PV.bor_val _) (BorL.cons (PV.bor_val _) (BorL.cons (PV.bor_sl _) (BorL.cons (PV.bor_sl _) (BorL.cons (PV.bor_sl _) (BorL.cons (PV.bor_sl _) (BorL.cons (PV.bor_sl _) (BorL.cons (PV.bor_sl _) (BorL.cons (PV.bor_sl _) (BorL.cons (PV.bor_sl _) (BorL.cons (PV.bor_sl _) BorL.nil))))))))))) borA_nil) ?_
  intro h0 w0 Fz0
  refine sw_slen (s := 0) (j := 2) rfl rfl fun hl0_2 => ?_
  try rw [List.length_map] at hl0_2
  refine sw_slen (s := 0) (j := 3) rfl rfl fun hl0_3 => ?_
  try rw [List.length_map] at hl0_3
  refine sw_slen (s := 0) (j := 4) rfl rfl fun hl0_4 => ?_
  try rw [List.length_map] at hl0_4
  refine sw_slen (s := 0) (j := 5) rfl rfl fun hl0_5 => ?_
  try rw [List.length_map] at hl0_5
  refine sw_slen (s := 0) (j := 6) rfl rfl fun hl0_6 => ?_
  try rw [List.length_map] at hl0_6
  refine sw_slen (s := 0) (j := 7) rfl rfl fun hl0_7 => ?_
  try rw [List.length_map] at hl0_7
  refine sw_slen (s := 0) (j := 8) rfl rfl fun hl0_8 => ?_
  try rw [List.length_map] at hl0_8
  refine sw_slen (s := 0) (j := 9) rfl rfl fun hl0_9 => ?_
  try rw [List.length_map] at hl0_9
  refine sw_slen (s := 0) (j := 10) rfl rfl fun hl0_10 => ?_
  try rw [List.length_map] at hl0_10
  have hbu := hb
  simp only [wtCluster] at hbu
  refine sw_seq ?_
  refine sw_reg ?_
  refine RunS.step (by exact ⟨rfl, ⟨⟩⟩) (by exact ⟨⟩) (LocG.of rfl (loc_box (ag := true) (cs := [PV.val _, PV.val _, PV.sl _ _, PV.sl _ _, PV.sl _ _, PV.sl _ _, PV.sl _ _, PV.sl _ _, PV.sl _ _, PV.sl _ _, PV.sl _ _]) (by decide) (by exact ⟨⟩))) (free1 (Free.of_ rfl)) ?_
  refine RunS.step (by exact ⟨⟩) (by exact ⟨⟩) (LocG.of rfl (loc_alloc (by decide) z_81 zo_81)) (free1 (Free.app (Free.of_ rfl) rfl)) ?_
  refine sw_seq ?_
  refine sw_of (l := [(1, RV.ptr 1 0), (2, RV.ptr 2 0)]) (b := [(1, (76, [PV.val _, PV.val _, PV.sl _ _, PV.sl _ _, PV.sl _ _, PV.sl _ _, PV.sl _ _, PV.sl _ _, PV.sl _ _, PV.sl _ _, PV.sl _ _])), (2, (81, [PV.val _, PV.val _, PV.sl _ _, PV.sl _ _, PV.sl _ _, PV.sl _ _, PV.sl _ _, PV.sl _ _, PV.sl _ _, PV.sl _ _, PV.sl _ _]))]) (by exact ⟨rfl, rfl, ⟨⟩⟩) (by exact ⟨rfl, rfl, ⟨⟩⟩) ?_
  refine sw_reg ?_
  refine RunS.step (by exact ⟨⟩) (by exact ⟨⟩) (LocG.of rfl (loc_alloc (by decide) z_81 zo_81)) (free1 (Free.of_ rfl)) ?_
  refine sw_seq ?_
  refine sw_of (l := [(1, RV.ptr 1 0), (2, RV.ptr 2 0), (3, RV.ptr 3 0)]) (b := [(1, (76, [PV.val _, PV.val _, PV.sl _ _, PV.sl _ _, PV.sl _ _, PV.sl _ _, PV.sl _ _, PV.sl _ _, PV.sl _ _, PV.sl _ _, PV.sl _ _])), (2, (81, [PV.val _, PV.val _, PV.sl _ _, PV.sl _ _, PV.sl _ _, PV.sl _ _, PV.sl _ _, PV.sl _ _, PV.sl _ _, PV.sl _ _, PV.sl _ _])), (3, (81, [PV.val _, PV.val _, PV.sl _ _, PV.sl _ _, PV.sl _ _, PV.sl _ _, PV.sl _ _, PV.sl _ _, PV.sl _ _, PV.sl _ _, PV.sl _ _]))]) (by exact ⟨rfl, rfl, rfl, ⟨⟩⟩) (by exact ⟨rfl, rfl, rfl, ⟨⟩⟩) ?_
  refine sw_reg ?_
  refine RunS.s1 (x := loc_field (by decide) fd_76_0) (y := ?_)
  refine RunS.s1 (x := loc_load (qs := [PV.val _, PV.val _, PV.sl .v _, PV.sl .v _]) (by decide) ty_45 (fun h => nomatch h) (by exact Nat.le_of_ble_eq_true rfl) (by exact (ToL.cons (PV.To.refl _) (ToL.cons (PV.To.refl _) (ToL.cons PV.to_none (ToL.cons PV.to_none ToL.nil))))) (by exact (BorL.cons (PV.bor_val _) (BorL.cons (PV.bor_val _) (BorL.cons (PV.bor_sl _) (BorL.cons (PV.bor_sl _) BorL.nil)))))) (y := ?_)
  refine RunS.s1 (x := loc_call (qs := [(true, [PV.val _, PV.val _, PV.sl _ _, PV.sl _ _])]) (as_ := [(true, [PV.val _, PV.val _, PV.sl .v _, PV.sl .v _])]) (by decide) c_66 (by exact (And.intro (by exact ⟨⟩) True.intro)) (by exact (And.intro (And.intro rfl (ToL.cons (PV.To.refl _) (ToL.cons (PV.To.refl _) (ToL.cons PV.to_none (ToL.cons PV.to_none ToL.nil))))) True.intro)) (by exact to_Query (by omega))) (y := ?_)
  refine RunS.s1 (x := loc_field (by decide) fd_81_0) (y := ?_)
  refine RunS.s1 (x := loc_store (ag := true) (vs := [PV.val _, PV.val _, PV.sl _ _, PV.sl _ _]) ty_56 (by exact ⟨⟩) (by exact rfl) (by exact Nat.le_of_ble_eq_true rfl)) (y := ?_)
  refine sw_seq ?_
  refine sw_of (l := [(1, RV.ptr 1 0), (2, RV.ptr 2 0), (3, RV.ptr 3 0)]) (b := [(1, (76, [PV.val _, PV.val _, PV.sl _ _, PV.sl _ _, PV.sl _ _, PV.sl _ _, PV.sl _ _, PV.sl _ _, PV.sl _ _, PV.sl _ _, PV.sl _ _])), (2, (81, [PV.val _, PV.val _, PV.sl _ _, PV.sl _ _, PV.sl _ _, PV.sl _ _, PV.sl _ _, PV.sl _ _, PV.sl _ _, PV.sl _ _, PV.sl _ _])), (3, (81, [PV.val _, PV.val _, PV.sl _ _, PV.sl _ _, PV.sl _ _, PV.sl _ _, PV.sl _ _, PV.sl _ _, PV.sl _ _, PV.sl _ _, PV.sl _ _]))]) (by exact ⟨rfl, rfl, rfl, ⟨⟩⟩) (by exact ⟨rfl, rfl, rfl, ⟨⟩⟩) ?_
  refine sw_reg ?_
  refine RunS.s1 (x := loc_field (by decide) fd_76_1) (y := ?_)
  refine RunS.s1 (x := loc_load (qs := [PV.sl .v _]) (by decide) ty_73 (fun _ => rfl) (by exact Nat.le_of_ble_eq_true rfl) (by exact (ToL.cons PV.to_none ToL.nil)) (by exact (BorL.cons (PV.bor_sl _) BorL.nil))) (y := ?_)
  refine RunS.s1 (x := loc_call (qs := [(false, [PV.sl _ _])]) (as_ := [(false, [PV.sl .v _])]) (by decide) c_67 (by exact (And.intro (by exact ⟨⟩) True.intro)) (by exact (And.intro (And.intro rfl (ToL.cons PV.to_none ToL.nil)) True.intro)) (by exact to_RowSS (by omega))) (y := ?_)
  refine RunS.s1 (x := loc_field (by decide) fd_81_1) (y := ?_)
  refine RunS.s1 (x := loc_store (ag := false) (vs := [PV.sl _ _]) ty_79 (by exact ⟨⟩) (by exact rfl) (by exact Nat.le_of_ble_eq_true rfl)) (y := ?_)
  refine sw_seq ?_
  refine sw_of (l := [(1, RV.ptr 1 0), (2, RV.ptr 2 0), (3, RV.ptr 3 0)]) (b := [(1, (76, [PV.val _, PV.val _, PV.sl _ _, PV.sl _ _, PV.sl _ _, PV.sl _ _, PV.sl _ _, PV.sl _ _, PV.sl _ _, PV.sl _ _, PV.sl _ _])), (2, (81, [PV.val _, PV.val _, PV.sl _ _, PV.sl _ _, PV.sl _ _, PV.sl _ _, PV.sl _ _, PV.sl _ _, PV.sl _ _, PV.sl _ _, PV.sl _ _])), (3, (81, [PV.val _, PV.val _, PV.sl _ _, PV.sl _ _, PV.sl _ _, PV.sl _ _, PV.sl _ _, PV.sl _ _, PV.sl _ _, PV.sl _ _, PV.sl _ _]))]) (by exact ⟨rfl, rfl, rfl, ⟨⟩⟩) (by exact ⟨rfl, rfl, rfl, ⟨⟩⟩) ?_
  refine sw_reg ?_
  refine RunS.s1 (x := loc_field (by decide) fd_76_2) (y := ?_)
  refine RunS.s1 (x := loc_load (qs := [PV.sl .v _]) (by decide) ty_74 (fun _ => rfl) (by exact Nat.le_of_ble_eq_true rfl) (by exact (ToL.cons PV.to_none ToL.nil)) (by exact (BorL.cons (PV.bor_sl _) BorL.nil))) (y := ?_)
  refine RunS.s1 (x := loc_call (qs := [(false, [PV.sl _ _])]) (as_ := [(false, [PV.sl .v _])]) (by decide) c_115 (by exact (And.intro (by exact ⟨⟩) True.intro)) (by exact (And.intro (And.intro rfl (ToL.cons PV.to_none ToL.nil)) True.intro)) (by exact to_BoolS (by omega))) (y := ?_)
  refine RunS.s1 (x := loc_field (by decide) fd_81_2) (y := ?_)
  refine RunS.s1 (x := loc_store (ag := false) (vs := [PV.sl _ _]) ty_74 (by exact ⟨⟩) (by exact rfl) (by exact Nat.le_of_ble_eq_true rfl)) (y := ?_)
  refine sw_seq ?_
  refine sw_of (l := [(1, RV.ptr 1 0), (2, RV.ptr 2 0), (3, RV.ptr 3 0)]) (b := [(1, (76, [PV.val _, PV.val _, PV.sl _ _, PV.sl _ _, PV.sl _ _, PV.sl _ _, PV.sl _ _, PV.sl _ _, PV.sl _ _, PV.sl _ _, PV.sl _ _])), (2, (81, [PV.val _, PV.val _, PV.sl _ _, PV.sl _ _, PV.sl _ _, PV.sl _ _, PV.sl _ _, PV.sl _ _, PV.sl _ _, PV.sl _ _, PV.sl _ _])), (3, (81, [PV.val _, PV.val _, PV.sl _ _, PV.sl _ _, PV.sl _ _, PV.sl _ _, PV.sl _ _, PV.sl _ _, PV.sl _ _, PV.sl _ _, PV.sl _ _]))]) (by exact ⟨rfl, rfl, rfl, ⟨⟩⟩) (by exact ⟨rfl, rfl, rfl, ⟨⟩⟩) ?_
  refine sw_reg ?_
  refine RunS.s1 (x := loc_field (by decide) fd_76_3) (y := ?_)
  refine RunS.s1 (x := loc_load (qs := [PV.sl .v _]) (by decide) ty_23 (fun _ => rfl) (by exact Nat.le_of_ble_eq_true rfl) (by exact (ToL.cons PV.to_none ToL.nil)) (by exact (BorL.cons (PV.bor_sl _) BorL.nil))) (y := ?_)
  refine RunS.s1 (x := loc_call (qs := [(false, [PV.sl _ _])]) (as_ := [(false, [PV.sl .v _])]) (by decide) c_15 (by exact (And.intro (by exact ⟨⟩) True.intro)) (by exact (And.intro (And.intro rfl (ToL.cons PV.to_none ToL.nil)) True.intro)) (by exact to_IntS (by omega))) (y := ?_)
  refine RunS.s1 (x := loc_field (by decide) fd_81_3) (y := ?_)
  refine RunS.s1 (x := loc_store (ag := false) (vs := [PV.sl _ _]) ty_23 (by exact ⟨⟩) (by exact rfl) (by exact Nat.le_of_ble_eq_true rfl)) (y := ?_)
  refine sw_seq ?_
  refine sw_of (l := [(1, RV.ptr 1 0), (2, RV.ptr 2 0), (3, RV.ptr 3 0)]) (b := [(1, (76, [PV.val _, PV.val _, PV.sl _ _, PV.sl _ _, PV.sl _ _, PV.sl _ _, PV.sl _ _, PV.sl _ _, PV.sl _ _, PV.sl _ _, PV.sl _ _])), (2, (81, [PV.val _, PV.val _, PV.sl _ _, PV.sl _ _, PV.sl _ _, PV.sl _ _, PV.sl _ _, PV.sl _ _, PV.sl _ _, PV.sl _ _, PV.sl _ _])), (3, (81, [PV.val _, PV.val _, PV.sl _ _, PV.sl _ _, PV.sl _ _, PV.sl _ _, PV.sl _ _, PV.sl _ _, PV.sl _ _, PV.sl _ _, PV.sl _ _]))]) (by exact ⟨rfl, rfl, rfl, ⟨⟩⟩) (by exact ⟨rfl, rfl, rfl, ⟨⟩⟩) ?_
  refine sw_reg ?_
  refine RunS.s1 (x := loc_field (by decide) fd_76_4) (y := ?_)
  refine RunS.s1 (x := loc_load (qs := [PV.sl .v _]) (by decide) ty_23 (fun _ => rfl) (by exact Nat.le_of_ble_eq_true rfl) (by exact (ToL.cons PV.to_none ToL.nil)) (by exact (BorL.cons (PV.bor_sl _) BorL.nil))) (y := ?_)
  refine RunS.s1 (x := loc_call (qs := [(false, [PV.sl _ _])]) (as_ := [(false, [PV.sl .v _])]) (by decide) c_15 (by exact (And.intro (by exact ⟨⟩) True.intro)) (by exact (And.intro (And.intro rfl (ToL.cons PV.to_none ToL.nil)) True.intro)) (by exact to_IntS (by omega))) (y := ?_)
  refine RunS.s1 (x := loc_field (by decide) fd_81_4) (y := ?_)
  refine RunS.s1 (x := loc_store (ag := false) (vs := [PV.sl _ _]) ty_23 (by exact ⟨⟩) (by exact rfl) (by exact Nat.le_of_ble_eq_true rfl)) (y := ?_)
  refine sw_seq ?_
  refine sw_of (l := [(1, RV.ptr 1 0), (2, RV.ptr 2 0), (3, RV.ptr 3 0)]) (b := [(1, (76, [PV.val _, PV.val _, PV.sl _ _, PV.sl _ _, PV.sl _ _, PV.sl _ _, PV.sl _ _, PV.sl _ _, PV.sl _ _, PV.sl _ _, PV.sl _ _])), (2, (81, [PV.val _, PV.val _, PV.sl _ _, PV.sl _ _, PV.sl _ _, PV.sl _ _, PV.sl _ _, PV.sl _ _, PV.sl _ _, PV.sl _ _, PV.sl _ _])), (3, (81, [PV.val _, PV.val _, PV.sl _ _, PV.sl _ _, PV.sl _ _, PV.sl _ _, PV.sl _ _, PV.sl _ _, PV.sl _ _, PV.sl _ _, PV.sl _ _]))]) (by exact ⟨rfl, rfl, rfl, ⟨⟩⟩) (by exact ⟨rfl, rfl, rfl, ⟨⟩⟩) ?_
  refine sw_reg ?_
  refine RunS.s1 (x := loc_field (by decide) fd_76_5) (y := ?_)
  refine RunS.s1 (x := loc_load (qs := [PV.sl .v _]) (by decide) ty_73 (fun _ => rfl) (by exact Nat.le_of_ble_eq_true rfl) (by exact (ToL.cons PV.to_none ToL.nil)) (by exact (BorL.cons (PV.bor_sl _) BorL.nil))) (y := ?_)
  refine RunS.s1 (x := loc_call (qs := [(false, [PV.sl _ _])]) (as_ := [(false, [PV.sl .v _])]) (by decide) c_67 (by exact (And.intro (by exact ⟨⟩) True.intro)) (by exact (And.intro (And.intro rfl (ToL.cons PV.to_none ToL.nil)) True.intro)) (by exact to_RowSS (by omega))) (y := ?_)
  refine RunS.s1 (x := loc_field (by decide) fd_81_5) (y := ?_)
  refine RunS.s1 (x := loc_store (ag := false) (vs := [PV.sl _ _]) ty_79 (by exact ⟨⟩) (by exact rfl) (by exact Nat.le_of_ble_eq_true rfl)) (y := ?_)
  refine sw_seq ?_
  refine sw_of (l := [(1, RV.ptr 1 0), (2, RV.ptr 2 0), (3, RV.ptr 3 0)]) (b := [(1, (76, [PV.val _, PV.val _, PV.sl _ _, PV.sl _ _, PV.sl _ _, PV.sl _ _, PV.sl _ _, PV.sl _ _, PV.sl _ _, PV.sl _ _, PV.sl _ _])), (2, (81, [PV.val _, PV.val _, PV.sl _ _, PV.sl _ _, PV.sl _ _, PV.sl _ _, PV.sl _ _, PV.sl _ _, PV.sl _ _, PV.sl _ _, PV.sl _ _])), (3, (81, [PV.val _, PV.val _, PV.sl _ _, PV.sl _ _, PV.sl _ _, PV.sl _ _, PV.sl _ _, PV.sl _ _, PV.sl _ _, PV.sl _ _, PV.sl _ _]))]) (by exact ⟨rfl, rfl, rfl, ⟨⟩⟩) (by exact ⟨rfl, rfl, rfl, ⟨⟩⟩) ?_
  refine sw_reg ?_
  refine RunS.s1 (x := loc_field (by decide) fd_76_6) (y := ?_)
  refine RunS.s1 (x := loc_load (qs := [PV.sl .v _]) (by decide) ty_23 (fun _ => rfl) (by exact Nat.le_of_ble_eq_true rfl) (by exact (ToL.cons PV.to_none ToL.nil)) (by exact (BorL.cons (PV.bor_sl _) BorL.nil))) (y := ?_)
  refine RunS.s1 (x := loc_call (qs := [(false, [PV.sl _ _])]) (as_ := [(false, [PV.sl .v _])]) (by decide) c_15 (by exact (And.intro (by exact ⟨⟩) True.intro)) (by exact (And.intro (And.intro rfl (ToL.cons PV.to_none ToL.nil)) True.intro)) (by exact to_IntS (by omega))) (y := ?_)
  refine RunS.s1 (x := loc_field (by decide) fd_81_6) (y := ?_)
  refine RunS.s1 (x := loc_store (ag := false) (vs := [PV.sl _ _]) ty_23 (by exact ⟨⟩) (by exact rfl) (by exact Nat.le_of_ble_eq_true rfl)) (y := ?_)
  refine sw_seq ?_
  refine sw_of (l := [(1, RV.ptr 1 0), (2, RV.ptr 2 0), (3, RV.ptr 3 0)]) (b := [(1, (76, [PV.val _, PV.val _, PV.sl _ _, PV.sl _ _, PV.sl _ _, PV.sl _ _, PV.sl _ _, PV.sl _ _, PV.sl _ _, PV.sl _ _, PV.sl _ _])), (2, (81, [PV.val _, PV.val _, PV.sl _ _, PV.sl _ _, PV.sl _ _, PV.sl _ _, PV.sl _ _, PV.sl _ _, PV.sl _ _, PV.sl _ _, PV.sl _ _])), (3, (81, [PV.val _, PV.val _, PV.sl _ _, PV.sl _ _, PV.sl _ _, PV.sl _ _, PV.sl _ _, PV.sl _ _, PV.sl _ _, PV.sl _ _, PV.sl _ _]))]) (by exact ⟨rfl, rfl, rfl, ⟨⟩⟩) (by exact ⟨rfl, rfl, rfl, ⟨⟩⟩) ?_
  refine sw_reg ?_
  refine RunS.s1 (x := loc_field (by decide) fd_76_7) (y := ?_)
  refine RunS.s1 (x := loc_load (qs := [PV.sl .v _]) (by decide) ty_73 (fun _ => rfl) (by exact Nat.le_of_ble_eq_true rfl) (by exact (ToL.cons PV.to_none ToL.nil)) (by exact (BorL.cons (PV.bor_sl _) BorL.nil))) (y := ?_)
  refine RunS.s1 (x := loc_call (qs := [(false, [PV.sl _ _])]) (as_ := [(false, [PV.sl .v _])]) (by decide) c_67 (by exact (And.intro (by exact ⟨⟩) True.intro)) (by exact (And.intro (And.intro rfl (ToL.cons PV.to_none ToL.nil)) True.intro)) (by exact to_RowSS (by omega))) (y := ?_)
  refine RunS.s1 (x := loc_field (by decide) fd_81_7) (y := ?_)
  refine RunS.s1 (x := loc_store (ag := false) (vs := [PV.sl _ _]) ty_79 (by exact ⟨⟩) (by exact rfl) (by exact Nat.le_of_ble_eq_true rfl)) (y := ?_)
  refine sw_seq ?_
  refine sw_of (l := [(1, RV.ptr 1 0), (2, RV.ptr 2 0), (3, RV.ptr 3 0)]) (b := [(1, (76, [PV.val _, PV.val _, PV.sl _ _, PV.sl _ _, PV.sl _ _, PV.sl _ _, PV.sl _ _, PV.sl _ _, PV.sl _ _, PV.sl _ _, PV.sl _ _])), (2, (81, [PV.val _, PV.val _, PV.sl _ _, PV.sl _ _, PV.sl _ _, PV.sl _ _, PV.sl _ _, PV.sl _ _, PV.sl _ _, PV.sl _ _, PV.sl _ _])), (3, (81, [PV.val _, PV.val _, PV.sl _ _, PV.sl _ _, PV.sl _ _, PV.sl _ _, PV.sl _ _, PV.sl _ _, PV.sl _ _, PV.sl _ _, PV.sl _ _]))]) (by exact ⟨rfl, rfl, rfl, ⟨⟩⟩) (by exact ⟨rfl, rfl, rfl, ⟨⟩⟩) ?_
  refine sw_reg ?_
  refine RunS.s1 (x := loc_ltake (ms := [PV.val _, PV.val _, PV.sl _ _, PV.sl _ _, PV.sl _ _, PV.sl _ _, PV.sl _ _, PV.sl _ _, PV.sl _ _, PV.sl _ _, PV.sl _ _]) (qs := [PV.val _, PV.val _, PV.sl .v _, PV.sl .v _, PV.sl .v _, PV.sl .v _, PV.sl .v _, PV.sl .v _, PV.sl .v _, PV.sl .v _, PV.sl .v _]) (by decide) ty_81 (fun h => nomatch h) (by exact Nat.le_of_ble_eq_true rfl) (by exact rfl) (by exact (ToL.cons (PV.To.refl _) (ToL.cons (PV.To.refl _) (ToL.cons PV.to_none (ToL.cons PV.to_none (ToL.cons PV.to_none (ToL.cons PV.to_none (ToL.cons PV.to_none (ToL.cons PV.to_none (ToL.cons PV.to_none (ToL.cons PV.to_none (ToL.cons PV.to_none ToL.nil)))))))))))) (by exact (BorL.cons (PV.bor_val _) (BorL.cons (PV.bor_val _) (BorL.cons (PV.bor_sl _) (BorL.cons (PV.bor_sl _) (BorL.cons (PV.bor_sl _) (BorL.cons (PV.bor_sl _) (BorL.cons (PV.bor_sl _) (BorL.cons (PV.bor_sl _) (BorL.cons (PV.bor_sl _) (BorL.cons (PV.bor_sl _) (BorL.cons (PV.bor_sl _) BorL.nil))))))))))))) (y := ?_)
  refine RunS.s1 (x := loc_store (ag := true) (vs := [PV.val _, PV.val _, PV.sl _ _, PV.sl _ _, PV.sl _ _, PV.sl _ _, PV.sl _ _, PV.sl _ _, PV.sl _ _, PV.sl _ _, PV.sl _ _]) ty_81 (by exact ⟨⟩) (by exact rfl) (by exact Nat.le_of_ble_eq_true rfl)) (y := ?_)
  refine sw_ret ?_
  exact (Exists.intro 2 (Exists.intro _ (And.intro (by exact rfl) (And.intro (by exact rfl) (And.intro ty_81 (And.intro (fun h => nomatch h) True.intro))))))
end Go.Proofs.Ytcfbekjiiokcbaa
