/- What functions of the program compute. No condition. -/
import Derived.Test.YteflgldonmgejaaGreatDoorCSzActiveLines
import Derived.KernelRfl
set_option linter.unusedVariables false
set_option linter.unusedSimpArgs false
namespace Go.Proofs.YteflgldonmgejaaGreatDoor
open Go Go.RowKit M
set_option maxRecDepth 10000
attribute [local irreducible] PV.Lcl PV.LclR RV.Lcl
theorem to_IntS {x : List Int}  (hb : wtIntS x ≤ 1048576) : SCall Tryz.prog 34 [(false, [PV.sl .v (x.map cInt)])] (resRV [(false, [PV.sl (.own 3 1) (x.map cInt)])]) := by
 refine scall_of (rs := [(false, [PV.sl (.own 3 1) (x.map cInt)])]) Tryz.func34 rfl (Nat.le_of_ble_eq_true rfl) (borA_cons (BorL.cons (PV.bor_sl _) BorL.nil) borA_nil) ?_
 intro h0 w0 Fz0
 refine sw_len (s := 0) rfl fun hl0 => ?_
 try rw [List.length_map] at hl0
 have hbu := hb
 simp only [wtIntS] at hbu
 refine sw_seq ?_
 refine sw_reg ?_
 refine rA ?_ (x := loc_const (.inr rfl) (by decide) (ok_nil (t := 3) (e := 1)))
 refine sw_seq ?_
 refine sO [(0, _), (2, _)] [] ?_
 refine sw_reg ?_
 refine rA ?_ (x := vM false [PV.sl .v _])
 refine rA ?_ (x := lN sl_25)
 refine RunS.step (by exact ⟨rfl, rfl, ⟨⟩⟩) (by exact ⟨⟩) (LocG.of rfl (loc_make (by decide) sl_25 z_3 rfl zo_3 (by exact ⟨⟩) (by exact ⟨⟩) (by exact rfl) (by exact rfl) (by omega) (by omega))) (free1 (Free.app (Free.app (Free.of_ rfl) rfl) rfl)) ?_
 refine rA ?_ (x := cA Cp.hdr)
 refine sw_seq ?_
 refine sw_seq ?_
 refine sO [(0, _), (2, _), (3, _)] [(7, (3, _))] ?_
 refine sw_reg ?_
 refine rA ?_ (x := kA)
 refine sw_block ?_
 refine sO [(0, _), (2, _), (3, _), (4, _)] [(7, _)] ?_
 refine sw_loop (l0 := [(0, RV.sv false [PV.sl _ _]), (2, RV.sv false [PV.sl _ _]), (3, RV.hdr 7 _)]) (b0 := []) (fun k : Nat => k ≤ x.length) (fun k : Nat => [(4, RV.int (k : Int))]) (fun k : Nat => [(7, (3, (filled x cInt [PV.val (.int .i64 0)] k).flatten))]) (fun k : Nat => x.length - k) 0 (by omega) (by exact ⟨rfl, rfl, rfl, ⟨⟩⟩) (by exact ⟨⟩) (by exact And.intro (by exact rfl) (True.intro)) (by exact And.intro (by rw [filled_zero]; exact rfl) (True.intro)) ?_
 rintro k hk
 refine sw_seq ?_
 refine sw_seq ?_
 refine sw_reg ?_
 refine rA ?_ (x := sM)
 refine rA ?_ (x := vM false [PV.sl .v _])
 refine rA ?_ (x := lN sl_25)
 refine rA ?_ (x := B_lss)
 refine sw_cond (t := 11) rfl (fun hb1 => ?_) (fun hb1 => ?_)
 ·try simp only [q1, q2, q3, q4, q5, q6, q7, q8, q9] at hb1
  have hlt : k < x.length := by omega
  have hwm := wt_mem (f := wtInt) hlt
  refine sw_skip ?_
  refine sw_seq ?_
  refine sw_block ?_
  refine sO [(0, _), (2, _), (3, _), (4, _)] [(7, (3, _))] ?_
  refine sw_reg ?_
  refine rA ?_ (x := cM Cp.hdr)
  refine rA ?_ (x := sM)
  refine rA ?_ (x := vM false [PV.sl .v _])
  refine rA ?_ (x := sM)
  refine rA ?_ (x := loc_index (by decide) sl_25 (by exact ⟨⟩) (by exact rfl) (by exact getm2 (by omega) rfl) (by exact rfl))
  refine rA ?_ (x := lE [PV.val _] ty_3)
  refine rA ?_ (x := loc_hindex (by decide) sl_25 (by exact ⟨⟩) (by exact rfl) (by omega))
  refine rA ?_ (x := loc_store (ag := false) (vs := [PV.val _]) ty_3 (by exact ⟨⟩) (by exact rfl) (by exact fill_room (fun _ => rfl) rfl hlt))
  refine sO [(0, _), (2, _), (3, _), (4, _)] [(7, _)] ?_
  refine sw_reg ?_
  refine rA ?_ (x := sM)
  refine rA ?_ (x := B_add)
  refine rA ?_ (x := sA)
  refine Exists.intro (k + 1) (And.intro (by omega) (And.intro (by omega) (And.intro (And.intro (by exact ⟨rfl, rfl, rfl, ⟨⟩⟩) (by exact ⟨⟩)) (And.intro (by exact And.intro (by exact rfl) (True.intro)) (by exact And.intro (by exact congrArg (fun z => some (3, z)) (fill_next (e := 1) (fun _ => rfl) rfl hlt)) (True.intro))))))
 ·try simp only [q1, q2, q3, q4, q5, q6, q7, q8, q9] at hb1
  have hlt : k = x.length := by omega
  refine sw_exit ?_
  refine sw_seq ?_
  refine sO [(0, _), (2, _), (3, _), (4, _)] [(7, (3, _))] ?_
  refine sw_reg ?_
  refine rA ?_ (x := loc_freeze (es := (x.map cInt)) (e := 1) (.inl rfl) (by decide) (by rw [hlt, filled_all]) (by exact List.length_map _) (by intro c hc; obtain ⟨y, _, rfl⟩ := List.mem_map.1 hc; rfl))
  refine rA ?_ (x := tA)
  refine sw_ret ?_
  exact (And.intro (by exact rfl) True.intro)
theorem to_Cond {x : Cond}  (hb : wtCond x ≤ 1048576) : SCall Tryz.prog 272 [(true, [PV.val (vI x.Field), PV.val (vI x.Low), PV.val (vI x.High)])] (resRV [(true, [PV.val (vI x.Field), PV.val (vI x.Low), PV.val (vI x.High)])]) := by
 refine scall_of (rs := [(true, [PV.val (vI x.Field), PV.val (vI x.Low), PV.val (vI x.High)])]) Tryz.func272 rfl (Nat.le_of_ble_eq_true rfl) (borA_cons (BorL.cons (PV.bor_val _) (BorL.cons (PV.bor_val _) (BorL.cons (PV.bor_val _) BorL.nil))) borA_nil) ?_
 intro h0 w0 Fz0
 have hbu := hb
 simp only [wtCond] at hbu
 refine sw_seq ?_
 refine sw_reg ?_
 refine RunS.step (by exact ⟨rfl, ⟨⟩⟩) (by exact ⟨⟩) (LocG.of rfl (loc_box (ag := true) (cs := [PV.val _, PV.val _, PV.val _]) (by decide) (by exact ⟨⟩))) (free1 (Free.of_ rfl)) ?_
 refine RunS.step (by exact ⟨⟩) (by exact ⟨⟩) (LocG.of rfl (loc_alloc (by decide) z_165 zo_165)) (free1 (Free.app (Free.of_ rfl) rfl)) ?_
 refine sw_seq ?_
 refine sO [(1, _), (2, _)] [(1, (273, [PV.val _, PV.val _, PV.val _])), (2, (165, [PV.val _, PV.val _, PV.val _]))] ?_
 refine sw_reg ?_
 refine RunS.step (by exact ⟨⟩) (by exact ⟨⟩) (LocG.of rfl (loc_alloc (by decide) z_165 zo_165)) (free1 (Free.of_ rfl)) ?_
 refine sw_seq ?_
 refine sO [(1, _), (2, _), (3, _)] [(1, _), (2, _), (3, (165, [PV.val _, PV.val _, PV.val _]))] ?_
 refine sw_reg ?_
 refine rA ?_ (x := lF fd_273_0)
 refine rA ?_ (x := lD [PV.val _] ty_3)
 refine rA ?_ (x := lF fd_165_0)
 refine rA ?_ (x := loc_store (ag := false) (vs := [PV.val _]) ty_3 (by exact ⟨⟩) (by exact rfl) (by exact Nat.le_of_ble_eq_true rfl))
 refine sw_seq ?_
 refine sO [(1, _), (2, _), (3, _)] [(1, _), (2, _), (3, (165, [PV.val _, PV.val _, PV.val _]))] ?_
 refine sw_reg ?_
 refine rA ?_ (x := lF fd_273_1)
 refine rA ?_ (x := lD [PV.val _] ty_3)
 refine rA ?_ (x := lF fd_165_1)
 refine rA ?_ (x := loc_store (ag := false) (vs := [PV.val _]) ty_3 (by exact ⟨⟩) (by exact rfl) (by exact Nat.le_of_ble_eq_true rfl))
 refine sw_seq ?_
 refine sO [(1, _), (2, _), (3, _)] [(1, _), (2, _), (3, (165, [PV.val _, PV.val _, PV.val _]))] ?_
 refine sw_reg ?_
 refine rA ?_ (x := lF fd_273_2)
 refine rA ?_ (x := lD [PV.val _] ty_3)
 refine rA ?_ (x := lF fd_165_2)
 refine rA ?_ (x := loc_store (ag := false) (vs := [PV.val _]) ty_3 (by exact ⟨⟩) (by exact rfl) (by exact Nat.le_of_ble_eq_true rfl))
 refine sw_seq ?_
 refine sO [(1, _), (2, _), (3, _)] [(1, _), (2, _), (3, (165, [PV.val _, PV.val _, PV.val _]))] ?_
 refine sw_reg ?_
 refine rA ?_ (x := lD [PV.val _, PV.val _, PV.val _] ty_165)
 refine rA ?_ (x := loc_store (ag := true) (vs := [PV.val _, PV.val _, PV.val _]) ty_165 (by exact ⟨⟩) (by exact rfl) (by exact Nat.le_of_ble_eq_true rfl))
 refine sw_ret ?_
 exact (Exists.intro 2 (Exists.intro _ (And.intro (by exact rfl) (And.intro (by exact rfl) (And.intro ty_165 (And.intro (fun h => nomatch h) True.intro))))))
theorem to_Charge {x : Charge}  (hb : wtCharge x ≤ 1048576) : SCall Tryz.prog 90 [(true, [PV.val (vI x.Segment), PV.val (vI x.Base), PV.sl .v (x.Ids.map cInt), PV.sl .v (x.Tenants.map cInt), PV.sl .v (x.Rows.map cInt)])] (resRV [(true, [PV.val (vI x.Segment), PV.val (vI x.Base), PV.sl (.own 3 1) (x.Ids.map cInt), PV.sl (.own 3 1) (x.Tenants.map cInt), PV.sl (.own 3 1) (x.Rows.map cInt)])]) := by
 refine scall_of (rs := [(true, [PV.val (vI x.Segment), PV.val (vI x.Base), PV.sl (.own 3 1) (x.Ids.map cInt), PV.sl (.own 3 1) (x.Tenants.map cInt), PV.sl (.own 3 1) (x.Rows.map cInt)])]) Tryz.func90 rfl (Nat.le_of_ble_eq_true rfl) (borA_cons (BorL.cons (PV.bor_val _) (BorL.cons (PV.bor_val _) (BorL.cons (PV.bor_sl _) (BorL.cons (PV.bor_sl _) (BorL.cons (PV.bor_sl _) BorL.nil))))) borA_nil) ?_
 intro h0 w0 Fz0
 refine sw_slen (s := 0) (j := 2) rfl rfl fun hl0_2 => ?_
 try rw [List.length_map] at hl0_2
 refine sw_slen (s := 0) (j := 3) rfl rfl fun hl0_3 => ?_
 try rw [List.length_map] at hl0_3
 refine sw_slen (s := 0) (j := 4) rfl rfl fun hl0_4 => ?_
 try rw [List.length_map] at hl0_4
 have hbu := hb
 simp only [wtCharge] at hbu
 refine sw_seq ?_
 refine sw_reg ?_
 refine RunS.step (by exact ⟨rfl, ⟨⟩⟩) (by exact ⟨⟩) (LocG.of rfl (loc_box (ag := true) (cs := [PV.val _, PV.val _, PV.sl _ _, PV.sl _ _, PV.sl _ _]) (by decide) (by exact ⟨⟩))) (free1 (Free.of_ rfl)) ?_
 refine RunS.step (by exact ⟨⟩) (by exact ⟨⟩) (LocG.of rfl (loc_alloc (by decide) z_136 zo_136)) (free1 (Free.app (Free.of_ rfl) rfl)) ?_
 refine sw_seq ?_
 refine sO [(1, _), (2, _)] [(1, (126, [PV.val _, PV.val _, PV.sl _ _, PV.sl _ _, PV.sl _ _])), (2, (136, [PV.val _, PV.val _, PV.sl _ _, PV.sl _ _, PV.sl _ _]))] ?_
 refine sw_reg ?_
 refine RunS.step (by exact ⟨⟩) (by exact ⟨⟩) (LocG.of rfl (loc_alloc (by decide) z_136 zo_136)) (free1 (Free.of_ rfl)) ?_
 refine sw_seq ?_
 refine sO [(1, _), (2, _), (3, _)] [(1, _), (2, _), (3, (136, [PV.val _, PV.val _, PV.sl _ _, PV.sl _ _, PV.sl _ _]))] ?_
 refine sw_reg ?_
 refine rA ?_ (x := lF fd_126_0)
 refine rA ?_ (x := lD [PV.val _] ty_3)
 refine rA ?_ (x := lF fd_136_0)
 refine rA ?_ (x := loc_store (ag := false) (vs := [PV.val _]) ty_3 (by exact ⟨⟩) (by exact rfl) (by exact Nat.le_of_ble_eq_true rfl))
 refine sw_seq ?_
 refine sO [(1, _), (2, _), (3, _)] [(1, _), (2, _), (3, (136, [PV.val _, PV.val _, PV.sl _ _, PV.sl _ _, PV.sl _ _]))] ?_
 refine sw_reg ?_
 refine rA ?_ (x := lF fd_126_1)
 refine rA ?_ (x := lD [PV.val _] ty_3)
 refine rA ?_ (x := lF fd_136_1)
 refine rA ?_ (x := loc_store (ag := false) (vs := [PV.val _]) ty_3 (by exact ⟨⟩) (by exact rfl) (by exact Nat.le_of_ble_eq_true rfl))
 refine sw_seq ?_
 refine sO [(1, _), (2, _), (3, _)] [(1, _), (2, _), (3, (136, [PV.val _, PV.val _, PV.sl _ _, PV.sl _ _, PV.sl _ _]))] ?_
 refine sw_reg ?_
 refine rA ?_ (x := lF fd_126_2)
 refine rA ?_ (x := lD [PV.sl .v _] ty_25)
 refine rA ?_ (x := cL [(false, [PV.sl _ _])] [(false, [PV.sl .v _])] c_34 (hs := by exact to_IntS (by omega)))
 refine rA ?_ (x := lF fd_136_2)
 refine rA ?_ (x := loc_store (ag := false) (vs := [PV.sl _ _]) ty_25 (by exact ⟨⟩) (by exact rfl) (by exact Nat.le_of_ble_eq_true rfl))
 refine sw_seq ?_
 refine sO [(1, _), (2, _), (3, _)] [(1, _), (2, _), (3, (136, [PV.val _, PV.val _, PV.sl _ _, PV.sl _ _, PV.sl _ _]))] ?_
 refine sw_reg ?_
 refine rA ?_ (x := lF fd_126_3)
 refine rA ?_ (x := lD [PV.sl .v _] ty_25)
 refine rA ?_ (x := cL [(false, [PV.sl _ _])] [(false, [PV.sl .v _])] c_34 (hs := by exact to_IntS (by omega)))
 refine rA ?_ (x := lF fd_136_3)
 refine rA ?_ (x := loc_store (ag := false) (vs := [PV.sl _ _]) ty_25 (by exact ⟨⟩) (by exact rfl) (by exact Nat.le_of_ble_eq_true rfl))
 refine sw_seq ?_
 refine sO [(1, _), (2, _), (3, _)] [(1, _), (2, _), (3, (136, [PV.val _, PV.val _, PV.sl _ _, PV.sl _ _, PV.sl _ _]))] ?_
 refine sw_reg ?_
 refine rA ?_ (x := lF fd_126_4)
 refine rA ?_ (x := lD [PV.sl .v _] ty_25)
 refine rA ?_ (x := cL [(false, [PV.sl _ _])] [(false, [PV.sl .v _])] c_34 (hs := by exact to_IntS (by omega)))
 refine rA ?_ (x := lF fd_136_4)
 refine rA ?_ (x := loc_store (ag := false) (vs := [PV.sl _ _]) ty_25 (by exact ⟨⟩) (by exact rfl) (by exact Nat.le_of_ble_eq_true rfl))
 refine sw_seq ?_
 refine sO [(1, _), (2, _), (3, _)] [(1, _), (2, _), (3, (136, [PV.val _, PV.val _, PV.sl _ _, PV.sl _ _, PV.sl _ _]))] ?_
 refine sw_reg ?_
 refine rA ?_ (x := loc_ltake (ms := [PV.val _, PV.val _, PV.sl _ _, PV.sl _ _, PV.sl _ _]) (qs := [PV.val _, PV.val _, PV.sl .v _, PV.sl .v _, PV.sl .v _]) (by decide) ty_136 (fun h => nomatch h) (by exact Nat.le_of_ble_eq_true rfl) (by exact rfl) (by exact (ToL.cons (PV.To.refl _) (ToL.cons (PV.To.refl _) (ToL.cons PV.to_none (ToL.cons PV.to_none (ToL.cons PV.to_none ToL.nil)))))) (by exact (BorL.cons (PV.bor_val _) (BorL.cons (PV.bor_val _) (BorL.cons (PV.bor_sl _) (BorL.cons (PV.bor_sl _) (BorL.cons (PV.bor_sl _) BorL.nil)))))))
 refine rA ?_ (x := loc_store (ag := true) (vs := [PV.val _, PV.val _, PV.sl _ _, PV.sl _ _, PV.sl _ _]) ty_136 (by exact ⟨⟩) (by exact rfl) (by exact Nat.le_of_ble_eq_true rfl))
 refine sw_ret ?_
 exact (Exists.intro 2 (Exists.intro _ (And.intro (by exact rfl) (And.intro (by exact rfl) (And.intro ty_136 (And.intro (fun h => nomatch h) True.intro))))))
theorem to_Version {x : Version}  (hb : wtVersion x ≤ 1048576) : SCall Tryz.prog 223 [(true, [PV.val (vI x.Id), PV.sl .v (x.Values.map cInt), PV.val (vI x.Born), PV.val (vI x.Died)])] (resRV [(true, [PV.val (vI x.Id), PV.sl (.own 3 1) (x.Values.map cInt), PV.val (vI x.Born), PV.val (vI x.Died)])]) := by
 refine scall_of (rs := [(true, [PV.val (vI x.Id), PV.sl (.own 3 1) (x.Values.map cInt), PV.val (vI x.Born), PV.val (vI x.Died)])]) Tryz.func223 rfl (Nat.le_of_ble_eq_true rfl) (borA_cons (BorL.cons (PV.bor_val _) (BorL.cons (PV.bor_sl _) (BorL.cons (PV.bor_val _) (BorL.cons (PV.bor_val _) BorL.nil)))) borA_nil) ?_
 intro h0 w0 Fz0
 refine sw_slen (s := 0) (j := 1) rfl rfl fun hl0_1 => ?_
 try rw [List.length_map] at hl0_1
 have hbu := hb
 simp only [wtVersion] at hbu
 refine sw_seq ?_
 refine sw_reg ?_
 refine RunS.step (by exact ⟨rfl, ⟨⟩⟩) (by exact ⟨⟩) (LocG.of rfl (loc_box (ag := true) (cs := [PV.val _, PV.sl _ _, PV.val _, PV.val _]) (by decide) (by exact ⟨⟩))) (free1 (Free.of_ rfl)) ?_
 refine RunS.step (by exact ⟨⟩) (by exact ⟨⟩) (LocG.of rfl (loc_alloc (by decide) z_195 zo_195)) (free1 (Free.app (Free.of_ rfl) rfl)) ?_
 refine sw_seq ?_
 refine sO [(1, _), (2, _)] [(1, (231, [PV.val _, PV.sl _ _, PV.val _, PV.val _])), (2, (195, [PV.val _, PV.sl _ _, PV.val _, PV.val _]))] ?_
 refine sw_reg ?_
 refine RunS.step (by exact ⟨⟩) (by exact ⟨⟩) (LocG.of rfl (loc_alloc (by decide) z_195 zo_195)) (free1 (Free.of_ rfl)) ?_
 refine sw_seq ?_
 refine sO [(1, _), (2, _), (3, _)] [(1, _), (2, _), (3, (195, [PV.val _, PV.sl _ _, PV.val _, PV.val _]))] ?_
 refine sw_reg ?_
 refine rA ?_ (x := lF fd_231_0)
 refine rA ?_ (x := lD [PV.val _] ty_3)
 refine rA ?_ (x := lF fd_195_0)
 refine rA ?_ (x := loc_store (ag := false) (vs := [PV.val _]) ty_3 (by exact ⟨⟩) (by exact rfl) (by exact Nat.le_of_ble_eq_true rfl))
 refine sw_seq ?_
 refine sO [(1, _), (2, _), (3, _)] [(1, _), (2, _), (3, (195, [PV.val _, PV.sl _ _, PV.val _, PV.val _]))] ?_
 refine sw_reg ?_
 refine rA ?_ (x := lF fd_231_1)
 refine rA ?_ (x := lD [PV.sl .v _] ty_25)
 refine rA ?_ (x := cL [(false, [PV.sl _ _])] [(false, [PV.sl .v _])] c_34 (hs := by exact to_IntS (by omega)))
 refine rA ?_ (x := lF fd_195_1)
 refine rA ?_ (x := loc_store (ag := false) (vs := [PV.sl _ _]) ty_25 (by exact ⟨⟩) (by exact rfl) (by exact Nat.le_of_ble_eq_true rfl))
 refine sw_seq ?_
 refine sO [(1, _), (2, _), (3, _)] [(1, _), (2, _), (3, (195, [PV.val _, PV.sl _ _, PV.val _, PV.val _]))] ?_
 refine sw_reg ?_
 refine rA ?_ (x := lF fd_231_2)
 refine rA ?_ (x := lD [PV.val _] ty_3)
 refine rA ?_ (x := lF fd_195_2)
 refine rA ?_ (x := loc_store (ag := false) (vs := [PV.val _]) ty_3 (by exact ⟨⟩) (by exact rfl) (by exact Nat.le_of_ble_eq_true rfl))
 refine sw_seq ?_
 refine sO [(1, _), (2, _), (3, _)] [(1, _), (2, _), (3, (195, [PV.val _, PV.sl _ _, PV.val _, PV.val _]))] ?_
 refine sw_reg ?_
 refine rA ?_ (x := lF fd_231_3)
 refine rA ?_ (x := lD [PV.val _] ty_3)
 refine rA ?_ (x := lF fd_195_3)
 refine rA ?_ (x := loc_store (ag := false) (vs := [PV.val _]) ty_3 (by exact ⟨⟩) (by exact rfl) (by exact Nat.le_of_ble_eq_true rfl))
 refine sw_seq ?_
 refine sO [(1, _), (2, _), (3, _)] [(1, _), (2, _), (3, (195, [PV.val _, PV.sl _ _, PV.val _, PV.val _]))] ?_
 refine sw_reg ?_
 refine rA ?_ (x := loc_ltake (ms := [PV.val _, PV.sl _ _, PV.val _, PV.val _]) (qs := [PV.val _, PV.sl .v _, PV.val _, PV.val _]) (by decide) ty_195 (fun h => nomatch h) (by exact Nat.le_of_ble_eq_true rfl) (by exact rfl) (by exact (ToL.cons (PV.To.refl _) (ToL.cons PV.to_none (ToL.cons (PV.To.refl _) (ToL.cons (PV.To.refl _) ToL.nil))))) (by exact (BorL.cons (PV.bor_val _) (BorL.cons (PV.bor_sl _) (BorL.cons (PV.bor_val _) (BorL.cons (PV.bor_val _) BorL.nil))))))
 refine rA ?_ (x := loc_store (ag := true) (vs := [PV.val _, PV.sl _ _, PV.val _, PV.val _]) ty_195 (by exact ⟨⟩) (by exact rfl) (by exact Nat.le_of_ble_eq_true rfl))
 refine sw_ret ?_
 exact (Exists.intro 2 (Exists.intro _ (And.intro (by exact rfl) (And.intro (by exact rfl) (And.intro ty_195 (And.intro (fun h => nomatch h) True.intro))))))
theorem to_CondS {x : List Cond}  (hb : wtCondS x ≤ 1048576) : SCall Tryz.prog 224 [(false, [PV.sl .v (x.map cCond)])] (resRV [(false, [PV.sl (.own 165 3) (x.map cCond)])]) := by
 refine scall_of (rs := [(false, [PV.sl (.own 165 3) (x.map cCond)])]) Tryz.func224 rfl (Nat.le_of_ble_eq_true rfl) (borA_cons (BorL.cons (PV.bor_sl _) BorL.nil) borA_nil) ?_
 intro h0 w0 Fz0
 refine sw_len (s := 0) rfl fun hl0 => ?_
 try rw [List.length_map] at hl0
 have hbu := hb
 simp only [wtCondS] at hbu
 refine sw_seq ?_
 refine sw_reg ?_
 refine rA ?_ (x := loc_const (.inr rfl) (by decide) (ok_nil (t := 165) (e := 3)))
 refine sw_seq ?_
 refine sO [(0, _), (2, _)] [] ?_
 refine sw_reg ?_
 refine rA ?_ (x := vM false [PV.sl .v _])
 refine rA ?_ (x := lN sl_115)
 refine RunS.step (by exact ⟨rfl, rfl, ⟨⟩⟩) (by exact ⟨⟩) (LocG.of rfl (loc_make (by decide) sl_49 z_165 rfl zo_165 (by exact ⟨⟩) (by exact ⟨⟩) (by exact rfl) (by exact rfl) (by omega) (by omega))) (free1 (Free.app (Free.app (Free.of_ rfl) rfl) rfl)) ?_
 refine rA ?_ (x := cA Cp.hdr)
 refine sw_seq ?_
 refine sw_seq ?_
 refine sO [(0, _), (2, _), (3, _)] [(7, (165, _))] ?_
 refine sw_reg ?_
 refine rA ?_ (x := kA)
 refine sw_block ?_
 refine sO [(0, _), (2, _), (3, _), (4, _)] [(7, _)] ?_
 refine sw_loop (l0 := [(0, RV.sv false [PV.sl _ _]), (2, RV.sv false [PV.sl _ _]), (3, RV.hdr 7 _)]) (b0 := []) (fun k : Nat => k ≤ x.length) (fun k : Nat => [(4, RV.int (k : Int))]) (fun k : Nat => [(7, (165, (filled x cCond [PV.val (.int .i64 0), PV.val (.int .i64 0), PV.val (.int .i64 0)] k).flatten))]) (fun k : Nat => x.length - k) 0 (by omega) (by exact ⟨rfl, rfl, rfl, ⟨⟩⟩) (by exact ⟨⟩) (by exact And.intro (by exact rfl) (True.intro)) (by exact And.intro (by rw [filled_zero]; exact rfl) (True.intro)) ?_
 rintro k hk
 refine sw_seq ?_
 refine sw_seq ?_
 refine sw_reg ?_
 refine rA ?_ (x := sM)
 refine rA ?_ (x := vM false [PV.sl .v _])
 refine rA ?_ (x := lN sl_115)
 refine rA ?_ (x := B_lss)
 refine sw_cond (t := 11) rfl (fun hb1 => ?_) (fun hb1 => ?_)
 ·try simp only [q1, q2, q3, q4, q5, q6, q7, q8, q9] at hb1
  have hlt : k < x.length := by omega
  have hwm := wt_mem (f := wtCond) hlt
  refine sw_skip ?_
  refine sw_seq ?_
  refine sw_block ?_
  refine sO [(0, _), (2, _), (3, _), (4, _)] [(7, (165, _))] ?_
  refine sw_reg ?_
  refine rA ?_ (x := cM Cp.hdr)
  refine rA ?_ (x := sM)
  refine rA ?_ (x := vM false [PV.sl .v _])
  refine rA ?_ (x := sM)
  refine rA ?_ (x := loc_index (by decide) sl_115 (by exact ⟨⟩) (by exact rfl) (by exact getm2 (by omega) rfl) (by exact rfl))
  refine rA ?_ (x := lE [PV.val _, PV.val _, PV.val _] ty_273)
  refine rA ?_ (x := cL [(true, [PV.val _, PV.val _, PV.val _])] [(true, [PV.val _, PV.val _, PV.val _])] c_272 (hs := by exact to_Cond (by omega)))
  refine rA ?_ (x := loc_hindex (by decide) sl_49 (by exact ⟨⟩) (by exact rfl) (by omega))
  refine rA ?_ (x := loc_store (ag := true) (vs := [PV.val _, PV.val _, PV.val _]) ty_165 (by exact ⟨⟩) (by exact rfl) (by exact fill_room (fun _ => rfl) rfl hlt))
  refine sO [(0, _), (2, _), (3, _), (4, _)] [(7, _)] ?_
  refine sw_reg ?_
  refine rA ?_ (x := sM)
  refine rA ?_ (x := B_add)
  refine rA ?_ (x := sA)
  refine Exists.intro (k + 1) (And.intro (by omega) (And.intro (by omega) (And.intro (And.intro (by exact ⟨rfl, rfl, rfl, ⟨⟩⟩) (by exact ⟨⟩)) (And.intro (by exact And.intro (by exact rfl) (True.intro)) (by exact And.intro (by exact congrArg (fun z => some (165, z)) (fill_next (e := 3) (fun _ => rfl) rfl hlt)) (True.intro))))))
 ·try simp only [q1, q2, q3, q4, q5, q6, q7, q8, q9] at hb1
  have hlt : k = x.length := by omega
  refine sw_exit ?_
  refine sw_seq ?_
  refine sO [(0, _), (2, _), (3, _), (4, _)] [(7, (165, _))] ?_
  refine sw_reg ?_
  refine rA ?_ (x := loc_freeze (es := (x.map cCond)) (e := 3) (.inl rfl) (by decide) (by rw [hlt, filled_all]) (by exact List.length_map _) (by intro c hc; obtain ⟨y, _, rfl⟩ := List.mem_map.1 hc; rfl))
  refine rA ?_ (x := tA)
  refine sw_ret ?_
  exact (And.intro (by exact rfl) True.intro)
theorem to_Row {x : Row}  (hb : wtRow x ≤ 1048576) : SCall Tryz.prog 225 [(true, [PV.val (vI x.Id), PV.sl .v (x.Values.map cInt)])] (resRV [(true, [PV.val (vI x.Id), PV.sl (.own 3 1) (x.Values.map cInt)])]) := by
 refine scall_of (rs := [(true, [PV.val (vI x.Id), PV.sl (.own 3 1) (x.Values.map cInt)])]) Tryz.func225 rfl (Nat.le_of_ble_eq_true rfl) (borA_cons (BorL.cons (PV.bor_val _) (BorL.cons (PV.bor_sl _) BorL.nil)) borA_nil) ?_
 intro h0 w0 Fz0
 refine sw_slen (s := 0) (j := 1) rfl rfl fun hl0_1 => ?_
 try rw [List.length_map] at hl0_1
 have hbu := hb
 simp only [wtRow] at hbu
 refine sw_seq ?_
 refine sw_reg ?_
 refine RunS.step (by exact ⟨rfl, ⟨⟩⟩) (by exact ⟨⟩) (LocG.of rfl (loc_box (ag := true) (cs := [PV.val _, PV.sl _ _]) (by decide) (by exact ⟨⟩))) (free1 (Free.of_ rfl)) ?_
 refine RunS.step (by exact ⟨⟩) (by exact ⟨⟩) (LocG.of rfl (loc_alloc (by decide) z_53 zo_53)) (free1 (Free.app (Free.of_ rfl) rfl)) ?_
 refine sw_seq ?_
 refine sO [(1, _), (2, _)] [(1, (234, [PV.val _, PV.sl _ _])), (2, (53, [PV.val _, PV.sl _ _]))] ?_
 refine sw_reg ?_
 refine RunS.step (by exact ⟨⟩) (by exact ⟨⟩) (LocG.of rfl (loc_alloc (by decide) z_53 zo_53)) (free1 (Free.of_ rfl)) ?_
 refine sw_seq ?_
 refine sO [(1, _), (2, _), (3, _)] [(1, _), (2, _), (3, (53, [PV.val _, PV.sl _ _]))] ?_
 refine sw_reg ?_
 refine rA ?_ (x := lF fd_234_0)
 refine rA ?_ (x := lD [PV.val _] ty_3)
 refine rA ?_ (x := lF fd_53_0)
 refine rA ?_ (x := loc_store (ag := false) (vs := [PV.val _]) ty_3 (by exact ⟨⟩) (by exact rfl) (by exact Nat.le_of_ble_eq_true rfl))
 refine sw_seq ?_
 refine sO [(1, _), (2, _), (3, _)] [(1, _), (2, _), (3, (53, [PV.val _, PV.sl _ _]))] ?_
 refine sw_reg ?_
 refine rA ?_ (x := lF fd_234_1)
 refine rA ?_ (x := lD [PV.sl .v _] ty_25)
 refine rA ?_ (x := cL [(false, [PV.sl _ _])] [(false, [PV.sl .v _])] c_34 (hs := by exact to_IntS (by omega)))
 refine rA ?_ (x := lF fd_53_1)
 refine rA ?_ (x := loc_store (ag := false) (vs := [PV.sl _ _]) ty_25 (by exact ⟨⟩) (by exact rfl) (by exact Nat.le_of_ble_eq_true rfl))
 refine sw_seq ?_
 refine sO [(1, _), (2, _), (3, _)] [(1, _), (2, _), (3, (53, [PV.val _, PV.sl _ _]))] ?_
 refine sw_reg ?_
 refine rA ?_ (x := loc_ltake (ms := [PV.val _, PV.sl _ _]) (qs := [PV.val _, PV.sl .v _]) (by decide) ty_53 (fun h => nomatch h) (by exact Nat.le_of_ble_eq_true rfl) (by exact rfl) (by exact (ToL.cons (PV.To.refl _) (ToL.cons PV.to_none ToL.nil))) (by exact (BorL.cons (PV.bor_val _) (BorL.cons (PV.bor_sl _) BorL.nil))))
 refine rA ?_ (x := loc_store (ag := true) (vs := [PV.val _, PV.sl _ _]) ty_53 (by exact ⟨⟩) (by exact rfl) (by exact Nat.le_of_ble_eq_true rfl))
 refine sw_ret ?_
 exact (Exists.intro 2 (Exists.intro _ (And.intro (by exact rfl) (And.intro (by exact rfl) (And.intro ty_53 (And.intro (fun h => nomatch h) True.intro))))))
theorem to_ChargeS {p1 p2 p3 : Fl} {x : List Charge}  (hb : wtChargeS x ≤ 1048576) : SCall Tryz.prog 37 [(false, [PV.sl .v (x.map (cCharge p1 p2 p3))])] (resRV [(false, [PV.sl (.own 136 5) (x.map (cCharge (.own 3 1) (.own 3 1) (.own 3 1)))])]) := by
 refine scall_of (rs := [(false, [PV.sl (.own 136 5) (x.map (cCharge (.own 3 1) (.own 3 1) (.own 3 1)))])]) Tryz.func37 rfl (Nat.le_of_ble_eq_true rfl) (borA_cons (BorL.cons (PV.bor_sl _) BorL.nil) borA_nil) ?_
 intro h0 w0 Fz0
 refine sw_len (s := 0) rfl fun hl0 => ?_
 try rw [List.length_map] at hl0
 have hbu := hb
 simp only [wtChargeS] at hbu
 refine sw_seq ?_
 refine sw_reg ?_
 refine rA ?_ (x := loc_const (.inr rfl) (by decide) (ok_nil (t := 136) (e := 5)))
 refine sw_seq ?_
 refine sO [(0, _), (2, _)] [] ?_
 refine sw_reg ?_
 refine rA ?_ (x := vM false [PV.sl .v _])
 refine rA ?_ (x := lN sl_28)
 refine RunS.step (by exact ⟨rfl, rfl, ⟨⟩⟩) (by exact ⟨⟩) (LocG.of rfl (loc_make (by decide) sl_38 z_136 rfl zo_136 (by exact ⟨⟩) (by exact ⟨⟩) (by exact rfl) (by exact rfl) (by omega) (by omega))) (free1 (Free.app (Free.app (Free.of_ rfl) rfl) rfl)) ?_
 refine rA ?_ (x := cA Cp.hdr)
 refine sw_seq ?_
 refine sw_seq ?_
 refine sO [(0, _), (2, _), (3, _)] [(7, (136, _))] ?_
 refine sw_reg ?_
 refine rA ?_ (x := kA)
 refine sw_block ?_
 refine sO [(0, _), (2, _), (3, _), (4, _)] [(7, _)] ?_
 refine sw_loop (l0 := [(0, RV.sv false [PV.sl _ _]), (2, RV.sv false [PV.sl _ _]), (3, RV.hdr 7 _)]) (b0 := []) (fun k : Nat => k ≤ x.length) (fun k : Nat => [(4, RV.int (k : Int))]) (fun k : Nat => [(7, (136, (filled x (cCharge (.own 3 1) (.own 3 1) (.own 3 1)) [PV.val (.int .i64 0), PV.val (.int .i64 0), PV.sl (.own 3 1) [], PV.sl (.own 3 1) [], PV.sl (.own 3 1) []] k).flatten))]) (fun k : Nat => x.length - k) 0 (by omega) (by exact ⟨rfl, rfl, rfl, ⟨⟩⟩) (by exact ⟨⟩) (by exact And.intro (by exact rfl) (True.intro)) (by exact And.intro (by rw [filled_zero]; exact rfl) (True.intro)) ?_
 rintro k hk
 refine sw_seq ?_
 refine sw_seq ?_
 refine sw_reg ?_
 refine rA ?_ (x := sM)
 refine rA ?_ (x := vM false [PV.sl .v _])
 refine rA ?_ (x := lN sl_28)
 refine rA ?_ (x := B_lss)
 refine sw_cond (t := 11) rfl (fun hb1 => ?_) (fun hb1 => ?_)
 ·try simp only [q1, q2, q3, q4, q5, q6, q7, q8, q9] at hb1
  have hlt : k < x.length := by omega
  have hwm := wt_mem (f := wtCharge) hlt
  refine sw_skip ?_
  refine sw_seq ?_
  refine sw_block ?_
  refine sO [(0, _), (2, _), (3, _), (4, _)] [(7, (136, _))] ?_
  refine sw_reg ?_
  refine rA ?_ (x := cM Cp.hdr)
  refine rA ?_ (x := sM)
  refine rA ?_ (x := vM false [PV.sl .v _])
  refine rA ?_ (x := sM)
  refine rA ?_ (x := loc_index (by decide) sl_28 (by exact ⟨⟩) (by exact rfl) (by exact getm2 (by omega) rfl) (by exact rfl))
  refine rA ?_ (x := lE [PV.val _, PV.val _, PV.sl .v _, PV.sl .v _, PV.sl .v _] ty_126)
  refine rA ?_ (x := cL [(true, [PV.val _, PV.val _, PV.sl _ _, PV.sl _ _, PV.sl _ _])] [(true, [PV.val _, PV.val _, PV.sl .v _, PV.sl .v _, PV.sl .v _])] c_90 (hs := by exact to_Charge (by omega)))
  refine rA ?_ (x := loc_hindex (by decide) sl_38 (by exact ⟨⟩) (by exact rfl) (by omega))
  refine rA ?_ (x := loc_store (ag := true) (vs := [PV.val _, PV.val _, PV.sl _ _, PV.sl _ _, PV.sl _ _]) ty_136 (by exact ⟨⟩) (by exact rfl) (by exact fill_room (fun _ => rfl) rfl hlt))
  refine sO [(0, _), (2, _), (3, _), (4, _)] [(7, _)] ?_
  refine sw_reg ?_
  refine rA ?_ (x := sM)
  refine rA ?_ (x := B_add)
  refine rA ?_ (x := sA)
  refine Exists.intro (k + 1) (And.intro (by omega) (And.intro (by omega) (And.intro (And.intro (by exact ⟨rfl, rfl, rfl, ⟨⟩⟩) (by exact ⟨⟩)) (And.intro (by exact And.intro (by exact rfl) (True.intro)) (by exact And.intro (by exact congrArg (fun z => some (136, z)) (fill_next (e := 5) (fun _ => rfl) rfl hlt)) (True.intro))))))
 ·try simp only [q1, q2, q3, q4, q5, q6, q7, q8, q9] at hb1
  have hlt : k = x.length := by omega
  refine sw_exit ?_
  refine sw_seq ?_
  refine sO [(0, _), (2, _), (3, _), (4, _)] [(7, (136, _))] ?_
  refine sw_reg ?_
  refine rA ?_ (x := loc_freeze (es := (x.map (cCharge (.own 3 1) (.own 3 1) (.own 3 1)))) (e := 5) (.inl rfl) (by decide) (by rw [hlt, filled_all]) (by exact List.length_map _) (by intro c hc; obtain ⟨y, _, rfl⟩ := List.mem_map.1 hc; rfl))
  refine rA ?_ (x := tA)
  refine sw_ret ?_
  exact (And.intro (by exact rfl) True.intro)
theorem to_VersionS {p1 : Fl} {x : List Version}  (hb : wtVersionS x ≤ 1048576) : SCall Tryz.prog 157 [(false, [PV.sl .v (x.map (cVersion p1))])] (resRV [(false, [PV.sl (.own 195 4) (x.map (cVersion (.own 3 1)))])]) := by
 refine scall_of (rs := [(false, [PV.sl (.own 195 4) (x.map (cVersion (.own 3 1)))])]) Tryz.func157 rfl (Nat.le_of_ble_eq_true rfl) (borA_cons (BorL.cons (PV.bor_sl _) BorL.nil) borA_nil) ?_
 intro h0 w0 Fz0
 refine sw_len (s := 0) rfl fun hl0 => ?_
 try rw [List.length_map] at hl0
 have hbu := hb
 simp only [wtVersionS] at hbu
 refine sw_seq ?_
 refine sw_reg ?_
 refine rA ?_ (x := loc_const (.inr rfl) (by decide) (ok_nil (t := 195) (e := 4)))
 refine sw_seq ?_
 refine sO [(0, _), (2, _)] [] ?_
 refine sw_reg ?_
 refine rA ?_ (x := vM false [PV.sl .v _])
 refine rA ?_ (x := lN sl_190)
 refine RunS.step (by exact ⟨rfl, rfl, ⟨⟩⟩) (by exact ⟨⟩) (LocG.of rfl (loc_make (by decide) sl_138 z_195 rfl zo_195 (by exact ⟨⟩) (by exact ⟨⟩) (by exact rfl) (by exact rfl) (by omega) (by omega))) (free1 (Free.app (Free.app (Free.of_ rfl) rfl) rfl)) ?_
 refine rA ?_ (x := cA Cp.hdr)
 refine sw_seq ?_
 refine sw_seq ?_
 refine sO [(0, _), (2, _), (3, _)] [(7, (195, _))] ?_
 refine sw_reg ?_
 refine rA ?_ (x := kA)
 refine sw_block ?_
 refine sO [(0, _), (2, _), (3, _), (4, _)] [(7, _)] ?_
 refine sw_loop (l0 := [(0, RV.sv false [PV.sl _ _]), (2, RV.sv false [PV.sl _ _]), (3, RV.hdr 7 _)]) (b0 := []) (fun k : Nat => k ≤ x.length) (fun k : Nat => [(4, RV.int (k : Int))]) (fun k : Nat => [(7, (195, (filled x (cVersion (.own 3 1)) [PV.val (.int .i64 0), PV.sl (.own 3 1) [], PV.val (.int .i64 0), PV.val (.int .i64 0)] k).flatten))]) (fun k : Nat => x.length - k) 0 (by omega) (by exact ⟨rfl, rfl, rfl, ⟨⟩⟩) (by exact ⟨⟩) (by exact And.intro (by exact rfl) (True.intro)) (by exact And.intro (by rw [filled_zero]; exact rfl) (True.intro)) ?_
 rintro k hk
 refine sw_seq ?_
 refine sw_seq ?_
 refine sw_reg ?_
 refine rA ?_ (x := sM)
 refine rA ?_ (x := vM false [PV.sl .v _])
 refine rA ?_ (x := lN sl_190)
 refine rA ?_ (x := B_lss)
 refine sw_cond (t := 11) rfl (fun hb1 => ?_) (fun hb1 => ?_)
 ·try simp only [q1, q2, q3, q4, q5, q6, q7, q8, q9] at hb1
  have hlt : k < x.length := by omega
  have hwm := wt_mem (f := wtVersion) hlt
  refine sw_skip ?_
  refine sw_seq ?_
  refine sw_block ?_
  refine sO [(0, _), (2, _), (3, _), (4, _)] [(7, (195, _))] ?_
  refine sw_reg ?_
  refine rA ?_ (x := cM Cp.hdr)
  refine rA ?_ (x := sM)
  refine rA ?_ (x := vM false [PV.sl .v _])
  refine rA ?_ (x := sM)
  refine rA ?_ (x := loc_index (by decide) sl_190 (by exact ⟨⟩) (by exact rfl) (by exact getm2 (by omega) rfl) (by exact rfl))
  refine rA ?_ (x := lE [PV.val _, PV.sl .v _, PV.val _, PV.val _] ty_231)
  refine rA ?_ (x := cL [(true, [PV.val _, PV.sl _ _, PV.val _, PV.val _])] [(true, [PV.val _, PV.sl .v _, PV.val _, PV.val _])] c_223 (hs := by exact to_Version (by omega)))
  refine rA ?_ (x := loc_hindex (by decide) sl_138 (by exact ⟨⟩) (by exact rfl) (by omega))
  refine rA ?_ (x := loc_store (ag := true) (vs := [PV.val _, PV.sl _ _, PV.val _, PV.val _]) ty_195 (by exact ⟨⟩) (by exact rfl) (by exact fill_room (fun _ => rfl) rfl hlt))
  refine sO [(0, _), (2, _), (3, _), (4, _)] [(7, _)] ?_
  refine sw_reg ?_
  refine rA ?_ (x := sM)
  refine rA ?_ (x := B_add)
  refine rA ?_ (x := sA)
  refine Exists.intro (k + 1) (And.intro (by omega) (And.intro (by omega) (And.intro (And.intro (by exact ⟨rfl, rfl, rfl, ⟨⟩⟩) (by exact ⟨⟩)) (And.intro (by exact And.intro (by exact rfl) (True.intro)) (by exact And.intro (by exact congrArg (fun z => some (195, z)) (fill_next (e := 4) (fun _ => rfl) rfl hlt)) (True.intro))))))
 ·try simp only [q1, q2, q3, q4, q5, q6, q7, q8, q9] at hb1
  have hlt : k = x.length := by omega
  refine sw_exit ?_
  refine sw_seq ?_
  refine sO [(0, _), (2, _), (3, _), (4, _)] [(7, (195, _))] ?_
  refine sw_reg ?_
  refine rA ?_ (x := loc_freeze (es := (x.map (cVersion (.own 3 1)))) (e := 4) (.inl rfl) (by decide) (by rw [hlt, filled_all]) (by exact List.length_map _) (by intro c hc; obtain ⟨y, _, rfl⟩ := List.mem_map.1 hc; rfl))
  refine rA ?_ (x := tA)
  refine sw_ret ?_
  exact (And.intro (by exact rfl) True.intro)
theorem to_Query {x : Query}  (hb : wtQuery x ≤ 1048576) : SCall Tryz.prog 158 [(true, [PV.val (vI x.Id), PV.val (vI x.Tenant), PV.sl .v (x.Conds.map cCond), PV.sl .v (x.Out.map cInt)])] (resRV [(true, [PV.val (vI x.Id), PV.val (vI x.Tenant), PV.sl (.own 165 3) (x.Conds.map cCond), PV.sl (.own 3 1) (x.Out.map cInt)])]) := by
 refine scall_of (rs := [(true, [PV.val (vI x.Id), PV.val (vI x.Tenant), PV.sl (.own 165 3) (x.Conds.map cCond), PV.sl (.own 3 1) (x.Out.map cInt)])]) Tryz.func158 rfl (Nat.le_of_ble_eq_true rfl) (borA_cons (BorL.cons (PV.bor_val _) (BorL.cons (PV.bor_val _) (BorL.cons (PV.bor_sl _) (BorL.cons (PV.bor_sl _) BorL.nil)))) borA_nil) ?_
 intro h0 w0 Fz0
 refine sw_slen (s := 0) (j := 2) rfl rfl fun hl0_2 => ?_
 try rw [List.length_map] at hl0_2
 refine sw_slen (s := 0) (j := 3) rfl rfl fun hl0_3 => ?_
 try rw [List.length_map] at hl0_3
 have hbu := hb
 simp only [wtQuery] at hbu
 refine sw_seq ?_
 refine sw_reg ?_
 refine RunS.step (by exact ⟨rfl, ⟨⟩⟩) (by exact ⟨⟩) (LocG.of rfl (loc_box (ag := true) (cs := [PV.val _, PV.val _, PV.sl _ _, PV.sl _ _]) (by decide) (by exact ⟨⟩))) (free1 (Free.of_ rfl)) ?_
 refine RunS.step (by exact ⟨⟩) (by exact ⟨⟩) (LocG.of rfl (loc_alloc (by decide) z_51 zo_51)) (free1 (Free.app (Free.of_ rfl) rfl)) ?_
 refine sw_seq ?_
 refine sO [(1, _), (2, _)] [(1, (117, [PV.val _, PV.val _, PV.sl _ _, PV.sl _ _])), (2, (51, [PV.val _, PV.val _, PV.sl _ _, PV.sl _ _]))] ?_
 refine sw_reg ?_
 refine RunS.step (by exact ⟨⟩) (by exact ⟨⟩) (LocG.of rfl (loc_alloc (by decide) z_51 zo_51)) (free1 (Free.of_ rfl)) ?_
 refine sw_seq ?_
 refine sO [(1, _), (2, _), (3, _)] [(1, _), (2, _), (3, (51, [PV.val _, PV.val _, PV.sl _ _, PV.sl _ _]))] ?_
 refine sw_reg ?_
 refine rA ?_ (x := lF fd_117_0)
 refine rA ?_ (x := lD [PV.val _] ty_3)
 refine rA ?_ (x := lF fd_51_0)
 refine rA ?_ (x := loc_store (ag := false) (vs := [PV.val _]) ty_3 (by exact ⟨⟩) (by exact rfl) (by exact Nat.le_of_ble_eq_true rfl))
 refine sw_seq ?_
 refine sO [(1, _), (2, _), (3, _)] [(1, _), (2, _), (3, (51, [PV.val _, PV.val _, PV.sl _ _, PV.sl _ _]))] ?_
 refine sw_reg ?_
 refine rA ?_ (x := lF fd_117_1)
 refine rA ?_ (x := lD [PV.val _] ty_3)
 refine rA ?_ (x := lF fd_51_1)
 refine rA ?_ (x := loc_store (ag := false) (vs := [PV.val _]) ty_3 (by exact ⟨⟩) (by exact rfl) (by exact Nat.le_of_ble_eq_true rfl))
 refine sw_seq ?_
 refine sO [(1, _), (2, _), (3, _)] [(1, _), (2, _), (3, (51, [PV.val _, PV.val _, PV.sl _ _, PV.sl _ _]))] ?_
 refine sw_reg ?_
 refine rA ?_ (x := lF fd_117_2)
 refine rA ?_ (x := lD [PV.sl .v _] ty_115)
 refine rA ?_ (x := cL [(false, [PV.sl _ _])] [(false, [PV.sl .v _])] c_224 (hs := by exact to_CondS (by omega)))
 refine rA ?_ (x := lF fd_51_2)
 refine rA ?_ (x := loc_store (ag := false) (vs := [PV.sl _ _]) ty_49 (by exact ⟨⟩) (by exact rfl) (by exact Nat.le_of_ble_eq_true rfl))
 refine sw_seq ?_
 refine sO [(1, _), (2, _), (3, _)] [(1, _), (2, _), (3, (51, [PV.val _, PV.val _, PV.sl _ _, PV.sl _ _]))] ?_
 refine sw_reg ?_
 refine rA ?_ (x := lF fd_117_3)
 refine rA ?_ (x := lD [PV.sl .v _] ty_25)
 refine rA ?_ (x := cL [(false, [PV.sl _ _])] [(false, [PV.sl .v _])] c_34 (hs := by exact to_IntS (by omega)))
 refine rA ?_ (x := lF fd_51_3)
 refine rA ?_ (x := loc_store (ag := false) (vs := [PV.sl _ _]) ty_25 (by exact ⟨⟩) (by exact rfl) (by exact Nat.le_of_ble_eq_true rfl))
 refine sw_seq ?_
 refine sO [(1, _), (2, _), (3, _)] [(1, _), (2, _), (3, (51, [PV.val _, PV.val _, PV.sl _ _, PV.sl _ _]))] ?_
 refine sw_reg ?_
 refine rA ?_ (x := loc_ltake (ms := [PV.val _, PV.val _, PV.sl _ _, PV.sl _ _]) (qs := [PV.val _, PV.val _, PV.sl .v _, PV.sl .v _]) (by decide) ty_51 (fun h => nomatch h) (by exact Nat.le_of_ble_eq_true rfl) (by exact rfl) (by exact (ToL.cons (PV.To.refl _) (ToL.cons (PV.To.refl _) (ToL.cons PV.to_none (ToL.cons PV.to_none ToL.nil))))) (by exact (BorL.cons (PV.bor_val _) (BorL.cons (PV.bor_val _) (BorL.cons (PV.bor_sl _) (BorL.cons (PV.bor_sl _) BorL.nil))))))
 refine rA ?_ (x := loc_store (ag := true) (vs := [PV.val _, PV.val _, PV.sl _ _, PV.sl _ _]) ty_51 (by exact ⟨⟩) (by exact rfl) (by exact Nat.le_of_ble_eq_true rfl))
 refine sw_ret ?_
 exact (Exists.intro 2 (Exists.intro _ (And.intro (by exact rfl) (And.intro (by exact rfl) (And.intro ty_51 (And.intro (fun h => nomatch h) True.intro))))))
theorem to_RowS {p1 : Fl} {x : List Row}  (hb : wtRowS x ≤ 1048576) : SCall Tryz.prog 159 [(false, [PV.sl .v (x.map (cRow p1))])] (resRV [(false, [PV.sl (.own 53 2) (x.map (cRow (.own 3 1)))])]) := by
 refine scall_of (rs := [(false, [PV.sl (.own 53 2) (x.map (cRow (.own 3 1)))])]) Tryz.func159 rfl (Nat.le_of_ble_eq_true rfl) (borA_cons (BorL.cons (PV.bor_sl _) BorL.nil) borA_nil) ?_
 intro h0 w0 Fz0
 refine sw_len (s := 0) rfl fun hl0 => ?_
 try rw [List.length_map] at hl0
 have hbu := hb
 simp only [wtRowS] at hbu
 refine sw_seq ?_
 refine sw_reg ?_
 refine rA ?_ (x := loc_const (.inr rfl) (by decide) (ok_nil (t := 53) (e := 2)))
 refine sw_seq ?_
 refine sO [(0, _), (2, _)] [] ?_
 refine sw_reg ?_
 refine rA ?_ (x := vM false [PV.sl .v _])
 refine rA ?_ (x := lN sl_118)
 refine RunS.step (by exact ⟨rfl, rfl, ⟨⟩⟩) (by exact ⟨⟩) (LocG.of rfl (loc_make (by decide) sl_83 z_53 rfl zo_53 (by exact ⟨⟩) (by exact ⟨⟩) (by exact rfl) (by exact rfl) (by omega) (by omega))) (free1 (Free.app (Free.app (Free.of_ rfl) rfl) rfl)) ?_
 refine rA ?_ (x := cA Cp.hdr)
 refine sw_seq ?_
 refine sw_seq ?_
 refine sO [(0, _), (2, _), (3, _)] [(7, (53, _))] ?_
 refine sw_reg ?_
 refine rA ?_ (x := kA)
 refine sw_block ?_
 refine sO [(0, _), (2, _), (3, _), (4, _)] [(7, _)] ?_
 refine sw_loop (l0 := [(0, RV.sv false [PV.sl _ _]), (2, RV.sv false [PV.sl _ _]), (3, RV.hdr 7 _)]) (b0 := []) (fun k : Nat => k ≤ x.length) (fun k : Nat => [(4, RV.int (k : Int))]) (fun k : Nat => [(7, (53, (filled x (cRow (.own 3 1)) [PV.val (.int .i64 0), PV.sl (.own 3 1) []] k).flatten))]) (fun k : Nat => x.length - k) 0 (by omega) (by exact ⟨rfl, rfl, rfl, ⟨⟩⟩) (by exact ⟨⟩) (by exact And.intro (by exact rfl) (True.intro)) (by exact And.intro (by rw [filled_zero]; exact rfl) (True.intro)) ?_
 rintro k hk
 refine sw_seq ?_
 refine sw_seq ?_
 refine sw_reg ?_
 refine rA ?_ (x := sM)
 refine rA ?_ (x := vM false [PV.sl .v _])
 refine rA ?_ (x := lN sl_118)
 refine rA ?_ (x := B_lss)
 refine sw_cond (t := 11) rfl (fun hb1 => ?_) (fun hb1 => ?_)
 ·try simp only [q1, q2, q3, q4, q5, q6, q7, q8, q9] at hb1
  have hlt : k < x.length := by omega
  have hwm := wt_mem (f := wtRow) hlt
  refine sw_skip ?_
  refine sw_seq ?_
  refine sw_block ?_
  refine sO [(0, _), (2, _), (3, _), (4, _)] [(7, (53, _))] ?_
  refine sw_reg ?_
  refine rA ?_ (x := cM Cp.hdr)
  refine rA ?_ (x := sM)
  refine rA ?_ (x := vM false [PV.sl .v _])
  refine rA ?_ (x := sM)
  refine rA ?_ (x := loc_index (by decide) sl_118 (by exact ⟨⟩) (by exact rfl) (by exact getm2 (by omega) rfl) (by exact rfl))
  refine rA ?_ (x := lE [PV.val _, PV.sl .v _] ty_234)
  refine rA ?_ (x := cL [(true, [PV.val _, PV.sl _ _])] [(true, [PV.val _, PV.sl .v _])] c_225 (hs := by exact to_Row (by omega)))
  refine rA ?_ (x := loc_hindex (by decide) sl_83 (by exact ⟨⟩) (by exact rfl) (by omega))
  refine rA ?_ (x := loc_store (ag := true) (vs := [PV.val _, PV.sl _ _]) ty_53 (by exact ⟨⟩) (by exact rfl) (by exact fill_room (fun _ => rfl) rfl hlt))
  refine sO [(0, _), (2, _), (3, _), (4, _)] [(7, _)] ?_
  refine sw_reg ?_
  refine rA ?_ (x := sM)
  refine rA ?_ (x := B_add)
  refine rA ?_ (x := sA)
  refine Exists.intro (k + 1) (And.intro (by omega) (And.intro (by omega) (And.intro (And.intro (by exact ⟨rfl, rfl, rfl, ⟨⟩⟩) (by exact ⟨⟩)) (And.intro (by exact And.intro (by exact rfl) (True.intro)) (by exact And.intro (by exact congrArg (fun z => some (53, z)) (fill_next (e := 2) (fun _ => rfl) rfl hlt)) (True.intro))))))
 ·try simp only [q1, q2, q3, q4, q5, q6, q7, q8, q9] at hb1
  have hlt : k = x.length := by omega
  refine sw_exit ?_
  refine sw_seq ?_
  refine sO [(0, _), (2, _), (3, _), (4, _)] [(7, (53, _))] ?_
  refine sw_reg ?_
  refine rA ?_ (x := loc_freeze (es := (x.map (cRow (.own 3 1)))) (e := 2) (.inl rfl) (by decide) (by rw [hlt, filled_all]) (by exact List.length_map _) (by intro c hc; obtain ⟨y, _, rfl⟩ := List.mem_map.1 hc; rfl))
  refine rA ?_ (x := tA)
  refine sw_ret ?_
  exact (And.intro (by exact rfl) True.intro)
theorem to_VersionSS {p1 p2 : Fl} {x : List (List Version)}  (hb : wtVersionSS x ≤ 1048576) : SCall Tryz.prog 87 [(false, [PV.sl .v (x.map (cVersionS p1 p2))])] (resRV [(false, [PV.sl (.own 138 1) (x.map (cVersionS (.own 195 4) (.own 3 1)))])]) := by
 refine scall_of (rs := [(false, [PV.sl (.own 138 1) (x.map (cVersionS (.own 195 4) (.own 3 1)))])]) Tryz.func87 rfl (Nat.le_of_ble_eq_true rfl) (borA_cons (BorL.cons (PV.bor_sl _) BorL.nil) borA_nil) ?_
 intro h0 w0 Fz0
 refine sw_len (s := 0) rfl fun hl0 => ?_
 try rw [List.length_map] at hl0
 have hbu := hb
 simp only [wtVersionSS] at hbu
 refine sw_seq ?_
 refine sw_reg ?_
 refine rA ?_ (x := loc_const (.inr rfl) (by decide) (ok_nil (t := 138) (e := 1)))
 refine sw_seq ?_
 refine sO [(0, _), (2, _)] [] ?_
 refine sw_reg ?_
 refine rA ?_ (x := vM false [PV.sl .v _])
 refine rA ?_ (x := lN sl_22)
 refine RunS.step (by exact ⟨rfl, rfl, ⟨⟩⟩) (by exact ⟨⟩) (LocG.of rfl (loc_make (by decide) sl_33 z_138 rfl zo_138 (by exact ⟨⟩) (by exact ⟨⟩) (by exact rfl) (by exact rfl) (by omega) (by omega))) (free1 (Free.app (Free.app (Free.of_ rfl) rfl) rfl)) ?_
 refine rA ?_ (x := cA Cp.hdr)
 refine sw_seq ?_
 refine sw_seq ?_
 refine sO [(0, _), (2, _), (3, _)] [(7, (138, _))] ?_
 refine sw_reg ?_
 refine rA ?_ (x := kA)
 refine sw_block ?_
 refine sO [(0, _), (2, _), (3, _), (4, _)] [(7, _)] ?_
 refine sw_loop (l0 := [(0, RV.sv false [PV.sl _ _]), (2, RV.sv false [PV.sl _ _]), (3, RV.hdr 7 _)]) (b0 := []) (fun k : Nat => k ≤ x.length) (fun k : Nat => [(4, RV.int (k : Int))]) (fun k : Nat => [(7, (138, (filled x (cVersionS (.own 195 4) (.own 3 1)) [PV.sl (.own 195 4) []] k).flatten))]) (fun k : Nat => x.length - k) 0 (by omega) (by exact ⟨rfl, rfl, rfl, ⟨⟩⟩) (by exact ⟨⟩) (by exact And.intro (by exact rfl) (True.intro)) (by exact And.intro (by rw [filled_zero]; exact rfl) (True.intro)) ?_
 rintro k hk
 refine sw_seq ?_
 refine sw_seq ?_
 refine sw_reg ?_
 refine rA ?_ (x := sM)
 refine rA ?_ (x := vM false [PV.sl .v _])
 refine rA ?_ (x := lN sl_22)
 refine rA ?_ (x := B_lss)
 refine sw_cond (t := 11) rfl (fun hb1 => ?_) (fun hb1 => ?_)
 ·try simp only [q1, q2, q3, q4, q5, q6, q7, q8, q9] at hb1
  have hlt : k < x.length := by omega
  have hwm := wt_mem (f := wtVersionS) hlt
  refine sw_skip ?_
  refine sw_seq ?_
  refine sw_block ?_
  refine sO [(0, _), (2, _), (3, _), (4, _)] [(7, (138, _))] ?_
  refine sw_reg ?_
  refine rA ?_ (x := cM Cp.hdr)
  refine rA ?_ (x := sM)
  refine rA ?_ (x := vM false [PV.sl .v _])
  refine rA ?_ (x := sM)
  refine rA ?_ (x := loc_index (by decide) sl_22 (by exact ⟨⟩) (by exact rfl) (by exact getm2 (by omega) rfl) (by exact rfl))
  refine rA ?_ (x := lE [PV.sl .v _] ty_190)
  refine rA ?_ (x := cL [(false, [PV.sl _ _])] [(false, [PV.sl .v _])] c_157 (hs := by exact to_VersionS (by omega)))
  refine rA ?_ (x := loc_hindex (by decide) sl_33 (by exact ⟨⟩) (by exact rfl) (by omega))
  refine rA ?_ (x := loc_store (ag := false) (vs := [PV.sl _ _]) ty_138 (by exact ⟨⟩) (by exact rfl) (by exact fill_room (fun _ => rfl) rfl hlt))
  refine sO [(0, _), (2, _), (3, _), (4, _)] [(7, _)] ?_
  refine sw_reg ?_
  refine rA ?_ (x := sM)
  refine rA ?_ (x := B_add)
  refine rA ?_ (x := sA)
  refine Exists.intro (k + 1) (And.intro (by omega) (And.intro (by omega) (And.intro (And.intro (by exact ⟨rfl, rfl, rfl, ⟨⟩⟩) (by exact ⟨⟩)) (And.intro (by exact And.intro (by exact rfl) (True.intro)) (by exact And.intro (by exact congrArg (fun z => some (138, z)) (fill_next (e := 1) (fun _ => rfl) rfl hlt)) (True.intro))))))
 ·try simp only [q1, q2, q3, q4, q5, q6, q7, q8, q9] at hb1
  have hlt : k = x.length := by omega
  refine sw_exit ?_
  refine sw_seq ?_
  refine sO [(0, _), (2, _), (3, _), (4, _)] [(7, (138, _))] ?_
  refine sw_reg ?_
  refine rA ?_ (x := loc_freeze (es := (x.map (cVersionS (.own 195 4) (.own 3 1)))) (e := 1) (.inl rfl) (by decide) (by rw [hlt, filled_all]) (by exact List.length_map _) (by intro c hc; obtain ⟨y, _, rfl⟩ := List.mem_map.1 hc; rfl))
  refine rA ?_ (x := tA)
  refine sw_ret ?_
  exact (And.intro (by exact rfl) True.intro)
theorem to_Active {p4 : Fl} {x : Active}  (hb : wtActive x ≤ 1048576) : SCall Tryz.prog 88 [(true, [PV.val (vI x.Query.Id), PV.val (vI x.Query.Tenant), PV.sl .v (x.Query.Conds.map cCond), PV.sl .v (x.Query.Out.map cInt), PV.val (vI x.Time), PV.sl .v (x.Todo.map cInt), PV.val (vI x.Age), PV.val (vI x.Sent), PV.val (vI x.Cap), PV.sl .v (x.Rows.map (cRow p4))])] (resRV [(true, [PV.val (vI x.Query.Id), PV.val (vI x.Query.Tenant), PV.sl (.own 165 3) (x.Query.Conds.map cCond), PV.sl (.own 3 1) (x.Query.Out.map cInt), PV.val (vI x.Time), PV.sl (.own 3 1) (x.Todo.map cInt), PV.val (vI x.Age), PV.val (vI x.Sent), PV.val (vI x.Cap), PV.sl (.own 53 2) (x.Rows.map (cRow (.own 3 1)))])]) := by
 refine scall_of (rs := [(true, [PV.val (vI x.Query.Id), PV.val (vI x.Query.Tenant), PV.sl (.own 165 3) (x.Query.Conds.map cCond), PV.sl (.own 3 1) (x.Query.Out.map cInt), PV.val (vI x.Time), PV.sl (.own 3 1) (x.Todo.map cInt), PV.val (vI x.Age), PV.val (vI x.Sent), PV.val (vI x.Cap), PV.sl (.own 53 2) (x.Rows.map (cRow (.own 3 1)))])]) Tryz.func88 rfl (Nat.le_of_ble_eq_true rfl) (borA_cons (BorL.cons (PV.bor_val _) (BorL.cons (PV.bor_val _) (BorL.cons (PV.bor_sl _) (BorL.cons (PV.bor_sl _) (BorL.cons (PV.bor_val _) (BorL.cons (PV.bor_sl _) (BorL.cons (PV.bor_val _) (BorL.cons (PV.bor_val _) (BorL.cons (PV.bor_val _) (BorL.cons (PV.bor_sl _) BorL.nil)))))))))) borA_nil) ?_
 intro h0 w0 Fz0
 refine sw_slen (s := 0) (j := 2) rfl rfl fun hl0_2 => ?_
 try rw [List.length_map] at hl0_2
 refine sw_slen (s := 0) (j := 3) rfl rfl fun hl0_3 => ?_
 try rw [List.length_map] at hl0_3
 refine sw_slen (s := 0) (j := 5) rfl rfl fun hl0_5 => ?_
 try rw [List.length_map] at hl0_5
 refine sw_slen (s := 0) (j := 9) rfl rfl fun hl0_9 => ?_
 try rw [List.length_map] at hl0_9
 have hbu := hb
 simp only [wtActive] at hbu
 refine sw_seq ?_
 refine sw_reg ?_
 refine RunS.step (by exact ⟨rfl, ⟨⟩⟩) (by exact ⟨⟩) (LocG.of rfl (loc_box (ag := true) (cs := [PV.val _, PV.val _, PV.sl _ _, PV.sl _ _, PV.val _, PV.sl _ _, PV.val _, PV.val _, PV.val _, PV.sl _ _]) (by decide) (by exact ⟨⟩))) (free1 (Free.of_ rfl)) ?_
 refine RunS.step (by exact ⟨⟩) (by exact ⟨⟩) (LocG.of rfl (loc_alloc (by decide) z_85 zo_85)) (free1 (Free.app (Free.of_ rfl) rfl)) ?_
 refine sw_seq ?_
 refine sO [(1, _), (2, _)] [(1, (120, [PV.val _, PV.val _, PV.sl _ _, PV.sl _ _, PV.val _, PV.sl _ _, PV.val _, PV.val _, PV.val _, PV.sl _ _])), (2, (85, [PV.val _, PV.val _, PV.sl _ _, PV.sl _ _, PV.val _, PV.sl _ _, PV.val _, PV.val _, PV.val _, PV.sl _ _]))] ?_
 refine sw_reg ?_
 refine RunS.step (by exact ⟨⟩) (by exact ⟨⟩) (LocG.of rfl (loc_alloc (by decide) z_85 zo_85)) (free1 (Free.of_ rfl)) ?_
 refine sw_seq ?_
 refine sO [(1, _), (2, _), (3, _)] [(1, _), (2, _), (3, (85, [PV.val _, PV.val _, PV.sl _ _, PV.sl _ _, PV.val _, PV.sl _ _, PV.val _, PV.val _, PV.val _, PV.sl _ _]))] ?_
 refine sw_reg ?_
 refine rA ?_ (x := lF fd_120_0)
 refine rA ?_ (x := lD [PV.val _, PV.val _, PV.sl .v _, PV.sl .v _] ty_117)
 refine rA ?_ (x := cL [(true, [PV.val _, PV.val _, PV.sl _ _, PV.sl _ _])] [(true, [PV.val _, PV.val _, PV.sl .v _, PV.sl .v _])] c_158 (hs := by exact to_Query (by omega)))
 refine rA ?_ (x := lF fd_85_0)
 refine rA ?_ (x := loc_store (ag := true) (vs := [PV.val _, PV.val _, PV.sl _ _, PV.sl _ _]) ty_51 (by exact ⟨⟩) (by exact rfl) (by exact Nat.le_of_ble_eq_true rfl))
 refine sw_seq ?_
 refine sO [(1, _), (2, _), (3, _)] [(1, _), (2, _), (3, (85, [PV.val _, PV.val _, PV.sl _ _, PV.sl _ _, PV.val _, PV.sl _ _, PV.val _, PV.val _, PV.val _, PV.sl _ _]))] ?_
 refine sw_reg ?_
 refine rA ?_ (x := lF fd_120_1)
 refine rA ?_ (x := lD [PV.val _] ty_3)
 refine rA ?_ (x := lF fd_85_1)
 refine rA ?_ (x := loc_store (ag := false) (vs := [PV.val _]) ty_3 (by exact ⟨⟩) (by exact rfl) (by exact Nat.le_of_ble_eq_true rfl))
 refine sw_seq ?_
 refine sO [(1, _), (2, _), (3, _)] [(1, _), (2, _), (3, (85, [PV.val _, PV.val _, PV.sl _ _, PV.sl _ _, PV.val _, PV.sl _ _, PV.val _, PV.val _, PV.val _, PV.sl _ _]))] ?_
 refine sw_reg ?_
 refine rA ?_ (x := lF fd_120_2)
 refine rA ?_ (x := lD [PV.sl .v _] ty_25)
 refine rA ?_ (x := cL [(false, [PV.sl _ _])] [(false, [PV.sl .v _])] c_34 (hs := by exact to_IntS (by omega)))
 refine rA ?_ (x := lF fd_85_2)
 refine rA ?_ (x := loc_store (ag := false) (vs := [PV.sl _ _]) ty_25 (by exact ⟨⟩) (by exact rfl) (by exact Nat.le_of_ble_eq_true rfl))
 refine sw_seq ?_
 refine sO [(1, _), (2, _), (3, _)] [(1, _), (2, _), (3, (85, [PV.val _, PV.val _, PV.sl _ _, PV.sl _ _, PV.val _, PV.sl _ _, PV.val _, PV.val _, PV.val _, PV.sl _ _]))] ?_
 refine sw_reg ?_
 refine rA ?_ (x := lF fd_120_3)
 refine rA ?_ (x := lD [PV.val _] ty_3)
 refine rA ?_ (x := lF fd_85_3)
 refine rA ?_ (x := loc_store (ag := false) (vs := [PV.val _]) ty_3 (by exact ⟨⟩) (by exact rfl) (by exact Nat.le_of_ble_eq_true rfl))
 refine sw_seq ?_
 refine sO [(1, _), (2, _), (3, _)] [(1, _), (2, _), (3, (85, [PV.val _, PV.val _, PV.sl _ _, PV.sl _ _, PV.val _, PV.sl _ _, PV.val _, PV.val _, PV.val _, PV.sl _ _]))] ?_
 refine sw_reg ?_
 refine rA ?_ (x := lF fd_120_4)
 refine rA ?_ (x := lD [PV.val _] ty_3)
 refine rA ?_ (x := lF fd_85_4)
 refine rA ?_ (x := loc_store (ag := false) (vs := [PV.val _]) ty_3 (by exact ⟨⟩) (by exact rfl) (by exact Nat.le_of_ble_eq_true rfl))
 refine sw_seq ?_
 refine sO [(1, _), (2, _), (3, _)] [(1, _), (2, _), (3, (85, [PV.val _, PV.val _, PV.sl _ _, PV.sl _ _, PV.val _, PV.sl _ _, PV.val _, PV.val _, PV.val _, PV.sl _ _]))] ?_
 refine sw_reg ?_
 refine rA ?_ (x := lF fd_120_5)
 refine rA ?_ (x := lD [PV.val _] ty_3)
 refine rA ?_ (x := lF fd_85_5)
 refine rA ?_ (x := loc_store (ag := false) (vs := [PV.val _]) ty_3 (by exact ⟨⟩) (by exact rfl) (by exact Nat.le_of_ble_eq_true rfl))
 refine sw_seq ?_
 refine sO [(1, _), (2, _), (3, _)] [(1, _), (2, _), (3, (85, [PV.val _, PV.val _, PV.sl _ _, PV.sl _ _, PV.val _, PV.sl _ _, PV.val _, PV.val _, PV.val _, PV.sl _ _]))] ?_
 refine sw_reg ?_
 refine rA ?_ (x := lF fd_120_6)
 refine rA ?_ (x := lD [PV.sl .v _] ty_118)
 refine rA ?_ (x := cL [(false, [PV.sl _ _])] [(false, [PV.sl .v _])] c_159 (hs := by exact to_RowS (by omega)))
 refine rA ?_ (x := lF fd_85_6)
 refine rA ?_ (x := loc_store (ag := false) (vs := [PV.sl _ _]) ty_83 (by exact ⟨⟩) (by exact rfl) (by exact Nat.le_of_ble_eq_true rfl))
 refine sw_seq ?_
 refine sO [(1, _), (2, _), (3, _)] [(1, _), (2, _), (3, (85, [PV.val _, PV.val _, PV.sl _ _, PV.sl _ _, PV.val _, PV.sl _ _, PV.val _, PV.val _, PV.val _, PV.sl _ _]))] ?_
 refine sw_reg ?_
 refine rA ?_ (x := loc_ltake (ms := [PV.val _, PV.val _, PV.sl _ _, PV.sl _ _, PV.val _, PV.sl _ _, PV.val _, PV.val _, PV.val _, PV.sl _ _]) (qs := [PV.val _, PV.val _, PV.sl .v _, PV.sl .v _, PV.val _, PV.sl .v _, PV.val _, PV.val _, PV.val _, PV.sl .v _]) (by decide) ty_85 (fun h => nomatch h) (by exact Nat.le_of_ble_eq_true rfl) (by exact rfl) (by exact (ToL.cons (PV.To.refl _) (ToL.cons (PV.To.refl _) (ToL.cons PV.to_none (ToL.cons PV.to_none (ToL.cons (PV.To.refl _) (ToL.cons PV.to_none (ToL.cons (PV.To.refl _) (ToL.cons (PV.To.refl _) (ToL.cons (PV.To.refl _) (ToL.cons PV.to_none ToL.nil))))))))))) (by exact (BorL.cons (PV.bor_val _) (BorL.cons (PV.bor_val _) (BorL.cons (PV.bor_sl _) (BorL.cons (PV.bor_sl _) (BorL.cons (PV.bor_val _) (BorL.cons (PV.bor_sl _) (BorL.cons (PV.bor_val _) (BorL.cons (PV.bor_val _) (BorL.cons (PV.bor_val _) (BorL.cons (PV.bor_sl _) BorL.nil))))))))))))
 refine rA ?_ (x := loc_store (ag := true) (vs := [PV.val _, PV.val _, PV.sl _ _, PV.sl _ _, PV.val _, PV.sl _ _, PV.val _, PV.val _, PV.val _, PV.sl _ _]) ty_85 (by exact ⟨⟩) (by exact rfl) (by exact Nat.le_of_ble_eq_true rfl))
 refine sw_ret ?_
 exact (Exists.intro 2 (Exists.intro _ (And.intro (by exact rfl) (And.intro (by exact rfl) (And.intro ty_85 (And.intro (fun h => nomatch h) True.intro))))))
theorem to_Finished {p3 : Fl} {x : Finished}  (hb : wtFinished x ≤ 1048576) : SCall Tryz.prog 89 [(true, [PV.val (vI x.Query.Id), PV.val (vI x.Query.Tenant), PV.sl .v (x.Query.Conds.map cCond), PV.sl .v (x.Query.Out.map cInt), PV.val (vI x.Time), PV.val (vI x.Steps), PV.sl .v (x.Rows.map (cRow p3))])] (resRV [(true, [PV.val (vI x.Query.Id), PV.val (vI x.Query.Tenant), PV.sl (.own 165 3) (x.Query.Conds.map cCond), PV.sl (.own 3 1) (x.Query.Out.map cInt), PV.val (vI x.Time), PV.val (vI x.Steps), PV.sl (.own 53 2) (x.Rows.map (cRow (.own 3 1)))])]) := by
 refine scall_of (rs := [(true, [PV.val (vI x.Query.Id), PV.val (vI x.Query.Tenant), PV.sl (.own 165 3) (x.Query.Conds.map cCond), PV.sl (.own 3 1) (x.Query.Out.map cInt), PV.val (vI x.Time), PV.val (vI x.Steps), PV.sl (.own 53 2) (x.Rows.map (cRow (.own 3 1)))])]) Tryz.func89 rfl (Nat.le_of_ble_eq_true rfl) (borA_cons (BorL.cons (PV.bor_val _) (BorL.cons (PV.bor_val _) (BorL.cons (PV.bor_sl _) (BorL.cons (PV.bor_sl _) (BorL.cons (PV.bor_val _) (BorL.cons (PV.bor_val _) (BorL.cons (PV.bor_sl _) BorL.nil))))))) borA_nil) ?_
 intro h0 w0 Fz0
 refine sw_slen (s := 0) (j := 2) rfl rfl fun hl0_2 => ?_
 try rw [List.length_map] at hl0_2
 refine sw_slen (s := 0) (j := 3) rfl rfl fun hl0_3 => ?_
 try rw [List.length_map] at hl0_3
 refine sw_slen (s := 0) (j := 6) rfl rfl fun hl0_6 => ?_
 try rw [List.length_map] at hl0_6
 have hbu := hb
 simp only [wtFinished] at hbu
 refine sw_seq ?_
 refine sw_reg ?_
 refine RunS.step (by exact ⟨rfl, ⟨⟩⟩) (by exact ⟨⟩) (LocG.of rfl (loc_box (ag := true) (cs := [PV.val _, PV.val _, PV.sl _ _, PV.sl _ _, PV.val _, PV.val _, PV.sl _ _]) (by decide) (by exact ⟨⟩))) (free1 (Free.of_ rfl)) ?_
 refine RunS.step (by exact ⟨⟩) (by exact ⟨⟩) (LocG.of rfl (loc_alloc (by decide) z_132 zo_132)) (free1 (Free.app (Free.of_ rfl) rfl)) ?_
 refine sw_seq ?_
 refine sO [(1, _), (2, _)] [(1, (123, [PV.val _, PV.val _, PV.sl _ _, PV.sl _ _, PV.val _, PV.val _, PV.sl _ _])), (2, (132, [PV.val _, PV.val _, PV.sl _ _, PV.sl _ _, PV.val _, PV.val _, PV.sl _ _]))] ?_
 refine sw_reg ?_
 refine RunS.step (by exact ⟨⟩) (by exact ⟨⟩) (LocG.of rfl (loc_alloc (by decide) z_132 zo_132)) (free1 (Free.of_ rfl)) ?_
 refine sw_seq ?_
 refine sO [(1, _), (2, _), (3, _)] [(1, _), (2, _), (3, (132, [PV.val _, PV.val _, PV.sl _ _, PV.sl _ _, PV.val _, PV.val _, PV.sl _ _]))] ?_
 refine sw_reg ?_
 refine rA ?_ (x := lF fd_123_0)
 refine rA ?_ (x := lD [PV.val _, PV.val _, PV.sl .v _, PV.sl .v _] ty_117)
 refine rA ?_ (x := cL [(true, [PV.val _, PV.val _, PV.sl _ _, PV.sl _ _])] [(true, [PV.val _, PV.val _, PV.sl .v _, PV.sl .v _])] c_158 (hs := by exact to_Query (by omega)))
 refine rA ?_ (x := lF fd_132_0)
 refine rA ?_ (x := loc_store (ag := true) (vs := [PV.val _, PV.val _, PV.sl _ _, PV.sl _ _]) ty_51 (by exact ⟨⟩) (by exact rfl) (by exact Nat.le_of_ble_eq_true rfl))
 refine sw_seq ?_
 refine sO [(1, _), (2, _), (3, _)] [(1, _), (2, _), (3, (132, [PV.val _, PV.val _, PV.sl _ _, PV.sl _ _, PV.val _, PV.val _, PV.sl _ _]))] ?_
 refine sw_reg ?_
 refine rA ?_ (x := lF fd_123_1)
 refine rA ?_ (x := lD [PV.val _] ty_3)
 refine rA ?_ (x := lF fd_132_1)
 refine rA ?_ (x := loc_store (ag := false) (vs := [PV.val _]) ty_3 (by exact ⟨⟩) (by exact rfl) (by exact Nat.le_of_ble_eq_true rfl))
 refine sw_seq ?_
 refine sO [(1, _), (2, _), (3, _)] [(1, _), (2, _), (3, (132, [PV.val _, PV.val _, PV.sl _ _, PV.sl _ _, PV.val _, PV.val _, PV.sl _ _]))] ?_
 refine sw_reg ?_
 refine rA ?_ (x := lF fd_123_2)
 refine rA ?_ (x := lD [PV.val _] ty_3)
 refine rA ?_ (x := lF fd_132_2)
 refine rA ?_ (x := loc_store (ag := false) (vs := [PV.val _]) ty_3 (by exact ⟨⟩) (by exact rfl) (by exact Nat.le_of_ble_eq_true rfl))
 refine sw_seq ?_
 refine sO [(1, _), (2, _), (3, _)] [(1, _), (2, _), (3, (132, [PV.val _, PV.val _, PV.sl _ _, PV.sl _ _, PV.val _, PV.val _, PV.sl _ _]))] ?_
 refine sw_reg ?_
 refine rA ?_ (x := lF fd_123_3)
 refine rA ?_ (x := lD [PV.sl .v _] ty_118)
 refine rA ?_ (x := cL [(false, [PV.sl _ _])] [(false, [PV.sl .v _])] c_159 (hs := by exact to_RowS (by omega)))
 refine rA ?_ (x := lF fd_132_3)
 refine rA ?_ (x := loc_store (ag := false) (vs := [PV.sl _ _]) ty_83 (by exact ⟨⟩) (by exact rfl) (by exact Nat.le_of_ble_eq_true rfl))
 refine sw_seq ?_
 refine sO [(1, _), (2, _), (3, _)] [(1, _), (2, _), (3, (132, [PV.val _, PV.val _, PV.sl _ _, PV.sl _ _, PV.val _, PV.val _, PV.sl _ _]))] ?_
 refine sw_reg ?_
 refine rA ?_ (x := loc_ltake (ms := [PV.val _, PV.val _, PV.sl _ _, PV.sl _ _, PV.val _, PV.val _, PV.sl _ _]) (qs := [PV.val _, PV.val _, PV.sl .v _, PV.sl .v _, PV.val _, PV.val _, PV.sl .v _]) (by decide) ty_132 (fun h => nomatch h) (by exact Nat.le_of_ble_eq_true rfl) (by exact rfl) (by exact (ToL.cons (PV.To.refl _) (ToL.cons (PV.To.refl _) (ToL.cons PV.to_none (ToL.cons PV.to_none (ToL.cons (PV.To.refl _) (ToL.cons (PV.To.refl _) (ToL.cons PV.to_none ToL.nil)))))))) (by exact (BorL.cons (PV.bor_val _) (BorL.cons (PV.bor_val _) (BorL.cons (PV.bor_sl _) (BorL.cons (PV.bor_sl _) (BorL.cons (PV.bor_val _) (BorL.cons (PV.bor_val _) (BorL.cons (PV.bor_sl _) BorL.nil)))))))))
 refine rA ?_ (x := loc_store (ag := true) (vs := [PV.val _, PV.val _, PV.sl _ _, PV.sl _ _, PV.val _, PV.val _, PV.sl _ _]) ty_132 (by exact ⟨⟩) (by exact rfl) (by exact Nat.le_of_ble_eq_true rfl))
 refine sw_ret ?_
 exact (Exists.intro 2 (Exists.intro _ (And.intro (by exact rfl) (And.intro (by exact rfl) (And.intro ty_132 (And.intro (fun h => nomatch h) True.intro))))))
theorem to_Store {p1 p2 : Fl} {x : Store}  (hb : wtStore x ≤ 1048576) : SCall Tryz.prog 33 [(true, [PV.sl .v (x.Segments.map (cVersionS p1 p2)), PV.val (vI x.Now)])] (resRV [(true, [PV.sl (.own 138 1) (x.Segments.map (cVersionS (.own 195 4) (.own 3 1))), PV.val (vI x.Now)])]) := by
 refine scall_of (rs := [(true, [PV.sl (.own 138 1) (x.Segments.map (cVersionS (.own 195 4) (.own 3 1))), PV.val (vI x.Now)])]) Tryz.func33 rfl (Nat.le_of_ble_eq_true rfl) (borA_cons (BorL.cons (PV.bor_sl _) (BorL.cons (PV.bor_val _) BorL.nil)) borA_nil) ?_
 intro h0 w0 Fz0
 refine sw_slen (s := 0) (j := 0) rfl rfl fun hl0_0 => ?_
 try rw [List.length_map] at hl0_0
 have hbu := hb
 simp only [wtStore] at hbu
 refine sw_seq ?_
 refine sw_reg ?_
 refine RunS.step (by exact ⟨rfl, ⟨⟩⟩) (by exact ⟨⟩) (LocG.of rfl (loc_box (ag := true) (cs := [PV.sl _ _, PV.val _]) (by decide) (by exact ⟨⟩))) (free1 (Free.of_ rfl)) ?_
 refine RunS.step (by exact ⟨⟩) (by exact ⟨⟩) (LocG.of rfl (loc_alloc (by decide) z_35 zo_35)) (free1 (Free.app (Free.of_ rfl) rfl)) ?_
 refine sw_seq ?_
 refine sO [(1, _), (2, _)] [(1, (24, [PV.sl _ _, PV.val _])), (2, (35, [PV.sl _ _, PV.val _]))] ?_
 refine sw_reg ?_
 refine RunS.step (by exact ⟨⟩) (by exact ⟨⟩) (LocG.of rfl (loc_alloc (by decide) z_35 zo_35)) (free1 (Free.of_ rfl)) ?_
 refine sw_seq ?_
 refine sO [(1, _), (2, _), (3, _)] [(1, _), (2, _), (3, (35, [PV.sl _ _, PV.val _]))] ?_
 refine sw_reg ?_
 refine rA ?_ (x := lF fd_24_0)
 refine rA ?_ (x := lD [PV.sl .v _] ty_22)
 refine rA ?_ (x := cL [(false, [PV.sl _ _])] [(false, [PV.sl .v _])] c_87 (hs := by exact to_VersionSS (by omega)))
 refine rA ?_ (x := lF fd_35_0)
 refine rA ?_ (x := loc_store (ag := false) (vs := [PV.sl _ _]) ty_33 (by exact ⟨⟩) (by exact rfl) (by exact Nat.le_of_ble_eq_true rfl))
 refine sw_seq ?_
 refine sO [(1, _), (2, _), (3, _)] [(1, _), (2, _), (3, (35, [PV.sl _ _, PV.val _]))] ?_
 refine sw_reg ?_
 refine rA ?_ (x := lF fd_24_1)
 refine rA ?_ (x := lD [PV.val _] ty_3)
 refine rA ?_ (x := lF fd_35_1)
 refine rA ?_ (x := loc_store (ag := false) (vs := [PV.val _]) ty_3 (by exact ⟨⟩) (by exact rfl) (by exact Nat.le_of_ble_eq_true rfl))
 refine sw_seq ?_
 refine sO [(1, _), (2, _), (3, _)] [(1, _), (2, _), (3, (35, [PV.sl _ _, PV.val _]))] ?_
 refine sw_reg ?_
 refine rA ?_ (x := loc_ltake (ms := [PV.sl _ _, PV.val _]) (qs := [PV.sl .v _, PV.val _]) (by decide) ty_35 (fun h => nomatch h) (by exact Nat.le_of_ble_eq_true rfl) (by exact rfl) (by exact (ToL.cons PV.to_none (ToL.cons (PV.To.refl _) ToL.nil))) (by exact (BorL.cons (PV.bor_sl _) (BorL.cons (PV.bor_val _) BorL.nil))))
 refine rA ?_ (x := loc_store (ag := true) (vs := [PV.sl _ _, PV.val _]) ty_35 (by exact ⟨⟩) (by exact rfl) (by exact Nat.le_of_ble_eq_true rfl))
 refine sw_ret ?_
 exact (Exists.intro 2 (Exists.intro _ (And.intro (by exact rfl) (And.intro (by exact rfl) (And.intro ty_35 (And.intro (fun h => nomatch h) True.intro))))))
theorem to_ActiveS {p1 p2 p3 p4 p5 : Fl} {x : List Active}  (hb : wtActiveS x ≤ 1048576) : SCall Tryz.prog 35 [(false, [PV.sl .v (x.map (cActive p1 p2 p3 p4 p5))])] (resRV [(false, [PV.sl (.own 85 10) (x.map (cActive (.own 165 3) (.own 3 1) (.own 3 1) (.own 53 2) (.own 3 1)))])]) := by
 refine scall_of (rs := [(false, [PV.sl (.own 85 10) (x.map (cActive (.own 165 3) (.own 3 1) (.own 3 1) (.own 53 2) (.own 3 1)))])]) Tryz.func35 rfl (Nat.le_of_ble_eq_true rfl) (borA_cons (BorL.cons (PV.bor_sl _) BorL.nil) borA_nil) ?_
 intro h0 w0 Fz0
 refine sw_len (s := 0) rfl fun hl0 => ?_
 try rw [List.length_map] at hl0
 have hbu := hb
 simp only [wtActiveS] at hbu
 refine sw_seq ?_
 refine sw_reg ?_
 refine rA ?_ (x := loc_const (.inr rfl) (by decide) (ok_nil (t := 85) (e := 10)))
 refine sw_seq ?_
 refine sO [(0, _), (2, _)] [] ?_
 refine sw_reg ?_
 refine rA ?_ (x := vM false [PV.sl .v _])
 refine rA ?_ (x := lN sl_26)
 refine RunS.step (by exact ⟨rfl, rfl, ⟨⟩⟩) (by exact ⟨⟩) (LocG.of rfl (loc_make (by decide) sl_36 z_85 rfl zo_85 (by exact ⟨⟩) (by exact ⟨⟩) (by exact rfl) (by exact rfl) (by omega) (by omega))) (free1 (Free.app (Free.app (Free.of_ rfl) rfl) rfl)) ?_
 refine rA ?_ (x := cA Cp.hdr)
 refine sw_seq ?_
 refine sw_seq ?_
 refine sO [(0, _), (2, _), (3, _)] [(7, (85, _))] ?_
 refine sw_reg ?_
 refine rA ?_ (x := kA)
 refine sw_block ?_
 refine sO [(0, _), (2, _), (3, _), (4, _)] [(7, _)] ?_
 refine sw_loop (l0 := [(0, RV.sv false [PV.sl _ _]), (2, RV.sv false [PV.sl _ _]), (3, RV.hdr 7 _)]) (b0 := []) (fun k : Nat => k ≤ x.length) (fun k : Nat => [(4, RV.int (k : Int))]) (fun k : Nat => [(7, (85, (filled x (cActive (.own 165 3) (.own 3 1) (.own 3 1) (.own 53 2) (.own 3 1)) [PV.val (.int .i64 0), PV.val (.int .i64 0), PV.sl (.own 165 3) [], PV.sl (.own 3 1) [], PV.val (.int .i64 0), PV.sl (.own 3 1) [], PV.val (.int .i64 0), PV.val (.int .i64 0), PV.val (.int .i64 0), PV.sl (.own 53 2) []] k).flatten))]) (fun k : Nat => x.length - k) 0 (by omega) (by exact ⟨rfl, rfl, rfl, ⟨⟩⟩) (by exact ⟨⟩) (by exact And.intro (by exact rfl) (True.intro)) (by exact And.intro (by rw [filled_zero]; exact rfl) (True.intro)) ?_
 rintro k hk
 refine sw_seq ?_
 refine sw_seq ?_
 refine sw_reg ?_
 refine rA ?_ (x := sM)
 refine rA ?_ (x := vM false [PV.sl .v _])
 refine rA ?_ (x := lN sl_26)
 refine rA ?_ (x := B_lss)
 refine sw_cond (t := 11) rfl (fun hb1 => ?_) (fun hb1 => ?_)
 ·try simp only [q1, q2, q3, q4, q5, q6, q7, q8, q9] at hb1
  have hlt : k < x.length := by omega
  have hwm := wt_mem (f := wtActive) hlt
  refine sw_skip ?_
  refine sw_seq ?_
  refine sw_block ?_
  refine sO [(0, _), (2, _), (3, _), (4, _)] [(7, (85, _))] ?_
  refine sw_reg ?_
  refine rA ?_ (x := cM Cp.hdr)
  refine rA ?_ (x := sM)
  refine rA ?_ (x := vM false [PV.sl .v _])
  refine rA ?_ (x := sM)
  refine rA ?_ (x := loc_index (by decide) sl_26 (by exact ⟨⟩) (by exact rfl) (by exact getm2 (by omega) rfl) (by exact rfl))
  refine rA ?_ (x := lE [PV.val _, PV.val _, PV.sl .v _, PV.sl .v _, PV.val _, PV.sl .v _, PV.val _, PV.val _, PV.val _, PV.sl .v _] ty_120)
  refine rA ?_ (x := cL [(true, [PV.val _, PV.val _, PV.sl _ _, PV.sl _ _, PV.val _, PV.sl _ _, PV.val _, PV.val _, PV.val _, PV.sl _ _])] [(true, [PV.val _, PV.val _, PV.sl .v _, PV.sl .v _, PV.val _, PV.sl .v _, PV.val _, PV.val _, PV.val _, PV.sl .v _])] c_88 (hs := by exact to_Active (by omega)))
  refine rA ?_ (x := loc_hindex (by decide) sl_36 (by exact ⟨⟩) (by exact rfl) (by omega))
  refine rA ?_ (x := loc_store (ag := true) (vs := [PV.val _, PV.val _, PV.sl _ _, PV.sl _ _, PV.val _, PV.sl _ _, PV.val _, PV.val _, PV.val _, PV.sl _ _]) ty_85 (by exact ⟨⟩) (by exact rfl) (by exact fill_room (fun _ => rfl) rfl hlt))
  refine sO [(0, _), (2, _), (3, _), (4, _)] [(7, _)] ?_
  refine sw_reg ?_
  refine rA ?_ (x := sM)
  refine rA ?_ (x := B_add)
  refine rA ?_ (x := sA)
  refine Exists.intro (k + 1) (And.intro (by omega) (And.intro (by omega) (And.intro (And.intro (by exact ⟨rfl, rfl, rfl, ⟨⟩⟩) (by exact ⟨⟩)) (And.intro (by exact And.intro (by exact rfl) (True.intro)) (by exact And.intro (by exact congrArg (fun z => some (85, z)) (fill_next (e := 10) (fun _ => rfl) rfl hlt)) (True.intro))))))
 ·try simp only [q1, q2, q3, q4, q5, q6, q7, q8, q9] at hb1
  have hlt : k = x.length := by omega
  refine sw_exit ?_
  refine sw_seq ?_
  refine sO [(0, _), (2, _), (3, _), (4, _)] [(7, (85, _))] ?_
  refine sw_reg ?_
  refine rA ?_ (x := loc_freeze (es := (x.map (cActive (.own 165 3) (.own 3 1) (.own 3 1) (.own 53 2) (.own 3 1)))) (e := 10) (.inl rfl) (by decide) (by rw [hlt, filled_all]) (by exact List.length_map _) (by intro c hc; obtain ⟨y, _, rfl⟩ := List.mem_map.1 hc; rfl))
  refine rA ?_ (x := tA)
  refine sw_ret ?_
  exact (And.intro (by exact rfl) True.intro)
theorem to_FinishedS {p1 p2 p3 p4 : Fl} {x : List Finished}  (hb : wtFinishedS x ≤ 1048576) : SCall Tryz.prog 36 [(false, [PV.sl .v (x.map (cFinished p1 p2 p3 p4))])] (resRV [(false, [PV.sl (.own 132 7) (x.map (cFinished (.own 165 3) (.own 3 1) (.own 53 2) (.own 3 1)))])]) := by
 refine scall_of (rs := [(false, [PV.sl (.own 132 7) (x.map (cFinished (.own 165 3) (.own 3 1) (.own 53 2) (.own 3 1)))])]) Tryz.func36 rfl (Nat.le_of_ble_eq_true rfl) (borA_cons (BorL.cons (PV.bor_sl _) BorL.nil) borA_nil) ?_
 intro h0 w0 Fz0
 refine sw_len (s := 0) rfl fun hl0 => ?_
 try rw [List.length_map] at hl0
 have hbu := hb
 simp only [wtFinishedS] at hbu
 refine sw_seq ?_
 refine sw_reg ?_
 refine rA ?_ (x := loc_const (.inr rfl) (by decide) (ok_nil (t := 132) (e := 7)))
 refine sw_seq ?_
 refine sO [(0, _), (2, _)] [] ?_
 refine sw_reg ?_
 refine rA ?_ (x := vM false [PV.sl .v _])
 refine rA ?_ (x := lN sl_27)
 refine RunS.step (by exact ⟨rfl, rfl, ⟨⟩⟩) (by exact ⟨⟩) (LocG.of rfl (loc_make (by decide) sl_37 z_132 rfl zo_132 (by exact ⟨⟩) (by exact ⟨⟩) (by exact rfl) (by exact rfl) (by omega) (by omega))) (free1 (Free.app (Free.app (Free.of_ rfl) rfl) rfl)) ?_
 refine rA ?_ (x := cA Cp.hdr)
 refine sw_seq ?_
 refine sw_seq ?_
 refine sO [(0, _), (2, _), (3, _)] [(7, (132, _))] ?_
 refine sw_reg ?_
 refine rA ?_ (x := kA)
 refine sw_block ?_
 refine sO [(0, _), (2, _), (3, _), (4, _)] [(7, _)] ?_
 refine sw_loop (l0 := [(0, RV.sv false [PV.sl _ _]), (2, RV.sv false [PV.sl _ _]), (3, RV.hdr 7 _)]) (b0 := []) (fun k : Nat => k ≤ x.length) (fun k : Nat => [(4, RV.int (k : Int))]) (fun k : Nat => [(7, (132, (filled x (cFinished (.own 165 3) (.own 3 1) (.own 53 2) (.own 3 1)) [PV.val (.int .i64 0), PV.val (.int .i64 0), PV.sl (.own 165 3) [], PV.sl (.own 3 1) [], PV.val (.int .i64 0), PV.val (.int .i64 0), PV.sl (.own 53 2) []] k).flatten))]) (fun k : Nat => x.length - k) 0 (by omega) (by exact ⟨rfl, rfl, rfl, ⟨⟩⟩) (by exact ⟨⟩) (by exact And.intro (by exact rfl) (True.intro)) (by exact And.intro (by rw [filled_zero]; exact rfl) (True.intro)) ?_
 rintro k hk
 refine sw_seq ?_
 refine sw_seq ?_
 refine sw_reg ?_
 refine rA ?_ (x := sM)
 refine rA ?_ (x := vM false [PV.sl .v _])
 refine rA ?_ (x := lN sl_27)
 refine rA ?_ (x := B_lss)
 refine sw_cond (t := 11) rfl (fun hb1 => ?_) (fun hb1 => ?_)
 ·try simp only [q1, q2, q3, q4, q5, q6, q7, q8, q9] at hb1
  have hlt : k < x.length := by omega
  have hwm := wt_mem (f := wtFinished) hlt
  refine sw_skip ?_
  refine sw_seq ?_
  refine sw_block ?_
  refine sO [(0, _), (2, _), (3, _), (4, _)] [(7, (132, _))] ?_
  refine sw_reg ?_
  refine rA ?_ (x := cM Cp.hdr)
  refine rA ?_ (x := sM)
  refine rA ?_ (x := vM false [PV.sl .v _])
  refine rA ?_ (x := sM)
  refine rA ?_ (x := loc_index (by decide) sl_27 (by exact ⟨⟩) (by exact rfl) (by exact getm2 (by omega) rfl) (by exact rfl))
  refine rA ?_ (x := lE [PV.val _, PV.val _, PV.sl .v _, PV.sl .v _, PV.val _, PV.val _, PV.sl .v _] ty_123)
  refine rA ?_ (x := cL [(true, [PV.val _, PV.val _, PV.sl _ _, PV.sl _ _, PV.val _, PV.val _, PV.sl _ _])] [(true, [PV.val _, PV.val _, PV.sl .v _, PV.sl .v _, PV.val _, PV.val _, PV.sl .v _])] c_89 (hs := by exact to_Finished (by omega)))
  refine rA ?_ (x := loc_hindex (by decide) sl_37 (by exact ⟨⟩) (by exact rfl) (by omega))
  refine rA ?_ (x := loc_store (ag := true) (vs := [PV.val _, PV.val _, PV.sl _ _, PV.sl _ _, PV.val _, PV.val _, PV.sl _ _]) ty_132 (by exact ⟨⟩) (by exact rfl) (by exact fill_room (fun _ => rfl) rfl hlt))
  refine sO [(0, _), (2, _), (3, _), (4, _)] [(7, _)] ?_
  refine sw_reg ?_
  refine rA ?_ (x := sM)
  refine rA ?_ (x := B_add)
  refine rA ?_ (x := sA)
  refine Exists.intro (k + 1) (And.intro (by omega) (And.intro (by omega) (And.intro (And.intro (by exact ⟨rfl, rfl, rfl, ⟨⟩⟩) (by exact ⟨⟩)) (And.intro (by exact And.intro (by exact rfl) (True.intro)) (by exact And.intro (by exact congrArg (fun z => some (132, z)) (fill_next (e := 7) (fun _ => rfl) rfl hlt)) (True.intro))))))
 ·try simp only [q1, q2, q3, q4, q5, q6, q7, q8, q9] at hb1
  have hlt : k = x.length := by omega
  refine sw_exit ?_
  refine sw_seq ?_
  refine sO [(0, _), (2, _), (3, _), (4, _)] [(7, (132, _))] ?_
  refine sw_reg ?_
  refine rA ?_ (x := loc_freeze (es := (x.map (cFinished (.own 165 3) (.own 3 1) (.own 53 2) (.own 3 1)))) (e := 7) (.inl rfl) (by decide) (by rw [hlt, filled_all]) (by exact List.length_map _) (by intro c hc; obtain ⟨y, _, rfl⟩ := List.mem_map.1 hc; rfl))
  refine rA ?_ (x := tA)
  refine sw_ret ?_
  exact (And.intro (by exact rfl) True.intro)
theorem to_Engine {p1 p2 p5 p6 p7 p8 p9 p11 p12 p13 p14 p16 p17 p18 : Fl} {x : Engine}  (hb : wtEngine x ≤ 1048576) : SCall Tryz.prog 9 [(true, [PV.sl .v (x.Store.Segments.map (cVersionS p1 p2)), PV.val (vI x.Store.Now), PV.val (vI x.Cursor), PV.sl .v (x.Order.map cInt), PV.sl .v (x.Active.map (cActive p5 p6 p7 p8 p9)), PV.sl .v (x.Done.map (cFinished p11 p12 p13 p14)), PV.sl .v (x.Ledger.map (cCharge p16 p17 p18)), PV.val (vI x.Steps)])] (resRV [(true, [PV.sl (.own 138 1) (x.Store.Segments.map (cVersionS (.own 195 4) (.own 3 1))), PV.val (vI x.Store.Now), PV.val (vI x.Cursor), PV.sl (.own 3 1) (x.Order.map cInt), PV.sl (.own 85 10) (x.Active.map (cActive (.own 165 3) (.own 3 1) (.own 3 1) (.own 53 2) (.own 3 1))), PV.sl (.own 132 7) (x.Done.map (cFinished (.own 165 3) (.own 3 1) (.own 53 2) (.own 3 1))), PV.sl (.own 136 5) (x.Ledger.map (cCharge (.own 3 1) (.own 3 1) (.own 3 1))), PV.val (vI x.Steps)])]) := by
 refine scall_of (rs := [(true, [PV.sl (.own 138 1) (x.Store.Segments.map (cVersionS (.own 195 4) (.own 3 1))), PV.val (vI x.Store.Now), PV.val (vI x.Cursor), PV.sl (.own 3 1) (x.Order.map cInt), PV.sl (.own 85 10) (x.Active.map (cActive (.own 165 3) (.own 3 1) (.own 3 1) (.own 53 2) (.own 3 1))), PV.sl (.own 132 7) (x.Done.map (cFinished (.own 165 3) (.own 3 1) (.own 53 2) (.own 3 1))), PV.sl (.own 136 5) (x.Ledger.map (cCharge (.own 3 1) (.own 3 1) (.own 3 1))), PV.val (vI x.Steps)])]) Tryz.func9 rfl (Nat.le_of_ble_eq_true rfl) (borA_cons (BorL.cons (PV.bor_sl _) (BorL.cons (PV.bor_val _) (BorL.cons (PV.bor_val _) (BorL.cons (PV.bor_sl _) (BorL.cons (PV.bor_sl _) (BorL.cons (PV.bor_sl _) (BorL.cons (PV.bor_sl _) (BorL.cons (PV.bor_val _) BorL.nil)))))))) borA_nil) ?_
 intro h0 w0 Fz0
 refine sw_slen (s := 0) (j := 0) rfl rfl fun hl0_0 => ?_
 try rw [List.length_map] at hl0_0
 refine sw_slen (s := 0) (j := 3) rfl rfl fun hl0_3 => ?_
 try rw [List.length_map] at hl0_3
 refine sw_slen (s := 0) (j := 4) rfl rfl fun hl0_4 => ?_
 try rw [List.length_map] at hl0_4
 refine sw_slen (s := 0) (j := 5) rfl rfl fun hl0_5 => ?_
 try rw [List.length_map] at hl0_5
 refine sw_slen (s := 0) (j := 6) rfl rfl fun hl0_6 => ?_
 try rw [List.length_map] at hl0_6
 have hbu := hb
 simp only [wtEngine] at hbu
 refine sw_seq ?_
 refine sw_reg ?_
 refine RunS.step (by exact ⟨rfl, ⟨⟩⟩) (by exact ⟨⟩) (LocG.of rfl (loc_box (ag := true) (cs := [PV.sl _ _, PV.val _, PV.val _, PV.sl _ _, PV.sl _ _, PV.sl _ _, PV.sl _ _, PV.val _]) (by decide) (by exact ⟨⟩))) (free1 (Free.of_ rfl)) ?_
 refine RunS.step (by exact ⟨⟩) (by exact ⟨⟩) (LocG.of rfl (loc_alloc (by decide) z_40 zo_40)) (free1 (Free.app (Free.of_ rfl) rfl)) ?_
 refine sw_seq ?_
 refine sO [(1, _), (2, _)] [(1, (30, [PV.sl _ _, PV.val _, PV.val _, PV.sl _ _, PV.sl _ _, PV.sl _ _, PV.sl _ _, PV.val _])), (2, (40, [PV.sl _ _, PV.val _, PV.val _, PV.sl _ _, PV.sl _ _, PV.sl _ _, PV.sl _ _, PV.val _]))] ?_
 refine sw_reg ?_
 refine RunS.step (by exact ⟨⟩) (by exact ⟨⟩) (LocG.of rfl (loc_alloc (by decide) z_40 zo_40)) (free1 (Free.of_ rfl)) ?_
 refine sw_seq ?_
 refine sO [(1, _), (2, _), (3, _)] [(1, _), (2, _), (3, (40, [PV.sl _ _, PV.val _, PV.val _, PV.sl _ _, PV.sl _ _, PV.sl _ _, PV.sl _ _, PV.val _]))] ?_
 refine sw_reg ?_
 refine rA ?_ (x := lF fd_30_0)
 refine rA ?_ (x := lD [PV.sl .v _, PV.val _] ty_24)
 refine rA ?_ (x := cL [(true, [PV.sl _ _, PV.val _])] [(true, [PV.sl .v _, PV.val _])] c_33 (hs := by exact to_Store (by omega)))
 refine rA ?_ (x := lF fd_40_0)
 refine rA ?_ (x := loc_store (ag := true) (vs := [PV.sl _ _, PV.val _]) ty_35 (by exact ⟨⟩) (by exact rfl) (by exact Nat.le_of_ble_eq_true rfl))
 refine sw_seq ?_
 refine sO [(1, _), (2, _), (3, _)] [(1, _), (2, _), (3, (40, [PV.sl _ _, PV.val _, PV.val _, PV.sl _ _, PV.sl _ _, PV.sl _ _, PV.sl _ _, PV.val _]))] ?_
 refine sw_reg ?_
 refine rA ?_ (x := lF fd_30_1)
 refine rA ?_ (x := lD [PV.val _] ty_3)
 refine rA ?_ (x := lF fd_40_1)
 refine rA ?_ (x := loc_store (ag := false) (vs := [PV.val _]) ty_3 (by exact ⟨⟩) (by exact rfl) (by exact Nat.le_of_ble_eq_true rfl))
 refine sw_seq ?_
 refine sO [(1, _), (2, _), (3, _)] [(1, _), (2, _), (3, (40, [PV.sl _ _, PV.val _, PV.val _, PV.sl _ _, PV.sl _ _, PV.sl _ _, PV.sl _ _, PV.val _]))] ?_
 refine sw_reg ?_
 refine rA ?_ (x := lF fd_30_2)
 refine rA ?_ (x := lD [PV.sl .v _] ty_25)
 refine rA ?_ (x := cL [(false, [PV.sl _ _])] [(false, [PV.sl .v _])] c_34 (hs := by exact to_IntS (by omega)))
 refine rA ?_ (x := lF fd_40_2)
 refine rA ?_ (x := loc_store (ag := false) (vs := [PV.sl _ _]) ty_25 (by exact ⟨⟩) (by exact rfl) (by exact Nat.le_of_ble_eq_true rfl))
 refine sw_seq ?_
 refine sO [(1, _), (2, _), (3, _)] [(1, _), (2, _), (3, (40, [PV.sl _ _, PV.val _, PV.val _, PV.sl _ _, PV.sl _ _, PV.sl _ _, PV.sl _ _, PV.val _]))] ?_
 refine sw_reg ?_
 refine rA ?_ (x := lF fd_30_3)
 refine rA ?_ (x := lD [PV.sl .v _] ty_26)
 refine rA ?_ (x := cL [(false, [PV.sl _ _])] [(false, [PV.sl .v _])] c_35 (hs := by exact to_ActiveS (by omega)))
 refine rA ?_ (x := lF fd_40_3)
 refine rA ?_ (x := loc_store (ag := false) (vs := [PV.sl _ _]) ty_36 (by exact ⟨⟩) (by exact rfl) (by exact Nat.le_of_ble_eq_true rfl))
 refine sw_seq ?_
 refine sO [(1, _), (2, _), (3, _)] [(1, _), (2, _), (3, (40, [PV.sl _ _, PV.val _, PV.val _, PV.sl _ _, PV.sl _ _, PV.sl _ _, PV.sl _ _, PV.val _]))] ?_
 refine sw_reg ?_
 refine rA ?_ (x := lF fd_30_4)
 refine rA ?_ (x := lD [PV.sl .v _] ty_27)
 refine rA ?_ (x := cL [(false, [PV.sl _ _])] [(false, [PV.sl .v _])] c_36 (hs := by exact to_FinishedS (by omega)))
 refine rA ?_ (x := lF fd_40_4)
 refine rA ?_ (x := loc_store (ag := false) (vs := [PV.sl _ _]) ty_37 (by exact ⟨⟩) (by exact rfl) (by exact Nat.le_of_ble_eq_true rfl))
 refine sw_seq ?_
 refine sO [(1, _), (2, _), (3, _)] [(1, _), (2, _), (3, (40, [PV.sl _ _, PV.val _, PV.val _, PV.sl _ _, PV.sl _ _, PV.sl _ _, PV.sl _ _, PV.val _]))] ?_
 refine sw_reg ?_
 refine rA ?_ (x := lF fd_30_5)
 refine rA ?_ (x := lD [PV.sl .v _] ty_28)
 refine rA ?_ (x := cL [(false, [PV.sl _ _])] [(false, [PV.sl .v _])] c_37 (hs := by exact to_ChargeS (by omega)))
 refine rA ?_ (x := lF fd_40_5)
 refine rA ?_ (x := loc_store (ag := false) (vs := [PV.sl _ _]) ty_38 (by exact ⟨⟩) (by exact rfl) (by exact Nat.le_of_ble_eq_true rfl))
 refine sw_seq ?_
 refine sO [(1, _), (2, _), (3, _)] [(1, _), (2, _), (3, (40, [PV.sl _ _, PV.val _, PV.val _, PV.sl _ _, PV.sl _ _, PV.sl _ _, PV.sl _ _, PV.val _]))] ?_
 refine sw_reg ?_
 refine rA ?_ (x := lF fd_30_6)
 refine rA ?_ (x := lD [PV.val _] ty_3)
 refine rA ?_ (x := lF fd_40_6)
 refine rA ?_ (x := loc_store (ag := false) (vs := [PV.val _]) ty_3 (by exact ⟨⟩) (by exact rfl) (by exact Nat.le_of_ble_eq_true rfl))
 refine sw_seq ?_
 refine sO [(1, _), (2, _), (3, _)] [(1, _), (2, _), (3, (40, [PV.sl _ _, PV.val _, PV.val _, PV.sl _ _, PV.sl _ _, PV.sl _ _, PV.sl _ _, PV.val _]))] ?_
 refine sw_reg ?_
 refine rA ?_ (x := loc_ltake (ms := [PV.sl _ _, PV.val _, PV.val _, PV.sl _ _, PV.sl _ _, PV.sl _ _, PV.sl _ _, PV.val _]) (qs := [PV.sl .v _, PV.val _, PV.val _, PV.sl .v _, PV.sl .v _, PV.sl .v _, PV.sl .v _, PV.val _]) (by decide) ty_40 (fun h => nomatch h) (by exact Nat.le_of_ble_eq_true rfl) (by exact rfl) (by exact (ToL.cons PV.to_none (ToL.cons (PV.To.refl _) (ToL.cons (PV.To.refl _) (ToL.cons PV.to_none (ToL.cons PV.to_none (ToL.cons PV.to_none (ToL.cons PV.to_none (ToL.cons (PV.To.refl _) ToL.nil))))))))) (by exact (BorL.cons (PV.bor_sl _) (BorL.cons (PV.bor_val _) (BorL.cons (PV.bor_val _) (BorL.cons (PV.bor_sl _) (BorL.cons (PV.bor_sl _) (BorL.cons (PV.bor_sl _) (BorL.cons (PV.bor_sl _) (BorL.cons (PV.bor_val _) BorL.nil))))))))))
 refine rA ?_ (x := loc_store (ag := true) (vs := [PV.sl _ _, PV.val _, PV.val _, PV.sl _ _, PV.sl _ _, PV.sl _ _, PV.sl _ _, PV.val _]) ty_40 (by exact ⟨⟩) (by exact rfl) (by exact Nat.le_of_ble_eq_true rfl))
 refine sw_ret ?_
 exact (Exists.intro 2 (Exists.intro _ (And.intro (by exact rfl) (And.intro (by exact rfl) (And.intro ty_40 (And.intro (fun h => nomatch h) True.intro))))))
end Go.Proofs.YteflgldonmgejaaGreatDoor
