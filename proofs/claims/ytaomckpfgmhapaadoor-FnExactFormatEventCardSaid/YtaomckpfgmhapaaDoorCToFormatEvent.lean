/- What functions of the program compute. No condition. -/
import Derived.Test.YtaomckpfgmhapaaDoorCSzFormatEvent
import Derived.KernelRfl
set_option linter.unusedVariables false
set_option linter.unusedSimpArgs false
namespace Go.Proofs.YtaomckpfgmhapaaDoor
open Go Go.RowKit M
set_option maxRecDepth 10000
attribute [local irreducible] PV.Lcl PV.LclR RV.Lcl
theorem to_IntS {x : List Int}  (hb : wtIntS x ≤ 1048576) : SCall Tryd.prog 74 [(false, [PV.sl .v (x.map cInt)])] (resRV [(false, [PV.sl (.own 3 1) (x.map cInt)])]) := by
 refine scall_of (rs := [(false, [PV.sl (.own 3 1) (x.map cInt)])]) Tryd.func74 rfl (Nat.le_of_ble_eq_true rfl) (borA_cons (BorL.cons (PV.bor_sl _) BorL.nil) borA_nil) ?_
 intro h0 w0 Fz0
 refine sw_len (s := 0) rfl fun hl0 => ?_
 try rw [List.length_map] at hl0
 have hbu := hb
 simp only [wtIntS] at hbu
 refine sw_seq ?_
 refine sw_reg ?_
 refine rA ?_ (x := loc_const (.inr rfl) (by decide) (ok_nil (t := 3) (e := 1)))
 refine sw_seq ?_
 refine sO [(0, _), (2, _)] [] ?_
 refine sw_reg ?_
 refine rA ?_ (x := vM false [PV.sl .v _])
 refine rA ?_ (x := lN sl_41)
 refine RunS.step (by exact ⟨rfl, rfl, ⟨⟩⟩) (by exact ⟨⟩) (LocG.of rfl (loc_make (by decide) sl_41 z_3 rfl zo_3 (by exact ⟨⟩) (by exact ⟨⟩) (by exact rfl) (by exact rfl) (by omega) (by omega))) (free1 (Free.app (Free.app (Free.of_ rfl) rfl) rfl)) ?_
 refine rA ?_ (x := cA Cp.hdr)
 refine sw_seq ?_
 refine sw_seq ?_
 refine sO [(0, _), (2, _), (3, _)] [(7, (3, _))] ?_
 refine sw_reg ?_
 refine rA ?_ (x := kA)
 refine sw_block ?_
 refine sO [(0, _), (2, _), (3, _), (4, _)] [(7, _)] ?_
 refine sw_loop (l0 := [(0, RV.sv false [PV.sl _ _]), (2, RV.sv false [PV.sl _ _]), (3, RV.hdr 7 _)]) (b0 := []) (fun k : Nat => k ≤ x.length) (fun k : Nat => [(4, RV.int (k : Int))]) (fun k : Nat => [(7, (3, (filled x cInt [PV.val (.int .i64 0)] k).flatten))]) (fun k : Nat => x.length - k) 0 (by omega) (by exact ⟨rfl, rfl, rfl, ⟨⟩⟩) (by exact ⟨⟩) (by exact And.intro (by exact rfl) (True.intro)) (by exact And.intro (by rw [filled_zero]; exact rfl) (True.intro)) ?_
 rintro k hk
 refine sw_seq ?_
 refine sw_seq ?_
 refine sw_reg ?_
 refine rA ?_ (x := sM)
 refine rA ?_ (x := vM false [PV.sl .v _])
 refine rA ?_ (x := lN sl_41)
 refine rA ?_ (x := B_lss)
 refine sw_cond (t := 11) rfl (fun hb1 => ?_) (fun hb1 => ?_)
 ·try simp only [q1, q2, q3, q4, q5, q6, q7, q8, q9] at hb1
  have hlt : k < x.length := by omega
  have hwm := wt_mem (f := wtInt) hlt
  refine sw_skip ?_
  refine sw_seq ?_
  refine sw_block ?_
  refine sO [(0, _), (2, _), (3, _), (4, _)] [(7, (3, _))] ?_
  refine sw_reg ?_
  refine rA ?_ (x := cM Cp.hdr)
  refine rA ?_ (x := sM)
  refine rA ?_ (x := vM false [PV.sl .v _])
  refine rA ?_ (x := sM)
  refine rA ?_ (x := loc_index (by decide) sl_41 (by exact ⟨⟩) (by exact rfl) (by exact getm2 (by omega) rfl) (by exact rfl))
  refine rA ?_ (x := lE [PV.val _] ty_3)
  refine rA ?_ (x := loc_hindex (by decide) sl_41 (by exact ⟨⟩) (by exact rfl) (by omega))
  refine rA ?_ (x := loc_store (ag := false) (vs := [PV.val _]) ty_3 (by exact ⟨⟩) (by exact rfl) (by exact fill_room (fun _ => rfl) rfl hlt))
  refine sO [(0, _), (2, _), (3, _), (4, _)] [(7, _)] ?_
  refine sw_reg ?_
  refine rA ?_ (x := sM)
  refine rA ?_ (x := B_add)
  refine rA ?_ (x := sA)
  refine Exists.intro (k + 1) (And.intro (by omega) (And.intro (by omega) (And.intro (And.intro (by exact ⟨rfl, rfl, rfl, ⟨⟩⟩) (by exact ⟨⟩)) (And.intro (by exact And.intro (by exact rfl) (True.intro)) (by exact And.intro (by exact congrArg (fun z => some (3, z)) (fill_next (e := 1) (fun _ => rfl) rfl hlt)) (True.intro))))))
 ·try simp only [q1, q2, q3, q4, q5, q6, q7, q8, q9] at hb1
  have hlt : k = x.length := by omega
  refine sw_exit ?_
  refine sw_seq ?_
  refine sO [(0, _), (2, _), (3, _), (4, _)] [(7, (3, _))] ?_
  refine sw_reg ?_
  refine rA ?_ (x := loc_freeze (es := (x.map cInt)) (e := 1) (.inl rfl) (by decide) (by rw [hlt, filled_all]) (by exact List.length_map _) (by intro c hc; obtain ⟨y, _, rfl⟩ := List.mem_map.1 hc; rfl))
  refine rA ?_ (x := tA)
  refine sw_ret ?_
  exact (And.intro (by exact rfl) True.intro)
theorem to_Cond {x : Cond}  (hb : wtCond x ≤ 1048576) : SCall Tryd.prog 118 [(true, [PV.val (vI x.Field), PV.val (vI x.Low), PV.val (vI x.High)])] (resRV [(true, [PV.val (vI x.Field), PV.val (vI x.Low), PV.val (vI x.High)])]) := by
 refine scall_of (rs := [(true, [PV.val (vI x.Field), PV.val (vI x.Low), PV.val (vI x.High)])]) Tryd.func118 rfl (Nat.le_of_ble_eq_true rfl) (borA_cons (BorL.cons (PV.bor_val _) (BorL.cons (PV.bor_val _) (BorL.cons (PV.bor_val _) BorL.nil))) borA_nil) ?_
 intro h0 w0 Fz0
 have hbu := hb
 simp only [wtCond] at hbu
 refine sw_seq ?_
 refine sw_reg ?_
 refine RunS.step (by exact ⟨rfl, ⟨⟩⟩) (by exact ⟨⟩) (LocG.of rfl (loc_box (ag := true) (cs := [PV.val _, PV.val _, PV.val _]) (by decide) (by exact ⟨⟩))) (free1 (Free.of_ rfl)) ?_
 refine RunS.step (by exact ⟨⟩) (by exact ⟨⟩) (LocG.of rfl (loc_alloc (by decide) z_139 zo_139)) (free1 (Free.app (Free.of_ rfl) rfl)) ?_
 refine sw_seq ?_
 refine sO [(1, _), (2, _)] [(1, (153, [PV.val _, PV.val _, PV.val _])), (2, (139, [PV.val _, PV.val _, PV.val _]))] ?_
 refine sw_reg ?_
 refine RunS.step (by exact ⟨⟩) (by exact ⟨⟩) (LocG.of rfl (loc_alloc (by decide) z_139 zo_139)) (free1 (Free.of_ rfl)) ?_
 refine sw_seq ?_
 refine sO [(1, _), (2, _), (3, _)] [(1, _), (2, _), (3, (139, [PV.val _, PV.val _, PV.val _]))] ?_
 refine sw_reg ?_
 refine rA ?_ (x := lF fd_153_0)
 refine rA ?_ (x := lD [PV.val _] ty_3)
 refine rA ?_ (x := lF fd_139_0)
 refine rA ?_ (x := loc_store (ag := false) (vs := [PV.val _]) ty_3 (by exact ⟨⟩) (by exact rfl) (by exact Nat.le_of_ble_eq_true rfl))
 refine sw_seq ?_
 refine sO [(1, _), (2, _), (3, _)] [(1, _), (2, _), (3, (139, [PV.val _, PV.val _, PV.val _]))] ?_
 refine sw_reg ?_
 refine rA ?_ (x := lF fd_153_1)
 refine rA ?_ (x := lD [PV.val _] ty_3)
 refine rA ?_ (x := lF fd_139_1)
 refine rA ?_ (x := loc_store (ag := false) (vs := [PV.val _]) ty_3 (by exact ⟨⟩) (by exact rfl) (by exact Nat.le_of_ble_eq_true rfl))
 refine sw_seq ?_
 refine sO [(1, _), (2, _), (3, _)] [(1, _), (2, _), (3, (139, [PV.val _, PV.val _, PV.val _]))] ?_
 refine sw_reg ?_
 refine rA ?_ (x := lF fd_153_2)
 refine rA ?_ (x := lD [PV.val _] ty_3)
 refine rA ?_ (x := lF fd_139_2)
 refine rA ?_ (x := loc_store (ag := false) (vs := [PV.val _]) ty_3 (by exact ⟨⟩) (by exact rfl) (by exact Nat.le_of_ble_eq_true rfl))
 refine sw_seq ?_
 refine sO [(1, _), (2, _), (3, _)] [(1, _), (2, _), (3, (139, [PV.val _, PV.val _, PV.val _]))] ?_
 refine sw_reg ?_
 refine rA ?_ (x := lD [PV.val _, PV.val _, PV.val _] ty_139)
 refine rA ?_ (x := loc_store (ag := true) (vs := [PV.val _, PV.val _, PV.val _]) ty_139 (by exact ⟨⟩) (by exact rfl) (by exact Nat.le_of_ble_eq_true rfl))
 refine sw_ret ?_
 exact (Exists.intro 2 (Exists.intro _ (And.intro (by exact rfl) (And.intro (by exact rfl) (And.intro ty_139 (And.intro (fun h => nomatch h) True.intro))))))
theorem to_CondS {x : List Cond}  (hb : wtCondS x ≤ 1048576) : SCall Tryd.prog 96 [(false, [PV.sl .v (x.map cCond)])] (resRV [(false, [PV.sl (.own 139 3) (x.map cCond)])]) := by
 refine scall_of (rs := [(false, [PV.sl (.own 139 3) (x.map cCond)])]) Tryd.func96 rfl (Nat.le_of_ble_eq_true rfl) (borA_cons (BorL.cons (PV.bor_sl _) BorL.nil) borA_nil) ?_
 intro h0 w0 Fz0
 refine sw_len (s := 0) rfl fun hl0 => ?_
 try rw [List.length_map] at hl0
 have hbu := hb
 simp only [wtCondS] at hbu
 refine sw_seq ?_
 refine sw_reg ?_
 refine rA ?_ (x := loc_const (.inr rfl) (by decide) (ok_nil (t := 139) (e := 3)))
 refine sw_seq ?_
 refine sO [(0, _), (2, _)] [] ?_
 refine sw_reg ?_
 refine rA ?_ (x := vM false [PV.sl .v _])
 refine rA ?_ (x := lN sl_40)
 refine RunS.step (by exact ⟨rfl, rfl, ⟨⟩⟩) (by exact ⟨⟩) (LocG.of rfl (loc_make (by decide) sl_49 z_139 rfl zo_139 (by exact ⟨⟩) (by exact ⟨⟩) (by exact rfl) (by exact rfl) (by omega) (by omega))) (free1 (Free.app (Free.app (Free.of_ rfl) rfl) rfl)) ?_
 refine rA ?_ (x := cA Cp.hdr)
 refine sw_seq ?_
 refine sw_seq ?_
 refine sO [(0, _), (2, _), (3, _)] [(7, (139, _))] ?_
 refine sw_reg ?_
 refine rA ?_ (x := kA)
 refine sw_block ?_
 refine sO [(0, _), (2, _), (3, _), (4, _)] [(7, _)] ?_
 refine sw_loop (l0 := [(0, RV.sv false [PV.sl _ _]), (2, RV.sv false [PV.sl _ _]), (3, RV.hdr 7 _)]) (b0 := []) (fun k : Nat => k ≤ x.length) (fun k : Nat => [(4, RV.int (k : Int))]) (fun k : Nat => [(7, (139, (filled x cCond [PV.val (.int .i64 0), PV.val (.int .i64 0), PV.val (.int .i64 0)] k).flatten))]) (fun k : Nat => x.length - k) 0 (by omega) (by exact ⟨rfl, rfl, rfl, ⟨⟩⟩) (by exact ⟨⟩) (by exact And.intro (by exact rfl) (True.intro)) (by exact And.intro (by rw [filled_zero]; exact rfl) (True.intro)) ?_
 rintro k hk
 refine sw_seq ?_
 refine sw_seq ?_
 refine sw_reg ?_
 refine rA ?_ (x := sM)
 refine rA ?_ (x := vM false [PV.sl .v _])
 refine rA ?_ (x := lN sl_40)
 refine rA ?_ (x := B_lss)
 refine sw_cond (t := 11) rfl (fun hb1 => ?_) (fun hb1 => ?_)
 ·try simp only [q1, q2, q3, q4, q5, q6, q7, q8, q9] at hb1
  have hlt : k < x.length := by omega
  have hwm := wt_mem (f := wtCond) hlt
  refine sw_skip ?_
  refine sw_seq ?_
  refine sw_block ?_
  refine sO [(0, _), (2, _), (3, _), (4, _)] [(7, (139, _))] ?_
  refine sw_reg ?_
  refine rA ?_ (x := cM Cp.hdr)
  refine rA ?_ (x := sM)
  refine rA ?_ (x := vM false [PV.sl .v _])
  refine rA ?_ (x := sM)
  refine rA ?_ (x := loc_index (by decide) sl_40 (by exact ⟨⟩) (by exact rfl) (by exact getm2 (by omega) rfl) (by exact rfl))
  refine rA ?_ (x := lE [PV.val _, PV.val _, PV.val _] ty_153)
  refine rA ?_ (x := cL [(true, [PV.val _, PV.val _, PV.val _])] [(true, [PV.val _, PV.val _, PV.val _])] c_118 (hs := by exact to_Cond (by omega)))
  refine rA ?_ (x := loc_hindex (by decide) sl_49 (by exact ⟨⟩) (by exact rfl) (by omega))
  refine rA ?_ (x := loc_store (ag := true) (vs := [PV.val _, PV.val _, PV.val _]) ty_139 (by exact ⟨⟩) (by exact rfl) (by exact fill_room (fun _ => rfl) rfl hlt))
  refine sO [(0, _), (2, _), (3, _), (4, _)] [(7, _)] ?_
  refine sw_reg ?_
  refine rA ?_ (x := sM)
  refine rA ?_ (x := B_add)
  refine rA ?_ (x := sA)
  refine Exists.intro (k + 1) (And.intro (by omega) (And.intro (by omega) (And.intro (And.intro (by exact ⟨rfl, rfl, rfl, ⟨⟩⟩) (by exact ⟨⟩)) (And.intro (by exact And.intro (by exact rfl) (True.intro)) (by exact And.intro (by exact congrArg (fun z => some (139, z)) (fill_next (e := 3) (fun _ => rfl) rfl hlt)) (True.intro))))))
 ·try simp only [q1, q2, q3, q4, q5, q6, q7, q8, q9] at hb1
  have hlt : k = x.length := by omega
  refine sw_exit ?_
  refine sw_seq ?_
  refine sO [(0, _), (2, _), (3, _), (4, _)] [(7, (139, _))] ?_
  refine sw_reg ?_
  refine rA ?_ (x := loc_freeze (es := (x.map cCond)) (e := 3) (.inl rfl) (by decide) (by rw [hlt, filled_all]) (by exact List.length_map _) (by intro c hc; obtain ⟨y, _, rfl⟩ := List.mem_map.1 hc; rfl))
  refine rA ?_ (x := tA)
  refine sw_ret ?_
  exact (And.intro (by exact rfl) True.intro)
theorem to_Row {x : Row}  (hb : wtRow x ≤ 1048576) : SCall Tryd.prog 97 [(true, [PV.val (vI x.Id), PV.sl .v (x.Values.map cInt)])] (resRV [(true, [PV.val (vI x.Id), PV.sl (.own 3 1) (x.Values.map cInt)])]) := by
 refine scall_of (rs := [(true, [PV.val (vI x.Id), PV.sl (.own 3 1) (x.Values.map cInt)])]) Tryd.func97 rfl (Nat.le_of_ble_eq_true rfl) (borA_cons (BorL.cons (PV.bor_val _) (BorL.cons (PV.bor_sl _) BorL.nil)) borA_nil) ?_
 intro h0 w0 Fz0
 refine sw_slen (s := 0) (j := 1) rfl rfl fun hl0_1 => ?_
 try rw [List.length_map] at hl0_1
 have hbu := hb
 simp only [wtRow] at hbu
 refine sw_seq ?_
 refine sw_reg ?_
 refine RunS.step (by exact ⟨rfl, ⟨⟩⟩) (by exact ⟨⟩) (LocG.of rfl (loc_box (ag := true) (cs := [PV.val _, PV.sl _ _]) (by decide) (by exact ⟨⟩))) (free1 (Free.of_ rfl)) ?_
 refine RunS.step (by exact ⟨⟩) (by exact ⟨⟩) (LocG.of rfl (loc_alloc (by decide) z_66 zo_66)) (free1 (Free.app (Free.of_ rfl) rfl)) ?_
 refine sw_seq ?_
 refine sO [(1, _), (2, _)] [(1, (59, [PV.val _, PV.sl _ _])), (2, (66, [PV.val _, PV.sl _ _]))] ?_
 refine sw_reg ?_
 refine RunS.step (by exact ⟨⟩) (by exact ⟨⟩) (LocG.of rfl (loc_alloc (by decide) z_66 zo_66)) (free1 (Free.of_ rfl)) ?_
 refine sw_seq ?_
 refine sO [(1, _), (2, _), (3, _)] [(1, _), (2, _), (3, (66, [PV.val _, PV.sl _ _]))] ?_
 refine sw_reg ?_
 refine rA ?_ (x := lF fd_59_0)
 refine rA ?_ (x := lD [PV.val _] ty_3)
 refine rA ?_ (x := lF fd_66_0)
 refine rA ?_ (x := loc_store (ag := false) (vs := [PV.val _]) ty_3 (by exact ⟨⟩) (by exact rfl) (by exact Nat.le_of_ble_eq_true rfl))
 refine sw_seq ?_
 refine sO [(1, _), (2, _), (3, _)] [(1, _), (2, _), (3, (66, [PV.val _, PV.sl _ _]))] ?_
 refine sw_reg ?_
 refine rA ?_ (x := lF fd_59_1)
 refine rA ?_ (x := lD [PV.sl .v _] ty_41)
 refine rA ?_ (x := cL [(false, [PV.sl _ _])] [(false, [PV.sl .v _])] c_74 (hs := by exact to_IntS (by omega)))
 refine rA ?_ (x := lF fd_66_1)
 refine rA ?_ (x := loc_store (ag := false) (vs := [PV.sl _ _]) ty_41 (by exact ⟨⟩) (by exact rfl) (by exact Nat.le_of_ble_eq_true rfl))
 refine sw_seq ?_
 refine sO [(1, _), (2, _), (3, _)] [(1, _), (2, _), (3, (66, [PV.val _, PV.sl _ _]))] ?_
 refine sw_reg ?_
 refine rA ?_ (x := loc_ltake (ms := [PV.val _, PV.sl _ _]) (qs := [PV.val _, PV.sl .v _]) (by decide) ty_66 (fun h => nomatch h) (by exact Nat.le_of_ble_eq_true rfl) (by exact rfl) (by exact (ToL.cons (PV.To.refl _) (ToL.cons PV.to_none ToL.nil))) (by exact (BorL.cons (PV.bor_val _) (BorL.cons (PV.bor_sl _) BorL.nil))))
 refine rA ?_ (x := loc_store (ag := true) (vs := [PV.val _, PV.sl _ _]) ty_66 (by exact ⟨⟩) (by exact rfl) (by exact Nat.le_of_ble_eq_true rfl))
 refine sw_ret ?_
 exact (Exists.intro 2 (Exists.intro _ (And.intro (by exact rfl) (And.intro (by exact rfl) (And.intro ty_66 (And.intro (fun h => nomatch h) True.intro))))))
theorem to_Query {x : Query}  (hb : wtQuery x ≤ 1048576) : SCall Tryd.prog 54 [(true, [PV.val (vI x.Id), PV.val (vI x.Tenant), PV.sl .v (x.Conds.map cCond), PV.sl .v (x.Out.map cInt)])] (resRV [(true, [PV.val (vI x.Id), PV.val (vI x.Tenant), PV.sl (.own 139 3) (x.Conds.map cCond), PV.sl (.own 3 1) (x.Out.map cInt)])]) := by
 refine scall_of (rs := [(true, [PV.val (vI x.Id), PV.val (vI x.Tenant), PV.sl (.own 139 3) (x.Conds.map cCond), PV.sl (.own 3 1) (x.Out.map cInt)])]) Tryd.func54 rfl (Nat.le_of_ble_eq_true rfl) (borA_cons (BorL.cons (PV.bor_val _) (BorL.cons (PV.bor_val _) (BorL.cons (PV.bor_sl _) (BorL.cons (PV.bor_sl _) BorL.nil)))) borA_nil) ?_
 intro h0 w0 Fz0
 refine sw_slen (s := 0) (j := 2) rfl rfl fun hl0_2 => ?_
 try rw [List.length_map] at hl0_2
 refine sw_slen (s := 0) (j := 3) rfl rfl fun hl0_3 => ?_
 try rw [List.length_map] at hl0_3
 have hbu := hb
 simp only [wtQuery] at hbu
 refine sw_seq ?_
 refine sw_reg ?_
 refine RunS.step (by exact ⟨rfl, ⟨⟩⟩) (by exact ⟨⟩) (LocG.of rfl (loc_box (ag := true) (cs := [PV.val _, PV.val _, PV.sl _ _, PV.sl _ _]) (by decide) (by exact ⟨⟩))) (free1 (Free.of_ rfl)) ?_
 refine RunS.step (by exact ⟨⟩) (by exact ⟨⟩) (LocG.of rfl (loc_alloc (by decide) z_51 zo_51)) (free1 (Free.app (Free.of_ rfl) rfl)) ?_
 refine sw_seq ?_
 refine sO [(1, _), (2, _)] [(1, (43, [PV.val _, PV.val _, PV.sl _ _, PV.sl _ _])), (2, (51, [PV.val _, PV.val _, PV.sl _ _, PV.sl _ _]))] ?_
 refine sw_reg ?_
 refine RunS.step (by exact ⟨⟩) (by exact ⟨⟩) (LocG.of rfl (loc_alloc (by decide) z_51 zo_51)) (free1 (Free.of_ rfl)) ?_
 refine sw_seq ?_
 refine sO [(1, _), (2, _), (3, _)] [(1, _), (2, _), (3, (51, [PV.val _, PV.val _, PV.sl _ _, PV.sl _ _]))] ?_
 refine sw_reg ?_
 refine rA ?_ (x := lF fd_43_0)
 refine rA ?_ (x := lD [PV.val _] ty_3)
 refine rA ?_ (x := lF fd_51_0)
 refine rA ?_ (x := loc_store (ag := false) (vs := [PV.val _]) ty_3 (by exact ⟨⟩) (by exact rfl) (by exact Nat.le_of_ble_eq_true rfl))
 refine sw_seq ?_
 refine sO [(1, _), (2, _), (3, _)] [(1, _), (2, _), (3, (51, [PV.val _, PV.val _, PV.sl _ _, PV.sl _ _]))] ?_
 refine sw_reg ?_
 refine rA ?_ (x := lF fd_43_1)
 refine rA ?_ (x := lD [PV.val _] ty_3)
 refine rA ?_ (x := lF fd_51_1)
 refine rA ?_ (x := loc_store (ag := false) (vs := [PV.val _]) ty_3 (by exact ⟨⟩) (by exact rfl) (by exact Nat.le_of_ble_eq_true rfl))
 refine sw_seq ?_
 refine sO [(1, _), (2, _), (3, _)] [(1, _), (2, _), (3, (51, [PV.val _, PV.val _, PV.sl _ _, PV.sl _ _]))] ?_
 refine sw_reg ?_
 refine rA ?_ (x := lF fd_43_2)
 refine rA ?_ (x := lD [PV.sl .v _] ty_40)
 refine rA ?_ (x := cL [(false, [PV.sl _ _])] [(false, [PV.sl .v _])] c_96 (hs := by exact to_CondS (by omega)))
 refine rA ?_ (x := lF fd_51_2)
 refine rA ?_ (x := loc_store (ag := false) (vs := [PV.sl _ _]) ty_49 (by exact ⟨⟩) (by exact rfl) (by exact Nat.le_of_ble_eq_true rfl))
 refine sw_seq ?_
 refine sO [(1, _), (2, _), (3, _)] [(1, _), (2, _), (3, (51, [PV.val _, PV.val _, PV.sl _ _, PV.sl _ _]))] ?_
 refine sw_reg ?_
 refine rA ?_ (x := lF fd_43_3)
 refine rA ?_ (x := lD [PV.sl .v _] ty_41)
 refine rA ?_ (x := cL [(false, [PV.sl _ _])] [(false, [PV.sl .v _])] c_74 (hs := by exact to_IntS (by omega)))
 refine rA ?_ (x := lF fd_51_3)
 refine rA ?_ (x := loc_store (ag := false) (vs := [PV.sl _ _]) ty_41 (by exact ⟨⟩) (by exact rfl) (by exact Nat.le_of_ble_eq_true rfl))
 refine sw_seq ?_
 refine sO [(1, _), (2, _), (3, _)] [(1, _), (2, _), (3, (51, [PV.val _, PV.val _, PV.sl _ _, PV.sl _ _]))] ?_
 refine sw_reg ?_
 refine rA ?_ (x := loc_ltake (ms := [PV.val _, PV.val _, PV.sl _ _, PV.sl _ _]) (qs := [PV.val _, PV.val _, PV.sl .v _, PV.sl .v _]) (by decide) ty_51 (fun h => nomatch h) (by exact Nat.le_of_ble_eq_true rfl) (by exact rfl) (by exact (ToL.cons (PV.To.refl _) (ToL.cons (PV.To.refl _) (ToL.cons PV.to_none (ToL.cons PV.to_none ToL.nil))))) (by exact (BorL.cons (PV.bor_val _) (BorL.cons (PV.bor_val _) (BorL.cons (PV.bor_sl _) (BorL.cons (PV.bor_sl _) BorL.nil))))))
 refine rA ?_ (x := loc_store (ag := true) (vs := [PV.val _, PV.val _, PV.sl _ _, PV.sl _ _]) ty_51 (by exact ⟨⟩) (by exact rfl) (by exact Nat.le_of_ble_eq_true rfl))
 refine sw_ret ?_
 exact (Exists.intro 2 (Exists.intro _ (And.intro (by exact rfl) (And.intro (by exact rfl) (And.intro ty_51 (And.intro (fun h => nomatch h) True.intro))))))
theorem to_Update {x : Update}  (hb : wtUpdate x ≤ 1048576) : SCall Tryd.prog 66 [(true, [PV.val (vI x.Kind), PV.val (vI x.Row.Id), PV.sl .v (x.Row.Values.map cInt), PV.val (vI x.Field), PV.val (vI x.Value)])] (resRV [(true, [PV.val (vI x.Kind), PV.val (vI x.Row.Id), PV.sl (.own 3 1) (x.Row.Values.map cInt), PV.val (vI x.Field), PV.val (vI x.Value)])]) := by
 refine scall_of (rs := [(true, [PV.val (vI x.Kind), PV.val (vI x.Row.Id), PV.sl (.own 3 1) (x.Row.Values.map cInt), PV.val (vI x.Field), PV.val (vI x.Value)])]) Tryd.func66 rfl (Nat.le_of_ble_eq_true rfl) (borA_cons (BorL.cons (PV.bor_val _) (BorL.cons (PV.bor_val _) (BorL.cons (PV.bor_sl _) (BorL.cons (PV.bor_val _) (BorL.cons (PV.bor_val _) BorL.nil))))) borA_nil) ?_
 intro h0 w0 Fz0
 refine sw_slen (s := 0) (j := 2) rfl rfl fun hl0_2 => ?_
 try rw [List.length_map] at hl0_2
 have hbu := hb
 simp only [wtUpdate] at hbu
 refine sw_seq ?_
 refine sw_reg ?_
 refine RunS.step (by exact ⟨rfl, ⟨⟩⟩) (by exact ⟨⟩) (LocG.of rfl (loc_box (ag := true) (cs := [PV.val _, PV.val _, PV.sl _ _, PV.val _, PV.val _]) (by decide) (by exact ⟨⟩))) (free1 (Free.of_ rfl)) ?_
 refine RunS.step (by exact ⟨⟩) (by exact ⟨⟩) (LocG.of rfl (loc_alloc (by decide) z_68 zo_68)) (free1 (Free.app (Free.of_ rfl) rfl)) ?_
 refine sw_seq ?_
 refine sO [(1, _), (2, _)] [(1, (61, [PV.val _, PV.val _, PV.sl _ _, PV.val _, PV.val _])), (2, (68, [PV.val _, PV.val _, PV.sl _ _, PV.val _, PV.val _]))] ?_
 refine sw_reg ?_
 refine RunS.step (by exact ⟨⟩) (by exact ⟨⟩) (LocG.of rfl (loc_alloc (by decide) z_68 zo_68)) (free1 (Free.of_ rfl)) ?_
 refine sw_seq ?_
 refine sO [(1, _), (2, _), (3, _)] [(1, _), (2, _), (3, (68, [PV.val _, PV.val _, PV.sl _ _, PV.val _, PV.val _]))] ?_
 refine sw_reg ?_
 refine rA ?_ (x := lF fd_61_0)
 refine rA ?_ (x := lD [PV.val _] ty_3)
 refine rA ?_ (x := lF fd_68_0)
 refine rA ?_ (x := loc_store (ag := false) (vs := [PV.val _]) ty_3 (by exact ⟨⟩) (by exact rfl) (by exact Nat.le_of_ble_eq_true rfl))
 refine sw_seq ?_
 refine sO [(1, _), (2, _), (3, _)] [(1, _), (2, _), (3, (68, [PV.val _, PV.val _, PV.sl _ _, PV.val _, PV.val _]))] ?_
 refine sw_reg ?_
 refine rA ?_ (x := lF fd_61_1)
 refine rA ?_ (x := lD [PV.val _, PV.sl .v _] ty_59)
 refine rA ?_ (x := cL [(true, [PV.val _, PV.sl _ _])] [(true, [PV.val _, PV.sl .v _])] c_97 (hs := by exact to_Row (by omega)))
 refine rA ?_ (x := lF fd_68_1)
 refine rA ?_ (x := loc_store (ag := true) (vs := [PV.val _, PV.sl _ _]) ty_66 (by exact ⟨⟩) (by exact rfl) (by exact Nat.le_of_ble_eq_true rfl))
 refine sw_seq ?_
 refine sO [(1, _), (2, _), (3, _)] [(1, _), (2, _), (3, (68, [PV.val _, PV.val _, PV.sl _ _, PV.val _, PV.val _]))] ?_
 refine sw_reg ?_
 refine rA ?_ (x := lF fd_61_2)
 refine rA ?_ (x := lD [PV.val _] ty_3)
 refine rA ?_ (x := lF fd_68_2)
 refine rA ?_ (x := loc_store (ag := false) (vs := [PV.val _]) ty_3 (by exact ⟨⟩) (by exact rfl) (by exact Nat.le_of_ble_eq_true rfl))
 refine sw_seq ?_
 refine sO [(1, _), (2, _), (3, _)] [(1, _), (2, _), (3, (68, [PV.val _, PV.val _, PV.sl _ _, PV.val _, PV.val _]))] ?_
 refine sw_reg ?_
 refine rA ?_ (x := lF fd_61_3)
 refine rA ?_ (x := lD [PV.val _] ty_3)
 refine rA ?_ (x := lF fd_68_3)
 refine rA ?_ (x := loc_store (ag := false) (vs := [PV.val _]) ty_3 (by exact ⟨⟩) (by exact rfl) (by exact Nat.le_of_ble_eq_true rfl))
 refine sw_seq ?_
 refine sO [(1, _), (2, _), (3, _)] [(1, _), (2, _), (3, (68, [PV.val _, PV.val _, PV.sl _ _, PV.val _, PV.val _]))] ?_
 refine sw_reg ?_
 refine rA ?_ (x := loc_ltake (ms := [PV.val _, PV.val _, PV.sl _ _, PV.val _, PV.val _]) (qs := [PV.val _, PV.val _, PV.sl .v _, PV.val _, PV.val _]) (by decide) ty_68 (fun h => nomatch h) (by exact Nat.le_of_ble_eq_true rfl) (by exact rfl) (by exact (ToL.cons (PV.To.refl _) (ToL.cons (PV.To.refl _) (ToL.cons PV.to_none (ToL.cons (PV.To.refl _) (ToL.cons (PV.To.refl _) ToL.nil)))))) (by exact (BorL.cons (PV.bor_val _) (BorL.cons (PV.bor_val _) (BorL.cons (PV.bor_sl _) (BorL.cons (PV.bor_val _) (BorL.cons (PV.bor_val _) BorL.nil)))))))
 refine rA ?_ (x := loc_store (ag := true) (vs := [PV.val _, PV.val _, PV.sl _ _, PV.val _, PV.val _]) ty_68 (by exact ⟨⟩) (by exact rfl) (by exact Nat.le_of_ble_eq_true rfl))
 refine sw_ret ?_
 exact (Exists.intro 2 (Exists.intro _ (And.intro (by exact rfl) (And.intro (by exact rfl) (And.intro ty_68 (And.intro (fun h => nomatch h) True.intro))))))
theorem to_Event {x : Event}  (hb : wtEvent x ≤ 1048576) : SCall Tryd.prog 24 [(true, [PV.val (vI x.Kind), PV.val (vI x.Query.Id), PV.val (vI x.Query.Tenant), PV.sl .v (x.Query.Conds.map cCond), PV.sl .v (x.Query.Out.map cInt), PV.val (vI x.Limit), PV.val (vI x.Id), PV.val (vI x.Update.Kind), PV.val (vI x.Update.Row.Id), PV.sl .v (x.Update.Row.Values.map cInt), PV.val (vI x.Update.Field), PV.val (vI x.Update.Value), PV.val (vI x.Steps)])] (resRV [(true, [PV.val (vI x.Kind), PV.val (vI x.Query.Id), PV.val (vI x.Query.Tenant), PV.sl (.own 139 3) (x.Query.Conds.map cCond), PV.sl (.own 3 1) (x.Query.Out.map cInt), PV.val (vI x.Limit), PV.val (vI x.Id), PV.val (vI x.Update.Kind), PV.val (vI x.Update.Row.Id), PV.sl (.own 3 1) (x.Update.Row.Values.map cInt), PV.val (vI x.Update.Field), PV.val (vI x.Update.Value), PV.val (vI x.Steps)])]) := by
 refine scall_of (rs := [(true, [PV.val (vI x.Kind), PV.val (vI x.Query.Id), PV.val (vI x.Query.Tenant), PV.sl (.own 139 3) (x.Query.Conds.map cCond), PV.sl (.own 3 1) (x.Query.Out.map cInt), PV.val (vI x.Limit), PV.val (vI x.Id), PV.val (vI x.Update.Kind), PV.val (vI x.Update.Row.Id), PV.sl (.own 3 1) (x.Update.Row.Values.map cInt), PV.val (vI x.Update.Field), PV.val (vI x.Update.Value), PV.val (vI x.Steps)])]) Tryd.func24 rfl (Nat.le_of_ble_eq_true rfl) (borA_cons (BorL.cons (PV.bor_val _) (BorL.cons (PV.bor_val _) (BorL.cons (PV.bor_val _) (BorL.cons (PV.bor_sl _) (BorL.cons (PV.bor_sl _) (BorL.cons (PV.bor_val _) (BorL.cons (PV.bor_val _) (BorL.cons (PV.bor_val _) (BorL.cons (PV.bor_val _) (BorL.cons (PV.bor_sl _) (BorL.cons (PV.bor_val _) (BorL.cons (PV.bor_val _) (BorL.cons (PV.bor_val _) BorL.nil))))))))))))) borA_nil) ?_
 intro h0 w0 Fz0
 refine sw_slen (s := 0) (j := 3) rfl rfl fun hl0_3 => ?_
 try rw [List.length_map] at hl0_3
 refine sw_slen (s := 0) (j := 4) rfl rfl fun hl0_4 => ?_
 try rw [List.length_map] at hl0_4
 refine sw_slen (s := 0) (j := 9) rfl rfl fun hl0_9 => ?_
 try rw [List.length_map] at hl0_9
 have hbu := hb
 simp only [wtEvent] at hbu
 refine sw_seq ?_
 refine sw_reg ?_
 refine RunS.step (by exact ⟨rfl, ⟨⟩⟩) (by exact ⟨⟩) (LocG.of rfl (loc_box (ag := true) (cs := [PV.val _, PV.val _, PV.val _, PV.sl _ _, PV.sl _ _, PV.val _, PV.val _, PV.val _, PV.val _, PV.sl _ _, PV.val _, PV.val _, PV.val _]) (by decide) (by exact ⟨⟩))) (free1 (Free.of_ rfl)) ?_
 refine RunS.step (by exact ⟨⟩) (by exact ⟨⟩) (LocG.of rfl (loc_alloc (by decide) z_70 zo_70)) (free1 (Free.app (Free.of_ rfl) rfl)) ?_
 refine sw_seq ?_
 refine sO [(1, _), (2, _)] [(1, (63, [PV.val _, PV.val _, PV.val _, PV.sl _ _, PV.sl _ _, PV.val _, PV.val _, PV.val _, PV.val _, PV.sl _ _, PV.val _, PV.val _, PV.val _])), (2, (70, [PV.val _, PV.val _, PV.val _, PV.sl _ _, PV.sl _ _, PV.val _, PV.val _, PV.val _, PV.val _, PV.sl _ _, PV.val _, PV.val _, PV.val _]))] ?_
 refine sw_reg ?_
 refine RunS.step (by exact ⟨⟩) (by exact ⟨⟩) (LocG.of rfl (loc_alloc (by decide) z_70 zo_70)) (free1 (Free.of_ rfl)) ?_
 refine sw_seq ?_
 refine sO [(1, _), (2, _), (3, _)] [(1, _), (2, _), (3, (70, [PV.val _, PV.val _, PV.val _, PV.sl _ _, PV.sl _ _, PV.val _, PV.val _, PV.val _, PV.val _, PV.sl _ _, PV.val _, PV.val _, PV.val _]))] ?_
 refine sw_reg ?_
 refine rA ?_ (x := lF fd_63_0)
 refine rA ?_ (x := lD [PV.val _] ty_3)
 refine rA ?_ (x := lF fd_70_0)
 refine rA ?_ (x := loc_store (ag := false) (vs := [PV.val _]) ty_3 (by exact ⟨⟩) (by exact rfl) (by exact Nat.le_of_ble_eq_true rfl))
 refine sw_seq ?_
 refine sO [(1, _), (2, _), (3, _)] [(1, _), (2, _), (3, (70, [PV.val _, PV.val _, PV.val _, PV.sl _ _, PV.sl _ _, PV.val _, PV.val _, PV.val _, PV.val _, PV.sl _ _, PV.val _, PV.val _, PV.val _]))] ?_
 refine sw_reg ?_
 refine rA ?_ (x := lF fd_63_1)
 refine rA ?_ (x := lD [PV.val _, PV.val _, PV.sl .v _, PV.sl .v _] ty_43)
 refine rA ?_ (x := cL [(true, [PV.val _, PV.val _, PV.sl _ _, PV.sl _ _])] [(true, [PV.val _, PV.val _, PV.sl .v _, PV.sl .v _])] c_54 (hs := by exact to_Query (by omega)))
 refine rA ?_ (x := lF fd_70_1)
 refine rA ?_ (x := loc_store (ag := true) (vs := [PV.val _, PV.val _, PV.sl _ _, PV.sl _ _]) ty_51 (by exact ⟨⟩) (by exact rfl) (by exact Nat.le_of_ble_eq_true rfl))
 refine sw_seq ?_
 refine sO [(1, _), (2, _), (3, _)] [(1, _), (2, _), (3, (70, [PV.val _, PV.val _, PV.val _, PV.sl _ _, PV.sl _ _, PV.val _, PV.val _, PV.val _, PV.val _, PV.sl _ _, PV.val _, PV.val _, PV.val _]))] ?_
 refine sw_reg ?_
 refine rA ?_ (x := lF fd_63_2)
 refine rA ?_ (x := lD [PV.val _] ty_3)
 refine rA ?_ (x := lF fd_70_2)
 refine rA ?_ (x := loc_store (ag := false) (vs := [PV.val _]) ty_3 (by exact ⟨⟩) (by exact rfl) (by exact Nat.le_of_ble_eq_true rfl))
 refine sw_seq ?_
 refine sO [(1, _), (2, _), (3, _)] [(1, _), (2, _), (3, (70, [PV.val _, PV.val _, PV.val _, PV.sl _ _, PV.sl _ _, PV.val _, PV.val _, PV.val _, PV.val _, PV.sl _ _, PV.val _, PV.val _, PV.val _]))] ?_
 refine sw_reg ?_
 refine rA ?_ (x := lF fd_63_3)
 refine rA ?_ (x := lD [PV.val _] ty_3)
 refine rA ?_ (x := lF fd_70_3)
 refine rA ?_ (x := loc_store (ag := false) (vs := [PV.val _]) ty_3 (by exact ⟨⟩) (by exact rfl) (by exact Nat.le_of_ble_eq_true rfl))
 refine sw_seq ?_
 refine sO [(1, _), (2, _), (3, _)] [(1, _), (2, _), (3, (70, [PV.val _, PV.val _, PV.val _, PV.sl _ _, PV.sl _ _, PV.val _, PV.val _, PV.val _, PV.val _, PV.sl _ _, PV.val _, PV.val _, PV.val _]))] ?_
 refine sw_reg ?_
 refine rA ?_ (x := lF fd_63_4)
 refine rA ?_ (x := lD [PV.val _, PV.val _, PV.sl .v _, PV.val _, PV.val _] ty_61)
 refine rA ?_ (x := cL [(true, [PV.val _, PV.val _, PV.sl _ _, PV.val _, PV.val _])] [(true, [PV.val _, PV.val _, PV.sl .v _, PV.val _, PV.val _])] c_66 (hs := by exact to_Update (by omega)))
 refine rA ?_ (x := lF fd_70_4)
 refine rA ?_ (x := loc_store (ag := true) (vs := [PV.val _, PV.val _, PV.sl _ _, PV.val _, PV.val _]) ty_68 (by exact ⟨⟩) (by exact rfl) (by exact Nat.le_of_ble_eq_true rfl))
 refine sw_seq ?_
 refine sO [(1, _), (2, _), (3, _)] [(1, _), (2, _), (3, (70, [PV.val _, PV.val _, PV.val _, PV.sl _ _, PV.sl _ _, PV.val _, PV.val _, PV.val _, PV.val _, PV.sl _ _, PV.val _, PV.val _, PV.val _]))] ?_
 refine sw_reg ?_
 refine rA ?_ (x := lF fd_63_5)
 refine rA ?_ (x := lD [PV.val _] ty_3)
 refine rA ?_ (x := lF fd_70_5)
 refine rA ?_ (x := loc_store (ag := false) (vs := [PV.val _]) ty_3 (by exact ⟨⟩) (by exact rfl) (by exact Nat.le_of_ble_eq_true rfl))
 refine sw_seq ?_
 refine sO [(1, _), (2, _), (3, _)] [(1, _), (2, _), (3, (70, [PV.val _, PV.val _, PV.val _, PV.sl _ _, PV.sl _ _, PV.val _, PV.val _, PV.val _, PV.val _, PV.sl _ _, PV.val _, PV.val _, PV.val _]))] ?_
 refine sw_reg ?_
 refine rA ?_ (x := loc_ltake (ms := [PV.val _, PV.val _, PV.val _, PV.sl _ _, PV.sl _ _, PV.val _, PV.val _, PV.val _, PV.val _, PV.sl _ _, PV.val _, PV.val _, PV.val _]) (qs := [PV.val _, PV.val _, PV.val _, PV.sl .v _, PV.sl .v _, PV.val _, PV.val _, PV.val _, PV.val _, PV.sl .v _, PV.val _, PV.val _, PV.val _]) (by decide) ty_70 (fun h => nomatch h) (by exact Nat.le_of_ble_eq_true rfl) (by exact rfl) (by exact (ToL.cons (PV.To.refl _) (ToL.cons (PV.To.refl _) (ToL.cons (PV.To.refl _) (ToL.cons PV.to_none (ToL.cons PV.to_none (ToL.cons (PV.To.refl _) (ToL.cons (PV.To.refl _) (ToL.cons (PV.To.refl _) (ToL.cons (PV.To.refl _) (ToL.cons PV.to_none (ToL.cons (PV.To.refl _) (ToL.cons (PV.To.refl _) (ToL.cons (PV.To.refl _) ToL.nil)))))))))))))) (by exact (BorL.cons (PV.bor_val _) (BorL.cons (PV.bor_val _) (BorL.cons (PV.bor_val _) (BorL.cons (PV.bor_sl _) (BorL.cons (PV.bor_sl _) (BorL.cons (PV.bor_val _) (BorL.cons (PV.bor_val _) (BorL.cons (PV.bor_val _) (BorL.cons (PV.bor_val _) (BorL.cons (PV.bor_sl _) (BorL.cons (PV.bor_val _) (BorL.cons (PV.bor_val _) (BorL.cons (PV.bor_val _) BorL.nil)))))))))))))))
 refine rA ?_ (x := loc_store (ag := true) (vs := [PV.val _, PV.val _, PV.val _, PV.sl _ _, PV.sl _ _, PV.val _, PV.val _, PV.val _, PV.val _, PV.sl _ _, PV.val _, PV.val _, PV.val _]) ty_70 (by exact ⟨⟩) (by exact rfl) (by exact Nat.le_of_ble_eq_true rfl))
 refine sw_ret ?_
 exact (Exists.intro 2 (Exists.intro _ (And.intro (by exact rfl) (And.intro (by exact rfl) (And.intro ty_70 (And.intro (fun h => nomatch h) True.intro))))))
end Go.Proofs.YtaomckpfgmhapaaDoor
