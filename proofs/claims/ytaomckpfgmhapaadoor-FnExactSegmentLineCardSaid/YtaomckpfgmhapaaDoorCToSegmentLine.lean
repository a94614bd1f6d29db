/- What functions of the program compute. No condition. -/
import Derived.Test.YtaomckpfgmhapaaDoorCSzSegmentLine
import Derived.KernelRfl
set_option linter.unusedVariables false
set_option linter.unusedSimpArgs false
namespace Go.Proofs.YtaomckpfgmhapaaDoor
open Go Go.RowKit M
set_option maxRecDepth 10000
attribute [local irreducible] PV.Lcl PV.LclR RV.Lcl
theorem to_IntS {x : List Int}  (hb : wtIntS x ≤ 1048576) : SCall Tryd.prog 74 [(false, [PV.sl .v (x.map cInt)])] (resRV [(false, [PV.sl (.own 3 1) (x.map cInt)])]) := by
 refine scall_of (rs := [(false, [PV.sl (.own 3 1) (x.map cInt)])]) Tryd.func74 rfl (Nat.le_of_ble_eq_true rfl) (borA_cons (BorL.cons (PV.bor_sl _) BorL.nil) borA_nil) ?_
 intro h0 w0 Fz0
 refine sw_len (s := 0) rfl fun hl0 => ?_
 try rw [List.length_map] at hl0
 have hbu := hb
 simp only [wtIntS] at hbu
 refine sw_seq ?_
 refine sw_reg ?_
 refine rA ?_ (x := loc_const (.inr rfl) (by decide) (ok_nil (t := 3) (e := 1)))
 refine sw_seq ?_
 refine sO [(0, _), (2, _)] [] ?_
 refine sw_reg ?_
 refine rA ?_ (x := vM false [PV.sl .v _])
 refine rA ?_ (x := lN sl_41)
 refine RunS.step (by exact ⟨rfl, rfl, ⟨⟩⟩) (by exact ⟨⟩) (LocG.of rfl (loc_make (by decide) sl_41 z_3 rfl zo_3 (by exact ⟨⟩) (by exact ⟨⟩) (by exact rfl) (by exact rfl) (by omega) (by omega))) (free1 (Free.app (Free.app (Free.of_ rfl) rfl) rfl)) ?_
 refine rA ?_ (x := cA Cp.hdr)
 refine sw_seq ?_
 refine sw_seq ?_
 refine sO [(0, _), (2, _), (3, _)] [(7, (3, _))] ?_
 refine sw_reg ?_
 refine rA ?_ (x := kA)
 refine sw_block ?_
 refine sO [(0, _), (2, _), (3, _), (4, _)] [(7, _)] ?_
 refine sw_loop (l0 := [(0, RV.sv false [PV.sl _ _]), (2, RV.sv false [PV.sl _ _]), (3, RV.hdr 7 _)]) (b0 := []) (fun k : Nat => k ≤ x.length) (fun k : Nat => [(4, RV.int (k : Int))]) (fun k : Nat => [(7, (3, (filled x cInt [PV.val (.int .i64 0)] k).flatten))]) (fun k : Nat => x.length - k) 0 (by omega) (by exact ⟨rfl, rfl, rfl, ⟨⟩⟩) (by exact ⟨⟩) (by exact And.intro (by exact rfl) (True.intro)) (by exact And.intro (by rw [filled_zero]; exact rfl) (True.intro)) ?_
 rintro k hk
 refine sw_seq ?_
 refine sw_seq ?_
 refine sw_reg ?_
 refine rA ?_ (x := sM)
 refine rA ?_ (x := vM false [PV.sl .v _])
 refine rA ?_ (x := lN sl_41)
 refine rA ?_ (x := B_lss)
 refine sw_cond (t := 11) rfl (fun hb1 => ?_) (fun hb1 => ?_)
 ·try simp only [q1, q2, q3, q4, q5, q6, q7, q8, q9] at hb1
  have hlt : k < x.length := by omega
  have hwm := wt_mem (f := wtInt) hlt
  refine sw_skip ?_
  refine sw_seq ?_
  refine sw_block ?_
  refine sO [(0, _), (2, _), (3, _), (4, _)] [(7, (3, _))] ?_
  refine sw_reg ?_
  refine rA ?_ (x := cM Cp.hdr)
  refine rA ?_ (x := sM)
  refine rA ?_ (x := vM false [PV.sl .v _])
  refine rA ?_ (x := sM)
  refine rA ?_ (x := loc_index (by decide) sl_41 (by exact ⟨⟩) (by exact rfl) (by exact getm2 (by omega) rfl) (by exact rfl))
  refine rA ?_ (x := lE [PV.val _] ty_3)
  refine rA ?_ (x := loc_hindex (by decide) sl_41 (by exact ⟨⟩) (by exact rfl) (by omega))
  refine rA ?_ (x := loc_store (ag := false) (vs := [PV.val _]) ty_3 (by exact ⟨⟩) (by exact rfl) (by exact fill_room (fun _ => rfl) rfl hlt))
  refine sO [(0, _), (2, _), (3, _), (4, _)] [(7, _)] ?_
  refine sw_reg ?_
  refine rA ?_ (x := sM)
  refine rA ?_ (x := B_add)
  refine rA ?_ (x := sA)
  refine Exists.intro (k + 1) (And.intro (by omega) (And.intro (by omega) (And.intro (And.intro (by exact ⟨rfl, rfl, rfl, ⟨⟩⟩) (by exact ⟨⟩)) (And.intro (by exact And.intro (by exact rfl) (True.intro)) (by exact And.intro (by exact congrArg (fun z => some (3, z)) (fill_next (e := 1) (fun _ => rfl) rfl hlt)) (True.intro))))))
 ·try simp only [q1, q2, q3, q4, q5, q6, q7, q8, q9] at hb1
  have hlt : k = x.length := by omega
  refine sw_exit ?_
  refine sw_seq ?_
  refine sO [(0, _), (2, _), (3, _), (4, _)] [(7, (3, _))] ?_
  refine sw_reg ?_
  refine rA ?_ (x := loc_freeze (es := (x.map cInt)) (e := 1) (.inl rfl) (by decide) (by rw [hlt, filled_all]) (by exact List.length_map _) (by intro c hc; obtain ⟨y, _, rfl⟩ := List.mem_map.1 hc; rfl))
  refine rA ?_ (x := tA)
  refine sw_ret ?_
  exact (And.intro (by exact rfl) True.intro)
theorem to_Version {x : Version}  (hb : wtVersion x ≤ 1048576) : SCall Tryd.prog 115 [(true, [PV.val (vI x.Id), PV.sl .v (x.Values.map cInt), PV.val (vI x.Born), PV.val (vI x.Died)])] (resRV [(true, [PV.val (vI x.Id), PV.sl (.own 3 1) (x.Values.map cInt), PV.val (vI x.Born), PV.val (vI x.Died)])]) := by
 refine scall_of (rs := [(true, [PV.val (vI x.Id), PV.sl (.own 3 1) (x.Values.map cInt), PV.val (vI x.Born), PV.val (vI x.Died)])]) Tryd.func115 rfl (Nat.le_of_ble_eq_true rfl) (borA_cons (BorL.cons (PV.bor_val _) (BorL.cons (PV.bor_sl _) (BorL.cons (PV.bor_val _) (BorL.cons (PV.bor_val _) BorL.nil)))) borA_nil) ?_
 intro h0 w0 Fz0
 refine sw_slen (s := 0) (j := 1) rfl rfl fun hl0_1 => ?_
 try rw [List.length_map] at hl0_1
 have hbu := hb
 simp only [wtVersion] at hbu
 refine sw_seq ?_
 refine sw_reg ?_
 refine RunS.step (by exact ⟨rfl, ⟨⟩⟩) (by exact ⟨⟩) (LocG.of rfl (loc_box (ag := true) (cs := [PV.val _, PV.sl _ _, PV.val _, PV.val _]) (by decide) (by exact ⟨⟩))) (free1 (Free.of_ rfl)) ?_
 refine RunS.step (by exact ⟨⟩) (by exact ⟨⟩) (LocG.of rfl (loc_alloc (by decide) z_90 zo_90)) (free1 (Free.app (Free.of_ rfl) rfl)) ?_
 refine sw_seq ?_
 refine sO [(1, _), (2, _)] [(1, (150, [PV.val _, PV.sl _ _, PV.val _, PV.val _])), (2, (90, [PV.val _, PV.sl _ _, PV.val _, PV.val _]))] ?_
 refine sw_reg ?_
 refine RunS.step (by exact ⟨⟩) (by exact ⟨⟩) (LocG.of rfl (loc_alloc (by decide) z_90 zo_90)) (free1 (Free.of_ rfl)) ?_
 refine sw_seq ?_
 refine sO [(1, _), (2, _), (3, _)] [(1, _), (2, _), (3, (90, [PV.val _, PV.sl _ _, PV.val _, PV.val _]))] ?_
 refine sw_reg ?_
 refine rA ?_ (x := lF fd_150_0)
 refine rA ?_ (x := lD [PV.val _] ty_3)
 refine rA ?_ (x := lF fd_90_0)
 refine rA ?_ (x := loc_store (ag := false) (vs := [PV.val _]) ty_3 (by exact ⟨⟩) (by exact rfl) (by exact Nat.le_of_ble_eq_true rfl))
 refine sw_seq ?_
 refine sO [(1, _), (2, _), (3, _)] [(1, _), (2, _), (3, (90, [PV.val _, PV.sl _ _, PV.val _, PV.val _]))] ?_
 refine sw_reg ?_
 refine rA ?_ (x := lF fd_150_1)
 refine rA ?_ (x := lD [PV.sl .v _] ty_41)
 refine rA ?_ (x := cL [(false, [PV.sl _ _])] [(false, [PV.sl .v _])] c_74 (hs := by exact to_IntS (by omega)))
 refine rA ?_ (x := lF fd_90_1)
 refine rA ?_ (x := loc_store (ag := false) (vs := [PV.sl _ _]) ty_41 (by exact ⟨⟩) (by exact rfl) (by exact Nat.le_of_ble_eq_true rfl))
 refine sw_seq ?_
 refine sO [(1, _), (2, _), (3, _)] [(1, _), (2, _), (3, (90, [PV.val _, PV.sl _ _, PV.val _, PV.val _]))] ?_
 refine sw_reg ?_
 refine rA ?_ (x := lF fd_150_2)
 refine rA ?_ (x := lD [PV.val _] ty_3)
 refine rA ?_ (x := lF fd_90_2)
 refine rA ?_ (x := loc_store (ag := false) (vs := [PV.val _]) ty_3 (by exact ⟨⟩) (by exact rfl) (by exact Nat.le_of_ble_eq_true rfl))
 refine sw_seq ?_
 refine sO [(1, _), (2, _), (3, _)] [(1, _), (2, _), (3, (90, [PV.val _, PV.sl _ _, PV.val _, PV.val _]))] ?_
 refine sw_reg ?_
 refine rA ?_ (x := lF fd_150_3)
 refine rA ?_ (x := lD [PV.val _] ty_3)
 refine rA ?_ (x := lF fd_90_3)
 refine rA ?_ (x := loc_store (ag := false) (vs := [PV.val _]) ty_3 (by exact ⟨⟩) (by exact rfl) (by exact Nat.le_of_ble_eq_true rfl))
 refine sw_seq ?_
 refine sO [(1, _), (2, _), (3, _)] [(1, _), (2, _), (3, (90, [PV.val _, PV.sl _ _, PV.val _, PV.val _]))] ?_
 refine sw_reg ?_
 refine rA ?_ (x := loc_ltake (ms := [PV.val _, PV.sl _ _, PV.val _, PV.val _]) (qs := [PV.val _, PV.sl .v _, PV.val _, PV.val _]) (by decide) ty_90 (fun h => nomatch h) (by exact Nat.le_of_ble_eq_true rfl) (by exact rfl) (by exact (ToL.cons (PV.To.refl _) (ToL.cons PV.to_none (ToL.cons (PV.To.refl _) (ToL.cons (PV.To.refl _) ToL.nil))))) (by exact (BorL.cons (PV.bor_val _) (BorL.cons (PV.bor_sl _) (BorL.cons (PV.bor_val _) (BorL.cons (PV.bor_val _) BorL.nil))))))
 refine rA ?_ (x := loc_store (ag := true) (vs := [PV.val _, PV.sl _ _, PV.val _, PV.val _]) ty_90 (by exact ⟨⟩) (by exact rfl) (by exact Nat.le_of_ble_eq_true rfl))
 refine sw_ret ?_
 exact (Exists.intro 2 (Exists.intro _ (And.intro (by exact rfl) (And.intro (by exact rfl) (And.intro ty_90 (And.intro (fun h => nomatch h) True.intro))))))
theorem to_VersionS {p1 : Fl} {x : List Version}  (hb : wtVersionS x ≤ 1048576) : SCall Tryd.prog 87 [(false, [PV.sl .v (x.map (cVersion p1))])] (resRV [(false, [PV.sl (.own 90 4) (x.map (cVersion (.own 3 1)))])]) := by
 refine scall_of (rs := [(false, [PV.sl (.own 90 4) (x.map (cVersion (.own 3 1)))])]) Tryd.func87 rfl (Nat.le_of_ble_eq_true rfl) (borA_cons (BorL.cons (PV.bor_sl _) BorL.nil) borA_nil) ?_
 intro h0 w0 Fz0
 refine sw_len (s := 0) rfl fun hl0 => ?_
 try rw [List.length_map] at hl0
 have hbu := hb
 simp only [wtVersionS] at hbu
 refine sw_seq ?_
 refine sw_reg ?_
 refine rA ?_ (x := loc_const (.inr rfl) (by decide) (ok_nil (t := 90) (e := 4)))
 refine sw_seq ?_
 refine sO [(0, _), (2, _)] [] ?_
 refine sw_reg ?_
 refine rA ?_ (x := vM false [PV.sl .v _])
 refine rA ?_ (x := lN sl_128)
 refine RunS.step (by exact ⟨rfl, rfl, ⟨⟩⟩) (by exact ⟨⟩) (LocG.of rfl (loc_make (by decide) sl_88 z_90 rfl zo_90 (by exact ⟨⟩) (by exact ⟨⟩) (by exact rfl) (by exact rfl) (by omega) (by omega))) (free1 (Free.app (Free.app (Free.of_ rfl) rfl) rfl)) ?_
 refine rA ?_ (x := cA Cp.hdr)
 refine sw_seq ?_
 refine sw_seq ?_
 refine sO [(0, _), (2, _), (3, _)] [(7, (90, _))] ?_
 refine sw_reg ?_
 refine rA ?_ (x := kA)
 refine sw_block ?_
 refine sO [(0, _), (2, _), (3, _), (4, _)] [(7, _)] ?_
 refine sw_loop (l0 := [(0, RV.sv false [PV.sl _ _]), (2, RV.sv false [PV.sl _ _]), (3, RV.hdr 7 _)]) (b0 := []) (fun k : Nat => k ≤ x.length) (fun k : Nat => [(4, RV.int (k : Int))]) (fun k : Nat => [(7, (90, (filled x (cVersion (.own 3 1)) [PV.val (.int .i64 0), PV.sl (.own 3 1) [], PV.val (.int .i64 0), PV.val (.int .i64 0)] k).flatten))]) (fun k : Nat => x.length - k) 0 (by omega) (by exact ⟨rfl, rfl, rfl, ⟨⟩⟩) (by exact ⟨⟩) (by exact And.intro (by exact rfl) (True.intro)) (by exact And.intro (by rw [filled_zero]; exact rfl) (True.intro)) ?_
 rintro k hk
 refine sw_seq ?_
 refine sw_seq ?_
 refine sw_reg ?_
 refine rA ?_ (x := sM)
 refine rA ?_ (x := vM false [PV.sl .v _])
 refine rA ?_ (x := lN sl_128)
 refine rA ?_ (x := B_lss)
 refine sw_cond (t := 11) rfl (fun hb1 => ?_) (fun hb1 => ?_)
 ·try simp only [q1, q2, q3, q4, q5, q6, q7, q8, q9] at hb1
  have hlt : k < x.length := by omega
  have hwm := wt_mem (f := wtVersion) hlt
  refine sw_skip ?_
  refine sw_seq ?_
  refine sw_block ?_
  refine sO [(0, _), (2, _), (3, _), (4, _)] [(7, (90, _))] ?_
  refine sw_reg ?_
  refine rA ?_ (x := cM Cp.hdr)
  refine rA ?_ (x := sM)
  refine rA ?_ (x := vM false [PV.sl .v _])
  refine rA ?_ (x := sM)
  refine rA ?_ (x := loc_index (by decide) sl_128 (by exact ⟨⟩) (by exact rfl) (by exact getm2 (by omega) rfl) (by exact rfl))
  refine rA ?_ (x := lE [PV.val _, PV.sl .v _, PV.val _, PV.val _] ty_150)
  refine rA ?_ (x := cL [(true, [PV.val _, PV.sl _ _, PV.val _, PV.val _])] [(true, [PV.val _, PV.sl .v _, PV.val _, PV.val _])] c_115 (hs := by exact to_Version (by omega)))
  refine rA ?_ (x := loc_hindex (by decide) sl_88 (by exact ⟨⟩) (by exact rfl) (by omega))
  refine rA ?_ (x := loc_store (ag := true) (vs := [PV.val _, PV.sl _ _, PV.val _, PV.val _]) ty_90 (by exact ⟨⟩) (by exact rfl) (by exact fill_room (fun _ => rfl) rfl hlt))
  refine sO [(0, _), (2, _), (3, _), (4, _)] [(7, _)] ?_
  refine sw_reg ?_
  refine rA ?_ (x := sM)
  refine rA ?_ (x := B_add)
  refine rA ?_ (x := sA)
  refine Exists.intro (k + 1) (And.intro (by omega) (And.intro (by omega) (And.intro (And.intro (by exact ⟨rfl, rfl, rfl, ⟨⟩⟩) (by exact ⟨⟩)) (And.intro (by exact And.intro (by exact rfl) (True.intro)) (by exact And.intro (by exact congrArg (fun z => some (90, z)) (fill_next (e := 4) (fun _ => rfl) rfl hlt)) (True.intro))))))
 ·try simp only [q1, q2, q3, q4, q5, q6, q7, q8, q9] at hb1
  have hlt : k = x.length := by omega
  refine sw_exit ?_
  refine sw_seq ?_
  refine sO [(0, _), (2, _), (3, _), (4, _)] [(7, (90, _))] ?_
  refine sw_reg ?_
  refine rA ?_ (x := loc_freeze (es := (x.map (cVersion (.own 3 1)))) (e := 4) (.inl rfl) (by decide) (by rw [hlt, filled_all]) (by exact List.length_map _) (by intro c hc; obtain ⟨y, _, rfl⟩ := List.mem_map.1 hc; rfl))
  refine rA ?_ (x := tA)
  refine sw_ret ?_
  exact (And.intro (by exact rfl) True.intro)
theorem to_VersionSS {p1 p2 : Fl} {x : List (List Version)}  (hb : wtVersionSS x ≤ 1048576) : SCall Tryd.prog 41 [(false, [PV.sl .v (x.map (cVersionS p1 p2))])] (resRV [(false, [PV.sl (.own 88 1) (x.map (cVersionS (.own 90 4) (.own 3 1)))])]) := by
 refine scall_of (rs := [(false, [PV.sl (.own 88 1) (x.map (cVersionS (.own 90 4) (.own 3 1)))])]) Tryd.func41 rfl (Nat.le_of_ble_eq_true rfl) (borA_cons (BorL.cons (PV.bor_sl _) BorL.nil) borA_nil) ?_
 intro h0 w0 Fz0
 refine sw_len (s := 0) rfl fun hl0 => ?_
 try rw [List.length_map] at hl0
 have hbu := hb
 simp only [wtVersionSS] at hbu
 refine sw_seq ?_
 refine sw_reg ?_
 refine rA ?_ (x := loc_const (.inr rfl) (by decide) (ok_nil (t := 88) (e := 1)))
 refine sw_seq ?_
 refine sO [(0, _), (2, _)] [] ?_
 refine sw_reg ?_
 refine rA ?_ (x := vM false [PV.sl .v _])
 refine rA ?_ (x := lN sl_29)
 refine RunS.step (by exact ⟨rfl, rfl, ⟨⟩⟩) (by exact ⟨⟩) (LocG.of rfl (loc_make (by decide) sl_34 z_88 rfl zo_88 (by exact ⟨⟩) (by exact ⟨⟩) (by exact rfl) (by exact rfl) (by omega) (by omega))) (free1 (Free.app (Free.app (Free.of_ rfl) rfl) rfl)) ?_
 refine rA ?_ (x := cA Cp.hdr)
 refine sw_seq ?_
 refine sw_seq ?_
 refine sO [(0, _), (2, _), (3, _)] [(7, (88, _))] ?_
 refine sw_reg ?_
 refine rA ?_ (x := kA)
 refine sw_block ?_
 refine sO [(0, _), (2, _), (3, _), (4, _)] [(7, _)] ?_
 refine sw_loop (l0 := [(0, RV.sv false [PV.sl _ _]), (2, RV.sv false [PV.sl _ _]), (3, RV.hdr 7 _)]) (b0 := []) (fun k : Nat => k ≤ x.length) (fun k : Nat => [(4, RV.int (k : Int))]) (fun k : Nat => [(7, (88, (filled x (cVersionS (.own 90 4) (.own 3 1)) [PV.sl (.own 90 4) []] k).flatten))]) (fun k : Nat => x.length - k) 0 (by omega) (by exact ⟨rfl, rfl, rfl, ⟨⟩⟩) (by exact ⟨⟩) (by exact And.intro (by exact rfl) (True.intro)) (by exact And.intro (by rw [filled_zero]; exact rfl) (True.intro)) ?_
 rintro k hk
 refine sw_seq ?_
 refine sw_seq ?_
 refine sw_reg ?_
 refine rA ?_ (x := sM)
 refine rA ?_ (x := vM false [PV.sl .v _])
 refine rA ?_ (x := lN sl_29)
 refine rA ?_ (x := B_lss)
 refine sw_cond (t := 11) rfl (fun hb1 => ?_) (fun hb1 => ?_)
 ·try simp only [q1, q2, q3, q4, q5, q6, q7, q8, q9] at hb1
  have hlt : k < x.length := by omega
  have hwm := wt_mem (f := wtVersionS) hlt
  refine sw_skip ?_
  refine sw_seq ?_
  refine sw_block ?_
  refine sO [(0, _), (2, _), (3, _), (4, _)] [(7, (88, _))] ?_
  refine sw_reg ?_
  refine rA ?_ (x := cM Cp.hdr)
  refine rA ?_ (x := sM)
  refine rA ?_ (x := vM false [PV.sl .v _])
  refine rA ?_ (x := sM)
  refine rA ?_ (x := loc_index (by decide) sl_29 (by exact ⟨⟩) (by exact rfl) (by exact getm2 (by omega) rfl) (by exact rfl))
  refine rA ?_ (x := lE [PV.sl .v _] ty_128)
  refine rA ?_ (x := cL [(false, [PV.sl _ _])] [(false, [PV.sl .v _])] c_87 (hs := by exact to_VersionS (by omega)))
  refine rA ?_ (x := loc_hindex (by decide) sl_34 (by exact ⟨⟩) (by exact rfl) (by omega))
  refine rA ?_ (x := loc_store (ag := false) (vs := [PV.sl _ _]) ty_88 (by exact ⟨⟩) (by exact rfl) (by exact fill_room (fun _ => rfl) rfl hlt))
  refine sO [(0, _), (2, _), (3, _), (4, _)] [(7, _)] ?_
  refine sw_reg ?_
  refine rA ?_ (x := sM)
  refine rA ?_ (x := B_add)
  refine rA ?_ (x := sA)
  refine Exists.intro (k + 1) (And.intro (by omega) (And.intro (by omega) (And.intro (And.intro (by exact ⟨rfl, rfl, rfl, ⟨⟩⟩) (by exact ⟨⟩)) (And.intro (by exact And.intro (by exact rfl) (True.intro)) (by exact And.intro (by exact congrArg (fun z => some (88, z)) (fill_next (e := 1) (fun _ => rfl) rfl hlt)) (True.intro))))))
 ·try simp only [q1, q2, q3, q4, q5, q6, q7, q8, q9] at hb1
  have hlt : k = x.length := by omega
  refine sw_exit ?_
  refine sw_seq ?_
  refine sO [(0, _), (2, _), (3, _), (4, _)] [(7, (88, _))] ?_
  refine sw_reg ?_
  refine rA ?_ (x := loc_freeze (es := (x.map (cVersionS (.own 90 4) (.own 3 1)))) (e := 1) (.inl rfl) (by decide) (by rw [hlt, filled_all]) (by exact List.length_map _) (by intro c hc; obtain ⟨y, _, rfl⟩ := List.mem_map.1 hc; rfl))
  refine rA ?_ (x := tA)
  refine sw_ret ?_
  exact (And.intro (by exact rfl) True.intro)
theorem to_Store {p1 p2 : Fl} {x : Store}  (hb : wtStore x ≤ 1048576) : SCall Tryd.prog 14 [(true, [PV.sl .v (x.Segments.map (cVersionS p1 p2)), PV.val (vI x.Now)])] (resRV [(true, [PV.sl (.own 88 1) (x.Segments.map (cVersionS (.own 90 4) (.own 3 1))), PV.val (vI x.Now)])]) := by
 refine scall_of (rs := [(true, [PV.sl (.own 88 1) (x.Segments.map (cVersionS (.own 90 4) (.own 3 1))), PV.val (vI x.Now)])]) Tryd.func14 rfl (Nat.le_of_ble_eq_true rfl) (borA_cons (BorL.cons (PV.bor_sl _) (BorL.cons (PV.bor_val _) BorL.nil)) borA_nil) ?_
 intro h0 w0 Fz0
 refine sw_slen (s := 0) (j := 0) rfl rfl fun hl0_0 => ?_
 try rw [List.length_map] at hl0_0
 have hbu := hb
 simp only [wtStore] at hbu
 refine sw_seq ?_
 refine sw_reg ?_
 refine RunS.step (by exact ⟨rfl, ⟨⟩⟩) (by exact ⟨⟩) (LocG.of rfl (loc_box (ag := true) (cs := [PV.sl _ _, PV.val _]) (by decide) (by exact ⟨⟩))) (free1 (Free.of_ rfl)) ?_
 refine RunS.step (by exact ⟨⟩) (by exact ⟨⟩) (LocG.of rfl (loc_alloc (by decide) z_36 zo_36)) (free1 (Free.app (Free.of_ rfl) rfl)) ?_
 refine sw_seq ?_
 refine sO [(1, _), (2, _)] [(1, (31, [PV.sl _ _, PV.val _])), (2, (36, [PV.sl _ _, PV.val _]))] ?_
 refine sw_reg ?_
 refine RunS.step (by exact ⟨⟩) (by exact ⟨⟩) (LocG.of rfl (loc_alloc (by decide) z_36 zo_36)) (free1 (Free.of_ rfl)) ?_
 refine sw_seq ?_
 refine sO [(1, _), (2, _), (3, _)] [(1, _), (2, _), (3, (36, [PV.sl _ _, PV.val _]))] ?_
 refine sw_reg ?_
 refine rA ?_ (x := lF fd_31_0)
 refine rA ?_ (x := lD [PV.sl .v _] ty_29)
 refine rA ?_ (x := cL [(false, [PV.sl _ _])] [(false, [PV.sl .v _])] c_41 (hs := by exact to_VersionSS (by omega)))
 refine rA ?_ (x := lF fd_36_0)
 refine rA ?_ (x := loc_store (ag := false) (vs := [PV.sl _ _]) ty_34 (by exact ⟨⟩) (by exact rfl) (by exact Nat.le_of_ble_eq_true rfl))
 refine sw_seq ?_
 refine sO [(1, _), (2, _), (3, _)] [(1, _), (2, _), (3, (36, [PV.sl _ _, PV.val _]))] ?_
 refine sw_reg ?_
 refine rA ?_ (x := lF fd_31_1)
 refine rA ?_ (x := lD [PV.val _] ty_3)
 refine rA ?_ (x := lF fd_36_1)
 refine rA ?_ (x := loc_store (ag := false) (vs := [PV.val _]) ty_3 (by exact ⟨⟩) (by exact rfl) (by exact Nat.le_of_ble_eq_true rfl))
 refine sw_seq ?_
 refine sO [(1, _), (2, _), (3, _)] [(1, _), (2, _), (3, (36, [PV.sl _ _, PV.val _]))] ?_
 refine sw_reg ?_
 refine rA ?_ (x := loc_ltake (ms := [PV.sl _ _, PV.val _]) (qs := [PV.sl .v _, PV.val _]) (by decide) ty_36 (fun h => nomatch h) (by exact Nat.le_of_ble_eq_true rfl) (by exact rfl) (by exact (ToL.cons PV.to_none (ToL.cons (PV.To.refl _) ToL.nil))) (by exact (BorL.cons (PV.bor_sl _) (BorL.cons (PV.bor_val _) BorL.nil))))
 refine rA ?_ (x := loc_store (ag := true) (vs := [PV.sl _ _, PV.val _]) ty_36 (by exact ⟨⟩) (by exact rfl) (by exact Nat.le_of_ble_eq_true rfl))
 refine sw_ret ?_
 exact (Exists.intro 2 (Exists.intro _ (And.intro (by exact rfl) (And.intro (by exact rfl) (And.intro ty_36 (And.intro (fun h => nomatch h) True.intro))))))
end Go.Proofs.YtaomckpfgmhapaaDoor
