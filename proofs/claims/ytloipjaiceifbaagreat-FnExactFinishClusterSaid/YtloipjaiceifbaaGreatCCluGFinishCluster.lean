/- What functions of the program compute. No condition. -/
import Derived.Test.YtloipjaiceifbaaGreatCProgFinishCluster
import Derived.KernelRfl
set_option linter.unusedVariables false
set_option linter.unusedSimpArgs false
namespace Go.Proofs.YtloipjaiceifbaaGreat
open Go Go.RowKit M
set_option maxRecDepth 10000
theorem impl_copyQuery {x : Query}  (hb : wtQuery x ≤ 68719476736) : SCall Tryz.prog 65 [(true, [PV.val (vI x.Id), PV.val (vI x.Tenant), PV.sl .v (x.Conds.map cCond), PV.sl .v (x.Out.map cInt)])] (resRV [(true, [PV.val (vI x.Id), PV.val (vI x.Tenant), PV.sl (.own 84 3) (x.Conds.map cCond), PV.sl (.own 3 1) (x.Out.map cInt)])]) := by
 refine scall_of (rs := [(true, [PV.val (vI x.Id), PV.val (vI x.Tenant), PV.sl (.own 84 3) (x.Conds.map cCond), PV.sl (.own 3 1) (x.Out.map cInt)])]) Tryz.func65 rfl (Nat.le_of_ble_eq_true rfl) (borA_cons (BorL.cons (PV.bor_val _) (BorL.cons (PV.bor_val _) (BorL.cons (PV.bor_sl _) (BorL.cons (PV.bor_sl _) BorL.nil)))) borA_nil) ?_
 intro h0 w0 Fz0
 refine sw_slen (s := 0) (j := 2) rfl rfl fun hl0_2 => ?_
 try rw [List.length_map] at hl0_2
 refine sw_slen (s := 0) (j := 3) rfl rfl fun hl0_3 => ?_
 try rw [List.length_map] at hl0_3
 have hbu := hb
 simp only [wtQuery, wtCondS, wtIntS, wtInt] at hbu
 refine sw_seq ?_
 refine sw_reg ?_
 refine RunS.step (by exact ⟨rfl, ⟨⟩⟩) (by exact ⟨⟩) (LocG.of rfl (loc_box (ag := true) (cs := [PV.val _, PV.val _, PV.sl _ _, PV.sl _ _]) (by decide) (by exact ⟨⟩))) (free1 (Free.of_ rfl)) ?_
 refine RunS.step (by exact ⟨⟩) (by exact ⟨⟩) (LocG.of rfl (loc_alloc (by decide) z_33 zo_33)) (free1 (Free.app (Free.of_ rfl) rfl)) ?_
 refine sw_seq ?_
 refine sO [(1, _), (2, _)] [(1, (33, [PV.val _, PV.val _, PV.sl _ _, PV.sl _ _])), (2, (33, [PV.val _, PV.val _, PV.sl _ _, PV.sl _ _]))] ?_
 refine sw_reg ?_
 refine rA ?_ (x := loc_bslice (qs := []) (by decide) sl_31 z_84 (by decide) rfl rfl rfl rfl rfl (by exact Nat.le_of_ble_eq_true rfl) (by exact ⟨⟩) rfl)
 refine rA ?_ (x := lF fd_33_2)
 refine rA ?_ (x := lD [PV.sl .v _] ty_31)
 refine rA ?_ (x := loc_appendb (by decide) sl_31 z_84 rfl rfl (by decide) (by first | (intro cs hcs; obtain ⟨x, _, rfl⟩ := List.mem_map.1 hcs; exact rfl) | simp) (by first | (intro cs hcs; obtain ⟨x, _, rfl⟩ := List.mem_map.1 hcs; exact (BorL.cons (PV.bor_val _) (BorL.cons (PV.bor_val _) (BorL.cons (PV.bor_val _) BorL.nil)))) | simp) (by simp only [List.length_map, List.length_append, List.length_cons, List.length_nil]; omega) (by simp only [List.length_map, List.length_append, List.length_cons, List.length_nil]; omega))
 refine rA ?_ (x := lF fd_33_2)
 refine rA ?_ (x := loc_store (ag := false) (vs := [PV.sl _ _]) ty_31 (by exact ⟨⟩) (by exact rfl) (by exact Nat.le_of_ble_eq_true rfl))
 refine sw_seq ?_
 refine sO [(1, _), (2, _)] [(1, (33, [PV.val _, PV.val _, PV.sl _ _, PV.sl _ _])), (2, _)] ?_
 refine sw_reg ?_
 refine rA ?_ (x := lF fd_33_3)
 refine rA ?_ (x := lD [PV.sl .v _] ty_23)
 refine rA ?_ (x := cL [(false, [PV.sl _ _])] [(false, [PV.sl .v _])] c_67 (hs := by exact impl_copyInts (by omega)))
 refine rA ?_ (x := lF fd_33_3)
 refine rA ?_ (x := loc_store (ag := false) (vs := [PV.sl _ _]) ty_23 (by exact ⟨⟩) (by exact rfl) (by exact Nat.le_of_ble_eq_true rfl))
 refine sw_seq ?_
 refine sO [(1, _), (2, _)] [(1, (33, [PV.val _, PV.val _, PV.sl _ _, PV.sl _ _])), (2, _)] ?_
 refine sw_reg ?_
 refine rA ?_ (x := loc_ltake (ms := [PV.val _, PV.val _, PV.sl _ _, PV.sl _ _]) (qs := [PV.val _, PV.val _, PV.sl .v _, PV.sl .v _]) (by decide) ty_33 (fun h => nomatch h) (by exact Nat.le_of_ble_eq_true rfl) (by exact rfl) (by exact (ToL.cons (PV.To.refl _) (ToL.cons (PV.To.refl _) (ToL.cons PV.to_none (ToL.cons PV.to_none ToL.nil))))) (by exact (BorL.cons (PV.bor_val _) (BorL.cons (PV.bor_val _) (BorL.cons (PV.bor_sl _) (BorL.cons (PV.bor_sl _) BorL.nil))))))
 refine rA ?_ (x := loc_store (ag := true) (vs := [PV.val _, PV.val _, PV.sl _ _, PV.sl _ _]) ty_33 (by exact ⟨⟩) (by exact rfl) (by exact Nat.le_of_ble_eq_true rfl))
 refine sw_ret ?_
 exact (Exists.intro 2 (Exists.intro _ (And.intro (by exact rfl) (And.intro (by exact rfl) (And.intro ty_33 (And.intro (fun h => nomatch h) True.intro))))))
theorem spec_l6Query {x : Query}  (hb : wtQuery x ≤ 68719476736) : SCall Tryz.prog 52 [(true, [PV.val (vI x.Id), PV.val (vI x.Tenant), PV.sl .v (x.Conds.map cCond), PV.sl .v (x.Out.map cInt)])] (resRV [(true, [PV.val (vI x.Id), PV.val (vI x.Tenant), PV.sl (.own 84 3) (x.Conds.map cCond), PV.sl (.own 3 1) (x.Out.map cInt)])]) := by
 refine scall_of (rs := [(true, [PV.val (vI x.Id), PV.val (vI x.Tenant), PV.sl (.own 84 3) (x.Conds.map cCond), PV.sl (.own 3 1) (x.Out.map cInt)])]) Tryz.func52 rfl (Nat.le_of_ble_eq_true rfl) (borA_cons (BorL.cons (PV.bor_val _) (BorL.cons (PV.bor_val _) (BorL.cons (PV.bor_sl _) (BorL.cons (PV.bor_sl _) BorL.nil)))) borA_nil) ?_
 intro h0 w0 Fz0
 refine sw_slen (s := 0) (j := 2) rfl rfl fun hl0_2 => ?_
 try rw [List.length_map] at hl0_2
 refine sw_slen (s := 0) (j := 3) rfl rfl fun hl0_3 => ?_
 try rw [List.length_map] at hl0_3
 have hbu := hb
 simp only [wtQuery, wtCondS, wtIntS, wtInt] at hbu
 refine sw_seq ?_
 refine sw_reg ?_
 refine RunS.step (by exact ⟨rfl, ⟨⟩⟩) (by exact ⟨⟩) (LocG.of rfl (loc_box (ag := true) (cs := [PV.val _, PV.val _, PV.sl _ _, PV.sl _ _]) (by decide) (by exact ⟨⟩))) (free1 (Free.of_ rfl)) ?_
 refine RunS.step (by exact ⟨⟩) (by exact ⟨⟩) (LocG.of rfl (loc_alloc (by decide) z_33 zo_33)) (free1 (Free.app (Free.of_ rfl) rfl)) ?_
 refine sw_seq ?_
 refine sO [(1, _), (2, _)] [(1, (33, [PV.val _, PV.val _, PV.sl _ _, PV.sl _ _])), (2, (33, [PV.val _, PV.val _, PV.sl _ _, PV.sl _ _]))] ?_
 refine sw_draw hm_ ?_
 refine dA 0 ?_ (x := lF fd_33_0)
 refine dA 1 ?_ (x := lD [PV.val _] ty_3)
 refine dA 0 ?_ (x := lF fd_33_1)
 refine dA 4 ?_ (x := lD [PV.val _] ty_3)
 refine dA 0 ?_ (x := loc_bslice (qs := []) (by decide) sl_31 z_84 (by decide) rfl rfl rfl rfl rfl (by exact Nat.le_of_ble_eq_true rfl) (by exact ⟨⟩) rfl)
 refine dA 0 ?_ (x := lF fd_33_2)
 refine dA 32 ?_ (x := lD [PV.sl .v _] ty_31)
 refine dA 112 ?_ (x := loc_appendb (by decide) sl_31 z_84 rfl rfl (by decide) (by first | (intro cs hcs; obtain ⟨x, _, rfl⟩ := List.mem_map.1 hcs; exact rfl) | simp) (by first | (intro cs hcs; obtain ⟨x, _, rfl⟩ := List.mem_map.1 hcs; exact (BorL.cons (PV.bor_val _) (BorL.cons (PV.bor_val _) (BorL.cons (PV.bor_val _) BorL.nil)))) | simp) (by simp only [List.length_map, List.length_append, List.length_cons, List.length_nil]; omega) (by simp only [List.length_map, List.length_append, List.length_cons, List.length_nil]; omega))
 refine dA 0 ?_ (x := loc_bslice (qs := []) (by decide) sl_23 z_3 (by decide) rfl rfl rfl rfl rfl (by exact Nat.le_of_ble_eq_true rfl) (by exact ⟨⟩) rfl)
 refine dA 0 ?_ (x := lF fd_33_3)
 refine dA 512 ?_ (x := lD [PV.sl .v _] ty_23)
 refine dA 2032 ?_ (x := loc_appendb (by decide) sl_23 z_3 rfl rfl (by decide) (by first | (intro cs hcs; obtain ⟨x, _, rfl⟩ := List.mem_map.1 hcs; exact rfl) | simp) (by first | (intro cs hcs; obtain ⟨x, _, rfl⟩ := List.mem_map.1 hcs; exact (BorL.cons (PV.bor_val _) BorL.nil)) | simp) (by simp only [List.length_map, List.length_append, List.length_cons, List.length_nil]; omega) (by simp only [List.length_map, List.length_append, List.length_cons, List.length_nil]; omega))
 refine dA 4095 ?_ (x := loc_build (qs := [(false, [PV.val _]), (false, [PV.val _]), (false, [PV.sl _ _]), (false, [PV.sl _ _])]) (cs := [PV.val _, PV.val _, PV.sl _ _, PV.sl _ _]) (by decide) z_33 zo_33 pl_33 (by exact rfl) (by exact (And.intro (by exact ⟨⟩) (And.intro (by exact ⟨⟩) (And.intro (by exact ⟨⟩) (And.intro (by exact ⟨⟩) True.intro))))) rfl (by exact rfl))
 refine dA 8191 ?_ (x := loc_store (ag := true) (vs := [PV.val _, PV.val _, PV.sl _ _, PV.sl _ _]) ty_33 (by exact ⟨⟩) (by exact rfl) (by exact Nat.le_of_ble_eq_true rfl))
 refine sw_ret ?_
 exact (Exists.intro 2 (Exists.intro _ (And.intro (by exact rfl) (And.intro (by exact rfl) (And.intro ty_33 (And.intro (fun h => nomatch h) True.intro))))))
theorem impl_copyParts {p1 p2 : Fl} {x : List (List Row)}  (hb : wtRowSS x ≤ 68719476736) : SCall Tryz.prog 66 [(false, [PV.sl .v (x.map (cRowS p1 p2))])] (resRV [(false, [PV.sl (.own 51 1) (x.map (cRowS (.own 53 2) (.own 3 1)))])]) := by
 refine scall_of (rs := [(false, [PV.sl (.own 51 1) (x.map (cRowS (.own 53 2) (.own 3 1)))])]) Tryz.func66 rfl (Nat.le_of_ble_eq_true rfl) (borA_cons (BorL.cons (PV.bor_sl _) BorL.nil) borA_nil) ?_
 intro h0 w0 Fz0
 refine sw_len (s := 0) rfl fun hl0 => ?_
 try rw [List.length_map] at hl0
 have hbu := hb
 simp only [wtRowSS] at hbu
 refine sw_seq ?_
 refine sw_reg ?_
 refine rA ?_ (x := loc_const (.inr rfl) (by decide) (ok_nil (t := 51) (e := 1)))
 refine sw_seq ?_
 refine sO [(0, _), (2, _)] [] ?_
 refine sw_reg ?_
 refine rA ?_ (x := loc_bslice (qs := []) (by decide) sl_34 z_51 (by decide) rfl rfl rfl rfl rfl (by exact Nat.le_of_ble_eq_true rfl) (by exact ⟨⟩) rfl)
 refine rA ?_ (x := tA)
 refine sw_seq ?_
 refine sw_seq ?_
 refine sO [(0, _), (2, _), (3, _)] [] ?_
 refine sw_reg ?_
 refine rA ?_ (x := vM false [PV.sl .v _])
 refine rA ?_ (x := lN sl_34)
 refine rA ?_ (x := kM)
 refine sw_block ?_
 refine sO [(0, _), (2, _), (3, _), (7, _), (8, _), (9, _)] [] ?_
 refine sw_loop (l0 := [(0, RV.sv false [PV.sl _ _]), (2, RV.sv false [PV.sl _ _]), (7, RV.sv false [PV.sl _ _]), (8, RV.sv false [PV.val _])]) (b0 := []) (fun k : Nat => k ≤ x.length) (fun k : Nat => [(3, RV.slc (.own 51 1) ((x.take k).map (cRowS (.own 53 2) (.own 3 1)))), (9, RV.int (k : Int))]) (fun k : Nat => []) (fun k : Nat => x.length - k) 0 (by omega) (by exact ⟨rfl, rfl, rfl, rfl, ⟨⟩⟩) (by exact ⟨⟩) (by exact And.intro (by first | exact rfl | simp) (And.intro (by exact rfl) (True.intro))) (by exact ⟨⟩) ?_
 rintro k hk
 refine sw_seq ?_
 refine sw_reg ?_
 refine rA ?_ (x := B_lss)
 refine sw_seq ?_
 refine sw_cond (t := 10) rfl (fun hb1 => ?_) (fun hb1 => ?_)
 ·try simp only [q1, q2, q3, q4, q5, q6, q7, q8, q9] at hb1
  have hlt : k < x.length := by omega
  have hwm := wt_mem (f := wtRowS) hlt
  have htl : (x.take k).length = k := by rw [List.length_take]; omega
  refine sw_skip ?_
  refine sw_seq ?_
  refine sw_block ?_
  refine sw_seq ?_
  refine sO [(0, _), (2, _), (3, _), (7, _), (8, _), (9, _)] [] ?_
  refine sw_reg ?_
  refine rA ?_ (x := loc_index (by decide) sl_34 (by exact ⟨⟩) (by exact rfl) (by exact getm2 (by omega) rfl) (by exact rfl))
  refine rA ?_ (x := lE [PV.sl .v _] ty_51)
  refine rA ?_ (x := vA false [PV.sl .v _])
  refine sO [(0, _), (2, _), (3, _), (5, _), (7, _), (8, _), (9, _)] [] ?_
  refine sw_reg ?_
  refine rA ?_ (x := tM)
  refine rA ?_ (x := vM false [PV.sl .v _])
  refine rA ?_ (x := cL [(false, [PV.sl _ _])] [(false, [PV.sl .v _])] c_34 (hs := by exact impl_copyRows (by omega)))
  refine rA ?_ (x := loc_bslice (qs := [(false, [PV.sl _ _])]) (by decide) sl_34 z_51 (by decide) rfl rfl rfl rfl rfl (by exact Nat.le_of_ble_eq_true rfl) (by exact (And.intro (by exact ⟨⟩) True.intro)) rfl)
  refine rA ?_ (x := loc_append (by decide) sl_34 z_51 rfl rfl (by decide) rfl (by simp only [List.length_map, List.length_append, List.length_cons, List.length_nil]; omega) (by simp only [List.length_map, List.length_append, List.length_cons, List.length_nil]; omega))
  refine rA ?_ (x := tA)
  refine sO [(0, _), (2, _), (3, _), (5, _), (7, _), (8, _), (9, _)] [] ?_
  refine sw_reg ?_
  refine rA ?_ (x := B_add)
  refine rA ?_ (x := sM)
  refine Exists.intro (k + 1) (And.intro (by omega) (And.intro (by omega) (And.intro (And.intro (by exact ⟨rfl, rfl, rfl, rfl, ⟨⟩⟩) (by exact ⟨⟩)) (And.intro (by exact And.intro (by exact slc_eq (by rw [tk_succ hlt, List.map_append]; rfl)) (And.intro (by exact rfl) (True.intro))) (by exact ⟨⟩)))))
 ·try simp only [q1, q2, q3, q4, q5, q6, q7, q8, q9] at hb1
  have hend : k = x.length := by omega
  refine sw_exit ?_
  refine sw_seq ?_
  refine sO [(0, _), (2, _), (3, _), (7, _), (8, _), (9, _)] [] ?_
  refine sw_reg ?_
  refine rA ?_ (x := tM)
  refine rA ?_ (x := tA)
  refine sw_ret ?_
  exact (And.intro (by refine slc_eq ?_; rw [hend, List.take_length]) True.intro)
theorem spec_l18CopyParts {p1 p2 : Fl} {x : List (List Row)}  (hb : wtRowSS x ≤ 68719476736) : SCall Tryz.prog 53 [(false, [PV.sl .v (x.map (cRowS p1 p2))])] (resRV [(false, [PV.sl (.own 51 1) (x.map (cRowS (.own 53 2) (.own 3 1)))])]) := by
 refine scall_of (rs := [(false, [PV.sl (.own 51 1) (x.map (cRowS (.own 53 2) (.own 3 1)))])]) Tryz.func53 rfl (Nat.le_of_ble_eq_true rfl) (borA_cons (BorL.cons (PV.bor_sl _) BorL.nil) borA_nil) ?_
 intro h0 w0 Fz0
 refine sw_len (s := 0) rfl fun hl0 => ?_
 try rw [List.length_map] at hl0
 have hbu := hb
 simp only [wtRowSS] at hbu
 refine sw_seq ?_
 refine sw_reg ?_
 refine rA ?_ (x := loc_const (.inr rfl) (by decide) (ok_nil (t := 51) (e := 1)))
 refine sw_seq ?_
 refine sO [(0, _), (2, _)] [] ?_
 refine sw_reg ?_
 refine rA ?_ (x := loc_bslice (qs := []) (by decide) sl_34 z_51 (by decide) rfl rfl rfl rfl rfl (by exact Nat.le_of_ble_eq_true rfl) (by exact ⟨⟩) rfl)
 refine rA ?_ (x := tA)
 refine sw_seq ?_
 refine sw_seq ?_
 refine sO [(0, _), (2, _), (3, _)] [] ?_
 refine sw_reg ?_
 refine rA ?_ (x := kA)
 refine sw_block ?_
 refine sO [(0, _), (2, _), (3, _), (4, _)] [] ?_
 refine sw_loop (l0 := [(0, RV.sv false [PV.sl _ _]), (2, RV.sv false [PV.sl _ _])]) (b0 := []) (fun k : Nat => k ≤ x.length) (fun k : Nat => [(3, RV.slc (.own 51 1) ((x.take k).map (cRowS (.own 53 2) (.own 3 1)))), (4, RV.int (k : Int))]) (fun k : Nat => []) (fun k : Nat => x.length - k) 0 (by omega) (by exact ⟨rfl, rfl, ⟨⟩⟩) (by exact ⟨⟩) (by exact And.intro (by first | exact rfl | simp) (And.intro (by exact rfl) (True.intro))) (by exact ⟨⟩) ?_
 rintro k hk
 refine sw_seq ?_
 refine sw_seq ?_
 refine sw_reg ?_
 refine rA ?_ (x := sM)
 refine rA ?_ (x := vM false [PV.sl .v _])
 refine rA ?_ (x := lN sl_34)
 refine rA ?_ (x := B_lss)
 refine sw_cond (t := 9) rfl (fun hb1 => ?_) (fun hb1 => ?_)
 ·try simp only [q1, q2, q3, q4, q5, q6, q7, q8, q9] at hb1
  have hlt : k < x.length := by omega
  have hwm := wt_mem (f := wtRowS) hlt
  have htl : (x.take k).length = k := by rw [List.length_take]; omega
  refine sw_skip ?_
  refine sw_seq ?_
  refine sw_block ?_
  refine sO [(0, _), (2, _), (3, _), (4, _)] [] ?_
  refine sw_reg ?_
  refine rA ?_ (x := tM)
  refine rA ?_ (x := vM false [PV.sl .v _])
  refine rA ?_ (x := sM)
  refine rA ?_ (x := loc_index (by decide) sl_34 (by exact ⟨⟩) (by exact rfl) (by exact getm2 (by omega) rfl) (by exact rfl))
  refine rA ?_ (x := lE [PV.sl .v _] ty_51)
  refine rA ?_ (x := cL [(false, [PV.sl _ _])] [(false, [PV.sl .v _])] c_88 (hs := by exact spec_l9Rows (by omega)))
  refine rA ?_ (x := loc_bslice (qs := [(false, [PV.sl _ _])]) (by decide) sl_34 z_51 (by decide) rfl rfl rfl rfl rfl (by exact Nat.le_of_ble_eq_true rfl) (by exact (And.intro (by exact ⟨⟩) True.intro)) rfl)
  refine rA ?_ (x := loc_append (by decide) sl_34 z_51 rfl rfl (by decide) rfl (by simp only [List.length_map, List.length_append, List.length_cons, List.length_nil]; omega) (by simp only [List.length_map, List.length_append, List.length_cons, List.length_nil]; omega))
  refine rA ?_ (x := tA)
  refine sO [(0, _), (2, _), (3, _), (4, _)] [] ?_
  refine sw_reg ?_
  refine rA ?_ (x := sM)
  refine rA ?_ (x := B_add)
  refine rA ?_ (x := sA)
  refine Exists.intro (k + 1) (And.intro (by omega) (And.intro (by omega) (And.intro (And.intro (by exact ⟨rfl, rfl, ⟨⟩⟩) (by exact ⟨⟩)) (And.intro (by exact And.intro (by exact slc_eq (by rw [tk_succ hlt, List.map_append]; rfl)) (And.intro (by exact rfl) (True.intro))) (by exact ⟨⟩)))))
 ·try simp only [q1, q2, q3, q4, q5, q6, q7, q8, q9] at hb1
  have hend : k = x.length := by omega
  refine sw_exit ?_
  refine sw_seq ?_
  refine sO [(0, _), (2, _), (3, _), (4, _)] [] ?_
  refine sw_reg ?_
  refine rA ?_ (x := tM)
  refine rA ?_ (x := tA)
  refine sw_ret ?_
  exact (And.intro (by refine slc_eq ?_; rw [hend, List.take_length]) True.intro)
theorem impl_copyCluster {p3 p4 p9 p10 p13 p14 : Fl} {x : Cluster}  (hb : wtCluster x ≤ 68719476736) : SCall Tryz.prog 29 [(true, [PV.val (vI x.Query.Id), PV.val (vI x.Query.Tenant), PV.sl .v (x.Query.Conds.map cCond), PV.sl .v (x.Query.Out.map cInt), PV.sl .v (x.Parts.map (cRowS p3 p4)), PV.sl .v (x.Up.map cBool), PV.sl .v (x.At.map cInt), PV.sl .v (x.Pos.map cInt), PV.sl .v (x.Buffer.map (cRowS p9 p10)), PV.sl .v (x.Done.map cInt), PV.sl .v (x.Rows.map (cRowS p13 p14))])] (resRV [(true, [PV.val (vI x.Query.Id), PV.val (vI x.Query.Tenant), PV.sl (.own 84 3) (x.Query.Conds.map cCond), PV.sl (.own 3 1) (x.Query.Out.map cInt), PV.sl (.own 51 1) (x.Parts.map (cRowS (.own 53 2) (.own 3 1))), PV.sl (.own 4 1) (x.Up.map cBool), PV.sl (.own 3 1) (x.At.map cInt), PV.sl (.own 3 1) (x.Pos.map cInt), PV.sl (.own 51 1) (x.Buffer.map (cRowS (.own 53 2) (.own 3 1))), PV.sl (.own 3 1) (x.Done.map cInt), PV.sl (.own 51 1) (x.Rows.map (cRowS (.own 53 2) (.own 3 1)))])]) := by
 refine scall_of (rs := [(true, [PV.val (vI x.Query.Id), PV.val (vI x.Query.Tenant), PV.sl (.own 84 3) (x.Query.Conds.map cCond), PV.sl (.own 3 1) (x.Query.Out.map cInt), PV.sl (.own 51 1) (x.Parts.map (cRowS (.own 53 2) (.own 3 1))), PV.sl (.own 4 1) (x.Up.map cBool), PV.sl (.own 3 1) (x.At.map cInt), PV.sl (.own 3 1) (x.Pos.map cInt), PV.sl (.own 51 1) (x.Buffer.map (cRowS (.own 53 2) (.own 3 1))), PV.sl (.own 3 1) (x.Done.map cInt), PV.sl (.own 51 1) (x.Rows.map (cRowS (.own 53 2) (.own 3 1)))])]) Tryz.func29 rfl (Nat.le_of_ble_eq_true rfl) (borA_cons (BorL.cons (PV.bor_val _) (BorL.cons (PV.bor_val _) (BorL.cons (PV.bor_sl _) (BorL.cons (PV.bor_sl _) (BorL.cons (PV.bor_sl _) (BorL.cons (PV.bor_sl _) (BorL.cons (PV.bor_sl _) (BorL.cons (PV.bor_sl _) (BorL.cons (PV.bor_sl _) (BorL.cons (PV.bor_sl _) (BorL.cons (PV.bor_sl _) BorL.nil))))))))))) borA_nil) ?_
 intro h0 w0 Fz0
 refine sw_slen (s := 0) (j := 2) rfl rfl fun hl0_2 => ?_
 try rw [List.length_map] at hl0_2
 refine sw_slen (s := 0) (j := 3) rfl rfl fun hl0_3 => ?_
 try rw [List.length_map] at hl0_3
 refine sw_slen (s := 0) (j := 4) rfl rfl fun hl0_4 => ?_
 try rw [List.length_map] at hl0_4
 refine sw_slen (s := 0) (j := 5) rfl rfl fun hl0_5 => ?_
 try rw [List.length_map] at hl0_5
 refine sw_slen (s := 0) (j := 6) rfl rfl fun hl0_6 => ?_
 try rw [List.length_map] at hl0_6
 refine sw_slen (s := 0) (j := 7) rfl rfl fun hl0_7 => ?_
 try rw [List.length_map] at hl0_7
 refine sw_slen (s := 0) (j := 8) rfl rfl fun hl0_8 => ?_
 try rw [List.length_map] at hl0_8
 refine sw_slen (s := 0) (j := 9) rfl rfl fun hl0_9 => ?_
 try rw [List.length_map] at hl0_9
 refine sw_slen (s := 0) (j := 10) rfl rfl fun hl0_10 => ?_
 try rw [List.length_map] at hl0_10
 have hbu := hb
 simp only [wtCluster, wtInt] at hbu
 have hb1 := wtIntS_len x.At
 have hb2 := wtIntS_len x.Pos
 have hb3 := wtIntS_len x.Done
 have hb4 : x.Up.length ≤ wtBoolS x.Up := Nat.le_add_right _ _
 refine sw_seq ?_
 refine sw_reg ?_
 refine RunS.step (by exact ⟨rfl, ⟨⟩⟩) (by exact ⟨⟩) (LocG.of rfl (loc_box (ag := true) (cs := [PV.val _, PV.val _, PV.sl _ _, PV.sl _ _, PV.sl _ _, PV.sl _ _, PV.sl _ _, PV.sl _ _, PV.sl _ _, PV.sl _ _, PV.sl _ _]) (by decide) (by exact ⟨⟩))) (free1 (Free.of_ rfl)) ?_
 refine RunS.step (by exact ⟨⟩) (by exact ⟨⟩) (LocG.of rfl (loc_alloc (by decide) z_36 zo_36)) (free1 (Free.app (Free.of_ rfl) rfl)) ?_
 refine sw_seq ?_
 refine sO [(1, _), (2, _)] [(1, (36, [PV.val _, PV.val _, PV.sl _ _, PV.sl _ _, PV.sl _ _, PV.sl _ _, PV.sl _ _, PV.sl _ _, PV.sl _ _, PV.sl _ _, PV.sl _ _])), (2, (36, [PV.val _, PV.val _, PV.sl _ _, PV.sl _ _, PV.sl _ _, PV.sl _ _, PV.sl _ _, PV.sl _ _, PV.sl _ _, PV.sl _ _, PV.sl _ _]))] ?_
 refine sw_draw hm_ ?_
 refine dA 0 ?_ (x := lF fd_36_0)
 refine dA 1 ?_ (x := lD [PV.val _, PV.val _, PV.sl .v _, PV.sl .v _] ty_33)
 refine dA 3 ?_ (x := cL [(true, [PV.val _, PV.val _, PV.sl _ _, PV.sl _ _])] [(true, [PV.val _, PV.val _, PV.sl .v _, PV.sl .v _])] c_65 (hs := by exact impl_copyQuery (by omega)))
 refine dA 0 ?_ (x := lF fd_36_1)
 refine dA 8 ?_ (x := lD [PV.sl .v _] ty_34)
 refine dA 31 ?_ (x := cL [(false, [PV.sl _ _])] [(false, [PV.sl .v _])] c_66 (hs := by exact impl_copyParts (by omega)))
 refine dA 0 ?_ (x := loc_bslice (qs := []) (by decide) sl_27 z_4 (by decide) rfl rfl rfl rfl rfl (by exact Nat.le_of_ble_eq_true rfl) (by exact ⟨⟩) rfl)
 refine dA 0 ?_ (x := lF fd_36_2)
 refine dA 128 ?_ (x := lD [PV.sl .v _] ty_27)
 refine dA 511 ?_ (x := loc_appendb (by decide) sl_27 z_4 rfl rfl (by decide) (by first | (intro cs hcs; obtain ⟨x, _, rfl⟩ := List.mem_map.1 hcs; exact rfl) | simp) (by first | (intro cs hcs; obtain ⟨x, _, rfl⟩ := List.mem_map.1 hcs; exact (BorL.cons (PV.bor_val _) BorL.nil)) | simp) (by simp only [List.length_map, List.length_append, List.length_cons, List.length_nil]; omega) (by simp only [List.length_map, List.length_append, List.length_cons, List.length_nil]; omega))
 refine dA 0 ?_ (x := lF fd_36_3)
 refine dA 1024 ?_ (x := lD [PV.sl .v _] ty_23)
 refine dA 4095 ?_ (x := cL [(false, [PV.sl _ _])] [(false, [PV.sl .v _])] c_67 (hs := by exact impl_copyInts (by omega)))
 refine dA 0 ?_ (x := lF fd_36_4)
 refine dA 8192 ?_ (x := lD [PV.sl .v _] ty_23)
 refine dA 32767 ?_ (x := cL [(false, [PV.sl _ _])] [(false, [PV.sl .v _])] c_67 (hs := by exact impl_copyInts (by omega)))
 refine dA 0 ?_ (x := lF fd_36_5)
 refine dA 65536 ?_ (x := lD [PV.sl .v _] ty_34)
 refine dA 262143 ?_ (x := cL [(false, [PV.sl _ _])] [(false, [PV.sl .v _])] c_66 (hs := by exact impl_copyParts (by omega)))
 refine dA 0 ?_ (x := lF fd_36_6)
 refine dA 524288 ?_ (x := lD [PV.sl .v _] ty_23)
 refine dA 2097151 ?_ (x := cL [(false, [PV.sl _ _])] [(false, [PV.sl .v _])] c_67 (hs := by exact impl_copyInts (by omega)))
 refine dA 0 ?_ (x := lF fd_36_7)
 refine dA 4194304 ?_ (x := lD [PV.sl .v _] ty_34)
 refine dA 16777215 ?_ (x := cL [(false, [PV.sl _ _])] [(false, [PV.sl .v _])] c_66 (hs := by exact impl_copyParts (by omega)))
 refine dA 33554431 ?_ (x := loc_build (qs := [(true, [PV.val _, PV.val _, PV.sl _ _, PV.sl _ _]), (false, [PV.sl _ _]), (false, [PV.sl _ _]), (false, [PV.sl _ _]), (false, [PV.sl _ _]), (false, [PV.sl _ _]), (false, [PV.sl _ _]), (false, [PV.sl _ _])]) (cs := [PV.val _, PV.val _, PV.sl _ _, PV.sl _ _, PV.sl _ _, PV.sl _ _, PV.sl _ _, PV.sl _ _, PV.sl _ _, PV.sl _ _, PV.sl _ _]) (by decide) z_36 zo_36 pl_36 (by exact rfl) (by exact (And.intro (by exact ⟨⟩) (And.intro (by exact ⟨⟩) (And.intro (by exact ⟨⟩) (And.intro (by exact ⟨⟩) (And.intro (by exact ⟨⟩) (And.intro (by exact ⟨⟩) (And.intro (by exact ⟨⟩) (And.intro (by exact ⟨⟩) True.intro))))))))) rfl (by exact rfl))
 refine dA 67108863 ?_ (x := loc_store (ag := true) (vs := [PV.val _, PV.val _, PV.sl _ _, PV.sl _ _, PV.sl _ _, PV.sl _ _, PV.sl _ _, PV.sl _ _, PV.sl _ _, PV.sl _ _, PV.sl _ _]) ty_36 (by exact ⟨⟩) (by exact rfl) (by exact Nat.le_of_ble_eq_true rfl))
 refine sw_ret ?_
 exact (Exists.intro 2 (Exists.intro _ (And.intro (by exact rfl) (And.intro (by exact rfl) (And.intro ty_36 (And.intro (fun h => nomatch h) True.intro))))))
theorem spec_l18Copy {p3 p4 p9 p10 p13 p14 : Fl} {x : Cluster}  (hb : wtCluster x ≤ 68719476736) : SCall Tryz.prog 18 [(true, [PV.val (vI x.Query.Id), PV.val (vI x.Query.Tenant), PV.sl .v (x.Query.Conds.map cCond), PV.sl .v (x.Query.Out.map cInt), PV.sl .v (x.Parts.map (cRowS p3 p4)), PV.sl .v (x.Up.map cBool), PV.sl .v (x.At.map cInt), PV.sl .v (x.Pos.map cInt), PV.sl .v (x.Buffer.map (cRowS p9 p10)), PV.sl .v (x.Done.map cInt), PV.sl .v (x.Rows.map (cRowS p13 p14))])] (resRV [(true, [PV.val (vI x.Query.Id), PV.val (vI x.Query.Tenant), PV.sl (.own 84 3) (x.Query.Conds.map cCond), PV.sl (.own 3 1) (x.Query.Out.map cInt), PV.sl (.own 51 1) (x.Parts.map (cRowS (.own 53 2) (.own 3 1))), PV.sl (.own 4 1) (x.Up.map cBool), PV.sl (.own 3 1) (x.At.map cInt), PV.sl (.own 3 1) (x.Pos.map cInt), PV.sl (.own 51 1) (x.Buffer.map (cRowS (.own 53 2) (.own 3 1))), PV.sl (.own 3 1) (x.Done.map cInt), PV.sl (.own 51 1) (x.Rows.map (cRowS (.own 53 2) (.own 3 1)))])]) := by
 refine scall_of (rs := [(true, [PV.val (vI x.Query.Id), PV.val (vI x.Query.Tenant), PV.sl (.own 84 3) (x.Query.Conds.map cCond), PV.sl (.own 3 1) (x.Query.Out.map cInt), PV.sl (.own 51 1) (x.Parts.map (cRowS (.own 53 2) (.own 3 1))), PV.sl (.own 4 1) (x.Up.map cBool), PV.sl (.own 3 1) (x.At.map cInt), PV.sl (.own 3 1) (x.Pos.map cInt), PV.sl (.own 51 1) (x.Buffer.map (cRowS (.own 53 2) (.own 3 1))), PV.sl (.own 3 1) (x.Done.map cInt), PV.sl (.own 51 1) (x.Rows.map (cRowS (.own 53 2) (.own 3 1)))])]) Tryz.func18 rfl (Nat.le_of_ble_eq_true rfl) (borA_cons (BorL.cons (PV.bor_val _) (BorL.cons (PV.bor_val _) (BorL.cons (PV.bor_sl _) (BorL.cons (PV.bor_sl _) (BorL.cons (PV.bor_sl _) (BorL.cons (PV.bor_sl _) (BorL.cons (PV.bor_sl _) (BorL.cons (PV.bor_sl _) (BorL.cons (PV.bor_sl _) (BorL.cons (PV.bor_sl _) (BorL.cons (PV.bor_sl _) BorL.nil))))))))))) borA_nil) ?_
 intro h0 w0 Fz0
 refine sw_slen (s := 0) (j := 2) rfl rfl fun hl0_2 => ?_
 try rw [List.length_map] at hl0_2
 refine sw_slen (s := 0) (j := 3) rfl rfl fun hl0_3 => ?_
 try rw [List.length_map] at hl0_3
 refine sw_slen (s := 0) (j := 4) rfl rfl fun hl0_4 => ?_
 try rw [List.length_map] at hl0_4
 refine sw_slen (s := 0) (j := 5) rfl rfl fun hl0_5 => ?_
 try rw [List.length_map] at hl0_5
 refine sw_slen (s := 0) (j := 6) rfl rfl fun hl0_6 => ?_
 try rw [List.length_map] at hl0_6
 refine sw_slen (s := 0) (j := 7) rfl rfl fun hl0_7 => ?_
 try rw [List.length_map] at hl0_7
 refine sw_slen (s := 0) (j := 8) rfl rfl fun hl0_8 => ?_
 try rw [List.length_map] at hl0_8
 refine sw_slen (s := 0) (j := 9) rfl rfl fun hl0_9 => ?_
 try rw [List.length_map] at hl0_9
 refine sw_slen (s := 0) (j := 10) rfl rfl fun hl0_10 => ?_
 try rw [List.length_map] at hl0_10
 have hbu := hb
 simp only [wtCluster, wtInt] at hbu
 have hb1 := wtIntS_len x.At
 have hb2 := wtIntS_len x.Pos
 have hb3 := wtIntS_len x.Done
 have hb4 : x.Up.length ≤ wtBoolS x.Up := Nat.le_add_right _ _
 refine sw_seq ?_
 refine sw_reg ?_
 refine RunS.step (by exact ⟨rfl, ⟨⟩⟩) (by exact ⟨⟩) (LocG.of rfl (loc_box (ag := true) (cs := [PV.val _, PV.val _, PV.sl _ _, PV.sl _ _, PV.sl _ _, PV.sl _ _, PV.sl _ _, PV.sl _ _, PV.sl _ _, PV.sl _ _, PV.sl _ _]) (by decide) (by exact ⟨⟩))) (free1 (Free.of_ rfl)) ?_
 refine RunS.step (by exact ⟨⟩) (by exact ⟨⟩) (LocG.of rfl (loc_alloc (by decide) z_36 zo_36)) (free1 (Free.app (Free.of_ rfl) rfl)) ?_
 refine sw_seq ?_
 refine sO [(1, _), (2, _)] [(1, (36, [PV.val _, PV.val _, PV.sl _ _, PV.sl _ _, PV.sl _ _, PV.sl _ _, PV.sl _ _, PV.sl _ _, PV.sl _ _, PV.sl _ _, PV.sl _ _])), (2, (36, [PV.val _, PV.val _, PV.sl _ _, PV.sl _ _, PV.sl _ _, PV.sl _ _, PV.sl _ _, PV.sl _ _, PV.sl _ _, PV.sl _ _, PV.sl _ _]))] ?_
 refine sw_draw hm_ ?_
 refine dA 0 ?_ (x := lF fd_36_0)
 refine dA 1 ?_ (x := lD [PV.val _, PV.val _, PV.sl .v _, PV.sl .v _] ty_33)
 refine dA 3 ?_ (x := cL [(true, [PV.val _, PV.val _, PV.sl _ _, PV.sl _ _])] [(true, [PV.val _, PV.val _, PV.sl .v _, PV.sl .v _])] c_52 (hs := by exact spec_l6Query (by omega)))
 refine dA 0 ?_ (x := lF fd_36_1)
 refine dA 8 ?_ (x := lD [PV.sl .v _] ty_34)
 refine dA 31 ?_ (x := cL [(false, [PV.sl _ _])] [(false, [PV.sl .v _])] c_53 (hs := by exact spec_l18CopyParts (by omega)))
 refine dA 0 ?_ (x := loc_bslice (qs := []) (by decide) sl_27 z_4 (by decide) rfl rfl rfl rfl rfl (by exact Nat.le_of_ble_eq_true rfl) (by exact ⟨⟩) rfl)
 refine dA 0 ?_ (x := lF fd_36_2)
 refine dA 128 ?_ (x := lD [PV.sl .v _] ty_27)
 refine dA 511 ?_ (x := loc_appendb (by decide) sl_27 z_4 rfl rfl (by decide) (by first | (intro cs hcs; obtain ⟨x, _, rfl⟩ := List.mem_map.1 hcs; exact rfl) | simp) (by first | (intro cs hcs; obtain ⟨x, _, rfl⟩ := List.mem_map.1 hcs; exact (BorL.cons (PV.bor_val _) BorL.nil)) | simp) (by simp only [List.length_map, List.length_append, List.length_cons, List.length_nil]; omega) (by simp only [List.length_map, List.length_append, List.length_cons, List.length_nil]; omega))
 refine dA 0 ?_ (x := loc_bslice (qs := []) (by decide) sl_23 z_3 (by decide) rfl rfl rfl rfl rfl (by exact Nat.le_of_ble_eq_true rfl) (by exact ⟨⟩) rfl)
 refine dA 0 ?_ (x := lF fd_36_3)
 refine dA 2048 ?_ (x := lD [PV.sl .v _] ty_23)
 refine dA 8191 ?_ (x := loc_appendb (by decide) sl_23 z_3 rfl rfl (by decide) (by first | (intro cs hcs; obtain ⟨x, _, rfl⟩ := List.mem_map.1 hcs; exact rfl) | simp) (by first | (intro cs hcs; obtain ⟨x, _, rfl⟩ := List.mem_map.1 hcs; exact (BorL.cons (PV.bor_val _) BorL.nil)) | simp) (by simp only [List.length_map, List.length_append, List.length_cons, List.length_nil]; omega) (by simp only [List.length_map, List.length_append, List.length_cons, List.length_nil]; omega))
 refine dA 0 ?_ (x := loc_bslice (qs := []) (by decide) sl_23 z_3 (by decide) rfl rfl rfl rfl rfl (by exact Nat.le_of_ble_eq_true rfl) (by exact ⟨⟩) rfl)
 refine dA 0 ?_ (x := lF fd_36_4)
 refine dA 32768 ?_ (x := lD [PV.sl .v _] ty_23)
 refine dA 131071 ?_ (x := loc_appendb (by decide) sl_23 z_3 rfl rfl (by decide) (by first | (intro cs hcs; obtain ⟨x, _, rfl⟩ := List.mem_map.1 hcs; exact rfl) | simp) (by first | (intro cs hcs; obtain ⟨x, _, rfl⟩ := List.mem_map.1 hcs; exact (BorL.cons (PV.bor_val _) BorL.nil)) | simp) (by simp only [List.length_map, List.length_append, List.length_cons, List.length_nil]; omega) (by simp only [List.length_map, List.length_append, List.length_cons, List.length_nil]; omega))
 refine dA 0 ?_ (x := lF fd_36_5)
 refine dA 262144 ?_ (x := lD [PV.sl .v _] ty_34)
 refine dA 1048575 ?_ (x := cL [(false, [PV.sl _ _])] [(false, [PV.sl .v _])] c_53 (hs := by exact spec_l18CopyParts (by omega)))
 refine dA 0 ?_ (x := loc_bslice (qs := []) (by decide) sl_23 z_3 (by decide) rfl rfl rfl rfl rfl (by exact Nat.le_of_ble_eq_true rfl) (by exact ⟨⟩) rfl)
 refine dA 0 ?_ (x := lF fd_36_6)
 refine dA 4194304 ?_ (x := lD [PV.sl .v _] ty_23)
 refine dA 16777215 ?_ (x := loc_appendb (by decide) sl_23 z_3 rfl rfl (by decide) (by first | (intro cs hcs; obtain ⟨x, _, rfl⟩ := List.mem_map.1 hcs; exact rfl) | simp) (by first | (intro cs hcs; obtain ⟨x, _, rfl⟩ := List.mem_map.1 hcs; exact (BorL.cons (PV.bor_val _) BorL.nil)) | simp) (by simp only [List.length_map, List.length_append, List.length_cons, List.length_nil]; omega) (by simp only [List.length_map, List.length_append, List.length_cons, List.length_nil]; omega))
 refine dA 0 ?_ (x := lF fd_36_7)
 refine dA 33554432 ?_ (x := lD [PV.sl .v _] ty_34)
 refine dA 134217727 ?_ (x := cL [(false, [PV.sl _ _])] [(false, [PV.sl .v _])] c_53 (hs := by exact spec_l18CopyParts (by omega)))
 refine dA 268435455 ?_ (x := loc_build (qs := [(true, [PV.val _, PV.val _, PV.sl _ _, PV.sl _ _]), (false, [PV.sl _ _]), (false, [PV.sl _ _]), (false, [PV.sl _ _]), (false, [PV.sl _ _]), (false, [PV.sl _ _]), (false, [PV.sl _ _]), (false, [PV.sl _ _])]) (cs := [PV.val _, PV.val _, PV.sl _ _, PV.sl _ _, PV.sl _ _, PV.sl _ _, PV.sl _ _, PV.sl _ _, PV.sl _ _, PV.sl _ _, PV.sl _ _]) (by decide) z_36 zo_36 pl_36 (by exact rfl) (by exact (And.intro (by exact ⟨⟩) (And.intro (by exact ⟨⟩) (And.intro (by exact ⟨⟩) (And.intro (by exact ⟨⟩) (And.intro (by exact ⟨⟩) (And.intro (by exact ⟨⟩) (And.intro (by exact ⟨⟩) (And.intro (by exact ⟨⟩) True.intro))))))))) rfl (by exact rfl))
 refine dA 536870911 ?_ (x := loc_store (ag := true) (vs := [PV.val _, PV.val _, PV.sl _ _, PV.sl _ _, PV.sl _ _, PV.sl _ _, PV.sl _ _, PV.sl _ _, PV.sl _ _, PV.sl _ _, PV.sl _ _]) ty_36 (by exact ⟨⟩) (by exact rfl) (by exact Nat.le_of_ble_eq_true rfl))
 refine sw_ret ?_
 exact (Exists.intro 2 (Exists.intro _ (And.intro (by exact rfl) (And.intro (by exact rfl) (And.intro ty_36 (And.intro (fun h => nomatch h) True.intro))))))
end Go.Proofs.YtloipjaiceifbaaGreat
