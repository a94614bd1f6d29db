/- What functions of the program compute. No condition. -/
import Derived.Test.YtaomckpfgmhapaaCStAFnTops
import Derived.Test.YtaomckpfgmhapaaCCmpFnTops
import Derived.Test.YtaomckpfgmhapaaCDf
import Derived.KernelRfl
set_option linter.unusedVariables false
set_option linter.unusedSimpArgs false
namespace Go.Proofs.Ytaomckpfgmhapaa
open Go Go.RowKit M
set_option maxRecDepth 10000
attribute [local irreducible] PV.Lcl PV.LclR RV.Lcl
theorem FStEA_c_28 : callI Try.prog 28 = true := by kernel_rfl
theorem FStEA_c_38 : callI Try.prog 38 = true := by kernel_rfl
theorem FStEA_c_48 : callI Try.prog 48 = true := by kernel_rfl
theorem FStEA_c_49 : callI Try.prog 49 = true := by kernel_rfl
theorem FStEA_c_50 : callI Try.prog 50 = true := by kernel_rfl
theorem FStEA_c_65 : callI Try.prog 65 = true := by kernel_rfl
theorem FStEA_c_72 : callI Try.prog 72 = true := by kernel_rfl
theorem FStEA_fd_33_0 : fieldI Try.prog 33 0 = some 0 := by kernel_rfl
theorem FStEA_fd_33_1 : fieldI Try.prog 33 1 = some 1 := by kernel_rfl
theorem FStEA_fd_35_0 : fieldI Try.prog 35 0 = some 0 := by kernel_rfl
theorem FStEA_fd_35_1 : fieldI Try.prog 35 1 = some 2 := by kernel_rfl
theorem FStEA_pl_35 : placesI Try.prog 35 = some [(0, 2), (2, 1)] := by kernel_rfl
theorem FStEA_sl_24 : sliceI Try.prog 24 = some (35, 3, 56) := by kernel_rfl
theorem FStEA_sl_31 : sliceI Try.prog 31 = some (3, 1, 8) := by kernel_rfl
theorem FStEA_ty_3 : tyI Try.prog 3 = some (false, 1) := by kernel_rfl
theorem FStEA_ty_31 : tyI Try.prog 31 = some (false, 1) := by kernel_rfl
theorem FStEA_ty_33 : tyI Try.prog 33 = some (true, 2) := by kernel_rfl
theorem FStEA_ty_35 : tyI Try.prog 35 = some (true, 3) := by kernel_rfl
theorem FStEA_z_3 : zeroI Try.prog 3 = some (.int .i64 0) := by kernel_rfl
theorem FStEA_z_35 : zeroI Try.prog 35 = some (.agg #[.int .i64 0, .slice none 0 0, .slice none 0 0]) := by kernel_rfl
theorem FStEA_zo_35 {Fz : FzT} {w : World} : OwnL [PV.val (.int .i64 0), PV.sl (.own 3 1) [], PV.sl (.own 3 1) []] Fz w (Value.cells (.agg #[.int .i64 0, .slice none 0 0, .slice none 0 0])).toList [] := zo_val rfl (zo_sl (zo_sl (zo_nil)))
theorem impl_SortByField_1 {f : Int} {x : Annotated} {y : Annotated}  (hx : x.Row.Values.length = 3) (hy : y.Row.Values.length = 3) (hf : 0 ≤ f ∧ f ≤ 2) : SCall Try.prog 49 [(true, [PV.val (vI x.Row.Id), PV.sl .v (x.Row.Values.map cInt), PV.sl .v (x.Set.map cInt)]), (true, [PV.val (vI y.Row.Id), PV.sl .v (y.Row.Values.map cInt), PV.sl .v (y.Set.map cInt)]), (false, [PV.ep [PV.val (vI f)]])] (resRV [(false, [PV.val (vI (cmpF f (x, y)))])]) := by
 refine scall_of (rs := [(false, [PV.val (vI (cmpF f (x, y)))])]) Try.func49 rfl (Nat.le_of_ble_eq_true rfl) (borA_cons (BorL.cons (PV.bor_val _) (BorL.cons (PV.bor_sl _) (BorL.cons (PV.bor_sl _) BorL.nil))) (borA_cons (BorL.cons (PV.bor_val _) (BorL.cons (PV.bor_sl _) (BorL.cons (PV.bor_sl _) BorL.nil))) (borA_cons (BorL.cons (PV.bor_ep _) BorL.nil) borA_nil))) ?_
 intro h0 w0 Fz0
 refine sw_slen (s := 0) (j := 1) rfl rfl fun hl0_1 => ?_
 try rw [List.length_map] at hl0_1
 refine sw_slen (s := 0) (j := 2) rfl rfl fun hl0_2 => ?_
 try rw [List.length_map] at hl0_2
 refine sw_slen (s := 1) (j := 1) rfl rfl fun hl1_1 => ?_
 try rw [List.length_map] at hl1_1
 refine sw_slen (s := 1) (j := 2) rfl rfl fun hl1_2 => ?_
 try rw [List.length_map] at hl1_2
 have hx3 : f.toNat < x.Row.Values.length := by omega
 have hy3 : f.toNat < y.Row.Values.length := by omega
 refine sw_seq ?_
 refine sw_reg ?_
 refine RunS.step (by exact ⟨rfl, ⟨⟩⟩) (by exact ⟨⟩) (LocG.of rfl (loc_box (ag := true) (cs := [PV.val _, PV.sl _ _, PV.sl _ _]) (by decide) (by exact ⟨⟩))) (free1 (Free.of_ rfl)) ?_
 refine RunS.step (by exact ⟨rfl, ⟨⟩⟩) (by exact ⟨⟩) (LocG.of rfl (loc_box (ag := true) (cs := [PV.val _, PV.sl _ _, PV.sl _ _]) (by decide) (by exact ⟨⟩))) (free1 (Free.app (Free.of_ rfl) rfl)) ?_
 refine rA ?_ (x := kA)
 refine sw_seq ?_
 refine sw_seq ?_
 refine sO [(2, _), (3, _), (4, _), (5, _)] [(3, (35, [PV.val _, PV.sl _ _, PV.sl _ _])), (4, (35, [PV.val _, PV.sl _ _, PV.sl _ _]))] ?_
 refine sw_draw hm_ ?_
 refine dA 0 ?_ (x := lF FStEA_fd_35_0)
 refine dA 1 ?_ (x := lF FStEA_fd_33_1)
 refine dA 3 ?_ (x := lD [PV.sl .v _] FStEA_ty_31)
 refine dA 0 ?_ (x := loc_epload (qs := [PV.val _]) (by decide) FStEA_ty_3 (fun _ => rfl) (by exact Nat.le_of_ble_eq_true rfl) (by exact (ToL.cons (PV.To.refl _) ToL.nil)) (by exact (BorL.cons (PV.bor_val _) BorL.nil)))
 refine dA 15 ?_ (x := loc_index (k := f.toNat) (by decide) FStEA_sl_31 (by exact ⟨⟩) (by omega) (by first | exact getm2 hx3 (by rw [valAt_eq hx3]) | exact getm2 hy3 (by rw [valAt_eq hy3])) (by exact rfl))
 refine dA 31 ?_ (x := lE [PV.val _] FStEA_ty_3)
 refine dA 0 ?_ (x := lF FStEA_fd_35_0)
 refine dA 64 ?_ (x := lF FStEA_fd_33_1)
 refine dA 192 ?_ (x := lD [PV.sl .v _] FStEA_ty_31)
 refine dA 0 ?_ (x := loc_epload (qs := [PV.val _]) (by decide) FStEA_ty_3 (fun _ => rfl) (by exact Nat.le_of_ble_eq_true rfl) (by exact (ToL.cons (PV.To.refl _) ToL.nil)) (by exact (BorL.cons (PV.bor_val _) BorL.nil)))
 refine dA 960 ?_ (x := loc_index (k := f.toNat) (by decide) FStEA_sl_31 (by exact ⟨⟩) (by omega) (by first | exact getm2 hx3 (by rw [valAt_eq hx3]) | exact getm2 hy3 (by rw [valAt_eq hy3])) (by exact rfl))
 refine dA 1984 ?_ (x := lE [PV.val _] FStEA_ty_3)
 refine dA 4095 ?_ (x := B_neq)
 refine sw_cond (t := 18) rfl (fun hb1 => ?_) (fun hb1 => ?_)
 ·try simp only [q1, q2, q3, q4, q5, q6, q7, q8, q9] at hb1
  refine sw_seq ?_
  refine sO [(2, _), (3, _), (4, _), (5, _)] [(3, _), (4, _)] ?_
  refine sw_draw hm_ ?_
  refine dA 0 ?_ (x := lF FStEA_fd_35_0)
  refine dA 1 ?_ (x := lF FStEA_fd_33_1)
  refine dA 3 ?_ (x := lD [PV.sl .v _] FStEA_ty_31)
  refine dA 0 ?_ (x := loc_epload (qs := [PV.val _]) (by decide) FStEA_ty_3 (fun _ => rfl) (by exact Nat.le_of_ble_eq_true rfl) (by exact (ToL.cons (PV.To.refl _) ToL.nil)) (by exact (BorL.cons (PV.bor_val _) BorL.nil)))
  refine dA 15 ?_ (x := loc_index (k := f.toNat) (by decide) FStEA_sl_31 (by exact ⟨⟩) (by omega) (by first | exact getm2 hx3 (by rw [valAt_eq hx3]) | exact getm2 hy3 (by rw [valAt_eq hy3])) (by exact rfl))
  refine dA 31 ?_ (x := lE [PV.val _] FStEA_ty_3)
  refine dA 0 ?_ (x := lF FStEA_fd_35_0)
  refine dA 64 ?_ (x := lF FStEA_fd_33_1)
  refine dA 192 ?_ (x := lD [PV.sl .v _] FStEA_ty_31)
  refine dA 0 ?_ (x := loc_epload (qs := [PV.val _]) (by decide) FStEA_ty_3 (fun _ => rfl) (by exact Nat.le_of_ble_eq_true rfl) (by exact (ToL.cons (PV.To.refl _) ToL.nil)) (by exact (BorL.cons (PV.bor_val _) BorL.nil)))
  refine dA 960 ?_ (x := loc_index (k := f.toNat) (by decide) FStEA_sl_31 (by exact ⟨⟩) (by omega) (by first | exact getm2 hx3 (by rw [valAt_eq hx3]) | exact getm2 hy3 (by rw [valAt_eq hy3])) (by exact rfl))
  refine dA 1984 ?_ (x := lE [PV.val _] FStEA_ty_3)
  refine dA 4095 ?_ (x := cL [(false, [PV.val _]), (false, [PV.val _])] [(false, [PV.val _]), (false, [PV.val _])] FStEA_c_50 (hs := by exact cmp_Compare))
  refine dA 8191 ?_ (x := sA)
  refine sw_ret ?_
  exact (And.intro (by refine int_eq ?_; show _ = lexI (valAt x.Row f) (valAt y.Row f) (lexI x.Row.Id y.Row.Id 0); unfold cmpI lexI; repeat' split; all_goals (first | omega | rfl)) True.intro)
 ·try simp only [q1, q2, q3, q4, q5, q6, q7, q8, q9] at hb1
  refine sw_skip ?_
  refine sw_seq ?_
  refine sO [(2, _), (3, _), (4, _), (5, _)] [(3, _), (4, _)] ?_
  refine sw_reg ?_
  refine rA ?_ (x := lF FStEA_fd_35_0)
  refine rA ?_ (x := lF FStEA_fd_33_0)
  refine rA ?_ (x := lD [PV.val _] FStEA_ty_3)
  refine rA ?_ (x := lF FStEA_fd_35_0)
  refine rA ?_ (x := lF FStEA_fd_33_0)
  refine rA ?_ (x := lD [PV.val _] FStEA_ty_3)
  refine rA ?_ (x := cL [(false, [PV.val _]), (false, [PV.val _])] [(false, [PV.val _]), (false, [PV.val _])] FStEA_c_50 (hs := by exact cmp_Compare))
  refine rA ?_ (x := sA)
  refine sw_ret ?_
  exact (And.intro (by refine int_eq ?_; show _ = lexI (valAt x.Row f) (valAt y.Row f) (lexI x.Row.Id y.Row.Id 0); unfold cmpI lexI; repeat' split; all_goals (first | omega | rfl)) True.intro)
theorem spec_l15Less {x : Row} {y : Row} {f : Int}  (hx : x.Values.length = 3) (hy : y.Values.length = 3) (hf : 0 ≤ f ∧ f ≤ 2) : SCall Try.prog 51 [(true, [PV.val (vI x.Id), PV.sl .v (x.Values.map cInt)]), (true, [PV.val (vI y.Id), PV.sl .v (y.Values.map cInt)]), (false, [PV.val (vI f)])] (resRV [(false, [PV.val (.bool (lessQ (cmpFR f) x y))])]) := by
 refine scall_of (rs := [(false, [PV.val (.bool (lessQ (cmpFR f) x y))])]) Try.func51 rfl (Nat.le_of_ble_eq_true rfl) (borA_cons (BorL.cons (PV.bor_val _) (BorL.cons (PV.bor_sl _) BorL.nil)) (borA_cons (BorL.cons (PV.bor_val _) (BorL.cons (PV.bor_sl _) BorL.nil)) (borA_cons (BorL.cons (PV.bor_val _) BorL.nil) borA_nil))) ?_
 intro h0 w0 Fz0
 refine sw_slen (s := 0) (j := 1) rfl rfl fun hl0_1 => ?_
 try rw [List.length_map] at hl0_1
 refine sw_slen (s := 1) (j := 1) rfl rfl fun hl1_1 => ?_
 try rw [List.length_map] at hl1_1
 have hx3 : f.toNat < x.Values.length := by omega
 have hy3 : f.toNat < y.Values.length := by omega
 refine sw_seq ?_
 refine sw_reg ?_
 refine RunS.step (by exact ⟨rfl, ⟨⟩⟩) (by exact ⟨⟩) (LocG.of rfl (loc_box (ag := true) (cs := [PV.val _, PV.sl _ _]) (by decide) (by exact ⟨⟩))) (free1 (Free.of_ rfl)) ?_
 refine RunS.step (by exact ⟨rfl, ⟨⟩⟩) (by exact ⟨⟩) (LocG.of rfl (loc_box (ag := true) (cs := [PV.val _, PV.sl _ _]) (by decide) (by exact ⟨⟩))) (free1 (Free.app (Free.of_ rfl) rfl)) ?_
 refine rA ?_ (x := kA)
 refine sw_seq ?_
 refine sw_seq ?_
 refine sO [(2, _), (3, _), (4, _), (6, _)] [(3, (33, [PV.val _, PV.sl _ _])), (4, (33, [PV.val _, PV.sl _ _]))] ?_
 refine sw_draw hm_ ?_
 refine dA 0 ?_ (x := lF FStEA_fd_33_1)
 refine dA 1 ?_ (x := lD [PV.sl .v _] FStEA_ty_31)
 refine dA 0 ?_ (x := sM)
 refine dA 7 ?_ (x := loc_index (k := f.toNat) (by decide) FStEA_sl_31 (by exact ⟨⟩) (by omega) (by first | exact getm2 hx3 (by rw [valAt_eq hx3]) | exact getm2 hy3 (by rw [valAt_eq hy3])) (by exact rfl))
 refine dA 15 ?_ (x := lE [PV.val _] FStEA_ty_3)
 refine dA 0 ?_ (x := lF FStEA_fd_33_1)
 refine dA 32 ?_ (x := lD [PV.sl .v _] FStEA_ty_31)
 refine dA 0 ?_ (x := sM)
 refine dA 224 ?_ (x := loc_index (k := f.toNat) (by decide) FStEA_sl_31 (by exact ⟨⟩) (by omega) (by first | exact getm2 hx3 (by rw [valAt_eq hx3]) | exact getm2 hy3 (by rw [valAt_eq hy3])) (by exact rfl))
 refine dA 480 ?_ (x := lE [PV.val _] FStEA_ty_3)
 refine dA 1023 ?_ (x := B_neq)
 refine sw_cond (t := 17) rfl (fun hb1 => ?_) (fun hb1 => ?_)
 ·try simp only [q1, q2, q3, q4, q5, q6, q7, q8, q9] at hb1
  refine sw_seq ?_
  refine sO [(2, _), (3, _), (4, _), (6, _)] [(3, _), (4, _)] ?_
  refine sw_draw hm_ ?_
  refine dA 0 ?_ (x := lF FStEA_fd_33_1)
  refine dA 1 ?_ (x := lD [PV.sl .v _] FStEA_ty_31)
  refine dA 0 ?_ (x := sM)
  refine dA 7 ?_ (x := loc_index (k := f.toNat) (by decide) FStEA_sl_31 (by exact ⟨⟩) (by omega) (by first | exact getm2 hx3 (by rw [valAt_eq hx3]) | exact getm2 hy3 (by rw [valAt_eq hy3])) (by exact rfl))
  refine dA 15 ?_ (x := lE [PV.val _] FStEA_ty_3)
  refine dA 0 ?_ (x := lF FStEA_fd_33_1)
  refine dA 32 ?_ (x := lD [PV.sl .v _] FStEA_ty_31)
  refine dA 0 ?_ (x := sM)
  refine dA 224 ?_ (x := loc_index (k := f.toNat) (by decide) FStEA_sl_31 (by exact ⟨⟩) (by omega) (by first | exact getm2 hx3 (by rw [valAt_eq hx3]) | exact getm2 hy3 (by rw [valAt_eq hy3])) (by exact rfl))
  refine dA 480 ?_ (x := lE [PV.val _] FStEA_ty_3)
  refine dA 1023 ?_ (x := B_lss)
  refine dA 2047 ?_ (x := sA)
  refine sw_ret ?_
  exact (And.intro (by refine bool_eq ?_; show _ = decide (lexI (valAt x f) (valAt y f) (lexI x.Id y.Id 0) < 0); rw [decide_eq_decide]; unfold lexI; repeat' split; all_goals omega) True.intro)
 ·try simp only [q1, q2, q3, q4, q5, q6, q7, q8, q9] at hb1
  refine sw_skip ?_
  refine sw_seq ?_
  refine sO [(2, _), (3, _), (4, _), (6, _)] [(3, _), (4, _)] ?_
  refine sw_reg ?_
  refine rA ?_ (x := lF FStEA_fd_33_0)
  refine rA ?_ (x := lD [PV.val _] FStEA_ty_3)
  refine rA ?_ (x := lF FStEA_fd_33_0)
  refine rA ?_ (x := lD [PV.val _] FStEA_ty_3)
  refine rA ?_ (x := B_lss)
  refine rA ?_ (x := sA)
  refine sw_ret ?_
  exact (And.intro (by refine bool_eq ?_; show _ = decide (lexI (valAt x f) (valAt y f) (lexI x.Id y.Id 0) < 0); rw [decide_eq_decide]; unfold lexI; repeat' split; all_goals omega) True.intro)
theorem spec_l15Copy {x : Annotated}  (hb : wtAnnotated x ≤ 68719476736) : SCall Try.prog 52 [(true, [PV.val (vI x.Row.Id), PV.sl .v (x.Row.Values.map cInt), PV.sl .v (x.Set.map cInt)])] (resRV [(true, [PV.val (vI x.Row.Id), PV.sl (.own 3 1) (x.Row.Values.map cInt), PV.sl (.own 3 1) (x.Set.map cInt)])]) := by
 refine scall_of (rs := [(true, [PV.val (vI x.Row.Id), PV.sl (.own 3 1) (x.Row.Values.map cInt), PV.sl (.own 3 1) (x.Set.map cInt)])]) Try.func52 rfl (Nat.le_of_ble_eq_true rfl) (borA_cons (BorL.cons (PV.bor_val _) (BorL.cons (PV.bor_sl _) (BorL.cons (PV.bor_sl _) BorL.nil))) borA_nil) ?_
 intro h0 w0 Fz0
 refine sw_slen (s := 0) (j := 1) rfl rfl fun hl0_1 => ?_
 try rw [List.length_map] at hl0_1
 refine sw_slen (s := 0) (j := 2) rfl rfl fun hl0_2 => ?_
 try rw [List.length_map] at hl0_2
 have hwr : wtRow x.Row ≤ wtAnnotated x := by unfold wtAnnotated; omega
 have hbu := hb
 simp only [wtAnnotated, wtRow, wtIntS_len, wtInt] at hbu
 refine sw_seq ?_
 refine sw_reg ?_
 refine RunS.step (by exact ⟨rfl, ⟨⟩⟩) (by exact ⟨⟩) (LocG.of rfl (loc_box (ag := true) (cs := [PV.val _, PV.sl _ _, PV.sl _ _]) (by decide) (by exact ⟨⟩))) (free1 (Free.of_ rfl)) ?_
 refine RunS.step (by exact ⟨⟩) (by exact ⟨⟩) (LocG.of rfl (loc_alloc (by decide) FStEA_z_35 FStEA_zo_35)) (free1 (Free.app (Free.of_ rfl) rfl)) ?_
 refine sw_seq ?_
 refine sO [(1, _), (2, _)] [(1, (35, [PV.val _, PV.sl _ _, PV.sl _ _])), (2, (35, [PV.val _, PV.sl _ _, PV.sl _ _]))] ?_
 refine sw_draw hm_ ?_
 refine dA 0 ?_ (x := lF FStEA_fd_35_0)
 refine dA 1 ?_ (x := lD [PV.val _, PV.sl .v _] FStEA_ty_33)
 refine dA 3 ?_ (x := cL [(true, [PV.val _, PV.sl _ _])] [(true, [PV.val _, PV.sl .v _])] FStEA_c_38 (hs := by exact spec_l3Copy (by omega)))
 refine dA 0 ?_ (x := loc_bslice (qs := []) (by decide) FStEA_sl_31 FStEA_z_3 (by decide) rfl rfl rfl rfl rfl (by exact Nat.le_of_ble_eq_true rfl) (by exact ⟨⟩) rfl)
 refine dA 0 ?_ (x := lF FStEA_fd_35_1)
 refine dA 16 ?_ (x := lD [PV.sl .v _] FStEA_ty_31)
 refine dA 63 ?_ (x := loc_appendb (by decide) FStEA_sl_31 FStEA_z_3 rfl rfl (by decide) (by first | (intro cs hcs; obtain ⟨x, _, rfl⟩ := List.mem_map.1 hcs; exact rfl) | simp) (by first | (intro cs hcs; obtain ⟨x, _, rfl⟩ := List.mem_map.1 hcs; exact (BorL.cons (PV.bor_val _) BorL.nil)) | simp) (by simp only [List.length_map, List.length_append, List.length_cons, List.length_nil]; omega) (by simp only [List.length_map, List.length_append, List.length_cons, List.length_nil]; omega))
 refine dA 127 ?_ (x := loc_build (qs := [(true, [PV.val _, PV.sl _ _]), (false, [PV.sl _ _])]) (cs := [PV.val _, PV.sl _ _, PV.sl _ _]) (by decide) FStEA_z_35 FStEA_zo_35 FStEA_pl_35 (by exact rfl) (by exact (And.intro (by exact ⟨⟩) (And.intro (by exact ⟨⟩) True.intro))) rfl (by exact rfl))
 refine dA 255 ?_ (x := loc_store (ag := true) (vs := [PV.val _, PV.sl _ _, PV.sl _ _]) FStEA_ty_35 (by exact ⟨⟩) (by exact rfl) (by exact Nat.le_of_ble_eq_true rfl))
 refine sw_ret ?_
 exact (Exists.intro 2 (Exists.intro _ (And.intro (by exact rfl) (And.intro (by exact rfl) (And.intro FStEA_ty_35 (And.intro (fun h => nomatch h) True.intro))))))
theorem insE_Annotated {q : OkA × OkA → Int} {p1 p2 : Fl} {x : List Annotated} {a : Int} {b_ : Int}  (hx : x = []) (ha : a = 0) (hb : b_ = 0) : SCall Try.prog 72 [(false, [PV.sl .v (x.map (cAnnotated p1 p2))]), (false, [PV.val (vI a)]), (false, [PV.val (vI b_)]), (false, [PV.clo Try.prog (as2 (fun x : OkA => (true, [PV.val (vI x.1.Row.Id), PV.sl .v (x.1.Row.Values.map cInt), PV.sl .v (x.1.Set.map cInt)]))) (rsI q)])] (resRV []) := by
 refine scall_of (rs := []) Try.func72 rfl (Nat.le_of_ble_eq_true rfl) (borA_cons (BorL.cons (PV.bor_sl _) BorL.nil) (borA_cons (BorL.cons (PV.bor_val _) BorL.nil) (borA_cons (BorL.cons (PV.bor_val _) BorL.nil) (borA_cons (BorL.cons (PV.bor_clo _ _) BorL.nil) borA_nil)))) ?_
 intro h0 w0 Fz0
 refine sw_len (s := 0) rfl fun hl0 => ?_
 try rw [List.length_map] at hl0
 refine sw_seq ?_
 refine sw_reg ?_
 refine rA ?_ (x := sM)
 refine rA ?_ (x := B_add)
 refine rA ?_ (x := sA)
 refine sw_block ?_
 refine sO [(0, _), (1, _), (2, _), (3, _), (8, _)] [] ?_
 refine sw_loop (l0 := [(0, RV.sv false [PV.sl _ _]), (1, RV.sv false [PV.val _]), (2, RV.sv false [PV.val _]), (3, RV.sv false [PV.clo _ _ _])]) (b0 := []) (fun _u : Unit => True) (fun _u : Unit => [(8, RV.int 1)]) (fun _u : Unit => []) (fun _u : Unit => 0) () True.intro (by exact ⟨rfl, rfl, rfl, rfl, ⟨⟩⟩) (by exact ⟨⟩) (by exact And.intro (by exact int_eq (by omega)) (True.intro)) (by exact ⟨⟩) ?_
 rintro _u _
 refine sw_seq ?_
 refine sw_seq ?_
 refine sw_reg ?_
 refine rA ?_ (x := sM)
 refine rA ?_ (x := sM)
 refine rA ?_ (x := B_lss)
 refine sw_cond (t := 14) rfl (fun hb1 => ?_) (fun hb1 => ?_)
 ·try simp only [q1, q2, q3, q4, q5, q6, q7, q8, q9] at hb1
  omega
 ·try simp only [q1, q2, q3, q4, q5, q6, q7, q8, q9] at hb1
  refine sw_exit ?_
  exact True.intro
theorem stbE_Annotated {q : OkA × OkA → Int} {p1 p2 : Fl} {x : List Annotated} {c : Int}  (hx : x = []) (hc : c = 0) : SCall Try.prog 65 [(false, [PV.sl .v (x.map (cAnnotated p1 p2))]), (false, [PV.val (vI c)]), (false, [PV.clo Try.prog (as2 (fun x : OkA => (true, [PV.val (vI x.1.Row.Id), PV.sl .v (x.1.Row.Values.map cInt), PV.sl .v (x.1.Set.map cInt)]))) (rsI q)])] (resRV []) := by
 refine scall_of (rs := []) Try.func65 rfl (Nat.le_of_ble_eq_true rfl) (borA_cons (BorL.cons (PV.bor_sl _) BorL.nil) (borA_cons (BorL.cons (PV.bor_val _) BorL.nil) (borA_cons (BorL.cons (PV.bor_clo _ _) BorL.nil) borA_nil))) ?_
 intro h0 w0 Fz0
 refine sw_len (s := 0) rfl fun hl0 => ?_
 try rw [List.length_map] at hl0
 refine sw_seq ?_
 refine sw_reg ?_
 refine rA ?_ (x := kA)
 refine sw_seq ?_
 refine sO [(0, _), (1, _), (2, _), (6, _)] [] ?_
 refine sw_reg ?_
 refine rA ?_ (x := sM)
 refine rA ?_ (x := kA)
 refine rA ?_ (x := sA)
 refine sw_seq ?_
 refine sw_block ?_
 refine sO [(0, _), (1, _), (2, _), (6, _), (7, _), (8, _)] [] ?_
 refine sw_loop (l0 := [(0, RV.sv false [PV.sl _ _]), (1, RV.sv false [PV.val _]), (2, RV.sv false [PV.clo _ _ _]), (6, RV.sv false [PV.val _])]) (b0 := []) (fun _u : Unit => True) (fun _u : Unit => [(7, RV.int 0), (8, RV.int 20)]) (fun _u : Unit => []) (fun _u : Unit => 0) () True.intro (by exact ⟨rfl, rfl, rfl, rfl, ⟨⟩⟩) (by exact ⟨⟩) (by exact And.intro (by exact rfl) (And.intro (by exact rfl) (True.intro))) (by exact ⟨⟩) ?_
 rintro _u _
 refine sw_seq ?_
 refine sw_seq ?_
 refine sw_reg ?_
 refine rA ?_ (x := sM)
 refine rA ?_ (x := sM)
 refine rA ?_ (x := B_leq)
 refine sw_cond (t := 13) rfl (fun hb1 => ?_) (fun hb1 => ?_)
 ·try simp only [q1, q2, q3, q4, q5, q6, q7, q8, q9] at hb1
  omega
 ·try simp only [q1, q2, q3, q4, q5, q6, q7, q8, q9] at hb1
  refine sw_exit ?_
  refine sw_seq ?_
  refine sO [(0, _), (1, _), (2, _), (6, _), (7, _), (8, _)] [] ?_
  refine sw_reg ?_
  refine rA ?_ (x := vM false [PV.sl .v _])
  refine rA ?_ (x := sM)
  refine rA ?_ (x := sM)
  refine rA ?_ (x := loc_copy (r' := RV.sv false [PV.clo _ _ _]) (.inl rfl) (by decide) (by exact Cp.sv (ToL.cons (PV.To.refl _) ToL.nil) (BorL.cons (PV.bor_clo _ _) BorL.nil)))
  refine rA ?_ (x := cL [(false, [PV.sl _ _]), (false, [PV.val _]), (false, [PV.val _]), (false, [PV.clo _ _ _])] [(false, [PV.sl .v _]), (false, [PV.val _]), (false, [PV.val _]), (false, [PV.clo _ _ _])] FStEA_c_72 (hs := by exact (insE_Annotated hx rfl (by omega))))
  refine sw_block ?_
  refine sO [(0, _), (1, _), (2, _), (6, _), (7, _), (8, _)] [] ?_
  refine sw_loop (l0 := [(0, RV.sv false [PV.sl _ _]), (1, RV.sv false [PV.val _]), (2, RV.sv false [PV.clo _ _ _])]) (b0 := []) (fun _u : Unit => True) (fun _u : Unit => [(6, RV.int 20)]) (fun _u : Unit => []) (fun _u : Unit => 0) () True.intro (by exact ⟨rfl, rfl, rfl, ⟨⟩⟩) (by exact ⟨⟩) (by exact And.intro (by exact rfl) (True.intro)) (by exact ⟨⟩) ?_
  rintro _u _
  refine sw_seq ?_
  refine sw_seq ?_
  refine sw_reg ?_
  refine rA ?_ (x := sM)
  refine rA ?_ (x := sM)
  refine rA ?_ (x := B_lss)
  refine sw_cond (t := 30) rfl (fun hb2 => ?_) (fun hb2 => ?_)
  ·try simp only [q1, q2, q3, q4, q5, q6, q7, q8, q9] at hb2
   omega
  ·try simp only [q1, q2, q3, q4, q5, q6, q7, q8, q9] at hb2
   refine sw_exit ?_
   exact True.intro
theorem sstE_Annotated {q : OkA × OkA → Int} {p1 p2 : Fl} {x : List Annotated}  (hx : x = []) : SCall Try.prog 48 [(false, [PV.sl .v (x.map (cAnnotated p1 p2))]), (false, [PV.clo Try.prog (as2 (fun x : OkA => (true, [PV.val (vI x.1.Row.Id), PV.sl .v (x.1.Row.Values.map cInt), PV.sl .v (x.1.Set.map cInt)]))) (rsI q)])] (resRV []) := by
 refine scall_of (rs := []) Try.func48 rfl (Nat.le_of_ble_eq_true rfl) (borA_cons (BorL.cons (PV.bor_sl _) BorL.nil) (borA_cons (BorL.cons (PV.bor_clo _ _) BorL.nil) borA_nil)) ?_
 intro h0 w0 Fz0
 refine sw_len (s := 0) rfl fun hl0 => ?_
 try rw [List.length_map] at hl0
 refine sw_reg ?_
 refine rA ?_ (x := vM false [PV.sl .v _])
 refine rA ?_ (x := vM false [PV.sl .v _])
 refine rA ?_ (x := lN FStEA_sl_24)
 refine rA ?_ (x := loc_copy (r' := RV.sv false [PV.clo _ _ _]) (.inl rfl) (by decide) (by exact Cp.sv (ToL.cons (PV.To.refl _) ToL.nil) (BorL.cons (PV.bor_clo _ _) BorL.nil)))
 refine rA ?_ (x := cL [(false, [PV.sl _ _]), (false, [PV.val _]), (false, [PV.clo _ _ _])] [(false, [PV.sl .v _]), (false, [PV.val _]), (false, [PV.clo _ _ _])] FStEA_c_65 (hs := by exact (stbE_Annotated hx (by rw [hx]; rfl))))
 exact True.intro
theorem impl_SortByField_nil {p1 p2 : Fl} {l : List Annotated} {f : Int}  (hE0 : l = []) (hb : wtAnnotatedS l ≤ 68719476736) : SCall Try.prog 21 [(false, [PV.sl .v (l.map (cAnnotated p1 p2))]), (false, [PV.val (vI f)])] (resRV [(false, [PV.sl (.own 35 3) ((sortF l f).map (cAnnotated (.own 3 1) (.own 3 1)))])]) := by
 refine scall_of (rs := [(false, [PV.sl (.own 35 3) ((sortF l f).map (cAnnotated (.own 3 1) (.own 3 1)))])]) Try.func21 rfl (Nat.le_of_ble_eq_true rfl) (borA_cons (BorL.cons (PV.bor_sl _) BorL.nil) (borA_cons (BorL.cons (PV.bor_val _) BorL.nil) borA_nil)) ?_
 intro h0 w0 Fz0
 refine sw_len (s := 0) rfl fun hl0 => ?_
 try rw [List.length_map] at hl0
 have hbl : l.length ≤ wtAnnotatedS l := Nat.le_add_right _ _
 have hbu := hb
 simp only [wtAnnotatedS] at hbu
 have hE1 : l.length = 0 := by rw [hE0]; rfl
 refine sw_seq ?_
 refine sw_reg ?_
 refine RunS.step (by exact ⟨rfl, ⟨⟩⟩) (by exact ⟨⟩) (LocG.of rfl (loc_box (ag := false) (cs := [PV.val _]) (by decide) (by exact ⟨⟩))) (free1 (Free.of_ rfl)) ?_
 refine rA ?_ (x := loc_const (.inr rfl) (by decide) (ok_nil (t := 35) (e := 3)))
 refine sw_seq ?_
 refine sO [(0, _), (3, _), (4, _)] [(3, (3, [PV.val _]))] ?_
 refine sw_reg ?_
 refine rA ?_ (x := loc_bslice (qs := []) (by decide) FStEA_sl_24 FStEA_z_35 (by decide) rfl rfl rfl rfl rfl (by exact Nat.le_of_ble_eq_true rfl) (by exact ⟨⟩) rfl)
 refine rA ?_ (x := tA)
 refine sw_seq ?_
 refine sw_seq ?_
 refine sO [(0, _), (3, _), (4, _), (5, _)] [(3, _)] ?_
 refine sw_reg ?_
 refine rA ?_ (x := vM false [PV.sl .v _])
 refine rA ?_ (x := lD [PV.val _] FStEA_ty_3)
 refine rA ?_ (x := cL [(false, [PV.sl _ _]), (false, [PV.val _])] [(false, [PV.sl .v _]), (false, [PV.val _])] FStEA_c_28 (hs := by exact impl_annotatedOk))
 refine rA ?_ (x := nT)
 refine sw_cond (t := 12) rfl (fun hb1 => ?_) (fun hb1 => ?_)
 ·try simp only [q1, q2, q3, q4, q5, q6, q7, q8, q9] at hb1
  have hok : annOk l f = false := by simpa using hb1
  refine sw_seq ?_
  refine sO [(0, _), (3, _), (4, _), (5, _)] [(3, _)] ?_
  refine sw_reg ?_
  refine rA ?_ (x := tM)
  refine rA ?_ (x := tA)
  refine sw_ret ?_
  exact (And.intro (by refine slc_eq ?_; first | (simp [hE0, sortF_nil]; done) | (rw [hE0, sortF_nil]; rfl)) True.intro)
 ·try simp only [q1, q2, q3, q4, q5, q6, q7, q8, q9] at hb1
  have hok : annOk l f = true := by simpa using hb1
  have hf := annOk_f hok
  refine sw_skip ?_
  refine sw_seq ?_
  refine sw_seq ?_
  refine sO [(0, _), (3, _), (4, _), (5, _)] [(3, _)] ?_
  refine sw_reg ?_
  refine rA ?_ (x := vM false [PV.sl .v _])
  refine rA ?_ (x := lN FStEA_sl_24)
  refine rA ?_ (x := kM)
  refine sw_block ?_
  refine sO [(0, _), (3, _), (4, _), (5, _), (14, _), (15, _), (16, _)] [(3, _)] ?_
  refine sw_loop (l0 := [(0, RV.sv false [PV.sl _ _]), (3, RV.ptr 3 0), (4, RV.sv false [PV.sl _ _]), (14, RV.sv false [PV.sl _ _]), (15, RV.sv false [PV.val _])]) (b0 := [(3, (3, [PV.val _]))]) (fun k : Nat => k ≤ l.length) (fun k : Nat => [(5, RV.slc (.own 35 3) ((l.take k).map (cAnnotated (.own 3 1) (.own 3 1)))), (16, RV.int (k : Int))]) (fun k : Nat => []) (fun k : Nat => l.length - k) 0 (by omega) (by exact ⟨rfl, rfl, rfl, rfl, rfl, ⟨⟩⟩) (by exact ⟨rfl, ⟨⟩⟩) (by exact And.intro (by first | exact rfl | simp) (And.intro (by exact rfl) (True.intro))) (by exact ⟨⟩) ?_
  rintro k hk
  refine sw_seq ?_
  refine sw_reg ?_
  refine rA ?_ (x := B_lss)
  refine sw_seq ?_
  refine sw_cond (t := 17) rfl (fun hb2 => ?_) (fun hb2 => ?_)
  ·try simp only [q1, q2, q3, q4, q5, q6, q7, q8, q9] at hb2
   omega
  ·try simp only [q1, q2, q3, q4, q5, q6, q7, q8, q9] at hb2
   refine sw_exit ?_
   refine sw_seq ?_
   refine sO [(0, _), (3, _), (4, _), (5, _), (14, _), (15, _), (16, _)] [(3, (3, [PV.val _]))] ?_
   refine sw_frzB (s := 3) (b := 3) (by exact rfl) (by exact rfl) ?_
   refine sO [(0, _), (3, _), (4, _), (5, _), (14, _), (15, _), (16, _)] [] ?_
   refine sw_reg ?_
   refine rA ?_ (x := vM false [PV.sl .v _])
   refine rA ?_ (x := loc_mkfn (asf := (as2 (fun x : OkA => (true, [PV.val (vI x.1.Row.Id), PV.sl .v (x.1.Row.Values.map cInt), PV.sl .v (x.1.Set.map cInt)])))) (rf := (rsI (qA f))) (qs := [(false, [PV.ep [PV.val _]])]) (caps := [(false, [PV.ep [PV.val _]])]) (by decide) FStEA_c_49 (by exact (And.intro (by exact ⟨⟩) True.intro)) (by exact (And.intro (And.intro rfl (ToL.cons (PV.To.refl _) ToL.nil)) True.intro)) (fun x => by exact (impl_SortByField_1 x.1.2 x.2.2 hf)))
   refine rA ?_ (x := cL [(false, [PV.sl _ _]), (false, [PV.clo _ _ _])] [(false, [PV.sl .v _]), (false, [PV.clo _ _ _])] FStEA_c_48 (hs := by exact (sstE_Annotated (x := l.take k) (by rw [hE0, List.take_nil]))))
   refine sw_seq ?_
   refine sO [(0, _), (3, _), (4, _), (5, _), (14, _), (15, _), (16, _)] [] ?_
   refine sw_reg ?_
   refine rA ?_ (x := tM)
   refine rA ?_ (x := tA)
   refine sw_ret ?_
   exact (And.intro (by refine slc_eq ?_; first | (simp [hE0, sortF_nil]; done) | (rw [hE0, sortF_nil]; rfl)) True.intro)
end Go.Proofs.Ytaomckpfgmhapaa
