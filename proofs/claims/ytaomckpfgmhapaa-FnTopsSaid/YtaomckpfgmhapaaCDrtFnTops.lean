/- What functions of the program compute. No condition. -/
import Derived.Test.YtaomckpfgmhapaaCDrqFnTops
import Derived.Test.YtaomckpfgmhapaaCDr
import Derived.Test.YtaomckpfgmhapaaCTopFnTops
import Derived.KernelRfl
set_option linter.unusedVariables false
set_option linter.unusedSimpArgs false
namespace Go.Proofs.Ytaomckpfgmhapaa
open Go Go.RowKit M
set_option maxRecDepth 10000
attribute [local irreducible] PV.Lcl PV.LclR RV.Lcl
attribute [local irreducible] belowC byteC
theorem FDrt_c_18 : callI Try.prog 18 = true := by kernel_rfl
theorem FDrt_c_39 : callI Try.prog 39 = true := by kernel_rfl
theorem FDrt_c_40 : callI Try.prog 40 = true := by kernel_rfl
theorem FDrt_c_41 : callI Try.prog 41 = true := by kernel_rfl
theorem FDrt_c_53 : callI Try.prog 53 = true := by kernel_rfl
theorem FDrt_c_54 : callI Try.prog 54 = true := by kernel_rfl
theorem FDrt_c_55 : callI Try.prog 55 = true := by kernel_rfl
theorem FDrt_c_57 : callI Try.prog 57 = true := by kernel_rfl
theorem FDrt_c_58 : callI Try.prog 58 = true := by kernel_rfl
theorem FDrt_sl_31 : sliceI Try.prog 31 = some (3, 1, 8) := by kernel_rfl
theorem FDrt_sl_43 : sliceI Try.prog 43 = some (51, 2, 32) := by kernel_rfl
theorem FDrt_z_3 : zeroI Try.prog 3 = some (.int .i64 0) := by kernel_rfl
theorem FDrt_z_51 : zeroI Try.prog 51 = some (.agg #[.int .i64 0, .slice none 0 0]) := by kernel_rfl
theorem spec_l14Draw {code : List Int}  (hb : code.length ≤ 9223372036854775807) (hb2 : code.length ≤ 4611686018427387904) : SCall Try.prog 39 [(false, [PV.sl .v (code.map cU8)])] (resRV [(false, [PV.np 88 (cCur .v (d14G (curNew code hb)).2)]), (false, [PV.sl (.own 35 3) ((any13C (curNew code hb)).1.map (cAnnotated (.own 3 1) (.own 3 1)))]), (false, [PV.val (vI (d14C (curNew code hb)).1)]), (false, [PV.val (vI (d14G (curNew code hb)).1)])]) := by
 refine scall_of (rs := [(false, [PV.np 88 (cCur .v (d14G (curNew code hb)).2)]), (false, [PV.sl (.own 35 3) ((any13C (curNew code hb)).1.map (cAnnotated (.own 3 1) (.own 3 1)))]), (false, [PV.val (vI (d14C (curNew code hb)).1)]), (false, [PV.val (vI (d14G (curNew code hb)).1)])]) Try.func39 rfl (Nat.le_of_ble_eq_true rfl) (borA_cons (BorL.cons (PV.bor_sl _) BorL.nil) borA_nil) ?_
 intro h0 w0 Fz0
 refine sw_len (s := 0) rfl fun hl0 => ?_
 try rw [List.length_map] at hl0
 refine sw_seq ?_
 refine sw_reg ?_
 refine rA ?_ (x := kA)
 refine rA ?_ (x := loc_const (.inr rfl) (by decide) (ok_nil (t := 35) (e := 3)))
 refine rA ?_ (x := kA)
 refine rA ?_ (x := kA)
 refine sw_seq ?_
 refine sO [(0, _), (2, _), (3, _), (4, _), (5, _)] [] ?_
 refine sw_reg ?_
 refine rA ?_ (x := vM false [PV.sl .v _])
 refine RunS.step (by exact ⟨rfl, ⟨⟩⟩) (by exact ⟨⟩) (LocG.of rfl (loc_ncall (qs := [(false, [PV.sl _ _])]) (as_ := [(false, [PV.sl .v _])]) (by decide) FDrt_c_53 (by exact (And.intro (by exact ⟨⟩) True.intro)) (by exact (And.intro (And.intro rfl (ToL.cons PV.to_none ToL.nil)) True.intro)) (by exact (n_l1New hb hb2)))) (free1 (Free.app (Free.of_ rfl) rfl)) ?_
 refine rA ?_ (x := cA Cp.ptr)
 refine sw_seq ?_
 refine sO [(0, _), (2, _), (3, _), (4, _), (5, _), (6, _)] [(10, (88, [PV.sl _ _, PV.val _, PV.val _]))] ?_
 refine sw_reg ?_
 refine rA ?_ (x := cM Cp.ptr)
 refine rA ?_ (x := loc_xcall0 (bx := 10) (qs := []) (as_ := []) (by decide) FDrt_c_57 rfl (by exact ⟨⟩) (by exact ⟨⟩) (by exact (BorL.cons (PV.bor_sl _) (BorL.cons (PV.bor_val _) (BorL.cons (PV.bor_val _) BorL.nil)))) (by exact borA_nil) (by exact x_l13Any))
 refine rA ?_ (x := tA)
 refine sw_seq ?_
 refine sO [(0, _), (2, _), (3, _), (4, _), (5, _), (6, _), (7, _)] [(10, _)] ?_
 refine sw_reg ?_
 refine rA ?_ (x := cM Cp.ptr)
 refine rA ?_ (x := loc_xcall0 (bx := 10) (qs := [(false, [PV.val _])]) (as_ := [(false, [PV.val _])]) (by decide) FDrt_c_58 rfl (by exact (And.intro (ok_sc rfl) True.intro)) (by exact (And.intro (And.intro rfl (ToL.cons (PV.To.refl _) ToL.nil)) True.intro)) (by exact (BorL.cons (PV.bor_sl _) (BorL.cons (PV.bor_val _) (BorL.cons (PV.bor_val _) BorL.nil)))) (by exact (borA_cons (BorL.cons (PV.bor_val _) BorL.nil) borA_nil)) (by exact (x_l1Below (fun es => PV.bor_sl es) (by omega))))
 refine rA ?_ (x := sA)
 refine sw_seq ?_
 refine sw_seq ?_
 refine sO [(0, _), (2, _), (3, _), (4, _), (5, _), (6, _), (7, _), (8, _)] [(10, _)] ?_
 refine sw_reg ?_
 refine rA ?_ (x := cM Cp.ptr)
 refine rA ?_ (x := loc_xcall0 (bx := 10) (qs := [(false, [PV.val _])]) (as_ := [(false, [PV.val _])]) (by decide) FDrt_c_55 rfl (by exact (And.intro (ok_sc rfl) True.intro)) (by exact (And.intro (And.intro rfl (ToL.cons (PV.To.refl _) ToL.nil)) True.intro)) (by exact (BorL.cons (PV.bor_sl _) (BorL.cons (PV.bor_val _) (BorL.cons (PV.bor_val _) BorL.nil)))) (by exact (borA_cons (BorL.cons (PV.bor_val _) BorL.nil) borA_nil)) (by exact (x_l1Once (fun es => PV.bor_sl es) (by omega))))
 refine sw_cond (t := 16) rfl (fun hb1 => ?_) (fun hb1 => ?_)
 ·try simp only [q1, q2, q3, q4, q5, q6, q7, q8, q9] at hb1
  have hr := d14C_0 (c := (curNew code hb)) (by simpa using hb1)
  refine sO [(0, _), (2, _), (3, _), (4, _), (5, _), (6, _), (7, _), (8, _)] [(10, _)] ?_
  refine sw_reg ?_
  refine rA ?_ (x := cM Cp.ptr)
  refine rA ?_ (x := loc_bslice (qs := [(false, [PV.val _]), (false, [PV.val _])]) (by decide) FDrt_sl_31 FDrt_z_3 (by decide) rfl rfl rfl rfl rfl (by exact Nat.le_of_ble_eq_true rfl) (by exact (And.intro (ok_sc rfl) (And.intro (ok_sc rfl) True.intro))) rfl)
  refine rA ?_ (x := loc_xcall0 (bx := 10) (qs := [(false, [PV.sl _ _])]) (as_ := [(false, [PV.sl .v _])]) (by decide) FDrt_c_41 rfl (by exact (And.intro (by exact ⟨⟩) True.intro)) (by exact (And.intro (And.intro rfl (ToL.cons PV.to_none ToL.nil)) True.intro)) (by exact (BorL.cons (PV.bor_sl _) (BorL.cons (PV.bor_val _) (BorL.cons (PV.bor_val _) BorL.nil)))) (by exact (borA_cons (BorL.cons (PV.bor_sl _) BorL.nil) borA_nil)) (by exact (x_l1PickInt (l := [-1, 3]) (fun es => PV.bor_sl es) (by decide) (by decide))))
  refine rA ?_ (x := sA)
  refine sw_seq ?_
  refine sO [(0, _), (2, _), (3, _), (4, _), (5, _), (6, _), (7, _), (8, _)] [(10, _)] ?_
  refine sw_reg ?_
  refine rA ?_ (x := cM Cp.ptr)
  refine rA ?_ (x := tM)
  refine rA ?_ (x := sM)
  refine rA ?_ (x := cM Cp.ptr)
  refine rA ?_ (x := loc_xcall0 (bx := 10) (qs := [(false, [PV.val _])]) (as_ := [(false, [PV.val _])]) (by decide) FDrt_c_58 rfl (by exact (And.intro (ok_sc rfl) True.intro)) (by exact (And.intro (And.intro rfl (ToL.cons (PV.To.refl _) ToL.nil)) True.intro)) (by exact (BorL.cons (PV.bor_sl _) (BorL.cons (PV.bor_val _) (BorL.cons (PV.bor_val _) BorL.nil)))) (by exact (borA_cons (BorL.cons (PV.bor_val _) BorL.nil) borA_nil)) (by exact (x_l1Below (fun es => PV.bor_sl es) (by omega))))
  refine rA ?_ (x := cA Cp.ptr)
  refine rA ?_ (x := tA)
  refine rA ?_ (x := sA)
  refine rA ?_ (x := sA)
  refine sO [(0, _), (2, _), (3, _), (4, _), (5, _), (6, _), (8, _)] [(10, _)] ?_
  refine sw_abs (s := 2) (D := 10) (by exact rfl) (by exact rfl) (by decide) ?_
  refine sw_ret ?_
  exact (And.intro (by refine sv_eq ?_; unfold d14G; rw [hr]; try rfl) (And.intro (by exact rfl) (And.intro (by refine int_eq ?_; rw [hr]; try rfl) (And.intro (by refine int_eq ?_; unfold d14G; rw [hr]; try rfl) True.intro))))
 ·try simp only [q1, q2, q3, q4, q5, q6, q7, q8, q9] at hb1
  have hr := d14C_1 (c := (curNew code hb)) (by simpa using hb1)
  refine sw_skip ?_
  refine sw_seq ?_
  refine sO [(0, _), (2, _), (3, _), (4, _), (5, _), (6, _), (7, _), (8, _)] [(10, _)] ?_
  refine sw_reg ?_
  refine rA ?_ (x := cM Cp.ptr)
  refine rA ?_ (x := tM)
  refine rA ?_ (x := sM)
  refine rA ?_ (x := cM Cp.ptr)
  refine rA ?_ (x := loc_xcall0 (bx := 10) (qs := [(false, [PV.val _])]) (as_ := [(false, [PV.val _])]) (by decide) FDrt_c_58 rfl (by exact (And.intro (ok_sc rfl) True.intro)) (by exact (And.intro (And.intro rfl (ToL.cons (PV.To.refl _) ToL.nil)) True.intro)) (by exact (BorL.cons (PV.bor_sl _) (BorL.cons (PV.bor_val _) (BorL.cons (PV.bor_val _) BorL.nil)))) (by exact (borA_cons (BorL.cons (PV.bor_val _) BorL.nil) borA_nil)) (by exact (x_l1Below (fun es => PV.bor_sl es) (by omega))))
  refine rA ?_ (x := cA Cp.ptr)
  refine rA ?_ (x := tA)
  refine rA ?_ (x := sA)
  refine rA ?_ (x := sA)
  refine sO [(0, _), (2, _), (3, _), (4, _), (5, _), (6, _), (8, _)] [(10, _)] ?_
  refine sw_abs (s := 2) (D := 10) (by exact rfl) (by exact rfl) (by decide) ?_
  refine sw_ret ?_
  exact (And.intro (by refine sv_eq ?_; unfold d14G; rw [hr]; try rfl) (And.intro (by exact rfl) (And.intro (by refine int_eq ?_; rw [hr]; try rfl) (And.intro (by refine int_eq ?_; unfold d14G; rw [hr]; try rfl) True.intro))))
theorem spec_DrawTopShared {code : List Int}  (hb : code.length ≤ 9223372036854775807) (hb2 : code.length ≤ 4611686018427387904) : SCall Try.prog 16 [(false, [PV.sl .v (code.map cU8)])] (resRV [(false, [PV.sl (.own 35 3) ((drTop code hb).1.map (cAnnotated (.own 3 1) (.own 3 1)))]), (false, [PV.sl (.own 3 1) ((drTop code hb).2.1.map cInt)]), (false, [PV.val (vI (drTop code hb).2.2.1)]), (false, [PV.val (vI (drTop code hb).2.2.2)])]) := by
 refine scall_of (rs := [(false, [PV.sl (.own 35 3) ((drTop code hb).1.map (cAnnotated (.own 3 1) (.own 3 1)))]), (false, [PV.sl (.own 3 1) ((drTop code hb).2.1.map cInt)]), (false, [PV.val (vI (drTop code hb).2.2.1)]), (false, [PV.val (vI (drTop code hb).2.2.2)])]) Try.func16 rfl (Nat.le_of_ble_eq_true rfl) (borA_cons (BorL.cons (PV.bor_sl _) BorL.nil) borA_nil) ?_
 intro h0 w0 Fz0
 refine sw_len (s := 0) rfl fun hl0 => ?_
 try rw [List.length_map] at hl0
 have hsl := anySetC_len (d14G (curNew code hb)).2
 refine sw_seq ?_
 refine sw_reg ?_
 refine rA ?_ (x := loc_const (.inr rfl) (by decide) (ok_nil (t := 35) (e := 3)))
 refine rA ?_ (x := loc_const (.inr rfl) (by decide) (ok_nil (t := 3) (e := 1)))
 refine rA ?_ (x := kA)
 refine rA ?_ (x := kA)
 refine sw_seq ?_
 refine sO [(0, _), (2, _), (3, _), (4, _), (5, _)] [] ?_
 refine sw_reg ?_
 refine rA ?_ (x := vM false [PV.sl .v _])
 refine rA ?_ (x := cL [(false, [PV.sl _ _])] [(false, [PV.sl .v _])] FDrt_c_39 (hs := by exact (spec_l14Draw (by omega) (by omega))))
 refine rA ?_ (x := tM)
 refine rA ?_ (x := loc_extract (cs := [PV.np 88 _]) (qs := [PV.any]) (by decide) (by exact rfl) (by exact (ToL.cons PV.to_any ToL.nil)) (by exact (BorL.cons (PV.bor_any) BorL.nil)))
 refine rA ?_ (x := loc_extract (cs := [PV.sl _ _]) (qs := [PV.sl .v _]) (by decide) (by exact rfl) (by exact (ToL.cons PV.to_none ToL.nil)) (by exact (BorL.cons (PV.bor_sl _) BorL.nil)))
 refine rA ?_ (x := loc_extractb (cs := [PV.val _]) (by decide) (by exact rfl) (by exact (BorL.cons (PV.bor_val _) BorL.nil)))
 refine rA ?_ (x := loc_extractb (cs := [PV.val _]) (by decide) (by exact rfl) (by exact (BorL.cons (PV.bor_val _) BorL.nil)))
 refine rA ?_ (x := tA)
 refine rA ?_ (x := tA)
 refine rA ?_ (x := sA)
 refine rA ?_ (x := sA)
 refine sw_seq ?_
 refine sO [(0, _), (2, _), (3, _), (4, _), (5, _), (6, _), (7, _), (8, _), (9, _)] [] ?_
 refine sw_rel (s := 6) (D := 900) (by exact rfl) (by exact rfl) (by decide) (by exact Free.of_ rfl) ?_
 refine sO [(0, _), (2, _), (3, _), (4, _), (5, _), (6, _), (7, _), (8, _), (9, _)] [(900, (88, [PV.sl _ _, PV.val _, PV.val _]))] ?_
 refine sw_reg ?_
 refine rA ?_ (x := cM Cp.ptr)
 refine rA ?_ (x := loc_xcall0 (bx := 900) (qs := []) (as_ := []) (by decide) FDrt_c_40 rfl (by exact ⟨⟩) (by exact ⟨⟩) (by exact (BorL.cons (PV.bor_sl _) (BorL.cons (PV.bor_val _) (BorL.cons (PV.bor_val _) BorL.nil)))) (by exact borA_nil) (by exact (x_l2Any (fun es => PV.bor_sl es))))
 refine rA ?_ (x := tA)
 refine sw_seq ?_
 refine sO [(0, _), (2, _), (3, _), (4, _), (5, _), (6, _), (7, _), (8, _), (9, _), (10, _)] [(900, _)] ?_
 refine sw_reg ?_
 refine rA ?_ (x := tM)
 refine rA ?_ (x := tM)
 refine rA ?_ (x := sM)
 refine rA ?_ (x := cM Cp.ptr)
 refine rA ?_ (x := loc_bslice (qs := [(false, [PV.val _]), (false, [PV.val _]), (false, [PV.val _]), (false, [PV.val _]), (false, [PV.val _]), (false, [PV.val _])]) (by decide) FDrt_sl_31 FDrt_z_3 (by decide) rfl rfl rfl rfl rfl (by exact Nat.le_of_ble_eq_true rfl) (by exact (And.intro (ok_sc rfl) (And.intro (ok_sc rfl) (And.intro (ok_sc rfl) (And.intro (ok_sc rfl) (And.intro (ok_sc rfl) (And.intro (ok_sc rfl) True.intro))))))) rfl)
 refine rA ?_ (x := loc_xcall0 (bx := 900) (qs := [(false, [PV.sl _ _])]) (as_ := [(false, [PV.sl .v _])]) (by decide) FDrt_c_41 rfl (by exact (And.intro (by exact ⟨⟩) True.intro)) (by exact (And.intro (And.intro rfl (ToL.cons PV.to_none ToL.nil)) True.intro)) (by exact (BorL.cons (PV.bor_sl _) (BorL.cons (PV.bor_val _) (BorL.cons (PV.bor_val _) BorL.nil)))) (by exact (borA_cons (BorL.cons (PV.bor_sl _) BorL.nil) borA_nil)) (by exact (x_l1PickInt (l := [0, 1, 2, 3, 100, 101]) (fun es => PV.bor_sl es) (by decide) (by decide))))
 refine rA ?_ (x := tA)
 refine rA ?_ (x := tA)
 refine rA ?_ (x := sA)
 refine rA ?_ (x := sA)
 refine sw_ret ?_
 exact (And.intro (by exact rfl) (And.intro (by exact rfl) (And.intro (by exact rfl) (And.intro (by exact rfl) True.intro))))
theorem x_l15Routed {c : Cur}  : XCall Try.prog 54 88 (cCur .v c) (cCur .v (d15R c).2) [] (resRV [(false, [PV.sl (.own 51 2) ((d15R c).1.map (cRouted (.own 33 2) (.own 3 1)))])]) := by
 refine xcall_of (rs := [(false, [PV.sl (.own 51 2) ((d15R c).1.map (cRouted (.own 33 2) (.own 3 1)))])]) Try.func54 rfl (Nat.le_of_ble_eq_true rfl) (Nat.le_of_ble_eq_true rfl) ?_
 intro g_ h0 w0 Fz0
 have haw := any13C_wt c
 have hb3 := belowC_ge (belowC (any13C c).2 3).2 3
 have hb4 := belowC_lt (belowC (any13C c).2 3).2 (n := 3) (by decide)
 refine sw_seq ?_
 refine sw_reg ?_
 refine rA ?_ (x := loc_const (.inr rfl) (by decide) (ok_nil (t := 51) (e := 2)))
 refine sw_seq ?_
 refine sO [(0, _), (2, _), (5000, _)] [(0, (88, [PV.sl _ _, PV.val _, PV.val _]))] ?_
 refine sw_reg ?_
 refine rA ?_ (x := cM Cp.ptr)
 refine rA ?_ (x := loc_xcall0 (bx := 0) (qs := []) (as_ := []) (by decide) FDrt_c_57 rfl (by exact ⟨⟩) (by exact ⟨⟩) (by exact (BorL.cons (PV.bor_sl _) (BorL.cons (PV.bor_val _) (BorL.cons (PV.bor_val _) BorL.nil)))) (by exact borA_nil) (by exact x_l13Any))
 refine rA ?_ (x := tA)
 refine sw_seq ?_
 refine sO [(0, _), (2, _), (3, _), (5000, _)] [(0, _)] ?_
 refine sw_reg ?_
 refine rA ?_ (x := vM false [PV.sl .v _])
 refine rA ?_ (x := loc_bslice (qs := [(false, [PV.val _]), (false, [PV.val _]), (false, [PV.val _])]) (by decide) FDrt_sl_31 FDrt_z_3 (by decide) rfl rfl rfl rfl rfl (by exact Nat.le_of_ble_eq_true rfl) (by exact (And.intro (ok_sc rfl) (And.intro (ok_sc rfl) (And.intro (ok_sc rfl) True.intro)))) rfl)
 refine rA ?_ (x := cM Cp.ptr)
 refine rA ?_ (x := loc_xcall0 (bx := 0) (qs := [(false, [PV.val _])]) (as_ := [(false, [PV.val _])]) (by decide) FDrt_c_58 rfl (by exact (And.intro (ok_sc rfl) True.intro)) (by exact (And.intro (And.intro rfl (ToL.cons (PV.To.refl _) ToL.nil)) True.intro)) (by exact (BorL.cons (PV.bor_sl _) (BorL.cons (PV.bor_val _) (BorL.cons (PV.bor_val _) BorL.nil)))) (by exact (borA_cons (BorL.cons (PV.bor_val _) BorL.nil) borA_nil)) (by exact (x_l1Below (fun es => PV.bor_sl es) (by omega))))
 refine rA ?_ (x := cM Cp.ptr)
 refine rA ?_ (x := loc_xcall0 (bx := 0) (qs := [(false, [PV.val _])]) (as_ := [(false, [PV.val _])]) (by decide) FDrt_c_58 rfl (by exact (And.intro (ok_sc rfl) True.intro)) (by exact (And.intro (And.intro rfl (ToL.cons (PV.To.refl _) ToL.nil)) True.intro)) (by exact (BorL.cons (PV.bor_sl _) (BorL.cons (PV.bor_val _) (BorL.cons (PV.bor_val _) BorL.nil)))) (by exact (borA_cons (BorL.cons (PV.bor_val _) BorL.nil) borA_nil)) (by exact (x_l1Below (fun es => PV.bor_sl es) (by omega))))
 refine rA ?_ (x := B_add)
 refine rA ?_ (x := cL [(false, [PV.sl _ _]), (false, [PV.sl _ _]), (false, [PV.val _]), (false, [PV.val _])] [(false, [PV.sl .v _]), (false, [PV.sl .v _]), (false, [PV.val _]), (false, [PV.val _])] FDrt_c_18 (hs := by exact (spec_TopShared (l := (any13C c).1) (ids := [0, 1, 2]) (f := (belowC (any13C c).2 3).1) (c := 1 + (belowC (belowC (any13C c).2 3).2 3).1) (by omega) (by simp))))
 refine rA ?_ (x := tM)
 refine rA ?_ (x := loc_extract (cs := [PV.sl _ _]) (qs := [PV.sl .v _]) (by decide) (by exact rfl) (by exact (ToL.cons PV.to_none ToL.nil)) (by exact (BorL.cons (PV.bor_sl _) BorL.nil)))
 refine rA ?_ (x := loc_extractb (cs := [PV.val _]) (by decide) (by exact rfl) (by exact (BorL.cons (PV.bor_val _) BorL.nil)))
 refine rA ?_ (x := tA)
 refine rA ?_ (x := sA)
 refine sw_seq ?_
 refine sO [(0, _), (2, _), (3, _), (4, _), (5, _), (5000, _)] [(0, _)] ?_
 refine sw_reg ?_
 refine rA ?_ (x := tM)
 refine rA ?_ (x := tA)
 refine sw_ret ?_
 exact ⟨(by exact rfl), rfl, (And.intro (by exact rfl) True.intro)⟩
theorem spec_DrawEqualRouted {code : List Int}  (hb : code.length ≤ 9223372036854775807) (hb2 : code.length ≤ 4611686018427387904) : SCall Try.prog 25 [(false, [PV.sl .v (code.map cU8)])] (resRV [(false, [PV.sl .v ((drEqR code hb).1.map (cRouted .v .v))]), (false, [PV.sl .v ((drEqR code hb).2.map (cRouted .v .v))])]) := by
 refine scall_of (rs := [(false, [PV.sl .v ((drEqR code hb).1.map (cRouted .v .v))]), (false, [PV.sl .v ((drEqR code hb).2.map (cRouted .v .v))])]) Try.func25 rfl (Nat.le_of_ble_eq_true rfl) (borA_cons (BorL.cons (PV.bor_sl _) BorL.nil) borA_nil) ?_
 intro h0 w0 Fz0
 refine sw_len (s := 0) rfl fun hl0 => ?_
 try rw [List.length_map] at hl0
 have hrw := d15R_wt (curNew code hb)
 have hrl := d15R_rows (curNew code hb)
 refine sw_seq ?_
 refine sw_reg ?_
 refine rA ?_ (x := loc_const (.inr rfl) (by decide) (ok_nil (t := 51) (e := 2)))
 refine rA ?_ (x := loc_const (.inr rfl) (by decide) (ok_nil (t := 51) (e := 2)))
 refine sw_seq ?_
 refine sO [(0, _), (2, _), (3, _)] [] ?_
 refine sw_reg ?_
 refine rA ?_ (x := vM false [PV.sl .v _])
 refine RunS.step (by exact ⟨rfl, ⟨⟩⟩) (by exact ⟨⟩) (LocG.of rfl (loc_ncall (qs := [(false, [PV.sl _ _])]) (as_ := [(false, [PV.sl .v _])]) (by decide) FDrt_c_53 (by exact (And.intro (by exact ⟨⟩) True.intro)) (by exact (And.intro (And.intro rfl (ToL.cons PV.to_none ToL.nil)) True.intro)) (by exact (n_l1New hb hb2)))) (free1 (Free.app (Free.of_ rfl) rfl)) ?_
 refine rA ?_ (x := cA Cp.ptr)
 refine sw_seq ?_
 refine sO [(0, _), (2, _), (3, _), (4, _)] [(7, (88, [PV.sl _ _, PV.val _, PV.val _]))] ?_
 refine sw_reg ?_
 refine rA ?_ (x := cM Cp.ptr)
 refine rA ?_ (x := loc_xcall0 (bx := 7) (qs := []) (as_ := []) (by decide) FDrt_c_54 rfl (by exact ⟨⟩) (by exact ⟨⟩) (by exact (BorL.cons (PV.bor_sl _) (BorL.cons (PV.bor_val _) (BorL.cons (PV.bor_val _) BorL.nil)))) (by exact borA_nil) (by exact x_l15Routed))
 refine rA ?_ (x := tA)
 refine sw_seq ?_
 refine sw_seq ?_
 refine sO [(0, _), (2, _), (3, _), (4, _), (5, _)] [(7, _)] ?_
 refine sw_reg ?_
 refine rA ?_ (x := cM Cp.ptr)
 refine rA ?_ (x := loc_xcall0 (bx := 7) (qs := [(false, [PV.val _])]) (as_ := [(false, [PV.val _])]) (by decide) FDrt_c_55 rfl (by exact (And.intro (ok_sc rfl) True.intro)) (by exact (And.intro (And.intro rfl (ToL.cons (PV.To.refl _) ToL.nil)) True.intro)) (by exact (BorL.cons (PV.bor_sl _) (BorL.cons (PV.bor_val _) (BorL.cons (PV.bor_val _) BorL.nil)))) (by exact (borA_cons (BorL.cons (PV.bor_val _) BorL.nil) borA_nil)) (by exact (x_l1Once (fun es => PV.bor_sl es) (by omega))))
 refine sw_cond (t := 11) rfl (fun hb1 => ?_) (fun hb1 => ?_)
 ·try simp only [q1, q2, q3, q4, q5, q6, q7, q8, q9] at hb1
  have hr := d15B_0 (c := (curNew code hb)) (by simpa using hb1)
  refine sw_seq ?_
  refine sO [(0, _), (2, _), (3, _), (4, _), (5, _)] [(7, _)] ?_
  refine sw_weak (s := 5) [PV.sl .v (List.map (cRouted .v .v) (d15R (curNew code hb)).1)] (by exact rfl) (by exact (ToL.cons (PV.to_map (fun _ => (ToL.cons (PV.To.refl _) (ToL.cons (PV.to_map (fun _ => (ToL.cons (PV.To.refl _) (ToL.cons (PV.to_map (fun _ => (ToL.cons (PV.To.refl _) ToL.nil))) ToL.nil)))) ToL.nil)))) ToL.nil)) (by exact (BorL.cons (PV.bor_sl _) BorL.nil)) ?_
  refine sO [(0, _), (2, _), (3, _), (4, _), (5, _)] [(7, _)] ?_
  refine sw_reg ?_
  refine rA ?_ (x := vM false [PV.sl .v _])
  refine rA ?_ (x := loc_bslice (qs := []) (by decide) FDrt_sl_43 FDrt_z_51 (by decide) rfl rfl rfl rfl rfl (by exact Nat.le_of_ble_eq_true rfl) (by exact ⟨⟩) rfl)
  refine rA ?_ (x := vM false [PV.sl .v _])
  refine rA ?_ (x := loc_appendb (by decide) FDrt_sl_43 FDrt_z_51 rfl rfl (by decide) (by first | (intro cs hcs; obtain ⟨x, _, rfl⟩ := List.mem_map.1 hcs; exact rfl) | simp) (by first | (intro cs hcs; obtain ⟨x, _, rfl⟩ := List.mem_map.1 hcs; exact (BorL.cons (PV.bor_val _) (BorL.cons (PV.bor_sl _) BorL.nil))) | simp) (by simp only [List.length_map, List.length_append, List.length_cons, List.length_nil]; omega) (by simp only [List.length_map, List.length_append, List.length_cons, List.length_nil]; omega))
  refine rA ?_ (x := vA false [PV.sl .v _])
  refine rA ?_ (x := tA)
  refine sw_weak (s := 2) [PV.sl .v (List.map (cRouted .v .v) (d15R (curNew code hb)).1)] (by exact rfl) (by exact (ToL.cons (PV.to_map (fun _ => (ToL.cons (PV.To.refl _) (ToL.cons (PV.to_map (fun _ => (ToL.cons (PV.To.refl _) (ToL.cons (PV.to_map (fun _ => (ToL.cons (PV.To.refl _) ToL.nil))) ToL.nil)))) ToL.nil)))) ToL.nil)) (by exact (BorL.cons (PV.bor_sl _) BorL.nil)) ?_
  refine sw_weak (s := 3) [PV.sl .v (List.map (cRouted .v .v) (d15R (curNew code hb)).1)] (by exact rfl) (by exact (ToL.cons (PV.to_map (fun _ => (ToL.cons (PV.To.refl _) (ToL.cons (PV.to_map (fun _ => (ToL.cons (PV.To.refl _) (ToL.cons (PV.to_map (fun _ => (ToL.cons (PV.To.refl _) ToL.nil))) ToL.nil)))) ToL.nil)))) ToL.nil)) (by exact (BorL.cons (PV.bor_sl _) BorL.nil)) ?_
  refine sw_ret ?_
  exact (And.intro (by exact rfl) (And.intro (by refine slc_eq ?_; rw [show (drEqR code hb).2 = d15B (curNew code hb) from rfl, hr]; try rfl) True.intro))
 ·try simp only [q1, q2, q3, q4, q5, q6, q7, q8, q9] at hb1
  have hr := d15B_1 (c := (curNew code hb)) (by simpa using hb1)
  refine sw_skip ?_
  refine sw_seq ?_
  refine sO [(0, _), (2, _), (3, _), (4, _), (5, _)] [(7, _)] ?_
  refine sw_reg ?_
  refine rA ?_ (x := vM false [PV.sl .v _])
  refine rA ?_ (x := cM Cp.ptr)
  refine rA ?_ (x := loc_xcall0 (bx := 7) (qs := []) (as_ := []) (by decide) FDrt_c_54 rfl (by exact ⟨⟩) (by exact ⟨⟩) (by exact (BorL.cons (PV.bor_sl _) (BorL.cons (PV.bor_val _) (BorL.cons (PV.bor_val _) BorL.nil)))) (by exact borA_nil) (by exact x_l15Routed))
  refine rA ?_ (x := vA false [PV.sl .v _])
  refine rA ?_ (x := tA)
  refine sw_weak (s := 2) [PV.sl .v (List.map (cRouted .v .v) (d15R (curNew code hb)).1)] (by exact rfl) (by exact (ToL.cons (PV.to_map (fun _ => (ToL.cons (PV.To.refl _) (ToL.cons (PV.to_map (fun _ => (ToL.cons (PV.To.refl _) (ToL.cons (PV.to_map (fun _ => (ToL.cons (PV.To.refl _) ToL.nil))) ToL.nil)))) ToL.nil)))) ToL.nil)) (by exact (BorL.cons (PV.bor_sl _) BorL.nil)) ?_
  refine sw_weak (s := 3) [PV.sl .v (List.map (cRouted .v .v) (d15R (d15O (curNew code hb)).2).1)] (by exact rfl) (by exact (ToL.cons (PV.to_map (fun _ => (ToL.cons (PV.To.refl _) (ToL.cons (PV.to_map (fun _ => (ToL.cons (PV.To.refl _) (ToL.cons (PV.to_map (fun _ => (ToL.cons (PV.To.refl _) ToL.nil))) ToL.nil)))) ToL.nil)))) ToL.nil)) (by exact (BorL.cons (PV.bor_sl _) BorL.nil)) ?_
  refine sw_ret ?_
  exact (And.intro (by exact rfl) (And.intro (by refine slc_eq ?_; rw [show (drEqR code hb).2 = d15B (curNew code hb) from rfl, hr]; try rfl) True.intro))
end Go.Proofs.Ytaomckpfgmhapaa
