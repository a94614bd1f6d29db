/- What functions of the program compute. No condition. -/
import Derived.Test.YtaomckpfgmhapaaCDrwFnTops
import Derived.Test.YtaomckpfgmhapaaCDz
import Derived.KernelRfl
set_option linter.unusedVariables false
set_option linter.unusedSimpArgs false
namespace Go.Proofs.Ytaomckpfgmhapaa
open Go Go.RowKit M
set_option maxRecDepth 10000
attribute [local irreducible] PV.Lcl PV.LclR RV.Lcl
attribute [local irreducible] belowC byteC
theorem FDrz_c_41 : callI Try.prog 41 = true := by kernel_rfl
theorem FDrz_c_55 : callI Try.prog 55 = true := by kernel_rfl
theorem FDrz_c_58 : callI Try.prog 58 = true := by kernel_rfl
theorem FDrz_c_64 : callI Try.prog 64 = true := by kernel_rfl
theorem FDrz_c_80 : callI Try.prog 80 = true := by kernel_rfl
theorem FDrz_fd_108_2 : fieldI Try.prog 108 2 = some 2 := by kernel_rfl
theorem FDrz_fd_108_3 : fieldI Try.prog 108 3 = some 3 := by kernel_rfl
theorem FDrz_pl_108 : placesI Try.prog 108 = some [(0, 1), (1, 1), (2, 1), (3, 1)] := by kernel_rfl
theorem FDrz_pl_117 : placesI Try.prog 117 = some [(0, 1), (1, 1), (2, 1)] := by kernel_rfl
theorem FDrz_sl_106 : sliceI Try.prog 106 = some (117, 3, 24) := by kernel_rfl
theorem FDrz_sl_31 : sliceI Try.prog 31 = some (3, 1, 8) := by kernel_rfl
theorem FDrz_sl_90 : sliceI Try.prog 90 = some (108, 4, 64) := by kernel_rfl
theorem FDrz_ty_106 : tyI Try.prog 106 = some (false, 1) := by kernel_rfl
theorem FDrz_ty_108 : tyI Try.prog 108 = some (true, 4) := by kernel_rfl
theorem FDrz_ty_31 : tyI Try.prog 31 = some (false, 1) := by kernel_rfl
theorem FDrz_z_108 : zeroI Try.prog 108 = some (.agg #[.int .i64 0, .int .i64 0, .slice none 0 0, .slice none 0 0]) := by kernel_rfl
theorem FDrz_z_117 : zeroI Try.prog 117 = some (.agg #[.int .i64 0, .int .i64 0, .int .i64 0]) := by kernel_rfl
theorem FDrz_z_3 : zeroI Try.prog 3 = some (.int .i64 0) := by kernel_rfl
theorem FDrz_zo_108 {Fz : FzT} {w : World} : OwnL [PV.val (.int .i64 0), PV.val (.int .i64 0), PV.sl (.own 117 3) [], PV.sl (.own 3 1) []] Fz w (Value.cells (.agg #[.int .i64 0, .int .i64 0, .slice none 0 0, .slice none 0 0])).toList [] := zo_val rfl (zo_val rfl (zo_sl (zo_sl (zo_nil))))
theorem FDrz_zo_117 {Fz : FzT} {w : World} : OwnL [PV.val (.int .i64 0), PV.val (.int .i64 0), PV.val (.int .i64 0)] Fz w (Value.cells (.agg #[.int .i64 0, .int .i64 0, .int .i64 0])).toList [] := zo_val rfl (zo_val rfl (zo_val rfl (zo_nil)))
theorem x_l2Set {o : Fl} {c : Cur} (hbo : ∀ es, (PV.sl o es).Bor)  : XCall Try.prog 64 88 (cCur o c) (cCur o (setC c).2) [] (resRV [(false, [PV.sl (.own 3 1) ((setC c).1.map cInt)])]) := by
 refine xcall_of (rs := [(false, [PV.sl (.own 3 1) ((setC c).1.map cInt)])]) Try.func64 rfl (Nat.le_of_ble_eq_true rfl) (Nat.le_of_ble_eq_true rfl) ?_
 intro g_ h0 w0 Fz0
 have ha := belowC_ge c 3
 have ha2 := belowC_lt c (n := 3) (by decide)
 have hb1 := belowC_ge (belowC c 3).2 7
 have hb2 := belowC_lt (belowC c 3).2 (n := 7) (by decide)
 refine sw_seq ?_
 refine sw_reg ?_
 refine rA ?_ (x := loc_const (.inr rfl) (by decide) (ok_nil (t := 3) (e := 1)))
 refine sw_seq ?_
 refine sO [(0, _), (2, _), (5000, _)] [(0, (88, [PV.sl o _, PV.val _, PV.val _]))] ?_
 refine sw_reg ?_
 refine rA ?_ (x := loc_bslice (qs := []) (by decide) FDrz_sl_31 FDrz_z_3 (by decide) rfl rfl rfl rfl rfl (by exact Nat.le_of_ble_eq_true rfl) (by exact ⟨⟩) rfl)
 refine rA ?_ (x := tA)
 refine sw_seq ?_
 refine sO [(0, _), (2, _), (3, _), (5000, _)] [(0, _)] ?_
 refine sw_reg ?_
 refine rA ?_ (x := cM Cp.ptr)
 refine rA ?_ (x := loc_xcall0 (bx := 0) (qs := [(false, [PV.val _])]) (as_ := [(false, [PV.val _])]) (by decide) FDrz_c_58 rfl (by exact (And.intro (ok_sc rfl) True.intro)) (by exact (And.intro (And.intro rfl (ToL.cons (PV.To.refl _) ToL.nil)) True.intro)) (by exact (BorL.cons (hbo _) (BorL.cons (PV.bor_val _) (BorL.cons (PV.bor_val _) BorL.nil)))) (by exact (borA_cons (BorL.cons (PV.bor_val _) BorL.nil) borA_nil)) (by exact (x_l1Below hbo (by omega))))
 refine rA ?_ (x := sA)
 refine sw_seq ?_
 refine sw_seq ?_
 refine sO [(0, _), (2, _), (3, _), (4, _), (5000, _)] [(0, _)] ?_
 refine sw_reg ?_
 refine rA ?_ (x := cM Cp.ptr)
 refine rA ?_ (x := loc_xcall0 (bx := 0) (qs := [(false, [PV.val _])]) (as_ := [(false, [PV.val _])]) (by decide) FDrz_c_58 rfl (by exact (And.intro (ok_sc rfl) True.intro)) (by exact (And.intro (And.intro rfl (ToL.cons (PV.To.refl _) ToL.nil)) True.intro)) (by exact (BorL.cons (hbo _) (BorL.cons (PV.bor_val _) (BorL.cons (PV.bor_val _) BorL.nil)))) (by exact (borA_cons (BorL.cons (PV.bor_val _) BorL.nil) borA_nil)) (by exact (x_l1Below hbo (by omega))))
 refine rA ?_ (x := sA)
 refine sw_block ?_
 refine sO [(0, _), (2, _), (3, _), (4, _), (5, _), (5000, _)] [(0, _)] ?_
 refine sw_loop (l0 := [(0, RV.ptr 0 0), (2, RV.sv false [PV.sl _ _]), (5000, RV.phi 0 _)]) (b0 := []) (fun k : Nat => (k : Int) ≤ (belowC (belowC c 3).2 7).1) (fun k : Nat => [(3, RV.slc (.own 3 1) ((setTo (setS c) k).l.map cInt)), (4, RV.int (setTo (setS c) k).x), (5, RV.int ((belowC (belowC c 3).2 7).1 - (k : Int)))]) (fun k : Nat => [(0, (88, cCur o (setTo (setS c) k).c))]) (fun k : Nat => ((belowC (belowC c 3).2 7).1 - (k : Int)).toNat) 0 (by omega) (by exact ⟨rfl, rfl, rfl, ⟨⟩⟩) (by exact ⟨⟩) (by exact And.intro (by exact rfl) (And.intro (by exact rfl) (And.intro (by exact int_eq (by omega)) (True.intro)))) (by exact And.intro (by exact rfl) (True.intro)) ?_
 rintro k hk
 have hsl := setTo_len (s := setS c) k
 have hs0 : (setS c).l.length = 0 := rfl
 have hsx := setTo_x (s := setS c) (by show 0 ≤ (belowC c 3).1 ∧ (belowC c 3).1 ≤ 26; omega) k
 have hb3 := belowC_ge (setTo (setS c) k).c 3
 have hb4 := belowC_lt (setTo (setS c) k).c (n := 3) (by decide)
 have hb5 : (belowC (belowC (setTo (setS c) k).c 3).2 2).1 = 0 ∨ (belowC (belowC (setTo (setS c) k).c 3).2 2).1 = 1 := by have h1_ := belowC_ge (belowC (setTo (setS c) k).c 3).2 2; have h2_ := belowC_lt (belowC (setTo (setS c) k).c 3).2 (n := 2) (by decide); omega
 refine sw_seq ?_
 refine sw_seq ?_
 refine sw_reg ?_
 refine rA ?_ (x := sM)
 refine rA ?_ (x := B_gtr)
 refine rA ?_ (x := sM)
 refine RunS.cases (s := 13) rfl (fun g1 => ?_) (fun g1 => ?_)
 ·have sg1 := g1
  try simp only [q1, q2, q3, q4, q5, q6, q7, q8, q9] at sg1
  refine rB g1 ?_ (x := sM)
  refine rB g1 ?_ (x := B_lss)
  refine rA ?_ (x := pkT g1)
  refine sw_cond (t := 16) rfl (fun hb2 => ?_) (fun hb2 => ?_)
  ·try simp only [q1, q2, q3, q4, q5, q6, q7, q8, q9] at hb2
   have hlt : k < setN c := by unfold setN; omega
   have hx24 : (setTo (setS c) k).x < 24 := by first | omega | (simp_all; done)
   have hsn := setNext_yes hx24
   refine sw_skip ?_
   refine sw_seq ?_
   refine sw_block ?_
   refine sw_seq ?_
   refine sO [(0, _), (2, _), (3, _), (4, _), (5, _), (5000, _)] [(0, (88, [PV.sl o _, PV.val _, PV.val _]))] ?_
   refine sw_reg ?_
   refine rA ?_ (x := tM)
   refine rA ?_ (x := sM)
   refine rA ?_ (x := loc_bslice (qs := [(false, [PV.val _])]) (by decide) FDrz_sl_31 FDrz_z_3 (by decide) rfl rfl rfl rfl rfl (by exact Nat.le_of_ble_eq_true rfl) (by exact (And.intro (by exact ⟨⟩) True.intro)) rfl)
   refine rA ?_ (x := loc_append (by decide) FDrz_sl_31 FDrz_z_3 rfl rfl (by decide) rfl (by simp only [List.length_map, List.length_append, List.length_cons, List.length_nil]; omega) (by simp only [List.length_map, List.length_append, List.length_cons, List.length_nil]; omega))
   refine rA ?_ (x := tA)
   refine sO [(0, _), (2, _), (3, _), (4, _), (5, _), (5000, _)] [(0, _)] ?_
   refine sw_reg ?_
   refine rA ?_ (x := sM)
   refine rA ?_ (x := B_add)
   refine rA ?_ (x := cM Cp.ptr)
   refine rA ?_ (x := loc_xcall0 (bx := 0) (qs := [(false, [PV.val _])]) (as_ := [(false, [PV.val _])]) (by decide) FDrz_c_58 rfl (by exact (And.intro (ok_sc rfl) True.intro)) (by exact (And.intro (And.intro rfl (ToL.cons (PV.To.refl _) ToL.nil)) True.intro)) (by exact (BorL.cons (hbo _) (BorL.cons (PV.bor_val _) (BorL.cons (PV.bor_val _) BorL.nil)))) (by exact (borA_cons (BorL.cons (PV.bor_val _) BorL.nil) borA_nil)) (by exact (x_l1Below hbo (by omega))))
   refine rA ?_ (x := cM Cp.ptr)
   refine rA ?_ (x := loc_xcall0 (bx := 0) (qs := [(false, [PV.val _])]) (as_ := [(false, [PV.val _])]) (by decide) FDrz_c_58 rfl (by exact (And.intro (ok_sc rfl) True.intro)) (by exact (And.intro (And.intro rfl (ToL.cons (PV.To.refl _) ToL.nil)) True.intro)) (by exact (BorL.cons (hbo _) (BorL.cons (PV.bor_val _) (BorL.cons (PV.bor_val _) BorL.nil)))) (by exact (borA_cons (BorL.cons (PV.bor_val _) BorL.nil) borA_nil)) (by exact (x_l1Below hbo (by omega))))
   refine rA ?_ (x := loc_mul (by decide) (by exact ⟨⟩) (by exact ⟨⟩) (by rcases hb5 with hb5 | hb5 <;> rw [hb5] <;> unfold I64 <;> omega))
   refine rA ?_ (x := loc_add (by decide) (by exact ⟨⟩) (by exact ⟨⟩) (by rcases hb5 with hb5 | hb5 <;> rw [hb5] <;> unfold I64 <;> omega))
   refine rA ?_ (x := sA)
   refine sO [(0, _), (2, _), (3, _), (4, _), (5, _), (5000, _)] [(0, _)] ?_
   refine sw_reg ?_
   refine rA ?_ (x := sM)
   refine rA ?_ (x := B_sub)
   refine rA ?_ (x := sA)
   refine Exists.intro (k + 1) (And.intro (by omega) (And.intro (by omega) (And.intro (And.intro (by exact ⟨rfl, rfl, rfl, ⟨⟩⟩) (by exact ⟨⟩)) (And.intro (by exact And.intro (by exact slc_eq (by rw [setTo, hsn, List.map_append]; rfl)) (And.intro (by exact int_eq (by rw [setTo, hsn])) (And.intro (by exact int_eq (by omega)) (True.intro)))) (by exact And.intro (by rw [setTo, hsn]; rfl) (True.intro))))))
  ·try simp only [q1, q2, q3, q4, q5, q6, q7, q8, q9] at hb2
   have hfin : k = setN c ∨ ¬ (setTo (setS c) k).x < 24 := by first | (left; unfold setN; omega) | (right; first | omega | (simp_all; done) | (simp_all; omega))
   have hse := set_end (c := c) (by unfold setN; omega) hfin
   refine sw_exit ?_
   refine sw_seq ?_
   refine sO [(0, _), (2, _), (3, _), (4, _), (5, _), (5000, _)] [(0, (88, [PV.sl o _, PV.val _, PV.val _]))] ?_
   refine sw_reg ?_
   refine rA ?_ (x := tM)
   refine rA ?_ (x := tA)
   refine sw_ret ?_
   exact ⟨(by show _ = some (88, cCur o (setTo (setS c) (setN c)).c); rw [hse]; exact rfl), rfl, (And.intro (by refine slc_eq ?_; show _ = List.map _ (setTo _ _).l; rw [hse]) True.intro)⟩
 ·have sg1 := g1
  try simp only [q1, q2, q3, q4, q5, q6, q7, q8, q9] at sg1
  refine RunS.s0f g1 ?_
  refine RunS.s0f g1 ?_
  refine rA ?_ (x := pkF g1)
  refine sw_cond (t := 16) rfl (fun hb_ => nomatch hb_) (fun hb_ => ?_)
  have hfin : k = setN c ∨ ¬ (setTo (setS c) k).x < 24 := by first | (left; unfold setN; omega) | (right; first | omega | (simp_all; done) | (simp_all; omega))
  have hse := set_end (c := c) (by unfold setN; omega) hfin
  refine sw_exit ?_
  refine sw_seq ?_
  refine sO [(0, _), (2, _), (3, _), (4, _), (5, _), (5000, _)] [(0, (88, [PV.sl o _, PV.val _, PV.val _]))] ?_
  refine sw_reg ?_
  refine rA ?_ (x := tM)
  refine rA ?_ (x := tA)
  refine sw_ret ?_
  exact ⟨(by show _ = some (88, cCur o (setTo (setS c) (setN c)).c); rw [hse]; exact rfl), rfl, (And.intro (by refine slc_eq ?_; show _ = List.map _ (setTo _ _).l; rw [hse]) True.intro)⟩
theorem x_l2Any {o : Fl} {c : Cur} (hbo : ∀ es, (PV.sl o es).Bor)  : XCall Try.prog 40 88 (cCur o c) (cCur o (anySetC c).2) [] (resRV [(false, [PV.sl (.own 3 1) ((anySetC c).1.map cInt)])]) := by
 refine xcall_of (rs := [(false, [PV.sl (.own 3 1) ((anySetC c).1.map cInt)])]) Try.func40 rfl (Nat.le_of_ble_eq_true rfl) (Nat.le_of_ble_eq_true rfl) ?_
 intro g_ h0 w0 Fz0
 have hsl := setC_len c
 refine sw_seq ?_
 refine sw_reg ?_
 refine rA ?_ (x := loc_const (.inr rfl) (by decide) (ok_nil (t := 3) (e := 1)))
 refine sw_seq ?_
 refine sO [(0, _), (2, _), (5000, _)] [(0, (88, [PV.sl o _, PV.val _, PV.val _]))] ?_
 refine sw_reg ?_
 refine rA ?_ (x := cM Cp.ptr)
 refine rA ?_ (x := loc_xcall0 (bx := 0) (qs := []) (as_ := []) (by decide) FDrz_c_64 rfl (by exact ⟨⟩) (by exact ⟨⟩) (by exact (BorL.cons (hbo _) (BorL.cons (PV.bor_val _) (BorL.cons (PV.bor_val _) BorL.nil)))) (by exact borA_nil) (by exact (x_l2Set hbo)))
 refine rA ?_ (x := tA)
 refine sw_seq ?_
 refine sw_seq ?_
 refine sO [(0, _), (2, _), (3, _), (5000, _)] [(0, _)] ?_
 refine sw_reg ?_
 refine rA ?_ (x := cM Cp.ptr)
 refine rA ?_ (x := loc_xcall0 (bx := 0) (qs := [(false, [PV.val _])]) (as_ := [(false, [PV.val _])]) (by decide) FDrz_c_55 rfl (by exact (And.intro (ok_sc rfl) True.intro)) (by exact (And.intro (And.intro rfl (ToL.cons (PV.To.refl _) ToL.nil)) True.intro)) (by exact (BorL.cons (hbo _) (BorL.cons (PV.bor_val _) (BorL.cons (PV.bor_val _) BorL.nil)))) (by exact (borA_cons (BorL.cons (PV.bor_val _) BorL.nil) borA_nil)) (by exact (x_l1Once hbo (by omega))))
 refine sw_cond (t := 7) rfl (fun hb1 => ?_) (fun hb1 => ?_)
 ·try simp only [q1, q2, q3, q4, q5, q6, q7, q8, q9] at hb1
  have hr := anySet_0 (c := c) (by simpa using hb1)
  refine sO [(0, _), (2, _), (3, _), (5000, _)] [(0, _)] ?_
  refine sw_reg ?_
  refine rA ?_ (x := tM)
  refine rA ?_ (x := cM Cp.ptr)
  refine rA ?_ (x := loc_bslice (qs := [(false, [PV.val _]), (false, [PV.val _]), (false, [PV.val _]), (false, [PV.val _])]) (by decide) FDrz_sl_31 FDrz_z_3 (by decide) rfl rfl rfl rfl rfl (by exact Nat.le_of_ble_eq_true rfl) (by exact (And.intro (ok_sc rfl) (And.intro (ok_sc rfl) (And.intro (ok_sc rfl) (And.intro (ok_sc rfl) True.intro))))) rfl)
  refine rA ?_ (x := loc_xcall0 (bx := 0) (qs := [(false, [PV.sl _ _])]) (as_ := [(false, [PV.sl .v _])]) (by decide) FDrz_c_41 rfl (by exact (And.intro (by exact ⟨⟩) True.intro)) (by exact (And.intro (And.intro rfl (ToL.cons PV.to_none ToL.nil)) True.intro)) (by exact (BorL.cons (hbo _) (BorL.cons (PV.bor_val _) (BorL.cons (PV.bor_val _) BorL.nil)))) (by exact (borA_cons (BorL.cons (PV.bor_sl _) BorL.nil) borA_nil)) (by exact (x_l1PickInt (l := [-1, 0, 23, 24]) hbo (by decide) (by decide))))
  refine rA ?_ (x := loc_bslice (qs := [(false, [PV.val _])]) (by decide) FDrz_sl_31 FDrz_z_3 (by decide) rfl rfl rfl rfl rfl (by exact Nat.le_of_ble_eq_true rfl) (by exact (And.intro (by exact ⟨⟩) True.intro)) rfl)
  refine rA ?_ (x := loc_append (by decide) FDrz_sl_31 FDrz_z_3 rfl rfl (by decide) rfl (by simp only [List.length_map, List.length_append, List.length_cons, List.length_nil]; omega) (by simp only [List.length_map, List.length_append, List.length_cons, List.length_nil]; omega))
  refine rA ?_ (x := tA)
  refine sw_seq ?_
  refine sO [(0, _), (2, _), (3, _), (5000, _)] [(0, _)] ?_
  refine sw_reg ?_
  refine rA ?_ (x := tM)
  refine rA ?_ (x := tA)
  refine sw_ret ?_
  exact ⟨(by rw [hr]; exact rfl), rfl, (And.intro (by refine slc_eq ?_; rw [hr]; try first | exact rfl | (simp only [List.map_append]; exact rfl)) True.intro)⟩
 ·try simp only [q1, q2, q3, q4, q5, q6, q7, q8, q9] at hb1
  have hr := anySet_1 (c := c) (by simpa using hb1)
  refine sw_skip ?_
  refine sw_seq ?_
  refine sO [(0, _), (2, _), (3, _), (5000, _)] [(0, _)] ?_
  refine sw_reg ?_
  refine rA ?_ (x := tM)
  refine rA ?_ (x := tA)
  refine sw_ret ?_
  exact ⟨(by rw [hr]; exact rfl), rfl, (And.intro (by refine slc_eq ?_; rw [hr]; try first | exact rfl | (simp only [List.map_append]; exact rfl)) True.intro)⟩
theorem x_l4Query {o : Fl} {c : Cur} (hbo : ∀ es, (PV.sl o es).Bor) {id : Int}  : XCall Try.prog 80 88 (cCur o c) (cCur o (queC c id).2) [(false, [PV.val (vI id)])] (resRV [(true, [PV.val (vI (queC c id).1.Id), PV.val (vI (queC c id).1.Tenant), PV.sl (.own 117 3) ((queC c id).1.Conds.map cCond), PV.sl (.own 3 1) ((queC c id).1.Out.map cInt)])]) := by
 refine xcall_of (rs := [(true, [PV.val (vI (queC c id).1.Id), PV.val (vI (queC c id).1.Tenant), PV.sl (.own 117 3) ((queC c id).1.Conds.map cCond), PV.sl (.own 3 1) ((queC c id).1.Out.map cInt)])]) Try.func80 rfl (Nat.le_of_ble_eq_true rfl) (Nat.le_of_ble_eq_true rfl) ?_
 intro g_ h0 w0 Fz0
 have hp3 : 0 < (pickC (belowC c 4).2 [3, 6, 100]).1 ∧ (pickC (belowC c 4).2 [3, 6, 100]).1 ≤ 100 := by have h_ := pickC_mem (belowC c 4).2 (l := [3, 6, 100]) (by decide); simp at h_; show 0 < (pickC _ _).1 ∧ (pickC _ _).1 ≤ 100; omega
 have hb1 := belowC_ge (queS c).c 3
 have hb2 := belowC_lt (queS c).c (n := 3) (by decide)
 refine sw_seq ?_
 refine sw_reg ?_
 refine RunS.step (by exact ⟨⟩) (by exact ⟨⟩) (LocG.of rfl (loc_alloc (by decide) FDrz_z_108 FDrz_zo_108)) (free1 (Free.of_ rfl)) ?_
 refine sw_seq ?_
 refine sO [(0, _), (1, _), (4, _), (5000, _)] [(0, (88, [PV.sl o _, PV.val _, PV.val _])), (4, (108, [PV.val _, PV.val _, PV.sl _ _, PV.sl _ _]))] ?_
 refine sw_reg ?_
 refine rA ?_ (x := sM)
 refine rA ?_ (x := cM Cp.ptr)
 refine rA ?_ (x := loc_xcall0 (bx := 0) (qs := [(false, [PV.val _])]) (as_ := [(false, [PV.val _])]) (by decide) FDrz_c_58 rfl (by exact (And.intro (ok_sc rfl) True.intro)) (by exact (And.intro (And.intro rfl (ToL.cons (PV.To.refl _) ToL.nil)) True.intro)) (by exact (BorL.cons (hbo _) (BorL.cons (PV.bor_val _) (BorL.cons (PV.bor_val _) BorL.nil)))) (by exact (borA_cons (BorL.cons (PV.bor_val _) BorL.nil) borA_nil)) (by exact (x_l1Below hbo (by omega))))
 refine rA ?_ (x := loc_build (qs := [(false, [PV.val _]), (false, [PV.val _])]) (cs := [PV.val _, PV.val _, PV.sl _ _, PV.sl _ _]) (by decide) FDrz_z_108 FDrz_zo_108 FDrz_pl_108 (by exact rfl) (by exact (And.intro (by exact ⟨⟩) (And.intro (by exact ⟨⟩) True.intro))) rfl (by exact rfl))
 refine RunS.step (by exact ⟨⟩) (by exact ⟨⟩) (LocG.of rfl (loc_alloc (by decide) FDrz_z_108 FDrz_zo_108)) (free1 (Free.app (Free.app (Free.app (Free.app (Free.of_ rfl) rfl) rfl) rfl) rfl)) ?_
 refine rA ?_ (x := loc_store (ag := true) (vs := [PV.val _, PV.val _, PV.sl _ _, PV.sl _ _]) FDrz_ty_108 (by exact ⟨⟩) (by exact rfl) (by exact Nat.le_of_ble_eq_true rfl))
 refine sw_seq ?_
 refine sO [(0, _), (1, _), (4, _), (5, _), (5000, _)] [(0, _), (4, _), (5, (108, [PV.val _, PV.val _, PV.sl _ _, PV.sl _ _]))] ?_
 refine sw_reg ?_
 refine rA ?_ (x := cM Cp.ptr)
 refine rA ?_ (x := loc_bslice (qs := [(false, [PV.val _]), (false, [PV.val _]), (false, [PV.val _])]) (by decide) FDrz_sl_31 FDrz_z_3 (by decide) rfl rfl rfl rfl rfl (by exact Nat.le_of_ble_eq_true rfl) (by exact (And.intro (ok_sc rfl) (And.intro (ok_sc rfl) (And.intro (ok_sc rfl) True.intro)))) rfl)
 refine rA ?_ (x := loc_xcall0 (bx := 0) (qs := [(false, [PV.sl _ _])]) (as_ := [(false, [PV.sl .v _])]) (by decide) FDrz_c_41 rfl (by exact (And.intro (by exact ⟨⟩) True.intro)) (by exact (And.intro (And.intro rfl (ToL.cons PV.to_none ToL.nil)) True.intro)) (by exact (BorL.cons (hbo _) (BorL.cons (PV.bor_val _) (BorL.cons (PV.bor_val _) BorL.nil)))) (by exact (borA_cons (BorL.cons (PV.bor_sl _) BorL.nil) borA_nil)) (by exact (x_l1PickInt (l := [3, 6, 100]) hbo (by decide) (by decide))))
 refine rA ?_ (x := sA)
 refine sw_seq ?_
 refine sw_seq ?_
 refine sO [(0, _), (1, _), (4, _), (5, _), (6, _), (5000, _)] [(0, _), (4, _), (5, _)] ?_
 refine sw_reg ?_
 refine rA ?_ (x := kA)
 refine sw_block ?_
 refine sO [(0, _), (1, _), (4, _), (5, _), (6, _), (7, _), (5000, _)] [(0, _), (4, _), (5, _)] ?_
 refine sw_loop (l0 := [(0, RV.ptr 0 0), (1, RV.sv false [PV.val _]), (4, RV.ptr 4 0), (5, RV.ptr 5 0), (6, RV.sv false [PV.val _]), (5000, RV.phi 0 _)]) (b0 := [(4, (108, [PV.val _, PV.val _, PV.sl _ _, PV.sl _ _]))]) (fun k : Nat => k ≤ 3) (fun k : Nat => [(7, RV.int (k : Int))]) (fun k : Nat => [(0, (88, cCur o (consTo (pickC (belowC c 4).2 [3, 6, 100]).1 ⟨[], (pickC (belowC c 4).2 [3, 6, 100]).2⟩ k).c)), (5, (108, [PV.val (vI id), PV.val (vI (belowC c 4).1), PV.sl (.own 117 3) ((consTo (pickC (belowC c 4).2 [3, 6, 100]).1 ⟨[], (pickC (belowC c 4).2 [3, 6, 100]).2⟩ k).l.map cCond), PV.sl (.own 3 1) (([] : List Int).map cInt)]))]) (fun k : Nat => 3 - k) 0 (by omega) (by exact ⟨rfl, rfl, rfl, rfl, rfl, rfl, ⟨⟩⟩) (by exact ⟨rfl, ⟨⟩⟩) (by exact And.intro (by exact rfl) (True.intro)) (by exact And.intro (by exact rfl) (And.intro (by exact rfl) (True.intro))) ?_
 rintro k hk
 have hcl := consTo_len (w := (pickC (belowC c 4).2 [3, 6, 100]).1) (s := ⟨[], (pickC (belowC c 4).2 [3, 6, 100]).2⟩) k
 have hb3 := belowC_ge (belowC (consTo (pickC (belowC c 4).2 [3, 6, 100]).1 ⟨[], (pickC (belowC c 4).2 [3, 6, 100]).2⟩ k).c 2).2 (pickC (belowC c 4).2 [3, 6, 100]).1
 have hb4 := belowC_lt (belowC (consTo (pickC (belowC c 4).2 [3, 6, 100]).1 ⟨[], (pickC (belowC c 4).2 [3, 6, 100]).2⟩ k).c 2).2 (n := (pickC (belowC c 4).2 [3, 6, 100]).1) (by omega)
 have hb5 := belowC_ge (belowC (belowC (consTo (pickC (belowC c 4).2 [3, 6, 100]).1 ⟨[], (pickC (belowC c 4).2 [3, 6, 100]).2⟩ k).c 2).2 (pickC (belowC c 4).2 [3, 6, 100]).1).2 (pickC (belowC c 4).2 [3, 6, 100]).1
 have hb6 := belowC_lt (belowC (belowC (consTo (pickC (belowC c 4).2 [3, 6, 100]).1 ⟨[], (pickC (belowC c 4).2 [3, 6, 100]).2⟩ k).c 2).2 (pickC (belowC c 4).2 [3, 6, 100]).1).2 (n := (pickC (belowC c 4).2 [3, 6, 100]).1) (by omega)
 simp only [List.length_nil, Nat.zero_add] at hcl
 refine sw_seq ?_
 refine sw_seq ?_
 refine sw_reg ?_
 refine rA ?_ (x := sM)
 refine rA ?_ (x := B_lss)
 refine sw_cond (t := 20) rfl (fun hb1 => ?_) (fun hb1 => ?_)
 ·try simp only [q1, q2, q3, q4, q5, q6, q7, q8, q9] at hb1
  have hlt : k < 3 := by omega
  refine sw_skip ?_
  refine sw_seq ?_
  refine sw_block ?_
  refine sw_seq ?_
  refine sO [(0, _), (1, _), (4, _), (5, _), (6, _), (7, _), (5000, _)] [(0, (88, [PV.sl o _, PV.val _, PV.val _])), (4, (108, [PV.val _, PV.val _, PV.sl _ _, PV.sl _ _])), (5, (108, [PV.val _, PV.val _, PV.sl _ _, PV.sl _ _]))] ?_
  refine sw_reg ?_
  refine rA ?_ (x := cM Cp.ptr)
  refine rA ?_ (x := loc_xcall0 (bx := 0) (qs := [(false, [PV.val _])]) (as_ := [(false, [PV.val _])]) (by decide) FDrz_c_55 rfl (by exact (And.intro (ok_sc rfl) True.intro)) (by exact (And.intro (And.intro rfl (ToL.cons (PV.To.refl _) ToL.nil)) True.intro)) (by exact (BorL.cons (hbo _) (BorL.cons (PV.bor_val _) (BorL.cons (PV.bor_val _) BorL.nil)))) (by exact (borA_cons (BorL.cons (PV.bor_val _) BorL.nil) borA_nil)) (by exact (x_l1Once hbo (by omega))))
  refine sw_cond (t := 24) rfl (fun hb2 => ?_) (fun hb2 => ?_)
  ·try simp only [q1, q2, q3, q4, q5, q6, q7, q8, q9] at hb2
   have h1_ : (belowC (consTo (pickC (belowC c 4).2 [3, 6, 100]).1 ⟨[], (pickC (belowC c 4).2 [3, 6, 100]).2⟩ k).c 2).1 = 0 := by simpa using hb2
   refine sw_seq ?_
   refine sO [(0, _), (1, _), (4, _), (5, _), (6, _), (7, _), (5000, _)] [(0, _), (4, _), (5, _)] ?_
   refine sw_reg ?_
   refine rA ?_ (x := cM Cp.ptr)
   refine rA ?_ (x := sM)
   refine rA ?_ (x := loc_xcall0 (bx := 0) (qs := [(false, [PV.val _])]) (as_ := [(false, [PV.val _])]) (by decide) FDrz_c_58 rfl (by exact (And.intro (by exact ⟨⟩) True.intro)) (by exact (And.intro (And.intro rfl (ToL.cons (PV.To.refl _) ToL.nil)) True.intro)) (by exact (BorL.cons (hbo _) (BorL.cons (PV.bor_val _) (BorL.cons (PV.bor_val _) BorL.nil)))) (by exact (borA_cons (BorL.cons (PV.bor_val _) BorL.nil) borA_nil)) (by exact (x_l1Below hbo (by omega))))
   refine rA ?_ (x := sA)
   refine sw_seq ?_
   refine sO [(0, _), (1, _), (4, _), (5, _), (6, _), (7, _), (8, _), (5000, _)] [(0, _), (4, _), (5, _)] ?_
   refine sw_reg ?_
   refine rA ?_ (x := sM)
   refine rA ?_ (x := cM Cp.ptr)
   refine rA ?_ (x := sM)
   refine rA ?_ (x := loc_xcall0 (bx := 0) (qs := [(false, [PV.val _])]) (as_ := [(false, [PV.val _])]) (by decide) FDrz_c_58 rfl (by exact (And.intro (by exact ⟨⟩) True.intro)) (by exact (And.intro (And.intro rfl (ToL.cons (PV.To.refl _) ToL.nil)) True.intro)) (by exact (BorL.cons (hbo _) (BorL.cons (PV.bor_val _) (BorL.cons (PV.bor_val _) BorL.nil)))) (by exact (borA_cons (BorL.cons (PV.bor_val _) BorL.nil) borA_nil)) (by exact (x_l1Below hbo (by omega))))
   refine rA ?_ (x := B_add)
   refine rA ?_ (x := loc_min (by decide) (ok_sc rfl) (by exact ⟨⟩))
   refine rA ?_ (x := sA)
   refine sw_seq ?_
   refine sw_seq ?_
   refine sO [(0, _), (1, _), (4, _), (5, _), (6, _), (7, _), (8, _), (9, _), (5000, _)] [(0, _), (4, _), (5, _)] ?_
   refine sw_reg ?_
   refine rA ?_ (x := cM Cp.ptr)
   refine rA ?_ (x := loc_xcall0 (bx := 0) (qs := [(false, [PV.val _])]) (as_ := [(false, [PV.val _])]) (by decide) FDrz_c_55 rfl (by exact (And.intro (ok_sc rfl) True.intro)) (by exact (And.intro (And.intro rfl (ToL.cons (PV.To.refl _) ToL.nil)) True.intro)) (by exact (BorL.cons (hbo _) (BorL.cons (PV.bor_val _) (BorL.cons (PV.bor_val _) BorL.nil)))) (by exact (borA_cons (BorL.cons (PV.bor_val _) BorL.nil) borA_nil)) (by exact (x_l1Once hbo (by omega))))
   refine sw_cond (t := 35) rfl (fun hb3 => ?_) (fun hb3 => ?_)
   ·try simp only [q1, q2, q3, q4, q5, q6, q7, q8, q9] at hb3
    have hcn := conNext_a (w := (pickC (belowC c 4).2 [3, 6, 100]).1) (f := (k : Int)) (s := (consTo (pickC (belowC c 4).2 [3, 6, 100]).1 ⟨[], (pickC (belowC c 4).2 [3, 6, 100]).2⟩ k)) h1_ (by simpa using hb3)
    refine sO [(0, _), (1, _), (4, _), (5, _), (6, _), (7, _), (8, _), (9, _), (5000, _)] [(0, _), (4, _), (5, _)] ?_
    refine sw_reg ?_
    refine rA ?_ (x := sM)
    refine rA ?_ (x := sA)
    refine sO [(0, _), (1, _), (4, _), (5, _), (6, _), (7, _), (8, _), (9, _), (5000, _)] [(0, _), (4, _), (5, _)] ?_
    refine sw_reg ?_
    refine rA ?_ (x := lF FDrz_fd_108_2)
    refine rA ?_ (x := loc_ltake (ms := [PV.sl _ _]) (qs := [PV.sl .v _]) (by decide) FDrz_ty_106 (fun _ => rfl) (by exact Nat.le_of_ble_eq_true rfl) (by exact rfl) (by exact (ToL.cons PV.to_none ToL.nil)) (by exact (BorL.cons (PV.bor_sl _) BorL.nil)))
    refine rA ?_ (x := sM)
    refine rA ?_ (x := sM)
    refine rA ?_ (x := sM)
    refine rA ?_ (x := loc_build (qs := [(false, [PV.val _]), (false, [PV.val _]), (false, [PV.val _])]) (cs := [PV.val _, PV.val _, PV.val _]) (by decide) FDrz_z_117 FDrz_zo_117 FDrz_pl_117 (by exact rfl) (by exact (And.intro (by exact ⟨⟩) (And.intro (by exact ⟨⟩) (And.intro (by exact ⟨⟩) True.intro)))) rfl (by exact rfl))
    refine rA ?_ (x := loc_bslice (qs := [(true, [PV.val _, PV.val _, PV.val _])]) (by decide) FDrz_sl_106 FDrz_z_117 (by decide) rfl rfl rfl rfl rfl (by exact Nat.le_of_ble_eq_true rfl) (by exact (And.intro (by exact ⟨⟩) True.intro)) rfl)
    refine rA ?_ (x := loc_append (by decide) FDrz_sl_106 FDrz_z_117 rfl rfl (by decide) rfl (by simp only [List.length_map, List.length_append, List.length_cons, List.length_nil]; omega) (by simp only [List.length_map, List.length_append, List.length_cons, List.length_nil]; omega))
    refine rA ?_ (x := lF FDrz_fd_108_2)
    refine rA ?_ (x := loc_store (ag := false) (vs := [PV.sl _ _]) FDrz_ty_106 (by exact ⟨⟩) (by exact rfl) (by exact Nat.le_of_ble_eq_true rfl))
    refine sO [(0, _), (1, _), (4, _), (5, _), (6, _), (7, _), (8, _), (9, _), (5000, _)] [(0, _), (4, _), (5, (108, [PV.val _, PV.val _, PV.sl _ _, PV.sl _ _]))] ?_
    refine sw_reg ?_
    refine rA ?_ (x := sM)
    refine rA ?_ (x := B_add)
    refine rA ?_ (x := sA)
    refine Exists.intro (k + 1) (And.intro (by omega) (And.intro (by omega) (And.intro (And.intro (by exact ⟨rfl, rfl, rfl, rfl, rfl, rfl, ⟨⟩⟩) (by exact ⟨rfl, ⟨⟩⟩)) (And.intro (by exact And.intro (by exact int_eq (by omega)) (True.intro)) (by exact And.intro (by rw [consTo, hcn]; rfl) (And.intro (by rw [consTo, hcn]; try first | exact rfl | (simp only [List.map_append]; exact rfl)) (True.intro)))))))
   ·try simp only [q1, q2, q3, q4, q5, q6, q7, q8, q9] at hb3
    have hcn := conNext_b (w := (pickC (belowC c 4).2 [3, 6, 100]).1) (f := (k : Int)) (s := (consTo (pickC (belowC c 4).2 [3, 6, 100]).1 ⟨[], (pickC (belowC c 4).2 [3, 6, 100]).2⟩ k)) h1_ (by simpa using hb3)
    refine sw_skip ?_
    refine sO [(0, _), (1, _), (4, _), (5, _), (6, _), (7, _), (8, _), (9, _), (5000, _)] [(0, _), (4, _), (5, _)] ?_
    refine sw_reg ?_
    refine rA ?_ (x := lF FDrz_fd_108_2)
    refine rA ?_ (x := loc_ltake (ms := [PV.sl _ _]) (qs := [PV.sl .v _]) (by decide) FDrz_ty_106 (fun _ => rfl) (by exact Nat.le_of_ble_eq_true rfl) (by exact rfl) (by exact (ToL.cons PV.to_none ToL.nil)) (by exact (BorL.cons (PV.bor_sl _) BorL.nil)))
    refine rA ?_ (x := sM)
    refine rA ?_ (x := sM)
    refine rA ?_ (x := sM)
    refine rA ?_ (x := loc_build (qs := [(false, [PV.val _]), (false, [PV.val _]), (false, [PV.val _])]) (cs := [PV.val _, PV.val _, PV.val _]) (by decide) FDrz_z_117 FDrz_zo_117 FDrz_pl_117 (by exact rfl) (by exact (And.intro (by exact ⟨⟩) (And.intro (by exact ⟨⟩) (And.intro (by exact ⟨⟩) True.intro)))) rfl (by exact rfl))
    refine rA ?_ (x := loc_bslice (qs := [(true, [PV.val _, PV.val _, PV.val _])]) (by decide) FDrz_sl_106 FDrz_z_117 (by decide) rfl rfl rfl rfl rfl (by exact Nat.le_of_ble_eq_true rfl) (by exact (And.intro (by exact ⟨⟩) True.intro)) rfl)
    refine rA ?_ (x := loc_append (by decide) FDrz_sl_106 FDrz_z_117 rfl rfl (by decide) rfl (by simp only [List.length_map, List.length_append, List.length_cons, List.length_nil]; omega) (by simp only [List.length_map, List.length_append, List.length_cons, List.length_nil]; omega))
    refine rA ?_ (x := lF FDrz_fd_108_2)
    refine rA ?_ (x := loc_store (ag := false) (vs := [PV.sl _ _]) FDrz_ty_106 (by exact ⟨⟩) (by exact rfl) (by exact Nat.le_of_ble_eq_true rfl))
    refine sO [(0, _), (1, _), (4, _), (5, _), (6, _), (7, _), (8, _), (9, _), (5000, _)] [(0, _), (4, _), (5, (108, [PV.val _, PV.val _, PV.sl _ _, PV.sl _ _]))] ?_
    refine sw_reg ?_
    refine rA ?_ (x := sM)
    refine rA ?_ (x := B_add)
    refine rA ?_ (x := sA)
    refine Exists.intro (k + 1) (And.intro (by omega) (And.intro (by omega) (And.intro (And.intro (by exact ⟨rfl, rfl, rfl, rfl, rfl, rfl, ⟨⟩⟩) (by exact ⟨rfl, ⟨⟩⟩)) (And.intro (by exact And.intro (by exact int_eq (by omega)) (True.intro)) (by exact And.intro (by rw [consTo, hcn]; rfl) (And.intro (by rw [consTo, hcn]; try first | exact rfl | (simp only [List.map_append]; exact rfl)) (True.intro)))))))
  ·try simp only [q1, q2, q3, q4, q5, q6, q7, q8, q9] at hb2
   have hcn := conNext_c (w := (pickC (belowC c 4).2 [3, 6, 100]).1) (f := (k : Int)) (s := (consTo (pickC (belowC c 4).2 [3, 6, 100]).1 ⟨[], (pickC (belowC c 4).2 [3, 6, 100]).2⟩ k)) (by simpa using hb2)
   refine sw_skip ?_
   refine sO [(0, _), (1, _), (4, _), (5, _), (6, _), (7, _), (5000, _)] [(0, _), (4, _), (5, _)] ?_
   refine sw_reg ?_
   refine rA ?_ (x := sM)
   refine rA ?_ (x := B_add)
   refine rA ?_ (x := sA)
   refine Exists.intro (k + 1) (And.intro (by omega) (And.intro (by omega) (And.intro (And.intro (by exact ⟨rfl, rfl, rfl, rfl, rfl, rfl, ⟨⟩⟩) (by exact ⟨rfl, ⟨⟩⟩)) (And.intro (by exact And.intro (by exact int_eq (by omega)) (True.intro)) (by exact And.intro (by rw [consTo, hcn]; rfl) (And.intro (by rw [consTo, hcn]; try first | exact rfl | (simp only [List.map_append]; exact rfl)) (True.intro)))))))
 ·try simp only [q1, q2, q3, q4, q5, q6, q7, q8, q9] at hb1
  have hend : k = 3 := by omega
  have hq : queS c = (consTo (pickC (belowC c 4).2 [3, 6, 100]).1 ⟨[], (pickC (belowC c 4).2 [3, 6, 100]).2⟩ k) := by rw [hend]; rfl
  have hqn := queN_le c
  have hqb : belowC (consTo (pickC (belowC c 4).2 [3, 6, 100]).1 ⟨[], (pickC (belowC c 4).2 [3, 6, 100]).2⟩ k).c 3 = queN c := by rw [← hq]; rfl
  have hqe : (belowC (consTo (pickC (belowC c 4).2 [3, 6, 100]).1 ⟨[], (pickC (belowC c 4).2 [3, 6, 100]).2⟩ k).c 3).1 = (queN c).1 := by rw [hqb]
  refine sw_exit ?_
  refine sw_seq ?_
  refine sw_seq ?_
  refine sO [(0, _), (1, _), (4, _), (5, _), (6, _), (7, _), (5000, _)] [(0, (88, [PV.sl o _, PV.val _, PV.val _])), (4, (108, [PV.val _, PV.val _, PV.sl _ _, PV.sl _ _])), (5, (108, [PV.val _, PV.val _, PV.sl _ _, PV.sl _ _]))] ?_
  refine sw_reg ?_
  refine rA ?_ (x := cM Cp.ptr)
  refine rA ?_ (x := loc_xcall0 (bx := 0) (qs := [(false, [PV.val _])]) (as_ := [(false, [PV.val _])]) (by decide) FDrz_c_58 rfl (by exact (And.intro (ok_sc rfl) True.intro)) (by exact (And.intro (And.intro rfl (ToL.cons (PV.To.refl _) ToL.nil)) True.intro)) (by exact (BorL.cons (hbo _) (BorL.cons (PV.bor_val _) (BorL.cons (PV.bor_val _) BorL.nil)))) (by exact (borA_cons (BorL.cons (PV.bor_val _) BorL.nil) borA_nil)) (by exact (x_l1Below hbo (by omega))))
  refine rA ?_ (x := B_add)
  refine rA ?_ (x := sA)
  refine sw_block ?_
  refine sO [(0, _), (1, _), (4, _), (5, _), (6, _), (7, _), (10, _), (5000, _)] [(0, _), (4, _), (5, _)] ?_
  refine sw_loop (l0 := [(0, RV.ptr 0 0), (1, RV.sv false [PV.val _]), (4, RV.ptr 4 0), (5, RV.ptr 5 0), (6, RV.sv false [PV.val _]), (7, RV.sv false [PV.val _]), (5000, RV.phi 0 _)]) (b0 := [(4, (108, [PV.val _, PV.val _, PV.sl _ _, PV.sl _ _]))]) (fun k2 : Nat => (k2 : Int) ≤ 1 + (queN c).1) (fun k2 : Nat => [(10, RV.int (1 + (queN c).1 - (k2 : Int)))]) (fun k2 : Nat => [(0, (88, cCur o (valsC 3 (queN c).2 k2).2)), (5, (108, [PV.val (vI id), PV.val (vI (belowC c 4).1), PV.sl (.own 117 3) ((queS c).l.map cCond), PV.sl (.own 3 1) ((valsC 3 (queN c).2 k2).1.map cInt)]))]) (fun k2 : Nat => (1 + (queN c).1 - (k2 : Int)).toNat) 0 (by omega) (by exact ⟨rfl, rfl, rfl, rfl, rfl, rfl, rfl, ⟨⟩⟩) (by exact ⟨rfl, ⟨⟩⟩) (by exact And.intro (by exact int_eq (by omega)) (True.intro)) (by exact And.intro (by show _ = some (88, cCur o (queN c).2); rw [← hqb]; rfl) (And.intro (by rw [hq]; exact rfl) (True.intro))) ?_
  rintro k2 hk2
  have hvl : ((valsC 3 (queN c).2 k2).1).length = k2 := valsC_len
  refine sw_seq ?_
  refine sw_seq ?_
  refine sw_reg ?_
  refine rA ?_ (x := sM)
  refine rA ?_ (x := B_gtr)
  refine sw_cond (t := 50) rfl (fun hb4 => ?_) (fun hb4 => ?_)
  ·try simp only [q1, q2, q3, q4, q5, q6, q7, q8, q9] at hb4
   have hlt2 : (k2 : Int) < 1 + (queN c).1 := by omega
   refine sw_skip ?_
   refine sw_seq ?_
   refine sw_block ?_
   refine sw_seq ?_
   refine sO [(0, _), (1, _), (4, _), (5, _), (6, _), (7, _), (10, _), (5000, _)] [(0, (88, [PV.sl o _, PV.val _, PV.val _])), (4, (108, [PV.val _, PV.val _, PV.sl _ _, PV.sl _ _])), (5, (108, [PV.val _, PV.val _, PV.sl _ _, PV.sl _ _]))] ?_
   refine sw_reg ?_
   refine rA ?_ (x := cM Cp.ptr)
   refine rA ?_ (x := loc_xcall0 (bx := 0) (qs := [(false, [PV.val _])]) (as_ := [(false, [PV.val _])]) (by decide) FDrz_c_58 rfl (by exact (And.intro (ok_sc rfl) True.intro)) (by exact (And.intro (And.intro rfl (ToL.cons (PV.To.refl _) ToL.nil)) True.intro)) (by exact (BorL.cons (hbo _) (BorL.cons (PV.bor_val _) (BorL.cons (PV.bor_val _) BorL.nil)))) (by exact (borA_cons (BorL.cons (PV.bor_val _) BorL.nil) borA_nil)) (by exact (x_l1Below hbo (by omega))))
   refine rA ?_ (x := sA)
   refine sO [(0, _), (1, _), (4, _), (5, _), (6, _), (7, _), (10, _), (11, _), (5000, _)] [(0, _), (4, _), (5, _)] ?_
   refine sw_reg ?_
   refine rA ?_ (x := lF FDrz_fd_108_3)
   refine rA ?_ (x := loc_ltake (ms := [PV.sl _ _]) (qs := [PV.sl .v _]) (by decide) FDrz_ty_31 (fun _ => rfl) (by exact Nat.le_of_ble_eq_true rfl) (by exact rfl) (by exact (ToL.cons PV.to_none ToL.nil)) (by exact (BorL.cons (PV.bor_sl _) BorL.nil)))
   refine rA ?_ (x := sM)
   refine rA ?_ (x := loc_bslice (qs := [(false, [PV.val _])]) (by decide) FDrz_sl_31 FDrz_z_3 (by decide) rfl rfl rfl rfl rfl (by exact Nat.le_of_ble_eq_true rfl) (by exact (And.intro (by exact ⟨⟩) True.intro)) rfl)
   refine rA ?_ (x := loc_append (by decide) FDrz_sl_31 FDrz_z_3 rfl rfl (by decide) rfl (by simp only [List.length_map, List.length_append, List.length_cons, List.length_nil]; omega) (by simp only [List.length_map, List.length_append, List.length_cons, List.length_nil]; omega))
   refine rA ?_ (x := lF FDrz_fd_108_3)
   refine rA ?_ (x := loc_store (ag := false) (vs := [PV.sl _ _]) FDrz_ty_31 (by exact ⟨⟩) (by exact rfl) (by exact Nat.le_of_ble_eq_true rfl))
   refine sO [(0, _), (1, _), (4, _), (5, _), (6, _), (7, _), (10, _), (11, _), (5000, _)] [(0, _), (4, _), (5, (108, [PV.val _, PV.val _, PV.sl _ _, PV.sl _ _]))] ?_
   refine sw_reg ?_
   refine rA ?_ (x := sM)
   refine rA ?_ (x := B_sub)
   refine rA ?_ (x := sA)
   refine Exists.intro (k2 + 1) (And.intro (by omega) (And.intro (by omega) (And.intro (And.intro (by exact ⟨rfl, rfl, rfl, rfl, rfl, rfl, rfl, ⟨⟩⟩) (by exact ⟨rfl, ⟨⟩⟩)) (And.intro (by exact And.intro (by exact int_eq (by omega)) (True.intro)) (by exact And.intro (by exact rfl) (And.intro (by simp only [valsC, List.map_append]; exact rfl) (True.intro)))))))
  ·try simp only [q1, q2, q3, q4, q5, q6, q7, q8, q9] at hb4
   have hend2 : (1 + (queN c).1).toNat = k2 := by omega
   refine sw_exit ?_
   refine sw_seq ?_
   refine sO [(0, _), (1, _), (4, _), (5, _), (6, _), (7, _), (10, _), (5000, _)] [(0, (88, [PV.sl o _, PV.val _, PV.val _])), (4, (108, [PV.val _, PV.val _, PV.sl _ _, PV.sl _ _])), (5, (108, [PV.val _, PV.val _, PV.sl _ _, PV.sl _ _]))] ?_
   refine sw_reg ?_
   refine rA ?_ (x := loc_ltake (ms := [PV.val _, PV.val _, PV.sl _ _, PV.sl _ _]) (qs := [PV.val _, PV.val _, PV.sl .v _, PV.sl .v _]) (by decide) FDrz_ty_108 (fun h => nomatch h) (by exact Nat.le_of_ble_eq_true rfl) (by exact rfl) (by exact (ToL.cons (PV.To.refl _) (ToL.cons (PV.To.refl _) (ToL.cons PV.to_none (ToL.cons PV.to_none ToL.nil))))) (by exact (BorL.cons (PV.bor_val _) (BorL.cons (PV.bor_val _) (BorL.cons (PV.bor_sl _) (BorL.cons (PV.bor_sl _) BorL.nil))))))
   refine rA ?_ (x := loc_store (ag := true) (vs := [PV.val _, PV.val _, PV.sl _ _, PV.sl _ _]) FDrz_ty_108 (by exact ⟨⟩) (by exact rfl) (by exact Nat.le_of_ble_eq_true rfl))
   refine sw_ret ?_
   exact ⟨(by unfold queC queO; rw [hend2]; exact rfl), rfl, (Exists.intro 4 (Exists.intro _ (And.intro (by exact rfl) (And.intro (by refine box_eq ?_; unfold queC queO; rw [hend2]; exact rfl) (And.intro FDrz_ty_108 (And.intro (fun h => nomatch h) True.intro))))))⟩
theorem x_l4Queries {o : Fl} {c : Cur} (hbo : ∀ es, (PV.sl o es).Bor) {most : Int}  (hm : 0 ≤ most ∧ most ≤ 200) : XCall Try.prog 74 88 (cCur o c) (cCur o (quesC c most).2) [(false, [PV.val (vI most)])] (resRV [(false, [PV.sl (.own 108 4) ((quesC c most).1.map (cQuery (.own 117 3) (.own 3 1)))])]) := by
 refine xcall_of (rs := [(false, [PV.sl (.own 108 4) ((quesC c most).1.map (cQuery (.own 117 3) (.own 3 1)))])]) Try.func74 rfl (Nat.le_of_ble_eq_true rfl) (Nat.le_of_ble_eq_true rfl) ?_
 intro g_ h0 w0 Fz0
 have ha := belowC_ge c 2
 have ha2 := belowC_lt c (n := 2) (by decide)
 have hb1 := belowC_ge (belowC c 2).2 (most + 1)
 have hb2 := belowC_lt (belowC c 2).2 (n := most + 1) (by omega)
 refine sw_seq ?_
 refine sw_reg ?_
 refine rA ?_ (x := loc_const (.inr rfl) (by decide) (ok_nil (t := 108) (e := 4)))
 refine sw_seq ?_
 refine sO [(0, _), (1, _), (4, _), (5000, _)] [(0, (88, [PV.sl o _, PV.val _, PV.val _]))] ?_
 refine sw_reg ?_
 refine rA ?_ (x := loc_bslice (qs := []) (by decide) FDrz_sl_90 FDrz_z_108 (by decide) rfl rfl rfl rfl rfl (by exact Nat.le_of_ble_eq_true rfl) (by exact ⟨⟩) rfl)
 refine rA ?_ (x := tA)
 refine sw_seq ?_
 refine sO [(0, _), (1, _), (4, _), (5, _), (5000, _)] [(0, _)] ?_
 refine sw_reg ?_
 refine rA ?_ (x := cM Cp.ptr)
 refine rA ?_ (x := loc_xcall0 (bx := 0) (qs := [(false, [PV.val _])]) (as_ := [(false, [PV.val _])]) (by decide) FDrz_c_58 rfl (by exact (And.intro (ok_sc rfl) True.intro)) (by exact (And.intro (And.intro rfl (ToL.cons (PV.To.refl _) ToL.nil)) True.intro)) (by exact (BorL.cons (hbo _) (BorL.cons (PV.bor_val _) (BorL.cons (PV.bor_val _) BorL.nil)))) (by exact (borA_cons (BorL.cons (PV.bor_val _) BorL.nil) borA_nil)) (by exact (x_l1Below hbo (by omega))))
 refine rA ?_ (x := sA)
 refine sw_seq ?_
 refine sw_seq ?_
 refine sO [(0, _), (1, _), (4, _), (5, _), (6, _), (5000, _)] [(0, _)] ?_
 refine sw_reg ?_
 refine rA ?_ (x := cM Cp.ptr)
 refine rA ?_ (x := sM)
 refine rA ?_ (x := B_add)
 refine rA ?_ (x := loc_xcall0 (bx := 0) (qs := [(false, [PV.val _])]) (as_ := [(false, [PV.val _])]) (by decide) FDrz_c_58 rfl (by exact (And.intro (by exact ⟨⟩) True.intro)) (by exact (And.intro (And.intro rfl (ToL.cons (PV.To.refl _) ToL.nil)) True.intro)) (by exact (BorL.cons (hbo _) (BorL.cons (PV.bor_val _) (BorL.cons (PV.bor_val _) BorL.nil)))) (by exact (borA_cons (BorL.cons (PV.bor_val _) BorL.nil) borA_nil)) (by exact (x_l1Below hbo (by omega))))
 refine rA ?_ (x := sA)
 refine sw_block ?_
 refine sO [(0, _), (1, _), (4, _), (5, _), (6, _), (7, _), (5000, _)] [(0, _)] ?_
 refine sw_loop (l0 := [(0, RV.ptr 0 0), (1, RV.sv false [PV.val _]), (4, RV.sv false [PV.sl _ _]), (5000, RV.phi 0 _)]) (b0 := []) (fun k : Nat => (k : Int) ≤ (belowC (belowC c 2).2 (most + 1)).1) (fun k : Nat => [(5, RV.slc (.own 108 4) ((quesTo (quesS c most) k).l.map (cQuery (.own 117 3) (.own 3 1)))), (6, RV.int (quesTo (quesS c most) k).id), (7, RV.int ((belowC (belowC c 2).2 (most + 1)).1 - (k : Int)))]) (fun k : Nat => [(0, (88, cCur o (quesTo (quesS c most) k).c))]) (fun k : Nat => ((belowC (belowC c 2).2 (most + 1)).1 - (k : Int)).toNat) 0 (by omega) (by exact ⟨rfl, rfl, rfl, rfl, ⟨⟩⟩) (by exact ⟨⟩) (by exact And.intro (by exact rfl) (And.intro (by exact rfl) (And.intro (by exact int_eq (by omega)) (True.intro)))) (by exact And.intro (by exact rfl) (True.intro)) ?_
 rintro k hk
 have hqf := quesTo_facts (s := quesS c most) ha k
 have hq0 : (quesS c most).l.length = 0 := rfl
 have hqi : (quesS c most).id = (belowC c 2).1 := rfl
 have hb3 := belowC_ge (queC (quesTo (quesS c most) k).c (quesTo (quesS c most) k).id).2 2
 have hb4 := belowC_lt (queC (quesTo (quesS c most) k).c (quesTo (quesS c most) k).id).2 (n := 2) (by decide)
 refine sw_seq ?_
 refine sw_seq ?_
 refine sw_reg ?_
 refine rA ?_ (x := sM)
 refine rA ?_ (x := B_gtr)
 refine sw_cond (t := 16) rfl (fun hb1 => ?_) (fun hb1 => ?_)
 ·try simp only [q1, q2, q3, q4, q5, q6, q7, q8, q9] at hb1
  have hlt : (k : Int) < (belowC (belowC c 2).2 (most + 1)).1 := by omega
  refine sw_skip ?_
  refine sw_seq ?_
  refine sw_block ?_
  refine sw_seq ?_
  refine sO [(0, _), (1, _), (4, _), (5, _), (6, _), (7, _), (5000, _)] [(0, (88, [PV.sl o _, PV.val _, PV.val _]))] ?_
  refine sw_reg ?_
  refine rA ?_ (x := tM)
  refine rA ?_ (x := cM Cp.ptr)
  refine rA ?_ (x := sM)
  refine rA ?_ (x := loc_xcall0 (bx := 0) (qs := [(false, [PV.val _])]) (as_ := [(false, [PV.val _])]) (by decide) FDrz_c_80 rfl (by exact (And.intro (by exact ⟨⟩) True.intro)) (by exact (And.intro (And.intro rfl (ToL.cons (PV.To.refl _) ToL.nil)) True.intro)) (by exact (BorL.cons (hbo _) (BorL.cons (PV.bor_val _) (BorL.cons (PV.bor_val _) BorL.nil)))) (by exact (borA_cons (BorL.cons (PV.bor_val _) BorL.nil) borA_nil)) (by exact (x_l4Query hbo)))
  refine rA ?_ (x := loc_bslice (qs := [(true, [PV.val _, PV.val _, PV.sl _ _, PV.sl _ _])]) (by decide) FDrz_sl_90 FDrz_z_108 (by decide) rfl rfl rfl rfl rfl (by exact Nat.le_of_ble_eq_true rfl) (by exact (And.intro (by exact ⟨⟩) True.intro)) rfl)
  refine rA ?_ (x := loc_append (by decide) FDrz_sl_90 FDrz_z_108 rfl rfl (by decide) rfl (by simp only [List.length_map, List.length_append, List.length_cons, List.length_nil]; omega) (by simp only [List.length_map, List.length_append, List.length_cons, List.length_nil]; omega))
  refine rA ?_ (x := tA)
  refine sO [(0, _), (1, _), (4, _), (5, _), (6, _), (7, _), (5000, _)] [(0, _)] ?_
  refine sw_reg ?_
  refine rA ?_ (x := sM)
  refine rA ?_ (x := B_add)
  refine rA ?_ (x := cM Cp.ptr)
  refine rA ?_ (x := loc_xcall0 (bx := 0) (qs := [(false, [PV.val _])]) (as_ := [(false, [PV.val _])]) (by decide) FDrz_c_58 rfl (by exact (And.intro (ok_sc rfl) True.intro)) (by exact (And.intro (And.intro rfl (ToL.cons (PV.To.refl _) ToL.nil)) True.intro)) (by exact (BorL.cons (hbo _) (BorL.cons (PV.bor_val _) (BorL.cons (PV.bor_val _) BorL.nil)))) (by exact (borA_cons (BorL.cons (PV.bor_val _) BorL.nil) borA_nil)) (by exact (x_l1Below hbo (by omega))))
  refine rA ?_ (x := B_add)
  refine rA ?_ (x := sA)
  refine sO [(0, _), (1, _), (4, _), (5, _), (6, _), (7, _), (5000, _)] [(0, _)] ?_
  refine sw_reg ?_
  refine rA ?_ (x := sM)
  refine rA ?_ (x := B_sub)
  refine rA ?_ (x := sA)
  refine Exists.intro (k + 1) (And.intro (by omega) (And.intro (by omega) (And.intro (And.intro (by exact ⟨rfl, rfl, rfl, rfl, ⟨⟩⟩) (by exact ⟨⟩)) (And.intro (by exact And.intro (by exact slc_eq (by simp only [quesTo, quesNext, List.map_append]; rfl)) (And.intro (by exact rfl) (And.intro (by exact int_eq (by omega)) (True.intro)))) (by exact And.intro (by exact rfl) (True.intro))))))
 ·try simp only [q1, q2, q3, q4, q5, q6, q7, q8, q9] at hb1
  have hend : quesN c most = k := by unfold quesN; omega
  refine sw_exit ?_
  refine sw_seq ?_
  refine sO [(0, _), (1, _), (4, _), (5, _), (6, _), (7, _), (5000, _)] [(0, (88, [PV.sl o _, PV.val _, PV.val _]))] ?_
  refine sw_reg ?_
  refine rA ?_ (x := tM)
  refine rA ?_ (x := tA)
  refine sw_ret ?_
  exact ⟨(by show _ = some (88, cCur o (quesTo (quesS c most) (quesN c most)).c); rw [hend]; exact rfl), rfl, (And.intro (by refine slc_eq ?_; show _ = List.map _ (quesTo _ _).l; rw [hend]) True.intro)⟩
end Go.Proofs.Ytaomckpfgmhapaa
