/- What functions of the program compute. No condition. -/
import Derived.Test.YtaomckpfgmhapaaCDb
import Derived.Test.YtaomckpfgmhapaaCDw
import Derived.KernelRfl
set_option linter.unusedVariables false
set_option linter.unusedSimpArgs false
namespace Go.Proofs.Ytaomckpfgmhapaa
open Go Go.RowKit M
set_option maxRecDepth 10000
attribute [local irreducible] PV.Lcl PV.LclR RV.Lcl
attribute [local irreducible] belowC byteC
theorem FDrw_c_41 : callI Try.prog 41 = true := by kernel_rfl
theorem FDrw_c_58 : callI Try.prog 58 = true := by kernel_rfl
theorem FDrw_c_71 : callI Try.prog 71 = true := by kernel_rfl
theorem FDrw_c_78 : callI Try.prog 78 = true := by kernel_rfl
theorem FDrw_fd_33_0 : fieldI Try.prog 33 0 = some 0 := by kernel_rfl
theorem FDrw_fd_33_1 : fieldI Try.prog 33 1 = some 1 := by kernel_rfl
theorem FDrw_fd_88_0 : fieldI Try.prog 88 0 = some 0 := by kernel_rfl
theorem FDrw_fd_88_1 : fieldI Try.prog 88 1 = some 1 := by kernel_rfl
theorem FDrw_fd_88_2 : fieldI Try.prog 88 2 = some 2 := by kernel_rfl
theorem FDrw_pl_33 : placesI Try.prog 33 = some [(0, 1), (1, 1)] := by kernel_rfl
theorem FDrw_pl_88 : placesI Try.prog 88 = some [(0, 1), (1, 1), (2, 1)] := by kernel_rfl
theorem FDrw_sl_22 : sliceI Try.prog 22 = some (5, 1, 1) := by kernel_rfl
theorem FDrw_sl_31 : sliceI Try.prog 31 = some (3, 1, 8) := by kernel_rfl
theorem FDrw_sl_39 : sliceI Try.prog 39 = some (33, 2, 32) := by kernel_rfl
theorem FDrw_ty_22 : tyI Try.prog 22 = some (false, 1) := by kernel_rfl
theorem FDrw_ty_3 : tyI Try.prog 3 = some (false, 1) := by kernel_rfl
theorem FDrw_ty_31 : tyI Try.prog 31 = some (false, 1) := by kernel_rfl
theorem FDrw_ty_33 : tyI Try.prog 33 = some (true, 2) := by kernel_rfl
theorem FDrw_ty_5 : tyI Try.prog 5 = some (false, 1) := by kernel_rfl
theorem FDrw_ui_3 : Try.prog.underlying 3 = some (.int .i64) := by kernel_rfl
theorem FDrw_ui_5 : Try.prog.underlying 5 = some (.int .u8) := by kernel_rfl
theorem FDrw_z_3 : zeroI Try.prog 3 = some (.int .i64 0) := by kernel_rfl
theorem FDrw_z_33 : zeroI Try.prog 33 = some (.agg #[.int .i64 0, .slice none 0 0]) := by kernel_rfl
theorem FDrw_z_88 : zeroI Try.prog 88 = some (.agg #[.slice none 0 0, .int .i64 0, .int .i64 0]) := by kernel_rfl
theorem FDrw_zo_33 {Fz : FzT} {w : World} : OwnL [PV.val (.int .i64 0), PV.sl (.own 3 1) []] Fz w (Value.cells (.agg #[.int .i64 0, .slice none 0 0])).toList [] := zo_val rfl (zo_sl (zo_nil))
theorem FDrw_zo_88 {Fz : FzT} {w : World} : OwnL [PV.sl (.own 5 1) [], PV.val (.int .i64 0), PV.val (.int .i64 0)] Fz w (Value.cells (.agg #[.slice none 0 0, .int .i64 0, .int .i64 0])).toList [] := zo_sl (zo_val rfl (zo_val rfl (zo_nil)))
theorem n_l1New {code : List Int}  (hb : code.length ≤ 9223372036854775807) (hb2 : code.length ≤ 4611686018427387904) : NCall Try.prog 53 88 [(false, [PV.sl .v (code.map cU8)])] (cCur .v (curNew code hb)) := by
 refine ncall_of (rs := 2) Try.func53 rfl rfl (Nat.le_of_ble_eq_true rfl) (borA_cons (BorL.cons (PV.bor_sl _) BorL.nil) borA_nil) (by exact (BorL.cons (PV.bor_sl _) (BorL.cons (PV.bor_val _) (BorL.cons (PV.bor_val _) BorL.nil)))) ?_
 intro h0 w0 Fz0
 refine sw_len (s := 0) rfl fun hl0 => ?_
 try rw [List.length_map] at hl0
 refine sw_seq ?_
 refine sw_reg ?_
 refine rA ?_ (x := kA)
 refine sw_seq ?_
 refine sO [(0, _), (2, _)] [] ?_
 refine sw_reg ?_
 refine rA ?_ (x := vM false [PV.sl .v _])
 refine rA ?_ (x := lN FDrw_sl_22)
 refine rA ?_ (x := B_add)
 refine rA ?_ (x := sA)
 refine sw_seq ?_
 refine sw_seq ?_
 refine sO [(0, _), (2, _), (3, _)] [] ?_
 refine sw_reg ?_
 refine rA ?_ (x := kA)
 refine sw_block ?_
 refine sO [(0, _), (2, _), (3, _), (4, _)] [] ?_
 refine sw_loop (l0 := [(0, RV.sv false [PV.sl _ _]), (2, RV.sv false [PV.val _])]) (b0 := []) (fun k : Nat => k ≤ code.length ∧ k ≤ 4000) (fun k : Nat => [(3, RV.int (hashTo code k)), (4, RV.int (k : Int))]) (fun k : Nat => []) (fun k : Nat => code.length - k) 0 (by omega) (by exact ⟨rfl, rfl, ⟨⟩⟩) (by exact ⟨⟩) (by exact And.intro (by exact rfl) (And.intro (by exact rfl) (True.intro))) (by exact ⟨⟩) ?_
 rintro k ⟨hk, hk4⟩
 refine sw_seq ?_
 refine sw_seq ?_
 refine sw_reg ?_
 refine rA ?_ (x := sM)
 refine rA ?_ (x := vM false [PV.sl .v _])
 refine rA ?_ (x := lN FDrw_sl_22)
 refine rA ?_ (x := B_lss)
 refine rA ?_ (x := sM)
 refine RunS.cases (s := 12) rfl (fun g1 => ?_) (fun g1 => ?_)
 ·have sg1 := g1
  try simp only [q1, q2, q3, q4, q5, q6, q7, q8, q9] at sg1
  refine rB g1 ?_ (x := sM)
  refine rB g1 ?_ (x := B_lss)
  refine rA ?_ (x := pkT g1)
  refine sw_cond (t := 15) rfl (fun hb2 => ?_) (fun hb2 => ?_)
  ·try simp only [q1, q2, q3, q4, q5, q6, q7, q8, q9] at hb2
   have hlt : k < code.length := by omega
   have hl4 : k < 4000 := by omega
   refine sw_skip ?_
   refine sw_seq ?_
   refine sw_block ?_
   refine sO [(0, _), (2, _), (3, _), (4, _)] [] ?_
   refine sw_reg ?_
   refine rA ?_ (x := sM)
   refine rA ?_ (x := loc_mulW (by decide) (by exact ⟨⟩) (ok_sc rfl))
   refine rA ?_ (x := vM false [PV.sl .v _])
   refine rA ?_ (x := sM)
   refine rA ?_ (x := loc_index (by decide) FDrw_sl_22 (by exact ⟨⟩) (by exact rfl) (by exact getm2 (by omega) rfl) (by exact rfl))
   refine rA ?_ (x := lE [PV.val _] FDrw_ty_5)
   refine rA ?_ (x := loc_conv FDrw_ui_5 FDrw_ui_3 rfl)
   refine rA ?_ (x := loc_addW (by decide) (by exact ⟨⟩) (by exact ⟨⟩))
   refine rA ?_ (x := loc_addW (by decide) (by exact ⟨⟩) (ok_sc rfl))
   refine rA ?_ (x := loc_andW (by decide) (by exact ⟨⟩) (ok_sc rfl))
   refine rA ?_ (x := sA)
   refine sO [(0, _), (2, _), (3, _), (4, _)] [] ?_
   refine sw_reg ?_
   refine rA ?_ (x := sM)
   refine rA ?_ (x := B_add)
   refine rA ?_ (x := sA)
   refine Exists.intro (k + 1) (And.intro (by omega) (And.intro (by omega) (And.intro (And.intro (by exact ⟨rfl, rfl, ⟨⟩⟩) (by exact ⟨⟩)) (And.intro (by exact And.intro (by exact int_eq (by rw [hashTo, List.getD_eq_getElem?_getD, List.getElem?_eq_getElem hlt]; rfl)) (And.intro (by exact int_eq (by omega)) (True.intro))) (by exact ⟨⟩)))))
  ·try simp only [q1, q2, q3, q4, q5, q6, q7, q8, q9] at hb2
   have hend : k = min code.length 4000 := by omega
   refine sw_exit ?_
   refine sw_seq ?_
   refine sO [(0, _), (2, _), (3, _), (4, _)] [] ?_
   refine sw_reg ?_
   refine rA ?_ (x := vM false [PV.sl .v _])
   refine rA ?_ (x := sM)
   refine rA ?_ (x := loc_build (qs := [(false, [PV.sl _ _]), (false, [PV.val _])]) (cs := [PV.sl _ _, PV.val _, PV.val _]) (by decide) FDrw_z_88 FDrw_zo_88 FDrw_pl_88 (by exact rfl) (by exact (And.intro (by exact ⟨⟩) (And.intro (by exact ⟨⟩) True.intro))) rfl (by exact rfl))
   refine RunS.step (by exact ⟨rfl, ⟨⟩⟩) (by exact ⟨⟩) (LocG.of rfl (loc_box (ag := true) (cs := [PV.sl _ _, PV.val _, PV.val _]) (by decide) (by exact ⟨⟩))) (free1 (Free.app (Free.app (Free.app (Free.of_ rfl) rfl) rfl) rfl)) ?_
   refine rA ?_ (x := cA Cp.ptr)
   refine sw_ret ?_
   exact ⟨31, by exact rfl, by subst hend; exact rfl⟩
 ·have sg1 := g1
  try simp only [q1, q2, q3, q4, q5, q6, q7, q8, q9] at sg1
  refine RunS.s0f g1 ?_
  refine RunS.s0f g1 ?_
  refine rA ?_ (x := pkF g1)
  refine sw_cond (t := 15) rfl (fun hb_ => nomatch hb_) (fun hb_ => ?_)
  have hend : k = min code.length 4000 := by omega
  refine sw_exit ?_
  refine sw_seq ?_
  refine sO [(0, _), (2, _), (3, _), (4, _)] [] ?_
  refine sw_reg ?_
  refine rA ?_ (x := vM false [PV.sl .v _])
  refine rA ?_ (x := sM)
  refine rA ?_ (x := loc_build (qs := [(false, [PV.sl _ _]), (false, [PV.val _])]) (cs := [PV.sl _ _, PV.val _, PV.val _]) (by decide) FDrw_z_88 FDrw_zo_88 FDrw_pl_88 (by exact rfl) (by exact (And.intro (by exact ⟨⟩) (And.intro (by exact ⟨⟩) True.intro))) rfl (by exact rfl))
  refine RunS.step (by exact ⟨rfl, ⟨⟩⟩) (by exact ⟨⟩) (LocG.of rfl (loc_box (ag := true) (cs := [PV.sl _ _, PV.val _, PV.val _]) (by decide) (by exact ⟨⟩))) (free1 (Free.app (Free.app (Free.app (Free.of_ rfl) rfl) rfl) rfl)) ?_
  refine rA ?_ (x := cA Cp.ptr)
  refine sw_ret ?_
  exact ⟨31, by exact rfl, by subst hend; exact rfl⟩
theorem x_l1Byte {o : Fl} {c : Cur} (hbo : ∀ es, (PV.sl o es).Bor)  : XCall Try.prog 71 88 (cCur o c) (cCur o (byteC c).2) [] (resRV [(false, [PV.val (vI (byteC c).1)])]) := by
 refine xcall_of (rs := [(false, [PV.val (vI (byteC c).1)])]) Try.func71 rfl (Nat.le_of_ble_eq_true rfl) (Nat.le_of_ble_eq_true rfl) ?_
 intro g_ h0 w0 Fz0
 have hcb := c.hb
 refine sw_seq ?_
 refine sw_reg ?_
 refine rA ?_ (x := kA)
 refine sw_seq ?_
 refine sO [(0, _), (2, _), (5000, _)] [(0, (88, [PV.sl o _, PV.val _, PV.val _]))] ?_
 refine sw_reg ?_
 refine rA ?_ (x := cM Cp.ptr)
 refine rA ?_ (x := cM Cp.ptr)
 refine rA ?_ (x := loc_nilchk (by decide))
 refine rA ?_ (x := lF FDrw_fd_88_2)
 refine rA ?_ (x := lD [PV.val _] FDrw_ty_3)
 refine rA ?_ (x := loc_mulW (by decide) (by exact ⟨⟩) (ok_sc rfl))
 refine rA ?_ (x := loc_addW (by decide) (by exact ⟨⟩) (ok_sc rfl))
 refine rA ?_ (x := loc_nilchk (by decide))
 refine rA ?_ (x := lF FDrw_fd_88_2)
 refine rA ?_ (x := loc_store (ag := false) (vs := [PV.val _]) FDrw_ty_3 (by exact ⟨⟩) (by exact rfl) (by exact Nat.le_of_ble_eq_true rfl))
 refine sw_seq ?_
 refine sO [(0, _), (2, _), (5000, _)] [(0, (88, [PV.sl o _, PV.val _, PV.val _]))] ?_
 refine sw_draw hm_ ?_
 refine dA 0 ?_ (x := cM Cp.ptr)
 refine dA 1 ?_ (x := loc_nilchk (by decide))
 refine dA 3 ?_ (x := lF FDrw_fd_88_2)
 refine dA 7 ?_ (x := lD [PV.val _] FDrw_ty_3)
 refine dA 15 ?_ (x := loc_shr (m := 33) rfl (by decide))
 refine dA 0 ?_ (x := cM Cp.ptr)
 refine dA 32 ?_ (x := loc_nilchk (by decide))
 refine dA 96 ?_ (x := lF FDrw_fd_88_2)
 refine dA 224 ?_ (x := lD [PV.val _] FDrw_ty_3)
 refine dA 480 ?_ (x := loc_shr (m := 45) rfl (by decide))
 refine dA 1023 ?_ (x := loc_xorW (by decide) (by exact ⟨⟩) (by exact ⟨⟩))
 refine dA 2047 ?_ (x := loc_andW (by decide) (by exact ⟨⟩) (ok_sc rfl))
 refine dA 4095 ?_ (x := sA)
 refine sw_seq ?_
 refine sw_seq ?_
 refine sO [(0, _), (2, _), (3, _), (5000, _)] [(0, _)] ?_
 refine sw_draw hm_ ?_
 refine dA 0 ?_ (x := cM Cp.ptr)
 refine dA 1 ?_ (x := loc_nilchk (by decide))
 refine dA 3 ?_ (x := lF FDrw_fd_88_1)
 refine dA 7 ?_ (x := lD [PV.val _] FDrw_ty_3)
 refine dA 0 ?_ (x := cM Cp.ptr)
 refine dA 16 ?_ (x := loc_nilchk (by decide))
 refine dA 48 ?_ (x := lF FDrw_fd_88_0)
 refine dA 112 ?_ (x := lD [PV.sl .v _] FDrw_ty_22)
 refine dA 240 ?_ (x := lN FDrw_sl_22)
 refine dA 511 ?_ (x := B_lss)
 refine sw_cond (t := 34) rfl (fun hb1 => ?_) (fun hb1 => ?_)
 ·try simp only [q1, q2, q3, q4, q5, q6, q7, q8, q9] at hb1
  have hlt : c.i < c.b.length := by omega
  have hr := byteC_yes hlt
  have hge : c.b[c.i] = c.b.getD c.i 0 := by rw [List.getD_eq_getElem?_getD, List.getElem?_eq_getElem hlt]; rfl
  refine sw_seq ?_
  refine sO [(0, _), (2, _), (3, _), (5000, _)] [(0, _)] ?_
  refine sw_draw hm_ ?_
  refine dA 0 ?_ (x := sM)
  refine dA 0 ?_ (x := cM Cp.ptr)
  refine dA 2 ?_ (x := loc_nilchk (by decide))
  refine dA 6 ?_ (x := lF FDrw_fd_88_0)
  refine dA 14 ?_ (x := lD [PV.sl .v _] FDrw_ty_22)
  refine dA 0 ?_ (x := cM Cp.ptr)
  refine dA 32 ?_ (x := loc_nilchk (by decide))
  refine dA 96 ?_ (x := lF FDrw_fd_88_1)
  refine dA 224 ?_ (x := lD [PV.val _] FDrw_ty_3)
  refine dA 510 ?_ (x := loc_index (k := c.i) (by decide) FDrw_sl_22 (by exact ⟨⟩) (by rfl) (by exact getm2 hlt (by rw [hge])) (by exact rfl))
  refine dA 1022 ?_ (x := lE [PV.val _] FDrw_ty_5)
  refine dA 2046 ?_ (x := loc_conv FDrw_ui_5 FDrw_ui_3 rfl)
  refine dA 4095 ?_ (x := loc_addW (by decide) (by exact ⟨⟩) (by exact ⟨⟩))
  refine dA 8191 ?_ (x := loc_andW (by decide) (by exact ⟨⟩) (ok_sc rfl))
  refine dA 16383 ?_ (x := sA)
  refine sO [(0, _), (2, _), (3, _), (5000, _)] [(0, _)] ?_
  refine sw_reg ?_
  refine rA ?_ (x := cM Cp.ptr)
  refine rA ?_ (x := cM Cp.ptr)
  refine rA ?_ (x := loc_nilchk (by decide))
  refine rA ?_ (x := lF FDrw_fd_88_1)
  refine rA ?_ (x := lD [PV.val _] FDrw_ty_3)
  refine rA ?_ (x := B_add)
  refine rA ?_ (x := loc_nilchk (by decide))
  refine rA ?_ (x := lF FDrw_fd_88_1)
  refine rA ?_ (x := loc_store (ag := false) (vs := [PV.val _]) FDrw_ty_3 (by exact ⟨⟩) (by exact rfl) (by exact Nat.le_of_ble_eq_true rfl))
  refine sw_seq ?_
  refine sO [(0, _), (2, _), (3, _), (5000, _)] [(0, (88, [PV.sl o _, PV.val _, PV.val _]))] ?_
  refine sw_reg ?_
  refine rA ?_ (x := sM)
  refine rA ?_ (x := sA)
  refine sw_ret ?_
  exact ⟨(by rw [hr]; exact rfl), rfl, (And.intro (by refine int_eq ?_; rw [hr]; rfl) True.intro)⟩
 ·try simp only [q1, q2, q3, q4, q5, q6, q7, q8, q9] at hb1
  have hr := byteC_no (c := c) (by omega)
  refine sw_skip ?_
  refine sw_seq ?_
  refine sO [(0, _), (2, _), (3, _), (5000, _)] [(0, _)] ?_
  refine sw_reg ?_
  refine rA ?_ (x := sM)
  refine rA ?_ (x := sA)
  refine sw_ret ?_
  exact ⟨(by rw [hr]; exact rfl), rfl, (And.intro (by refine int_eq ?_; rw [hr]; rfl) True.intro)⟩
theorem x_l1Below {o : Fl} {c : Cur} (hbo : ∀ es, (PV.sl o es).Bor) {n : Int}  (hn : n ≤ 256) : XCall Try.prog 58 88 (cCur o c) (cCur o (belowC c n).2) [(false, [PV.val (vI n)])] (resRV [(false, [PV.val (vI (belowC c n).1)])]) := by
 refine xcall_of (rs := [(false, [PV.val (vI (belowC c n).1)])]) Try.func58 rfl (Nat.le_of_ble_eq_true rfl) (Nat.le_of_ble_eq_true rfl) ?_
 intro g_ h0 w0 Fz0
 refine sw_seq ?_
 refine sw_reg ?_
 refine rA ?_ (x := kA)
 refine sw_seq ?_
 refine sw_seq ?_
 refine sO [(0, _), (1, _), (4, _), (5000, _)] [(0, (88, [PV.sl o _, PV.val _, PV.val _]))] ?_
 refine sw_reg ?_
 refine rA ?_ (x := sM)
 refine rA ?_ (x := B_leq)
 refine sw_cond (t := 10) rfl (fun hb1 => ?_) (fun hb1 => ?_)
 ·try simp only [q1, q2, q3, q4, q5, q6, q7, q8, q9] at hb1
  have hr := belowC_no (c := c) hb1
  refine sw_seq ?_
  refine sO [(0, _), (1, _), (4, _), (5000, _)] [(0, _)] ?_
  refine sw_reg ?_
  refine rA ?_ (x := kA)
  refine sw_ret ?_
  exact ⟨(by rw [hr]; exact rfl), rfl, (And.intro (by refine int_eq ?_; rw [hr]; try rfl) True.intro)⟩
 ·try simp only [q1, q2, q3, q4, q5, q6, q7, q8, q9] at hb1
  have hn0 : 0 < n := by omega
  have hr := belowC_yes (c := c) hn0
  refine sw_skip ?_
  refine sw_seq ?_
  refine sw_seq ?_
  refine sO [(0, _), (1, _), (4, _), (5000, _)] [(0, _)] ?_
  refine sw_reg ?_
  refine rA ?_ (x := sM)
  refine rA ?_ (x := B_leq)
  refine sw_cond (t := 12) rfl (fun hb2 => ?_) (fun hb2 => ?_)
  ·try simp only [q1, q2, q3, q4, q5, q6, q7, q8, q9] at hb2
   refine sw_seq ?_
   refine sO [(0, _), (1, _), (4, _), (5000, _)] [(0, _)] ?_
   refine sw_reg ?_
   refine rA ?_ (x := cM Cp.ptr)
   refine rA ?_ (x := loc_xcall0 (bx := 0) (qs := []) (as_ := []) (by decide) FDrw_c_71 rfl (by exact ⟨⟩) (by exact ⟨⟩) (by exact (BorL.cons (hbo _) (BorL.cons (PV.bor_val _) (BorL.cons (PV.bor_val _) BorL.nil)))) (by exact borA_nil) (by exact (x_l1Byte hbo)))
   refine rA ?_ (x := sM)
   refine rA ?_ (x := loc_rem (by decide) (by exact ⟨⟩) (by exact ⟨⟩) (by omega))
   refine rA ?_ (x := sA)
   refine sw_ret ?_
   exact ⟨(by rw [hr]; exact rfl), rfl, (And.intro (by refine int_eq ?_; rw [hr]; try rfl) True.intro)⟩
  ·try simp only [q1, q2, q3, q4, q5, q6, q7, q8, q9] at hb2
   omega
theorem x_l1PickInt {o : Fl} {c : Cur} (hbo : ∀ es, (PV.sl o es).Bor) {l : List Int}  (hl : 0 < l.length) (hl2 : l.length ≤ 256) : XCall Try.prog 41 88 (cCur o c) (cCur o (pickC c l).2) [(false, [PV.sl .v (l.map cInt)])] (resRV [(false, [PV.val (vI (pickC c l).1)])]) := by
 refine xcall_of (rs := [(false, [PV.val (vI (pickC c l).1)])]) Try.func41 rfl (Nat.le_of_ble_eq_true rfl) (Nat.le_of_ble_eq_true rfl) ?_
 intro g_ h0 w0 Fz0
 refine sw_len (s := 1) rfl fun hl1 => ?_
 try rw [List.length_map] at hl1
 have hg := belowC_ge c (l.length : Int)
 have hg2 := belowC_lt c (n := (l.length : Int)) (by omega)
 refine sw_seq ?_
 refine sw_reg ?_
 refine rA ?_ (x := kA)
 refine sw_seq ?_
 refine sO [(0, _), (1, _), (4, _), (5000, _)] [(0, (88, [PV.sl o _, PV.val _, PV.val _]))] ?_
 refine sw_reg ?_
 refine rA ?_ (x := vM false [PV.sl .v _])
 refine rA ?_ (x := cM Cp.ptr)
 refine rA ?_ (x := vM false [PV.sl .v _])
 refine rA ?_ (x := lN FDrw_sl_31)
 refine rA ?_ (x := loc_xcall0 (bx := 0) (qs := [(false, [PV.val _])]) (as_ := [(false, [PV.val _])]) (by decide) FDrw_c_58 rfl (by exact (And.intro (by exact ⟨⟩) True.intro)) (by exact (And.intro (And.intro rfl (ToL.cons (PV.To.refl _) ToL.nil)) True.intro)) (by exact (BorL.cons (hbo _) (BorL.cons (PV.bor_val _) (BorL.cons (PV.bor_val _) BorL.nil)))) (by exact (borA_cons (BorL.cons (PV.bor_val _) BorL.nil) borA_nil)) (by exact (x_l1Below hbo (by omega))))
 refine rA ?_ (x := loc_index (k := (belowC c (l.length : Int)).1.toNat) (by decide) FDrw_sl_31 (by exact ⟨⟩) (by omega) (by exact getm2 (by omega) rfl) (by exact rfl))
 refine rA ?_ (x := lE [PV.val _] FDrw_ty_3)
 refine rA ?_ (x := sA)
 refine sw_ret ?_
 exact ⟨(by exact rfl), rfl, (And.intro (by refine int_eq ?_; show _ = l.getD _ 0; rw [List.getD_eq_getElem?_getD, List.getElem?_eq_getElem (by omega)]; rfl) True.intro)⟩
theorem x_l1Once {o : Fl} {c : Cur} (hbo : ∀ es, (PV.sl o es).Bor) {n : Int}  (hn : n ≤ 256) : XCall Try.prog 55 88 (cCur o c) (cCur o (belowC c n).2) [(false, [PV.val (vI n)])] (resRV [(false, [PV.val (.bool (decide ((belowC c n).1 = 0)))])]) := by
 refine xcall_of (rs := [(false, [PV.val (.bool (decide ((belowC c n).1 = 0)))])]) Try.func55 rfl (Nat.le_of_ble_eq_true rfl) (Nat.le_of_ble_eq_true rfl) ?_
 intro g_ h0 w0 Fz0
 refine sw_seq ?_
 refine sw_reg ?_
 refine rA ?_ (x := kA)
 refine sw_seq ?_
 refine sO [(0, _), (1, _), (4, _), (5000, _)] [(0, (88, [PV.sl o _, PV.val _, PV.val _]))] ?_
 refine sw_reg ?_
 refine rA ?_ (x := cM Cp.ptr)
 refine rA ?_ (x := sM)
 refine rA ?_ (x := loc_xcall0 (bx := 0) (qs := [(false, [PV.val _])]) (as_ := [(false, [PV.val _])]) (by decide) FDrw_c_58 rfl (by exact (And.intro (by exact ⟨⟩) True.intro)) (by exact (And.intro (And.intro rfl (ToL.cons (PV.To.refl _) ToL.nil)) True.intro)) (by exact (BorL.cons (hbo _) (BorL.cons (PV.bor_val _) (BorL.cons (PV.bor_val _) BorL.nil)))) (by exact (borA_cons (BorL.cons (PV.bor_val _) BorL.nil) borA_nil)) (by exact (x_l1Below hbo (by omega))))
 refine rA ?_ (x := B_eql)
 refine rA ?_ (x := sA)
 refine sw_ret ?_
 exact ⟨(by exact rfl), rfl, (And.intro (by exact rfl) True.intro)⟩
theorem x_l3Row {o : Fl} {c : Cur} (hbo : ∀ es, (PV.sl o es).Bor) {id : Int}  : XCall Try.prog 78 88 (cCur o c) (cCur o (rowC c id).2) [(false, [PV.val (vI id)])] (resRV [(true, [PV.val (vI (rowC c id).1.Id), PV.sl (.own 3 1) ((rowC c id).1.Values.map cInt)])]) := by
 refine xcall_of (rs := [(true, [PV.val (vI (rowC c id).1.Id), PV.sl (.own 3 1) ((rowC c id).1.Values.map cInt)])]) Try.func78 rfl (Nat.le_of_ble_eq_true rfl) (Nat.le_of_ble_eq_true rfl) ?_
 intro g_ h0 w0 Fz0
 have hp3 := pick3 c
 refine sw_seq ?_
 refine sw_reg ?_
 refine RunS.step (by exact ⟨⟩) (by exact ⟨⟩) (LocG.of rfl (loc_alloc (by decide) FDrw_z_33 FDrw_zo_33)) (free1 (Free.of_ rfl)) ?_
 refine sw_seq ?_
 refine sO [(0, _), (1, _), (4, _), (5000, _)] [(0, (88, [PV.sl o _, PV.val _, PV.val _])), (4, (33, [PV.val _, PV.sl _ _]))] ?_
 refine sw_reg ?_
 refine rA ?_ (x := sM)
 refine rA ?_ (x := loc_build (qs := [(false, [PV.val _])]) (cs := [PV.val _, PV.sl _ _]) (by decide) FDrw_z_33 FDrw_zo_33 FDrw_pl_33 (by exact rfl) (by exact (And.intro (by exact ⟨⟩) True.intro)) rfl (by exact rfl))
 refine RunS.step (by exact ⟨⟩) (by exact ⟨⟩) (LocG.of rfl (loc_alloc (by decide) FDrw_z_33 FDrw_zo_33)) (free1 (Free.app (Free.app (Free.of_ rfl) rfl) rfl)) ?_
 refine rA ?_ (x := loc_store (ag := true) (vs := [PV.val _, PV.sl _ _]) FDrw_ty_33 (by exact ⟨⟩) (by exact rfl) (by exact Nat.le_of_ble_eq_true rfl))
 refine sw_seq ?_
 refine sO [(0, _), (1, _), (4, _), (5, _), (5000, _)] [(0, _), (4, _), (5, (33, [PV.val _, PV.sl _ _]))] ?_
 refine sw_reg ?_
 refine rA ?_ (x := cM Cp.ptr)
 refine rA ?_ (x := loc_bslice (qs := [(false, [PV.val _]), (false, [PV.val _]), (false, [PV.val _])]) (by decide) FDrw_sl_31 FDrw_z_3 (by decide) rfl rfl rfl rfl rfl (by exact Nat.le_of_ble_eq_true rfl) (by exact (And.intro (ok_sc rfl) (And.intro (ok_sc rfl) (And.intro (ok_sc rfl) True.intro)))) rfl)
 refine rA ?_ (x := loc_xcall0 (bx := 0) (qs := [(false, [PV.sl _ _])]) (as_ := [(false, [PV.sl .v _])]) (by decide) FDrw_c_41 rfl (by exact (And.intro (by exact ⟨⟩) True.intro)) (by exact (And.intro (And.intro rfl (ToL.cons PV.to_none ToL.nil)) True.intro)) (by exact (BorL.cons (hbo _) (BorL.cons (PV.bor_val _) (BorL.cons (PV.bor_val _) BorL.nil)))) (by exact (borA_cons (BorL.cons (PV.bor_sl _) BorL.nil) borA_nil)) (by exact (x_l1PickInt (l := [3, 6, 100]) hbo (by decide) (by decide))))
 refine rA ?_ (x := sA)
 refine sw_seq ?_
 refine sw_seq ?_
 refine sO [(0, _), (1, _), (4, _), (5, _), (6, _), (5000, _)] [(0, _), (4, _), (5, _)] ?_
 refine sw_reg ?_
 refine rA ?_ (x := kA)
 refine sw_block ?_
 refine sO [(0, _), (1, _), (4, _), (5, _), (6, _), (7, _), (5000, _)] [(0, _), (4, _), (5, _)] ?_
 refine sw_loop (l0 := [(0, RV.ptr 0 0), (1, RV.sv false [PV.val _]), (4, RV.ptr 4 0), (5, RV.ptr 5 0), (6, RV.sv false [PV.val _]), (5000, RV.phi 0 _)]) (b0 := [(4, (33, [PV.val _, PV.sl _ _]))]) (fun k : Nat => k ≤ 3) (fun k : Nat => [(7, RV.int (k : Int))]) (fun k : Nat => [(0, (88, cCur o (valsC (pickC c [3, 6, 100]).1 (pickC c [3, 6, 100]).2 k).2)), (5, (33, [PV.val (vI id), PV.sl (.own 3 1) ((valsC (pickC c [3, 6, 100]).1 (pickC c [3, 6, 100]).2 k).1.map cInt)]))]) (fun k : Nat => 3 - k) 0 (by omega) (by exact ⟨rfl, rfl, rfl, rfl, rfl, rfl, ⟨⟩⟩) (by exact ⟨rfl, ⟨⟩⟩) (by exact And.intro (by exact rfl) (True.intro)) (by exact And.intro (by exact rfl) (And.intro (by exact rfl) (True.intro))) ?_
 rintro k hk
 have hvl : ((valsC (pickC c [3, 6, 100]).1 (pickC c [3, 6, 100]).2 k).1).length = k := valsC_len
 refine sw_seq ?_
 refine sw_seq ?_
 refine sw_reg ?_
 refine rA ?_ (x := sM)
 refine rA ?_ (x := B_lss)
 refine sw_cond (t := 15) rfl (fun hb1 => ?_) (fun hb1 => ?_)
 ·try simp only [q1, q2, q3, q4, q5, q6, q7, q8, q9] at hb1
  have hlt : k < 3 := by omega
  refine sw_skip ?_
  refine sw_seq ?_
  refine sw_block ?_
  refine sw_seq ?_
  refine sO [(0, _), (1, _), (4, _), (5, _), (6, _), (7, _), (5000, _)] [(0, (88, [PV.sl o _, PV.val _, PV.val _])), (4, (33, [PV.val _, PV.sl _ _])), (5, (33, [PV.val _, PV.sl _ _]))] ?_
  refine sw_reg ?_
  refine rA ?_ (x := cM Cp.ptr)
  refine rA ?_ (x := sM)
  refine rA ?_ (x := loc_xcall0 (bx := 0) (qs := [(false, [PV.val _])]) (as_ := [(false, [PV.val _])]) (by decide) FDrw_c_58 rfl (by exact (And.intro (by exact ⟨⟩) True.intro)) (by exact (And.intro (And.intro rfl (ToL.cons (PV.To.refl _) ToL.nil)) True.intro)) (by exact (BorL.cons (hbo _) (BorL.cons (PV.bor_val _) (BorL.cons (PV.bor_val _) BorL.nil)))) (by exact (borA_cons (BorL.cons (PV.bor_val _) BorL.nil) borA_nil)) (by exact (x_l1Below hbo (by omega))))
  refine rA ?_ (x := sA)
  refine sO [(0, _), (1, _), (4, _), (5, _), (6, _), (7, _), (8, _), (5000, _)] [(0, _), (4, _), (5, _)] ?_
  refine sw_reg ?_
  refine rA ?_ (x := lF FDrw_fd_33_1)
  refine rA ?_ (x := loc_ltake (ms := [PV.sl _ _]) (qs := [PV.sl .v _]) (by decide) FDrw_ty_31 (fun _ => rfl) (by exact Nat.le_of_ble_eq_true rfl) (by exact rfl) (by exact (ToL.cons PV.to_none ToL.nil)) (by exact (BorL.cons (PV.bor_sl _) BorL.nil)))
  refine rA ?_ (x := sM)
  refine rA ?_ (x := loc_bslice (qs := [(false, [PV.val _])]) (by decide) FDrw_sl_31 FDrw_z_3 (by decide) rfl rfl rfl rfl rfl (by exact Nat.le_of_ble_eq_true rfl) (by exact (And.intro (by exact ⟨⟩) True.intro)) rfl)
  refine rA ?_ (x := loc_append (by decide) FDrw_sl_31 FDrw_z_3 rfl rfl (by decide) rfl (by simp only [List.length_map, List.length_append, List.length_cons, List.length_nil]; omega) (by simp only [List.length_map, List.length_append, List.length_cons, List.length_nil]; omega))
  refine rA ?_ (x := lF FDrw_fd_33_1)
  refine rA ?_ (x := loc_store (ag := false) (vs := [PV.sl _ _]) FDrw_ty_31 (by exact ⟨⟩) (by exact rfl) (by exact Nat.le_of_ble_eq_true rfl))
  refine sO [(0, _), (1, _), (4, _), (5, _), (6, _), (7, _), (8, _), (5000, _)] [(0, _), (4, _), (5, (33, [PV.val _, PV.sl _ _]))] ?_
  refine sw_reg ?_
  refine rA ?_ (x := sM)
  refine rA ?_ (x := B_add)
  refine rA ?_ (x := sA)
  refine Exists.intro (k + 1) (And.intro (by omega) (And.intro (by omega) (And.intro (And.intro (by exact ⟨rfl, rfl, rfl, rfl, rfl, rfl, ⟨⟩⟩) (by exact ⟨rfl, ⟨⟩⟩)) (And.intro (by exact And.intro (by exact int_eq (by omega)) (True.intro)) (by exact And.intro (by exact rfl) (And.intro (by simp only [valsC, List.map_append]; exact rfl) (True.intro)))))))
 ·try simp only [q1, q2, q3, q4, q5, q6, q7, q8, q9] at hb1
  have hend : k = 3 := by omega
  refine sw_exit ?_
  refine sw_seq ?_
  refine sO [(0, _), (1, _), (4, _), (5, _), (6, _), (7, _), (5000, _)] [(0, (88, [PV.sl o _, PV.val _, PV.val _])), (4, (33, [PV.val _, PV.sl _ _])), (5, (33, [PV.val _, PV.sl _ _]))] ?_
  refine sw_reg ?_
  refine rA ?_ (x := loc_ltake (ms := [PV.val _, PV.sl _ _]) (qs := [PV.val _, PV.sl .v _]) (by decide) FDrw_ty_33 (fun h => nomatch h) (by exact Nat.le_of_ble_eq_true rfl) (by exact rfl) (by exact (ToL.cons (PV.To.refl _) (ToL.cons PV.to_none ToL.nil))) (by exact (BorL.cons (PV.bor_val _) (BorL.cons (PV.bor_sl _) BorL.nil))))
  refine rA ?_ (x := loc_store (ag := true) (vs := [PV.val _, PV.sl _ _]) FDrw_ty_33 (by exact ⟨⟩) (by exact rfl) (by exact Nat.le_of_ble_eq_true rfl))
  refine sw_ret ?_
  exact ⟨(by subst hend; exact rfl), rfl, (Exists.intro 4 (Exists.intro _ (And.intro (by exact rfl) (And.intro (by refine box_eq ?_; subst hend; exact rfl) (And.intro FDrw_ty_33 (And.intro (fun h => nomatch h) True.intro))))))⟩
theorem x_l3Rows {o : Fl} {c : Cur} (hbo : ∀ es, (PV.sl o es).Bor) {most : Int}  (hm : 0 ≤ most ∧ most ≤ 200) : XCall Try.prog 75 88 (cCur o c) (cCur o (rowsC c most).2) [(false, [PV.val (vI most)])] (resRV [(false, [PV.sl (.own 33 2) ((rowsC c most).1.map (cRow (.own 3 1)))])]) := by
 refine xcall_of (rs := [(false, [PV.sl (.own 33 2) ((rowsC c most).1.map (cRow (.own 3 1)))])]) Try.func75 rfl (Nat.le_of_ble_eq_true rfl) (Nat.le_of_ble_eq_true rfl) ?_
 intro g_ h0 w0 Fz0
 have ha := belowC_ge c 3
 have ha2 := belowC_lt c (n := 3) (by decide)
 have hb1 := belowC_ge (belowC c 3).2 (most + 1)
 have hb2 := belowC_lt (belowC c 3).2 (n := most + 1) (by omega)
 refine sw_seq ?_
 refine sw_reg ?_
 refine rA ?_ (x := loc_const (.inr rfl) (by decide) (ok_nil (t := 33) (e := 2)))
 refine sw_seq ?_
 refine sO [(0, _), (1, _), (4, _), (5000, _)] [(0, (88, [PV.sl o _, PV.val _, PV.val _]))] ?_
 refine sw_reg ?_
 refine rA ?_ (x := loc_bslice (qs := []) (by decide) FDrw_sl_39 FDrw_z_33 (by decide) rfl rfl rfl rfl rfl (by exact Nat.le_of_ble_eq_true rfl) (by exact ⟨⟩) rfl)
 refine rA ?_ (x := tA)
 refine sw_seq ?_
 refine sO [(0, _), (1, _), (4, _), (5, _), (5000, _)] [(0, _)] ?_
 refine sw_reg ?_
 refine rA ?_ (x := cM Cp.ptr)
 refine rA ?_ (x := loc_xcall0 (bx := 0) (qs := [(false, [PV.val _])]) (as_ := [(false, [PV.val _])]) (by decide) FDrw_c_58 rfl (by exact (And.intro (ok_sc rfl) True.intro)) (by exact (And.intro (And.intro rfl (ToL.cons (PV.To.refl _) ToL.nil)) True.intro)) (by exact (BorL.cons (hbo _) (BorL.cons (PV.bor_val _) (BorL.cons (PV.bor_val _) BorL.nil)))) (by exact (borA_cons (BorL.cons (PV.bor_val _) BorL.nil) borA_nil)) (by exact (x_l1Below hbo (by omega))))
 refine rA ?_ (x := sA)
 refine sw_seq ?_
 refine sw_seq ?_
 refine sO [(0, _), (1, _), (4, _), (5, _), (6, _), (5000, _)] [(0, _)] ?_
 refine sw_reg ?_
 refine rA ?_ (x := cM Cp.ptr)
 refine rA ?_ (x := sM)
 refine rA ?_ (x := B_add)
 refine rA ?_ (x := loc_xcall0 (bx := 0) (qs := [(false, [PV.val _])]) (as_ := [(false, [PV.val _])]) (by decide) FDrw_c_58 rfl (by exact (And.intro (by exact ⟨⟩) True.intro)) (by exact (And.intro (And.intro rfl (ToL.cons (PV.To.refl _) ToL.nil)) True.intro)) (by exact (BorL.cons (hbo _) (BorL.cons (PV.bor_val _) (BorL.cons (PV.bor_val _) BorL.nil)))) (by exact (borA_cons (BorL.cons (PV.bor_val _) BorL.nil) borA_nil)) (by exact (x_l1Below hbo (by omega))))
 refine rA ?_ (x := sA)
 refine sw_block ?_
 refine sO [(0, _), (1, _), (4, _), (5, _), (6, _), (7, _), (5000, _)] [(0, _)] ?_
 refine sw_loop (l0 := [(0, RV.ptr 0 0), (1, RV.sv false [PV.val _]), (4, RV.sv false [PV.sl _ _]), (5000, RV.phi 0 _)]) (b0 := []) (fun k : Nat => (k : Int) ≤ (belowC (belowC c 3).2 (most + 1)).1) (fun k : Nat => [(5, RV.slc (.own 33 2) ((rowsTo (belowC c 3).1 (belowC (belowC c 3).2 (most + 1)).2 k).l.map (cRow (.own 3 1)))), (6, RV.int (rowsTo (belowC c 3).1 (belowC (belowC c 3).2 (most + 1)).2 k).id), (7, RV.int ((belowC (belowC c 3).2 (most + 1)).1 - (k : Int)))]) (fun k : Nat => [(0, (88, cCur o (rowsTo (belowC c 3).1 (belowC (belowC c 3).2 (most + 1)).2 k).c))]) (fun k : Nat => ((belowC (belowC c 3).2 (most + 1)).1 - (k : Int)).toNat) 0 (by omega) (by exact ⟨rfl, rfl, rfl, rfl, ⟨⟩⟩) (by exact ⟨⟩) (by exact And.intro (by exact rfl) (And.intro (by exact rfl) (And.intro (by exact int_eq (by omega)) (True.intro)))) (by exact And.intro (by exact rfl) (True.intro)) ?_
 rintro k hk
 have hid := rowsTo_id (id := (belowC c 3).1) (c := (belowC (belowC c 3).2 (most + 1)).2) (k := k) (by omega)
 have hln := rowsTo_len (id := (belowC c 3).1) (c := (belowC (belowC c 3).2 (most + 1)).2) (k := k)
 have hb3 := belowC_ge (rowC (rowsTo (belowC c 3).1 (belowC (belowC c 3).2 (most + 1)).2 k).c (rowsTo (belowC c 3).1 (belowC (belowC c 3).2 (most + 1)).2 k).id).2 3
 have hb4 := belowC_lt (rowC (rowsTo (belowC c 3).1 (belowC (belowC c 3).2 (most + 1)).2 k).c (rowsTo (belowC c 3).1 (belowC (belowC c 3).2 (most + 1)).2 k).id).2 (n := 3) (by decide)
 refine sw_seq ?_
 refine sw_seq ?_
 refine sw_reg ?_
 refine rA ?_ (x := sM)
 refine rA ?_ (x := B_gtr)
 refine sw_cond (t := 16) rfl (fun hb1 => ?_) (fun hb1 => ?_)
 ·try simp only [q1, q2, q3, q4, q5, q6, q7, q8, q9] at hb1
  have hlt : (k : Int) < (belowC (belowC c 3).2 (most + 1)).1 := by omega
  refine sw_skip ?_
  refine sw_seq ?_
  refine sw_block ?_
  refine sw_seq ?_
  refine sO [(0, _), (1, _), (4, _), (5, _), (6, _), (7, _), (5000, _)] [(0, (88, [PV.sl o _, PV.val _, PV.val _]))] ?_
  refine sw_reg ?_
  refine rA ?_ (x := tM)
  refine rA ?_ (x := cM Cp.ptr)
  refine rA ?_ (x := sM)
  refine rA ?_ (x := loc_xcall0 (bx := 0) (qs := [(false, [PV.val _])]) (as_ := [(false, [PV.val _])]) (by decide) FDrw_c_78 rfl (by exact (And.intro (by exact ⟨⟩) True.intro)) (by exact (And.intro (And.intro rfl (ToL.cons (PV.To.refl _) ToL.nil)) True.intro)) (by exact (BorL.cons (hbo _) (BorL.cons (PV.bor_val _) (BorL.cons (PV.bor_val _) BorL.nil)))) (by exact (borA_cons (BorL.cons (PV.bor_val _) BorL.nil) borA_nil)) (by exact (x_l3Row hbo)))
  refine rA ?_ (x := loc_bslice (qs := [(true, [PV.val _, PV.sl _ _])]) (by decide) FDrw_sl_39 FDrw_z_33 (by decide) rfl rfl rfl rfl rfl (by exact Nat.le_of_ble_eq_true rfl) (by exact (And.intro (by exact ⟨⟩) True.intro)) rfl)
  refine rA ?_ (x := loc_append (by decide) FDrw_sl_39 FDrw_z_33 rfl rfl (by decide) rfl (by simp only [List.length_map, List.length_append, List.length_cons, List.length_nil]; omega) (by simp only [List.length_map, List.length_append, List.length_cons, List.length_nil]; omega))
  refine rA ?_ (x := tA)
  refine sO [(0, _), (1, _), (4, _), (5, _), (6, _), (7, _), (5000, _)] [(0, _)] ?_
  refine sw_reg ?_
  refine rA ?_ (x := sM)
  refine rA ?_ (x := B_add)
  refine rA ?_ (x := cM Cp.ptr)
  refine rA ?_ (x := loc_xcall0 (bx := 0) (qs := [(false, [PV.val _])]) (as_ := [(false, [PV.val _])]) (by decide) FDrw_c_58 rfl (by exact (And.intro (ok_sc rfl) True.intro)) (by exact (And.intro (And.intro rfl (ToL.cons (PV.To.refl _) ToL.nil)) True.intro)) (by exact (BorL.cons (hbo _) (BorL.cons (PV.bor_val _) (BorL.cons (PV.bor_val _) BorL.nil)))) (by exact (borA_cons (BorL.cons (PV.bor_val _) BorL.nil) borA_nil)) (by exact (x_l1Below hbo (by omega))))
  refine rA ?_ (x := B_add)
  refine rA ?_ (x := sA)
  refine sO [(0, _), (1, _), (4, _), (5, _), (6, _), (7, _), (5000, _)] [(0, _)] ?_
  refine sw_reg ?_
  refine rA ?_ (x := sM)
  refine rA ?_ (x := B_sub)
  refine rA ?_ (x := sA)
  refine Exists.intro (k + 1) (And.intro (by omega) (And.intro (by omega) (And.intro (And.intro (by exact ⟨rfl, rfl, rfl, rfl, ⟨⟩⟩) (by exact ⟨⟩)) (And.intro (by exact And.intro (by exact slc_eq (by simp only [rowsTo, List.map_append]; rfl)) (And.intro (by exact rfl) (And.intro (by exact int_eq (by omega)) (True.intro)))) (by exact And.intro (by exact rfl) (True.intro))))))
 ·try simp only [q1, q2, q3, q4, q5, q6, q7, q8, q9] at hb1
  have hend : (belowC (belowC c 3).2 (most + 1)).1.toNat = k := by omega
  refine sw_exit ?_
  refine sw_seq ?_
  refine sO [(0, _), (1, _), (4, _), (5, _), (6, _), (7, _), (5000, _)] [(0, (88, [PV.sl o _, PV.val _, PV.val _]))] ?_
  refine sw_reg ?_
  refine rA ?_ (x := tM)
  refine rA ?_ (x := tA)
  refine sw_ret ?_
  exact ⟨(by show _ = some (88, cCur o (rowsTo (belowC c 3).1 (belowC (belowC c 3).2 (most + 1)).2 (belowC (belowC c 3).2 (most + 1)).1.toNat).c); rw [hend]; exact rfl), rfl, (And.intro (by refine slc_eq ?_; show _ = List.map _ (rowsTo _ _ _).l; rw [hend]) True.intro)⟩
theorem x_l3Any {c : Cur}  : XCall Try.prog 70 88 (cCur .v c) (cCur .v (anyC c).2) [] (resRV [(true, [PV.val (vI (anyC c).1.Id), PV.sl (.own 3 1) ((anyC c).1.Values.map cInt)])]) := by
 refine xcall_of (rs := [(true, [PV.val (vI (anyC c).1.Id), PV.sl (.own 3 1) ((anyC c).1.Values.map cInt)])]) Try.func70 rfl (Nat.le_of_ble_eq_true rfl) (Nat.le_of_ble_eq_true rfl) ?_
 intro g_ h0 w0 Fz0
 refine sw_lowB (fun L => [(0, RV.ptr 0 0), (5000, RV.phi 0 g_)]) (fun L => [(0, (88, [PV.sl (.lo L) (c.b.map cU8), PV.val (vI (c.i : Int)), PV.val (vI c.h)]))]) (fun L => by exact (LowS.cons LowR.ptr (LowS.cons LowR.phi True.intro))) (fun L => by exact (LowB1.cons (ToBL.cons (PV.tob_map (fun _ => Nat.le_of_ble_eq_true rfl) (fun _ => (ToBL.cons PV.tob_refl ToBL.nil))) (ToBL.cons PV.tob_refl (ToBL.cons PV.tob_refl ToBL.nil))) (BorL.cons (PV.bor_lo _ _) (BorL.cons (PV.bor_val _) (BorL.cons (PV.bor_val _) BorL.nil))) True.intro)) fun Bl w0 Fz0 => ?_
 have hv3 : (anyR c).1.Values.length = 3 := valsC_len
 have hv4 : (rowC (belowC c 9).2 (belowC c 9).1).1.Values.length = 3 := valsC_len
 have hv0 : 0 < (anyR c).1.Values.length := by omega
 refine sw_seq ?_
 refine sw_reg ?_
 refine RunS.step (by exact ⟨⟩) (by exact ⟨⟩) (LocG.of rfl (loc_alloc (by decide) FDrw_z_33 FDrw_zo_33)) (free1 (Free.of_ rfl)) ?_
 refine sw_seq ?_
 refine sO [(0, _), (2, _), (5000, _)] [(0, (88, [PV.sl (.lo _) _, PV.val _, PV.val _])), (2, (33, [PV.val _, PV.sl _ _]))] ?_
 refine sw_reg ?_
 refine rA ?_ (x := cM Cp.ptr)
 refine rA ?_ (x := cM Cp.ptr)
 refine rA ?_ (x := loc_xcall0 (bx := 0) (qs := [(false, [PV.val _])]) (as_ := [(false, [PV.val _])]) (by decide) FDrw_c_58 rfl (by exact (And.intro (ok_sc rfl) True.intro)) (by exact (And.intro (And.intro rfl (ToL.cons (PV.To.refl _) ToL.nil)) True.intro)) (by exact (BorL.cons (PV.bor_lo _ _) (BorL.cons (PV.bor_val _) (BorL.cons (PV.bor_val _) BorL.nil)))) (by exact (borA_cons (BorL.cons (PV.bor_val _) BorL.nil) borA_nil)) (by exact (x_l1Below (fun es => PV.bor_lo _ es) (by omega))))
 refine rA ?_ (x := loc_xcall0 (bx := 0) (qs := [(false, [PV.val _])]) (as_ := [(false, [PV.val _])]) (by decide) FDrw_c_78 rfl (by exact (And.intro (by exact ⟨⟩) True.intro)) (by exact (And.intro (And.intro rfl (ToL.cons (PV.To.refl _) ToL.nil)) True.intro)) (by exact (BorL.cons (PV.bor_lo _ _) (BorL.cons (PV.bor_val _) (BorL.cons (PV.bor_val _) BorL.nil)))) (by exact (borA_cons (BorL.cons (PV.bor_val _) BorL.nil) borA_nil)) (by exact (x_l3Row (fun es => PV.bor_lo _ es))))
 refine RunS.step (by exact ⟨⟩) (by exact ⟨⟩) (LocG.of rfl (loc_alloc (by decide) FDrw_z_33 FDrw_zo_33)) (free1 (Free.app (Free.app (Free.app (Free.app (Free.of_ rfl) rfl) rfl) rfl) rfl)) ?_
 refine rA ?_ (x := loc_store (ag := true) (vs := [PV.val _, PV.sl _ _]) FDrw_ty_33 (by exact ⟨⟩) (by exact rfl) (by exact Nat.le_of_ble_eq_true rfl))
 refine sw_seq ?_
 refine sw_seq ?_
 refine sO [(0, _), (2, _), (3, _), (5000, _)] [(0, _), (2, _), (3, (33, [PV.val _, PV.sl _ _]))] ?_
 refine sw_reg ?_
 refine rA ?_ (x := cM Cp.ptr)
 refine rA ?_ (x := loc_xcall0 (bx := 0) (qs := [(false, [PV.val _])]) (as_ := [(false, [PV.val _])]) (by decide) FDrw_c_58 rfl (by exact (And.intro (ok_sc rfl) True.intro)) (by exact (And.intro (And.intro rfl (ToL.cons (PV.To.refl _) ToL.nil)) True.intro)) (by exact (BorL.cons (PV.bor_lo _ _) (BorL.cons (PV.bor_val _) (BorL.cons (PV.bor_val _) BorL.nil)))) (by exact (borA_cons (BorL.cons (PV.bor_val _) BorL.nil) borA_nil)) (by exact (x_l1Below (fun es => PV.bor_lo _ es) (by omega))))
 refine sw_block ?_
 refine sw_seq ?_
 refine sO [(0, _), (2, _), (3, _), (9, _), (5000, _)] [(0, _), (2, _), (3, _)] ?_
 refine sw_reg ?_
 refine rA ?_ (x := B_eql)
 refine rA ?_ (x := sA)
 refine sw_cond (t := 10) rfl (fun hb1 => ?_) (fun hb1 => ?_)
 ·try simp only [q1, q2, q3, q4, q5, q6, q7, q8, q9] at hb1
  have hr := anyC_0 (c := c) hb1
  refine sO [(0, _), (2, _), (3, _), (9, _), (5000, _)] [(0, _), (2, _), (3, _)] ?_
  refine sw_reg ?_
  refine rA ?_ (x := cM Cp.ptr)
  refine rA ?_ (x := loc_bslice (qs := [(false, [PV.val _]), (false, [PV.val _]), (false, [PV.val _])]) (by decide) FDrw_sl_31 FDrw_z_3 (by decide) rfl rfl rfl rfl rfl (by exact Nat.le_of_ble_eq_true rfl) (by exact (And.intro (ok_sc rfl) (And.intro (ok_sc rfl) (And.intro (ok_sc rfl) True.intro)))) rfl)
  refine rA ?_ (x := loc_xcall0 (bx := 0) (qs := [(false, [PV.sl _ _])]) (as_ := [(false, [PV.sl .v _])]) (by decide) FDrw_c_41 rfl (by exact (And.intro (by exact ⟨⟩) True.intro)) (by exact (And.intro (And.intro rfl (ToL.cons PV.to_none ToL.nil)) True.intro)) (by exact (BorL.cons (PV.bor_lo _ _) (BorL.cons (PV.bor_val _) (BorL.cons (PV.bor_val _) BorL.nil)))) (by exact (borA_cons (BorL.cons (PV.bor_sl _) BorL.nil) borA_nil)) (by exact (x_l1PickInt (l := [-1, 999, 1000]) (fun es => PV.bor_lo _ es) (by decide) (by decide))))
  refine rA ?_ (x := lF FDrw_fd_33_0)
  refine rA ?_ (x := loc_store (ag := false) (vs := [PV.val _]) FDrw_ty_3 (by exact ⟨⟩) (by exact rfl) (by exact Nat.le_of_ble_eq_true rfl))
  refine sw_seq ?_
  refine sO [(0, _), (2, _), (3, _), (9, _), (5000, _)] [(0, _), (2, _), (3, (33, [PV.val _, PV.sl _ _]))] ?_
  refine sw_reg ?_
  refine rA ?_ (x := loc_ltake (ms := [PV.val _, PV.sl _ _]) (qs := [PV.val _, PV.sl .v _]) (by decide) FDrw_ty_33 (fun h => nomatch h) (by exact Nat.le_of_ble_eq_true rfl) (by exact rfl) (by exact (ToL.cons (PV.To.refl _) (ToL.cons PV.to_none ToL.nil))) (by exact (BorL.cons (PV.bor_val _) (BorL.cons (PV.bor_sl _) BorL.nil))))
  refine rA ?_ (x := loc_store (ag := true) (vs := [PV.val _, PV.sl _ _]) FDrw_ty_33 (by exact ⟨⟩) (by exact rfl) (by exact Nat.le_of_ble_eq_true rfl))
  refine sw_boxO (d := 0) [PV.sl .v _, PV.val _, PV.val _] (by exact rfl) (by exact (OwnTo.cons OTo.lo (OwnTo.cons OTo.refl (OwnTo.cons OTo.refl OwnTo.nil)))) ?_
  refine sw_ret ?_
  exact ⟨(by rw [hr]; exact rfl), rfl, (Exists.intro 2 (Exists.intro _ (And.intro (by exact rfl) (And.intro (by refine box_eq ?_; rw [hr]; try first | exact rfl | (simp only [List.map_append]; exact rfl)) (And.intro FDrw_ty_33 (And.intro (fun h => nomatch h) True.intro))))))⟩
 ·try simp only [q1, q2, q3, q4, q5, q6, q7, q8, q9] at hb1
  have h0_ := hb1
  refine sw_seq ?_
  refine sO [(0, _), (2, _), (3, _), (9, _), (5000, _)] [(0, _), (2, _), (3, _)] ?_
  refine sw_reg ?_
  refine rA ?_ (x := B_eql)
  refine rA ?_ (x := sA)
  refine sw_cond (t := 16) rfl (fun hb2 => ?_) (fun hb2 => ?_)
  ·try simp only [q1, q2, q3, q4, q5, q6, q7, q8, q9] at hb2
   have hr := anyC_1 (c := c) h0_ hb2
   refine sO [(0, _), (2, _), (3, _), (9, _), (5000, _)] [(0, _), (2, _), (3, _)] ?_
   refine sw_thawB (d := 3) (t := 33) (D := 900) (G := 2900) (E := 3) (e := 1) (L := Bl) (A := [PV.val _]) (B := []) (es := ((anyR c).1.Values).map cInt) (by exact rfl) (map_ne hv0) (by exact rfl) (by exact rfl) rfl (by exact rfl) (fun x hx => hx) (by exact (And.intro RV.lcl_ptr (And.intro RV.lcl_ptr (And.intro RV.lcl_ptr (And.intro (RV.lcl_sv (LclC.cons PV.lcl_val LclC.nil)) (And.intro RV.lcl_phi True.intro)))))) (by exact (And.intro (.inr (LclC.cons (PV.lcl_lo (LclRC.map fun x => (LclRC.cons PV.lclr_val LclRC.nil))) (LclC.cons PV.lcl_val (LclC.cons PV.lcl_val LclC.nil)))) (And.intro (.inr (LclC.cons PV.lcl_val (LclC.cons (PV.lcl_own (by first | exact (LclC.map fun x => (LclC.cons PV.lcl_val LclC.nil)) | exact (fun cs h => nomatch h))) LclC.nil))) (And.intro (.inl rfl) True.intro)))) (by exact (LclC.cons PV.lcl_val LclC.nil)) (by exact LclC.nil) (LclC.map fun x => (LclC.cons PV.lcl_val LclC.nil)) fun uu900 cp900 jk900 hlD900 hcp900 hjk900 => ?_
   rw [List.length_map] at hlD900 hcp900 hjk900
   refine sw_boxEq (d := 900) (by exact rfl) (at_split (k := 0) hv0) ?_
   have hA900 := at_len (f := cInt) (e := 1) (xs := (anyR c).1.Values) (k := 0) (fun _ => rfl) (Nat.le_of_lt hv0)
   refine sO [(0, _), (2, _), (3, _), (9, _), (2900, _), (5000, _)] [(0, _), (2, _), (3, (33, [PV.val _, PV.val _])), (900, (3, _ ++ ([PV.val _] ++ _)))] ?_
   refine sw_draw hm_ ?_
   refine dA 0 ?_ (x := lF FDrw_fd_33_1)
   refine dA 1 ?_ (x := lD [PV.val _] FDrw_ty_31)
   refine dA 0 ?_ (x := cM Cp.ptr)
   refine dA 0 ?_ (x := loc_bslice (qs := [(false, [PV.val _]), (false, [PV.val _]), (false, [PV.val _])]) (by decide) FDrw_sl_31 FDrw_z_3 (by decide) rfl rfl rfl rfl rfl (by exact Nat.le_of_ble_eq_true rfl) (by exact (And.intro (ok_sc rfl) (And.intro (ok_sc rfl) (And.intro (ok_sc rfl) True.intro)))) rfl)
   refine dA 12 ?_ (x := loc_xcall0 (bx := 0) (qs := [(false, [PV.sl _ _])]) (as_ := [(false, [PV.sl .v _])]) (by decide) FDrw_c_41 rfl (by exact (And.intro (by exact ⟨⟩) True.intro)) (by exact (And.intro (And.intro rfl (ToL.cons PV.to_none ToL.nil)) True.intro)) (by exact (BorL.cons (PV.bor_lo _ _) (BorL.cons (PV.bor_val _) (BorL.cons (PV.bor_val _) BorL.nil)))) (by exact (borA_cons (BorL.cons (PV.bor_sl _) BorL.nil) borA_nil)) (by exact (x_l1PickInt (l := [-1, 99, 100]) (fun es => PV.bor_lo _ es) (by decide) (by decide))))
   refine dA 31 ?_ (x := loc_gidx (k := 0) (G := 2900) (by decide) FDrw_sl_31 (ok_sc rfl) (by rfl) (by first | (rw [List.length_map]; exact hv0) | exact hv0))
   refine dA 63 ?_ (x := loc_storeM (o := 0) (ag := false) (vs := [PV.val _]) (by omega) FDrw_ty_3 (by exact ⟨⟩) (by exact rfl) (by exact Nat.le_of_ble_eq_true rfl))
   refine sw_boxEq (d := 900) (by exact rfl) (at_join ((pickC (anyB c).2 [-1, 99, 100]).1) hv0 (by exact rfl)) ?_
   refine sw_frzIn (d := 3) (D := 900) (G := 2900) (A := [PV.val _]) (B := []) (es := (((anyR c).1.Values).set 0 ((pickC (anyB c).2 [-1, 99, 100]).1)).map cInt) (by exact rfl) (by exact rfl) (by exact rfl) rfl (by rw [List.length_map, List.length_set, List.length_map]) (by intro c hc; obtain ⟨y, _, rfl⟩ := List.mem_map.1 hc; exact rfl) (by rw [List.length_map]; exact hjk900) ?_
   refine sw_seq ?_
   refine sO [(0, _), (2, _), (3, _), (9, _), (5000, _)] [(0, _), (2, _), (3, (33, [PV.val _, PV.sl _ _]))] ?_
   refine sw_reg ?_
   refine rA ?_ (x := loc_ltake (ms := [PV.val _, PV.sl _ _]) (qs := [PV.val _, PV.sl .v _]) (by decide) FDrw_ty_33 (fun h => nomatch h) (by exact Nat.le_of_ble_eq_true rfl) (by exact rfl) (by exact (ToL.cons (PV.To.refl _) (ToL.cons PV.to_none ToL.nil))) (by exact (BorL.cons (PV.bor_val _) (BorL.cons (PV.bor_sl _) BorL.nil))))
   refine rA ?_ (x := loc_store (ag := true) (vs := [PV.val _, PV.sl _ _]) FDrw_ty_33 (by exact ⟨⟩) (by exact rfl) (by exact Nat.le_of_ble_eq_true rfl))
   refine sw_boxO (d := 0) [PV.sl .v _, PV.val _, PV.val _] (by exact rfl) (by exact (OwnTo.cons OTo.lo (OwnTo.cons OTo.refl (OwnTo.cons OTo.refl OwnTo.nil)))) ?_
   refine sw_ret ?_
   exact ⟨(by rw [hr]; exact rfl), rfl, (Exists.intro 2 (Exists.intro _ (And.intro (by exact rfl) (And.intro (by refine box_eq ?_; rw [hr]; try first | exact rfl | (simp only [List.map_append]; exact rfl)) (And.intro FDrw_ty_33 (And.intro (fun h => nomatch h) True.intro))))))⟩
  ·try simp only [q1, q2, q3, q4, q5, q6, q7, q8, q9] at hb2
   have h1_ := hb2
   refine sw_seq ?_
   refine sO [(0, _), (2, _), (3, _), (9, _), (5000, _)] [(0, _), (2, _), (3, _)] ?_
   refine sw_reg ?_
   refine rA ?_ (x := B_eql)
   refine rA ?_ (x := sA)
   refine sw_cond (t := 24) rfl (fun hb3 => ?_) (fun hb3 => ?_)
   ·try simp only [q1, q2, q3, q4, q5, q6, q7, q8, q9] at hb3
    have hr := anyC_2 (c := c) h0_ h1_ hb3
    refine sO [(0, _), (2, _), (3, _), (9, _), (5000, _)] [(0, _), (2, _), (3, _)] ?_
    refine sw_reg ?_
    refine rA ?_ (x := lF FDrw_fd_33_1)
    refine rA ?_ (x := loc_ltake (ms := [PV.sl _ _]) (qs := [PV.sl .v _]) (by decide) FDrw_ty_31 (fun _ => rfl) (by exact Nat.le_of_ble_eq_true rfl) (by exact rfl) (by exact (ToL.cons PV.to_none ToL.nil)) (by exact (BorL.cons (PV.bor_sl _) BorL.nil)))
    refine rA ?_ (x := loc_bslice (qs := [(false, [PV.val _])]) (by decide) FDrw_sl_31 FDrw_z_3 (by decide) rfl rfl rfl rfl rfl (by exact Nat.le_of_ble_eq_true rfl) (by exact (And.intro (ok_sc rfl) True.intro)) rfl)
    refine rA ?_ (x := loc_append (by decide) FDrw_sl_31 FDrw_z_3 rfl rfl (by decide) rfl (by simp only [List.length_map, List.length_append, List.length_cons, List.length_nil]; omega) (by simp only [List.length_map, List.length_append, List.length_cons, List.length_nil]; omega))
    refine rA ?_ (x := lF FDrw_fd_33_1)
    refine rA ?_ (x := loc_store (ag := false) (vs := [PV.sl _ _]) FDrw_ty_31 (by exact ⟨⟩) (by exact rfl) (by exact Nat.le_of_ble_eq_true rfl))
    refine sw_seq ?_
    refine sO [(0, _), (2, _), (3, _), (9, _), (5000, _)] [(0, _), (2, _), (3, (33, [PV.val _, PV.sl _ _]))] ?_
    refine sw_reg ?_
    refine rA ?_ (x := loc_ltake (ms := [PV.val _, PV.sl _ _]) (qs := [PV.val _, PV.sl .v _]) (by decide) FDrw_ty_33 (fun h => nomatch h) (by exact Nat.le_of_ble_eq_true rfl) (by exact rfl) (by exact (ToL.cons (PV.To.refl _) (ToL.cons PV.to_none ToL.nil))) (by exact (BorL.cons (PV.bor_val _) (BorL.cons (PV.bor_sl _) BorL.nil))))
    refine rA ?_ (x := loc_store (ag := true) (vs := [PV.val _, PV.sl _ _]) FDrw_ty_33 (by exact ⟨⟩) (by exact rfl) (by exact Nat.le_of_ble_eq_true rfl))
    refine sw_boxO (d := 0) [PV.sl .v _, PV.val _, PV.val _] (by exact rfl) (by exact (OwnTo.cons OTo.lo (OwnTo.cons OTo.refl (OwnTo.cons OTo.refl OwnTo.nil)))) ?_
    refine sw_ret ?_
    exact ⟨(by rw [hr]; exact rfl), rfl, (Exists.intro 2 (Exists.intro _ (And.intro (by exact rfl) (And.intro (by refine box_eq ?_; rw [hr]; try first | exact rfl | (simp only [List.map_append]; exact rfl)) (And.intro FDrw_ty_33 (And.intro (fun h => nomatch h) True.intro))))))⟩
   ·try simp only [q1, q2, q3, q4, q5, q6, q7, q8, q9] at hb3
    have hr := anyC_3 (c := c) h0_ h1_ hb3
    refine sw_skip ?_
    refine sw_seq ?_
    refine sO [(0, _), (2, _), (3, _), (9, _), (5000, _)] [(0, _), (2, _), (3, _)] ?_
    refine sw_reg ?_
    refine rA ?_ (x := loc_ltake (ms := [PV.val _, PV.sl _ _]) (qs := [PV.val _, PV.sl .v _]) (by decide) FDrw_ty_33 (fun h => nomatch h) (by exact Nat.le_of_ble_eq_true rfl) (by exact rfl) (by exact (ToL.cons (PV.To.refl _) (ToL.cons PV.to_none ToL.nil))) (by exact (BorL.cons (PV.bor_val _) (BorL.cons (PV.bor_sl _) BorL.nil))))
    refine rA ?_ (x := loc_store (ag := true) (vs := [PV.val _, PV.sl _ _]) FDrw_ty_33 (by exact ⟨⟩) (by exact rfl) (by exact Nat.le_of_ble_eq_true rfl))
    refine sw_boxO (d := 0) [PV.sl .v _, PV.val _, PV.val _] (by exact rfl) (by exact (OwnTo.cons OTo.lo (OwnTo.cons OTo.refl (OwnTo.cons OTo.refl OwnTo.nil)))) ?_
    refine sw_ret ?_
    exact ⟨(by rw [hr]; exact rfl), rfl, (Exists.intro 2 (Exists.intro _ (And.intro (by exact rfl) (And.intro (by refine box_eq ?_; rw [hr]; try first | exact rfl | (simp only [List.map_append]; exact rfl)) (And.intro FDrw_ty_33 (And.intro (fun h => nomatch h) True.intro))))))⟩
end Go.Proofs.Ytaomckpfgmhapaa
