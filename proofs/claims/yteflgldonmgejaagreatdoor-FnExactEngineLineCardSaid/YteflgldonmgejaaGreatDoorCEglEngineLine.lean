/- What functions of the program compute. No condition. -/
import Derived.Test.YteflgldonmgejaaGreatDoorCEngEngineLine
import Derived.Test.YteflgldonmgejaaGreatDoorCNumEngineLine
import Derived.Test.YteflgldonmgejaaGreatDoorCDel
import Derived.KernelRfl
set_option linter.unusedVariables false
set_option linter.unusedSimpArgs false
namespace Go.Proofs.YteflgldonmgejaaGreatDoor
open Go Go.RowKit M
set_option maxRecDepth 10000
attribute [local irreducible] PV.Lcl PV.LclR RV.Lcl
theorem FEgl_c_30 : callI Tryz.prog 30 = true := by kernel_rfl
theorem FEgl_c_31 : callI Tryz.prog 31 = true := by kernel_rfl
theorem FEgl_c_32 : callI Tryz.prog 32 = true := by kernel_rfl
theorem FEgl_c_38 : callI Tryz.prog 38 = true := by kernel_rfl
theorem FEgl_c_39 : callI Tryz.prog 39 = true := by kernel_rfl
theorem FEgl_c_40 : callI Tryz.prog 40 = true := by kernel_rfl
theorem FEgl_c_41 : callI Tryz.prog 41 = true := by kernel_rfl
theorem FEgl_c_86 : callI Tryz.prog 86 = true := by kernel_rfl
theorem FEgl_fd_35_0 : fieldI Tryz.prog 35 0 = some 0 := by kernel_rfl
theorem FEgl_fd_35_1 : fieldI Tryz.prog 35 1 = some 1 := by kernel_rfl
theorem FEgl_fd_40_0 : fieldI Tryz.prog 40 0 = some 0 := by kernel_rfl
theorem FEgl_fd_40_1 : fieldI Tryz.prog 40 1 = some 2 := by kernel_rfl
theorem FEgl_fd_40_3 : fieldI Tryz.prog 40 3 = some 4 := by kernel_rfl
theorem FEgl_fd_40_4 : fieldI Tryz.prog 40 4 = some 5 := by kernel_rfl
theorem FEgl_fd_40_6 : fieldI Tryz.prog 40 6 = some 7 := by kernel_rfl
theorem FEgl_sl_138 : sliceI Tryz.prog 138 = some (195, 4, 48) := by kernel_rfl
theorem FEgl_sl_33 : sliceI Tryz.prog 33 = some (138, 1, 24) := by kernel_rfl
theorem FEgl_sl_36 : sliceI Tryz.prog 36 = some (85, 10, 144) := by kernel_rfl
theorem FEgl_sl_37 : sliceI Tryz.prog 37 = some (132, 7, 104) := by kernel_rfl
theorem FEgl_sl_44 : sliceI Tryz.prog 44 = some (9, 1, 16) := by kernel_rfl
theorem FEgl_ty_138 : tyI Tryz.prog 138 = some (false, 1) := by kernel_rfl
theorem FEgl_ty_3 : tyI Tryz.prog 3 = some (false, 1) := by kernel_rfl
theorem FEgl_ty_33 : tyI Tryz.prog 33 = some (false, 1) := by kernel_rfl
theorem FEgl_ty_35 : tyI Tryz.prog 35 = some (true, 2) := by kernel_rfl
theorem FEgl_ty_36 : tyI Tryz.prog 36 = some (false, 1) := by kernel_rfl
theorem FEgl_ty_37 : tyI Tryz.prog 37 = some (false, 1) := by kernel_rfl
theorem FEgl_ty_40 : tyI Tryz.prog 40 = some (true, 8) := by kernel_rfl
theorem FEgl_z_9 : zeroI Tryz.prog 9 = some (.string (B [])) := by kernel_rfl
theorem impl_CountVersions {p1 p2 : Fl} {s : Store}  (hb : wtStore s ≤ 68719476736) : SCall Tryz.prog 40 [(true, [PV.sl .v (s.Segments.map (cVersionS p1 p2)), PV.val (vI s.Now)])] (resRV [(false, [PV.val (vI ((cntV s : Nat) : Int))])]) := by
 refine scall_of (rs := [(false, [PV.val (vI ((cntV s : Nat) : Int))])]) Tryz.func40 rfl (Nat.le_of_ble_eq_true rfl) (borA_cons (BorL.cons (PV.bor_sl _) (BorL.cons (PV.bor_val _) BorL.nil)) borA_nil) ?_
 intro h0 w0 Fz0
 refine sw_slen (s := 0) (j := 0) rfl rfl fun hl0_0 => ?_
 try rw [List.length_map] at hl0_0
 refine sw_seq ?_
 refine sw_reg ?_
 refine RunS.step (by exact ⟨rfl, ⟨⟩⟩) (by exact ⟨⟩) (LocG.of rfl (loc_box (ag := true) (cs := [PV.sl _ _, PV.val _]) (by decide) (by exact ⟨⟩))) (free1 (Free.of_ rfl)) ?_
 refine rA ?_ (x := kA)
 refine sw_seq ?_
 refine sO [(1, _), (2, _)] [(1, (35, [PV.sl _ _, PV.val _]))] ?_
 refine sw_reg ?_
 refine rA ?_ (x := kA)
 refine sw_seq ?_
 refine sw_seq ?_
 refine sO [(1, _), (2, _), (3, _)] [(1, _)] ?_
 refine sw_reg ?_
 refine rA ?_ (x := lF FEgl_fd_35_0)
 refine rA ?_ (x := lD [PV.sl .v _] FEgl_ty_33)
 refine rA ?_ (x := lN FEgl_sl_33)
 refine rA ?_ (x := kM)
 refine sw_block ?_
 refine sO [(1, _), (2, _), (3, _), (7, _), (8, _), (9, _)] [(1, _)] ?_
 refine sw_loop (l0 := [(1, RV.ptr 1 0), (2, RV.sv false [PV.val _]), (7, RV.sv false [PV.sl _ _]), (8, RV.sv false [PV.val _])]) (b0 := [(1, (35, [PV.sl _ _, PV.val _]))]) (fun k : Nat => k ≤ s.Segments.length) (fun k : Nat => [(3, RV.int (cntTo s k : Nat)), (9, RV.int (k : Int))]) (fun k : Nat => []) (fun k : Nat => s.Segments.length - k) 0 (by omega) (by exact ⟨rfl, rfl, rfl, rfl, ⟨⟩⟩) (by exact ⟨rfl, ⟨⟩⟩) (by exact And.intro (by exact rfl) (And.intro (by exact rfl) (True.intro))) (by exact ⟨⟩) ?_
 rintro k hk
 refine sw_seq ?_
 refine sw_reg ?_
 refine rA ?_ (x := B_lss)
 refine sw_seq ?_
 refine sw_cond (t := 10) rfl (fun hb1 => ?_) (fun hb1 => ?_)
 ·try simp only [q1, q2, q3, q4, q5, q6, q7, q8, q9] at hb1
  have hlt : k < s.Segments.length := by omega
  have hcl := cntTo_le (s := s) (k + 1) hlt
  rw [cntTo_succ hlt] at hcl
  have hal : cntV s ≤ wtStore s := allV_len s
  refine sw_skip ?_
  refine sw_seq ?_
  refine sw_block ?_
  refine sw_seq ?_
  refine sO [(1, _), (2, _), (3, _), (7, _), (8, _), (9, _)] [(1, (35, [PV.sl _ _, PV.val _]))] ?_
  refine sw_reg ?_
  refine rA ?_ (x := loc_index (by decide) FEgl_sl_33 (by exact ⟨⟩) (by exact rfl) (by exact getm2 (by omega) rfl) (by exact rfl))
  refine rA ?_ (x := lE [PV.sl .v _] FEgl_ty_138)
  refine rA ?_ (x := vA false [PV.sl .v _])
  refine sO [(1, _), (2, _), (3, _), (5, _), (7, _), (8, _), (9, _)] [(1, _)] ?_
  refine sw_reg ?_
  refine rA ?_ (x := sM)
  refine rA ?_ (x := vM false [PV.sl .v _])
  refine rA ?_ (x := lN FEgl_sl_138)
  refine rA ?_ (x := B_add)
  refine rA ?_ (x := sA)
  refine sO [(1, _), (2, _), (3, _), (5, _), (7, _), (8, _), (9, _)] [(1, _)] ?_
  refine sw_reg ?_
  refine rA ?_ (x := B_add)
  refine rA ?_ (x := sM)
  refine Exists.intro (k + 1) (And.intro (by omega) (And.intro (by omega) (And.intro (And.intro (by exact ⟨rfl, rfl, rfl, rfl, ⟨⟩⟩) (by exact ⟨rfl, ⟨⟩⟩)) (And.intro (by exact And.intro (by exact int_eq (by rw [cntTo_succ hlt]; omega)) (And.intro (by exact rfl) (True.intro))) (by exact ⟨⟩)))))
 ·try simp only [q1, q2, q3, q4, q5, q6, q7, q8, q9] at hb1
  have hend : k = s.Segments.length := by omega
  refine sw_exit ?_
  refine sw_seq ?_
  refine sO [(1, _), (2, _), (3, _), (7, _), (8, _), (9, _)] [(1, (35, [PV.sl _ _, PV.val _]))] ?_
  refine sw_reg ?_
  refine rA ?_ (x := sM)
  refine rA ?_ (x := sA)
  refine sw_ret ?_
  exact (And.intro (by refine int_eq ?_; unfold cntTo; rw [hend, allV_end]; rfl) True.intro)
theorem spec_CountVersions {p1 p2 : Fl} {s : Store}  (hb : wtStore s ≤ 68719476736) : SCall Tryz.prog 32 [(true, [PV.sl .v (s.Segments.map (cVersionS p1 p2)), PV.val (vI s.Now)])] (resRV [(false, [PV.val (vI ((cntV s : Nat) : Int))])]) := by
 refine scall_of (rs := [(false, [PV.val (vI ((cntV s : Nat) : Int))])]) Tryz.func32 rfl (Nat.le_of_ble_eq_true rfl) (borA_cons (BorL.cons (PV.bor_sl _) (BorL.cons (PV.bor_val _) BorL.nil)) borA_nil) ?_
 intro h0 w0 Fz0
 refine sw_slen (s := 0) (j := 0) rfl rfl fun hl0_0 => ?_
 try rw [List.length_map] at hl0_0
 have hal := allV_len s
 refine sw_seq ?_
 refine sw_reg ?_
 refine RunS.step (by exact ⟨rfl, ⟨⟩⟩) (by exact ⟨⟩) (LocG.of rfl (loc_box (ag := true) (cs := [PV.sl _ _, PV.val _]) (by decide) (by exact ⟨⟩))) (free1 (Free.of_ rfl)) ?_
 refine rA ?_ (x := kA)
 refine sw_seq ?_
 refine sO [(1, _), (2, _)] [(1, (35, [PV.sl _ _, PV.val _]))] ?_
 refine sw_reg ?_
 refine rA ?_ (x := lD [PV.sl .v _, PV.val _] FEgl_ty_35)
 refine rA ?_ (x := cL [(true, [PV.sl _ _, PV.val _])] [(true, [PV.sl .v _, PV.val _])] FEgl_c_86 (hs := by exact spec_l7All (by omega)))
 refine rA ?_ (x := lN FEgl_sl_138)
 refine rA ?_ (x := sA)
 refine sw_ret ?_
 exact (And.intro (by exact rfl) True.intro)
theorem impl_EngineLine {p1 p2 p5 p6 p7 p8 p9 p11 p12 p13 p14 p16 p17 p18 : Fl} {e : Engine}  (hb : wtEngine e ≤ 68719476736) : GCall Tryz.prog gl 10 [(true, [PV.sl .v (e.Store.Segments.map (cVersionS p1 p2)), PV.val (vI e.Store.Now), PV.val (vI e.Cursor), PV.sl .v (e.Order.map cInt), PV.sl .v (e.Active.map (cActive p5 p6 p7 p8 p9)), PV.sl .v (e.Done.map (cFinished p11 p12 p13 p14)), PV.sl .v (e.Ledger.map (cCharge p16 p17 p18)), PV.val (vI e.Steps)])] (resRV [(false, [PV.val (.string (B (engLine e)))])]) := by
 refine gcall_of (rs := [(false, [PV.val (.string (B (engLine e)))])]) Tryz.func10 rfl (Nat.le_of_ble_eq_true rfl) (borA_cons (BorL.cons (PV.bor_sl _) (BorL.cons (PV.bor_val _) (BorL.cons (PV.bor_val _) (BorL.cons (PV.bor_sl _) (BorL.cons (PV.bor_sl _) (BorL.cons (PV.bor_sl _) (BorL.cons (PV.bor_sl _) (BorL.cons (PV.bor_val _) BorL.nil)))))))) borA_nil) ?_
 intro h0 w0 Fz0
 refine sw_slen (s := 0) (j := 0) rfl rfl fun hl0_0 => ?_
 try rw [List.length_map] at hl0_0
 refine sw_slen (s := 0) (j := 3) rfl rfl fun hl0_3 => ?_
 try rw [List.length_map] at hl0_3
 refine sw_slen (s := 0) (j := 4) rfl rfl fun hl0_4 => ?_
 try rw [List.length_map] at hl0_4
 refine sw_slen (s := 0) (j := 5) rfl rfl fun hl0_5 => ?_
 try rw [List.length_map] at hl0_5
 refine sw_slen (s := 0) (j := 6) rfl rfl fun hl0_6 => ?_
 try rw [List.length_map] at hl0_6
 have hbu := hb
 simp only [wtEngine] at hbu
 refine sw_seq ?_
 refine sw_reg ?_
 refine RunS.step (by exact ⟨rfl, ⟨⟩⟩) (by exact ⟨⟩) (LocG.of rfl (loc_box (ag := true) (cs := [PV.sl _ _, PV.val _, PV.val _, PV.sl _ _, PV.sl _ _, PV.sl _ _, PV.sl _ _, PV.val _]) (by decide) (by exact ⟨⟩))) (free1 (Free.of_ rfl)) ?_
 refine rA ?_ (x := kA)
 refine sw_seq ?_
 refine sw_seq ?_
 refine sO [(1, _), (2, _), (7000, _)] [(1, (40, [PV.sl _ _, PV.val _, PV.val _, PV.sl _ _, PV.sl _ _, PV.sl _ _, PV.sl _ _, PV.val _]))] ?_
 refine sw_reg ?_
 refine rA ?_ (x := lD [PV.sl .v _, PV.val _, PV.val _, PV.sl .v _, PV.sl .v _, PV.sl .v _, PV.sl .v _, PV.val _] FEgl_ty_40)
 refine rA ?_ (x := cL [(true, [PV.sl _ _, PV.val _, PV.val _, PV.sl _ _, PV.sl _ _, PV.sl _ _, PV.sl _ _, PV.val _])] [(true, [PV.sl .v _, PV.val _, PV.val _, PV.sl .v _, PV.sl .v _, PV.sl .v _, PV.sl .v _, PV.val _])] FEgl_c_38 (hs := by exact (impl_IsEngine (by omega))))
 refine rA ?_ (x := nT)
 refine sw_cond (t := 6) rfl (fun hb1 => ?_) (fun hb1 => ?_)
 ·try simp only [q1, q2, q3, q4, q5, q6, q7, q8, q9] at hb1
  have hok : okEngine e = false := by simpa using hb1
  refine sw_seq ?_
  refine sO [(1, _), (2, _), (7000, _)] [(1, _)] ?_
  refine sw_reg ?_
  refine rA ?_ (x := kA)
  refine sw_ret ?_
  exact (And.intro (by refine sv_eq ?_; exact str_eq (by unfold engLine; rw [if_neg (by rw [hok]; simp)])) True.intro)
 ·try simp only [q1, q2, q3, q4, q5, q6, q7, q8, q9] at hb1
  have hok : okEngine e = true := by simpa using hb1
  have hef := eng_facts hok
  obtain ⟨a1, a2, a3, a4, a5, a6⟩ := sto_facts hef.1
  have hal : cntV e.Store ≤ wtStore e.Store := allV_len e.Store
  have hi0 : (itoa e.Steps).length ≤ 21 := itoa_len (by unfold I64; omega)
  have hi1 : (itoa e.Cursor).length ≤ 21 := itoa_len (by unfold I64; omega)
  have hi2 : (itoa e.Store.Now).length ≤ 21 := itoa_len (by unfold I64; omega)
  have hi3 : (itoa (cntV e.Store : Int)).length ≤ 21 := itoa_len (by unfold I64; omega)
  have hi4 : (itoa (e.Active.length : Int)).length ≤ 21 := itoa_len (by unfold I64; omega)
  have hi5 : (itoa (e.Done.length : Int)).length ≤ 21 := itoa_len (by unfold I64; omega)
  have hjl : (joinB (engWords e) [32]).length ≤ 1000 := engJ_le hi0 hi1 hi2 hi3 hi4 hi5
  refine sw_skip ?_
  refine sw_seq ?_
  refine sO [(1, _), (2, _), (7000, _)] [(1, _)] ?_
  refine sw_draw hm_ ?_
  refine dA 0 ?_ (x := lF FEgl_fd_40_6)
  refine dA 1 ?_ (x := lD [PV.val _] FEgl_ty_3)
  refine dA 3 ?_ (x := gL [(false, [PV.val _])] [(false, [PV.val _])] FEgl_c_39 (hs := by exact (impl_FormatInt (by unfold I64; omega))))
  refine dA 0 ?_ (x := lF FEgl_fd_40_1)
  refine dA 8 ?_ (x := lD [PV.val _] FEgl_ty_3)
  refine dA 31 ?_ (x := gL [(false, [PV.val _])] [(false, [PV.val _])] FEgl_c_39 (hs := by exact (impl_FormatInt (by unfold I64; omega))))
  refine dA 0 ?_ (x := lF FEgl_fd_40_0)
  refine dA 64 ?_ (x := lF FEgl_fd_35_1)
  refine dA 192 ?_ (x := lD [PV.val _] FEgl_ty_3)
  refine dA 511 ?_ (x := gL [(false, [PV.val _])] [(false, [PV.val _])] FEgl_c_39 (hs := by exact (impl_FormatInt (by unfold I64; omega))))
  refine dA 0 ?_ (x := lF FEgl_fd_40_0)
  refine dA 1024 ?_ (x := lD [PV.sl .v _, PV.val _] FEgl_ty_35)
  refine dA 4095 ?_ (x := cL [(true, [PV.sl _ _, PV.val _])] [(true, [PV.sl .v _, PV.val _])] FEgl_c_40 (hs := by exact (impl_CountVersions (by omega))))
  refine dA 8191 ?_ (x := gL [(false, [PV.val _])] [(false, [PV.val _])] FEgl_c_39 (hs := by exact (impl_FormatInt (by unfold I64; omega))))
  refine dA 0 ?_ (x := lF FEgl_fd_40_3)
  refine dA 16384 ?_ (x := lD [PV.sl .v _] FEgl_ty_36)
  refine dA 49152 ?_ (x := lN FEgl_sl_36)
  refine dA 131071 ?_ (x := gL [(false, [PV.val _])] [(false, [PV.val _])] FEgl_c_39 (hs := by exact (impl_FormatInt (by unfold I64; omega))))
  refine dA 0 ?_ (x := lF FEgl_fd_40_4)
  refine dA 262144 ?_ (x := lD [PV.sl .v _] FEgl_ty_37)
  refine dA 786432 ?_ (x := lN FEgl_sl_37)
  refine dA 2097151 ?_ (x := gL [(false, [PV.val _])] [(false, [PV.val _])] FEgl_c_39 (hs := by exact (impl_FormatInt (by unfold I64; omega))))
  refine dA 4194303 ?_ (x := loc_bslice (qs := [(false, [PV.val _]), (false, [PV.val _]), (false, [PV.val _]), (false, [PV.val _]), (false, [PV.val _]), (false, [PV.val _]), (false, [PV.val _]), (false, [PV.val _]), (false, [PV.val _]), (false, [PV.val _]), (false, [PV.val _]), (false, [PV.val _])]) (by decide) FEgl_sl_44 FEgl_z_9 (by decide) rfl rfl rfl rfl rfl (by exact Nat.le_of_ble_eq_true rfl) (by exact (And.intro (ok_sc rfl) (And.intro (by exact ⟨⟩) (And.intro (ok_sc rfl) (And.intro (by exact ⟨⟩) (And.intro (ok_sc rfl) (And.intro (by exact ⟨⟩) (And.intro (ok_sc rfl) (And.intro (by exact ⟨⟩) (And.intro (ok_sc rfl) (And.intro (by exact ⟨⟩) (And.intro (ok_sc rfl) (And.intro (by exact ⟨⟩) True.intro))))))))))))) rfl)
  refine dA 8388607 ?_ (x := tA)
  refine sw_seq ?_
  refine sO [(1, _), (2, _), (3, _), (7000, _)] [(1, _)] ?_
  refine sw_reg ?_
  refine rA ?_ (x := vM false [PV.sl .v _])
  refine rA ?_ (x := loc_call (qs := [(false, [PV.sl _ _]), (false, [PV.val _])]) (as_ := [(false, [PV.sl .v _]), (false, [PV.val _])]) (by decide) FEgl_c_41 (by exact (And.intro (by exact ⟨⟩) (And.intro (ok_sc rfl) True.intro))) (by exact (And.intro (And.intro rfl (ToL.cons (PV.to_eqv rfl) ToL.nil)) (And.intro (And.intro rfl (ToL.cons (PV.To.refl _) ToL.nil)) True.intro))) (by exact (lib_Join (xs := engWords e) (sep := [32]) (by exact Nat.le_of_ble_eq_true rfl) (by exact Nat.le_trans hjl (by decide)))))
  refine rA ?_ (x := sA)
  refine sw_ret ?_
  exact (And.intro (by refine sv_eq ?_; exact str_eq (by unfold engLine; rw [if_pos hok]; try first | rfl | (simp [engWords, joinB, Lib.join_cons, Lib.joinTail, List.append_assoc]; done))) True.intro)
theorem spec_EngineLine {p1 p2 p5 p6 p7 p8 p9 p11 p12 p13 p14 p16 p17 p18 : Fl} {e : Engine}  (hb : wtEngine e ≤ 68719476736) : SCall Tryz.prog 8 [(true, [PV.sl .v (e.Store.Segments.map (cVersionS p1 p2)), PV.val (vI e.Store.Now), PV.val (vI e.Cursor), PV.sl .v (e.Order.map cInt), PV.sl .v (e.Active.map (cActive p5 p6 p7 p8 p9)), PV.sl .v (e.Done.map (cFinished p11 p12 p13 p14)), PV.sl .v (e.Ledger.map (cCharge p16 p17 p18)), PV.val (vI e.Steps)])] (resRV [(false, [PV.val (.string (B (engLine e)))])]) := by
 refine scall_of (rs := [(false, [PV.val (.string (B (engLine e)))])]) Tryz.func8 rfl (Nat.le_of_ble_eq_true rfl) (borA_cons (BorL.cons (PV.bor_sl _) (BorL.cons (PV.bor_val _) (BorL.cons (PV.bor_val _) (BorL.cons (PV.bor_sl _) (BorL.cons (PV.bor_sl _) (BorL.cons (PV.bor_sl _) (BorL.cons (PV.bor_sl _) (BorL.cons (PV.bor_val _) BorL.nil)))))))) borA_nil) ?_
 intro h0 w0 Fz0
 refine sw_slen (s := 0) (j := 0) rfl rfl fun hl0_0 => ?_
 try rw [List.length_map] at hl0_0
 refine sw_slen (s := 0) (j := 3) rfl rfl fun hl0_3 => ?_
 try rw [List.length_map] at hl0_3
 refine sw_slen (s := 0) (j := 4) rfl rfl fun hl0_4 => ?_
 try rw [List.length_map] at hl0_4
 refine sw_slen (s := 0) (j := 5) rfl rfl fun hl0_5 => ?_
 try rw [List.length_map] at hl0_5
 refine sw_slen (s := 0) (j := 6) rfl rfl fun hl0_6 => ?_
 try rw [List.length_map] at hl0_6
 have hbu := hb
 simp only [wtEngine] at hbu
 refine sw_seq ?_
 refine sw_reg ?_
 refine RunS.step (by exact ⟨rfl, ⟨⟩⟩) (by exact ⟨⟩) (LocG.of rfl (loc_box (ag := true) (cs := [PV.sl _ _, PV.val _, PV.val _, PV.sl _ _, PV.sl _ _, PV.sl _ _, PV.sl _ _, PV.val _]) (by decide) (by exact ⟨⟩))) (free1 (Free.of_ rfl)) ?_
 refine rA ?_ (x := kA)
 refine sw_seq ?_
 refine sw_seq ?_
 refine sO [(1, _), (2, _)] [(1, (40, [PV.sl _ _, PV.val _, PV.val _, PV.sl _ _, PV.sl _ _, PV.sl _ _, PV.sl _ _, PV.val _]))] ?_
 refine sw_reg ?_
 refine rA ?_ (x := lD [PV.sl .v _, PV.val _, PV.val _, PV.sl .v _, PV.sl .v _, PV.sl .v _, PV.sl .v _, PV.val _] FEgl_ty_40)
 refine rA ?_ (x := cL [(true, [PV.sl _ _, PV.val _, PV.val _, PV.sl _ _, PV.sl _ _, PV.sl _ _, PV.sl _ _, PV.val _])] [(true, [PV.sl .v _, PV.val _, PV.val _, PV.sl .v _, PV.sl .v _, PV.sl .v _, PV.sl .v _, PV.val _])] FEgl_c_30 (hs := by exact (spec_IsEngine (by omega))))
 refine rA ?_ (x := nT)
 refine sw_cond (t := 5) rfl (fun hb1 => ?_) (fun hb1 => ?_)
 ·try simp only [q1, q2, q3, q4, q5, q6, q7, q8, q9] at hb1
  have hok : okEngine e = false := by simpa using hb1
  refine sw_seq ?_
  refine sO [(1, _), (2, _)] [(1, _)] ?_
  refine sw_reg ?_
  refine rA ?_ (x := kA)
  refine sw_ret ?_
  exact (And.intro (by refine sv_eq ?_; exact str_eq (by unfold engLine; rw [if_neg (by rw [hok]; simp)])) True.intro)
 ·try simp only [q1, q2, q3, q4, q5, q6, q7, q8, q9] at hb1
  have hok : okEngine e = true := by simpa using hb1
  have hef := eng_facts hok
  obtain ⟨a1, a2, a3, a4, a5, a6⟩ := sto_facts hef.1
  have hal : cntV e.Store ≤ wtStore e.Store := allV_len e.Store
  have hi0 : (itoa e.Steps).length ≤ 21 := itoa_len (by unfold I64; omega)
  have hi1 : (itoa e.Cursor).length ≤ 21 := itoa_len (by unfold I64; omega)
  have hi2 : (itoa e.Store.Now).length ≤ 21 := itoa_len (by unfold I64; omega)
  have hi3 : (itoa (cntV e.Store : Int)).length ≤ 21 := itoa_len (by unfold I64; omega)
  have hi4 : (itoa (e.Active.length : Int)).length ≤ 21 := itoa_len (by unfold I64; omega)
  have hi5 : (itoa (e.Done.length : Int)).length ≤ 21 := itoa_len (by unfold I64; omega)
  have hjl : (joinB (engWords e) [32]).length ≤ 1000 := engJ_le hi0 hi1 hi2 hi3 hi4 hi5
  refine sw_skip ?_
  refine sw_seq ?_
  refine sO [(1, _), (2, _)] [(1, _)] ?_
  refine sw_draw hm_ ?_
  refine dA 0 ?_ (x := lF FEgl_fd_40_6)
  refine dA 1 ?_ (x := lD [PV.val _] FEgl_ty_3)
  refine dA 3 ?_ (x := cL [(false, [PV.val _])] [(false, [PV.val _])] FEgl_c_31 (hs := by exact (spec_FormatInt (by unfold I64; omega))))
  refine dA 7 ?_ (x := loc_sadd)
  refine dA 15 ?_ (x := loc_sadd)
  refine dA 0 ?_ (x := lF FEgl_fd_40_1)
  refine dA 32 ?_ (x := lD [PV.val _] FEgl_ty_3)
  refine dA 103 ?_ (x := cL [(false, [PV.val _])] [(false, [PV.val _])] FEgl_c_31 (hs := by exact (spec_FormatInt (by unfold I64; omega))))
  refine dA 255 ?_ (x := loc_sadd)
  refine dA 511 ?_ (x := loc_sadd)
  refine dA 0 ?_ (x := lF FEgl_fd_40_0)
  refine dA 1024 ?_ (x := lF FEgl_fd_35_1)
  refine dA 3072 ?_ (x := lD [PV.val _] FEgl_ty_3)
  refine dA 7399 ?_ (x := cL [(false, [PV.val _])] [(false, [PV.val _])] FEgl_c_31 (hs := by exact (spec_FormatInt (by unfold I64; omega))))
  refine dA 16383 ?_ (x := loc_sadd)
  refine dA 32767 ?_ (x := loc_sadd)
  refine dA 0 ?_ (x := lF FEgl_fd_40_0)
  refine dA 65536 ?_ (x := lD [PV.sl .v _, PV.val _] FEgl_ty_35)
  refine dA 212199 ?_ (x := cL [(true, [PV.sl _ _, PV.val _])] [(true, [PV.sl .v _, PV.val _])] FEgl_c_32 (hs := by exact (spec_CountVersions (by omega))))
  refine dA 474343 ?_ (x := cL [(false, [PV.val _])] [(false, [PV.val _])] FEgl_c_31 (hs := by exact (spec_FormatInt (by unfold I64; omega))))
  refine dA 1048575 ?_ (x := loc_sadd)
  refine dA 2097151 ?_ (x := loc_sadd)
  refine dA 0 ?_ (x := lF FEgl_fd_40_3)
  refine dA 4194304 ?_ (x := lD [PV.sl .v _] FEgl_ty_36)
  refine dA 12582912 ?_ (x := lN FEgl_sl_36)
  refine dA 30358759 ?_ (x := cL [(false, [PV.val _])] [(false, [PV.val _])] FEgl_c_31 (hs := by exact (spec_FormatInt (by unfold I64; omega))))
  refine dA 67108863 ?_ (x := loc_sadd)
  refine dA 134217727 ?_ (x := loc_sadd)
  refine dA 0 ?_ (x := lF FEgl_fd_40_4)
  refine dA 268435456 ?_ (x := lD [PV.sl .v _] FEgl_ty_37)
  refine dA 805306368 ?_ (x := lN FEgl_sl_37)
  refine dA 1942961383 ?_ (x := cL [(false, [PV.val _])] [(false, [PV.val _])] FEgl_c_31 (hs := by exact (spec_FormatInt (by unfold I64; omega))))
  refine dA 4294967295 ?_ (x := loc_sadd)
  refine dA 8589934591 ?_ (x := sA)
  refine sw_ret ?_
  exact (And.intro (by refine sv_eq ?_; exact str_eq (by unfold engLine; rw [if_pos hok]; try first | rfl | (simp [engWords, joinB, Lib.join_cons, Lib.joinTail, List.append_assoc]; done))) True.intro)
end Go.Proofs.YteflgldonmgejaaGreatDoor
