/- What functions of the program compute. No condition. -/
import Derived.Test.YteflgldonmgejaaGreatDoorCEngActiveLines
import Derived.Test.YteflgldonmgejaaGreatDoorCNumActiveLines
import Derived.Test.YteflgldonmgejaaGreatDoorCDal
import Derived.KernelRfl
set_option linter.unusedVariables false
set_option linter.unusedSimpArgs false
namespace Go.Proofs.YteflgldonmgejaaGreatDoor
open Go Go.RowKit M
set_option maxRecDepth 10000
attribute [local irreducible] PV.Lcl PV.LclR RV.Lcl
theorem FAcl_c_30 : callI Tryz.prog 30 = true := by kernel_rfl
theorem FAcl_c_31 : callI Tryz.prog 31 = true := by kernel_rfl
theorem FAcl_c_38 : callI Tryz.prog 38 = true := by kernel_rfl
theorem FAcl_c_39 : callI Tryz.prog 39 = true := by kernel_rfl
theorem FAcl_c_47 : callI Tryz.prog 47 = true := by kernel_rfl
theorem FAcl_c_48 : callI Tryz.prog 48 = true := by kernel_rfl
theorem FAcl_c_80 : callI Tryz.prog 80 = true := by kernel_rfl
theorem FAcl_fd_40_3 : fieldI Tryz.prog 40 3 = some 4 := by kernel_rfl
theorem FAcl_fd_51_0 : fieldI Tryz.prog 51 0 = some 0 := by kernel_rfl
theorem FAcl_fd_85_0 : fieldI Tryz.prog 85 0 = some 0 := by kernel_rfl
theorem FAcl_fd_85_1 : fieldI Tryz.prog 85 1 = some 4 := by kernel_rfl
theorem FAcl_fd_85_2 : fieldI Tryz.prog 85 2 = some 5 := by kernel_rfl
theorem FAcl_fd_85_4 : fieldI Tryz.prog 85 4 = some 7 := by kernel_rfl
theorem FAcl_fd_85_5 : fieldI Tryz.prog 85 5 = some 8 := by kernel_rfl
theorem FAcl_fd_85_6 : fieldI Tryz.prog 85 6 = some 9 := by kernel_rfl
theorem FAcl_sl_25 : sliceI Tryz.prog 25 = some (3, 1, 8) := by kernel_rfl
theorem FAcl_sl_36 : sliceI Tryz.prog 36 = some (85, 10, 144) := by kernel_rfl
theorem FAcl_sl_44 : sliceI Tryz.prog 44 = some (9, 1, 16) := by kernel_rfl
theorem FAcl_sl_83 : sliceI Tryz.prog 83 = some (53, 2, 32) := by kernel_rfl
theorem FAcl_ty_25 : tyI Tryz.prog 25 = some (false, 1) := by kernel_rfl
theorem FAcl_ty_3 : tyI Tryz.prog 3 = some (false, 1) := by kernel_rfl
theorem FAcl_ty_36 : tyI Tryz.prog 36 = some (false, 1) := by kernel_rfl
theorem FAcl_ty_40 : tyI Tryz.prog 40 = some (true, 8) := by kernel_rfl
theorem FAcl_ty_83 : tyI Tryz.prog 83 = some (false, 1) := by kernel_rfl
theorem FAcl_ty_85 : tyI Tryz.prog 85 = some (true, 10) := by kernel_rfl
theorem FAcl_z_85 : zeroI Tryz.prog 85 = some (.agg #[.int .i64 0, .int .i64 0, .slice none 0 0, .slice none 0 0, .int .i64 0, .slice none 0 0, .int .i64 0, .int .i64 0, .int .i64 0, .slice none 0 0]) := by kernel_rfl
theorem FAcl_z_9 : zeroI Tryz.prog 9 = some (.string (B [])) := by kernel_rfl
theorem FAcl_zo_85 {Fz : FzT} {w : World} : OwnL [PV.val (.int .i64 0), PV.val (.int .i64 0), PV.sl (.own 165 3) [], PV.sl (.own 3 1) [], PV.val (.int .i64 0), PV.sl (.own 3 1) [], PV.val (.int .i64 0), PV.val (.int .i64 0), PV.val (.int .i64 0), PV.sl (.own 53 2) []] Fz w (Value.cells (.agg #[.int .i64 0, .int .i64 0, .slice none 0 0, .slice none 0 0, .int .i64 0, .slice none 0 0, .int .i64 0, .int .i64 0, .int .i64 0, .slice none 0 0])).toList [] := zo_val rfl (zo_val rfl (zo_sl (zo_sl (zo_val rfl (zo_sl (zo_val rfl (zo_val rfl (zo_val rfl (zo_sl (zo_nil))))))))))
theorem impl_isAwake {p4 : Fl} {a : Active}  : SCall Tryz.prog 48 [(true, [PV.val (vI a.Query.Id), PV.val (vI a.Query.Tenant), PV.sl .v (a.Query.Conds.map cCond), PV.sl .v (a.Query.Out.map cInt), PV.val (vI a.Time), PV.sl .v (a.Todo.map cInt), PV.val (vI a.Age), PV.val (vI a.Sent), PV.val (vI a.Cap), PV.sl .v (a.Rows.map (cRow p4))])] (resRV [(false, [PV.val (.bool (awake a))])]) := by
 refine scall_of (rs := [(false, [PV.val (.bool (awake a))])]) Tryz.func48 rfl (Nat.le_of_ble_eq_true rfl) (borA_cons (BorL.cons (PV.bor_val _) (BorL.cons (PV.bor_val _) (BorL.cons (PV.bor_sl _) (BorL.cons (PV.bor_sl _) (BorL.cons (PV.bor_val _) (BorL.cons (PV.bor_sl _) (BorL.cons (PV.bor_val _) (BorL.cons (PV.bor_val _) (BorL.cons (PV.bor_val _) (BorL.cons (PV.bor_sl _) BorL.nil)))))))))) borA_nil) ?_
 intro h0 w0 Fz0
 refine sw_slen (s := 0) (j := 2) rfl rfl fun hl0_2 => ?_
 try rw [List.length_map] at hl0_2
 refine sw_slen (s := 0) (j := 3) rfl rfl fun hl0_3 => ?_
 try rw [List.length_map] at hl0_3
 refine sw_slen (s := 0) (j := 5) rfl rfl fun hl0_5 => ?_
 try rw [List.length_map] at hl0_5
 refine sw_slen (s := 0) (j := 9) rfl rfl fun hl0_9 => ?_
 try rw [List.length_map] at hl0_9
 refine sw_seq ?_
 refine sw_reg ?_
 refine RunS.step (by exact ⟨rfl, ⟨⟩⟩) (by exact ⟨⟩) (LocG.of rfl (loc_box (ag := true) (cs := [PV.val _, PV.val _, PV.sl _ _, PV.sl _ _, PV.val _, PV.sl _ _, PV.val _, PV.val _, PV.val _, PV.sl _ _]) (by decide) (by exact ⟨⟩))) (free1 (Free.of_ rfl)) ?_
 refine rA ?_ (x := kA)
 refine sw_seq ?_
 refine sO [(1, _), (2, _)] [(1, (85, [PV.val _, PV.val _, PV.sl _ _, PV.sl _ _, PV.val _, PV.sl _ _, PV.val _, PV.val _, PV.val _, PV.sl _ _]))] ?_
 refine sw_reg ?_
 refine rA ?_ (x := lF FAcl_fd_85_5)
 refine rA ?_ (x := lD [PV.val _] FAcl_ty_3)
 refine rA ?_ (x := B_eql)
 refine rA ?_ (x := sM)
 refine RunS.cases (s := 6) rfl (fun g1 => ?_) (fun g1 => ?_)
 ·have sg1 := g1
  try simp only [q1, q2, q3, q4, q5, q6, q7, q8, q9] at sg1
  refine RunS.s0t g1 ?_
  refine RunS.s0t g1 ?_
  refine RunS.s0t g1 ?_
  refine RunS.s0t g1 ?_
  refine RunS.s0t g1 ?_
  refine rA ?_ (x := pkT g1)
  refine rA ?_ (x := sA)
  refine sw_ret ?_
  exact (And.intro (by refine bool_eq ?_; first | (simp_all [awake]; done) | (simp_all [awake]; rfl) | (simp_all [awake]; omega) | (simp_all [awake]; intros; omega)) True.intro)
 ·have sg1 := g1
  try simp only [q1, q2, q3, q4, q5, q6, q7, q8, q9] at sg1
  refine rB g1 ?_ (x := lF FAcl_fd_85_5)
  refine rB g1 ?_ (x := lD [PV.val _] FAcl_ty_3)
  refine rB g1 ?_ (x := lF FAcl_fd_85_4)
  refine rB g1 ?_ (x := lD [PV.val _] FAcl_ty_3)
  refine rB g1 ?_ (x := B_gtr)
  refine rA ?_ (x := pkF g1)
  refine rA ?_ (x := sA)
  refine sw_ret ?_
  exact (And.intro (by refine bool_eq ?_; first | (simp_all [awake]; done) | (simp_all [awake]; rfl) | (simp_all [awake]; omega) | (simp_all [awake]; intros; omega)) True.intro)
theorem spec_IsAwake {p1 p2 p5 p6 p7 p8 p9 p11 p12 p13 p14 p16 p17 p18 : Fl} {e : Engine} {i : Int}  (hb : wtEngine e ≤ 68719476736) : SCall Tryz.prog 47 [(true, [PV.sl .v (e.Store.Segments.map (cVersionS p1 p2)), PV.val (vI e.Store.Now), PV.val (vI e.Cursor), PV.sl .v (e.Order.map cInt), PV.sl .v (e.Active.map (cActive p5 p6 p7 p8 p9)), PV.sl .v (e.Done.map (cFinished p11 p12 p13 p14)), PV.sl .v (e.Ledger.map (cCharge p16 p17 p18)), PV.val (vI e.Steps)]), (false, [PV.val (vI i)])] (resRV [(false, [PV.val (.bool (isAwakeAt e i))])]) := by
 refine scall_of (rs := [(false, [PV.val (.bool (isAwakeAt e i))])]) Tryz.func47 rfl (Nat.le_of_ble_eq_true rfl) (borA_cons (BorL.cons (PV.bor_sl _) (BorL.cons (PV.bor_val _) (BorL.cons (PV.bor_val _) (BorL.cons (PV.bor_sl _) (BorL.cons (PV.bor_sl _) (BorL.cons (PV.bor_sl _) (BorL.cons (PV.bor_sl _) (BorL.cons (PV.bor_val _) BorL.nil)))))))) (borA_cons (BorL.cons (PV.bor_val _) BorL.nil) borA_nil)) ?_
 intro h0 w0 Fz0
 refine sw_slen (s := 0) (j := 0) rfl rfl fun hl0_0 => ?_
 try rw [List.length_map] at hl0_0
 refine sw_slen (s := 0) (j := 3) rfl rfl fun hl0_3 => ?_
 try rw [List.length_map] at hl0_3
 refine sw_slen (s := 0) (j := 4) rfl rfl fun hl0_4 => ?_
 try rw [List.length_map] at hl0_4
 refine sw_slen (s := 0) (j := 5) rfl rfl fun hl0_5 => ?_
 try rw [List.length_map] at hl0_5
 refine sw_slen (s := 0) (j := 6) rfl rfl fun hl0_6 => ?_
 try rw [List.length_map] at hl0_6
 refine sw_seq ?_
 refine sw_reg ?_
 refine RunS.step (by exact ⟨rfl, ⟨⟩⟩) (by exact ⟨⟩) (LocG.of rfl (loc_box (ag := true) (cs := [PV.sl _ _, PV.val _, PV.val _, PV.sl _ _, PV.sl _ _, PV.sl _ _, PV.sl _ _, PV.val _]) (by decide) (by exact ⟨⟩))) (free1 (Free.of_ rfl)) ?_
 refine rA ?_ (x := kA)
 refine sw_seq ?_
 refine sw_seq ?_
 refine sO [(1, _), (2, _), (4, _)] [(2, (40, [PV.sl _ _, PV.val _, PV.val _, PV.sl _ _, PV.sl _ _, PV.sl _ _, PV.sl _ _, PV.val _]))] ?_
 refine sw_reg ?_
 refine rA ?_ (x := lD [PV.sl .v _, PV.val _, PV.val _, PV.sl .v _, PV.sl .v _, PV.sl .v _, PV.sl .v _, PV.val _] FAcl_ty_40)
 refine rA ?_ (x := cL [(true, [PV.sl _ _, PV.val _, PV.val _, PV.sl _ _, PV.sl _ _, PV.sl _ _, PV.sl _ _, PV.val _])] [(true, [PV.sl .v _, PV.val _, PV.val _, PV.sl .v _, PV.sl .v _, PV.sl .v _, PV.sl .v _, PV.val _])] FAcl_c_30 (hs := by exact (spec_IsEngine (by omega))))
 refine rA ?_ (x := nT)
 refine rA ?_ (x := sM)
 refine RunS.cases (s := 9) rfl (fun g1 => ?_) (fun g1 => ?_)
 ·have sg1 := g1
  try simp only [q1, q2, q3, q4, q5, q6, q7, q8, q9] at sg1
  refine RunS.s0t g1 ?_
  refine RunS.s0t g1 ?_
  refine RunS.s0t g1 ?_
  refine RunS.s0t g1 ?_
  refine RunS.s0t g1 ?_
  refine RunS.s0t g1 ?_
  refine RunS.s0t g1 ?_
  refine rA ?_ (x := pkT g1)
  refine sw_cond (t := 17) rfl (fun hb_ => ?_) (fun hb_ => nomatch hb_)
  have hbad : isAwakeAt e i = false := by first | (simp_all [isAwakeAt]; done) | (simp_all [isAwakeAt]; omega)
  refine sw_seq ?_
  refine sO [(1, _), (2, _), (4, _)] [(2, _)] ?_
  refine sw_reg ?_
  refine rA ?_ (x := kA)
  refine sw_ret ?_
  exact (And.intro (by refine bool_eq ?_; exact hbad.symm) True.intro)
 ·have sg1 := g1
  try simp only [q1, q2, q3, q4, q5, q6, q7, q8, q9] at sg1
  refine rB g1 ?_ (x := sM)
  refine rB g1 ?_ (x := lF FAcl_fd_40_3)
  refine rB g1 ?_ (x := lD [PV.sl .v _] FAcl_ty_36)
  refine rB g1 ?_ (x := lN FAcl_sl_36)
  refine rB g1 ?_ (x := B_sub)
  refine rB g1 ?_ (x := cL [(false, [PV.val _]), (false, [PV.val _]), (false, [PV.val _])] [(false, [PV.val _]), (false, [PV.val _]), (false, [PV.val _])] FAcl_c_80 (hs := by exact spec_l1In))
  refine rB g1 ?_ (x := nT)
  refine rA ?_ (x := pkF g1)
  refine sw_cond (t := 17) rfl (fun hb3 => ?_) (fun hb3 => ?_)
  ·try simp only [q1, q2, q3, q4, q5, q6, q7, q8, q9] at hb3
   have hbad : isAwakeAt e i = false := by first | (simp_all [isAwakeAt]; done) | (simp_all [isAwakeAt]; omega)
   refine sw_seq ?_
   refine sO [(1, _), (2, _), (4, _)] [(2, _)] ?_
   refine sw_reg ?_
   refine rA ?_ (x := kA)
   refine sw_ret ?_
   exact (And.intro (by refine bool_eq ?_; exact hbad.symm) True.intro)
  ·try simp only [q1, q2, q3, q4, q5, q6, q7, q8, q9] at hb3
   have hok : okEngine e = true ∧ inB i 0 (e.Active.length - 1) = true := by first | (simp_all; done) | (simp_all; omega)
   have hin := hok.2
   simp only [inB, Bool.and_eq_true, decide_eq_true_eq] at hin
   have hil : i.toNat < e.Active.length := by omega
   have hgd := gDt_ (d := a0_) hil
   refine sw_skip ?_
   refine sw_seq ?_
   refine sO [(1, _), (2, _), (4, _)] [(2, _)] ?_
   refine sw_reg ?_
   refine rA ?_ (x := lF FAcl_fd_40_3)
   refine rA ?_ (x := lD [PV.sl .v _] FAcl_ty_36)
   refine rA ?_ (x := sM)
   refine rA ?_ (x := loc_index (k := i.toNat) (by decide) FAcl_sl_36 (by exact ⟨⟩) (by first | rfl | omega) (by exact getm2 hil rfl) (by exact rfl))
   refine rA ?_ (x := lE [PV.val _, PV.val _, PV.sl .v _, PV.sl .v _, PV.val _, PV.sl .v _, PV.val _, PV.val _, PV.val _, PV.sl .v _] FAcl_ty_85)
   refine RunS.step (by exact ⟨⟩) (by exact ⟨⟩) (LocG.of rfl (loc_alloc (by decide) FAcl_z_85 FAcl_zo_85)) (free1 (Free.app (Free.app (Free.app (Free.app (Free.app (Free.of_ rfl) rfl) rfl) rfl) rfl) rfl)) ?_
   refine rA ?_ (x := loc_store (ag := true) (vs := [PV.val _, PV.val _, PV.sl _ _, PV.sl _ _, PV.val _, PV.sl _ _, PV.val _, PV.val _, PV.val _, PV.sl _ _]) FAcl_ty_85 (by exact ⟨⟩) (by exact rfl) (by exact Nat.le_of_ble_eq_true rfl))
   refine sw_seq ?_
   refine sO [(1, _), (2, _), (4, _), (5, _)] [(2, _), (5, (85, [PV.val _, PV.val _, PV.sl _ _, PV.sl _ _, PV.val _, PV.sl _ _, PV.val _, PV.val _, PV.val _, PV.sl _ _]))] ?_
   refine sw_reg ?_
   refine rA ?_ (x := lF FAcl_fd_85_5)
   refine rA ?_ (x := lD [PV.val _] FAcl_ty_3)
   refine rA ?_ (x := B_eql)
   refine rA ?_ (x := sM)
   refine RunS.cases (s := 26) rfl (fun g4 => ?_) (fun g4 => ?_)
   ·have sg4 := g4
    try simp only [q1, q2, q3, q4, q5, q6, q7, q8, q9] at sg4
    refine RunS.s0t g4 ?_
    refine RunS.s0t g4 ?_
    refine RunS.s0t g4 ?_
    refine RunS.s0t g4 ?_
    refine RunS.s0t g4 ?_
    refine rA ?_ (x := pkT g4)
    refine rA ?_ (x := sA)
    refine sw_ret ?_
    exact (And.intro (by refine bool_eq ?_; unfold isAwakeAt; rw [hok.1, hok.2, ← hgd]; first | (simp_all [awake]; done) | (simp_all [awake]; omega)) True.intro)
   ·have sg4 := g4
    try simp only [q1, q2, q3, q4, q5, q6, q7, q8, q9] at sg4
    refine rB g4 ?_ (x := lF FAcl_fd_85_4)
    refine rB g4 ?_ (x := lD [PV.val _] FAcl_ty_3)
    refine rB g4 ?_ (x := lF FAcl_fd_85_5)
    refine rB g4 ?_ (x := lD [PV.val _] FAcl_ty_3)
    refine rB g4 ?_ (x := B_lss)
    refine rA ?_ (x := pkF g4)
    refine rA ?_ (x := sA)
    refine sw_ret ?_
    exact (And.intro (by refine bool_eq ?_; unfold isAwakeAt; rw [hok.1, hok.2, ← hgd]; first | (simp_all [awake]; done) | (simp_all [awake]; omega)) True.intro)
theorem impl_ActiveLines {p1 p2 p5 p6 p7 p8 p9 p11 p12 p13 p14 p16 p17 p18 : Fl} {e : Engine}  (hb : wtEngine e ≤ 68719476736) : GCall Tryz.prog gl 13 [(true, [PV.sl .v (e.Store.Segments.map (cVersionS p1 p2)), PV.val (vI e.Store.Now), PV.val (vI e.Cursor), PV.sl .v (e.Order.map cInt), PV.sl .v (e.Active.map (cActive p5 p6 p7 p8 p9)), PV.sl .v (e.Done.map (cFinished p11 p12 p13 p14)), PV.sl .v (e.Ledger.map (cCharge p16 p17 p18)), PV.val (vI e.Steps)])] (resRV [(false, [PV.sl (.own 9 1) ((actLines e).map cStr)])]) := by
 refine gcall_of (rs := [(false, [PV.sl (.own 9 1) ((actLines e).map cStr)])]) Tryz.func13 rfl (Nat.le_of_ble_eq_true rfl) (borA_cons (BorL.cons (PV.bor_sl _) (BorL.cons (PV.bor_val _) (BorL.cons (PV.bor_val _) (BorL.cons (PV.bor_sl _) (BorL.cons (PV.bor_sl _) (BorL.cons (PV.bor_sl _) (BorL.cons (PV.bor_sl _) (BorL.cons (PV.bor_val _) BorL.nil)))))))) borA_nil) ?_
 intro h0 w0 Fz0
 refine sw_slen (s := 0) (j := 0) rfl rfl fun hl0_0 => ?_
 try rw [List.length_map] at hl0_0
 refine sw_slen (s := 0) (j := 3) rfl rfl fun hl0_3 => ?_
 try rw [List.length_map] at hl0_3
 refine sw_slen (s := 0) (j := 4) rfl rfl fun hl0_4 => ?_
 try rw [List.length_map] at hl0_4
 refine sw_slen (s := 0) (j := 5) rfl rfl fun hl0_5 => ?_
 try rw [List.length_map] at hl0_5
 refine sw_slen (s := 0) (j := 6) rfl rfl fun hl0_6 => ?_
 try rw [List.length_map] at hl0_6
 have hbu := hb
 simp only [wtEngine, wtActiveS] at hbu
 refine sw_seq ?_
 refine sw_reg ?_
 refine RunS.step (by exact ⟨rfl, ⟨⟩⟩) (by exact ⟨⟩) (LocG.of rfl (loc_box (ag := true) (cs := [PV.sl _ _, PV.val _, PV.val _, PV.sl _ _, PV.sl _ _, PV.sl _ _, PV.sl _ _, PV.val _]) (by decide) (by exact ⟨⟩))) (free1 (Free.of_ rfl)) ?_
 refine rA ?_ (x := loc_const (.inr rfl) (by decide) (ok_nil (t := 9) (e := 1)))
 refine sw_seq ?_
 refine sO [(1, _), (2, _), (7000, _)] [(1, (40, [PV.sl _ _, PV.val _, PV.val _, PV.sl _ _, PV.sl _ _, PV.sl _ _, PV.sl _ _, PV.val _]))] ?_
 refine sw_reg ?_
 refine rA ?_ (x := loc_bslice (qs := []) (by decide) FAcl_sl_44 FAcl_z_9 (by decide) rfl rfl rfl rfl rfl (by exact Nat.le_of_ble_eq_true rfl) (by exact ⟨⟩) rfl)
 refine rA ?_ (x := tA)
 refine sw_seq ?_
 refine sw_seq ?_
 refine sO [(1, _), (2, _), (3, _), (7000, _)] [(1, _)] ?_
 refine sw_reg ?_
 refine rA ?_ (x := lD [PV.sl .v _, PV.val _, PV.val _, PV.sl .v _, PV.sl .v _, PV.sl .v _, PV.sl .v _, PV.val _] FAcl_ty_40)
 refine rA ?_ (x := cL [(true, [PV.sl _ _, PV.val _, PV.val _, PV.sl _ _, PV.sl _ _, PV.sl _ _, PV.sl _ _, PV.val _])] [(true, [PV.sl .v _, PV.val _, PV.val _, PV.sl .v _, PV.sl .v _, PV.sl .v _, PV.sl .v _, PV.val _])] FAcl_c_38 (hs := by exact (impl_IsEngine (by omega))))
 refine rA ?_ (x := nT)
 refine sw_cond (t := 10) rfl (fun hb1 => ?_) (fun hb1 => ?_)
 ·try simp only [q1, q2, q3, q4, q5, q6, q7, q8, q9] at hb1
  have hok : okEngine e = false := by simpa using hb1
  refine sw_seq ?_
  refine sO [(1, _), (2, _), (3, _), (7000, _)] [(1, _)] ?_
  refine sw_reg ?_
  refine rA ?_ (x := tM)
  refine rA ?_ (x := tA)
  refine sw_ret ?_
  exact (And.intro (by refine slc_eq ?_; rw [actLines_no hok]; rfl) True.intro)
 ·try simp only [q1, q2, q3, q4, q5, q6, q7, q8, q9] at hb1
  have hok : okEngine e = true := by simpa using hb1
  refine sw_skip ?_
  refine sw_seq ?_
  refine sw_seq ?_
  refine sO [(1, _), (2, _), (3, _), (7000, _)] [(1, _)] ?_
  refine sw_reg ?_
  refine rA ?_ (x := lF FAcl_fd_40_3)
  refine rA ?_ (x := lD [PV.sl .v _] FAcl_ty_36)
  refine rA ?_ (x := lN FAcl_sl_36)
  refine rA ?_ (x := kM)
  refine sw_block ?_
  refine sO [(1, _), (2, _), (3, _), (13, _), (14, _), (15, _), (7000, _)] [(1, _)] ?_
  refine sw_loop (l0 := [(1, RV.ptr 1 0), (2, RV.sv false [PV.sl _ _]), (13, RV.sv false [PV.sl _ _]), (14, RV.sv false [PV.val _]), (7000, RV.glob _)]) (b0 := [(1, (40, [PV.sl _ _, PV.val _, PV.val _, PV.sl _ _, PV.sl _ _, PV.sl _ _, PV.sl _ _, PV.val _]))]) (fun k : Nat => k ≤ e.Active.length) (fun k : Nat => [(3, RV.slc (.own 9 1) (((e.Active.take k).map actLine).map cStr)), (15, RV.int (k : Int))]) (fun k : Nat => []) (fun k : Nat => e.Active.length - k) 0 (by omega) (by exact ⟨rfl, rfl, rfl, rfl, rfl, ⟨⟩⟩) (by exact ⟨rfl, ⟨⟩⟩) (by exact And.intro (by exact rfl) (And.intro (by exact rfl) (True.intro))) (by exact ⟨⟩) ?_
  rintro k hk
  refine sw_seq ?_
  refine sw_reg ?_
  refine rA ?_ (x := B_lss)
  refine sw_seq ?_
  refine sw_cond (t := 16) rfl (fun hb2 => ?_) (fun hb2 => ?_)
  ·try simp only [q1, q2, q3, q4, q5, q6, q7, q8, q9] at hb2
   have hlt : k < e.Active.length := by omega
   have hwm := wt_mem (f := wtActive) hlt
   have hwa : wtActive e.Active[k] = wtQuery e.Active[k].Query + e.Active[k].Todo.length + wtRowS e.Active[k].Rows := by simp only [wtActive, wtIntS_len, wtInt]; omega
   have hef := eng_facts hok
   have hac := act_facts (hef.2.2.2.2.2.2.2.2.2.1 _ (List.getElem_mem hlt))
   have hsf := sto_facts hef.1
   have hi0 : (itoa e.Active[k].Query.Id).length ≤ 21 := itoa_len (by unfold I64; omega)
   have hi1 : (itoa e.Active[k].Time).length ≤ 21 := itoa_len (by unfold I64; omega)
   have hi2 : (itoa (e.Active[k].Todo.length : Int)).length ≤ 21 := itoa_len (by unfold I64; omega)
   have hi3 : (itoa (e.Active[k].Rows.length : Int)).length ≤ 21 := itoa_len (by unfold I64; omega)
   have htk : (e.Active.take k).length = k := by rw [List.length_take]; omega
   refine sw_skip ?_
   refine sw_seq ?_
   refine sw_block ?_
   refine sw_seq ?_
   refine sO [(1, _), (2, _), (3, _), (13, _), (14, _), (15, _), (7000, _)] [(1, (40, [PV.sl _ _, PV.val _, PV.val _, PV.sl _ _, PV.sl _ _, PV.sl _ _, PV.sl _ _, PV.val _]))] ?_
   refine sw_reg ?_
   refine rA ?_ (x := loc_index (by decide) FAcl_sl_36 (by exact ⟨⟩) (by exact rfl) (by exact getm2 (by omega) rfl) (by exact rfl))
   refine rA ?_ (x := lE [PV.val _, PV.val _, PV.sl .v _, PV.sl .v _, PV.val _, PV.sl .v _, PV.val _, PV.val _, PV.val _, PV.sl .v _] FAcl_ty_85)
   refine RunS.step (by exact ⟨⟩) (by exact ⟨⟩) (LocG.of rfl (loc_alloc (by decide) FAcl_z_85 FAcl_zo_85)) (free1 (Free.app (Free.app (Free.of_ rfl) rfl) rfl)) ?_
   refine rA ?_ (x := loc_store (ag := true) (vs := [PV.val _, PV.val _, PV.sl _ _, PV.sl _ _, PV.val _, PV.sl _ _, PV.val _, PV.val _, PV.val _, PV.sl _ _]) FAcl_ty_85 (by exact ⟨⟩) (by exact rfl) (by exact Nat.le_of_ble_eq_true rfl))
   refine sw_seq ?_
   refine sO [(1, _), (2, _), (3, _), (5, _), (13, _), (14, _), (15, _), (7000, _)] [(1, _), (5, (85, [PV.val _, PV.val _, PV.sl _ _, PV.sl _ _, PV.val _, PV.sl _ _, PV.val _, PV.val _, PV.val _, PV.sl _ _]))] ?_
   refine sw_draw hm_ ?_
   refine dA 0 ?_ (x := lF FAcl_fd_85_0)
   refine dA 1 ?_ (x := lF FAcl_fd_51_0)
   refine dA 3 ?_ (x := lD [PV.val _] FAcl_ty_3)
   refine dA 7 ?_ (x := gL [(false, [PV.val _])] [(false, [PV.val _])] FAcl_c_39 (hs := by exact (impl_FormatInt (by unfold I64; omega))))
   refine dA 15 ?_ (x := loc_sadd)
   refine dA 0 ?_ (x := lF FAcl_fd_85_1)
   refine dA 32 ?_ (x := lD [PV.val _] FAcl_ty_3)
   refine dA 111 ?_ (x := gL [(false, [PV.val _])] [(false, [PV.val _])] FAcl_c_39 (hs := by exact (impl_FormatInt (by unfold I64; omega))))
   refine dA 255 ?_ (x := loc_sadd)
   refine dA 511 ?_ (x := loc_sadd)
   refine dA 0 ?_ (x := lF FAcl_fd_85_2)
   refine dA 1024 ?_ (x := lD [PV.sl .v _] FAcl_ty_25)
   refine dA 3072 ?_ (x := lN FAcl_sl_25)
   refine dA 7407 ?_ (x := gL [(false, [PV.val _])] [(false, [PV.val _])] FAcl_c_39 (hs := by exact (impl_FormatInt (by unfold I64; omega))))
   refine dA 16383 ?_ (x := loc_sadd)
   refine dA 32767 ?_ (x := loc_sadd)
   refine dA 0 ?_ (x := lF FAcl_fd_85_6)
   refine dA 65536 ?_ (x := lD [PV.sl .v _] FAcl_ty_83)
   refine dA 196608 ?_ (x := lN FAcl_sl_83)
   refine dA 474351 ?_ (x := gL [(false, [PV.val _])] [(false, [PV.val _])] FAcl_c_39 (hs := by exact (impl_FormatInt (by unfold I64; omega))))
   refine dA 1048575 ?_ (x := loc_sadd)
   refine dA 2097151 ?_ (x := sA)
   refine sw_seq ?_
   refine sw_seq ?_
   refine sO [(1, _), (2, _), (3, _), (5, _), (6, _), (13, _), (14, _), (15, _), (7000, _)] [(1, _), (5, _)] ?_
   refine sw_reg ?_
   refine rA ?_ (x := lD [PV.val _, PV.val _, PV.sl .v _, PV.sl .v _, PV.val _, PV.sl .v _, PV.val _, PV.val _, PV.val _, PV.sl .v _] FAcl_ty_85)
   refine rA ?_ (x := cL [(true, [PV.val _, PV.val _, PV.sl _ _, PV.sl _ _, PV.val _, PV.sl _ _, PV.val _, PV.val _, PV.val _, PV.sl _ _])] [(true, [PV.val _, PV.val _, PV.sl .v _, PV.sl .v _, PV.val _, PV.sl .v _, PV.val _, PV.val _, PV.val _, PV.sl .v _])] FAcl_c_48 (hs := by exact impl_isAwake))
   refine rA ?_ (x := nT)
   refine sw_cond (t := 42) rfl (fun hb3 => ?_) (fun hb3 => ?_)
   ·try simp only [q1, q2, q3, q4, q5, q6, q7, q8, q9] at hb3
    have haw : awake e.Active[k] = false := by first | simpa using hb3 | (simp_all; done)
    have hla := actLine_no haw
    refine sO [(1, _), (2, _), (3, _), (5, _), (6, _), (13, _), (14, _), (15, _), (7000, _)] [(1, _), (5, _)] ?_
    refine sw_reg ?_
    refine rA ?_ (x := sM)
    refine rA ?_ (x := loc_sadd)
    refine rA ?_ (x := sA)
    refine sO [(1, _), (2, _), (3, _), (5, _), (6, _), (13, _), (14, _), (15, _), (7000, _)] [(1, _), (5, _)] ?_
    refine sw_reg ?_
    refine rA ?_ (x := tM)
    refine rA ?_ (x := sM)
    refine rA ?_ (x := loc_bslice (qs := [(false, [PV.val _])]) (by decide) FAcl_sl_44 FAcl_z_9 (by decide) rfl rfl rfl rfl rfl (by exact Nat.le_of_ble_eq_true rfl) (by exact (And.intro (by exact ⟨⟩) True.intro)) rfl)
    refine rA ?_ (x := loc_append (by decide) FAcl_sl_44 FAcl_z_9 rfl rfl (by decide) rfl (by simp only [List.length_map, List.length_append, List.length_cons, List.length_nil]; omega) (by simp only [List.length_map, List.length_append, List.length_cons, List.length_nil]; omega))
    refine rA ?_ (x := tA)
    refine sO [(1, _), (2, _), (3, _), (5, _), (6, _), (13, _), (14, _), (15, _), (7000, _)] [(1, _), (5, _)] ?_
    refine sw_reg ?_
    refine rA ?_ (x := B_add)
    refine rA ?_ (x := sM)
    refine Exists.intro (k + 1) (And.intro (by omega) (And.intro (by omega) (And.intro (And.intro (by exact ⟨rfl, rfl, rfl, rfl, rfl, ⟨⟩⟩) (by exact ⟨rfl, ⟨⟩⟩)) (And.intro (by exact And.intro (by exact slc_eq (by rw [map_take_succ hlt, List.map_append, hla]; rfl)) (And.intro (by exact rfl) (True.intro))) (by exact ⟨⟩)))))
   ·try simp only [q1, q2, q3, q4, q5, q6, q7, q8, q9] at hb3
    have haw : awake e.Active[k] = true := by first | simpa using hb3 | (simp_all; done)
    have hla := actLine_yes haw
    refine sw_skip ?_
    refine sO [(1, _), (2, _), (3, _), (5, _), (6, _), (13, _), (14, _), (15, _), (7000, _)] [(1, _), (5, _)] ?_
    refine sw_reg ?_
    refine rA ?_ (x := tM)
    refine rA ?_ (x := sM)
    refine rA ?_ (x := loc_bslice (qs := [(false, [PV.val _])]) (by decide) FAcl_sl_44 FAcl_z_9 (by decide) rfl rfl rfl rfl rfl (by exact Nat.le_of_ble_eq_true rfl) (by exact (And.intro (by exact ⟨⟩) True.intro)) rfl)
    refine rA ?_ (x := loc_append (by decide) FAcl_sl_44 FAcl_z_9 rfl rfl (by decide) rfl (by simp only [List.length_map, List.length_append, List.length_cons, List.length_nil]; omega) (by simp only [List.length_map, List.length_append, List.length_cons, List.length_nil]; omega))
    refine rA ?_ (x := tA)
    refine sO [(1, _), (2, _), (3, _), (5, _), (6, _), (13, _), (14, _), (15, _), (7000, _)] [(1, _), (5, _)] ?_
    refine sw_reg ?_
    refine rA ?_ (x := B_add)
    refine rA ?_ (x := sM)
    refine Exists.intro (k + 1) (And.intro (by omega) (And.intro (by omega) (And.intro (And.intro (by exact ⟨rfl, rfl, rfl, rfl, rfl, ⟨⟩⟩) (by exact ⟨rfl, ⟨⟩⟩)) (And.intro (by exact And.intro (by exact slc_eq (by rw [map_take_succ hlt, List.map_append, hla]; rfl)) (And.intro (by exact rfl) (True.intro))) (by exact ⟨⟩)))))
  ·try simp only [q1, q2, q3, q4, q5, q6, q7, q8, q9] at hb2
   have hend : k = e.Active.length := by omega
   refine sw_exit ?_
   refine sw_seq ?_
   refine sO [(1, _), (2, _), (3, _), (13, _), (14, _), (15, _), (7000, _)] [(1, (40, [PV.sl _ _, PV.val _, PV.val _, PV.sl _ _, PV.sl _ _, PV.sl _ _, PV.sl _ _, PV.val _]))] ?_
   refine sw_reg ?_
   refine rA ?_ (x := tM)
   refine rA ?_ (x := tA)
   refine sw_ret ?_
   exact (And.intro (by refine slc_eq ?_; rw [actLines_yes hok, hend, List.take_length]) True.intro)
theorem spec_ActiveLines {p1 p2 p5 p6 p7 p8 p9 p11 p12 p13 p14 p16 p17 p18 : Fl} {e : Engine}  (hb : wtEngine e ≤ 68719476736) : SCall Tryz.prog 12 [(true, [PV.sl .v (e.Store.Segments.map (cVersionS p1 p2)), PV.val (vI e.Store.Now), PV.val (vI e.Cursor), PV.sl .v (e.Order.map cInt), PV.sl .v (e.Active.map (cActive p5 p6 p7 p8 p9)), PV.sl .v (e.Done.map (cFinished p11 p12 p13 p14)), PV.sl .v (e.Ledger.map (cCharge p16 p17 p18)), PV.val (vI e.Steps)])] (resRV [(false, [PV.sl (.own 9 1) ((actLines e).map cStr)])]) := by
 refine scall_of (rs := [(false, [PV.sl (.own 9 1) ((actLines e).map cStr)])]) Tryz.func12 rfl (Nat.le_of_ble_eq_true rfl) (borA_cons (BorL.cons (PV.bor_sl _) (BorL.cons (PV.bor_val _) (BorL.cons (PV.bor_val _) (BorL.cons (PV.bor_sl _) (BorL.cons (PV.bor_sl _) (BorL.cons (PV.bor_sl _) (BorL.cons (PV.bor_sl _) (BorL.cons (PV.bor_val _) BorL.nil)))))))) borA_nil) ?_
 intro h0 w0 Fz0
 refine sw_slen (s := 0) (j := 0) rfl rfl fun hl0_0 => ?_
 try rw [List.length_map] at hl0_0
 refine sw_slen (s := 0) (j := 3) rfl rfl fun hl0_3 => ?_
 try rw [List.length_map] at hl0_3
 refine sw_slen (s := 0) (j := 4) rfl rfl fun hl0_4 => ?_
 try rw [List.length_map] at hl0_4
 refine sw_slen (s := 0) (j := 5) rfl rfl fun hl0_5 => ?_
 try rw [List.length_map] at hl0_5
 refine sw_slen (s := 0) (j := 6) rfl rfl fun hl0_6 => ?_
 try rw [List.length_map] at hl0_6
 have hbu := hb
 simp only [wtEngine, wtActiveS] at hbu
 refine sw_seq ?_
 refine sw_reg ?_
 refine RunS.step (by exact ⟨rfl, ⟨⟩⟩) (by exact ⟨⟩) (LocG.of rfl (loc_box (ag := true) (cs := [PV.sl _ _, PV.val _, PV.val _, PV.sl _ _, PV.sl _ _, PV.sl _ _, PV.sl _ _, PV.val _]) (by decide) (by exact ⟨⟩))) (free1 (Free.of_ rfl)) ?_
 refine rA ?_ (x := loc_const (.inr rfl) (by decide) (ok_nil (t := 9) (e := 1)))
 refine sw_seq ?_
 refine sO [(1, _), (2, _)] [(1, (40, [PV.sl _ _, PV.val _, PV.val _, PV.sl _ _, PV.sl _ _, PV.sl _ _, PV.sl _ _, PV.val _]))] ?_
 refine sw_reg ?_
 refine rA ?_ (x := loc_bslice (qs := []) (by decide) FAcl_sl_44 FAcl_z_9 (by decide) rfl rfl rfl rfl rfl (by exact Nat.le_of_ble_eq_true rfl) (by exact ⟨⟩) rfl)
 refine rA ?_ (x := tA)
 refine sw_seq ?_
 refine sw_seq ?_
 refine sO [(1, _), (2, _), (3, _)] [(1, _)] ?_
 refine sw_reg ?_
 refine rA ?_ (x := kA)
 refine sw_block ?_
 refine sO [(1, _), (2, _), (3, _), (4, _)] [(1, _)] ?_
 refine sw_loop (l0 := [(1, RV.ptr 1 0), (2, RV.sv false [PV.sl _ _])]) (b0 := [(1, (40, [PV.sl _ _, PV.val _, PV.val _, PV.sl _ _, PV.sl _ _, PV.sl _ _, PV.sl _ _, PV.val _]))]) (fun k : Nat => k ≤ e.Active.length ∧ (0 < k → okEngine e = true)) (fun k : Nat => [(3, RV.slc (.own 9 1) (((e.Active.take k).map actLine).map cStr)), (4, RV.int (k : Int))]) (fun k : Nat => []) (fun k : Nat => e.Active.length - k) 0 (by exact ⟨by omega, fun h => absurd h (Nat.lt_irrefl 0)⟩) (by exact ⟨rfl, rfl, ⟨⟩⟩) (by exact ⟨rfl, ⟨⟩⟩) (by exact And.intro (by exact rfl) (And.intro (by exact rfl) (True.intro))) (by exact ⟨⟩) ?_
 rintro k ⟨hk, ha⟩
 refine sw_seq ?_
 refine sw_seq ?_
 refine sw_reg ?_
 refine rA ?_ (x := sM)
 refine rA ?_ (x := lF FAcl_fd_40_3)
 refine rA ?_ (x := lD [PV.sl .v _] FAcl_ty_36)
 refine rA ?_ (x := lN FAcl_sl_36)
 refine rA ?_ (x := B_lss)
 refine rA ?_ (x := sM)
 refine RunS.cases (s := 13) rfl (fun g1 => ?_) (fun g1 => ?_)
 ·have sg1 := g1
  try simp only [q1, q2, q3, q4, q5, q6, q7, q8, q9] at sg1
  refine rB g1 ?_ (x := lD [PV.sl .v _, PV.val _, PV.val _, PV.sl .v _, PV.sl .v _, PV.sl .v _, PV.sl .v _, PV.val _] FAcl_ty_40)
  refine rB g1 ?_ (x := cL [(true, [PV.sl _ _, PV.val _, PV.val _, PV.sl _ _, PV.sl _ _, PV.sl _ _, PV.sl _ _, PV.val _])] [(true, [PV.sl .v _, PV.val _, PV.val _, PV.sl .v _, PV.sl .v _, PV.sl .v _, PV.sl .v _, PV.val _])] FAcl_c_30 (hs := by exact (spec_IsEngine (by omega))))
  refine rA ?_ (x := pkT g1)
  refine sw_cond (t := 16) rfl (fun hb2 => ?_) (fun hb2 => ?_)
  ·try simp only [q1, q2, q3, q4, q5, q6, q7, q8, q9] at hb2
   have hok : okEngine e = true := by simp_all
   have hlt : k < e.Active.length := (by first | omega | (simp_all; done) | (simp_all; omega))
   have haw0 := isAwake_at hok hlt
   have hwm := wt_mem (f := wtActive) hlt
   have hwa : wtActive e.Active[k] = wtQuery e.Active[k].Query + e.Active[k].Todo.length + wtRowS e.Active[k].Rows := by simp only [wtActive, wtIntS_len, wtInt]; omega
   have hef := eng_facts hok
   have hac := act_facts (hef.2.2.2.2.2.2.2.2.2.1 _ (List.getElem_mem hlt))
   have hsf := sto_facts hef.1
   have hi0 : (itoa e.Active[k].Query.Id).length ≤ 21 := itoa_len (by unfold I64; omega)
   have hi1 : (itoa e.Active[k].Time).length ≤ 21 := itoa_len (by unfold I64; omega)
   have hi2 : (itoa (e.Active[k].Todo.length : Int)).length ≤ 21 := itoa_len (by unfold I64; omega)
   have hi3 : (itoa (e.Active[k].Rows.length : Int)).length ≤ 21 := itoa_len (by unfold I64; omega)
   have htk : (e.Active.take k).length = k := by rw [List.length_take]; omega
   refine sw_skip ?_
   refine sw_seq ?_
   refine sw_block ?_
   refine sw_seq ?_
   refine sO [(1, _), (2, _), (3, _), (4, _)] [(1, (40, [PV.sl _ _, PV.val _, PV.val _, PV.sl _ _, PV.sl _ _, PV.sl _ _, PV.sl _ _, PV.val _]))] ?_
   refine sw_reg ?_
   refine rA ?_ (x := lF FAcl_fd_40_3)
   refine rA ?_ (x := lD [PV.sl .v _] FAcl_ty_36)
   refine rA ?_ (x := sM)
   refine rA ?_ (x := loc_index (by decide) FAcl_sl_36 (by exact ⟨⟩) (by exact rfl) (by exact getm2 (by omega) rfl) (by exact rfl))
   refine rA ?_ (x := lE [PV.val _, PV.val _, PV.sl .v _, PV.sl .v _, PV.val _, PV.sl .v _, PV.val _, PV.val _, PV.val _, PV.sl .v _] FAcl_ty_85)
   refine RunS.step (by exact ⟨⟩) (by exact ⟨⟩) (LocG.of rfl (loc_alloc (by decide) FAcl_z_85 FAcl_zo_85)) (free1 (Free.app (Free.app (Free.app (Free.app (Free.app (Free.of_ rfl) rfl) rfl) rfl) rfl) rfl)) ?_
   refine rA ?_ (x := loc_store (ag := true) (vs := [PV.val _, PV.val _, PV.sl _ _, PV.sl _ _, PV.val _, PV.sl _ _, PV.val _, PV.val _, PV.val _, PV.sl _ _]) FAcl_ty_85 (by exact ⟨⟩) (by exact rfl) (by exact Nat.le_of_ble_eq_true rfl))
   refine sw_seq ?_
   refine sO [(1, _), (2, _), (3, _), (4, _), (5, _)] [(1, _), (5, (85, [PV.val _, PV.val _, PV.sl _ _, PV.sl _ _, PV.val _, PV.sl _ _, PV.val _, PV.val _, PV.val _, PV.sl _ _]))] ?_
   refine sw_draw hm_ ?_
   refine dA 0 ?_ (x := lF FAcl_fd_85_0)
   refine dA 1 ?_ (x := lF FAcl_fd_51_0)
   refine dA 3 ?_ (x := lD [PV.val _] FAcl_ty_3)
   refine dA 7 ?_ (x := cL [(false, [PV.val _])] [(false, [PV.val _])] FAcl_c_31 (hs := by exact (spec_FormatInt (by unfold I64; omega))))
   refine dA 15 ?_ (x := loc_sadd)
   refine dA 0 ?_ (x := lF FAcl_fd_85_1)
   refine dA 32 ?_ (x := lD [PV.val _] FAcl_ty_3)
   refine dA 111 ?_ (x := cL [(false, [PV.val _])] [(false, [PV.val _])] FAcl_c_31 (hs := by exact (spec_FormatInt (by unfold I64; omega))))
   refine dA 255 ?_ (x := loc_sadd)
   refine dA 511 ?_ (x := loc_sadd)
   refine dA 0 ?_ (x := lF FAcl_fd_85_2)
   refine dA 1024 ?_ (x := lD [PV.sl .v _] FAcl_ty_25)
   refine dA 3072 ?_ (x := lN FAcl_sl_25)
   refine dA 7407 ?_ (x := cL [(false, [PV.val _])] [(false, [PV.val _])] FAcl_c_31 (hs := by exact (spec_FormatInt (by unfold I64; omega))))
   refine dA 16383 ?_ (x := loc_sadd)
   refine dA 32767 ?_ (x := loc_sadd)
   refine dA 0 ?_ (x := lF FAcl_fd_85_6)
   refine dA 65536 ?_ (x := lD [PV.sl .v _] FAcl_ty_83)
   refine dA 196608 ?_ (x := lN FAcl_sl_83)
   refine dA 474351 ?_ (x := cL [(false, [PV.val _])] [(false, [PV.val _])] FAcl_c_31 (hs := by exact (spec_FormatInt (by unfold I64; omega))))
   refine dA 1048575 ?_ (x := loc_sadd)
   refine dA 2097151 ?_ (x := sA)
   refine sw_seq ?_
   refine sw_seq ?_
   refine sO [(1, _), (2, _), (3, _), (4, _), (5, _), (6, _)] [(1, _), (5, _)] ?_
   refine sw_reg ?_
   refine rA ?_ (x := lD [PV.sl .v _, PV.val _, PV.val _, PV.sl .v _, PV.sl .v _, PV.sl .v _, PV.sl .v _, PV.val _] FAcl_ty_40)
   refine rA ?_ (x := sM)
   refine rA ?_ (x := cL [(true, [PV.sl _ _, PV.val _, PV.val _, PV.sl _ _, PV.sl _ _, PV.sl _ _, PV.sl _ _, PV.val _]), (false, [PV.val _])] [(true, [PV.sl .v _, PV.val _, PV.val _, PV.sl .v _, PV.sl .v _, PV.sl .v _, PV.sl .v _, PV.val _]), (false, [PV.val _])] FAcl_c_47 (hs := by exact (spec_IsAwake (by omega))))
   refine rA ?_ (x := nT)
   refine sw_cond (t := 48) rfl (fun hb3 => ?_) (fun hb3 => ?_)
   ·try simp only [q1, q2, q3, q4, q5, q6, q7, q8, q9] at hb3
    have haw : awake e.Active[k] = false := by first | simpa using hb3 | (simp_all; done)
    have hla := actLine_no haw
    refine sO [(1, _), (2, _), (3, _), (4, _), (5, _), (6, _)] [(1, _), (5, _)] ?_
    refine sw_reg ?_
    refine rA ?_ (x := sM)
    refine rA ?_ (x := loc_sadd)
    refine rA ?_ (x := sA)
    refine sO [(1, _), (2, _), (3, _), (4, _), (5, _), (6, _)] [(1, _), (5, _)] ?_
    refine sw_reg ?_
    refine rA ?_ (x := tM)
    refine rA ?_ (x := sM)
    refine rA ?_ (x := loc_bslice (qs := [(false, [PV.val _])]) (by decide) FAcl_sl_44 FAcl_z_9 (by decide) rfl rfl rfl rfl rfl (by exact Nat.le_of_ble_eq_true rfl) (by exact (And.intro (by exact ⟨⟩) True.intro)) rfl)
    refine rA ?_ (x := loc_append (by decide) FAcl_sl_44 FAcl_z_9 rfl rfl (by decide) rfl (by simp only [List.length_map, List.length_append, List.length_cons, List.length_nil]; omega) (by simp only [List.length_map, List.length_append, List.length_cons, List.length_nil]; omega))
    refine rA ?_ (x := tA)
    refine sO [(1, _), (2, _), (3, _), (4, _), (5, _), (6, _)] [(1, _), (5, _)] ?_
    refine sw_reg ?_
    refine rA ?_ (x := sM)
    refine rA ?_ (x := B_add)
    refine rA ?_ (x := sA)
    refine Exists.intro (k + 1) (And.intro (by exact ⟨by omega, fun _ => hok⟩) (And.intro (by omega) (And.intro (And.intro (by exact ⟨rfl, rfl, ⟨⟩⟩) (by exact ⟨rfl, ⟨⟩⟩)) (And.intro (by exact And.intro (by exact slc_eq (by rw [map_take_succ hlt, List.map_append, hla]; rfl)) (And.intro (by exact rfl) (True.intro))) (by exact ⟨⟩)))))
   ·try simp only [q1, q2, q3, q4, q5, q6, q7, q8, q9] at hb3
    have haw : awake e.Active[k] = true := by first | simpa using hb3 | (simp_all; done)
    have hla := actLine_yes haw
    refine sw_skip ?_
    refine sO [(1, _), (2, _), (3, _), (4, _), (5, _), (6, _)] [(1, _), (5, _)] ?_
    refine sw_reg ?_
    refine rA ?_ (x := tM)
    refine rA ?_ (x := sM)
    refine rA ?_ (x := loc_bslice (qs := [(false, [PV.val _])]) (by decide) FAcl_sl_44 FAcl_z_9 (by decide) rfl rfl rfl rfl rfl (by exact Nat.le_of_ble_eq_true rfl) (by exact (And.intro (by exact ⟨⟩) True.intro)) rfl)
    refine rA ?_ (x := loc_append (by decide) FAcl_sl_44 FAcl_z_9 rfl rfl (by decide) rfl (by simp only [List.length_map, List.length_append, List.length_cons, List.length_nil]; omega) (by simp only [List.length_map, List.length_append, List.length_cons, List.length_nil]; omega))
    refine rA ?_ (x := tA)
    refine sO [(1, _), (2, _), (3, _), (4, _), (5, _), (6, _)] [(1, _), (5, _)] ?_
    refine sw_reg ?_
    refine rA ?_ (x := sM)
    refine rA ?_ (x := B_add)
    refine rA ?_ (x := sA)
    refine Exists.intro (k + 1) (And.intro (by exact ⟨by omega, fun _ => hok⟩) (And.intro (by omega) (And.intro (And.intro (by exact ⟨rfl, rfl, ⟨⟩⟩) (by exact ⟨rfl, ⟨⟩⟩)) (And.intro (by exact And.intro (by exact slc_eq (by rw [map_take_succ hlt, List.map_append, hla]; rfl)) (And.intro (by exact rfl) (True.intro))) (by exact ⟨⟩)))))
  ·try simp only [q1, q2, q3, q4, q5, q6, q7, q8, q9] at hb2
   have hfin : (k = e.Active.length ∧ okEngine e = true) ∨ (k = 0 ∧ (e.Active.length = 0 ∨ okEngine e = false)) := by
    by_cases h0k : 0 < k
    ·left
     have h1 := ha h0k
     refine ⟨?_, h1⟩
     by_cases hka : k = e.Active.length
     ·exact hka
     ·exfalso
      have hlt_ : k < e.Active.length := by omega
      have hlt2_ : (k : Int) < (e.Active.length : Int) := by omega
      first | omega | simp_all
    ·right
     refine ⟨by omega, ?_⟩
     by_cases hka : e.Active.length = 0
     ·exact .inl hka
     ·right
      have hlt_ : k < e.Active.length := by omega
      have hlt2_ : (k : Int) < (e.Active.length : Int) := by omega
      rw [← Bool.not_eq_true]; intro hc_; simp_all
   refine sw_exit ?_
   refine sw_seq ?_
   refine sO [(1, _), (2, _), (3, _), (4, _)] [(1, (40, [PV.sl _ _, PV.val _, PV.val _, PV.sl _ _, PV.sl _ _, PV.sl _ _, PV.sl _ _, PV.val _]))] ?_
   refine sw_reg ?_
   refine rA ?_ (x := tM)
   refine rA ?_ (x := tA)
   refine sw_ret ?_
   exact (And.intro (by refine slc_eq ?_; rw [actLines_end hfin]) True.intro)
 ·have sg1 := g1
  try simp only [q1, q2, q3, q4, q5, q6, q7, q8, q9] at sg1
  refine RunS.s0f g1 ?_
  refine RunS.s0f g1 ?_
  refine rA ?_ (x := pkF g1)
  refine sw_cond (t := 16) rfl (fun hb_ => nomatch hb_) (fun hb_ => ?_)
  have hfin : (k = e.Active.length ∧ okEngine e = true) ∨ (k = 0 ∧ (e.Active.length = 0 ∨ okEngine e = false)) := by
   by_cases h0k : 0 < k
   ·left
    have h1 := ha h0k
    refine ⟨?_, h1⟩
    by_cases hka : k = e.Active.length
    ·exact hka
    ·exfalso
     have hlt_ : k < e.Active.length := by omega
     have hlt2_ : (k : Int) < (e.Active.length : Int) := by omega
     first | omega | simp_all
   ·right
    refine ⟨by omega, ?_⟩
    by_cases hka : e.Active.length = 0
    ·exact .inl hka
    ·right
     have hlt_ : k < e.Active.length := by omega
     have hlt2_ : (k : Int) < (e.Active.length : Int) := by omega
     rw [← Bool.not_eq_true]; intro hc_; simp_all
  refine sw_exit ?_
  refine sw_seq ?_
  refine sO [(1, _), (2, _), (3, _), (4, _)] [(1, (40, [PV.sl _ _, PV.val _, PV.val _, PV.sl _ _, PV.sl _ _, PV.sl _ _, PV.sl _ _, PV.val _]))] ?_
  refine sw_reg ?_
  refine rA ?_ (x := tM)
  refine rA ?_ (x := tA)
  refine sw_ret ?_
  exact (And.intro (by refine slc_eq ?_; rw [actLines_end hfin]) True.intro)
end Go.Proofs.YteflgldonmgejaaGreatDoor
