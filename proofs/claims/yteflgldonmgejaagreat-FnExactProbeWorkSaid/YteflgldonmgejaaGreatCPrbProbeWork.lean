/- What functions of the program compute. No condition. -/
import Derived.Test.YteflgldonmgejaaGreatCEngProbeWork
import Derived.Test.YteflgldonmgejaaGreatCIdiProbeWork
import Derived.KernelRfl
set_option linter.unusedVariables false
set_option linter.unusedSimpArgs false
namespace Go.Proofs.YteflgldonmgejaaGreat
open Go Go.RowKit M
set_option maxRecDepth 10000
attribute [local irreducible] PV.Lcl PV.LclR RV.Lcl
theorem FPrb_c_103 : callI Tryz.prog 103 = true := by kernel_rfl
theorem FPrb_c_104 : callI Tryz.prog 104 = true := by kernel_rfl
theorem FPrb_c_105 : callI Tryz.prog 105 = true := by kernel_rfl
theorem FPrb_c_106 : callI Tryz.prog 106 = true := by kernel_rfl
theorem FPrb_c_107 : callI Tryz.prog 107 = true := by kernel_rfl
theorem FPrb_c_108 : callI Tryz.prog 108 = true := by kernel_rfl
theorem FPrb_c_115 : callI Tryz.prog 115 = true := by kernel_rfl
theorem FPrb_c_120 : callI Tryz.prog 120 = true := by kernel_rfl
theorem FPrb_c_121 : callI Tryz.prog 121 = true := by kernel_rfl
theorem FPrb_c_122 : callI Tryz.prog 122 = true := by kernel_rfl
theorem FPrb_c_123 : callI Tryz.prog 123 = true := by kernel_rfl
theorem FPrb_c_124 : callI Tryz.prog 124 = true := by kernel_rfl
theorem FPrb_c_125 : callI Tryz.prog 125 = true := by kernel_rfl
theorem FPrb_c_126 : callI Tryz.prog 126 = true := by kernel_rfl
theorem FPrb_c_173 : callI Tryz.prog 173 = true := by kernel_rfl
theorem FPrb_c_178 : callI Tryz.prog 178 = true := by kernel_rfl
theorem FPrb_c_189 : callI Tryz.prog 189 = true := by kernel_rfl
theorem FPrb_c_194 : callI Tryz.prog 194 = true := by kernel_rfl
theorem FPrb_c_42 : callI Tryz.prog 42 = true := by kernel_rfl
theorem FPrb_c_43 : callI Tryz.prog 43 = true := by kernel_rfl
theorem FPrb_c_44 : callI Tryz.prog 44 = true := by kernel_rfl
theorem FPrb_c_50 : callI Tryz.prog 50 = true := by kernel_rfl
theorem FPrb_c_51 : callI Tryz.prog 51 = true := by kernel_rfl
theorem FPrb_c_52 : callI Tryz.prog 52 = true := by kernel_rfl
theorem FPrb_c_97 : callI Tryz.prog 97 = true := by kernel_rfl
theorem FPrb_c_98 : callI Tryz.prog 98 = true := by kernel_rfl
theorem FPrb_fd_142_0 : fieldI Tryz.prog 142 0 = some 0 := by kernel_rfl
theorem FPrb_fd_142_2 : fieldI Tryz.prog 142 2 = some 5 := by kernel_rfl
theorem FPrb_fd_142_4 : fieldI Tryz.prog 142 4 = some 7 := by kernel_rfl
theorem FPrb_fd_142_5 : fieldI Tryz.prog 142 5 = some 8 := by kernel_rfl
theorem FPrb_fd_151_0 : fieldI Tryz.prog 151 0 = some 0 := by kernel_rfl
theorem FPrb_fd_151_1 : fieldI Tryz.prog 151 1 = some 1 := by kernel_rfl
theorem FPrb_fd_35_0 : fieldI Tryz.prog 35 0 = some 0 := by kernel_rfl
theorem FPrb_fd_40_0 : fieldI Tryz.prog 40 0 = some 0 := by kernel_rfl
theorem FPrb_fd_40_1 : fieldI Tryz.prog 40 1 = some 2 := by kernel_rfl
theorem FPrb_fd_40_2 : fieldI Tryz.prog 40 2 = some 3 := by kernel_rfl
theorem FPrb_fd_40_3 : fieldI Tryz.prog 40 3 = some 4 := by kernel_rfl
theorem FPrb_fd_65_0 : fieldI Tryz.prog 65 0 = some 0 := by kernel_rfl
theorem FPrb_pl_66 : placesI Tryz.prog 66 = some [(0, 1), (1, 1)] := by kernel_rfl
theorem FPrb_sl_149 : sliceI Tryz.prog 149 = some (151, 4, 48) := by kernel_rfl
theorem FPrb_sl_25 : sliceI Tryz.prog 25 = some (3, 1, 8) := by kernel_rfl
theorem FPrb_sl_33 : sliceI Tryz.prog 33 = some (149, 1, 24) := by kernel_rfl
theorem FPrb_sl_36 : sliceI Tryz.prog 36 = some (142, 10, 144) := by kernel_rfl
theorem FPrb_sl_89 : sliceI Tryz.prog 89 = some (65, 4, 64) := by kernel_rfl
theorem FPrb_sl_93 : sliceI Tryz.prog 93 = some (66, 2, 32) := by kernel_rfl
theorem FPrb_ty_142 : tyI Tryz.prog 142 = some (true, 10) := by kernel_rfl
theorem FPrb_ty_149 : tyI Tryz.prog 149 = some (false, 1) := by kernel_rfl
theorem FPrb_ty_151 : tyI Tryz.prog 151 = some (true, 4) := by kernel_rfl
theorem FPrb_ty_25 : tyI Tryz.prog 25 = some (false, 1) := by kernel_rfl
theorem FPrb_ty_3 : tyI Tryz.prog 3 = some (false, 1) := by kernel_rfl
theorem FPrb_ty_33 : tyI Tryz.prog 33 = some (false, 1) := by kernel_rfl
theorem FPrb_ty_36 : tyI Tryz.prog 36 = some (false, 1) := by kernel_rfl
theorem FPrb_ty_40 : tyI Tryz.prog 40 = some (true, 8) := by kernel_rfl
theorem FPrb_ty_65 : tyI Tryz.prog 65 = some (true, 4) := by kernel_rfl
theorem FPrb_ty_66 : tyI Tryz.prog 66 = some (true, 2) := by kernel_rfl
theorem FPrb_ty_92 : tyI Tryz.prog 92 = some (true, 2) := by kernel_rfl
theorem FPrb_z_142 : zeroI Tryz.prog 142 = some (.agg #[.int .i64 0, .int .i64 0, .slice none 0 0, .slice none 0 0, .int .i64 0, .slice none 0 0, .int .i64 0, .int .i64 0, .int .i64 0, .slice none 0 0]) := by kernel_rfl
theorem FPrb_z_151 : zeroI Tryz.prog 151 = some (.agg #[.int .i64 0, .slice none 0 0, .int .i64 0, .int .i64 0]) := by kernel_rfl
theorem FPrb_z_3 : zeroI Tryz.prog 3 = some (.int .i64 0) := by kernel_rfl
theorem FPrb_z_65 : zeroI Tryz.prog 65 = some (.agg #[.int .i64 0, .int .i64 0, .slice none 0 0, .slice none 0 0]) := by kernel_rfl
theorem FPrb_z_66 : zeroI Tryz.prog 66 = some (.agg #[.int .i64 0, .slice none 0 0]) := by kernel_rfl
theorem FPrb_z_92 : zeroI Tryz.prog 92 = some (.agg #[.slice none 0 0, .slice none 0 0]) := by kernel_rfl
theorem FPrb_zo_142 {Fz : FzT} {w : World} : OwnL [PV.val (.int .i64 0), PV.val (.int .i64 0), PV.sl (.own 193 3) [], PV.sl (.own 3 1) [], PV.val (.int .i64 0), PV.sl (.own 3 1) [], PV.val (.int .i64 0), PV.val (.int .i64 0), PV.val (.int .i64 0), PV.sl (.own 66 2) []] Fz w (Value.cells (.agg #[.int .i64 0, .int .i64 0, .slice none 0 0, .slice none 0 0, .int .i64 0, .slice none 0 0, .int .i64 0, .int .i64 0, .int .i64 0, .slice none 0 0])).toList [] := zo_val rfl (zo_val rfl (zo_sl (zo_sl (zo_val rfl (zo_sl (zo_val rfl (zo_val rfl (zo_val rfl (zo_sl (zo_nil))))))))))
theorem FPrb_zo_151 {Fz : FzT} {w : World} : OwnL [PV.val (.int .i64 0), PV.sl (.own 3 1) [], PV.val (.int .i64 0), PV.val (.int .i64 0)] Fz w (Value.cells (.agg #[.int .i64 0, .slice none 0 0, .int .i64 0, .int .i64 0])).toList [] := zo_val rfl (zo_sl (zo_val rfl (zo_val rfl (zo_nil))))
theorem FPrb_zo_66 {Fz : FzT} {w : World} : OwnL [PV.val (.int .i64 0), PV.sl (.own 3 1) []] Fz w (Value.cells (.agg #[.int .i64 0, .slice none 0 0])).toList [] := zo_val rfl (zo_sl (zo_nil))
theorem FPrb_zo_92 {Fz : FzT} {w : World} : OwnL [PV.sl (.own 65 4) [], PV.sl (.own 205 1) []] Fz w (Value.cells (.agg #[.slice none 0 0, .slice none 0 0])).toList [] := zo_sl (zo_sl (zo_nil))
theorem impl_isAwake {p4 : Fl} {a : Active}  : SCall Tryz.prog 194 [(true, [PV.val (vI a.Query.Id), PV.val (vI a.Query.Tenant), PV.sl .v (a.Query.Conds.map cCond), PV.sl .v (a.Query.Out.map cInt), PV.val (vI a.Time), PV.sl .v (a.Todo.map cInt), PV.val (vI a.Age), PV.val (vI a.Sent), PV.val (vI a.Cap), PV.sl .v (a.Rows.map (cRow p4))])] (resRV [(false, [PV.val (.bool (awake a))])]) := by
 refine scall_of (rs := [(false, [PV.val (.bool (awake a))])]) Tryz.func194 rfl (Nat.le_of_ble_eq_true rfl) (borA_cons (BorL.cons (PV.bor_val _) (BorL.cons (PV.bor_val _) (BorL.cons (PV.bor_sl _) (BorL.cons (PV.bor_sl _) (BorL.cons (PV.bor_val _) (BorL.cons (PV.bor_sl _) (BorL.cons (PV.bor_val _) (BorL.cons (PV.bor_val _) (BorL.cons (PV.bor_val _) (BorL.cons (PV.bor_sl _) BorL.nil)))))))))) borA_nil) ?_
 intro h0 w0 Fz0
 refine sw_slen (s := 0) (j := 2) rfl rfl fun hl0_2 => ?_
 try rw [List.length_map] at hl0_2
 refine sw_slen (s := 0) (j := 3) rfl rfl fun hl0_3 => ?_
 try rw [List.length_map] at hl0_3
 refine sw_slen (s := 0) (j := 5) rfl rfl fun hl0_5 => ?_
 try rw [List.length_map] at hl0_5
 refine sw_slen (s := 0) (j := 9) rfl rfl fun hl0_9 => ?_
 try rw [List.length_map] at hl0_9
 refine sw_seq ?_
 refine sw_reg ?_
 refine RunS.step (by exact ⟨rfl, ⟨⟩⟩) (by exact ⟨⟩) (LocG.of rfl (loc_box (ag := true) (cs := [PV.val _, PV.val _, PV.sl _ _, PV.sl _ _, PV.val _, PV.sl _ _, PV.val _, PV.val _, PV.val _, PV.sl _ _]) (by decide) (by exact ⟨⟩))) (free1 (Free.of_ rfl)) ?_
 refine rA ?_ (x := kA)
 refine sw_seq ?_
 refine sO [(1, _), (2, _)] [(1, (142, [PV.val _, PV.val _, PV.sl _ _, PV.sl _ _, PV.val _, PV.sl _ _, PV.val _, PV.val _, PV.val _, PV.sl _ _]))] ?_
 refine sw_reg ?_
 refine rA ?_ (x := lF FPrb_fd_142_5)
 refine rA ?_ (x := lD [PV.val _] FPrb_ty_3)
 refine rA ?_ (x := B_eql)
 refine rA ?_ (x := sM)
 refine RunS.cases (s := 6) rfl (fun g1 => ?_) (fun g1 => ?_)
 ·have sg1 := g1
  try simp only [q1, q2, q3, q4, q5, q6, q7, q8, q9] at sg1
  refine RunS.s0t g1 ?_
  refine RunS.s0t g1 ?_
  refine RunS.s0t g1 ?_
  refine RunS.s0t g1 ?_
  refine RunS.s0t g1 ?_
  refine rA ?_ (x := pkT g1)
  refine rA ?_ (x := sA)
  refine sw_ret ?_
  exact (And.intro (by refine bool_eq ?_; first | (simp_all [awake]; done) | (simp_all [awake]; rfl) | (simp_all [awake]; omega) | (simp_all [awake]; intros; omega)) True.intro)
 ·have sg1 := g1
  try simp only [q1, q2, q3, q4, q5, q6, q7, q8, q9] at sg1
  refine rB g1 ?_ (x := lF FPrb_fd_142_5)
  refine rB g1 ?_ (x := lD [PV.val _] FPrb_ty_3)
  refine rB g1 ?_ (x := lF FPrb_fd_142_4)
  refine rB g1 ?_ (x := lD [PV.val _] FPrb_ty_3)
  refine rB g1 ?_ (x := B_gtr)
  refine rA ?_ (x := pkF g1)
  refine rA ?_ (x := sA)
  refine sw_ret ?_
  exact (And.intro (by refine bool_eq ?_; first | (simp_all [awake]; done) | (simp_all [awake]; rfl) | (simp_all [awake]; omega) | (simp_all [awake]; intros; omega)) True.intro)
theorem spec_IsAwake {p1 p2 p5 p6 p7 p8 p9 p11 p12 p13 p14 p16 p17 p18 : Fl} {e : Engine} {i : Int}  (hb : wtEngine e ≤ 68719476736) : SCall Tryz.prog 178 [(true, [PV.sl .v (e.Store.Segments.map (cVersionS p1 p2)), PV.val (vI e.Store.Now), PV.val (vI e.Cursor), PV.sl .v (e.Order.map cInt), PV.sl .v (e.Active.map (cActive p5 p6 p7 p8 p9)), PV.sl .v (e.Done.map (cFinished p11 p12 p13 p14)), PV.sl .v (e.Ledger.map (cCharge p16 p17 p18)), PV.val (vI e.Steps)]), (false, [PV.val (vI i)])] (resRV [(false, [PV.val (.bool (isAwakeAt e i))])]) := by
 refine scall_of (rs := [(false, [PV.val (.bool (isAwakeAt e i))])]) Tryz.func178 rfl (Nat.le_of_ble_eq_true rfl) (borA_cons (BorL.cons (PV.bor_sl _) (BorL.cons (PV.bor_val _) (BorL.cons (PV.bor_val _) (BorL.cons (PV.bor_sl _) (BorL.cons (PV.bor_sl _) (BorL.cons (PV.bor_sl _) (BorL.cons (PV.bor_sl _) (BorL.cons (PV.bor_val _) BorL.nil)))))))) (borA_cons (BorL.cons (PV.bor_val _) BorL.nil) borA_nil)) ?_
 intro h0 w0 Fz0
 refine sw_slen (s := 0) (j := 0) rfl rfl fun hl0_0 => ?_
 try rw [List.length_map] at hl0_0
 refine sw_slen (s := 0) (j := 3) rfl rfl fun hl0_3 => ?_
 try rw [List.length_map] at hl0_3
 refine sw_slen (s := 0) (j := 4) rfl rfl fun hl0_4 => ?_
 try rw [List.length_map] at hl0_4
 refine sw_slen (s := 0) (j := 5) rfl rfl fun hl0_5 => ?_
 try rw [List.length_map] at hl0_5
 refine sw_slen (s := 0) (j := 6) rfl rfl fun hl0_6 => ?_
 try rw [List.length_map] at hl0_6
 refine sw_seq ?_
 refine sw_reg ?_
 refine RunS.step (by exact ⟨rfl, ⟨⟩⟩) (by exact ⟨⟩) (LocG.of rfl (loc_box (ag := true) (cs := [PV.sl _ _, PV.val _, PV.val _, PV.sl _ _, PV.sl _ _, PV.sl _ _, PV.sl _ _, PV.val _]) (by decide) (by exact ⟨⟩))) (free1 (Free.of_ rfl)) ?_
 refine rA ?_ (x := kA)
 refine sw_seq ?_
 refine sw_seq ?_
 refine sO [(1, _), (2, _), (4, _)] [(2, (40, [PV.sl _ _, PV.val _, PV.val _, PV.sl _ _, PV.sl _ _, PV.sl _ _, PV.sl _ _, PV.val _]))] ?_
 refine sw_reg ?_
 refine rA ?_ (x := lD [PV.sl .v _, PV.val _, PV.val _, PV.sl .v _, PV.sl .v _, PV.sl .v _, PV.sl .v _, PV.val _] FPrb_ty_40)
 refine rA ?_ (x := cL [(true, [PV.sl _ _, PV.val _, PV.val _, PV.sl _ _, PV.sl _ _, PV.sl _ _, PV.sl _ _, PV.val _])] [(true, [PV.sl .v _, PV.val _, PV.val _, PV.sl .v _, PV.sl .v _, PV.sl .v _, PV.sl .v _, PV.val _])] FPrb_c_42 (hs := by exact (spec_IsEngine (by omega))))
 refine rA ?_ (x := nT)
 refine rA ?_ (x := sM)
 refine RunS.cases (s := 9) rfl (fun g1 => ?_) (fun g1 => ?_)
 ·have sg1 := g1
  try simp only [q1, q2, q3, q4, q5, q6, q7, q8, q9] at sg1
  refine RunS.s0t g1 ?_
  refine RunS.s0t g1 ?_
  refine RunS.s0t g1 ?_
  refine RunS.s0t g1 ?_
  refine RunS.s0t g1 ?_
  refine RunS.s0t g1 ?_
  refine RunS.s0t g1 ?_
  refine rA ?_ (x := pkT g1)
  refine sw_cond (t := 17) rfl (fun hb_ => ?_) (fun hb_ => nomatch hb_)
  have hbad : isAwakeAt e i = false := by first | (simp_all [isAwakeAt]; done) | (simp_all [isAwakeAt]; omega)
  refine sw_seq ?_
  refine sO [(1, _), (2, _), (4, _)] [(2, _)] ?_
  refine sw_reg ?_
  refine rA ?_ (x := kA)
  refine sw_ret ?_
  exact (And.intro (by refine bool_eq ?_; exact hbad.symm) True.intro)
 ·have sg1 := g1
  try simp only [q1, q2, q3, q4, q5, q6, q7, q8, q9] at sg1
  refine rB g1 ?_ (x := sM)
  refine rB g1 ?_ (x := lF FPrb_fd_40_3)
  refine rB g1 ?_ (x := lD [PV.sl .v _] FPrb_ty_36)
  refine rB g1 ?_ (x := lN FPrb_sl_36)
  refine rB g1 ?_ (x := B_sub)
  refine rB g1 ?_ (x := cL [(false, [PV.val _]), (false, [PV.val _]), (false, [PV.val _])] [(false, [PV.val _]), (false, [PV.val _]), (false, [PV.val _])] FPrb_c_97 (hs := by exact spec_l1In))
  refine rB g1 ?_ (x := nT)
  refine rA ?_ (x := pkF g1)
  refine sw_cond (t := 17) rfl (fun hb3 => ?_) (fun hb3 => ?_)
  ·try simp only [q1, q2, q3, q4, q5, q6, q7, q8, q9] at hb3
   have hbad : isAwakeAt e i = false := by first | (simp_all [isAwakeAt]; done) | (simp_all [isAwakeAt]; omega)
   refine sw_seq ?_
   refine sO [(1, _), (2, _), (4, _)] [(2, _)] ?_
   refine sw_reg ?_
   refine rA ?_ (x := kA)
   refine sw_ret ?_
   exact (And.intro (by refine bool_eq ?_; exact hbad.symm) True.intro)
  ·try simp only [q1, q2, q3, q4, q5, q6, q7, q8, q9] at hb3
   have hok : okEngine e = true ∧ inB i 0 (e.Active.length - 1) = true := by first | (simp_all; done) | (simp_all; omega)
   have hin := hok.2
   simp only [inB, Bool.and_eq_true, decide_eq_true_eq] at hin
   have hil : i.toNat < e.Active.length := by omega
   have hgd := gDt_ (d := a0_) hil
   refine sw_skip ?_
   refine sw_seq ?_
   refine sO [(1, _), (2, _), (4, _)] [(2, _)] ?_
   refine sw_reg ?_
   refine rA ?_ (x := lF FPrb_fd_40_3)
   refine rA ?_ (x := lD [PV.sl .v _] FPrb_ty_36)
   refine rA ?_ (x := sM)
   refine rA ?_ (x := loc_index (k := i.toNat) (by decide) FPrb_sl_36 (by exact ⟨⟩) (by first | rfl | omega) (by exact getm2 hil rfl) (by exact rfl))
   refine rA ?_ (x := lE [PV.val _, PV.val _, PV.sl .v _, PV.sl .v _, PV.val _, PV.sl .v _, PV.val _, PV.val _, PV.val _, PV.sl .v _] FPrb_ty_142)
   refine RunS.step (by exact ⟨⟩) (by exact ⟨⟩) (LocG.of rfl (loc_alloc (by decide) FPrb_z_142 FPrb_zo_142)) (free1 (Free.app (Free.app (Free.app (Free.app (Free.app (Free.of_ rfl) rfl) rfl) rfl) rfl) rfl)) ?_
   refine rA ?_ (x := loc_store (ag := true) (vs := [PV.val _, PV.val _, PV.sl _ _, PV.sl _ _, PV.val _, PV.sl _ _, PV.val _, PV.val _, PV.val _, PV.sl _ _]) FPrb_ty_142 (by exact ⟨⟩) (by exact rfl) (by exact Nat.le_of_ble_eq_true rfl))
   refine sw_seq ?_
   refine sO [(1, _), (2, _), (4, _), (5, _)] [(2, _), (5, (142, [PV.val _, PV.val _, PV.sl _ _, PV.sl _ _, PV.val _, PV.sl _ _, PV.val _, PV.val _, PV.val _, PV.sl _ _]))] ?_
   refine sw_reg ?_
   refine rA ?_ (x := lF FPrb_fd_142_5)
   refine rA ?_ (x := lD [PV.val _] FPrb_ty_3)
   refine rA ?_ (x := B_eql)
   refine rA ?_ (x := sM)
   refine RunS.cases (s := 26) rfl (fun g4 => ?_) (fun g4 => ?_)
   ·have sg4 := g4
    try simp only [q1, q2, q3, q4, q5, q6, q7, q8, q9] at sg4
    refine RunS.s0t g4 ?_
    refine RunS.s0t g4 ?_
    refine RunS.s0t g4 ?_
    refine RunS.s0t g4 ?_
    refine RunS.s0t g4 ?_
    refine rA ?_ (x := pkT g4)
    refine rA ?_ (x := sA)
    refine sw_ret ?_
    exact (And.intro (by refine bool_eq ?_; unfold isAwakeAt; rw [hok.1, hok.2, ← hgd]; first | (simp_all [awake]; done) | (simp_all [awake]; omega)) True.intro)
   ·have sg4 := g4
    try simp only [q1, q2, q3, q4, q5, q6, q7, q8, q9] at sg4
    refine rB g4 ?_ (x := lF FPrb_fd_142_4)
    refine rB g4 ?_ (x := lD [PV.val _] FPrb_ty_3)
    refine rB g4 ?_ (x := lF FPrb_fd_142_5)
    refine rB g4 ?_ (x := lD [PV.val _] FPrb_ty_3)
    refine rB g4 ?_ (x := B_lss)
    refine rA ?_ (x := pkF g4)
    refine rA ?_ (x := sA)
    refine sw_ret ?_
    exact (And.intro (by refine bool_eq ?_; unfold isAwakeAt; rw [hok.1, hok.2, ← hgd]; first | (simp_all [awake]; done) | (simp_all [awake]; omega)) True.intro)
theorem spec_Participants {p1 p2 p5 p6 p7 p8 p9 p11 p12 p13 p14 p16 p17 p18 : Fl} {e : Engine}  (hb : wtEngine e ≤ 68719476736) : SCall Tryz.prog 103 [(true, [PV.sl .v (e.Store.Segments.map (cVersionS p1 p2)), PV.val (vI e.Store.Now), PV.val (vI e.Cursor), PV.sl .v (e.Order.map cInt), PV.sl .v (e.Active.map (cActive p5 p6 p7 p8 p9)), PV.sl .v (e.Done.map (cFinished p11 p12 p13 p14)), PV.sl .v (e.Ledger.map (cCharge p16 p17 p18)), PV.val (vI e.Steps)])] (resRV [(false, [PV.sl (.own 3 1) ((parts e).map cInt)])]) := by
 refine scall_of (rs := [(false, [PV.sl (.own 3 1) ((parts e).map cInt)])]) Tryz.func103 rfl (Nat.le_of_ble_eq_true rfl) (borA_cons (BorL.cons (PV.bor_sl _) (BorL.cons (PV.bor_val _) (BorL.cons (PV.bor_val _) (BorL.cons (PV.bor_sl _) (BorL.cons (PV.bor_sl _) (BorL.cons (PV.bor_sl _) (BorL.cons (PV.bor_sl _) (BorL.cons (PV.bor_val _) BorL.nil)))))))) borA_nil) ?_
 intro h0 w0 Fz0
 refine sw_slen (s := 0) (j := 0) rfl rfl fun hl0_0 => ?_
 try rw [List.length_map] at hl0_0
 refine sw_slen (s := 0) (j := 3) rfl rfl fun hl0_3 => ?_
 try rw [List.length_map] at hl0_3
 refine sw_slen (s := 0) (j := 4) rfl rfl fun hl0_4 => ?_
 try rw [List.length_map] at hl0_4
 refine sw_slen (s := 0) (j := 5) rfl rfl fun hl0_5 => ?_
 try rw [List.length_map] at hl0_5
 refine sw_slen (s := 0) (j := 6) rfl rfl fun hl0_6 => ?_
 try rw [List.length_map] at hl0_6
 refine sw_seq ?_
 refine sw_reg ?_
 refine RunS.step (by exact ⟨rfl, ⟨⟩⟩) (by exact ⟨⟩) (LocG.of rfl (loc_box (ag := true) (cs := [PV.sl _ _, PV.val _, PV.val _, PV.sl _ _, PV.sl _ _, PV.sl _ _, PV.sl _ _, PV.val _]) (by decide) (by exact ⟨⟩))) (free1 (Free.of_ rfl)) ?_
 refine rA ?_ (x := loc_const (.inr rfl) (by decide) (ok_nil (t := 3) (e := 1)))
 refine sw_seq ?_
 refine sO [(1, _), (2, _)] [(1, (40, [PV.sl _ _, PV.val _, PV.val _, PV.sl _ _, PV.sl _ _, PV.sl _ _, PV.sl _ _, PV.val _]))] ?_
 refine sw_reg ?_
 refine rA ?_ (x := loc_bslice (qs := []) (by decide) FPrb_sl_25 FPrb_z_3 (by decide) rfl rfl rfl rfl rfl (by exact Nat.le_of_ble_eq_true rfl) (by exact ⟨⟩) rfl)
 refine rA ?_ (x := tA)
 refine sw_seq ?_
 refine sw_seq ?_
 refine sO [(1, _), (2, _), (3, _)] [(1, _)] ?_
 refine sw_reg ?_
 refine rA ?_ (x := kA)
 refine sw_block ?_
 refine sO [(1, _), (2, _), (3, _), (4, _)] [(1, _)] ?_
 refine sw_loop (l0 := [(1, RV.ptr 1 0), (2, RV.sv false [PV.sl _ _])]) (b0 := [(1, (40, [PV.sl _ _, PV.val _, PV.val _, PV.sl _ _, PV.sl _ _, PV.sl _ _, PV.sl _ _, PV.val _]))]) (fun k : Nat => k ≤ e.Active.length ∧ (0 < k → okEngine e = true)) (fun k : Nat => [(3, RV.slc (.own 3 1) ((partsOf e (e.Active.take k)).map cInt)), (4, RV.int (k : Int))]) (fun k : Nat => []) (fun k : Nat => e.Active.length - k) 0 (by exact ⟨by omega, fun h => absurd h (Nat.lt_irrefl 0)⟩) (by exact ⟨rfl, rfl, ⟨⟩⟩) (by exact ⟨rfl, ⟨⟩⟩) (by exact And.intro (by exact rfl) (And.intro (by exact rfl) (True.intro))) (by exact ⟨⟩) ?_
 rintro k ⟨hk, ha⟩
 refine sw_seq ?_
 refine sw_seq ?_
 refine sw_reg ?_
 refine rA ?_ (x := sM)
 refine rA ?_ (x := lF FPrb_fd_40_3)
 refine rA ?_ (x := lD [PV.sl .v _] FPrb_ty_36)
 refine rA ?_ (x := lN FPrb_sl_36)
 refine rA ?_ (x := B_lss)
 refine rA ?_ (x := sM)
 refine RunS.cases (s := 11) rfl (fun g1 => ?_) (fun g1 => ?_)
 ·have sg1 := g1
  try simp only [q1, q2, q3, q4, q5, q6, q7, q8, q9] at sg1
  refine rB g1 ?_ (x := lD [PV.sl .v _, PV.val _, PV.val _, PV.sl .v _, PV.sl .v _, PV.sl .v _, PV.sl .v _, PV.val _] FPrb_ty_40)
  refine rB g1 ?_ (x := cL [(true, [PV.sl _ _, PV.val _, PV.val _, PV.sl _ _, PV.sl _ _, PV.sl _ _, PV.sl _ _, PV.val _])] [(true, [PV.sl .v _, PV.val _, PV.val _, PV.sl .v _, PV.sl .v _, PV.sl .v _, PV.sl .v _, PV.val _])] FPrb_c_42 (hs := by exact (spec_IsEngine (by omega))))
  refine rA ?_ (x := pkT g1)
  refine sw_cond (t := 14) rfl (fun hb2 => ?_) (fun hb2 => ?_)
  ·try simp only [q1, q2, q3, q4, q5, q6, q7, q8, q9] at hb2
   have hok : okEngine e = true := by simp_all
   have hlt : k < e.Active.length := (by first | omega | (simp_all; done) | (simp_all; omega))
   have haw := isAwake_at hok hlt
   have hef := eng_facts hok
   have hpl := partsOf_len (e := e) (l := e.Active.take k)
   rw [List.length_take] at hpl
   refine sw_skip ?_
   refine sw_seq ?_
   refine sw_block ?_
   refine sw_seq ?_
   refine sO [(1, _), (2, _), (3, _), (4, _)] [(1, (40, [PV.sl _ _, PV.val _, PV.val _, PV.sl _ _, PV.sl _ _, PV.sl _ _, PV.sl _ _, PV.val _]))] ?_
   refine sw_draw hm_ ?_
   refine dA 0 ?_ (x := lD [PV.sl .v _, PV.val _, PV.val _, PV.sl .v _, PV.sl .v _, PV.sl .v _, PV.sl .v _, PV.val _] FPrb_ty_40)
   refine dA 0 ?_ (x := sM)
   refine dA 3 ?_ (x := cL [(true, [PV.sl _ _, PV.val _, PV.val _, PV.sl _ _, PV.sl _ _, PV.sl _ _, PV.sl _ _, PV.val _]), (false, [PV.val _])] [(true, [PV.sl .v _, PV.val _, PV.val _, PV.sl .v _, PV.sl .v _, PV.sl .v _, PV.sl .v _, PV.val _]), (false, [PV.val _])] FPrb_c_178 (hs := by exact (spec_IsAwake (by omega))))
   refine dA 7 ?_ (x := sM)
   refine Run.cases (s := 20) rfl (fun g3 => ?_) (fun g3 => ?_)
   ·have sg3 := g3
    try simp only [q1, q2, q3, q4, q5, q6, q7, q8, q9] at sg3
    refine dB 15 g3 ?_ (x := lF FPrb_fd_40_3)
    refine dB 31 g3 ?_ (x := lD [PV.sl .v _] FPrb_ty_36)
    refine dB 15 g3 ?_ (x := sM)
    refine dB 127 g3 ?_ (x := loc_index (by decide) FPrb_sl_36 (by exact ⟨⟩) (by exact rfl) (by exact getm2 (by omega) rfl) (by exact rfl))
    refine dB 255 g3 ?_ (x := loc_efield (by decide) FPrb_fd_142_2 (by exact Nat.le_of_ble_eq_true rfl))
    refine dB 511 g3 ?_ (x := lE [PV.sl .v _] FPrb_ty_25)
    refine dB 15 g3 ?_ (x := lF FPrb_fd_40_1)
    refine dB 1039 g3 ?_ (x := lD [PV.val _] FPrb_ty_3)
    refine dB 4095 g3 ?_ (x := cL [(false, [PV.sl _ _]), (false, [PV.val _])] [(false, [PV.sl .v _]), (false, [PV.val _])] FPrb_c_173 (hs := by exact spec_HasMember))
    refine dA 8191 ?_ (x := pkT g3)
    refine sw_cond (t := 30) rfl (fun hb4 => ?_) (fun hb4 => ?_)
    ·try simp only [q1, q2, q3, q4, q5, q6, q7, q8, q9] at hb4
     have hc : partP e e.Active[k] = true := by simp_all [partP]
     refine sO [(1, _), (2, _), (3, _), (4, _)] [(1, _)] ?_
     refine sw_reg ?_
     refine rA ?_ (x := tM)
     refine rA ?_ (x := lF FPrb_fd_40_3)
     refine rA ?_ (x := lD [PV.sl .v _] FPrb_ty_36)
     refine rA ?_ (x := sM)
     refine rA ?_ (x := loc_index (by decide) FPrb_sl_36 (by exact ⟨⟩) (by exact rfl) (by exact getm2 (by omega) rfl) (by exact rfl))
     refine rA ?_ (x := loc_efield (by decide) FPrb_fd_142_0 (by exact Nat.le_of_ble_eq_true rfl))
     refine rA ?_ (x := loc_efield (by decide) FPrb_fd_65_0 (by exact Nat.le_of_ble_eq_true rfl))
     refine rA ?_ (x := lE [PV.val _] FPrb_ty_3)
     refine rA ?_ (x := loc_bslice (qs := [(false, [PV.val _])]) (by decide) FPrb_sl_25 FPrb_z_3 (by decide) rfl rfl rfl rfl rfl (by exact Nat.le_of_ble_eq_true rfl) (by exact (And.intro (by exact ⟨⟩) True.intro)) rfl)
     refine rA ?_ (x := loc_append (by decide) FPrb_sl_25 FPrb_z_3 rfl rfl (by decide) rfl (by simp only [List.length_map, List.length_append, List.length_cons, List.length_nil]; omega) (by simp only [List.length_map, List.length_append, List.length_cons, List.length_nil]; omega))
     refine rA ?_ (x := tA)
     refine sO [(1, _), (2, _), (3, _), (4, _)] [(1, _)] ?_
     refine sw_reg ?_
     refine rA ?_ (x := sM)
     refine rA ?_ (x := B_add)
     refine rA ?_ (x := sA)
     refine Exists.intro (k + 1) (And.intro (by exact ⟨by omega, fun _ => hok⟩) (And.intro (by omega) (And.intro (And.intro (by exact ⟨rfl, rfl, ⟨⟩⟩) (by exact ⟨rfl, ⟨⟩⟩)) (And.intro (by exact And.intro (by first | exact slc_eq (by rw [partsOf_yes hlt hc, List.map_append]; rfl) | exact slc_eq (by rw [partsOf_no hlt hc])) (And.intro (by exact rfl) (True.intro))) (by exact ⟨⟩)))))
    ·try simp only [q1, q2, q3, q4, q5, q6, q7, q8, q9] at hb4
     have hc : partP e e.Active[k] = false := by simp_all [partP]
     refine sw_skip ?_
     refine sO [(1, _), (2, _), (3, _), (4, _)] [(1, _)] ?_
     refine sw_reg ?_
     refine rA ?_ (x := sM)
     refine rA ?_ (x := B_add)
     refine rA ?_ (x := sA)
     refine Exists.intro (k + 1) (And.intro (by exact ⟨by omega, fun _ => hok⟩) (And.intro (by omega) (And.intro (And.intro (by exact ⟨rfl, rfl, ⟨⟩⟩) (by exact ⟨rfl, ⟨⟩⟩)) (And.intro (by exact And.intro (by first | exact slc_eq (by rw [partsOf_yes hlt hc, List.map_append]; rfl) | exact slc_eq (by rw [partsOf_no hlt hc])) (And.intro (by exact rfl) (True.intro))) (by exact ⟨⟩)))))
   ·have sg3 := g3
    try simp only [q1, q2, q3, q4, q5, q6, q7, q8, q9] at sg3
    refine dF 15 g3 ?_
    refine dF 31 g3 ?_
    refine dF 15 g3 ?_
    refine dF 127 g3 ?_
    refine dF 255 g3 ?_
    refine dF 511 g3 ?_
    refine dF 15 g3 ?_
    refine dF 1039 g3 ?_
    refine dF 4095 g3 ?_
    refine dA 8191 ?_ (x := pkF g3)
    refine sw_cond (t := 30) rfl (fun hb_ => nomatch hb_) (fun hb_ => ?_)
    have hc : partP e e.Active[k] = false := by simp_all [partP]
    refine sw_skip ?_
    refine sO [(1, _), (2, _), (3, _), (4, _)] [(1, _)] ?_
    refine sw_reg ?_
    refine rA ?_ (x := sM)
    refine rA ?_ (x := B_add)
    refine rA ?_ (x := sA)
    refine Exists.intro (k + 1) (And.intro (by exact ⟨by omega, fun _ => hok⟩) (And.intro (by omega) (And.intro (And.intro (by exact ⟨rfl, rfl, ⟨⟩⟩) (by exact ⟨rfl, ⟨⟩⟩)) (And.intro (by exact And.intro (by first | exact slc_eq (by rw [partsOf_yes hlt hc, List.map_append]; rfl) | exact slc_eq (by rw [partsOf_no hlt hc])) (And.intro (by exact rfl) (True.intro))) (by exact ⟨⟩)))))
  ·try simp only [q1, q2, q3, q4, q5, q6, q7, q8, q9] at hb2
   have hfin : (k = e.Active.length ∧ okEngine e = true) ∨ (k = 0 ∧ (e.Active.length = 0 ∨ okEngine e = false)) := by
    by_cases h0k : 0 < k
    ·left
     have h1 := ha h0k
     refine ⟨?_, h1⟩
     by_cases hka : k = e.Active.length
     ·exact hka
     ·exfalso
      have hlt_ : k < e.Active.length := by omega
      have hlt2_ : (k : Int) < (e.Active.length : Int) := by omega
      simp_all
    ·right
     refine ⟨by omega, ?_⟩
     by_cases hka : e.Active.length = 0
     ·exact .inl hka
     ·right
      have hlt_ : k < e.Active.length := by omega
      have hlt2_ : (k : Int) < (e.Active.length : Int) := by omega
      rw [← Bool.not_eq_true]; intro hc_; simp_all
   refine sw_exit ?_
   refine sw_seq ?_
   refine sO [(1, _), (2, _), (3, _), (4, _)] [(1, (40, [PV.sl _ _, PV.val _, PV.val _, PV.sl _ _, PV.sl _ _, PV.sl _ _, PV.sl _ _, PV.val _]))] ?_
   refine sw_reg ?_
   refine rA ?_ (x := tM)
   refine rA ?_ (x := tA)
   refine sw_ret ?_
   exact (And.intro (by refine slc_eq ?_; rw [parts_end hfin]) True.intro)
 ·have sg1 := g1
  try simp only [q1, q2, q3, q4, q5, q6, q7, q8, q9] at sg1
  refine RunS.s0f g1 ?_
  refine RunS.s0f g1 ?_
  refine rA ?_ (x := pkF g1)
  refine sw_cond (t := 14) rfl (fun hb_ => nomatch hb_) (fun hb_ => ?_)
  have hfin : (k = e.Active.length ∧ okEngine e = true) ∨ (k = 0 ∧ (e.Active.length = 0 ∨ okEngine e = false)) := by
   by_cases h0k : 0 < k
   ·left
    have h1 := ha h0k
    refine ⟨?_, h1⟩
    by_cases hka : k = e.Active.length
    ·exact hka
    ·exfalso
     have hlt_ : k < e.Active.length := by omega
     have hlt2_ : (k : Int) < (e.Active.length : Int) := by omega
     simp_all
   ·right
    refine ⟨by omega, ?_⟩
    by_cases hka : e.Active.length = 0
    ·exact .inl hka
    ·right
     have hlt_ : k < e.Active.length := by omega
     have hlt2_ : (k : Int) < (e.Active.length : Int) := by omega
     rw [← Bool.not_eq_true]; intro hc_; simp_all
  refine sw_exit ?_
  refine sw_seq ?_
  refine sO [(1, _), (2, _), (3, _), (4, _)] [(1, (40, [PV.sl _ _, PV.val _, PV.val _, PV.sl _ _, PV.sl _ _, PV.sl _ _, PV.sl _ _, PV.val _]))] ?_
  refine sw_reg ?_
  refine rA ?_ (x := tM)
  refine rA ?_ (x := tA)
  refine sw_ret ?_
  exact (And.intro (by refine slc_eq ?_; rw [parts_end hfin]) True.intro)
theorem impl_Participants {p1 p2 p5 p6 p7 p8 p9 p11 p12 p13 p14 p16 p17 p18 : Fl} {e : Engine}  (hb : wtEngine e ≤ 68719476736) : SCall Tryz.prog 120 [(true, [PV.sl .v (e.Store.Segments.map (cVersionS p1 p2)), PV.val (vI e.Store.Now), PV.val (vI e.Cursor), PV.sl .v (e.Order.map cInt), PV.sl .v (e.Active.map (cActive p5 p6 p7 p8 p9)), PV.sl .v (e.Done.map (cFinished p11 p12 p13 p14)), PV.sl .v (e.Ledger.map (cCharge p16 p17 p18)), PV.val (vI e.Steps)])] (resRV [(false, [PV.sl (.own 3 1) ((parts e).map cInt)])]) := by
 refine scall_of (rs := [(false, [PV.sl (.own 3 1) ((parts e).map cInt)])]) Tryz.func120 rfl (Nat.le_of_ble_eq_true rfl) (borA_cons (BorL.cons (PV.bor_sl _) (BorL.cons (PV.bor_val _) (BorL.cons (PV.bor_val _) (BorL.cons (PV.bor_sl _) (BorL.cons (PV.bor_sl _) (BorL.cons (PV.bor_sl _) (BorL.cons (PV.bor_sl _) (BorL.cons (PV.bor_val _) BorL.nil)))))))) borA_nil) ?_
 intro h0 w0 Fz0
 refine sw_slen (s := 0) (j := 0) rfl rfl fun hl0_0 => ?_
 try rw [List.length_map] at hl0_0
 refine sw_slen (s := 0) (j := 3) rfl rfl fun hl0_3 => ?_
 try rw [List.length_map] at hl0_3
 refine sw_slen (s := 0) (j := 4) rfl rfl fun hl0_4 => ?_
 try rw [List.length_map] at hl0_4
 refine sw_slen (s := 0) (j := 5) rfl rfl fun hl0_5 => ?_
 try rw [List.length_map] at hl0_5
 refine sw_slen (s := 0) (j := 6) rfl rfl fun hl0_6 => ?_
 try rw [List.length_map] at hl0_6
 refine sw_seq ?_
 refine sw_reg ?_
 refine RunS.step (by exact ⟨rfl, ⟨⟩⟩) (by exact ⟨⟩) (LocG.of rfl (loc_box (ag := true) (cs := [PV.sl _ _, PV.val _, PV.val _, PV.sl _ _, PV.sl _ _, PV.sl _ _, PV.sl _ _, PV.val _]) (by decide) (by exact ⟨⟩))) (free1 (Free.of_ rfl)) ?_
 refine rA ?_ (x := loc_const (.inr rfl) (by decide) (ok_nil (t := 3) (e := 1)))
 refine sw_seq ?_
 refine sO [(1, _), (2, _)] [(1, (40, [PV.sl _ _, PV.val _, PV.val _, PV.sl _ _, PV.sl _ _, PV.sl _ _, PV.sl _ _, PV.val _]))] ?_
 refine sw_reg ?_
 refine rA ?_ (x := loc_bslice (qs := []) (by decide) FPrb_sl_25 FPrb_z_3 (by decide) rfl rfl rfl rfl rfl (by exact Nat.le_of_ble_eq_true rfl) (by exact ⟨⟩) rfl)
 refine rA ?_ (x := tA)
 refine sw_seq ?_
 refine sw_seq ?_
 refine sO [(1, _), (2, _), (3, _)] [(1, _)] ?_
 refine sw_reg ?_
 refine rA ?_ (x := lD [PV.sl .v _, PV.val _, PV.val _, PV.sl .v _, PV.sl .v _, PV.sl .v _, PV.sl .v _, PV.val _] FPrb_ty_40)
 refine rA ?_ (x := cL [(true, [PV.sl _ _, PV.val _, PV.val _, PV.sl _ _, PV.sl _ _, PV.sl _ _, PV.sl _ _, PV.val _])] [(true, [PV.sl .v _, PV.val _, PV.val _, PV.sl .v _, PV.sl .v _, PV.sl .v _, PV.sl .v _, PV.val _])] FPrb_c_50 (hs := by exact (impl_IsEngine (by omega))))
 refine rA ?_ (x := nT)
 refine sw_cond (t := 9) rfl (fun hb1 => ?_) (fun hb1 => ?_)
 ·try simp only [q1, q2, q3, q4, q5, q6, q7, q8, q9] at hb1
  have hok : okEngine e = false := by simpa using hb1
  refine sw_seq ?_
  refine sO [(1, _), (2, _), (3, _)] [(1, _)] ?_
  refine sw_reg ?_
  refine rA ?_ (x := tM)
  refine rA ?_ (x := tA)
  refine sw_ret ?_
  exact (And.intro (by refine slc_eq ?_; rw [parts_no hok]; rfl) True.intro)
 ·try simp only [q1, q2, q3, q4, q5, q6, q7, q8, q9] at hb1
  have hok : okEngine e = true := by simpa using hb1
  have hef := eng_facts hok
  refine sw_skip ?_
  refine sw_seq ?_
  refine sw_seq ?_
  refine sO [(1, _), (2, _), (3, _)] [(1, _)] ?_
  refine sw_reg ?_
  refine rA ?_ (x := lF FPrb_fd_40_3)
  refine rA ?_ (x := lD [PV.sl .v _] FPrb_ty_36)
  refine rA ?_ (x := lN FPrb_sl_36)
  refine rA ?_ (x := kM)
  refine sw_block ?_
  refine sO [(1, _), (2, _), (3, _), (12, _), (13, _), (14, _)] [(1, _)] ?_
  refine sw_loop (l0 := [(1, RV.ptr 1 0), (2, RV.sv false [PV.sl _ _]), (12, RV.sv false [PV.sl _ _]), (13, RV.sv false [PV.val _])]) (b0 := [(1, (40, [PV.sl _ _, PV.val _, PV.val _, PV.sl _ _, PV.sl _ _, PV.sl _ _, PV.sl _ _, PV.val _]))]) (fun k : Nat => k ≤ e.Active.length) (fun k : Nat => [(3, RV.slc (.own 3 1) ((partsOf e (e.Active.take k)).map cInt)), (14, RV.int (k : Int))]) (fun k : Nat => []) (fun k : Nat => e.Active.length - k) 0 (by omega) (by exact ⟨rfl, rfl, rfl, rfl, ⟨⟩⟩) (by exact ⟨rfl, ⟨⟩⟩) (by exact And.intro (by exact rfl) (And.intro (by exact rfl) (True.intro))) (by exact ⟨⟩) ?_
  rintro k hk
  refine sw_seq ?_
  refine sw_reg ?_
  refine rA ?_ (x := B_lss)
  refine sw_seq ?_
  refine sw_cond (t := 15) rfl (fun hb2 => ?_) (fun hb2 => ?_)
  ·try simp only [q1, q2, q3, q4, q5, q6, q7, q8, q9] at hb2
   have hlt : k < e.Active.length := by omega
   have hpl := partsOf_len (e := e) (l := e.Active.take k)
   rw [List.length_take] at hpl
   refine sw_skip ?_
   refine sw_seq ?_
   refine sw_block ?_
   refine sw_seq ?_
   refine sO [(1, _), (2, _), (3, _), (12, _), (13, _), (14, _)] [(1, (40, [PV.sl _ _, PV.val _, PV.val _, PV.sl _ _, PV.sl _ _, PV.sl _ _, PV.sl _ _, PV.val _]))] ?_
   refine sw_reg ?_
   refine rA ?_ (x := loc_index (by decide) FPrb_sl_36 (by exact ⟨⟩) (by exact rfl) (by exact getm2 (by omega) rfl) (by exact rfl))
   refine rA ?_ (x := lE [PV.val _, PV.val _, PV.sl .v _, PV.sl .v _, PV.val _, PV.sl .v _, PV.val _, PV.val _, PV.val _, PV.sl .v _] FPrb_ty_142)
   refine RunS.step (by exact ⟨⟩) (by exact ⟨⟩) (LocG.of rfl (loc_alloc (by decide) FPrb_z_142 FPrb_zo_142)) (free1 (Free.app (Free.app (Free.of_ rfl) rfl) rfl)) ?_
   refine rA ?_ (x := loc_store (ag := true) (vs := [PV.val _, PV.val _, PV.sl _ _, PV.sl _ _, PV.val _, PV.sl _ _, PV.val _, PV.val _, PV.val _, PV.sl _ _]) FPrb_ty_142 (by exact ⟨⟩) (by exact rfl) (by exact Nat.le_of_ble_eq_true rfl))
   refine sw_seq ?_
   refine sO [(1, _), (2, _), (3, _), (5, _), (12, _), (13, _), (14, _)] [(1, _), (5, (142, [PV.val _, PV.val _, PV.sl _ _, PV.sl _ _, PV.val _, PV.sl _ _, PV.val _, PV.val _, PV.val _, PV.sl _ _]))] ?_
   refine sw_reg ?_
   refine rA ?_ (x := lD [PV.val _, PV.val _, PV.sl .v _, PV.sl .v _, PV.val _, PV.sl .v _, PV.val _, PV.val _, PV.val _, PV.sl .v _] FPrb_ty_142)
   refine rA ?_ (x := cL [(true, [PV.val _, PV.val _, PV.sl _ _, PV.sl _ _, PV.val _, PV.sl _ _, PV.val _, PV.val _, PV.val _, PV.sl _ _])] [(true, [PV.val _, PV.val _, PV.sl .v _, PV.sl .v _, PV.val _, PV.sl .v _, PV.val _, PV.val _, PV.val _, PV.sl .v _])] FPrb_c_194 (hs := by exact impl_isAwake))
   refine rA ?_ (x := sM)
   refine RunS.cases (s := 20) rfl (fun g3 => ?_) (fun g3 => ?_)
   ·have sg3 := g3
    try simp only [q1, q2, q3, q4, q5, q6, q7, q8, q9] at sg3
    refine rB g3 ?_ (x := lF FPrb_fd_142_2)
    refine rB g3 ?_ (x := lD [PV.sl .v _] FPrb_ty_25)
    refine rB g3 ?_ (x := lF FPrb_fd_40_1)
    refine rB g3 ?_ (x := lD [PV.val _] FPrb_ty_3)
    refine rB g3 ?_ (x := cL [(false, [PV.sl _ _]), (false, [PV.val _])] [(false, [PV.sl .v _]), (false, [PV.val _])] FPrb_c_189 (hs := by exact impl_hasInt))
    refine rA ?_ (x := pkT g3)
    refine sw_cond (t := 26) rfl (fun hb4 => ?_) (fun hb4 => ?_)
    ·try simp only [q1, q2, q3, q4, q5, q6, q7, q8, q9] at hb4
     have hc : partP e e.Active[k] = true := by simp_all [partP]
     refine sO [(1, _), (2, _), (3, _), (5, _), (12, _), (13, _), (14, _)] [(1, _), (5, _)] ?_
     refine sw_reg ?_
     refine rA ?_ (x := tM)
     refine rA ?_ (x := lF FPrb_fd_142_0)
     refine rA ?_ (x := lF FPrb_fd_65_0)
     refine rA ?_ (x := lD [PV.val _] FPrb_ty_3)
     refine rA ?_ (x := loc_bslice (qs := [(false, [PV.val _])]) (by decide) FPrb_sl_25 FPrb_z_3 (by decide) rfl rfl rfl rfl rfl (by exact Nat.le_of_ble_eq_true rfl) (by exact (And.intro (by exact ⟨⟩) True.intro)) rfl)
     refine rA ?_ (x := loc_append (by decide) FPrb_sl_25 FPrb_z_3 rfl rfl (by decide) rfl (by simp only [List.length_map, List.length_append, List.length_cons, List.length_nil]; omega) (by simp only [List.length_map, List.length_append, List.length_cons, List.length_nil]; omega))
     refine rA ?_ (x := tA)
     refine sO [(1, _), (2, _), (3, _), (5, _), (12, _), (13, _), (14, _)] [(1, _), (5, _)] ?_
     refine sw_reg ?_
     refine rA ?_ (x := B_add)
     refine rA ?_ (x := sM)
     refine Exists.intro (k + 1) (And.intro (by omega) (And.intro (by omega) (And.intro (And.intro (by exact ⟨rfl, rfl, rfl, rfl, ⟨⟩⟩) (by exact ⟨rfl, ⟨⟩⟩)) (And.intro (by exact And.intro (by first | exact slc_eq (by rw [partsOf_yes hlt hc, List.map_append]; rfl) | exact slc_eq (by rw [partsOf_no hlt hc])) (And.intro (by exact rfl) (True.intro))) (by exact ⟨⟩)))))
    ·try simp only [q1, q2, q3, q4, q5, q6, q7, q8, q9] at hb4
     have hc : partP e e.Active[k] = false := by simp_all [partP]
     refine sw_skip ?_
     refine sO [(1, _), (2, _), (3, _), (5, _), (12, _), (13, _), (14, _)] [(1, _), (5, _)] ?_
     refine sw_reg ?_
     refine rA ?_ (x := B_add)
     refine rA ?_ (x := sM)
     refine Exists.intro (k + 1) (And.intro (by omega) (And.intro (by omega) (And.intro (And.intro (by exact ⟨rfl, rfl, rfl, rfl, ⟨⟩⟩) (by exact ⟨rfl, ⟨⟩⟩)) (And.intro (by exact And.intro (by first | exact slc_eq (by rw [partsOf_yes hlt hc, List.map_append]; rfl) | exact slc_eq (by rw [partsOf_no hlt hc])) (And.intro (by exact rfl) (True.intro))) (by exact ⟨⟩)))))
   ·have sg3 := g3
    try simp only [q1, q2, q3, q4, q5, q6, q7, q8, q9] at sg3
    refine RunS.s0f g3 ?_
    refine RunS.s0f g3 ?_
    refine RunS.s0f g3 ?_
    refine RunS.s0f g3 ?_
    refine RunS.s0f g3 ?_
    refine rA ?_ (x := pkF g3)
    refine sw_cond (t := 26) rfl (fun hb_ => nomatch hb_) (fun hb_ => ?_)
    have hc : partP e e.Active[k] = false := by simp_all [partP]
    refine sw_skip ?_
    refine sO [(1, _), (2, _), (3, _), (5, _), (12, _), (13, _), (14, _)] [(1, _), (5, _)] ?_
    refine sw_reg ?_
    refine rA ?_ (x := B_add)
    refine rA ?_ (x := sM)
    refine Exists.intro (k + 1) (And.intro (by omega) (And.intro (by omega) (And.intro (And.intro (by exact ⟨rfl, rfl, rfl, rfl, ⟨⟩⟩) (by exact ⟨rfl, ⟨⟩⟩)) (And.intro (by exact And.intro (by first | exact slc_eq (by rw [partsOf_yes hlt hc, List.map_append]; rfl) | exact slc_eq (by rw [partsOf_no hlt hc])) (And.intro (by exact rfl) (True.intro))) (by exact ⟨⟩)))))
  ·try simp only [q1, q2, q3, q4, q5, q6, q7, q8, q9] at hb2
   have hend : k = e.Active.length := by omega
   refine sw_exit ?_
   refine sw_seq ?_
   refine sO [(1, _), (2, _), (3, _), (12, _), (13, _), (14, _)] [(1, (40, [PV.sl _ _, PV.val _, PV.val _, PV.sl _ _, PV.sl _ _, PV.sl _ _, PV.sl _ _, PV.val _]))] ?_
   refine sw_reg ?_
   refine rA ?_ (x := tM)
   refine rA ?_ (x := tA)
   refine sw_ret ?_
   exact (And.intro (by refine slc_eq ?_; rw [parts_yes hok, hend, List.take_length]) True.intro)
theorem impl_FindActive {p1 p2 p5 p6 p7 p8 p9 p11 p12 p13 p14 p16 p17 p18 : Fl} {e : Engine} {id : Int}  : SCall Tryz.prog 121 [(true, [PV.sl .v (e.Store.Segments.map (cVersionS p1 p2)), PV.val (vI e.Store.Now), PV.val (vI e.Cursor), PV.sl .v (e.Order.map cInt), PV.sl .v (e.Active.map (cActive p5 p6 p7 p8 p9)), PV.sl .v (e.Done.map (cFinished p11 p12 p13 p14)), PV.sl .v (e.Ledger.map (cCharge p16 p17 p18)), PV.val (vI e.Steps)]), (false, [PV.val (vI id)])] (resRV [(false, [PV.val (vI (findA e.Active id))])]) := by
 refine scall_of (rs := [(false, [PV.val (vI (findA e.Active id))])]) Tryz.func121 rfl (Nat.le_of_ble_eq_true rfl) (borA_cons (BorL.cons (PV.bor_sl _) (BorL.cons (PV.bor_val _) (BorL.cons (PV.bor_val _) (BorL.cons (PV.bor_sl _) (BorL.cons (PV.bor_sl _) (BorL.cons (PV.bor_sl _) (BorL.cons (PV.bor_sl _) (BorL.cons (PV.bor_val _) BorL.nil)))))))) (borA_cons (BorL.cons (PV.bor_val _) BorL.nil) borA_nil)) ?_
 intro h0 w0 Fz0
 refine sw_slen (s := 0) (j := 0) rfl rfl fun hl0_0 => ?_
 try rw [List.length_map] at hl0_0
 refine sw_slen (s := 0) (j := 3) rfl rfl fun hl0_3 => ?_
 try rw [List.length_map] at hl0_3
 refine sw_slen (s := 0) (j := 4) rfl rfl fun hl0_4 => ?_
 try rw [List.length_map] at hl0_4
 refine sw_slen (s := 0) (j := 5) rfl rfl fun hl0_5 => ?_
 try rw [List.length_map] at hl0_5
 refine sw_slen (s := 0) (j := 6) rfl rfl fun hl0_6 => ?_
 try rw [List.length_map] at hl0_6
 refine sw_seq ?_
 refine sw_reg ?_
 refine RunS.step (by exact ⟨rfl, ⟨⟩⟩) (by exact ⟨⟩) (LocG.of rfl (loc_box (ag := true) (cs := [PV.sl _ _, PV.val _, PV.val _, PV.sl _ _, PV.sl _ _, PV.sl _ _, PV.sl _ _, PV.val _]) (by decide) (by exact ⟨⟩))) (free1 (Free.of_ rfl)) ?_
 refine rA ?_ (x := kA)
 refine sw_seq ?_
 refine sw_seq ?_
 refine sO [(1, _), (2, _), (4, _)] [(2, (40, [PV.sl _ _, PV.val _, PV.val _, PV.sl _ _, PV.sl _ _, PV.sl _ _, PV.sl _ _, PV.val _]))] ?_
 refine sw_reg ?_
 refine rA ?_ (x := lF FPrb_fd_40_3)
 refine rA ?_ (x := lD [PV.sl .v _] FPrb_ty_36)
 refine rA ?_ (x := lN FPrb_sl_36)
 refine rA ?_ (x := kM)
 refine sw_block ?_
 refine sO [(1, _), (2, _), (4, _), (8, _), (9, _), (10, _)] [(2, _)] ?_
 refine sw_loop (l0 := [(1, RV.sv false [PV.val _]), (2, RV.ptr 2 0), (8, RV.sv false [PV.sl _ _]), (9, RV.sv false [PV.val _])]) (b0 := [(2, (40, [PV.sl _ _, PV.val _, PV.val _, PV.sl _ _, PV.sl _ _, PV.sl _ _, PV.sl _ _, PV.val _]))]) (fun k : Nat => k ≤ e.Active.length ∧ (e.Active.take k).any (idP id) = false) (fun k : Nat => [(10, RV.int (k : Int))]) (fun k : Nat => []) (fun k : Nat => e.Active.length - k) 0 (by exact ⟨by omega, by simp⟩) (by exact ⟨rfl, rfl, rfl, rfl, ⟨⟩⟩) (by exact ⟨rfl, ⟨⟩⟩) (by exact And.intro (by exact rfl) (True.intro)) (by exact ⟨⟩) ?_
 rintro k ⟨hk, ha⟩
 refine sw_seq ?_
 refine sw_reg ?_
 refine rA ?_ (x := B_lss)
 refine sw_seq ?_
 refine sw_cond (t := 11) rfl (fun hb1 => ?_) (fun hb1 => ?_)
 ·try simp only [q1, q2, q3, q4, q5, q6, q7, q8, q9] at hb1
  have hlt : k < e.Active.length := by omega
  refine sw_skip ?_
  refine sw_seq ?_
  refine sw_block ?_
  refine sw_seq ?_
  refine sO [(1, _), (2, _), (8, _), (9, _), (10, _)] [(2, (40, [PV.sl _ _, PV.val _, PV.val _, PV.sl _ _, PV.sl _ _, PV.sl _ _, PV.sl _ _, PV.val _]))] ?_
  refine sw_reg ?_
  refine rA ?_ (x := sM)
  refine rA ?_ (x := loc_index (by decide) FPrb_sl_36 (by exact ⟨⟩) (by exact rfl) (by exact getm2 (by omega) rfl) (by exact rfl))
  refine rA ?_ (x := lE [PV.val _, PV.val _, PV.sl .v _, PV.sl .v _, PV.val _, PV.sl .v _, PV.val _, PV.val _, PV.val _, PV.sl .v _] FPrb_ty_142)
  refine RunS.step (by exact ⟨⟩) (by exact ⟨⟩) (LocG.of rfl (loc_alloc (by decide) FPrb_z_142 FPrb_zo_142)) (free1 (Free.app (Free.app (Free.app (Free.of_ rfl) rfl) rfl) rfl)) ?_
  refine rA ?_ (x := sA)
  refine rA ?_ (x := loc_store (ag := true) (vs := [PV.val _, PV.val _, PV.sl _ _, PV.sl _ _, PV.val _, PV.sl _ _, PV.val _, PV.val _, PV.val _, PV.sl _ _]) FPrb_ty_142 (by exact ⟨⟩) (by exact rfl) (by exact Nat.le_of_ble_eq_true rfl))
  refine sw_seq ?_
  refine sO [(1, _), (2, _), (5, _), (6, _), (8, _), (9, _), (10, _)] [(2, _), (6, (142, [PV.val _, PV.val _, PV.sl _ _, PV.sl _ _, PV.val _, PV.sl _ _, PV.val _, PV.val _, PV.val _, PV.sl _ _]))] ?_
  refine sw_reg ?_
  refine rA ?_ (x := lF FPrb_fd_142_0)
  refine rA ?_ (x := lF FPrb_fd_65_0)
  refine rA ?_ (x := lD [PV.val _] FPrb_ty_3)
  refine rA ?_ (x := sM)
  refine rA ?_ (x := B_eql)
  refine sw_cond (t := 19) rfl (fun hb2 => ?_) (fun hb2 => ?_)
  ·try simp only [q1, q2, q3, q4, q5, q6, q7, q8, q9] at hb2
   have hy : idP id e.Active[k] = true := by first | (simp_all [idP]; done) | simpa [idP] using hb2
   refine sw_seq ?_
   refine sO [(1, _), (2, _), (5, _), (6, _), (8, _), (9, _), (10, _)] [(2, _), (6, _)] ?_
   refine sw_reg ?_
   refine rA ?_ (x := sM)
   refine rA ?_ (x := sA)
   refine sw_ret ?_
   exact (And.intro (by refine int_eq ?_; rw [findA_yes hlt ha hy]) True.intro)
  ·try simp only [q1, q2, q3, q4, q5, q6, q7, q8, q9] at hb2
   have hno : idP id e.Active[k] = false := by first | (simp_all [idP]; done) | simpa [idP] using hb2
   refine sw_skip ?_
   refine sO [(1, _), (2, _), (5, _), (6, _), (8, _), (9, _), (10, _)] [(2, _), (6, _)] ?_
   refine sw_reg ?_
   refine rA ?_ (x := B_add)
   refine rA ?_ (x := sM)
   refine Exists.intro (k + 1) (And.intro (by exact ⟨by omega, any_succ ha hlt hno⟩) (And.intro (by omega) (And.intro (And.intro (by exact ⟨rfl, rfl, rfl, rfl, ⟨⟩⟩) (by exact ⟨rfl, ⟨⟩⟩)) (And.intro (by exact And.intro (by exact rfl) (True.intro)) (by exact ⟨⟩)))))
 ·try simp only [q1, q2, q3, q4, q5, q6, q7, q8, q9] at hb1
  have hend : k = e.Active.length := by omega
  rw [hend, List.take_length] at ha
  refine sw_exit ?_
  refine sw_seq ?_
  refine sO [(1, _), (2, _), (8, _), (9, _), (10, _)] [(2, (40, [PV.sl _ _, PV.val _, PV.val _, PV.sl _ _, PV.sl _ _, PV.sl _ _, PV.sl _ _, PV.val _]))] ?_
  refine sw_reg ?_
  refine rA ?_ (x := kA)
  refine sw_ret ?_
  exact (And.intro (by refine int_eq ?_; rw [findA_no ha]) True.intro)
theorem spec_FindActive {p1 p2 p5 p6 p7 p8 p9 p11 p12 p13 p14 p16 p17 p18 : Fl} {e : Engine} {id : Int}  : SCall Tryz.prog 104 [(true, [PV.sl .v (e.Store.Segments.map (cVersionS p1 p2)), PV.val (vI e.Store.Now), PV.val (vI e.Cursor), PV.sl .v (e.Order.map cInt), PV.sl .v (e.Active.map (cActive p5 p6 p7 p8 p9)), PV.sl .v (e.Done.map (cFinished p11 p12 p13 p14)), PV.sl .v (e.Ledger.map (cCharge p16 p17 p18)), PV.val (vI e.Steps)]), (false, [PV.val (vI id)])] (resRV [(false, [PV.val (vI (findA e.Active id))])]) := by
 refine scall_of (rs := [(false, [PV.val (vI (findA e.Active id))])]) Tryz.func104 rfl (Nat.le_of_ble_eq_true rfl) (borA_cons (BorL.cons (PV.bor_sl _) (BorL.cons (PV.bor_val _) (BorL.cons (PV.bor_val _) (BorL.cons (PV.bor_sl _) (BorL.cons (PV.bor_sl _) (BorL.cons (PV.bor_sl _) (BorL.cons (PV.bor_sl _) (BorL.cons (PV.bor_val _) BorL.nil)))))))) (borA_cons (BorL.cons (PV.bor_val _) BorL.nil) borA_nil)) ?_
 intro h0 w0 Fz0
 refine sw_slen (s := 0) (j := 0) rfl rfl fun hl0_0 => ?_
 try rw [List.length_map] at hl0_0
 refine sw_slen (s := 0) (j := 3) rfl rfl fun hl0_3 => ?_
 try rw [List.length_map] at hl0_3
 refine sw_slen (s := 0) (j := 4) rfl rfl fun hl0_4 => ?_
 try rw [List.length_map] at hl0_4
 refine sw_slen (s := 0) (j := 5) rfl rfl fun hl0_5 => ?_
 try rw [List.length_map] at hl0_5
 refine sw_slen (s := 0) (j := 6) rfl rfl fun hl0_6 => ?_
 try rw [List.length_map] at hl0_6
 refine sw_seq ?_
 refine sw_reg ?_
 refine RunS.step (by exact ⟨rfl, ⟨⟩⟩) (by exact ⟨⟩) (LocG.of rfl (loc_box (ag := true) (cs := [PV.sl _ _, PV.val _, PV.val _, PV.sl _ _, PV.sl _ _, PV.sl _ _, PV.sl _ _, PV.val _]) (by decide) (by exact ⟨⟩))) (free1 (Free.of_ rfl)) ?_
 refine rA ?_ (x := kA)
 refine sw_seq ?_
 refine sw_seq ?_
 refine sO [(1, _), (2, _), (4, _)] [(2, (40, [PV.sl _ _, PV.val _, PV.val _, PV.sl _ _, PV.sl _ _, PV.sl _ _, PV.sl _ _, PV.val _]))] ?_
 refine sw_reg ?_
 refine rA ?_ (x := kA)
 refine sw_block ?_
 refine sO [(1, _), (2, _), (4, _), (5, _)] [(2, _)] ?_
 refine sw_loop (l0 := [(1, RV.sv false [PV.val _]), (2, RV.ptr 2 0)]) (b0 := [(2, (40, [PV.sl _ _, PV.val _, PV.val _, PV.sl _ _, PV.sl _ _, PV.sl _ _, PV.sl _ _, PV.val _]))]) (fun k : Nat => k ≤ e.Active.length ∧ (e.Active.take k).any (idP id) = false) (fun k : Nat => [(5, RV.int (k : Int))]) (fun k : Nat => []) (fun k : Nat => e.Active.length - k) 0 (by exact ⟨by omega, by simp⟩) (by exact ⟨rfl, rfl, ⟨⟩⟩) (by exact ⟨rfl, ⟨⟩⟩) (by exact And.intro (by exact rfl) (True.intro)) (by exact ⟨⟩) ?_
 rintro k ⟨hk, ha⟩
 refine sw_seq ?_
 refine sw_seq ?_
 refine sw_reg ?_
 refine rA ?_ (x := sM)
 refine rA ?_ (x := lF FPrb_fd_40_3)
 refine rA ?_ (x := lD [PV.sl .v _] FPrb_ty_36)
 refine rA ?_ (x := lN FPrb_sl_36)
 refine rA ?_ (x := B_lss)
 refine sw_cond (t := 10) rfl (fun hb1 => ?_) (fun hb1 => ?_)
 ·try simp only [q1, q2, q3, q4, q5, q6, q7, q8, q9] at hb1
  have hlt : k < e.Active.length := by omega
  refine sw_skip ?_
  refine sw_seq ?_
  refine sw_block ?_
  refine sw_seq ?_
  refine sO [(1, _), (2, _), (5, _)] [(2, (40, [PV.sl _ _, PV.val _, PV.val _, PV.sl _ _, PV.sl _ _, PV.sl _ _, PV.sl _ _, PV.val _]))] ?_
  refine sw_reg ?_
  refine rA ?_ (x := lF FPrb_fd_40_3)
  refine rA ?_ (x := lD [PV.sl .v _] FPrb_ty_36)
  refine rA ?_ (x := sM)
  refine rA ?_ (x := loc_index (by decide) FPrb_sl_36 (by exact ⟨⟩) (by exact rfl) (by exact getm2 (by omega) rfl) (by exact rfl))
  refine rA ?_ (x := loc_efield (by decide) FPrb_fd_142_0 (by exact Nat.le_of_ble_eq_true rfl))
  refine rA ?_ (x := loc_efield (by decide) FPrb_fd_65_0 (by exact Nat.le_of_ble_eq_true rfl))
  refine rA ?_ (x := lE [PV.val _] FPrb_ty_3)
  refine rA ?_ (x := sM)
  refine rA ?_ (x := B_eql)
  refine sw_cond (t := 21) rfl (fun hb2 => ?_) (fun hb2 => ?_)
  ·try simp only [q1, q2, q3, q4, q5, q6, q7, q8, q9] at hb2
   have hy : idP id e.Active[k] = true := by first | (simp_all [idP]; done) | simpa [idP] using hb2
   refine sw_seq ?_
   refine sO [(1, _), (2, _), (5, _)] [(2, _)] ?_
   refine sw_reg ?_
   refine rA ?_ (x := sM)
   refine rA ?_ (x := sA)
   refine sw_ret ?_
   exact (And.intro (by refine int_eq ?_; rw [findA_yes hlt ha hy]) True.intro)
  ·try simp only [q1, q2, q3, q4, q5, q6, q7, q8, q9] at hb2
   have hno : idP id e.Active[k] = false := by first | (simp_all [idP]; done) | simpa [idP] using hb2
   refine sw_skip ?_
   refine sO [(1, _), (2, _), (5, _)] [(2, _)] ?_
   refine sw_reg ?_
   refine rA ?_ (x := sM)
   refine rA ?_ (x := B_add)
   refine rA ?_ (x := sA)
   refine Exists.intro (k + 1) (And.intro (by exact ⟨by omega, any_succ ha hlt hno⟩) (And.intro (by omega) (And.intro (And.intro (by exact ⟨rfl, rfl, ⟨⟩⟩) (by exact ⟨rfl, ⟨⟩⟩)) (And.intro (by exact And.intro (by exact rfl) (True.intro)) (by exact ⟨⟩)))))
 ·try simp only [q1, q2, q3, q4, q5, q6, q7, q8, q9] at hb1
  have hend : k = e.Active.length := by omega
  rw [hend, List.take_length] at ha
  refine sw_exit ?_
  refine sw_seq ?_
  refine sO [(1, _), (2, _), (5, _)] [(2, (40, [PV.sl _ _, PV.val _, PV.val _, PV.sl _ _, PV.sl _ _, PV.sl _ _, PV.sl _ _, PV.val _]))] ?_
  refine sw_reg ?_
  refine rA ?_ (x := kA)
  refine sw_ret ?_
  exact (And.intro (by refine int_eq ?_; rw [findA_no ha]) True.intro)
theorem impl_probed {p1 p2 p5 p6 p7 p8 p9 p11 p12 p13 p14 p16 p17 p18 : Fl} {e : Engine}  (hok : okEngine e = true) (hb : wtEngine e ≤ 68719476736) : SCall Tryz.prog 51 [(true, [PV.sl .v (e.Store.Segments.map (cVersionS p1 p2)), PV.val (vI e.Store.Now), PV.val (vI e.Cursor), PV.sl .v (e.Order.map cInt), PV.sl .v (e.Active.map (cActive p5 p6 p7 p8 p9)), PV.sl .v (e.Done.map (cFinished p11 p12 p13 p14)), PV.sl .v (e.Ledger.map (cCharge p16 p17 p18)), PV.val (vI e.Steps)])] (resRV [(true, [PV.sl (.own 65 4) ((buildIdx (partQ e.Active (parts e))).Queries.map (cQuery (.own 193 3) (.own 3 1))), PV.sl (.own 205 1) ((buildIdx (partQ e.Active (parts e))).Fields.map (cSpanS (.own 234 3) (.own 3 1)))]), (false, [PV.sl (.own 66 2) ((rowsAt e).map (cRow (.own 3 1)))])]) := by
 refine scall_of (rs := [(true, [PV.sl (.own 65 4) ((buildIdx (partQ e.Active (parts e))).Queries.map (cQuery (.own 193 3) (.own 3 1))), PV.sl (.own 205 1) ((buildIdx (partQ e.Active (parts e))).Fields.map (cSpanS (.own 234 3) (.own 3 1)))]), (false, [PV.sl (.own 66 2) ((rowsAt e).map (cRow (.own 3 1)))])]) Tryz.func51 rfl (Nat.le_of_ble_eq_true rfl) (borA_cons (BorL.cons (PV.bor_sl _) (BorL.cons (PV.bor_val _) (BorL.cons (PV.bor_val _) (BorL.cons (PV.bor_sl _) (BorL.cons (PV.bor_sl _) (BorL.cons (PV.bor_sl _) (BorL.cons (PV.bor_sl _) (BorL.cons (PV.bor_val _) BorL.nil)))))))) borA_nil) ?_
 intro h0 w0 Fz0
 refine sw_slen (s := 0) (j := 0) rfl rfl fun hl0_0 => ?_
 try rw [List.length_map] at hl0_0
 refine sw_slen (s := 0) (j := 3) rfl rfl fun hl0_3 => ?_
 try rw [List.length_map] at hl0_3
 refine sw_slen (s := 0) (j := 4) rfl rfl fun hl0_4 => ?_
 try rw [List.length_map] at hl0_4
 refine sw_slen (s := 0) (j := 5) rfl rfl fun hl0_5 => ?_
 try rw [List.length_map] at hl0_5
 refine sw_slen (s := 0) (j := 6) rfl rfl fun hl0_6 => ?_
 try rw [List.length_map] at hl0_6
 have hef := eng_facts hok
 have hpl := parts_len (e := e)
 have hcl : e.Cursor.toNat < e.Store.Segments.length := hef.2.2.2.1
 have hws := wt_mem (f := wtVersionS) hcl
 have hgd := gDt_ (d := ([] : List Version)) hcl
 rw [hgd] at hws
 have hs4 := (sto_facts hef.1).2.2.2.2.1 _ (List.getElem_mem hcl)
 rw [hgd] at hs4
 have hws2 : wtVersionS (e.Store.Segments.getD e.Cursor.toNat []) = (e.Store.Segments.getD e.Cursor.toNat []).length + ((e.Store.Segments.getD e.Cursor.toNat []).map wtVersion).sum := rfl
 have hbu := hb
 simp only [wtEngine, wtStore, wtVersionSS, wtInt] at hbu
 refine sw_seq ?_
 refine sw_reg ?_
 refine RunS.step (by exact ⟨rfl, ⟨⟩⟩) (by exact ⟨⟩) (LocG.of rfl (loc_box (ag := true) (cs := [PV.sl _ _, PV.val _, PV.val _, PV.sl _ _, PV.sl _ _, PV.sl _ _, PV.sl _ _, PV.val _]) (by decide) (by exact ⟨⟩))) (free1 (Free.of_ rfl)) ?_
 refine RunS.step (by exact ⟨⟩) (by exact ⟨⟩) (LocG.of rfl (loc_alloc (by decide) FPrb_z_92 FPrb_zo_92)) (free1 (Free.app (Free.of_ rfl) rfl)) ?_
 refine rA ?_ (x := loc_const (.inr rfl) (by decide) (ok_nil (t := 66) (e := 2)))
 refine sw_seq ?_
 refine sO [(1, _), (2, _), (3, _)] [(1, (40, [PV.sl _ _, PV.val _, PV.val _, PV.sl _ _, PV.sl _ _, PV.sl _ _, PV.sl _ _, PV.val _])), (2, (92, [PV.sl _ _, PV.sl _ _]))] ?_
 refine sw_reg ?_
 refine rA ?_ (x := loc_bslice (qs := []) (by decide) FPrb_sl_89 FPrb_z_65 (by decide) rfl rfl rfl rfl rfl (by exact Nat.le_of_ble_eq_true rfl) (by exact ⟨⟩) rfl)
 refine rA ?_ (x := tA)
 refine sw_seq ?_
 refine sw_seq ?_
 refine sO [(1, _), (2, _), (3, _), (4, _)] [(1, _), (2, _)] ?_
 refine sw_reg ?_
 refine rA ?_ (x := lD [PV.sl .v _, PV.val _, PV.val _, PV.sl .v _, PV.sl .v _, PV.sl .v _, PV.sl .v _, PV.val _] FPrb_ty_40)
 refine rA ?_ (x := cL [(true, [PV.sl _ _, PV.val _, PV.val _, PV.sl _ _, PV.sl _ _, PV.sl _ _, PV.sl _ _, PV.val _])] [(true, [PV.sl .v _, PV.val _, PV.val _, PV.sl .v _, PV.sl .v _, PV.sl .v _, PV.sl .v _, PV.val _])] FPrb_c_120 (hs := by exact (impl_Participants (by omega))))
 refine rA ?_ (x := lN FPrb_sl_25)
 refine rA ?_ (x := kM)
 refine sw_block ?_
 refine sO [(1, _), (2, _), (3, _), (4, _), (12, _), (13, _), (14, _)] [(1, _), (2, _)] ?_
 refine sw_loop (l0 := [(1, RV.ptr 1 0), (2, RV.ptr 2 0), (3, RV.sv false [PV.sl _ _]), (12, RV.sv false [PV.sl _ _]), (13, RV.sv false [PV.val _])]) (b0 := [(1, (40, [PV.sl _ _, PV.val _, PV.val _, PV.sl _ _, PV.sl _ _, PV.sl _ _, PV.sl _ _, PV.val _])), (2, (92, [PV.sl _ _, PV.sl _ _]))]) (fun k : Nat => k ≤ (parts e).length) (fun k : Nat => [(4, RV.slc (.own 65 4) ((partQ e.Active ((parts e).take k)).map (cQuery .v .v))), (14, RV.int (k : Int))]) (fun k : Nat => []) (fun k : Nat => (parts e).length - k) 0 (by omega) (by exact ⟨rfl, rfl, rfl, rfl, rfl, ⟨⟩⟩) (by exact ⟨rfl, rfl, ⟨⟩⟩) (by exact And.intro (by exact rfl) (And.intro (by exact rfl) (True.intro))) (by exact ⟨⟩) ?_
 rintro k hk
 refine sw_seq ?_
 refine sw_reg ?_
 refine rA ?_ (x := B_lss)
 refine sw_seq ?_
 refine sw_cond (t := 15) rfl (fun hb1 => ?_) (fun hb1 => ?_)
 ·try simp only [q1, q2, q3, q4, q5, q6, q7, q8, q9] at hb1
  have hlt : k < (parts e).length := by omega
  have hpk : (parts e)[k] ∈ partsOf e e.Active := by rw [← parts_yes hok]; exact List.getElem_mem hlt
  have hfp := findA_part hpk
  have hql : (partQ e.Active ((parts e).take k)).length = k := by unfold partQ; rw [List.length_map, List.length_take]; omega
  refine sw_skip ?_
  refine sw_seq ?_
  refine sw_block ?_
  refine sw_seq ?_
  refine sO [(1, _), (2, _), (3, _), (4, _), (12, _), (13, _), (14, _)] [(1, (40, [PV.sl _ _, PV.val _, PV.val _, PV.sl _ _, PV.sl _ _, PV.sl _ _, PV.sl _ _, PV.val _])), (2, (92, [PV.sl _ _, PV.sl _ _]))] ?_
  refine sw_reg ?_
  refine rA ?_ (x := loc_index (by decide) FPrb_sl_25 (by exact ⟨⟩) (by exact rfl) (by exact getm2 (by omega) rfl) (by exact rfl))
  refine rA ?_ (x := lE [PV.val _] FPrb_ty_3)
  refine rA ?_ (x := sA)
  refine sO [(1, _), (2, _), (3, _), (4, _), (6, _), (12, _), (13, _), (14, _)] [(1, _), (2, _)] ?_
  refine sw_draw hm_ ?_
  refine dA 0 ?_ (x := tM)
  refine dA 0 ?_ (x := lF FPrb_fd_40_3)
  refine dA 2 ?_ (x := lD [PV.sl .v _] FPrb_ty_36)
  refine dA 0 ?_ (x := lD [PV.sl .v _, PV.val _, PV.val _, PV.sl .v _, PV.sl .v _, PV.sl .v _, PV.sl .v _, PV.val _] FPrb_ty_40)
  refine dA 0 ?_ (x := sM)
  refine dA 24 ?_ (x := cL [(true, [PV.sl _ _, PV.val _, PV.val _, PV.sl _ _, PV.sl _ _, PV.sl _ _, PV.sl _ _, PV.val _]), (false, [PV.val _])] [(true, [PV.sl .v _, PV.val _, PV.val _, PV.sl .v _, PV.sl .v _, PV.sl .v _, PV.sl .v _, PV.val _]), (false, [PV.val _])] FPrb_c_121 (hs := by exact impl_FindActive))
  refine dA 62 ?_ (x := loc_index (k := (findA e.Active (parts e)[k]).toNat) (by decide) FPrb_sl_36 (by exact ⟨⟩) (by omega) (by exact getm2 hfp.2 (by rw [gDt_ (d := a0_) hfp.2])) (by exact rfl))
  refine dA 126 ?_ (x := loc_efield (by decide) FPrb_fd_142_0 (by exact Nat.le_of_ble_eq_true rfl))
  refine dA 254 ?_ (x := lE [PV.val _, PV.val _, PV.sl .v _, PV.sl .v _] FPrb_ty_65)
  refine dA 510 ?_ (x := loc_bslice (qs := [(true, [PV.val _, PV.val _, PV.sl _ _, PV.sl _ _])]) (by decide) FPrb_sl_89 FPrb_z_65 (by decide) rfl rfl rfl rfl rfl (by exact Nat.le_of_ble_eq_true rfl) (by exact (And.intro (by exact ⟨⟩) True.intro)) rfl)
  refine dA 1023 ?_ (x := loc_append (by decide) FPrb_sl_89 FPrb_z_65 rfl rfl (by decide) rfl (by simp only [List.length_map, List.length_append, List.length_cons, List.length_nil]; omega) (by simp only [List.length_map, List.length_append, List.length_cons, List.length_nil]; omega))
  refine dA 2047 ?_ (x := tA)
  refine sO [(1, _), (2, _), (3, _), (4, _), (6, _), (12, _), (13, _), (14, _)] [(1, _), (2, _)] ?_
  refine sw_reg ?_
  refine rA ?_ (x := B_add)
  refine rA ?_ (x := sM)
  refine Exists.intro (k + 1) (And.intro (by omega) (And.intro (by omega) (And.intro (And.intro (by exact ⟨rfl, rfl, rfl, rfl, rfl, ⟨⟩⟩) (by exact ⟨rfl, rfl, ⟨⟩⟩)) (And.intro (by exact And.intro (by exact slc_eq (by unfold partQ; rw [map_take_succ hlt, List.map_append]; rfl)) (And.intro (by exact rfl) (True.intro))) (by exact ⟨⟩)))))
 ·try simp only [q1, q2, q3, q4, q5, q6, q7, q8, q9] at hb1
  have hend : k = (parts e).length := by omega
  rw [hend, List.take_length]
  refine sw_exit ?_
  refine sw_seq ?_
  refine sO [(1, _), (2, _), (3, _), (4, _), (12, _), (13, _), (14, _)] [(1, (40, [PV.sl _ _, PV.val _, PV.val _, PV.sl _ _, PV.sl _ _, PV.sl _ _, PV.sl _ _, PV.val _])), (2, (92, [PV.sl _ _, PV.sl _ _]))] ?_
  refine sw_reg ?_
  refine rA ?_ (x := loc_bslice (qs := []) (by decide) FPrb_sl_93 FPrb_z_66 (by decide) rfl rfl rfl rfl rfl (by exact Nat.le_of_ble_eq_true rfl) (by exact ⟨⟩) rfl)
  refine rA ?_ (x := tA)
  refine sw_seq ?_
  refine sw_seq ?_
  refine sO [(1, _), (2, _), (3, _), (4, _), (7, _), (12, _), (13, _), (14, _)] [(1, _), (2, _)] ?_
  refine sw_reg ?_
  refine rA ?_ (x := lF FPrb_fd_40_0)
  refine rA ?_ (x := lF FPrb_fd_35_0)
  refine rA ?_ (x := lD [PV.sl .v _] FPrb_ty_33)
  refine rA ?_ (x := lF FPrb_fd_40_1)
  refine rA ?_ (x := lD [PV.val _] FPrb_ty_3)
  refine rA ?_ (x := loc_index (k := e.Cursor.toNat) (by decide) FPrb_sl_33 (by exact ⟨⟩) (by omega) (by exact getm2 hcl (by rw [gDt_ (d := ([] : List Version)) hcl])) (by exact rfl))
  refine rA ?_ (x := lE [PV.sl .v _] FPrb_ty_149)
  refine rA ?_ (x := lN FPrb_sl_149)
  refine rA ?_ (x := kM)
  refine sw_block ?_
  refine sO [(1, _), (2, _), (3, _), (4, _), (7, _), (12, _), (13, _), (14, _), (37, _), (38, _), (39, _)] [(1, _), (2, _)] ?_
  refine sw_loop (l0 := [(1, RV.ptr 1 0), (2, RV.ptr 2 0), (3, RV.sv false [PV.sl _ _]), (4, RV.sv false [PV.sl _ _]), (12, RV.sv false [PV.sl _ _]), (13, RV.sv false [PV.val _]), (14, RV.sv false [PV.val _]), (37, RV.sv false [PV.sl _ _]), (38, RV.sv false [PV.val _])]) (b0 := [(1, (40, [PV.sl _ _, PV.val _, PV.val _, PV.sl _ _, PV.sl _ _, PV.sl _ _, PV.sl _ _, PV.val _])), (2, (92, [PV.sl _ _, PV.sl _ _]))]) (fun k : Nat => k ≤ (e.Store.Segments.getD e.Cursor.toNat []).length) (fun k : Nat => [(7, RV.slc (.own 66 2) ((((e.Store.Segments.getD e.Cursor.toNat []).take k).map rowOfV).map (cRow (.own 3 1)))), (39, RV.int (k : Int))]) (fun k : Nat => []) (fun k : Nat => (e.Store.Segments.getD e.Cursor.toNat []).length - k) 0 (by omega) (by exact ⟨rfl, rfl, rfl, rfl, rfl, rfl, rfl, rfl, rfl, ⟨⟩⟩) (by exact ⟨rfl, rfl, ⟨⟩⟩) (by exact And.intro (by exact rfl) (And.intro (by exact rfl) (True.intro))) (by exact ⟨⟩) ?_
  rintro k hk
  refine sw_seq ?_
  refine sw_reg ?_
  refine rA ?_ (x := B_lss)
  refine sw_seq ?_
  refine sw_cond (t := 40) rfl (fun hb2 => ?_) (fun hb2 => ?_)
  ·try simp only [q1, q2, q3, q4, q5, q6, q7, q8, q9] at hb2
   have hlt : k < (e.Store.Segments.getD e.Cursor.toNat []).length := by omega
   have hwm2 := wt_mem (f := wtVersion) hlt
   have hrl : (((e.Store.Segments.getD e.Cursor.toNat []).take k).map rowOfV).length = k := by rw [List.length_map, List.length_take]; omega
   have hrl2 : ((e.Store.Segments.getD e.Cursor.toNat []).take k).length = k := by rw [List.length_take]; omega
   refine sw_skip ?_
   refine sw_seq ?_
   refine sw_block ?_
   refine sw_seq ?_
   refine sO [(1, _), (2, _), (3, _), (4, _), (7, _), (12, _), (13, _), (14, _), (37, _), (38, _), (39, _)] [(1, (40, [PV.sl _ _, PV.val _, PV.val _, PV.sl _ _, PV.sl _ _, PV.sl _ _, PV.sl _ _, PV.val _])), (2, (92, [PV.sl _ _, PV.sl _ _]))] ?_
   refine sw_reg ?_
   refine rA ?_ (x := loc_index (by decide) FPrb_sl_149 (by exact ⟨⟩) (by exact rfl) (by exact getm2 (by omega) rfl) (by exact rfl))
   refine rA ?_ (x := lE [PV.val _, PV.sl .v _, PV.val _, PV.val _] FPrb_ty_151)
   refine RunS.step (by exact ⟨⟩) (by exact ⟨⟩) (LocG.of rfl (loc_alloc (by decide) FPrb_z_151 FPrb_zo_151)) (free1 (Free.app (Free.app (Free.of_ rfl) rfl) rfl)) ?_
   refine rA ?_ (x := loc_store (ag := true) (vs := [PV.val _, PV.sl _ _, PV.val _, PV.val _]) FPrb_ty_151 (by exact ⟨⟩) (by exact rfl) (by exact Nat.le_of_ble_eq_true rfl))
   refine sO [(1, _), (2, _), (3, _), (4, _), (7, _), (9, _), (12, _), (13, _), (14, _), (37, _), (38, _), (39, _)] [(1, _), (2, _), (9, (151, [PV.val _, PV.sl _ _, PV.val _, PV.val _]))] ?_
   refine sw_reg ?_
   refine rA ?_ (x := tM)
   refine rA ?_ (x := lD [PV.val _, PV.sl .v _, PV.val _, PV.val _] FPrb_ty_151)
   refine rA ?_ (x := cL [(true, [PV.val _, PV.sl _ _, PV.val _, PV.val _])] [(true, [PV.val _, PV.sl .v _, PV.val _, PV.val _])] FPrb_c_122 (hs := by exact impl_rowOf (by omega)))
   refine rA ?_ (x := loc_bslice (qs := [(true, [PV.val _, PV.sl _ _])]) (by decide) FPrb_sl_93 FPrb_z_66 (by decide) rfl rfl rfl rfl rfl (by exact Nat.le_of_ble_eq_true rfl) (by exact (And.intro (by exact ⟨⟩) True.intro)) rfl)
   refine rA ?_ (x := loc_append (by decide) FPrb_sl_93 FPrb_z_66 rfl rfl (by decide) rfl (by simp only [List.length_map, List.length_append, List.length_cons, List.length_nil]; omega) (by simp only [List.length_map, List.length_append, List.length_cons, List.length_nil]; omega))
   refine rA ?_ (x := tA)
   refine sO [(1, _), (2, _), (3, _), (4, _), (7, _), (9, _), (12, _), (13, _), (14, _), (37, _), (38, _), (39, _)] [(1, _), (2, _), (9, _)] ?_
   refine sw_reg ?_
   refine rA ?_ (x := B_add)
   refine rA ?_ (x := sM)
   refine Exists.intro (k + 1) (And.intro (by omega) (And.intro (by omega) (And.intro (And.intro (by exact ⟨rfl, rfl, rfl, rfl, rfl, rfl, rfl, rfl, rfl, ⟨⟩⟩) (by exact ⟨rfl, rfl, ⟨⟩⟩)) (And.intro (by exact And.intro (by exact slc_eq (by rw [map_take_succ hlt, List.map_append]; rfl)) (And.intro (by exact rfl) (True.intro))) (by exact ⟨⟩)))))
  ·try simp only [q1, q2, q3, q4, q5, q6, q7, q8, q9] at hb2
   have hend : k = (e.Store.Segments.getD e.Cursor.toNat []).length := by omega
   rw [hend, List.take_length]
   refine sw_exit ?_
   refine sw_seq ?_
   refine sO [(1, _), (2, _), (3, _), (4, _), (7, _), (12, _), (13, _), (14, _), (37, _), (38, _), (39, _)] [(1, (40, [PV.sl _ _, PV.val _, PV.val _, PV.sl _ _, PV.sl _ _, PV.sl _ _, PV.sl _ _, PV.val _])), (2, (92, [PV.sl _ _, PV.sl _ _]))] ?_
   refine sw_reg ?_
   refine rA ?_ (x := vM false [PV.sl .v _])
   refine rA ?_ (x := cL [(false, [PV.sl _ _])] [(false, [PV.sl .v _])] FPrb_c_123 (hs := by exact impl_BuildIndex))
   refine rA ?_ (x := tM)
   refine rA ?_ (x := loc_store (ag := true) (vs := [PV.sl _ _, PV.sl _ _]) FPrb_ty_92 (by exact ⟨⟩) (by exact rfl) (by exact Nat.le_of_ble_eq_true rfl))
   refine rA ?_ (x := tA)
   refine sw_ret ?_
   exact (Exists.intro 2 (Exists.intro _ (And.intro (by exact rfl) (And.intro (by exact rfl) (And.intro FPrb_ty_92 (And.intro (fun h => nomatch h) (And.intro (by exact rfl) True.intro)))))))
theorem spec_l19Now {p1 p2 p5 p6 p7 p8 p9 p11 p12 p13 p14 p16 p17 p18 : Fl} {e : Engine}  (hok : okEngine e = true) (hb : wtEngine e ≤ 68719476736) : SCall Tryz.prog 43 [(true, [PV.sl .v (e.Store.Segments.map (cVersionS p1 p2)), PV.val (vI e.Store.Now), PV.val (vI e.Cursor), PV.sl .v (e.Order.map cInt), PV.sl .v (e.Active.map (cActive p5 p6 p7 p8 p9)), PV.sl .v (e.Done.map (cFinished p11 p12 p13 p14)), PV.sl .v (e.Ledger.map (cCharge p16 p17 p18)), PV.val (vI e.Steps)])] (resRV [(true, [PV.sl (.own 65 4) ((buildIdx (partQ e.Active (parts e))).Queries.map (cQuery (.own 193 3) (.own 3 1))), PV.sl (.own 205 1) ((buildIdx (partQ e.Active (parts e))).Fields.map (cSpanS (.own 234 3) (.own 3 1)))]), (false, [PV.sl (.own 66 2) ((rowsAt e).map (cRow .v))])]) := by
 refine scall_of (rs := [(true, [PV.sl (.own 65 4) ((buildIdx (partQ e.Active (parts e))).Queries.map (cQuery (.own 193 3) (.own 3 1))), PV.sl (.own 205 1) ((buildIdx (partQ e.Active (parts e))).Fields.map (cSpanS (.own 234 3) (.own 3 1)))]), (false, [PV.sl (.own 66 2) ((rowsAt e).map (cRow .v))])]) Tryz.func43 rfl (Nat.le_of_ble_eq_true rfl) (borA_cons (BorL.cons (PV.bor_sl _) (BorL.cons (PV.bor_val _) (BorL.cons (PV.bor_val _) (BorL.cons (PV.bor_sl _) (BorL.cons (PV.bor_sl _) (BorL.cons (PV.bor_sl _) (BorL.cons (PV.bor_sl _) (BorL.cons (PV.bor_val _) BorL.nil)))))))) borA_nil) ?_
 intro h0 w0 Fz0
 refine sw_slen (s := 0) (j := 0) rfl rfl fun hl0_0 => ?_
 try rw [List.length_map] at hl0_0
 refine sw_slen (s := 0) (j := 3) rfl rfl fun hl0_3 => ?_
 try rw [List.length_map] at hl0_3
 refine sw_slen (s := 0) (j := 4) rfl rfl fun hl0_4 => ?_
 try rw [List.length_map] at hl0_4
 refine sw_slen (s := 0) (j := 5) rfl rfl fun hl0_5 => ?_
 try rw [List.length_map] at hl0_5
 refine sw_slen (s := 0) (j := 6) rfl rfl fun hl0_6 => ?_
 try rw [List.length_map] at hl0_6
 have hef := eng_facts hok
 have hpl := parts_len (e := e)
 have hcl : e.Cursor.toNat < e.Store.Segments.length := hef.2.2.2.1
 have hws := wt_mem (f := wtVersionS) hcl
 have hgd := gDt_ (d := ([] : List Version)) hcl
 rw [hgd] at hws
 have hs4 := (sto_facts hef.1).2.2.2.2.1 _ (List.getElem_mem hcl)
 rw [hgd] at hs4
 have hws2 : wtVersionS (e.Store.Segments.getD e.Cursor.toNat []) = (e.Store.Segments.getD e.Cursor.toNat []).length + ((e.Store.Segments.getD e.Cursor.toNat []).map wtVersion).sum := rfl
 have hbu := hb
 simp only [wtEngine, wtStore, wtVersionSS, wtInt] at hbu
 refine sw_seq ?_
 refine sw_reg ?_
 refine RunS.step (by exact ⟨rfl, ⟨⟩⟩) (by exact ⟨⟩) (LocG.of rfl (loc_box (ag := true) (cs := [PV.sl _ _, PV.val _, PV.val _, PV.sl _ _, PV.sl _ _, PV.sl _ _, PV.sl _ _, PV.val _]) (by decide) (by exact ⟨⟩))) (free1 (Free.of_ rfl)) ?_
 refine RunS.step (by exact ⟨⟩) (by exact ⟨⟩) (LocG.of rfl (loc_alloc (by decide) FPrb_z_92 FPrb_zo_92)) (free1 (Free.app (Free.of_ rfl) rfl)) ?_
 refine rA ?_ (x := loc_const (.inr rfl) (by decide) (ok_nil (t := 66) (e := 2)))
 refine sw_seq ?_
 refine sO [(1, _), (2, _), (3, _)] [(1, (40, [PV.sl _ _, PV.val _, PV.val _, PV.sl _ _, PV.sl _ _, PV.sl _ _, PV.sl _ _, PV.val _])), (2, (92, [PV.sl _ _, PV.sl _ _]))] ?_
 refine sw_reg ?_
 refine rA ?_ (x := loc_bslice (qs := []) (by decide) FPrb_sl_89 FPrb_z_65 (by decide) rfl rfl rfl rfl rfl (by exact Nat.le_of_ble_eq_true rfl) (by exact ⟨⟩) rfl)
 refine rA ?_ (x := tA)
 refine sw_seq ?_
 refine sO [(1, _), (2, _), (3, _), (4, _)] [(1, _), (2, _)] ?_
 refine sw_reg ?_
 refine rA ?_ (x := lD [PV.sl .v _, PV.val _, PV.val _, PV.sl .v _, PV.sl .v _, PV.sl .v _, PV.sl .v _, PV.val _] FPrb_ty_40)
 refine rA ?_ (x := cL [(true, [PV.sl _ _, PV.val _, PV.val _, PV.sl _ _, PV.sl _ _, PV.sl _ _, PV.sl _ _, PV.val _])] [(true, [PV.sl .v _, PV.val _, PV.val _, PV.sl .v _, PV.sl .v _, PV.sl .v _, PV.sl .v _, PV.val _])] FPrb_c_103 (hs := by exact (spec_Participants (by omega))))
 refine rA ?_ (x := tA)
 refine sw_seq ?_
 refine sw_seq ?_
 refine sO [(1, _), (2, _), (3, _), (4, _), (5, _)] [(1, _), (2, _)] ?_
 refine sw_reg ?_
 refine rA ?_ (x := kA)
 refine sw_block ?_
 refine sO [(1, _), (2, _), (3, _), (4, _), (5, _), (6, _)] [(1, _), (2, _)] ?_
 refine sw_loop (l0 := [(1, RV.ptr 1 0), (2, RV.ptr 2 0), (3, RV.sv false [PV.sl _ _]), (5, RV.sv false [PV.sl _ _])]) (b0 := [(1, (40, [PV.sl _ _, PV.val _, PV.val _, PV.sl _ _, PV.sl _ _, PV.sl _ _, PV.sl _ _, PV.val _])), (2, (92, [PV.sl _ _, PV.sl _ _]))]) (fun k : Nat => k ≤ (parts e).length) (fun k : Nat => [(4, RV.slc (.own 65 4) ((partQ e.Active ((parts e).take k)).map (cQuery .v .v))), (6, RV.int (k : Int))]) (fun k : Nat => []) (fun k : Nat => (parts e).length - k) 0 (by omega) (by exact ⟨rfl, rfl, rfl, rfl, ⟨⟩⟩) (by exact ⟨rfl, rfl, ⟨⟩⟩) (by exact And.intro (by exact rfl) (And.intro (by exact rfl) (True.intro))) (by exact ⟨⟩) ?_
 rintro k hk
 refine sw_seq ?_
 refine sw_seq ?_
 refine sw_reg ?_
 refine rA ?_ (x := sM)
 refine rA ?_ (x := vM false [PV.sl .v _])
 refine rA ?_ (x := lN FPrb_sl_25)
 refine rA ?_ (x := B_lss)
 refine sw_cond (t := 16) rfl (fun hb1 => ?_) (fun hb1 => ?_)
 ·try simp only [q1, q2, q3, q4, q5, q6, q7, q8, q9] at hb1
  have hlt : k < (parts e).length := by omega
  have hpk : (parts e)[k] ∈ partsOf e e.Active := by rw [← parts_yes hok]; exact List.getElem_mem hlt
  have hfp := findA_part hpk
  have hql : (partQ e.Active ((parts e).take k)).length = k := by unfold partQ; rw [List.length_map, List.length_take]; omega
  refine sw_skip ?_
  refine sw_seq ?_
  refine sw_block ?_
  refine sO [(1, _), (2, _), (3, _), (4, _), (5, _), (6, _)] [(1, (40, [PV.sl _ _, PV.val _, PV.val _, PV.sl _ _, PV.sl _ _, PV.sl _ _, PV.sl _ _, PV.val _])), (2, (92, [PV.sl _ _, PV.sl _ _]))] ?_
  refine sw_draw hm_ ?_
  refine dA 0 ?_ (x := tM)
  refine dA 0 ?_ (x := lF FPrb_fd_40_3)
  refine dA 2 ?_ (x := lD [PV.sl .v _] FPrb_ty_36)
  refine dA 0 ?_ (x := lD [PV.sl .v _, PV.val _, PV.val _, PV.sl .v _, PV.sl .v _, PV.sl .v _, PV.sl .v _, PV.val _] FPrb_ty_40)
  refine dA 0 ?_ (x := vM false [PV.sl .v _])
  refine dA 0 ?_ (x := sM)
  refine dA 48 ?_ (x := loc_index (by decide) FPrb_sl_25 (by exact ⟨⟩) (by exact rfl) (by exact getm2 (by omega) rfl) (by exact rfl))
  refine dA 112 ?_ (x := lE [PV.val _] FPrb_ty_3)
  refine dA 248 ?_ (x := cL [(true, [PV.sl _ _, PV.val _, PV.val _, PV.sl _ _, PV.sl _ _, PV.sl _ _, PV.sl _ _, PV.val _]), (false, [PV.val _])] [(true, [PV.sl .v _, PV.val _, PV.val _, PV.sl .v _, PV.sl .v _, PV.sl .v _, PV.sl .v _, PV.val _]), (false, [PV.val _])] FPrb_c_104 (hs := by exact spec_FindActive))
  refine dA 510 ?_ (x := loc_index (k := (findA e.Active (parts e)[k]).toNat) (by decide) FPrb_sl_36 (by exact ⟨⟩) (by omega) (by exact getm2 hfp.2 (by rw [gDt_ (d := a0_) hfp.2])) (by exact rfl))
  refine dA 1022 ?_ (x := loc_efield (by decide) FPrb_fd_142_0 (by exact Nat.le_of_ble_eq_true rfl))
  refine dA 2046 ?_ (x := lE [PV.val _, PV.val _, PV.sl .v _, PV.sl .v _] FPrb_ty_65)
  refine dA 4094 ?_ (x := loc_bslice (qs := [(true, [PV.val _, PV.val _, PV.sl _ _, PV.sl _ _])]) (by decide) FPrb_sl_89 FPrb_z_65 (by decide) rfl rfl rfl rfl rfl (by exact Nat.le_of_ble_eq_true rfl) (by exact (And.intro (by exact ⟨⟩) True.intro)) rfl)
  refine dA 8191 ?_ (x := loc_append (by decide) FPrb_sl_89 FPrb_z_65 rfl rfl (by decide) rfl (by simp only [List.length_map, List.length_append, List.length_cons, List.length_nil]; omega) (by simp only [List.length_map, List.length_append, List.length_cons, List.length_nil]; omega))
  refine dA 16383 ?_ (x := tA)
  refine sO [(1, _), (2, _), (3, _), (4, _), (5, _), (6, _)] [(1, _), (2, _)] ?_
  refine sw_reg ?_
  refine rA ?_ (x := sM)
  refine rA ?_ (x := B_add)
  refine rA ?_ (x := sA)
  refine Exists.intro (k + 1) (And.intro (by omega) (And.intro (by omega) (And.intro (And.intro (by exact ⟨rfl, rfl, rfl, rfl, ⟨⟩⟩) (by exact ⟨rfl, rfl, ⟨⟩⟩)) (And.intro (by exact And.intro (by exact slc_eq (by unfold partQ; rw [map_take_succ hlt, List.map_append]; rfl)) (And.intro (by exact rfl) (True.intro))) (by exact ⟨⟩)))))
 ·try simp only [q1, q2, q3, q4, q5, q6, q7, q8, q9] at hb1
  have hend : k = (parts e).length := by omega
  rw [hend, List.take_length]
  refine sw_exit ?_
  refine sw_seq ?_
  refine sO [(1, _), (2, _), (3, _), (4, _), (5, _), (6, _)] [(1, (40, [PV.sl _ _, PV.val _, PV.val _, PV.sl _ _, PV.sl _ _, PV.sl _ _, PV.sl _ _, PV.val _])), (2, (92, [PV.sl _ _, PV.sl _ _]))] ?_
  refine sw_reg ?_
  refine rA ?_ (x := loc_bslice (qs := []) (by decide) FPrb_sl_93 FPrb_z_66 (by decide) rfl rfl rfl rfl rfl (by exact Nat.le_of_ble_eq_true rfl) (by exact ⟨⟩) rfl)
  refine rA ?_ (x := tA)
  refine sw_seq ?_
  refine sO [(1, _), (2, _), (3, _), (4, _), (5, _), (6, _), (7, _)] [(1, _), (2, _)] ?_
  refine sw_reg ?_
  refine rA ?_ (x := lF FPrb_fd_40_0)
  refine rA ?_ (x := lF FPrb_fd_35_0)
  refine rA ?_ (x := lD [PV.sl .v _] FPrb_ty_33)
  refine rA ?_ (x := lF FPrb_fd_40_1)
  refine rA ?_ (x := lD [PV.val _] FPrb_ty_3)
  refine rA ?_ (x := loc_index (k := e.Cursor.toNat) (by decide) FPrb_sl_33 (by exact ⟨⟩) (by omega) (by exact getm2 hcl (by rw [gDt_ (d := ([] : List Version)) hcl])) (by exact rfl))
  refine rA ?_ (x := lE [PV.sl .v _] FPrb_ty_149)
  refine rA ?_ (x := vA false [PV.sl .v _])
  refine sw_seq ?_
  refine sw_seq ?_
  refine sO [(1, _), (2, _), (3, _), (4, _), (5, _), (6, _), (7, _), (8, _)] [(1, _), (2, _)] ?_
  refine sw_reg ?_
  refine rA ?_ (x := kA)
  refine sw_block ?_
  refine sO [(1, _), (2, _), (3, _), (4, _), (5, _), (6, _), (7, _), (8, _), (9, _)] [(1, _), (2, _)] ?_
  refine sw_loop (l0 := [(1, RV.ptr 1 0), (2, RV.ptr 2 0), (3, RV.sv false [PV.sl _ _]), (4, RV.sv false [PV.sl _ _]), (5, RV.sv false [PV.sl _ _]), (6, RV.sv false [PV.val _]), (8, RV.sv false [PV.sl _ _])]) (b0 := [(1, (40, [PV.sl _ _, PV.val _, PV.val _, PV.sl _ _, PV.sl _ _, PV.sl _ _, PV.sl _ _, PV.val _])), (2, (92, [PV.sl _ _, PV.sl _ _]))]) (fun k : Nat => k ≤ (e.Store.Segments.getD e.Cursor.toNat []).length) (fun k : Nat => [(7, RV.slc (.own 66 2) ((((e.Store.Segments.getD e.Cursor.toNat []).take k).map rowOfV).map (cRow .v))), (9, RV.int (k : Int))]) (fun k : Nat => []) (fun k : Nat => (e.Store.Segments.getD e.Cursor.toNat []).length - k) 0 (by omega) (by exact ⟨rfl, rfl, rfl, rfl, rfl, rfl, rfl, ⟨⟩⟩) (by exact ⟨rfl, rfl, ⟨⟩⟩) (by exact And.intro (by exact rfl) (And.intro (by exact rfl) (True.intro))) (by exact ⟨⟩) ?_
  rintro k hk
  refine sw_seq ?_
  refine sw_seq ?_
  refine sw_reg ?_
  refine rA ?_ (x := sM)
  refine rA ?_ (x := vM false [PV.sl .v _])
  refine rA ?_ (x := lN FPrb_sl_149)
  refine rA ?_ (x := B_lss)
  refine sw_cond (t := 44) rfl (fun hb2 => ?_) (fun hb2 => ?_)
  ·try simp only [q1, q2, q3, q4, q5, q6, q7, q8, q9] at hb2
   have hlt : k < (e.Store.Segments.getD e.Cursor.toNat []).length := by omega
   have hwm2 := wt_mem (f := wtVersion) hlt
   have hrl : (((e.Store.Segments.getD e.Cursor.toNat []).take k).map rowOfV).length = k := by rw [List.length_map, List.length_take]; omega
   have hrl2 : ((e.Store.Segments.getD e.Cursor.toNat []).take k).length = k := by rw [List.length_take]; omega
   refine sw_skip ?_
   refine sw_seq ?_
   refine sw_block ?_
   refine sO [(1, _), (2, _), (3, _), (4, _), (5, _), (6, _), (7, _), (8, _), (9, _)] [(1, (40, [PV.sl _ _, PV.val _, PV.val _, PV.sl _ _, PV.sl _ _, PV.sl _ _, PV.sl _ _, PV.val _])), (2, (92, [PV.sl _ _, PV.sl _ _]))] ?_
   refine sw_draw hm_ ?_
   refine dA 0 ?_ (x := tM)
   refine dA 0 ?_ (x := vM false [PV.sl .v _])
   refine dA 0 ?_ (x := sM)
   refine dA 6 ?_ (x := loc_index (by decide) FPrb_sl_149 (by exact ⟨⟩) (by exact rfl) (by exact getm2 (by omega) rfl) (by exact rfl))
   refine dA 14 ?_ (x := loc_efield (by decide) FPrb_fd_151_0 (by exact Nat.le_of_ble_eq_true rfl))
   refine dA 30 ?_ (x := lE [PV.val _] FPrb_ty_3)
   refine dA 0 ?_ (x := vM false [PV.sl .v _])
   refine dA 0 ?_ (x := sM)
   refine dA 192 ?_ (x := loc_index (by decide) FPrb_sl_149 (by exact ⟨⟩) (by exact rfl) (by exact getm2 (by omega) rfl) (by exact rfl))
   refine dA 448 ?_ (x := loc_efield (by decide) FPrb_fd_151_1 (by exact Nat.le_of_ble_eq_true rfl))
   refine dA 960 ?_ (x := lE [PV.sl .v _] FPrb_ty_25)
   refine dA 2046 ?_ (x := loc_build (qs := [(false, [PV.val _]), (false, [PV.sl _ _])]) (cs := [PV.val _, PV.sl _ _]) (by decide) FPrb_z_66 FPrb_zo_66 FPrb_pl_66 (by exact rfl) (by exact (And.intro (by exact ⟨⟩) (And.intro (by exact ⟨⟩) True.intro))) rfl (by exact rfl))
   refine dA 4094 ?_ (x := loc_bslice (qs := [(true, [PV.val _, PV.sl _ _])]) (by decide) FPrb_sl_93 FPrb_z_66 (by decide) rfl rfl rfl rfl rfl (by exact Nat.le_of_ble_eq_true rfl) (by exact (And.intro (by exact ⟨⟩) True.intro)) rfl)
   refine dA 8191 ?_ (x := loc_append (by decide) FPrb_sl_93 FPrb_z_66 rfl rfl (by decide) rfl (by simp only [List.length_map, List.length_append, List.length_cons, List.length_nil]; omega) (by simp only [List.length_map, List.length_append, List.length_cons, List.length_nil]; omega))
   refine dA 16383 ?_ (x := tA)
   refine sO [(1, _), (2, _), (3, _), (4, _), (5, _), (6, _), (7, _), (8, _), (9, _)] [(1, _), (2, _)] ?_
   refine sw_reg ?_
   refine rA ?_ (x := sM)
   refine rA ?_ (x := B_add)
   refine rA ?_ (x := sA)
   refine Exists.intro (k + 1) (And.intro (by omega) (And.intro (by omega) (And.intro (And.intro (by exact ⟨rfl, rfl, rfl, rfl, rfl, rfl, rfl, ⟨⟩⟩) (by exact ⟨rfl, rfl, ⟨⟩⟩)) (And.intro (by exact And.intro (by exact slc_eq (by rw [map_take_succ hlt, List.map_append]; rfl)) (And.intro (by exact rfl) (True.intro))) (by exact ⟨⟩)))))
  ·try simp only [q1, q2, q3, q4, q5, q6, q7, q8, q9] at hb2
   have hend : k = (e.Store.Segments.getD e.Cursor.toNat []).length := by omega
   rw [hend, List.take_length]
   refine sw_exit ?_
   refine sw_seq ?_
   refine sO [(1, _), (2, _), (3, _), (4, _), (5, _), (6, _), (7, _), (8, _), (9, _)] [(1, (40, [PV.sl _ _, PV.val _, PV.val _, PV.sl _ _, PV.sl _ _, PV.sl _ _, PV.sl _ _, PV.val _])), (2, (92, [PV.sl _ _, PV.sl _ _]))] ?_
   refine sw_reg ?_
   refine rA ?_ (x := vM false [PV.sl .v _])
   refine rA ?_ (x := cL [(false, [PV.sl _ _])] [(false, [PV.sl .v _])] FPrb_c_105 (hs := by exact spec_BuildIndex))
   refine rA ?_ (x := tM)
   refine rA ?_ (x := loc_store (ag := true) (vs := [PV.sl _ _, PV.sl _ _]) FPrb_ty_92 (by exact ⟨⟩) (by exact rfl) (by exact Nat.le_of_ble_eq_true rfl))
   refine rA ?_ (x := tA)
   refine sw_ret ?_
   exact (Exists.intro 2 (Exists.intro _ (And.intro (by exact rfl) (And.intro (by exact rfl) (And.intro FPrb_ty_92 (And.intro (fun h => nomatch h) (And.intro (by exact rfl) True.intro)))))))
theorem impl_WorkOf {p1 p2 p4 p5 p7 : Fl} {x : Index} {l : List Row} {o : List Int}  (hl : l.length ≤ 1048576) : SCall Tryz.prog 52 [(true, [PV.sl .v (x.Queries.map (cQuery p1 p2)), PV.sl .v (x.Fields.map (cSpanS p4 p5))]), (false, [PV.sl .v (l.map (cRow p7))]), (false, [PV.sl .v (o.map cInt)])] (resRV [(false, [PV.val (vI (workOf x l o))])]) := by
 refine scall_of (rs := [(false, [PV.val (vI (workOf x l o))])]) Tryz.func52 rfl (Nat.le_of_ble_eq_true rfl) (borA_cons (BorL.cons (PV.bor_sl _) (BorL.cons (PV.bor_sl _) BorL.nil)) (borA_cons (BorL.cons (PV.bor_sl _) BorL.nil) (borA_cons (BorL.cons (PV.bor_sl _) BorL.nil) borA_nil))) ?_
 intro h0 w0 Fz0
 refine sw_slen (s := 0) (j := 0) rfl rfl fun hl0_0 => ?_
 try rw [List.length_map] at hl0_0
 refine sw_slen (s := 0) (j := 1) rfl rfl fun hl0_1 => ?_
 try rw [List.length_map] at hl0_1
 refine sw_len (s := 1) rfl fun hl1 => ?_
 try rw [List.length_map] at hl1
 refine sw_len (s := 2) rfl fun hl2 => ?_
 try rw [List.length_map] at hl2
 refine sw_seq ?_
 refine sw_reg ?_
 refine RunS.step (by exact ⟨rfl, ⟨⟩⟩) (by exact ⟨⟩) (LocG.of rfl (loc_box (ag := true) (cs := [PV.sl _ _, PV.sl _ _]) (by decide) (by exact ⟨⟩))) (free1 (Free.of_ rfl)) ?_
 refine rA ?_ (x := kA)
 refine sw_seq ?_
 refine sO [(1, _), (2, _), (3, _), (6, _)] [(3, (92, [PV.sl _ _, PV.sl _ _]))] ?_
 refine sw_reg ?_
 refine rA ?_ (x := kA)
 refine sw_seq ?_
 refine sw_seq ?_
 refine sO [(1, _), (2, _), (3, _), (6, _), (7, _)] [(3, _)] ?_
 refine sw_reg ?_
 refine rA ?_ (x := lD [PV.sl .v _, PV.sl .v _] FPrb_ty_92)
 refine rA ?_ (x := cL [(true, [PV.sl _ _, PV.sl _ _])] [(true, [PV.sl .v _, PV.sl .v _])] FPrb_c_124 (hs := by exact impl_IsIndex))
 refine rA ?_ (x := nT)
 refine rA ?_ (x := sM)
 refine RunS.cases (s := 15) rfl (fun g1 => ?_) (fun g1 => ?_)
 ·have sg1 := g1
  try simp only [q1, q2, q3, q4, q5, q6, q7, q8, q9] at sg1
  refine RunS.s0t g1 ?_
  refine RunS.s0t g1 ?_
  refine RunS.s0t g1 ?_
  refine rA ?_ (x := pkT g1)
  refine sw_cond (t := 19) rfl (fun hb_ => ?_) (fun hb_ => nomatch hb_)
  have hbad : (okIndex x && okOrder o) = false := by first | (simp_all; done)
  refine sw_seq ?_
  refine sO [(1, _), (2, _), (3, _), (6, _), (7, _)] [(3, _)] ?_
  refine sw_reg ?_
  refine rA ?_ (x := sM)
  refine rA ?_ (x := sA)
  refine sw_ret ?_
  exact (And.intro (by refine int_eq ?_; unfold workOf; rw [if_neg (by rw [hbad]; simp)]) True.intro)
 ·have sg1 := g1
  try simp only [q1, q2, q3, q4, q5, q6, q7, q8, q9] at sg1
  refine rB g1 ?_ (x := vM false [PV.sl .v _])
  refine rB g1 ?_ (x := cL [(false, [PV.sl _ _])] [(false, [PV.sl .v _])] FPrb_c_115 (hs := by exact impl_isOrder))
  refine rB g1 ?_ (x := nT)
  refine rA ?_ (x := pkF g1)
  refine sw_cond (t := 19) rfl (fun hb3 => ?_) (fun hb3 => ?_)
  ·try simp only [q1, q2, q3, q4, q5, q6, q7, q8, q9] at hb3
   have hbad : (okIndex x && okOrder o) = false := by first | (simp_all; done)
   refine sw_seq ?_
   refine sO [(1, _), (2, _), (3, _), (6, _), (7, _)] [(3, _)] ?_
   refine sw_reg ?_
   refine rA ?_ (x := sM)
   refine rA ?_ (x := sA)
   refine sw_ret ?_
   exact (And.intro (by refine int_eq ?_; unfold workOf; rw [if_neg (by rw [hbad]; simp)]) True.intro)
  ·try simp only [q1, q2, q3, q4, q5, q6, q7, q8, q9] at hb3
   have hxo : (okIndex x && okOrder o) = true := by simp_all
   obtain ⟨hx, ho⟩ := Bool.and_eq_true_iff.1 hxo
   refine sw_skip ?_
   refine sw_seq ?_
   refine sw_seq ?_
   refine sO [(1, _), (2, _), (3, _), (6, _), (7, _)] [(3, _)] ?_
   refine sw_reg ?_
   refine rA ?_ (x := vM false [PV.sl .v _])
   refine rA ?_ (x := lN FPrb_sl_93)
   refine rA ?_ (x := kM)
   refine sw_block ?_
   refine sO [(1, _), (2, _), (3, _), (6, _), (7, _), (21, _), (22, _), (23, _)] [(3, _)] ?_
   refine sw_loop (l0 := [(1, RV.sv false [PV.sl _ _]), (2, RV.sv false [PV.sl _ _]), (3, RV.ptr 3 0), (6, RV.sv false [PV.val _]), (21, RV.sv false [PV.sl _ _]), (22, RV.sv false [PV.val _])]) (b0 := [(3, (92, [PV.sl _ _, PV.sl _ _]))]) (fun k : Nat => k ≤ l.length) (fun k : Nat => [(7, RV.int (workTo x o (l.take k))), (23, RV.int (k : Int))]) (fun k : Nat => []) (fun k : Nat => l.length - k) 0 (by omega) (by exact ⟨rfl, rfl, rfl, rfl, rfl, rfl, ⟨⟩⟩) (by exact ⟨rfl, ⟨⟩⟩) (by exact And.intro (by exact rfl) (And.intro (by exact rfl) (True.intro))) (by exact ⟨⟩) ?_
   rintro k hk
   refine sw_seq ?_
   refine sw_reg ?_
   refine rA ?_ (x := B_lss)
   refine sw_seq ?_
   refine sw_cond (t := 24) rfl (fun hb4 => ?_) (fun hb4 => ?_)
   ·try simp only [q1, q2, q3, q4, q5, q6, q7, q8, q9] at hb4
    have hlt : k < l.length := by omega
    have hwl := workTo_le hx ho (l.take k)
    rw [List.length_take] at hwl
    have hw1 := workOne_le hx ho l[k]
    refine sw_skip ?_
    refine sw_seq ?_
    refine sw_block ?_
    refine sw_seq ?_
    refine sO [(1, _), (2, _), (3, _), (6, _), (7, _), (21, _), (22, _), (23, _)] [(3, (92, [PV.sl _ _, PV.sl _ _]))] ?_
    refine sw_reg ?_
    refine rA ?_ (x := loc_index (by decide) FPrb_sl_93 (by exact ⟨⟩) (by exact rfl) (by exact getm2 (by omega) rfl) (by exact rfl))
    refine rA ?_ (x := lE [PV.val _, PV.sl .v _] FPrb_ty_66)
    refine RunS.step (by exact ⟨⟩) (by exact ⟨⟩) (LocG.of rfl (loc_alloc (by decide) FPrb_z_66 FPrb_zo_66)) (free1 (Free.app (Free.app (Free.of_ rfl) rfl) rfl)) ?_
    refine rA ?_ (x := loc_store (ag := true) (vs := [PV.val _, PV.sl _ _]) FPrb_ty_66 (by exact ⟨⟩) (by exact rfl) (by exact Nat.le_of_ble_eq_true rfl))
    refine sw_seq ?_
    refine sO [(1, _), (2, _), (3, _), (6, _), (7, _), (9, _), (21, _), (22, _), (23, _)] [(3, _), (9, (66, [PV.val _, PV.sl _ _]))] ?_
    refine sw_reg ?_
    refine rA ?_ (x := lD [PV.val _, PV.sl .v _] FPrb_ty_66)
    refine rA ?_ (x := cL [(true, [PV.val _, PV.sl _ _])] [(true, [PV.val _, PV.sl .v _])] FPrb_c_125 (hs := by exact impl_IsRow))
    refine sw_cond (t := 28) rfl (fun hb5 => ?_) (fun hb5 => ?_)
    ·try simp only [q1, q2, q3, q4, q5, q6, q7, q8, q9] at hb5
     have hr : okRow l[k] = true := by simpa using hb5
     have hwo : workOne x o l[k] = (probeAll x l[k] o).2 := if_pos hr
     refine sw_seq ?_
     refine sO [(1, _), (2, _), (3, _), (6, _), (7, _), (9, _), (21, _), (22, _), (23, _)] [(3, _), (9, _)] ?_
     refine sw_reg ?_
     refine rA ?_ (x := lD [PV.sl .v _, PV.sl .v _] FPrb_ty_92)
     refine rA ?_ (x := lD [PV.val _, PV.sl .v _] FPrb_ty_66)
     refine rA ?_ (x := vM false [PV.sl .v _])
     refine rA ?_ (x := cL [(true, [PV.sl _ _, PV.sl _ _]), (true, [PV.val _, PV.sl _ _]), (false, [PV.sl _ _])] [(true, [PV.sl .v _, PV.sl .v _]), (true, [PV.val _, PV.sl .v _]), (false, [PV.sl .v _])] FPrb_c_126 (hs := by exact (impl_probe (x := x) (r := l[k]) (o := o) hx hr ho)))
     refine rA ?_ (x := tM)
     refine rA ?_ (x := loc_extract (cs := [PV.sl _ _]) (qs := [PV.sl .v _]) (by decide) (by exact rfl) (by exact (ToL.cons PV.to_none ToL.nil)) (by exact (BorL.cons (PV.bor_sl _) BorL.nil)))
     refine rA ?_ (x := loc_extractb (cs := [PV.val _]) (by decide) (by exact rfl) (by exact (BorL.cons (PV.bor_val _) BorL.nil)))
     refine rA ?_ (x := tA)
     refine rA ?_ (x := sA)
     refine sO [(1, _), (2, _), (3, _), (6, _), (7, _), (9, _), (10, _), (11, _), (21, _), (22, _), (23, _)] [(3, _), (9, _)] ?_
     refine sw_reg ?_
     refine rA ?_ (x := sM)
     refine rA ?_ (x := sM)
     refine rA ?_ (x := B_add)
     refine rA ?_ (x := sA)
     refine sO [(1, _), (2, _), (3, _), (6, _), (7, _), (9, _), (10, _), (11, _), (21, _), (22, _), (23, _)] [(3, _), (9, _)] ?_
     refine sw_reg ?_
     refine rA ?_ (x := B_add)
     refine rA ?_ (x := sM)
     refine Exists.intro (k + 1) (And.intro (by omega) (And.intro (by omega) (And.intro (And.intro (by exact ⟨rfl, rfl, rfl, rfl, rfl, rfl, ⟨⟩⟩) (by exact ⟨rfl, ⟨⟩⟩)) (And.intro (by exact And.intro (by exact int_eq (by rw [workTo_succ hlt, hwo]; try omega)) (And.intro (by exact rfl) (True.intro))) (by exact ⟨⟩)))))
    ·try simp only [q1, q2, q3, q4, q5, q6, q7, q8, q9] at hb5
     have hr : okRow l[k] = false := by simpa using hb5
     have hwo : workOne x o l[k] = 0 := if_neg (by rw [hr]; simp)
     refine sw_skip ?_
     refine sO [(1, _), (2, _), (3, _), (6, _), (7, _), (9, _), (21, _), (22, _), (23, _)] [(3, _), (9, _)] ?_
     refine sw_reg ?_
     refine rA ?_ (x := B_add)
     refine rA ?_ (x := sM)
     refine Exists.intro (k + 1) (And.intro (by omega) (And.intro (by omega) (And.intro (And.intro (by exact ⟨rfl, rfl, rfl, rfl, rfl, rfl, ⟨⟩⟩) (by exact ⟨rfl, ⟨⟩⟩)) (And.intro (by exact And.intro (by exact int_eq (by rw [workTo_succ hlt, hwo]; try omega)) (And.intro (by exact rfl) (True.intro))) (by exact ⟨⟩)))))
   ·try simp only [q1, q2, q3, q4, q5, q6, q7, q8, q9] at hb4
    have hend : k = l.length := by omega
    refine sw_exit ?_
    refine sw_seq ?_
    refine sO [(1, _), (2, _), (3, _), (6, _), (7, _), (21, _), (22, _), (23, _)] [(3, (92, [PV.sl _ _, PV.sl _ _]))] ?_
    refine sw_reg ?_
    refine rA ?_ (x := sM)
    refine rA ?_ (x := sA)
    refine sw_ret ?_
    exact (And.intro (by refine int_eq ?_; rw [hend, List.take_length]; exact (if_pos hxo).symm) True.intro)
theorem spec_WorkOf {p1 p2 p4 p5 p7 : Fl} {x : Index} {l : List Row} {o : List Int}  (hl : l.length ≤ 1048576) : SCall Tryz.prog 44 [(true, [PV.sl .v (x.Queries.map (cQuery p1 p2)), PV.sl .v (x.Fields.map (cSpanS p4 p5))]), (false, [PV.sl .v (l.map (cRow p7))]), (false, [PV.sl .v (o.map cInt)])] (resRV [(false, [PV.val (vI (workOf x l o))])]) := by
 refine scall_of (rs := [(false, [PV.val (vI (workOf x l o))])]) Tryz.func44 rfl (Nat.le_of_ble_eq_true rfl) (borA_cons (BorL.cons (PV.bor_sl _) (BorL.cons (PV.bor_sl _) BorL.nil)) (borA_cons (BorL.cons (PV.bor_sl _) BorL.nil) (borA_cons (BorL.cons (PV.bor_sl _) BorL.nil) borA_nil))) ?_
 intro h0 w0 Fz0
 refine sw_slen (s := 0) (j := 0) rfl rfl fun hl0_0 => ?_
 try rw [List.length_map] at hl0_0
 refine sw_slen (s := 0) (j := 1) rfl rfl fun hl0_1 => ?_
 try rw [List.length_map] at hl0_1
 refine sw_len (s := 1) rfl fun hl1 => ?_
 try rw [List.length_map] at hl1
 refine sw_len (s := 2) rfl fun hl2 => ?_
 try rw [List.length_map] at hl2
 refine sw_seq ?_
 refine sw_reg ?_
 refine RunS.step (by exact ⟨rfl, ⟨⟩⟩) (by exact ⟨⟩) (LocG.of rfl (loc_box (ag := true) (cs := [PV.sl _ _, PV.sl _ _]) (by decide) (by exact ⟨⟩))) (free1 (Free.of_ rfl)) ?_
 refine rA ?_ (x := kA)
 refine sw_seq ?_
 refine sO [(1, _), (2, _), (3, _), (6, _)] [(3, (92, [PV.sl _ _, PV.sl _ _]))] ?_
 refine sw_reg ?_
 refine rA ?_ (x := kA)
 refine sw_seq ?_
 refine sw_seq ?_
 refine sO [(1, _), (2, _), (3, _), (6, _), (7, _)] [(3, _)] ?_
 refine sw_reg ?_
 refine rA ?_ (x := kA)
 refine sw_block ?_
 refine sO [(1, _), (2, _), (3, _), (6, _), (7, _), (8, _)] [(3, _)] ?_
 refine sw_loop (l0 := [(1, RV.sv false [PV.sl _ _]), (2, RV.sv false [PV.sl _ _]), (3, RV.ptr 3 0), (6, RV.sv false [PV.val _])]) (b0 := [(3, (92, [PV.sl _ _, PV.sl _ _]))]) (fun k : Nat => k ≤ l.length ∧ (0 < k → (okIndex x && okOrder o) = true)) (fun k : Nat => [(7, RV.int (workTo x o (l.take k))), (8, RV.int (k : Int))]) (fun k : Nat => []) (fun k : Nat => l.length - k) 0 (by exact ⟨by omega, fun h => absurd h (Nat.lt_irrefl 0)⟩) (by exact ⟨rfl, rfl, rfl, rfl, ⟨⟩⟩) (by exact ⟨rfl, ⟨⟩⟩) (by exact And.intro (by exact rfl) (And.intro (by exact rfl) (True.intro))) (by exact ⟨⟩) ?_
 rintro k ⟨hk, ha⟩
 refine sw_seq ?_
 refine sw_seq ?_
 refine sw_reg ?_
 refine rA ?_ (x := sM)
 refine rA ?_ (x := vM false [PV.sl .v _])
 refine rA ?_ (x := lN FPrb_sl_93)
 refine rA ?_ (x := B_lss)
 refine rA ?_ (x := sM)
 refine RunS.cases (s := 15) rfl (fun g1 => ?_) (fun g1 => ?_)
 ·have sg1 := g1
  try simp only [q1, q2, q3, q4, q5, q6, q7, q8, q9] at sg1
  refine rB g1 ?_ (x := lD [PV.sl .v _, PV.sl .v _] FPrb_ty_92)
  refine rB g1 ?_ (x := cL [(true, [PV.sl _ _, PV.sl _ _])] [(true, [PV.sl .v _, PV.sl .v _])] FPrb_c_106 (hs := by exact spec_IsIndex))
  refine rA ?_ (x := pkT g1)
  refine rA ?_ (x := sM)
  refine RunS.cases (s := 19) rfl (fun g2 => ?_) (fun g2 => ?_)
  ·have sg2 := g2
   try simp only [q1, q2, q3, q4, q5, q6, q7, q8, q9] at sg2
   refine rB g2 ?_ (x := vM false [PV.sl .v _])
   refine rB g2 ?_ (x := cL [(false, [PV.sl _ _])] [(false, [PV.sl .v _])] FPrb_c_98 (hs := by exact spec_l6Order))
   refine rA ?_ (x := pkT g2)
   refine sw_cond (t := 22) rfl (fun hb3 => ?_) (fun hb3 => ?_)
   ·try simp only [q1, q2, q3, q4, q5, q6, q7, q8, q9] at hb3
    have hxo : (okIndex x && okOrder o) = true := by simp_all
    obtain ⟨hx, ho⟩ := Bool.and_eq_true_iff.1 hxo
    have hlt : k < l.length := (by first | omega | (simp_all; done) | (simp_all; omega))
    have hwl := workTo_le hx ho (l.take k)
    rw [List.length_take] at hwl
    have hw1 := workOne_le hx ho l[k]
    refine sw_skip ?_
    refine sw_seq ?_
    refine sw_block ?_
    refine sw_seq ?_
    refine sO [(1, _), (2, _), (3, _), (6, _), (7, _), (8, _)] [(3, (92, [PV.sl _ _, PV.sl _ _]))] ?_
    refine sw_reg ?_
    refine rA ?_ (x := vM false [PV.sl .v _])
    refine rA ?_ (x := sM)
    refine rA ?_ (x := loc_index (by decide) FPrb_sl_93 (by exact ⟨⟩) (by exact rfl) (by exact getm2 (by omega) rfl) (by exact rfl))
    refine rA ?_ (x := lE [PV.val _, PV.sl .v _] FPrb_ty_66)
    refine rA ?_ (x := cL [(true, [PV.val _, PV.sl _ _])] [(true, [PV.val _, PV.sl .v _])] FPrb_c_107 (hs := by exact spec_IsRow))
    refine sw_cond (t := 29) rfl (fun hb4 => ?_) (fun hb4 => ?_)
    ·try simp only [q1, q2, q3, q4, q5, q6, q7, q8, q9] at hb4
     have hr : okRow l[k] = true := by simpa using hb4
     have hwo : workOne x o l[k] = (probeAll x l[k] o).2 := if_pos hr
     refine sw_seq ?_
     refine sO [(1, _), (2, _), (3, _), (6, _), (7, _), (8, _)] [(3, _)] ?_
     refine sw_split (c := 6) (AI := []) hm_ rfl rfl rfl rfl (by kernel_rfl) (fun j L h => nomatch h) (fun j L h => nomatch h) ?_
     refine Run.stepC 0 (by exact ⟨rfl, ⟨⟩⟩) (by exact ⟨rfl, ⟨⟩⟩) (LocG.of rfl (loc_load (qs := [PV.sl .v _, PV.sl .v _]) (by decide) FPrb_ty_92 (fun h => nomatch h) (by exact Nat.le_of_ble_eq_true rfl) (by exact (ToL.cons PV.to_none (ToL.cons PV.to_none ToL.nil))) (by exact (BorL.cons (PV.bor_sl _) (BorL.cons (PV.bor_sl _) BorL.nil))))) nofree (by kernel_rfl) (by show (List.all _ _) = true; kernel_rfl) ?_
     refine Run.stepC 0 (by exact ⟨rfl, ⟨⟩⟩) (by exact ⟨⟩) (LocG.of rfl (loc_copy (r' := RV.sv false [PV.sl .v _]) (.inl rfl) (by decide) (by exact Cp.sv (ToL.cons PV.to_none ToL.nil) (BorL.cons (PV.bor_sl _) BorL.nil)))) nofree (by kernel_rfl) (by show (List.all _ _) = true; kernel_rfl) ?_
     refine Run.stepC 0 (by exact ⟨rfl, ⟨⟩⟩) (by exact ⟨⟩) (LocG.of rfl (loc_copy (.inl rfl) (by decide) (by exact Cp.sc))) nofree (by kernel_rfl) (by show (List.all _ _) = true; kernel_rfl) ?_
     refine Run.stepC 6 (by exact ⟨rfl, rfl, ⟨⟩⟩) (by exact ⟨⟩) (LocG.of rfl (loc_index (by decide) FPrb_sl_93 (by exact ⟨⟩) (by exact rfl) (by exact getm2 (by omega) rfl) (by exact rfl))) nofree (by kernel_rfl) (by show (List.all _ _) = true; kernel_rfl) ?_
     refine Run.stepC 14 (by exact ⟨rfl, ⟨⟩⟩) (by exact ⟨⟩) (LocG.of rfl (loc_eload (qs := [PV.val _, PV.sl .v _]) (by decide) FPrb_ty_66 (fun h => nomatch h) (by exact Nat.le_of_ble_eq_true rfl) (by exact (ToL.cons (PV.To.refl _) (ToL.cons PV.to_none ToL.nil))) (by exact (BorL.cons (PV.bor_val _) (BorL.cons (PV.bor_sl _) BorL.nil))))) nofree (by kernel_rfl) (by show (List.all _ _) = true; kernel_rfl) ?_
     refine Run.stepC 0 (by exact ⟨rfl, ⟨⟩⟩) (by exact ⟨⟩) (LocG.of rfl (loc_copy (r' := RV.sv false [PV.sl .v _]) (.inl rfl) (by decide) (by exact Cp.sv (ToL.cons PV.to_none ToL.nil) (BorL.cons (PV.bor_sl _) BorL.nil)))) nofree (by kernel_rfl) (by show (List.all _ _) = true; kernel_rfl) ?_
     refine mid_call (G := 2000) (qs := [(true, [PV.sl _ _, PV.sl _ _]), (true, [PV.val _, PV.sl _ _]), (false, [PV.sl _ _])]) (as_ := [(true, [PV.sl .v _, PV.sl .v _]), (true, [PV.val _, PV.sl .v _]), (false, [PV.sl .v _])]) (by decide) FPrb_c_108 (by exact ⟨rfl, rfl, rfl, ⟨⟩⟩) (by exact (And.intro (by exact ⟨⟩) (And.intro (by exact ⟨⟩) (And.intro (by exact ⟨⟩) True.intro)))) (by exact (And.intro (And.intro rfl (ToL.cons PV.to_none (ToL.cons PV.to_none ToL.nil))) (And.intro (And.intro rfl (ToL.cons (PV.To.refl _) (ToL.cons PV.to_none ToL.nil))) (And.intro (And.intro rfl (ToL.cons PV.to_none ToL.nil)) True.intro)))) (by exact (spec_l6Probe (x := x) (r := l[k]) (o := o) hx hr ho)) (by kernel_rfl) (by kernel_rfl) fun uss hU0 => ?_
     obtain ⟨us0, r0, rfl, hl0, hR0, hU1⟩ := RelU.cons hU0
     obtain ⟨u5_0_0, rfl⟩ := us_1 hl0
     obtain ⟨us1, r1, rfl, hl1, hR1, hU2⟩ := RelU.cons hU1
     obtain ⟨u5_1_0, rfl⟩ := us_1 hl1
     obtain rfl := relval hR1 (j := 0) rfl rfl
     obtain rfl := RelU.nil hU2
     clear hR0 hU0 hR1 hU1 hU2
     refine Run.stepC 127 (by exact ⟨rfl, ⟨⟩⟩) (by exact ⟨⟩) (LocG.of rfl (loc_take (.inl rfl) (by decide))) nofree (by kernel_rfl) (by intro L' h; exact nomatch (show (none : Option Step) = some L' from h)) ?_
     refine Run.stepC 255 (by exact ⟨rfl, ⟨⟩⟩) (by exact ⟨⟩) (LocG.of rfl (loc_extractb (cs := [PV.val _]) (by decide) (by exact rfl) (by exact (BorL.cons (PV.bor_val _) BorL.nil)))) nofree (by kernel_rfl) (by intro L' h; exact nomatch (show (none : Option Step) = some L' from h)) ?_
     refine Run.stepC 255 (by exact ⟨rfl, ⟨⟩⟩) (by exact ⟨⟩) (LocG.of rfl (loc_extractb (cs := [PV.val _]) (by decide) (by exact rfl) (by exact (BorL.cons (PV.bor_val _) BorL.nil)))) nofree (by kernel_rfl) (by intro L' h; exact nomatch (show (none : Option Step) = some L' from h)) ?_
     refine Run.stepC 511 (by exact ⟨rfl, ⟨⟩⟩) (by exact ⟨⟩) (LocG.of rfl (loc_copy (.inr rfl) (by decide) (by exact Cp.sc))) nofree (by kernel_rfl) (by intro L' h; exact nomatch (show (none : Option Step) = some L' from h)) ?_
     refine Run.stepC 2047 (by exact ⟨rfl, ⟨⟩⟩) (by exact ⟨⟩) (LocG.of rfl (loc_copy (.inr rfl) (by decide) (by exact Cp.sc))) nofree (by kernel_rfl) (by intro L' h; exact nomatch (show (none : Option Step) = some L' from h)) ?_
     refine sw_backS (s := 9) (G := 2000) (by exact rfl) (by exact (Nm.val Nm.nil)) rfl (by decide) (by exact rfl) ?_
     refine sw_backS (s := 10) (G := 2001) (by exact rfl) (by exact (Nm.val Nm.nil)) rfl (by decide) (by exact rfl) ?_
     refine sO [(1, _), (2, _), (3, _), (6, _), (7, _), (8, _), (9, _), (10, _)] [(3, _)] ?_
     refine sw_reg ?_
     refine rA ?_ (x := sM)
     refine rA ?_ (x := sM)
     refine rA ?_ (x := B_add)
     refine rA ?_ (x := sA)
     refine sO [(1, _), (2, _), (3, _), (6, _), (7, _), (8, _), (9, _), (10, _)] [(3, _)] ?_
     refine sw_reg ?_
     refine rA ?_ (x := sM)
     refine rA ?_ (x := B_add)
     refine rA ?_ (x := sA)
     refine Exists.intro (k + 1) (And.intro (by exact ⟨by omega, fun _ => hxo⟩) (And.intro (by omega) (And.intro (And.intro (by exact ⟨rfl, rfl, rfl, rfl, ⟨⟩⟩) (by exact ⟨rfl, ⟨⟩⟩)) (And.intro (by exact And.intro (by exact int_eq (by rw [workTo_succ hlt, hwo]; try omega)) (And.intro (by exact rfl) (True.intro))) (by exact ⟨⟩)))))
    ·try simp only [q1, q2, q3, q4, q5, q6, q7, q8, q9] at hb4
     have hr : okRow l[k] = false := by simpa using hb4
     have hwo : workOne x o l[k] = 0 := if_neg (by rw [hr]; simp)
     refine sw_skip ?_
     refine sO [(1, _), (2, _), (3, _), (6, _), (7, _), (8, _)] [(3, _)] ?_
     refine sw_reg ?_
     refine rA ?_ (x := sM)
     refine rA ?_ (x := B_add)
     refine rA ?_ (x := sA)
     refine Exists.intro (k + 1) (And.intro (by exact ⟨by omega, fun _ => hxo⟩) (And.intro (by omega) (And.intro (And.intro (by exact ⟨rfl, rfl, rfl, rfl, ⟨⟩⟩) (by exact ⟨rfl, ⟨⟩⟩)) (And.intro (by exact And.intro (by exact int_eq (by rw [workTo_succ hlt, hwo]; try omega)) (And.intro (by exact rfl) (True.intro))) (by exact ⟨⟩)))))
   ·try simp only [q1, q2, q3, q4, q5, q6, q7, q8, q9] at hb3
    have hfin : (k = l.length ∧ (okIndex x && okOrder o) = true) ∨ (k = 0 ∧ (l.length = 0 ∨ (okIndex x && okOrder o) = false)) := by
     by_cases h0k : 0 < k
     ·left
      have h1 := ha h0k
      refine ⟨?_, h1⟩
      by_cases hka : k = l.length
      ·exact hka
      ·exfalso
       have hlt_ : k < l.length := by omega
       have hlt2_ : (k : Int) < (l.length : Int) := by omega
       simp_all
     ·right
      refine ⟨by omega, ?_⟩
      by_cases hka : l.length = 0
      ·exact .inl hka
      ·right
       have hlt_ : k < l.length := by omega
       have hlt2_ : (k : Int) < (l.length : Int) := by omega
       rw [← Bool.not_eq_true]; intro hc_; simp_all
    refine sw_exit ?_
    refine sw_seq ?_
    refine sO [(1, _), (2, _), (3, _), (6, _), (7, _), (8, _)] [(3, (92, [PV.sl _ _, PV.sl _ _]))] ?_
    refine sw_reg ?_
    refine rA ?_ (x := sM)
    refine rA ?_ (x := sA)
    refine sw_ret ?_
    exact (And.intro (by refine int_eq ?_; rw [work_end hfin]) True.intro)
  ·have sg2 := g2
   try simp only [q1, q2, q3, q4, q5, q6, q7, q8, q9] at sg2
   refine RunS.s0f g2 ?_
   refine RunS.s0f g2 ?_
   refine rA ?_ (x := pkF g2)
   refine sw_cond (t := 22) rfl (fun hb_ => nomatch hb_) (fun hb_ => ?_)
   have hfin : (k = l.length ∧ (okIndex x && okOrder o) = true) ∨ (k = 0 ∧ (l.length = 0 ∨ (okIndex x && okOrder o) = false)) := by
    by_cases h0k : 0 < k
    ·left
     have h1 := ha h0k
     refine ⟨?_, h1⟩
     by_cases hka : k = l.length
     ·exact hka
     ·exfalso
      have hlt_ : k < l.length := by omega
      have hlt2_ : (k : Int) < (l.length : Int) := by omega
      simp_all
    ·right
     refine ⟨by omega, ?_⟩
     by_cases hka : l.length = 0
     ·exact .inl hka
     ·right
      have hlt_ : k < l.length := by omega
      have hlt2_ : (k : Int) < (l.length : Int) := by omega
      rw [← Bool.not_eq_true]; intro hc_; simp_all
   refine sw_exit ?_
   refine sw_seq ?_
   refine sO [(1, _), (2, _), (3, _), (6, _), (7, _), (8, _)] [(3, (92, [PV.sl _ _, PV.sl _ _]))] ?_
   refine sw_reg ?_
   refine rA ?_ (x := sM)
   refine rA ?_ (x := sA)
   refine sw_ret ?_
   exact (And.intro (by refine int_eq ?_; rw [work_end hfin]) True.intro)
 ·have sg1 := g1
  try simp only [q1, q2, q3, q4, q5, q6, q7, q8, q9] at sg1
  refine RunS.s0f g1 ?_
  refine RunS.s0f g1 ?_
  refine rA ?_ (x := pkF g1)
  refine rA ?_ (x := sM)
  refine RunS.cases (s := 19) rfl (fun g7 => nomatch g7) (fun g7 => ?_)
  refine RunS.s0f g7 ?_
  refine RunS.s0f g7 ?_
  refine rA ?_ (x := pkF g7)
  refine sw_cond (t := 22) rfl (fun hb_ => nomatch hb_) (fun hb_ => ?_)
  have hfin : (k = l.length ∧ (okIndex x && okOrder o) = true) ∨ (k = 0 ∧ (l.length = 0 ∨ (okIndex x && okOrder o) = false)) := by
   by_cases h0k : 0 < k
   ·left
    have h1 := ha h0k
    refine ⟨?_, h1⟩
    by_cases hka : k = l.length
    ·exact hka
    ·exfalso
     have hlt_ : k < l.length := by omega
     have hlt2_ : (k : Int) < (l.length : Int) := by omega
     simp_all
   ·right
    refine ⟨by omega, ?_⟩
    by_cases hka : l.length = 0
    ·exact .inl hka
    ·right
     have hlt_ : k < l.length := by omega
     have hlt2_ : (k : Int) < (l.length : Int) := by omega
     rw [← Bool.not_eq_true]; intro hc_; simp_all
  refine sw_exit ?_
  refine sw_seq ?_
  refine sO [(1, _), (2, _), (3, _), (6, _), (7, _), (8, _)] [(3, (92, [PV.sl _ _, PV.sl _ _]))] ?_
  refine sw_reg ?_
  refine rA ?_ (x := sM)
  refine rA ?_ (x := sA)
  refine sw_ret ?_
  exact (And.intro (by refine int_eq ?_; rw [work_end hfin]) True.intro)
theorem impl_ProbeWork {p1 p2 p5 p6 p7 p8 p9 p11 p12 p13 p14 p16 p17 p18 : Fl} {e : Engine}  (hb : wtEngine e ≤ 68719476736) : SCall Tryz.prog 12 [(true, [PV.sl .v (e.Store.Segments.map (cVersionS p1 p2)), PV.val (vI e.Store.Now), PV.val (vI e.Cursor), PV.sl .v (e.Order.map cInt), PV.sl .v (e.Active.map (cActive p5 p6 p7 p8 p9)), PV.sl .v (e.Done.map (cFinished p11 p12 p13 p14)), PV.sl .v (e.Ledger.map (cCharge p16 p17 p18)), PV.val (vI e.Steps)])] (resRV [(false, [PV.val (vI (probeWork e))])]) := by
 refine scall_of (rs := [(false, [PV.val (vI (probeWork e))])]) Tryz.func12 rfl (Nat.le_of_ble_eq_true rfl) (borA_cons (BorL.cons (PV.bor_sl _) (BorL.cons (PV.bor_val _) (BorL.cons (PV.bor_val _) (BorL.cons (PV.bor_sl _) (BorL.cons (PV.bor_sl _) (BorL.cons (PV.bor_sl _) (BorL.cons (PV.bor_sl _) (BorL.cons (PV.bor_val _) BorL.nil)))))))) borA_nil) ?_
 intro h0 w0 Fz0
 refine sw_slen (s := 0) (j := 0) rfl rfl fun hl0_0 => ?_
 try rw [List.length_map] at hl0_0
 refine sw_slen (s := 0) (j := 3) rfl rfl fun hl0_3 => ?_
 try rw [List.length_map] at hl0_3
 refine sw_slen (s := 0) (j := 4) rfl rfl fun hl0_4 => ?_
 try rw [List.length_map] at hl0_4
 refine sw_slen (s := 0) (j := 5) rfl rfl fun hl0_5 => ?_
 try rw [List.length_map] at hl0_5
 refine sw_slen (s := 0) (j := 6) rfl rfl fun hl0_6 => ?_
 try rw [List.length_map] at hl0_6
 refine sw_seq ?_
 refine sw_reg ?_
 refine RunS.step (by exact ⟨rfl, ⟨⟩⟩) (by exact ⟨⟩) (LocG.of rfl (loc_box (ag := true) (cs := [PV.sl _ _, PV.val _, PV.val _, PV.sl _ _, PV.sl _ _, PV.sl _ _, PV.sl _ _, PV.val _]) (by decide) (by exact ⟨⟩))) (free1 (Free.of_ rfl)) ?_
 refine rA ?_ (x := kA)
 refine sw_seq ?_
 refine sw_seq ?_
 refine sO [(1, _), (2, _)] [(1, (40, [PV.sl _ _, PV.val _, PV.val _, PV.sl _ _, PV.sl _ _, PV.sl _ _, PV.sl _ _, PV.val _]))] ?_
 refine sw_reg ?_
 refine rA ?_ (x := lD [PV.sl .v _, PV.val _, PV.val _, PV.sl .v _, PV.sl .v _, PV.sl .v _, PV.sl .v _, PV.val _] FPrb_ty_40)
 refine rA ?_ (x := cL [(true, [PV.sl _ _, PV.val _, PV.val _, PV.sl _ _, PV.sl _ _, PV.sl _ _, PV.sl _ _, PV.val _])] [(true, [PV.sl .v _, PV.val _, PV.val _, PV.sl .v _, PV.sl .v _, PV.sl .v _, PV.sl .v _, PV.val _])] FPrb_c_50 (hs := by exact (impl_IsEngine (by omega))))
 refine rA ?_ (x := nT)
 refine sw_cond (t := 7) rfl (fun hb1 => ?_) (fun hb1 => ?_)
 ·try simp only [q1, q2, q3, q4, q5, q6, q7, q8, q9] at hb1
  have hok : okEngine e = false := by simpa using hb1
  refine sw_seq ?_
  refine sO [(1, _), (2, _)] [(1, _)] ?_
  refine sw_reg ?_
  refine rA ?_ (x := kA)
  refine sw_ret ?_
  exact (And.intro (by refine int_eq ?_; unfold probeWork; rw [if_neg (by rw [hok]; simp)]) True.intro)
 ·try simp only [q1, q2, q3, q4, q5, q6, q7, q8, q9] at hb1
  have hok : okEngine e = true := by simpa using hb1
  have hrl := rowsAt_len hok
  refine sw_skip ?_
  refine sw_seq ?_
  refine sO [(1, _), (2, _)] [(1, _)] ?_
  refine sw_reg ?_
  refine rA ?_ (x := lD [PV.sl .v _, PV.val _, PV.val _, PV.sl .v _, PV.sl .v _, PV.sl .v _, PV.sl .v _, PV.val _] FPrb_ty_40)
  refine rA ?_ (x := cL [(true, [PV.sl _ _, PV.val _, PV.val _, PV.sl _ _, PV.sl _ _, PV.sl _ _, PV.sl _ _, PV.val _])] [(true, [PV.sl .v _, PV.val _, PV.val _, PV.sl .v _, PV.sl .v _, PV.sl .v _, PV.sl .v _, PV.val _])] FPrb_c_51 (hs := by exact (impl_probed (by assumption) (by omega))))
  refine rA ?_ (x := tM)
  refine rA ?_ (x := loc_extract (cs := [PV.sl _ _, PV.sl _ _]) (qs := [PV.sl .v _, PV.sl .v _]) (by decide) (by exact rfl) (by exact (ToL.cons PV.to_none (ToL.cons PV.to_none ToL.nil))) (by exact (BorL.cons (PV.bor_sl _) (BorL.cons (PV.bor_sl _) BorL.nil))))
  refine rA ?_ (x := loc_extract (cs := [PV.sl _ _]) (qs := [PV.sl .v _]) (by decide) (by exact rfl) (by exact (ToL.cons PV.to_none ToL.nil)) (by exact (BorL.cons (PV.bor_sl _) BorL.nil)))
  refine RunS.step (by exact ⟨⟩) (by exact ⟨⟩) (LocG.of rfl (loc_alloc (by decide) FPrb_z_92 FPrb_zo_92)) (free1 (Free.app (Free.app (Free.app (Free.app (Free.app (Free.of_ rfl) rfl) rfl) rfl) rfl) rfl)) ?_
  refine rA ?_ (x := loc_store (ag := true) (vs := [PV.sl _ _, PV.sl _ _]) FPrb_ty_92 (by exact ⟨⟩) (by exact rfl) (by exact Nat.le_of_ble_eq_true rfl))
  refine rA ?_ (x := tA)
  refine sw_seq ?_
  refine sO [(1, _), (2, _), (3, _), (4, _)] [(1, _), (3, (92, [PV.sl _ _, PV.sl _ _]))] ?_
  refine sw_reg ?_
  refine rA ?_ (x := lD [PV.sl .v _, PV.sl .v _] FPrb_ty_92)
  refine rA ?_ (x := vM false [PV.sl .v _])
  refine rA ?_ (x := lF FPrb_fd_40_2)
  refine rA ?_ (x := lD [PV.sl .v _] FPrb_ty_25)
  refine rA ?_ (x := cL [(true, [PV.sl _ _, PV.sl _ _]), (false, [PV.sl _ _]), (false, [PV.sl _ _])] [(true, [PV.sl .v _, PV.sl .v _]), (false, [PV.sl .v _]), (false, [PV.sl .v _])] FPrb_c_52 (hs := by exact (impl_WorkOf (by omega))))
  refine rA ?_ (x := sA)
  refine sw_ret ?_
  exact (And.intro (by refine int_eq ?_; unfold probeWork; rw [if_pos hok]) True.intro)
theorem spec_ProbeWork {p1 p2 p5 p6 p7 p8 p9 p11 p12 p13 p14 p16 p17 p18 : Fl} {e : Engine}  (hb : wtEngine e ≤ 68719476736) : SCall Tryz.prog 10 [(true, [PV.sl .v (e.Store.Segments.map (cVersionS p1 p2)), PV.val (vI e.Store.Now), PV.val (vI e.Cursor), PV.sl .v (e.Order.map cInt), PV.sl .v (e.Active.map (cActive p5 p6 p7 p8 p9)), PV.sl .v (e.Done.map (cFinished p11 p12 p13 p14)), PV.sl .v (e.Ledger.map (cCharge p16 p17 p18)), PV.val (vI e.Steps)])] (resRV [(false, [PV.val (vI (probeWork e))])]) := by
 refine scall_of (rs := [(false, [PV.val (vI (probeWork e))])]) Tryz.func10 rfl (Nat.le_of_ble_eq_true rfl) (borA_cons (BorL.cons (PV.bor_sl _) (BorL.cons (PV.bor_val _) (BorL.cons (PV.bor_val _) (BorL.cons (PV.bor_sl _) (BorL.cons (PV.bor_sl _) (BorL.cons (PV.bor_sl _) (BorL.cons (PV.bor_sl _) (BorL.cons (PV.bor_val _) BorL.nil)))))))) borA_nil) ?_
 intro h0 w0 Fz0
 refine sw_slen (s := 0) (j := 0) rfl rfl fun hl0_0 => ?_
 try rw [List.length_map] at hl0_0
 refine sw_slen (s := 0) (j := 3) rfl rfl fun hl0_3 => ?_
 try rw [List.length_map] at hl0_3
 refine sw_slen (s := 0) (j := 4) rfl rfl fun hl0_4 => ?_
 try rw [List.length_map] at hl0_4
 refine sw_slen (s := 0) (j := 5) rfl rfl fun hl0_5 => ?_
 try rw [List.length_map] at hl0_5
 refine sw_slen (s := 0) (j := 6) rfl rfl fun hl0_6 => ?_
 try rw [List.length_map] at hl0_6
 refine sw_seq ?_
 refine sw_reg ?_
 refine RunS.step (by exact ⟨rfl, ⟨⟩⟩) (by exact ⟨⟩) (LocG.of rfl (loc_box (ag := true) (cs := [PV.sl _ _, PV.val _, PV.val _, PV.sl _ _, PV.sl _ _, PV.sl _ _, PV.sl _ _, PV.val _]) (by decide) (by exact ⟨⟩))) (free1 (Free.of_ rfl)) ?_
 refine rA ?_ (x := kA)
 refine sw_seq ?_
 refine sw_seq ?_
 refine sO [(1, _), (2, _)] [(1, (40, [PV.sl _ _, PV.val _, PV.val _, PV.sl _ _, PV.sl _ _, PV.sl _ _, PV.sl _ _, PV.val _]))] ?_
 refine sw_reg ?_
 refine rA ?_ (x := lD [PV.sl .v _, PV.val _, PV.val _, PV.sl .v _, PV.sl .v _, PV.sl .v _, PV.sl .v _, PV.val _] FPrb_ty_40)
 refine rA ?_ (x := cL [(true, [PV.sl _ _, PV.val _, PV.val _, PV.sl _ _, PV.sl _ _, PV.sl _ _, PV.sl _ _, PV.val _])] [(true, [PV.sl .v _, PV.val _, PV.val _, PV.sl .v _, PV.sl .v _, PV.sl .v _, PV.sl .v _, PV.val _])] FPrb_c_42 (hs := by exact (spec_IsEngine (by omega))))
 refine rA ?_ (x := nT)
 refine sw_cond (t := 7) rfl (fun hb1 => ?_) (fun hb1 => ?_)
 ·try simp only [q1, q2, q3, q4, q5, q6, q7, q8, q9] at hb1
  have hok : okEngine e = false := by simpa using hb1
  refine sw_seq ?_
  refine sO [(1, _), (2, _)] [(1, _)] ?_
  refine sw_reg ?_
  refine rA ?_ (x := kA)
  refine sw_ret ?_
  exact (And.intro (by refine int_eq ?_; unfold probeWork; rw [if_neg (by rw [hok]; simp)]) True.intro)
 ·try simp only [q1, q2, q3, q4, q5, q6, q7, q8, q9] at hb1
  have hok : okEngine e = true := by simpa using hb1
  have hrl := rowsAt_len hok
  refine sw_skip ?_
  refine sw_seq ?_
  refine sO [(1, _), (2, _)] [(1, _)] ?_
  refine sw_reg ?_
  refine rA ?_ (x := lD [PV.sl .v _, PV.val _, PV.val _, PV.sl .v _, PV.sl .v _, PV.sl .v _, PV.sl .v _, PV.val _] FPrb_ty_40)
  refine rA ?_ (x := cL [(true, [PV.sl _ _, PV.val _, PV.val _, PV.sl _ _, PV.sl _ _, PV.sl _ _, PV.sl _ _, PV.val _])] [(true, [PV.sl .v _, PV.val _, PV.val _, PV.sl .v _, PV.sl .v _, PV.sl .v _, PV.sl .v _, PV.val _])] FPrb_c_43 (hs := by exact (spec_l19Now (by assumption) (by omega))))
  refine rA ?_ (x := tM)
  refine rA ?_ (x := loc_extract (cs := [PV.sl _ _, PV.sl _ _]) (qs := [PV.sl .v _, PV.sl .v _]) (by decide) (by exact rfl) (by exact (ToL.cons PV.to_none (ToL.cons PV.to_none ToL.nil))) (by exact (BorL.cons (PV.bor_sl _) (BorL.cons (PV.bor_sl _) BorL.nil))))
  refine rA ?_ (x := loc_extract (cs := [PV.sl _ _]) (qs := [PV.sl .v _]) (by decide) (by exact rfl) (by exact (ToL.cons PV.to_none ToL.nil)) (by exact (BorL.cons (PV.bor_sl _) BorL.nil)))
  refine RunS.step (by exact ⟨⟩) (by exact ⟨⟩) (LocG.of rfl (loc_alloc (by decide) FPrb_z_92 FPrb_zo_92)) (free1 (Free.app (Free.app (Free.app (Free.app (Free.app (Free.of_ rfl) rfl) rfl) rfl) rfl) rfl)) ?_
  refine rA ?_ (x := loc_store (ag := true) (vs := [PV.sl _ _, PV.sl _ _]) FPrb_ty_92 (by exact ⟨⟩) (by exact rfl) (by exact Nat.le_of_ble_eq_true rfl))
  refine rA ?_ (x := tA)
  refine sw_seq ?_
  refine sO [(1, _), (2, _), (3, _), (4, _)] [(1, _), (3, (92, [PV.sl _ _, PV.sl _ _]))] ?_
  refine sw_reg ?_
  refine rA ?_ (x := lD [PV.sl .v _, PV.sl .v _] FPrb_ty_92)
  refine rA ?_ (x := vM false [PV.sl .v _])
  refine rA ?_ (x := lF FPrb_fd_40_2)
  refine rA ?_ (x := lD [PV.sl .v _] FPrb_ty_25)
  refine rA ?_ (x := cL [(true, [PV.sl _ _, PV.sl _ _]), (false, [PV.sl _ _]), (false, [PV.sl _ _])] [(true, [PV.sl .v _, PV.sl .v _]), (false, [PV.sl .v _]), (false, [PV.sl .v _])] FPrb_c_44 (hs := by exact (spec_WorkOf (by omega))))
  refine rA ?_ (x := sA)
  refine sw_ret ?_
  exact (And.intro (by refine int_eq ?_; unfold probeWork; rw [if_pos hok]) True.intro)
end Go.Proofs.YteflgldonmgejaaGreat
