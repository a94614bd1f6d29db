/- What functions of the program compute. No condition. -/
import Derived.Test.YteflgldonmgejaaGreatDoorCProgActiveLines
import Derived.Test.YteflgldonmgejaaGreatDoorCDs7
import Derived.KernelRfl
set_option linter.unusedVariables false
set_option linter.unusedSimpArgs false
namespace Go.Proofs.YteflgldonmgejaaGreatDoor
open Go Go.RowKit M
set_option maxRecDepth 10000
attribute [local irreducible] PV.Lcl PV.LclR RV.Lcl
theorem FSto_c_149 : callI Tryz.prog 149 = true := by kernel_rfl
theorem FSto_c_150 : callI Tryz.prog 150 = true := by kernel_rfl
theorem FSto_c_155 : callI Tryz.prog 155 = true := by kernel_rfl
theorem FSto_c_160 : callI Tryz.prog 160 = true := by kernel_rfl
theorem FSto_c_161 : callI Tryz.prog 161 = true := by kernel_rfl
theorem FSto_c_162 : callI Tryz.prog 162 = true := by kernel_rfl
theorem FSto_c_207 : callI Tryz.prog 207 = true := by kernel_rfl
theorem FSto_c_226 : callI Tryz.prog 226 = true := by kernel_rfl
theorem FSto_c_80 : callI Tryz.prog 80 = true := by kernel_rfl
theorem FSto_c_86 : callI Tryz.prog 86 = true := by kernel_rfl
theorem FSto_c_92 : callI Tryz.prog 92 = true := by kernel_rfl
theorem FSto_fd_195_0 : fieldI Tryz.prog 195 0 = some 0 := by kernel_rfl
theorem FSto_fd_195_1 : fieldI Tryz.prog 195 1 = some 1 := by kernel_rfl
theorem FSto_fd_195_2 : fieldI Tryz.prog 195 2 = some 2 := by kernel_rfl
theorem FSto_fd_195_3 : fieldI Tryz.prog 195 3 = some 3 := by kernel_rfl
theorem FSto_fd_35_0 : fieldI Tryz.prog 35 0 = some 0 := by kernel_rfl
theorem FSto_fd_35_1 : fieldI Tryz.prog 35 1 = some 1 := by kernel_rfl
theorem FSto_pl_53 : placesI Tryz.prog 53 = some [(0, 1), (1, 1)] := by kernel_rfl
theorem FSto_sl_138 : sliceI Tryz.prog 138 = some (195, 4, 48) := by kernel_rfl
theorem FSto_sl_33 : sliceI Tryz.prog 33 = some (138, 1, 24) := by kernel_rfl
theorem FSto_ty_138 : tyI Tryz.prog 138 = some (false, 1) := by kernel_rfl
theorem FSto_ty_195 : tyI Tryz.prog 195 = some (true, 4) := by kernel_rfl
theorem FSto_ty_25 : tyI Tryz.prog 25 = some (false, 1) := by kernel_rfl
theorem FSto_ty_3 : tyI Tryz.prog 3 = some (false, 1) := by kernel_rfl
theorem FSto_ty_33 : tyI Tryz.prog 33 = some (false, 1) := by kernel_rfl
theorem FSto_ty_35 : tyI Tryz.prog 35 = some (true, 2) := by kernel_rfl
theorem FSto_ty_53 : tyI Tryz.prog 53 = some (true, 2) := by kernel_rfl
theorem FSto_z_195 : zeroI Tryz.prog 195 = some (.agg #[.int .i64 0, .slice none 0 0, .int .i64 0, .int .i64 0]) := by kernel_rfl
theorem FSto_z_53 : zeroI Tryz.prog 53 = some (.agg #[.int .i64 0, .slice none 0 0]) := by kernel_rfl
theorem FSto_zo_195 {Fz : FzT} {w : World} : OwnL [PV.val (.int .i64 0), PV.sl (.own 3 1) [], PV.val (.int .i64 0), PV.val (.int .i64 0)] Fz w (Value.cells (.agg #[.int .i64 0, .slice none 0 0, .int .i64 0, .int .i64 0])).toList [] := zo_val rfl (zo_sl (zo_val rfl (zo_val rfl (zo_nil))))
theorem FSto_zo_53 {Fz : FzT} {w : World} : OwnL [PV.val (.int .i64 0), PV.sl (.own 3 1) []] Fz w (Value.cells (.agg #[.int .i64 0, .slice none 0 0])).toList [] := zo_val rfl (zo_sl (zo_nil))
theorem impl_IsVisible {v : Version} {t : Int}  : SCall Tryz.prog 226 [(true, [PV.val (vI v.Id), PV.sl .v (v.Values.map cInt), PV.val (vI v.Born), PV.val (vI v.Died)]), (false, [PV.val (vI t)])] (resRV [(false, [PV.val (.bool (visV v t))])]) := by
 refine scall_of (rs := [(false, [PV.val (.bool (visV v t))])]) Tryz.func226 rfl (Nat.le_of_ble_eq_true rfl) (borA_cons (BorL.cons (PV.bor_val _) (BorL.cons (PV.bor_sl _) (BorL.cons (PV.bor_val _) (BorL.cons (PV.bor_val _) BorL.nil)))) (borA_cons (BorL.cons (PV.bor_val _) BorL.nil) borA_nil)) ?_
 intro h0 w0 Fz0
 refine sw_slen (s := 0) (j := 1) rfl rfl fun hl0_1 => ?_
 try rw [List.length_map] at hl0_1
 refine sw_seq ?_
 refine sw_reg ?_
 refine RunS.step (by exact ⟨rfl, ⟨⟩⟩) (by exact ⟨⟩) (LocG.of rfl (loc_box (ag := true) (cs := [PV.val _, PV.sl _ _, PV.val _, PV.val _]) (by decide) (by exact ⟨⟩))) (free1 (Free.of_ rfl)) ?_
 refine rA ?_ (x := kA)
 refine sw_seq ?_
 refine sO [(1, _), (2, _), (4, _)] [(2, (195, [PV.val _, PV.sl _ _, PV.val _, PV.val _]))] ?_
 refine sw_reg ?_
 refine rA ?_ (x := lF FSto_fd_195_2)
 refine rA ?_ (x := lD [PV.val _] FSto_ty_3)
 refine rA ?_ (x := sM)
 refine rA ?_ (x := B_leq)
 refine rA ?_ (x := sM)
 refine RunS.cases (s := 9) rfl (fun g1 => ?_) (fun g1 => ?_)
 ·have sg1 := g1
  try simp only [q1, q2, q3, q4, q5, q6, q7, q8, q9] at sg1
  refine rB g1 ?_ (x := lF FSto_fd_195_3)
  refine rB g1 ?_ (x := lD [PV.val _] FSto_ty_3)
  refine rB g1 ?_ (x := B_eql)
  refine rB g1 ?_ (x := sM)
  refine RunS.cases (s := 13) rfl (fun g2 => ?_) (fun g2 => ?_)
  ·have sg2 := g2
   try simp only [q1, q2, q3, q4, q5, q6, q7, q8, q9] at sg2
   refine RunS.s0t g2 ?_
   refine RunS.s0t g2 ?_
   refine RunS.s0t g2 ?_
   refine RunS.s0t g2 ?_
   refine rB g1 ?_ (x := pkT g2)
   refine rA ?_ (x := pkT g1)
   refine rA ?_ (x := sA)
   refine sw_ret ?_
   exact (And.intro (by refine bool_eq ?_; first | (simp_all [visV]; done) | (simp_all [visV]; rfl) | (simp_all [visV]; omega) | (simp_all [visV]; intros; omega)) True.intro)
  ·have sg2 := g2
   try simp only [q1, q2, q3, q4, q5, q6, q7, q8, q9] at sg2
   refine rB g2 ?_ (x := lF FSto_fd_195_3)
   refine rB g2 ?_ (x := lD [PV.val _] FSto_ty_3)
   refine rB g2 ?_ (x := sM)
   refine rB g2 ?_ (x := B_gtr)
   refine rB g1 ?_ (x := pkF g2)
   refine rA ?_ (x := pkT g1)
   refine rA ?_ (x := sA)
   refine sw_ret ?_
   exact (And.intro (by refine bool_eq ?_; first | (simp_all [visV]; done) | (simp_all [visV]; rfl) | (simp_all [visV]; omega) | (simp_all [visV]; intros; omega)) True.intro)
 ·have sg1 := g1
  try simp only [q1, q2, q3, q4, q5, q6, q7, q8, q9] at sg1
  refine RunS.s0f g1 ?_
  refine RunS.s0f g1 ?_
  refine RunS.s0f g1 ?_
  refine RunS.s0f g1 ?_
  refine RunS.su ?_
  refine RunS.su ?_
  refine RunS.su ?_
  refine RunS.su ?_
  refine RunS.s0f g1 ?_
  refine rA ?_ (x := pkF g1)
  refine rA ?_ (x := sA)
  refine sw_ret ?_
  exact (And.intro (by refine bool_eq ?_; first | (simp_all [visV]; done) | (simp_all [visV]; rfl) | (simp_all [visV]; omega) | (simp_all [visV]; intros; omega)) True.intro)
theorem impl_rowOf {v : Version}  (hb : wtVersion v ≤ 68719476736) : SCall Tryz.prog 161 [(true, [PV.val (vI v.Id), PV.sl .v (v.Values.map cInt), PV.val (vI v.Born), PV.val (vI v.Died)])] (resRV [(true, [PV.val (vI (rowOfV v).Id), PV.sl (.own 3 1) ((rowOfV v).Values.map cInt)])]) := by
 refine scall_of (rs := [(true, [PV.val (vI (rowOfV v).Id), PV.sl (.own 3 1) ((rowOfV v).Values.map cInt)])]) Tryz.func161 rfl (Nat.le_of_ble_eq_true rfl) (borA_cons (BorL.cons (PV.bor_val _) (BorL.cons (PV.bor_sl _) (BorL.cons (PV.bor_val _) (BorL.cons (PV.bor_val _) BorL.nil)))) borA_nil) ?_
 intro h0 w0 Fz0
 refine sw_slen (s := 0) (j := 1) rfl rfl fun hl0_1 => ?_
 try rw [List.length_map] at hl0_1
 have hbu := hb
 simp only [wtVersion, wtIntS_len, wtInt] at hbu
 refine sw_seq ?_
 refine sw_reg ?_
 refine RunS.step (by exact ⟨rfl, ⟨⟩⟩) (by exact ⟨⟩) (LocG.of rfl (loc_box (ag := true) (cs := [PV.val _, PV.sl _ _, PV.val _, PV.val _]) (by decide) (by exact ⟨⟩))) (free1 (Free.of_ rfl)) ?_
 refine RunS.step (by exact ⟨⟩) (by exact ⟨⟩) (LocG.of rfl (loc_alloc (by decide) FSto_z_53 FSto_zo_53)) (free1 (Free.app (Free.of_ rfl) rfl)) ?_
 refine sw_seq ?_
 refine sO [(1, _), (2, _)] [(1, (195, [PV.val _, PV.sl _ _, PV.val _, PV.val _])), (2, (53, [PV.val _, PV.sl _ _]))] ?_
 refine sw_draw hm_ ?_
 refine dA 0 ?_ (x := lF FSto_fd_195_0)
 refine dA 1 ?_ (x := lD [PV.val _] FSto_ty_3)
 refine dA 0 ?_ (x := lF FSto_fd_195_1)
 refine dA 4 ?_ (x := lD [PV.sl .v _] FSto_ty_25)
 refine dA 12 ?_ (x := cL [(false, [PV.sl _ _])] [(false, [PV.sl .v _])] FSto_c_207 (hs := by exact impl_copyInts (by omega)))
 refine dA 31 ?_ (x := loc_build (qs := [(false, [PV.val _]), (false, [PV.sl _ _])]) (cs := [PV.val _, PV.sl _ _]) (by decide) FSto_z_53 FSto_zo_53 FSto_pl_53 (by exact rfl) (by exact (And.intro (by exact ⟨⟩) (And.intro (by exact ⟨⟩) True.intro))) rfl (by exact rfl))
 refine dA 63 ?_ (x := loc_store (ag := true) (vs := [PV.val _, PV.sl _ _]) FSto_ty_53 (by exact ⟨⟩) (by exact rfl) (by exact Nat.le_of_ble_eq_true rfl))
 refine sw_ret ?_
 exact (Exists.intro 2 (Exists.intro _ (And.intro (by exact rfl) (And.intro (by exact rfl) (And.intro FSto_ty_53 (And.intro (fun h => nomatch h) True.intro))))))
theorem impl_meetInTime {v : Version} {w : Version}  : SCall Tryz.prog 162 [(true, [PV.val (vI v.Id), PV.sl .v (v.Values.map cInt), PV.val (vI v.Born), PV.val (vI v.Died)]), (true, [PV.val (vI w.Id), PV.sl .v (w.Values.map cInt), PV.val (vI w.Born), PV.val (vI w.Died)])] (resRV [(false, [PV.val (.bool (meetV v w))])]) := by
 refine scall_of (rs := [(false, [PV.val (.bool (meetV v w))])]) Tryz.func162 rfl (Nat.le_of_ble_eq_true rfl) (borA_cons (BorL.cons (PV.bor_val _) (BorL.cons (PV.bor_sl _) (BorL.cons (PV.bor_val _) (BorL.cons (PV.bor_val _) BorL.nil)))) (borA_cons (BorL.cons (PV.bor_val _) (BorL.cons (PV.bor_sl _) (BorL.cons (PV.bor_val _) (BorL.cons (PV.bor_val _) BorL.nil)))) borA_nil)) ?_
 intro h0 w0 Fz0
 refine sw_slen (s := 0) (j := 1) rfl rfl fun hl0_1 => ?_
 try rw [List.length_map] at hl0_1
 refine sw_slen (s := 1) (j := 1) rfl rfl fun hl1_1 => ?_
 try rw [List.length_map] at hl1_1
 refine sw_seq ?_
 refine sw_reg ?_
 refine RunS.step (by exact ⟨rfl, ⟨⟩⟩) (by exact ⟨⟩) (LocG.of rfl (loc_box (ag := true) (cs := [PV.val _, PV.sl _ _, PV.val _, PV.val _]) (by decide) (by exact ⟨⟩))) (free1 (Free.of_ rfl)) ?_
 refine RunS.step (by exact ⟨rfl, ⟨⟩⟩) (by exact ⟨⟩) (LocG.of rfl (loc_box (ag := true) (cs := [PV.val _, PV.sl _ _, PV.val _, PV.val _]) (by decide) (by exact ⟨⟩))) (free1 (Free.app (Free.of_ rfl) rfl)) ?_
 refine rA ?_ (x := kA)
 refine sw_seq ?_
 refine sO [(2, _), (3, _), (4, _)] [(2, (195, [PV.val _, PV.sl _ _, PV.val _, PV.val _])), (3, (195, [PV.val _, PV.sl _ _, PV.val _, PV.val _]))] ?_
 refine sw_reg ?_
 refine rA ?_ (x := lD [PV.val _, PV.sl .v _, PV.val _, PV.val _] FSto_ty_195)
 refine rA ?_ (x := lF FSto_fd_195_2)
 refine rA ?_ (x := lD [PV.val _] FSto_ty_3)
 refine rA ?_ (x := cL [(true, [PV.val _, PV.sl _ _, PV.val _, PV.val _]), (false, [PV.val _])] [(true, [PV.val _, PV.sl .v _, PV.val _, PV.val _]), (false, [PV.val _])] FSto_c_226 (hs := by exact impl_IsVisible))
 refine rA ?_ (x := sM)
 refine RunS.cases (s := 9) rfl (fun g1 => ?_) (fun g1 => ?_)
 ·have sg1 := g1
  try simp only [q1, q2, q3, q4, q5, q6, q7, q8, q9] at sg1
  refine RunS.s0t g1 ?_
  refine RunS.s0t g1 ?_
  refine RunS.s0t g1 ?_
  refine RunS.s0t g1 ?_
  refine rA ?_ (x := pkT g1)
  refine rA ?_ (x := sA)
  refine sw_ret ?_
  exact (And.intro (by refine bool_eq ?_; first | (simp_all [meetV]; done) | (simp_all [meetV]; rfl) | (simp_all [meetV]; omega) | (simp_all [meetV]; intros; omega)) True.intro)
 ·have sg1 := g1
  try simp only [q1, q2, q3, q4, q5, q6, q7, q8, q9] at sg1
  refine rB g1 ?_ (x := lD [PV.val _, PV.sl .v _, PV.val _, PV.val _] FSto_ty_195)
  refine rB g1 ?_ (x := lF FSto_fd_195_2)
  refine rB g1 ?_ (x := lD [PV.val _] FSto_ty_3)
  refine rB g1 ?_ (x := cL [(true, [PV.val _, PV.sl _ _, PV.val _, PV.val _]), (false, [PV.val _])] [(true, [PV.val _, PV.sl .v _, PV.val _, PV.val _]), (false, [PV.val _])] FSto_c_226 (hs := by exact impl_IsVisible))
  refine rA ?_ (x := pkF g1)
  refine rA ?_ (x := sA)
  refine sw_ret ?_
  exact (And.intro (by refine bool_eq ?_; first | (simp_all [meetV]; done) | (simp_all [meetV]; rfl) | (simp_all [meetV]; omega) | (simp_all [meetV]; intros; omega)) True.intro)
theorem spec_l7Apart {a : Version} {b : Version}  : SCall Tryz.prog 150 [(true, [PV.val (vI a.Id), PV.sl .v (a.Values.map cInt), PV.val (vI a.Born), PV.val (vI a.Died)]), (true, [PV.val (vI b.Id), PV.sl .v (b.Values.map cInt), PV.val (vI b.Born), PV.val (vI b.Died)])] (resRV [(false, [PV.val (.bool (apartV a b))])]) := by
 refine scall_of (rs := [(false, [PV.val (.bool (apartV a b))])]) Tryz.func150 rfl (Nat.le_of_ble_eq_true rfl) (borA_cons (BorL.cons (PV.bor_val _) (BorL.cons (PV.bor_sl _) (BorL.cons (PV.bor_val _) (BorL.cons (PV.bor_val _) BorL.nil)))) (borA_cons (BorL.cons (PV.bor_val _) (BorL.cons (PV.bor_sl _) (BorL.cons (PV.bor_val _) (BorL.cons (PV.bor_val _) BorL.nil)))) borA_nil)) ?_
 intro h0 w0 Fz0
 refine sw_slen (s := 0) (j := 1) rfl rfl fun hl0_1 => ?_
 try rw [List.length_map] at hl0_1
 refine sw_slen (s := 1) (j := 1) rfl rfl fun hl1_1 => ?_
 try rw [List.length_map] at hl1_1
 refine sw_seq ?_
 refine sw_reg ?_
 refine RunS.step (by exact ⟨rfl, ⟨⟩⟩) (by exact ⟨⟩) (LocG.of rfl (loc_box (ag := true) (cs := [PV.val _, PV.sl _ _, PV.val _, PV.val _]) (by decide) (by exact ⟨⟩))) (free1 (Free.of_ rfl)) ?_
 refine RunS.step (by exact ⟨rfl, ⟨⟩⟩) (by exact ⟨⟩) (LocG.of rfl (loc_box (ag := true) (cs := [PV.val _, PV.sl _ _, PV.val _, PV.val _]) (by decide) (by exact ⟨⟩))) (free1 (Free.app (Free.of_ rfl) rfl)) ?_
 refine rA ?_ (x := kA)
 refine sw_seq ?_
 refine sO [(2, _), (3, _), (4, _)] [(2, (195, [PV.val _, PV.sl _ _, PV.val _, PV.val _])), (3, (195, [PV.val _, PV.sl _ _, PV.val _, PV.val _]))] ?_
 refine sw_reg ?_
 refine rA ?_ (x := lF FSto_fd_195_0)
 refine rA ?_ (x := lD [PV.val _] FSto_ty_3)
 refine rA ?_ (x := lF FSto_fd_195_0)
 refine rA ?_ (x := lD [PV.val _] FSto_ty_3)
 refine rA ?_ (x := B_neq)
 refine rA ?_ (x := sM)
 refine RunS.cases (s := 10) rfl (fun g1 => ?_) (fun g1 => ?_)
 ·have sg1 := g1
  try simp only [q1, q2, q3, q4, q5, q6, q7, q8, q9] at sg1
  refine RunS.s0t g1 ?_
  refine RunS.s0t g1 ?_
  refine RunS.s0t g1 ?_
  refine RunS.s0t g1 ?_
  refine RunS.su ?_
  refine RunS.su ?_
  refine RunS.su ?_
  refine RunS.su ?_
  refine RunS.su ?_
  refine RunS.s0t g1 ?_
  refine rA ?_ (x := pkT g1)
  refine rA ?_ (x := sM)
  refine RunS.cases (s := 22) rfl (fun g2 => ?_) (fun g2 => nomatch g2)
  refine RunS.s0t g2 ?_
  refine RunS.s0t g2 ?_
  refine RunS.s0t g2 ?_
  refine RunS.s0t g2 ?_
  refine RunS.su ?_
  refine RunS.su ?_
  refine RunS.su ?_
  refine RunS.su ?_
  refine RunS.su ?_
  refine RunS.s0t g2 ?_
  refine rA ?_ (x := pkT g2)
  refine rA ?_ (x := sA)
  refine sw_ret ?_
  exact (And.intro (by refine bool_eq ?_; first | (simp_all [apartV]; done) | (simp_all [apartV]; omega) | (rw [Bool.eq_iff_iff]; simp_all [apartV]; done) | (rw [Bool.eq_iff_iff]; simp_all [apartV]; omega)) True.intro)
 ·have sg1 := g1
  try simp only [q1, q2, q3, q4, q5, q6, q7, q8, q9] at sg1
  refine rB g1 ?_ (x := lF FSto_fd_195_3)
  refine rB g1 ?_ (x := lD [PV.val _] FSto_ty_3)
  refine rB g1 ?_ (x := B_neq)
  refine rB g1 ?_ (x := sM)
  refine RunS.cases (s := 14) rfl (fun g3 => ?_) (fun g3 => ?_)
  ·have sg3 := g3
   try simp only [q1, q2, q3, q4, q5, q6, q7, q8, q9] at sg3
   refine rB g3 ?_ (x := lF FSto_fd_195_3)
   refine rB g3 ?_ (x := lD [PV.val _] FSto_ty_3)
   refine rB g3 ?_ (x := lF FSto_fd_195_2)
   refine rB g3 ?_ (x := lD [PV.val _] FSto_ty_3)
   refine rB g3 ?_ (x := B_leq)
   refine rB g1 ?_ (x := pkT g3)
   refine rA ?_ (x := pkF g1)
   refine rA ?_ (x := sM)
   refine RunS.cases (s := 22) rfl (fun g4 => ?_) (fun g4 => ?_)
   ·have sg4 := g4
    try simp only [q1, q2, q3, q4, q5, q6, q7, q8, q9] at sg4
    refine RunS.s0t g4 ?_
    refine RunS.s0t g4 ?_
    refine RunS.s0t g4 ?_
    refine RunS.s0t g4 ?_
    refine RunS.su ?_
    refine RunS.su ?_
    refine RunS.su ?_
    refine RunS.su ?_
    refine RunS.su ?_
    refine RunS.s0t g4 ?_
    refine rA ?_ (x := pkT g4)
    refine rA ?_ (x := sA)
    refine sw_ret ?_
    exact (And.intro (by refine bool_eq ?_; first | (simp_all [apartV]; done) | (simp_all [apartV]; omega) | (rw [Bool.eq_iff_iff]; simp_all [apartV]; done) | (rw [Bool.eq_iff_iff]; simp_all [apartV]; omega)) True.intro)
   ·have sg4 := g4
    try simp only [q1, q2, q3, q4, q5, q6, q7, q8, q9] at sg4
    refine rB g4 ?_ (x := lF FSto_fd_195_3)
    refine rB g4 ?_ (x := lD [PV.val _] FSto_ty_3)
    refine rB g4 ?_ (x := B_neq)
    refine rB g4 ?_ (x := sM)
    refine RunS.cases (s := 26) rfl (fun g5 => ?_) (fun g5 => ?_)
    ·have sg5 := g5
     try simp only [q1, q2, q3, q4, q5, q6, q7, q8, q9] at sg5
     refine rB g5 ?_ (x := lF FSto_fd_195_3)
     refine rB g5 ?_ (x := lD [PV.val _] FSto_ty_3)
     refine rB g5 ?_ (x := lF FSto_fd_195_2)
     refine rB g5 ?_ (x := lD [PV.val _] FSto_ty_3)
     refine rB g5 ?_ (x := B_leq)
     refine rB g4 ?_ (x := pkT g5)
     refine rA ?_ (x := pkF g4)
     refine rA ?_ (x := sA)
     refine sw_ret ?_
     exact (And.intro (by refine bool_eq ?_; first | (simp_all [apartV]; done) | (simp_all [apartV]; omega) | (rw [Bool.eq_iff_iff]; simp_all [apartV]; done) | (rw [Bool.eq_iff_iff]; simp_all [apartV]; omega)) True.intro)
    ·have sg5 := g5
     try simp only [q1, q2, q3, q4, q5, q6, q7, q8, q9] at sg5
     refine RunS.s0f g5 ?_
     refine RunS.s0f g5 ?_
     refine RunS.s0f g5 ?_
     refine RunS.s0f g5 ?_
     refine RunS.s0f g5 ?_
     refine rB g4 ?_ (x := pkF g5)
     refine rA ?_ (x := pkF g4)
     refine rA ?_ (x := sA)
     refine sw_ret ?_
     exact (And.intro (by refine bool_eq ?_; first | (simp_all [apartV]; done) | (simp_all [apartV]; omega) | (rw [Bool.eq_iff_iff]; simp_all [apartV]; done) | (rw [Bool.eq_iff_iff]; simp_all [apartV]; omega)) True.intro)
  ·have sg3 := g3
   try simp only [q1, q2, q3, q4, q5, q6, q7, q8, q9] at sg3
   refine RunS.s0f g3 ?_
   refine RunS.s0f g3 ?_
   refine RunS.s0f g3 ?_
   refine RunS.s0f g3 ?_
   refine RunS.s0f g3 ?_
   refine rB g1 ?_ (x := pkF g3)
   refine rA ?_ (x := pkF g1)
   refine rA ?_ (x := sM)
   refine RunS.cases (s := 22) rfl (fun g6 => nomatch g6) (fun g6 => ?_)
   refine rB g6 ?_ (x := lF FSto_fd_195_3)
   refine rB g6 ?_ (x := lD [PV.val _] FSto_ty_3)
   refine rB g6 ?_ (x := B_neq)
   refine rB g6 ?_ (x := sM)
   refine RunS.cases (s := 26) rfl (fun g7 => ?_) (fun g7 => ?_)
   ·have sg7 := g7
    try simp only [q1, q2, q3, q4, q5, q6, q7, q8, q9] at sg7
    refine rB g7 ?_ (x := lF FSto_fd_195_3)
    refine rB g7 ?_ (x := lD [PV.val _] FSto_ty_3)
    refine rB g7 ?_ (x := lF FSto_fd_195_2)
    refine rB g7 ?_ (x := lD [PV.val _] FSto_ty_3)
    refine rB g7 ?_ (x := B_leq)
    refine rB g6 ?_ (x := pkT g7)
    refine rA ?_ (x := pkF g6)
    refine rA ?_ (x := sA)
    refine sw_ret ?_
    exact (And.intro (by refine bool_eq ?_; first | (simp_all [apartV]; done) | (simp_all [apartV]; omega) | (rw [Bool.eq_iff_iff]; simp_all [apartV]; done) | (rw [Bool.eq_iff_iff]; simp_all [apartV]; omega)) True.intro)
   ·have sg7 := g7
    try simp only [q1, q2, q3, q4, q5, q6, q7, q8, q9] at sg7
    refine RunS.s0f g7 ?_
    refine RunS.s0f g7 ?_
    refine RunS.s0f g7 ?_
    refine RunS.s0f g7 ?_
    refine RunS.s0f g7 ?_
    refine rB g6 ?_ (x := pkF g7)
    refine rA ?_ (x := pkF g6)
    refine rA ?_ (x := sA)
    refine sw_ret ?_
    exact (And.intro (by refine bool_eq ?_; first | (simp_all [apartV]; done) | (simp_all [apartV]; omega) | (rw [Bool.eq_iff_iff]; simp_all [apartV]; done) | (rw [Bool.eq_iff_iff]; simp_all [apartV]; omega)) True.intro)
theorem spec_l7Version {v : Version} {now : Int}  (hn : now ≤ 100000) : SCall Tryz.prog 149 [(true, [PV.val (vI v.Id), PV.sl .v (v.Values.map cInt), PV.val (vI v.Born), PV.val (vI v.Died)]), (false, [PV.val (vI now)])] (resRV [(false, [PV.val (.bool (verOk now v))])]) := by
 refine scall_of (rs := [(false, [PV.val (.bool (verOk now v))])]) Tryz.func149 rfl (Nat.le_of_ble_eq_true rfl) (borA_cons (BorL.cons (PV.bor_val _) (BorL.cons (PV.bor_sl _) (BorL.cons (PV.bor_val _) (BorL.cons (PV.bor_val _) BorL.nil)))) (borA_cons (BorL.cons (PV.bor_val _) BorL.nil) borA_nil)) ?_
 intro h0 w0 Fz0
 refine sw_slen (s := 0) (j := 1) rfl rfl fun hl0_1 => ?_
 try rw [List.length_map] at hl0_1
 refine sw_seq ?_
 refine sw_reg ?_
 refine RunS.step (by exact ⟨rfl, ⟨⟩⟩) (by exact ⟨⟩) (LocG.of rfl (loc_box (ag := true) (cs := [PV.val _, PV.sl _ _, PV.val _, PV.val _]) (by decide) (by exact ⟨⟩))) (free1 (Free.of_ rfl)) ?_
 refine rA ?_ (x := kA)
 refine sw_seq ?_
 refine sO [(1, _), (2, _), (4, _)] [(2, (195, [PV.val _, PV.sl _ _, PV.val _, PV.val _]))] ?_
 refine sw_reg ?_
 refine rA ?_ (x := lF FSto_fd_195_0)
 refine rA ?_ (x := lD [PV.val _] FSto_ty_3)
 refine rA ?_ (x := lF FSto_fd_195_1)
 refine rA ?_ (x := lD [PV.sl .v _] FSto_ty_25)
 refine rA ?_ (x := loc_build (qs := [(false, [PV.val _]), (false, [PV.sl _ _])]) (cs := [PV.val _, PV.sl _ _]) (by decide) FSto_z_53 FSto_zo_53 FSto_pl_53 (by exact rfl) (by exact (And.intro (by exact ⟨⟩) (And.intro (by exact ⟨⟩) True.intro))) rfl (by exact rfl))
 refine rA ?_ (x := cL [(true, [PV.val _, PV.sl _ _])] [(true, [PV.val _, PV.sl .v _])] FSto_c_155 (hs := by exact (spec_IsRow (x := ⟨v.Id, v.Values⟩))))
 refine rA ?_ (x := sM)
 refine RunS.cases (s := 11) rfl (fun g1 => ?_) (fun g1 => ?_)
 ·have sg1 := g1
  try simp only [q1, q2, q3, q4, q5, q6, q7, q8, q9] at sg1
  refine rB g1 ?_ (x := lF FSto_fd_195_2)
  refine rB g1 ?_ (x := lD [PV.val _] FSto_ty_3)
  refine rB g1 ?_ (x := sM)
  refine rB g1 ?_ (x := cL [(false, [PV.val _]), (false, [PV.val _]), (false, [PV.val _])] [(false, [PV.val _]), (false, [PV.val _]), (false, [PV.val _])] FSto_c_80 (hs := by exact spec_l1In))
  refine rA ?_ (x := pkT g1)
  refine rA ?_ (x := sM)
  refine RunS.cases (s := 17) rfl (fun g2 => ?_) (fun g2 => ?_)
  ·have sg2 := g2
   try simp only [q1, q2, q3, q4, q5, q6, q7, q8, q9] at sg2
   refine rB g2 ?_ (x := lF FSto_fd_195_3)
   refine rB g2 ?_ (x := lD [PV.val _] FSto_ty_3)
   refine rB g2 ?_ (x := B_eql)
   refine rB g2 ?_ (x := sM)
   refine RunS.cases (s := 21) rfl (fun g3 => ?_) (fun g3 => ?_)
   ·have sg3 := g3
    try simp only [q1, q2, q3, q4, q5, q6, q7, q8, q9] at sg3
    refine RunS.s0t g3 ?_
    refine RunS.s0t g3 ?_
    refine RunS.s0t g3 ?_
    refine RunS.s0t g3 ?_
    refine RunS.s0t g3 ?_
    refine RunS.s0t g3 ?_
    refine RunS.s0t g3 ?_
    refine rB g2 ?_ (x := pkT g3)
    refine rA ?_ (x := pkT g2)
    refine rA ?_ (x := sA)
    refine sw_ret ?_
    exact (And.intro (by refine bool_eq ?_; first | (simp_all [verOk]; done) | (simp_all [verOk]; rfl) | (simp_all [verOk]; omega) | (simp_all [verOk]; intros; omega)) True.intro)
   ·have sg3 := g3
    try simp only [q1, q2, q3, q4, q5, q6, q7, q8, q9] at sg3
    refine rB g3 ?_ (x := lF FSto_fd_195_3)
    refine rB g3 ?_ (x := lD [PV.val _] FSto_ty_3)
    refine rB g3 ?_ (x := lF FSto_fd_195_2)
    refine rB g3 ?_ (x := lD [PV.val _] FSto_ty_3)
    refine rB g3 ?_ (x := loc_add (by decide) (by exact ⟨⟩) (ok_sc rfl) (by simp only [inB, Bool.and_eq_true, decide_eq_true_eq] at *; unfold I64; omega))
    refine rB g3 ?_ (x := sM)
    refine rB g3 ?_ (x := cL [(false, [PV.val _]), (false, [PV.val _]), (false, [PV.val _])] [(false, [PV.val _]), (false, [PV.val _]), (false, [PV.val _])] FSto_c_80 (hs := by exact spec_l1In))
    refine rB g2 ?_ (x := pkF g3)
    refine rA ?_ (x := pkT g2)
    refine rA ?_ (x := sA)
    refine sw_ret ?_
    exact (And.intro (by refine bool_eq ?_; first | (simp_all [verOk]; done) | (simp_all [verOk]; rfl) | (simp_all [verOk]; omega) | (simp_all [verOk]; intros; omega)) True.intro)
  ·have sg2 := g2
   try simp only [q1, q2, q3, q4, q5, q6, q7, q8, q9] at sg2
   refine RunS.s0f g2 ?_
   refine RunS.s0f g2 ?_
   refine RunS.s0f g2 ?_
   refine RunS.s0f g2 ?_
   refine RunS.su ?_
   refine RunS.su ?_
   refine RunS.su ?_
   refine RunS.su ?_
   refine RunS.su ?_
   refine RunS.su ?_
   refine RunS.su ?_
   refine RunS.s0f g2 ?_
   refine rA ?_ (x := pkF g2)
   refine rA ?_ (x := sA)
   refine sw_ret ?_
   exact (And.intro (by refine bool_eq ?_; first | (simp_all [verOk]; done) | (simp_all [verOk]; rfl) | (simp_all [verOk]; omega) | (simp_all [verOk]; intros; omega)) True.intro)
 ·have sg1 := g1
  try simp only [q1, q2, q3, q4, q5, q6, q7, q8, q9] at sg1
  refine RunS.s0f g1 ?_
  refine RunS.s0f g1 ?_
  refine RunS.s0f g1 ?_
  refine RunS.s0f g1 ?_
  refine rA ?_ (x := pkF g1)
  refine rA ?_ (x := sM)
  refine RunS.cases (s := 17) rfl (fun g4 => nomatch g4) (fun g4 => ?_)
  refine RunS.s0f g4 ?_
  refine RunS.s0f g4 ?_
  refine RunS.s0f g4 ?_
  refine RunS.s0f g4 ?_
  refine RunS.su ?_
  refine RunS.su ?_
  refine RunS.su ?_
  refine RunS.su ?_
  refine RunS.su ?_
  refine RunS.su ?_
  refine RunS.su ?_
  refine RunS.s0f g4 ?_
  refine rA ?_ (x := pkF g4)
  refine rA ?_ (x := sA)
  refine sw_ret ?_
  exact (And.intro (by refine bool_eq ?_; first | (simp_all [verOk]; done) | (simp_all [verOk]; rfl) | (simp_all [verOk]; omega) | (simp_all [verOk]; intros; omega)) True.intro)
theorem spec_l7All {p1 p2 : Fl} {s : Store}  (hb : wtStore s ≤ 68719476736) : SCall Tryz.prog 86 [(true, [PV.sl .v (s.Segments.map (cVersionS p1 p2)), PV.val (vI s.Now)])] (resRV [(false, [PV.sl (.own 195 4) ((allV s).map (cVersion .v))])]) := by
 refine scall_of (rs := [(false, [PV.sl (.own 195 4) ((allV s).map (cVersion .v))])]) Tryz.func86 rfl (Nat.le_of_ble_eq_true rfl) (borA_cons (BorL.cons (PV.bor_sl _) (BorL.cons (PV.bor_val _) BorL.nil)) borA_nil) ?_
 intro h0 w0 Fz0
 refine sw_slen (s := 0) (j := 0) rfl rfl fun hl0_0 => ?_
 try rw [List.length_map] at hl0_0
 refine sw_seq ?_
 refine sw_reg ?_
 refine RunS.step (by exact ⟨rfl, ⟨⟩⟩) (by exact ⟨⟩) (LocG.of rfl (loc_box (ag := true) (cs := [PV.sl _ _, PV.val _]) (by decide) (by exact ⟨⟩))) (free1 (Free.of_ rfl)) ?_
 refine rA ?_ (x := loc_const (.inr rfl) (by decide) (ok_nil (t := 195) (e := 4)))
 refine sw_seq ?_
 refine sO [(1, _), (2, _)] [(1, (35, [PV.sl _ _, PV.val _]))] ?_
 refine sw_reg ?_
 refine rA ?_ (x := loc_bslice (qs := []) (by decide) FSto_sl_138 FSto_z_195 (by decide) rfl rfl rfl rfl rfl (by exact Nat.le_of_ble_eq_true rfl) (by exact ⟨⟩) rfl)
 refine rA ?_ (x := tA)
 refine sw_seq ?_
 refine sw_seq ?_
 refine sO [(1, _), (2, _), (3, _)] [(1, _)] ?_
 refine sw_reg ?_
 refine rA ?_ (x := kA)
 refine sw_block ?_
 refine sO [(1, _), (2, _), (3, _), (4, _)] [(1, _)] ?_
 refine sw_loop (l0 := [(1, RV.ptr 1 0), (2, RV.sv false [PV.sl _ _])]) (b0 := [(1, (35, [PV.sl _ _, PV.val _]))]) (fun k : Nat => k ≤ s.Segments.length) (fun k : Nat => [(3, RV.slc (.own 195 4) ((preN s k).map (cVersion .v))), (4, RV.int (k : Int))]) (fun k : Nat => []) (fun k : Nat => s.Segments.length - k) 0 (by omega) (by exact ⟨rfl, rfl, ⟨⟩⟩) (by exact ⟨rfl, ⟨⟩⟩) (by exact And.intro (by exact rfl) (And.intro (by exact rfl) (True.intro))) (by exact ⟨⟩) ?_
 rintro k hk
 refine sw_seq ?_
 refine sw_seq ?_
 refine sw_reg ?_
 refine rA ?_ (x := sM)
 refine rA ?_ (x := lF FSto_fd_35_0)
 refine rA ?_ (x := lD [PV.sl .v _] FSto_ty_33)
 refine rA ?_ (x := lN FSto_sl_33)
 refine rA ?_ (x := B_lss)
 refine sw_cond (t := 10) rfl (fun hb1 => ?_) (fun hb1 => ?_)
 ·try simp only [q1, q2, q3, q4, q5, q6, q7, q8, q9] at hb1
  have hlt : k < s.Segments.length := by omega
  have hal := allV_len s
  have hsp := congrArg List.length (allV_split hlt)
  simp only [List.length_append] at hsp
  refine sw_skip ?_
  refine sw_seq ?_
  refine sw_block ?_
  refine sO [(1, _), (2, _), (3, _), (4, _)] [(1, (35, [PV.sl _ _, PV.val _]))] ?_
  refine sw_reg ?_
  refine rA ?_ (x := tM)
  refine rA ?_ (x := lF FSto_fd_35_0)
  refine rA ?_ (x := lD [PV.sl .v _] FSto_ty_33)
  refine rA ?_ (x := sM)
  refine rA ?_ (x := loc_index (by decide) FSto_sl_33 (by exact ⟨⟩) (by exact rfl) (by exact getm2 (by omega) rfl) (by exact rfl))
  refine rA ?_ (x := loc_eload (qs := [PV.sl .v _]) (by decide) FSto_ty_138 (fun _ => rfl) (by exact Nat.le_of_ble_eq_true rfl) (by exact (ToL.cons (PV.to_map (fun _ => (ToL.cons (PV.To.refl _) (ToL.cons (PV.to_map (fun _ => (ToL.cons (PV.To.refl _) ToL.nil))) (ToL.cons (PV.To.refl _) (ToL.cons (PV.To.refl _) ToL.nil)))))) ToL.nil)) (by exact (BorL.cons (PV.bor_sl _) BorL.nil)))
  refine rA ?_ (x := loc_appendb (by decide) FSto_sl_138 FSto_z_195 rfl rfl (by decide) (by first | (intro cs hcs; obtain ⟨x, _, rfl⟩ := List.mem_map.1 hcs; exact rfl) | simp) (by first | (intro cs hcs; obtain ⟨x, _, rfl⟩ := List.mem_map.1 hcs; exact (BorL.cons (PV.bor_val _) (BorL.cons (PV.bor_sl _) (BorL.cons (PV.bor_val _) (BorL.cons (PV.bor_val _) BorL.nil))))) | simp) (by simp only [List.length_map, List.length_append, List.length_cons, List.length_nil]; omega) (by simp only [List.length_map, List.length_append, List.length_cons, List.length_nil]; omega))
  refine rA ?_ (x := tA)
  refine sO [(1, _), (2, _), (3, _), (4, _)] [(1, _)] ?_
  refine sw_reg ?_
  refine rA ?_ (x := sM)
  refine rA ?_ (x := B_add)
  refine rA ?_ (x := sA)
  refine Exists.intro (k + 1) (And.intro (by omega) (And.intro (by omega) (And.intro (And.intro (by exact ⟨rfl, rfl, ⟨⟩⟩) (by exact ⟨rfl, ⟨⟩⟩)) (And.intro (by exact And.intro (by exact slc_eq (by rw [preN_succ hlt, List.map_append]; rfl)) (And.intro (by exact rfl) (True.intro))) (by exact ⟨⟩)))))
 ·try simp only [q1, q2, q3, q4, q5, q6, q7, q8, q9] at hb1
  have hend : k = s.Segments.length := by omega
  refine sw_exit ?_
  refine sw_seq ?_
  refine sO [(1, _), (2, _), (3, _), (4, _)] [(1, (35, [PV.sl _ _, PV.val _]))] ?_
  refine sw_reg ?_
  refine rA ?_ (x := tM)
  refine rA ?_ (x := tA)
  refine sw_ret ?_
  exact (And.intro (by refine slc_eq ?_; rw [hend, allV_end]) True.intro)
theorem spec_IsStore {p1 p2 : Fl} {s : Store}  (hb : wtStore s ≤ 68719476736) : SCall Tryz.prog 79 [(true, [PV.sl .v (s.Segments.map (cVersionS p1 p2)), PV.val (vI s.Now)])] (resRV [(false, [PV.val (.bool (okStore s))])]) := by
 refine scall_of (rs := [(false, [PV.val (.bool (okStore s))])]) Tryz.func79 rfl (Nat.le_of_ble_eq_true rfl) (borA_cons (BorL.cons (PV.bor_sl _) (BorL.cons (PV.bor_val _) BorL.nil)) borA_nil) ?_
 intro h0 w0 Fz0
 refine sw_slen (s := 0) (j := 0) rfl rfl fun hl0_0 => ?_
 try rw [List.length_map] at hl0_0
 refine sw_seq ?_
 refine sw_reg ?_
 refine RunS.step (by exact ⟨rfl, ⟨⟩⟩) (by exact ⟨⟩) (LocG.of rfl (loc_box (ag := true) (cs := [PV.sl _ _, PV.val _]) (by decide) (by exact ⟨⟩))) (free1 (Free.of_ rfl)) ?_
 refine rA ?_ (x := kA)
 refine sw_seq ?_
 refine sw_seq ?_
 refine sO [(1, _), (2, _)] [(1, (35, [PV.sl _ _, PV.val _]))] ?_
 refine sw_reg ?_
 refine rA ?_ (x := lF FSto_fd_35_0)
 refine rA ?_ (x := lD [PV.sl .v _] FSto_ty_33)
 refine rA ?_ (x := lN FSto_sl_33)
 refine rA ?_ (x := cL [(false, [PV.val _]), (false, [PV.val _]), (false, [PV.val _])] [(false, [PV.val _]), (false, [PV.val _]), (false, [PV.val _])] FSto_c_80 (hs := by exact spec_l1In))
 refine rA ?_ (x := nT)
 refine rA ?_ (x := sM)
 refine RunS.cases (s := 12) rfl (fun g1 => ?_) (fun g1 => ?_)
 ·have sg1 := g1
  try simp only [q1, q2, q3, q4, q5, q6, q7, q8, q9] at sg1
  refine RunS.s0t g1 ?_
  refine RunS.s0t g1 ?_
  refine RunS.s0t g1 ?_
  refine RunS.s0t g1 ?_
  refine rA ?_ (x := pkT g1)
  refine sw_cond (t := 17) rfl (fun hb_ => ?_) (fun hb_ => nomatch hb_)
  have hbad : okStore s = false := by first | (simp_all [okStore, stoPre]; done) | (simp_all [okStore, stoPre]; omega)
  refine sw_seq ?_
  refine sO [(1, _), (2, _)] [(1, _)] ?_
  refine sw_reg ?_
  refine rA ?_ (x := kA)
  refine sw_ret ?_
  exact (And.intro (by refine bool_eq ?_; exact hbad.symm) True.intro)
 ·have sg1 := g1
  try simp only [q1, q2, q3, q4, q5, q6, q7, q8, q9] at sg1
  refine rB g1 ?_ (x := lF FSto_fd_35_1)
  refine rB g1 ?_ (x := lD [PV.val _] FSto_ty_3)
  refine rB g1 ?_ (x := cL [(false, [PV.val _]), (false, [PV.val _]), (false, [PV.val _])] [(false, [PV.val _]), (false, [PV.val _]), (false, [PV.val _])] FSto_c_80 (hs := by exact spec_l1In))
  refine rB g1 ?_ (x := nT)
  refine rA ?_ (x := pkF g1)
  refine sw_cond (t := 17) rfl (fun hb3 => ?_) (fun hb3 => ?_)
  ·try simp only [q1, q2, q3, q4, q5, q6, q7, q8, q9] at hb3
   have hbad : okStore s = false := by first | (simp_all [okStore, stoPre]; done) | (simp_all [okStore, stoPre]; omega)
   refine sw_seq ?_
   refine sO [(1, _), (2, _)] [(1, _)] ?_
   refine sw_reg ?_
   refine rA ?_ (x := kA)
   refine sw_ret ?_
   exact (And.intro (by refine bool_eq ?_; exact hbad.symm) True.intro)
  ·try simp only [q1, q2, q3, q4, q5, q6, q7, q8, q9] at hb3
   have hpr : stoPre s = true := by simp_all [stoPre]
   have hnow : 0 ≤ s.Now ∧ s.Now ≤ 100000 := by have h_ := hpr; simp [stoPre, inB] at h_; omega
   refine sw_skip ?_
   refine sw_seq ?_
   refine sw_seq ?_
   refine sO [(1, _), (2, _)] [(1, _)] ?_
   refine sw_reg ?_
   refine rA ?_ (x := kA)
   refine sw_block ?_
   refine sO [(1, _), (2, _), (3, _)] [(1, _)] ?_
   refine sw_loop (l0 := [(1, RV.ptr 1 0)]) (b0 := [(1, (35, [PV.sl _ _, PV.val _]))]) (fun k : Nat => k ≤ s.Segments.length ∧ (s.Segments.take k).all smallS = true) (fun k : Nat => [(3, RV.int (k : Int))]) (fun k : Nat => []) (fun k : Nat => s.Segments.length - k) 0 (by exact ⟨by omega, by simp⟩) (by exact ⟨rfl, ⟨⟩⟩) (by exact ⟨rfl, ⟨⟩⟩) (by exact And.intro (by exact rfl) (True.intro)) (by exact ⟨⟩) ?_
   rintro k ⟨hk, ha⟩
   refine sw_seq ?_
   refine sw_seq ?_
   refine sw_reg ?_
   refine rA ?_ (x := sM)
   refine rA ?_ (x := lF FSto_fd_35_0)
   refine rA ?_ (x := lD [PV.sl .v _] FSto_ty_33)
   refine rA ?_ (x := lN FSto_sl_33)
   refine rA ?_ (x := B_lss)
   refine sw_cond (t := 22) rfl (fun hb4 => ?_) (fun hb4 => ?_)
   ·try simp only [q1, q2, q3, q4, q5, q6, q7, q8, q9] at hb4
    have hlt : k < s.Segments.length := by omega
    refine sw_skip ?_
    refine sw_seq ?_
    refine sw_block ?_
    refine sw_seq ?_
    refine sO [(1, _), (3, _)] [(1, (35, [PV.sl _ _, PV.val _]))] ?_
    refine sw_reg ?_
    refine rA ?_ (x := lF FSto_fd_35_0)
    refine rA ?_ (x := lD [PV.sl .v _] FSto_ty_33)
    refine rA ?_ (x := sM)
    refine rA ?_ (x := loc_index (by decide) FSto_sl_33 (by exact ⟨⟩) (by exact rfl) (by exact getm2 (by omega) rfl) (by exact rfl))
    refine rA ?_ (x := lE [PV.sl .v _] FSto_ty_138)
    refine rA ?_ (x := lN FSto_sl_138)
    refine rA ?_ (x := B_gtr)
    refine sw_cond (t := 31) rfl (fun hb5 => ?_) (fun hb5 => ?_)
    ·try simp only [q1, q2, q3, q4, q5, q6, q7, q8, q9] at hb5
     have hbad : okStore s = false := sto_big hlt (by omega)
     refine sw_seq ?_
     refine sO [(1, _), (3, _)] [(1, _)] ?_
     refine sw_reg ?_
     refine rA ?_ (x := kA)
     refine sw_ret ?_
     exact (And.intro (by refine bool_eq ?_; exact hbad.symm) True.intro)
    ·try simp only [q1, q2, q3, q4, q5, q6, q7, q8, q9] at hb5
     have hyes : smallS s.Segments[k] = true := by simp [smallS]; omega
     refine sw_skip ?_
     refine sO [(1, _), (3, _)] [(1, _)] ?_
     refine sw_reg ?_
     refine rA ?_ (x := sM)
     refine rA ?_ (x := B_add)
     refine rA ?_ (x := sA)
     refine Exists.intro (k + 1) (And.intro (by exact ⟨by omega, all_succ ha hlt hyes⟩) (And.intro (by omega) (And.intro (And.intro (by exact ⟨rfl, ⟨⟩⟩) (by exact ⟨rfl, ⟨⟩⟩)) (And.intro (by exact And.intro (by exact rfl) (True.intro)) (by exact ⟨⟩)))))
   ·try simp only [q1, q2, q3, q4, q5, q6, q7, q8, q9] at hb4
    have hsm : s.Segments.all smallS = true := all_end (by rw [show s.Segments.length = k by omega]; exact ha)
    have hal := allV_len s
    refine sw_exit ?_
    refine sw_seq ?_
    refine sO [(1, _), (3, _)] [(1, (35, [PV.sl _ _, PV.val _]))] ?_
    refine sw_reg ?_
    refine rA ?_ (x := lD [PV.sl .v _, PV.val _] FSto_ty_35)
    refine rA ?_ (x := cL [(true, [PV.sl _ _, PV.val _])] [(true, [PV.sl .v _, PV.val _])] FSto_c_86 (hs := by exact spec_l7All (by omega)))
    refine rA ?_ (x := tA)
    refine sw_seq ?_
    refine sw_seq ?_
    refine sO [(1, _), (3, _), (4, _)] [(1, _)] ?_
    refine sw_reg ?_
    refine rA ?_ (x := kA)
    refine sw_block ?_
    refine sO [(1, _), (3, _), (4, _), (5, _)] [(1, _)] ?_
    refine sw_loop (l0 := [(1, RV.ptr 1 0), (3, RV.sv false [PV.val _]), (4, RV.sv false [PV.sl _ _])]) (b0 := [(1, (35, [PV.sl _ _, PV.val _]))]) (fun i : Nat => i ≤ (allV s).length ∧ goodTo s.Now (allV s) i = true) (fun i : Nat => [(5, RV.int (i : Int))]) (fun i : Nat => []) (fun i : Nat => (allV s).length - i) 0 (by exact ⟨by omega, rfl⟩) (by exact ⟨rfl, rfl, rfl, ⟨⟩⟩) (by exact ⟨rfl, ⟨⟩⟩) (by exact And.intro (by exact rfl) (True.intro)) (by exact ⟨⟩) ?_
    rintro i ⟨hi, hg⟩
    refine sw_seq ?_
    refine sw_seq ?_
    refine sw_reg ?_
    refine rA ?_ (x := sM)
    refine rA ?_ (x := vM false [PV.sl .v _])
    refine rA ?_ (x := lN FSto_sl_138)
    refine rA ?_ (x := B_lss)
    refine sw_cond (t := 37) rfl (fun hb6 => ?_) (fun hb6 => ?_)
    ·try simp only [q1, q2, q3, q4, q5, q6, q7, q8, q9] at hb6
     have hlt2 : i < (allV s).length := by omega
     refine sw_skip ?_
     refine sw_seq ?_
     refine sw_block ?_
     refine sw_seq ?_
     refine sw_seq ?_
     refine sO [(1, _), (3, _), (4, _), (5, _)] [(1, (35, [PV.sl _ _, PV.val _]))] ?_
     refine sw_draw hm_ ?_
     refine dA 0 ?_ (x := vM false [PV.sl .v _])
     refine dA 0 ?_ (x := sM)
     refine dA 3 ?_ (x := loc_index (k := i) (by decide) FSto_sl_138 (by exact ⟨⟩) (by rfl) (by exact getm2 hlt2 (by rw [gDt_ (d := v0) hlt2])) (by exact rfl))
     refine dA 7 ?_ (x := lE [PV.val _, PV.sl .v _, PV.val _, PV.val _] FSto_ty_195)
     refine dA 0 ?_ (x := lF FSto_fd_35_1)
     refine dA 16 ?_ (x := lD [PV.val _] FSto_ty_3)
     refine dA 63 ?_ (x := cL [(true, [PV.val _, PV.sl _ _, PV.val _, PV.val _]), (false, [PV.val _])] [(true, [PV.val _, PV.sl .v _, PV.val _, PV.val _]), (false, [PV.val _])] FSto_c_149 (hs := by exact (spec_l7Version (by omega))))
     refine dA 127 ?_ (x := nT)
     refine sw_cond (t := 47) rfl (fun hb7 => ?_) (fun hb7 => ?_)
     ·try simp only [q1, q2, q3, q4, q5, q6, q7, q8, q9] at hb7
      have hvo : verOk s.Now ((allV s).getD i v0) = false := by simp_all
      have hbad := sto_no hlt2 (good_no1 hvo)
      refine sw_seq ?_
      refine sO [(1, _), (3, _), (4, _), (5, _)] [(1, _)] ?_
      refine sw_reg ?_
      refine rA ?_ (x := kA)
      refine sw_ret ?_
      exact (And.intro (by refine bool_eq ?_; exact hbad.symm) True.intro)
     ·try simp only [q1, q2, q3, q4, q5, q6, q7, q8, q9] at hb7
      have hvo : verOk s.Now ((allV s).getD i v0) = true := by simp_all
      refine sw_skip ?_
      refine sw_seq ?_
      refine sO [(1, _), (3, _), (4, _), (5, _)] [(1, _)] ?_
      refine sw_reg ?_
      refine rA ?_ (x := kA)
      refine sw_block ?_
      refine sO [(1, _), (3, _), (4, _), (5, _), (6, _)] [(1, _)] ?_
      refine sw_loop (l0 := [(1, RV.ptr 1 0), (3, RV.sv false [PV.val _]), (4, RV.sv false [PV.sl _ _]), (5, RV.sv false [PV.val _])]) (b0 := [(1, (35, [PV.sl _ _, PV.val _]))]) (fun m : Nat => m ≤ i ∧ freeOf (allV s) i m = true) (fun m : Nat => [(6, RV.int (m : Int))]) (fun m : Nat => []) (fun m : Nat => i - m) 0 (by exact ⟨by omega, rfl⟩) (by exact ⟨rfl, rfl, rfl, rfl, ⟨⟩⟩) (by exact ⟨rfl, ⟨⟩⟩) (by exact And.intro (by exact rfl) (True.intro)) (by exact ⟨⟩) ?_
      rintro m ⟨hm, hfr⟩
      refine sw_seq ?_
      refine sw_seq ?_
      refine sw_reg ?_
      refine rA ?_ (x := sM)
      refine rA ?_ (x := sM)
      refine rA ?_ (x := B_lss)
      refine sw_cond (t := 50) rfl (fun hb8 => ?_) (fun hb8 => ?_)
      ·try simp only [q1, q2, q3, q4, q5, q6, q7, q8, q9] at hb8
       have hlt3 : m < i := by omega
       have hlt4 : m < (allV s).length := by omega
       refine sw_skip ?_
       refine sw_seq ?_
       refine sw_block ?_
       refine sw_seq ?_
       refine sO [(1, _), (3, _), (4, _), (5, _), (6, _)] [(1, (35, [PV.sl _ _, PV.val _]))] ?_
       refine sw_draw hm_ ?_
       refine dA 0 ?_ (x := vM false [PV.sl .v _])
       refine dA 0 ?_ (x := sM)
       refine dA 3 ?_ (x := loc_index (k := i) (by decide) FSto_sl_138 (by exact ⟨⟩) (by rfl) (by exact getm2 hlt2 (by rw [gDt_ (d := v0) hlt2])) (by exact rfl))
       refine dA 7 ?_ (x := lE [PV.val _, PV.sl .v _, PV.val _, PV.val _] FSto_ty_195)
       refine dA 0 ?_ (x := vM false [PV.sl .v _])
       refine dA 0 ?_ (x := sM)
       refine dA 48 ?_ (x := loc_index (k := m) (by decide) FSto_sl_138 (by exact ⟨⟩) (by rfl) (by exact getm2 hlt4 (by rw [gDt_ (d := v0) hlt4])) (by exact rfl))
       refine dA 112 ?_ (x := lE [PV.val _, PV.sl .v _, PV.val _, PV.val _] FSto_ty_195)
       refine dA 255 ?_ (x := cL [(true, [PV.val _, PV.sl _ _, PV.val _, PV.val _]), (true, [PV.val _, PV.sl _ _, PV.val _, PV.val _])] [(true, [PV.val _, PV.sl .v _, PV.val _, PV.val _]), (true, [PV.val _, PV.sl .v _, PV.val _, PV.val _])] FSto_c_150 (hs := by exact spec_l7Apart))
       refine dA 511 ?_ (x := nT)
       refine sw_cond (t := 62) rfl (fun hb9 => ?_) (fun hb9 => ?_)
       ·try simp only [q1, q2, q3, q4, q5, q6, q7, q8, q9] at hb9
        have hap : apartV ((allV s).getD i v0) ((allV s).getD m v0) = false := by simp_all
        have hbad := sto_no hlt2 (good_no2 hlt3 hap)
        refine sw_seq ?_
        refine sO [(1, _), (3, _), (4, _), (5, _), (6, _)] [(1, _)] ?_
        refine sw_reg ?_
        refine rA ?_ (x := kA)
        refine sw_ret ?_
        exact (And.intro (by refine bool_eq ?_; exact hbad.symm) True.intro)
       ·try simp only [q1, q2, q3, q4, q5, q6, q7, q8, q9] at hb9
        have hap : apartV ((allV s).getD i v0) ((allV s).getD m v0) = true := by simp_all
        refine sw_skip ?_
        refine sO [(1, _), (3, _), (4, _), (5, _), (6, _)] [(1, _)] ?_
        refine sw_reg ?_
        refine rA ?_ (x := sM)
        refine rA ?_ (x := B_add)
        refine rA ?_ (x := sA)
        refine Exists.intro (m + 1) (And.intro (by refine ⟨by omega, ?_⟩; rw [freeOf_succ, hfr, Bool.true_and]; exact hap) (And.intro (by omega) (And.intro (And.intro (by exact ⟨rfl, rfl, rfl, rfl, ⟨⟩⟩) (by exact ⟨rfl, ⟨⟩⟩)) (And.intro (by exact And.intro (by exact rfl) (True.intro)) (by exact ⟨⟩)))))
      ·try simp only [q1, q2, q3, q4, q5, q6, q7, q8, q9] at hb8
       have hend2 : m = i := by omega
       refine sw_exit ?_
       refine sO [(1, _), (3, _), (4, _), (5, _), (6, _)] [(1, (35, [PV.sl _ _, PV.val _]))] ?_
       refine sw_reg ?_
       refine rA ?_ (x := sM)
       refine rA ?_ (x := B_add)
       refine rA ?_ (x := sA)
       refine Exists.intro (i + 1) (And.intro (by refine ⟨by omega, ?_⟩; rw [goodTo_succ, hg, Bool.true_and]; unfold goodV; rw [hvo, Bool.true_and, ← hend2]; rw [hend2] at hfr ⊢; exact hfr) (And.intro (by omega) (And.intro (And.intro (by exact ⟨rfl, rfl, rfl, ⟨⟩⟩) (by exact ⟨rfl, ⟨⟩⟩)) (And.intro (by exact And.intro (by exact rfl) (True.intro)) (by exact ⟨⟩)))))
    ·try simp only [q1, q2, q3, q4, q5, q6, q7, q8, q9] at hb6
     have hend1 : i = (allV s).length := by omega
     rw [hend1] at hg
     refine sw_exit ?_
     refine sw_seq ?_
     refine sO [(1, _), (3, _), (4, _), (5, _)] [(1, (35, [PV.sl _ _, PV.val _]))] ?_
     refine sw_reg ?_
     refine rA ?_ (x := kA)
     refine sw_ret ?_
     exact (And.intro (by refine bool_eq ?_; unfold okStore; rw [hpr, hsm, hg]; rfl) True.intro)
theorem impl_IsStore {p1 p2 : Fl} {s : Store}  (hb : wtStore s ≤ 68719476736) : SCall Tryz.prog 91 [(true, [PV.sl .v (s.Segments.map (cVersionS p1 p2)), PV.val (vI s.Now)])] (resRV [(false, [PV.val (.bool (okStore s))])]) := by
 refine scall_of (rs := [(false, [PV.val (.bool (okStore s))])]) Tryz.func91 rfl (Nat.le_of_ble_eq_true rfl) (borA_cons (BorL.cons (PV.bor_sl _) (BorL.cons (PV.bor_val _) BorL.nil)) borA_nil) ?_
 intro h0 w0 Fz0
 refine sw_slen (s := 0) (j := 0) rfl rfl fun hl0_0 => ?_
 try rw [List.length_map] at hl0_0
 have hbu := hb
 simp only [wtStore, wtVersionSS, wtInt] at hbu
 refine sw_seq ?_
 refine sw_reg ?_
 refine RunS.step (by exact ⟨rfl, ⟨⟩⟩) (by exact ⟨⟩) (LocG.of rfl (loc_box (ag := true) (cs := [PV.sl _ _, PV.val _]) (by decide) (by exact ⟨⟩))) (free1 (Free.of_ rfl)) ?_
 refine rA ?_ (x := kA)
 refine sw_seq ?_
 refine sw_seq ?_
 refine sO [(1, _), (2, _)] [(1, (35, [PV.sl _ _, PV.val _]))] ?_
 refine sw_reg ?_
 refine rA ?_ (x := lF FSto_fd_35_0)
 refine rA ?_ (x := lD [PV.sl .v _] FSto_ty_33)
 refine rA ?_ (x := lN FSto_sl_33)
 refine rA ?_ (x := cL [(false, [PV.val _]), (false, [PV.val _]), (false, [PV.val _])] [(false, [PV.val _]), (false, [PV.val _]), (false, [PV.val _])] FSto_c_92 (hs := by exact impl_within))
 refine rA ?_ (x := nT)
 refine rA ?_ (x := sM)
 refine RunS.cases (s := 15) rfl (fun g1 => ?_) (fun g1 => ?_)
 ·have sg1 := g1
  try simp only [q1, q2, q3, q4, q5, q6, q7, q8, q9] at sg1
  refine RunS.s0t g1 ?_
  refine RunS.s0t g1 ?_
  refine RunS.s0t g1 ?_
  refine RunS.s0t g1 ?_
  refine rA ?_ (x := pkT g1)
  refine sw_cond (t := 20) rfl (fun hb_ => ?_) (fun hb_ => nomatch hb_)
  have hbad : okStore s = false := by first | (simp_all [okStore, stoPre]; done) | (simp_all [okStore, stoPre]; omega)
  refine sw_seq ?_
  refine sO [(1, _), (2, _)] [(1, _)] ?_
  refine sw_reg ?_
  refine rA ?_ (x := kA)
  refine sw_ret ?_
  exact (And.intro (by refine bool_eq ?_; exact hbad.symm) True.intro)
 ·have sg1 := g1
  try simp only [q1, q2, q3, q4, q5, q6, q7, q8, q9] at sg1
  refine rB g1 ?_ (x := lF FSto_fd_35_1)
  refine rB g1 ?_ (x := lD [PV.val _] FSto_ty_3)
  refine rB g1 ?_ (x := cL [(false, [PV.val _]), (false, [PV.val _]), (false, [PV.val _])] [(false, [PV.val _]), (false, [PV.val _]), (false, [PV.val _])] FSto_c_92 (hs := by exact impl_within))
  refine rB g1 ?_ (x := nT)
  refine rA ?_ (x := pkF g1)
  refine sw_cond (t := 20) rfl (fun hb3 => ?_) (fun hb3 => ?_)
  ·try simp only [q1, q2, q3, q4, q5, q6, q7, q8, q9] at hb3
   have hbad : okStore s = false := by first | (simp_all [okStore, stoPre]; done) | (simp_all [okStore, stoPre]; omega)
   refine sw_seq ?_
   refine sO [(1, _), (2, _)] [(1, _)] ?_
   refine sw_reg ?_
   refine rA ?_ (x := kA)
   refine sw_ret ?_
   exact (And.intro (by refine bool_eq ?_; exact hbad.symm) True.intro)
  ·try simp only [q1, q2, q3, q4, q5, q6, q7, q8, q9] at hb3
   have hpr : stoPre s = true := by simp_all [stoPre]
   have hnow : 0 ≤ s.Now ∧ s.Now ≤ 100000 := by have h_ := hpr; simp [stoPre, inB] at h_; omega
   have hal := allV_len s
   refine sw_skip ?_
   refine sw_seq ?_
   refine sO [(1, _), (2, _)] [(1, _)] ?_
   refine sw_reg ?_
   refine rA ?_ (x := loc_bslice (qs := []) (by decide) FSto_sl_138 FSto_z_195 (by decide) rfl rfl rfl rfl rfl (by exact Nat.le_of_ble_eq_true rfl) (by exact ⟨⟩) rfl)
   refine rA ?_ (x := tA)
   refine sw_seq ?_
   refine sw_seq ?_
   refine sO [(1, _), (2, _), (3, _)] [(1, _)] ?_
   refine sw_reg ?_
   refine rA ?_ (x := lF FSto_fd_35_0)
   refine rA ?_ (x := lD [PV.sl .v _] FSto_ty_33)
   refine rA ?_ (x := lN FSto_sl_33)
   refine rA ?_ (x := kM)
   refine sw_block ?_
   refine sO [(1, _), (2, _), (3, _), (23, _), (24, _), (25, _)] [(1, _)] ?_
   refine sw_loop (l0 := [(1, RV.ptr 1 0), (23, RV.sv false [PV.sl _ _]), (24, RV.sv false [PV.val _])]) (b0 := [(1, (35, [PV.sl _ _, PV.val _]))]) (fun k : Nat => k ≤ s.Segments.length ∧ ((s.Segments.take k).all smallS = true ∧ goodTo s.Now (allV s) (preN s k).length = true)) (fun k : Nat => [(3, RV.slc (.own 195 4) ((preN s k).map (cVersion .v))), (25, RV.int (k : Int))]) (fun k : Nat => []) (fun k : Nat => s.Segments.length - k) 0 (by exact ⟨by omega, ⟨by simp, rfl⟩⟩) (by exact ⟨rfl, rfl, rfl, ⟨⟩⟩) (by exact ⟨rfl, ⟨⟩⟩) (by exact And.intro (by exact rfl) (And.intro (by exact rfl) (True.intro))) (by exact ⟨⟩) ?_
   rintro k ⟨hk, ha⟩
   refine sw_seq ?_
   refine sw_reg ?_
   refine rA ?_ (x := B_lss)
   refine sw_seq ?_
   refine sw_cond (t := 26) rfl (fun hb4 => ?_) (fun hb4 => ?_)
   ·try simp only [q1, q2, q3, q4, q5, q6, q7, q8, q9] at hb4
    have hlt : k < s.Segments.length := by omega
    have hwm := wt_mem (f := wtVersionS) hlt
    have hws : wtVersionS s.Segments[k] = s.Segments[k].length + (s.Segments[k].map wtVersion).sum := rfl
    refine sw_skip ?_
    refine sw_seq ?_
    refine sw_block ?_
    refine sw_seq ?_
    refine sO [(1, _), (3, _), (23, _), (24, _), (25, _)] [(1, (35, [PV.sl _ _, PV.val _]))] ?_
    refine sw_reg ?_
    refine rA ?_ (x := loc_index (by decide) FSto_sl_33 (by exact ⟨⟩) (by exact rfl) (by exact getm2 (by omega) rfl) (by exact rfl))
    refine rA ?_ (x := lE [PV.sl .v _] FSto_ty_138)
    refine rA ?_ (x := vA false [PV.sl .v _])
    refine sw_seq ?_
    refine sw_seq ?_
    refine sO [(1, _), (3, _), (5, _), (23, _), (24, _), (25, _)] [(1, _)] ?_
    refine sw_reg ?_
    refine rA ?_ (x := vM false [PV.sl .v _])
    refine rA ?_ (x := lN FSto_sl_138)
    refine rA ?_ (x := B_gtr)
    refine sw_cond (t := 31) rfl (fun hb5 => ?_) (fun hb5 => ?_)
    ·try simp only [q1, q2, q3, q4, q5, q6, q7, q8, q9] at hb5
     have hbad : okStore s = false := sto_big hlt (by omega)
     refine sw_seq ?_
     refine sO [(1, _), (3, _), (5, _), (23, _), (24, _), (25, _)] [(1, _)] ?_
     refine sw_reg ?_
     refine rA ?_ (x := kA)
     refine sw_ret ?_
     exact (And.intro (by refine bool_eq ?_; exact hbad.symm) True.intro)
    ·try simp only [q1, q2, q3, q4, q5, q6, q7, q8, q9] at hb5
     have hyes : smallS s.Segments[k] = true := by simp [smallS]; omega
     refine sw_skip ?_
     refine sw_seq ?_
     refine sO [(1, _), (3, _), (5, _), (23, _), (24, _), (25, _)] [(1, _)] ?_
     refine sw_reg ?_
     refine rA ?_ (x := vM false [PV.sl .v _])
     refine rA ?_ (x := lN FSto_sl_138)
     refine rA ?_ (x := kM)
     refine sw_block ?_
     refine sO [(1, _), (3, _), (5, _), (23, _), (24, _), (25, _), (32, _), (33, _), (34, _)] [(1, _)] ?_
     refine sw_loop (l0 := [(1, RV.ptr 1 0), (5, RV.sv false [PV.sl _ _]), (23, RV.sv false [PV.sl _ _]), (24, RV.sv false [PV.val _]), (25, RV.sv false [PV.val _]), (32, RV.sv false [PV.sl _ _]), (33, RV.sv false [PV.val _])]) (b0 := [(1, (35, [PV.sl _ _, PV.val _]))]) (fun j : Nat => j ≤ s.Segments[k].length ∧ goodTo s.Now (allV s) ((preN s k).length + j) = true) (fun j : Nat => [(3, RV.slc (.own 195 4) ((preN s k ++ s.Segments[k].take j).map (cVersion .v))), (34, RV.int (j : Int))]) (fun j : Nat => []) (fun j : Nat => s.Segments[k].length - j) 0 (by exact ⟨by omega, ha.2⟩) (by exact ⟨rfl, rfl, rfl, rfl, rfl, rfl, rfl, ⟨⟩⟩) (by exact ⟨rfl, ⟨⟩⟩) (by exact And.intro (by exact slc_eq (by simp)) (And.intro (by exact rfl) (True.intro))) (by exact ⟨⟩) ?_
     rintro j ⟨hj, hg⟩
     refine sw_seq ?_
     refine sw_reg ?_
     refine rA ?_ (x := B_lss)
     refine sw_seq ?_
     refine sw_cond (t := 35) rfl (fun hb6 => ?_) (fun hb6 => ?_)
     ·try simp only [q1, q2, q3, q4, q5, q6, q7, q8, q9] at hb6
      have hlt2 : j < s.Segments[k].length := by omega
      have hwm2 := wt_mem (f := wtVersion) hlt2
      have hag := allV_get hlt hlt2
      have hat := allV_take hlt (Nat.le_of_lt hlt2)
      have hln : (preN s k ++ s.Segments[k].take j).length = (preN s k).length + j := by rw [List.length_append, List.length_take]; omega
      have hlm : (s.Segments[k].take j).length = j := by rw [List.length_take]; omega
      refine sw_skip ?_
      refine sw_seq ?_
      refine sw_block ?_
      refine sw_seq ?_
      refine sO [(1, _), (3, _), (5, _), (23, _), (24, _), (25, _), (32, _), (33, _), (34, _)] [(1, (35, [PV.sl _ _, PV.val _]))] ?_
      refine sw_reg ?_
      refine rA ?_ (x := loc_index (by decide) FSto_sl_138 (by exact ⟨⟩) (by exact rfl) (by exact getm2 (by omega) rfl) (by exact rfl))
      refine rA ?_ (x := lE [PV.val _, PV.sl .v _, PV.val _, PV.val _] FSto_ty_195)
      refine RunS.step (by exact ⟨⟩) (by exact ⟨⟩) (LocG.of rfl (loc_alloc (by decide) FSto_z_195 FSto_zo_195)) (free1 (Free.app (Free.app (Free.of_ rfl) rfl) rfl)) ?_
      refine rA ?_ (x := loc_store (ag := true) (vs := [PV.val _, PV.sl _ _, PV.val _, PV.val _]) FSto_ty_195 (by exact ⟨⟩) (by exact rfl) (by exact Nat.le_of_ble_eq_true rfl))
      refine sw_seq ?_
      refine sw_seq ?_
      refine sO [(1, _), (3, _), (5, _), (7, _), (23, _), (24, _), (25, _), (32, _), (33, _), (34, _)] [(1, _), (7, (195, [PV.val _, PV.sl _ _, PV.val _, PV.val _]))] ?_
      refine sw_reg ?_
      refine rA ?_ (x := lD [PV.val _, PV.sl .v _, PV.val _, PV.val _] FSto_ty_195)
      refine rA ?_ (x := cL [(true, [PV.val _, PV.sl _ _, PV.val _, PV.val _])] [(true, [PV.val _, PV.sl .v _, PV.val _, PV.val _])] FSto_c_161 (hs := by exact impl_rowOf (by omega)))
      refine rA ?_ (x := cL [(true, [PV.val _, PV.sl _ _])] [(true, [PV.val _, PV.sl .v _])] FSto_c_160 (hs := by exact impl_IsRow))
      refine rA ?_ (x := nT)
      refine rA ?_ (x := sM)
      refine RunS.cases (s := 42) rfl (fun g7 => ?_) (fun g7 => ?_)
      ·have sg7 := g7
       try simp only [q1, q2, q3, q4, q5, q6, q7, q8, q9] at sg7
       refine RunS.s0t g7 ?_
       refine RunS.s0t g7 ?_
       refine RunS.s0t g7 ?_
       refine RunS.s0t g7 ?_
       refine RunS.s0t g7 ?_
       refine RunS.s0t g7 ?_
       refine rA ?_ (x := pkT g7)
       refine rA ?_ (x := sM)
       refine RunS.cases (s := 50) rfl (fun g8 => ?_) (fun g8 => nomatch g8)
       refine RunS.s0t g8 ?_
       refine RunS.s0t g8 ?_
       refine RunS.s0t g8 ?_
       refine RunS.s0t g8 ?_
       refine RunS.su ?_
       refine RunS.su ?_
       refine RunS.su ?_
       refine RunS.su ?_
       refine RunS.su ?_
       refine RunS.su ?_
       refine RunS.su ?_
       refine RunS.su ?_
       refine RunS.su ?_
       refine RunS.s0t g8 ?_
       refine rA ?_ (x := pkT g8)
       refine sw_cond (t := 65) rfl (fun hb_ => ?_) (fun hb_ => nomatch hb_)
       have hvo : verOk s.Now s.Segments[k][j] = false := by first | (simp_all [verOk, rowOfV]; done) | (simp_all [verOk, rowOfV]; omega)
       have hbad := sto_no hag.1 (good_no1 (by rw [hag.2]; exact hvo))
       refine sw_seq ?_
       refine sO [(1, _), (3, _), (5, _), (7, _), (23, _), (24, _), (25, _), (32, _), (33, _), (34, _)] [(1, _), (7, _)] ?_
       refine sw_reg ?_
       refine rA ?_ (x := kA)
       refine sw_ret ?_
       exact (And.intro (by refine bool_eq ?_; exact hbad.symm) True.intro)
      ·have sg7 := g7
       try simp only [q1, q2, q3, q4, q5, q6, q7, q8, q9] at sg7
       refine rB g7 ?_ (x := lF FSto_fd_195_2)
       refine rB g7 ?_ (x := lD [PV.val _] FSto_ty_3)
       refine rB g7 ?_ (x := lF FSto_fd_35_1)
       refine rB g7 ?_ (x := lD [PV.val _] FSto_ty_3)
       refine rB g7 ?_ (x := cL [(false, [PV.val _]), (false, [PV.val _]), (false, [PV.val _])] [(false, [PV.val _]), (false, [PV.val _]), (false, [PV.val _])] FSto_c_92 (hs := by exact impl_within))
       refine rB g7 ?_ (x := nT)
       refine rA ?_ (x := pkF g7)
       refine rA ?_ (x := sM)
       refine RunS.cases (s := 50) rfl (fun g10 => ?_) (fun g10 => ?_)
       ·have sg10 := g10
        try simp only [q1, q2, q3, q4, q5, q6, q7, q8, q9] at sg10
        refine RunS.s0t g10 ?_
        refine RunS.s0t g10 ?_
        refine RunS.s0t g10 ?_
        refine RunS.s0t g10 ?_
        refine RunS.su ?_
        refine RunS.su ?_
        refine RunS.su ?_
        refine RunS.su ?_
        refine RunS.su ?_
        refine RunS.su ?_
        refine RunS.su ?_
        refine RunS.su ?_
        refine RunS.su ?_
        refine RunS.s0t g10 ?_
        refine rA ?_ (x := pkT g10)
        refine sw_cond (t := 65) rfl (fun hb_ => ?_) (fun hb_ => nomatch hb_)
        have hvo : verOk s.Now s.Segments[k][j] = false := by first | (simp_all [verOk, rowOfV]; done) | (simp_all [verOk, rowOfV]; omega)
        have hbad := sto_no hag.1 (good_no1 (by rw [hag.2]; exact hvo))
        refine sw_seq ?_
        refine sO [(1, _), (3, _), (5, _), (7, _), (23, _), (24, _), (25, _), (32, _), (33, _), (34, _)] [(1, _), (7, _)] ?_
        refine sw_reg ?_
        refine rA ?_ (x := kA)
        refine sw_ret ?_
        exact (And.intro (by refine bool_eq ?_; exact hbad.symm) True.intro)
       ·have sg10 := g10
        try simp only [q1, q2, q3, q4, q5, q6, q7, q8, q9] at sg10
        refine rB g10 ?_ (x := lF FSto_fd_195_3)
        refine rB g10 ?_ (x := lD [PV.val _] FSto_ty_3)
        refine rB g10 ?_ (x := B_neq)
        refine rB g10 ?_ (x := sM)
        refine RunS.cases (s := 54) rfl (fun g12 => ?_) (fun g12 => ?_)
        ·have sg12 := g12
         try simp only [q1, q2, q3, q4, q5, q6, q7, q8, q9] at sg12
         refine rB g12 ?_ (x := lF FSto_fd_195_3)
         refine rB g12 ?_ (x := lD [PV.val _] FSto_ty_3)
         refine rB g12 ?_ (x := lF FSto_fd_195_2)
         refine rB g12 ?_ (x := lD [PV.val _] FSto_ty_3)
         refine rB g12 ?_ (x := loc_add (by decide) (by exact ⟨⟩) (ok_sc rfl) (by simp only [inB, Bool.and_eq_true, decide_eq_true_eq] at *; unfold I64; omega))
         refine rB g12 ?_ (x := lF FSto_fd_35_1)
         refine rB g12 ?_ (x := lD [PV.val _] FSto_ty_3)
         refine rB g12 ?_ (x := cL [(false, [PV.val _]), (false, [PV.val _]), (false, [PV.val _])] [(false, [PV.val _]), (false, [PV.val _]), (false, [PV.val _])] FSto_c_92 (hs := by exact impl_within))
         refine rB g12 ?_ (x := nT)
         refine rB g10 ?_ (x := pkT g12)
         refine rA ?_ (x := pkF g10)
         refine sw_cond (t := 65) rfl (fun hb13 => ?_) (fun hb13 => ?_)
         ·try simp only [q1, q2, q3, q4, q5, q6, q7, q8, q9] at hb13
          have hvo : verOk s.Now s.Segments[k][j] = false := by first | (simp_all [verOk, rowOfV]; done) | (simp_all [verOk, rowOfV]; omega)
          have hbad := sto_no hag.1 (good_no1 (by rw [hag.2]; exact hvo))
          refine sw_seq ?_
          refine sO [(1, _), (3, _), (5, _), (7, _), (23, _), (24, _), (25, _), (32, _), (33, _), (34, _)] [(1, _), (7, _)] ?_
          refine sw_reg ?_
          refine rA ?_ (x := kA)
          refine sw_ret ?_
          exact (And.intro (by refine bool_eq ?_; exact hbad.symm) True.intro)
         ·try simp only [q1, q2, q3, q4, q5, q6, q7, q8, q9] at hb13
          have hvo : verOk s.Now s.Segments[k][j] = true := by first | (simp_all [verOk, rowOfV]; done) | (simp_all [verOk, rowOfV]; omega)
          refine sw_skip ?_
          refine sw_seq ?_
          refine sw_seq ?_
          refine sO [(1, _), (3, _), (5, _), (7, _), (23, _), (24, _), (25, _), (32, _), (33, _), (34, _)] [(1, _), (7, _)] ?_
          refine sw_reg ?_
          refine rA ?_ (x := vM false [PV.sl .v _])
          refine rA ?_ (x := lN FSto_sl_138)
          refine rA ?_ (x := kM)
          refine sw_block ?_
          refine sO [(1, _), (3, _), (5, _), (7, _), (23, _), (24, _), (25, _), (32, _), (33, _), (34, _), (66, _), (67, _), (68, _)] [(1, _), (7, _)] ?_
          refine sw_loop (l0 := [(1, RV.ptr 1 0), (3, RV.sv false [PV.sl _ _]), (5, RV.sv false [PV.sl _ _]), (7, RV.ptr 7 0), (23, RV.sv false [PV.sl _ _]), (24, RV.sv false [PV.val _]), (25, RV.sv false [PV.val _]), (32, RV.sv false [PV.sl _ _]), (33, RV.sv false [PV.val _]), (34, RV.sv false [PV.val _]), (66, RV.sv false [PV.sl _ _]), (67, RV.sv false [PV.val _])]) (b0 := [(1, (35, [PV.sl _ _, PV.val _])), (7, (195, [PV.val _, PV.sl _ _, PV.val _, PV.val _]))]) (fun m : Nat => m ≤ (preN s k).length + j ∧ freeOf (allV s) ((preN s k).length + j) m = true) (fun m : Nat => [(68, RV.int (m : Int))]) (fun m : Nat => []) (fun m : Nat => (preN s k).length + j - m) 0 (by exact ⟨by omega, rfl⟩) (by exact ⟨rfl, rfl, rfl, rfl, rfl, rfl, rfl, rfl, rfl, rfl, rfl, rfl, ⟨⟩⟩) (by exact ⟨rfl, rfl, ⟨⟩⟩) (by exact And.intro (by exact rfl) (True.intro)) (by exact ⟨⟩) ?_
          rintro m ⟨hm, hfr⟩
          refine sw_seq ?_
          refine sw_reg ?_
          refine rA ?_ (x := B_lss)
          refine sw_seq ?_
          refine sw_cond (t := 69) rfl (fun hb14 => ?_) (fun hb14 => ?_)
          ·try simp only [q1, q2, q3, q4, q5, q6, q7, q8, q9] at hb14
           have hlt3 : m < (preN s k).length + j := by omega
           have hlt4 : m < (preN s k ++ s.Segments[k].take j).length := by omega
           have hsg : (preN s k ++ s.Segments[k].take j)[m] = (allV s).getD m v0 := by rw [gDt_ (d := v0) hlt4, hat, List.getD_eq_getElem?_getD, List.getElem?_take_of_lt hlt3, ← List.getD_eq_getElem?_getD]
           have hvm := goodTo_at hg hlt3
           have hma := meet_apart hvo hvm
           rw [← hag.2] at hma
           refine sw_skip ?_
           refine sw_seq ?_
           refine sw_block ?_
           refine sw_seq ?_
           refine sO [(1, _), (3, _), (5, _), (7, _), (23, _), (24, _), (25, _), (32, _), (33, _), (34, _), (66, _), (67, _), (68, _)] [(1, (35, [PV.sl _ _, PV.val _])), (7, (195, [PV.val _, PV.sl _ _, PV.val _, PV.val _]))] ?_
           refine sw_reg ?_
           refine rA ?_ (x := loc_index (k := m) (by decide) FSto_sl_138 (by exact ⟨⟩) (by rfl) (by exact getm2 (by omega) (by rw [hsg])) (by exact rfl))
           refine rA ?_ (x := lE [PV.val _, PV.sl .v _, PV.val _, PV.val _] FSto_ty_195)
           refine RunS.step (by exact ⟨⟩) (by exact ⟨⟩) (LocG.of rfl (loc_alloc (by decide) FSto_z_195 FSto_zo_195)) (free1 (Free.app (Free.app (Free.of_ rfl) rfl) rfl)) ?_
           refine rA ?_ (x := loc_store (ag := true) (vs := [PV.val _, PV.sl _ _, PV.val _, PV.val _]) FSto_ty_195 (by exact ⟨⟩) (by exact rfl) (by exact Nat.le_of_ble_eq_true rfl))
           refine sw_seq ?_
           refine sO [(1, _), (3, _), (5, _), (7, _), (9, _), (23, _), (24, _), (25, _), (32, _), (33, _), (34, _), (66, _), (67, _), (68, _)] [(1, _), (7, _), (9, (195, [PV.val _, PV.sl _ _, PV.val _, PV.val _]))] ?_
           refine sw_reg ?_
           refine rA ?_ (x := lF FSto_fd_195_0)
           refine rA ?_ (x := lD [PV.val _] FSto_ty_3)
           refine rA ?_ (x := lF FSto_fd_195_0)
           refine rA ?_ (x := lD [PV.val _] FSto_ty_3)
           refine rA ?_ (x := B_eql)
           refine rA ?_ (x := sM)
           refine RunS.cases (s := 77) rfl (fun g15 => ?_) (fun g15 => ?_)
           ·have sg15 := g15
            try simp only [q1, q2, q3, q4, q5, q6, q7, q8, q9] at sg15
            refine rB g15 ?_ (x := lD [PV.val _, PV.sl .v _, PV.val _, PV.val _] FSto_ty_195)
            refine rB g15 ?_ (x := lD [PV.val _, PV.sl .v _, PV.val _, PV.val _] FSto_ty_195)
            refine rB g15 ?_ (x := cL [(true, [PV.val _, PV.sl _ _, PV.val _, PV.val _]), (true, [PV.val _, PV.sl _ _, PV.val _, PV.val _])] [(true, [PV.val _, PV.sl .v _, PV.val _, PV.val _]), (true, [PV.val _, PV.sl .v _, PV.val _, PV.val _])] FSto_c_162 (hs := by exact impl_meetInTime))
            refine rA ?_ (x := pkT g15)
            refine sw_cond (t := 81) rfl (fun hb16 => ?_) (fun hb16 => ?_)
            ·try simp only [q1, q2, q3, q4, q5, q6, q7, q8, q9] at hb16
             have hap : apartV ((allV s).getD ((preN s k).length + j) v0) ((allV s).getD m v0) = false := by
              rw [hag.2] at hma ⊢
              by_cases hid : s.Segments[k][j].Id = ((allV s).getD m v0).Id
              ·rw [beq_iff_eq.2 hid, Bool.true_and] at hma; simp_all
              ·simp_all
             have hbad := sto_no hag.1 (good_no2 hlt3 hap)
             refine sw_seq ?_
             refine sO [(1, _), (3, _), (5, _), (7, _), (9, _), (23, _), (24, _), (25, _), (32, _), (33, _), (34, _), (66, _), (67, _), (68, _)] [(1, _), (7, _), (9, _)] ?_
             refine sw_reg ?_
             refine rA ?_ (x := kA)
             refine sw_ret ?_
             exact (And.intro (by refine bool_eq ?_; exact hbad.symm) True.intro)
            ·try simp only [q1, q2, q3, q4, q5, q6, q7, q8, q9] at hb16
             have hap : apartV ((allV s).getD ((preN s k).length + j) v0) ((allV s).getD m v0) = true := by
              rw [hag.2] at hma ⊢
              by_cases hid : s.Segments[k][j].Id = ((allV s).getD m v0).Id
              ·rw [beq_iff_eq.2 hid, Bool.true_and] at hma; simp_all
              ·rw [beq_false_of_ne hid, Bool.false_and] at hma; simpa using hma.symm
             refine sw_skip ?_
             refine sO [(1, _), (3, _), (5, _), (7, _), (9, _), (23, _), (24, _), (25, _), (32, _), (33, _), (34, _), (66, _), (67, _), (68, _)] [(1, _), (7, _), (9, _)] ?_
             refine sw_reg ?_
             refine rA ?_ (x := B_add)
             refine rA ?_ (x := sM)
             refine Exists.intro (m + 1) (And.intro (by refine ⟨by omega, ?_⟩; rw [freeOf_succ, hfr, Bool.true_and]; exact hap) (And.intro (by omega) (And.intro (And.intro (by exact ⟨rfl, rfl, rfl, rfl, rfl, rfl, rfl, rfl, rfl, rfl, rfl, rfl, ⟨⟩⟩) (by exact ⟨rfl, rfl, ⟨⟩⟩)) (And.intro (by exact And.intro (by exact rfl) (True.intro)) (by exact ⟨⟩)))))
           ·have sg15 := g15
            try simp only [q1, q2, q3, q4, q5, q6, q7, q8, q9] at sg15
            refine RunS.s0f g15 ?_
            refine RunS.s0f g15 ?_
            refine RunS.s0f g15 ?_
            refine rA ?_ (x := pkF g15)
            refine sw_cond (t := 81) rfl (fun hb_ => nomatch hb_) (fun hb_ => ?_)
            have hap : apartV ((allV s).getD ((preN s k).length + j) v0) ((allV s).getD m v0) = true := by
             rw [hag.2] at hma ⊢
             by_cases hid : s.Segments[k][j].Id = ((allV s).getD m v0).Id
             ·rw [beq_iff_eq.2 hid, Bool.true_and] at hma; simp_all
             ·rw [beq_false_of_ne hid, Bool.false_and] at hma; simpa using hma.symm
            refine sw_skip ?_
            refine sO [(1, _), (3, _), (5, _), (7, _), (9, _), (23, _), (24, _), (25, _), (32, _), (33, _), (34, _), (66, _), (67, _), (68, _)] [(1, _), (7, _), (9, _)] ?_
            refine sw_reg ?_
            refine rA ?_ (x := B_add)
            refine rA ?_ (x := sM)
            refine Exists.intro (m + 1) (And.intro (by refine ⟨by omega, ?_⟩; rw [freeOf_succ, hfr, Bool.true_and]; exact hap) (And.intro (by omega) (And.intro (And.intro (by exact ⟨rfl, rfl, rfl, rfl, rfl, rfl, rfl, rfl, rfl, rfl, rfl, rfl, ⟨⟩⟩) (by exact ⟨rfl, rfl, ⟨⟩⟩)) (And.intro (by exact And.intro (by exact rfl) (True.intro)) (by exact ⟨⟩)))))
          ·try simp only [q1, q2, q3, q4, q5, q6, q7, q8, q9] at hb14
           have hend3 : m = (preN s k).length + j := by omega
           refine sw_exit ?_
           refine sO [(1, _), (3, _), (5, _), (7, _), (23, _), (24, _), (25, _), (32, _), (33, _), (34, _), (66, _), (67, _), (68, _)] [(1, (35, [PV.sl _ _, PV.val _])), (7, (195, [PV.val _, PV.sl _ _, PV.val _, PV.val _]))] ?_
           refine sw_reg ?_
           refine rA ?_ (x := tM)
           refine rA ?_ (x := lD [PV.val _, PV.sl .v _, PV.val _, PV.val _] FSto_ty_195)
           refine rA ?_ (x := loc_bslice (qs := [(true, [PV.val _, PV.sl _ _, PV.val _, PV.val _])]) (by decide) FSto_sl_138 FSto_z_195 (by decide) rfl rfl rfl rfl rfl (by exact Nat.le_of_ble_eq_true rfl) (by exact (And.intro (by exact ⟨⟩) True.intro)) rfl)
           refine rA ?_ (x := loc_append (by decide) FSto_sl_138 FSto_z_195 rfl rfl (by decide) rfl (by simp only [List.length_map, List.length_append, List.length_cons, List.length_nil]; omega) (by simp only [List.length_map, List.length_append, List.length_cons, List.length_nil]; omega))
           refine rA ?_ (x := tA)
           refine sO [(1, _), (3, _), (5, _), (7, _), (23, _), (24, _), (25, _), (32, _), (33, _), (34, _), (66, _), (67, _), (68, _)] [(1, _), (7, _)] ?_
           refine sw_reg ?_
           refine rA ?_ (x := B_add)
           refine rA ?_ (x := sM)
           refine Exists.intro (j + 1) (And.intro (by refine ⟨by omega, ?_⟩; rw [← Nat.add_assoc, goodTo_succ, hg, Bool.true_and]; unfold goodV; rw [hag.2, hvo, Bool.true_and, ← hend3]; rw [hend3] at hfr ⊢; exact hfr) (And.intro (by omega) (And.intro (And.intro (by exact ⟨rfl, rfl, rfl, rfl, rfl, rfl, rfl, ⟨⟩⟩) (by exact ⟨rfl, ⟨⟩⟩)) (And.intro (by exact And.intro (by exact slc_eq (by rw [List.take_succ_eq_append_getElem hlt2]; simp only [List.map_append, List.append_assoc]; rfl)) (And.intro (by exact rfl) (True.intro))) (by exact ⟨⟩)))))
        ·have sg12 := g12
         try simp only [q1, q2, q3, q4, q5, q6, q7, q8, q9] at sg12
         refine RunS.s0f g12 ?_
         refine RunS.s0f g12 ?_
         refine RunS.s0f g12 ?_
         refine RunS.s0f g12 ?_
         refine RunS.s0f g12 ?_
         refine RunS.s0f g12 ?_
         refine RunS.s0f g12 ?_
         refine RunS.s0f g12 ?_
         refine RunS.s0f g12 ?_
         refine rB g10 ?_ (x := pkF g12)
         refine rA ?_ (x := pkF g10)
         refine sw_cond (t := 65) rfl (fun hb_ => nomatch hb_) (fun hb_ => ?_)
         have hvo : verOk s.Now s.Segments[k][j] = true := by first | (simp_all [verOk, rowOfV]; done) | (simp_all [verOk, rowOfV]; omega)
         refine sw_skip ?_
         refine sw_seq ?_
         refine sw_seq ?_
         refine sO [(1, _), (3, _), (5, _), (7, _), (23, _), (24, _), (25, _), (32, _), (33, _), (34, _)] [(1, _), (7, _)] ?_
         refine sw_reg ?_
         refine rA ?_ (x := vM false [PV.sl .v _])
         refine rA ?_ (x := lN FSto_sl_138)
         refine rA ?_ (x := kM)
         refine sw_block ?_
         refine sO [(1, _), (3, _), (5, _), (7, _), (23, _), (24, _), (25, _), (32, _), (33, _), (34, _), (66, _), (67, _), (68, _)] [(1, _), (7, _)] ?_
         refine sw_loop (l0 := [(1, RV.ptr 1 0), (3, RV.sv false [PV.sl _ _]), (5, RV.sv false [PV.sl _ _]), (7, RV.ptr 7 0), (23, RV.sv false [PV.sl _ _]), (24, RV.sv false [PV.val _]), (25, RV.sv false [PV.val _]), (32, RV.sv false [PV.sl _ _]), (33, RV.sv false [PV.val _]), (34, RV.sv false [PV.val _]), (66, RV.sv false [PV.sl _ _]), (67, RV.sv false [PV.val _])]) (b0 := [(1, (35, [PV.sl _ _, PV.val _])), (7, (195, [PV.val _, PV.sl _ _, PV.val _, PV.val _]))]) (fun m : Nat => m ≤ (preN s k).length + j ∧ freeOf (allV s) ((preN s k).length + j) m = true) (fun m : Nat => [(68, RV.int (m : Int))]) (fun m : Nat => []) (fun m : Nat => (preN s k).length + j - m) 0 (by exact ⟨by omega, rfl⟩) (by exact ⟨rfl, rfl, rfl, rfl, rfl, rfl, rfl, rfl, rfl, rfl, rfl, rfl, ⟨⟩⟩) (by exact ⟨rfl, rfl, ⟨⟩⟩) (by exact And.intro (by exact rfl) (True.intro)) (by exact ⟨⟩) ?_
         rintro m ⟨hm, hfr⟩
         refine sw_seq ?_
         refine sw_reg ?_
         refine rA ?_ (x := B_lss)
         refine sw_seq ?_
         refine sw_cond (t := 69) rfl (fun hb19 => ?_) (fun hb19 => ?_)
         ·try simp only [q1, q2, q3, q4, q5, q6, q7, q8, q9] at hb19
          have hlt3 : m < (preN s k).length + j := by omega
          have hlt4 : m < (preN s k ++ s.Segments[k].take j).length := by omega
          have hsg : (preN s k ++ s.Segments[k].take j)[m] = (allV s).getD m v0 := by rw [gDt_ (d := v0) hlt4, hat, List.getD_eq_getElem?_getD, List.getElem?_take_of_lt hlt3, ← List.getD_eq_getElem?_getD]
          have hvm := goodTo_at hg hlt3
          have hma := meet_apart hvo hvm
          rw [← hag.2] at hma
          refine sw_skip ?_
          refine sw_seq ?_
          refine sw_block ?_
          refine sw_seq ?_
          refine sO [(1, _), (3, _), (5, _), (7, _), (23, _), (24, _), (25, _), (32, _), (33, _), (34, _), (66, _), (67, _), (68, _)] [(1, (35, [PV.sl _ _, PV.val _])), (7, (195, [PV.val _, PV.sl _ _, PV.val _, PV.val _]))] ?_
          refine sw_reg ?_
          refine rA ?_ (x := loc_index (k := m) (by decide) FSto_sl_138 (by exact ⟨⟩) (by rfl) (by exact getm2 (by omega) (by rw [hsg])) (by exact rfl))
          refine rA ?_ (x := lE [PV.val _, PV.sl .v _, PV.val _, PV.val _] FSto_ty_195)
          refine RunS.step (by exact ⟨⟩) (by exact ⟨⟩) (LocG.of rfl (loc_alloc (by decide) FSto_z_195 FSto_zo_195)) (free1 (Free.app (Free.app (Free.of_ rfl) rfl) rfl)) ?_
          refine rA ?_ (x := loc_store (ag := true) (vs := [PV.val _, PV.sl _ _, PV.val _, PV.val _]) FSto_ty_195 (by exact ⟨⟩) (by exact rfl) (by exact Nat.le_of_ble_eq_true rfl))
          refine sw_seq ?_
          refine sO [(1, _), (3, _), (5, _), (7, _), (9, _), (23, _), (24, _), (25, _), (32, _), (33, _), (34, _), (66, _), (67, _), (68, _)] [(1, _), (7, _), (9, (195, [PV.val _, PV.sl _ _, PV.val _, PV.val _]))] ?_
          refine sw_reg ?_
          refine rA ?_ (x := lF FSto_fd_195_0)
          refine rA ?_ (x := lD [PV.val _] FSto_ty_3)
          refine rA ?_ (x := lF FSto_fd_195_0)
          refine rA ?_ (x := lD [PV.val _] FSto_ty_3)
          refine rA ?_ (x := B_eql)
          refine rA ?_ (x := sM)
          refine RunS.cases (s := 77) rfl (fun g20 => ?_) (fun g20 => ?_)
          ·have sg20 := g20
           try simp only [q1, q2, q3, q4, q5, q6, q7, q8, q9] at sg20
           refine rB g20 ?_ (x := lD [PV.val _, PV.sl .v _, PV.val _, PV.val _] FSto_ty_195)
           refine rB g20 ?_ (x := lD [PV.val _, PV.sl .v _, PV.val _, PV.val _] FSto_ty_195)
           refine rB g20 ?_ (x := cL [(true, [PV.val _, PV.sl _ _, PV.val _, PV.val _]), (true, [PV.val _, PV.sl _ _, PV.val _, PV.val _])] [(true, [PV.val _, PV.sl .v _, PV.val _, PV.val _]), (true, [PV.val _, PV.sl .v _, PV.val _, PV.val _])] FSto_c_162 (hs := by exact impl_meetInTime))
           refine rA ?_ (x := pkT g20)
           refine sw_cond (t := 81) rfl (fun hb21 => ?_) (fun hb21 => ?_)
           ·try simp only [q1, q2, q3, q4, q5, q6, q7, q8, q9] at hb21
            have hap : apartV ((allV s).getD ((preN s k).length + j) v0) ((allV s).getD m v0) = false := by
             rw [hag.2] at hma ⊢
             by_cases hid : s.Segments[k][j].Id = ((allV s).getD m v0).Id
             ·rw [beq_iff_eq.2 hid, Bool.true_and] at hma; simp_all
             ·simp_all
            have hbad := sto_no hag.1 (good_no2 hlt3 hap)
            refine sw_seq ?_
            refine sO [(1, _), (3, _), (5, _), (7, _), (9, _), (23, _), (24, _), (25, _), (32, _), (33, _), (34, _), (66, _), (67, _), (68, _)] [(1, _), (7, _), (9, _)] ?_
            refine sw_reg ?_
            refine rA ?_ (x := kA)
            refine sw_ret ?_
            exact (And.intro (by refine bool_eq ?_; exact hbad.symm) True.intro)
           ·try simp only [q1, q2, q3, q4, q5, q6, q7, q8, q9] at hb21
            have hap : apartV ((allV s).getD ((preN s k).length + j) v0) ((allV s).getD m v0) = true := by
             rw [hag.2] at hma ⊢
             by_cases hid : s.Segments[k][j].Id = ((allV s).getD m v0).Id
             ·rw [beq_iff_eq.2 hid, Bool.true_and] at hma; simp_all
             ·rw [beq_false_of_ne hid, Bool.false_and] at hma; simpa using hma.symm
            refine sw_skip ?_
            refine sO [(1, _), (3, _), (5, _), (7, _), (9, _), (23, _), (24, _), (25, _), (32, _), (33, _), (34, _), (66, _), (67, _), (68, _)] [(1, _), (7, _), (9, _)] ?_
            refine sw_reg ?_
            refine rA ?_ (x := B_add)
            refine rA ?_ (x := sM)
            refine Exists.intro (m + 1) (And.intro (by refine ⟨by omega, ?_⟩; rw [freeOf_succ, hfr, Bool.true_and]; exact hap) (And.intro (by omega) (And.intro (And.intro (by exact ⟨rfl, rfl, rfl, rfl, rfl, rfl, rfl, rfl, rfl, rfl, rfl, rfl, ⟨⟩⟩) (by exact ⟨rfl, rfl, ⟨⟩⟩)) (And.intro (by exact And.intro (by exact rfl) (True.intro)) (by exact ⟨⟩)))))
          ·have sg20 := g20
           try simp only [q1, q2, q3, q4, q5, q6, q7, q8, q9] at sg20
           refine RunS.s0f g20 ?_
           refine RunS.s0f g20 ?_
           refine RunS.s0f g20 ?_
           refine rA ?_ (x := pkF g20)
           refine sw_cond (t := 81) rfl (fun hb_ => nomatch hb_) (fun hb_ => ?_)
           have hap : apartV ((allV s).getD ((preN s k).length + j) v0) ((allV s).getD m v0) = true := by
            rw [hag.2] at hma ⊢
            by_cases hid : s.Segments[k][j].Id = ((allV s).getD m v0).Id
            ·rw [beq_iff_eq.2 hid, Bool.true_and] at hma; simp_all
            ·rw [beq_false_of_ne hid, Bool.false_and] at hma; simpa using hma.symm
           refine sw_skip ?_
           refine sO [(1, _), (3, _), (5, _), (7, _), (9, _), (23, _), (24, _), (25, _), (32, _), (33, _), (34, _), (66, _), (67, _), (68, _)] [(1, _), (7, _), (9, _)] ?_
           refine sw_reg ?_
           refine rA ?_ (x := B_add)
           refine rA ?_ (x := sM)
           refine Exists.intro (m + 1) (And.intro (by refine ⟨by omega, ?_⟩; rw [freeOf_succ, hfr, Bool.true_and]; exact hap) (And.intro (by omega) (And.intro (And.intro (by exact ⟨rfl, rfl, rfl, rfl, rfl, rfl, rfl, rfl, rfl, rfl, rfl, rfl, ⟨⟩⟩) (by exact ⟨rfl, rfl, ⟨⟩⟩)) (And.intro (by exact And.intro (by exact rfl) (True.intro)) (by exact ⟨⟩)))))
         ·try simp only [q1, q2, q3, q4, q5, q6, q7, q8, q9] at hb19
          have hend3 : m = (preN s k).length + j := by omega
          refine sw_exit ?_
          refine sO [(1, _), (3, _), (5, _), (7, _), (23, _), (24, _), (25, _), (32, _), (33, _), (34, _), (66, _), (67, _), (68, _)] [(1, (35, [PV.sl _ _, PV.val _])), (7, (195, [PV.val _, PV.sl _ _, PV.val _, PV.val _]))] ?_
          refine sw_reg ?_
          refine rA ?_ (x := tM)
          refine rA ?_ (x := lD [PV.val _, PV.sl .v _, PV.val _, PV.val _] FSto_ty_195)
          refine rA ?_ (x := loc_bslice (qs := [(true, [PV.val _, PV.sl _ _, PV.val _, PV.val _])]) (by decide) FSto_sl_138 FSto_z_195 (by decide) rfl rfl rfl rfl rfl (by exact Nat.le_of_ble_eq_true rfl) (by exact (And.intro (by exact ⟨⟩) True.intro)) rfl)
          refine rA ?_ (x := loc_append (by decide) FSto_sl_138 FSto_z_195 rfl rfl (by decide) rfl (by simp only [List.length_map, List.length_append, List.length_cons, List.length_nil]; omega) (by simp only [List.length_map, List.length_append, List.length_cons, List.length_nil]; omega))
          refine rA ?_ (x := tA)
          refine sO [(1, _), (3, _), (5, _), (7, _), (23, _), (24, _), (25, _), (32, _), (33, _), (34, _), (66, _), (67, _), (68, _)] [(1, _), (7, _)] ?_
          refine sw_reg ?_
          refine rA ?_ (x := B_add)
          refine rA ?_ (x := sM)
          refine Exists.intro (j + 1) (And.intro (by refine ⟨by omega, ?_⟩; rw [← Nat.add_assoc, goodTo_succ, hg, Bool.true_and]; unfold goodV; rw [hag.2, hvo, Bool.true_and, ← hend3]; rw [hend3] at hfr ⊢; exact hfr) (And.intro (by omega) (And.intro (And.intro (by exact ⟨rfl, rfl, rfl, rfl, rfl, rfl, rfl, ⟨⟩⟩) (by exact ⟨rfl, ⟨⟩⟩)) (And.intro (by exact And.intro (by exact slc_eq (by rw [List.take_succ_eq_append_getElem hlt2]; simp only [List.map_append, List.append_assoc]; rfl)) (And.intro (by exact rfl) (True.intro))) (by exact ⟨⟩)))))
     ·try simp only [q1, q2, q3, q4, q5, q6, q7, q8, q9] at hb6
      have hend2 : j = s.Segments[k].length := by omega
      refine sw_exit ?_
      refine sO [(1, _), (3, _), (5, _), (23, _), (24, _), (25, _), (32, _), (33, _), (34, _)] [(1, (35, [PV.sl _ _, PV.val _]))] ?_
      refine sw_reg ?_
      refine rA ?_ (x := B_add)
      refine rA ?_ (x := sM)
      refine Exists.intro (k + 1) (And.intro (by exact ⟨by omega, ⟨all_succ ha.1 hlt hyes, by rw [preN_succ hlt, List.length_append, ← hend2]; exact hg⟩⟩) (And.intro (by omega) (And.intro (And.intro (by exact ⟨rfl, rfl, rfl, ⟨⟩⟩) (by exact ⟨rfl, ⟨⟩⟩)) (And.intro (by exact And.intro (by exact slc_eq (by rw [hend2, List.take_length, preN_succ hlt])) (And.intro (by exact rfl) (True.intro))) (by exact ⟨⟩)))))
   ·try simp only [q1, q2, q3, q4, q5, q6, q7, q8, q9] at hb4
    have hend : k = s.Segments.length := by omega
    have hsm : s.Segments.all smallS = true := all_end (by rw [← hend]; exact ha.1)
    have hgd := ha.2
    rw [hend, allV_end] at hgd
    refine sw_exit ?_
    refine sw_seq ?_
    refine sO [(1, _), (3, _), (23, _), (24, _), (25, _)] [(1, (35, [PV.sl _ _, PV.val _]))] ?_
    refine sw_reg ?_
    refine rA ?_ (x := kA)
    refine sw_ret ?_
    exact (And.intro (by refine bool_eq ?_; unfold okStore; rw [hpr, hsm, hgd]; rfl) True.intro)
end Go.Proofs.YteflgldonmgejaaGreatDoor
