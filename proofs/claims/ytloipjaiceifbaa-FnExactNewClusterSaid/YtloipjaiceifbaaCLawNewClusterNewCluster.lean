/- What functions of the program compute. No condition. -/
import Derived.Test.YtloipjaiceifbaaCToNewCluster
import Derived.Test.YtloipjaiceifbaaCEqNewCluster
import Derived.Test.YtloipjaiceifbaaCMkNewCluster
import Derived.Test.YtloipjaiceifbaaCHeNewCluster
import Derived.Test.YtloipjaiceifbaaCCluINewCluster
import Derived.KernelRfl
set_option linter.unusedVariables false
set_option linter.unusedSimpArgs false
namespace Go.Proofs.Ytloipjaiceifbaa
open Go Go.RowKit M
set_option maxRecDepth 10000
theorem FLawNewCluster_c_32 : callI Try.prog 32 = true := by kernel_rfl
theorem FLawNewCluster_c_33 : callI Try.prog 33 = true := by kernel_rfl
theorem FLawNewCluster_c_34 : callI Try.prog 34 = true := by kernel_rfl
theorem FLawNewCluster_c_35 : callI Try.prog 35 = true := by kernel_rfl
theorem FLawNewCluster_c_36 : callI Try.prog 36 = true := by kernel_rfl
theorem FLawNewCluster_c_37 : callI Try.prog 37 = true := by kernel_rfl
theorem FLawNewCluster_c_38 : callI Try.prog 38 = true := by kernel_rfl
theorem FLawNewCluster_c_39 : callI Try.prog 39 = true := by kernel_rfl
theorem FLawNewCluster_c_40 : callI Try.prog 40 = true := by kernel_rfl
theorem FLawNewCluster_c_41 : callI Try.prog 41 = true := by kernel_rfl
theorem FLawNewCluster_c_42 : callI Try.prog 42 = true := by kernel_rfl
theorem FLawNewCluster_c_43 : callI Try.prog 43 = true := by kernel_rfl
theorem FLawNewCluster_c_44 : callI Try.prog 44 = true := by kernel_rfl
theorem FLawNewCluster_ty_3 : tyI Try.prog 3 = some (false, 1) := by kernel_rfl
theorem FLawNewCluster_ty_50 : tyI Try.prog 50 = some (true, 4) := by kernel_rfl
theorem FLawNewCluster_ty_51 : tyI Try.prog 51 = some (false, 1) := by kernel_rfl
theorem FLawNewCluster_ty_56 : tyI Try.prog 56 = some (true, 4) := by kernel_rfl
theorem FLawNewCluster_ty_60 : tyI Try.prog 60 = some (true, 11) := by kernel_rfl
theorem FLawNewCluster_ub_4 : Try.prog.underlying 4 = some .bool := by kernel_rfl
theorem FLawNewCluster_z_56 : zeroI Try.prog 56 = some (.agg #[.int .i64 0, .int .i64 0, .slice none 0 0, .slice none 0 0]) := by kernel_rfl
theorem FLawNewCluster_z_60 : zeroI Try.prog 60 = some (.agg #[.int .i64 0, .int .i64 0, .slice none 0 0, .slice none 0 0, .slice none 0 0, .slice none 0 0, .slice none 0 0, .slice none 0 0, .slice none 0 0, .slice none 0 0, .slice none 0 0]) := by kernel_rfl
theorem FLawNewCluster_zo_56 {Fz : FzT} {w : World} : OwnL [PV.val (.int .i64 0), PV.val (.int .i64 0), PV.sl (.own 130 3) [], PV.sl (.own 3 1) []] Fz w (Value.cells (.agg #[.int .i64 0, .int .i64 0, .slice none 0 0, .slice none 0 0])).toList [] := zo_val rfl (zo_val rfl (zo_sl (zo_sl (zo_nil))))
theorem FLawNewCluster_zo_60 {Fz : FzT} {w : World} : OwnL [PV.val (.int .i64 0), PV.val (.int .i64 0), PV.sl (.own 130 3) [], PV.sl (.own 3 1) [], PV.sl (.own 32 1) [], PV.sl (.own 4 1) [], PV.sl (.own 3 1) [], PV.sl (.own 3 1) [], PV.sl (.own 32 1) [], PV.sl (.own 3 1) [], PV.sl (.own 32 1) []] Fz w (Value.cells (.agg #[.int .i64 0, .int .i64 0, .slice none 0 0, .slice none 0 0, .slice none 0 0, .slice none 0 0, .slice none 0 0, .slice none 0 0, .slice none 0 0, .slice none 0 0, .slice none 0 0])).toList [] := zo_val rfl (zo_val rfl (zo_sl (zo_sl (zo_sl (zo_sl (zo_sl (zo_sl (zo_sl (zo_sl (zo_sl (zo_nil)))))))))))
theorem law_NewCluster {p3 p4 : Fl} {aQ : Query} {aParts : List (List Row)} {aNodes : Int}  : SCall Try.prog 6 [(true, [PV.val (vI aQ.Id), PV.val (vI aQ.Tenant), PV.sl .v (aQ.Conds.map cCond), PV.sl .v (aQ.Out.map cInt)]), (false, [PV.sl .v (aParts.map (cRowS p3 p4))]), (false, [PV.val (vI aNodes)])] (resRV [(false, [PV.val (.bool true)])]) := by
 refine scall_lo (largs := fun L => [(true, [PV.val (vI aQ.Id), PV.val (vI aQ.Tenant), PV.sl (.lo L) (aQ.Conds.map cCond), PV.sl (.lo L) (aQ.Out.map cInt)]), (false, [PV.sl (.lo L) (aParts.map (cRowS (.lo L) (.lo L)))]), (false, [PV.val (vI aNodes)])]) (rs := [(false, [PV.val (.bool true)])]) Try.func6 rfl (Nat.le_of_ble_eq_true rfl) (fun L => by exact (And.intro (And.intro rfl (ToBL.cons PV.tob_refl (ToBL.cons PV.tob_refl (ToBL.cons (PV.tob_map (fun _ => Nat.le_of_ble_eq_true rfl) (fun _ => (ToBL.cons PV.tob_refl (ToBL.cons PV.tob_refl (ToBL.cons PV.tob_refl ToBL.nil))))) (ToBL.cons (PV.tob_map (fun _ => Nat.le_of_ble_eq_true rfl) (fun _ => (ToBL.cons PV.tob_refl ToBL.nil))) ToBL.nil))))) (And.intro (And.intro rfl (ToBL.cons (PV.tob_map (fun _ => Nat.le_of_ble_eq_true rfl) (fun _ => (ToBL.cons (PV.tob_map (fun _ => Nat.le_of_ble_eq_true rfl) (fun _ => (ToBL.cons PV.tob_refl (ToBL.cons (PV.tob_map (fun _ => Nat.le_of_ble_eq_true rfl) (fun _ => (ToBL.cons PV.tob_refl ToBL.nil))) ToBL.nil)))) ToBL.nil))) ToBL.nil)) (And.intro (And.intro rfl (ToBL.cons PV.tob_refl ToBL.nil)) True.intro)))) (fun L => by exact (borA_cons (BorL.cons (PV.bor_val _) (BorL.cons (PV.bor_val _) (BorL.cons (PV.bor_lo _ _) (BorL.cons (PV.bor_lo _ _) BorL.nil)))) (borA_cons (BorL.cons (PV.bor_lo _ _) BorL.nil) (borA_cons (BorL.cons (PV.bor_val _) BorL.nil) borA_nil)))) ?_
 intro w0 Fz0
 refine sw_slen (s := 0) (j := 2) rfl rfl fun hl0_2 => ?_
 try rw [List.length_map] at hl0_2
 refine sw_slen (s := 0) (j := 3) rfl rfl fun hl0_3 => ?_
 try rw [List.length_map] at hl0_3
 refine sw_len (s := 1) rfl fun hl1 => ?_
 try rw [List.length_map] at hl1
 refine sw_seq ?_
 refine sw_reg ?_
 refine RunS.step (by exact ⟨rfl, ⟨⟩⟩) (by exact ⟨⟩) (LocG.of rfl (loc_box (ag := true) (cs := [PV.val _, PV.val _, PV.sl (.lo _) _, PV.sl (.lo _) _]) (by decide) (by exact ⟨⟩))) (free1 (Free.of_ rfl)) ?_
 refine rA ?_ (x := kA)
 refine sw_seq ?_
 refine sO [(1, _), (2, _), (3, _), (6, _)] [(3, (50, [PV.val _, PV.val _, PV.sl (.lo _) _, PV.sl (.lo _) _]))] ?_
 refine sw_reg ?_
 refine rA ?_ (x := kA)
 refine sw_seq ?_
 refine sO [(1, _), (2, _), (3, _), (6, _), (7, _)] [(3, _)] ?_
 refine sw_reg ?_
 refine rA ?_ (x := lD [PV.val _, PV.val _, PV.sl (.lo _) _, PV.sl (.lo _) _] FLawNewCluster_ty_50)
 refine rA ?_ (x := sM)
 refine rA ?_ (x := cL [(true, [PV.val _, PV.val _, PV.sl (.lo _) _, PV.sl (.lo _) _]), (false, [PV.val _])] [(true, [PV.val _, PV.val _, PV.sl .v _, PV.sl .v _]), (false, [PV.val _])] FLawNewCluster_c_32 (hs := by exact sz_Query (by omega) (by omega)))
 refine rA ?_ (x := sA)
 refine sw_seq ?_
 refine sw_seq ?_
 refine sO [(1, _), (2, _), (3, _), (6, _), (7, _)] [(3, _)] ?_
 refine sw_reg ?_
 refine rA ?_ (x := sM)
 refine rA ?_ (x := B_lss)
 refine sw_cond (t := 23) rfl (fun hb1 => ?_) (fun hb1 => ?_)
 ·try simp only [q1, q2, q3, q4, q5, q6, q7, q8, q9] at hb1
  refine sw_seq ?_
  refine sO [(1, _), (2, _), (3, _), (6, _), (7, _)] [(3, _)] ?_
  refine sw_reg ?_
  refine rA ?_ (x := kA)
  refine sw_ret ?_
  exact (And.intro (by exact rfl) True.intro)
 ·try simp only [q1, q2, q3, q4, q5, q6, q7, q8, q9] at hb1
  have hp0 := szR_pos (w := wtQuery aQ) (l := 1048576) hb1
  have he0 := szR_yes hp0
  refine sw_skip ?_
  refine sw_seq ?_
  refine sO [(1, _), (2, _), (3, _), (6, _), (7, _)] [(3, _)] ?_
  refine sw_reg ?_
  refine rA ?_ (x := vM false [PV.sl (.lo _) _])
  refine rA ?_ (x := sM)
  refine rA ?_ (x := cL [(false, [PV.sl (.lo _) _]), (false, [PV.val _])] [(false, [PV.sl .v _]), (false, [PV.val _])] FLawNewCluster_c_33 (hs := by exact sz_RowSS (by omega) (by omega)))
  refine rA ?_ (x := sA)
  refine sw_seq ?_
  refine sw_seq ?_
  refine sO [(1, _), (2, _), (3, _), (6, _), (7, _)] [(3, _)] ?_
  refine sw_reg ?_
  refine rA ?_ (x := sM)
  refine rA ?_ (x := B_lss)
  refine sw_cond (t := 28) rfl (fun hb2 => ?_) (fun hb2 => ?_)
  ·try simp only [q1, q2, q3, q4, q5, q6, q7, q8, q9] at hb2
   refine sw_seq ?_
   refine sO [(1, _), (2, _), (3, _), (6, _), (7, _)] [(3, _)] ?_
   refine sw_reg ?_
   refine rA ?_ (x := kA)
   refine sw_ret ?_
   exact (And.intro (by exact rfl) True.intro)
  ·try simp only [q1, q2, q3, q4, q5, q6, q7, q8, q9] at hb2
   have hp1 := szR_pos (w := wtRowSS aParts) (l := (szR 1048576 (wtQuery aQ))) hb2
   have he1 := szR_yes hp1
   have hw0 := newCluster_wt aQ aParts aNodes
   refine sw_skip ?_
   refine sw_seq ?_
   refine sO [(1, _), (2, _), (3, _), (6, _), (7, _)] [(3, _)] ?_
   refine sw_reg ?_
   refine rA ?_ (x := lD [PV.val _, PV.val _, PV.sl (.lo _) _, PV.sl (.lo _) _] FLawNewCluster_ty_50)
   refine rA ?_ (x := cL [(true, [PV.val _, PV.val _, PV.sl (.lo _) _, PV.sl (.lo _) _])] [(true, [PV.val _, PV.val _, PV.sl .v _, PV.sl .v _])] FLawNewCluster_c_35 (hs := by exact to_Query (by omega)))
   refine rA ?_ (x := vM false [PV.sl (.lo _) _])
   refine rA ?_ (x := cL [(false, [PV.sl (.lo _) _])] [(false, [PV.sl .v _])] FLawNewCluster_c_36 (hs := by exact to_RowSS (by omega)))
   refine rA ?_ (x := sM)
   refine rA ?_ (x := cL [(true, [PV.val _, PV.val _, PV.sl _ _, PV.sl _ _]), (false, [PV.sl _ _]), (false, [PV.val _])] [(true, [PV.val _, PV.val _, PV.sl .v _, PV.sl .v _]), (false, [PV.sl .v _]), (false, [PV.val _])] FLawNewCluster_c_34 (hs := by exact spec_NewCluster (by omega) (by omega)))
   refine rA ?_ (x := tM)
   refine rA ?_ (x := loc_extract (cs := [PV.val _, PV.val _, PV.sl _ _, PV.sl _ _, PV.sl _ _, PV.sl _ _, PV.sl _ _, PV.sl _ _, PV.sl _ _, PV.sl _ _, PV.sl _ _]) (qs := [PV.val _, PV.val _, PV.sl .v _, PV.sl .v _, PV.sl .v _, PV.sl .v _, PV.sl .v _, PV.sl .v _, PV.sl .v _, PV.sl .v _, PV.sl .v _]) (by decide) (by exact rfl) (by exact (ToL.cons (PV.To.refl _) (ToL.cons (PV.To.refl _) (ToL.cons PV.to_none (ToL.cons PV.to_none (ToL.cons PV.to_none (ToL.cons PV.to_none (ToL.cons PV.to_none (ToL.cons PV.to_none (ToL.cons PV.to_none (ToL.cons PV.to_none (ToL.cons PV.to_none ToL.nil)))))))))))) (by exact (BorL.cons (PV.bor_val _) (BorL.cons (PV.bor_val _) (BorL.cons (PV.bor_sl _) (BorL.cons (PV.bor_sl _) (BorL.cons (PV.bor_sl _) (BorL.cons (PV.bor_sl _) (BorL.cons (PV.bor_sl _) (BorL.cons (PV.bor_sl _) (BorL.cons (PV.bor_sl _) (BorL.cons (PV.bor_sl _) (BorL.cons (PV.bor_sl _) BorL.nil)))))))))))))
   refine rA ?_ (x := loc_extractb (cs := [PV.val _]) (by decide) (by exact rfl) (by exact (BorL.cons (PV.bor_val _) BorL.nil)))
   refine RunS.step (by exact ⟨⟩) (by exact ⟨⟩) (LocG.of rfl (loc_alloc (by decide) FLawNewCluster_z_60 FLawNewCluster_zo_60)) (free1 (Free.app (Free.app (Free.app (Free.app (Free.app (Free.app (Free.app (Free.app (Free.app (Free.of_ rfl) rfl) rfl) rfl) rfl) rfl) rfl) rfl) rfl) rfl)) ?_
   refine rA ?_ (x := loc_store (ag := true) (vs := [PV.val _, PV.val _, PV.sl _ _, PV.sl _ _, PV.sl _ _, PV.sl _ _, PV.sl _ _, PV.sl _ _, PV.sl _ _, PV.sl _ _, PV.sl _ _]) FLawNewCluster_ty_60 (by exact ⟨⟩) (by exact rfl) (by exact Nat.le_of_ble_eq_true rfl))
   refine rA ?_ (x := sA)
   refine sw_seq ?_
   refine sO [(1, _), (2, _), (3, _), (6, _), (7, _), (8, _), (9, _)] [(3, _), (8, (60, [PV.val _, PV.val _, PV.sl _ _, PV.sl _ _, PV.sl _ _, PV.sl _ _, PV.sl _ _, PV.sl _ _, PV.sl _ _, PV.sl _ _, PV.sl _ _]))] ?_
   refine sw_reg ?_
   refine rA ?_ (x := lD [PV.val _, PV.val _, PV.sl (.lo _) _, PV.sl (.lo _) _] FLawNewCluster_ty_50)
   refine rA ?_ (x := cL [(true, [PV.val _, PV.val _, PV.sl (.lo _) _, PV.sl (.lo _) _])] [(true, [PV.val _, PV.val _, PV.sl .v _, PV.sl .v _])] FLawNewCluster_c_35 (hs := by exact to_Query (by omega)))
   refine RunS.step (by exact ⟨⟩) (by exact ⟨⟩) (LocG.of rfl (loc_alloc (by decide) FLawNewCluster_z_56 FLawNewCluster_zo_56)) (free1 (Free.app (Free.app (Free.of_ rfl) rfl) rfl)) ?_
   refine rA ?_ (x := loc_store (ag := true) (vs := [PV.val _, PV.val _, PV.sl _ _, PV.sl _ _]) FLawNewCluster_ty_56 (by exact ⟨⟩) (by exact rfl) (by exact Nat.le_of_ble_eq_true rfl))
   refine sw_seq ?_
   refine sO [(1, _), (2, _), (3, _), (6, _), (7, _), (8, _), (9, _), (10, _)] [(3, _), (8, _), (10, (56, [PV.val _, PV.val _, PV.sl _ _, PV.sl _ _]))] ?_
   refine sw_reg ?_
   refine rA ?_ (x := vM false [PV.sl (.lo _) _])
   refine rA ?_ (x := cL [(false, [PV.sl (.lo _) _])] [(false, [PV.sl .v _])] FLawNewCluster_c_36 (hs := by exact to_RowSS (by omega)))
   refine rA ?_ (x := tA)
   refine sw_seq ?_
   refine sO [(1, _), (2, _), (3, _), (6, _), (7, _), (8, _), (9, _), (10, _), (11, _)] [(3, _), (8, _), (10, _)] ?_
   refine sw_reg ?_
   refine rA ?_ (x := lD [PV.val _, PV.val _, PV.sl .v _, PV.sl .v _] FLawNewCluster_ty_56)
   refine rA ?_ (x := vM false [PV.sl .v _])
   refine rA ?_ (x := sM)
   refine rA ?_ (x := cL [(true, [PV.val _, PV.val _, PV.sl _ _, PV.sl _ _]), (false, [PV.sl _ _]), (false, [PV.val _])] [(true, [PV.val _, PV.val _, PV.sl .v _, PV.sl .v _]), (false, [PV.sl .v _]), (false, [PV.val _])] FLawNewCluster_c_37 (hs := by exact impl_NewCluster (by omega) (by omega)))
   refine rA ?_ (x := tM)
   refine rA ?_ (x := loc_extract (cs := [PV.val _, PV.val _, PV.sl _ _, PV.sl _ _, PV.sl _ _, PV.sl _ _, PV.sl _ _, PV.sl _ _, PV.sl _ _, PV.sl _ _, PV.sl _ _]) (qs := [PV.val _, PV.val _, PV.sl .v _, PV.sl .v _, PV.sl .v _, PV.sl .v _, PV.sl .v _, PV.sl .v _, PV.sl .v _, PV.sl .v _, PV.sl .v _]) (by decide) (by exact rfl) (by exact (ToL.cons (PV.To.refl _) (ToL.cons (PV.To.refl _) (ToL.cons PV.to_none (ToL.cons PV.to_none (ToL.cons PV.to_none (ToL.cons PV.to_none (ToL.cons PV.to_none (ToL.cons PV.to_none (ToL.cons PV.to_none (ToL.cons PV.to_none (ToL.cons PV.to_none ToL.nil)))))))))))) (by exact (BorL.cons (PV.bor_val _) (BorL.cons (PV.bor_val _) (BorL.cons (PV.bor_sl _) (BorL.cons (PV.bor_sl _) (BorL.cons (PV.bor_sl _) (BorL.cons (PV.bor_sl _) (BorL.cons (PV.bor_sl _) (BorL.cons (PV.bor_sl _) (BorL.cons (PV.bor_sl _) (BorL.cons (PV.bor_sl _) (BorL.cons (PV.bor_sl _) BorL.nil)))))))))))))
   refine rA ?_ (x := loc_extractb (cs := [PV.val _]) (by decide) (by exact rfl) (by exact (BorL.cons (PV.bor_val _) BorL.nil)))
   refine RunS.step (by exact ⟨⟩) (by exact ⟨⟩) (LocG.of rfl (loc_alloc (by decide) FLawNewCluster_z_60 FLawNewCluster_zo_60)) (free1 (Free.app (Free.app (Free.app (Free.app (Free.app (Free.app (Free.app (Free.of_ rfl) rfl) rfl) rfl) rfl) rfl) rfl) rfl)) ?_
   refine rA ?_ (x := loc_store (ag := true) (vs := [PV.val _, PV.val _, PV.sl _ _, PV.sl _ _, PV.sl _ _, PV.sl _ _, PV.sl _ _, PV.sl _ _, PV.sl _ _, PV.sl _ _, PV.sl _ _]) FLawNewCluster_ty_60 (by exact ⟨⟩) (by exact rfl) (by exact Nat.le_of_ble_eq_true rfl))
   refine rA ?_ (x := sA)
   refine sw_seq ?_
   refine sw_seq ?_
   refine sO [(1, _), (2, _), (3, _), (6, _), (7, _), (8, _), (9, _), (10, _), (11, _), (12, _), (13, _)] [(3, _), (8, _), (10, _), (12, (60, [PV.val _, PV.val _, PV.sl _ _, PV.sl _ _, PV.sl _ _, PV.sl _ _, PV.sl _ _, PV.sl _ _, PV.sl _ _, PV.sl _ _, PV.sl _ _]))] ?_
   refine sw_reg ?_
   refine rA ?_ (x := lD [PV.val _, PV.val _, PV.sl .v _, PV.sl .v _, PV.sl .v _, PV.sl .v _, PV.sl .v _, PV.sl .v _, PV.sl .v _, PV.sl .v _, PV.sl .v _] FLawNewCluster_ty_60)
   refine rA ?_ (x := lD [PV.val _, PV.val _, PV.sl .v _, PV.sl .v _, PV.sl .v _, PV.sl .v _, PV.sl .v _, PV.sl .v _, PV.sl .v _, PV.sl .v _, PV.sl .v _] FLawNewCluster_ty_60)
   refine rA ?_ (x := cL [(true, [PV.val _, PV.val _, PV.sl _ _, PV.sl _ _, PV.sl _ _, PV.sl _ _, PV.sl _ _, PV.sl _ _, PV.sl _ _, PV.sl _ _, PV.sl _ _]), (true, [PV.val _, PV.val _, PV.sl _ _, PV.sl _ _, PV.sl _ _, PV.sl _ _, PV.sl _ _, PV.sl _ _, PV.sl _ _, PV.sl _ _, PV.sl _ _])] [(true, [PV.val _, PV.val _, PV.sl .v _, PV.sl .v _, PV.sl .v _, PV.sl .v _, PV.sl .v _, PV.sl .v _, PV.sl .v _, PV.sl .v _, PV.sl .v _]), (true, [PV.val _, PV.val _, PV.sl .v _, PV.sl .v _, PV.sl .v _, PV.sl .v _, PV.sl .v _, PV.sl .v _, PV.sl .v _, PV.sl .v _, PV.sl .v _])] FLawNewCluster_c_38 (hs := by exact eq_Cluster))
   refine rA ?_ (x := nT)
   refine rA ?_ (x := sM)
   refine RunS.cases (s := 53) rfl (fun g3 => ?_) (fun g3 => ?_)
   ·first | (simp [deq_self] at g3; done) | (simp only [decide_eq_true_eq] at g3; omega)
   ·have sg3 := g3
    try simp only [q1, q2, q3, q4, q5, q6, q7, q8, q9] at sg3
    refine rB g3 ?_ (x := sM)
    refine rB g3 ?_ (x := sM)
    refine rB g3 ?_ (x := loc_bneq (by decide) FLawNewCluster_ub_4 (by exact ⟨⟩) (by exact ⟨⟩))
    refine rA ?_ (x := pkF g3)
    refine sw_cond (t := 57) rfl (fun hb4 => ?_) (fun hb4 => ?_)
    ·try simp only [q1, q2, q3, q4, q5, q6, q7, q8, q9] at hb4
     first | exact absurd rfl hb4 | (simp [deq_self] at hb4; done) | omega
    ·try simp only [q1, q2, q3, q4, q5, q6, q7, q8, q9] at hb4
     refine sw_skip ?_
     refine sw_seq ?_
     refine sw_seq ?_
     refine sO [(1, _), (2, _), (3, _), (6, _), (7, _), (8, _), (9, _), (10, _), (11, _), (12, _), (13, _)] [(3, _), (8, _), (10, _), (12, _)] ?_
     refine sw_draw hm_ ?_
     refine dA 0 ?_ (x := lD [PV.val _, PV.val _, PV.sl .v _, PV.sl .v _] FLawNewCluster_ty_56)
     refine dA 0 ?_ (x := lD [PV.val _, PV.val _, PV.sl (.lo _) _, PV.sl (.lo _) _] FLawNewCluster_ty_50)
     refine dA 2 ?_ (x := cL [(true, [PV.val _, PV.val _, PV.sl (.lo _) _, PV.sl (.lo _) _])] [(true, [PV.val _, PV.val _, PV.sl .v _, PV.sl .v _])] FLawNewCluster_c_35 (hs := by exact to_Query (by omega)))
     refine dA 7 ?_ (x := cL [(true, [PV.val _, PV.val _, PV.sl _ _, PV.sl _ _]), (true, [PV.val _, PV.val _, PV.sl _ _, PV.sl _ _])] [(true, [PV.val _, PV.val _, PV.sl .v _, PV.sl .v _]), (true, [PV.val _, PV.val _, PV.sl .v _, PV.sl .v _])] FLawNewCluster_c_39 (hs := by exact eq_Query))
     refine dA 15 ?_ (x := nT)
     refine sw_cond (t := 62) rfl (fun hb5 => ?_) (fun hb5 => ?_)
     ·try simp only [q1, q2, q3, q4, q5, q6, q7, q8, q9] at hb5
      first | exact absurd rfl hb5 | (simp [deq_self] at hb5; done) | omega
     ·try simp only [q1, q2, q3, q4, q5, q6, q7, q8, q9] at hb5
      refine sw_skip ?_
      refine sw_seq ?_
      refine sw_seq ?_
      refine sO [(1, _), (2, _), (3, _), (6, _), (7, _), (8, _), (9, _), (10, _), (11, _), (12, _), (13, _)] [(3, _), (8, _), (10, _), (12, _)] ?_
      refine sw_reg ?_
      refine rA ?_ (x := vM false [PV.sl .v _])
      refine rA ?_ (x := vM false [PV.sl (.lo _) _])
      refine rA ?_ (x := cL [(false, [PV.sl (.lo _) _])] [(false, [PV.sl .v _])] FLawNewCluster_c_36 (hs := by exact to_RowSS (by omega)))
      refine rA ?_ (x := cL [(false, [PV.sl _ _]), (false, [PV.sl _ _])] [(false, [PV.sl .v _]), (false, [PV.sl .v _])] FLawNewCluster_c_40 (hs := by exact eq_RowSS))
      refine rA ?_ (x := nT)
      refine sw_cond (t := 67) rfl (fun hb6 => ?_) (fun hb6 => ?_)
      ·try simp only [q1, q2, q3, q4, q5, q6, q7, q8, q9] at hb6
       first | exact absurd rfl hb6 | (simp [deq_self] at hb6; done) | omega
      ·try simp only [q1, q2, q3, q4, q5, q6, q7, q8, q9] at hb6
       refine sw_skip ?_
       refine sw_seq ?_
       refine sO [(1, _), (2, _), (3, _), (6, _), (7, _), (8, _), (9, _), (10, _), (11, _), (12, _), (13, _)] [(3, _), (8, _), (10, _), (12, _)] ?_
       refine sw_reg ?_
       refine rA ?_ (x := kA)
       refine sw_seq ?_
       refine sO [(1, _), (2, _), (3, _), (6, _), (7, _), (8, _), (9, _), (10, _), (11, _), (12, _), (13, _), (14, _)] [(3, _), (8, _), (10, _), (12, _)] ?_
       refine sw_nmB (d := 10) (A := []) (ms := [PV.val _, PV.val _, PV.sl _ _, PV.sl _ _]) (B := []) (by exact rfl) fun us hus => ?_
       obtain ⟨u7_0, u7_1, u7_2, u7_3, rfl⟩ := us_4 hus
       have hq8 := mkV_Query_le aQ 1
       have hq9 := ctV_Query aQ 1
       refine sO [(1, _), (2, _), (3, _), (6, _), (7, _), (8, _), (9, _), (10, _), (11, _), (12, _), (13, _), (14, _)] [(3, _), (8, _), (10, (56, [PV.nv _ (PV.val _), PV.nv _ (PV.val _), PV.nv _ (PV.sl _ _), PV.nv _ (PV.sl _ _)])), (12, _)] ?_
       refine sw_regL ?_
       refine swl_step (by exact ⟨rfl, ⟨⟩⟩) (by exact ⟨rfl, ⟨⟩⟩) (LocG.of rfl (loc_load (qs := [PV.val _, PV.val _, PV.val _, PV.val _]) (by decide) FLawNewCluster_ty_56 (fun h => nomatch h) (by exact Nat.le_of_ble_eq_true rfl) (by exact (ToL.cons PV.nv_val (ToL.cons PV.nv_val (ToL.cons PV.nv_val (ToL.cons PV.nv_val ToL.nil))))) (by exact (BorL.cons (PV.bor_val _) (BorL.cons (PV.bor_val _) (BorL.cons (PV.bor_val _) (BorL.cons (PV.bor_val _) BorL.nil))))))) nofree ?_
       refine swl_step (by exact ⟨rfl, ⟨⟩⟩) (by exact ⟨⟩) (LocG.of rfl (loc_copy (.inl rfl) (by decide) (by exact Cp.sc))) nofree ?_
       refine swl_of (l := [(1, RV.sv false [PV.sl (.lo _) _]), (2, RV.sv false [PV.val _]), (3, RV.ptr 3 0), (6, RV.sv false [PV.val _]), (7, RV.sv false [PV.val _]), (8, RV.ptr 8 0), (9, RV.sv false [PV.val _]), (10, RV.ptr 10 0), (11, RV.sv false [PV.sl _ _]), (12, RV.ptr 12 0), (13, RV.sv false [PV.val _]), (14, RV.sv false [PV.val _]), (68, RV.sv true [PV.val _, PV.val _, PV.val _, PV.val _]), (69, RV.sv false [PV.val _])]) (b := [(3, (50, [PV.val _, PV.val _, PV.sl (.lo _) _, PV.sl (.lo _) _])), (8, (60, [PV.val _, PV.val _, PV.sl _ _, PV.sl _ _, PV.sl _ _, PV.sl _ _, PV.sl _ _, PV.sl _ _, PV.sl _ _, PV.sl _ _, PV.sl _ _])), (10, (56, [PV.nv _ (PV.val _), PV.nv _ (PV.val _), PV.nv _ (PV.sl _ _), PV.nv _ (PV.sl _ _)])), (12, (60, [PV.val _, PV.val _, PV.sl _ _, PV.sl _ _, PV.sl _ _, PV.sl _ _, PV.sl _ _, PV.sl _ _, PV.sl _ _, PV.sl _ _, PV.sl _ _]))]) (by exact ⟨rfl, rfl, rfl, rfl, rfl, rfl, rfl, rfl, rfl, rfl, rfl, rfl, rfl, rfl, ⟨⟩⟩) (by exact ⟨rfl, rfl, rfl, rfl, ⟨⟩⟩) ?_
       refine swl_ucallB (bx := 10) (L := w0.heap.size) (A := []) (ms := [PV.nv _ (PV.val _), PV.nv _ (PV.val _), PV.nv _ (PV.sl _ _), PV.nv _ (PV.sl _ _)]) (B := []) (qr := [(false, [PV.val _])]) (as_ := [(false, [PV.val _])]) (by decide) FLawNewCluster_c_41 rfl (by exact rfl) (by exact (Nm.val (Nm.val (Nm.val (Nm.val Nm.nil))))) (by exact ⟨rfl, ⟨⟩⟩) (by exact (And.intro (by exact ⟨⟩) True.intro)) (by exact And.intro (And.intro rfl (ToL.cons (PV.To.refl _) ToL.nil)) True.intro) (by exact rfl) (by exact (Nm.nv (Nm.nv (Nm.nv (Nm.nv Nm.nil))))) (by exact (OwnTo.nv (OwnTo.nv (OwnTo.nv (OwnTo.nv OwnTo.nil))))) (by exact mark_Query (x := aQ) (by omega) (by omega)) (by exact (OwnFrom.nv (OwnFrom.nv (OwnFrom.nv (OwnFrom.nv OwnFrom.nil))))) (fun x hx => hx) (by exact (LclA.cons (RV.lcl_sv (LclC.cons (PV.lcl_lo (LclRC.map fun x => (LclRC.cons (PV.lclr_lo (LclRC.map fun x => (LclRC.cons PV.lclr_val (LclRC.cons (PV.lclr_lo (LclRC.map fun x => (LclRC.cons PV.lclr_val LclRC.nil))) LclRC.nil)))) LclRC.nil))) LclC.nil)) (LclA.cons (RV.lcl_sv (LclC.cons PV.lcl_val LclC.nil)) (LclA.cons RV.lcl_ptr (LclA.cons (RV.lcl_sv (LclC.cons PV.lcl_val LclC.nil)) (LclA.cons (RV.lcl_sv (LclC.cons PV.lcl_val LclC.nil)) (LclA.cons RV.lcl_ptr (LclA.cons (RV.lcl_sv (LclC.cons PV.lcl_val LclC.nil)) (LclA.cons RV.lcl_ptr (LclA.cons (RV.lcl_sv (LclC.cons (PV.lcl_own (LclC.map fun x => (LclC.cons (PV.lcl_own (LclC.map fun x => (LclC.cons PV.lcl_val (LclC.cons (PV.lcl_own (LclC.map fun x => (LclC.cons PV.lcl_val LclC.nil))) LclC.nil)))) LclC.nil))) LclC.nil)) (LclA.cons RV.lcl_ptr (LclA.cons (RV.lcl_sv (LclC.cons PV.lcl_val LclC.nil)) (LclA.cons (RV.lcl_sv (LclC.cons PV.lcl_val LclC.nil)) (LclA.cons (RV.lcl_sv (LclC.cons PV.lcl_val (LclC.cons PV.lcl_val (LclC.cons PV.lcl_val (LclC.cons PV.lcl_val LclC.nil))))) (LclA.cons (RV.lcl_sv (LclC.cons PV.lcl_val LclC.nil)) LclA.nil))))))))))))))) (by exact (And.intro (.inr (LclC.cons PV.lcl_val (LclC.cons PV.lcl_val (LclC.cons (PV.lcl_lo (LclRC.map fun x => (LclRC.cons PV.lclr_val (LclRC.cons PV.lclr_val (LclRC.cons PV.lclr_val LclRC.nil))))) (LclC.cons (PV.lcl_lo (LclRC.map fun x => (LclRC.cons PV.lclr_val LclRC.nil))) LclC.nil))))) (And.intro (.inr (LclC.cons PV.lcl_val (LclC.cons PV.lcl_val (LclC.cons (PV.lcl_own (LclC.map fun x => (LclC.cons PV.lcl_val (LclC.cons PV.lcl_val (LclC.cons PV.lcl_val LclC.nil))))) (LclC.cons (PV.lcl_own (LclC.map fun x => (LclC.cons PV.lcl_val LclC.nil))) (LclC.cons (PV.lcl_own (LclC.map fun x => (LclC.cons (PV.lcl_own (LclC.map fun x => (LclC.cons PV.lcl_val (LclC.cons (PV.lcl_own (LclC.map fun x => (LclC.cons PV.lcl_val LclC.nil))) LclC.nil)))) LclC.nil))) (LclC.cons (PV.lcl_own (LclC.map fun x => (LclC.cons PV.lcl_val LclC.nil))) (LclC.cons (PV.lcl_own (LclC.map fun x => (LclC.cons PV.lcl_val LclC.nil))) (LclC.cons (PV.lcl_own (LclC.map fun x => (LclC.cons PV.lcl_val LclC.nil))) (LclC.cons (PV.lcl_own (LclC.map fun x => (LclC.cons (PV.lcl_own (LclC.map fun x => (LclC.cons PV.lcl_val (LclC.cons (PV.lcl_own (LclC.map fun x => (LclC.cons PV.lcl_val LclC.nil))) LclC.nil)))) LclC.nil))) (LclC.cons (PV.lcl_own (LclC.map fun x => (LclC.cons PV.lcl_val LclC.nil))) (LclC.cons (PV.lcl_own (LclC.map fun x => (LclC.cons (PV.lcl_own (LclC.map fun x => (LclC.cons PV.lcl_val (LclC.cons (PV.lcl_own (LclC.map fun x => (LclC.cons PV.lcl_val LclC.nil))) LclC.nil)))) LclC.nil))) LclC.nil)))))))))))) (And.intro (.inl rfl) (And.intro (.inr (LclC.cons PV.lcl_val (LclC.cons PV.lcl_val (LclC.cons (PV.lcl_own (LclC.map fun x => (LclC.cons PV.lcl_val (LclC.cons PV.lcl_val (LclC.cons PV.lcl_val LclC.nil))))) (LclC.cons (PV.lcl_own (LclC.map fun x => (LclC.cons PV.lcl_val LclC.nil))) (LclC.cons (PV.lcl_own (LclC.map fun x => (LclC.cons (PV.lcl_own (LclC.map fun x => (LclC.cons PV.lcl_val (LclC.cons (PV.lcl_own (LclC.map fun x => (LclC.cons PV.lcl_val LclC.nil))) LclC.nil)))) LclC.nil))) (LclC.cons (PV.lcl_own (LclC.map fun x => (LclC.cons PV.lcl_val LclC.nil))) (LclC.cons (PV.lcl_own (LclC.map fun x => (LclC.cons PV.lcl_val LclC.nil))) (LclC.cons (PV.lcl_own (LclC.map fun x => (LclC.cons PV.lcl_val LclC.nil))) (LclC.cons (PV.lcl_own (LclC.map fun x => (LclC.cons (PV.lcl_own (LclC.map fun x => (LclC.cons PV.lcl_val (LclC.cons (PV.lcl_own (LclC.map fun x => (LclC.cons PV.lcl_val LclC.nil))) LclC.nil)))) LclC.nil))) (LclC.cons (PV.lcl_own (LclC.map fun x => (LclC.cons PV.lcl_val LclC.nil))) (LclC.cons (PV.lcl_own (LclC.map fun x => (LclC.cons (PV.lcl_own (LclC.map fun x => (LclC.cons PV.lcl_val (LclC.cons (PV.lcl_own (LclC.map fun x => (LclC.cons PV.lcl_val LclC.nil))) LclC.nil)))) LclC.nil))) LclC.nil)))))))))))) True.intro))))) (by exact LclC.nil) (by exact LclC.nil) rfl ?_
       refine swl_step (by exact ⟨rfl, ⟨⟩⟩) (by exact ⟨⟩) (LocG.of rfl (loc_copy (.inr rfl) (by decide) (by exact Cp.sc))) nofree ?_
       refine swl_nil ?_
       refine sw_seq ?_
       refine sO [(1, _), (2, _), (3, _), (6, _), (7, _), (8, _), (9, _), (10, _), (11, _), (12, _), (13, _), (14, _)] [(3, _), (8, _), (10, _), (12, _)] ?_
       refine sw_nmS (s := 11) (by exact rfl) fun us hus => ?_
       obtain ⟨u10_0, rfl⟩ := us_1 hus
       have hq11 := mkL_le mkE_RowS_le aParts (mkV_Query aQ 1).2
       have hq12 := ctL_RowSS aParts (mkV_Query aQ 1).2
       refine sO [(1, _), (2, _), (3, _), (6, _), (7, _), (8, _), (9, _), (10, _), (11, _), (12, _), (13, _), (14, _)] [(3, _), (8, _), (10, _), (12, _)] ?_
       refine sw_regL ?_
       refine swl_step (by exact ⟨rfl, ⟨⟩⟩) (by exact ⟨⟩) (LocG.of rfl (loc_copy (r' := RV.sv false [PV.val _]) (.inl rfl) (by decide) (by exact Cp.sv (ToL.cons PV.nv_val ToL.nil) (BorL.cons (PV.bor_val _) BorL.nil)))) nofree ?_
       refine swl_step (by exact ⟨rfl, ⟨⟩⟩) (by exact ⟨⟩) (LocG.of rfl (loc_copy (.inl rfl) (by decide) (by exact Cp.sc))) nofree ?_
       refine swl_of (l := [(1, RV.sv false [PV.sl (.lo _) _]), (2, RV.sv false [PV.val _]), (3, RV.ptr 3 0), (6, RV.sv false [PV.val _]), (7, RV.sv false [PV.val _]), (8, RV.ptr 8 0), (9, RV.sv false [PV.val _]), (10, RV.ptr 10 0), (11, RV.sv false [PV.nv _ (PV.sl _ _)]), (12, RV.ptr 12 0), (13, RV.sv false [PV.val _]), (14, RV.sv false [PV.val _]), (71, RV.sv false [PV.val _]), (72, RV.sv false [PV.val _])]) (b := [(3, (50, [PV.val _, PV.val _, PV.sl (.lo _) _, PV.sl (.lo _) _])), (8, (60, [PV.val _, PV.val _, PV.sl _ _, PV.sl _ _, PV.sl _ _, PV.sl _ _, PV.sl _ _, PV.sl _ _, PV.sl _ _, PV.sl _ _, PV.sl _ _])), (10, (56, [PV.nv _ (PV.val _), PV.nv _ (PV.val _), PV.nv _ (PV.sl _ _), PV.nv _ (PV.sl _ _)])), (12, (60, [PV.val _, PV.val _, PV.sl _ _, PV.sl _ _, PV.sl _ _, PV.sl _ _, PV.sl _ _, PV.sl _ _, PV.sl _ _, PV.sl _ _, PV.sl _ _]))]) (by exact ⟨rfl, rfl, rfl, rfl, rfl, rfl, rfl, rfl, rfl, rfl, rfl, rfl, rfl, rfl, ⟨⟩⟩) (by exact ⟨rfl, rfl, rfl, rfl, ⟨⟩⟩) ?_
       refine swl_ucallS (s := 11) (L := w0.heap.size) (qr := [(false, [PV.val _])]) (as_ := [(false, [PV.val _])]) (by decide) FLawNewCluster_c_42 rfl (by exact rfl) (by exact (Nm.val Nm.nil)) (by exact ⟨rfl, ⟨⟩⟩) (by exact (And.intro (by exact ⟨⟩) True.intro)) (by exact And.intro (And.intro rfl (ToL.cons (PV.To.refl _) ToL.nil)) True.intro) (by exact rfl) (by exact (Nm.nv Nm.nil)) (by exact (OwnTo.nv OwnTo.nil)) (by exact mark_RowSS (x := aParts) (by omega) (by omega)) (by exact (OwnFrom.nv OwnFrom.nil)) (fun x hx => hx) (by exact (And.intro (.inr (RV.lcl_sv (LclC.cons (PV.lcl_lo (LclRC.map fun x => (LclRC.cons (PV.lclr_lo (LclRC.map fun x => (LclRC.cons PV.lclr_val (LclRC.cons (PV.lclr_lo (LclRC.map fun x => (LclRC.cons PV.lclr_val LclRC.nil))) LclRC.nil)))) LclRC.nil))) LclC.nil))) (And.intro (.inr (RV.lcl_sv (LclC.cons PV.lcl_val LclC.nil))) (And.intro (.inr RV.lcl_ptr) (And.intro (.inr (RV.lcl_sv (LclC.cons PV.lcl_val LclC.nil))) (And.intro (.inr (RV.lcl_sv (LclC.cons PV.lcl_val LclC.nil))) (And.intro (.inr RV.lcl_ptr) (And.intro (.inr (RV.lcl_sv (LclC.cons PV.lcl_val LclC.nil))) (And.intro (.inr RV.lcl_ptr) (And.intro (.inl rfl) (And.intro (.inr RV.lcl_ptr) (And.intro (.inr (RV.lcl_sv (LclC.cons PV.lcl_val LclC.nil))) (And.intro (.inr (RV.lcl_sv (LclC.cons PV.lcl_val LclC.nil))) (And.intro (.inr (RV.lcl_sv (LclC.cons PV.lcl_val LclC.nil))) (And.intro (.inr (RV.lcl_sv (LclC.cons PV.lcl_val LclC.nil))) True.intro))))))))))))))) (by exact (And.intro (LclC.cons PV.lcl_val (LclC.cons PV.lcl_val (LclC.cons (PV.lcl_lo (LclRC.map fun x => (LclRC.cons PV.lclr_val (LclRC.cons PV.lclr_val (LclRC.cons PV.lclr_val LclRC.nil))))) (LclC.cons (PV.lcl_lo (LclRC.map fun x => (LclRC.cons PV.lclr_val LclRC.nil))) LclC.nil)))) (And.intro (LclC.cons PV.lcl_val (LclC.cons PV.lcl_val (LclC.cons (PV.lcl_own (LclC.map fun x => (LclC.cons PV.lcl_val (LclC.cons PV.lcl_val (LclC.cons PV.lcl_val LclC.nil))))) (LclC.cons (PV.lcl_own (LclC.map fun x => (LclC.cons PV.lcl_val LclC.nil))) (LclC.cons (PV.lcl_own (LclC.map fun x => (LclC.cons (PV.lcl_own (LclC.map fun x => (LclC.cons PV.lcl_val (LclC.cons (PV.lcl_own (LclC.map fun x => (LclC.cons PV.lcl_val LclC.nil))) LclC.nil)))) LclC.nil))) (LclC.cons (PV.lcl_own (LclC.map fun x => (LclC.cons PV.lcl_val LclC.nil))) (LclC.cons (PV.lcl_own (LclC.map fun x => (LclC.cons PV.lcl_val LclC.nil))) (LclC.cons (PV.lcl_own (LclC.map fun x => (LclC.cons PV.lcl_val LclC.nil))) (LclC.cons (PV.lcl_own (LclC.map fun x => (LclC.cons (PV.lcl_own (LclC.map fun x => (LclC.cons PV.lcl_val (LclC.cons (PV.lcl_own (LclC.map fun x => (LclC.cons PV.lcl_val LclC.nil))) LclC.nil)))) LclC.nil))) (LclC.cons (PV.lcl_own (LclC.map fun x => (LclC.cons PV.lcl_val LclC.nil))) (LclC.cons (PV.lcl_own (LclC.map fun x => (LclC.cons (PV.lcl_own (LclC.map fun x => (LclC.cons PV.lcl_val (LclC.cons (PV.lcl_own (LclC.map fun x => (LclC.cons PV.lcl_val LclC.nil))) LclC.nil)))) LclC.nil))) LclC.nil))))))))))) (And.intro (LclC.cons (PV.lcl_nv PV.lcl_val) (LclC.cons (PV.lcl_nv PV.lcl_val) (LclC.cons (PV.lcl_nv (PV.lcl_own (LclC.map fun x => (LclC.cons PV.lcl_val (LclC.cons PV.lcl_val (LclC.cons PV.lcl_val LclC.nil)))))) (LclC.cons (PV.lcl_nv (PV.lcl_own (LclC.map fun x => (LclC.cons PV.lcl_val LclC.nil)))) LclC.nil)))) (And.intro (LclC.cons PV.lcl_val (LclC.cons PV.lcl_val (LclC.cons (PV.lcl_own (LclC.map fun x => (LclC.cons PV.lcl_val (LclC.cons PV.lcl_val (LclC.cons PV.lcl_val LclC.nil))))) (LclC.cons (PV.lcl_own (LclC.map fun x => (LclC.cons PV.lcl_val LclC.nil))) (LclC.cons (PV.lcl_own (LclC.map fun x => (LclC.cons (PV.lcl_own (LclC.map fun x => (LclC.cons PV.lcl_val (LclC.cons (PV.lcl_own (LclC.map fun x => (LclC.cons PV.lcl_val LclC.nil))) LclC.nil)))) LclC.nil))) (LclC.cons (PV.lcl_own (LclC.map fun x => (LclC.cons PV.lcl_val LclC.nil))) (LclC.cons (PV.lcl_own (LclC.map fun x => (LclC.cons PV.lcl_val LclC.nil))) (LclC.cons (PV.lcl_own (LclC.map fun x => (LclC.cons PV.lcl_val LclC.nil))) (LclC.cons (PV.lcl_own (LclC.map fun x => (LclC.cons (PV.lcl_own (LclC.map fun x => (LclC.cons PV.lcl_val (LclC.cons (PV.lcl_own (LclC.map fun x => (LclC.cons PV.lcl_val LclC.nil))) LclC.nil)))) LclC.nil))) (LclC.cons (PV.lcl_own (LclC.map fun x => (LclC.cons PV.lcl_val LclC.nil))) (LclC.cons (PV.lcl_own (LclC.map fun x => (LclC.cons (PV.lcl_own (LclC.map fun x => (LclC.cons PV.lcl_val (LclC.cons (PV.lcl_own (LclC.map fun x => (LclC.cons PV.lcl_val LclC.nil))) LclC.nil)))) LclC.nil))) LclC.nil))))))))))) True.intro))))) rfl (by decide) ?_
       refine swl_step (by exact ⟨rfl, ⟨⟩⟩) (by exact ⟨⟩) (LocG.of rfl (loc_copy (.inr rfl) (by decide) (by exact Cp.sc))) nofree ?_
       refine swl_nil ?_
       refine sw_seq ?_
       refine sw_seq ?_
       refine sO [(1, _), (2, _), (3, _), (6, _), (7, _), (8, _), (9, _), (10, _), (11, _), (12, _), (13, _), (14, _)] [(3, _), (8, _), (10, _), (12, _)] ?_
       refine sw_reg ?_
       refine rA ?_ (x := sM)
       refine rA ?_ (x := B_lss)
       refine rA ?_ (x := sM)
       refine RunS.cases (s := 76) rfl (fun g13 => ?_) (fun g13 => ?_)
       ·first | (simp [deq_self] at g13; done) | (simp only [decide_eq_true_eq] at g13; omega)
       ·have sg13 := g13
        try simp only [q1, q2, q3, q4, q5, q6, q7, q8, q9] at sg13
        refine rB g13 ?_ (x := lD [PV.val _, PV.val _, PV.sl .v _, PV.sl .v _, PV.sl .v _, PV.sl .v _, PV.sl .v _, PV.sl .v _, PV.sl .v _, PV.sl .v _, PV.sl .v _] FLawNewCluster_ty_60)
        refine rB g13 ?_ (x := lD [PV.val _, PV.val _, PV.sl .v _, PV.sl .v _, PV.sl .v _, PV.sl .v _, PV.sl .v _, PV.sl .v _, PV.sl .v _, PV.sl .v _, PV.sl .v _] FLawNewCluster_ty_60)
        refine rB g13 ?_ (x := cL [(true, [PV.val _, PV.val _, PV.sl _ _, PV.sl _ _, PV.sl _ _, PV.sl _ _, PV.sl _ _, PV.sl _ _, PV.sl _ _, PV.sl _ _, PV.sl _ _]), (true, [PV.val _, PV.val _, PV.sl _ _, PV.sl _ _, PV.sl _ _, PV.sl _ _, PV.sl _ _, PV.sl _ _, PV.sl _ _, PV.sl _ _, PV.sl _ _])] [(true, [PV.val _, PV.val _, PV.sl .v _, PV.sl .v _, PV.sl .v _, PV.sl .v _, PV.sl .v _, PV.sl .v _, PV.sl .v _, PV.sl .v _, PV.sl .v _]), (true, [PV.val _, PV.val _, PV.sl .v _, PV.sl .v _, PV.sl .v _, PV.sl .v _, PV.sl .v _, PV.sl .v _, PV.sl .v _, PV.sl .v _, PV.sl .v _])] FLawNewCluster_c_38 (hs := by exact eq_Cluster))
        refine rB g13 ?_ (x := nT)
        refine rA ?_ (x := pkF g13)
        refine rA ?_ (x := sM)
        refine RunS.cases (s := 82) rfl (fun g14 => ?_) (fun g14 => ?_)
        ·first | (simp [deq_self] at g14; done) | (simp only [decide_eq_true_eq] at g14; omega)
        ·have sg14 := g14
         try simp only [q1, q2, q3, q4, q5, q6, q7, q8, q9] at sg14
         refine rB g14 ?_ (x := sM)
         refine rB g14 ?_ (x := sM)
         refine rB g14 ?_ (x := loc_bneq (by decide) FLawNewCluster_ub_4 (by exact ⟨⟩) (by exact ⟨⟩))
         refine rA ?_ (x := pkF g14)
         refine sw_cond (t := 86) rfl (fun hb15 => ?_) (fun hb15 => ?_)
         ·try simp only [q1, q2, q3, q4, q5, q6, q7, q8, q9] at hb15
          first | exact absurd rfl hb15 | (simp [deq_self] at hb15; done) | omega
         ·try simp only [q1, q2, q3, q4, q5, q6, q7, q8, q9] at hb15
          refine sw_skip ?_
          refine sw_seq ?_
          refine sO [(1, _), (2, _), (3, _), (6, _), (7, _), (8, _), (9, _), (10, _), (11, _), (12, _), (13, _), (14, _)] [(3, _), (8, _), (10, _), (12, _)] ?_
          refine sw_reg ?_
          refine rA ?_ (x := kA)
          refine sw_seq ?_
          refine sO [(1, _), (2, _), (3, _), (6, _), (7, _), (8, _), (9, _), (10, _), (11, _), (12, _), (13, _), (14, _), (15, _)] [(3, _), (8, _), (10, _), (12, _)] ?_
          refine sw_nmB (d := 12) (A := []) (ms := [PV.val _, PV.val _, PV.sl _ _, PV.sl _ _, PV.sl _ _, PV.sl _ _, PV.sl _ _, PV.sl _ _, PV.sl _ _, PV.sl _ _, PV.sl _ _]) (B := []) (by exact rfl) fun us hus => ?_
          obtain ⟨u16_0, u16_1, u16_2, u16_3, u16_4, u16_5, u16_6, u16_7, u16_8, u16_9, u16_10, rfl⟩ := us_11 hus
          have hq17 := mkV_Cluster_le (newCluster aQ aParts aNodes).1 1
          have hq18 := ctV_Cluster (newCluster aQ aParts aNodes).1 1
          refine sO [(1, _), (2, _), (3, _), (6, _), (7, _), (8, _), (9, _), (10, _), (11, _), (12, _), (13, _), (14, _), (15, _)] [(3, _), (8, _), (10, _), (12, (60, [PV.nv _ (PV.val _), PV.nv _ (PV.val _), PV.nv _ (PV.sl _ _), PV.nv _ (PV.sl _ _), PV.nv _ (PV.sl _ _), PV.nv _ (PV.sl _ _), PV.nv _ (PV.sl _ _), PV.nv _ (PV.sl _ _), PV.nv _ (PV.sl _ _), PV.nv _ (PV.sl _ _), PV.nv _ (PV.sl _ _)]))] ?_
          refine sw_regL ?_
          refine swl_step (by exact ⟨rfl, ⟨⟩⟩) (by exact ⟨rfl, ⟨⟩⟩) (LocG.of rfl (loc_load (qs := [PV.val _, PV.val _, PV.val _, PV.val _, PV.val _, PV.val _, PV.val _, PV.val _, PV.val _, PV.val _, PV.val _]) (by decide) FLawNewCluster_ty_60 (fun h => nomatch h) (by exact Nat.le_of_ble_eq_true rfl) (by exact (ToL.cons PV.nv_val (ToL.cons PV.nv_val (ToL.cons PV.nv_val (ToL.cons PV.nv_val (ToL.cons PV.nv_val (ToL.cons PV.nv_val (ToL.cons PV.nv_val (ToL.cons PV.nv_val (ToL.cons PV.nv_val (ToL.cons PV.nv_val (ToL.cons PV.nv_val ToL.nil)))))))))))) (by exact (BorL.cons (PV.bor_val _) (BorL.cons (PV.bor_val _) (BorL.cons (PV.bor_val _) (BorL.cons (PV.bor_val _) (BorL.cons (PV.bor_val _) (BorL.cons (PV.bor_val _) (BorL.cons (PV.bor_val _) (BorL.cons (PV.bor_val _) (BorL.cons (PV.bor_val _) (BorL.cons (PV.bor_val _) (BorL.cons (PV.bor_val _) BorL.nil)))))))))))))) nofree ?_
          refine swl_step (by exact ⟨rfl, ⟨⟩⟩) (by exact ⟨⟩) (LocG.of rfl (loc_copy (.inl rfl) (by decide) (by exact Cp.sc))) nofree ?_
          refine swl_of (l := [(1, RV.sv false [PV.sl (.lo _) _]), (2, RV.sv false [PV.val _]), (3, RV.ptr 3 0), (6, RV.sv false [PV.val _]), (7, RV.sv false [PV.val _]), (8, RV.ptr 8 0), (9, RV.sv false [PV.val _]), (10, RV.ptr 10 0), (11, RV.sv false [PV.nv _ (PV.sl _ _)]), (12, RV.ptr 12 0), (13, RV.sv false [PV.val _]), (14, RV.sv false [PV.val _]), (15, RV.sv false [PV.val _]), (87, RV.sv true [PV.val _, PV.val _, PV.val _, PV.val _, PV.val _, PV.val _, PV.val _, PV.val _, PV.val _, PV.val _, PV.val _]), (88, RV.sv false [PV.val _])]) (b := [(3, (50, [PV.val _, PV.val _, PV.sl (.lo _) _, PV.sl (.lo _) _])), (8, (60, [PV.val _, PV.val _, PV.sl _ _, PV.sl _ _, PV.sl _ _, PV.sl _ _, PV.sl _ _, PV.sl _ _, PV.sl _ _, PV.sl _ _, PV.sl _ _])), (10, (56, [PV.nv _ (PV.val _), PV.nv _ (PV.val _), PV.nv _ (PV.sl _ _), PV.nv _ (PV.sl _ _)])), (12, (60, [PV.nv _ (PV.val _), PV.nv _ (PV.val _), PV.nv _ (PV.sl _ _), PV.nv _ (PV.sl _ _), PV.nv _ (PV.sl _ _), PV.nv _ (PV.sl _ _), PV.nv _ (PV.sl _ _), PV.nv _ (PV.sl _ _), PV.nv _ (PV.sl _ _), PV.nv _ (PV.sl _ _), PV.nv _ (PV.sl _ _)]))]) (by exact ⟨rfl, rfl, rfl, rfl, rfl, rfl, rfl, rfl, rfl, rfl, rfl, rfl, rfl, rfl, rfl, ⟨⟩⟩) (by exact ⟨rfl, rfl, rfl, rfl, ⟨⟩⟩) ?_
          refine swl_ucallB (bx := 12) (L := w0.heap.size) (A := []) (ms := [PV.nv _ (PV.val _), PV.nv _ (PV.val _), PV.nv _ (PV.sl _ _), PV.nv _ (PV.sl _ _), PV.nv _ (PV.sl _ _), PV.nv _ (PV.sl _ _), PV.nv _ (PV.sl _ _), PV.nv _ (PV.sl _ _), PV.nv _ (PV.sl _ _), PV.nv _ (PV.sl _ _), PV.nv _ (PV.sl _ _)]) (B := []) (qr := [(false, [PV.val _])]) (as_ := [(false, [PV.val _])]) (by decide) FLawNewCluster_c_43 rfl (by exact rfl) (by exact (Nm.val (Nm.val (Nm.val (Nm.val (Nm.val (Nm.val (Nm.val (Nm.val (Nm.val (Nm.val (Nm.val Nm.nil)))))))))))) (by exact ⟨rfl, ⟨⟩⟩) (by exact (And.intro (by exact ⟨⟩) True.intro)) (by exact And.intro (And.intro rfl (ToL.cons (PV.To.refl _) ToL.nil)) True.intro) (by exact rfl) (by exact (Nm.nv (Nm.nv (Nm.nv (Nm.nv (Nm.nv (Nm.nv (Nm.nv (Nm.nv (Nm.nv (Nm.nv (Nm.nv Nm.nil)))))))))))) (by exact (OwnTo.nv (OwnTo.nv (OwnTo.nv (OwnTo.nv (OwnTo.nv (OwnTo.nv (OwnTo.nv (OwnTo.nv (OwnTo.nv (OwnTo.nv (OwnTo.nv OwnTo.nil)))))))))))) (by exact mark_Cluster (x := (newCluster aQ aParts aNodes).1) (by omega) (by omega)) (by exact (OwnFrom.nv (OwnFrom.nv (OwnFrom.nv (OwnFrom.nv (OwnFrom.nv (OwnFrom.nv (OwnFrom.nv (OwnFrom.nv (OwnFrom.nv (OwnFrom.nv (OwnFrom.nv OwnFrom.nil)))))))))))) (fun x hx => hx) (by exact (LclA.cons (RV.lcl_sv (LclC.cons (PV.lcl_lo (LclRC.map fun x => (LclRC.cons (PV.lclr_lo (LclRC.map fun x => (LclRC.cons PV.lclr_val (LclRC.cons (PV.lclr_lo (LclRC.map fun x => (LclRC.cons PV.lclr_val LclRC.nil))) LclRC.nil)))) LclRC.nil))) LclC.nil)) (LclA.cons (RV.lcl_sv (LclC.cons PV.lcl_val LclC.nil)) (LclA.cons RV.lcl_ptr (LclA.cons (RV.lcl_sv (LclC.cons PV.lcl_val LclC.nil)) (LclA.cons (RV.lcl_sv (LclC.cons PV.lcl_val LclC.nil)) (LclA.cons RV.lcl_ptr (LclA.cons (RV.lcl_sv (LclC.cons PV.lcl_val LclC.nil)) (LclA.cons RV.lcl_ptr (LclA.cons (RV.lcl_sv (LclC.cons (PV.lcl_nv (PV.lcl_own (LclC.map fun x => (LclC.cons (PV.lcl_own (LclC.map fun x => (LclC.cons PV.lcl_val (LclC.cons (PV.lcl_own (LclC.map fun x => (LclC.cons PV.lcl_val LclC.nil))) LclC.nil)))) LclC.nil)))) LclC.nil)) (LclA.cons RV.lcl_ptr (LclA.cons (RV.lcl_sv (LclC.cons PV.lcl_val LclC.nil)) (LclA.cons (RV.lcl_sv (LclC.cons PV.lcl_val LclC.nil)) (LclA.cons (RV.lcl_sv (LclC.cons PV.lcl_val LclC.nil)) (LclA.cons (RV.lcl_sv (LclC.cons PV.lcl_val (LclC.cons PV.lcl_val (LclC.cons PV.lcl_val (LclC.cons PV.lcl_val (LclC.cons PV.lcl_val (LclC.cons PV.lcl_val (LclC.cons PV.lcl_val (LclC.cons PV.lcl_val (LclC.cons PV.lcl_val (LclC.cons PV.lcl_val (LclC.cons PV.lcl_val LclC.nil)))))))))))) (LclA.cons (RV.lcl_sv (LclC.cons PV.lcl_val LclC.nil)) LclA.nil)))))))))))))))) (by exact (And.intro (.inr (LclC.cons PV.lcl_val (LclC.cons PV.lcl_val (LclC.cons (PV.lcl_lo (LclRC.map fun x => (LclRC.cons PV.lclr_val (LclRC.cons PV.lclr_val (LclRC.cons PV.lclr_val LclRC.nil))))) (LclC.cons (PV.lcl_lo (LclRC.map fun x => (LclRC.cons PV.lclr_val LclRC.nil))) LclC.nil))))) (And.intro (.inr (LclC.cons PV.lcl_val (LclC.cons PV.lcl_val (LclC.cons (PV.lcl_own (LclC.map fun x => (LclC.cons PV.lcl_val (LclC.cons PV.lcl_val (LclC.cons PV.lcl_val LclC.nil))))) (LclC.cons (PV.lcl_own (LclC.map fun x => (LclC.cons PV.lcl_val LclC.nil))) (LclC.cons (PV.lcl_own (LclC.map fun x => (LclC.cons (PV.lcl_own (LclC.map fun x => (LclC.cons PV.lcl_val (LclC.cons (PV.lcl_own (LclC.map fun x => (LclC.cons PV.lcl_val LclC.nil))) LclC.nil)))) LclC.nil))) (LclC.cons (PV.lcl_own (LclC.map fun x => (LclC.cons PV.lcl_val LclC.nil))) (LclC.cons (PV.lcl_own (LclC.map fun x => (LclC.cons PV.lcl_val LclC.nil))) (LclC.cons (PV.lcl_own (LclC.map fun x => (LclC.cons PV.lcl_val LclC.nil))) (LclC.cons (PV.lcl_own (LclC.map fun x => (LclC.cons (PV.lcl_own (LclC.map fun x => (LclC.cons PV.lcl_val (LclC.cons (PV.lcl_own (LclC.map fun x => (LclC.cons PV.lcl_val LclC.nil))) LclC.nil)))) LclC.nil))) (LclC.cons (PV.lcl_own (LclC.map fun x => (LclC.cons PV.lcl_val LclC.nil))) (LclC.cons (PV.lcl_own (LclC.map fun x => (LclC.cons (PV.lcl_own (LclC.map fun x => (LclC.cons PV.lcl_val (LclC.cons (PV.lcl_own (LclC.map fun x => (LclC.cons PV.lcl_val LclC.nil))) LclC.nil)))) LclC.nil))) LclC.nil)))))))))))) (And.intro (.inr (LclC.cons (PV.lcl_nv PV.lcl_val) (LclC.cons (PV.lcl_nv PV.lcl_val) (LclC.cons (PV.lcl_nv (PV.lcl_own (LclC.map fun x => (LclC.cons PV.lcl_val (LclC.cons PV.lcl_val (LclC.cons PV.lcl_val LclC.nil)))))) (LclC.cons (PV.lcl_nv (PV.lcl_own (LclC.map fun x => (LclC.cons PV.lcl_val LclC.nil)))) LclC.nil))))) (And.intro (.inl rfl) True.intro))))) (by exact LclC.nil) (by exact LclC.nil) rfl ?_
          refine swl_step (by exact ⟨rfl, ⟨⟩⟩) (by exact ⟨⟩) (LocG.of rfl (loc_copy (.inr rfl) (by decide) (by exact Cp.sc))) nofree ?_
          refine swl_nil ?_
          refine sw_seq ?_
          refine sO [(1, _), (2, _), (3, _), (6, _), (7, _), (8, _), (9, _), (10, _), (11, _), (12, _), (13, _), (14, _), (15, _)] [(3, _), (8, _), (10, _), (12, _)] ?_
          refine sw_reg ?_
          refine rA ?_ (x := kA)
          refine sw_seq ?_
          refine sO [(1, _), (2, _), (3, _), (6, _), (7, _), (8, _), (9, _), (10, _), (11, _), (12, _), (13, _), (14, _), (15, _), (16, _)] [(3, _), (8, _), (10, _), (12, _)] ?_
          refine sw_reg ?_
          refine rA ?_ (x := loc_load (qs := [PV.val _, PV.val _, PV.sl .v _, PV.sl .v _, PV.sl .v _, PV.sl .v _, PV.sl .v _, PV.sl .v _, PV.sl .v _, PV.sl .v _, PV.sl .v _]) (by decide) FLawNewCluster_ty_60 (fun h => nomatch h) (by exact Nat.le_of_ble_eq_true rfl) (by exact (ToL.cons (PV.nv_to (PV.To.refl _)) (ToL.cons (PV.nv_to (PV.To.refl _)) (ToL.cons (PV.nv_to PV.to_none) (ToL.cons (PV.nv_to PV.to_none) (ToL.cons (PV.nv_to PV.to_none) (ToL.cons (PV.nv_to PV.to_none) (ToL.cons (PV.nv_to PV.to_none) (ToL.cons (PV.nv_to PV.to_none) (ToL.cons (PV.nv_to PV.to_none) (ToL.cons (PV.nv_to PV.to_none) (ToL.cons (PV.nv_to PV.to_none) ToL.nil)))))))))))) (by exact (BorL.cons (PV.bor_val _) (BorL.cons (PV.bor_val _) (BorL.cons (PV.bor_sl _) (BorL.cons (PV.bor_sl _) (BorL.cons (PV.bor_sl _) (BorL.cons (PV.bor_sl _) (BorL.cons (PV.bor_sl _) (BorL.cons (PV.bor_sl _) (BorL.cons (PV.bor_sl _) (BorL.cons (PV.bor_sl _) (BorL.cons (PV.bor_sl _) BorL.nil)))))))))))))
          refine rA ?_ (x := sM)
          refine rA ?_ (x := cL [(true, [PV.val _, PV.val _, PV.sl _ _, PV.sl _ _, PV.sl _ _, PV.sl _ _, PV.sl _ _, PV.sl _ _, PV.sl _ _, PV.sl _ _, PV.sl _ _]), (false, [PV.val _])] [(true, [PV.val _, PV.val _, PV.sl .v _, PV.sl .v _, PV.sl .v _, PV.sl .v _, PV.sl .v _, PV.sl .v _, PV.sl .v _, PV.sl .v _, PV.sl .v _]), (false, [PV.val _])] FLawNewCluster_c_44 (hs := by exact held_Cluster (by omega) (by first | omega | (simp only [mkV_Cluster]; omega))))
          refine rA ?_ (x := sA)
          refine sw_seq ?_
          refine sw_seq ?_
          refine sO [(1, _), (2, _), (3, _), (6, _), (7, _), (8, _), (9, _), (10, _), (11, _), (12, _), (13, _), (14, _), (15, _), (16, _)] [(3, _), (8, _), (10, _), (12, _)] ?_
          refine sw_reg ?_
          refine rA ?_ (x := sM)
          refine rA ?_ (x := B_lss)
          refine sw_cond (t := 94) rfl (fun hb19 => ?_) (fun hb19 => ?_)
          ·try simp only [q1, q2, q3, q4, q5, q6, q7, q8, q9] at hb19
           first | exact absurd rfl hb19 | (simp [deq_self] at hb19; done) | omega
          ·try simp only [q1, q2, q3, q4, q5, q6, q7, q8, q9] at hb19
           refine sw_skip ?_
           refine sw_seq ?_
           refine sw_seq ?_
           refine sO [(1, _), (2, _), (3, _), (6, _), (7, _), (8, _), (9, _), (10, _), (11, _), (12, _), (13, _), (14, _), (15, _), (16, _)] [(3, _), (8, _), (10, _), (12, _)] ?_
           refine sw_reg ?_
           refine rA ?_ (x := sM)
           refine rA ?_ (x := sM)
           refine rA ?_ (x := B_neq)
           refine sw_cond (t := 97) rfl (fun hb20 => ?_) (fun hb20 => ?_)
           ·try simp only [q1, q2, q3, q4, q5, q6, q7, q8, q9] at hb20
            first | exact absurd rfl hb20 | (simp [deq_self] at hb20; done) | omega
           ·try simp only [q1, q2, q3, q4, q5, q6, q7, q8, q9] at hb20
            refine sw_skip ?_
            refine sw_seq ?_
            refine sO [(1, _), (2, _), (3, _), (6, _), (7, _), (8, _), (9, _), (10, _), (11, _), (12, _), (13, _), (14, _), (15, _), (16, _)] [(3, _), (8, _), (10, _), (12, _)] ?_
            refine sw_reg ?_
            refine rA ?_ (x := lD [PV.val _, PV.val _, PV.sl (.lo _) _, PV.sl (.lo _) _] FLawNewCluster_ty_50)
            refine rA ?_ (x := cL [(true, [PV.val _, PV.val _, PV.sl (.lo _) _, PV.sl (.lo _) _])] [(true, [PV.val _, PV.val _, PV.sl .v _, PV.sl .v _])] FLawNewCluster_c_35 (hs := by exact to_Query (by omega)))
            refine rA ?_ (x := vM false [PV.sl (.lo _) _])
            refine rA ?_ (x := cL [(false, [PV.sl (.lo _) _])] [(false, [PV.sl .v _])] FLawNewCluster_c_36 (hs := by exact to_RowSS (by omega)))
            refine rA ?_ (x := sM)
            refine rA ?_ (x := cL [(true, [PV.val _, PV.val _, PV.sl _ _, PV.sl _ _]), (false, [PV.sl _ _]), (false, [PV.val _])] [(true, [PV.val _, PV.val _, PV.sl .v _, PV.sl .v _]), (false, [PV.sl .v _]), (false, [PV.val _])] FLawNewCluster_c_37 (hs := by exact impl_NewCluster (by omega) (by omega)))
            refine rA ?_ (x := tM)
            refine rA ?_ (x := loc_extract (cs := [PV.val _, PV.val _, PV.sl _ _, PV.sl _ _, PV.sl _ _, PV.sl _ _, PV.sl _ _, PV.sl _ _, PV.sl _ _, PV.sl _ _, PV.sl _ _]) (qs := [PV.val _, PV.val _, PV.sl .v _, PV.sl .v _, PV.sl .v _, PV.sl .v _, PV.sl .v _, PV.sl .v _, PV.sl .v _, PV.sl .v _, PV.sl .v _]) (by decide) (by exact rfl) (by exact (ToL.cons (PV.To.refl _) (ToL.cons (PV.To.refl _) (ToL.cons PV.to_none (ToL.cons PV.to_none (ToL.cons PV.to_none (ToL.cons PV.to_none (ToL.cons PV.to_none (ToL.cons PV.to_none (ToL.cons PV.to_none (ToL.cons PV.to_none (ToL.cons PV.to_none ToL.nil)))))))))))) (by exact (BorL.cons (PV.bor_val _) (BorL.cons (PV.bor_val _) (BorL.cons (PV.bor_sl _) (BorL.cons (PV.bor_sl _) (BorL.cons (PV.bor_sl _) (BorL.cons (PV.bor_sl _) (BorL.cons (PV.bor_sl _) (BorL.cons (PV.bor_sl _) (BorL.cons (PV.bor_sl _) (BorL.cons (PV.bor_sl _) (BorL.cons (PV.bor_sl _) BorL.nil)))))))))))))
            refine rA ?_ (x := loc_extractb (cs := [PV.val _]) (by decide) (by exact rfl) (by exact (BorL.cons (PV.bor_val _) BorL.nil)))
            refine RunS.step (by exact ⟨⟩) (by exact ⟨⟩) (LocG.of rfl (loc_alloc (by decide) FLawNewCluster_z_60 FLawNewCluster_zo_60)) (free1 (Free.app (Free.app (Free.app (Free.app (Free.app (Free.app (Free.app (Free.app (Free.app (Free.of_ rfl) rfl) rfl) rfl) rfl) rfl) rfl) rfl) rfl) rfl)) ?_
            refine rA ?_ (x := loc_store (ag := true) (vs := [PV.val _, PV.val _, PV.sl _ _, PV.sl _ _, PV.sl _ _, PV.sl _ _, PV.sl _ _, PV.sl _ _, PV.sl _ _, PV.sl _ _, PV.sl _ _]) FLawNewCluster_ty_60 (by exact ⟨⟩) (by exact rfl) (by exact Nat.le_of_ble_eq_true rfl))
            refine rA ?_ (x := sA)
            refine sw_seq ?_
            refine sw_seq ?_
            refine sO [(1, _), (2, _), (3, _), (6, _), (7, _), (8, _), (9, _), (10, _), (11, _), (12, _), (13, _), (14, _), (15, _), (16, _), (17, _), (18, _)] [(3, _), (8, _), (10, _), (12, _), (17, (60, [PV.val _, PV.val _, PV.sl _ _, PV.sl _ _, PV.sl _ _, PV.sl _ _, PV.sl _ _, PV.sl _ _, PV.sl _ _, PV.sl _ _, PV.sl _ _]))] ?_
            refine sw_reg ?_
            refine rA ?_ (x := lD [PV.val _, PV.val _, PV.sl .v _, PV.sl .v _, PV.sl .v _, PV.sl .v _, PV.sl .v _, PV.sl .v _, PV.sl .v _, PV.sl .v _, PV.sl .v _] FLawNewCluster_ty_60)
            refine rA ?_ (x := lD [PV.val _, PV.val _, PV.sl .v _, PV.sl .v _, PV.sl .v _, PV.sl .v _, PV.sl .v _, PV.sl .v _, PV.sl .v _, PV.sl .v _, PV.sl .v _] FLawNewCluster_ty_60)
            refine rA ?_ (x := cL [(true, [PV.val _, PV.val _, PV.sl _ _, PV.sl _ _, PV.sl _ _, PV.sl _ _, PV.sl _ _, PV.sl _ _, PV.sl _ _, PV.sl _ _, PV.sl _ _]), (true, [PV.val _, PV.val _, PV.sl _ _, PV.sl _ _, PV.sl _ _, PV.sl _ _, PV.sl _ _, PV.sl _ _, PV.sl _ _, PV.sl _ _, PV.sl _ _])] [(true, [PV.val _, PV.val _, PV.sl .v _, PV.sl .v _, PV.sl .v _, PV.sl .v _, PV.sl .v _, PV.sl .v _, PV.sl .v _, PV.sl .v _, PV.sl .v _]), (true, [PV.val _, PV.val _, PV.sl .v _, PV.sl .v _, PV.sl .v _, PV.sl .v _, PV.sl .v _, PV.sl .v _, PV.sl .v _, PV.sl .v _, PV.sl .v _])] FLawNewCluster_c_38 (hs := by exact eq_Cluster))
            refine rA ?_ (x := nT)
            refine rA ?_ (x := sM)
            refine RunS.cases (s := 111) rfl (fun g21 => ?_) (fun g21 => ?_)
            ·first | (simp [deq_self] at g21; done) | (simp only [decide_eq_true_eq] at g21; omega)
            ·have sg21 := g21
             try simp only [q1, q2, q3, q4, q5, q6, q7, q8, q9] at sg21
             refine rB g21 ?_ (x := sM)
             refine rB g21 ?_ (x := sM)
             refine rB g21 ?_ (x := loc_bneq (by decide) FLawNewCluster_ub_4 (by exact ⟨⟩) (by exact ⟨⟩))
             refine rA ?_ (x := pkF g21)
             refine sw_cond (t := 115) rfl (fun hb22 => ?_) (fun hb22 => ?_)
             ·try simp only [q1, q2, q3, q4, q5, q6, q7, q8, q9] at hb22
              first | exact absurd rfl hb22 | (simp [deq_self] at hb22; done) | omega
             ·try simp only [q1, q2, q3, q4, q5, q6, q7, q8, q9] at hb22
              refine sw_skip ?_
              refine sw_seq ?_
              refine sO [(1, _), (2, _), (3, _), (6, _), (7, _), (8, _), (9, _), (10, _), (11, _), (12, _), (13, _), (14, _), (15, _), (16, _), (17, _), (18, _)] [(3, _), (8, _), (10, _), (12, _), (17, _)] ?_
              refine sw_reg ?_
              refine rA ?_ (x := kA)
              refine sw_seq ?_
              refine sO [(1, _), (2, _), (3, _), (6, _), (7, _), (8, _), (9, _), (10, _), (11, _), (12, _), (13, _), (14, _), (15, _), (16, _), (17, _), (18, _)] [(3, _), (8, _), (10, _), (12, _), (17, _)] ?_
              refine sw_reg ?_
              refine rA ?_ (x := loc_load (qs := [PV.val _, PV.val _, PV.sl .v _, PV.sl .v _, PV.sl .v _, PV.sl .v _, PV.sl .v _, PV.sl .v _, PV.sl .v _, PV.sl .v _, PV.sl .v _]) (by decide) FLawNewCluster_ty_60 (fun h => nomatch h) (by exact Nat.le_of_ble_eq_true rfl) (by exact (ToL.cons (PV.nv_to (PV.To.refl _)) (ToL.cons (PV.nv_to (PV.To.refl _)) (ToL.cons (PV.nv_to PV.to_none) (ToL.cons (PV.nv_to PV.to_none) (ToL.cons (PV.nv_to PV.to_none) (ToL.cons (PV.nv_to PV.to_none) (ToL.cons (PV.nv_to PV.to_none) (ToL.cons (PV.nv_to PV.to_none) (ToL.cons (PV.nv_to PV.to_none) (ToL.cons (PV.nv_to PV.to_none) (ToL.cons (PV.nv_to PV.to_none) ToL.nil)))))))))))) (by exact (BorL.cons (PV.bor_val _) (BorL.cons (PV.bor_val _) (BorL.cons (PV.bor_sl _) (BorL.cons (PV.bor_sl _) (BorL.cons (PV.bor_sl _) (BorL.cons (PV.bor_sl _) (BorL.cons (PV.bor_sl _) (BorL.cons (PV.bor_sl _) (BorL.cons (PV.bor_sl _) (BorL.cons (PV.bor_sl _) (BorL.cons (PV.bor_sl _) BorL.nil)))))))))))))
              refine rA ?_ (x := sM)
              refine rA ?_ (x := cL [(true, [PV.val _, PV.val _, PV.sl _ _, PV.sl _ _, PV.sl _ _, PV.sl _ _, PV.sl _ _, PV.sl _ _, PV.sl _ _, PV.sl _ _, PV.sl _ _]), (false, [PV.val _])] [(true, [PV.val _, PV.val _, PV.sl .v _, PV.sl .v _, PV.sl .v _, PV.sl .v _, PV.sl .v _, PV.sl .v _, PV.sl .v _, PV.sl .v _, PV.sl .v _]), (false, [PV.val _])] FLawNewCluster_c_44 (hs := by exact held_Cluster (by omega) (by first | omega | (simp only [mkV_Cluster]; omega))))
              refine rA ?_ (x := sA)
              refine sw_seq ?_
              refine sw_seq ?_
              refine sO [(1, _), (2, _), (3, _), (6, _), (7, _), (8, _), (9, _), (10, _), (11, _), (12, _), (13, _), (14, _), (15, _), (16, _), (17, _), (18, _)] [(3, _), (8, _), (10, _), (12, _), (17, _)] ?_
              refine sw_reg ?_
              refine rA ?_ (x := sM)
              refine rA ?_ (x := B_lss)
              refine sw_cond (t := 120) rfl (fun hb23 => ?_) (fun hb23 => ?_)
              ·try simp only [q1, q2, q3, q4, q5, q6, q7, q8, q9] at hb23
               first | exact absurd rfl hb23 | (simp [deq_self] at hb23; done) | omega
              ·try simp only [q1, q2, q3, q4, q5, q6, q7, q8, q9] at hb23
               refine sw_skip ?_
               refine sw_seq ?_
               refine sw_seq ?_
               refine sO [(1, _), (2, _), (3, _), (6, _), (7, _), (8, _), (9, _), (10, _), (11, _), (12, _), (13, _), (14, _), (15, _), (16, _), (17, _), (18, _)] [(3, _), (8, _), (10, _), (12, _), (17, _)] ?_
               refine sw_reg ?_
               refine rA ?_ (x := sM)
               refine rA ?_ (x := sM)
               refine rA ?_ (x := B_neq)
               refine sw_cond (t := 123) rfl (fun hb24 => ?_) (fun hb24 => ?_)
               ·try simp only [q1, q2, q3, q4, q5, q6, q7, q8, q9] at hb24
                first | exact absurd rfl hb24 | (simp [deq_self] at hb24; done) | omega
               ·try simp only [q1, q2, q3, q4, q5, q6, q7, q8, q9] at hb24
                refine sw_skip ?_
                refine sw_seq ?_
                refine sO [(1, _), (2, _), (3, _), (6, _), (7, _), (8, _), (9, _), (10, _), (11, _), (12, _), (13, _), (14, _), (15, _), (16, _), (17, _), (18, _)] [(3, _), (8, _), (10, _), (12, _), (17, _)] ?_
                refine sw_reg ?_
                refine rA ?_ (x := kA)
                refine sw_ret ?_
                exact (And.intro (by exact rfl) True.intro)
end Go.Proofs.Ytloipjaiceifbaa
