/- What functions of the program compute. No condition. -/
import Derived.Test.YtloipjaiceifbaaGreatCToStepNode
import Derived.Test.YtloipjaiceifbaaGreatCEqStepNode
import Derived.Test.YtloipjaiceifbaaGreatCMkStepNode
import Derived.Test.YtloipjaiceifbaaGreatCHeStepNode
import Derived.Test.YtloipjaiceifbaaGreatCCluJStepNode
import Derived.KernelRfl
set_option linter.unusedVariables false
set_option linter.unusedSimpArgs false
namespace Go.Proofs.YtloipjaiceifbaaGreat
open Go Go.RowKit M
set_option maxRecDepth 10000
theorem FLawStepNode_c_10 : callI Tryz.prog 10 = true := by kernel_rfl
theorem FLawStepNode_c_11 : callI Tryz.prog 11 = true := by kernel_rfl
theorem FLawStepNode_c_5 : callI Tryz.prog 5 = true := by kernel_rfl
theorem FLawStepNode_c_6 : callI Tryz.prog 6 = true := by kernel_rfl
theorem FLawStepNode_c_7 : callI Tryz.prog 7 = true := by kernel_rfl
theorem FLawStepNode_c_8 : callI Tryz.prog 8 = true := by kernel_rfl
theorem FLawStepNode_c_9 : callI Tryz.prog 9 = true := by kernel_rfl
theorem FLawStepNode_ty_29 : tyI Tryz.prog 29 = some (true, 11) := by kernel_rfl
theorem FLawStepNode_ty_3 : tyI Tryz.prog 3 = some (false, 1) := by kernel_rfl
theorem FLawStepNode_ty_36 : tyI Tryz.prog 36 = some (true, 11) := by kernel_rfl
theorem FLawStepNode_ub_4 : Tryz.prog.underlying 4 = some .bool := by kernel_rfl
theorem FLawStepNode_z_36 : zeroI Tryz.prog 36 = some (.agg #[.int .i64 0, .int .i64 0, .slice none 0 0, .slice none 0 0, .slice none 0 0, .slice none 0 0, .slice none 0 0, .slice none 0 0, .slice none 0 0, .slice none 0 0, .slice none 0 0]) := by kernel_rfl
theorem FLawStepNode_zo_36 {Fz : FzT} {w : World} : OwnL [PV.val (.int .i64 0), PV.val (.int .i64 0), PV.sl (.own 84 3) [], PV.sl (.own 3 1) [], PV.sl (.own 51 1) [], PV.sl (.own 4 1) [], PV.sl (.own 3 1) [], PV.sl (.own 3 1) [], PV.sl (.own 51 1) [], PV.sl (.own 3 1) [], PV.sl (.own 51 1) []] Fz w (Value.cells (.agg #[.int .i64 0, .int .i64 0, .slice none 0 0, .slice none 0 0, .slice none 0 0, .slice none 0 0, .slice none 0 0, .slice none 0 0, .slice none 0 0, .slice none 0 0, .slice none 0 0])).toList [] := zo_val rfl (zo_val rfl (zo_sl (zo_sl (zo_sl (zo_sl (zo_sl (zo_sl (zo_sl (zo_sl (zo_sl (zo_nil)))))))))))
theorem law_StepNode {p3 p4 p9 p10 p13 p14 : Fl} {aC : Cluster} {aNode : Int}  : SCall Tryz.prog 3 [(true, [PV.val (vI aC.Query.Id), PV.val (vI aC.Query.Tenant), PV.sl .v (aC.Query.Conds.map cCond), PV.sl .v (aC.Query.Out.map cInt), PV.sl .v (aC.Parts.map (cRowS p3 p4)), PV.sl .v (aC.Up.map cBool), PV.sl .v (aC.At.map cInt), PV.sl .v (aC.Pos.map cInt), PV.sl .v (aC.Buffer.map (cRowS p9 p10)), PV.sl .v (aC.Done.map cInt), PV.sl .v (aC.Rows.map (cRowS p13 p14))]), (false, [PV.val (vI aNode)])] (resRV [(false, [PV.val (.bool true)])]) := by
 refine scall_lo (largs := fun L => [(true, [PV.val (vI aC.Query.Id), PV.val (vI aC.Query.Tenant), PV.sl (.lo L) (aC.Query.Conds.map cCond), PV.sl (.lo L) (aC.Query.Out.map cInt), PV.sl (.lo L) (aC.Parts.map (cRowS (.lo L) (.lo L))), PV.sl (.lo L) (aC.Up.map cBool), PV.sl (.lo L) (aC.At.map cInt), PV.sl (.lo L) (aC.Pos.map cInt), PV.sl (.lo L) (aC.Buffer.map (cRowS (.lo L) (.lo L))), PV.sl (.lo L) (aC.Done.map cInt), PV.sl (.lo L) (aC.Rows.map (cRowS (.lo L) (.lo L)))]), (false, [PV.val (vI aNode)])]) (rs := [(false, [PV.val (.bool true)])]) Tryz.func3 rfl (Nat.le_of_ble_eq_true rfl) (fun L => by exact (And.intro (And.intro rfl (ToBL.cons PV.tob_refl (ToBL.cons PV.tob_refl (ToBL.cons (PV.tob_map (fun _ => Nat.le_of_ble_eq_true rfl) (fun _ => (ToBL.cons PV.tob_refl (ToBL.cons PV.tob_refl (ToBL.cons PV.tob_refl ToBL.nil))))) (ToBL.cons (PV.tob_map (fun _ => Nat.le_of_ble_eq_true rfl) (fun _ => (ToBL.cons PV.tob_refl ToBL.nil))) (ToBL.cons (PV.tob_map (fun _ => Nat.le_of_ble_eq_true rfl) (fun _ => (ToBL.cons (PV.tob_map (fun _ => Nat.le_of_ble_eq_true rfl) (fun _ => (ToBL.cons PV.tob_refl (ToBL.cons (PV.tob_map (fun _ => Nat.le_of_ble_eq_true rfl) (fun _ => (ToBL.cons PV.tob_refl ToBL.nil))) ToBL.nil)))) ToBL.nil))) (ToBL.cons (PV.tob_map (fun _ => Nat.le_of_ble_eq_true rfl) (fun _ => (ToBL.cons PV.tob_refl ToBL.nil))) (ToBL.cons (PV.tob_map (fun _ => Nat.le_of_ble_eq_true rfl) (fun _ => (ToBL.cons PV.tob_refl ToBL.nil))) (ToBL.cons (PV.tob_map (fun _ => Nat.le_of_ble_eq_true rfl) (fun _ => (ToBL.cons PV.tob_refl ToBL.nil))) (ToBL.cons (PV.tob_map (fun _ => Nat.le_of_ble_eq_true rfl) (fun _ => (ToBL.cons (PV.tob_map (fun _ => Nat.le_of_ble_eq_true rfl) (fun _ => (ToBL.cons PV.tob_refl (ToBL.cons (PV.tob_map (fun _ => Nat.le_of_ble_eq_true rfl) (fun _ => (ToBL.cons PV.tob_refl ToBL.nil))) ToBL.nil)))) ToBL.nil))) (ToBL.cons (PV.tob_map (fun _ => Nat.le_of_ble_eq_true rfl) (fun _ => (ToBL.cons PV.tob_refl ToBL.nil))) (ToBL.cons (PV.tob_map (fun _ => Nat.le_of_ble_eq_true rfl) (fun _ => (ToBL.cons (PV.tob_map (fun _ => Nat.le_of_ble_eq_true rfl) (fun _ => (ToBL.cons PV.tob_refl (ToBL.cons (PV.tob_map (fun _ => Nat.le_of_ble_eq_true rfl) (fun _ => (ToBL.cons PV.tob_refl ToBL.nil))) ToBL.nil)))) ToBL.nil))) ToBL.nil)))))))))))) (And.intro (And.intro rfl (ToBL.cons PV.tob_refl ToBL.nil)) True.intro))) (fun L => by exact (borA_cons (BorL.cons (PV.bor_val _) (BorL.cons (PV.bor_val _) (BorL.cons (PV.bor_lo _ _) (BorL.cons (PV.bor_lo _ _) (BorL.cons (PV.bor_lo _ _) (BorL.cons (PV.bor_lo _ _) (BorL.cons (PV.bor_lo _ _) (BorL.cons (PV.bor_lo _ _) (BorL.cons (PV.bor_lo _ _) (BorL.cons (PV.bor_lo _ _) (BorL.cons (PV.bor_lo _ _) BorL.nil))))))))))) (borA_cons (BorL.cons (PV.bor_val _) BorL.nil) borA_nil))) ?_
 intro w0 Fz0
 refine sw_slen (s := 0) (j := 2) rfl rfl fun hl0_2 => ?_
 try rw [List.length_map] at hl0_2
 refine sw_slen (s := 0) (j := 3) rfl rfl fun hl0_3 => ?_
 try rw [List.length_map] at hl0_3
 refine sw_slen (s := 0) (j := 4) rfl rfl fun hl0_4 => ?_
 try rw [List.length_map] at hl0_4
 refine sw_slen (s := 0) (j := 5) rfl rfl fun hl0_5 => ?_
 try rw [List.length_map] at hl0_5
 refine sw_slen (s := 0) (j := 6) rfl rfl fun hl0_6 => ?_
 try rw [List.length_map] at hl0_6
 refine sw_slen (s := 0) (j := 7) rfl rfl fun hl0_7 => ?_
 try rw [List.length_map] at hl0_7
 refine sw_slen (s := 0) (j := 8) rfl rfl fun hl0_8 => ?_
 try rw [List.length_map] at hl0_8
 refine sw_slen (s := 0) (j := 9) rfl rfl fun hl0_9 => ?_
 try rw [List.length_map] at hl0_9
 refine sw_slen (s := 0) (j := 10) rfl rfl fun hl0_10 => ?_
 try rw [List.length_map] at hl0_10
 refine sw_seq ?_
 refine sw_reg ?_
 refine RunS.step (by exact ⟨rfl, ⟨⟩⟩) (by exact ⟨⟩) (LocG.of rfl (loc_box (ag := true) (cs := [PV.val _, PV.val _, PV.sl (.lo _) _, PV.sl (.lo _) _, PV.sl (.lo _) _, PV.sl (.lo _) _, PV.sl (.lo _) _, PV.sl (.lo _) _, PV.sl (.lo _) _, PV.sl (.lo _) _, PV.sl (.lo _) _]) (by decide) (by exact ⟨⟩))) (free1 (Free.of_ rfl)) ?_
 refine rA ?_ (x := kA)
 refine sw_seq ?_
 refine sO [(1, _), (2, _), (4, _)] [(2, (29, [PV.val _, PV.val _, PV.sl (.lo _) _, PV.sl (.lo _) _, PV.sl (.lo _) _, PV.sl (.lo _) _, PV.sl (.lo _) _, PV.sl (.lo _) _, PV.sl (.lo _) _, PV.sl (.lo _) _, PV.sl (.lo _) _]))] ?_
 refine sw_reg ?_
 refine rA ?_ (x := kA)
 refine sw_seq ?_
 refine sO [(1, _), (2, _), (4, _), (5, _)] [(2, _)] ?_
 refine sw_reg ?_
 refine rA ?_ (x := lD [PV.val _, PV.val _, PV.sl (.lo _) _, PV.sl (.lo _) _, PV.sl (.lo _) _, PV.sl (.lo _) _, PV.sl (.lo _) _, PV.sl (.lo _) _, PV.sl (.lo _) _, PV.sl (.lo _) _, PV.sl (.lo _) _] FLawStepNode_ty_29)
 refine rA ?_ (x := sM)
 refine rA ?_ (x := cL [(true, [PV.val _, PV.val _, PV.sl (.lo _) _, PV.sl (.lo _) _, PV.sl (.lo _) _, PV.sl (.lo _) _, PV.sl (.lo _) _, PV.sl (.lo _) _, PV.sl (.lo _) _, PV.sl (.lo _) _, PV.sl (.lo _) _]), (false, [PV.val _])] [(true, [PV.val _, PV.val _, PV.sl .v _, PV.sl .v _, PV.sl .v _, PV.sl .v _, PV.sl .v _, PV.sl .v _, PV.sl .v _, PV.sl .v _, PV.sl .v _]), (false, [PV.val _])] FLawStepNode_c_5 (hs := by exact sz_Cluster (by omega) (by omega)))
 refine rA ?_ (x := sA)
 refine sw_seq ?_
 refine sw_seq ?_
 refine sO [(1, _), (2, _), (4, _), (5, _)] [(2, _)] ?_
 refine sw_reg ?_
 refine rA ?_ (x := sM)
 refine rA ?_ (x := B_lss)
 refine sw_cond (t := 20) rfl (fun hb1 => ?_) (fun hb1 => ?_)
 ·try simp only [q1, q2, q3, q4, q5, q6, q7, q8, q9] at hb1
  refine sw_seq ?_
  refine sO [(1, _), (2, _), (4, _), (5, _)] [(2, _)] ?_
  refine sw_reg ?_
  refine rA ?_ (x := kA)
  refine sw_ret ?_
  exact (And.intro (by exact rfl) True.intro)
 ·try simp only [q1, q2, q3, q4, q5, q6, q7, q8, q9] at hb1
  have hp0 := szR_pos (w := wtCluster aC) (l := 1048576) hb1
  have he0 := szR_yes hp0
  have hw0 := stepNode_wt aC aNode
  refine sw_skip ?_
  refine sw_seq ?_
  refine sO [(1, _), (2, _), (4, _), (5, _)] [(2, _)] ?_
  refine sw_reg ?_
  refine rA ?_ (x := lD [PV.val _, PV.val _, PV.sl (.lo _) _, PV.sl (.lo _) _, PV.sl (.lo _) _, PV.sl (.lo _) _, PV.sl (.lo _) _, PV.sl (.lo _) _, PV.sl (.lo _) _, PV.sl (.lo _) _, PV.sl (.lo _) _] FLawStepNode_ty_29)
  refine rA ?_ (x := cL [(true, [PV.val _, PV.val _, PV.sl (.lo _) _, PV.sl (.lo _) _, PV.sl (.lo _) _, PV.sl (.lo _) _, PV.sl (.lo _) _, PV.sl (.lo _) _, PV.sl (.lo _) _, PV.sl (.lo _) _, PV.sl (.lo _) _])] [(true, [PV.val _, PV.val _, PV.sl .v _, PV.sl .v _, PV.sl .v _, PV.sl .v _, PV.sl .v _, PV.sl .v _, PV.sl .v _, PV.sl .v _, PV.sl .v _])] FLawStepNode_c_7 (hs := by exact to_Cluster (by omega)))
  refine rA ?_ (x := sM)
  refine rA ?_ (x := cL [(true, [PV.val _, PV.val _, PV.sl _ _, PV.sl _ _, PV.sl _ _, PV.sl _ _, PV.sl _ _, PV.sl _ _, PV.sl _ _, PV.sl _ _, PV.sl _ _]), (false, [PV.val _])] [(true, [PV.val _, PV.val _, PV.sl .v _, PV.sl .v _, PV.sl .v _, PV.sl .v _, PV.sl .v _, PV.sl .v _, PV.sl .v _, PV.sl .v _, PV.sl .v _]), (false, [PV.val _])] FLawStepNode_c_6 (hs := by exact spec_StepNode (by omega)))
  refine rA ?_ (x := tM)
  refine rA ?_ (x := loc_extract (cs := [PV.val _, PV.val _, PV.sl _ _, PV.sl _ _, PV.sl _ _, PV.sl _ _, PV.sl _ _, PV.sl _ _, PV.sl _ _, PV.sl _ _, PV.sl _ _]) (qs := [PV.val _, PV.val _, PV.sl .v _, PV.sl .v _, PV.sl .v _, PV.sl .v _, PV.sl .v _, PV.sl .v _, PV.sl .v _, PV.sl .v _, PV.sl .v _]) (by decide) (by exact rfl) (by exact (ToL.cons (PV.To.refl _) (ToL.cons (PV.To.refl _) (ToL.cons PV.to_none (ToL.cons PV.to_none (ToL.cons PV.to_none (ToL.cons PV.to_none (ToL.cons PV.to_none (ToL.cons PV.to_none (ToL.cons PV.to_none (ToL.cons PV.to_none (ToL.cons PV.to_none ToL.nil)))))))))))) (by exact (BorL.cons (PV.bor_val _) (BorL.cons (PV.bor_val _) (BorL.cons (PV.bor_sl _) (BorL.cons (PV.bor_sl _) (BorL.cons (PV.bor_sl _) (BorL.cons (PV.bor_sl _) (BorL.cons (PV.bor_sl _) (BorL.cons (PV.bor_sl _) (BorL.cons (PV.bor_sl _) (BorL.cons (PV.bor_sl _) (BorL.cons (PV.bor_sl _) BorL.nil)))))))))))))
  refine rA ?_ (x := loc_extractb (cs := [PV.val _]) (by decide) (by exact rfl) (by exact (BorL.cons (PV.bor_val _) BorL.nil)))
  refine RunS.step (by exact ⟨⟩) (by exact ⟨⟩) (LocG.of rfl (loc_alloc (by decide) FLawStepNode_z_36 FLawStepNode_zo_36)) (free1 (Free.app (Free.app (Free.app (Free.app (Free.app (Free.app (Free.app (Free.of_ rfl) rfl) rfl) rfl) rfl) rfl) rfl) rfl)) ?_
  refine rA ?_ (x := loc_store (ag := true) (vs := [PV.val _, PV.val _, PV.sl _ _, PV.sl _ _, PV.sl _ _, PV.sl _ _, PV.sl _ _, PV.sl _ _, PV.sl _ _, PV.sl _ _, PV.sl _ _]) FLawStepNode_ty_36 (by exact ⟨⟩) (by exact rfl) (by exact Nat.le_of_ble_eq_true rfl))
  refine rA ?_ (x := sA)
  refine sw_seq ?_
  refine sO [(1, _), (2, _), (4, _), (5, _), (6, _), (7, _)] [(2, _), (6, (36, [PV.val _, PV.val _, PV.sl _ _, PV.sl _ _, PV.sl _ _, PV.sl _ _, PV.sl _ _, PV.sl _ _, PV.sl _ _, PV.sl _ _, PV.sl _ _]))] ?_
  refine sw_reg ?_
  refine rA ?_ (x := lD [PV.val _, PV.val _, PV.sl (.lo _) _, PV.sl (.lo _) _, PV.sl (.lo _) _, PV.sl (.lo _) _, PV.sl (.lo _) _, PV.sl (.lo _) _, PV.sl (.lo _) _, PV.sl (.lo _) _, PV.sl (.lo _) _] FLawStepNode_ty_29)
  refine rA ?_ (x := cL [(true, [PV.val _, PV.val _, PV.sl (.lo _) _, PV.sl (.lo _) _, PV.sl (.lo _) _, PV.sl (.lo _) _, PV.sl (.lo _) _, PV.sl (.lo _) _, PV.sl (.lo _) _, PV.sl (.lo _) _, PV.sl (.lo _) _])] [(true, [PV.val _, PV.val _, PV.sl .v _, PV.sl .v _, PV.sl .v _, PV.sl .v _, PV.sl .v _, PV.sl .v _, PV.sl .v _, PV.sl .v _, PV.sl .v _])] FLawStepNode_c_7 (hs := by exact to_Cluster (by omega)))
  refine RunS.step (by exact ⟨⟩) (by exact ⟨⟩) (LocG.of rfl (loc_alloc (by decide) FLawStepNode_z_36 FLawStepNode_zo_36)) (free1 (Free.app (Free.app (Free.of_ rfl) rfl) rfl)) ?_
  refine rA ?_ (x := loc_store (ag := true) (vs := [PV.val _, PV.val _, PV.sl _ _, PV.sl _ _, PV.sl _ _, PV.sl _ _, PV.sl _ _, PV.sl _ _, PV.sl _ _, PV.sl _ _, PV.sl _ _]) FLawStepNode_ty_36 (by exact ⟨⟩) (by exact rfl) (by exact Nat.le_of_ble_eq_true rfl))
  refine sw_seq ?_
  refine sO [(1, _), (2, _), (4, _), (5, _), (6, _), (7, _), (8, _)] [(2, _), (6, _), (8, (36, [PV.val _, PV.val _, PV.sl _ _, PV.sl _ _, PV.sl _ _, PV.sl _ _, PV.sl _ _, PV.sl _ _, PV.sl _ _, PV.sl _ _, PV.sl _ _]))] ?_
  refine sw_reg ?_
  refine rA ?_ (x := lD [PV.val _, PV.val _, PV.sl .v _, PV.sl .v _, PV.sl .v _, PV.sl .v _, PV.sl .v _, PV.sl .v _, PV.sl .v _, PV.sl .v _, PV.sl .v _] FLawStepNode_ty_36)
  refine rA ?_ (x := sM)
  refine rA ?_ (x := cL [(true, [PV.val _, PV.val _, PV.sl _ _, PV.sl _ _, PV.sl _ _, PV.sl _ _, PV.sl _ _, PV.sl _ _, PV.sl _ _, PV.sl _ _, PV.sl _ _]), (false, [PV.val _])] [(true, [PV.val _, PV.val _, PV.sl .v _, PV.sl .v _, PV.sl .v _, PV.sl .v _, PV.sl .v _, PV.sl .v _, PV.sl .v _, PV.sl .v _, PV.sl .v _]), (false, [PV.val _])] FLawStepNode_c_8 (hs := by exact impl_StepNode (by omega)))
  refine rA ?_ (x := tM)
  refine rA ?_ (x := loc_extract (cs := [PV.val _, PV.val _, PV.sl _ _, PV.sl _ _, PV.sl _ _, PV.sl _ _, PV.sl _ _, PV.sl _ _, PV.sl _ _, PV.sl _ _, PV.sl _ _]) (qs := [PV.val _, PV.val _, PV.sl .v _, PV.sl .v _, PV.sl .v _, PV.sl .v _, PV.sl .v _, PV.sl .v _, PV.sl .v _, PV.sl .v _, PV.sl .v _]) (by decide) (by exact rfl) (by exact (ToL.cons (PV.To.refl _) (ToL.cons (PV.To.refl _) (ToL.cons PV.to_none (ToL.cons PV.to_none (ToL.cons PV.to_none (ToL.cons PV.to_none (ToL.cons PV.to_none (ToL.cons PV.to_none (ToL.cons PV.to_none (ToL.cons PV.to_none (ToL.cons PV.to_none ToL.nil)))))))))))) (by exact (BorL.cons (PV.bor_val _) (BorL.cons (PV.bor_val _) (BorL.cons (PV.bor_sl _) (BorL.cons (PV.bor_sl _) (BorL.cons (PV.bor_sl _) (BorL.cons (PV.bor_sl _) (BorL.cons (PV.bor_sl _) (BorL.cons (PV.bor_sl _) (BorL.cons (PV.bor_sl _) (BorL.cons (PV.bor_sl _) (BorL.cons (PV.bor_sl _) BorL.nil)))))))))))))
  refine rA ?_ (x := loc_extractb (cs := [PV.val _]) (by decide) (by exact rfl) (by exact (BorL.cons (PV.bor_val _) BorL.nil)))
  refine RunS.step (by exact ⟨⟩) (by exact ⟨⟩) (LocG.of rfl (loc_alloc (by decide) FLawStepNode_z_36 FLawStepNode_zo_36)) (free1 (Free.app (Free.app (Free.app (Free.app (Free.app (Free.app (Free.of_ rfl) rfl) rfl) rfl) rfl) rfl) rfl)) ?_
  refine rA ?_ (x := loc_store (ag := true) (vs := [PV.val _, PV.val _, PV.sl _ _, PV.sl _ _, PV.sl _ _, PV.sl _ _, PV.sl _ _, PV.sl _ _, PV.sl _ _, PV.sl _ _, PV.sl _ _]) FLawStepNode_ty_36 (by exact ⟨⟩) (by exact rfl) (by exact Nat.le_of_ble_eq_true rfl))
  refine rA ?_ (x := sA)
  refine sw_seq ?_
  refine sw_seq ?_
  refine sO [(1, _), (2, _), (4, _), (5, _), (6, _), (7, _), (8, _), (9, _), (10, _)] [(2, _), (6, _), (8, _), (9, (36, [PV.val _, PV.val _, PV.sl _ _, PV.sl _ _, PV.sl _ _, PV.sl _ _, PV.sl _ _, PV.sl _ _, PV.sl _ _, PV.sl _ _, PV.sl _ _]))] ?_
  refine sw_reg ?_
  refine rA ?_ (x := lD [PV.val _, PV.val _, PV.sl .v _, PV.sl .v _, PV.sl .v _, PV.sl .v _, PV.sl .v _, PV.sl .v _, PV.sl .v _, PV.sl .v _, PV.sl .v _] FLawStepNode_ty_36)
  refine rA ?_ (x := lD [PV.val _, PV.val _, PV.sl .v _, PV.sl .v _, PV.sl .v _, PV.sl .v _, PV.sl .v _, PV.sl .v _, PV.sl .v _, PV.sl .v _, PV.sl .v _] FLawStepNode_ty_36)
  refine rA ?_ (x := cL [(true, [PV.val _, PV.val _, PV.sl _ _, PV.sl _ _, PV.sl _ _, PV.sl _ _, PV.sl _ _, PV.sl _ _, PV.sl _ _, PV.sl _ _, PV.sl _ _]), (true, [PV.val _, PV.val _, PV.sl _ _, PV.sl _ _, PV.sl _ _, PV.sl _ _, PV.sl _ _, PV.sl _ _, PV.sl _ _, PV.sl _ _, PV.sl _ _])] [(true, [PV.val _, PV.val _, PV.sl .v _, PV.sl .v _, PV.sl .v _, PV.sl .v _, PV.sl .v _, PV.sl .v _, PV.sl .v _, PV.sl .v _, PV.sl .v _]), (true, [PV.val _, PV.val _, PV.sl .v _, PV.sl .v _, PV.sl .v _, PV.sl .v _, PV.sl .v _, PV.sl .v _, PV.sl .v _, PV.sl .v _, PV.sl .v _])] FLawStepNode_c_9 (hs := by exact eq_Cluster))
  refine rA ?_ (x := nT)
  refine rA ?_ (x := sM)
  refine RunS.cases (s := 40) rfl (fun g2 => ?_) (fun g2 => ?_)
  ·first | (simp [deq_self] at g2; done) | (simp only [decide_eq_true_eq] at g2; omega)
  ·have sg2 := g2
   try simp only [q1, q2, q3, q4, q5, q6, q7, q8, q9] at sg2
   refine rB g2 ?_ (x := sM)
   refine rB g2 ?_ (x := sM)
   refine rB g2 ?_ (x := loc_bneq (by decide) FLawStepNode_ub_4 (by exact ⟨⟩) (by exact ⟨⟩))
   refine rA ?_ (x := pkF g2)
   refine sw_cond (t := 44) rfl (fun hb3 => ?_) (fun hb3 => ?_)
   ·try simp only [q1, q2, q3, q4, q5, q6, q7, q8, q9] at hb3
    first | exact absurd rfl hb3 | (simp [deq_self] at hb3; done) | omega
   ·try simp only [q1, q2, q3, q4, q5, q6, q7, q8, q9] at hb3
    refine sw_skip ?_
    refine sw_seq ?_
    refine sw_seq ?_
    refine sO [(1, _), (2, _), (4, _), (5, _), (6, _), (7, _), (8, _), (9, _), (10, _)] [(2, _), (6, _), (8, _), (9, _)] ?_
    refine sw_draw hm_ ?_
    refine dA 0 ?_ (x := lD [PV.val _, PV.val _, PV.sl .v _, PV.sl .v _, PV.sl .v _, PV.sl .v _, PV.sl .v _, PV.sl .v _, PV.sl .v _, PV.sl .v _, PV.sl .v _] FLawStepNode_ty_36)
    refine dA 0 ?_ (x := lD [PV.val _, PV.val _, PV.sl (.lo _) _, PV.sl (.lo _) _, PV.sl (.lo _) _, PV.sl (.lo _) _, PV.sl (.lo _) _, PV.sl (.lo _) _, PV.sl (.lo _) _, PV.sl (.lo _) _, PV.sl (.lo _) _] FLawStepNode_ty_29)
    refine dA 2 ?_ (x := cL [(true, [PV.val _, PV.val _, PV.sl (.lo _) _, PV.sl (.lo _) _, PV.sl (.lo _) _, PV.sl (.lo _) _, PV.sl (.lo _) _, PV.sl (.lo _) _, PV.sl (.lo _) _, PV.sl (.lo _) _, PV.sl (.lo _) _])] [(true, [PV.val _, PV.val _, PV.sl .v _, PV.sl .v _, PV.sl .v _, PV.sl .v _, PV.sl .v _, PV.sl .v _, PV.sl .v _, PV.sl .v _, PV.sl .v _])] FLawStepNode_c_7 (hs := by exact to_Cluster (by omega)))
    refine dA 7 ?_ (x := cL [(true, [PV.val _, PV.val _, PV.sl _ _, PV.sl _ _, PV.sl _ _, PV.sl _ _, PV.sl _ _, PV.sl _ _, PV.sl _ _, PV.sl _ _, PV.sl _ _]), (true, [PV.val _, PV.val _, PV.sl _ _, PV.sl _ _, PV.sl _ _, PV.sl _ _, PV.sl _ _, PV.sl _ _, PV.sl _ _, PV.sl _ _, PV.sl _ _])] [(true, [PV.val _, PV.val _, PV.sl .v _, PV.sl .v _, PV.sl .v _, PV.sl .v _, PV.sl .v _, PV.sl .v _, PV.sl .v _, PV.sl .v _, PV.sl .v _]), (true, [PV.val _, PV.val _, PV.sl .v _, PV.sl .v _, PV.sl .v _, PV.sl .v _, PV.sl .v _, PV.sl .v _, PV.sl .v _, PV.sl .v _, PV.sl .v _])] FLawStepNode_c_9 (hs := by exact eq_Cluster))
    refine dA 15 ?_ (x := nT)
    refine sw_cond (t := 49) rfl (fun hb4 => ?_) (fun hb4 => ?_)
    ·try simp only [q1, q2, q3, q4, q5, q6, q7, q8, q9] at hb4
     first | exact absurd rfl hb4 | (simp [deq_self] at hb4; done) | omega
    ·try simp only [q1, q2, q3, q4, q5, q6, q7, q8, q9] at hb4
     refine sw_skip ?_
     refine sw_seq ?_
     refine sO [(1, _), (2, _), (4, _), (5, _), (6, _), (7, _), (8, _), (9, _), (10, _)] [(2, _), (6, _), (8, _), (9, _)] ?_
     refine sw_reg ?_
     refine rA ?_ (x := kA)
     refine sw_seq ?_
     refine sO [(1, _), (2, _), (4, _), (5, _), (6, _), (7, _), (8, _), (9, _), (10, _), (11, _)] [(2, _), (6, _), (8, _), (9, _)] ?_
     refine sw_nmB (d := 8) (A := []) (ms := [PV.val _, PV.val _, PV.sl _ _, PV.sl _ _, PV.sl _ _, PV.sl _ _, PV.sl _ _, PV.sl _ _, PV.sl _ _, PV.sl _ _, PV.sl _ _]) (B := []) (by exact rfl) fun us hus => ?_
     obtain ⟨u5_0, u5_1, u5_2, u5_3, u5_4, u5_5, u5_6, u5_7, u5_8, u5_9, u5_10, rfl⟩ := us_11 hus
     have hq6 := mkV_Cluster_le aC 1
     have hq7 := ctV_Cluster aC 1
     refine sO [(1, _), (2, _), (4, _), (5, _), (6, _), (7, _), (8, _), (9, _), (10, _), (11, _)] [(2, _), (6, _), (8, (36, [PV.nv _ (PV.val _), PV.nv _ (PV.val _), PV.nv _ (PV.sl _ _), PV.nv _ (PV.sl _ _), PV.nv _ (PV.sl _ _), PV.nv _ (PV.sl _ _), PV.nv _ (PV.sl _ _), PV.nv _ (PV.sl _ _), PV.nv _ (PV.sl _ _), PV.nv _ (PV.sl _ _), PV.nv _ (PV.sl _ _)])), (9, _)] ?_
     refine sw_regL ?_
     refine swl_step (by exact ⟨rfl, ⟨⟩⟩) (by exact ⟨rfl, ⟨⟩⟩) (LocG.of rfl (loc_load (qs := [PV.val _, PV.val _, PV.val _, PV.val _, PV.val _, PV.val _, PV.val _, PV.val _, PV.val _, PV.val _, PV.val _]) (by decide) FLawStepNode_ty_36 (fun h => nomatch h) (by exact Nat.le_of_ble_eq_true rfl) (by exact (ToL.cons PV.nv_val (ToL.cons PV.nv_val (ToL.cons PV.nv_val (ToL.cons PV.nv_val (ToL.cons PV.nv_val (ToL.cons PV.nv_val (ToL.cons PV.nv_val (ToL.cons PV.nv_val (ToL.cons PV.nv_val (ToL.cons PV.nv_val (ToL.cons PV.nv_val ToL.nil)))))))))))) (by exact (BorL.cons (PV.bor_val _) (BorL.cons (PV.bor_val _) (BorL.cons (PV.bor_val _) (BorL.cons (PV.bor_val _) (BorL.cons (PV.bor_val _) (BorL.cons (PV.bor_val _) (BorL.cons (PV.bor_val _) (BorL.cons (PV.bor_val _) (BorL.cons (PV.bor_val _) (BorL.cons (PV.bor_val _) (BorL.cons (PV.bor_val _) BorL.nil)))))))))))))) nofree ?_
     refine swl_step (by exact ⟨rfl, ⟨⟩⟩) (by exact ⟨⟩) (LocG.of rfl (loc_copy (.inl rfl) (by decide) (by exact Cp.sc))) nofree ?_
     refine swl_of (l := [(1, RV.sv false [PV.val _]), (2, RV.ptr 2 0), (4, RV.sv false [PV.val _]), (5, RV.sv false [PV.val _]), (6, RV.ptr 6 0), (7, RV.sv false [PV.val _]), (8, RV.ptr 8 0), (9, RV.ptr 9 0), (10, RV.sv false [PV.val _]), (11, RV.sv false [PV.val _]), (50, RV.sv true [PV.val _, PV.val _, PV.val _, PV.val _, PV.val _, PV.val _, PV.val _, PV.val _, PV.val _, PV.val _, PV.val _]), (51, RV.sv false [PV.val _])]) (b := [(2, (29, [PV.val _, PV.val _, PV.sl (.lo _) _, PV.sl (.lo _) _, PV.sl (.lo _) _, PV.sl (.lo _) _, PV.sl (.lo _) _, PV.sl (.lo _) _, PV.sl (.lo _) _, PV.sl (.lo _) _, PV.sl (.lo _) _])), (6, (36, [PV.val _, PV.val _, PV.sl _ _, PV.sl _ _, PV.sl _ _, PV.sl _ _, PV.sl _ _, PV.sl _ _, PV.sl _ _, PV.sl _ _, PV.sl _ _])), (8, (36, [PV.nv _ (PV.val _), PV.nv _ (PV.val _), PV.nv _ (PV.sl _ _), PV.nv _ (PV.sl _ _), PV.nv _ (PV.sl _ _), PV.nv _ (PV.sl _ _), PV.nv _ (PV.sl _ _), PV.nv _ (PV.sl _ _), PV.nv _ (PV.sl _ _), PV.nv _ (PV.sl _ _), PV.nv _ (PV.sl _ _)])), (9, (36, [PV.val _, PV.val _, PV.sl _ _, PV.sl _ _, PV.sl _ _, PV.sl _ _, PV.sl _ _, PV.sl _ _, PV.sl _ _, PV.sl _ _, PV.sl _ _]))]) (by exact ⟨rfl, rfl, rfl, rfl, rfl, rfl, rfl, rfl, rfl, rfl, rfl, rfl, ⟨⟩⟩) (by exact ⟨rfl, rfl, rfl, rfl, ⟨⟩⟩) ?_
     refine swl_ucallB (bx := 8) (L := w0.heap.size) (A := []) (ms := [PV.nv _ (PV.val _), PV.nv _ (PV.val _), PV.nv _ (PV.sl _ _), PV.nv _ (PV.sl _ _), PV.nv _ (PV.sl _ _), PV.nv _ (PV.sl _ _), PV.nv _ (PV.sl _ _), PV.nv _ (PV.sl _ _), PV.nv _ (PV.sl _ _), PV.nv _ (PV.sl _ _), PV.nv _ (PV.sl _ _)]) (B := []) (qr := [(false, [PV.val _])]) (as_ := [(false, [PV.val _])]) (by decide) FLawStepNode_c_10 rfl (by exact rfl) (by exact (Nm.val (Nm.val (Nm.val (Nm.val (Nm.val (Nm.val (Nm.val (Nm.val (Nm.val (Nm.val (Nm.val Nm.nil)))))))))))) (by exact ⟨rfl, ⟨⟩⟩) (by exact (And.intro (by exact ⟨⟩) True.intro)) (by exact And.intro (And.intro rfl (ToL.cons (PV.To.refl _) ToL.nil)) True.intro) (by exact rfl) (by exact (Nm.nv (Nm.nv (Nm.nv (Nm.nv (Nm.nv (Nm.nv (Nm.nv (Nm.nv (Nm.nv (Nm.nv (Nm.nv Nm.nil)))))))))))) (by exact (OwnTo.nv (OwnTo.nv (OwnTo.nv (OwnTo.nv (OwnTo.nv (OwnTo.nv (OwnTo.nv (OwnTo.nv (OwnTo.nv (OwnTo.nv (OwnTo.nv OwnTo.nil)))))))))))) (by exact mark_Cluster (x := aC) (by omega) (by omega)) (by exact (OwnFrom.nv (OwnFrom.nv (OwnFrom.nv (OwnFrom.nv (OwnFrom.nv (OwnFrom.nv (OwnFrom.nv (OwnFrom.nv (OwnFrom.nv (OwnFrom.nv (OwnFrom.nv OwnFrom.nil)))))))))))) (fun x hx => hx) (by exact (LclA.cons (RV.lcl_sv (LclC.cons PV.lcl_val LclC.nil)) (LclA.cons RV.lcl_ptr (LclA.cons (RV.lcl_sv (LclC.cons PV.lcl_val LclC.nil)) (LclA.cons (RV.lcl_sv (LclC.cons PV.lcl_val LclC.nil)) (LclA.cons RV.lcl_ptr (LclA.cons (RV.lcl_sv (LclC.cons PV.lcl_val LclC.nil)) (LclA.cons RV.lcl_ptr (LclA.cons RV.lcl_ptr (LclA.cons (RV.lcl_sv (LclC.cons PV.lcl_val LclC.nil)) (LclA.cons (RV.lcl_sv (LclC.cons PV.lcl_val LclC.nil)) (LclA.cons (RV.lcl_sv (LclC.cons PV.lcl_val (LclC.cons PV.lcl_val (LclC.cons PV.lcl_val (LclC.cons PV.lcl_val (LclC.cons PV.lcl_val (LclC.cons PV.lcl_val (LclC.cons PV.lcl_val (LclC.cons PV.lcl_val (LclC.cons PV.lcl_val (LclC.cons PV.lcl_val (LclC.cons PV.lcl_val LclC.nil)))))))))))) (LclA.cons (RV.lcl_sv (LclC.cons PV.lcl_val LclC.nil)) LclA.nil))))))))))))) (by exact (And.intro (.inr (LclC.cons PV.lcl_val (LclC.cons PV.lcl_val (LclC.cons (PV.lcl_lo (LclRC.map fun x => (LclRC.cons PV.lclr_val (LclRC.cons PV.lclr_val (LclRC.cons PV.lclr_val LclRC.nil))))) (LclC.cons (PV.lcl_lo (LclRC.map fun x => (LclRC.cons PV.lclr_val LclRC.nil))) (LclC.cons (PV.lcl_lo (LclRC.map fun x => (LclRC.cons (PV.lclr_lo (LclRC.map fun x => (LclRC.cons PV.lclr_val (LclRC.cons (PV.lclr_lo (LclRC.map fun x => (LclRC.cons PV.lclr_val LclRC.nil))) LclRC.nil)))) LclRC.nil))) (LclC.cons (PV.lcl_lo (LclRC.map fun x => (LclRC.cons PV.lclr_val LclRC.nil))) (LclC.cons (PV.lcl_lo (LclRC.map fun x => (LclRC.cons PV.lclr_val LclRC.nil))) (LclC.cons (PV.lcl_lo (LclRC.map fun x => (LclRC.cons PV.lclr_val LclRC.nil))) (LclC.cons (PV.lcl_lo (LclRC.map fun x => (LclRC.cons (PV.lclr_lo (LclRC.map fun x => (LclRC.cons PV.lclr_val (LclRC.cons (PV.lclr_lo (LclRC.map fun x => (LclRC.cons PV.lclr_val LclRC.nil))) LclRC.nil)))) LclRC.nil))) (LclC.cons (PV.lcl_lo (LclRC.map fun x => (LclRC.cons PV.lclr_val LclRC.nil))) (LclC.cons (PV.lcl_lo (LclRC.map fun x => (LclRC.cons (PV.lclr_lo (LclRC.map fun x => (LclRC.cons PV.lclr_val (LclRC.cons (PV.lclr_lo (LclRC.map fun x => (LclRC.cons PV.lclr_val LclRC.nil))) LclRC.nil)))) LclRC.nil))) LclC.nil)))))))))))) (And.intro (.inr (LclC.cons PV.lcl_val (LclC.cons PV.lcl_val (LclC.cons (PV.lcl_own (LclC.map fun x => (LclC.cons PV.lcl_val (LclC.cons PV.lcl_val (LclC.cons PV.lcl_val LclC.nil))))) (LclC.cons (PV.lcl_own (LclC.map fun x => (LclC.cons PV.lcl_val LclC.nil))) (LclC.cons (PV.lcl_own (LclC.map fun x => (LclC.cons (PV.lcl_own (LclC.map fun x => (LclC.cons PV.lcl_val (LclC.cons (PV.lcl_own (LclC.map fun x => (LclC.cons PV.lcl_val LclC.nil))) LclC.nil)))) LclC.nil))) (LclC.cons (PV.lcl_own (LclC.map fun x => (LclC.cons PV.lcl_val LclC.nil))) (LclC.cons (PV.lcl_own (LclC.map fun x => (LclC.cons PV.lcl_val LclC.nil))) (LclC.cons (PV.lcl_own (LclC.map fun x => (LclC.cons PV.lcl_val LclC.nil))) (LclC.cons (PV.lcl_own (LclC.map fun x => (LclC.cons (PV.lcl_own (LclC.map fun x => (LclC.cons PV.lcl_val (LclC.cons (PV.lcl_own (LclC.map fun x => (LclC.cons PV.lcl_val LclC.nil))) LclC.nil)))) LclC.nil))) (LclC.cons (PV.lcl_own (LclC.map fun x => (LclC.cons PV.lcl_val LclC.nil))) (LclC.cons (PV.lcl_own (LclC.map fun x => (LclC.cons (PV.lcl_own (LclC.map fun x => (LclC.cons PV.lcl_val (LclC.cons (PV.lcl_own (LclC.map fun x => (LclC.cons PV.lcl_val LclC.nil))) LclC.nil)))) LclC.nil))) LclC.nil)))))))))))) (And.intro (.inl rfl) (And.intro (.inr (LclC.cons PV.lcl_val (LclC.cons PV.lcl_val (LclC.cons (PV.lcl_own (LclC.map fun x => (LclC.cons PV.lcl_val (LclC.cons PV.lcl_val (LclC.cons PV.lcl_val LclC.nil))))) (LclC.cons (PV.lcl_own (LclC.map fun x => (LclC.cons PV.lcl_val LclC.nil))) (LclC.cons (PV.lcl_own (LclC.map fun x => (LclC.cons (PV.lcl_own (LclC.map fun x => (LclC.cons PV.lcl_val (LclC.cons (PV.lcl_own (LclC.map fun x => (LclC.cons PV.lcl_val LclC.nil))) LclC.nil)))) LclC.nil))) (LclC.cons (PV.lcl_own (LclC.map fun x => (LclC.cons PV.lcl_val LclC.nil))) (LclC.cons (PV.lcl_own (LclC.map fun x => (LclC.cons PV.lcl_val LclC.nil))) (LclC.cons (PV.lcl_own (LclC.map fun x => (LclC.cons PV.lcl_val LclC.nil))) (LclC.cons (PV.lcl_own (LclC.map fun x => (LclC.cons (PV.lcl_own (LclC.map fun x => (LclC.cons PV.lcl_val (LclC.cons (PV.lcl_own (LclC.map fun x => (LclC.cons PV.lcl_val LclC.nil))) LclC.nil)))) LclC.nil))) (LclC.cons (PV.lcl_own (LclC.map fun x => (LclC.cons PV.lcl_val LclC.nil))) (LclC.cons (PV.lcl_own (LclC.map fun x => (LclC.cons (PV.lcl_own (LclC.map fun x => (LclC.cons PV.lcl_val (LclC.cons (PV.lcl_own (LclC.map fun x => (LclC.cons PV.lcl_val LclC.nil))) LclC.nil)))) LclC.nil))) LclC.nil)))))))))))) True.intro))))) (by exact LclC.nil) (by exact LclC.nil) rfl ?_
     refine swl_step (by exact ⟨rfl, ⟨⟩⟩) (by exact ⟨⟩) (LocG.of rfl (loc_copy (.inr rfl) (by decide) (by exact Cp.sc))) nofree ?_
     refine swl_nil ?_
     refine sw_seq ?_
     refine sw_seq ?_
     refine sO [(1, _), (2, _), (4, _), (5, _), (6, _), (7, _), (8, _), (9, _), (10, _), (11, _)] [(2, _), (6, _), (8, _), (9, _)] ?_
     refine sw_reg ?_
     refine rA ?_ (x := sM)
     refine rA ?_ (x := B_lss)
     refine rA ?_ (x := sM)
     refine RunS.cases (s := 55) rfl (fun g8 => ?_) (fun g8 => ?_)
     ·first | (simp [deq_self] at g8; done) | (simp only [decide_eq_true_eq] at g8; omega)
     ·have sg8 := g8
      try simp only [q1, q2, q3, q4, q5, q6, q7, q8, q9] at sg8
      refine rB g8 ?_ (x := lD [PV.val _, PV.val _, PV.sl .v _, PV.sl .v _, PV.sl .v _, PV.sl .v _, PV.sl .v _, PV.sl .v _, PV.sl .v _, PV.sl .v _, PV.sl .v _] FLawStepNode_ty_36)
      refine rB g8 ?_ (x := lD [PV.val _, PV.val _, PV.sl .v _, PV.sl .v _, PV.sl .v _, PV.sl .v _, PV.sl .v _, PV.sl .v _, PV.sl .v _, PV.sl .v _, PV.sl .v _] FLawStepNode_ty_36)
      refine rB g8 ?_ (x := cL [(true, [PV.val _, PV.val _, PV.sl _ _, PV.sl _ _, PV.sl _ _, PV.sl _ _, PV.sl _ _, PV.sl _ _, PV.sl _ _, PV.sl _ _, PV.sl _ _]), (true, [PV.val _, PV.val _, PV.sl _ _, PV.sl _ _, PV.sl _ _, PV.sl _ _, PV.sl _ _, PV.sl _ _, PV.sl _ _, PV.sl _ _, PV.sl _ _])] [(true, [PV.val _, PV.val _, PV.sl .v _, PV.sl .v _, PV.sl .v _, PV.sl .v _, PV.sl .v _, PV.sl .v _, PV.sl .v _, PV.sl .v _, PV.sl .v _]), (true, [PV.val _, PV.val _, PV.sl .v _, PV.sl .v _, PV.sl .v _, PV.sl .v _, PV.sl .v _, PV.sl .v _, PV.sl .v _, PV.sl .v _, PV.sl .v _])] FLawStepNode_c_9 (hs := by exact eq_Cluster))
      refine rB g8 ?_ (x := nT)
      refine rA ?_ (x := pkF g8)
      refine rA ?_ (x := sM)
      refine RunS.cases (s := 61) rfl (fun g9 => ?_) (fun g9 => ?_)
      ·first | (simp [deq_self] at g9; done) | (simp only [decide_eq_true_eq] at g9; omega)
      ·have sg9 := g9
       try simp only [q1, q2, q3, q4, q5, q6, q7, q8, q9] at sg9
       refine rB g9 ?_ (x := sM)
       refine rB g9 ?_ (x := sM)
       refine rB g9 ?_ (x := loc_bneq (by decide) FLawStepNode_ub_4 (by exact ⟨⟩) (by exact ⟨⟩))
       refine rA ?_ (x := pkF g9)
       refine sw_cond (t := 65) rfl (fun hb10 => ?_) (fun hb10 => ?_)
       ·try simp only [q1, q2, q3, q4, q5, q6, q7, q8, q9] at hb10
        first | exact absurd rfl hb10 | (simp [deq_self] at hb10; done) | omega
       ·try simp only [q1, q2, q3, q4, q5, q6, q7, q8, q9] at hb10
        refine sw_skip ?_
        refine sw_seq ?_
        refine sO [(1, _), (2, _), (4, _), (5, _), (6, _), (7, _), (8, _), (9, _), (10, _), (11, _)] [(2, _), (6, _), (8, _), (9, _)] ?_
        refine sw_reg ?_
        refine rA ?_ (x := kA)
        refine sw_seq ?_
        refine sO [(1, _), (2, _), (4, _), (5, _), (6, _), (7, _), (8, _), (9, _), (10, _), (11, _), (12, _)] [(2, _), (6, _), (8, _), (9, _)] ?_
        refine sw_nmB (d := 9) (A := []) (ms := [PV.val _, PV.val _, PV.sl _ _, PV.sl _ _, PV.sl _ _, PV.sl _ _, PV.sl _ _, PV.sl _ _, PV.sl _ _, PV.sl _ _, PV.sl _ _]) (B := []) (by exact rfl) fun us hus => ?_
        obtain ⟨u11_0, u11_1, u11_2, u11_3, u11_4, u11_5, u11_6, u11_7, u11_8, u11_9, u11_10, rfl⟩ := us_11 hus
        have hq12 := mkV_Cluster_le (stepNode aC aNode).1 1
        have hq13 := ctV_Cluster (stepNode aC aNode).1 1
        refine sO [(1, _), (2, _), (4, _), (5, _), (6, _), (7, _), (8, _), (9, _), (10, _), (11, _), (12, _)] [(2, _), (6, _), (8, _), (9, (36, [PV.nv _ (PV.val _), PV.nv _ (PV.val _), PV.nv _ (PV.sl _ _), PV.nv _ (PV.sl _ _), PV.nv _ (PV.sl _ _), PV.nv _ (PV.sl _ _), PV.nv _ (PV.sl _ _), PV.nv _ (PV.sl _ _), PV.nv _ (PV.sl _ _), PV.nv _ (PV.sl _ _), PV.nv _ (PV.sl _ _)]))] ?_
        refine sw_regL ?_
        refine swl_step (by exact ⟨rfl, ⟨⟩⟩) (by exact ⟨rfl, ⟨⟩⟩) (LocG.of rfl (loc_load (qs := [PV.val _, PV.val _, PV.val _, PV.val _, PV.val _, PV.val _, PV.val _, PV.val _, PV.val _, PV.val _, PV.val _]) (by decide) FLawStepNode_ty_36 (fun h => nomatch h) (by exact Nat.le_of_ble_eq_true rfl) (by exact (ToL.cons PV.nv_val (ToL.cons PV.nv_val (ToL.cons PV.nv_val (ToL.cons PV.nv_val (ToL.cons PV.nv_val (ToL.cons PV.nv_val (ToL.cons PV.nv_val (ToL.cons PV.nv_val (ToL.cons PV.nv_val (ToL.cons PV.nv_val (ToL.cons PV.nv_val ToL.nil)))))))))))) (by exact (BorL.cons (PV.bor_val _) (BorL.cons (PV.bor_val _) (BorL.cons (PV.bor_val _) (BorL.cons (PV.bor_val _) (BorL.cons (PV.bor_val _) (BorL.cons (PV.bor_val _) (BorL.cons (PV.bor_val _) (BorL.cons (PV.bor_val _) (BorL.cons (PV.bor_val _) (BorL.cons (PV.bor_val _) (BorL.cons (PV.bor_val _) BorL.nil)))))))))))))) nofree ?_
        refine swl_step (by exact ⟨rfl, ⟨⟩⟩) (by exact ⟨⟩) (LocG.of rfl (loc_copy (.inl rfl) (by decide) (by exact Cp.sc))) nofree ?_
        refine swl_of (l := [(1, RV.sv false [PV.val _]), (2, RV.ptr 2 0), (4, RV.sv false [PV.val _]), (5, RV.sv false [PV.val _]), (6, RV.ptr 6 0), (7, RV.sv false [PV.val _]), (8, RV.ptr 8 0), (9, RV.ptr 9 0), (10, RV.sv false [PV.val _]), (11, RV.sv false [PV.val _]), (12, RV.sv false [PV.val _]), (66, RV.sv true [PV.val _, PV.val _, PV.val _, PV.val _, PV.val _, PV.val _, PV.val _, PV.val _, PV.val _, PV.val _, PV.val _]), (67, RV.sv false [PV.val _])]) (b := [(2, (29, [PV.val _, PV.val _, PV.sl (.lo _) _, PV.sl (.lo _) _, PV.sl (.lo _) _, PV.sl (.lo _) _, PV.sl (.lo _) _, PV.sl (.lo _) _, PV.sl (.lo _) _, PV.sl (.lo _) _, PV.sl (.lo _) _])), (6, (36, [PV.val _, PV.val _, PV.sl _ _, PV.sl _ _, PV.sl _ _, PV.sl _ _, PV.sl _ _, PV.sl _ _, PV.sl _ _, PV.sl _ _, PV.sl _ _])), (8, (36, [PV.nv _ (PV.val _), PV.nv _ (PV.val _), PV.nv _ (PV.sl _ _), PV.nv _ (PV.sl _ _), PV.nv _ (PV.sl _ _), PV.nv _ (PV.sl _ _), PV.nv _ (PV.sl _ _), PV.nv _ (PV.sl _ _), PV.nv _ (PV.sl _ _), PV.nv _ (PV.sl _ _), PV.nv _ (PV.sl _ _)])), (9, (36, [PV.nv _ (PV.val _), PV.nv _ (PV.val _), PV.nv _ (PV.sl _ _), PV.nv _ (PV.sl _ _), PV.nv _ (PV.sl _ _), PV.nv _ (PV.sl _ _), PV.nv _ (PV.sl _ _), PV.nv _ (PV.sl _ _), PV.nv _ (PV.sl _ _), PV.nv _ (PV.sl _ _), PV.nv _ (PV.sl _ _)]))]) (by exact ⟨rfl, rfl, rfl, rfl, rfl, rfl, rfl, rfl, rfl, rfl, rfl, rfl, rfl, ⟨⟩⟩) (by exact ⟨rfl, rfl, rfl, rfl, ⟨⟩⟩) ?_
        refine swl_ucallB (bx := 9) (L := w0.heap.size) (A := []) (ms := [PV.nv _ (PV.val _), PV.nv _ (PV.val _), PV.nv _ (PV.sl _ _), PV.nv _ (PV.sl _ _), PV.nv _ (PV.sl _ _), PV.nv _ (PV.sl _ _), PV.nv _ (PV.sl _ _), PV.nv _ (PV.sl _ _), PV.nv _ (PV.sl _ _), PV.nv _ (PV.sl _ _), PV.nv _ (PV.sl _ _)]) (B := []) (qr := [(false, [PV.val _])]) (as_ := [(false, [PV.val _])]) (by decide) FLawStepNode_c_10 rfl (by exact rfl) (by exact (Nm.val (Nm.val (Nm.val (Nm.val (Nm.val (Nm.val (Nm.val (Nm.val (Nm.val (Nm.val (Nm.val Nm.nil)))))))))))) (by exact ⟨rfl, ⟨⟩⟩) (by exact (And.intro (by exact ⟨⟩) True.intro)) (by exact And.intro (And.intro rfl (ToL.cons (PV.To.refl _) ToL.nil)) True.intro) (by exact rfl) (by exact (Nm.nv (Nm.nv (Nm.nv (Nm.nv (Nm.nv (Nm.nv (Nm.nv (Nm.nv (Nm.nv (Nm.nv (Nm.nv Nm.nil)))))))))))) (by exact (OwnTo.nv (OwnTo.nv (OwnTo.nv (OwnTo.nv (OwnTo.nv (OwnTo.nv (OwnTo.nv (OwnTo.nv (OwnTo.nv (OwnTo.nv (OwnTo.nv OwnTo.nil)))))))))))) (by exact mark_Cluster (x := (stepNode aC aNode).1) (by omega) (by omega)) (by exact (OwnFrom.nv (OwnFrom.nv (OwnFrom.nv (OwnFrom.nv (OwnFrom.nv (OwnFrom.nv (OwnFrom.nv (OwnFrom.nv (OwnFrom.nv (OwnFrom.nv (OwnFrom.nv OwnFrom.nil)))))))))))) (fun x hx => hx) (by exact (LclA.cons (RV.lcl_sv (LclC.cons PV.lcl_val LclC.nil)) (LclA.cons RV.lcl_ptr (LclA.cons (RV.lcl_sv (LclC.cons PV.lcl_val LclC.nil)) (LclA.cons (RV.lcl_sv (LclC.cons PV.lcl_val LclC.nil)) (LclA.cons RV.lcl_ptr (LclA.cons (RV.lcl_sv (LclC.cons PV.lcl_val LclC.nil)) (LclA.cons RV.lcl_ptr (LclA.cons RV.lcl_ptr (LclA.cons (RV.lcl_sv (LclC.cons PV.lcl_val LclC.nil)) (LclA.cons (RV.lcl_sv (LclC.cons PV.lcl_val LclC.nil)) (LclA.cons (RV.lcl_sv (LclC.cons PV.lcl_val LclC.nil)) (LclA.cons (RV.lcl_sv (LclC.cons PV.lcl_val (LclC.cons PV.lcl_val (LclC.cons PV.lcl_val (LclC.cons PV.lcl_val (LclC.cons PV.lcl_val (LclC.cons PV.lcl_val (LclC.cons PV.lcl_val (LclC.cons PV.lcl_val (LclC.cons PV.lcl_val (LclC.cons PV.lcl_val (LclC.cons PV.lcl_val LclC.nil)))))))))))) (LclA.cons (RV.lcl_sv (LclC.cons PV.lcl_val LclC.nil)) LclA.nil)))))))))))))) (by exact (And.intro (.inr (LclC.cons PV.lcl_val (LclC.cons PV.lcl_val (LclC.cons (PV.lcl_lo (LclRC.map fun x => (LclRC.cons PV.lclr_val (LclRC.cons PV.lclr_val (LclRC.cons PV.lclr_val LclRC.nil))))) (LclC.cons (PV.lcl_lo (LclRC.map fun x => (LclRC.cons PV.lclr_val LclRC.nil))) (LclC.cons (PV.lcl_lo (LclRC.map fun x => (LclRC.cons (PV.lclr_lo (LclRC.map fun x => (LclRC.cons PV.lclr_val (LclRC.cons (PV.lclr_lo (LclRC.map fun x => (LclRC.cons PV.lclr_val LclRC.nil))) LclRC.nil)))) LclRC.nil))) (LclC.cons (PV.lcl_lo (LclRC.map fun x => (LclRC.cons PV.lclr_val LclRC.nil))) (LclC.cons (PV.lcl_lo (LclRC.map fun x => (LclRC.cons PV.lclr_val LclRC.nil))) (LclC.cons (PV.lcl_lo (LclRC.map fun x => (LclRC.cons PV.lclr_val LclRC.nil))) (LclC.cons (PV.lcl_lo (LclRC.map fun x => (LclRC.cons (PV.lclr_lo (LclRC.map fun x => (LclRC.cons PV.lclr_val (LclRC.cons (PV.lclr_lo (LclRC.map fun x => (LclRC.cons PV.lclr_val LclRC.nil))) LclRC.nil)))) LclRC.nil))) (LclC.cons (PV.lcl_lo (LclRC.map fun x => (LclRC.cons PV.lclr_val LclRC.nil))) (LclC.cons (PV.lcl_lo (LclRC.map fun x => (LclRC.cons (PV.lclr_lo (LclRC.map fun x => (LclRC.cons PV.lclr_val (LclRC.cons (PV.lclr_lo (LclRC.map fun x => (LclRC.cons PV.lclr_val LclRC.nil))) LclRC.nil)))) LclRC.nil))) LclC.nil)))))))))))) (And.intro (.inr (LclC.cons PV.lcl_val (LclC.cons PV.lcl_val (LclC.cons (PV.lcl_own (LclC.map fun x => (LclC.cons PV.lcl_val (LclC.cons PV.lcl_val (LclC.cons PV.lcl_val LclC.nil))))) (LclC.cons (PV.lcl_own (LclC.map fun x => (LclC.cons PV.lcl_val LclC.nil))) (LclC.cons (PV.lcl_own (LclC.map fun x => (LclC.cons (PV.lcl_own (LclC.map fun x => (LclC.cons PV.lcl_val (LclC.cons (PV.lcl_own (LclC.map fun x => (LclC.cons PV.lcl_val LclC.nil))) LclC.nil)))) LclC.nil))) (LclC.cons (PV.lcl_own (LclC.map fun x => (LclC.cons PV.lcl_val LclC.nil))) (LclC.cons (PV.lcl_own (LclC.map fun x => (LclC.cons PV.lcl_val LclC.nil))) (LclC.cons (PV.lcl_own (LclC.map fun x => (LclC.cons PV.lcl_val LclC.nil))) (LclC.cons (PV.lcl_own (LclC.map fun x => (LclC.cons (PV.lcl_own (LclC.map fun x => (LclC.cons PV.lcl_val (LclC.cons (PV.lcl_own (LclC.map fun x => (LclC.cons PV.lcl_val LclC.nil))) LclC.nil)))) LclC.nil))) (LclC.cons (PV.lcl_own (LclC.map fun x => (LclC.cons PV.lcl_val LclC.nil))) (LclC.cons (PV.lcl_own (LclC.map fun x => (LclC.cons (PV.lcl_own (LclC.map fun x => (LclC.cons PV.lcl_val (LclC.cons (PV.lcl_own (LclC.map fun x => (LclC.cons PV.lcl_val LclC.nil))) LclC.nil)))) LclC.nil))) LclC.nil)))))))))))) (And.intro (.inr (LclC.cons (PV.lcl_nv PV.lcl_val) (LclC.cons (PV.lcl_nv PV.lcl_val) (LclC.cons (PV.lcl_nv (PV.lcl_own (LclC.map fun x => (LclC.cons PV.lcl_val (LclC.cons PV.lcl_val (LclC.cons PV.lcl_val LclC.nil)))))) (LclC.cons (PV.lcl_nv (PV.lcl_own (LclC.map fun x => (LclC.cons PV.lcl_val LclC.nil)))) (LclC.cons (PV.lcl_nv (PV.lcl_own (LclC.map fun x => (LclC.cons (PV.lcl_own (LclC.map fun x => (LclC.cons PV.lcl_val (LclC.cons (PV.lcl_own (LclC.map fun x => (LclC.cons PV.lcl_val LclC.nil))) LclC.nil)))) LclC.nil)))) (LclC.cons (PV.lcl_nv (PV.lcl_own (LclC.map fun x => (LclC.cons PV.lcl_val LclC.nil)))) (LclC.cons (PV.lcl_nv (PV.lcl_own (LclC.map fun x => (LclC.cons PV.lcl_val LclC.nil)))) (LclC.cons (PV.lcl_nv (PV.lcl_own (LclC.map fun x => (LclC.cons PV.lcl_val LclC.nil)))) (LclC.cons (PV.lcl_nv (PV.lcl_own (LclC.map fun x => (LclC.cons (PV.lcl_own (LclC.map fun x => (LclC.cons PV.lcl_val (LclC.cons (PV.lcl_own (LclC.map fun x => (LclC.cons PV.lcl_val LclC.nil))) LclC.nil)))) LclC.nil)))) (LclC.cons (PV.lcl_nv (PV.lcl_own (LclC.map fun x => (LclC.cons PV.lcl_val LclC.nil)))) (LclC.cons (PV.lcl_nv (PV.lcl_own (LclC.map fun x => (LclC.cons (PV.lcl_own (LclC.map fun x => (LclC.cons PV.lcl_val (LclC.cons (PV.lcl_own (LclC.map fun x => (LclC.cons PV.lcl_val LclC.nil))) LclC.nil)))) LclC.nil)))) LclC.nil)))))))))))) (And.intro (.inl rfl) True.intro))))) (by exact LclC.nil) (by exact LclC.nil) rfl ?_
        refine swl_step (by exact ⟨rfl, ⟨⟩⟩) (by exact ⟨⟩) (LocG.of rfl (loc_copy (.inr rfl) (by decide) (by exact Cp.sc))) nofree ?_
        refine swl_nil ?_
        refine sw_seq ?_
        refine sO [(1, _), (2, _), (4, _), (5, _), (6, _), (7, _), (8, _), (9, _), (10, _), (11, _), (12, _)] [(2, _), (6, _), (8, _), (9, _)] ?_
        refine sw_reg ?_
        refine rA ?_ (x := kA)
        refine sw_seq ?_
        refine sO [(1, _), (2, _), (4, _), (5, _), (6, _), (7, _), (8, _), (9, _), (10, _), (11, _), (12, _), (13, _)] [(2, _), (6, _), (8, _), (9, _)] ?_
        refine sw_reg ?_
        refine rA ?_ (x := loc_load (qs := [PV.val _, PV.val _, PV.sl .v _, PV.sl .v _, PV.sl .v _, PV.sl .v _, PV.sl .v _, PV.sl .v _, PV.sl .v _, PV.sl .v _, PV.sl .v _]) (by decide) FLawStepNode_ty_36 (fun h => nomatch h) (by exact Nat.le_of_ble_eq_true rfl) (by exact (ToL.cons (PV.nv_to (PV.To.refl _)) (ToL.cons (PV.nv_to (PV.To.refl _)) (ToL.cons (PV.nv_to PV.to_none) (ToL.cons (PV.nv_to PV.to_none) (ToL.cons (PV.nv_to PV.to_none) (ToL.cons (PV.nv_to PV.to_none) (ToL.cons (PV.nv_to PV.to_none) (ToL.cons (PV.nv_to PV.to_none) (ToL.cons (PV.nv_to PV.to_none) (ToL.cons (PV.nv_to PV.to_none) (ToL.cons (PV.nv_to PV.to_none) ToL.nil)))))))))))) (by exact (BorL.cons (PV.bor_val _) (BorL.cons (PV.bor_val _) (BorL.cons (PV.bor_sl _) (BorL.cons (PV.bor_sl _) (BorL.cons (PV.bor_sl _) (BorL.cons (PV.bor_sl _) (BorL.cons (PV.bor_sl _) (BorL.cons (PV.bor_sl _) (BorL.cons (PV.bor_sl _) (BorL.cons (PV.bor_sl _) (BorL.cons (PV.bor_sl _) BorL.nil)))))))))))))
        refine rA ?_ (x := sM)
        refine rA ?_ (x := cL [(true, [PV.val _, PV.val _, PV.sl _ _, PV.sl _ _, PV.sl _ _, PV.sl _ _, PV.sl _ _, PV.sl _ _, PV.sl _ _, PV.sl _ _, PV.sl _ _]), (false, [PV.val _])] [(true, [PV.val _, PV.val _, PV.sl .v _, PV.sl .v _, PV.sl .v _, PV.sl .v _, PV.sl .v _, PV.sl .v _, PV.sl .v _, PV.sl .v _, PV.sl .v _]), (false, [PV.val _])] FLawStepNode_c_11 (hs := by exact held_Cluster (by omega) (by first | omega | (simp only [mkV_Cluster]; omega))))
        refine rA ?_ (x := sA)
        refine sw_seq ?_
        refine sw_seq ?_
        refine sO [(1, _), (2, _), (4, _), (5, _), (6, _), (7, _), (8, _), (9, _), (10, _), (11, _), (12, _), (13, _)] [(2, _), (6, _), (8, _), (9, _)] ?_
        refine sw_reg ?_
        refine rA ?_ (x := sM)
        refine rA ?_ (x := B_lss)
        refine sw_cond (t := 73) rfl (fun hb14 => ?_) (fun hb14 => ?_)
        ·try simp only [q1, q2, q3, q4, q5, q6, q7, q8, q9] at hb14
         first | exact absurd rfl hb14 | (simp [deq_self] at hb14; done) | omega
        ·try simp only [q1, q2, q3, q4, q5, q6, q7, q8, q9] at hb14
         refine sw_skip ?_
         refine sw_seq ?_
         refine sw_seq ?_
         refine sO [(1, _), (2, _), (4, _), (5, _), (6, _), (7, _), (8, _), (9, _), (10, _), (11, _), (12, _), (13, _)] [(2, _), (6, _), (8, _), (9, _)] ?_
         refine sw_reg ?_
         refine rA ?_ (x := sM)
         refine rA ?_ (x := sM)
         refine rA ?_ (x := B_neq)
         refine sw_cond (t := 76) rfl (fun hb15 => ?_) (fun hb15 => ?_)
         ·try simp only [q1, q2, q3, q4, q5, q6, q7, q8, q9] at hb15
          first | exact absurd rfl hb15 | (simp [deq_self] at hb15; done) | omega
         ·try simp only [q1, q2, q3, q4, q5, q6, q7, q8, q9] at hb15
          refine sw_skip ?_
          refine sw_seq ?_
          refine sO [(1, _), (2, _), (4, _), (5, _), (6, _), (7, _), (8, _), (9, _), (10, _), (11, _), (12, _), (13, _)] [(2, _), (6, _), (8, _), (9, _)] ?_
          refine sw_reg ?_
          refine rA ?_ (x := lD [PV.val _, PV.val _, PV.sl (.lo _) _, PV.sl (.lo _) _, PV.sl (.lo _) _, PV.sl (.lo _) _, PV.sl (.lo _) _, PV.sl (.lo _) _, PV.sl (.lo _) _, PV.sl (.lo _) _, PV.sl (.lo _) _] FLawStepNode_ty_29)
          refine rA ?_ (x := cL [(true, [PV.val _, PV.val _, PV.sl (.lo _) _, PV.sl (.lo _) _, PV.sl (.lo _) _, PV.sl (.lo _) _, PV.sl (.lo _) _, PV.sl (.lo _) _, PV.sl (.lo _) _, PV.sl (.lo _) _, PV.sl (.lo _) _])] [(true, [PV.val _, PV.val _, PV.sl .v _, PV.sl .v _, PV.sl .v _, PV.sl .v _, PV.sl .v _, PV.sl .v _, PV.sl .v _, PV.sl .v _, PV.sl .v _])] FLawStepNode_c_7 (hs := by exact to_Cluster (by omega)))
          refine rA ?_ (x := sM)
          refine rA ?_ (x := cL [(true, [PV.val _, PV.val _, PV.sl _ _, PV.sl _ _, PV.sl _ _, PV.sl _ _, PV.sl _ _, PV.sl _ _, PV.sl _ _, PV.sl _ _, PV.sl _ _]), (false, [PV.val _])] [(true, [PV.val _, PV.val _, PV.sl .v _, PV.sl .v _, PV.sl .v _, PV.sl .v _, PV.sl .v _, PV.sl .v _, PV.sl .v _, PV.sl .v _, PV.sl .v _]), (false, [PV.val _])] FLawStepNode_c_8 (hs := by exact impl_StepNode (by omega)))
          refine rA ?_ (x := tM)
          refine rA ?_ (x := loc_extract (cs := [PV.val _, PV.val _, PV.sl _ _, PV.sl _ _, PV.sl _ _, PV.sl _ _, PV.sl _ _, PV.sl _ _, PV.sl _ _, PV.sl _ _, PV.sl _ _]) (qs := [PV.val _, PV.val _, PV.sl .v _, PV.sl .v _, PV.sl .v _, PV.sl .v _, PV.sl .v _, PV.sl .v _, PV.sl .v _, PV.sl .v _, PV.sl .v _]) (by decide) (by exact rfl) (by exact (ToL.cons (PV.To.refl _) (ToL.cons (PV.To.refl _) (ToL.cons PV.to_none (ToL.cons PV.to_none (ToL.cons PV.to_none (ToL.cons PV.to_none (ToL.cons PV.to_none (ToL.cons PV.to_none (ToL.cons PV.to_none (ToL.cons PV.to_none (ToL.cons PV.to_none ToL.nil)))))))))))) (by exact (BorL.cons (PV.bor_val _) (BorL.cons (PV.bor_val _) (BorL.cons (PV.bor_sl _) (BorL.cons (PV.bor_sl _) (BorL.cons (PV.bor_sl _) (BorL.cons (PV.bor_sl _) (BorL.cons (PV.bor_sl _) (BorL.cons (PV.bor_sl _) (BorL.cons (PV.bor_sl _) (BorL.cons (PV.bor_sl _) (BorL.cons (PV.bor_sl _) BorL.nil)))))))))))))
          refine rA ?_ (x := loc_extractb (cs := [PV.val _]) (by decide) (by exact rfl) (by exact (BorL.cons (PV.bor_val _) BorL.nil)))
          refine RunS.step (by exact ⟨⟩) (by exact ⟨⟩) (LocG.of rfl (loc_alloc (by decide) FLawStepNode_z_36 FLawStepNode_zo_36)) (free1 (Free.app (Free.app (Free.app (Free.app (Free.app (Free.app (Free.app (Free.of_ rfl) rfl) rfl) rfl) rfl) rfl) rfl) rfl)) ?_
          refine rA ?_ (x := loc_store (ag := true) (vs := [PV.val _, PV.val _, PV.sl _ _, PV.sl _ _, PV.sl _ _, PV.sl _ _, PV.sl _ _, PV.sl _ _, PV.sl _ _, PV.sl _ _, PV.sl _ _]) FLawStepNode_ty_36 (by exact ⟨⟩) (by exact rfl) (by exact Nat.le_of_ble_eq_true rfl))
          refine rA ?_ (x := sA)
          refine sw_seq ?_
          refine sw_seq ?_
          refine sO [(1, _), (2, _), (4, _), (5, _), (6, _), (7, _), (8, _), (9, _), (10, _), (11, _), (12, _), (13, _), (14, _), (15, _)] [(2, _), (6, _), (8, _), (9, _), (14, (36, [PV.val _, PV.val _, PV.sl _ _, PV.sl _ _, PV.sl _ _, PV.sl _ _, PV.sl _ _, PV.sl _ _, PV.sl _ _, PV.sl _ _, PV.sl _ _]))] ?_
          refine sw_reg ?_
          refine rA ?_ (x := lD [PV.val _, PV.val _, PV.sl .v _, PV.sl .v _, PV.sl .v _, PV.sl .v _, PV.sl .v _, PV.sl .v _, PV.sl .v _, PV.sl .v _, PV.sl .v _] FLawStepNode_ty_36)
          refine rA ?_ (x := lD [PV.val _, PV.val _, PV.sl .v _, PV.sl .v _, PV.sl .v _, PV.sl .v _, PV.sl .v _, PV.sl .v _, PV.sl .v _, PV.sl .v _, PV.sl .v _] FLawStepNode_ty_36)
          refine rA ?_ (x := cL [(true, [PV.val _, PV.val _, PV.sl _ _, PV.sl _ _, PV.sl _ _, PV.sl _ _, PV.sl _ _, PV.sl _ _, PV.sl _ _, PV.sl _ _, PV.sl _ _]), (true, [PV.val _, PV.val _, PV.sl _ _, PV.sl _ _, PV.sl _ _, PV.sl _ _, PV.sl _ _, PV.sl _ _, PV.sl _ _, PV.sl _ _, PV.sl _ _])] [(true, [PV.val _, PV.val _, PV.sl .v _, PV.sl .v _, PV.sl .v _, PV.sl .v _, PV.sl .v _, PV.sl .v _, PV.sl .v _, PV.sl .v _, PV.sl .v _]), (true, [PV.val _, PV.val _, PV.sl .v _, PV.sl .v _, PV.sl .v _, PV.sl .v _, PV.sl .v _, PV.sl .v _, PV.sl .v _, PV.sl .v _, PV.sl .v _])] FLawStepNode_c_9 (hs := by exact eq_Cluster))
          refine rA ?_ (x := nT)
          refine rA ?_ (x := sM)
          refine RunS.cases (s := 88) rfl (fun g16 => ?_) (fun g16 => ?_)
          ·first | (simp [deq_self] at g16; done) | (simp only [decide_eq_true_eq] at g16; omega)
          ·have sg16 := g16
           try simp only [q1, q2, q3, q4, q5, q6, q7, q8, q9] at sg16
           refine rB g16 ?_ (x := sM)
           refine rB g16 ?_ (x := sM)
           refine rB g16 ?_ (x := loc_bneq (by decide) FLawStepNode_ub_4 (by exact ⟨⟩) (by exact ⟨⟩))
           refine rA ?_ (x := pkF g16)
           refine sw_cond (t := 92) rfl (fun hb17 => ?_) (fun hb17 => ?_)
           ·try simp only [q1, q2, q3, q4, q5, q6, q7, q8, q9] at hb17
            first | exact absurd rfl hb17 | (simp [deq_self] at hb17; done) | omega
           ·try simp only [q1, q2, q3, q4, q5, q6, q7, q8, q9] at hb17
            refine sw_skip ?_
            refine sw_seq ?_
            refine sO [(1, _), (2, _), (4, _), (5, _), (6, _), (7, _), (8, _), (9, _), (10, _), (11, _), (12, _), (13, _), (14, _), (15, _)] [(2, _), (6, _), (8, _), (9, _), (14, _)] ?_
            refine sw_reg ?_
            refine rA ?_ (x := kA)
            refine sw_seq ?_
            refine sO [(1, _), (2, _), (4, _), (5, _), (6, _), (7, _), (8, _), (9, _), (10, _), (11, _), (12, _), (13, _), (14, _), (15, _)] [(2, _), (6, _), (8, _), (9, _), (14, _)] ?_
            refine sw_reg ?_
            refine rA ?_ (x := loc_load (qs := [PV.val _, PV.val _, PV.sl .v _, PV.sl .v _, PV.sl .v _, PV.sl .v _, PV.sl .v _, PV.sl .v _, PV.sl .v _, PV.sl .v _, PV.sl .v _]) (by decide) FLawStepNode_ty_36 (fun h => nomatch h) (by exact Nat.le_of_ble_eq_true rfl) (by exact (ToL.cons (PV.nv_to (PV.To.refl _)) (ToL.cons (PV.nv_to (PV.To.refl _)) (ToL.cons (PV.nv_to PV.to_none) (ToL.cons (PV.nv_to PV.to_none) (ToL.cons (PV.nv_to PV.to_none) (ToL.cons (PV.nv_to PV.to_none) (ToL.cons (PV.nv_to PV.to_none) (ToL.cons (PV.nv_to PV.to_none) (ToL.cons (PV.nv_to PV.to_none) (ToL.cons (PV.nv_to PV.to_none) (ToL.cons (PV.nv_to PV.to_none) ToL.nil)))))))))))) (by exact (BorL.cons (PV.bor_val _) (BorL.cons (PV.bor_val _) (BorL.cons (PV.bor_sl _) (BorL.cons (PV.bor_sl _) (BorL.cons (PV.bor_sl _) (BorL.cons (PV.bor_sl _) (BorL.cons (PV.bor_sl _) (BorL.cons (PV.bor_sl _) (BorL.cons (PV.bor_sl _) (BorL.cons (PV.bor_sl _) (BorL.cons (PV.bor_sl _) BorL.nil)))))))))))))
            refine rA ?_ (x := sM)
            refine rA ?_ (x := cL [(true, [PV.val _, PV.val _, PV.sl _ _, PV.sl _ _, PV.sl _ _, PV.sl _ _, PV.sl _ _, PV.sl _ _, PV.sl _ _, PV.sl _ _, PV.sl _ _]), (false, [PV.val _])] [(true, [PV.val _, PV.val _, PV.sl .v _, PV.sl .v _, PV.sl .v _, PV.sl .v _, PV.sl .v _, PV.sl .v _, PV.sl .v _, PV.sl .v _, PV.sl .v _]), (false, [PV.val _])] FLawStepNode_c_11 (hs := by exact held_Cluster (by omega) (by first | omega | (simp only [mkV_Cluster]; omega))))
            refine rA ?_ (x := sA)
            refine sw_seq ?_
            refine sw_seq ?_
            refine sO [(1, _), (2, _), (4, _), (5, _), (6, _), (7, _), (8, _), (9, _), (10, _), (11, _), (12, _), (13, _), (14, _), (15, _)] [(2, _), (6, _), (8, _), (9, _), (14, _)] ?_
            refine sw_reg ?_
            refine rA ?_ (x := sM)
            refine rA ?_ (x := B_lss)
            refine sw_cond (t := 97) rfl (fun hb18 => ?_) (fun hb18 => ?_)
            ·try simp only [q1, q2, q3, q4, q5, q6, q7, q8, q9] at hb18
             first | exact absurd rfl hb18 | (simp [deq_self] at hb18; done) | omega
            ·try simp only [q1, q2, q3, q4, q5, q6, q7, q8, q9] at hb18
             refine sw_skip ?_
             refine sw_seq ?_
             refine sw_seq ?_
             refine sO [(1, _), (2, _), (4, _), (5, _), (6, _), (7, _), (8, _), (9, _), (10, _), (11, _), (12, _), (13, _), (14, _), (15, _)] [(2, _), (6, _), (8, _), (9, _), (14, _)] ?_
             refine sw_reg ?_
             refine rA ?_ (x := sM)
             refine rA ?_ (x := sM)
             refine rA ?_ (x := B_neq)
             refine sw_cond (t := 100) rfl (fun hb19 => ?_) (fun hb19 => ?_)
             ·try simp only [q1, q2, q3, q4, q5, q6, q7, q8, q9] at hb19
              first | exact absurd rfl hb19 | (simp [deq_self] at hb19; done) | omega
             ·try simp only [q1, q2, q3, q4, q5, q6, q7, q8, q9] at hb19
              refine sw_skip ?_
              refine sw_seq ?_
              refine sO [(1, _), (2, _), (4, _), (5, _), (6, _), (7, _), (8, _), (9, _), (10, _), (11, _), (12, _), (13, _), (14, _), (15, _)] [(2, _), (6, _), (8, _), (9, _), (14, _)] ?_
              refine sw_reg ?_
              refine rA ?_ (x := kA)
              refine sw_ret ?_
              exact (And.intro (by exact rfl) True.intro)
end Go.Proofs.YtloipjaiceifbaaGreat
