/- What functions of the program compute. No condition. -/
import Derived.Test.YtloipjaiceifbaaCToClusterRows
import Derived.Test.YtloipjaiceifbaaCEqClusterRows
import Derived.Test.YtloipjaiceifbaaCMkClusterRows
import Derived.Test.YtloipjaiceifbaaCHeClusterRows
import Derived.Test.YtloipjaiceifbaaCCluRClusterRows
import Derived.KernelRfl
set_option linter.unusedVariables false
set_option linter.unusedSimpArgs false
namespace Go.Proofs.Ytloipjaiceifbaa
open Go Go.RowKit M
set_option maxRecDepth 10000
attribute [local irreducible] PV.Lcl PV.LclR RV.Lcl
theorem FLawClusterRows_c_21 : callI Try.prog 21 = true := by kernel_rfl
theorem FLawClusterRows_c_22 : callI Try.prog 22 = true := by kernel_rfl
theorem FLawClusterRows_c_23 : callI Try.prog 23 = true := by kernel_rfl
theorem FLawClusterRows_c_38 : callI Try.prog 38 = true := by kernel_rfl
theorem FLawClusterRows_c_43 : callI Try.prog 43 = true := by kernel_rfl
theorem FLawClusterRows_c_45 : callI Try.prog 45 = true := by kernel_rfl
theorem FLawClusterRows_c_47 : callI Try.prog 47 = true := by kernel_rfl
theorem FLawClusterRows_c_51 : callI Try.prog 51 = true := by kernel_rfl
theorem FLawClusterRows_c_52 : callI Try.prog 52 = true := by kernel_rfl
theorem FLawClusterRows_ty_60 : tyI Try.prog 60 = some (true, 11) := by kernel_rfl
theorem FLawClusterRows_ty_73 : tyI Try.prog 73 = some (true, 11) := by kernel_rfl
theorem FLawClusterRows_z_60 : zeroI Try.prog 60 = some (.agg #[.int .i64 0, .int .i64 0, .slice none 0 0, .slice none 0 0, .slice none 0 0, .slice none 0 0, .slice none 0 0, .slice none 0 0, .slice none 0 0, .slice none 0 0, .slice none 0 0]) := by kernel_rfl
theorem FLawClusterRows_zo_60 {Fz : FzT} {w : World} : OwnL [PV.val (.int .i64 0), PV.val (.int .i64 0), PV.sl (.own 130 3) [], PV.sl (.own 3 1) [], PV.sl (.own 32 1) [], PV.sl (.own 4 1) [], PV.sl (.own 3 1) [], PV.sl (.own 3 1) [], PV.sl (.own 32 1) [], PV.sl (.own 3 1) [], PV.sl (.own 32 1) []] Fz w (Value.cells (.agg #[.int .i64 0, .int .i64 0, .slice none 0 0, .slice none 0 0, .slice none 0 0, .slice none 0 0, .slice none 0 0, .slice none 0 0, .slice none 0 0, .slice none 0 0, .slice none 0 0])).toList [] := zo_val rfl (zo_val rfl (zo_sl (zo_sl (zo_sl (zo_sl (zo_sl (zo_sl (zo_sl (zo_sl (zo_sl (zo_nil)))))))))))
theorem law_ClusterRows {p3 p4 p9 p10 p13 p14 : Fl} {aC : Cluster}  : SCall Try.prog 9 [(true, [PV.val (vI aC.Query.Id), PV.val (vI aC.Query.Tenant), PV.sl .v (aC.Query.Conds.map cCond), PV.sl .v (aC.Query.Out.map cInt), PV.sl .v (aC.Parts.map (cRowS p3 p4)), PV.sl .v (aC.Up.map cBool), PV.sl .v (aC.At.map cInt), PV.sl .v (aC.Pos.map cInt), PV.sl .v (aC.Buffer.map (cRowS p9 p10)), PV.sl .v (aC.Done.map cInt), PV.sl .v (aC.Rows.map (cRowS p13 p14))])] (resRV [(false, [PV.val (.bool true)])]) := by
 refine scall_lo (largs := fun L => [(true, [PV.val (vI aC.Query.Id), PV.val (vI aC.Query.Tenant), PV.sl (.lo L) (aC.Query.Conds.map cCond), PV.sl (.lo L) (aC.Query.Out.map cInt), PV.sl (.lo L) (aC.Parts.map (cRowS (.lo L) (.lo L))), PV.sl (.lo L) (aC.Up.map cBool), PV.sl (.lo L) (aC.At.map cInt), PV.sl (.lo L) (aC.Pos.map cInt), PV.sl (.lo L) (aC.Buffer.map (cRowS (.lo L) (.lo L))), PV.sl (.lo L) (aC.Done.map cInt), PV.sl (.lo L) (aC.Rows.map (cRowS (.lo L) (.lo L)))])]) (rs := [(false, [PV.val (.bool true)])]) Try.func9 rfl (Nat.le_of_ble_eq_true rfl) (fun L => by exact (And.intro (And.intro rfl (ToBL.cons PV.tob_refl (ToBL.cons PV.tob_refl (ToBL.cons (PV.tob_map (fun _ => Nat.le_of_ble_eq_true rfl) (fun _ => (ToBL.cons PV.tob_refl (ToBL.cons PV.tob_refl (ToBL.cons PV.tob_refl ToBL.nil))))) (ToBL.cons (PV.tob_map (fun _ => Nat.le_of_ble_eq_true rfl) (fun _ => (ToBL.cons PV.tob_refl ToBL.nil))) (ToBL.cons (PV.tob_map (fun _ => Nat.le_of_ble_eq_true rfl) (fun _ => (ToBL.cons (PV.tob_map (fun _ => Nat.le_of_ble_eq_true rfl) (fun _ => (ToBL.cons PV.tob_refl (ToBL.cons (PV.tob_map (fun _ => Nat.le_of_ble_eq_true rfl) (fun _ => (ToBL.cons PV.tob_refl ToBL.nil))) ToBL.nil)))) ToBL.nil))) (ToBL.cons (PV.tob_map (fun _ => Nat.le_of_ble_eq_true rfl) (fun _ => (ToBL.cons PV.tob_refl ToBL.nil))) (ToBL.cons (PV.tob_map (fun _ => Nat.le_of_ble_eq_true rfl) (fun _ => (ToBL.cons PV.tob_refl ToBL.nil))) (ToBL.cons (PV.tob_map (fun _ => Nat.le_of_ble_eq_true rfl) (fun _ => (ToBL.cons PV.tob_refl ToBL.nil))) (ToBL.cons (PV.tob_map (fun _ => Nat.le_of_ble_eq_true rfl) (fun _ => (ToBL.cons (PV.tob_map (fun _ => Nat.le_of_ble_eq_true rfl) (fun _ => (ToBL.cons PV.tob_refl (ToBL.cons (PV.tob_map (fun _ => Nat.le_of_ble_eq_true rfl) (fun _ => (ToBL.cons PV.tob_refl ToBL.nil))) ToBL.nil)))) ToBL.nil))) (ToBL.cons (PV.tob_map (fun _ => Nat.le_of_ble_eq_true rfl) (fun _ => (ToBL.cons PV.tob_refl ToBL.nil))) (ToBL.cons (PV.tob_map (fun _ => Nat.le_of_ble_eq_true rfl) (fun _ => (ToBL.cons (PV.tob_map (fun _ => Nat.le_of_ble_eq_true rfl) (fun _ => (ToBL.cons PV.tob_refl (ToBL.cons (PV.tob_map (fun _ => Nat.le_of_ble_eq_true rfl) (fun _ => (ToBL.cons PV.tob_refl ToBL.nil))) ToBL.nil)))) ToBL.nil))) ToBL.nil)))))))))))) True.intro)) (fun L => by exact (borA_cons (BorL.cons (PV.bor_val _) (BorL.cons (PV.bor_val _) (BorL.cons (PV.bor_lo _ _) (BorL.cons (PV.bor_lo _ _) (BorL.cons (PV.bor_lo _ _) (BorL.cons (PV.bor_lo _ _) (BorL.cons (PV.bor_lo _ _) (BorL.cons (PV.bor_lo _ _) (BorL.cons (PV.bor_lo _ _) (BorL.cons (PV.bor_lo _ _) (BorL.cons (PV.bor_lo _ _) BorL.nil))))))))))) borA_nil)) ?_
 intro w0 Fz0
 refine sw_slen (s := 0) (j := 2) rfl rfl fun hl0_2 => ?_
 try rw [List.length_map] at hl0_2
 refine sw_slen (s := 0) (j := 3) rfl rfl fun hl0_3 => ?_
 try rw [List.length_map] at hl0_3
 refine sw_slen (s := 0) (j := 4) rfl rfl fun hl0_4 => ?_
 try rw [List.length_map] at hl0_4
 refine sw_slen (s := 0) (j := 5) rfl rfl fun hl0_5 => ?_
 try rw [List.length_map] at hl0_5
 refine sw_slen (s := 0) (j := 6) rfl rfl fun hl0_6 => ?_
 try rw [List.length_map] at hl0_6
 refine sw_slen (s := 0) (j := 7) rfl rfl fun hl0_7 => ?_
 try rw [List.length_map] at hl0_7
 refine sw_slen (s := 0) (j := 8) rfl rfl fun hl0_8 => ?_
 try rw [List.length_map] at hl0_8
 refine sw_slen (s := 0) (j := 9) rfl rfl fun hl0_9 => ?_
 try rw [List.length_map] at hl0_9
 refine sw_slen (s := 0) (j := 10) rfl rfl fun hl0_10 => ?_
 try rw [List.length_map] at hl0_10
 refine sw_seq ?_
 refine sw_reg ?_
 refine RunS.step (by exact ⟨rfl, ⟨⟩⟩) (by exact ⟨⟩) (LocG.of rfl (loc_box (ag := true) (cs := [PV.val _, PV.val _, PV.sl (.lo _) _, PV.sl (.lo _) _, PV.sl (.lo _) _, PV.sl (.lo _) _, PV.sl (.lo _) _, PV.sl (.lo _) _, PV.sl (.lo _) _, PV.sl (.lo _) _, PV.sl (.lo _) _]) (by decide) (by exact ⟨⟩))) (free1 (Free.of_ rfl)) ?_
 refine rA ?_ (x := kA)
 refine sw_seq ?_
 refine sO [(1, _), (2, _)] [(1, (73, [PV.val _, PV.val _, PV.sl (.lo _) _, PV.sl (.lo _) _, PV.sl (.lo _) _, PV.sl (.lo _) _, PV.sl (.lo _) _, PV.sl (.lo _) _, PV.sl (.lo _) _, PV.sl (.lo _) _, PV.sl (.lo _) _]))] ?_
 refine sw_reg ?_
 refine rA ?_ (x := kA)
 refine sw_seq ?_
 refine sO [(1, _), (2, _), (3, _)] [(1, _)] ?_
 refine sw_reg ?_
 refine rA ?_ (x := lD [PV.val _, PV.val _, PV.sl (.lo _) _, PV.sl (.lo _) _, PV.sl (.lo _) _, PV.sl (.lo _) _, PV.sl (.lo _) _, PV.sl (.lo _) _, PV.sl (.lo _) _, PV.sl (.lo _) _, PV.sl (.lo _) _] FLawClusterRows_ty_73)
 refine rA ?_ (x := sM)
 refine rA ?_ (x := cL [(true, [PV.val _, PV.val _, PV.sl (.lo _) _, PV.sl (.lo _) _, PV.sl (.lo _) _, PV.sl (.lo _) _, PV.sl (.lo _) _, PV.sl (.lo _) _, PV.sl (.lo _) _, PV.sl (.lo _) _, PV.sl (.lo _) _]), (false, [PV.val _])] [(true, [PV.val _, PV.val _, PV.sl .v _, PV.sl .v _, PV.sl .v _, PV.sl .v _, PV.sl .v _, PV.sl .v _, PV.sl .v _, PV.sl .v _, PV.sl .v _]), (false, [PV.val _])] FLawClusterRows_c_45 (hs := by exact sz_Cluster (by omega) (by omega)))
 refine rA ?_ (x := sA)
 refine sw_seq ?_
 refine sw_seq ?_
 refine sO [(1, _), (2, _), (3, _)] [(1, _)] ?_
 refine sw_reg ?_
 refine rA ?_ (x := sM)
 refine rA ?_ (x := B_lss)
 refine sw_cond (t := 15) rfl (fun hb1 => ?_) (fun hb1 => ?_)
 ·try simp only [q1, q2, q3, q4, q5, q6, q7, q8, q9] at hb1
  refine sw_seq ?_
  refine sO [(1, _), (2, _), (3, _)] [(1, _)] ?_
  refine sw_reg ?_
  refine rA ?_ (x := kA)
  refine sw_ret ?_
  exact (And.intro (by exact rfl) True.intro)
 ·try simp only [q1, q2, q3, q4, q5, q6, q7, q8, q9] at hb1
  have hp0 := szR_pos (w := wtCluster aC) (l := 1048576) hb1
  have he0 := szR_yes hp0
  have hw0 := cluRows_wt aC
  have hwp0 : wtRowSS aC.Parts ≤ wtCluster aC := by unfold wtCluster; omega
  refine sw_skip ?_
  refine sw_seq ?_
  refine sO [(1, _), (2, _), (3, _)] [(1, _)] ?_
  refine sw_reg ?_
  refine rA ?_ (x := lD [PV.val _, PV.val _, PV.sl (.lo _) _, PV.sl (.lo _) _, PV.sl (.lo _) _, PV.sl (.lo _) _, PV.sl (.lo _) _, PV.sl (.lo _) _, PV.sl (.lo _) _, PV.sl (.lo _) _, PV.sl (.lo _) _] FLawClusterRows_ty_73)
  refine rA ?_ (x := cL [(true, [PV.val _, PV.val _, PV.sl (.lo _) _, PV.sl (.lo _) _, PV.sl (.lo _) _, PV.sl (.lo _) _, PV.sl (.lo _) _, PV.sl (.lo _) _, PV.sl (.lo _) _, PV.sl (.lo _) _, PV.sl (.lo _) _])] [(true, [PV.val _, PV.val _, PV.sl .v _, PV.sl .v _, PV.sl .v _, PV.sl .v _, PV.sl .v _, PV.sl .v _, PV.sl .v _, PV.sl .v _, PV.sl .v _])] FLawClusterRows_c_47 (hs := by exact to_Cluster (by omega)))
  refine rA ?_ (x := cL [(true, [PV.val _, PV.val _, PV.sl _ _, PV.sl _ _, PV.sl _ _, PV.sl _ _, PV.sl _ _, PV.sl _ _, PV.sl _ _, PV.sl _ _, PV.sl _ _])] [(true, [PV.val _, PV.val _, PV.sl .v _, PV.sl .v _, PV.sl .v _, PV.sl .v _, PV.sl .v _, PV.sl .v _, PV.sl .v _, PV.sl .v _, PV.sl .v _])] FLawClusterRows_c_51 (hs := by exact spec_ClusterRows (by omega)))
  refine rA ?_ (x := tA)
  refine sO [(1, _), (4, _)] [(1, _)] ?_
  refine sw_lowB (fun L => [(1, RV.ptr 1 0), (4, RV.sv false [PV.sl (.lo L) ((cluRows aC).map (cRow (.lo L)))])]) (fun L => [(1, (73, [PV.val (vI aC.Query.Id), PV.val (vI aC.Query.Tenant), PV.sl (.lo L) (aC.Query.Conds.map cCond), PV.sl (.lo L) (aC.Query.Out.map cInt), PV.sl (.lo L) (aC.Parts.map (cRowS (.lo L) (.lo L))), PV.sl (.lo L) (aC.Up.map cBool), PV.sl (.lo L) (aC.At.map cInt), PV.sl (.lo L) (aC.Pos.map cInt), PV.sl (.lo L) (aC.Buffer.map (cRowS (.lo L) (.lo L))), PV.sl (.lo L) (aC.Done.map cInt), PV.sl (.lo L) (aC.Rows.map (cRowS (.lo L) (.lo L)))]))]) (fun L => by exact (LowS.cons LowR.ptr (LowS.cons (LowR.sv (ToBL.cons (PV.tob_map (fun _ => Nat.le_of_ble_eq_true rfl) (fun _ => (ToBL.cons PV.tob_refl (ToBL.cons (PV.tob_map (fun _ => Nat.le_of_ble_eq_true rfl) (fun _ => (ToBL.cons PV.tob_refl ToBL.nil))) ToBL.nil)))) ToBL.nil) (BorL.cons (PV.bor_lo _ _) BorL.nil)) True.intro))) (fun L => by exact (LowB1.cons (ToBL.cons PV.tob_refl (ToBL.cons PV.tob_refl (ToBL.cons (PV.tob_map (fun _ => Nat.le_of_ble_eq_true rfl) (fun _ => (ToBL.cons PV.tob_refl (ToBL.cons PV.tob_refl (ToBL.cons PV.tob_refl ToBL.nil))))) (ToBL.cons (PV.tob_map (fun _ => Nat.le_of_ble_eq_true rfl) (fun _ => (ToBL.cons PV.tob_refl ToBL.nil))) (ToBL.cons (PV.tob_map (fun _ => Nat.le_of_ble_eq_true rfl) (fun _ => (ToBL.cons (PV.tob_map (fun _ => Nat.le_of_ble_eq_true rfl) (fun _ => (ToBL.cons PV.tob_refl (ToBL.cons (PV.tob_map (fun _ => Nat.le_of_ble_eq_true rfl) (fun _ => (ToBL.cons PV.tob_refl ToBL.nil))) ToBL.nil)))) ToBL.nil))) (ToBL.cons (PV.tob_map (fun _ => Nat.le_of_ble_eq_true rfl) (fun _ => (ToBL.cons PV.tob_refl ToBL.nil))) (ToBL.cons (PV.tob_map (fun _ => Nat.le_of_ble_eq_true rfl) (fun _ => (ToBL.cons PV.tob_refl ToBL.nil))) (ToBL.cons (PV.tob_map (fun _ => Nat.le_of_ble_eq_true rfl) (fun _ => (ToBL.cons PV.tob_refl ToBL.nil))) (ToBL.cons (PV.tob_map (fun _ => Nat.le_of_ble_eq_true rfl) (fun _ => (ToBL.cons (PV.tob_map (fun _ => Nat.le_of_ble_eq_true rfl) (fun _ => (ToBL.cons PV.tob_refl (ToBL.cons (PV.tob_map (fun _ => Nat.le_of_ble_eq_true rfl) (fun _ => (ToBL.cons PV.tob_refl ToBL.nil))) ToBL.nil)))) ToBL.nil))) (ToBL.cons (PV.tob_map (fun _ => Nat.le_of_ble_eq_true rfl) (fun _ => (ToBL.cons PV.tob_refl ToBL.nil))) (ToBL.cons (PV.tob_map (fun _ => Nat.le_of_ble_eq_true rfl) (fun _ => (ToBL.cons (PV.tob_map (fun _ => Nat.le_of_ble_eq_true rfl) (fun _ => (ToBL.cons PV.tob_refl (ToBL.cons (PV.tob_map (fun _ => Nat.le_of_ble_eq_true rfl) (fun _ => (ToBL.cons PV.tob_refl ToBL.nil))) ToBL.nil)))) ToBL.nil))) ToBL.nil))))))))))) (BorL.cons (PV.bor_val _) (BorL.cons (PV.bor_val _) (BorL.cons (PV.bor_lo _ _) (BorL.cons (PV.bor_lo _ _) (BorL.cons (PV.bor_lo _ _) (BorL.cons (PV.bor_lo _ _) (BorL.cons (PV.bor_lo _ _) (BorL.cons (PV.bor_lo _ _) (BorL.cons (PV.bor_lo _ _) (BorL.cons (PV.bor_lo _ _) (BorL.cons (PV.bor_lo _ _) BorL.nil))))))))))) True.intro)) fun Bl w0 Fz0 => ?_
  refine sw_seq ?_
  refine sw_reg ?_
  refine rA ?_ (x := lD [PV.val _, PV.val _, PV.sl (.lo _) _, PV.sl (.lo _) _, PV.sl (.lo _) _, PV.sl (.lo _) _, PV.sl (.lo _) _, PV.sl (.lo _) _, PV.sl (.lo _) _, PV.sl (.lo _) _, PV.sl (.lo _) _] FLawClusterRows_ty_73)
  refine rA ?_ (x := cL [(true, [PV.val _, PV.val _, PV.sl (.lo _) _, PV.sl (.lo _) _, PV.sl (.lo _) _, PV.sl (.lo _) _, PV.sl (.lo _) _, PV.sl (.lo _) _, PV.sl (.lo _) _, PV.sl (.lo _) _, PV.sl (.lo _) _])] [(true, [PV.val _, PV.val _, PV.sl .v _, PV.sl .v _, PV.sl .v _, PV.sl .v _, PV.sl .v _, PV.sl .v _, PV.sl .v _, PV.sl .v _, PV.sl .v _])] FLawClusterRows_c_47 (hs := by exact to_Cluster (by omega)))
  refine RunS.step (by exact ⟨⟩) (by exact ⟨⟩) (LocG.of rfl (loc_alloc (by decide) FLawClusterRows_z_60 FLawClusterRows_zo_60)) (free1 (Free.app (Free.app (Free.of_ rfl) rfl) rfl)) ?_
  refine rA ?_ (x := loc_store (ag := true) (vs := [PV.val _, PV.val _, PV.sl _ _, PV.sl _ _, PV.sl _ _, PV.sl _ _, PV.sl _ _, PV.sl _ _, PV.sl _ _, PV.sl _ _, PV.sl _ _]) FLawClusterRows_ty_60 (by exact ⟨⟩) (by exact rfl) (by exact Nat.le_of_ble_eq_true rfl))
  refine sw_seq ?_
  refine sO [(1, _), (4, _), (5, _)] [(1, (73, [PV.val _, PV.val _, PV.sl (.lo _) _, PV.sl (.lo _) _, PV.sl (.lo _) _, PV.sl (.lo _) _, PV.sl (.lo _) _, PV.sl (.lo _) _, PV.sl (.lo _) _, PV.sl (.lo _) _, PV.sl (.lo _) _])), (5, (60, [PV.val _, PV.val _, PV.sl _ _, PV.sl _ _, PV.sl _ _, PV.sl _ _, PV.sl _ _, PV.sl _ _, PV.sl _ _, PV.sl _ _, PV.sl _ _]))] ?_
  refine sw_reg ?_
  refine rA ?_ (x := lD [PV.val _, PV.val _, PV.sl .v _, PV.sl .v _, PV.sl .v _, PV.sl .v _, PV.sl .v _, PV.sl .v _, PV.sl .v _, PV.sl .v _, PV.sl .v _] FLawClusterRows_ty_60)
  refine rA ?_ (x := cL [(true, [PV.val _, PV.val _, PV.sl _ _, PV.sl _ _, PV.sl _ _, PV.sl _ _, PV.sl _ _, PV.sl _ _, PV.sl _ _, PV.sl _ _, PV.sl _ _])] [(true, [PV.val _, PV.val _, PV.sl .v _, PV.sl .v _, PV.sl .v _, PV.sl .v _, PV.sl .v _, PV.sl .v _, PV.sl .v _, PV.sl .v _, PV.sl .v _])] FLawClusterRows_c_52 (hs := by exact impl_ClusterRows (by omega)))
  refine rA ?_ (x := tA)
  refine sw_seq ?_
  refine sw_seq ?_
  refine sO [(1, _), (4, _), (5, _), (6, _)] [(1, _), (5, _)] ?_
  refine sw_reg ?_
  refine rA ?_ (x := vM false [PV.sl .v _])
  refine rA ?_ (x := vM false [PV.sl (.lo _) _])
  refine rA ?_ (x := cL [(false, [PV.sl _ _]), (false, [PV.sl (.lo _) _])] [(false, [PV.sl .v _]), (false, [PV.sl .v _])] FLawClusterRows_c_21 (hs := by exact eq_RowS))
  refine rA ?_ (x := nT)
  refine sw_cond (t := 26) rfl (fun hb2 => ?_) (fun hb2 => ?_)
  ·try simp only [q1, q2, q3, q4, q5, q6, q7, q8, q9] at hb2
   first | exact absurd rfl hb2 | (simp [deq_self] at hb2; done) | omega
  ·try simp only [q1, q2, q3, q4, q5, q6, q7, q8, q9] at hb2
   refine sw_skip ?_
   refine sw_seq ?_
   refine sw_seq ?_
   refine sO [(1, _), (4, _), (5, _), (6, _)] [(1, _), (5, _)] ?_
   refine sw_draw hm_ ?_
   refine dA 0 ?_ (x := lD [PV.val _, PV.val _, PV.sl .v _, PV.sl .v _, PV.sl .v _, PV.sl .v _, PV.sl .v _, PV.sl .v _, PV.sl .v _, PV.sl .v _, PV.sl .v _] FLawClusterRows_ty_60)
   refine dA 0 ?_ (x := lD [PV.val _, PV.val _, PV.sl (.lo _) _, PV.sl (.lo _) _, PV.sl (.lo _) _, PV.sl (.lo _) _, PV.sl (.lo _) _, PV.sl (.lo _) _, PV.sl (.lo _) _, PV.sl (.lo _) _, PV.sl (.lo _) _] FLawClusterRows_ty_73)
   refine dA 2 ?_ (x := cL [(true, [PV.val _, PV.val _, PV.sl (.lo _) _, PV.sl (.lo _) _, PV.sl (.lo _) _, PV.sl (.lo _) _, PV.sl (.lo _) _, PV.sl (.lo _) _, PV.sl (.lo _) _, PV.sl (.lo _) _, PV.sl (.lo _) _])] [(true, [PV.val _, PV.val _, PV.sl .v _, PV.sl .v _, PV.sl .v _, PV.sl .v _, PV.sl .v _, PV.sl .v _, PV.sl .v _, PV.sl .v _, PV.sl .v _])] FLawClusterRows_c_47 (hs := by exact to_Cluster (by omega)))
   refine dA 7 ?_ (x := cL [(true, [PV.val _, PV.val _, PV.sl _ _, PV.sl _ _, PV.sl _ _, PV.sl _ _, PV.sl _ _, PV.sl _ _, PV.sl _ _, PV.sl _ _, PV.sl _ _]), (true, [PV.val _, PV.val _, PV.sl _ _, PV.sl _ _, PV.sl _ _, PV.sl _ _, PV.sl _ _, PV.sl _ _, PV.sl _ _, PV.sl _ _, PV.sl _ _])] [(true, [PV.val _, PV.val _, PV.sl .v _, PV.sl .v _, PV.sl .v _, PV.sl .v _, PV.sl .v _, PV.sl .v _, PV.sl .v _, PV.sl .v _, PV.sl .v _]), (true, [PV.val _, PV.val _, PV.sl .v _, PV.sl .v _, PV.sl .v _, PV.sl .v _, PV.sl .v _, PV.sl .v _, PV.sl .v _, PV.sl .v _, PV.sl .v _])] FLawClusterRows_c_38 (hs := by exact eq_Cluster))
   refine dA 15 ?_ (x := nT)
   refine sw_cond (t := 31) rfl (fun hb3 => ?_) (fun hb3 => ?_)
   ·try simp only [q1, q2, q3, q4, q5, q6, q7, q8, q9] at hb3
    first | exact absurd rfl hb3 | (simp [deq_self] at hb3; done) | omega
   ·try simp only [q1, q2, q3, q4, q5, q6, q7, q8, q9] at hb3
    refine sw_skip ?_
    refine sw_seq ?_
    refine sO [(1, _), (4, _), (5, _), (6, _)] [(1, _), (5, _)] ?_
    refine sw_reg ?_
    refine rA ?_ (x := kA)
    refine sw_seq ?_
    refine sO [(1, _), (4, _), (5, _), (6, _), (7, _)] [(1, _), (5, _)] ?_
    refine sw_nmB (d := 5) (A := []) (ms := [PV.val _, PV.val _, PV.sl _ _, PV.sl _ _, PV.sl _ _, PV.sl _ _, PV.sl _ _, PV.sl _ _, PV.sl _ _, PV.sl _ _, PV.sl _ _]) (B := []) (by exact rfl) fun us hus => ?_
    obtain ⟨u4_0, u4_1, u4_2, u4_3, u4_4, u4_5, u4_6, u4_7, u4_8, u4_9, u4_10, rfl⟩ := us_11 hus
    have hq5 := mkV_Cluster_le aC 1
    have hq6 := ctV_Cluster aC 1
    refine sO [(1, _), (4, _), (5, _), (6, _), (7, _)] [(1, _), (5, (60, [PV.nv _ (PV.val _), PV.nv _ (PV.val _), PV.nv _ (PV.sl _ _), PV.nv _ (PV.sl _ _), PV.nv _ (PV.sl _ _), PV.nv _ (PV.sl _ _), PV.nv _ (PV.sl _ _), PV.nv _ (PV.sl _ _), PV.nv _ (PV.sl _ _), PV.nv _ (PV.sl _ _), PV.nv _ (PV.sl _ _)]))] ?_
    refine sw_regL ?_
    refine swl_step (by exact ⟨rfl, ⟨⟩⟩) (by exact ⟨rfl, ⟨⟩⟩) (LocG.of rfl (loc_load (qs := [PV.val _, PV.val _, PV.val _, PV.val _, PV.val _, PV.val _, PV.val _, PV.val _, PV.val _, PV.val _, PV.val _]) (by decide) FLawClusterRows_ty_60 (fun h => nomatch h) (by exact Nat.le_of_ble_eq_true rfl) (by exact (ToL.cons PV.nv_val (ToL.cons PV.nv_val (ToL.cons PV.nv_val (ToL.cons PV.nv_val (ToL.cons PV.nv_val (ToL.cons PV.nv_val (ToL.cons PV.nv_val (ToL.cons PV.nv_val (ToL.cons PV.nv_val (ToL.cons PV.nv_val (ToL.cons PV.nv_val ToL.nil)))))))))))) (by exact (BorL.cons (PV.bor_val _) (BorL.cons (PV.bor_val _) (BorL.cons (PV.bor_val _) (BorL.cons (PV.bor_val _) (BorL.cons (PV.bor_val _) (BorL.cons (PV.bor_val _) (BorL.cons (PV.bor_val _) (BorL.cons (PV.bor_val _) (BorL.cons (PV.bor_val _) (BorL.cons (PV.bor_val _) (BorL.cons (PV.bor_val _) BorL.nil)))))))))))))) nofree ?_
    refine swl_step (by exact ⟨rfl, ⟨⟩⟩) (by exact ⟨⟩) (LocG.of rfl (loc_copy (.inl rfl) (by decide) (by exact Cp.sc))) nofree ?_
    refine swl_of (l := [(1, RV.ptr 1 0), (4, RV.sv false [PV.sl (.lo _) _]), (5, RV.ptr 5 0), (6, RV.sv false [PV.sl _ _]), (7, RV.sv false [PV.val _]), (32, RV.sv true [PV.val _, PV.val _, PV.val _, PV.val _, PV.val _, PV.val _, PV.val _, PV.val _, PV.val _, PV.val _, PV.val _]), (33, RV.sv false [PV.val _])]) (b := [(1, (73, [PV.val _, PV.val _, PV.sl (.lo _) _, PV.sl (.lo _) _, PV.sl (.lo _) _, PV.sl (.lo _) _, PV.sl (.lo _) _, PV.sl (.lo _) _, PV.sl (.lo _) _, PV.sl (.lo _) _, PV.sl (.lo _) _])), (5, (60, [PV.nv _ (PV.val _), PV.nv _ (PV.val _), PV.nv _ (PV.sl _ _), PV.nv _ (PV.sl _ _), PV.nv _ (PV.sl _ _), PV.nv _ (PV.sl _ _), PV.nv _ (PV.sl _ _), PV.nv _ (PV.sl _ _), PV.nv _ (PV.sl _ _), PV.nv _ (PV.sl _ _), PV.nv _ (PV.sl _ _)]))]) (by exact ⟨rfl, rfl, rfl, rfl, rfl, rfl, rfl, ⟨⟩⟩) (by exact ⟨rfl, rfl, ⟨⟩⟩) ?_
    refine swl_ucallB (bx := 5) (L := Bl) (A := []) (ms := [PV.nv _ (PV.val _), PV.nv _ (PV.val _), PV.nv _ (PV.sl _ _), PV.nv _ (PV.sl _ _), PV.nv _ (PV.sl _ _), PV.nv _ (PV.sl _ _), PV.nv _ (PV.sl _ _), PV.nv _ (PV.sl _ _), PV.nv _ (PV.sl _ _), PV.nv _ (PV.sl _ _), PV.nv _ (PV.sl _ _)]) (B := []) (qr := [(false, [PV.val _])]) (as_ := [(false, [PV.val _])]) (by decide) FLawClusterRows_c_43 rfl (by exact rfl) (by exact (Nm.val (Nm.val (Nm.val (Nm.val (Nm.val (Nm.val (Nm.val (Nm.val (Nm.val (Nm.val (Nm.val Nm.nil)))))))))))) (by exact ⟨rfl, ⟨⟩⟩) (by exact (And.intro (by exact ⟨⟩) True.intro)) (by exact And.intro (And.intro rfl (ToL.cons (PV.To.refl _) ToL.nil)) True.intro) (by exact rfl) (by exact (Nm.nv (Nm.nv (Nm.nv (Nm.nv (Nm.nv (Nm.nv (Nm.nv (Nm.nv (Nm.nv (Nm.nv (Nm.nv Nm.nil)))))))))))) (by exact (OwnTo.nv (OwnTo.nv (OwnTo.nv (OwnTo.nv (OwnTo.nv (OwnTo.nv (OwnTo.nv (OwnTo.nv (OwnTo.nv (OwnTo.nv (OwnTo.nv OwnTo.nil)))))))))))) (by exact mark_Cluster (x := aC) (by omega) (by omega)) (by exact (OwnFrom.nv (OwnFrom.nv (OwnFrom.nv (OwnFrom.nv (OwnFrom.nv (OwnFrom.nv (OwnFrom.nv (OwnFrom.nv (OwnFrom.nv (OwnFrom.nv (OwnFrom.nv OwnFrom.nil)))))))))))) (fun x hx => hx) (by exact (LclA.cons RV.lcl_ptr (LclA.cons (RV.lcl_sv (LclC.cons (PV.lcl_lo (LclRC.map fun x => (LclRC.cons PV.lclr_val (LclRC.cons (PV.lclr_lo (LclRC.map fun x => (LclRC.cons PV.lclr_val LclRC.nil))) LclRC.nil)))) LclC.nil)) (LclA.cons RV.lcl_ptr (LclA.cons (RV.lcl_sv (LclC.cons (PV.lcl_own (LclC.map fun x => (LclC.cons PV.lcl_val (LclC.cons (PV.lcl_own (LclC.map fun x => (LclC.cons PV.lcl_val LclC.nil))) LclC.nil)))) LclC.nil)) (LclA.cons (RV.lcl_sv (LclC.cons PV.lcl_val LclC.nil)) (LclA.cons (RV.lcl_sv (LclC.cons PV.lcl_val (LclC.cons PV.lcl_val (LclC.cons PV.lcl_val (LclC.cons PV.lcl_val (LclC.cons PV.lcl_val (LclC.cons PV.lcl_val (LclC.cons PV.lcl_val (LclC.cons PV.lcl_val (LclC.cons PV.lcl_val (LclC.cons PV.lcl_val (LclC.cons PV.lcl_val LclC.nil)))))))))))) (LclA.cons (RV.lcl_sv (LclC.cons PV.lcl_val LclC.nil)) LclA.nil)))))))) (by exact (And.intro (.inr (LclC.cons PV.lcl_val (LclC.cons PV.lcl_val (LclC.cons (PV.lcl_lo (LclRC.map fun x => (LclRC.cons PV.lclr_val (LclRC.cons PV.lclr_val (LclRC.cons PV.lclr_val LclRC.nil))))) (LclC.cons (PV.lcl_lo (LclRC.map fun x => (LclRC.cons PV.lclr_val LclRC.nil))) (LclC.cons (PV.lcl_lo (LclRC.map fun x => (LclRC.cons (PV.lclr_lo (LclRC.map fun x => (LclRC.cons PV.lclr_val (LclRC.cons (PV.lclr_lo (LclRC.map fun x => (LclRC.cons PV.lclr_val LclRC.nil))) LclRC.nil)))) LclRC.nil))) (LclC.cons (PV.lcl_lo (LclRC.map fun x => (LclRC.cons PV.lclr_val LclRC.nil))) (LclC.cons (PV.lcl_lo (LclRC.map fun x => (LclRC.cons PV.lclr_val LclRC.nil))) (LclC.cons (PV.lcl_lo (LclRC.map fun x => (LclRC.cons PV.lclr_val LclRC.nil))) (LclC.cons (PV.lcl_lo (LclRC.map fun x => (LclRC.cons (PV.lclr_lo (LclRC.map fun x => (LclRC.cons PV.lclr_val (LclRC.cons (PV.lclr_lo (LclRC.map fun x => (LclRC.cons PV.lclr_val LclRC.nil))) LclRC.nil)))) LclRC.nil))) (LclC.cons (PV.lcl_lo (LclRC.map fun x => (LclRC.cons PV.lclr_val LclRC.nil))) (LclC.cons (PV.lcl_lo (LclRC.map fun x => (LclRC.cons (PV.lclr_lo (LclRC.map fun x => (LclRC.cons PV.lclr_val (LclRC.cons (PV.lclr_lo (LclRC.map fun x => (LclRC.cons PV.lclr_val LclRC.nil))) LclRC.nil)))) LclRC.nil))) LclC.nil)))))))))))) (And.intro (.inl rfl) True.intro))) (by exact LclC.nil) (by exact LclC.nil) rfl ?_
    refine swl_step (by exact ⟨rfl, ⟨⟩⟩) (by exact ⟨⟩) (LocG.of rfl (loc_copy (.inr rfl) (by decide) (by exact Cp.sc))) nofree ?_
    refine swl_nil ?_
    refine sw_seq ?_
    refine sw_seq ?_
    refine sO [(1, _), (4, _), (5, _), (6, _), (7, _)] [(1, _), (5, _)] ?_
    refine sw_reg ?_
    refine rA ?_ (x := sM)
    refine rA ?_ (x := B_lss)
    refine rA ?_ (x := sM)
    refine RunS.cases (s := 37) rfl (fun g7 => ?_) (fun g7 => ?_)
    ·first | (simp [deq_self] at g7; done) | (simp only [decide_eq_true_eq] at g7; omega)
    ·have sg7 := g7
     try simp only [q1, q2, q3, q4, q5, q6, q7, q8, q9] at sg7
     refine rB g7 ?_ (x := vM false [PV.sl .v _])
     refine rB g7 ?_ (x := vM false [PV.sl (.lo _) _])
     refine rB g7 ?_ (x := cL [(false, [PV.sl _ _]), (false, [PV.sl (.lo _) _])] [(false, [PV.sl .v _]), (false, [PV.sl .v _])] FLawClusterRows_c_21 (hs := by exact eq_RowS))
     refine rB g7 ?_ (x := nT)
     refine rA ?_ (x := pkF g7)
     refine sw_cond (t := 42) rfl (fun hb8 => ?_) (fun hb8 => ?_)
     ·try simp only [q1, q2, q3, q4, q5, q6, q7, q8, q9] at hb8
      first | exact absurd rfl hb8 | (simp [deq_self] at hb8; done) | omega
     ·try simp only [q1, q2, q3, q4, q5, q6, q7, q8, q9] at hb8
      refine sw_skip ?_
      refine sw_seq ?_
      refine sO [(1, _), (4, _), (5, _), (6, _), (7, _)] [(1, _), (5, _)] ?_
      refine sw_reg ?_
      refine rA ?_ (x := kA)
      refine sw_seq ?_
      refine sO [(1, _), (4, _), (5, _), (6, _), (7, _), (8, _)] [(1, _), (5, _)] ?_
      refine sw_nmS (s := 6) (by exact rfl) fun us hus => ?_
      obtain ⟨u9_0, rfl⟩ := us_1 hus
      have hq10 := mkL_le mkE_Row_le (cluRows aC) 1
      have hq11 := ctL_RowS (cluRows aC) 1
      refine sO [(1, _), (4, _), (5, _), (6, _), (7, _), (8, _)] [(1, _), (5, _)] ?_
      refine sw_regL ?_
      refine swl_step (by exact ⟨rfl, ⟨⟩⟩) (by exact ⟨⟩) (LocG.of rfl (loc_copy (r' := RV.sv false [PV.val _]) (.inl rfl) (by decide) (by exact Cp.sv (ToL.cons PV.nv_val ToL.nil) (BorL.cons (PV.bor_val _) BorL.nil)))) nofree ?_
      refine swl_step (by exact ⟨rfl, ⟨⟩⟩) (by exact ⟨⟩) (LocG.of rfl (loc_copy (.inl rfl) (by decide) (by exact Cp.sc))) nofree ?_
      refine swl_of (l := [(1, RV.ptr 1 0), (4, RV.sv false [PV.sl (.lo _) _]), (5, RV.ptr 5 0), (6, RV.sv false [PV.nv _ (PV.sl _ _)]), (7, RV.sv false [PV.val _]), (8, RV.sv false [PV.val _]), (43, RV.sv false [PV.val _]), (44, RV.sv false [PV.val _])]) (b := [(1, (73, [PV.val _, PV.val _, PV.sl (.lo _) _, PV.sl (.lo _) _, PV.sl (.lo _) _, PV.sl (.lo _) _, PV.sl (.lo _) _, PV.sl (.lo _) _, PV.sl (.lo _) _, PV.sl (.lo _) _, PV.sl (.lo _) _])), (5, (60, [PV.nv _ (PV.val _), PV.nv _ (PV.val _), PV.nv _ (PV.sl _ _), PV.nv _ (PV.sl _ _), PV.nv _ (PV.sl _ _), PV.nv _ (PV.sl _ _), PV.nv _ (PV.sl _ _), PV.nv _ (PV.sl _ _), PV.nv _ (PV.sl _ _), PV.nv _ (PV.sl _ _), PV.nv _ (PV.sl _ _)]))]) (by exact ⟨rfl, rfl, rfl, rfl, rfl, rfl, rfl, rfl, ⟨⟩⟩) (by exact ⟨rfl, rfl, ⟨⟩⟩) ?_
      refine swl_ucallS (s := 6) (L := Bl) (qr := [(false, [PV.val _])]) (as_ := [(false, [PV.val _])]) (by decide) FLawClusterRows_c_22 rfl (by exact rfl) (by exact (Nm.val Nm.nil)) (by exact ⟨rfl, ⟨⟩⟩) (by exact (And.intro (by exact ⟨⟩) True.intro)) (by exact And.intro (And.intro rfl (ToL.cons (PV.To.refl _) ToL.nil)) True.intro) (by exact rfl) (by exact (Nm.nv Nm.nil)) (by exact (OwnTo.nv OwnTo.nil)) (by exact mark_RowS (x := (cluRows aC)) (by omega) (by omega)) (by exact (OwnFrom.nv OwnFrom.nil)) (fun x hx => hx) (by exact (And.intro (.inr RV.lcl_ptr) (And.intro (.inr (RV.lcl_sv (LclC.cons (PV.lcl_lo (LclRC.map fun x => (LclRC.cons PV.lclr_val (LclRC.cons (PV.lclr_lo (LclRC.map fun x => (LclRC.cons PV.lclr_val LclRC.nil))) LclRC.nil)))) LclC.nil))) (And.intro (.inr RV.lcl_ptr) (And.intro (.inl rfl) (And.intro (.inr (RV.lcl_sv (LclC.cons PV.lcl_val LclC.nil))) (And.intro (.inr (RV.lcl_sv (LclC.cons PV.lcl_val LclC.nil))) (And.intro (.inr (RV.lcl_sv (LclC.cons PV.lcl_val LclC.nil))) (And.intro (.inr (RV.lcl_sv (LclC.cons PV.lcl_val LclC.nil))) True.intro))))))))) (by exact (And.intro (LclC.cons PV.lcl_val (LclC.cons PV.lcl_val (LclC.cons (PV.lcl_lo (LclRC.map fun x => (LclRC.cons PV.lclr_val (LclRC.cons PV.lclr_val (LclRC.cons PV.lclr_val LclRC.nil))))) (LclC.cons (PV.lcl_lo (LclRC.map fun x => (LclRC.cons PV.lclr_val LclRC.nil))) (LclC.cons (PV.lcl_lo (LclRC.map fun x => (LclRC.cons (PV.lclr_lo (LclRC.map fun x => (LclRC.cons PV.lclr_val (LclRC.cons (PV.lclr_lo (LclRC.map fun x => (LclRC.cons PV.lclr_val LclRC.nil))) LclRC.nil)))) LclRC.nil))) (LclC.cons (PV.lcl_lo (LclRC.map fun x => (LclRC.cons PV.lclr_val LclRC.nil))) (LclC.cons (PV.lcl_lo (LclRC.map fun x => (LclRC.cons PV.lclr_val LclRC.nil))) (LclC.cons (PV.lcl_lo (LclRC.map fun x => (LclRC.cons PV.lclr_val LclRC.nil))) (LclC.cons (PV.lcl_lo (LclRC.map fun x => (LclRC.cons (PV.lclr_lo (LclRC.map fun x => (LclRC.cons PV.lclr_val (LclRC.cons (PV.lclr_lo (LclRC.map fun x => (LclRC.cons PV.lclr_val LclRC.nil))) LclRC.nil)))) LclRC.nil))) (LclC.cons (PV.lcl_lo (LclRC.map fun x => (LclRC.cons PV.lclr_val LclRC.nil))) (LclC.cons (PV.lcl_lo (LclRC.map fun x => (LclRC.cons (PV.lclr_lo (LclRC.map fun x => (LclRC.cons PV.lclr_val (LclRC.cons (PV.lclr_lo (LclRC.map fun x => (LclRC.cons PV.lclr_val LclRC.nil))) LclRC.nil)))) LclRC.nil))) LclC.nil))))))))))) (And.intro (LclC.cons (PV.lcl_nv PV.lcl_val) (LclC.cons (PV.lcl_nv PV.lcl_val) (LclC.cons (PV.lcl_nv (PV.lcl_own (LclC.map fun x => (LclC.cons PV.lcl_val (LclC.cons PV.lcl_val (LclC.cons PV.lcl_val LclC.nil)))))) (LclC.cons (PV.lcl_nv (PV.lcl_own (LclC.map fun x => (LclC.cons PV.lcl_val LclC.nil)))) (LclC.cons (PV.lcl_nv (PV.lcl_own (LclC.map fun x => (LclC.cons (PV.lcl_own (LclC.map fun x => (LclC.cons PV.lcl_val (LclC.cons (PV.lcl_own (LclC.map fun x => (LclC.cons PV.lcl_val LclC.nil))) LclC.nil)))) LclC.nil)))) (LclC.cons (PV.lcl_nv (PV.lcl_own (LclC.map fun x => (LclC.cons PV.lcl_val LclC.nil)))) (LclC.cons (PV.lcl_nv (PV.lcl_own (LclC.map fun x => (LclC.cons PV.lcl_val LclC.nil)))) (LclC.cons (PV.lcl_nv (PV.lcl_own (LclC.map fun x => (LclC.cons PV.lcl_val LclC.nil)))) (LclC.cons (PV.lcl_nv (PV.lcl_own (LclC.map fun x => (LclC.cons (PV.lcl_own (LclC.map fun x => (LclC.cons PV.lcl_val (LclC.cons (PV.lcl_own (LclC.map fun x => (LclC.cons PV.lcl_val LclC.nil))) LclC.nil)))) LclC.nil)))) (LclC.cons (PV.lcl_nv (PV.lcl_own (LclC.map fun x => (LclC.cons PV.lcl_val LclC.nil)))) (LclC.cons (PV.lcl_nv (PV.lcl_own (LclC.map fun x => (LclC.cons (PV.lcl_own (LclC.map fun x => (LclC.cons PV.lcl_val (LclC.cons (PV.lcl_own (LclC.map fun x => (LclC.cons PV.lcl_val LclC.nil))) LclC.nil)))) LclC.nil)))) LclC.nil))))))))))) True.intro))) rfl (by decide) ?_
      refine swl_step (by exact ⟨rfl, ⟨⟩⟩) (by exact ⟨⟩) (LocG.of rfl (loc_copy (.inr rfl) (by decide) (by exact Cp.sc))) nofree ?_
      refine swl_nil ?_
      refine sw_seq ?_
      refine sO [(1, _), (4, _), (5, _), (6, _), (7, _), (8, _)] [(1, _), (5, _)] ?_
      refine sw_reg ?_
      refine rA ?_ (x := kA)
      refine sw_seq ?_
      refine sO [(1, _), (4, _), (5, _), (6, _), (7, _), (8, _), (9, _)] [(1, _), (5, _)] ?_
      refine sw_reg ?_
      refine rA ?_ (x := loc_copy (r' := RV.sv false [PV.sl .v _]) (.inl rfl) (by decide) (by exact Cp.sv (ToL.cons (PV.nv_to PV.to_none) ToL.nil) (BorL.cons (PV.bor_sl _) BorL.nil)))
      refine rA ?_ (x := sM)
      refine rA ?_ (x := cL [(false, [PV.sl _ _]), (false, [PV.val _])] [(false, [PV.sl .v _]), (false, [PV.val _])] FLawClusterRows_c_23 (hs := by exact held_RowS (by omega) (by omega)))
      refine rA ?_ (x := sA)
      refine sw_seq ?_
      refine sw_seq ?_
      refine sO [(1, _), (4, _), (5, _), (6, _), (7, _), (8, _), (9, _)] [(1, _), (5, _)] ?_
      refine sw_reg ?_
      refine rA ?_ (x := sM)
      refine rA ?_ (x := B_lss)
      refine sw_cond (t := 50) rfl (fun hb12 => ?_) (fun hb12 => ?_)
      ·try simp only [q1, q2, q3, q4, q5, q6, q7, q8, q9] at hb12
       first | exact absurd rfl hb12 | (simp [deq_self] at hb12; done) | omega
      ·try simp only [q1, q2, q3, q4, q5, q6, q7, q8, q9] at hb12
       refine sw_skip ?_
       refine sw_seq ?_
       refine sw_seq ?_
       refine sO [(1, _), (4, _), (5, _), (6, _), (7, _), (8, _), (9, _)] [(1, _), (5, _)] ?_
       refine sw_reg ?_
       refine rA ?_ (x := sM)
       refine rA ?_ (x := sM)
       refine rA ?_ (x := B_neq)
       refine sw_cond (t := 53) rfl (fun hb13 => ?_) (fun hb13 => ?_)
       ·try simp only [q1, q2, q3, q4, q5, q6, q7, q8, q9] at hb13
        first | exact absurd rfl hb13 | (simp [deq_self] at hb13; done) | omega
       ·try simp only [q1, q2, q3, q4, q5, q6, q7, q8, q9] at hb13
        refine sw_skip ?_
        refine sw_seq ?_
        refine sO [(1, _), (4, _), (5, _), (6, _), (7, _), (8, _), (9, _)] [(1, _), (5, _)] ?_
        refine sw_reg ?_
        refine rA ?_ (x := lD [PV.val _, PV.val _, PV.sl (.lo _) _, PV.sl (.lo _) _, PV.sl (.lo _) _, PV.sl (.lo _) _, PV.sl (.lo _) _, PV.sl (.lo _) _, PV.sl (.lo _) _, PV.sl (.lo _) _, PV.sl (.lo _) _] FLawClusterRows_ty_73)
        refine rA ?_ (x := cL [(true, [PV.val _, PV.val _, PV.sl (.lo _) _, PV.sl (.lo _) _, PV.sl (.lo _) _, PV.sl (.lo _) _, PV.sl (.lo _) _, PV.sl (.lo _) _, PV.sl (.lo _) _, PV.sl (.lo _) _, PV.sl (.lo _) _])] [(true, [PV.val _, PV.val _, PV.sl .v _, PV.sl .v _, PV.sl .v _, PV.sl .v _, PV.sl .v _, PV.sl .v _, PV.sl .v _, PV.sl .v _, PV.sl .v _])] FLawClusterRows_c_47 (hs := by exact to_Cluster (by omega)))
        refine rA ?_ (x := cL [(true, [PV.val _, PV.val _, PV.sl _ _, PV.sl _ _, PV.sl _ _, PV.sl _ _, PV.sl _ _, PV.sl _ _, PV.sl _ _, PV.sl _ _, PV.sl _ _])] [(true, [PV.val _, PV.val _, PV.sl .v _, PV.sl .v _, PV.sl .v _, PV.sl .v _, PV.sl .v _, PV.sl .v _, PV.sl .v _, PV.sl .v _, PV.sl .v _])] FLawClusterRows_c_52 (hs := by exact impl_ClusterRows (by omega)))
        refine rA ?_ (x := tA)
        refine sw_seq ?_
        refine sw_seq ?_
        refine sO [(1, _), (4, _), (5, _), (6, _), (7, _), (8, _), (9, _), (10, _)] [(1, _), (5, _)] ?_
        refine sw_reg ?_
        refine rA ?_ (x := vM false [PV.sl .v _])
        refine rA ?_ (x := vM false [PV.sl (.lo _) _])
        refine rA ?_ (x := cL [(false, [PV.sl _ _]), (false, [PV.sl (.lo _) _])] [(false, [PV.sl .v _]), (false, [PV.sl .v _])] FLawClusterRows_c_21 (hs := by exact eq_RowS))
        refine rA ?_ (x := nT)
        refine sw_cond (t := 60) rfl (fun hb14 => ?_) (fun hb14 => ?_)
        ·try simp only [q1, q2, q3, q4, q5, q6, q7, q8, q9] at hb14
         first | exact absurd rfl hb14 | (simp [deq_self] at hb14; done) | omega
        ·try simp only [q1, q2, q3, q4, q5, q6, q7, q8, q9] at hb14
         refine sw_skip ?_
         refine sw_seq ?_
         refine sO [(1, _), (4, _), (5, _), (6, _), (7, _), (8, _), (9, _), (10, _)] [(1, _), (5, _)] ?_
         refine sw_reg ?_
         refine rA ?_ (x := kA)
         refine sw_seq ?_
         refine sO [(1, _), (4, _), (5, _), (6, _), (7, _), (8, _), (9, _), (10, _)] [(1, _), (5, _)] ?_
         refine sw_reg ?_
         refine rA ?_ (x := loc_copy (r' := RV.sv false [PV.sl .v _]) (.inl rfl) (by decide) (by exact Cp.sv (ToL.cons (PV.nv_to PV.to_none) ToL.nil) (BorL.cons (PV.bor_sl _) BorL.nil)))
         refine rA ?_ (x := sM)
         refine rA ?_ (x := cL [(false, [PV.sl _ _]), (false, [PV.val _])] [(false, [PV.sl .v _]), (false, [PV.val _])] FLawClusterRows_c_23 (hs := by exact held_RowS (by omega) (by omega)))
         refine rA ?_ (x := sA)
         refine sw_seq ?_
         refine sw_seq ?_
         refine sO [(1, _), (4, _), (5, _), (6, _), (7, _), (8, _), (9, _), (10, _)] [(1, _), (5, _)] ?_
         refine sw_reg ?_
         refine rA ?_ (x := sM)
         refine rA ?_ (x := B_lss)
         refine sw_cond (t := 65) rfl (fun hb15 => ?_) (fun hb15 => ?_)
         ·try simp only [q1, q2, q3, q4, q5, q6, q7, q8, q9] at hb15
          first | exact absurd rfl hb15 | (simp [deq_self] at hb15; done) | omega
         ·try simp only [q1, q2, q3, q4, q5, q6, q7, q8, q9] at hb15
          refine sw_skip ?_
          refine sw_seq ?_
          refine sw_seq ?_
          refine sO [(1, _), (4, _), (5, _), (6, _), (7, _), (8, _), (9, _), (10, _)] [(1, _), (5, _)] ?_
          refine sw_reg ?_
          refine rA ?_ (x := sM)
          refine rA ?_ (x := sM)
          refine rA ?_ (x := B_neq)
          refine sw_cond (t := 68) rfl (fun hb16 => ?_) (fun hb16 => ?_)
          ·try simp only [q1, q2, q3, q4, q5, q6, q7, q8, q9] at hb16
           first | exact absurd rfl hb16 | (simp [deq_self] at hb16; done) | omega
          ·try simp only [q1, q2, q3, q4, q5, q6, q7, q8, q9] at hb16
           refine sw_skip ?_
           refine sw_seq ?_
           refine sO [(1, _), (4, _), (5, _), (6, _), (7, _), (8, _), (9, _), (10, _)] [(1, _), (5, _)] ?_
           refine sw_reg ?_
           refine rA ?_ (x := kA)
           refine sw_ret ?_
           exact (And.intro (by exact rfl) True.intro)
end Go.Proofs.Ytloipjaiceifbaa
