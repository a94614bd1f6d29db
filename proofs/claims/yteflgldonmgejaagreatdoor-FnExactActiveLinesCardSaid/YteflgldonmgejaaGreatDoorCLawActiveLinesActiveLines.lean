/- What functions of the program compute. No condition. -/
import Derived.Test.YteflgldonmgejaaGreatDoorCToActiveLines
import Derived.Test.YteflgldonmgejaaGreatDoorCEqActiveLines
import Derived.Test.YteflgldonmgejaaGreatDoorCMkActiveLines
import Derived.Test.YteflgldonmgejaaGreatDoorCHeActiveLines
import Derived.Test.YteflgldonmgejaaGreatDoorCAclActiveLines
import Derived.Test.YteflgldonmgejaaGreatDoorCMksActiveLines
import Derived.Test.YteflgldonmgejaaGreatDoorCF2
import Derived.KernelRfl
set_option linter.unusedVariables false
set_option linter.unusedSimpArgs false
namespace Go.Proofs.YteflgldonmgejaaGreatDoor
open Go Go.RowKit M
set_option maxRecDepth 10000
attribute [local irreducible] PV.Lcl PV.LclR RV.Lcl
theorem FLawActiveLines_c_11 : callI Tryz.prog 11 = true := by kernel_rfl
theorem FLawActiveLines_c_12 : callI Tryz.prog 12 = true := by kernel_rfl
theorem FLawActiveLines_c_13 : callI Tryz.prog 13 = true := by kernel_rfl
theorem FLawActiveLines_c_14 : callI Tryz.prog 14 = true := by kernel_rfl
theorem FLawActiveLines_c_15 : callI Tryz.prog 15 = true := by kernel_rfl
theorem FLawActiveLines_c_16 : callI Tryz.prog 16 = true := by kernel_rfl
theorem FLawActiveLines_c_17 : callI Tryz.prog 17 = true := by kernel_rfl
theorem FLawActiveLines_c_7 : callI Tryz.prog 7 = true := by kernel_rfl
theorem FLawActiveLines_c_9 : callI Tryz.prog 9 = true := by kernel_rfl
theorem FLawActiveLines_ty_30 : tyI Tryz.prog 30 = some (true, 8) := by kernel_rfl
theorem FLawActiveLines_ty_40 : tyI Tryz.prog 40 = some (true, 8) := by kernel_rfl
theorem FLawActiveLines_z_40 : zeroI Tryz.prog 40 = some (.agg #[.slice none 0 0, .int .i64 0, .int .i64 0, .slice none 0 0, .slice none 0 0, .slice none 0 0, .slice none 0 0, .int .i64 0]) := by kernel_rfl
theorem FLawActiveLines_zo_40 {Fz : FzT} {w : World} : OwnL [PV.sl (.own 138 1) [], PV.val (.int .i64 0), PV.val (.int .i64 0), PV.sl (.own 3 1) [], PV.sl (.own 85 10) [], PV.sl (.own 132 7) [], PV.sl (.own 136 5) [], PV.val (.int .i64 0)] Fz w (Value.cells (.agg #[.slice none 0 0, .int .i64 0, .int .i64 0, .slice none 0 0, .slice none 0 0, .slice none 0 0, .slice none 0 0, .int .i64 0])).toList [] := zo_sl (zo_val rfl (zo_val rfl (zo_sl (zo_sl (zo_sl (zo_sl (zo_val rfl (zo_nil))))))))
theorem law_ActiveLines {p1 p2 p5 p6 p7 p8 p9 p11 p12 p13 p14 p16 p17 p18 : Fl} {aE : Engine}  : GCall Tryz.prog gl 4 [(true, [PV.sl .v (aE.Store.Segments.map (cVersionS p1 p2)), PV.val (vI aE.Store.Now), PV.val (vI aE.Cursor), PV.sl .v (aE.Order.map cInt), PV.sl .v (aE.Active.map (cActive p5 p6 p7 p8 p9)), PV.sl .v (aE.Done.map (cFinished p11 p12 p13 p14)), PV.sl .v (aE.Ledger.map (cCharge p16 p17 p18)), PV.val (vI aE.Steps)])] (resRV [(false, [PV.val (.bool true)])]) := by
 refine gcall_lo (largs := fun L => [(true, [PV.sl (.lo L) (aE.Store.Segments.map (cVersionS (.lo L) (.lo L))), PV.val (vI aE.Store.Now), PV.val (vI aE.Cursor), PV.sl (.lo L) (aE.Order.map cInt), PV.sl (.lo L) (aE.Active.map (cActive (.lo L) (.lo L) (.lo L) (.lo L) (.lo L))), PV.sl (.lo L) (aE.Done.map (cFinished (.lo L) (.lo L) (.lo L) (.lo L))), PV.sl (.lo L) (aE.Ledger.map (cCharge (.lo L) (.lo L) (.lo L))), PV.val (vI aE.Steps)])]) (rs := [(false, [PV.val (.bool true)])]) Tryz.func4 rfl (Nat.le_of_ble_eq_true rfl) (fun L => by exact (And.intro (And.intro rfl (ToBL.cons (PV.tob_map (fun _ => Nat.le_of_ble_eq_true rfl) (fun _ => (ToBL.cons (PV.tob_map (fun _ => Nat.le_of_ble_eq_true rfl) (fun _ => (ToBL.cons PV.tob_refl (ToBL.cons (PV.tob_map (fun _ => Nat.le_of_ble_eq_true rfl) (fun _ => (ToBL.cons PV.tob_refl ToBL.nil))) (ToBL.cons PV.tob_refl (ToBL.cons PV.tob_refl ToBL.nil)))))) ToBL.nil))) (ToBL.cons PV.tob_refl (ToBL.cons PV.tob_refl (ToBL.cons (PV.tob_map (fun _ => Nat.le_of_ble_eq_true rfl) (fun _ => (ToBL.cons PV.tob_refl ToBL.nil))) (ToBL.cons (PV.tob_map (fun _ => Nat.le_of_ble_eq_true rfl) (fun _ => (ToBL.cons PV.tob_refl (ToBL.cons PV.tob_refl (ToBL.cons (PV.tob_map (fun _ => Nat.le_of_ble_eq_true rfl) (fun _ => (ToBL.cons PV.tob_refl (ToBL.cons PV.tob_refl (ToBL.cons PV.tob_refl ToBL.nil))))) (ToBL.cons (PV.tob_map (fun _ => Nat.le_of_ble_eq_true rfl) (fun _ => (ToBL.cons PV.tob_refl ToBL.nil))) (ToBL.cons PV.tob_refl (ToBL.cons (PV.tob_map (fun _ => Nat.le_of_ble_eq_true rfl) (fun _ => (ToBL.cons PV.tob_refl ToBL.nil))) (ToBL.cons PV.tob_refl (ToBL.cons PV.tob_refl (ToBL.cons PV.tob_refl (ToBL.cons (PV.tob_map (fun _ => Nat.le_of_ble_eq_true rfl) (fun _ => (ToBL.cons PV.tob_refl (ToBL.cons (PV.tob_map (fun _ => Nat.le_of_ble_eq_true rfl) (fun _ => (ToBL.cons PV.tob_refl ToBL.nil))) ToBL.nil)))) ToBL.nil)))))))))))) (ToBL.cons (PV.tob_map (fun _ => Nat.le_of_ble_eq_true rfl) (fun _ => (ToBL.cons PV.tob_refl (ToBL.cons PV.tob_refl (ToBL.cons (PV.tob_map (fun _ => Nat.le_of_ble_eq_true rfl) (fun _ => (ToBL.cons PV.tob_refl (ToBL.cons PV.tob_refl (ToBL.cons PV.tob_refl ToBL.nil))))) (ToBL.cons (PV.tob_map (fun _ => Nat.le_of_ble_eq_true rfl) (fun _ => (ToBL.cons PV.tob_refl ToBL.nil))) (ToBL.cons PV.tob_refl (ToBL.cons PV.tob_refl (ToBL.cons (PV.tob_map (fun _ => Nat.le_of_ble_eq_true rfl) (fun _ => (ToBL.cons PV.tob_refl (ToBL.cons (PV.tob_map (fun _ => Nat.le_of_ble_eq_true rfl) (fun _ => (ToBL.cons PV.tob_refl ToBL.nil))) ToBL.nil)))) ToBL.nil))))))))) (ToBL.cons (PV.tob_map (fun _ => Nat.le_of_ble_eq_true rfl) (fun _ => (ToBL.cons PV.tob_refl (ToBL.cons PV.tob_refl (ToBL.cons (PV.tob_map (fun _ => Nat.le_of_ble_eq_true rfl) (fun _ => (ToBL.cons PV.tob_refl ToBL.nil))) (ToBL.cons (PV.tob_map (fun _ => Nat.le_of_ble_eq_true rfl) (fun _ => (ToBL.cons PV.tob_refl ToBL.nil))) (ToBL.cons (PV.tob_map (fun _ => Nat.le_of_ble_eq_true rfl) (fun _ => (ToBL.cons PV.tob_refl ToBL.nil))) ToBL.nil))))))) (ToBL.cons PV.tob_refl ToBL.nil))))))))) True.intro)) (fun L => by exact (borA_cons (BorL.cons (PV.bor_lo _ _) (BorL.cons (PV.bor_val _) (BorL.cons (PV.bor_val _) (BorL.cons (PV.bor_lo _ _) (BorL.cons (PV.bor_lo _ _) (BorL.cons (PV.bor_lo _ _) (BorL.cons (PV.bor_lo _ _) (BorL.cons (PV.bor_val _) BorL.nil)))))))) borA_nil)) ?_
 intro w0 Fz0 hG_ hz_
 refine sw_slen (s := 0) (j := 0) rfl rfl fun hl0_0 => ?_
 try rw [List.length_map] at hl0_0
 refine sw_slen (s := 0) (j := 3) rfl rfl fun hl0_3 => ?_
 try rw [List.length_map] at hl0_3
 refine sw_slen (s := 0) (j := 4) rfl rfl fun hl0_4 => ?_
 try rw [List.length_map] at hl0_4
 refine sw_slen (s := 0) (j := 5) rfl rfl fun hl0_5 => ?_
 try rw [List.length_map] at hl0_5
 refine sw_slen (s := 0) (j := 6) rfl rfl fun hl0_6 => ?_
 try rw [List.length_map] at hl0_6
 refine sw_seq ?_
 refine sw_reg ?_
 refine RunS.step (by exact ⟨rfl, ⟨⟩⟩) (by exact ⟨⟩) (LocG.of rfl (loc_box (ag := true) (cs := [PV.sl (.lo _) _, PV.val _, PV.val _, PV.sl (.lo _) _, PV.sl (.lo _) _, PV.sl (.lo _) _, PV.sl (.lo _) _, PV.val _]) (by decide) (by exact ⟨⟩))) (free1 (Free.of_ rfl)) ?_
 refine rA ?_ (x := kA)
 refine sw_seq ?_
 refine sO [(1, _), (2, _)] [(1, (30, [PV.sl (.lo _) _, PV.val _, PV.val _, PV.sl (.lo _) _, PV.sl (.lo _) _, PV.sl (.lo _) _, PV.sl (.lo _) _, PV.val _]))] ?_
 refine sw_reg ?_
 refine rA ?_ (x := kA)
 refine sw_seq ?_
 refine sO [(1, _), (2, _), (3, _)] [(1, _)] ?_
 refine sw_reg ?_
 refine rA ?_ (x := lD [PV.sl (.lo _) _, PV.val _, PV.val _, PV.sl (.lo _) _, PV.sl (.lo _) _, PV.sl (.lo _) _, PV.sl (.lo _) _, PV.val _] FLawActiveLines_ty_30)
 refine rA ?_ (x := sM)
 refine rA ?_ (x := cL [(true, [PV.sl (.lo _) _, PV.val _, PV.val _, PV.sl (.lo _) _, PV.sl (.lo _) _, PV.sl (.lo _) _, PV.sl (.lo _) _, PV.val _]), (false, [PV.val _])] [(true, [PV.sl .v _, PV.val _, PV.val _, PV.sl .v _, PV.sl .v _, PV.sl .v _, PV.sl .v _, PV.val _]), (false, [PV.val _])] FLawActiveLines_c_7 (hs := by exact sz_Engine (by omega) (by omega)))
 refine rA ?_ (x := sA)
 refine sw_seq ?_
 refine sw_seq ?_
 refine sO [(1, _), (2, _), (3, _)] [(1, _)] ?_
 refine sw_reg ?_
 refine rA ?_ (x := sM)
 refine rA ?_ (x := B_lss)
 refine sw_cond (t := 15) rfl (fun hb1 => ?_) (fun hb1 => ?_)
 ·try simp only [q1, q2, q3, q4, q5, q6, q7, q8, q9] at hb1
  refine sw_seq ?_
  refine sO [(1, _), (2, _), (3, _)] [(1, _)] ?_
  refine sw_reg ?_
  refine rA ?_ (x := kA)
  refine sw_ret ?_
  exact (And.intro (by exact rfl) True.intro)
 ·try simp only [q1, q2, q3, q4, q5, q6, q7, q8, q9] at hb1
  have hp0 := szR_pos (w := wtEngine aE) (l := 1048576) hb1
  have he0 := szR_yes hp0
  have hw0 := actLines_wt (e := aE) (by omega)
  refine sw_skip ?_
  refine sw_seq ?_
  refine sO [(1, _), (2, _), (3, _)] [(1, _)] ?_
  refine sw_reg ?_
  refine rA ?_ (x := lD [PV.sl (.lo _) _, PV.val _, PV.val _, PV.sl (.lo _) _, PV.sl (.lo _) _, PV.sl (.lo _) _, PV.sl (.lo _) _, PV.val _] FLawActiveLines_ty_30)
  refine rA ?_ (x := cL [(true, [PV.sl (.lo _) _, PV.val _, PV.val _, PV.sl (.lo _) _, PV.sl (.lo _) _, PV.sl (.lo _) _, PV.sl (.lo _) _, PV.val _])] [(true, [PV.sl .v _, PV.val _, PV.val _, PV.sl .v _, PV.sl .v _, PV.sl .v _, PV.sl .v _, PV.val _])] FLawActiveLines_c_9 (hs := by exact to_Engine (by omega)))
  refine rA ?_ (x := cL [(true, [PV.sl _ _, PV.val _, PV.val _, PV.sl _ _, PV.sl _ _, PV.sl _ _, PV.sl _ _, PV.val _])] [(true, [PV.sl .v _, PV.val _, PV.val _, PV.sl .v _, PV.sl .v _, PV.sl .v _, PV.sl .v _, PV.val _])] FLawActiveLines_c_12 (hs := by exact (spec_ActiveLines (by omega))))
  refine rA ?_ (x := tA)
  refine sw_seq ?_
  refine sO [(1, _), (2, _), (3, _), (4, _)] [(1, _)] ?_
  refine sw_reg ?_
  refine rA ?_ (x := lD [PV.sl (.lo _) _, PV.val _, PV.val _, PV.sl (.lo _) _, PV.sl (.lo _) _, PV.sl (.lo _) _, PV.sl (.lo _) _, PV.val _] FLawActiveLines_ty_30)
  refine rA ?_ (x := cL [(true, [PV.sl (.lo _) _, PV.val _, PV.val _, PV.sl (.lo _) _, PV.sl (.lo _) _, PV.sl (.lo _) _, PV.sl (.lo _) _, PV.val _])] [(true, [PV.sl .v _, PV.val _, PV.val _, PV.sl .v _, PV.sl .v _, PV.sl .v _, PV.sl .v _, PV.val _])] FLawActiveLines_c_9 (hs := by exact to_Engine (by omega)))
  refine RunS.step (by exact ⟨⟩) (by exact ⟨⟩) (LocG.of rfl (loc_alloc (by decide) FLawActiveLines_z_40 FLawActiveLines_zo_40)) (free1 (Free.app (Free.app (Free.of_ rfl) rfl) rfl)) ?_
  refine rA ?_ (x := loc_store (ag := true) (vs := [PV.sl _ _, PV.val _, PV.val _, PV.sl _ _, PV.sl _ _, PV.sl _ _, PV.sl _ _, PV.val _]) FLawActiveLines_ty_40 (by exact ⟨⟩) (by exact rfl) (by exact Nat.le_of_ble_eq_true rfl))
  refine sw_seq ?_
  refine sO [(1, _), (2, _), (3, _), (4, _), (5, _)] [(1, _), (5, (40, [PV.sl _ _, PV.val _, PV.val _, PV.sl _ _, PV.sl _ _, PV.sl _ _, PV.sl _ _, PV.val _]))] ?_
  refine sw_glob hG_ hz_ ?_
  refine sO [(1, _), (2, _), (3, _), (4, _), (5, _), (7000, _)] [(1, _), (5, _)] ?_
  refine sw_reg ?_
  refine rA ?_ (x := lD [PV.sl .v _, PV.val _, PV.val _, PV.sl .v _, PV.sl .v _, PV.sl .v _, PV.sl .v _, PV.val _] FLawActiveLines_ty_40)
  refine rA ?_ (x := gL [(true, [PV.sl _ _, PV.val _, PV.val _, PV.sl _ _, PV.sl _ _, PV.sl _ _, PV.sl _ _, PV.val _])] [(true, [PV.sl .v _, PV.val _, PV.val _, PV.sl .v _, PV.sl .v _, PV.sl .v _, PV.sl .v _, PV.val _])] FLawActiveLines_c_13 (hs := by exact (impl_ActiveLines (by omega))))
  refine rA ?_ (x := tA)
  refine sw_seq ?_
  refine sw_seq ?_
  refine sO [(1, _), (2, _), (3, _), (4, _), (5, _), (6, _)] [(1, _), (5, _)] ?_
  refine sw_reg ?_
  refine rA ?_ (x := vM false [PV.sl .v _])
  refine rA ?_ (x := vM false [PV.sl .v _])
  refine rA ?_ (x := cL [(false, [PV.sl _ _]), (false, [PV.sl _ _])] [(false, [PV.sl .v _]), (false, [PV.sl .v _])] FLawActiveLines_c_14 (hs := by exact eq_StrS))
  refine rA ?_ (x := nT)
  refine sw_cond (t := 26) rfl (fun hb2 => ?_) (fun hb2 => ?_)
  ·try simp only [q1, q2, q3, q4, q5, q6, q7, q8, q9] at hb2
   first | exact absurd rfl hb2 | (simp [deq_self] at hb2; done) | omega
  ·try simp only [q1, q2, q3, q4, q5, q6, q7, q8, q9] at hb2
   refine sw_skip ?_
   refine sw_seq ?_
   refine sw_seq ?_
   refine sO [(1, _), (2, _), (3, _), (4, _), (5, _), (6, _)] [(1, _), (5, _)] ?_
   refine sw_draw hm_ ?_
   refine dA 0 ?_ (x := lD [PV.sl .v _, PV.val _, PV.val _, PV.sl .v _, PV.sl .v _, PV.sl .v _, PV.sl .v _, PV.val _] FLawActiveLines_ty_40)
   refine dA 0 ?_ (x := lD [PV.sl (.lo _) _, PV.val _, PV.val _, PV.sl (.lo _) _, PV.sl (.lo _) _, PV.sl (.lo _) _, PV.sl (.lo _) _, PV.val _] FLawActiveLines_ty_30)
   refine dA 2 ?_ (x := cL [(true, [PV.sl (.lo _) _, PV.val _, PV.val _, PV.sl (.lo _) _, PV.sl (.lo _) _, PV.sl (.lo _) _, PV.sl (.lo _) _, PV.val _])] [(true, [PV.sl .v _, PV.val _, PV.val _, PV.sl .v _, PV.sl .v _, PV.sl .v _, PV.sl .v _, PV.val _])] FLawActiveLines_c_9 (hs := by exact to_Engine (by omega)))
   refine dA 7 ?_ (x := cL [(true, [PV.sl _ _, PV.val _, PV.val _, PV.sl _ _, PV.sl _ _, PV.sl _ _, PV.sl _ _, PV.val _]), (true, [PV.sl _ _, PV.val _, PV.val _, PV.sl _ _, PV.sl _ _, PV.sl _ _, PV.sl _ _, PV.val _])] [(true, [PV.sl .v _, PV.val _, PV.val _, PV.sl .v _, PV.sl .v _, PV.sl .v _, PV.sl .v _, PV.val _]), (true, [PV.sl .v _, PV.val _, PV.val _, PV.sl .v _, PV.sl .v _, PV.sl .v _, PV.sl .v _, PV.val _])] FLawActiveLines_c_11 (hs := by exact eq_Engine))
   refine dA 15 ?_ (x := nT)
   refine sw_cond (t := 31) rfl (fun hb3 => ?_) (fun hb3 => ?_)
   ·try simp only [q1, q2, q3, q4, q5, q6, q7, q8, q9] at hb3
    first | exact absurd rfl hb3 | (simp [deq_self] at hb3; done) | omega
   ·try simp only [q1, q2, q3, q4, q5, q6, q7, q8, q9] at hb3
    refine sw_skip ?_
    refine sw_seq ?_
    refine sO [(1, _), (2, _), (3, _), (4, _), (5, _), (6, _)] [(1, _), (5, _)] ?_
    refine sw_reg ?_
    refine rA ?_ (x := kA)
    refine sw_seq ?_
    refine sO [(1, _), (2, _), (3, _), (4, _), (5, _), (6, _), (7, _)] [(1, _), (5, _)] ?_
    refine sw_nmB (d := 5) (A := []) (ms := [PV.sl _ _, PV.val _, PV.val _, PV.sl _ _, PV.sl _ _, PV.sl _ _, PV.sl _ _, PV.val _]) (B := []) (by exact rfl) fun us hus => ?_
    obtain ⟨u4_0, u4_1, u4_2, u4_3, u4_4, u4_5, u4_6, u4_7, rfl⟩ := us_8 hus
    have hq5 := mkV_Engine_le aE 1
    have hq6 := ctV_Engine aE 1
    refine sO [(1, _), (2, _), (3, _), (4, _), (5, _), (6, _), (7, _)] [(1, _), (5, (40, [PV.nv _ (PV.sl _ _), PV.nv _ (PV.val _), PV.nv _ (PV.val _), PV.nv _ (PV.sl _ _), PV.nv _ (PV.sl _ _), PV.nv _ (PV.sl _ _), PV.nv _ (PV.sl _ _), PV.nv _ (PV.val _)]))] ?_
    refine sw_regL ?_
    refine swl_step (by exact ⟨rfl, ⟨⟩⟩) (by exact ⟨rfl, ⟨⟩⟩) (LocG.of rfl (loc_load (qs := [PV.val _, PV.val _, PV.val _, PV.val _, PV.val _, PV.val _, PV.val _, PV.val _]) (by decide) FLawActiveLines_ty_40 (fun h => nomatch h) (by exact Nat.le_of_ble_eq_true rfl) (by exact (ToL.cons PV.nv_val (ToL.cons PV.nv_val (ToL.cons PV.nv_val (ToL.cons PV.nv_val (ToL.cons PV.nv_val (ToL.cons PV.nv_val (ToL.cons PV.nv_val (ToL.cons PV.nv_val ToL.nil))))))))) (by exact (BorL.cons (PV.bor_val _) (BorL.cons (PV.bor_val _) (BorL.cons (PV.bor_val _) (BorL.cons (PV.bor_val _) (BorL.cons (PV.bor_val _) (BorL.cons (PV.bor_val _) (BorL.cons (PV.bor_val _) (BorL.cons (PV.bor_val _) BorL.nil))))))))))) nofree ?_
    refine swl_step (by exact ⟨rfl, ⟨⟩⟩) (by exact ⟨⟩) (LocG.of rfl (loc_copy (.inl rfl) (by decide) (by exact Cp.sc))) nofree ?_
    refine swl_of (l := [(1, RV.ptr 1 0), (2, RV.sv false [PV.val _]), (3, RV.sv false [PV.val _]), (4, RV.sv false [PV.sl _ _]), (5, RV.ptr 5 0), (6, RV.sv false [PV.sl _ _]), (7, RV.sv false [PV.val _]), (32, RV.sv true [PV.val _, PV.val _, PV.val _, PV.val _, PV.val _, PV.val _, PV.val _, PV.val _]), (33, RV.sv false [PV.val _])]) (b := [(1, (30, [PV.sl (.lo _) _, PV.val _, PV.val _, PV.sl (.lo _) _, PV.sl (.lo _) _, PV.sl (.lo _) _, PV.sl (.lo _) _, PV.val _])), (5, (40, [PV.nv _ (PV.sl _ _), PV.nv _ (PV.val _), PV.nv _ (PV.val _), PV.nv _ (PV.sl _ _), PV.nv _ (PV.sl _ _), PV.nv _ (PV.sl _ _), PV.nv _ (PV.sl _ _), PV.nv _ (PV.val _)]))]) (by exact ⟨rfl, rfl, rfl, rfl, rfl, rfl, rfl, rfl, rfl, ⟨⟩⟩) (by exact ⟨rfl, rfl, ⟨⟩⟩) ?_
    refine swl_ucallB (bx := 5) (L := (Lw w0.heap.size)) (A := []) (ms := [PV.nv _ (PV.sl _ _), PV.nv _ (PV.val _), PV.nv _ (PV.val _), PV.nv _ (PV.sl _ _), PV.nv _ (PV.sl _ _), PV.nv _ (PV.sl _ _), PV.nv _ (PV.sl _ _), PV.nv _ (PV.val _)]) (B := []) (qr := [(false, [PV.val _])]) (as_ := [(false, [PV.val _])]) (by decide) FLawActiveLines_c_15 rfl (by exact rfl) (by exact (Nm.val (Nm.val (Nm.val (Nm.val (Nm.val (Nm.val (Nm.val (Nm.val Nm.nil))))))))) (by exact ⟨rfl, ⟨⟩⟩) (by exact (And.intro (by exact ⟨⟩) True.intro)) (by exact And.intro (And.intro rfl (ToL.cons (PV.To.refl _) ToL.nil)) True.intro) (by exact rfl) (by exact (Nm.nv (Nm.nv (Nm.nv (Nm.nv (Nm.nv (Nm.nv (Nm.nv (Nm.nv Nm.nil))))))))) (by exact (OwnTo.nv (OwnTo.nv (OwnTo.nv (OwnTo.nv (OwnTo.nv (OwnTo.nv (OwnTo.nv (OwnTo.nv OwnTo.nil))))))))) (by exact mark_Engine (x := aE) (by omega) (by omega)) (by exact (OwnFrom.nv (OwnFrom.nv (OwnFrom.nv (OwnFrom.nv (OwnFrom.nv (OwnFrom.nv (OwnFrom.nv (OwnFrom.nv OwnFrom.nil))))))))) (fun x hx => hx) (by exact (LclA.cons RV.lcl_ptr (LclA.cons (RV.lcl_sv (LclC.cons PV.lcl_val LclC.nil)) (LclA.cons (RV.lcl_sv (LclC.cons PV.lcl_val LclC.nil)) (LclA.cons (RV.lcl_sv (LclC.cons (PV.lcl_own (LclC.map fun x => (LclC.cons PV.lcl_val LclC.nil))) LclC.nil)) (LclA.cons RV.lcl_ptr (LclA.cons (RV.lcl_sv (LclC.cons (PV.lcl_own (LclC.map fun x => (LclC.cons PV.lcl_val LclC.nil))) LclC.nil)) (LclA.cons (RV.lcl_sv (LclC.cons PV.lcl_val LclC.nil)) (LclA.cons (RV.lcl_sv (LclC.cons PV.lcl_val (LclC.cons PV.lcl_val (LclC.cons PV.lcl_val (LclC.cons PV.lcl_val (LclC.cons PV.lcl_val (LclC.cons PV.lcl_val (LclC.cons PV.lcl_val (LclC.cons PV.lcl_val LclC.nil))))))))) (LclA.cons (RV.lcl_sv (LclC.cons PV.lcl_val LclC.nil)) LclA.nil)))))))))) (by exact (And.intro (.inr (LclC.cons (PV.lcl_lo (LclRC.map fun x => (LclRC.cons (PV.lclr_lo (LclRC.map fun x => (LclRC.cons PV.lclr_val (LclRC.cons (PV.lclr_lo (LclRC.map fun x => (LclRC.cons PV.lclr_val LclRC.nil))) (LclRC.cons PV.lclr_val (LclRC.cons PV.lclr_val LclRC.nil)))))) LclRC.nil))) (LclC.cons PV.lcl_val (LclC.cons PV.lcl_val (LclC.cons (PV.lcl_lo (LclRC.map fun x => (LclRC.cons PV.lclr_val LclRC.nil))) (LclC.cons (PV.lcl_lo (LclRC.map fun x => (LclRC.cons PV.lclr_val (LclRC.cons PV.lclr_val (LclRC.cons (PV.lclr_lo (LclRC.map fun x => (LclRC.cons PV.lclr_val (LclRC.cons PV.lclr_val (LclRC.cons PV.lclr_val LclRC.nil))))) (LclRC.cons (PV.lclr_lo (LclRC.map fun x => (LclRC.cons PV.lclr_val LclRC.nil))) (LclRC.cons PV.lclr_val (LclRC.cons (PV.lclr_lo (LclRC.map fun x => (LclRC.cons PV.lclr_val LclRC.nil))) (LclRC.cons PV.lclr_val (LclRC.cons PV.lclr_val (LclRC.cons PV.lclr_val (LclRC.cons (PV.lclr_lo (LclRC.map fun x => (LclRC.cons PV.lclr_val (LclRC.cons (PV.lclr_lo (LclRC.map fun x => (LclRC.cons PV.lclr_val LclRC.nil))) LclRC.nil)))) LclRC.nil)))))))))))) (LclC.cons (PV.lcl_lo (LclRC.map fun x => (LclRC.cons PV.lclr_val (LclRC.cons PV.lclr_val (LclRC.cons (PV.lclr_lo (LclRC.map fun x => (LclRC.cons PV.lclr_val (LclRC.cons PV.lclr_val (LclRC.cons PV.lclr_val LclRC.nil))))) (LclRC.cons (PV.lclr_lo (LclRC.map fun x => (LclRC.cons PV.lclr_val LclRC.nil))) (LclRC.cons PV.lclr_val (LclRC.cons PV.lclr_val (LclRC.cons (PV.lclr_lo (LclRC.map fun x => (LclRC.cons PV.lclr_val (LclRC.cons (PV.lclr_lo (LclRC.map fun x => (LclRC.cons PV.lclr_val LclRC.nil))) LclRC.nil)))) LclRC.nil))))))))) (LclC.cons (PV.lcl_lo (LclRC.map fun x => (LclRC.cons PV.lclr_val (LclRC.cons PV.lclr_val (LclRC.cons (PV.lclr_lo (LclRC.map fun x => (LclRC.cons PV.lclr_val LclRC.nil))) (LclRC.cons (PV.lclr_lo (LclRC.map fun x => (LclRC.cons PV.lclr_val LclRC.nil))) (LclRC.cons (PV.lclr_lo (LclRC.map fun x => (LclRC.cons PV.lclr_val LclRC.nil))) LclRC.nil))))))) (LclC.cons PV.lcl_val LclC.nil))))))))) (And.intro (.inl rfl) True.intro))) (by exact LclC.nil) (by exact LclC.nil) rfl ?_
    refine swl_step (by exact ⟨rfl, ⟨⟩⟩) (by exact ⟨⟩) (LocG.of rfl (loc_copy (.inr rfl) (by decide) (by exact Cp.sc))) nofree ?_
    refine swl_nil ?_
    refine sw_seq ?_
    refine sw_seq ?_
    refine sO [(1, _), (2, _), (3, _), (4, _), (5, _), (6, _), (7, _)] [(1, _), (5, _)] ?_
    refine sw_reg ?_
    refine rA ?_ (x := sM)
    refine rA ?_ (x := B_lss)
    refine rA ?_ (x := sM)
    refine RunS.cases (s := 37) rfl (fun g7 => ?_) (fun g7 => ?_)
    ·first | (simp [deq_self] at g7; done) | (simp only [decide_eq_true_eq] at g7; omega)
    ·have sg7 := g7
     try simp only [q1, q2, q3, q4, q5, q6, q7, q8, q9] at sg7
     refine rB g7 ?_ (x := vM false [PV.sl .v _])
     refine rB g7 ?_ (x := vM false [PV.sl .v _])
     refine rB g7 ?_ (x := cL [(false, [PV.sl _ _]), (false, [PV.sl _ _])] [(false, [PV.sl .v _]), (false, [PV.sl .v _])] FLawActiveLines_c_14 (hs := by exact eq_StrS))
     refine rB g7 ?_ (x := nT)
     refine rA ?_ (x := pkF g7)
     refine sw_cond (t := 42) rfl (fun hb8 => ?_) (fun hb8 => ?_)
     ·try simp only [q1, q2, q3, q4, q5, q6, q7, q8, q9] at hb8
      first | exact absurd rfl hb8 | (simp [deq_self] at hb8; done) | omega
     ·try simp only [q1, q2, q3, q4, q5, q6, q7, q8, q9] at hb8
      refine sw_skip ?_
      refine sw_seq ?_
      refine sO [(1, _), (2, _), (3, _), (4, _), (5, _), (6, _), (7, _)] [(1, _), (5, _)] ?_
      refine sw_reg ?_
      refine rA ?_ (x := kA)
      refine sw_seq ?_
      refine sO [(1, _), (2, _), (3, _), (4, _), (5, _), (6, _), (7, _), (8, _)] [(1, _), (5, _)] ?_
      refine sw_nmS (s := 6) (by exact rfl) fun us hus => ?_
      obtain ⟨u9_0, rfl⟩ := us_1 hus
      have hq10 := mkL_le mkE_Str_le (actLines aE) 1
      have hq11 := ctL_StrS (actLines aE) 1
      refine sO [(1, _), (2, _), (3, _), (4, _), (5, _), (6, _), (7, _), (8, _)] [(1, _), (5, _)] ?_
      refine sw_regL ?_
      refine swl_step (by exact ⟨rfl, ⟨⟩⟩) (by exact ⟨⟩) (LocG.of rfl (loc_copy (r' := RV.sv false [PV.val _]) (.inl rfl) (by decide) (by exact Cp.sv (ToL.cons PV.nv_val ToL.nil) (BorL.cons (PV.bor_val _) BorL.nil)))) nofree ?_
      refine swl_step (by exact ⟨rfl, ⟨⟩⟩) (by exact ⟨⟩) (LocG.of rfl (loc_copy (.inl rfl) (by decide) (by exact Cp.sc))) nofree ?_
      refine swl_of (l := [(1, RV.ptr 1 0), (2, RV.sv false [PV.val _]), (3, RV.sv false [PV.val _]), (4, RV.sv false [PV.sl _ _]), (5, RV.ptr 5 0), (6, RV.sv false [PV.nv _ (PV.sl _ _)]), (7, RV.sv false [PV.val _]), (8, RV.sv false [PV.val _]), (43, RV.sv false [PV.val _]), (44, RV.sv false [PV.val _])]) (b := [(1, (30, [PV.sl (.lo _) _, PV.val _, PV.val _, PV.sl (.lo _) _, PV.sl (.lo _) _, PV.sl (.lo _) _, PV.sl (.lo _) _, PV.val _])), (5, (40, [PV.nv _ (PV.sl _ _), PV.nv _ (PV.val _), PV.nv _ (PV.val _), PV.nv _ (PV.sl _ _), PV.nv _ (PV.sl _ _), PV.nv _ (PV.sl _ _), PV.nv _ (PV.sl _ _), PV.nv _ (PV.val _)]))]) (by exact ⟨rfl, rfl, rfl, rfl, rfl, rfl, rfl, rfl, rfl, rfl, ⟨⟩⟩) (by exact ⟨rfl, rfl, ⟨⟩⟩) ?_
      refine swl_ucallS (s := 6) (L := (Lw w0.heap.size)) (qr := [(false, [PV.val _])]) (as_ := [(false, [PV.val _])]) (by decide) FLawActiveLines_c_16 rfl (by exact rfl) (by exact (Nm.val Nm.nil)) (by exact ⟨rfl, ⟨⟩⟩) (by exact (And.intro (by exact ⟨⟩) True.intro)) (by exact And.intro (And.intro rfl (ToL.cons (PV.To.refl _) ToL.nil)) True.intro) (by exact rfl) (by exact (Nm.nv Nm.nil)) (by exact (OwnTo.nv OwnTo.nil)) (by exact mark_StrS (x := (actLines aE)) (by omega) (by omega)) (by exact (OwnFrom.nv OwnFrom.nil)) (fun x hx => hx) (by exact (And.intro (.inr RV.lcl_ptr) (And.intro (.inr (RV.lcl_sv (LclC.cons PV.lcl_val LclC.nil))) (And.intro (.inr (RV.lcl_sv (LclC.cons PV.lcl_val LclC.nil))) (And.intro (.inr (RV.lcl_sv (LclC.cons (PV.lcl_own (LclC.map fun x => (LclC.cons PV.lcl_val LclC.nil))) LclC.nil))) (And.intro (.inr RV.lcl_ptr) (And.intro (.inl rfl) (And.intro (.inr (RV.lcl_sv (LclC.cons PV.lcl_val LclC.nil))) (And.intro (.inr (RV.lcl_sv (LclC.cons PV.lcl_val LclC.nil))) (And.intro (.inr (RV.lcl_sv (LclC.cons PV.lcl_val LclC.nil))) (And.intro (.inr (RV.lcl_sv (LclC.cons PV.lcl_val LclC.nil))) True.intro))))))))))) (by exact (And.intro (LclC.cons (PV.lcl_lo (LclRC.map fun x => (LclRC.cons (PV.lclr_lo (LclRC.map fun x => (LclRC.cons PV.lclr_val (LclRC.cons (PV.lclr_lo (LclRC.map fun x => (LclRC.cons PV.lclr_val LclRC.nil))) (LclRC.cons PV.lclr_val (LclRC.cons PV.lclr_val LclRC.nil)))))) LclRC.nil))) (LclC.cons PV.lcl_val (LclC.cons PV.lcl_val (LclC.cons (PV.lcl_lo (LclRC.map fun x => (LclRC.cons PV.lclr_val LclRC.nil))) (LclC.cons (PV.lcl_lo (LclRC.map fun x => (LclRC.cons PV.lclr_val (LclRC.cons PV.lclr_val (LclRC.cons (PV.lclr_lo (LclRC.map fun x => (LclRC.cons PV.lclr_val (LclRC.cons PV.lclr_val (LclRC.cons PV.lclr_val LclRC.nil))))) (LclRC.cons (PV.lclr_lo (LclRC.map fun x => (LclRC.cons PV.lclr_val LclRC.nil))) (LclRC.cons PV.lclr_val (LclRC.cons (PV.lclr_lo (LclRC.map fun x => (LclRC.cons PV.lclr_val LclRC.nil))) (LclRC.cons PV.lclr_val (LclRC.cons PV.lclr_val (LclRC.cons PV.lclr_val (LclRC.cons (PV.lclr_lo (LclRC.map fun x => (LclRC.cons PV.lclr_val (LclRC.cons (PV.lclr_lo (LclRC.map fun x => (LclRC.cons PV.lclr_val LclRC.nil))) LclRC.nil)))) LclRC.nil)))))))))))) (LclC.cons (PV.lcl_lo (LclRC.map fun x => (LclRC.cons PV.lclr_val (LclRC.cons PV.lclr_val (LclRC.cons (PV.lclr_lo (LclRC.map fun x => (LclRC.cons PV.lclr_val (LclRC.cons PV.lclr_val (LclRC.cons PV.lclr_val LclRC.nil))))) (LclRC.cons (PV.lclr_lo (LclRC.map fun x => (LclRC.cons PV.lclr_val LclRC.nil))) (LclRC.cons PV.lclr_val (LclRC.cons PV.lclr_val (LclRC.cons (PV.lclr_lo (LclRC.map fun x => (LclRC.cons PV.lclr_val (LclRC.cons (PV.lclr_lo (LclRC.map fun x => (LclRC.cons PV.lclr_val LclRC.nil))) LclRC.nil)))) LclRC.nil))))))))) (LclC.cons (PV.lcl_lo (LclRC.map fun x => (LclRC.cons PV.lclr_val (LclRC.cons PV.lclr_val (LclRC.cons (PV.lclr_lo (LclRC.map fun x => (LclRC.cons PV.lclr_val LclRC.nil))) (LclRC.cons (PV.lclr_lo (LclRC.map fun x => (LclRC.cons PV.lclr_val LclRC.nil))) (LclRC.cons (PV.lclr_lo (LclRC.map fun x => (LclRC.cons PV.lclr_val LclRC.nil))) LclRC.nil))))))) (LclC.cons PV.lcl_val LclC.nil)))))))) (And.intro (LclC.cons (PV.lcl_nv (PV.lcl_own (LclC.map fun x => (LclC.cons (PV.lcl_own (LclC.map fun x => (LclC.cons PV.lcl_val (LclC.cons (PV.lcl_own (LclC.map fun x => (LclC.cons PV.lcl_val LclC.nil))) (LclC.cons PV.lcl_val (LclC.cons PV.lcl_val LclC.nil)))))) LclC.nil)))) (LclC.cons (PV.lcl_nv PV.lcl_val) (LclC.cons (PV.lcl_nv PV.lcl_val) (LclC.cons (PV.lcl_nv (PV.lcl_own (LclC.map fun x => (LclC.cons PV.lcl_val LclC.nil)))) (LclC.cons (PV.lcl_nv (PV.lcl_own (LclC.map fun x => (LclC.cons PV.lcl_val (LclC.cons PV.lcl_val (LclC.cons (PV.lcl_own (LclC.map fun x => (LclC.cons PV.lcl_val (LclC.cons PV.lcl_val (LclC.cons PV.lcl_val LclC.nil))))) (LclC.cons (PV.lcl_own (LclC.map fun x => (LclC.cons PV.lcl_val LclC.nil))) (LclC.cons PV.lcl_val (LclC.cons (PV.lcl_own (LclC.map fun x => (LclC.cons PV.lcl_val LclC.nil))) (LclC.cons PV.lcl_val (LclC.cons PV.lcl_val (LclC.cons PV.lcl_val (LclC.cons (PV.lcl_own (LclC.map fun x => (LclC.cons PV.lcl_val (LclC.cons (PV.lcl_own (LclC.map fun x => (LclC.cons PV.lcl_val LclC.nil))) LclC.nil)))) LclC.nil))))))))))))) (LclC.cons (PV.lcl_nv (PV.lcl_own (LclC.map fun x => (LclC.cons PV.lcl_val (LclC.cons PV.lcl_val (LclC.cons (PV.lcl_own (LclC.map fun x => (LclC.cons PV.lcl_val (LclC.cons PV.lcl_val (LclC.cons PV.lcl_val LclC.nil))))) (LclC.cons (PV.lcl_own (LclC.map fun x => (LclC.cons PV.lcl_val LclC.nil))) (LclC.cons PV.lcl_val (LclC.cons PV.lcl_val (LclC.cons (PV.lcl_own (LclC.map fun x => (LclC.cons PV.lcl_val (LclC.cons (PV.lcl_own (LclC.map fun x => (LclC.cons PV.lcl_val LclC.nil))) LclC.nil)))) LclC.nil)))))))))) (LclC.cons (PV.lcl_nv (PV.lcl_own (LclC.map fun x => (LclC.cons PV.lcl_val (LclC.cons PV.lcl_val (LclC.cons (PV.lcl_own (LclC.map fun x => (LclC.cons PV.lcl_val LclC.nil))) (LclC.cons (PV.lcl_own (LclC.map fun x => (LclC.cons PV.lcl_val LclC.nil))) (LclC.cons (PV.lcl_own (LclC.map fun x => (LclC.cons PV.lcl_val LclC.nil))) LclC.nil)))))))) (LclC.cons (PV.lcl_nv PV.lcl_val) LclC.nil)))))))) True.intro))) rfl (by decide) ?_
      refine swl_step (by exact ⟨rfl, ⟨⟩⟩) (by exact ⟨⟩) (LocG.of rfl (loc_copy (.inr rfl) (by decide) (by exact Cp.sc))) nofree ?_
      refine swl_nil ?_
      refine sw_seq ?_
      refine sO [(1, _), (2, _), (3, _), (4, _), (5, _), (6, _), (7, _), (8, _)] [(1, _), (5, _)] ?_
      refine sw_reg ?_
      refine rA ?_ (x := kA)
      refine sw_seq ?_
      refine sO [(1, _), (2, _), (3, _), (4, _), (5, _), (6, _), (7, _), (8, _), (9, _)] [(1, _), (5, _)] ?_
      refine sw_reg ?_
      refine rA ?_ (x := loc_copy (r' := RV.sv false [PV.sl .v _]) (.inl rfl) (by decide) (by exact Cp.sv (ToL.cons (PV.nv_to PV.to_none) ToL.nil) (BorL.cons (PV.bor_sl _) BorL.nil)))
      refine rA ?_ (x := sM)
      refine rA ?_ (x := cL [(false, [PV.sl _ _]), (false, [PV.val _])] [(false, [PV.sl .v _]), (false, [PV.val _])] FLawActiveLines_c_17 (hs := by exact held_StrS (by omega) (by omega)))
      refine rA ?_ (x := sA)
      refine sw_seq ?_
      refine sw_seq ?_
      refine sO [(1, _), (2, _), (3, _), (4, _), (5, _), (6, _), (7, _), (8, _), (9, _)] [(1, _), (5, _)] ?_
      refine sw_reg ?_
      refine rA ?_ (x := sM)
      refine rA ?_ (x := B_lss)
      refine sw_cond (t := 50) rfl (fun hb12 => ?_) (fun hb12 => ?_)
      ·try simp only [q1, q2, q3, q4, q5, q6, q7, q8, q9] at hb12
       first | exact absurd rfl hb12 | (simp [deq_self] at hb12; done) | omega
      ·try simp only [q1, q2, q3, q4, q5, q6, q7, q8, q9] at hb12
       refine sw_skip ?_
       refine sw_seq ?_
       refine sw_seq ?_
       refine sO [(1, _), (2, _), (3, _), (4, _), (5, _), (6, _), (7, _), (8, _), (9, _)] [(1, _), (5, _)] ?_
       refine sw_reg ?_
       refine rA ?_ (x := sM)
       refine rA ?_ (x := sM)
       refine rA ?_ (x := B_neq)
       refine sw_cond (t := 53) rfl (fun hb13 => ?_) (fun hb13 => ?_)
       ·try simp only [q1, q2, q3, q4, q5, q6, q7, q8, q9] at hb13
        first | exact absurd rfl hb13 | (simp [deq_self] at hb13; done) | omega
       ·try simp only [q1, q2, q3, q4, q5, q6, q7, q8, q9] at hb13
        refine sw_skip ?_
        refine sw_seq ?_
        refine sO [(1, _), (2, _), (3, _), (4, _), (5, _), (6, _), (7, _), (8, _), (9, _)] [(1, _), (5, _)] ?_
        refine sw_glob hG_ hz_ ?_
        refine sO [(1, _), (2, _), (3, _), (4, _), (5, _), (6, _), (7, _), (8, _), (9, _), (7000, _)] [(1, _), (5, _)] ?_
        refine sw_reg ?_
        refine rA ?_ (x := lD [PV.sl (.lo _) _, PV.val _, PV.val _, PV.sl (.lo _) _, PV.sl (.lo _) _, PV.sl (.lo _) _, PV.sl (.lo _) _, PV.val _] FLawActiveLines_ty_30)
        refine rA ?_ (x := cL [(true, [PV.sl (.lo _) _, PV.val _, PV.val _, PV.sl (.lo _) _, PV.sl (.lo _) _, PV.sl (.lo _) _, PV.sl (.lo _) _, PV.val _])] [(true, [PV.sl .v _, PV.val _, PV.val _, PV.sl .v _, PV.sl .v _, PV.sl .v _, PV.sl .v _, PV.val _])] FLawActiveLines_c_9 (hs := by exact to_Engine (by omega)))
        refine rA ?_ (x := gL [(true, [PV.sl _ _, PV.val _, PV.val _, PV.sl _ _, PV.sl _ _, PV.sl _ _, PV.sl _ _, PV.val _])] [(true, [PV.sl .v _, PV.val _, PV.val _, PV.sl .v _, PV.sl .v _, PV.sl .v _, PV.sl .v _, PV.val _])] FLawActiveLines_c_13 (hs := by exact (impl_ActiveLines (by omega))))
        refine rA ?_ (x := tA)
        refine sw_seq ?_
        refine sw_seq ?_
        refine sO [(1, _), (2, _), (3, _), (4, _), (5, _), (6, _), (7, _), (8, _), (9, _), (10, _)] [(1, _), (5, _)] ?_
        refine sw_reg ?_
        refine rA ?_ (x := vM false [PV.sl .v _])
        refine rA ?_ (x := vM false [PV.sl .v _])
        refine rA ?_ (x := cL [(false, [PV.sl _ _]), (false, [PV.sl _ _])] [(false, [PV.sl .v _]), (false, [PV.sl .v _])] FLawActiveLines_c_14 (hs := by exact eq_StrS))
        refine rA ?_ (x := nT)
        refine sw_cond (t := 60) rfl (fun hb14 => ?_) (fun hb14 => ?_)
        ·try simp only [q1, q2, q3, q4, q5, q6, q7, q8, q9] at hb14
         first | exact absurd rfl hb14 | (simp [deq_self] at hb14; done) | omega
        ·try simp only [q1, q2, q3, q4, q5, q6, q7, q8, q9] at hb14
         refine sw_skip ?_
         refine sw_seq ?_
         refine sO [(1, _), (2, _), (3, _), (4, _), (5, _), (6, _), (7, _), (8, _), (9, _), (10, _)] [(1, _), (5, _)] ?_
         refine sw_reg ?_
         refine rA ?_ (x := kA)
         refine sw_seq ?_
         refine sO [(1, _), (2, _), (3, _), (4, _), (5, _), (6, _), (7, _), (8, _), (9, _), (10, _)] [(1, _), (5, _)] ?_
         refine sw_reg ?_
         refine rA ?_ (x := loc_copy (r' := RV.sv false [PV.sl .v _]) (.inl rfl) (by decide) (by exact Cp.sv (ToL.cons (PV.nv_to PV.to_none) ToL.nil) (BorL.cons (PV.bor_sl _) BorL.nil)))
         refine rA ?_ (x := sM)
         refine rA ?_ (x := cL [(false, [PV.sl _ _]), (false, [PV.val _])] [(false, [PV.sl .v _]), (false, [PV.val _])] FLawActiveLines_c_17 (hs := by exact held_StrS (by omega) (by omega)))
         refine rA ?_ (x := sA)
         refine sw_seq ?_
         refine sw_seq ?_
         refine sO [(1, _), (2, _), (3, _), (4, _), (5, _), (6, _), (7, _), (8, _), (9, _), (10, _)] [(1, _), (5, _)] ?_
         refine sw_reg ?_
         refine rA ?_ (x := sM)
         refine rA ?_ (x := B_lss)
         refine sw_cond (t := 65) rfl (fun hb15 => ?_) (fun hb15 => ?_)
         ·try simp only [q1, q2, q3, q4, q5, q6, q7, q8, q9] at hb15
          first | exact absurd rfl hb15 | (simp [deq_self] at hb15; done) | omega
         ·try simp only [q1, q2, q3, q4, q5, q6, q7, q8, q9] at hb15
          refine sw_skip ?_
          refine sw_seq ?_
          refine sw_seq ?_
          refine sO [(1, _), (2, _), (3, _), (4, _), (5, _), (6, _), (7, _), (8, _), (9, _), (10, _)] [(1, _), (5, _)] ?_
          refine sw_reg ?_
          refine rA ?_ (x := sM)
          refine rA ?_ (x := sM)
          refine rA ?_ (x := B_neq)
          refine sw_cond (t := 68) rfl (fun hb16 => ?_) (fun hb16 => ?_)
          ·try simp only [q1, q2, q3, q4, q5, q6, q7, q8, q9] at hb16
           first | exact absurd rfl hb16 | (simp [deq_self] at hb16; done) | omega
          ·try simp only [q1, q2, q3, q4, q5, q6, q7, q8, q9] at hb16
           refine sw_skip ?_
           refine sw_seq ?_
           refine sO [(1, _), (2, _), (3, _), (4, _), (5, _), (6, _), (7, _), (8, _), (9, _), (10, _)] [(1, _), (5, _)] ?_
           refine sw_reg ?_
           refine rA ?_ (x := kA)
           refine sw_ret ?_
           exact (And.intro (by exact rfl) True.intro)
end Go.Proofs.YteflgldonmgejaaGreatDoor
