/- What functions of the program compute. No condition. -/
import Derived.Test.YtloipjaiceifbaaGreatCDb
import Derived.KernelRfl
set_option linter.unusedVariables false
set_option linter.unusedSimpArgs false
namespace Go.Proofs.YtloipjaiceifbaaGreat
open Go Go.RowKit M
set_option maxRecDepth 10000
theorem held_BoolS {x : List Bool} {k : Int}  (h0k : 0 ≤ k) (hbk : (mkL mkE_Bool x k).2 ≤ 4611686018427387904): SCall Tryz.prog 47 [(false, [PV.sl .v ((mkL mkE_Bool x k).1.map cBool)]), (false, [PV.val (vI k)])] (resRV [(false, [PV.val (vI (mkL mkE_Bool x k).2)])]) := by
 refine scall_of (rs := [(false, [PV.val (vI (mkL mkE_Bool x k).2)])]) Tryz.func47 rfl (Nat.le_of_ble_eq_true rfl) (borA_cons (BorL.cons (PV.bor_sl _) BorL.nil) (borA_cons (BorL.cons (PV.bor_val _) BorL.nil) borA_nil)) ?_
 intro h0 w0 Fz0
 refine sw_len (s := 0) rfl fun hl0 => ?_
 try rw [List.length_map] at hl0
 have hlm : (mkL mkE_Bool x k).1.length = x.length := mkL_len _ _
 have hmono := mkL_take_le mkE_Bool_le x
 have hmono0 := fun i => mkL_le mkE_Bool_le (x.take i) k
 refine sw_seq ?_
 refine sw_reg ?_
 refine rA ?_ (x := kA)
 refine sw_seq ?_
 refine sw_seq ?_
 refine sO [(0, _), (1, _), (4, _)] [] ?_
 refine sw_reg ?_
 refine rA ?_ (x := kA)
 refine sw_block ?_
 refine sO [(0, _), (1, _), (4, _), (5, _)] [] ?_
 refine sw_loop (l0 := [(0, RV.sv false [PV.sl _ _])]) (b0 := []) (fun i : Nat => i ≤ x.length) (fun i : Nat => [(1, RV.int (mkL mkE_Bool (x.take i) k).2), (5, RV.int (i : Int))]) (fun i : Nat => []) (fun i : Nat => x.length - i) 0 (by omega) (by exact ⟨rfl, ⟨⟩⟩) (by exact ⟨⟩) (by exact And.intro (by exact rfl) (And.intro (by exact rfl) (True.intro))) (by exact ⟨⟩) ?_
 rintro i hi
 refine sw_seq ?_
 refine sw_seq ?_
 refine sw_reg ?_
 refine rA ?_ (x := sM)
 refine rA ?_ (x := vM false [PV.sl .v _])
 refine rA ?_ (x := lN sl_27)
 refine rA ?_ (x := B_lss)
 refine sw_cond (t := 9) rfl (fun hb1 => ?_) (fun hb1 => ?_)
 ·try simp only [q1, q2, q3, q4, q5, q6, q7, q8, q9] at hb1
  have hlt : i < x.length := by omega
  have hk0 := hmono0 i
  have hk1 := hmono (i + 1) k
  rw [mkL_succ hlt] at hk1
  dsimp only at hk1
  simp only [mkE_Bool] at hk1
  refine sw_skip ?_
  refine sw_seq ?_
  refine sw_block ?_
  refine sw_seq ?_
  refine sw_seq ?_
  refine sO [(0, _), (1, _), (5, _)] [] ?_
  refine sw_reg ?_
  refine rA ?_ (x := vM false [PV.sl .v _])
  refine rA ?_ (x := sM)
  refine rA ?_ (x := loc_index (by decide) sl_27 (by exact ⟨⟩) (by exact rfl) (by exact mkL_getc hlt rfl) (by exact rfl))
  refine rA ?_ (x := lE [PV.val _] ty_4)
  refine rA ?_ (x := sM)
  refine rA ?_ (x := loc_rem (by decide) (by exact ⟨⟩) (ok_sc rfl) (by omega))
  refine rA ?_ (x := B_eql)
  refine rA ?_ (x := loc_bneq (by decide) ub_4 (by exact ⟨⟩) (by exact ⟨⟩))
  refine sw_cond (t := 19) rfl (fun hb2 => ?_) (fun hb2 => ?_)
  ·try simp only [q1, q2, q3, q4, q5, q6, q7, q8, q9] at hb2
   first | exact absurd rfl hb2 | omega
  ·try simp only [q1, q2, q3, q4, q5, q6, q7, q8, q9] at hb2
   refine sw_skip ?_
   refine sO [(0, _), (1, _), (5, _)] [] ?_
   refine sw_reg ?_
   refine rA ?_ (x := sM)
   refine rA ?_ (x := B_add)
   refine rA ?_ (x := sA)
   refine sO [(0, _), (1, _), (5, _)] [] ?_
   refine sw_reg ?_
   refine rA ?_ (x := sM)
   refine rA ?_ (x := B_add)
   refine rA ?_ (x := sA)
   refine Exists.intro (i + 1) (And.intro (by omega) (And.intro (by omega) (And.intro (And.intro (by exact ⟨rfl, ⟨⟩⟩) (by exact ⟨⟩)) (And.intro (by exact And.intro (by exact int_eq (by rw [mkL_succ hlt]; rfl)) (And.intro (by exact rfl) (True.intro))) (by exact ⟨⟩)))))
 ·try simp only [q1, q2, q3, q4, q5, q6, q7, q8, q9] at hb1
  have hend : i = x.length := by omega
  refine sw_exit ?_
  refine sw_seq ?_
  refine sO [(0, _), (1, _), (5, _)] [] ?_
  refine sw_reg ?_
  refine rA ?_ (x := sM)
  refine rA ?_ (x := sA)
  refine sw_ret ?_
  exact (And.intro (by refine int_eq ?_; first | rfl | rw [hend, List.take_length]) True.intro)
theorem held_IntS {x : List Int} {k : Int}  (h0k : 0 ≤ k) (hbk : (mkL mkE_Int x k).2 ≤ 4611686018427387904): SCall Tryz.prog 48 [(false, [PV.sl .v ((mkL mkE_Int x k).1.map cInt)]), (false, [PV.val (vI k)])] (resRV [(false, [PV.val (vI (mkL mkE_Int x k).2)])]) := by
 refine scall_of (rs := [(false, [PV.val (vI (mkL mkE_Int x k).2)])]) Tryz.func48 rfl (Nat.le_of_ble_eq_true rfl) (borA_cons (BorL.cons (PV.bor_sl _) BorL.nil) (borA_cons (BorL.cons (PV.bor_val _) BorL.nil) borA_nil)) ?_
 intro h0 w0 Fz0
 refine sw_len (s := 0) rfl fun hl0 => ?_
 try rw [List.length_map] at hl0
 have hlm : (mkL mkE_Int x k).1.length = x.length := mkL_len _ _
 have hmono := mkL_take_le mkE_Int_le x
 have hmono0 := fun i => mkL_le mkE_Int_le (x.take i) k
 refine sw_seq ?_
 refine sw_reg ?_
 refine rA ?_ (x := kA)
 refine sw_seq ?_
 refine sw_seq ?_
 refine sO [(0, _), (1, _), (4, _)] [] ?_
 refine sw_reg ?_
 refine rA ?_ (x := kA)
 refine sw_block ?_
 refine sO [(0, _), (1, _), (4, _), (5, _)] [] ?_
 refine sw_loop (l0 := [(0, RV.sv false [PV.sl _ _])]) (b0 := []) (fun i : Nat => i ≤ x.length) (fun i : Nat => [(1, RV.int (mkL mkE_Int (x.take i) k).2), (5, RV.int (i : Int))]) (fun i : Nat => []) (fun i : Nat => x.length - i) 0 (by omega) (by exact ⟨rfl, ⟨⟩⟩) (by exact ⟨⟩) (by exact And.intro (by exact rfl) (And.intro (by exact rfl) (True.intro))) (by exact ⟨⟩) ?_
 rintro i hi
 refine sw_seq ?_
 refine sw_seq ?_
 refine sw_reg ?_
 refine rA ?_ (x := sM)
 refine rA ?_ (x := vM false [PV.sl .v _])
 refine rA ?_ (x := lN sl_23)
 refine rA ?_ (x := B_lss)
 refine sw_cond (t := 9) rfl (fun hb1 => ?_) (fun hb1 => ?_)
 ·try simp only [q1, q2, q3, q4, q5, q6, q7, q8, q9] at hb1
  have hlt : i < x.length := by omega
  have hk0 := hmono0 i
  have hk1 := hmono (i + 1) k
  rw [mkL_succ hlt] at hk1
  dsimp only at hk1
  simp only [mkE_Int] at hk1
  refine sw_skip ?_
  refine sw_seq ?_
  refine sw_block ?_
  refine sw_seq ?_
  refine sw_seq ?_
  refine sO [(0, _), (1, _), (5, _)] [] ?_
  refine sw_reg ?_
  refine rA ?_ (x := vM false [PV.sl .v _])
  refine rA ?_ (x := sM)
  refine rA ?_ (x := loc_index (by decide) sl_23 (by exact ⟨⟩) (by exact rfl) (by exact mkL_getc hlt rfl) (by exact rfl))
  refine rA ?_ (x := lE [PV.val _] ty_3)
  refine rA ?_ (x := sM)
  refine rA ?_ (x := B_neq)
  refine sw_cond (t := 17) rfl (fun hb2 => ?_) (fun hb2 => ?_)
  ·try simp only [q1, q2, q3, q4, q5, q6, q7, q8, q9] at hb2
   first | exact absurd rfl hb2 | omega
  ·try simp only [q1, q2, q3, q4, q5, q6, q7, q8, q9] at hb2
   refine sw_skip ?_
   refine sO [(0, _), (1, _), (5, _)] [] ?_
   refine sw_reg ?_
   refine rA ?_ (x := sM)
   refine rA ?_ (x := B_add)
   refine rA ?_ (x := sA)
   refine sO [(0, _), (1, _), (5, _)] [] ?_
   refine sw_reg ?_
   refine rA ?_ (x := sM)
   refine rA ?_ (x := B_add)
   refine rA ?_ (x := sA)
   refine Exists.intro (i + 1) (And.intro (by omega) (And.intro (by omega) (And.intro (And.intro (by exact ⟨rfl, ⟨⟩⟩) (by exact ⟨⟩)) (And.intro (by exact And.intro (by exact int_eq (by rw [mkL_succ hlt]; rfl)) (And.intro (by exact rfl) (True.intro))) (by exact ⟨⟩)))))
 ·try simp only [q1, q2, q3, q4, q5, q6, q7, q8, q9] at hb1
  have hend : i = x.length := by omega
  refine sw_exit ?_
  refine sw_seq ?_
  refine sO [(0, _), (1, _), (5, _)] [] ?_
  refine sw_reg ?_
  refine rA ?_ (x := sM)
  refine rA ?_ (x := sA)
  refine sw_ret ?_
  exact (And.intro (by refine int_eq ?_; first | rfl | rw [hend, List.take_length]) True.intro)
theorem held_CondS {x : List Cond} {k : Int}  (h0k : 0 ≤ k) (hbk : (mkL mkE_Cond x k).2 ≤ 4611686018427387904): SCall Tryz.prog 81 [(false, [PV.sl .v ((mkL mkE_Cond x k).1.map cCond)]), (false, [PV.val (vI k)])] (resRV [(false, [PV.val (vI (mkL mkE_Cond x k).2)])]) := by
 refine scall_of (rs := [(false, [PV.val (vI (mkL mkE_Cond x k).2)])]) Tryz.func81 rfl (Nat.le_of_ble_eq_true rfl) (borA_cons (BorL.cons (PV.bor_sl _) BorL.nil) (borA_cons (BorL.cons (PV.bor_val _) BorL.nil) borA_nil)) ?_
 intro h0 w0 Fz0
 refine sw_len (s := 0) rfl fun hl0 => ?_
 try rw [List.length_map] at hl0
 have hlm : (mkL mkE_Cond x k).1.length = x.length := mkL_len _ _
 have hmono := mkL_take_le mkE_Cond_le x
 have hmono0 := fun i => mkL_le mkE_Cond_le (x.take i) k
 refine sw_seq ?_
 refine sw_reg ?_
 refine rA ?_ (x := kA)
 refine sw_seq ?_
 refine sw_seq ?_
 refine sO [(0, _), (1, _), (4, _)] [] ?_
 refine sw_reg ?_
 refine rA ?_ (x := kA)
 refine sw_block ?_
 refine sO [(0, _), (1, _), (4, _), (5, _)] [] ?_
 refine sw_loop (l0 := [(0, RV.sv false [PV.sl _ _])]) (b0 := []) (fun i : Nat => i ≤ x.length) (fun i : Nat => [(1, RV.int (mkL mkE_Cond (x.take i) k).2), (5, RV.int (i : Int))]) (fun i : Nat => []) (fun i : Nat => x.length - i) 0 (by omega) (by exact ⟨rfl, ⟨⟩⟩) (by exact ⟨⟩) (by exact And.intro (by exact rfl) (And.intro (by exact rfl) (True.intro))) (by exact ⟨⟩) ?_
 rintro i hi
 refine sw_seq ?_
 refine sw_seq ?_
 refine sw_reg ?_
 refine rA ?_ (x := sM)
 refine rA ?_ (x := vM false [PV.sl .v _])
 refine rA ?_ (x := lN sl_31)
 refine rA ?_ (x := B_lss)
 refine sw_cond (t := 9) rfl (fun hb1 => ?_) (fun hb1 => ?_)
 ·try simp only [q1, q2, q3, q4, q5, q6, q7, q8, q9] at hb1
  have hlt : i < x.length := by omega
  have hk0 := hmono0 i
  have hk1 := hmono (i + 1) k
  rw [mkL_succ hlt] at hk1
  dsimp only at hk1
  simp only [mkE_Cond] at hk1
  refine sw_skip ?_
  refine sw_seq ?_
  refine sw_block ?_
  refine sw_seq ?_
  refine sw_seq ?_
  refine sO [(0, _), (1, _), (5, _)] [] ?_
  refine sw_reg ?_
  refine rA ?_ (x := vM false [PV.sl .v _])
  refine rA ?_ (x := sM)
  refine rA ?_ (x := loc_index (by decide) sl_31 (by exact ⟨⟩) (by exact rfl) (by exact mkL_getc hlt rfl) (by exact rfl))
  refine rA ?_ (x := loc_efield (by decide) fd_84_0 (by exact Nat.le_of_ble_eq_true rfl))
  refine rA ?_ (x := lE [PV.val _] ty_3)
  refine rA ?_ (x := sM)
  refine rA ?_ (x := B_neq)
  refine sw_cond (t := 18) rfl (fun hb2 => ?_) (fun hb2 => ?_)
  ·try simp only [q1, q2, q3, q4, q5, q6, q7, q8, q9] at hb2
   first | exact absurd rfl hb2 | omega
  ·try simp only [q1, q2, q3, q4, q5, q6, q7, q8, q9] at hb2
   refine sw_skip ?_
   refine sw_seq ?_
   refine sO [(0, _), (1, _), (5, _)] [] ?_
   refine sw_reg ?_
   refine rA ?_ (x := sM)
   refine rA ?_ (x := B_add)
   refine rA ?_ (x := sA)
   refine sw_seq ?_
   refine sw_seq ?_
   refine sO [(0, _), (1, _), (5, _)] [] ?_
   refine sw_reg ?_
   refine rA ?_ (x := vM false [PV.sl .v _])
   refine rA ?_ (x := sM)
   refine rA ?_ (x := loc_index (by decide) sl_31 (by exact ⟨⟩) (by exact rfl) (by exact mkL_getc hlt rfl) (by exact rfl))
   refine rA ?_ (x := loc_efield (by decide) fd_84_1 (by exact Nat.le_of_ble_eq_true rfl))
   refine rA ?_ (x := lE [PV.val _] ty_3)
   refine rA ?_ (x := sM)
   refine rA ?_ (x := B_neq)
   refine sw_cond (t := 27) rfl (fun hb3 => ?_) (fun hb3 => ?_)
   ·try simp only [q1, q2, q3, q4, q5, q6, q7, q8, q9] at hb3
    first | exact absurd rfl hb3 | omega
   ·try simp only [q1, q2, q3, q4, q5, q6, q7, q8, q9] at hb3
    refine sw_skip ?_
    refine sw_seq ?_
    refine sO [(0, _), (1, _), (5, _)] [] ?_
    refine sw_reg ?_
    refine rA ?_ (x := sM)
    refine rA ?_ (x := B_add)
    refine rA ?_ (x := sA)
    refine sw_seq ?_
    refine sw_seq ?_
    refine sO [(0, _), (1, _), (5, _)] [] ?_
    refine sw_reg ?_
    refine rA ?_ (x := vM false [PV.sl .v _])
    refine rA ?_ (x := sM)
    refine rA ?_ (x := loc_index (by decide) sl_31 (by exact ⟨⟩) (by exact rfl) (by exact mkL_getc hlt rfl) (by exact rfl))
    refine rA ?_ (x := loc_efield (by decide) fd_84_2 (by exact Nat.le_of_ble_eq_true rfl))
    refine rA ?_ (x := lE [PV.val _] ty_3)
    refine rA ?_ (x := sM)
    refine rA ?_ (x := B_neq)
    refine sw_cond (t := 36) rfl (fun hb4 => ?_) (fun hb4 => ?_)
    ·try simp only [q1, q2, q3, q4, q5, q6, q7, q8, q9] at hb4
     first | exact absurd rfl hb4 | omega
    ·try simp only [q1, q2, q3, q4, q5, q6, q7, q8, q9] at hb4
     refine sw_skip ?_
     refine sO [(0, _), (1, _), (5, _)] [] ?_
     refine sw_reg ?_
     refine rA ?_ (x := sM)
     refine rA ?_ (x := B_add)
     refine rA ?_ (x := sA)
     refine sO [(0, _), (1, _), (5, _)] [] ?_
     refine sw_reg ?_
     refine rA ?_ (x := sM)
     refine rA ?_ (x := B_add)
     refine rA ?_ (x := sA)
     refine Exists.intro (i + 1) (And.intro (by omega) (And.intro (by omega) (And.intro (And.intro (by exact ⟨rfl, ⟨⟩⟩) (by exact ⟨⟩)) (And.intro (by exact And.intro (by exact int_eq (by rw [mkL_succ hlt]; rfl)) (And.intro (by exact rfl) (True.intro))) (by exact ⟨⟩)))))
 ·try simp only [q1, q2, q3, q4, q5, q6, q7, q8, q9] at hb1
  have hend : i = x.length := by omega
  refine sw_exit ?_
  refine sw_seq ?_
  refine sO [(0, _), (1, _), (5, _)] [] ?_
  refine sw_reg ?_
  refine rA ?_ (x := sM)
  refine rA ?_ (x := sA)
  refine sw_ret ?_
  exact (And.intro (by refine int_eq ?_; first | rfl | rw [hend, List.take_length]) True.intro)
theorem held_Query {x : Query} {k : Int}  (h0k : 0 ≤ k) (hbk : (mkV_Query x k).2 ≤ 4611686018427387904): SCall Tryz.prog 45 [(true, [PV.val (vI (mkV_Query x k).1.Id), PV.val (vI (mkV_Query x k).1.Tenant), PV.sl .v ((mkV_Query x k).1.Conds.map cCond), PV.sl .v ((mkV_Query x k).1.Out.map cInt)]), (false, [PV.val (vI k)])] (resRV [(false, [PV.val (vI (mkV_Query x k).2)])]) := by
 refine scall_of (rs := [(false, [PV.val (vI (mkV_Query x k).2)])]) Tryz.func45 rfl (Nat.le_of_ble_eq_true rfl) (borA_cons (BorL.cons (PV.bor_val _) (BorL.cons (PV.bor_val _) (BorL.cons (PV.bor_sl _) (BorL.cons (PV.bor_sl _) BorL.nil)))) (borA_cons (BorL.cons (PV.bor_val _) BorL.nil) borA_nil)) ?_
 intro h0 w0 Fz0
 refine sw_slen (s := 0) (j := 2) rfl rfl fun hl0_2 => ?_
 try rw [List.length_map] at hl0_2
 refine sw_slen (s := 0) (j := 3) rfl rfl fun hl0_3 => ?_
 try rw [List.length_map] at hl0_3
 simp only [mkV_Query] at hbk
 have hm0 := mkL_le mkE_Cond_le x.Conds k
 have hm1 := mkL_le mkE_Int_le x.Out (mkL mkE_Cond x.Conds k).2
 refine sw_seq ?_
 refine sw_reg ?_
 refine RunS.step (by exact ⟨rfl, ⟨⟩⟩) (by exact ⟨⟩) (LocG.of rfl (loc_box (ag := true) (cs := [PV.val _, PV.val _, PV.sl _ _, PV.sl _ _]) (by decide) (by exact ⟨⟩))) (free1 (Free.of_ rfl)) ?_
 refine rA ?_ (x := kA)
 refine sw_seq ?_
 refine sO [(1, _), (2, _), (4, _)] [(2, (33, [PV.val _, PV.val _, PV.sl _ _, PV.sl _ _]))] ?_
 refine sw_reg ?_
 refine rA ?_ (x := lF fd_33_2)
 refine rA ?_ (x := lD [PV.sl .v _] ty_31)
 refine rA ?_ (x := sM)
 refine rA ?_ (x := cL [(false, [PV.sl _ _]), (false, [PV.val _])] [(false, [PV.sl .v _]), (false, [PV.val _])] c_81 (hs := by exact held_CondS (by omega) (by omega)))
 refine rA ?_ (x := sA)
 refine sw_seq ?_
 refine sw_seq ?_
 refine sO [(1, _), (2, _), (4, _)] [(2, _)] ?_
 refine sw_reg ?_
 refine rA ?_ (x := sM)
 refine rA ?_ (x := B_lss)
 refine sw_cond (t := 10) rfl (fun hb1 => ?_) (fun hb1 => ?_)
 ·try simp only [q1, q2, q3, q4, q5, q6, q7, q8, q9] at hb1
  omega
 ·try simp only [q1, q2, q3, q4, q5, q6, q7, q8, q9] at hb1
  refine sw_skip ?_
  refine sw_seq ?_
  refine sO [(1, _), (2, _), (4, _)] [(2, _)] ?_
  refine sw_reg ?_
  refine rA ?_ (x := lF fd_33_3)
  refine rA ?_ (x := lD [PV.sl .v _] ty_23)
  refine rA ?_ (x := sM)
  refine rA ?_ (x := cL [(false, [PV.sl _ _]), (false, [PV.val _])] [(false, [PV.sl .v _]), (false, [PV.val _])] c_48 (hs := by exact held_IntS (by omega) (by omega)))
  refine rA ?_ (x := sA)
  refine sw_seq ?_
  refine sw_seq ?_
  refine sO [(1, _), (2, _), (4, _)] [(2, _)] ?_
  refine sw_reg ?_
  refine rA ?_ (x := sM)
  refine rA ?_ (x := B_lss)
  refine sw_cond (t := 16) rfl (fun hb2 => ?_) (fun hb2 => ?_)
  ·try simp only [q1, q2, q3, q4, q5, q6, q7, q8, q9] at hb2
   omega
  ·try simp only [q1, q2, q3, q4, q5, q6, q7, q8, q9] at hb2
   refine sw_skip ?_
   refine sw_seq ?_
   refine sO [(1, _), (2, _), (4, _)] [(2, _)] ?_
   refine sw_reg ?_
   refine rA ?_ (x := sM)
   refine rA ?_ (x := sA)
   refine sw_ret ?_
   exact (And.intro (by exact rfl) True.intro)
theorem held_RowS {p1 : Fl} {x : List Row} {k : Int}  (h0k : 0 ≤ k) (hbk : (mkL mkE_Row x k).2 ≤ 4611686018427387904): SCall Tryz.prog 82 [(false, [PV.sl .v ((mkL mkE_Row x k).1.map (cRow p1))]), (false, [PV.val (vI k)])] (resRV [(false, [PV.val (vI (mkL mkE_Row x k).2)])]) := by
 refine scall_of (rs := [(false, [PV.val (vI (mkL mkE_Row x k).2)])]) Tryz.func82 rfl (Nat.le_of_ble_eq_true rfl) (borA_cons (BorL.cons (PV.bor_sl _) BorL.nil) (borA_cons (BorL.cons (PV.bor_val _) BorL.nil) borA_nil)) ?_
 intro h0 w0 Fz0
 refine sw_len (s := 0) rfl fun hl0 => ?_
 try rw [List.length_map] at hl0
 have hlm : (mkL mkE_Row x k).1.length = x.length := mkL_len _ _
 have hmono := mkL_take_le mkE_Row_le x
 have hmono0 := fun i => mkL_le mkE_Row_le (x.take i) k
 refine sw_seq ?_
 refine sw_reg ?_
 refine rA ?_ (x := kA)
 refine sw_seq ?_
 refine sw_seq ?_
 refine sO [(0, _), (1, _), (4, _)] [] ?_
 refine sw_reg ?_
 refine rA ?_ (x := kA)
 refine sw_block ?_
 refine sO [(0, _), (1, _), (4, _), (5, _)] [] ?_
 refine sw_loop (l0 := [(0, RV.sv false [PV.sl _ _])]) (b0 := []) (fun i : Nat => i ≤ x.length) (fun i : Nat => [(1, RV.int (mkL mkE_Row (x.take i) k).2), (5, RV.int (i : Int))]) (fun i : Nat => []) (fun i : Nat => x.length - i) 0 (by omega) (by exact ⟨rfl, ⟨⟩⟩) (by exact ⟨⟩) (by exact And.intro (by exact rfl) (And.intro (by exact rfl) (True.intro))) (by exact ⟨⟩) ?_
 rintro i hi
 refine sw_seq ?_
 refine sw_seq ?_
 refine sw_reg ?_
 refine rA ?_ (x := sM)
 refine rA ?_ (x := vM false [PV.sl .v _])
 refine rA ?_ (x := lN sl_51)
 refine rA ?_ (x := B_lss)
 refine sw_cond (t := 9) rfl (fun hb1 => ?_) (fun hb1 => ?_)
 ·try simp only [q1, q2, q3, q4, q5, q6, q7, q8, q9] at hb1
  have hlt : i < x.length := by omega
  have hk0 := hmono0 i
  have hk1 := hmono (i + 1) k
  rw [mkL_succ hlt] at hk1
  dsimp only at hk1
  have hm0 := mkL_le mkE_Int_le x[i].Values ((mkL mkE_Row (x.take i) k).2 + 1)
  simp only [mkE_Row] at hk1
  refine sw_skip ?_
  refine sw_seq ?_
  refine sw_block ?_
  refine sw_seq ?_
  refine sw_seq ?_
  refine sO [(0, _), (1, _), (5, _)] [] ?_
  refine sw_reg ?_
  refine rA ?_ (x := vM false [PV.sl .v _])
  refine rA ?_ (x := sM)
  refine rA ?_ (x := loc_index (by decide) sl_51 (by exact ⟨⟩) (by exact rfl) (by exact mkL_getc hlt rfl) (by exact rfl))
  refine rA ?_ (x := loc_efield (by decide) fd_53_0 (by exact Nat.le_of_ble_eq_true rfl))
  refine rA ?_ (x := lE [PV.val _] ty_3)
  refine rA ?_ (x := sM)
  refine rA ?_ (x := B_neq)
  refine sw_cond (t := 18) rfl (fun hb2 => ?_) (fun hb2 => ?_)
  ·try simp only [q1, q2, q3, q4, q5, q6, q7, q8, q9] at hb2
   first | exact absurd rfl hb2 | omega
  ·try simp only [q1, q2, q3, q4, q5, q6, q7, q8, q9] at hb2
   refine sw_skip ?_
   refine sw_seq ?_
   refine sO [(0, _), (1, _), (5, _)] [] ?_
   refine sw_reg ?_
   refine rA ?_ (x := sM)
   refine rA ?_ (x := B_add)
   refine rA ?_ (x := sA)
   refine sw_seq ?_
   refine sO [(0, _), (1, _), (5, _)] [] ?_
   refine sw_reg ?_
   refine rA ?_ (x := vM false [PV.sl .v _])
   refine rA ?_ (x := sM)
   refine rA ?_ (x := loc_index (by decide) sl_51 (by exact ⟨⟩) (by exact rfl) (by exact mkL_getc hlt rfl) (by exact rfl))
   refine rA ?_ (x := loc_efield (by decide) fd_53_1 (by exact Nat.le_of_ble_eq_true rfl))
   refine rA ?_ (x := lE [PV.sl .v _] ty_23)
   refine rA ?_ (x := sM)
   refine rA ?_ (x := cL [(false, [PV.sl _ _]), (false, [PV.val _])] [(false, [PV.sl .v _]), (false, [PV.val _])] c_48 (hs := by exact held_IntS (by omega) (by omega)))
   refine rA ?_ (x := sA)
   refine sw_seq ?_
   refine sO [(0, _), (1, _), (5, _)] [] ?_
   refine sw_reg ?_
   refine rA ?_ (x := sM)
   refine rA ?_ (x := B_lss)
   refine sw_cond (t := 29) rfl (fun hb3 => ?_) (fun hb3 => ?_)
   ·try simp only [q1, q2, q3, q4, q5, q6, q7, q8, q9] at hb3
    first | exact absurd rfl hb3 | omega
   ·try simp only [q1, q2, q3, q4, q5, q6, q7, q8, q9] at hb3
    refine sw_skip ?_
    refine sO [(0, _), (1, _), (5, _)] [] ?_
    refine sw_reg ?_
    refine rA ?_ (x := sM)
    refine rA ?_ (x := B_add)
    refine rA ?_ (x := sA)
    refine Exists.intro (i + 1) (And.intro (by omega) (And.intro (by omega) (And.intro (And.intro (by exact ⟨rfl, ⟨⟩⟩) (by exact ⟨⟩)) (And.intro (by exact And.intro (by exact int_eq (by rw [mkL_succ hlt]; rfl)) (And.intro (by exact rfl) (True.intro))) (by exact ⟨⟩)))))
 ·try simp only [q1, q2, q3, q4, q5, q6, q7, q8, q9] at hb1
  have hend : i = x.length := by omega
  refine sw_exit ?_
  refine sw_seq ?_
  refine sO [(0, _), (1, _), (5, _)] [] ?_
  refine sw_reg ?_
  refine rA ?_ (x := sM)
  refine rA ?_ (x := sA)
  refine sw_ret ?_
  exact (And.intro (by refine int_eq ?_; first | rfl | rw [hend, List.take_length]) True.intro)
theorem held_RowSS {p1 p2 : Fl} {x : List (List Row)} {k : Int}  (h0k : 0 ≤ k) (hbk : (mkL mkE_RowS x k).2 ≤ 4611686018427387904): SCall Tryz.prog 46 [(false, [PV.sl .v ((mkL mkE_RowS x k).1.map (cRowS p1 p2))]), (false, [PV.val (vI k)])] (resRV [(false, [PV.val (vI (mkL mkE_RowS x k).2)])]) := by
 refine scall_of (rs := [(false, [PV.val (vI (mkL mkE_RowS x k).2)])]) Tryz.func46 rfl (Nat.le_of_ble_eq_true rfl) (borA_cons (BorL.cons (PV.bor_sl _) BorL.nil) (borA_cons (BorL.cons (PV.bor_val _) BorL.nil) borA_nil)) ?_
 intro h0 w0 Fz0
 refine sw_len (s := 0) rfl fun hl0 => ?_
 try rw [List.length_map] at hl0
 have hlm : (mkL mkE_RowS x k).1.length = x.length := mkL_len _ _
 have hmono := mkL_take_le mkE_RowS_le x
 have hmono0 := fun i => mkL_le mkE_RowS_le (x.take i) k
 refine sw_seq ?_
 refine sw_reg ?_
 refine rA ?_ (x := kA)
 refine sw_seq ?_
 refine sw_seq ?_
 refine sO [(0, _), (1, _), (4, _)] [] ?_
 refine sw_reg ?_
 refine rA ?_ (x := kA)
 refine sw_block ?_
 refine sO [(0, _), (1, _), (4, _), (5, _)] [] ?_
 refine sw_loop (l0 := [(0, RV.sv false [PV.sl _ _])]) (b0 := []) (fun i : Nat => i ≤ x.length) (fun i : Nat => [(1, RV.int (mkL mkE_RowS (x.take i) k).2), (5, RV.int (i : Int))]) (fun i : Nat => []) (fun i : Nat => x.length - i) 0 (by omega) (by exact ⟨rfl, ⟨⟩⟩) (by exact ⟨⟩) (by exact And.intro (by exact rfl) (And.intro (by exact rfl) (True.intro))) (by exact ⟨⟩) ?_
 rintro i hi
 refine sw_seq ?_
 refine sw_seq ?_
 refine sw_reg ?_
 refine rA ?_ (x := sM)
 refine rA ?_ (x := vM false [PV.sl .v _])
 refine rA ?_ (x := lN sl_34)
 refine rA ?_ (x := B_lss)
 refine sw_cond (t := 9) rfl (fun hb1 => ?_) (fun hb1 => ?_)
 ·try simp only [q1, q2, q3, q4, q5, q6, q7, q8, q9] at hb1
  have hlt : i < x.length := by omega
  have hk0 := hmono0 i
  have hk1 := hmono (i + 1) k
  rw [mkL_succ hlt] at hk1
  dsimp only at hk1
  have hm0 := mkL_le mkE_Row_le x[i] (mkL mkE_RowS (x.take i) k).2
  simp only [mkE_RowS] at hk1
  refine sw_skip ?_
  refine sw_seq ?_
  refine sw_block ?_
  refine sw_seq ?_
  refine sO [(0, _), (1, _), (5, _)] [] ?_
  refine sw_reg ?_
  refine rA ?_ (x := vM false [PV.sl .v _])
  refine rA ?_ (x := sM)
  refine rA ?_ (x := loc_index (by decide) sl_34 (by exact ⟨⟩) (by exact rfl) (by exact mkL_getc hlt rfl) (by exact rfl))
  refine rA ?_ (x := lE [PV.sl .v _] ty_51)
  refine rA ?_ (x := sM)
  refine rA ?_ (x := cL [(false, [PV.sl _ _]), (false, [PV.val _])] [(false, [PV.sl .v _]), (false, [PV.val _])] c_82 (hs := by exact held_RowS (by omega) (by omega)))
  refine rA ?_ (x := sA)
  refine sw_seq ?_
  refine sO [(0, _), (1, _), (5, _)] [] ?_
  refine sw_reg ?_
  refine rA ?_ (x := sM)
  refine rA ?_ (x := B_lss)
  refine sw_cond (t := 19) rfl (fun hb2 => ?_) (fun hb2 => ?_)
  ·try simp only [q1, q2, q3, q4, q5, q6, q7, q8, q9] at hb2
   first | exact absurd rfl hb2 | omega
  ·try simp only [q1, q2, q3, q4, q5, q6, q7, q8, q9] at hb2
   refine sw_skip ?_
   refine sO [(0, _), (1, _), (5, _)] [] ?_
   refine sw_reg ?_
   refine rA ?_ (x := sM)
   refine rA ?_ (x := B_add)
   refine rA ?_ (x := sA)
   refine Exists.intro (i + 1) (And.intro (by omega) (And.intro (by omega) (And.intro (And.intro (by exact ⟨rfl, ⟨⟩⟩) (by exact ⟨⟩)) (And.intro (by exact And.intro (by exact int_eq (by rw [mkL_succ hlt]; rfl)) (And.intro (by exact rfl) (True.intro))) (by exact ⟨⟩)))))
 ·try simp only [q1, q2, q3, q4, q5, q6, q7, q8, q9] at hb1
  have hend : i = x.length := by omega
  refine sw_exit ?_
  refine sw_seq ?_
  refine sO [(0, _), (1, _), (5, _)] [] ?_
  refine sw_reg ?_
  refine rA ?_ (x := sM)
  refine rA ?_ (x := sA)
  refine sw_ret ?_
  exact (And.intro (by refine int_eq ?_; first | rfl | rw [hend, List.take_length]) True.intro)
theorem held_Cluster {p3 p4 p9 p10 p13 p14 : Fl} {x : Cluster} {k : Int}  (h0k : 0 ≤ k) (hbk : (mkV_Cluster x k).2 ≤ 4611686018427387904): SCall Tryz.prog 11 [(true, [PV.val (vI (mkV_Cluster x k).1.Query.Id), PV.val (vI (mkV_Cluster x k).1.Query.Tenant), PV.sl .v ((mkV_Cluster x k).1.Query.Conds.map cCond), PV.sl .v ((mkV_Cluster x k).1.Query.Out.map cInt), PV.sl .v ((mkV_Cluster x k).1.Parts.map (cRowS p3 p4)), PV.sl .v ((mkV_Cluster x k).1.Up.map cBool), PV.sl .v ((mkV_Cluster x k).1.At.map cInt), PV.sl .v ((mkV_Cluster x k).1.Pos.map cInt), PV.sl .v ((mkV_Cluster x k).1.Buffer.map (cRowS p9 p10)), PV.sl .v ((mkV_Cluster x k).1.Done.map cInt), PV.sl .v ((mkV_Cluster x k).1.Rows.map (cRowS p13 p14))]), (false, [PV.val (vI k)])] (resRV [(false, [PV.val (vI (mkV_Cluster x k).2)])]) := by
 refine scall_of (rs := [(false, [PV.val (vI (mkV_Cluster x k).2)])]) Tryz.func11 rfl (Nat.le_of_ble_eq_true rfl) (borA_cons (BorL.cons (PV.bor_val _) (BorL.cons (PV.bor_val _) (BorL.cons (PV.bor_sl _) (BorL.cons (PV.bor_sl _) (BorL.cons (PV.bor_sl _) (BorL.cons (PV.bor_sl _) (BorL.cons (PV.bor_sl _) (BorL.cons (PV.bor_sl _) (BorL.cons (PV.bor_sl _) (BorL.cons (PV.bor_sl _) (BorL.cons (PV.bor_sl _) BorL.nil))))))))))) (borA_cons (BorL.cons (PV.bor_val _) BorL.nil) borA_nil)) ?_
 intro h0 w0 Fz0
 refine sw_slen (s := 0) (j := 2) rfl rfl fun hl0_2 => ?_
 try rw [List.length_map] at hl0_2
 refine sw_slen (s := 0) (j := 3) rfl rfl fun hl0_3 => ?_
 try rw [List.length_map] at hl0_3
 refine sw_slen (s := 0) (j := 4) rfl rfl fun hl0_4 => ?_
 try rw [List.length_map] at hl0_4
 refine sw_slen (s := 0) (j := 5) rfl rfl fun hl0_5 => ?_
 try rw [List.length_map] at hl0_5
 refine sw_slen (s := 0) (j := 6) rfl rfl fun hl0_6 => ?_
 try rw [List.length_map] at hl0_6
 refine sw_slen (s := 0) (j := 7) rfl rfl fun hl0_7 => ?_
 try rw [List.length_map] at hl0_7
 refine sw_slen (s := 0) (j := 8) rfl rfl fun hl0_8 => ?_
 try rw [List.length_map] at hl0_8
 refine sw_slen (s := 0) (j := 9) rfl rfl fun hl0_9 => ?_
 try rw [List.length_map] at hl0_9
 refine sw_slen (s := 0) (j := 10) rfl rfl fun hl0_10 => ?_
 try rw [List.length_map] at hl0_10
 simp only [mkV_Cluster] at hbk
 have hm0 := mkL_le mkE_Cond_le x.Query.Conds k
 have hm1 := mkL_le mkE_Int_le x.Query.Out (mkL mkE_Cond x.Query.Conds k).2
 have hm2 := mkL_le mkE_RowS_le x.Parts (mkL mkE_Int x.Query.Out (mkL mkE_Cond x.Query.Conds k).2).2
 have hm3 := mkL_le mkE_Bool_le x.Up (mkL mkE_RowS x.Parts (mkL mkE_Int x.Query.Out (mkL mkE_Cond x.Query.Conds k).2).2).2
 have hm4 := mkL_le mkE_Int_le x.At (mkL mkE_Bool x.Up (mkL mkE_RowS x.Parts (mkL mkE_Int x.Query.Out (mkL mkE_Cond x.Query.Conds k).2).2).2).2
 have hm5 := mkL_le mkE_Int_le x.Pos (mkL mkE_Int x.At (mkL mkE_Bool x.Up (mkL mkE_RowS x.Parts (mkL mkE_Int x.Query.Out (mkL mkE_Cond x.Query.Conds k).2).2).2).2).2
 have hm6 := mkL_le mkE_RowS_le x.Buffer (mkL mkE_Int x.Pos (mkL mkE_Int x.At (mkL mkE_Bool x.Up (mkL mkE_RowS x.Parts (mkL mkE_Int x.Query.Out (mkL mkE_Cond x.Query.Conds k).2).2).2).2).2).2
 have hm7 := mkL_le mkE_Int_le x.Done (mkL mkE_RowS x.Buffer (mkL mkE_Int x.Pos (mkL mkE_Int x.At (mkL mkE_Bool x.Up (mkL mkE_RowS x.Parts (mkL mkE_Int x.Query.Out (mkL mkE_Cond x.Query.Conds k).2).2).2).2).2).2).2
 have hm8 := mkL_le mkE_RowS_le x.Rows (mkL mkE_Int x.Done (mkL mkE_RowS x.Buffer (mkL mkE_Int x.Pos (mkL mkE_Int x.At (mkL mkE_Bool x.Up (mkL mkE_RowS x.Parts (mkL mkE_Int x.Query.Out (mkL mkE_Cond x.Query.Conds k).2).2).2).2).2).2).2).2
 have hv0 : (mkV_Query x.Query k).2 = (mkL mkE_Int x.Query.Out (mkL mkE_Cond x.Query.Conds k).2).2 := rfl
 refine sw_seq ?_
 refine sw_reg ?_
 refine RunS.step (by exact ⟨rfl, ⟨⟩⟩) (by exact ⟨⟩) (LocG.of rfl (loc_box (ag := true) (cs := [PV.val _, PV.val _, PV.sl _ _, PV.sl _ _, PV.sl _ _, PV.sl _ _, PV.sl _ _, PV.sl _ _, PV.sl _ _, PV.sl _ _, PV.sl _ _]) (by decide) (by exact ⟨⟩))) (free1 (Free.of_ rfl)) ?_
 refine rA ?_ (x := kA)
 refine sw_seq ?_
 refine sO [(1, _), (2, _), (4, _)] [(2, (36, [PV.val _, PV.val _, PV.sl _ _, PV.sl _ _, PV.sl _ _, PV.sl _ _, PV.sl _ _, PV.sl _ _, PV.sl _ _, PV.sl _ _, PV.sl _ _]))] ?_
 refine sw_reg ?_
 refine rA ?_ (x := lF fd_36_0)
 refine rA ?_ (x := lD [PV.val _, PV.val _, PV.sl .v _, PV.sl .v _] ty_33)
 refine rA ?_ (x := sM)
 refine rA ?_ (x := cL [(true, [PV.val _, PV.val _, PV.sl _ _, PV.sl _ _]), (false, [PV.val _])] [(true, [PV.val _, PV.val _, PV.sl .v _, PV.sl .v _]), (false, [PV.val _])] c_45 (hs := by exact held_Query (by omega) (by first | omega | (simp only [mkV_Query]; omega))))
 refine rA ?_ (x := sA)
 refine sw_seq ?_
 refine sw_seq ?_
 refine sO [(1, _), (2, _), (4, _)] [(2, _)] ?_
 refine sw_reg ?_
 refine rA ?_ (x := sM)
 refine rA ?_ (x := B_lss)
 refine sw_cond (t := 10) rfl (fun hb1 => ?_) (fun hb1 => ?_)
 ·try simp only [q1, q2, q3, q4, q5, q6, q7, q8, q9] at hb1
  omega
 ·try simp only [q1, q2, q3, q4, q5, q6, q7, q8, q9] at hb1
  refine sw_skip ?_
  refine sw_seq ?_
  refine sO [(1, _), (2, _), (4, _)] [(2, _)] ?_
  refine sw_reg ?_
  refine rA ?_ (x := lF fd_36_1)
  refine rA ?_ (x := lD [PV.sl .v _] ty_34)
  refine rA ?_ (x := sM)
  refine rA ?_ (x := cL [(false, [PV.sl _ _]), (false, [PV.val _])] [(false, [PV.sl .v _]), (false, [PV.val _])] c_46 (hs := by exact held_RowSS (by omega) (by omega)))
  refine rA ?_ (x := sA)
  refine sw_seq ?_
  refine sw_seq ?_
  refine sO [(1, _), (2, _), (4, _)] [(2, _)] ?_
  refine sw_reg ?_
  refine rA ?_ (x := sM)
  refine rA ?_ (x := B_lss)
  refine sw_cond (t := 16) rfl (fun hb2 => ?_) (fun hb2 => ?_)
  ·try simp only [q1, q2, q3, q4, q5, q6, q7, q8, q9] at hb2
   omega
  ·try simp only [q1, q2, q3, q4, q5, q6, q7, q8, q9] at hb2
   refine sw_skip ?_
   refine sw_seq ?_
   refine sO [(1, _), (2, _), (4, _)] [(2, _)] ?_
   refine sw_reg ?_
   refine rA ?_ (x := lF fd_36_2)
   refine rA ?_ (x := lD [PV.sl .v _] ty_27)
   refine rA ?_ (x := sM)
   refine rA ?_ (x := cL [(false, [PV.sl _ _]), (false, [PV.val _])] [(false, [PV.sl .v _]), (false, [PV.val _])] c_47 (hs := by exact held_BoolS (by omega) (by omega)))
   refine rA ?_ (x := sA)
   refine sw_seq ?_
   refine sw_seq ?_
   refine sO [(1, _), (2, _), (4, _)] [(2, _)] ?_
   refine sw_reg ?_
   refine rA ?_ (x := sM)
   refine rA ?_ (x := B_lss)
   refine sw_cond (t := 22) rfl (fun hb3 => ?_) (fun hb3 => ?_)
   ·try simp only [q1, q2, q3, q4, q5, q6, q7, q8, q9] at hb3
    omega
   ·try simp only [q1, q2, q3, q4, q5, q6, q7, q8, q9] at hb3
    refine sw_skip ?_
    refine sw_seq ?_
    refine sO [(1, _), (2, _), (4, _)] [(2, _)] ?_
    refine sw_reg ?_
    refine rA ?_ (x := lF fd_36_3)
    refine rA ?_ (x := lD [PV.sl .v _] ty_23)
    refine rA ?_ (x := sM)
    refine rA ?_ (x := cL [(false, [PV.sl _ _]), (false, [PV.val _])] [(false, [PV.sl .v _]), (false, [PV.val _])] c_48 (hs := by exact held_IntS (by omega) (by omega)))
    refine rA ?_ (x := sA)
    refine sw_seq ?_
    refine sw_seq ?_
    refine sO [(1, _), (2, _), (4, _)] [(2, _)] ?_
    refine sw_reg ?_
    refine rA ?_ (x := sM)
    refine rA ?_ (x := B_lss)
    refine sw_cond (t := 28) rfl (fun hb4 => ?_) (fun hb4 => ?_)
    ·try simp only [q1, q2, q3, q4, q5, q6, q7, q8, q9] at hb4
     omega
    ·try simp only [q1, q2, q3, q4, q5, q6, q7, q8, q9] at hb4
     refine sw_skip ?_
     refine sw_seq ?_
     refine sO [(1, _), (2, _), (4, _)] [(2, _)] ?_
     refine sw_reg ?_
     refine rA ?_ (x := lF fd_36_4)
     refine rA ?_ (x := lD [PV.sl .v _] ty_23)
     refine rA ?_ (x := sM)
     refine rA ?_ (x := cL [(false, [PV.sl _ _]), (false, [PV.val _])] [(false, [PV.sl .v _]), (false, [PV.val _])] c_48 (hs := by exact held_IntS (by omega) (by omega)))
     refine rA ?_ (x := sA)
     refine sw_seq ?_
     refine sw_seq ?_
     refine sO [(1, _), (2, _), (4, _)] [(2, _)] ?_
     refine sw_reg ?_
     refine rA ?_ (x := sM)
     refine rA ?_ (x := B_lss)
     refine sw_cond (t := 34) rfl (fun hb5 => ?_) (fun hb5 => ?_)
     ·try simp only [q1, q2, q3, q4, q5, q6, q7, q8, q9] at hb5
      omega
     ·try simp only [q1, q2, q3, q4, q5, q6, q7, q8, q9] at hb5
      refine sw_skip ?_
      refine sw_seq ?_
      refine sO [(1, _), (2, _), (4, _)] [(2, _)] ?_
      refine sw_reg ?_
      refine rA ?_ (x := lF fd_36_5)
      refine rA ?_ (x := lD [PV.sl .v _] ty_34)
      refine rA ?_ (x := sM)
      refine rA ?_ (x := cL [(false, [PV.sl _ _]), (false, [PV.val _])] [(false, [PV.sl .v _]), (false, [PV.val _])] c_46 (hs := by exact held_RowSS (by omega) (by omega)))
      refine rA ?_ (x := sA)
      refine sw_seq ?_
      refine sw_seq ?_
      refine sO [(1, _), (2, _), (4, _)] [(2, _)] ?_
      refine sw_reg ?_
      refine rA ?_ (x := sM)
      refine rA ?_ (x := B_lss)
      refine sw_cond (t := 40) rfl (fun hb6 => ?_) (fun hb6 => ?_)
      ·try simp only [q1, q2, q3, q4, q5, q6, q7, q8, q9] at hb6
       omega
      ·try simp only [q1, q2, q3, q4, q5, q6, q7, q8, q9] at hb6
       refine sw_skip ?_
       refine sw_seq ?_
       refine sO [(1, _), (2, _), (4, _)] [(2, _)] ?_
       refine sw_reg ?_
       refine rA ?_ (x := lF fd_36_6)
       refine rA ?_ (x := lD [PV.sl .v _] ty_23)
       refine rA ?_ (x := sM)
       refine rA ?_ (x := cL [(false, [PV.sl _ _]), (false, [PV.val _])] [(false, [PV.sl .v _]), (false, [PV.val _])] c_48 (hs := by exact held_IntS (by omega) (by omega)))
       refine rA ?_ (x := sA)
       refine sw_seq ?_
       refine sw_seq ?_
       refine sO [(1, _), (2, _), (4, _)] [(2, _)] ?_
       refine sw_reg ?_
       refine rA ?_ (x := sM)
       refine rA ?_ (x := B_lss)
       refine sw_cond (t := 46) rfl (fun hb7 => ?_) (fun hb7 => ?_)
       ·try simp only [q1, q2, q3, q4, q5, q6, q7, q8, q9] at hb7
        omega
       ·try simp only [q1, q2, q3, q4, q5, q6, q7, q8, q9] at hb7
        refine sw_skip ?_
        refine sw_seq ?_
        refine sO [(1, _), (2, _), (4, _)] [(2, _)] ?_
        refine sw_reg ?_
        refine rA ?_ (x := lF fd_36_7)
        refine rA ?_ (x := lD [PV.sl .v _] ty_34)
        refine rA ?_ (x := sM)
        refine rA ?_ (x := cL [(false, [PV.sl _ _]), (false, [PV.val _])] [(false, [PV.sl .v _]), (false, [PV.val _])] c_46 (hs := by exact held_RowSS (by omega) (by omega)))
        refine rA ?_ (x := sA)
        refine sw_seq ?_
        refine sw_seq ?_
        refine sO [(1, _), (2, _), (4, _)] [(2, _)] ?_
        refine sw_reg ?_
        refine rA ?_ (x := sM)
        refine rA ?_ (x := B_lss)
        refine sw_cond (t := 52) rfl (fun hb8 => ?_) (fun hb8 => ?_)
        ·try simp only [q1, q2, q3, q4, q5, q6, q7, q8, q9] at hb8
         omega
        ·try simp only [q1, q2, q3, q4, q5, q6, q7, q8, q9] at hb8
         refine sw_skip ?_
         refine sw_seq ?_
         refine sO [(1, _), (2, _), (4, _)] [(2, _)] ?_
         refine sw_reg ?_
         refine rA ?_ (x := sM)
         refine rA ?_ (x := sA)
         refine sw_ret ?_
         exact (And.intro (by exact rfl) True.intro)
end Go.Proofs.YtloipjaiceifbaaGreat
