/- What functions of the program compute. No condition. -/
import Derived.Test.YteflgldonmgejaaGreatDoorCDb
import Derived.KernelRfl
set_option linter.unusedVariables false
set_option linter.unusedSimpArgs false
namespace Go.Proofs.YteflgldonmgejaaGreatDoor
open Go Go.RowKit M
set_option maxRecDepth 10000
attribute [local irreducible] PV.Lcl PV.LclR RV.Lcl
theorem mark_IntS {x : List Int} {k : Int} (h0k : 0 ≤ k) (hbk : (mkL mkE_Int x k).2 ≤ 4611686018427387904) : UCall Tryz.prog 50 false [PV.sl (.own 3 1) (x.map cInt)] [PV.sl (.own 3 1) ((mkL mkE_Int x k).1.map cInt)] [(false, [PV.val (vI k)])] (vI (mkL mkE_Int x k).2) := by
 refine ucall_of Tryz.func50 rfl (Nat.le_of_ble_eq_true rfl) (borA_cons (BorL.cons (PV.bor_val _) BorL.nil) borA_nil) ?_
 intro us h0 w0 Fz0 hus
 obtain ⟨u0, rfl⟩ := len1 hus
 by_cases hx : x = []
 ·subst hx
  refine sw_seq ?_
  refine sO [(0, _), (1, _)] [] ?_
  refine sw_reg ?_
  refine rA ?_ (x := kA)
  refine sw_seq ?_
  refine sw_seq ?_
  refine sO [(0, _), (1, _), (4, _)] [] ?_
  refine sw_reg ?_
  refine rA ?_ (x := kA)
  refine sw_block ?_
  refine sO [(0, _), (1, _), (4, _), (5, _)] [] ?_
  refine sw_loop (l0 := [(0, RV.sv false [PV.nv _ (PV.sl _ _)]), (4, RV.sv false [PV.val _])]) (b0 := []) (fun _ : Unit => True) (fun _ : Unit => [(1, RV.int k), (5, RV.int 0)]) (fun _ : Unit => []) (fun _ : Unit => 0) () True.intro (by exact ⟨rfl, rfl, ⟨⟩⟩) (by exact ⟨⟩) (by exact And.intro (by exact rfl) (And.intro (by exact rfl) (True.intro))) (by exact ⟨⟩) ?_
  rintro _ _
  refine sw_seq ?_
  refine sw_seq ?_
  refine sw_reg ?_
  refine rA ?_ (x := sM)
  refine rA ?_ (x := loc_copy (r' := RV.sv false [PV.sl .v _]) (.inl rfl) (by decide) (by exact Cp.sv (ToL.cons (PV.nv_to PV.to_none) ToL.nil) (BorL.cons (PV.bor_sl _) BorL.nil)))
  refine rA ?_ (x := lN sl_25)
  refine rA ?_ (x := B_lss)
  refine sw_cond (t := 9) rfl (fun hb1 => ?_) (fun hb1 => ?_)
  ·try simp only [q1, q2, q3, q4, q5, q6, q7, q8, q9] at hb1
   simp at hb1
  ·try simp only [q1, q2, q3, q4, q5, q6, q7, q8, q9] at hb1
   refine sw_exit ?_
   refine sw_seq ?_
   refine sO [(0, _), (1, _), (4, _), (5, _)] [] ?_
   refine sw_reg ?_
   refine rA ?_ (x := sM)
   refine rA ?_ (x := sA)
   refine sw_ret ?_
   exact And.intro (by exact rfl) (Exists.intro _ (And.intro (.inl (by exact rfl)) (And.intro (by exact (Nm.nv Nm.nil)) (by exact (OwnTo.nv OwnTo.nil)))))
 ·refine sw_thaw (s := 0) (D := 999) (E := 3) (e := 1) (u := u0) (es := x.map cInt) (L := L0w) (by exact rfl) (by simpa using hx) (by exact rfl) (by exact rfl) (fun x hx => hx.elim) (by exact And.intro (.inl rfl) (And.intro (.inr (RV.lcl_sv (LclC.cons PV.lcl_val LclC.nil))) True.intro)) True.intro (LclC.map fun x => (LclC.cons PV.lcl_val LclC.nil)) fun cp jk hl0 hcp hjk => ?_
  have hlm : (x.map cInt).length = x.length := List.length_map _
  rw [hlm] at hl0 hcp
  have hmono := mkL_take_le mkE_Int_le x
  have hmono0 := fun i => mkL_le mkE_Int_le (x.take i) k
  refine sw_seq ?_
  refine sO [(0, _), (1, _)] [(999, (3, _))] ?_
  refine sw_reg ?_
  refine rA ?_ (x := kA)
  refine sw_seq ?_
  refine sw_seq ?_
  refine sO [(0, _), (1, _), (4, _)] [(999, _)] ?_
  refine sw_reg ?_
  refine rA ?_ (x := kA)
  refine sw_block ?_
  refine sO [(0, _), (1, _), (4, _), (5, _)] [(999, _)] ?_
  refine sw_loop (l0 := [(0, RV.nm _ (RV.hdr 999 _ _)), (4, RV.sv false [PV.val _])]) (b0 := []) (fun i : Nat => i ≤ x.length) (fun i : Nat => [(1, RV.int (mkL mkE_Int (x.take i) k).2), (5, RV.int (i : Int))]) (fun i : Nat => [(999, (3, (((mkL mkE_Int (x.take i) k).1 ++ x.drop i).map cInt).flatten ++ jk.map PV.val))]) (fun i : Nat => x.length - i) 0 (by omega) (by exact ⟨rfl, rfl, ⟨⟩⟩) (by exact ⟨⟩) (by exact And.intro (by exact rfl) (And.intro (by exact rfl) (True.intro))) (by exact And.intro (by exact congrArg (fun z => some (3, z)) mark_zero) (True.intro)) ?_
  rintro i hi
  refine sw_seq ?_
  refine sw_seq ?_
  refine sw_reg ?_
  refine rA ?_ (x := sM)
  refine rA ?_ (x := loc_copy (.inl rfl) (by decide) (by exact Cp.nm Cp.hdr))
  refine rA ?_ (x := loc_hlen (by decide) sl_25)
  refine rA ?_ (x := B_lss)
  refine sw_cond (t := 9) rfl (fun hb1 => ?_) (fun hb1 => ?_)
  ·try simp only [q1, q2, q3, q4, q5, q6, q7, q8, q9] at hb1
   have hlt : i < x.length := by omega
   have hk0 := hmono0 i
   have hk1 := hmono (i + 1) k
   rw [mkL_succ hlt] at hk1
   dsimp only at hk1
   simp only [mkE_Int] at hk1
   refine sw_boxEq (d := 999) (by exact rfl) (mark_split hlt) ?_
   have hA := mark_len (f := mkE_Int) (c := cInt) (e := 1) (k := k) (fun _ => rfl) (Nat.le_of_lt hlt)
   refine sw_skip ?_
   refine sw_seq ?_
   refine sw_block ?_
   refine sw_seq ?_
   refine sO [(0, _), (1, _), (4, _), (5, _)] [(999, (3, _ ++ ([PV.val _] ++ _)))] ?_
   refine sw_reg ?_
   refine rA ?_ (x := loc_copy (.inl rfl) (by decide) (by exact Cp.nm Cp.hdr))
   refine rA ?_ (x := sM)
   refine rA ?_ (x := sM)
   refine rA ?_ (x := loc_hindex (by decide) sl_25 (by exact ⟨⟩) (by exact rfl) (by omega))
   refine rA ?_ (x := loc_storeM (o := 0) (ag := false) (vs := [PV.val _]) (by omega) ty_3 (by exact ⟨⟩) (by exact rfl) (by exact Nat.le_of_ble_eq_true rfl))
   refine sO [(0, _), (1, _), (4, _), (5, _)] [(999, (3, _ ++ ([PV.val _] ++ _)))] ?_
   refine sw_reg ?_
   refine rA ?_ (x := sM)
   refine rA ?_ (x := B_add)
   refine rA ?_ (x := sA)
   refine sO [(0, _), (1, _), (4, _), (5, _)] [(999, _)] ?_
   refine sw_reg ?_
   refine rA ?_ (x := sM)
   refine rA ?_ (x := B_add)
   refine rA ?_ (x := sA)
   refine Exists.intro (i + 1) (And.intro (by omega) (And.intro (by omega) (And.intro (And.intro (by exact ⟨rfl, rfl, ⟨⟩⟩) (by exact ⟨⟩)) (And.intro (by exact And.intro (by exact int_eq (by rw [mkL_succ hlt]; rfl)) (And.intro (by exact rfl) (True.intro))) (by exact And.intro (by exact congrArg (fun z => some (3, z)) (mark_join hlt rfl)) (True.intro))))))
  ·try simp only [q1, q2, q3, q4, q5, q6, q7, q8, q9] at hb1
   have hend : i = x.length := by omega
   refine sw_boxEq (d := 999) (by exact rfl) (mark_all hend) ?_
   refine sw_freeze (s := 0) (D := 999) (e := 1) (by exact rfl) (by exact rfl) (by rw [List.length_map, mkL_len, List.length_map]) (by intro c hc; obtain ⟨y, _, rfl⟩ := List.mem_map.1 hc; exact rfl) hjk ?_
   refine sw_exit ?_
   refine sw_seq ?_
   refine sO [(0, _), (1, _), (4, _), (5, _)] [] ?_
   refine sw_reg ?_
   refine rA ?_ (x := sM)
   refine rA ?_ (x := sA)
   refine sw_ret ?_
   exact And.intro (by exact int_eq (by first | rfl | rw [hend, List.take_length])) (Exists.intro _ (And.intro (.inl (by exact rfl)) (And.intro (by exact (Nm.nv Nm.nil)) (by exact (OwnTo.nv OwnTo.nil)))))
theorem mark_CondS {x : List Cond} {k : Int} (h0k : 0 ≤ k) (hbk : (mkL mkE_Cond x k).2 ≤ 4611686018427387904) : UCall Tryz.prog 107 false [PV.sl (.own 165 3) (x.map cCond)] [PV.sl (.own 165 3) ((mkL mkE_Cond x k).1.map cCond)] [(false, [PV.val (vI k)])] (vI (mkL mkE_Cond x k).2) := by
 refine ucall_of Tryz.func107 rfl (Nat.le_of_ble_eq_true rfl) (borA_cons (BorL.cons (PV.bor_val _) BorL.nil) borA_nil) ?_
 intro us h0 w0 Fz0 hus
 obtain ⟨u0, rfl⟩ := len1 hus
 by_cases hx : x = []
 ·subst hx
  refine sw_seq ?_
  refine sO [(0, _), (1, _)] [] ?_
  refine sw_reg ?_
  refine rA ?_ (x := kA)
  refine sw_seq ?_
  refine sw_seq ?_
  refine sO [(0, _), (1, _), (4, _)] [] ?_
  refine sw_reg ?_
  refine rA ?_ (x := kA)
  refine sw_block ?_
  refine sO [(0, _), (1, _), (4, _), (5, _)] [] ?_
  refine sw_loop (l0 := [(0, RV.sv false [PV.nv _ (PV.sl _ _)]), (4, RV.sv false [PV.val _])]) (b0 := []) (fun _ : Unit => True) (fun _ : Unit => [(1, RV.int k), (5, RV.int 0)]) (fun _ : Unit => []) (fun _ : Unit => 0) () True.intro (by exact ⟨rfl, rfl, ⟨⟩⟩) (by exact ⟨⟩) (by exact And.intro (by exact rfl) (And.intro (by exact rfl) (True.intro))) (by exact ⟨⟩) ?_
  rintro _ _
  refine sw_seq ?_
  refine sw_seq ?_
  refine sw_reg ?_
  refine rA ?_ (x := sM)
  refine rA ?_ (x := loc_copy (r' := RV.sv false [PV.sl .v _]) (.inl rfl) (by decide) (by exact Cp.sv (ToL.cons (PV.nv_to PV.to_none) ToL.nil) (BorL.cons (PV.bor_sl _) BorL.nil)))
  refine rA ?_ (x := lN sl_49)
  refine rA ?_ (x := B_lss)
  refine sw_cond (t := 9) rfl (fun hb1 => ?_) (fun hb1 => ?_)
  ·try simp only [q1, q2, q3, q4, q5, q6, q7, q8, q9] at hb1
   simp at hb1
  ·try simp only [q1, q2, q3, q4, q5, q6, q7, q8, q9] at hb1
   refine sw_exit ?_
   refine sw_seq ?_
   refine sO [(0, _), (1, _), (4, _), (5, _)] [] ?_
   refine sw_reg ?_
   refine rA ?_ (x := sM)
   refine rA ?_ (x := sA)
   refine sw_ret ?_
   exact And.intro (by exact rfl) (Exists.intro _ (And.intro (.inl (by exact rfl)) (And.intro (by exact (Nm.nv Nm.nil)) (by exact (OwnTo.nv OwnTo.nil)))))
 ·refine sw_thaw (s := 0) (D := 999) (E := 165) (e := 3) (u := u0) (es := x.map cCond) (L := L0w) (by exact rfl) (by simpa using hx) (by exact rfl) (by exact rfl) (fun x hx => hx.elim) (by exact And.intro (.inl rfl) (And.intro (.inr (RV.lcl_sv (LclC.cons PV.lcl_val LclC.nil))) True.intro)) True.intro (LclC.map fun x => (LclC.cons PV.lcl_val (LclC.cons PV.lcl_val (LclC.cons PV.lcl_val LclC.nil)))) fun cp jk hl0 hcp hjk => ?_
  have hlm : (x.map cCond).length = x.length := List.length_map _
  rw [hlm] at hl0 hcp
  have hmono := mkL_take_le mkE_Cond_le x
  have hmono0 := fun i => mkL_le mkE_Cond_le (x.take i) k
  refine sw_seq ?_
  refine sO [(0, _), (1, _)] [(999, (165, _))] ?_
  refine sw_reg ?_
  refine rA ?_ (x := kA)
  refine sw_seq ?_
  refine sw_seq ?_
  refine sO [(0, _), (1, _), (4, _)] [(999, _)] ?_
  refine sw_reg ?_
  refine rA ?_ (x := kA)
  refine sw_block ?_
  refine sO [(0, _), (1, _), (4, _), (5, _)] [(999, _)] ?_
  refine sw_loop (l0 := [(0, RV.nm _ (RV.hdr 999 _ _)), (4, RV.sv false [PV.val _])]) (b0 := []) (fun i : Nat => i ≤ x.length) (fun i : Nat => [(1, RV.int (mkL mkE_Cond (x.take i) k).2), (5, RV.int (i : Int))]) (fun i : Nat => [(999, (165, (((mkL mkE_Cond (x.take i) k).1 ++ x.drop i).map cCond).flatten ++ jk.map PV.val))]) (fun i : Nat => x.length - i) 0 (by omega) (by exact ⟨rfl, rfl, ⟨⟩⟩) (by exact ⟨⟩) (by exact And.intro (by exact rfl) (And.intro (by exact rfl) (True.intro))) (by exact And.intro (by exact congrArg (fun z => some (165, z)) mark_zero) (True.intro)) ?_
  rintro i hi
  refine sw_seq ?_
  refine sw_seq ?_
  refine sw_reg ?_
  refine rA ?_ (x := sM)
  refine rA ?_ (x := loc_copy (.inl rfl) (by decide) (by exact Cp.nm Cp.hdr))
  refine rA ?_ (x := loc_hlen (by decide) sl_49)
  refine rA ?_ (x := B_lss)
  refine sw_cond (t := 9) rfl (fun hb1 => ?_) (fun hb1 => ?_)
  ·try simp only [q1, q2, q3, q4, q5, q6, q7, q8, q9] at hb1
   have hlt : i < x.length := by omega
   have hk0 := hmono0 i
   have hk1 := hmono (i + 1) k
   rw [mkL_succ hlt] at hk1
   dsimp only at hk1
   simp only [mkE_Cond] at hk1
   refine sw_boxEq (d := 999) (by exact rfl) (mark_split hlt) ?_
   have hA := mark_len (f := mkE_Cond) (c := cCond) (e := 3) (k := k) (fun _ => rfl) (Nat.le_of_lt hlt)
   refine sw_skip ?_
   refine sw_seq ?_
   refine sw_block ?_
   refine sw_seq ?_
   refine sO [(0, _), (1, _), (4, _), (5, _)] [(999, (165, _ ++ ([PV.val _, PV.val _, PV.val _] ++ _)))] ?_
   refine sw_reg ?_
   refine rA ?_ (x := loc_copy (.inl rfl) (by decide) (by exact Cp.nm Cp.hdr))
   refine rA ?_ (x := sM)
   refine rA ?_ (x := sM)
   refine rA ?_ (x := loc_hindex (by decide) sl_49 (by exact ⟨⟩) (by exact rfl) (by omega))
   refine rA ?_ (x := lF fd_165_0)
   refine rA ?_ (x := loc_storeM (o := 0) (ag := false) (vs := [PV.val _]) (by omega) ty_3 (by exact ⟨⟩) (by exact rfl) (by exact Nat.le_of_ble_eq_true rfl))
   refine sw_seq ?_
   refine sO [(0, _), (1, _), (4, _), (5, _)] [(999, (165, _ ++ ([PV.val _, PV.val _, PV.val _] ++ _)))] ?_
   refine sw_reg ?_
   refine rA ?_ (x := sM)
   refine rA ?_ (x := B_add)
   refine rA ?_ (x := sA)
   refine sw_seq ?_
   refine sO [(0, _), (1, _), (4, _), (5, _)] [(999, _)] ?_
   refine sw_reg ?_
   refine rA ?_ (x := loc_copy (.inl rfl) (by decide) (by exact Cp.nm Cp.hdr))
   refine rA ?_ (x := sM)
   refine rA ?_ (x := sM)
   refine rA ?_ (x := loc_hindex (by decide) sl_49 (by exact ⟨⟩) (by exact rfl) (by omega))
   refine rA ?_ (x := lF fd_165_1)
   refine rA ?_ (x := loc_storeM (o := 1) (ag := false) (vs := [PV.val _]) (by omega) ty_3 (by exact ⟨⟩) (by exact rfl) (by exact Nat.le_of_ble_eq_true rfl))
   refine sw_seq ?_
   refine sO [(0, _), (1, _), (4, _), (5, _)] [(999, (165, _ ++ ([PV.val _, PV.val _, PV.val _] ++ _)))] ?_
   refine sw_reg ?_
   refine rA ?_ (x := sM)
   refine rA ?_ (x := B_add)
   refine rA ?_ (x := sA)
   refine sw_seq ?_
   refine sO [(0, _), (1, _), (4, _), (5, _)] [(999, _)] ?_
   refine sw_reg ?_
   refine rA ?_ (x := loc_copy (.inl rfl) (by decide) (by exact Cp.nm Cp.hdr))
   refine rA ?_ (x := sM)
   refine rA ?_ (x := sM)
   refine rA ?_ (x := loc_hindex (by decide) sl_49 (by exact ⟨⟩) (by exact rfl) (by omega))
   refine rA ?_ (x := lF fd_165_2)
   refine rA ?_ (x := loc_storeM (o := 2) (ag := false) (vs := [PV.val _]) (by omega) ty_3 (by exact ⟨⟩) (by exact rfl) (by exact Nat.le_of_ble_eq_true rfl))
   refine sO [(0, _), (1, _), (4, _), (5, _)] [(999, (165, _ ++ ([PV.val _, PV.val _, PV.val _] ++ _)))] ?_
   refine sw_reg ?_
   refine rA ?_ (x := sM)
   refine rA ?_ (x := B_add)
   refine rA ?_ (x := sA)
   refine sO [(0, _), (1, _), (4, _), (5, _)] [(999, _)] ?_
   refine sw_reg ?_
   refine rA ?_ (x := sM)
   refine rA ?_ (x := B_add)
   refine rA ?_ (x := sA)
   refine Exists.intro (i + 1) (And.intro (by omega) (And.intro (by omega) (And.intro (And.intro (by exact ⟨rfl, rfl, ⟨⟩⟩) (by exact ⟨⟩)) (And.intro (by exact And.intro (by exact int_eq (by rw [mkL_succ hlt]; rfl)) (And.intro (by exact rfl) (True.intro))) (by exact And.intro (by exact congrArg (fun z => some (165, z)) (mark_join hlt rfl)) (True.intro))))))
  ·try simp only [q1, q2, q3, q4, q5, q6, q7, q8, q9] at hb1
   have hend : i = x.length := by omega
   refine sw_boxEq (d := 999) (by exact rfl) (mark_all hend) ?_
   refine sw_freeze (s := 0) (D := 999) (e := 3) (by exact rfl) (by exact rfl) (by rw [List.length_map, mkL_len, List.length_map]) (by intro c hc; obtain ⟨y, _, rfl⟩ := List.mem_map.1 hc; exact rfl) hjk ?_
   refine sw_exit ?_
   refine sw_seq ?_
   refine sO [(0, _), (1, _), (4, _), (5, _)] [] ?_
   refine sw_reg ?_
   refine rA ?_ (x := sM)
   refine rA ?_ (x := sA)
   refine sw_ret ?_
   exact And.intro (by exact int_eq (by first | rfl | rw [hend, List.take_length])) (Exists.intro _ (And.intro (.inl (by exact rfl)) (And.intro (by exact (Nm.nv Nm.nil)) (by exact (OwnTo.nv OwnTo.nil)))))
theorem mark_ChargeS {x : List Charge} {k : Int} (h0k : 0 ≤ k) (hbk : (mkL mkE_Charge x k).2 ≤ 4611686018427387904) : UCall Tryz.prog 53 false [PV.sl (.own 136 5) (x.map (cCharge (.own 3 1) (.own 3 1) (.own 3 1)))] [PV.sl (.own 136 5) ((mkL mkE_Charge x k).1.map (cCharge (.own 3 1) (.own 3 1) (.own 3 1)))] [(false, [PV.val (vI k)])] (vI (mkL mkE_Charge x k).2) := by
 refine ucall_of Tryz.func53 rfl (Nat.le_of_ble_eq_true rfl) (borA_cons (BorL.cons (PV.bor_val _) BorL.nil) borA_nil) ?_
 intro us h0 w0 Fz0 hus
 obtain ⟨u0, rfl⟩ := len1 hus
 by_cases hx : x = []
 ·subst hx
  refine sw_seq ?_
  refine sO [(0, _), (1, _)] [] ?_
  refine sw_reg ?_
  refine rA ?_ (x := kA)
  refine sw_seq ?_
  refine sw_seq ?_
  refine sO [(0, _), (1, _), (4, _)] [] ?_
  refine sw_reg ?_
  refine rA ?_ (x := kA)
  refine sw_block ?_
  refine sO [(0, _), (1, _), (4, _), (5, _)] [] ?_
  refine sw_loop (l0 := [(0, RV.sv false [PV.nv _ (PV.sl _ _)]), (4, RV.sv false [PV.val _])]) (b0 := []) (fun _ : Unit => True) (fun _ : Unit => [(1, RV.int k), (5, RV.int 0)]) (fun _ : Unit => []) (fun _ : Unit => 0) () True.intro (by exact ⟨rfl, rfl, ⟨⟩⟩) (by exact ⟨⟩) (by exact And.intro (by exact rfl) (And.intro (by exact rfl) (True.intro))) (by exact ⟨⟩) ?_
  rintro _ _
  refine sw_seq ?_
  refine sw_seq ?_
  refine sw_reg ?_
  refine rA ?_ (x := sM)
  refine rA ?_ (x := loc_copy (r' := RV.sv false [PV.sl .v _]) (.inl rfl) (by decide) (by exact Cp.sv (ToL.cons (PV.nv_to PV.to_none) ToL.nil) (BorL.cons (PV.bor_sl _) BorL.nil)))
  refine rA ?_ (x := lN sl_38)
  refine rA ?_ (x := B_lss)
  refine sw_cond (t := 9) rfl (fun hb1 => ?_) (fun hb1 => ?_)
  ·try simp only [q1, q2, q3, q4, q5, q6, q7, q8, q9] at hb1
   simp at hb1
  ·try simp only [q1, q2, q3, q4, q5, q6, q7, q8, q9] at hb1
   refine sw_exit ?_
   refine sw_seq ?_
   refine sO [(0, _), (1, _), (4, _), (5, _)] [] ?_
   refine sw_reg ?_
   refine rA ?_ (x := sM)
   refine rA ?_ (x := sA)
   refine sw_ret ?_
   exact And.intro (by exact rfl) (Exists.intro _ (And.intro (.inl (by exact rfl)) (And.intro (by exact (Nm.nv Nm.nil)) (by exact (OwnTo.nv OwnTo.nil)))))
 ·refine sw_thaw (s := 0) (D := 999) (E := 136) (e := 5) (u := u0) (es := x.map (cCharge (.own 3 1) (.own 3 1) (.own 3 1))) (L := L0w) (by exact rfl) (by simpa using hx) (by exact rfl) (by exact rfl) (fun x hx => hx.elim) (by exact And.intro (.inl rfl) (And.intro (.inr (RV.lcl_sv (LclC.cons PV.lcl_val LclC.nil))) True.intro)) True.intro (LclC.map fun x => (LclC.cons PV.lcl_val (LclC.cons PV.lcl_val (LclC.cons (PV.lcl_own (LclC.map fun x => (LclC.cons PV.lcl_val LclC.nil))) (LclC.cons (PV.lcl_own (LclC.map fun x => (LclC.cons PV.lcl_val LclC.nil))) (LclC.cons (PV.lcl_own (LclC.map fun x => (LclC.cons PV.lcl_val LclC.nil))) LclC.nil)))))) fun cp jk hl0 hcp hjk => ?_
  have hlm : (x.map (cCharge (.own 3 1) (.own 3 1) (.own 3 1))).length = x.length := List.length_map _
  rw [hlm] at hl0 hcp
  have hmono := mkL_take_le mkE_Charge_le x
  have hmono0 := fun i => mkL_le mkE_Charge_le (x.take i) k
  refine sw_seq ?_
  refine sO [(0, _), (1, _)] [(999, (136, _))] ?_
  refine sw_reg ?_
  refine rA ?_ (x := kA)
  refine sw_seq ?_
  refine sw_seq ?_
  refine sO [(0, _), (1, _), (4, _)] [(999, _)] ?_
  refine sw_reg ?_
  refine rA ?_ (x := kA)
  refine sw_block ?_
  refine sO [(0, _), (1, _), (4, _), (5, _)] [(999, _)] ?_
  refine sw_loop (l0 := [(0, RV.nm _ (RV.hdr 999 _ _)), (4, RV.sv false [PV.val _])]) (b0 := []) (fun i : Nat => i ≤ x.length) (fun i : Nat => [(1, RV.int (mkL mkE_Charge (x.take i) k).2), (5, RV.int (i : Int))]) (fun i : Nat => [(999, (136, (((mkL mkE_Charge (x.take i) k).1 ++ x.drop i).map (cCharge (.own 3 1) (.own 3 1) (.own 3 1))).flatten ++ jk.map PV.val))]) (fun i : Nat => x.length - i) 0 (by omega) (by exact ⟨rfl, rfl, ⟨⟩⟩) (by exact ⟨⟩) (by exact And.intro (by exact rfl) (And.intro (by exact rfl) (True.intro))) (by exact And.intro (by exact congrArg (fun z => some (136, z)) mark_zero) (True.intro)) ?_
  rintro i hi
  refine sw_seq ?_
  refine sw_seq ?_
  refine sw_reg ?_
  refine rA ?_ (x := sM)
  refine rA ?_ (x := loc_copy (.inl rfl) (by decide) (by exact Cp.nm Cp.hdr))
  refine rA ?_ (x := loc_hlen (by decide) sl_38)
  refine rA ?_ (x := B_lss)
  refine sw_cond (t := 9) rfl (fun hb1 => ?_) (fun hb1 => ?_)
  ·try simp only [q1, q2, q3, q4, q5, q6, q7, q8, q9] at hb1
   have hlt : i < x.length := by omega
   have hk0 := hmono0 i
   have hk1 := hmono (i + 1) k
   rw [mkL_succ hlt] at hk1
   dsimp only at hk1
   have hm0 := mkL_le mkE_Int_le x[i].Ids (((mkL mkE_Charge (x.take i) k).2 + 1) + 1)
   have hm1 := mkL_le mkE_Int_le x[i].Tenants (mkL mkE_Int x[i].Ids (((mkL mkE_Charge (x.take i) k).2 + 1) + 1)).2
   have hm2 := mkL_le mkE_Int_le x[i].Rows (mkL mkE_Int x[i].Tenants (mkL mkE_Int x[i].Ids (((mkL mkE_Charge (x.take i) k).2 + 1) + 1)).2).2
   simp only [mkE_Charge] at hk1
   refine sw_boxEq (d := 999) (by exact rfl) (mark_split hlt) ?_
   have hA := mark_len (f := mkE_Charge) (c := (cCharge (.own 3 1) (.own 3 1) (.own 3 1))) (e := 5) (k := k) (fun _ => rfl) (Nat.le_of_lt hlt)
   refine sw_nmB (d := 999) (ms := [PV.val _, PV.val _, PV.sl _ _, PV.sl _ _, PV.sl _ _]) (by exact rfl) fun us hus => ?_
   obtain ⟨v0, v1, v2, v3, v4, rfl⟩ := us_5 hus
   refine sw_skip ?_
   refine sw_seq ?_
   refine sw_block ?_
   refine sw_seq ?_
   refine sO [(0, _), (1, _), (4, _), (5, _)] [(999, (136, _ ++ ([PV.nv _ (PV.val _), PV.nv _ (PV.val _), PV.nv _ (PV.sl _ _), PV.nv _ (PV.sl _ _), PV.nv _ (PV.sl _ _)] ++ _)))] ?_
   refine sw_reg ?_
   refine rA ?_ (x := loc_copy (.inl rfl) (by decide) (by exact Cp.nm Cp.hdr))
   refine rA ?_ (x := sM)
   refine rA ?_ (x := sM)
   refine rA ?_ (x := loc_hindex (by decide) sl_38 (by exact ⟨⟩) (by exact rfl) (by omega))
   refine rA ?_ (x := lF fd_136_0)
   refine rA ?_ (x := loc_storeM (o := 0) (ag := false) (vs := [PV.val _]) (by omega) ty_3 (by exact ⟨⟩) (by exact rfl) (by exact Nat.le_of_ble_eq_true rfl))
   refine sw_seq ?_
   refine sO [(0, _), (1, _), (4, _), (5, _)] [(999, (136, _ ++ ([PV.val _, PV.nv _ (PV.val _), PV.nv _ (PV.sl _ _), PV.nv _ (PV.sl _ _), PV.nv _ (PV.sl _ _)] ++ _)))] ?_
   refine sw_reg ?_
   refine rA ?_ (x := sM)
   refine rA ?_ (x := B_add)
   refine rA ?_ (x := sA)
   refine sw_seq ?_
   refine sO [(0, _), (1, _), (4, _), (5, _)] [(999, _)] ?_
   refine sw_reg ?_
   refine rA ?_ (x := loc_copy (.inl rfl) (by decide) (by exact Cp.nm Cp.hdr))
   refine rA ?_ (x := sM)
   refine rA ?_ (x := sM)
   refine rA ?_ (x := loc_hindex (by decide) sl_38 (by exact ⟨⟩) (by exact rfl) (by omega))
   refine rA ?_ (x := lF fd_136_1)
   refine rA ?_ (x := loc_storeM (o := 1) (ag := false) (vs := [PV.val _]) (by omega) ty_3 (by exact ⟨⟩) (by exact rfl) (by exact Nat.le_of_ble_eq_true rfl))
   refine sw_seq ?_
   refine sO [(0, _), (1, _), (4, _), (5, _)] [(999, (136, _ ++ ([PV.val _, PV.val _, PV.nv _ (PV.sl _ _), PV.nv _ (PV.sl _ _), PV.nv _ (PV.sl _ _)] ++ _)))] ?_
   refine sw_reg ?_
   refine rA ?_ (x := sM)
   refine rA ?_ (x := B_add)
   refine rA ?_ (x := sA)
   refine sw_seq ?_
   refine sO [(0, _), (1, _), (4, _), (5, _)] [(999, _)] ?_
   refine sw_regL ?_
   refine swl_step (by exact ⟨rfl, ⟨⟩⟩) (by exact ⟨⟩) (LocG.of rfl (loc_copy (.inl rfl) (by decide) (by exact Cp.nm Cp.hdr))) nofree ?_
   refine swl_step (by exact ⟨rfl, ⟨⟩⟩) (by exact ⟨⟩) (LocG.of rfl (loc_copy (.inl rfl) (by decide) (by exact Cp.sc))) nofree ?_
   refine swl_step (by exact ⟨rfl, rfl, ⟨⟩⟩) (by exact ⟨⟩) (LocG.of rfl (loc_hindex (by decide) sl_38 (by exact ⟨⟩) (by exact rfl) (by omega))) nofree ?_
   refine swl_step (by exact ⟨rfl, ⟨⟩⟩) (by exact ⟨⟩) (LocG.of rfl (loc_field (by decide) fd_136_2)) nofree ?_
   refine swl_step (by exact ⟨rfl, ⟨⟩⟩) (by exact ⟨rfl, ⟨⟩⟩) (LocG.of rfl (loc_loadM (o := 2) (qs := [PV.val _]) (by omega) (by decide) ty_25 (fun _ => rfl) (by exact Nat.le_of_ble_eq_true rfl) (by exact (ToL.cons PV.nv_val ToL.nil)) (by exact (BorL.cons (PV.bor_val _) BorL.nil)))) nofree ?_
   refine swl_step (by exact ⟨rfl, ⟨⟩⟩) (by exact ⟨⟩) (LocG.of rfl (loc_copy (.inl rfl) (by decide) (by exact Cp.sc))) nofree ?_
   refine swl_of (l := [(0, RV.nm _ (RV.hdr 999 _ _)), (1, RV.sv false [PV.val _]), (4, RV.sv false [PV.val _]), (5, RV.sv false [PV.val _]), (26, RV.hdr 999 _ _), (27, RV.sv false [PV.val _]), (28, RV.ptr 999 _), (29, RV.ptr 999 _), (30, RV.sv false [PV.val _]), (31, RV.sv false [PV.val _])]) (b := [(999, (136, _ ++ ([PV.val _, PV.val _, PV.nv _ (PV.sl _ _), PV.nv _ (PV.sl _ _), PV.nv _ (PV.sl _ _)] ++ _)))]) (by exact ⟨rfl, rfl, rfl, rfl, rfl, rfl, rfl, rfl, rfl, rfl, ⟨⟩⟩) (by exact ⟨rfl, ⟨⟩⟩) ?_
   refine swl_ucallM (bx := 999) (L := L0w) (pre := [PV.val _, PV.val _]) (ms := [PV.nv _ (PV.sl _ _)]) (post := [PV.nv _ (PV.sl _ _), PV.nv _ (PV.sl _ _)]) (qr := [(false, [PV.val _])]) (as_ := [(false, [PV.val _])]) (by decide) c_50 rfl (by exact rfl) (by exact (Nm.val Nm.nil)) (by exact ⟨rfl, ⟨⟩⟩) (by exact (And.intro (by exact ⟨⟩) True.intro)) (by exact And.intro (And.intro rfl (ToL.cons (PV.To.refl _) ToL.nil)) True.intro) (by exact rfl) (by exact (Nm.nv Nm.nil)) (by exact (OwnTo.nv OwnTo.nil)) (by exact mark_IntS (by omega) (by omega)) (by exact (OwnFrom.nv OwnFrom.nil)) (fun x hx => hx.elim) (by exact (LclA.cons (RV.lcl_nm RV.lcl_hdr) (LclA.cons (RV.lcl_sv (LclC.cons PV.lcl_val LclC.nil)) (LclA.cons (RV.lcl_sv (LclC.cons PV.lcl_val LclC.nil)) (LclA.cons (RV.lcl_sv (LclC.cons PV.lcl_val LclC.nil)) (LclA.cons RV.lcl_hdr (LclA.cons (RV.lcl_sv (LclC.cons PV.lcl_val LclC.nil)) (LclA.cons RV.lcl_ptr (LclA.cons RV.lcl_ptr (LclA.cons (RV.lcl_sv (LclC.cons PV.lcl_val LclC.nil)) (LclA.cons (RV.lcl_sv (LclC.cons PV.lcl_val LclC.nil)) LclA.nil))))))))))) (by exact (And.intro (.inl rfl) True.intro)) (by exact (LclC.flat (LclC.map fun x => (LclC.cons PV.lcl_val (LclC.cons PV.lcl_val (LclC.cons (PV.lcl_own (LclC.map fun x => (LclC.cons PV.lcl_val LclC.nil))) (LclC.cons (PV.lcl_own (LclC.map fun x => (LclC.cons PV.lcl_val LclC.nil))) (LclC.cons (PV.lcl_own (LclC.map fun x => (LclC.cons PV.lcl_val LclC.nil))) LclC.nil)))))))) (by exact (LclC.cons PV.lcl_val (LclC.cons PV.lcl_val LclC.nil))) (by exact (LclC.cons (PV.lcl_nv (PV.lcl_own (LclC.map fun x => (LclC.cons PV.lcl_val LclC.nil)))) (LclC.cons (PV.lcl_nv (PV.lcl_own (LclC.map fun x => (LclC.cons PV.lcl_val LclC.nil)))) LclC.nil))) (by exact (LclC.app (LclC.flat (LclC.map fun x => (LclC.cons PV.lcl_val (LclC.cons PV.lcl_val (LclC.cons (PV.lcl_own (LclC.map fun x => (LclC.cons PV.lcl_val LclC.nil))) (LclC.cons (PV.lcl_own (LclC.map fun x => (LclC.cons PV.lcl_val LclC.nil))) (LclC.cons (PV.lcl_own (LclC.map fun x => (LclC.cons PV.lcl_val LclC.nil))) LclC.nil))))))) LclC.vals)) rfl ?_
   refine swl_step (by exact ⟨rfl, ⟨⟩⟩) (by exact ⟨⟩) (LocG.of rfl (loc_copy (.inr rfl) (by decide) (by exact Cp.sc))) nofree ?_
   refine swl_nil ?_
   refine sw_seq ?_
   refine sO [(0, _), (1, _), (4, _), (5, _)] [(999, _)] ?_
   refine sw_regL ?_
   refine swl_step (by exact ⟨rfl, ⟨⟩⟩) (by exact ⟨⟩) (LocG.of rfl (loc_copy (.inl rfl) (by decide) (by exact Cp.nm Cp.hdr))) nofree ?_
   refine swl_step (by exact ⟨rfl, ⟨⟩⟩) (by exact ⟨⟩) (LocG.of rfl (loc_copy (.inl rfl) (by decide) (by exact Cp.sc))) nofree ?_
   refine swl_step (by exact ⟨rfl, rfl, ⟨⟩⟩) (by exact ⟨⟩) (LocG.of rfl (loc_hindex (by decide) sl_38 (by exact ⟨⟩) (by exact rfl) (by omega))) nofree ?_
   refine swl_step (by exact ⟨rfl, ⟨⟩⟩) (by exact ⟨⟩) (LocG.of rfl (loc_field (by decide) fd_136_3)) nofree ?_
   refine swl_step (by exact ⟨rfl, ⟨⟩⟩) (by exact ⟨rfl, ⟨⟩⟩) (LocG.of rfl (loc_loadM (o := 3) (qs := [PV.val _]) (by omega) (by decide) ty_25 (fun _ => rfl) (by exact Nat.le_of_ble_eq_true rfl) (by exact (ToL.cons PV.nv_val ToL.nil)) (by exact (BorL.cons (PV.bor_val _) BorL.nil)))) nofree ?_
   refine swl_step (by exact ⟨rfl, ⟨⟩⟩) (by exact ⟨⟩) (LocG.of rfl (loc_copy (.inl rfl) (by decide) (by exact Cp.sc))) nofree ?_
   refine swl_of (l := [(0, RV.nm _ (RV.hdr 999 _ _)), (1, RV.sv false [PV.val _]), (4, RV.sv false [PV.val _]), (5, RV.sv false [PV.val _]), (33, RV.hdr 999 _ _), (34, RV.sv false [PV.val _]), (35, RV.ptr 999 _), (36, RV.ptr 999 _), (37, RV.sv false [PV.val _]), (38, RV.sv false [PV.val _])]) (b := [(999, (136, _ ++ ([PV.val _, PV.val _, PV.nv _ (PV.sl _ _), PV.nv _ (PV.sl _ _), PV.nv _ (PV.sl _ _)] ++ _)))]) (by exact ⟨rfl, rfl, rfl, rfl, rfl, rfl, rfl, rfl, rfl, rfl, ⟨⟩⟩) (by exact ⟨rfl, ⟨⟩⟩) ?_
   refine swl_ucallM (bx := 999) (L := L0w) (pre := [PV.val _, PV.val _, PV.nv _ (PV.sl _ _)]) (ms := [PV.nv _ (PV.sl _ _)]) (post := [PV.nv _ (PV.sl _ _)]) (qr := [(false, [PV.val _])]) (as_ := [(false, [PV.val _])]) (by decide) c_50 rfl (by exact rfl) (by exact (Nm.val Nm.nil)) (by exact ⟨rfl, ⟨⟩⟩) (by exact (And.intro (by exact ⟨⟩) True.intro)) (by exact And.intro (And.intro rfl (ToL.cons (PV.To.refl _) ToL.nil)) True.intro) (by exact rfl) (by exact (Nm.nv Nm.nil)) (by exact (OwnTo.nv OwnTo.nil)) (by exact mark_IntS (by omega) (by omega)) (by exact (OwnFrom.nv OwnFrom.nil)) (fun x hx => hx.elim) (by exact (LclA.cons (RV.lcl_nm RV.lcl_hdr) (LclA.cons (RV.lcl_sv (LclC.cons PV.lcl_val LclC.nil)) (LclA.cons (RV.lcl_sv (LclC.cons PV.lcl_val LclC.nil)) (LclA.cons (RV.lcl_sv (LclC.cons PV.lcl_val LclC.nil)) (LclA.cons RV.lcl_hdr (LclA.cons (RV.lcl_sv (LclC.cons PV.lcl_val LclC.nil)) (LclA.cons RV.lcl_ptr (LclA.cons RV.lcl_ptr (LclA.cons (RV.lcl_sv (LclC.cons PV.lcl_val LclC.nil)) (LclA.cons (RV.lcl_sv (LclC.cons PV.lcl_val LclC.nil)) LclA.nil))))))))))) (by exact (And.intro (.inl rfl) True.intro)) (by exact (LclC.flat (LclC.map fun x => (LclC.cons PV.lcl_val (LclC.cons PV.lcl_val (LclC.cons (PV.lcl_own (LclC.map fun x => (LclC.cons PV.lcl_val LclC.nil))) (LclC.cons (PV.lcl_own (LclC.map fun x => (LclC.cons PV.lcl_val LclC.nil))) (LclC.cons (PV.lcl_own (LclC.map fun x => (LclC.cons PV.lcl_val LclC.nil))) LclC.nil)))))))) (by exact (LclC.cons PV.lcl_val (LclC.cons PV.lcl_val (LclC.cons (PV.lcl_nv (PV.lcl_own (LclC.map fun x => (LclC.cons PV.lcl_val LclC.nil)))) LclC.nil)))) (by exact (LclC.cons (PV.lcl_nv (PV.lcl_own (LclC.map fun x => (LclC.cons PV.lcl_val LclC.nil)))) LclC.nil)) (by exact (LclC.app (LclC.flat (LclC.map fun x => (LclC.cons PV.lcl_val (LclC.cons PV.lcl_val (LclC.cons (PV.lcl_own (LclC.map fun x => (LclC.cons PV.lcl_val LclC.nil))) (LclC.cons (PV.lcl_own (LclC.map fun x => (LclC.cons PV.lcl_val LclC.nil))) (LclC.cons (PV.lcl_own (LclC.map fun x => (LclC.cons PV.lcl_val LclC.nil))) LclC.nil))))))) LclC.vals)) rfl ?_
   refine swl_step (by exact ⟨rfl, ⟨⟩⟩) (by exact ⟨⟩) (LocG.of rfl (loc_copy (.inr rfl) (by decide) (by exact Cp.sc))) nofree ?_
   refine swl_nil ?_
   refine sO [(0, _), (1, _), (4, _), (5, _)] [(999, _)] ?_
   refine sw_regL ?_
   refine swl_step (by exact ⟨rfl, ⟨⟩⟩) (by exact ⟨⟩) (LocG.of rfl (loc_copy (.inl rfl) (by decide) (by exact Cp.nm Cp.hdr))) nofree ?_
   refine swl_step (by exact ⟨rfl, ⟨⟩⟩) (by exact ⟨⟩) (LocG.of rfl (loc_copy (.inl rfl) (by decide) (by exact Cp.sc))) nofree ?_
   refine swl_step (by exact ⟨rfl, rfl, ⟨⟩⟩) (by exact ⟨⟩) (LocG.of rfl (loc_hindex (by decide) sl_38 (by exact ⟨⟩) (by exact rfl) (by omega))) nofree ?_
   refine swl_step (by exact ⟨rfl, ⟨⟩⟩) (by exact ⟨⟩) (LocG.of rfl (loc_field (by decide) fd_136_4)) nofree ?_
   refine swl_step (by exact ⟨rfl, ⟨⟩⟩) (by exact ⟨rfl, ⟨⟩⟩) (LocG.of rfl (loc_loadM (o := 4) (qs := [PV.val _]) (by omega) (by decide) ty_25 (fun _ => rfl) (by exact Nat.le_of_ble_eq_true rfl) (by exact (ToL.cons PV.nv_val ToL.nil)) (by exact (BorL.cons (PV.bor_val _) BorL.nil)))) nofree ?_
   refine swl_step (by exact ⟨rfl, ⟨⟩⟩) (by exact ⟨⟩) (LocG.of rfl (loc_copy (.inl rfl) (by decide) (by exact Cp.sc))) nofree ?_
   refine swl_of (l := [(0, RV.nm _ (RV.hdr 999 _ _)), (1, RV.sv false [PV.val _]), (4, RV.sv false [PV.val _]), (5, RV.sv false [PV.val _]), (40, RV.hdr 999 _ _), (41, RV.sv false [PV.val _]), (42, RV.ptr 999 _), (43, RV.ptr 999 _), (44, RV.sv false [PV.val _]), (45, RV.sv false [PV.val _])]) (b := [(999, (136, _ ++ ([PV.val _, PV.val _, PV.nv _ (PV.sl _ _), PV.nv _ (PV.sl _ _), PV.nv _ (PV.sl _ _)] ++ _)))]) (by exact ⟨rfl, rfl, rfl, rfl, rfl, rfl, rfl, rfl, rfl, rfl, ⟨⟩⟩) (by exact ⟨rfl, ⟨⟩⟩) ?_
   refine swl_ucallM (bx := 999) (L := L0w) (pre := [PV.val _, PV.val _, PV.nv _ (PV.sl _ _), PV.nv _ (PV.sl _ _)]) (ms := [PV.nv _ (PV.sl _ _)]) (post := []) (qr := [(false, [PV.val _])]) (as_ := [(false, [PV.val _])]) (by decide) c_50 rfl (by exact rfl) (by exact (Nm.val Nm.nil)) (by exact ⟨rfl, ⟨⟩⟩) (by exact (And.intro (by exact ⟨⟩) True.intro)) (by exact And.intro (And.intro rfl (ToL.cons (PV.To.refl _) ToL.nil)) True.intro) (by exact rfl) (by exact (Nm.nv Nm.nil)) (by exact (OwnTo.nv OwnTo.nil)) (by exact mark_IntS (by omega) (by omega)) (by exact (OwnFrom.nv OwnFrom.nil)) (fun x hx => hx.elim) (by exact (LclA.cons (RV.lcl_nm RV.lcl_hdr) (LclA.cons (RV.lcl_sv (LclC.cons PV.lcl_val LclC.nil)) (LclA.cons (RV.lcl_sv (LclC.cons PV.lcl_val LclC.nil)) (LclA.cons (RV.lcl_sv (LclC.cons PV.lcl_val LclC.nil)) (LclA.cons RV.lcl_hdr (LclA.cons (RV.lcl_sv (LclC.cons PV.lcl_val LclC.nil)) (LclA.cons RV.lcl_ptr (LclA.cons RV.lcl_ptr (LclA.cons (RV.lcl_sv (LclC.cons PV.lcl_val LclC.nil)) (LclA.cons (RV.lcl_sv (LclC.cons PV.lcl_val LclC.nil)) LclA.nil))))))))))) (by exact (And.intro (.inl rfl) True.intro)) (by exact (LclC.flat (LclC.map fun x => (LclC.cons PV.lcl_val (LclC.cons PV.lcl_val (LclC.cons (PV.lcl_own (LclC.map fun x => (LclC.cons PV.lcl_val LclC.nil))) (LclC.cons (PV.lcl_own (LclC.map fun x => (LclC.cons PV.lcl_val LclC.nil))) (LclC.cons (PV.lcl_own (LclC.map fun x => (LclC.cons PV.lcl_val LclC.nil))) LclC.nil)))))))) (by exact (LclC.cons PV.lcl_val (LclC.cons PV.lcl_val (LclC.cons (PV.lcl_nv (PV.lcl_own (LclC.map fun x => (LclC.cons PV.lcl_val LclC.nil)))) (LclC.cons (PV.lcl_nv (PV.lcl_own (LclC.map fun x => (LclC.cons PV.lcl_val LclC.nil)))) LclC.nil))))) (by exact LclC.nil) (by exact (LclC.app (LclC.flat (LclC.map fun x => (LclC.cons PV.lcl_val (LclC.cons PV.lcl_val (LclC.cons (PV.lcl_own (LclC.map fun x => (LclC.cons PV.lcl_val LclC.nil))) (LclC.cons (PV.lcl_own (LclC.map fun x => (LclC.cons PV.lcl_val LclC.nil))) (LclC.cons (PV.lcl_own (LclC.map fun x => (LclC.cons PV.lcl_val LclC.nil))) LclC.nil))))))) LclC.vals)) rfl ?_
   refine swl_step (by exact ⟨rfl, ⟨⟩⟩) (by exact ⟨⟩) (LocG.of rfl (loc_copy (.inr rfl) (by decide) (by exact Cp.sc))) nofree ?_
   refine swl_nil ?_
   refine sw_boxTo (d := 999) (by exact rfl) (by exact (OwnTo.same (OwnTo.same (OwnTo.nv (OwnTo.nv (OwnTo.nv OwnTo.nil)))))) ?_
   refine sO [(0, _), (1, _), (4, _), (5, _)] [(999, (136, _ ++ ([PV.val _, PV.val _, PV.sl _ _, PV.sl _ _, PV.sl _ _] ++ _)))] ?_
   refine sw_reg ?_
   refine rA ?_ (x := sM)
   refine rA ?_ (x := B_add)
   refine rA ?_ (x := sA)
   refine Exists.intro (i + 1) (And.intro (by omega) (And.intro (by omega) (And.intro (And.intro (by exact ⟨rfl, rfl, ⟨⟩⟩) (by exact ⟨⟩)) (And.intro (by exact And.intro (by exact int_eq (by rw [mkL_succ hlt]; rfl)) (And.intro (by exact rfl) (True.intro))) (by exact And.intro (by exact congrArg (fun z => some (136, z)) (mark_join hlt rfl)) (True.intro))))))
  ·try simp only [q1, q2, q3, q4, q5, q6, q7, q8, q9] at hb1
   have hend : i = x.length := by omega
   refine sw_boxEq (d := 999) (by exact rfl) (mark_all hend) ?_
   refine sw_freeze (s := 0) (D := 999) (e := 5) (by exact rfl) (by exact rfl) (by rw [List.length_map, mkL_len, List.length_map]) (by intro c hc; obtain ⟨y, _, rfl⟩ := List.mem_map.1 hc; exact rfl) hjk ?_
   refine sw_exit ?_
   refine sw_seq ?_
   refine sO [(0, _), (1, _), (4, _), (5, _)] [] ?_
   refine sw_reg ?_
   refine rA ?_ (x := sM)
   refine rA ?_ (x := sA)
   refine sw_ret ?_
   exact And.intro (by exact int_eq (by first | rfl | rw [hend, List.take_length])) (Exists.intro _ (And.intro (.inl (by exact rfl)) (And.intro (by exact (Nm.nv Nm.nil)) (by exact (OwnTo.nv OwnTo.nil)))))
theorem mark_RowS {x : List Row} {k : Int} (h0k : 0 ≤ k) (hbk : (mkL mkE_Row x k).2 ≤ 4611686018427387904) : UCall Tryz.prog 108 false [PV.sl (.own 53 2) (x.map (cRow (.own 3 1)))] [PV.sl (.own 53 2) ((mkL mkE_Row x k).1.map (cRow (.own 3 1)))] [(false, [PV.val (vI k)])] (vI (mkL mkE_Row x k).2) := by
 refine ucall_of Tryz.func108 rfl (Nat.le_of_ble_eq_true rfl) (borA_cons (BorL.cons (PV.bor_val _) BorL.nil) borA_nil) ?_
 intro us h0 w0 Fz0 hus
 obtain ⟨u0, rfl⟩ := len1 hus
 by_cases hx : x = []
 ·subst hx
  refine sw_seq ?_
  refine sO [(0, _), (1, _)] [] ?_
  refine sw_reg ?_
  refine rA ?_ (x := kA)
  refine sw_seq ?_
  refine sw_seq ?_
  refine sO [(0, _), (1, _), (4, _)] [] ?_
  refine sw_reg ?_
  refine rA ?_ (x := kA)
  refine sw_block ?_
  refine sO [(0, _), (1, _), (4, _), (5, _)] [] ?_
  refine sw_loop (l0 := [(0, RV.sv false [PV.nv _ (PV.sl _ _)]), (4, RV.sv false [PV.val _])]) (b0 := []) (fun _ : Unit => True) (fun _ : Unit => [(1, RV.int k), (5, RV.int 0)]) (fun _ : Unit => []) (fun _ : Unit => 0) () True.intro (by exact ⟨rfl, rfl, ⟨⟩⟩) (by exact ⟨⟩) (by exact And.intro (by exact rfl) (And.intro (by exact rfl) (True.intro))) (by exact ⟨⟩) ?_
  rintro _ _
  refine sw_seq ?_
  refine sw_seq ?_
  refine sw_reg ?_
  refine rA ?_ (x := sM)
  refine rA ?_ (x := loc_copy (r' := RV.sv false [PV.sl .v _]) (.inl rfl) (by decide) (by exact Cp.sv (ToL.cons (PV.nv_to PV.to_none) ToL.nil) (BorL.cons (PV.bor_sl _) BorL.nil)))
  refine rA ?_ (x := lN sl_83)
  refine rA ?_ (x := B_lss)
  refine sw_cond (t := 9) rfl (fun hb1 => ?_) (fun hb1 => ?_)
  ·try simp only [q1, q2, q3, q4, q5, q6, q7, q8, q9] at hb1
   simp at hb1
  ·try simp only [q1, q2, q3, q4, q5, q6, q7, q8, q9] at hb1
   refine sw_exit ?_
   refine sw_seq ?_
   refine sO [(0, _), (1, _), (4, _), (5, _)] [] ?_
   refine sw_reg ?_
   refine rA ?_ (x := sM)
   refine rA ?_ (x := sA)
   refine sw_ret ?_
   exact And.intro (by exact rfl) (Exists.intro _ (And.intro (.inl (by exact rfl)) (And.intro (by exact (Nm.nv Nm.nil)) (by exact (OwnTo.nv OwnTo.nil)))))
 ·refine sw_thaw (s := 0) (D := 999) (E := 53) (e := 2) (u := u0) (es := x.map (cRow (.own 3 1))) (L := L0w) (by exact rfl) (by simpa using hx) (by exact rfl) (by exact rfl) (fun x hx => hx.elim) (by exact And.intro (.inl rfl) (And.intro (.inr (RV.lcl_sv (LclC.cons PV.lcl_val LclC.nil))) True.intro)) True.intro (LclC.map fun x => (LclC.cons PV.lcl_val (LclC.cons (PV.lcl_own (LclC.map fun x => (LclC.cons PV.lcl_val LclC.nil))) LclC.nil))) fun cp jk hl0 hcp hjk => ?_
  have hlm : (x.map (cRow (.own 3 1))).length = x.length := List.length_map _
  rw [hlm] at hl0 hcp
  have hmono := mkL_take_le mkE_Row_le x
  have hmono0 := fun i => mkL_le mkE_Row_le (x.take i) k
  refine sw_seq ?_
  refine sO [(0, _), (1, _)] [(999, (53, _))] ?_
  refine sw_reg ?_
  refine rA ?_ (x := kA)
  refine sw_seq ?_
  refine sw_seq ?_
  refine sO [(0, _), (1, _), (4, _)] [(999, _)] ?_
  refine sw_reg ?_
  refine rA ?_ (x := kA)
  refine sw_block ?_
  refine sO [(0, _), (1, _), (4, _), (5, _)] [(999, _)] ?_
  refine sw_loop (l0 := [(0, RV.nm _ (RV.hdr 999 _ _)), (4, RV.sv false [PV.val _])]) (b0 := []) (fun i : Nat => i ≤ x.length) (fun i : Nat => [(1, RV.int (mkL mkE_Row (x.take i) k).2), (5, RV.int (i : Int))]) (fun i : Nat => [(999, (53, (((mkL mkE_Row (x.take i) k).1 ++ x.drop i).map (cRow (.own 3 1))).flatten ++ jk.map PV.val))]) (fun i : Nat => x.length - i) 0 (by omega) (by exact ⟨rfl, rfl, ⟨⟩⟩) (by exact ⟨⟩) (by exact And.intro (by exact rfl) (And.intro (by exact rfl) (True.intro))) (by exact And.intro (by exact congrArg (fun z => some (53, z)) mark_zero) (True.intro)) ?_
  rintro i hi
  refine sw_seq ?_
  refine sw_seq ?_
  refine sw_reg ?_
  refine rA ?_ (x := sM)
  refine rA ?_ (x := loc_copy (.inl rfl) (by decide) (by exact Cp.nm Cp.hdr))
  refine rA ?_ (x := loc_hlen (by decide) sl_83)
  refine rA ?_ (x := B_lss)
  refine sw_cond (t := 9) rfl (fun hb1 => ?_) (fun hb1 => ?_)
  ·try simp only [q1, q2, q3, q4, q5, q6, q7, q8, q9] at hb1
   have hlt : i < x.length := by omega
   have hk0 := hmono0 i
   have hk1 := hmono (i + 1) k
   rw [mkL_succ hlt] at hk1
   dsimp only at hk1
   have hm0 := mkL_le mkE_Int_le x[i].Values ((mkL mkE_Row (x.take i) k).2 + 1)
   simp only [mkE_Row] at hk1
   refine sw_boxEq (d := 999) (by exact rfl) (mark_split hlt) ?_
   have hA := mark_len (f := mkE_Row) (c := (cRow (.own 3 1))) (e := 2) (k := k) (fun _ => rfl) (Nat.le_of_lt hlt)
   refine sw_nmB (d := 999) (ms := [PV.val _, PV.sl _ _]) (by exact rfl) fun us hus => ?_
   obtain ⟨v0, v1, rfl⟩ := us_2 hus
   refine sw_skip ?_
   refine sw_seq ?_
   refine sw_block ?_
   refine sw_seq ?_
   refine sO [(0, _), (1, _), (4, _), (5, _)] [(999, (53, _ ++ ([PV.nv _ (PV.val _), PV.nv _ (PV.sl _ _)] ++ _)))] ?_
   refine sw_reg ?_
   refine rA ?_ (x := loc_copy (.inl rfl) (by decide) (by exact Cp.nm Cp.hdr))
   refine rA ?_ (x := sM)
   refine rA ?_ (x := sM)
   refine rA ?_ (x := loc_hindex (by decide) sl_83 (by exact ⟨⟩) (by exact rfl) (by omega))
   refine rA ?_ (x := lF fd_53_0)
   refine rA ?_ (x := loc_storeM (o := 0) (ag := false) (vs := [PV.val _]) (by omega) ty_3 (by exact ⟨⟩) (by exact rfl) (by exact Nat.le_of_ble_eq_true rfl))
   refine sw_seq ?_
   refine sO [(0, _), (1, _), (4, _), (5, _)] [(999, (53, _ ++ ([PV.val _, PV.nv _ (PV.sl _ _)] ++ _)))] ?_
   refine sw_reg ?_
   refine rA ?_ (x := sM)
   refine rA ?_ (x := B_add)
   refine rA ?_ (x := sA)
   refine sO [(0, _), (1, _), (4, _), (5, _)] [(999, _)] ?_
   refine sw_regL ?_
   refine swl_step (by exact ⟨rfl, ⟨⟩⟩) (by exact ⟨⟩) (LocG.of rfl (loc_copy (.inl rfl) (by decide) (by exact Cp.nm Cp.hdr))) nofree ?_
   refine swl_step (by exact ⟨rfl, ⟨⟩⟩) (by exact ⟨⟩) (LocG.of rfl (loc_copy (.inl rfl) (by decide) (by exact Cp.sc))) nofree ?_
   refine swl_step (by exact ⟨rfl, rfl, ⟨⟩⟩) (by exact ⟨⟩) (LocG.of rfl (loc_hindex (by decide) sl_83 (by exact ⟨⟩) (by exact rfl) (by omega))) nofree ?_
   refine swl_step (by exact ⟨rfl, ⟨⟩⟩) (by exact ⟨⟩) (LocG.of rfl (loc_field (by decide) fd_53_1)) nofree ?_
   refine swl_step (by exact ⟨rfl, ⟨⟩⟩) (by exact ⟨rfl, ⟨⟩⟩) (LocG.of rfl (loc_loadM (o := 1) (qs := [PV.val _]) (by omega) (by decide) ty_25 (fun _ => rfl) (by exact Nat.le_of_ble_eq_true rfl) (by exact (ToL.cons PV.nv_val ToL.nil)) (by exact (BorL.cons (PV.bor_val _) BorL.nil)))) nofree ?_
   refine swl_step (by exact ⟨rfl, ⟨⟩⟩) (by exact ⟨⟩) (LocG.of rfl (loc_copy (.inl rfl) (by decide) (by exact Cp.sc))) nofree ?_
   refine swl_of (l := [(0, RV.nm _ (RV.hdr 999 _ _)), (1, RV.sv false [PV.val _]), (4, RV.sv false [PV.val _]), (5, RV.sv false [PV.val _]), (19, RV.hdr 999 _ _), (20, RV.sv false [PV.val _]), (21, RV.ptr 999 _), (22, RV.ptr 999 _), (23, RV.sv false [PV.val _]), (24, RV.sv false [PV.val _])]) (b := [(999, (53, _ ++ ([PV.val _, PV.nv _ (PV.sl _ _)] ++ _)))]) (by exact ⟨rfl, rfl, rfl, rfl, rfl, rfl, rfl, rfl, rfl, rfl, ⟨⟩⟩) (by exact ⟨rfl, ⟨⟩⟩) ?_
   refine swl_ucallM (bx := 999) (L := L0w) (pre := [PV.val _]) (ms := [PV.nv _ (PV.sl _ _)]) (post := []) (qr := [(false, [PV.val _])]) (as_ := [(false, [PV.val _])]) (by decide) c_50 rfl (by exact rfl) (by exact (Nm.val Nm.nil)) (by exact ⟨rfl, ⟨⟩⟩) (by exact (And.intro (by exact ⟨⟩) True.intro)) (by exact And.intro (And.intro rfl (ToL.cons (PV.To.refl _) ToL.nil)) True.intro) (by exact rfl) (by exact (Nm.nv Nm.nil)) (by exact (OwnTo.nv OwnTo.nil)) (by exact mark_IntS (by omega) (by omega)) (by exact (OwnFrom.nv OwnFrom.nil)) (fun x hx => hx.elim) (by exact (LclA.cons (RV.lcl_nm RV.lcl_hdr) (LclA.cons (RV.lcl_sv (LclC.cons PV.lcl_val LclC.nil)) (LclA.cons (RV.lcl_sv (LclC.cons PV.lcl_val LclC.nil)) (LclA.cons (RV.lcl_sv (LclC.cons PV.lcl_val LclC.nil)) (LclA.cons RV.lcl_hdr (LclA.cons (RV.lcl_sv (LclC.cons PV.lcl_val LclC.nil)) (LclA.cons RV.lcl_ptr (LclA.cons RV.lcl_ptr (LclA.cons (RV.lcl_sv (LclC.cons PV.lcl_val LclC.nil)) (LclA.cons (RV.lcl_sv (LclC.cons PV.lcl_val LclC.nil)) LclA.nil))))))))))) (by exact (And.intro (.inl rfl) True.intro)) (by exact (LclC.flat (LclC.map fun x => (LclC.cons PV.lcl_val (LclC.cons (PV.lcl_own (LclC.map fun x => (LclC.cons PV.lcl_val LclC.nil))) LclC.nil))))) (by exact (LclC.cons PV.lcl_val LclC.nil)) (by exact LclC.nil) (by exact (LclC.app (LclC.flat (LclC.map fun x => (LclC.cons PV.lcl_val (LclC.cons (PV.lcl_own (LclC.map fun x => (LclC.cons PV.lcl_val LclC.nil))) LclC.nil)))) LclC.vals)) rfl ?_
   refine swl_step (by exact ⟨rfl, ⟨⟩⟩) (by exact ⟨⟩) (LocG.of rfl (loc_copy (.inr rfl) (by decide) (by exact Cp.sc))) nofree ?_
   refine swl_nil ?_
   refine sw_boxTo (d := 999) (by exact rfl) (by exact (OwnTo.same (OwnTo.nv OwnTo.nil))) ?_
   refine sO [(0, _), (1, _), (4, _), (5, _)] [(999, (53, _ ++ ([PV.val _, PV.sl _ _] ++ _)))] ?_
   refine sw_reg ?_
   refine rA ?_ (x := sM)
   refine rA ?_ (x := B_add)
   refine rA ?_ (x := sA)
   refine Exists.intro (i + 1) (And.intro (by omega) (And.intro (by omega) (And.intro (And.intro (by exact ⟨rfl, rfl, ⟨⟩⟩) (by exact ⟨⟩)) (And.intro (by exact And.intro (by exact int_eq (by rw [mkL_succ hlt]; rfl)) (And.intro (by exact rfl) (True.intro))) (by exact And.intro (by exact congrArg (fun z => some (53, z)) (mark_join hlt rfl)) (True.intro))))))
  ·try simp only [q1, q2, q3, q4, q5, q6, q7, q8, q9] at hb1
   have hend : i = x.length := by omega
   refine sw_boxEq (d := 999) (by exact rfl) (mark_all hend) ?_
   refine sw_freeze (s := 0) (D := 999) (e := 2) (by exact rfl) (by exact rfl) (by rw [List.length_map, mkL_len, List.length_map]) (by intro c hc; obtain ⟨y, _, rfl⟩ := List.mem_map.1 hc; exact rfl) hjk ?_
   refine sw_exit ?_
   refine sw_seq ?_
   refine sO [(0, _), (1, _), (4, _), (5, _)] [] ?_
   refine sw_reg ?_
   refine rA ?_ (x := sM)
   refine rA ?_ (x := sA)
   refine sw_ret ?_
   exact And.intro (by exact int_eq (by first | rfl | rw [hend, List.take_length])) (Exists.intro _ (And.intro (.inl (by exact rfl)) (And.intro (by exact (Nm.nv Nm.nil)) (by exact (OwnTo.nv OwnTo.nil)))))
theorem mark_VersionS {x : List Version} {k : Int} (h0k : 0 ≤ k) (hbk : (mkL mkE_Version x k).2 ≤ 4611686018427387904) : UCall Tryz.prog 173 false [PV.sl (.own 195 4) (x.map (cVersion (.own 3 1)))] [PV.sl (.own 195 4) ((mkL mkE_Version x k).1.map (cVersion (.own 3 1)))] [(false, [PV.val (vI k)])] (vI (mkL mkE_Version x k).2) := by
 refine ucall_of Tryz.func173 rfl (Nat.le_of_ble_eq_true rfl) (borA_cons (BorL.cons (PV.bor_val _) BorL.nil) borA_nil) ?_
 intro us h0 w0 Fz0 hus
 obtain ⟨u0, rfl⟩ := len1 hus
 by_cases hx : x = []
 ·subst hx
  refine sw_seq ?_
  refine sO [(0, _), (1, _)] [] ?_
  refine sw_reg ?_
  refine rA ?_ (x := kA)
  refine sw_seq ?_
  refine sw_seq ?_
  refine sO [(0, _), (1, _), (4, _)] [] ?_
  refine sw_reg ?_
  refine rA ?_ (x := kA)
  refine sw_block ?_
  refine sO [(0, _), (1, _), (4, _), (5, _)] [] ?_
  refine sw_loop (l0 := [(0, RV.sv false [PV.nv _ (PV.sl _ _)]), (4, RV.sv false [PV.val _])]) (b0 := []) (fun _ : Unit => True) (fun _ : Unit => [(1, RV.int k), (5, RV.int 0)]) (fun _ : Unit => []) (fun _ : Unit => 0) () True.intro (by exact ⟨rfl, rfl, ⟨⟩⟩) (by exact ⟨⟩) (by exact And.intro (by exact rfl) (And.intro (by exact rfl) (True.intro))) (by exact ⟨⟩) ?_
  rintro _ _
  refine sw_seq ?_
  refine sw_seq ?_
  refine sw_reg ?_
  refine rA ?_ (x := sM)
  refine rA ?_ (x := loc_copy (r' := RV.sv false [PV.sl .v _]) (.inl rfl) (by decide) (by exact Cp.sv (ToL.cons (PV.nv_to PV.to_none) ToL.nil) (BorL.cons (PV.bor_sl _) BorL.nil)))
  refine rA ?_ (x := lN sl_138)
  refine rA ?_ (x := B_lss)
  refine sw_cond (t := 9) rfl (fun hb1 => ?_) (fun hb1 => ?_)
  ·try simp only [q1, q2, q3, q4, q5, q6, q7, q8, q9] at hb1
   simp at hb1
  ·try simp only [q1, q2, q3, q4, q5, q6, q7, q8, q9] at hb1
   refine sw_exit ?_
   refine sw_seq ?_
   refine sO [(0, _), (1, _), (4, _), (5, _)] [] ?_
   refine sw_reg ?_
   refine rA ?_ (x := sM)
   refine rA ?_ (x := sA)
   refine sw_ret ?_
   exact And.intro (by exact rfl) (Exists.intro _ (And.intro (.inl (by exact rfl)) (And.intro (by exact (Nm.nv Nm.nil)) (by exact (OwnTo.nv OwnTo.nil)))))
 ·refine sw_thaw (s := 0) (D := 999) (E := 195) (e := 4) (u := u0) (es := x.map (cVersion (.own 3 1))) (L := L0w) (by exact rfl) (by simpa using hx) (by exact rfl) (by exact rfl) (fun x hx => hx.elim) (by exact And.intro (.inl rfl) (And.intro (.inr (RV.lcl_sv (LclC.cons PV.lcl_val LclC.nil))) True.intro)) True.intro (LclC.map fun x => (LclC.cons PV.lcl_val (LclC.cons (PV.lcl_own (LclC.map fun x => (LclC.cons PV.lcl_val LclC.nil))) (LclC.cons PV.lcl_val (LclC.cons PV.lcl_val LclC.nil))))) fun cp jk hl0 hcp hjk => ?_
  have hlm : (x.map (cVersion (.own 3 1))).length = x.length := List.length_map _
  rw [hlm] at hl0 hcp
  have hmono := mkL_take_le mkE_Version_le x
  have hmono0 := fun i => mkL_le mkE_Version_le (x.take i) k
  refine sw_seq ?_
  refine sO [(0, _), (1, _)] [(999, (195, _))] ?_
  refine sw_reg ?_
  refine rA ?_ (x := kA)
  refine sw_seq ?_
  refine sw_seq ?_
  refine sO [(0, _), (1, _), (4, _)] [(999, _)] ?_
  refine sw_reg ?_
  refine rA ?_ (x := kA)
  refine sw_block ?_
  refine sO [(0, _), (1, _), (4, _), (5, _)] [(999, _)] ?_
  refine sw_loop (l0 := [(0, RV.nm _ (RV.hdr 999 _ _)), (4, RV.sv false [PV.val _])]) (b0 := []) (fun i : Nat => i ≤ x.length) (fun i : Nat => [(1, RV.int (mkL mkE_Version (x.take i) k).2), (5, RV.int (i : Int))]) (fun i : Nat => [(999, (195, (((mkL mkE_Version (x.take i) k).1 ++ x.drop i).map (cVersion (.own 3 1))).flatten ++ jk.map PV.val))]) (fun i : Nat => x.length - i) 0 (by omega) (by exact ⟨rfl, rfl, ⟨⟩⟩) (by exact ⟨⟩) (by exact And.intro (by exact rfl) (And.intro (by exact rfl) (True.intro))) (by exact And.intro (by exact congrArg (fun z => some (195, z)) mark_zero) (True.intro)) ?_
  rintro i hi
  refine sw_seq ?_
  refine sw_seq ?_
  refine sw_reg ?_
  refine rA ?_ (x := sM)
  refine rA ?_ (x := loc_copy (.inl rfl) (by decide) (by exact Cp.nm Cp.hdr))
  refine rA ?_ (x := loc_hlen (by decide) sl_138)
  refine rA ?_ (x := B_lss)
  refine sw_cond (t := 9) rfl (fun hb1 => ?_) (fun hb1 => ?_)
  ·try simp only [q1, q2, q3, q4, q5, q6, q7, q8, q9] at hb1
   have hlt : i < x.length := by omega
   have hk0 := hmono0 i
   have hk1 := hmono (i + 1) k
   rw [mkL_succ hlt] at hk1
   dsimp only at hk1
   have hm0 := mkL_le mkE_Int_le x[i].Values ((mkL mkE_Version (x.take i) k).2 + 1)
   simp only [mkE_Version] at hk1
   refine sw_boxEq (d := 999) (by exact rfl) (mark_split hlt) ?_
   have hA := mark_len (f := mkE_Version) (c := (cVersion (.own 3 1))) (e := 4) (k := k) (fun _ => rfl) (Nat.le_of_lt hlt)
   refine sw_nmB (d := 999) (ms := [PV.val _, PV.sl _ _, PV.val _, PV.val _]) (by exact rfl) fun us hus => ?_
   obtain ⟨v0, v1, v2, v3, rfl⟩ := us_4 hus
   refine sw_skip ?_
   refine sw_seq ?_
   refine sw_block ?_
   refine sw_seq ?_
   refine sO [(0, _), (1, _), (4, _), (5, _)] [(999, (195, _ ++ ([PV.nv _ (PV.val _), PV.nv _ (PV.sl _ _), PV.nv _ (PV.val _), PV.nv _ (PV.val _)] ++ _)))] ?_
   refine sw_reg ?_
   refine rA ?_ (x := loc_copy (.inl rfl) (by decide) (by exact Cp.nm Cp.hdr))
   refine rA ?_ (x := sM)
   refine rA ?_ (x := sM)
   refine rA ?_ (x := loc_hindex (by decide) sl_138 (by exact ⟨⟩) (by exact rfl) (by omega))
   refine rA ?_ (x := lF fd_195_0)
   refine rA ?_ (x := loc_storeM (o := 0) (ag := false) (vs := [PV.val _]) (by omega) ty_3 (by exact ⟨⟩) (by exact rfl) (by exact Nat.le_of_ble_eq_true rfl))
   refine sw_seq ?_
   refine sO [(0, _), (1, _), (4, _), (5, _)] [(999, (195, _ ++ ([PV.val _, PV.nv _ (PV.sl _ _), PV.nv _ (PV.val _), PV.nv _ (PV.val _)] ++ _)))] ?_
   refine sw_reg ?_
   refine rA ?_ (x := sM)
   refine rA ?_ (x := B_add)
   refine rA ?_ (x := sA)
   refine sw_seq ?_
   refine sO [(0, _), (1, _), (4, _), (5, _)] [(999, _)] ?_
   refine sw_regL ?_
   refine swl_step (by exact ⟨rfl, ⟨⟩⟩) (by exact ⟨⟩) (LocG.of rfl (loc_copy (.inl rfl) (by decide) (by exact Cp.nm Cp.hdr))) nofree ?_
   refine swl_step (by exact ⟨rfl, ⟨⟩⟩) (by exact ⟨⟩) (LocG.of rfl (loc_copy (.inl rfl) (by decide) (by exact Cp.sc))) nofree ?_
   refine swl_step (by exact ⟨rfl, rfl, ⟨⟩⟩) (by exact ⟨⟩) (LocG.of rfl (loc_hindex (by decide) sl_138 (by exact ⟨⟩) (by exact rfl) (by omega))) nofree ?_
   refine swl_step (by exact ⟨rfl, ⟨⟩⟩) (by exact ⟨⟩) (LocG.of rfl (loc_field (by decide) fd_195_1)) nofree ?_
   refine swl_step (by exact ⟨rfl, ⟨⟩⟩) (by exact ⟨rfl, ⟨⟩⟩) (LocG.of rfl (loc_loadM (o := 1) (qs := [PV.val _]) (by omega) (by decide) ty_25 (fun _ => rfl) (by exact Nat.le_of_ble_eq_true rfl) (by exact (ToL.cons PV.nv_val ToL.nil)) (by exact (BorL.cons (PV.bor_val _) BorL.nil)))) nofree ?_
   refine swl_step (by exact ⟨rfl, ⟨⟩⟩) (by exact ⟨⟩) (LocG.of rfl (loc_copy (.inl rfl) (by decide) (by exact Cp.sc))) nofree ?_
   refine swl_of (l := [(0, RV.nm _ (RV.hdr 999 _ _)), (1, RV.sv false [PV.val _]), (4, RV.sv false [PV.val _]), (5, RV.sv false [PV.val _]), (19, RV.hdr 999 _ _), (20, RV.sv false [PV.val _]), (21, RV.ptr 999 _), (22, RV.ptr 999 _), (23, RV.sv false [PV.val _]), (24, RV.sv false [PV.val _])]) (b := [(999, (195, _ ++ ([PV.val _, PV.nv _ (PV.sl _ _), PV.nv _ (PV.val _), PV.nv _ (PV.val _)] ++ _)))]) (by exact ⟨rfl, rfl, rfl, rfl, rfl, rfl, rfl, rfl, rfl, rfl, ⟨⟩⟩) (by exact ⟨rfl, ⟨⟩⟩) ?_
   refine swl_ucallM (bx := 999) (L := L0w) (pre := [PV.val _]) (ms := [PV.nv _ (PV.sl _ _)]) (post := [PV.nv _ (PV.val _), PV.nv _ (PV.val _)]) (qr := [(false, [PV.val _])]) (as_ := [(false, [PV.val _])]) (by decide) c_50 rfl (by exact rfl) (by exact (Nm.val Nm.nil)) (by exact ⟨rfl, ⟨⟩⟩) (by exact (And.intro (by exact ⟨⟩) True.intro)) (by exact And.intro (And.intro rfl (ToL.cons (PV.To.refl _) ToL.nil)) True.intro) (by exact rfl) (by exact (Nm.nv Nm.nil)) (by exact (OwnTo.nv OwnTo.nil)) (by exact mark_IntS (by omega) (by omega)) (by exact (OwnFrom.nv OwnFrom.nil)) (fun x hx => hx.elim) (by exact (LclA.cons (RV.lcl_nm RV.lcl_hdr) (LclA.cons (RV.lcl_sv (LclC.cons PV.lcl_val LclC.nil)) (LclA.cons (RV.lcl_sv (LclC.cons PV.lcl_val LclC.nil)) (LclA.cons (RV.lcl_sv (LclC.cons PV.lcl_val LclC.nil)) (LclA.cons RV.lcl_hdr (LclA.cons (RV.lcl_sv (LclC.cons PV.lcl_val LclC.nil)) (LclA.cons RV.lcl_ptr (LclA.cons RV.lcl_ptr (LclA.cons (RV.lcl_sv (LclC.cons PV.lcl_val LclC.nil)) (LclA.cons (RV.lcl_sv (LclC.cons PV.lcl_val LclC.nil)) LclA.nil))))))))))) (by exact (And.intro (.inl rfl) True.intro)) (by exact (LclC.flat (LclC.map fun x => (LclC.cons PV.lcl_val (LclC.cons (PV.lcl_own (LclC.map fun x => (LclC.cons PV.lcl_val LclC.nil))) (LclC.cons PV.lcl_val (LclC.cons PV.lcl_val LclC.nil))))))) (by exact (LclC.cons PV.lcl_val LclC.nil)) (by exact (LclC.cons (PV.lcl_nv PV.lcl_val) (LclC.cons (PV.lcl_nv PV.lcl_val) LclC.nil))) (by exact (LclC.app (LclC.flat (LclC.map fun x => (LclC.cons PV.lcl_val (LclC.cons (PV.lcl_own (LclC.map fun x => (LclC.cons PV.lcl_val LclC.nil))) (LclC.cons PV.lcl_val (LclC.cons PV.lcl_val LclC.nil)))))) LclC.vals)) rfl ?_
   refine swl_step (by exact ⟨rfl, ⟨⟩⟩) (by exact ⟨⟩) (LocG.of rfl (loc_copy (.inr rfl) (by decide) (by exact Cp.sc))) nofree ?_
   refine swl_nil ?_
   refine sw_seq ?_
   refine sO [(0, _), (1, _), (4, _), (5, _)] [(999, _)] ?_
   refine sw_reg ?_
   refine rA ?_ (x := loc_copy (.inl rfl) (by decide) (by exact Cp.nm Cp.hdr))
   refine rA ?_ (x := sM)
   refine rA ?_ (x := sM)
   refine rA ?_ (x := loc_hindex (by decide) sl_138 (by exact ⟨⟩) (by exact rfl) (by omega))
   refine rA ?_ (x := lF fd_195_2)
   refine rA ?_ (x := loc_storeM (o := 2) (ag := false) (vs := [PV.val _]) (by omega) ty_3 (by exact ⟨⟩) (by exact rfl) (by exact Nat.le_of_ble_eq_true rfl))
   refine sw_seq ?_
   refine sO [(0, _), (1, _), (4, _), (5, _)] [(999, (195, _ ++ ([PV.val _, PV.nv _ (PV.sl _ _), PV.val _, PV.nv _ (PV.val _)] ++ _)))] ?_
   refine sw_reg ?_
   refine rA ?_ (x := sM)
   refine rA ?_ (x := B_add)
   refine rA ?_ (x := sA)
   refine sw_seq ?_
   refine sO [(0, _), (1, _), (4, _), (5, _)] [(999, _)] ?_
   refine sw_reg ?_
   refine rA ?_ (x := loc_copy (.inl rfl) (by decide) (by exact Cp.nm Cp.hdr))
   refine rA ?_ (x := sM)
   refine rA ?_ (x := sM)
   refine rA ?_ (x := loc_hindex (by decide) sl_138 (by exact ⟨⟩) (by exact rfl) (by omega))
   refine rA ?_ (x := lF fd_195_3)
   refine rA ?_ (x := loc_storeM (o := 3) (ag := false) (vs := [PV.val _]) (by omega) ty_3 (by exact ⟨⟩) (by exact rfl) (by exact Nat.le_of_ble_eq_true rfl))
   refine sO [(0, _), (1, _), (4, _), (5, _)] [(999, (195, _ ++ ([PV.val _, PV.nv _ (PV.sl _ _), PV.val _, PV.val _] ++ _)))] ?_
   refine sw_reg ?_
   refine rA ?_ (x := sM)
   refine rA ?_ (x := B_add)
   refine rA ?_ (x := sA)
   refine sw_boxTo (d := 999) (by exact rfl) (by exact (OwnTo.same (OwnTo.nv (OwnTo.same (OwnTo.same OwnTo.nil))))) ?_
   refine sO [(0, _), (1, _), (4, _), (5, _)] [(999, (195, _ ++ ([PV.val _, PV.sl _ _, PV.val _, PV.val _] ++ _)))] ?_
   refine sw_reg ?_
   refine rA ?_ (x := sM)
   refine rA ?_ (x := B_add)
   refine rA ?_ (x := sA)
   refine Exists.intro (i + 1) (And.intro (by omega) (And.intro (by omega) (And.intro (And.intro (by exact ⟨rfl, rfl, ⟨⟩⟩) (by exact ⟨⟩)) (And.intro (by exact And.intro (by exact int_eq (by rw [mkL_succ hlt]; rfl)) (And.intro (by exact rfl) (True.intro))) (by exact And.intro (by exact congrArg (fun z => some (195, z)) (mark_join hlt rfl)) (True.intro))))))
  ·try simp only [q1, q2, q3, q4, q5, q6, q7, q8, q9] at hb1
   have hend : i = x.length := by omega
   refine sw_boxEq (d := 999) (by exact rfl) (mark_all hend) ?_
   refine sw_freeze (s := 0) (D := 999) (e := 4) (by exact rfl) (by exact rfl) (by rw [List.length_map, mkL_len, List.length_map]) (by intro c hc; obtain ⟨y, _, rfl⟩ := List.mem_map.1 hc; exact rfl) hjk ?_
   refine sw_exit ?_
   refine sw_seq ?_
   refine sO [(0, _), (1, _), (4, _), (5, _)] [] ?_
   refine sw_reg ?_
   refine rA ?_ (x := sM)
   refine rA ?_ (x := sA)
   refine sw_ret ?_
   exact And.intro (by exact int_eq (by first | rfl | rw [hend, List.take_length])) (Exists.intro _ (And.intro (.inl (by exact rfl)) (And.intro (by exact (Nm.nv Nm.nil)) (by exact (OwnTo.nv OwnTo.nil)))))
theorem mark_VersionSS {x : List (List Version)} {k : Int} (h0k : 0 ≤ k) (hbk : (mkL mkE_VersionS x k).2 ≤ 4611686018427387904) : UCall Tryz.prog 106 false [PV.sl (.own 138 1) (x.map (cVersionS (.own 195 4) (.own 3 1)))] [PV.sl (.own 138 1) ((mkL mkE_VersionS x k).1.map (cVersionS (.own 195 4) (.own 3 1)))] [(false, [PV.val (vI k)])] (vI (mkL mkE_VersionS x k).2) := by
 refine ucall_of Tryz.func106 rfl (Nat.le_of_ble_eq_true rfl) (borA_cons (BorL.cons (PV.bor_val _) BorL.nil) borA_nil) ?_
 intro us h0 w0 Fz0 hus
 obtain ⟨u0, rfl⟩ := len1 hus
 by_cases hx : x = []
 ·subst hx
  refine sw_seq ?_
  refine sO [(0, _), (1, _)] [] ?_
  refine sw_reg ?_
  refine rA ?_ (x := kA)
  refine sw_seq ?_
  refine sw_seq ?_
  refine sO [(0, _), (1, _), (4, _)] [] ?_
  refine sw_reg ?_
  refine rA ?_ (x := kA)
  refine sw_block ?_
  refine sO [(0, _), (1, _), (4, _), (5, _)] [] ?_
  refine sw_loop (l0 := [(0, RV.sv false [PV.nv _ (PV.sl _ _)]), (4, RV.sv false [PV.val _])]) (b0 := []) (fun _ : Unit => True) (fun _ : Unit => [(1, RV.int k), (5, RV.int 0)]) (fun _ : Unit => []) (fun _ : Unit => 0) () True.intro (by exact ⟨rfl, rfl, ⟨⟩⟩) (by exact ⟨⟩) (by exact And.intro (by exact rfl) (And.intro (by exact rfl) (True.intro))) (by exact ⟨⟩) ?_
  rintro _ _
  refine sw_seq ?_
  refine sw_seq ?_
  refine sw_reg ?_
  refine rA ?_ (x := sM)
  refine rA ?_ (x := loc_copy (r' := RV.sv false [PV.sl .v _]) (.inl rfl) (by decide) (by exact Cp.sv (ToL.cons (PV.nv_to PV.to_none) ToL.nil) (BorL.cons (PV.bor_sl _) BorL.nil)))
  refine rA ?_ (x := lN sl_33)
  refine rA ?_ (x := B_lss)
  refine sw_cond (t := 9) rfl (fun hb1 => ?_) (fun hb1 => ?_)
  ·try simp only [q1, q2, q3, q4, q5, q6, q7, q8, q9] at hb1
   simp at hb1
  ·try simp only [q1, q2, q3, q4, q5, q6, q7, q8, q9] at hb1
   refine sw_exit ?_
   refine sw_seq ?_
   refine sO [(0, _), (1, _), (4, _), (5, _)] [] ?_
   refine sw_reg ?_
   refine rA ?_ (x := sM)
   refine rA ?_ (x := sA)
   refine sw_ret ?_
   exact And.intro (by exact rfl) (Exists.intro _ (And.intro (.inl (by exact rfl)) (And.intro (by exact (Nm.nv Nm.nil)) (by exact (OwnTo.nv OwnTo.nil)))))
 ·refine sw_thaw (s := 0) (D := 999) (E := 138) (e := 1) (u := u0) (es := x.map (cVersionS (.own 195 4) (.own 3 1))) (L := L0w) (by exact rfl) (by simpa using hx) (by exact rfl) (by exact rfl) (fun x hx => hx.elim) (by exact And.intro (.inl rfl) (And.intro (.inr (RV.lcl_sv (LclC.cons PV.lcl_val LclC.nil))) True.intro)) True.intro (LclC.map fun x => (LclC.cons (PV.lcl_own (LclC.map fun x => (LclC.cons PV.lcl_val (LclC.cons (PV.lcl_own (LclC.map fun x => (LclC.cons PV.lcl_val LclC.nil))) (LclC.cons PV.lcl_val (LclC.cons PV.lcl_val LclC.nil)))))) LclC.nil)) fun cp jk hl0 hcp hjk => ?_
  have hlm : (x.map (cVersionS (.own 195 4) (.own 3 1))).length = x.length := List.length_map _
  rw [hlm] at hl0 hcp
  have hmono := mkL_take_le mkE_VersionS_le x
  have hmono0 := fun i => mkL_le mkE_VersionS_le (x.take i) k
  refine sw_seq ?_
  refine sO [(0, _), (1, _)] [(999, (138, _))] ?_
  refine sw_reg ?_
  refine rA ?_ (x := kA)
  refine sw_seq ?_
  refine sw_seq ?_
  refine sO [(0, _), (1, _), (4, _)] [(999, _)] ?_
  refine sw_reg ?_
  refine rA ?_ (x := kA)
  refine sw_block ?_
  refine sO [(0, _), (1, _), (4, _), (5, _)] [(999, _)] ?_
  refine sw_loop (l0 := [(0, RV.nm _ (RV.hdr 999 _ _)), (4, RV.sv false [PV.val _])]) (b0 := []) (fun i : Nat => i ≤ x.length) (fun i : Nat => [(1, RV.int (mkL mkE_VersionS (x.take i) k).2), (5, RV.int (i : Int))]) (fun i : Nat => [(999, (138, (((mkL mkE_VersionS (x.take i) k).1 ++ x.drop i).map (cVersionS (.own 195 4) (.own 3 1))).flatten ++ jk.map PV.val))]) (fun i : Nat => x.length - i) 0 (by omega) (by exact ⟨rfl, rfl, ⟨⟩⟩) (by exact ⟨⟩) (by exact And.intro (by exact rfl) (And.intro (by exact rfl) (True.intro))) (by exact And.intro (by exact congrArg (fun z => some (138, z)) mark_zero) (True.intro)) ?_
  rintro i hi
  refine sw_seq ?_
  refine sw_seq ?_
  refine sw_reg ?_
  refine rA ?_ (x := sM)
  refine rA ?_ (x := loc_copy (.inl rfl) (by decide) (by exact Cp.nm Cp.hdr))
  refine rA ?_ (x := loc_hlen (by decide) sl_33)
  refine rA ?_ (x := B_lss)
  refine sw_cond (t := 9) rfl (fun hb1 => ?_) (fun hb1 => ?_)
  ·try simp only [q1, q2, q3, q4, q5, q6, q7, q8, q9] at hb1
   have hlt : i < x.length := by omega
   have hk0 := hmono0 i
   have hk1 := hmono (i + 1) k
   rw [mkL_succ hlt] at hk1
   dsimp only at hk1
   have hm0 := mkL_le mkE_Version_le x[i] (mkL mkE_VersionS (x.take i) k).2
   simp only [mkE_VersionS] at hk1
   refine sw_boxEq (d := 999) (by exact rfl) (mark_split hlt) ?_
   have hA := mark_len (f := mkE_VersionS) (c := (cVersionS (.own 195 4) (.own 3 1))) (e := 1) (k := k) (fun _ => rfl) (Nat.le_of_lt hlt)
   refine sw_nmB (d := 999) (ms := [PV.sl _ _]) (by exact rfl) fun us hus => ?_
   obtain ⟨v0, rfl⟩ := us_1 hus
   refine sw_skip ?_
   refine sw_seq ?_
   refine sw_block ?_
   refine sO [(0, _), (1, _), (4, _), (5, _)] [(999, (138, _ ++ ([PV.nv _ (PV.sl _ _)] ++ _)))] ?_
   refine sw_regL ?_
   refine swl_step (by exact ⟨rfl, ⟨⟩⟩) (by exact ⟨⟩) (LocG.of rfl (loc_copy (.inl rfl) (by decide) (by exact Cp.nm Cp.hdr))) nofree ?_
   refine swl_step (by exact ⟨rfl, ⟨⟩⟩) (by exact ⟨⟩) (LocG.of rfl (loc_copy (.inl rfl) (by decide) (by exact Cp.sc))) nofree ?_
   refine swl_step (by exact ⟨rfl, rfl, ⟨⟩⟩) (by exact ⟨⟩) (LocG.of rfl (loc_hindex (by decide) sl_33 (by exact ⟨⟩) (by exact rfl) (by omega))) nofree ?_
   refine swl_step (by exact ⟨rfl, ⟨⟩⟩) (by exact ⟨rfl, ⟨⟩⟩) (LocG.of rfl (loc_loadM (o := 0) (qs := [PV.val _]) (by omega) (by decide) ty_138 (fun _ => rfl) (by exact Nat.le_of_ble_eq_true rfl) (by exact (ToL.cons PV.nv_val ToL.nil)) (by exact (BorL.cons (PV.bor_val _) BorL.nil)))) nofree ?_
   refine swl_step (by exact ⟨rfl, ⟨⟩⟩) (by exact ⟨⟩) (LocG.of rfl (loc_copy (.inl rfl) (by decide) (by exact Cp.sc))) nofree ?_
   refine swl_of (l := [(0, RV.nm _ (RV.hdr 999 _ _)), (1, RV.sv false [PV.val _]), (4, RV.sv false [PV.val _]), (5, RV.sv false [PV.val _]), (12, RV.hdr 999 _ _), (13, RV.sv false [PV.val _]), (14, RV.ptr 999 _), (15, RV.sv false [PV.val _]), (16, RV.sv false [PV.val _])]) (b := [(999, (138, _ ++ ([PV.nv _ (PV.sl _ _)] ++ _)))]) (by exact ⟨rfl, rfl, rfl, rfl, rfl, rfl, rfl, rfl, rfl, ⟨⟩⟩) (by exact ⟨rfl, ⟨⟩⟩) ?_
   refine swl_ucallM (bx := 999) (L := L0w) (pre := []) (ms := [PV.nv _ (PV.sl _ _)]) (post := []) (qr := [(false, [PV.val _])]) (as_ := [(false, [PV.val _])]) (by decide) c_173 rfl (by exact rfl) (by exact (Nm.val Nm.nil)) (by exact ⟨rfl, ⟨⟩⟩) (by exact (And.intro (by exact ⟨⟩) True.intro)) (by exact And.intro (And.intro rfl (ToL.cons (PV.To.refl _) ToL.nil)) True.intro) (by exact rfl) (by exact (Nm.nv Nm.nil)) (by exact (OwnTo.nv OwnTo.nil)) (by exact mark_VersionS (by omega) (by omega)) (by exact (OwnFrom.nv OwnFrom.nil)) (fun x hx => hx.elim) (by exact (LclA.cons (RV.lcl_nm RV.lcl_hdr) (LclA.cons (RV.lcl_sv (LclC.cons PV.lcl_val LclC.nil)) (LclA.cons (RV.lcl_sv (LclC.cons PV.lcl_val LclC.nil)) (LclA.cons (RV.lcl_sv (LclC.cons PV.lcl_val LclC.nil)) (LclA.cons RV.lcl_hdr (LclA.cons (RV.lcl_sv (LclC.cons PV.lcl_val LclC.nil)) (LclA.cons RV.lcl_ptr (LclA.cons (RV.lcl_sv (LclC.cons PV.lcl_val LclC.nil)) (LclA.cons (RV.lcl_sv (LclC.cons PV.lcl_val LclC.nil)) LclA.nil)))))))))) (by exact (And.intro (.inl rfl) True.intro)) (by exact (LclC.flat (LclC.map fun x => (LclC.cons (PV.lcl_own (LclC.map fun x => (LclC.cons PV.lcl_val (LclC.cons (PV.lcl_own (LclC.map fun x => (LclC.cons PV.lcl_val LclC.nil))) (LclC.cons PV.lcl_val (LclC.cons PV.lcl_val LclC.nil)))))) LclC.nil)))) (by exact LclC.nil) (by exact LclC.nil) (by exact (LclC.app (LclC.flat (LclC.map fun x => (LclC.cons (PV.lcl_own (LclC.map fun x => (LclC.cons PV.lcl_val (LclC.cons (PV.lcl_own (LclC.map fun x => (LclC.cons PV.lcl_val LclC.nil))) (LclC.cons PV.lcl_val (LclC.cons PV.lcl_val LclC.nil)))))) LclC.nil))) LclC.vals)) rfl ?_
   refine swl_step (by exact ⟨rfl, ⟨⟩⟩) (by exact ⟨⟩) (LocG.of rfl (loc_copy (.inr rfl) (by decide) (by exact Cp.sc))) nofree ?_
   refine swl_nil ?_
   refine sw_boxTo (d := 999) (by exact rfl) (by exact (OwnTo.nv OwnTo.nil)) ?_
   refine sO [(0, _), (1, _), (4, _), (5, _)] [(999, (138, _ ++ ([PV.sl _ _] ++ _)))] ?_
   refine sw_reg ?_
   refine rA ?_ (x := sM)
   refine rA ?_ (x := B_add)
   refine rA ?_ (x := sA)
   refine Exists.intro (i + 1) (And.intro (by omega) (And.intro (by omega) (And.intro (And.intro (by exact ⟨rfl, rfl, ⟨⟩⟩) (by exact ⟨⟩)) (And.intro (by exact And.intro (by exact int_eq (by rw [mkL_succ hlt]; rfl)) (And.intro (by exact rfl) (True.intro))) (by exact And.intro (by exact congrArg (fun z => some (138, z)) (mark_join hlt rfl)) (True.intro))))))
  ·try simp only [q1, q2, q3, q4, q5, q6, q7, q8, q9] at hb1
   have hend : i = x.length := by omega
   refine sw_boxEq (d := 999) (by exact rfl) (mark_all hend) ?_
   refine sw_freeze (s := 0) (D := 999) (e := 1) (by exact rfl) (by exact rfl) (by rw [List.length_map, mkL_len, List.length_map]) (by intro c hc; obtain ⟨y, _, rfl⟩ := List.mem_map.1 hc; exact rfl) hjk ?_
   refine sw_exit ?_
   refine sw_seq ?_
   refine sO [(0, _), (1, _), (4, _), (5, _)] [] ?_
   refine sw_reg ?_
   refine rA ?_ (x := sM)
   refine rA ?_ (x := sA)
   refine sw_ret ?_
   exact And.intro (by exact int_eq (by first | rfl | rw [hend, List.take_length])) (Exists.intro _ (And.intro (.inl (by exact rfl)) (And.intro (by exact (Nm.nv Nm.nil)) (by exact (OwnTo.nv OwnTo.nil)))))
theorem mark_Store {x : Store} {k : Int} (h0k : 0 ≤ k) (hbk : (mkV_Store x k).2 ≤ 4611686018427387904) : UCall Tryz.prog 49 true (cStore (.own 138 1) (.own 195 4) (.own 3 1) x) (cStore (.own 138 1) (.own 195 4) (.own 3 1) (mkV_Store x k).1) [(false, [PV.val (vI k)])] (vI (mkV_Store x k).2) := by
 refine ucall_of Tryz.func49 rfl (Nat.le_of_ble_eq_true rfl) (borA_cons (BorL.cons (PV.bor_val _) BorL.nil) borA_nil) ?_
 intro us h0 w0 Fz0 hus
 obtain ⟨v0, v1, rfl⟩ := us_2 hus
 simp only [mkV_Store] at hbk
 have hm0 := mkL_le mkE_VersionS_le x.Segments k
 refine sw_seq ?_
 refine sO [(0, _), (1, _)] [] ?_
 refine sw_reg ?_
 refine RunS.step (by exact ⟨rfl, ⟨⟩⟩) (by exact ⟨⟩) (LocG.of rfl (loc_box (ag := true) (cs := [PV.nv _ (PV.sl _ _), PV.nv _ (PV.val _)]) (by decide) (by exact ⟨⟩))) (free1 (Free.of_ rfl)) ?_
 refine rA ?_ (x := kA)
 refine sw_seq ?_
 refine sO [(1, _), (2, _), (4, _)] [(2, (35, [PV.nv _ (PV.sl _ _), PV.nv _ (PV.val _)]))] ?_
 refine sw_regL ?_
 refine swl_step (by exact ⟨rfl, ⟨⟩⟩) (by exact ⟨⟩) (LocG.of rfl (loc_field (by decide) fd_35_0)) nofree ?_
 refine swl_step (by exact ⟨rfl, ⟨⟩⟩) (by exact ⟨rfl, ⟨⟩⟩) (LocG.of rfl (loc_load (qs := [PV.val _]) (by decide) ty_33 (fun _ => rfl) (by exact Nat.le_of_ble_eq_true rfl) (by exact (ToL.cons PV.nv_val ToL.nil)) (by exact (BorL.cons (PV.bor_val _) BorL.nil)))) nofree ?_
 refine swl_step (by exact ⟨rfl, ⟨⟩⟩) (by exact ⟨⟩) (LocG.of rfl (loc_copy (.inl rfl) (by decide) (by exact Cp.sc))) nofree ?_
 refine swl_of (l := [(1, RV.sv false [PV.val _]), (2, RV.ptr 2 0), (4, RV.sv false [PV.val _]), (5, RV.ptr 2 0), (6, RV.sv false [PV.val _]), (7, RV.sv false [PV.val _])]) (b := [(2, (35, [PV.nv _ (PV.sl _ _), PV.nv _ (PV.val _)]))]) (by exact ⟨rfl, rfl, rfl, rfl, rfl, rfl, ⟨⟩⟩) (by exact ⟨rfl, ⟨⟩⟩) ?_
 refine swl_ucallB (bx := 2) (L := L0w) (A := []) (ms := [PV.nv _ (PV.sl _ _)]) (B := [PV.nv _ (PV.val _)]) (qr := [(false, [PV.val _])]) (as_ := [(false, [PV.val _])]) (by decide) c_106 rfl (by exact rfl) (by exact (Nm.val Nm.nil)) (by exact ⟨rfl, ⟨⟩⟩) (by exact (And.intro (by exact ⟨⟩) True.intro)) (by exact And.intro (And.intro rfl (ToL.cons (PV.To.refl _) ToL.nil)) True.intro) (by exact rfl) (by exact (Nm.nv Nm.nil)) (by exact (OwnTo.nv OwnTo.nil)) (by exact mark_VersionSS (by omega) (by omega)) (by exact (OwnFrom.nv OwnFrom.nil)) (fun x hx => hx.elim) (by exact (LclA.cons (RV.lcl_sv (LclC.cons PV.lcl_val LclC.nil)) (LclA.cons RV.lcl_ptr (LclA.cons (RV.lcl_sv (LclC.cons PV.lcl_val LclC.nil)) (LclA.cons RV.lcl_ptr (LclA.cons (RV.lcl_sv (LclC.cons PV.lcl_val LclC.nil)) (LclA.cons (RV.lcl_sv (LclC.cons PV.lcl_val LclC.nil)) LclA.nil))))))) (by exact (And.intro (.inl rfl) True.intro)) (by exact LclC.nil) (by exact (LclC.cons (PV.lcl_nv PV.lcl_val) LclC.nil)) rfl ?_
 refine swl_step (by exact ⟨rfl, ⟨⟩⟩) (by exact ⟨⟩) (LocG.of rfl (loc_copy (.inr rfl) (by decide) (by exact Cp.sc))) nofree ?_
 refine swl_nil ?_
 refine sw_seq ?_
 refine sO [(1, _), (2, _), (4, _)] [(2, _)] ?_
 refine sw_reg ?_
 refine rA ?_ (x := sM)
 refine rA ?_ (x := sA)
 refine sw_ret ?_
 exact And.intro (by exact rfl) (Exists.intro _ (And.intro (.inr (Exists.intro 2 (Exists.intro _ (by exact rfl)))) (And.intro (by exact (Nm.nv (Nm.nv Nm.nil))) (by exact (OwnTo.nv (OwnTo.nv OwnTo.nil))))))
theorem mark_ActiveS {x : List Active} {k : Int} (h0k : 0 ≤ k) (hbk : (mkL mkE_Active x k).2 ≤ 4611686018427387904) : UCall Tryz.prog 51 false [PV.sl (.own 85 10) (x.map (cActive (.own 165 3) (.own 3 1) (.own 3 1) (.own 53 2) (.own 3 1)))] [PV.sl (.own 85 10) ((mkL mkE_Active x k).1.map (cActive (.own 165 3) (.own 3 1) (.own 3 1) (.own 53 2) (.own 3 1)))] [(false, [PV.val (vI k)])] (vI (mkL mkE_Active x k).2) := by
 refine ucall_of Tryz.func51 rfl (Nat.le_of_ble_eq_true rfl) (borA_cons (BorL.cons (PV.bor_val _) BorL.nil) borA_nil) ?_
 intro us h0 w0 Fz0 hus
 obtain ⟨u0, rfl⟩ := len1 hus
 by_cases hx : x = []
 ·subst hx
  refine sw_seq ?_
  refine sO [(0, _), (1, _)] [] ?_
  refine sw_reg ?_
  refine rA ?_ (x := kA)
  refine sw_seq ?_
  refine sw_seq ?_
  refine sO [(0, _), (1, _), (4, _)] [] ?_
  refine sw_reg ?_
  refine rA ?_ (x := kA)
  refine sw_block ?_
  refine sO [(0, _), (1, _), (4, _), (5, _)] [] ?_
  refine sw_loop (l0 := [(0, RV.sv false [PV.nv _ (PV.sl _ _)]), (4, RV.sv false [PV.val _])]) (b0 := []) (fun _ : Unit => True) (fun _ : Unit => [(1, RV.int k), (5, RV.int 0)]) (fun _ : Unit => []) (fun _ : Unit => 0) () True.intro (by exact ⟨rfl, rfl, ⟨⟩⟩) (by exact ⟨⟩) (by exact And.intro (by exact rfl) (And.intro (by exact rfl) (True.intro))) (by exact ⟨⟩) ?_
  rintro _ _
  refine sw_seq ?_
  refine sw_seq ?_
  refine sw_reg ?_
  refine rA ?_ (x := sM)
  refine rA ?_ (x := loc_copy (r' := RV.sv false [PV.sl .v _]) (.inl rfl) (by decide) (by exact Cp.sv (ToL.cons (PV.nv_to PV.to_none) ToL.nil) (BorL.cons (PV.bor_sl _) BorL.nil)))
  refine rA ?_ (x := lN sl_36)
  refine rA ?_ (x := B_lss)
  refine sw_cond (t := 9) rfl (fun hb1 => ?_) (fun hb1 => ?_)
  ·try simp only [q1, q2, q3, q4, q5, q6, q7, q8, q9] at hb1
   simp at hb1
  ·try simp only [q1, q2, q3, q4, q5, q6, q7, q8, q9] at hb1
   refine sw_exit ?_
   refine sw_seq ?_
   refine sO [(0, _), (1, _), (4, _), (5, _)] [] ?_
   refine sw_reg ?_
   refine rA ?_ (x := sM)
   refine rA ?_ (x := sA)
   refine sw_ret ?_
   exact And.intro (by exact rfl) (Exists.intro _ (And.intro (.inl (by exact rfl)) (And.intro (by exact (Nm.nv Nm.nil)) (by exact (OwnTo.nv OwnTo.nil)))))
 ·refine sw_thaw (s := 0) (D := 999) (E := 85) (e := 10) (u := u0) (es := x.map (cActive (.own 165 3) (.own 3 1) (.own 3 1) (.own 53 2) (.own 3 1))) (L := L0w) (by exact rfl) (by simpa using hx) (by exact rfl) (by exact rfl) (fun x hx => hx.elim) (by exact And.intro (.inl rfl) (And.intro (.inr (RV.lcl_sv (LclC.cons PV.lcl_val LclC.nil))) True.intro)) True.intro (LclC.map fun x => (LclC.cons PV.lcl_val (LclC.cons PV.lcl_val (LclC.cons (PV.lcl_own (LclC.map fun x => (LclC.cons PV.lcl_val (LclC.cons PV.lcl_val (LclC.cons PV.lcl_val LclC.nil))))) (LclC.cons (PV.lcl_own (LclC.map fun x => (LclC.cons PV.lcl_val LclC.nil))) (LclC.cons PV.lcl_val (LclC.cons (PV.lcl_own (LclC.map fun x => (LclC.cons PV.lcl_val LclC.nil))) (LclC.cons PV.lcl_val (LclC.cons PV.lcl_val (LclC.cons PV.lcl_val (LclC.cons (PV.lcl_own (LclC.map fun x => (LclC.cons PV.lcl_val (LclC.cons (PV.lcl_own (LclC.map fun x => (LclC.cons PV.lcl_val LclC.nil))) LclC.nil)))) LclC.nil))))))))))) fun cp jk hl0 hcp hjk => ?_
  have hlm : (x.map (cActive (.own 165 3) (.own 3 1) (.own 3 1) (.own 53 2) (.own 3 1))).length = x.length := List.length_map _
  rw [hlm] at hl0 hcp
  have hmono := mkL_take_le mkE_Active_le x
  have hmono0 := fun i => mkL_le mkE_Active_le (x.take i) k
  refine sw_seq ?_
  refine sO [(0, _), (1, _)] [(999, (85, _))] ?_
  refine sw_reg ?_
  refine rA ?_ (x := kA)
  refine sw_seq ?_
  refine sw_seq ?_
  refine sO [(0, _), (1, _), (4, _)] [(999, _)] ?_
  refine sw_reg ?_
  refine rA ?_ (x := kA)
  refine sw_block ?_
  refine sO [(0, _), (1, _), (4, _), (5, _)] [(999, _)] ?_
  refine sw_loop (l0 := [(0, RV.nm _ (RV.hdr 999 _ _)), (4, RV.sv false [PV.val _])]) (b0 := []) (fun i : Nat => i ≤ x.length) (fun i : Nat => [(1, RV.int (mkL mkE_Active (x.take i) k).2), (5, RV.int (i : Int))]) (fun i : Nat => [(999, (85, (((mkL mkE_Active (x.take i) k).1 ++ x.drop i).map (cActive (.own 165 3) (.own 3 1) (.own 3 1) (.own 53 2) (.own 3 1))).flatten ++ jk.map PV.val))]) (fun i : Nat => x.length - i) 0 (by omega) (by exact ⟨rfl, rfl, ⟨⟩⟩) (by exact ⟨⟩) (by exact And.intro (by exact rfl) (And.intro (by exact rfl) (True.intro))) (by exact And.intro (by exact congrArg (fun z => some (85, z)) mark_zero) (True.intro)) ?_
  rintro i hi
  refine sw_seq ?_
  refine sw_seq ?_
  refine sw_reg ?_
  refine rA ?_ (x := sM)
  refine rA ?_ (x := loc_copy (.inl rfl) (by decide) (by exact Cp.nm Cp.hdr))
  refine rA ?_ (x := loc_hlen (by decide) sl_36)
  refine rA ?_ (x := B_lss)
  refine sw_cond (t := 9) rfl (fun hb1 => ?_) (fun hb1 => ?_)
  ·try simp only [q1, q2, q3, q4, q5, q6, q7, q8, q9] at hb1
   have hlt : i < x.length := by omega
   have hk0 := hmono0 i
   have hk1 := hmono (i + 1) k
   rw [mkL_succ hlt] at hk1
   dsimp only at hk1
   have hm0 := mkL_le mkE_Cond_le x[i].Query.Conds (((mkL mkE_Active (x.take i) k).2 + 1) + 1)
   have hm1 := mkL_le mkE_Int_le x[i].Query.Out (mkL mkE_Cond x[i].Query.Conds (((mkL mkE_Active (x.take i) k).2 + 1) + 1)).2
   have hm2 := mkL_le mkE_Int_le x[i].Todo ((mkL mkE_Int x[i].Query.Out (mkL mkE_Cond x[i].Query.Conds (((mkL mkE_Active (x.take i) k).2 + 1) + 1)).2).2 + 1)
   have hm3 := mkL_le mkE_Row_le x[i].Rows ((((mkL mkE_Int x[i].Todo ((mkL mkE_Int x[i].Query.Out (mkL mkE_Cond x[i].Query.Conds (((mkL mkE_Active (x.take i) k).2 + 1) + 1)).2).2 + 1)).2 + 1) + 1) + 1)
   simp only [mkE_Active] at hk1
   refine sw_boxEq (d := 999) (by exact rfl) (mark_split hlt) ?_
   have hA := mark_len (f := mkE_Active) (c := (cActive (.own 165 3) (.own 3 1) (.own 3 1) (.own 53 2) (.own 3 1))) (e := 10) (k := k) (fun _ => rfl) (Nat.le_of_lt hlt)
   refine sw_nmB (d := 999) (ms := [PV.val _, PV.val _, PV.sl _ _, PV.sl _ _, PV.val _, PV.sl _ _, PV.val _, PV.val _, PV.val _, PV.sl _ _]) (by exact rfl) fun us hus => ?_
   obtain ⟨v0, v1, v2, v3, v4, v5, v6, v7, v8, v9, rfl⟩ := us_10 hus
   refine sw_skip ?_
   refine sw_seq ?_
   refine sw_block ?_
   refine sw_seq ?_
   refine sO [(0, _), (1, _), (4, _), (5, _)] [(999, (85, _ ++ ([PV.nv _ (PV.val _), PV.nv _ (PV.val _), PV.nv _ (PV.sl _ _), PV.nv _ (PV.sl _ _), PV.nv _ (PV.val _), PV.nv _ (PV.sl _ _), PV.nv _ (PV.val _), PV.nv _ (PV.val _), PV.nv _ (PV.val _), PV.nv _ (PV.sl _ _)] ++ _)))] ?_
   refine sw_reg ?_
   refine rA ?_ (x := loc_copy (.inl rfl) (by decide) (by exact Cp.nm Cp.hdr))
   refine rA ?_ (x := sM)
   refine rA ?_ (x := sM)
   refine rA ?_ (x := loc_hindex (by decide) sl_36 (by exact ⟨⟩) (by exact rfl) (by omega))
   refine rA ?_ (x := lF fd_85_0)
   refine rA ?_ (x := lF fd_51_0)
   refine rA ?_ (x := loc_storeM (o := 0) (ag := false) (vs := [PV.val _]) (by omega) ty_3 (by exact ⟨⟩) (by exact rfl) (by exact Nat.le_of_ble_eq_true rfl))
   refine sw_seq ?_
   refine sO [(0, _), (1, _), (4, _), (5, _)] [(999, (85, _ ++ ([PV.val _, PV.nv _ (PV.val _), PV.nv _ (PV.sl _ _), PV.nv _ (PV.sl _ _), PV.nv _ (PV.val _), PV.nv _ (PV.sl _ _), PV.nv _ (PV.val _), PV.nv _ (PV.val _), PV.nv _ (PV.val _), PV.nv _ (PV.sl _ _)] ++ _)))] ?_
   refine sw_reg ?_
   refine rA ?_ (x := sM)
   refine rA ?_ (x := B_add)
   refine rA ?_ (x := sA)
   refine sw_seq ?_
   refine sO [(0, _), (1, _), (4, _), (5, _)] [(999, _)] ?_
   refine sw_reg ?_
   refine rA ?_ (x := loc_copy (.inl rfl) (by decide) (by exact Cp.nm Cp.hdr))
   refine rA ?_ (x := sM)
   refine rA ?_ (x := sM)
   refine rA ?_ (x := loc_hindex (by decide) sl_36 (by exact ⟨⟩) (by exact rfl) (by omega))
   refine rA ?_ (x := lF fd_85_0)
   refine rA ?_ (x := lF fd_51_1)
   refine rA ?_ (x := loc_storeM (o := 1) (ag := false) (vs := [PV.val _]) (by omega) ty_3 (by exact ⟨⟩) (by exact rfl) (by exact Nat.le_of_ble_eq_true rfl))
   refine sw_seq ?_
   refine sO [(0, _), (1, _), (4, _), (5, _)] [(999, (85, _ ++ ([PV.val _, PV.val _, PV.nv _ (PV.sl _ _), PV.nv _ (PV.sl _ _), PV.nv _ (PV.val _), PV.nv _ (PV.sl _ _), PV.nv _ (PV.val _), PV.nv _ (PV.val _), PV.nv _ (PV.val _), PV.nv _ (PV.sl _ _)] ++ _)))] ?_
   refine sw_reg ?_
   refine rA ?_ (x := sM)
   refine rA ?_ (x := B_add)
   refine rA ?_ (x := sA)
   refine sw_seq ?_
   refine sO [(0, _), (1, _), (4, _), (5, _)] [(999, _)] ?_
   refine sw_regL ?_
   refine swl_step (by exact ⟨rfl, ⟨⟩⟩) (by exact ⟨⟩) (LocG.of rfl (loc_copy (.inl rfl) (by decide) (by exact Cp.nm Cp.hdr))) nofree ?_
   refine swl_step (by exact ⟨rfl, ⟨⟩⟩) (by exact ⟨⟩) (LocG.of rfl (loc_copy (.inl rfl) (by decide) (by exact Cp.sc))) nofree ?_
   refine swl_step (by exact ⟨rfl, rfl, ⟨⟩⟩) (by exact ⟨⟩) (LocG.of rfl (loc_hindex (by decide) sl_36 (by exact ⟨⟩) (by exact rfl) (by omega))) nofree ?_
   refine swl_step (by exact ⟨rfl, ⟨⟩⟩) (by exact ⟨⟩) (LocG.of rfl (loc_field (by decide) fd_85_0)) nofree ?_
   refine swl_step (by exact ⟨rfl, ⟨⟩⟩) (by exact ⟨⟩) (LocG.of rfl (loc_field (by decide) fd_51_2)) nofree ?_
   refine swl_step (by exact ⟨rfl, ⟨⟩⟩) (by exact ⟨rfl, ⟨⟩⟩) (LocG.of rfl (loc_loadM (o := 2) (qs := [PV.val _]) (by omega) (by decide) ty_49 (fun _ => rfl) (by exact Nat.le_of_ble_eq_true rfl) (by exact (ToL.cons PV.nv_val ToL.nil)) (by exact (BorL.cons (PV.bor_val _) BorL.nil)))) nofree ?_
   refine swl_step (by exact ⟨rfl, ⟨⟩⟩) (by exact ⟨⟩) (LocG.of rfl (loc_copy (.inl rfl) (by decide) (by exact Cp.sc))) nofree ?_
   refine swl_of (l := [(0, RV.nm _ (RV.hdr 999 _ _)), (1, RV.sv false [PV.val _]), (4, RV.sv false [PV.val _]), (5, RV.sv false [PV.val _]), (28, RV.hdr 999 _ _), (29, RV.sv false [PV.val _]), (30, RV.ptr 999 _), (31, RV.ptr 999 _), (32, RV.ptr 999 _), (33, RV.sv false [PV.val _]), (34, RV.sv false [PV.val _])]) (b := [(999, (85, _ ++ ([PV.val _, PV.val _, PV.nv _ (PV.sl _ _), PV.nv _ (PV.sl _ _), PV.nv _ (PV.val _), PV.nv _ (PV.sl _ _), PV.nv _ (PV.val _), PV.nv _ (PV.val _), PV.nv _ (PV.val _), PV.nv _ (PV.sl _ _)] ++ _)))]) (by exact ⟨rfl, rfl, rfl, rfl, rfl, rfl, rfl, rfl, rfl, rfl, rfl, ⟨⟩⟩) (by exact ⟨rfl, ⟨⟩⟩) ?_
   refine swl_ucallM (bx := 999) (L := L0w) (pre := [PV.val _, PV.val _]) (ms := [PV.nv _ (PV.sl _ _)]) (post := [PV.nv _ (PV.sl _ _), PV.nv _ (PV.val _), PV.nv _ (PV.sl _ _), PV.nv _ (PV.val _), PV.nv _ (PV.val _), PV.nv _ (PV.val _), PV.nv _ (PV.sl _ _)]) (qr := [(false, [PV.val _])]) (as_ := [(false, [PV.val _])]) (by decide) c_107 rfl (by exact rfl) (by exact (Nm.val Nm.nil)) (by exact ⟨rfl, ⟨⟩⟩) (by exact (And.intro (by exact ⟨⟩) True.intro)) (by exact And.intro (And.intro rfl (ToL.cons (PV.To.refl _) ToL.nil)) True.intro) (by exact rfl) (by exact (Nm.nv Nm.nil)) (by exact (OwnTo.nv OwnTo.nil)) (by exact mark_CondS (by omega) (by omega)) (by exact (OwnFrom.nv OwnFrom.nil)) (fun x hx => hx.elim) (by exact (LclA.cons (RV.lcl_nm RV.lcl_hdr) (LclA.cons (RV.lcl_sv (LclC.cons PV.lcl_val LclC.nil)) (LclA.cons (RV.lcl_sv (LclC.cons PV.lcl_val LclC.nil)) (LclA.cons (RV.lcl_sv (LclC.cons PV.lcl_val LclC.nil)) (LclA.cons RV.lcl_hdr (LclA.cons (RV.lcl_sv (LclC.cons PV.lcl_val LclC.nil)) (LclA.cons RV.lcl_ptr (LclA.cons RV.lcl_ptr (LclA.cons RV.lcl_ptr (LclA.cons (RV.lcl_sv (LclC.cons PV.lcl_val LclC.nil)) (LclA.cons (RV.lcl_sv (LclC.cons PV.lcl_val LclC.nil)) LclA.nil)))))))))))) (by exact (And.intro (.inl rfl) True.intro)) (by exact (LclC.flat (LclC.map fun x => (LclC.cons PV.lcl_val (LclC.cons PV.lcl_val (LclC.cons (PV.lcl_own (LclC.map fun x => (LclC.cons PV.lcl_val (LclC.cons PV.lcl_val (LclC.cons PV.lcl_val LclC.nil))))) (LclC.cons (PV.lcl_own (LclC.map fun x => (LclC.cons PV.lcl_val LclC.nil))) (LclC.cons PV.lcl_val (LclC.cons (PV.lcl_own (LclC.map fun x => (LclC.cons PV.lcl_val LclC.nil))) (LclC.cons PV.lcl_val (LclC.cons PV.lcl_val (LclC.cons PV.lcl_val (LclC.cons (PV.lcl_own (LclC.map fun x => (LclC.cons PV.lcl_val (LclC.cons (PV.lcl_own (LclC.map fun x => (LclC.cons PV.lcl_val LclC.nil))) LclC.nil)))) LclC.nil))))))))))))) (by exact (LclC.cons PV.lcl_val (LclC.cons PV.lcl_val LclC.nil))) (by exact (LclC.cons (PV.lcl_nv (PV.lcl_own (LclC.map fun x => (LclC.cons PV.lcl_val LclC.nil)))) (LclC.cons (PV.lcl_nv PV.lcl_val) (LclC.cons (PV.lcl_nv (PV.lcl_own (LclC.map fun x => (LclC.cons PV.lcl_val LclC.nil)))) (LclC.cons (PV.lcl_nv PV.lcl_val) (LclC.cons (PV.lcl_nv PV.lcl_val) (LclC.cons (PV.lcl_nv PV.lcl_val) (LclC.cons (PV.lcl_nv (PV.lcl_own (LclC.map fun x => (LclC.cons PV.lcl_val (LclC.cons (PV.lcl_own (LclC.map fun x => (LclC.cons PV.lcl_val LclC.nil))) LclC.nil))))) LclC.nil)))))))) (by exact (LclC.app (LclC.flat (LclC.map fun x => (LclC.cons PV.lcl_val (LclC.cons PV.lcl_val (LclC.cons (PV.lcl_own (LclC.map fun x => (LclC.cons PV.lcl_val (LclC.cons PV.lcl_val (LclC.cons PV.lcl_val LclC.nil))))) (LclC.cons (PV.lcl_own (LclC.map fun x => (LclC.cons PV.lcl_val LclC.nil))) (LclC.cons PV.lcl_val (LclC.cons (PV.lcl_own (LclC.map fun x => (LclC.cons PV.lcl_val LclC.nil))) (LclC.cons PV.lcl_val (LclC.cons PV.lcl_val (LclC.cons PV.lcl_val (LclC.cons (PV.lcl_own (LclC.map fun x => (LclC.cons PV.lcl_val (LclC.cons (PV.lcl_own (LclC.map fun x => (LclC.cons PV.lcl_val LclC.nil))) LclC.nil)))) LclC.nil)))))))))))) LclC.vals)) rfl ?_
   refine swl_step (by exact ⟨rfl, ⟨⟩⟩) (by exact ⟨⟩) (LocG.of rfl (loc_copy (.inr rfl) (by decide) (by exact Cp.sc))) nofree ?_
   refine swl_nil ?_
   refine sw_seq ?_
   refine sO [(0, _), (1, _), (4, _), (5, _)] [(999, _)] ?_
   refine sw_regL ?_
   refine swl_step (by exact ⟨rfl, ⟨⟩⟩) (by exact ⟨⟩) (LocG.of rfl (loc_copy (.inl rfl) (by decide) (by exact Cp.nm Cp.hdr))) nofree ?_
   refine swl_step (by exact ⟨rfl, ⟨⟩⟩) (by exact ⟨⟩) (LocG.of rfl (loc_copy (.inl rfl) (by decide) (by exact Cp.sc))) nofree ?_
   refine swl_step (by exact ⟨rfl, rfl, ⟨⟩⟩) (by exact ⟨⟩) (LocG.of rfl (loc_hindex (by decide) sl_36 (by exact ⟨⟩) (by exact rfl) (by omega))) nofree ?_
   refine swl_step (by exact ⟨rfl, ⟨⟩⟩) (by exact ⟨⟩) (LocG.of rfl (loc_field (by decide) fd_85_0)) nofree ?_
   refine swl_step (by exact ⟨rfl, ⟨⟩⟩) (by exact ⟨⟩) (LocG.of rfl (loc_field (by decide) fd_51_3)) nofree ?_
   refine swl_step (by exact ⟨rfl, ⟨⟩⟩) (by exact ⟨rfl, ⟨⟩⟩) (LocG.of rfl (loc_loadM (o := 3) (qs := [PV.val _]) (by omega) (by decide) ty_25 (fun _ => rfl) (by exact Nat.le_of_ble_eq_true rfl) (by exact (ToL.cons PV.nv_val ToL.nil)) (by exact (BorL.cons (PV.bor_val _) BorL.nil)))) nofree ?_
   refine swl_step (by exact ⟨rfl, ⟨⟩⟩) (by exact ⟨⟩) (LocG.of rfl (loc_copy (.inl rfl) (by decide) (by exact Cp.sc))) nofree ?_
   refine swl_of (l := [(0, RV.nm _ (RV.hdr 999 _ _)), (1, RV.sv false [PV.val _]), (4, RV.sv false [PV.val _]), (5, RV.sv false [PV.val _]), (36, RV.hdr 999 _ _), (37, RV.sv false [PV.val _]), (38, RV.ptr 999 _), (39, RV.ptr 999 _), (40, RV.ptr 999 _), (41, RV.sv false [PV.val _]), (42, RV.sv false [PV.val _])]) (b := [(999, (85, _ ++ ([PV.val _, PV.val _, PV.nv _ (PV.sl _ _), PV.nv _ (PV.sl _ _), PV.nv _ (PV.val _), PV.nv _ (PV.sl _ _), PV.nv _ (PV.val _), PV.nv _ (PV.val _), PV.nv _ (PV.val _), PV.nv _ (PV.sl _ _)] ++ _)))]) (by exact ⟨rfl, rfl, rfl, rfl, rfl, rfl, rfl, rfl, rfl, rfl, rfl, ⟨⟩⟩) (by exact ⟨rfl, ⟨⟩⟩) ?_
   refine swl_ucallM (bx := 999) (L := L0w) (pre := [PV.val _, PV.val _, PV.nv _ (PV.sl _ _)]) (ms := [PV.nv _ (PV.sl _ _)]) (post := [PV.nv _ (PV.val _), PV.nv _ (PV.sl _ _), PV.nv _ (PV.val _), PV.nv _ (PV.val _), PV.nv _ (PV.val _), PV.nv _ (PV.sl _ _)]) (qr := [(false, [PV.val _])]) (as_ := [(false, [PV.val _])]) (by decide) c_50 rfl (by exact rfl) (by exact (Nm.val Nm.nil)) (by exact ⟨rfl, ⟨⟩⟩) (by exact (And.intro (by exact ⟨⟩) True.intro)) (by exact And.intro (And.intro rfl (ToL.cons (PV.To.refl _) ToL.nil)) True.intro) (by exact rfl) (by exact (Nm.nv Nm.nil)) (by exact (OwnTo.nv OwnTo.nil)) (by exact mark_IntS (by omega) (by omega)) (by exact (OwnFrom.nv OwnFrom.nil)) (fun x hx => hx.elim) (by exact (LclA.cons (RV.lcl_nm RV.lcl_hdr) (LclA.cons (RV.lcl_sv (LclC.cons PV.lcl_val LclC.nil)) (LclA.cons (RV.lcl_sv (LclC.cons PV.lcl_val LclC.nil)) (LclA.cons (RV.lcl_sv (LclC.cons PV.lcl_val LclC.nil)) (LclA.cons RV.lcl_hdr (LclA.cons (RV.lcl_sv (LclC.cons PV.lcl_val LclC.nil)) (LclA.cons RV.lcl_ptr (LclA.cons RV.lcl_ptr (LclA.cons RV.lcl_ptr (LclA.cons (RV.lcl_sv (LclC.cons PV.lcl_val LclC.nil)) (LclA.cons (RV.lcl_sv (LclC.cons PV.lcl_val LclC.nil)) LclA.nil)))))))))))) (by exact (And.intro (.inl rfl) True.intro)) (by exact (LclC.flat (LclC.map fun x => (LclC.cons PV.lcl_val (LclC.cons PV.lcl_val (LclC.cons (PV.lcl_own (LclC.map fun x => (LclC.cons PV.lcl_val (LclC.cons PV.lcl_val (LclC.cons PV.lcl_val LclC.nil))))) (LclC.cons (PV.lcl_own (LclC.map fun x => (LclC.cons PV.lcl_val LclC.nil))) (LclC.cons PV.lcl_val (LclC.cons (PV.lcl_own (LclC.map fun x => (LclC.cons PV.lcl_val LclC.nil))) (LclC.cons PV.lcl_val (LclC.cons PV.lcl_val (LclC.cons PV.lcl_val (LclC.cons (PV.lcl_own (LclC.map fun x => (LclC.cons PV.lcl_val (LclC.cons (PV.lcl_own (LclC.map fun x => (LclC.cons PV.lcl_val LclC.nil))) LclC.nil)))) LclC.nil))))))))))))) (by exact (LclC.cons PV.lcl_val (LclC.cons PV.lcl_val (LclC.cons (PV.lcl_nv (PV.lcl_own (LclC.map fun x => (LclC.cons PV.lcl_val (LclC.cons PV.lcl_val (LclC.cons PV.lcl_val LclC.nil)))))) LclC.nil)))) (by exact (LclC.cons (PV.lcl_nv PV.lcl_val) (LclC.cons (PV.lcl_nv (PV.lcl_own (LclC.map fun x => (LclC.cons PV.lcl_val LclC.nil)))) (LclC.cons (PV.lcl_nv PV.lcl_val) (LclC.cons (PV.lcl_nv PV.lcl_val) (LclC.cons (PV.lcl_nv PV.lcl_val) (LclC.cons (PV.lcl_nv (PV.lcl_own (LclC.map fun x => (LclC.cons PV.lcl_val (LclC.cons (PV.lcl_own (LclC.map fun x => (LclC.cons PV.lcl_val LclC.nil))) LclC.nil))))) LclC.nil))))))) (by exact (LclC.app (LclC.flat (LclC.map fun x => (LclC.cons PV.lcl_val (LclC.cons PV.lcl_val (LclC.cons (PV.lcl_own (LclC.map fun x => (LclC.cons PV.lcl_val (LclC.cons PV.lcl_val (LclC.cons PV.lcl_val LclC.nil))))) (LclC.cons (PV.lcl_own (LclC.map fun x => (LclC.cons PV.lcl_val LclC.nil))) (LclC.cons PV.lcl_val (LclC.cons (PV.lcl_own (LclC.map fun x => (LclC.cons PV.lcl_val LclC.nil))) (LclC.cons PV.lcl_val (LclC.cons PV.lcl_val (LclC.cons PV.lcl_val (LclC.cons (PV.lcl_own (LclC.map fun x => (LclC.cons PV.lcl_val (LclC.cons (PV.lcl_own (LclC.map fun x => (LclC.cons PV.lcl_val LclC.nil))) LclC.nil)))) LclC.nil)))))))))))) LclC.vals)) rfl ?_
   refine swl_step (by exact ⟨rfl, ⟨⟩⟩) (by exact ⟨⟩) (LocG.of rfl (loc_copy (.inr rfl) (by decide) (by exact Cp.sc))) nofree ?_
   refine swl_nil ?_
   refine sw_seq ?_
   refine sO [(0, _), (1, _), (4, _), (5, _)] [(999, _)] ?_
   refine sw_reg ?_
   refine rA ?_ (x := loc_copy (.inl rfl) (by decide) (by exact Cp.nm Cp.hdr))
   refine rA ?_ (x := sM)
   refine rA ?_ (x := sM)
   refine rA ?_ (x := loc_hindex (by decide) sl_36 (by exact ⟨⟩) (by exact rfl) (by omega))
   refine rA ?_ (x := lF fd_85_1)
   refine rA ?_ (x := loc_storeM (o := 4) (ag := false) (vs := [PV.val _]) (by omega) ty_3 (by exact ⟨⟩) (by exact rfl) (by exact Nat.le_of_ble_eq_true rfl))
   refine sw_seq ?_
   refine sO [(0, _), (1, _), (4, _), (5, _)] [(999, (85, _ ++ ([PV.val _, PV.val _, PV.nv _ (PV.sl _ _), PV.nv _ (PV.sl _ _), PV.val _, PV.nv _ (PV.sl _ _), PV.nv _ (PV.val _), PV.nv _ (PV.val _), PV.nv _ (PV.val _), PV.nv _ (PV.sl _ _)] ++ _)))] ?_
   refine sw_reg ?_
   refine rA ?_ (x := sM)
   refine rA ?_ (x := B_add)
   refine rA ?_ (x := sA)
   refine sw_seq ?_
   refine sO [(0, _), (1, _), (4, _), (5, _)] [(999, _)] ?_
   refine sw_regL ?_
   refine swl_step (by exact ⟨rfl, ⟨⟩⟩) (by exact ⟨⟩) (LocG.of rfl (loc_copy (.inl rfl) (by decide) (by exact Cp.nm Cp.hdr))) nofree ?_
   refine swl_step (by exact ⟨rfl, ⟨⟩⟩) (by exact ⟨⟩) (LocG.of rfl (loc_copy (.inl rfl) (by decide) (by exact Cp.sc))) nofree ?_
   refine swl_step (by exact ⟨rfl, rfl, ⟨⟩⟩) (by exact ⟨⟩) (LocG.of rfl (loc_hindex (by decide) sl_36 (by exact ⟨⟩) (by exact rfl) (by omega))) nofree ?_
   refine swl_step (by exact ⟨rfl, ⟨⟩⟩) (by exact ⟨⟩) (LocG.of rfl (loc_field (by decide) fd_85_2)) nofree ?_
   refine swl_step (by exact ⟨rfl, ⟨⟩⟩) (by exact ⟨rfl, ⟨⟩⟩) (LocG.of rfl (loc_loadM (o := 5) (qs := [PV.val _]) (by omega) (by decide) ty_25 (fun _ => rfl) (by exact Nat.le_of_ble_eq_true rfl) (by exact (ToL.cons PV.nv_val ToL.nil)) (by exact (BorL.cons (PV.bor_val _) BorL.nil)))) nofree ?_
   refine swl_step (by exact ⟨rfl, ⟨⟩⟩) (by exact ⟨⟩) (LocG.of rfl (loc_copy (.inl rfl) (by decide) (by exact Cp.sc))) nofree ?_
   refine swl_of (l := [(0, RV.nm _ (RV.hdr 999 _ _)), (1, RV.sv false [PV.val _]), (4, RV.sv false [PV.val _]), (5, RV.sv false [PV.val _]), (51, RV.hdr 999 _ _), (52, RV.sv false [PV.val _]), (53, RV.ptr 999 _), (54, RV.ptr 999 _), (55, RV.sv false [PV.val _]), (56, RV.sv false [PV.val _])]) (b := [(999, (85, _ ++ ([PV.val _, PV.val _, PV.nv _ (PV.sl _ _), PV.nv _ (PV.sl _ _), PV.val _, PV.nv _ (PV.sl _ _), PV.nv _ (PV.val _), PV.nv _ (PV.val _), PV.nv _ (PV.val _), PV.nv _ (PV.sl _ _)] ++ _)))]) (by exact ⟨rfl, rfl, rfl, rfl, rfl, rfl, rfl, rfl, rfl, rfl, ⟨⟩⟩) (by exact ⟨rfl, ⟨⟩⟩) ?_
   refine swl_ucallM (bx := 999) (L := L0w) (pre := [PV.val _, PV.val _, PV.nv _ (PV.sl _ _), PV.nv _ (PV.sl _ _), PV.val _]) (ms := [PV.nv _ (PV.sl _ _)]) (post := [PV.nv _ (PV.val _), PV.nv _ (PV.val _), PV.nv _ (PV.val _), PV.nv _ (PV.sl _ _)]) (qr := [(false, [PV.val _])]) (as_ := [(false, [PV.val _])]) (by decide) c_50 rfl (by exact rfl) (by exact (Nm.val Nm.nil)) (by exact ⟨rfl, ⟨⟩⟩) (by exact (And.intro (by exact ⟨⟩) True.intro)) (by exact And.intro (And.intro rfl (ToL.cons (PV.To.refl _) ToL.nil)) True.intro) (by exact rfl) (by exact (Nm.nv Nm.nil)) (by exact (OwnTo.nv OwnTo.nil)) (by exact mark_IntS (by omega) (by omega)) (by exact (OwnFrom.nv OwnFrom.nil)) (fun x hx => hx.elim) (by exact (LclA.cons (RV.lcl_nm RV.lcl_hdr) (LclA.cons (RV.lcl_sv (LclC.cons PV.lcl_val LclC.nil)) (LclA.cons (RV.lcl_sv (LclC.cons PV.lcl_val LclC.nil)) (LclA.cons (RV.lcl_sv (LclC.cons PV.lcl_val LclC.nil)) (LclA.cons RV.lcl_hdr (LclA.cons (RV.lcl_sv (LclC.cons PV.lcl_val LclC.nil)) (LclA.cons RV.lcl_ptr (LclA.cons RV.lcl_ptr (LclA.cons (RV.lcl_sv (LclC.cons PV.lcl_val LclC.nil)) (LclA.cons (RV.lcl_sv (LclC.cons PV.lcl_val LclC.nil)) LclA.nil))))))))))) (by exact (And.intro (.inl rfl) True.intro)) (by exact (LclC.flat (LclC.map fun x => (LclC.cons PV.lcl_val (LclC.cons PV.lcl_val (LclC.cons (PV.lcl_own (LclC.map fun x => (LclC.cons PV.lcl_val (LclC.cons PV.lcl_val (LclC.cons PV.lcl_val LclC.nil))))) (LclC.cons (PV.lcl_own (LclC.map fun x => (LclC.cons PV.lcl_val LclC.nil))) (LclC.cons PV.lcl_val (LclC.cons (PV.lcl_own (LclC.map fun x => (LclC.cons PV.lcl_val LclC.nil))) (LclC.cons PV.lcl_val (LclC.cons PV.lcl_val (LclC.cons PV.lcl_val (LclC.cons (PV.lcl_own (LclC.map fun x => (LclC.cons PV.lcl_val (LclC.cons (PV.lcl_own (LclC.map fun x => (LclC.cons PV.lcl_val LclC.nil))) LclC.nil)))) LclC.nil))))))))))))) (by exact (LclC.cons PV.lcl_val (LclC.cons PV.lcl_val (LclC.cons (PV.lcl_nv (PV.lcl_own (LclC.map fun x => (LclC.cons PV.lcl_val (LclC.cons PV.lcl_val (LclC.cons PV.lcl_val LclC.nil)))))) (LclC.cons (PV.lcl_nv (PV.lcl_own (LclC.map fun x => (LclC.cons PV.lcl_val LclC.nil)))) (LclC.cons PV.lcl_val LclC.nil)))))) (by exact (LclC.cons (PV.lcl_nv PV.lcl_val) (LclC.cons (PV.lcl_nv PV.lcl_val) (LclC.cons (PV.lcl_nv PV.lcl_val) (LclC.cons (PV.lcl_nv (PV.lcl_own (LclC.map fun x => (LclC.cons PV.lcl_val (LclC.cons (PV.lcl_own (LclC.map fun x => (LclC.cons PV.lcl_val LclC.nil))) LclC.nil))))) LclC.nil))))) (by exact (LclC.app (LclC.flat (LclC.map fun x => (LclC.cons PV.lcl_val (LclC.cons PV.lcl_val (LclC.cons (PV.lcl_own (LclC.map fun x => (LclC.cons PV.lcl_val (LclC.cons PV.lcl_val (LclC.cons PV.lcl_val LclC.nil))))) (LclC.cons (PV.lcl_own (LclC.map fun x => (LclC.cons PV.lcl_val LclC.nil))) (LclC.cons PV.lcl_val (LclC.cons (PV.lcl_own (LclC.map fun x => (LclC.cons PV.lcl_val LclC.nil))) (LclC.cons PV.lcl_val (LclC.cons PV.lcl_val (LclC.cons PV.lcl_val (LclC.cons (PV.lcl_own (LclC.map fun x => (LclC.cons PV.lcl_val (LclC.cons (PV.lcl_own (LclC.map fun x => (LclC.cons PV.lcl_val LclC.nil))) LclC.nil)))) LclC.nil)))))))))))) LclC.vals)) rfl ?_
   refine swl_step (by exact ⟨rfl, ⟨⟩⟩) (by exact ⟨⟩) (LocG.of rfl (loc_copy (.inr rfl) (by decide) (by exact Cp.sc))) nofree ?_
   refine swl_nil ?_
   refine sw_seq ?_
   refine sO [(0, _), (1, _), (4, _), (5, _)] [(999, _)] ?_
   refine sw_reg ?_
   refine rA ?_ (x := loc_copy (.inl rfl) (by decide) (by exact Cp.nm Cp.hdr))
   refine rA ?_ (x := sM)
   refine rA ?_ (x := sM)
   refine rA ?_ (x := loc_hindex (by decide) sl_36 (by exact ⟨⟩) (by exact rfl) (by omega))
   refine rA ?_ (x := lF fd_85_3)
   refine rA ?_ (x := loc_storeM (o := 6) (ag := false) (vs := [PV.val _]) (by omega) ty_3 (by exact ⟨⟩) (by exact rfl) (by exact Nat.le_of_ble_eq_true rfl))
   refine sw_seq ?_
   refine sO [(0, _), (1, _), (4, _), (5, _)] [(999, (85, _ ++ ([PV.val _, PV.val _, PV.nv _ (PV.sl _ _), PV.nv _ (PV.sl _ _), PV.val _, PV.nv _ (PV.sl _ _), PV.val _, PV.nv _ (PV.val _), PV.nv _ (PV.val _), PV.nv _ (PV.sl _ _)] ++ _)))] ?_
   refine sw_reg ?_
   refine rA ?_ (x := sM)
   refine rA ?_ (x := B_add)
   refine rA ?_ (x := sA)
   refine sw_seq ?_
   refine sO [(0, _), (1, _), (4, _), (5, _)] [(999, _)] ?_
   refine sw_reg ?_
   refine rA ?_ (x := loc_copy (.inl rfl) (by decide) (by exact Cp.nm Cp.hdr))
   refine rA ?_ (x := sM)
   refine rA ?_ (x := sM)
   refine rA ?_ (x := loc_hindex (by decide) sl_36 (by exact ⟨⟩) (by exact rfl) (by omega))
   refine rA ?_ (x := lF fd_85_4)
   refine rA ?_ (x := loc_storeM (o := 7) (ag := false) (vs := [PV.val _]) (by omega) ty_3 (by exact ⟨⟩) (by exact rfl) (by exact Nat.le_of_ble_eq_true rfl))
   refine sw_seq ?_
   refine sO [(0, _), (1, _), (4, _), (5, _)] [(999, (85, _ ++ ([PV.val _, PV.val _, PV.nv _ (PV.sl _ _), PV.nv _ (PV.sl _ _), PV.val _, PV.nv _ (PV.sl _ _), PV.val _, PV.val _, PV.nv _ (PV.val _), PV.nv _ (PV.sl _ _)] ++ _)))] ?_
   refine sw_reg ?_
   refine rA ?_ (x := sM)
   refine rA ?_ (x := B_add)
   refine rA ?_ (x := sA)
   refine sw_seq ?_
   refine sO [(0, _), (1, _), (4, _), (5, _)] [(999, _)] ?_
   refine sw_reg ?_
   refine rA ?_ (x := loc_copy (.inl rfl) (by decide) (by exact Cp.nm Cp.hdr))
   refine rA ?_ (x := sM)
   refine rA ?_ (x := sM)
   refine rA ?_ (x := loc_hindex (by decide) sl_36 (by exact ⟨⟩) (by exact rfl) (by omega))
   refine rA ?_ (x := lF fd_85_5)
   refine rA ?_ (x := loc_storeM (o := 8) (ag := false) (vs := [PV.val _]) (by omega) ty_3 (by exact ⟨⟩) (by exact rfl) (by exact Nat.le_of_ble_eq_true rfl))
   refine sw_seq ?_
   refine sO [(0, _), (1, _), (4, _), (5, _)] [(999, (85, _ ++ ([PV.val _, PV.val _, PV.nv _ (PV.sl _ _), PV.nv _ (PV.sl _ _), PV.val _, PV.nv _ (PV.sl _ _), PV.val _, PV.val _, PV.val _, PV.nv _ (PV.sl _ _)] ++ _)))] ?_
   refine sw_reg ?_
   refine rA ?_ (x := sM)
   refine rA ?_ (x := B_add)
   refine rA ?_ (x := sA)
   refine sO [(0, _), (1, _), (4, _), (5, _)] [(999, _)] ?_
   refine sw_regL ?_
   refine swl_step (by exact ⟨rfl, ⟨⟩⟩) (by exact ⟨⟩) (LocG.of rfl (loc_copy (.inl rfl) (by decide) (by exact Cp.nm Cp.hdr))) nofree ?_
   refine swl_step (by exact ⟨rfl, ⟨⟩⟩) (by exact ⟨⟩) (LocG.of rfl (loc_copy (.inl rfl) (by decide) (by exact Cp.sc))) nofree ?_
   refine swl_step (by exact ⟨rfl, rfl, ⟨⟩⟩) (by exact ⟨⟩) (LocG.of rfl (loc_hindex (by decide) sl_36 (by exact ⟨⟩) (by exact rfl) (by omega))) nofree ?_
   refine swl_step (by exact ⟨rfl, ⟨⟩⟩) (by exact ⟨⟩) (LocG.of rfl (loc_field (by decide) fd_85_6)) nofree ?_
   refine swl_step (by exact ⟨rfl, ⟨⟩⟩) (by exact ⟨rfl, ⟨⟩⟩) (LocG.of rfl (loc_loadM (o := 9) (qs := [PV.val _]) (by omega) (by decide) ty_83 (fun _ => rfl) (by exact Nat.le_of_ble_eq_true rfl) (by exact (ToL.cons PV.nv_val ToL.nil)) (by exact (BorL.cons (PV.bor_val _) BorL.nil)))) nofree ?_
   refine swl_step (by exact ⟨rfl, ⟨⟩⟩) (by exact ⟨⟩) (LocG.of rfl (loc_copy (.inl rfl) (by decide) (by exact Cp.sc))) nofree ?_
   refine swl_of (l := [(0, RV.nm _ (RV.hdr 999 _ _)), (1, RV.sv false [PV.val _]), (4, RV.sv false [PV.val _]), (5, RV.sv false [PV.val _]), (79, RV.hdr 999 _ _), (80, RV.sv false [PV.val _]), (81, RV.ptr 999 _), (82, RV.ptr 999 _), (83, RV.sv false [PV.val _]), (84, RV.sv false [PV.val _])]) (b := [(999, (85, _ ++ ([PV.val _, PV.val _, PV.nv _ (PV.sl _ _), PV.nv _ (PV.sl _ _), PV.val _, PV.nv _ (PV.sl _ _), PV.val _, PV.val _, PV.val _, PV.nv _ (PV.sl _ _)] ++ _)))]) (by exact ⟨rfl, rfl, rfl, rfl, rfl, rfl, rfl, rfl, rfl, rfl, ⟨⟩⟩) (by exact ⟨rfl, ⟨⟩⟩) ?_
   refine swl_ucallM (bx := 999) (L := L0w) (pre := [PV.val _, PV.val _, PV.nv _ (PV.sl _ _), PV.nv _ (PV.sl _ _), PV.val _, PV.nv _ (PV.sl _ _), PV.val _, PV.val _, PV.val _]) (ms := [PV.nv _ (PV.sl _ _)]) (post := []) (qr := [(false, [PV.val _])]) (as_ := [(false, [PV.val _])]) (by decide) c_108 rfl (by exact rfl) (by exact (Nm.val Nm.nil)) (by exact ⟨rfl, ⟨⟩⟩) (by exact (And.intro (by exact ⟨⟩) True.intro)) (by exact And.intro (And.intro rfl (ToL.cons (PV.To.refl _) ToL.nil)) True.intro) (by exact rfl) (by exact (Nm.nv Nm.nil)) (by exact (OwnTo.nv OwnTo.nil)) (by exact mark_RowS (by omega) (by omega)) (by exact (OwnFrom.nv OwnFrom.nil)) (fun x hx => hx.elim) (by exact (LclA.cons (RV.lcl_nm RV.lcl_hdr) (LclA.cons (RV.lcl_sv (LclC.cons PV.lcl_val LclC.nil)) (LclA.cons (RV.lcl_sv (LclC.cons PV.lcl_val LclC.nil)) (LclA.cons (RV.lcl_sv (LclC.cons PV.lcl_val LclC.nil)) (LclA.cons RV.lcl_hdr (LclA.cons (RV.lcl_sv (LclC.cons PV.lcl_val LclC.nil)) (LclA.cons RV.lcl_ptr (LclA.cons RV.lcl_ptr (LclA.cons (RV.lcl_sv (LclC.cons PV.lcl_val LclC.nil)) (LclA.cons (RV.lcl_sv (LclC.cons PV.lcl_val LclC.nil)) LclA.nil))))))))))) (by exact (And.intro (.inl rfl) True.intro)) (by exact (LclC.flat (LclC.map fun x => (LclC.cons PV.lcl_val (LclC.cons PV.lcl_val (LclC.cons (PV.lcl_own (LclC.map fun x => (LclC.cons PV.lcl_val (LclC.cons PV.lcl_val (LclC.cons PV.lcl_val LclC.nil))))) (LclC.cons (PV.lcl_own (LclC.map fun x => (LclC.cons PV.lcl_val LclC.nil))) (LclC.cons PV.lcl_val (LclC.cons (PV.lcl_own (LclC.map fun x => (LclC.cons PV.lcl_val LclC.nil))) (LclC.cons PV.lcl_val (LclC.cons PV.lcl_val (LclC.cons PV.lcl_val (LclC.cons (PV.lcl_own (LclC.map fun x => (LclC.cons PV.lcl_val (LclC.cons (PV.lcl_own (LclC.map fun x => (LclC.cons PV.lcl_val LclC.nil))) LclC.nil)))) LclC.nil))))))))))))) (by exact (LclC.cons PV.lcl_val (LclC.cons PV.lcl_val (LclC.cons (PV.lcl_nv (PV.lcl_own (LclC.map fun x => (LclC.cons PV.lcl_val (LclC.cons PV.lcl_val (LclC.cons PV.lcl_val LclC.nil)))))) (LclC.cons (PV.lcl_nv (PV.lcl_own (LclC.map fun x => (LclC.cons PV.lcl_val LclC.nil)))) (LclC.cons PV.lcl_val (LclC.cons (PV.lcl_nv (PV.lcl_own (LclC.map fun x => (LclC.cons PV.lcl_val LclC.nil)))) (LclC.cons PV.lcl_val (LclC.cons PV.lcl_val (LclC.cons PV.lcl_val LclC.nil)))))))))) (by exact LclC.nil) (by exact (LclC.app (LclC.flat (LclC.map fun x => (LclC.cons PV.lcl_val (LclC.cons PV.lcl_val (LclC.cons (PV.lcl_own (LclC.map fun x => (LclC.cons PV.lcl_val (LclC.cons PV.lcl_val (LclC.cons PV.lcl_val LclC.nil))))) (LclC.cons (PV.lcl_own (LclC.map fun x => (LclC.cons PV.lcl_val LclC.nil))) (LclC.cons PV.lcl_val (LclC.cons (PV.lcl_own (LclC.map fun x => (LclC.cons PV.lcl_val LclC.nil))) (LclC.cons PV.lcl_val (LclC.cons PV.lcl_val (LclC.cons PV.lcl_val (LclC.cons (PV.lcl_own (LclC.map fun x => (LclC.cons PV.lcl_val (LclC.cons (PV.lcl_own (LclC.map fun x => (LclC.cons PV.lcl_val LclC.nil))) LclC.nil)))) LclC.nil)))))))))))) LclC.vals)) rfl ?_
   refine swl_step (by exact ⟨rfl, ⟨⟩⟩) (by exact ⟨⟩) (LocG.of rfl (loc_copy (.inr rfl) (by decide) (by exact Cp.sc))) nofree ?_
   refine swl_nil ?_
   refine sw_boxTo (d := 999) (by exact rfl) (by exact (OwnTo.same (OwnTo.same (OwnTo.nv (OwnTo.nv (OwnTo.same (OwnTo.nv (OwnTo.same (OwnTo.same (OwnTo.same (OwnTo.nv OwnTo.nil))))))))))) ?_
   refine sO [(0, _), (1, _), (4, _), (5, _)] [(999, (85, _ ++ ([PV.val _, PV.val _, PV.sl _ _, PV.sl _ _, PV.val _, PV.sl _ _, PV.val _, PV.val _, PV.val _, PV.sl _ _] ++ _)))] ?_
   refine sw_reg ?_
   refine rA ?_ (x := sM)
   refine rA ?_ (x := B_add)
   refine rA ?_ (x := sA)
   refine Exists.intro (i + 1) (And.intro (by omega) (And.intro (by omega) (And.intro (And.intro (by exact ⟨rfl, rfl, ⟨⟩⟩) (by exact ⟨⟩)) (And.intro (by exact And.intro (by exact int_eq (by rw [mkL_succ hlt]; rfl)) (And.intro (by exact rfl) (True.intro))) (by exact And.intro (by exact congrArg (fun z => some (85, z)) (mark_join hlt rfl)) (True.intro))))))
  ·try simp only [q1, q2, q3, q4, q5, q6, q7, q8, q9] at hb1
   have hend : i = x.length := by omega
   refine sw_boxEq (d := 999) (by exact rfl) (mark_all hend) ?_
   refine sw_freeze (s := 0) (D := 999) (e := 10) (by exact rfl) (by exact rfl) (by rw [List.length_map, mkL_len, List.length_map]) (by intro c hc; obtain ⟨y, _, rfl⟩ := List.mem_map.1 hc; exact rfl) hjk ?_
   refine sw_exit ?_
   refine sw_seq ?_
   refine sO [(0, _), (1, _), (4, _), (5, _)] [] ?_
   refine sw_reg ?_
   refine rA ?_ (x := sM)
   refine rA ?_ (x := sA)
   refine sw_ret ?_
   exact And.intro (by exact int_eq (by first | rfl | rw [hend, List.take_length])) (Exists.intro _ (And.intro (.inl (by exact rfl)) (And.intro (by exact (Nm.nv Nm.nil)) (by exact (OwnTo.nv OwnTo.nil)))))
theorem mark_FinishedS {x : List Finished} {k : Int} (h0k : 0 ≤ k) (hbk : (mkL mkE_Finished x k).2 ≤ 4611686018427387904) : UCall Tryz.prog 52 false [PV.sl (.own 132 7) (x.map (cFinished (.own 165 3) (.own 3 1) (.own 53 2) (.own 3 1)))] [PV.sl (.own 132 7) ((mkL mkE_Finished x k).1.map (cFinished (.own 165 3) (.own 3 1) (.own 53 2) (.own 3 1)))] [(false, [PV.val (vI k)])] (vI (mkL mkE_Finished x k).2) := by
 refine ucall_of Tryz.func52 rfl (Nat.le_of_ble_eq_true rfl) (borA_cons (BorL.cons (PV.bor_val _) BorL.nil) borA_nil) ?_
 intro us h0 w0 Fz0 hus
 obtain ⟨u0, rfl⟩ := len1 hus
 by_cases hx : x = []
 ·subst hx
  refine sw_seq ?_
  refine sO [(0, _), (1, _)] [] ?_
  refine sw_reg ?_
  refine rA ?_ (x := kA)
  refine sw_seq ?_
  refine sw_seq ?_
  refine sO [(0, _), (1, _), (4, _)] [] ?_
  refine sw_reg ?_
  refine rA ?_ (x := kA)
  refine sw_block ?_
  refine sO [(0, _), (1, _), (4, _), (5, _)] [] ?_
  refine sw_loop (l0 := [(0, RV.sv false [PV.nv _ (PV.sl _ _)]), (4, RV.sv false [PV.val _])]) (b0 := []) (fun _ : Unit => True) (fun _ : Unit => [(1, RV.int k), (5, RV.int 0)]) (fun _ : Unit => []) (fun _ : Unit => 0) () True.intro (by exact ⟨rfl, rfl, ⟨⟩⟩) (by exact ⟨⟩) (by exact And.intro (by exact rfl) (And.intro (by exact rfl) (True.intro))) (by exact ⟨⟩) ?_
  rintro _ _
  refine sw_seq ?_
  refine sw_seq ?_
  refine sw_reg ?_
  refine rA ?_ (x := sM)
  refine rA ?_ (x := loc_copy (r' := RV.sv false [PV.sl .v _]) (.inl rfl) (by decide) (by exact Cp.sv (ToL.cons (PV.nv_to PV.to_none) ToL.nil) (BorL.cons (PV.bor_sl _) BorL.nil)))
  refine rA ?_ (x := lN sl_37)
  refine rA ?_ (x := B_lss)
  refine sw_cond (t := 9) rfl (fun hb1 => ?_) (fun hb1 => ?_)
  ·try simp only [q1, q2, q3, q4, q5, q6, q7, q8, q9] at hb1
   simp at hb1
  ·try simp only [q1, q2, q3, q4, q5, q6, q7, q8, q9] at hb1
   refine sw_exit ?_
   refine sw_seq ?_
   refine sO [(0, _), (1, _), (4, _), (5, _)] [] ?_
   refine sw_reg ?_
   refine rA ?_ (x := sM)
   refine rA ?_ (x := sA)
   refine sw_ret ?_
   exact And.intro (by exact rfl) (Exists.intro _ (And.intro (.inl (by exact rfl)) (And.intro (by exact (Nm.nv Nm.nil)) (by exact (OwnTo.nv OwnTo.nil)))))
 ·refine sw_thaw (s := 0) (D := 999) (E := 132) (e := 7) (u := u0) (es := x.map (cFinished (.own 165 3) (.own 3 1) (.own 53 2) (.own 3 1))) (L := L0w) (by exact rfl) (by simpa using hx) (by exact rfl) (by exact rfl) (fun x hx => hx.elim) (by exact And.intro (.inl rfl) (And.intro (.inr (RV.lcl_sv (LclC.cons PV.lcl_val LclC.nil))) True.intro)) True.intro (LclC.map fun x => (LclC.cons PV.lcl_val (LclC.cons PV.lcl_val (LclC.cons (PV.lcl_own (LclC.map fun x => (LclC.cons PV.lcl_val (LclC.cons PV.lcl_val (LclC.cons PV.lcl_val LclC.nil))))) (LclC.cons (PV.lcl_own (LclC.map fun x => (LclC.cons PV.lcl_val LclC.nil))) (LclC.cons PV.lcl_val (LclC.cons PV.lcl_val (LclC.cons (PV.lcl_own (LclC.map fun x => (LclC.cons PV.lcl_val (LclC.cons (PV.lcl_own (LclC.map fun x => (LclC.cons PV.lcl_val LclC.nil))) LclC.nil)))) LclC.nil)))))))) fun cp jk hl0 hcp hjk => ?_
  have hlm : (x.map (cFinished (.own 165 3) (.own 3 1) (.own 53 2) (.own 3 1))).length = x.length := List.length_map _
  rw [hlm] at hl0 hcp
  have hmono := mkL_take_le mkE_Finished_le x
  have hmono0 := fun i => mkL_le mkE_Finished_le (x.take i) k
  refine sw_seq ?_
  refine sO [(0, _), (1, _)] [(999, (132, _))] ?_
  refine sw_reg ?_
  refine rA ?_ (x := kA)
  refine sw_seq ?_
  refine sw_seq ?_
  refine sO [(0, _), (1, _), (4, _)] [(999, _)] ?_
  refine sw_reg ?_
  refine rA ?_ (x := kA)
  refine sw_block ?_
  refine sO [(0, _), (1, _), (4, _), (5, _)] [(999, _)] ?_
  refine sw_loop (l0 := [(0, RV.nm _ (RV.hdr 999 _ _)), (4, RV.sv false [PV.val _])]) (b0 := []) (fun i : Nat => i ≤ x.length) (fun i : Nat => [(1, RV.int (mkL mkE_Finished (x.take i) k).2), (5, RV.int (i : Int))]) (fun i : Nat => [(999, (132, (((mkL mkE_Finished (x.take i) k).1 ++ x.drop i).map (cFinished (.own 165 3) (.own 3 1) (.own 53 2) (.own 3 1))).flatten ++ jk.map PV.val))]) (fun i : Nat => x.length - i) 0 (by omega) (by exact ⟨rfl, rfl, ⟨⟩⟩) (by exact ⟨⟩) (by exact And.intro (by exact rfl) (And.intro (by exact rfl) (True.intro))) (by exact And.intro (by exact congrArg (fun z => some (132, z)) mark_zero) (True.intro)) ?_
  rintro i hi
  refine sw_seq ?_
  refine sw_seq ?_
  refine sw_reg ?_
  refine rA ?_ (x := sM)
  refine rA ?_ (x := loc_copy (.inl rfl) (by decide) (by exact Cp.nm Cp.hdr))
  refine rA ?_ (x := loc_hlen (by decide) sl_37)
  refine rA ?_ (x := B_lss)
  refine sw_cond (t := 9) rfl (fun hb1 => ?_) (fun hb1 => ?_)
  ·try simp only [q1, q2, q3, q4, q5, q6, q7, q8, q9] at hb1
   have hlt : i < x.length := by omega
   have hk0 := hmono0 i
   have hk1 := hmono (i + 1) k
   rw [mkL_succ hlt] at hk1
   dsimp only at hk1
   have hm0 := mkL_le mkE_Cond_le x[i].Query.Conds (((mkL mkE_Finished (x.take i) k).2 + 1) + 1)
   have hm1 := mkL_le mkE_Int_le x[i].Query.Out (mkL mkE_Cond x[i].Query.Conds (((mkL mkE_Finished (x.take i) k).2 + 1) + 1)).2
   have hm2 := mkL_le mkE_Row_le x[i].Rows (((mkL mkE_Int x[i].Query.Out (mkL mkE_Cond x[i].Query.Conds (((mkL mkE_Finished (x.take i) k).2 + 1) + 1)).2).2 + 1) + 1)
   simp only [mkE_Finished] at hk1
   refine sw_boxEq (d := 999) (by exact rfl) (mark_split hlt) ?_
   have hA := mark_len (f := mkE_Finished) (c := (cFinished (.own 165 3) (.own 3 1) (.own 53 2) (.own 3 1))) (e := 7) (k := k) (fun _ => rfl) (Nat.le_of_lt hlt)
   refine sw_nmB (d := 999) (ms := [PV.val _, PV.val _, PV.sl _ _, PV.sl _ _, PV.val _, PV.val _, PV.sl _ _]) (by exact rfl) fun us hus => ?_
   obtain ⟨v0, v1, v2, v3, v4, v5, v6, rfl⟩ := us_7 hus
   refine sw_skip ?_
   refine sw_seq ?_
   refine sw_block ?_
   refine sw_seq ?_
   refine sO [(0, _), (1, _), (4, _), (5, _)] [(999, (132, _ ++ ([PV.nv _ (PV.val _), PV.nv _ (PV.val _), PV.nv _ (PV.sl _ _), PV.nv _ (PV.sl _ _), PV.nv _ (PV.val _), PV.nv _ (PV.val _), PV.nv _ (PV.sl _ _)] ++ _)))] ?_
   refine sw_reg ?_
   refine rA ?_ (x := loc_copy (.inl rfl) (by decide) (by exact Cp.nm Cp.hdr))
   refine rA ?_ (x := sM)
   refine rA ?_ (x := sM)
   refine rA ?_ (x := loc_hindex (by decide) sl_37 (by exact ⟨⟩) (by exact rfl) (by omega))
   refine rA ?_ (x := lF fd_132_0)
   refine rA ?_ (x := lF fd_51_0)
   refine rA ?_ (x := loc_storeM (o := 0) (ag := false) (vs := [PV.val _]) (by omega) ty_3 (by exact ⟨⟩) (by exact rfl) (by exact Nat.le_of_ble_eq_true rfl))
   refine sw_seq ?_
   refine sO [(0, _), (1, _), (4, _), (5, _)] [(999, (132, _ ++ ([PV.val _, PV.nv _ (PV.val _), PV.nv _ (PV.sl _ _), PV.nv _ (PV.sl _ _), PV.nv _ (PV.val _), PV.nv _ (PV.val _), PV.nv _ (PV.sl _ _)] ++ _)))] ?_
   refine sw_reg ?_
   refine rA ?_ (x := sM)
   refine rA ?_ (x := B_add)
   refine rA ?_ (x := sA)
   refine sw_seq ?_
   refine sO [(0, _), (1, _), (4, _), (5, _)] [(999, _)] ?_
   refine sw_reg ?_
   refine rA ?_ (x := loc_copy (.inl rfl) (by decide) (by exact Cp.nm Cp.hdr))
   refine rA ?_ (x := sM)
   refine rA ?_ (x := sM)
   refine rA ?_ (x := loc_hindex (by decide) sl_37 (by exact ⟨⟩) (by exact rfl) (by omega))
   refine rA ?_ (x := lF fd_132_0)
   refine rA ?_ (x := lF fd_51_1)
   refine rA ?_ (x := loc_storeM (o := 1) (ag := false) (vs := [PV.val _]) (by omega) ty_3 (by exact ⟨⟩) (by exact rfl) (by exact Nat.le_of_ble_eq_true rfl))
   refine sw_seq ?_
   refine sO [(0, _), (1, _), (4, _), (5, _)] [(999, (132, _ ++ ([PV.val _, PV.val _, PV.nv _ (PV.sl _ _), PV.nv _ (PV.sl _ _), PV.nv _ (PV.val _), PV.nv _ (PV.val _), PV.nv _ (PV.sl _ _)] ++ _)))] ?_
   refine sw_reg ?_
   refine rA ?_ (x := sM)
   refine rA ?_ (x := B_add)
   refine rA ?_ (x := sA)
   refine sw_seq ?_
   refine sO [(0, _), (1, _), (4, _), (5, _)] [(999, _)] ?_
   refine sw_regL ?_
   refine swl_step (by exact ⟨rfl, ⟨⟩⟩) (by exact ⟨⟩) (LocG.of rfl (loc_copy (.inl rfl) (by decide) (by exact Cp.nm Cp.hdr))) nofree ?_
   refine swl_step (by exact ⟨rfl, ⟨⟩⟩) (by exact ⟨⟩) (LocG.of rfl (loc_copy (.inl rfl) (by decide) (by exact Cp.sc))) nofree ?_
   refine swl_step (by exact ⟨rfl, rfl, ⟨⟩⟩) (by exact ⟨⟩) (LocG.of rfl (loc_hindex (by decide) sl_37 (by exact ⟨⟩) (by exact rfl) (by omega))) nofree ?_
   refine swl_step (by exact ⟨rfl, ⟨⟩⟩) (by exact ⟨⟩) (LocG.of rfl (loc_field (by decide) fd_132_0)) nofree ?_
   refine swl_step (by exact ⟨rfl, ⟨⟩⟩) (by exact ⟨⟩) (LocG.of rfl (loc_field (by decide) fd_51_2)) nofree ?_
   refine swl_step (by exact ⟨rfl, ⟨⟩⟩) (by exact ⟨rfl, ⟨⟩⟩) (LocG.of rfl (loc_loadM (o := 2) (qs := [PV.val _]) (by omega) (by decide) ty_49 (fun _ => rfl) (by exact Nat.le_of_ble_eq_true rfl) (by exact (ToL.cons PV.nv_val ToL.nil)) (by exact (BorL.cons (PV.bor_val _) BorL.nil)))) nofree ?_
   refine swl_step (by exact ⟨rfl, ⟨⟩⟩) (by exact ⟨⟩) (LocG.of rfl (loc_copy (.inl rfl) (by decide) (by exact Cp.sc))) nofree ?_
   refine swl_of (l := [(0, RV.nm _ (RV.hdr 999 _ _)), (1, RV.sv false [PV.val _]), (4, RV.sv false [PV.val _]), (5, RV.sv false [PV.val _]), (28, RV.hdr 999 _ _), (29, RV.sv false [PV.val _]), (30, RV.ptr 999 _), (31, RV.ptr 999 _), (32, RV.ptr 999 _), (33, RV.sv false [PV.val _]), (34, RV.sv false [PV.val _])]) (b := [(999, (132, _ ++ ([PV.val _, PV.val _, PV.nv _ (PV.sl _ _), PV.nv _ (PV.sl _ _), PV.nv _ (PV.val _), PV.nv _ (PV.val _), PV.nv _ (PV.sl _ _)] ++ _)))]) (by exact ⟨rfl, rfl, rfl, rfl, rfl, rfl, rfl, rfl, rfl, rfl, rfl, ⟨⟩⟩) (by exact ⟨rfl, ⟨⟩⟩) ?_
   refine swl_ucallM (bx := 999) (L := L0w) (pre := [PV.val _, PV.val _]) (ms := [PV.nv _ (PV.sl _ _)]) (post := [PV.nv _ (PV.sl _ _), PV.nv _ (PV.val _), PV.nv _ (PV.val _), PV.nv _ (PV.sl _ _)]) (qr := [(false, [PV.val _])]) (as_ := [(false, [PV.val _])]) (by decide) c_107 rfl (by exact rfl) (by exact (Nm.val Nm.nil)) (by exact ⟨rfl, ⟨⟩⟩) (by exact (And.intro (by exact ⟨⟩) True.intro)) (by exact And.intro (And.intro rfl (ToL.cons (PV.To.refl _) ToL.nil)) True.intro) (by exact rfl) (by exact (Nm.nv Nm.nil)) (by exact (OwnTo.nv OwnTo.nil)) (by exact mark_CondS (by omega) (by omega)) (by exact (OwnFrom.nv OwnFrom.nil)) (fun x hx => hx.elim) (by exact (LclA.cons (RV.lcl_nm RV.lcl_hdr) (LclA.cons (RV.lcl_sv (LclC.cons PV.lcl_val LclC.nil)) (LclA.cons (RV.lcl_sv (LclC.cons PV.lcl_val LclC.nil)) (LclA.cons (RV.lcl_sv (LclC.cons PV.lcl_val LclC.nil)) (LclA.cons RV.lcl_hdr (LclA.cons (RV.lcl_sv (LclC.cons PV.lcl_val LclC.nil)) (LclA.cons RV.lcl_ptr (LclA.cons RV.lcl_ptr (LclA.cons RV.lcl_ptr (LclA.cons (RV.lcl_sv (LclC.cons PV.lcl_val LclC.nil)) (LclA.cons (RV.lcl_sv (LclC.cons PV.lcl_val LclC.nil)) LclA.nil)))))))))))) (by exact (And.intro (.inl rfl) True.intro)) (by exact (LclC.flat (LclC.map fun x => (LclC.cons PV.lcl_val (LclC.cons PV.lcl_val (LclC.cons (PV.lcl_own (LclC.map fun x => (LclC.cons PV.lcl_val (LclC.cons PV.lcl_val (LclC.cons PV.lcl_val LclC.nil))))) (LclC.cons (PV.lcl_own (LclC.map fun x => (LclC.cons PV.lcl_val LclC.nil))) (LclC.cons PV.lcl_val (LclC.cons PV.lcl_val (LclC.cons (PV.lcl_own (LclC.map fun x => (LclC.cons PV.lcl_val (LclC.cons (PV.lcl_own (LclC.map fun x => (LclC.cons PV.lcl_val LclC.nil))) LclC.nil)))) LclC.nil)))))))))) (by exact (LclC.cons PV.lcl_val (LclC.cons PV.lcl_val LclC.nil))) (by exact (LclC.cons (PV.lcl_nv (PV.lcl_own (LclC.map fun x => (LclC.cons PV.lcl_val LclC.nil)))) (LclC.cons (PV.lcl_nv PV.lcl_val) (LclC.cons (PV.lcl_nv PV.lcl_val) (LclC.cons (PV.lcl_nv (PV.lcl_own (LclC.map fun x => (LclC.cons PV.lcl_val (LclC.cons (PV.lcl_own (LclC.map fun x => (LclC.cons PV.lcl_val LclC.nil))) LclC.nil))))) LclC.nil))))) (by exact (LclC.app (LclC.flat (LclC.map fun x => (LclC.cons PV.lcl_val (LclC.cons PV.lcl_val (LclC.cons (PV.lcl_own (LclC.map fun x => (LclC.cons PV.lcl_val (LclC.cons PV.lcl_val (LclC.cons PV.lcl_val LclC.nil))))) (LclC.cons (PV.lcl_own (LclC.map fun x => (LclC.cons PV.lcl_val LclC.nil))) (LclC.cons PV.lcl_val (LclC.cons PV.lcl_val (LclC.cons (PV.lcl_own (LclC.map fun x => (LclC.cons PV.lcl_val (LclC.cons (PV.lcl_own (LclC.map fun x => (LclC.cons PV.lcl_val LclC.nil))) LclC.nil)))) LclC.nil))))))))) LclC.vals)) rfl ?_
   refine swl_step (by exact ⟨rfl, ⟨⟩⟩) (by exact ⟨⟩) (LocG.of rfl (loc_copy (.inr rfl) (by decide) (by exact Cp.sc))) nofree ?_
   refine swl_nil ?_
   refine sw_seq ?_
   refine sO [(0, _), (1, _), (4, _), (5, _)] [(999, _)] ?_
   refine sw_regL ?_
   refine swl_step (by exact ⟨rfl, ⟨⟩⟩) (by exact ⟨⟩) (LocG.of rfl (loc_copy (.inl rfl) (by decide) (by exact Cp.nm Cp.hdr))) nofree ?_
   refine swl_step (by exact ⟨rfl, ⟨⟩⟩) (by exact ⟨⟩) (LocG.of rfl (loc_copy (.inl rfl) (by decide) (by exact Cp.sc))) nofree ?_
   refine swl_step (by exact ⟨rfl, rfl, ⟨⟩⟩) (by exact ⟨⟩) (LocG.of rfl (loc_hindex (by decide) sl_37 (by exact ⟨⟩) (by exact rfl) (by omega))) nofree ?_
   refine swl_step (by exact ⟨rfl, ⟨⟩⟩) (by exact ⟨⟩) (LocG.of rfl (loc_field (by decide) fd_132_0)) nofree ?_
   refine swl_step (by exact ⟨rfl, ⟨⟩⟩) (by exact ⟨⟩) (LocG.of rfl (loc_field (by decide) fd_51_3)) nofree ?_
   refine swl_step (by exact ⟨rfl, ⟨⟩⟩) (by exact ⟨rfl, ⟨⟩⟩) (LocG.of rfl (loc_loadM (o := 3) (qs := [PV.val _]) (by omega) (by decide) ty_25 (fun _ => rfl) (by exact Nat.le_of_ble_eq_true rfl) (by exact (ToL.cons PV.nv_val ToL.nil)) (by exact (BorL.cons (PV.bor_val _) BorL.nil)))) nofree ?_
   refine swl_step (by exact ⟨rfl, ⟨⟩⟩) (by exact ⟨⟩) (LocG.of rfl (loc_copy (.inl rfl) (by decide) (by exact Cp.sc))) nofree ?_
   refine swl_of (l := [(0, RV.nm _ (RV.hdr 999 _ _)), (1, RV.sv false [PV.val _]), (4, RV.sv false [PV.val _]), (5, RV.sv false [PV.val _]), (36, RV.hdr 999 _ _), (37, RV.sv false [PV.val _]), (38, RV.ptr 999 _), (39, RV.ptr 999 _), (40, RV.ptr 999 _), (41, RV.sv false [PV.val _]), (42, RV.sv false [PV.val _])]) (b := [(999, (132, _ ++ ([PV.val _, PV.val _, PV.nv _ (PV.sl _ _), PV.nv _ (PV.sl _ _), PV.nv _ (PV.val _), PV.nv _ (PV.val _), PV.nv _ (PV.sl _ _)] ++ _)))]) (by exact ⟨rfl, rfl, rfl, rfl, rfl, rfl, rfl, rfl, rfl, rfl, rfl, ⟨⟩⟩) (by exact ⟨rfl, ⟨⟩⟩) ?_
   refine swl_ucallM (bx := 999) (L := L0w) (pre := [PV.val _, PV.val _, PV.nv _ (PV.sl _ _)]) (ms := [PV.nv _ (PV.sl _ _)]) (post := [PV.nv _ (PV.val _), PV.nv _ (PV.val _), PV.nv _ (PV.sl _ _)]) (qr := [(false, [PV.val _])]) (as_ := [(false, [PV.val _])]) (by decide) c_50 rfl (by exact rfl) (by exact (Nm.val Nm.nil)) (by exact ⟨rfl, ⟨⟩⟩) (by exact (And.intro (by exact ⟨⟩) True.intro)) (by exact And.intro (And.intro rfl (ToL.cons (PV.To.refl _) ToL.nil)) True.intro) (by exact rfl) (by exact (Nm.nv Nm.nil)) (by exact (OwnTo.nv OwnTo.nil)) (by exact mark_IntS (by omega) (by omega)) (by exact (OwnFrom.nv OwnFrom.nil)) (fun x hx => hx.elim) (by exact (LclA.cons (RV.lcl_nm RV.lcl_hdr) (LclA.cons (RV.lcl_sv (LclC.cons PV.lcl_val LclC.nil)) (LclA.cons (RV.lcl_sv (LclC.cons PV.lcl_val LclC.nil)) (LclA.cons (RV.lcl_sv (LclC.cons PV.lcl_val LclC.nil)) (LclA.cons RV.lcl_hdr (LclA.cons (RV.lcl_sv (LclC.cons PV.lcl_val LclC.nil)) (LclA.cons RV.lcl_ptr (LclA.cons RV.lcl_ptr (LclA.cons RV.lcl_ptr (LclA.cons (RV.lcl_sv (LclC.cons PV.lcl_val LclC.nil)) (LclA.cons (RV.lcl_sv (LclC.cons PV.lcl_val LclC.nil)) LclA.nil)))))))))))) (by exact (And.intro (.inl rfl) True.intro)) (by exact (LclC.flat (LclC.map fun x => (LclC.cons PV.lcl_val (LclC.cons PV.lcl_val (LclC.cons (PV.lcl_own (LclC.map fun x => (LclC.cons PV.lcl_val (LclC.cons PV.lcl_val (LclC.cons PV.lcl_val LclC.nil))))) (LclC.cons (PV.lcl_own (LclC.map fun x => (LclC.cons PV.lcl_val LclC.nil))) (LclC.cons PV.lcl_val (LclC.cons PV.lcl_val (LclC.cons (PV.lcl_own (LclC.map fun x => (LclC.cons PV.lcl_val (LclC.cons (PV.lcl_own (LclC.map fun x => (LclC.cons PV.lcl_val LclC.nil))) LclC.nil)))) LclC.nil)))))))))) (by exact (LclC.cons PV.lcl_val (LclC.cons PV.lcl_val (LclC.cons (PV.lcl_nv (PV.lcl_own (LclC.map fun x => (LclC.cons PV.lcl_val (LclC.cons PV.lcl_val (LclC.cons PV.lcl_val LclC.nil)))))) LclC.nil)))) (by exact (LclC.cons (PV.lcl_nv PV.lcl_val) (LclC.cons (PV.lcl_nv PV.lcl_val) (LclC.cons (PV.lcl_nv (PV.lcl_own (LclC.map fun x => (LclC.cons PV.lcl_val (LclC.cons (PV.lcl_own (LclC.map fun x => (LclC.cons PV.lcl_val LclC.nil))) LclC.nil))))) LclC.nil)))) (by exact (LclC.app (LclC.flat (LclC.map fun x => (LclC.cons PV.lcl_val (LclC.cons PV.lcl_val (LclC.cons (PV.lcl_own (LclC.map fun x => (LclC.cons PV.lcl_val (LclC.cons PV.lcl_val (LclC.cons PV.lcl_val LclC.nil))))) (LclC.cons (PV.lcl_own (LclC.map fun x => (LclC.cons PV.lcl_val LclC.nil))) (LclC.cons PV.lcl_val (LclC.cons PV.lcl_val (LclC.cons (PV.lcl_own (LclC.map fun x => (LclC.cons PV.lcl_val (LclC.cons (PV.lcl_own (LclC.map fun x => (LclC.cons PV.lcl_val LclC.nil))) LclC.nil)))) LclC.nil))))))))) LclC.vals)) rfl ?_
   refine swl_step (by exact ⟨rfl, ⟨⟩⟩) (by exact ⟨⟩) (LocG.of rfl (loc_copy (.inr rfl) (by decide) (by exact Cp.sc))) nofree ?_
   refine swl_nil ?_
   refine sw_seq ?_
   refine sO [(0, _), (1, _), (4, _), (5, _)] [(999, _)] ?_
   refine sw_reg ?_
   refine rA ?_ (x := loc_copy (.inl rfl) (by decide) (by exact Cp.nm Cp.hdr))
   refine rA ?_ (x := sM)
   refine rA ?_ (x := sM)
   refine rA ?_ (x := loc_hindex (by decide) sl_37 (by exact ⟨⟩) (by exact rfl) (by omega))
   refine rA ?_ (x := lF fd_132_1)
   refine rA ?_ (x := loc_storeM (o := 4) (ag := false) (vs := [PV.val _]) (by omega) ty_3 (by exact ⟨⟩) (by exact rfl) (by exact Nat.le_of_ble_eq_true rfl))
   refine sw_seq ?_
   refine sO [(0, _), (1, _), (4, _), (5, _)] [(999, (132, _ ++ ([PV.val _, PV.val _, PV.nv _ (PV.sl _ _), PV.nv _ (PV.sl _ _), PV.val _, PV.nv _ (PV.val _), PV.nv _ (PV.sl _ _)] ++ _)))] ?_
   refine sw_reg ?_
   refine rA ?_ (x := sM)
   refine rA ?_ (x := B_add)
   refine rA ?_ (x := sA)
   refine sw_seq ?_
   refine sO [(0, _), (1, _), (4, _), (5, _)] [(999, _)] ?_
   refine sw_reg ?_
   refine rA ?_ (x := loc_copy (.inl rfl) (by decide) (by exact Cp.nm Cp.hdr))
   refine rA ?_ (x := sM)
   refine rA ?_ (x := sM)
   refine rA ?_ (x := loc_hindex (by decide) sl_37 (by exact ⟨⟩) (by exact rfl) (by omega))
   refine rA ?_ (x := lF fd_132_2)
   refine rA ?_ (x := loc_storeM (o := 5) (ag := false) (vs := [PV.val _]) (by omega) ty_3 (by exact ⟨⟩) (by exact rfl) (by exact Nat.le_of_ble_eq_true rfl))
   refine sw_seq ?_
   refine sO [(0, _), (1, _), (4, _), (5, _)] [(999, (132, _ ++ ([PV.val _, PV.val _, PV.nv _ (PV.sl _ _), PV.nv _ (PV.sl _ _), PV.val _, PV.val _, PV.nv _ (PV.sl _ _)] ++ _)))] ?_
   refine sw_reg ?_
   refine rA ?_ (x := sM)
   refine rA ?_ (x := B_add)
   refine rA ?_ (x := sA)
   refine sO [(0, _), (1, _), (4, _), (5, _)] [(999, _)] ?_
   refine sw_regL ?_
   refine swl_step (by exact ⟨rfl, ⟨⟩⟩) (by exact ⟨⟩) (LocG.of rfl (loc_copy (.inl rfl) (by decide) (by exact Cp.nm Cp.hdr))) nofree ?_
   refine swl_step (by exact ⟨rfl, ⟨⟩⟩) (by exact ⟨⟩) (LocG.of rfl (loc_copy (.inl rfl) (by decide) (by exact Cp.sc))) nofree ?_
   refine swl_step (by exact ⟨rfl, rfl, ⟨⟩⟩) (by exact ⟨⟩) (LocG.of rfl (loc_hindex (by decide) sl_37 (by exact ⟨⟩) (by exact rfl) (by omega))) nofree ?_
   refine swl_step (by exact ⟨rfl, ⟨⟩⟩) (by exact ⟨⟩) (LocG.of rfl (loc_field (by decide) fd_132_3)) nofree ?_
   refine swl_step (by exact ⟨rfl, ⟨⟩⟩) (by exact ⟨rfl, ⟨⟩⟩) (LocG.of rfl (loc_loadM (o := 6) (qs := [PV.val _]) (by omega) (by decide) ty_83 (fun _ => rfl) (by exact Nat.le_of_ble_eq_true rfl) (by exact (ToL.cons PV.nv_val ToL.nil)) (by exact (BorL.cons (PV.bor_val _) BorL.nil)))) nofree ?_
   refine swl_step (by exact ⟨rfl, ⟨⟩⟩) (by exact ⟨⟩) (LocG.of rfl (loc_copy (.inl rfl) (by decide) (by exact Cp.sc))) nofree ?_
   refine swl_of (l := [(0, RV.nm _ (RV.hdr 999 _ _)), (1, RV.sv false [PV.val _]), (4, RV.sv false [PV.val _]), (5, RV.sv false [PV.val _]), (58, RV.hdr 999 _ _), (59, RV.sv false [PV.val _]), (60, RV.ptr 999 _), (61, RV.ptr 999 _), (62, RV.sv false [PV.val _]), (63, RV.sv false [PV.val _])]) (b := [(999, (132, _ ++ ([PV.val _, PV.val _, PV.nv _ (PV.sl _ _), PV.nv _ (PV.sl _ _), PV.val _, PV.val _, PV.nv _ (PV.sl _ _)] ++ _)))]) (by exact ⟨rfl, rfl, rfl, rfl, rfl, rfl, rfl, rfl, rfl, rfl, ⟨⟩⟩) (by exact ⟨rfl, ⟨⟩⟩) ?_
   refine swl_ucallM (bx := 999) (L := L0w) (pre := [PV.val _, PV.val _, PV.nv _ (PV.sl _ _), PV.nv _ (PV.sl _ _), PV.val _, PV.val _]) (ms := [PV.nv _ (PV.sl _ _)]) (post := []) (qr := [(false, [PV.val _])]) (as_ := [(false, [PV.val _])]) (by decide) c_108 rfl (by exact rfl) (by exact (Nm.val Nm.nil)) (by exact ⟨rfl, ⟨⟩⟩) (by exact (And.intro (by exact ⟨⟩) True.intro)) (by exact And.intro (And.intro rfl (ToL.cons (PV.To.refl _) ToL.nil)) True.intro) (by exact rfl) (by exact (Nm.nv Nm.nil)) (by exact (OwnTo.nv OwnTo.nil)) (by exact mark_RowS (by omega) (by omega)) (by exact (OwnFrom.nv OwnFrom.nil)) (fun x hx => hx.elim) (by exact (LclA.cons (RV.lcl_nm RV.lcl_hdr) (LclA.cons (RV.lcl_sv (LclC.cons PV.lcl_val LclC.nil)) (LclA.cons (RV.lcl_sv (LclC.cons PV.lcl_val LclC.nil)) (LclA.cons (RV.lcl_sv (LclC.cons PV.lcl_val LclC.nil)) (LclA.cons RV.lcl_hdr (LclA.cons (RV.lcl_sv (LclC.cons PV.lcl_val LclC.nil)) (LclA.cons RV.lcl_ptr (LclA.cons RV.lcl_ptr (LclA.cons (RV.lcl_sv (LclC.cons PV.lcl_val LclC.nil)) (LclA.cons (RV.lcl_sv (LclC.cons PV.lcl_val LclC.nil)) LclA.nil))))))))))) (by exact (And.intro (.inl rfl) True.intro)) (by exact (LclC.flat (LclC.map fun x => (LclC.cons PV.lcl_val (LclC.cons PV.lcl_val (LclC.cons (PV.lcl_own (LclC.map fun x => (LclC.cons PV.lcl_val (LclC.cons PV.lcl_val (LclC.cons PV.lcl_val LclC.nil))))) (LclC.cons (PV.lcl_own (LclC.map fun x => (LclC.cons PV.lcl_val LclC.nil))) (LclC.cons PV.lcl_val (LclC.cons PV.lcl_val (LclC.cons (PV.lcl_own (LclC.map fun x => (LclC.cons PV.lcl_val (LclC.cons (PV.lcl_own (LclC.map fun x => (LclC.cons PV.lcl_val LclC.nil))) LclC.nil)))) LclC.nil)))))))))) (by exact (LclC.cons PV.lcl_val (LclC.cons PV.lcl_val (LclC.cons (PV.lcl_nv (PV.lcl_own (LclC.map fun x => (LclC.cons PV.lcl_val (LclC.cons PV.lcl_val (LclC.cons PV.lcl_val LclC.nil)))))) (LclC.cons (PV.lcl_nv (PV.lcl_own (LclC.map fun x => (LclC.cons PV.lcl_val LclC.nil)))) (LclC.cons PV.lcl_val (LclC.cons PV.lcl_val LclC.nil))))))) (by exact LclC.nil) (by exact (LclC.app (LclC.flat (LclC.map fun x => (LclC.cons PV.lcl_val (LclC.cons PV.lcl_val (LclC.cons (PV.lcl_own (LclC.map fun x => (LclC.cons PV.lcl_val (LclC.cons PV.lcl_val (LclC.cons PV.lcl_val LclC.nil))))) (LclC.cons (PV.lcl_own (LclC.map fun x => (LclC.cons PV.lcl_val LclC.nil))) (LclC.cons PV.lcl_val (LclC.cons PV.lcl_val (LclC.cons (PV.lcl_own (LclC.map fun x => (LclC.cons PV.lcl_val (LclC.cons (PV.lcl_own (LclC.map fun x => (LclC.cons PV.lcl_val LclC.nil))) LclC.nil)))) LclC.nil))))))))) LclC.vals)) rfl ?_
   refine swl_step (by exact ⟨rfl, ⟨⟩⟩) (by exact ⟨⟩) (LocG.of rfl (loc_copy (.inr rfl) (by decide) (by exact Cp.sc))) nofree ?_
   refine swl_nil ?_
   refine sw_boxTo (d := 999) (by exact rfl) (by exact (OwnTo.same (OwnTo.same (OwnTo.nv (OwnTo.nv (OwnTo.same (OwnTo.same (OwnTo.nv OwnTo.nil)))))))) ?_
   refine sO [(0, _), (1, _), (4, _), (5, _)] [(999, (132, _ ++ ([PV.val _, PV.val _, PV.sl _ _, PV.sl _ _, PV.val _, PV.val _, PV.sl _ _] ++ _)))] ?_
   refine sw_reg ?_
   refine rA ?_ (x := sM)
   refine rA ?_ (x := B_add)
   refine rA ?_ (x := sA)
   refine Exists.intro (i + 1) (And.intro (by omega) (And.intro (by omega) (And.intro (And.intro (by exact ⟨rfl, rfl, ⟨⟩⟩) (by exact ⟨⟩)) (And.intro (by exact And.intro (by exact int_eq (by rw [mkL_succ hlt]; rfl)) (And.intro (by exact rfl) (True.intro))) (by exact And.intro (by exact congrArg (fun z => some (132, z)) (mark_join hlt rfl)) (True.intro))))))
  ·try simp only [q1, q2, q3, q4, q5, q6, q7, q8, q9] at hb1
   have hend : i = x.length := by omega
   refine sw_boxEq (d := 999) (by exact rfl) (mark_all hend) ?_
   refine sw_freeze (s := 0) (D := 999) (e := 7) (by exact rfl) (by exact rfl) (by rw [List.length_map, mkL_len, List.length_map]) (by intro c hc; obtain ⟨y, _, rfl⟩ := List.mem_map.1 hc; exact rfl) hjk ?_
   refine sw_exit ?_
   refine sw_seq ?_
   refine sO [(0, _), (1, _), (4, _), (5, _)] [] ?_
   refine sw_reg ?_
   refine rA ?_ (x := sM)
   refine rA ?_ (x := sA)
   refine sw_ret ?_
   exact And.intro (by exact int_eq (by first | rfl | rw [hend, List.take_length])) (Exists.intro _ (And.intro (.inl (by exact rfl)) (And.intro (by exact (Nm.nv Nm.nil)) (by exact (OwnTo.nv OwnTo.nil)))))
theorem mark_Engine {x : Engine} {k : Int} (h0k : 0 ≤ k) (hbk : (mkV_Engine x k).2 ≤ 4611686018427387904) : UCall Tryz.prog 15 true (cEngine (.own 138 1) (.own 195 4) (.own 3 1) (.own 3 1) (.own 85 10) (.own 165 3) (.own 3 1) (.own 3 1) (.own 53 2) (.own 3 1) (.own 132 7) (.own 165 3) (.own 3 1) (.own 53 2) (.own 3 1) (.own 136 5) (.own 3 1) (.own 3 1) (.own 3 1) x) (cEngine (.own 138 1) (.own 195 4) (.own 3 1) (.own 3 1) (.own 85 10) (.own 165 3) (.own 3 1) (.own 3 1) (.own 53 2) (.own 3 1) (.own 132 7) (.own 165 3) (.own 3 1) (.own 53 2) (.own 3 1) (.own 136 5) (.own 3 1) (.own 3 1) (.own 3 1) (mkV_Engine x k).1) [(false, [PV.val (vI k)])] (vI (mkV_Engine x k).2) := by
 refine ucall_of Tryz.func15 rfl (Nat.le_of_ble_eq_true rfl) (borA_cons (BorL.cons (PV.bor_val _) BorL.nil) borA_nil) ?_
 intro us h0 w0 Fz0 hus
 obtain ⟨v0, v1, v2, v3, v4, v5, v6, v7, rfl⟩ := us_8 hus
 simp only [mkV_Engine] at hbk
 have hm0 := mkL_le mkE_VersionS_le x.Store.Segments k
 have hm1 := mkL_le mkE_Int_le x.Order (mkL mkE_VersionS x.Store.Segments k).2
 have hm2 := mkL_le mkE_Active_le x.Active (mkL mkE_Int x.Order (mkL mkE_VersionS x.Store.Segments k).2).2
 have hm3 := mkL_le mkE_Finished_le x.Done (mkL mkE_Active x.Active (mkL mkE_Int x.Order (mkL mkE_VersionS x.Store.Segments k).2).2).2
 have hm4 := mkL_le mkE_Charge_le x.Ledger (mkL mkE_Finished x.Done (mkL mkE_Active x.Active (mkL mkE_Int x.Order (mkL mkE_VersionS x.Store.Segments k).2).2).2).2
 have hv0 : (mkV_Store x.Store k).2 = (mkL mkE_VersionS x.Store.Segments k).2 := rfl
 refine sw_seq ?_
 refine sO [(0, _), (1, _)] [] ?_
 refine sw_reg ?_
 refine RunS.step (by exact ⟨rfl, ⟨⟩⟩) (by exact ⟨⟩) (LocG.of rfl (loc_box (ag := true) (cs := [PV.nv _ (PV.sl _ _), PV.nv _ (PV.val _), PV.nv _ (PV.val _), PV.nv _ (PV.sl _ _), PV.nv _ (PV.sl _ _), PV.nv _ (PV.sl _ _), PV.nv _ (PV.sl _ _), PV.nv _ (PV.val _)]) (by decide) (by exact ⟨⟩))) (free1 (Free.of_ rfl)) ?_
 refine rA ?_ (x := kA)
 refine sw_seq ?_
 refine sO [(1, _), (2, _), (4, _)] [(2, (40, [PV.nv _ (PV.sl _ _), PV.nv _ (PV.val _), PV.nv _ (PV.val _), PV.nv _ (PV.sl _ _), PV.nv _ (PV.sl _ _), PV.nv _ (PV.sl _ _), PV.nv _ (PV.sl _ _), PV.nv _ (PV.val _)]))] ?_
 refine sw_regL ?_
 refine swl_step (by exact ⟨rfl, ⟨⟩⟩) (by exact ⟨⟩) (LocG.of rfl (loc_field (by decide) fd_40_0)) nofree ?_
 refine swl_step (by exact ⟨rfl, ⟨⟩⟩) (by exact ⟨rfl, ⟨⟩⟩) (LocG.of rfl (loc_load (qs := [PV.val _, PV.val _]) (by decide) ty_35 (fun h => nomatch h) (by exact Nat.le_of_ble_eq_true rfl) (by exact (ToL.cons PV.nv_val (ToL.cons PV.nv_val ToL.nil))) (by exact (BorL.cons (PV.bor_val _) (BorL.cons (PV.bor_val _) BorL.nil))))) nofree ?_
 refine swl_step (by exact ⟨rfl, ⟨⟩⟩) (by exact ⟨⟩) (LocG.of rfl (loc_copy (.inl rfl) (by decide) (by exact Cp.sc))) nofree ?_
 refine swl_of (l := [(1, RV.sv false [PV.val _]), (2, RV.ptr 2 0), (4, RV.sv false [PV.val _]), (5, RV.ptr 2 0), (6, RV.sv true [PV.val _, PV.val _]), (7, RV.sv false [PV.val _])]) (b := [(2, (40, [PV.nv _ (PV.sl _ _), PV.nv _ (PV.val _), PV.nv _ (PV.val _), PV.nv _ (PV.sl _ _), PV.nv _ (PV.sl _ _), PV.nv _ (PV.sl _ _), PV.nv _ (PV.sl _ _), PV.nv _ (PV.val _)]))]) (by exact ⟨rfl, rfl, rfl, rfl, rfl, rfl, ⟨⟩⟩) (by exact ⟨rfl, ⟨⟩⟩) ?_
 refine swl_ucallB (bx := 2) (L := L0w) (A := []) (ms := [PV.nv _ (PV.sl _ _), PV.nv _ (PV.val _)]) (B := [PV.nv _ (PV.val _), PV.nv _ (PV.sl _ _), PV.nv _ (PV.sl _ _), PV.nv _ (PV.sl _ _), PV.nv _ (PV.sl _ _), PV.nv _ (PV.val _)]) (qr := [(false, [PV.val _])]) (as_ := [(false, [PV.val _])]) (by decide) c_49 rfl (by exact rfl) (by exact (Nm.val (Nm.val Nm.nil))) (by exact ⟨rfl, ⟨⟩⟩) (by exact (And.intro (by exact ⟨⟩) True.intro)) (by exact And.intro (And.intro rfl (ToL.cons (PV.To.refl _) ToL.nil)) True.intro) (by exact rfl) (by exact (Nm.nv (Nm.nv Nm.nil))) (by exact (OwnTo.nv (OwnTo.nv OwnTo.nil))) (by exact mark_Store (by first | omega | (simp only [mkV_Store]; omega)) (by first | omega | (simp only [mkV_Store]; omega))) (by exact (OwnFrom.nv (OwnFrom.nv OwnFrom.nil))) (fun x hx => hx.elim) (by exact (LclA.cons (RV.lcl_sv (LclC.cons PV.lcl_val LclC.nil)) (LclA.cons RV.lcl_ptr (LclA.cons (RV.lcl_sv (LclC.cons PV.lcl_val LclC.nil)) (LclA.cons RV.lcl_ptr (LclA.cons (RV.lcl_sv (LclC.cons PV.lcl_val (LclC.cons PV.lcl_val LclC.nil))) (LclA.cons (RV.lcl_sv (LclC.cons PV.lcl_val LclC.nil)) LclA.nil))))))) (by exact (And.intro (.inl rfl) True.intro)) (by exact LclC.nil) (by exact (LclC.cons (PV.lcl_nv PV.lcl_val) (LclC.cons (PV.lcl_nv (PV.lcl_own (LclC.map fun x => (LclC.cons PV.lcl_val LclC.nil)))) (LclC.cons (PV.lcl_nv (PV.lcl_own (LclC.map fun x => (LclC.cons PV.lcl_val (LclC.cons PV.lcl_val (LclC.cons (PV.lcl_own (LclC.map fun x => (LclC.cons PV.lcl_val (LclC.cons PV.lcl_val (LclC.cons PV.lcl_val LclC.nil))))) (LclC.cons (PV.lcl_own (LclC.map fun x => (LclC.cons PV.lcl_val LclC.nil))) (LclC.cons PV.lcl_val (LclC.cons (PV.lcl_own (LclC.map fun x => (LclC.cons PV.lcl_val LclC.nil))) (LclC.cons PV.lcl_val (LclC.cons PV.lcl_val (LclC.cons PV.lcl_val (LclC.cons (PV.lcl_own (LclC.map fun x => (LclC.cons PV.lcl_val (LclC.cons (PV.lcl_own (LclC.map fun x => (LclC.cons PV.lcl_val LclC.nil))) LclC.nil)))) LclC.nil))))))))))))) (LclC.cons (PV.lcl_nv (PV.lcl_own (LclC.map fun x => (LclC.cons PV.lcl_val (LclC.cons PV.lcl_val (LclC.cons (PV.lcl_own (LclC.map fun x => (LclC.cons PV.lcl_val (LclC.cons PV.lcl_val (LclC.cons PV.lcl_val LclC.nil))))) (LclC.cons (PV.lcl_own (LclC.map fun x => (LclC.cons PV.lcl_val LclC.nil))) (LclC.cons PV.lcl_val (LclC.cons PV.lcl_val (LclC.cons (PV.lcl_own (LclC.map fun x => (LclC.cons PV.lcl_val (LclC.cons (PV.lcl_own (LclC.map fun x => (LclC.cons PV.lcl_val LclC.nil))) LclC.nil)))) LclC.nil)))))))))) (LclC.cons (PV.lcl_nv (PV.lcl_own (LclC.map fun x => (LclC.cons PV.lcl_val (LclC.cons PV.lcl_val (LclC.cons (PV.lcl_own (LclC.map fun x => (LclC.cons PV.lcl_val LclC.nil))) (LclC.cons (PV.lcl_own (LclC.map fun x => (LclC.cons PV.lcl_val LclC.nil))) (LclC.cons (PV.lcl_own (LclC.map fun x => (LclC.cons PV.lcl_val LclC.nil))) LclC.nil)))))))) (LclC.cons (PV.lcl_nv PV.lcl_val) LclC.nil))))))) rfl ?_
 refine swl_step (by exact ⟨rfl, ⟨⟩⟩) (by exact ⟨⟩) (LocG.of rfl (loc_copy (.inr rfl) (by decide) (by exact Cp.sc))) nofree ?_
 refine swl_nil ?_
 refine sw_seq ?_
 refine sO [(1, _), (2, _), (4, _)] [(2, _)] ?_
 refine sw_regL ?_
 refine swl_step (by exact ⟨rfl, ⟨⟩⟩) (by exact ⟨⟩) (LocG.of rfl (loc_field (by decide) fd_40_2)) nofree ?_
 refine swl_step (by exact ⟨rfl, ⟨⟩⟩) (by exact ⟨rfl, ⟨⟩⟩) (LocG.of rfl (loc_load (qs := [PV.val _]) (by decide) ty_25 (fun _ => rfl) (by exact Nat.le_of_ble_eq_true rfl) (by exact (ToL.cons PV.nv_val ToL.nil)) (by exact (BorL.cons (PV.bor_val _) BorL.nil)))) nofree ?_
 refine swl_step (by exact ⟨rfl, ⟨⟩⟩) (by exact ⟨⟩) (LocG.of rfl (loc_copy (.inl rfl) (by decide) (by exact Cp.sc))) nofree ?_
 refine swl_of (l := [(1, RV.sv false [PV.val _]), (2, RV.ptr 2 0), (4, RV.sv false [PV.val _]), (9, RV.ptr 2 3), (10, RV.sv false [PV.val _]), (11, RV.sv false [PV.val _])]) (b := [(2, (40, [PV.nv _ (PV.sl _ _), PV.nv _ (PV.val _), PV.nv _ (PV.val _), PV.nv _ (PV.sl _ _), PV.nv _ (PV.sl _ _), PV.nv _ (PV.sl _ _), PV.nv _ (PV.sl _ _), PV.nv _ (PV.val _)]))]) (by exact ⟨rfl, rfl, rfl, rfl, rfl, rfl, ⟨⟩⟩) (by exact ⟨rfl, ⟨⟩⟩) ?_
 refine swl_ucallB (bx := 2) (L := L0w) (A := [PV.nv _ (PV.sl _ _), PV.nv _ (PV.val _), PV.nv _ (PV.val _)]) (ms := [PV.nv _ (PV.sl _ _)]) (B := [PV.nv _ (PV.sl _ _), PV.nv _ (PV.sl _ _), PV.nv _ (PV.sl _ _), PV.nv _ (PV.val _)]) (qr := [(false, [PV.val _])]) (as_ := [(false, [PV.val _])]) (by decide) c_50 rfl (by exact rfl) (by exact (Nm.val Nm.nil)) (by exact ⟨rfl, ⟨⟩⟩) (by exact (And.intro (by exact ⟨⟩) True.intro)) (by exact And.intro (And.intro rfl (ToL.cons (PV.To.refl _) ToL.nil)) True.intro) (by exact rfl) (by exact (Nm.nv Nm.nil)) (by exact (OwnTo.nv OwnTo.nil)) (by exact mark_IntS (by first | omega | (simp only [mkV_Store]; omega)) (by first | omega | (simp only [mkV_Store]; omega))) (by exact (OwnFrom.nv OwnFrom.nil)) (fun x hx => hx.elim) (by exact (LclA.cons (RV.lcl_sv (LclC.cons PV.lcl_val LclC.nil)) (LclA.cons RV.lcl_ptr (LclA.cons (RV.lcl_sv (LclC.cons PV.lcl_val LclC.nil)) (LclA.cons RV.lcl_ptr (LclA.cons (RV.lcl_sv (LclC.cons PV.lcl_val LclC.nil)) (LclA.cons (RV.lcl_sv (LclC.cons PV.lcl_val LclC.nil)) LclA.nil))))))) (by exact (And.intro (.inl rfl) True.intro)) (by exact (LclC.cons (PV.lcl_nv (PV.lcl_own (LclC.map fun x => (LclC.cons (PV.lcl_own (LclC.map fun x => (LclC.cons PV.lcl_val (LclC.cons (PV.lcl_own (LclC.map fun x => (LclC.cons PV.lcl_val LclC.nil))) (LclC.cons PV.lcl_val (LclC.cons PV.lcl_val LclC.nil)))))) LclC.nil)))) (LclC.cons (PV.lcl_nv PV.lcl_val) (LclC.cons (PV.lcl_nv PV.lcl_val) LclC.nil)))) (by exact (LclC.cons (PV.lcl_nv (PV.lcl_own (LclC.map fun x => (LclC.cons PV.lcl_val (LclC.cons PV.lcl_val (LclC.cons (PV.lcl_own (LclC.map fun x => (LclC.cons PV.lcl_val (LclC.cons PV.lcl_val (LclC.cons PV.lcl_val LclC.nil))))) (LclC.cons (PV.lcl_own (LclC.map fun x => (LclC.cons PV.lcl_val LclC.nil))) (LclC.cons PV.lcl_val (LclC.cons (PV.lcl_own (LclC.map fun x => (LclC.cons PV.lcl_val LclC.nil))) (LclC.cons PV.lcl_val (LclC.cons PV.lcl_val (LclC.cons PV.lcl_val (LclC.cons (PV.lcl_own (LclC.map fun x => (LclC.cons PV.lcl_val (LclC.cons (PV.lcl_own (LclC.map fun x => (LclC.cons PV.lcl_val LclC.nil))) LclC.nil)))) LclC.nil))))))))))))) (LclC.cons (PV.lcl_nv (PV.lcl_own (LclC.map fun x => (LclC.cons PV.lcl_val (LclC.cons PV.lcl_val (LclC.cons (PV.lcl_own (LclC.map fun x => (LclC.cons PV.lcl_val (LclC.cons PV.lcl_val (LclC.cons PV.lcl_val LclC.nil))))) (LclC.cons (PV.lcl_own (LclC.map fun x => (LclC.cons PV.lcl_val LclC.nil))) (LclC.cons PV.lcl_val (LclC.cons PV.lcl_val (LclC.cons (PV.lcl_own (LclC.map fun x => (LclC.cons PV.lcl_val (LclC.cons (PV.lcl_own (LclC.map fun x => (LclC.cons PV.lcl_val LclC.nil))) LclC.nil)))) LclC.nil)))))))))) (LclC.cons (PV.lcl_nv (PV.lcl_own (LclC.map fun x => (LclC.cons PV.lcl_val (LclC.cons PV.lcl_val (LclC.cons (PV.lcl_own (LclC.map fun x => (LclC.cons PV.lcl_val LclC.nil))) (LclC.cons (PV.lcl_own (LclC.map fun x => (LclC.cons PV.lcl_val LclC.nil))) (LclC.cons (PV.lcl_own (LclC.map fun x => (LclC.cons PV.lcl_val LclC.nil))) LclC.nil)))))))) (LclC.cons (PV.lcl_nv PV.lcl_val) LclC.nil))))) rfl ?_
 refine swl_step (by exact ⟨rfl, ⟨⟩⟩) (by exact ⟨⟩) (LocG.of rfl (loc_copy (.inr rfl) (by decide) (by exact Cp.sc))) nofree ?_
 refine swl_nil ?_
 refine sw_seq ?_
 refine sO [(1, _), (2, _), (4, _)] [(2, _)] ?_
 refine sw_regL ?_
 refine swl_step (by exact ⟨rfl, ⟨⟩⟩) (by exact ⟨⟩) (LocG.of rfl (loc_field (by decide) fd_40_3)) nofree ?_
 refine swl_step (by exact ⟨rfl, ⟨⟩⟩) (by exact ⟨rfl, ⟨⟩⟩) (LocG.of rfl (loc_load (qs := [PV.val _]) (by decide) ty_36 (fun _ => rfl) (by exact Nat.le_of_ble_eq_true rfl) (by exact (ToL.cons PV.nv_val ToL.nil)) (by exact (BorL.cons (PV.bor_val _) BorL.nil)))) nofree ?_
 refine swl_step (by exact ⟨rfl, ⟨⟩⟩) (by exact ⟨⟩) (LocG.of rfl (loc_copy (.inl rfl) (by decide) (by exact Cp.sc))) nofree ?_
 refine swl_of (l := [(1, RV.sv false [PV.val _]), (2, RV.ptr 2 0), (4, RV.sv false [PV.val _]), (13, RV.ptr 2 4), (14, RV.sv false [PV.val _]), (15, RV.sv false [PV.val _])]) (b := [(2, (40, [PV.nv _ (PV.sl _ _), PV.nv _ (PV.val _), PV.nv _ (PV.val _), PV.nv _ (PV.sl _ _), PV.nv _ (PV.sl _ _), PV.nv _ (PV.sl _ _), PV.nv _ (PV.sl _ _), PV.nv _ (PV.val _)]))]) (by exact ⟨rfl, rfl, rfl, rfl, rfl, rfl, ⟨⟩⟩) (by exact ⟨rfl, ⟨⟩⟩) ?_
 refine swl_ucallB (bx := 2) (L := L0w) (A := [PV.nv _ (PV.sl _ _), PV.nv _ (PV.val _), PV.nv _ (PV.val _), PV.nv _ (PV.sl _ _)]) (ms := [PV.nv _ (PV.sl _ _)]) (B := [PV.nv _ (PV.sl _ _), PV.nv _ (PV.sl _ _), PV.nv _ (PV.val _)]) (qr := [(false, [PV.val _])]) (as_ := [(false, [PV.val _])]) (by decide) c_51 rfl (by exact rfl) (by exact (Nm.val Nm.nil)) (by exact ⟨rfl, ⟨⟩⟩) (by exact (And.intro (by exact ⟨⟩) True.intro)) (by exact And.intro (And.intro rfl (ToL.cons (PV.To.refl _) ToL.nil)) True.intro) (by exact rfl) (by exact (Nm.nv Nm.nil)) (by exact (OwnTo.nv OwnTo.nil)) (by exact mark_ActiveS (by first | omega | (simp only [mkV_Store]; omega)) (by first | omega | (simp only [mkV_Store]; omega))) (by exact (OwnFrom.nv OwnFrom.nil)) (fun x hx => hx.elim) (by exact (LclA.cons (RV.lcl_sv (LclC.cons PV.lcl_val LclC.nil)) (LclA.cons RV.lcl_ptr (LclA.cons (RV.lcl_sv (LclC.cons PV.lcl_val LclC.nil)) (LclA.cons RV.lcl_ptr (LclA.cons (RV.lcl_sv (LclC.cons PV.lcl_val LclC.nil)) (LclA.cons (RV.lcl_sv (LclC.cons PV.lcl_val LclC.nil)) LclA.nil))))))) (by exact (And.intro (.inl rfl) True.intro)) (by exact (LclC.cons (PV.lcl_nv (PV.lcl_own (LclC.map fun x => (LclC.cons (PV.lcl_own (LclC.map fun x => (LclC.cons PV.lcl_val (LclC.cons (PV.lcl_own (LclC.map fun x => (LclC.cons PV.lcl_val LclC.nil))) (LclC.cons PV.lcl_val (LclC.cons PV.lcl_val LclC.nil)))))) LclC.nil)))) (LclC.cons (PV.lcl_nv PV.lcl_val) (LclC.cons (PV.lcl_nv PV.lcl_val) (LclC.cons (PV.lcl_nv (PV.lcl_own (LclC.map fun x => (LclC.cons PV.lcl_val LclC.nil)))) LclC.nil))))) (by exact (LclC.cons (PV.lcl_nv (PV.lcl_own (LclC.map fun x => (LclC.cons PV.lcl_val (LclC.cons PV.lcl_val (LclC.cons (PV.lcl_own (LclC.map fun x => (LclC.cons PV.lcl_val (LclC.cons PV.lcl_val (LclC.cons PV.lcl_val LclC.nil))))) (LclC.cons (PV.lcl_own (LclC.map fun x => (LclC.cons PV.lcl_val LclC.nil))) (LclC.cons PV.lcl_val (LclC.cons PV.lcl_val (LclC.cons (PV.lcl_own (LclC.map fun x => (LclC.cons PV.lcl_val (LclC.cons (PV.lcl_own (LclC.map fun x => (LclC.cons PV.lcl_val LclC.nil))) LclC.nil)))) LclC.nil)))))))))) (LclC.cons (PV.lcl_nv (PV.lcl_own (LclC.map fun x => (LclC.cons PV.lcl_val (LclC.cons PV.lcl_val (LclC.cons (PV.lcl_own (LclC.map fun x => (LclC.cons PV.lcl_val LclC.nil))) (LclC.cons (PV.lcl_own (LclC.map fun x => (LclC.cons PV.lcl_val LclC.nil))) (LclC.cons (PV.lcl_own (LclC.map fun x => (LclC.cons PV.lcl_val LclC.nil))) LclC.nil)))))))) (LclC.cons (PV.lcl_nv PV.lcl_val) LclC.nil)))) rfl ?_
 refine swl_step (by exact ⟨rfl, ⟨⟩⟩) (by exact ⟨⟩) (LocG.of rfl (loc_copy (.inr rfl) (by decide) (by exact Cp.sc))) nofree ?_
 refine swl_nil ?_
 refine sw_seq ?_
 refine sO [(1, _), (2, _), (4, _)] [(2, _)] ?_
 refine sw_regL ?_
 refine swl_step (by exact ⟨rfl, ⟨⟩⟩) (by exact ⟨⟩) (LocG.of rfl (loc_field (by decide) fd_40_4)) nofree ?_
 refine swl_step (by exact ⟨rfl, ⟨⟩⟩) (by exact ⟨rfl, ⟨⟩⟩) (LocG.of rfl (loc_load (qs := [PV.val _]) (by decide) ty_37 (fun _ => rfl) (by exact Nat.le_of_ble_eq_true rfl) (by exact (ToL.cons PV.nv_val ToL.nil)) (by exact (BorL.cons (PV.bor_val _) BorL.nil)))) nofree ?_
 refine swl_step (by exact ⟨rfl, ⟨⟩⟩) (by exact ⟨⟩) (LocG.of rfl (loc_copy (.inl rfl) (by decide) (by exact Cp.sc))) nofree ?_
 refine swl_of (l := [(1, RV.sv false [PV.val _]), (2, RV.ptr 2 0), (4, RV.sv false [PV.val _]), (17, RV.ptr 2 5), (18, RV.sv false [PV.val _]), (19, RV.sv false [PV.val _])]) (b := [(2, (40, [PV.nv _ (PV.sl _ _), PV.nv _ (PV.val _), PV.nv _ (PV.val _), PV.nv _ (PV.sl _ _), PV.nv _ (PV.sl _ _), PV.nv _ (PV.sl _ _), PV.nv _ (PV.sl _ _), PV.nv _ (PV.val _)]))]) (by exact ⟨rfl, rfl, rfl, rfl, rfl, rfl, ⟨⟩⟩) (by exact ⟨rfl, ⟨⟩⟩) ?_
 refine swl_ucallB (bx := 2) (L := L0w) (A := [PV.nv _ (PV.sl _ _), PV.nv _ (PV.val _), PV.nv _ (PV.val _), PV.nv _ (PV.sl _ _), PV.nv _ (PV.sl _ _)]) (ms := [PV.nv _ (PV.sl _ _)]) (B := [PV.nv _ (PV.sl _ _), PV.nv _ (PV.val _)]) (qr := [(false, [PV.val _])]) (as_ := [(false, [PV.val _])]) (by decide) c_52 rfl (by exact rfl) (by exact (Nm.val Nm.nil)) (by exact ⟨rfl, ⟨⟩⟩) (by exact (And.intro (by exact ⟨⟩) True.intro)) (by exact And.intro (And.intro rfl (ToL.cons (PV.To.refl _) ToL.nil)) True.intro) (by exact rfl) (by exact (Nm.nv Nm.nil)) (by exact (OwnTo.nv OwnTo.nil)) (by exact mark_FinishedS (by first | omega | (simp only [mkV_Store]; omega)) (by first | omega | (simp only [mkV_Store]; omega))) (by exact (OwnFrom.nv OwnFrom.nil)) (fun x hx => hx.elim) (by exact (LclA.cons (RV.lcl_sv (LclC.cons PV.lcl_val LclC.nil)) (LclA.cons RV.lcl_ptr (LclA.cons (RV.lcl_sv (LclC.cons PV.lcl_val LclC.nil)) (LclA.cons RV.lcl_ptr (LclA.cons (RV.lcl_sv (LclC.cons PV.lcl_val LclC.nil)) (LclA.cons (RV.lcl_sv (LclC.cons PV.lcl_val LclC.nil)) LclA.nil))))))) (by exact (And.intro (.inl rfl) True.intro)) (by exact (LclC.cons (PV.lcl_nv (PV.lcl_own (LclC.map fun x => (LclC.cons (PV.lcl_own (LclC.map fun x => (LclC.cons PV.lcl_val (LclC.cons (PV.lcl_own (LclC.map fun x => (LclC.cons PV.lcl_val LclC.nil))) (LclC.cons PV.lcl_val (LclC.cons PV.lcl_val LclC.nil)))))) LclC.nil)))) (LclC.cons (PV.lcl_nv PV.lcl_val) (LclC.cons (PV.lcl_nv PV.lcl_val) (LclC.cons (PV.lcl_nv (PV.lcl_own (LclC.map fun x => (LclC.cons PV.lcl_val LclC.nil)))) (LclC.cons (PV.lcl_nv (PV.lcl_own (LclC.map fun x => (LclC.cons PV.lcl_val (LclC.cons PV.lcl_val (LclC.cons (PV.lcl_own (LclC.map fun x => (LclC.cons PV.lcl_val (LclC.cons PV.lcl_val (LclC.cons PV.lcl_val LclC.nil))))) (LclC.cons (PV.lcl_own (LclC.map fun x => (LclC.cons PV.lcl_val LclC.nil))) (LclC.cons PV.lcl_val (LclC.cons (PV.lcl_own (LclC.map fun x => (LclC.cons PV.lcl_val LclC.nil))) (LclC.cons PV.lcl_val (LclC.cons PV.lcl_val (LclC.cons PV.lcl_val (LclC.cons (PV.lcl_own (LclC.map fun x => (LclC.cons PV.lcl_val (LclC.cons (PV.lcl_own (LclC.map fun x => (LclC.cons PV.lcl_val LclC.nil))) LclC.nil)))) LclC.nil))))))))))))) LclC.nil)))))) (by exact (LclC.cons (PV.lcl_nv (PV.lcl_own (LclC.map fun x => (LclC.cons PV.lcl_val (LclC.cons PV.lcl_val (LclC.cons (PV.lcl_own (LclC.map fun x => (LclC.cons PV.lcl_val LclC.nil))) (LclC.cons (PV.lcl_own (LclC.map fun x => (LclC.cons PV.lcl_val LclC.nil))) (LclC.cons (PV.lcl_own (LclC.map fun x => (LclC.cons PV.lcl_val LclC.nil))) LclC.nil)))))))) (LclC.cons (PV.lcl_nv PV.lcl_val) LclC.nil))) rfl ?_
 refine swl_step (by exact ⟨rfl, ⟨⟩⟩) (by exact ⟨⟩) (LocG.of rfl (loc_copy (.inr rfl) (by decide) (by exact Cp.sc))) nofree ?_
 refine swl_nil ?_
 refine sw_seq ?_
 refine sO [(1, _), (2, _), (4, _)] [(2, _)] ?_
 refine sw_regL ?_
 refine swl_step (by exact ⟨rfl, ⟨⟩⟩) (by exact ⟨⟩) (LocG.of rfl (loc_field (by decide) fd_40_5)) nofree ?_
 refine swl_step (by exact ⟨rfl, ⟨⟩⟩) (by exact ⟨rfl, ⟨⟩⟩) (LocG.of rfl (loc_load (qs := [PV.val _]) (by decide) ty_38 (fun _ => rfl) (by exact Nat.le_of_ble_eq_true rfl) (by exact (ToL.cons PV.nv_val ToL.nil)) (by exact (BorL.cons (PV.bor_val _) BorL.nil)))) nofree ?_
 refine swl_step (by exact ⟨rfl, ⟨⟩⟩) (by exact ⟨⟩) (LocG.of rfl (loc_copy (.inl rfl) (by decide) (by exact Cp.sc))) nofree ?_
 refine swl_of (l := [(1, RV.sv false [PV.val _]), (2, RV.ptr 2 0), (4, RV.sv false [PV.val _]), (21, RV.ptr 2 6), (22, RV.sv false [PV.val _]), (23, RV.sv false [PV.val _])]) (b := [(2, (40, [PV.nv _ (PV.sl _ _), PV.nv _ (PV.val _), PV.nv _ (PV.val _), PV.nv _ (PV.sl _ _), PV.nv _ (PV.sl _ _), PV.nv _ (PV.sl _ _), PV.nv _ (PV.sl _ _), PV.nv _ (PV.val _)]))]) (by exact ⟨rfl, rfl, rfl, rfl, rfl, rfl, ⟨⟩⟩) (by exact ⟨rfl, ⟨⟩⟩) ?_
 refine swl_ucallB (bx := 2) (L := L0w) (A := [PV.nv _ (PV.sl _ _), PV.nv _ (PV.val _), PV.nv _ (PV.val _), PV.nv _ (PV.sl _ _), PV.nv _ (PV.sl _ _), PV.nv _ (PV.sl _ _)]) (ms := [PV.nv _ (PV.sl _ _)]) (B := [PV.nv _ (PV.val _)]) (qr := [(false, [PV.val _])]) (as_ := [(false, [PV.val _])]) (by decide) c_53 rfl (by exact rfl) (by exact (Nm.val Nm.nil)) (by exact ⟨rfl, ⟨⟩⟩) (by exact (And.intro (by exact ⟨⟩) True.intro)) (by exact And.intro (And.intro rfl (ToL.cons (PV.To.refl _) ToL.nil)) True.intro) (by exact rfl) (by exact (Nm.nv Nm.nil)) (by exact (OwnTo.nv OwnTo.nil)) (by exact mark_ChargeS (by first | omega | (simp only [mkV_Store]; omega)) (by first | omega | (simp only [mkV_Store]; omega))) (by exact (OwnFrom.nv OwnFrom.nil)) (fun x hx => hx.elim) (by exact (LclA.cons (RV.lcl_sv (LclC.cons PV.lcl_val LclC.nil)) (LclA.cons RV.lcl_ptr (LclA.cons (RV.lcl_sv (LclC.cons PV.lcl_val LclC.nil)) (LclA.cons RV.lcl_ptr (LclA.cons (RV.lcl_sv (LclC.cons PV.lcl_val LclC.nil)) (LclA.cons (RV.lcl_sv (LclC.cons PV.lcl_val LclC.nil)) LclA.nil))))))) (by exact (And.intro (.inl rfl) True.intro)) (by exact (LclC.cons (PV.lcl_nv (PV.lcl_own (LclC.map fun x => (LclC.cons (PV.lcl_own (LclC.map fun x => (LclC.cons PV.lcl_val (LclC.cons (PV.lcl_own (LclC.map fun x => (LclC.cons PV.lcl_val LclC.nil))) (LclC.cons PV.lcl_val (LclC.cons PV.lcl_val LclC.nil)))))) LclC.nil)))) (LclC.cons (PV.lcl_nv PV.lcl_val) (LclC.cons (PV.lcl_nv PV.lcl_val) (LclC.cons (PV.lcl_nv (PV.lcl_own (LclC.map fun x => (LclC.cons PV.lcl_val LclC.nil)))) (LclC.cons (PV.lcl_nv (PV.lcl_own (LclC.map fun x => (LclC.cons PV.lcl_val (LclC.cons PV.lcl_val (LclC.cons (PV.lcl_own (LclC.map fun x => (LclC.cons PV.lcl_val (LclC.cons PV.lcl_val (LclC.cons PV.lcl_val LclC.nil))))) (LclC.cons (PV.lcl_own (LclC.map fun x => (LclC.cons PV.lcl_val LclC.nil))) (LclC.cons PV.lcl_val (LclC.cons (PV.lcl_own (LclC.map fun x => (LclC.cons PV.lcl_val LclC.nil))) (LclC.cons PV.lcl_val (LclC.cons PV.lcl_val (LclC.cons PV.lcl_val (LclC.cons (PV.lcl_own (LclC.map fun x => (LclC.cons PV.lcl_val (LclC.cons (PV.lcl_own (LclC.map fun x => (LclC.cons PV.lcl_val LclC.nil))) LclC.nil)))) LclC.nil))))))))))))) (LclC.cons (PV.lcl_nv (PV.lcl_own (LclC.map fun x => (LclC.cons PV.lcl_val (LclC.cons PV.lcl_val (LclC.cons (PV.lcl_own (LclC.map fun x => (LclC.cons PV.lcl_val (LclC.cons PV.lcl_val (LclC.cons PV.lcl_val LclC.nil))))) (LclC.cons (PV.lcl_own (LclC.map fun x => (LclC.cons PV.lcl_val LclC.nil))) (LclC.cons PV.lcl_val (LclC.cons PV.lcl_val (LclC.cons (PV.lcl_own (LclC.map fun x => (LclC.cons PV.lcl_val (LclC.cons (PV.lcl_own (LclC.map fun x => (LclC.cons PV.lcl_val LclC.nil))) LclC.nil)))) LclC.nil)))))))))) LclC.nil))))))) (by exact (LclC.cons (PV.lcl_nv PV.lcl_val) LclC.nil)) rfl ?_
 refine swl_step (by exact ⟨rfl, ⟨⟩⟩) (by exact ⟨⟩) (LocG.of rfl (loc_copy (.inr rfl) (by decide) (by exact Cp.sc))) nofree ?_
 refine swl_nil ?_
 refine sw_seq ?_
 refine sO [(1, _), (2, _), (4, _)] [(2, _)] ?_
 refine sw_reg ?_
 refine rA ?_ (x := sM)
 refine rA ?_ (x := sA)
 refine sw_ret ?_
 exact And.intro (by exact rfl) (Exists.intro _ (And.intro (.inr (Exists.intro 2 (Exists.intro _ (by exact rfl)))) (And.intro (by exact (Nm.nv (Nm.nv (Nm.nv (Nm.nv (Nm.nv (Nm.nv (Nm.nv (Nm.nv Nm.nil))))))))) (by exact (OwnTo.nv (OwnTo.nv (OwnTo.nv (OwnTo.nv (OwnTo.nv (OwnTo.nv (OwnTo.nv (OwnTo.nv OwnTo.nil))))))))))))
end Go.Proofs.YteflgldonmgejaaGreatDoor
