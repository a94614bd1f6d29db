/- What functions of the program compute. No condition. -/
import Derived.Test.YtloipjaiceifbaaCDb
import Derived.KernelRfl
set_option linter.unusedVariables false
set_option linter.unusedSimpArgs false
namespace Go.Proofs.Ytloipjaiceifbaa
open Go Go.RowKit M
set_option maxRecDepth 10000
attribute [local irreducible] PV.Lcl PV.LclR RV.Lcl
theorem mark_IntS {x : List Int} {k : Int} (h0k : 0 ≤ k) (hbk : (mkL mkE_Int x k).2 ≤ 4611686018427387904) : UCall Try.prog 29 false [PV.sl (.own 3 1) (x.map cInt)] [PV.sl (.own 3 1) ((mkL mkE_Int x k).1.map cInt)] [(false, [PV.val (vI k)])] (vI (mkL mkE_Int x k).2) := by
 refine ucall_of Try.func29 rfl (Nat.le_of_ble_eq_true rfl) (borA_cons (BorL.cons (PV.bor_val _) BorL.nil) borA_nil) ?_
 intro us h0 w0 Fz0 hus
 obtain ⟨u0, rfl⟩ := len1 hus
 by_cases hx : x = []
 ·subst hx
  refine sw_seq ?_
  refine sO [(0, _), (1, _)] [] ?_
  refine sw_reg ?_
  refine rA ?_ (x := kA)
  refine sw_seq ?_
  refine sw_seq ?_
  refine sO [(0, _), (1, _), (4, _)] [] ?_
  refine sw_reg ?_
  refine rA ?_ (x := kA)
  refine sw_block ?_
  refine sO [(0, _), (1, _), (4, _), (5, _)] [] ?_
  refine sw_loop (l0 := [(0, RV.sv false [PV.nv _ (PV.sl _ _)]), (4, RV.sv false [PV.val _])]) (b0 := []) (fun _ : Unit => True) (fun _ : Unit => [(1, RV.int k), (5, RV.int 0)]) (fun _ : Unit => []) (fun _ : Unit => 0) () True.intro (by exact ⟨rfl, rfl, ⟨⟩⟩) (by exact ⟨⟩) (by exact And.intro (by exact rfl) (And.intro (by exact rfl) (True.intro))) (by exact ⟨⟩) ?_
  rintro _ _
  refine sw_seq ?_
  refine sw_seq ?_
  refine sw_reg ?_
  refine rA ?_ (x := sM)
  refine rA ?_ (x := loc_copy (r' := RV.sv false [PV.sl .v _]) (.inl rfl) (by decide) (by exact Cp.sv (ToL.cons (PV.nv_to PV.to_none) ToL.nil) (BorL.cons (PV.bor_sl _) BorL.nil)))
  refine rA ?_ (x := lN sl_38)
  refine rA ?_ (x := B_lss)
  refine sw_cond (t := 9) rfl (fun hb1 => ?_) (fun hb1 => ?_)
  ·try simp only [q1, q2, q3, q4, q5, q6, q7, q8, q9] at hb1
   simp at hb1
  ·try simp only [q1, q2, q3, q4, q5, q6, q7, q8, q9] at hb1
   refine sw_exit ?_
   refine sw_seq ?_
   refine sO [(0, _), (1, _), (4, _), (5, _)] [] ?_
   refine sw_reg ?_
   refine rA ?_ (x := sM)
   refine rA ?_ (x := sA)
   refine sw_ret ?_
   exact And.intro (by exact rfl) (Exists.intro _ (And.intro (.inl (by exact rfl)) (And.intro (by exact (Nm.nv Nm.nil)) (by exact (OwnTo.nv OwnTo.nil)))))
 ·refine sw_thaw (s := 0) (D := 999) (E := 3) (e := 1) (u := u0) (es := x.map cInt) (L := L0w) (by exact rfl) (by simpa using hx) (by exact rfl) (by exact rfl) (fun x hx => hx.elim) (by exact And.intro (.inl rfl) (And.intro (.inr (RV.lcl_sv (LclC.cons PV.lcl_val LclC.nil))) True.intro)) True.intro (LclC.map fun x => (LclC.cons PV.lcl_val LclC.nil)) fun cp jk hl0 hcp hjk => ?_
  have hlm : (x.map cInt).length = x.length := List.length_map _
  rw [hlm] at hl0 hcp
  have hmono := mkL_take_le mkE_Int_le x
  have hmono0 := fun i => mkL_le mkE_Int_le (x.take i) k
  refine sw_seq ?_
  refine sO [(0, _), (1, _)] [(999, (3, _))] ?_
  refine sw_reg ?_
  refine rA ?_ (x := kA)
  refine sw_seq ?_
  refine sw_seq ?_
  refine sO [(0, _), (1, _), (4, _)] [(999, _)] ?_
  refine sw_reg ?_
  refine rA ?_ (x := kA)
  refine sw_block ?_
  refine sO [(0, _), (1, _), (4, _), (5, _)] [(999, _)] ?_
  refine sw_loop (l0 := [(0, RV.nm _ (RV.hdr 999 _ _)), (4, RV.sv false [PV.val _])]) (b0 := []) (fun i : Nat => i ≤ x.length) (fun i : Nat => [(1, RV.int (mkL mkE_Int (x.take i) k).2), (5, RV.int (i : Int))]) (fun i : Nat => [(999, (3, (((mkL mkE_Int (x.take i) k).1 ++ x.drop i).map cInt).flatten ++ jk.map PV.val))]) (fun i : Nat => x.length - i) 0 (by omega) (by exact ⟨rfl, rfl, ⟨⟩⟩) (by exact ⟨⟩) (by exact And.intro (by exact rfl) (And.intro (by exact rfl) (True.intro))) (by exact And.intro (by exact congrArg (fun z => some (3, z)) mark_zero) (True.intro)) ?_
  rintro i hi
  refine sw_seq ?_
  refine sw_seq ?_
  refine sw_reg ?_
  refine rA ?_ (x := sM)
  refine rA ?_ (x := loc_copy (.inl rfl) (by decide) (by exact Cp.nm Cp.hdr))
  refine rA ?_ (x := loc_hlen (by decide) sl_38)
  refine rA ?_ (x := B_lss)
  refine sw_cond (t := 9) rfl (fun hb1 => ?_) (fun hb1 => ?_)
  ·try simp only [q1, q2, q3, q4, q5, q6, q7, q8, q9] at hb1
   have hlt : i < x.length := by omega
   have hk0 := hmono0 i
   have hk1 := hmono (i + 1) k
   rw [mkL_succ hlt] at hk1
   dsimp only at hk1
   simp only [mkE_Int] at hk1
   refine sw_boxEq (d := 999) (by exact rfl) (mark_split hlt) ?_
   have hA := mark_len (f := mkE_Int) (c := cInt) (e := 1) (k := k) (fun _ => rfl) (Nat.le_of_lt hlt)
   refine sw_skip ?_
   refine sw_seq ?_
   refine sw_block ?_
   refine sw_seq ?_
   refine sO [(0, _), (1, _), (4, _), (5, _)] [(999, (3, _ ++ ([PV.val _] ++ _)))] ?_
   refine sw_reg ?_
   refine rA ?_ (x := loc_copy (.inl rfl) (by decide) (by exact Cp.nm Cp.hdr))
   refine rA ?_ (x := sM)
   refine rA ?_ (x := sM)
   refine rA ?_ (x := loc_hindex (by decide) sl_38 (by exact ⟨⟩) (by exact rfl) (by omega))
   refine rA ?_ (x := loc_storeM (o := 0) (ag := false) (vs := [PV.val _]) (by omega) ty_3 (by exact ⟨⟩) (by exact rfl) (by exact Nat.le_of_ble_eq_true rfl))
   refine sO [(0, _), (1, _), (4, _), (5, _)] [(999, (3, _ ++ ([PV.val _] ++ _)))] ?_
   refine sw_reg ?_
   refine rA ?_ (x := sM)
   refine rA ?_ (x := B_add)
   refine rA ?_ (x := sA)
   refine sO [(0, _), (1, _), (4, _), (5, _)] [(999, _)] ?_
   refine sw_reg ?_
   refine rA ?_ (x := sM)
   refine rA ?_ (x := B_add)
   refine rA ?_ (x := sA)
   refine Exists.intro (i + 1) (And.intro (by omega) (And.intro (by omega) (And.intro (And.intro (by exact ⟨rfl, rfl, ⟨⟩⟩) (by exact ⟨⟩)) (And.intro (by exact And.intro (by exact int_eq (by rw [mkL_succ hlt]; rfl)) (And.intro (by exact rfl) (True.intro))) (by exact And.intro (by exact congrArg (fun z => some (3, z)) (mark_join hlt rfl)) (True.intro))))))
  ·try simp only [q1, q2, q3, q4, q5, q6, q7, q8, q9] at hb1
   have hend : i = x.length := by omega
   refine sw_boxEq (d := 999) (by exact rfl) (mark_all hend) ?_
   refine sw_freeze (s := 0) (D := 999) (e := 1) (by exact rfl) (by exact rfl) (by rw [List.length_map, mkL_len, List.length_map]) (by intro c hc; obtain ⟨y, _, rfl⟩ := List.mem_map.1 hc; exact rfl) hjk ?_
   refine sw_exit ?_
   refine sw_seq ?_
   refine sO [(0, _), (1, _), (4, _), (5, _)] [] ?_
   refine sw_reg ?_
   refine rA ?_ (x := sM)
   refine rA ?_ (x := sA)
   refine sw_ret ?_
   exact And.intro (by exact int_eq (by first | rfl | rw [hend, List.take_length])) (Exists.intro _ (And.intro (.inl (by exact rfl)) (And.intro (by exact (Nm.nv Nm.nil)) (by exact (OwnTo.nv OwnTo.nil)))))
theorem mark_BoolS {x : List Bool} {k : Int} (h0k : 0 ≤ k) (hbk : (mkL mkE_Bool x k).2 ≤ 4611686018427387904) : UCall Try.prog 92 false [PV.sl (.own 4 1) (x.map cBool)] [PV.sl (.own 4 1) ((mkL mkE_Bool x k).1.map cBool)] [(false, [PV.val (vI k)])] (vI (mkL mkE_Bool x k).2) := by
 refine ucall_of Try.func92 rfl (Nat.le_of_ble_eq_true rfl) (borA_cons (BorL.cons (PV.bor_val _) BorL.nil) borA_nil) ?_
 intro us h0 w0 Fz0 hus
 obtain ⟨u0, rfl⟩ := len1 hus
 by_cases hx : x = []
 ·subst hx
  refine sw_seq ?_
  refine sO [(0, _), (1, _)] [] ?_
  refine sw_reg ?_
  refine rA ?_ (x := kA)
  refine sw_seq ?_
  refine sw_seq ?_
  refine sO [(0, _), (1, _), (4, _)] [] ?_
  refine sw_reg ?_
  refine rA ?_ (x := kA)
  refine sw_block ?_
  refine sO [(0, _), (1, _), (4, _), (5, _)] [] ?_
  refine sw_loop (l0 := [(0, RV.sv false [PV.nv _ (PV.sl _ _)]), (4, RV.sv false [PV.val _])]) (b0 := []) (fun _ : Unit => True) (fun _ : Unit => [(1, RV.int k), (5, RV.int 0)]) (fun _ : Unit => []) (fun _ : Unit => 0) () True.intro (by exact ⟨rfl, rfl, ⟨⟩⟩) (by exact ⟨⟩) (by exact And.intro (by exact rfl) (And.intro (by exact rfl) (True.intro))) (by exact ⟨⟩) ?_
  rintro _ _
  refine sw_seq ?_
  refine sw_seq ?_
  refine sw_reg ?_
  refine rA ?_ (x := sM)
  refine rA ?_ (x := loc_copy (r' := RV.sv false [PV.sl .v _]) (.inl rfl) (by decide) (by exact Cp.sv (ToL.cons (PV.nv_to PV.to_none) ToL.nil) (BorL.cons (PV.bor_sl _) BorL.nil)))
  refine rA ?_ (x := lN sl_58)
  refine rA ?_ (x := B_lss)
  refine sw_cond (t := 9) rfl (fun hb1 => ?_) (fun hb1 => ?_)
  ·try simp only [q1, q2, q3, q4, q5, q6, q7, q8, q9] at hb1
   simp at hb1
  ·try simp only [q1, q2, q3, q4, q5, q6, q7, q8, q9] at hb1
   refine sw_exit ?_
   refine sw_seq ?_
   refine sO [(0, _), (1, _), (4, _), (5, _)] [] ?_
   refine sw_reg ?_
   refine rA ?_ (x := sM)
   refine rA ?_ (x := sA)
   refine sw_ret ?_
   exact And.intro (by exact rfl) (Exists.intro _ (And.intro (.inl (by exact rfl)) (And.intro (by exact (Nm.nv Nm.nil)) (by exact (OwnTo.nv OwnTo.nil)))))
 ·refine sw_thaw (s := 0) (D := 999) (E := 4) (e := 1) (u := u0) (es := x.map cBool) (L := L0w) (by exact rfl) (by simpa using hx) (by exact rfl) (by exact rfl) (fun x hx => hx.elim) (by exact And.intro (.inl rfl) (And.intro (.inr (RV.lcl_sv (LclC.cons PV.lcl_val LclC.nil))) True.intro)) True.intro (LclC.map fun x => (LclC.cons PV.lcl_val LclC.nil)) fun cp jk hl0 hcp hjk => ?_
  have hlm : (x.map cBool).length = x.length := List.length_map _
  rw [hlm] at hl0 hcp
  have hmono := mkL_take_le mkE_Bool_le x
  have hmono0 := fun i => mkL_le mkE_Bool_le (x.take i) k
  refine sw_seq ?_
  refine sO [(0, _), (1, _)] [(999, (4, _))] ?_
  refine sw_reg ?_
  refine rA ?_ (x := kA)
  refine sw_seq ?_
  refine sw_seq ?_
  refine sO [(0, _), (1, _), (4, _)] [(999, _)] ?_
  refine sw_reg ?_
  refine rA ?_ (x := kA)
  refine sw_block ?_
  refine sO [(0, _), (1, _), (4, _), (5, _)] [(999, _)] ?_
  refine sw_loop (l0 := [(0, RV.nm _ (RV.hdr 999 _ _)), (4, RV.sv false [PV.val _])]) (b0 := []) (fun i : Nat => i ≤ x.length) (fun i : Nat => [(1, RV.int (mkL mkE_Bool (x.take i) k).2), (5, RV.int (i : Int))]) (fun i : Nat => [(999, (4, (((mkL mkE_Bool (x.take i) k).1 ++ x.drop i).map cBool).flatten ++ jk.map PV.val))]) (fun i : Nat => x.length - i) 0 (by omega) (by exact ⟨rfl, rfl, ⟨⟩⟩) (by exact ⟨⟩) (by exact And.intro (by exact rfl) (And.intro (by exact rfl) (True.intro))) (by exact And.intro (by exact congrArg (fun z => some (4, z)) mark_zero) (True.intro)) ?_
  rintro i hi
  refine sw_seq ?_
  refine sw_seq ?_
  refine sw_reg ?_
  refine rA ?_ (x := sM)
  refine rA ?_ (x := loc_copy (.inl rfl) (by decide) (by exact Cp.nm Cp.hdr))
  refine rA ?_ (x := loc_hlen (by decide) sl_58)
  refine rA ?_ (x := B_lss)
  refine sw_cond (t := 9) rfl (fun hb1 => ?_) (fun hb1 => ?_)
  ·try simp only [q1, q2, q3, q4, q5, q6, q7, q8, q9] at hb1
   have hlt : i < x.length := by omega
   have hk0 := hmono0 i
   have hk1 := hmono (i + 1) k
   rw [mkL_succ hlt] at hk1
   dsimp only at hk1
   simp only [mkE_Bool] at hk1
   refine sw_boxEq (d := 999) (by exact rfl) (mark_split hlt) ?_
   have hA := mark_len (f := mkE_Bool) (c := cBool) (e := 1) (k := k) (fun _ => rfl) (Nat.le_of_lt hlt)
   refine sw_skip ?_
   refine sw_seq ?_
   refine sw_block ?_
   refine sw_seq ?_
   refine sO [(0, _), (1, _), (4, _), (5, _)] [(999, (4, _ ++ ([PV.val _] ++ _)))] ?_
   refine sw_reg ?_
   refine rA ?_ (x := loc_copy (.inl rfl) (by decide) (by exact Cp.nm Cp.hdr))
   refine rA ?_ (x := sM)
   refine rA ?_ (x := sM)
   refine rA ?_ (x := loc_rem (by decide) (by exact ⟨⟩) (ok_sc rfl) (by omega))
   refine rA ?_ (x := B_eql)
   refine rA ?_ (x := loc_hindex (by decide) sl_58 (by exact ⟨⟩) (by exact rfl) (by omega))
   refine rA ?_ (x := loc_storeM (o := 0) (ag := false) (vs := [PV.val _]) (by omega) ty_4 (by exact ⟨⟩) (by exact rfl) (by exact Nat.le_of_ble_eq_true rfl))
   refine sO [(0, _), (1, _), (4, _), (5, _)] [(999, (4, _ ++ ([PV.val _] ++ _)))] ?_
   refine sw_reg ?_
   refine rA ?_ (x := sM)
   refine rA ?_ (x := B_add)
   refine rA ?_ (x := sA)
   refine sO [(0, _), (1, _), (4, _), (5, _)] [(999, _)] ?_
   refine sw_reg ?_
   refine rA ?_ (x := sM)
   refine rA ?_ (x := B_add)
   refine rA ?_ (x := sA)
   refine Exists.intro (i + 1) (And.intro (by omega) (And.intro (by omega) (And.intro (And.intro (by exact ⟨rfl, rfl, ⟨⟩⟩) (by exact ⟨⟩)) (And.intro (by exact And.intro (by exact int_eq (by rw [mkL_succ hlt]; rfl)) (And.intro (by exact rfl) (True.intro))) (by exact And.intro (by exact congrArg (fun z => some (4, z)) (mark_join hlt rfl)) (True.intro))))))
  ·try simp only [q1, q2, q3, q4, q5, q6, q7, q8, q9] at hb1
   have hend : i = x.length := by omega
   refine sw_boxEq (d := 999) (by exact rfl) (mark_all hend) ?_
   refine sw_freeze (s := 0) (D := 999) (e := 1) (by exact rfl) (by exact rfl) (by rw [List.length_map, mkL_len, List.length_map]) (by intro c hc; obtain ⟨y, _, rfl⟩ := List.mem_map.1 hc; exact rfl) hjk ?_
   refine sw_exit ?_
   refine sw_seq ?_
   refine sO [(0, _), (1, _), (4, _), (5, _)] [] ?_
   refine sw_reg ?_
   refine rA ?_ (x := sM)
   refine rA ?_ (x := sA)
   refine sw_ret ?_
   exact And.intro (by exact int_eq (by first | rfl | rw [hend, List.take_length])) (Exists.intro _ (And.intro (.inl (by exact rfl)) (And.intro (by exact (Nm.nv Nm.nil)) (by exact (OwnTo.nv OwnTo.nil)))))
theorem mark_CondS {x : List Cond} {k : Int} (h0k : 0 ≤ k) (hbk : (mkL mkE_Cond x k).2 ≤ 4611686018427387904) : UCall Try.prog 91 false [PV.sl (.own 130 3) (x.map cCond)] [PV.sl (.own 130 3) ((mkL mkE_Cond x k).1.map cCond)] [(false, [PV.val (vI k)])] (vI (mkL mkE_Cond x k).2) := by
 refine ucall_of Try.func91 rfl (Nat.le_of_ble_eq_true rfl) (borA_cons (BorL.cons (PV.bor_val _) BorL.nil) borA_nil) ?_
 intro us h0 w0 Fz0 hus
 obtain ⟨u0, rfl⟩ := len1 hus
 by_cases hx : x = []
 ·subst hx
  refine sw_seq ?_
  refine sO [(0, _), (1, _)] [] ?_
  refine sw_reg ?_
  refine rA ?_ (x := kA)
  refine sw_seq ?_
  refine sw_seq ?_
  refine sO [(0, _), (1, _), (4, _)] [] ?_
  refine sw_reg ?_
  refine rA ?_ (x := kA)
  refine sw_block ?_
  refine sO [(0, _), (1, _), (4, _), (5, _)] [] ?_
  refine sw_loop (l0 := [(0, RV.sv false [PV.nv _ (PV.sl _ _)]), (4, RV.sv false [PV.val _])]) (b0 := []) (fun _ : Unit => True) (fun _ : Unit => [(1, RV.int k), (5, RV.int 0)]) (fun _ : Unit => []) (fun _ : Unit => 0) () True.intro (by exact ⟨rfl, rfl, ⟨⟩⟩) (by exact ⟨⟩) (by exact And.intro (by exact rfl) (And.intro (by exact rfl) (True.intro))) (by exact ⟨⟩) ?_
  rintro _ _
  refine sw_seq ?_
  refine sw_seq ?_
  refine sw_reg ?_
  refine rA ?_ (x := sM)
  refine rA ?_ (x := loc_copy (r' := RV.sv false [PV.sl .v _]) (.inl rfl) (by decide) (by exact Cp.sv (ToL.cons (PV.nv_to PV.to_none) ToL.nil) (BorL.cons (PV.bor_sl _) BorL.nil)))
  refine rA ?_ (x := lN sl_54)
  refine rA ?_ (x := B_lss)
  refine sw_cond (t := 9) rfl (fun hb1 => ?_) (fun hb1 => ?_)
  ·try simp only [q1, q2, q3, q4, q5, q6, q7, q8, q9] at hb1
   simp at hb1
  ·try simp only [q1, q2, q3, q4, q5, q6, q7, q8, q9] at hb1
   refine sw_exit ?_
   refine sw_seq ?_
   refine sO [(0, _), (1, _), (4, _), (5, _)] [] ?_
   refine sw_reg ?_
   refine rA ?_ (x := sM)
   refine rA ?_ (x := sA)
   refine sw_ret ?_
   exact And.intro (by exact rfl) (Exists.intro _ (And.intro (.inl (by exact rfl)) (And.intro (by exact (Nm.nv Nm.nil)) (by exact (OwnTo.nv OwnTo.nil)))))
 ·refine sw_thaw (s := 0) (D := 999) (E := 130) (e := 3) (u := u0) (es := x.map cCond) (L := L0w) (by exact rfl) (by simpa using hx) (by exact rfl) (by exact rfl) (fun x hx => hx.elim) (by exact And.intro (.inl rfl) (And.intro (.inr (RV.lcl_sv (LclC.cons PV.lcl_val LclC.nil))) True.intro)) True.intro (LclC.map fun x => (LclC.cons PV.lcl_val (LclC.cons PV.lcl_val (LclC.cons PV.lcl_val LclC.nil)))) fun cp jk hl0 hcp hjk => ?_
  have hlm : (x.map cCond).length = x.length := List.length_map _
  rw [hlm] at hl0 hcp
  have hmono := mkL_take_le mkE_Cond_le x
  have hmono0 := fun i => mkL_le mkE_Cond_le (x.take i) k
  refine sw_seq ?_
  refine sO [(0, _), (1, _)] [(999, (130, _))] ?_
  refine sw_reg ?_
  refine rA ?_ (x := kA)
  refine sw_seq ?_
  refine sw_seq ?_
  refine sO [(0, _), (1, _), (4, _)] [(999, _)] ?_
  refine sw_reg ?_
  refine rA ?_ (x := kA)
  refine sw_block ?_
  refine sO [(0, _), (1, _), (4, _), (5, _)] [(999, _)] ?_
  refine sw_loop (l0 := [(0, RV.nm _ (RV.hdr 999 _ _)), (4, RV.sv false [PV.val _])]) (b0 := []) (fun i : Nat => i ≤ x.length) (fun i : Nat => [(1, RV.int (mkL mkE_Cond (x.take i) k).2), (5, RV.int (i : Int))]) (fun i : Nat => [(999, (130, (((mkL mkE_Cond (x.take i) k).1 ++ x.drop i).map cCond).flatten ++ jk.map PV.val))]) (fun i : Nat => x.length - i) 0 (by omega) (by exact ⟨rfl, rfl, ⟨⟩⟩) (by exact ⟨⟩) (by exact And.intro (by exact rfl) (And.intro (by exact rfl) (True.intro))) (by exact And.intro (by exact congrArg (fun z => some (130, z)) mark_zero) (True.intro)) ?_
  rintro i hi
  refine sw_seq ?_
  refine sw_seq ?_
  refine sw_reg ?_
  refine rA ?_ (x := sM)
  refine rA ?_ (x := loc_copy (.inl rfl) (by decide) (by exact Cp.nm Cp.hdr))
  refine rA ?_ (x := loc_hlen (by decide) sl_54)
  refine rA ?_ (x := B_lss)
  refine sw_cond (t := 9) rfl (fun hb1 => ?_) (fun hb1 => ?_)
  ·try simp only [q1, q2, q3, q4, q5, q6, q7, q8, q9] at hb1
   have hlt : i < x.length := by omega
   have hk0 := hmono0 i
   have hk1 := hmono (i + 1) k
   rw [mkL_succ hlt] at hk1
   dsimp only at hk1
   simp only [mkE_Cond] at hk1
   refine sw_boxEq (d := 999) (by exact rfl) (mark_split hlt) ?_
   have hA := mark_len (f := mkE_Cond) (c := cCond) (e := 3) (k := k) (fun _ => rfl) (Nat.le_of_lt hlt)
   refine sw_skip ?_
   refine sw_seq ?_
   refine sw_block ?_
   refine sw_seq ?_
   refine sO [(0, _), (1, _), (4, _), (5, _)] [(999, (130, _ ++ ([PV.val _, PV.val _, PV.val _] ++ _)))] ?_
   refine sw_reg ?_
   refine rA ?_ (x := loc_copy (.inl rfl) (by decide) (by exact Cp.nm Cp.hdr))
   refine rA ?_ (x := sM)
   refine rA ?_ (x := sM)
   refine rA ?_ (x := loc_hindex (by decide) sl_54 (by exact ⟨⟩) (by exact rfl) (by omega))
   refine rA ?_ (x := lF fd_130_0)
   refine rA ?_ (x := loc_storeM (o := 0) (ag := false) (vs := [PV.val _]) (by omega) ty_3 (by exact ⟨⟩) (by exact rfl) (by exact Nat.le_of_ble_eq_true rfl))
   refine sw_seq ?_
   refine sO [(0, _), (1, _), (4, _), (5, _)] [(999, (130, _ ++ ([PV.val _, PV.val _, PV.val _] ++ _)))] ?_
   refine sw_reg ?_
   refine rA ?_ (x := sM)
   refine rA ?_ (x := B_add)
   refine rA ?_ (x := sA)
   refine sw_seq ?_
   refine sO [(0, _), (1, _), (4, _), (5, _)] [(999, _)] ?_
   refine sw_reg ?_
   refine rA ?_ (x := loc_copy (.inl rfl) (by decide) (by exact Cp.nm Cp.hdr))
   refine rA ?_ (x := sM)
   refine rA ?_ (x := sM)
   refine rA ?_ (x := loc_hindex (by decide) sl_54 (by exact ⟨⟩) (by exact rfl) (by omega))
   refine rA ?_ (x := lF fd_130_1)
   refine rA ?_ (x := loc_storeM (o := 1) (ag := false) (vs := [PV.val _]) (by omega) ty_3 (by exact ⟨⟩) (by exact rfl) (by exact Nat.le_of_ble_eq_true rfl))
   refine sw_seq ?_
   refine sO [(0, _), (1, _), (4, _), (5, _)] [(999, (130, _ ++ ([PV.val _, PV.val _, PV.val _] ++ _)))] ?_
   refine sw_reg ?_
   refine rA ?_ (x := sM)
   refine rA ?_ (x := B_add)
   refine rA ?_ (x := sA)
   refine sw_seq ?_
   refine sO [(0, _), (1, _), (4, _), (5, _)] [(999, _)] ?_
   refine sw_reg ?_
   refine rA ?_ (x := loc_copy (.inl rfl) (by decide) (by exact Cp.nm Cp.hdr))
   refine rA ?_ (x := sM)
   refine rA ?_ (x := sM)
   refine rA ?_ (x := loc_hindex (by decide) sl_54 (by exact ⟨⟩) (by exact rfl) (by omega))
   refine rA ?_ (x := lF fd_130_2)
   refine rA ?_ (x := loc_storeM (o := 2) (ag := false) (vs := [PV.val _]) (by omega) ty_3 (by exact ⟨⟩) (by exact rfl) (by exact Nat.le_of_ble_eq_true rfl))
   refine sO [(0, _), (1, _), (4, _), (5, _)] [(999, (130, _ ++ ([PV.val _, PV.val _, PV.val _] ++ _)))] ?_
   refine sw_reg ?_
   refine rA ?_ (x := sM)
   refine rA ?_ (x := B_add)
   refine rA ?_ (x := sA)
   refine sO [(0, _), (1, _), (4, _), (5, _)] [(999, _)] ?_
   refine sw_reg ?_
   refine rA ?_ (x := sM)
   refine rA ?_ (x := B_add)
   refine rA ?_ (x := sA)
   refine Exists.intro (i + 1) (And.intro (by omega) (And.intro (by omega) (And.intro (And.intro (by exact ⟨rfl, rfl, ⟨⟩⟩) (by exact ⟨⟩)) (And.intro (by exact And.intro (by exact int_eq (by rw [mkL_succ hlt]; rfl)) (And.intro (by exact rfl) (True.intro))) (by exact And.intro (by exact congrArg (fun z => some (130, z)) (mark_join hlt rfl)) (True.intro))))))
  ·try simp only [q1, q2, q3, q4, q5, q6, q7, q8, q9] at hb1
   have hend : i = x.length := by omega
   refine sw_boxEq (d := 999) (by exact rfl) (mark_all hend) ?_
   refine sw_freeze (s := 0) (D := 999) (e := 3) (by exact rfl) (by exact rfl) (by rw [List.length_map, mkL_len, List.length_map]) (by intro c hc; obtain ⟨y, _, rfl⟩ := List.mem_map.1 hc; exact rfl) hjk ?_
   refine sw_exit ?_
   refine sw_seq ?_
   refine sO [(0, _), (1, _), (4, _), (5, _)] [] ?_
   refine sw_reg ?_
   refine rA ?_ (x := sM)
   refine rA ?_ (x := sA)
   refine sw_ret ?_
   exact And.intro (by exact int_eq (by first | rfl | rw [hend, List.take_length])) (Exists.intro _ (And.intro (.inl (by exact rfl)) (And.intro (by exact (Nm.nv Nm.nil)) (by exact (OwnTo.nv OwnTo.nil)))))
theorem mark_RowS {x : List Row} {k : Int} (h0k : 0 ≤ k) (hbk : (mkL mkE_Row x k).2 ≤ 4611686018427387904) : UCall Try.prog 22 false [PV.sl (.own 87 2) (x.map (cRow (.own 3 1)))] [PV.sl (.own 87 2) ((mkL mkE_Row x k).1.map (cRow (.own 3 1)))] [(false, [PV.val (vI k)])] (vI (mkL mkE_Row x k).2) := by
 refine ucall_of Try.func22 rfl (Nat.le_of_ble_eq_true rfl) (borA_cons (BorL.cons (PV.bor_val _) BorL.nil) borA_nil) ?_
 intro us h0 w0 Fz0 hus
 obtain ⟨u0, rfl⟩ := len1 hus
 by_cases hx : x = []
 ·subst hx
  refine sw_seq ?_
  refine sO [(0, _), (1, _)] [] ?_
  refine sw_reg ?_
  refine rA ?_ (x := kA)
  refine sw_seq ?_
  refine sw_seq ?_
  refine sO [(0, _), (1, _), (4, _)] [] ?_
  refine sw_reg ?_
  refine rA ?_ (x := kA)
  refine sw_block ?_
  refine sO [(0, _), (1, _), (4, _), (5, _)] [] ?_
  refine sw_loop (l0 := [(0, RV.sv false [PV.nv _ (PV.sl _ _)]), (4, RV.sv false [PV.val _])]) (b0 := []) (fun _ : Unit => True) (fun _ : Unit => [(1, RV.int k), (5, RV.int 0)]) (fun _ : Unit => []) (fun _ : Unit => 0) () True.intro (by exact ⟨rfl, rfl, ⟨⟩⟩) (by exact ⟨⟩) (by exact And.intro (by exact rfl) (And.intro (by exact rfl) (True.intro))) (by exact ⟨⟩) ?_
  rintro _ _
  refine sw_seq ?_
  refine sw_seq ?_
  refine sw_reg ?_
  refine rA ?_ (x := sM)
  refine rA ?_ (x := loc_copy (r' := RV.sv false [PV.sl .v _]) (.inl rfl) (by decide) (by exact Cp.sv (ToL.cons (PV.nv_to PV.to_none) ToL.nil) (BorL.cons (PV.bor_sl _) BorL.nil)))
  refine rA ?_ (x := lN sl_32)
  refine rA ?_ (x := B_lss)
  refine sw_cond (t := 9) rfl (fun hb1 => ?_) (fun hb1 => ?_)
  ·try simp only [q1, q2, q3, q4, q5, q6, q7, q8, q9] at hb1
   simp at hb1
  ·try simp only [q1, q2, q3, q4, q5, q6, q7, q8, q9] at hb1
   refine sw_exit ?_
   refine sw_seq ?_
   refine sO [(0, _), (1, _), (4, _), (5, _)] [] ?_
   refine sw_reg ?_
   refine rA ?_ (x := sM)
   refine rA ?_ (x := sA)
   refine sw_ret ?_
   exact And.intro (by exact rfl) (Exists.intro _ (And.intro (.inl (by exact rfl)) (And.intro (by exact (Nm.nv Nm.nil)) (by exact (OwnTo.nv OwnTo.nil)))))
 ·refine sw_thaw (s := 0) (D := 999) (E := 87) (e := 2) (u := u0) (es := x.map (cRow (.own 3 1))) (L := L0w) (by exact rfl) (by simpa using hx) (by exact rfl) (by exact rfl) (fun x hx => hx.elim) (by exact And.intro (.inl rfl) (And.intro (.inr (RV.lcl_sv (LclC.cons PV.lcl_val LclC.nil))) True.intro)) True.intro (LclC.map fun x => (LclC.cons PV.lcl_val (LclC.cons (PV.lcl_own (LclC.map fun x => (LclC.cons PV.lcl_val LclC.nil))) LclC.nil))) fun cp jk hl0 hcp hjk => ?_
  have hlm : (x.map (cRow (.own 3 1))).length = x.length := List.length_map _
  rw [hlm] at hl0 hcp
  have hmono := mkL_take_le mkE_Row_le x
  have hmono0 := fun i => mkL_le mkE_Row_le (x.take i) k
  refine sw_seq ?_
  refine sO [(0, _), (1, _)] [(999, (87, _))] ?_
  refine sw_reg ?_
  refine rA ?_ (x := kA)
  refine sw_seq ?_
  refine sw_seq ?_
  refine sO [(0, _), (1, _), (4, _)] [(999, _)] ?_
  refine sw_reg ?_
  refine rA ?_ (x := kA)
  refine sw_block ?_
  refine sO [(0, _), (1, _), (4, _), (5, _)] [(999, _)] ?_
  refine sw_loop (l0 := [(0, RV.nm _ (RV.hdr 999 _ _)), (4, RV.sv false [PV.val _])]) (b0 := []) (fun i : Nat => i ≤ x.length) (fun i : Nat => [(1, RV.int (mkL mkE_Row (x.take i) k).2), (5, RV.int (i : Int))]) (fun i : Nat => [(999, (87, (((mkL mkE_Row (x.take i) k).1 ++ x.drop i).map (cRow (.own 3 1))).flatten ++ jk.map PV.val))]) (fun i : Nat => x.length - i) 0 (by omega) (by exact ⟨rfl, rfl, ⟨⟩⟩) (by exact ⟨⟩) (by exact And.intro (by exact rfl) (And.intro (by exact rfl) (True.intro))) (by exact And.intro (by exact congrArg (fun z => some (87, z)) mark_zero) (True.intro)) ?_
  rintro i hi
  refine sw_seq ?_
  refine sw_seq ?_
  refine sw_reg ?_
  refine rA ?_ (x := sM)
  refine rA ?_ (x := loc_copy (.inl rfl) (by decide) (by exact Cp.nm Cp.hdr))
  refine rA ?_ (x := loc_hlen (by decide) sl_32)
  refine rA ?_ (x := B_lss)
  refine sw_cond (t := 9) rfl (fun hb1 => ?_) (fun hb1 => ?_)
  ·try simp only [q1, q2, q3, q4, q5, q6, q7, q8, q9] at hb1
   have hlt : i < x.length := by omega
   have hk0 := hmono0 i
   have hk1 := hmono (i + 1) k
   rw [mkL_succ hlt] at hk1
   dsimp only at hk1
   have hm0 := mkL_le mkE_Int_le x[i].Values ((mkL mkE_Row (x.take i) k).2 + 1)
   simp only [mkE_Row] at hk1
   refine sw_boxEq (d := 999) (by exact rfl) (mark_split hlt) ?_
   have hA := mark_len (f := mkE_Row) (c := (cRow (.own 3 1))) (e := 2) (k := k) (fun _ => rfl) (Nat.le_of_lt hlt)
   refine sw_nmB (d := 999) (ms := [PV.val _, PV.sl _ _]) (by exact rfl) fun us hus => ?_
   obtain ⟨v0, v1, rfl⟩ := us_2 hus
   refine sw_skip ?_
   refine sw_seq ?_
   refine sw_block ?_
   refine sw_seq ?_
   refine sO [(0, _), (1, _), (4, _), (5, _)] [(999, (87, _ ++ ([PV.nv _ (PV.val _), PV.nv _ (PV.sl _ _)] ++ _)))] ?_
   refine sw_reg ?_
   refine rA ?_ (x := loc_copy (.inl rfl) (by decide) (by exact Cp.nm Cp.hdr))
   refine rA ?_ (x := sM)
   refine rA ?_ (x := sM)
   refine rA ?_ (x := loc_hindex (by decide) sl_32 (by exact ⟨⟩) (by exact rfl) (by omega))
   refine rA ?_ (x := lF fd_87_0)
   refine rA ?_ (x := loc_storeM (o := 0) (ag := false) (vs := [PV.val _]) (by omega) ty_3 (by exact ⟨⟩) (by exact rfl) (by exact Nat.le_of_ble_eq_true rfl))
   refine sw_seq ?_
   refine sO [(0, _), (1, _), (4, _), (5, _)] [(999, (87, _ ++ ([PV.val _, PV.nv _ (PV.sl _ _)] ++ _)))] ?_
   refine sw_reg ?_
   refine rA ?_ (x := sM)
   refine rA ?_ (x := B_add)
   refine rA ?_ (x := sA)
   refine sO [(0, _), (1, _), (4, _), (5, _)] [(999, _)] ?_
   refine sw_regL ?_
   refine swl_step (by exact ⟨rfl, ⟨⟩⟩) (by exact ⟨⟩) (LocG.of rfl (loc_copy (.inl rfl) (by decide) (by exact Cp.nm Cp.hdr))) nofree ?_
   refine swl_step (by exact ⟨rfl, ⟨⟩⟩) (by exact ⟨⟩) (LocG.of rfl (loc_copy (.inl rfl) (by decide) (by exact Cp.sc))) nofree ?_
   refine swl_step (by exact ⟨rfl, rfl, ⟨⟩⟩) (by exact ⟨⟩) (LocG.of rfl (loc_hindex (by decide) sl_32 (by exact ⟨⟩) (by exact rfl) (by omega))) nofree ?_
   refine swl_step (by exact ⟨rfl, ⟨⟩⟩) (by exact ⟨⟩) (LocG.of rfl (loc_field (by decide) fd_87_1)) nofree ?_
   refine swl_step (by exact ⟨rfl, ⟨⟩⟩) (by exact ⟨rfl, ⟨⟩⟩) (LocG.of rfl (loc_loadM (o := 1) (qs := [PV.val _]) (by omega) (by decide) ty_38 (fun _ => rfl) (by exact Nat.le_of_ble_eq_true rfl) (by exact (ToL.cons PV.nv_val ToL.nil)) (by exact (BorL.cons (PV.bor_val _) BorL.nil)))) nofree ?_
   refine swl_step (by exact ⟨rfl, ⟨⟩⟩) (by exact ⟨⟩) (LocG.of rfl (loc_copy (.inl rfl) (by decide) (by exact Cp.sc))) nofree ?_
   refine swl_of (l := [(0, RV.nm _ (RV.hdr 999 _ _)), (1, RV.sv false [PV.val _]), (4, RV.sv false [PV.val _]), (5, RV.sv false [PV.val _]), (19, RV.hdr 999 _ _), (20, RV.sv false [PV.val _]), (21, RV.ptr 999 _), (22, RV.ptr 999 _), (23, RV.sv false [PV.val _]), (24, RV.sv false [PV.val _])]) (b := [(999, (87, _ ++ ([PV.val _, PV.nv _ (PV.sl _ _)] ++ _)))]) (by exact ⟨rfl, rfl, rfl, rfl, rfl, rfl, rfl, rfl, rfl, rfl, ⟨⟩⟩) (by exact ⟨rfl, ⟨⟩⟩) ?_
   refine swl_ucallM (bx := 999) (L := L0w) (pre := [PV.val _]) (ms := [PV.nv _ (PV.sl _ _)]) (post := []) (qr := [(false, [PV.val _])]) (as_ := [(false, [PV.val _])]) (by decide) c_29 rfl (by exact rfl) (by exact (Nm.val Nm.nil)) (by exact ⟨rfl, ⟨⟩⟩) (by exact (And.intro (by exact ⟨⟩) True.intro)) (by exact And.intro (And.intro rfl (ToL.cons (PV.To.refl _) ToL.nil)) True.intro) (by exact rfl) (by exact (Nm.nv Nm.nil)) (by exact (OwnTo.nv OwnTo.nil)) (by exact mark_IntS (by omega) (by omega)) (by exact (OwnFrom.nv OwnFrom.nil)) (fun x hx => hx.elim) (by exact (LclA.cons (RV.lcl_nm RV.lcl_hdr) (LclA.cons (RV.lcl_sv (LclC.cons PV.lcl_val LclC.nil)) (LclA.cons (RV.lcl_sv (LclC.cons PV.lcl_val LclC.nil)) (LclA.cons (RV.lcl_sv (LclC.cons PV.lcl_val LclC.nil)) (LclA.cons RV.lcl_hdr (LclA.cons (RV.lcl_sv (LclC.cons PV.lcl_val LclC.nil)) (LclA.cons RV.lcl_ptr (LclA.cons RV.lcl_ptr (LclA.cons (RV.lcl_sv (LclC.cons PV.lcl_val LclC.nil)) (LclA.cons (RV.lcl_sv (LclC.cons PV.lcl_val LclC.nil)) LclA.nil))))))))))) (by exact (And.intro (.inl rfl) True.intro)) (by exact (LclC.flat (LclC.map fun x => (LclC.cons PV.lcl_val (LclC.cons (PV.lcl_own (LclC.map fun x => (LclC.cons PV.lcl_val LclC.nil))) LclC.nil))))) (by exact (LclC.cons PV.lcl_val LclC.nil)) (by exact LclC.nil) (by exact (LclC.app (LclC.flat (LclC.map fun x => (LclC.cons PV.lcl_val (LclC.cons (PV.lcl_own (LclC.map fun x => (LclC.cons PV.lcl_val LclC.nil))) LclC.nil)))) LclC.vals)) rfl ?_
   refine swl_step (by exact ⟨rfl, ⟨⟩⟩) (by exact ⟨⟩) (LocG.of rfl (loc_copy (.inr rfl) (by decide) (by exact Cp.sc))) nofree ?_
   refine swl_nil ?_
   refine sw_boxTo (d := 999) (by exact rfl) (by exact (OwnTo.same (OwnTo.nv OwnTo.nil))) ?_
   refine sO [(0, _), (1, _), (4, _), (5, _)] [(999, (87, _ ++ ([PV.val _, PV.sl _ _] ++ _)))] ?_
   refine sw_reg ?_
   refine rA ?_ (x := sM)
   refine rA ?_ (x := B_add)
   refine rA ?_ (x := sA)
   refine Exists.intro (i + 1) (And.intro (by omega) (And.intro (by omega) (And.intro (And.intro (by exact ⟨rfl, rfl, ⟨⟩⟩) (by exact ⟨⟩)) (And.intro (by exact And.intro (by exact int_eq (by rw [mkL_succ hlt]; rfl)) (And.intro (by exact rfl) (True.intro))) (by exact And.intro (by exact congrArg (fun z => some (87, z)) (mark_join hlt rfl)) (True.intro))))))
  ·try simp only [q1, q2, q3, q4, q5, q6, q7, q8, q9] at hb1
   have hend : i = x.length := by omega
   refine sw_boxEq (d := 999) (by exact rfl) (mark_all hend) ?_
   refine sw_freeze (s := 0) (D := 999) (e := 2) (by exact rfl) (by exact rfl) (by rw [List.length_map, mkL_len, List.length_map]) (by intro c hc; obtain ⟨y, _, rfl⟩ := List.mem_map.1 hc; exact rfl) hjk ?_
   refine sw_exit ?_
   refine sw_seq ?_
   refine sO [(0, _), (1, _), (4, _), (5, _)] [] ?_
   refine sw_reg ?_
   refine rA ?_ (x := sM)
   refine rA ?_ (x := sA)
   refine sw_ret ?_
   exact And.intro (by exact int_eq (by first | rfl | rw [hend, List.take_length])) (Exists.intro _ (And.intro (.inl (by exact rfl)) (And.intro (by exact (Nm.nv Nm.nil)) (by exact (OwnTo.nv OwnTo.nil)))))
theorem mark_Query {x : Query} {k : Int} (h0k : 0 ≤ k) (hbk : (mkV_Query x k).2 ≤ 4611686018427387904) : UCall Try.prog 41 true (cQuery (.own 130 3) (.own 3 1) x) (cQuery (.own 130 3) (.own 3 1) (mkV_Query x k).1) [(false, [PV.val (vI k)])] (vI (mkV_Query x k).2) := by
 refine ucall_of Try.func41 rfl (Nat.le_of_ble_eq_true rfl) (borA_cons (BorL.cons (PV.bor_val _) BorL.nil) borA_nil) ?_
 intro us h0 w0 Fz0 hus
 obtain ⟨v0, v1, v2, v3, rfl⟩ := us_4 hus
 simp only [mkV_Query] at hbk
 have hm0 := mkL_le mkE_Cond_le x.Conds k
 have hm1 := mkL_le mkE_Int_le x.Out (mkL mkE_Cond x.Conds k).2
 refine sw_seq ?_
 refine sO [(0, _), (1, _)] [] ?_
 refine sw_reg ?_
 refine RunS.step (by exact ⟨rfl, ⟨⟩⟩) (by exact ⟨⟩) (LocG.of rfl (loc_box (ag := true) (cs := [PV.nv _ (PV.val _), PV.nv _ (PV.val _), PV.nv _ (PV.sl _ _), PV.nv _ (PV.sl _ _)]) (by decide) (by exact ⟨⟩))) (free1 (Free.of_ rfl)) ?_
 refine rA ?_ (x := kA)
 refine sw_seq ?_
 refine sO [(1, _), (2, _), (4, _)] [(2, (56, [PV.nv _ (PV.val _), PV.nv _ (PV.val _), PV.nv _ (PV.sl _ _), PV.nv _ (PV.sl _ _)]))] ?_
 refine sw_regL ?_
 refine swl_step (by exact ⟨rfl, ⟨⟩⟩) (by exact ⟨⟩) (LocG.of rfl (loc_field (by decide) fd_56_2)) nofree ?_
 refine swl_step (by exact ⟨rfl, ⟨⟩⟩) (by exact ⟨rfl, ⟨⟩⟩) (LocG.of rfl (loc_load (qs := [PV.val _]) (by decide) ty_54 (fun _ => rfl) (by exact Nat.le_of_ble_eq_true rfl) (by exact (ToL.cons PV.nv_val ToL.nil)) (by exact (BorL.cons (PV.bor_val _) BorL.nil)))) nofree ?_
 refine swl_step (by exact ⟨rfl, ⟨⟩⟩) (by exact ⟨⟩) (LocG.of rfl (loc_copy (.inl rfl) (by decide) (by exact Cp.sc))) nofree ?_
 refine swl_of (l := [(1, RV.sv false [PV.val _]), (2, RV.ptr 2 0), (4, RV.sv false [PV.val _]), (5, RV.ptr 2 2), (6, RV.sv false [PV.val _]), (7, RV.sv false [PV.val _])]) (b := [(2, (56, [PV.nv _ (PV.val _), PV.nv _ (PV.val _), PV.nv _ (PV.sl _ _), PV.nv _ (PV.sl _ _)]))]) (by exact ⟨rfl, rfl, rfl, rfl, rfl, rfl, ⟨⟩⟩) (by exact ⟨rfl, ⟨⟩⟩) ?_
 refine swl_ucallB (bx := 2) (L := L0w) (A := [PV.nv _ (PV.val _), PV.nv _ (PV.val _)]) (ms := [PV.nv _ (PV.sl _ _)]) (B := [PV.nv _ (PV.sl _ _)]) (qr := [(false, [PV.val _])]) (as_ := [(false, [PV.val _])]) (by decide) c_91 rfl (by exact rfl) (by exact (Nm.val Nm.nil)) (by exact ⟨rfl, ⟨⟩⟩) (by exact (And.intro (by exact ⟨⟩) True.intro)) (by exact And.intro (And.intro rfl (ToL.cons (PV.To.refl _) ToL.nil)) True.intro) (by exact rfl) (by exact (Nm.nv Nm.nil)) (by exact (OwnTo.nv OwnTo.nil)) (by exact mark_CondS (by omega) (by omega)) (by exact (OwnFrom.nv OwnFrom.nil)) (fun x hx => hx.elim) (by exact (LclA.cons (RV.lcl_sv (LclC.cons PV.lcl_val LclC.nil)) (LclA.cons RV.lcl_ptr (LclA.cons (RV.lcl_sv (LclC.cons PV.lcl_val LclC.nil)) (LclA.cons RV.lcl_ptr (LclA.cons (RV.lcl_sv (LclC.cons PV.lcl_val LclC.nil)) (LclA.cons (RV.lcl_sv (LclC.cons PV.lcl_val LclC.nil)) LclA.nil))))))) (by exact (And.intro (.inl rfl) True.intro)) (by exact (LclC.cons (PV.lcl_nv PV.lcl_val) (LclC.cons (PV.lcl_nv PV.lcl_val) LclC.nil))) (by exact (LclC.cons (PV.lcl_nv (PV.lcl_own (LclC.map fun x => (LclC.cons PV.lcl_val LclC.nil)))) LclC.nil)) rfl ?_
 refine swl_step (by exact ⟨rfl, ⟨⟩⟩) (by exact ⟨⟩) (LocG.of rfl (loc_copy (.inr rfl) (by decide) (by exact Cp.sc))) nofree ?_
 refine swl_nil ?_
 refine sw_seq ?_
 refine sO [(1, _), (2, _), (4, _)] [(2, _)] ?_
 refine sw_regL ?_
 refine swl_step (by exact ⟨rfl, ⟨⟩⟩) (by exact ⟨⟩) (LocG.of rfl (loc_field (by decide) fd_56_3)) nofree ?_
 refine swl_step (by exact ⟨rfl, ⟨⟩⟩) (by exact ⟨rfl, ⟨⟩⟩) (LocG.of rfl (loc_load (qs := [PV.val _]) (by decide) ty_38 (fun _ => rfl) (by exact Nat.le_of_ble_eq_true rfl) (by exact (ToL.cons PV.nv_val ToL.nil)) (by exact (BorL.cons (PV.bor_val _) BorL.nil)))) nofree ?_
 refine swl_step (by exact ⟨rfl, ⟨⟩⟩) (by exact ⟨⟩) (LocG.of rfl (loc_copy (.inl rfl) (by decide) (by exact Cp.sc))) nofree ?_
 refine swl_of (l := [(1, RV.sv false [PV.val _]), (2, RV.ptr 2 0), (4, RV.sv false [PV.val _]), (9, RV.ptr 2 3), (10, RV.sv false [PV.val _]), (11, RV.sv false [PV.val _])]) (b := [(2, (56, [PV.nv _ (PV.val _), PV.nv _ (PV.val _), PV.nv _ (PV.sl _ _), PV.nv _ (PV.sl _ _)]))]) (by exact ⟨rfl, rfl, rfl, rfl, rfl, rfl, ⟨⟩⟩) (by exact ⟨rfl, ⟨⟩⟩) ?_
 refine swl_ucallB (bx := 2) (L := L0w) (A := [PV.nv _ (PV.val _), PV.nv _ (PV.val _), PV.nv _ (PV.sl _ _)]) (ms := [PV.nv _ (PV.sl _ _)]) (B := []) (qr := [(false, [PV.val _])]) (as_ := [(false, [PV.val _])]) (by decide) c_29 rfl (by exact rfl) (by exact (Nm.val Nm.nil)) (by exact ⟨rfl, ⟨⟩⟩) (by exact (And.intro (by exact ⟨⟩) True.intro)) (by exact And.intro (And.intro rfl (ToL.cons (PV.To.refl _) ToL.nil)) True.intro) (by exact rfl) (by exact (Nm.nv Nm.nil)) (by exact (OwnTo.nv OwnTo.nil)) (by exact mark_IntS (by omega) (by omega)) (by exact (OwnFrom.nv OwnFrom.nil)) (fun x hx => hx.elim) (by exact (LclA.cons (RV.lcl_sv (LclC.cons PV.lcl_val LclC.nil)) (LclA.cons RV.lcl_ptr (LclA.cons (RV.lcl_sv (LclC.cons PV.lcl_val LclC.nil)) (LclA.cons RV.lcl_ptr (LclA.cons (RV.lcl_sv (LclC.cons PV.lcl_val LclC.nil)) (LclA.cons (RV.lcl_sv (LclC.cons PV.lcl_val LclC.nil)) LclA.nil))))))) (by exact (And.intro (.inl rfl) True.intro)) (by exact (LclC.cons (PV.lcl_nv PV.lcl_val) (LclC.cons (PV.lcl_nv PV.lcl_val) (LclC.cons (PV.lcl_nv (PV.lcl_own (LclC.map fun x => (LclC.cons PV.lcl_val (LclC.cons PV.lcl_val (LclC.cons PV.lcl_val LclC.nil)))))) LclC.nil)))) (by exact LclC.nil) rfl ?_
 refine swl_step (by exact ⟨rfl, ⟨⟩⟩) (by exact ⟨⟩) (LocG.of rfl (loc_copy (.inr rfl) (by decide) (by exact Cp.sc))) nofree ?_
 refine swl_nil ?_
 refine sw_seq ?_
 refine sO [(1, _), (2, _), (4, _)] [(2, _)] ?_
 refine sw_reg ?_
 refine rA ?_ (x := sM)
 refine rA ?_ (x := sA)
 refine sw_ret ?_
 exact And.intro (by exact rfl) (Exists.intro _ (And.intro (.inr (Exists.intro 2 (Exists.intro _ (by exact rfl)))) (And.intro (by exact (Nm.nv (Nm.nv (Nm.nv (Nm.nv Nm.nil))))) (by exact (OwnTo.nv (OwnTo.nv (OwnTo.nv (OwnTo.nv OwnTo.nil))))))))
theorem mark_RowSS {x : List (List Row)} {k : Int} (h0k : 0 ≤ k) (hbk : (mkL mkE_RowS x k).2 ≤ 4611686018427387904) : UCall Try.prog 42 false [PV.sl (.own 32 1) (x.map (cRowS (.own 87 2) (.own 3 1)))] [PV.sl (.own 32 1) ((mkL mkE_RowS x k).1.map (cRowS (.own 87 2) (.own 3 1)))] [(false, [PV.val (vI k)])] (vI (mkL mkE_RowS x k).2) := by
 refine ucall_of Try.func42 rfl (Nat.le_of_ble_eq_true rfl) (borA_cons (BorL.cons (PV.bor_val _) BorL.nil) borA_nil) ?_
 intro us h0 w0 Fz0 hus
 obtain ⟨u0, rfl⟩ := len1 hus
 by_cases hx : x = []
 ·subst hx
  refine sw_seq ?_
  refine sO [(0, _), (1, _)] [] ?_
  refine sw_reg ?_
  refine rA ?_ (x := kA)
  refine sw_seq ?_
  refine sw_seq ?_
  refine sO [(0, _), (1, _), (4, _)] [] ?_
  refine sw_reg ?_
  refine rA ?_ (x := kA)
  refine sw_block ?_
  refine sO [(0, _), (1, _), (4, _), (5, _)] [] ?_
  refine sw_loop (l0 := [(0, RV.sv false [PV.nv _ (PV.sl _ _)]), (4, RV.sv false [PV.val _])]) (b0 := []) (fun _ : Unit => True) (fun _ : Unit => [(1, RV.int k), (5, RV.int 0)]) (fun _ : Unit => []) (fun _ : Unit => 0) () True.intro (by exact ⟨rfl, rfl, ⟨⟩⟩) (by exact ⟨⟩) (by exact And.intro (by exact rfl) (And.intro (by exact rfl) (True.intro))) (by exact ⟨⟩) ?_
  rintro _ _
  refine sw_seq ?_
  refine sw_seq ?_
  refine sw_reg ?_
  refine rA ?_ (x := sM)
  refine rA ?_ (x := loc_copy (r' := RV.sv false [PV.sl .v _]) (.inl rfl) (by decide) (by exact Cp.sv (ToL.cons (PV.nv_to PV.to_none) ToL.nil) (BorL.cons (PV.bor_sl _) BorL.nil)))
  refine rA ?_ (x := lN sl_57)
  refine rA ?_ (x := B_lss)
  refine sw_cond (t := 9) rfl (fun hb1 => ?_) (fun hb1 => ?_)
  ·try simp only [q1, q2, q3, q4, q5, q6, q7, q8, q9] at hb1
   simp at hb1
  ·try simp only [q1, q2, q3, q4, q5, q6, q7, q8, q9] at hb1
   refine sw_exit ?_
   refine sw_seq ?_
   refine sO [(0, _), (1, _), (4, _), (5, _)] [] ?_
   refine sw_reg ?_
   refine rA ?_ (x := sM)
   refine rA ?_ (x := sA)
   refine sw_ret ?_
   exact And.intro (by exact rfl) (Exists.intro _ (And.intro (.inl (by exact rfl)) (And.intro (by exact (Nm.nv Nm.nil)) (by exact (OwnTo.nv OwnTo.nil)))))
 ·refine sw_thaw (s := 0) (D := 999) (E := 32) (e := 1) (u := u0) (es := x.map (cRowS (.own 87 2) (.own 3 1))) (L := L0w) (by exact rfl) (by simpa using hx) (by exact rfl) (by exact rfl) (fun x hx => hx.elim) (by exact And.intro (.inl rfl) (And.intro (.inr (RV.lcl_sv (LclC.cons PV.lcl_val LclC.nil))) True.intro)) True.intro (LclC.map fun x => (LclC.cons (PV.lcl_own (LclC.map fun x => (LclC.cons PV.lcl_val (LclC.cons (PV.lcl_own (LclC.map fun x => (LclC.cons PV.lcl_val LclC.nil))) LclC.nil)))) LclC.nil)) fun cp jk hl0 hcp hjk => ?_
  have hlm : (x.map (cRowS (.own 87 2) (.own 3 1))).length = x.length := List.length_map _
  rw [hlm] at hl0 hcp
  have hmono := mkL_take_le mkE_RowS_le x
  have hmono0 := fun i => mkL_le mkE_RowS_le (x.take i) k
  refine sw_seq ?_
  refine sO [(0, _), (1, _)] [(999, (32, _))] ?_
  refine sw_reg ?_
  refine rA ?_ (x := kA)
  refine sw_seq ?_
  refine sw_seq ?_
  refine sO [(0, _), (1, _), (4, _)] [(999, _)] ?_
  refine sw_reg ?_
  refine rA ?_ (x := kA)
  refine sw_block ?_
  refine sO [(0, _), (1, _), (4, _), (5, _)] [(999, _)] ?_
  refine sw_loop (l0 := [(0, RV.nm _ (RV.hdr 999 _ _)), (4, RV.sv false [PV.val _])]) (b0 := []) (fun i : Nat => i ≤ x.length) (fun i : Nat => [(1, RV.int (mkL mkE_RowS (x.take i) k).2), (5, RV.int (i : Int))]) (fun i : Nat => [(999, (32, (((mkL mkE_RowS (x.take i) k).1 ++ x.drop i).map (cRowS (.own 87 2) (.own 3 1))).flatten ++ jk.map PV.val))]) (fun i : Nat => x.length - i) 0 (by omega) (by exact ⟨rfl, rfl, ⟨⟩⟩) (by exact ⟨⟩) (by exact And.intro (by exact rfl) (And.intro (by exact rfl) (True.intro))) (by exact And.intro (by exact congrArg (fun z => some (32, z)) mark_zero) (True.intro)) ?_
  rintro i hi
  refine sw_seq ?_
  refine sw_seq ?_
  refine sw_reg ?_
  refine rA ?_ (x := sM)
  refine rA ?_ (x := loc_copy (.inl rfl) (by decide) (by exact Cp.nm Cp.hdr))
  refine rA ?_ (x := loc_hlen (by decide) sl_57)
  refine rA ?_ (x := B_lss)
  refine sw_cond (t := 9) rfl (fun hb1 => ?_) (fun hb1 => ?_)
  ·try simp only [q1, q2, q3, q4, q5, q6, q7, q8, q9] at hb1
   have hlt : i < x.length := by omega
   have hk0 := hmono0 i
   have hk1 := hmono (i + 1) k
   rw [mkL_succ hlt] at hk1
   dsimp only at hk1
   have hm0 := mkL_le mkE_Row_le x[i] (mkL mkE_RowS (x.take i) k).2
   simp only [mkE_RowS] at hk1
   refine sw_boxEq (d := 999) (by exact rfl) (mark_split hlt) ?_
   have hA := mark_len (f := mkE_RowS) (c := (cRowS (.own 87 2) (.own 3 1))) (e := 1) (k := k) (fun _ => rfl) (Nat.le_of_lt hlt)
   refine sw_nmB (d := 999) (ms := [PV.sl _ _]) (by exact rfl) fun us hus => ?_
   obtain ⟨v0, rfl⟩ := us_1 hus
   refine sw_skip ?_
   refine sw_seq ?_
   refine sw_block ?_
   refine sO [(0, _), (1, _), (4, _), (5, _)] [(999, (32, _ ++ ([PV.nv _ (PV.sl _ _)] ++ _)))] ?_
   refine sw_regL ?_
   refine swl_step (by exact ⟨rfl, ⟨⟩⟩) (by exact ⟨⟩) (LocG.of rfl (loc_copy (.inl rfl) (by decide) (by exact Cp.nm Cp.hdr))) nofree ?_
   refine swl_step (by exact ⟨rfl, ⟨⟩⟩) (by exact ⟨⟩) (LocG.of rfl (loc_copy (.inl rfl) (by decide) (by exact Cp.sc))) nofree ?_
   refine swl_step (by exact ⟨rfl, rfl, ⟨⟩⟩) (by exact ⟨⟩) (LocG.of rfl (loc_hindex (by decide) sl_57 (by exact ⟨⟩) (by exact rfl) (by omega))) nofree ?_
   refine swl_step (by exact ⟨rfl, ⟨⟩⟩) (by exact ⟨rfl, ⟨⟩⟩) (LocG.of rfl (loc_loadM (o := 0) (qs := [PV.val _]) (by omega) (by decide) ty_32 (fun _ => rfl) (by exact Nat.le_of_ble_eq_true rfl) (by exact (ToL.cons PV.nv_val ToL.nil)) (by exact (BorL.cons (PV.bor_val _) BorL.nil)))) nofree ?_
   refine swl_step (by exact ⟨rfl, ⟨⟩⟩) (by exact ⟨⟩) (LocG.of rfl (loc_copy (.inl rfl) (by decide) (by exact Cp.sc))) nofree ?_
   refine swl_of (l := [(0, RV.nm _ (RV.hdr 999 _ _)), (1, RV.sv false [PV.val _]), (4, RV.sv false [PV.val _]), (5, RV.sv false [PV.val _]), (12, RV.hdr 999 _ _), (13, RV.sv false [PV.val _]), (14, RV.ptr 999 _), (15, RV.sv false [PV.val _]), (16, RV.sv false [PV.val _])]) (b := [(999, (32, _ ++ ([PV.nv _ (PV.sl _ _)] ++ _)))]) (by exact ⟨rfl, rfl, rfl, rfl, rfl, rfl, rfl, rfl, rfl, ⟨⟩⟩) (by exact ⟨rfl, ⟨⟩⟩) ?_
   refine swl_ucallM (bx := 999) (L := L0w) (pre := []) (ms := [PV.nv _ (PV.sl _ _)]) (post := []) (qr := [(false, [PV.val _])]) (as_ := [(false, [PV.val _])]) (by decide) c_22 rfl (by exact rfl) (by exact (Nm.val Nm.nil)) (by exact ⟨rfl, ⟨⟩⟩) (by exact (And.intro (by exact ⟨⟩) True.intro)) (by exact And.intro (And.intro rfl (ToL.cons (PV.To.refl _) ToL.nil)) True.intro) (by exact rfl) (by exact (Nm.nv Nm.nil)) (by exact (OwnTo.nv OwnTo.nil)) (by exact mark_RowS (by omega) (by omega)) (by exact (OwnFrom.nv OwnFrom.nil)) (fun x hx => hx.elim) (by exact (LclA.cons (RV.lcl_nm RV.lcl_hdr) (LclA.cons (RV.lcl_sv (LclC.cons PV.lcl_val LclC.nil)) (LclA.cons (RV.lcl_sv (LclC.cons PV.lcl_val LclC.nil)) (LclA.cons (RV.lcl_sv (LclC.cons PV.lcl_val LclC.nil)) (LclA.cons RV.lcl_hdr (LclA.cons (RV.lcl_sv (LclC.cons PV.lcl_val LclC.nil)) (LclA.cons RV.lcl_ptr (LclA.cons (RV.lcl_sv (LclC.cons PV.lcl_val LclC.nil)) (LclA.cons (RV.lcl_sv (LclC.cons PV.lcl_val LclC.nil)) LclA.nil)))))))))) (by exact (And.intro (.inl rfl) True.intro)) (by exact (LclC.flat (LclC.map fun x => (LclC.cons (PV.lcl_own (LclC.map fun x => (LclC.cons PV.lcl_val (LclC.cons (PV.lcl_own (LclC.map fun x => (LclC.cons PV.lcl_val LclC.nil))) LclC.nil)))) LclC.nil)))) (by exact LclC.nil) (by exact LclC.nil) (by exact (LclC.app (LclC.flat (LclC.map fun x => (LclC.cons (PV.lcl_own (LclC.map fun x => (LclC.cons PV.lcl_val (LclC.cons (PV.lcl_own (LclC.map fun x => (LclC.cons PV.lcl_val LclC.nil))) LclC.nil)))) LclC.nil))) LclC.vals)) rfl ?_
   refine swl_step (by exact ⟨rfl, ⟨⟩⟩) (by exact ⟨⟩) (LocG.of rfl (loc_copy (.inr rfl) (by decide) (by exact Cp.sc))) nofree ?_
   refine swl_nil ?_
   refine sw_boxTo (d := 999) (by exact rfl) (by exact (OwnTo.nv OwnTo.nil)) ?_
   refine sO [(0, _), (1, _), (4, _), (5, _)] [(999, (32, _ ++ ([PV.sl _ _] ++ _)))] ?_
   refine sw_reg ?_
   refine rA ?_ (x := sM)
   refine rA ?_ (x := B_add)
   refine rA ?_ (x := sA)
   refine Exists.intro (i + 1) (And.intro (by omega) (And.intro (by omega) (And.intro (And.intro (by exact ⟨rfl, rfl, ⟨⟩⟩) (by exact ⟨⟩)) (And.intro (by exact And.intro (by exact int_eq (by rw [mkL_succ hlt]; rfl)) (And.intro (by exact rfl) (True.intro))) (by exact And.intro (by exact congrArg (fun z => some (32, z)) (mark_join hlt rfl)) (True.intro))))))
  ·try simp only [q1, q2, q3, q4, q5, q6, q7, q8, q9] at hb1
   have hend : i = x.length := by omega
   refine sw_boxEq (d := 999) (by exact rfl) (mark_all hend) ?_
   refine sw_freeze (s := 0) (D := 999) (e := 1) (by exact rfl) (by exact rfl) (by rw [List.length_map, mkL_len, List.length_map]) (by intro c hc; obtain ⟨y, _, rfl⟩ := List.mem_map.1 hc; exact rfl) hjk ?_
   refine sw_exit ?_
   refine sw_seq ?_
   refine sO [(0, _), (1, _), (4, _), (5, _)] [] ?_
   refine sw_reg ?_
   refine rA ?_ (x := sM)
   refine rA ?_ (x := sA)
   refine sw_ret ?_
   exact And.intro (by exact int_eq (by first | rfl | rw [hend, List.take_length])) (Exists.intro _ (And.intro (.inl (by exact rfl)) (And.intro (by exact (Nm.nv Nm.nil)) (by exact (OwnTo.nv OwnTo.nil)))))
theorem mark_Cluster {x : Cluster} {k : Int} (h0k : 0 ≤ k) (hbk : (mkV_Cluster x k).2 ≤ 4611686018427387904) : UCall Try.prog 43 true (cCluster (.own 130 3) (.own 3 1) (.own 32 1) (.own 87 2) (.own 3 1) (.own 4 1) (.own 3 1) (.own 3 1) (.own 32 1) (.own 87 2) (.own 3 1) (.own 3 1) (.own 32 1) (.own 87 2) (.own 3 1) x) (cCluster (.own 130 3) (.own 3 1) (.own 32 1) (.own 87 2) (.own 3 1) (.own 4 1) (.own 3 1) (.own 3 1) (.own 32 1) (.own 87 2) (.own 3 1) (.own 3 1) (.own 32 1) (.own 87 2) (.own 3 1) (mkV_Cluster x k).1) [(false, [PV.val (vI k)])] (vI (mkV_Cluster x k).2) := by
 refine ucall_of Try.func43 rfl (Nat.le_of_ble_eq_true rfl) (borA_cons (BorL.cons (PV.bor_val _) BorL.nil) borA_nil) ?_
 intro us h0 w0 Fz0 hus
 obtain ⟨v0, v1, v2, v3, v4, v5, v6, v7, v8, v9, v10, rfl⟩ := us_11 hus
 simp only [mkV_Cluster] at hbk
 have hm0 := mkL_le mkE_Cond_le x.Query.Conds k
 have hm1 := mkL_le mkE_Int_le x.Query.Out (mkL mkE_Cond x.Query.Conds k).2
 have hm2 := mkL_le mkE_RowS_le x.Parts (mkL mkE_Int x.Query.Out (mkL mkE_Cond x.Query.Conds k).2).2
 have hm3 := mkL_le mkE_Bool_le x.Up (mkL mkE_RowS x.Parts (mkL mkE_Int x.Query.Out (mkL mkE_Cond x.Query.Conds k).2).2).2
 have hm4 := mkL_le mkE_Int_le x.At (mkL mkE_Bool x.Up (mkL mkE_RowS x.Parts (mkL mkE_Int x.Query.Out (mkL mkE_Cond x.Query.Conds k).2).2).2).2
 have hm5 := mkL_le mkE_Int_le x.Pos (mkL mkE_Int x.At (mkL mkE_Bool x.Up (mkL mkE_RowS x.Parts (mkL mkE_Int x.Query.Out (mkL mkE_Cond x.Query.Conds k).2).2).2).2).2
 have hm6 := mkL_le mkE_RowS_le x.Buffer (mkL mkE_Int x.Pos (mkL mkE_Int x.At (mkL mkE_Bool x.Up (mkL mkE_RowS x.Parts (mkL mkE_Int x.Query.Out (mkL mkE_Cond x.Query.Conds k).2).2).2).2).2).2
 have hm7 := mkL_le mkE_Int_le x.Done (mkL mkE_RowS x.Buffer (mkL mkE_Int x.Pos (mkL mkE_Int x.At (mkL mkE_Bool x.Up (mkL mkE_RowS x.Parts (mkL mkE_Int x.Query.Out (mkL mkE_Cond x.Query.Conds k).2).2).2).2).2).2).2
 have hm8 := mkL_le mkE_RowS_le x.Rows (mkL mkE_Int x.Done (mkL mkE_RowS x.Buffer (mkL mkE_Int x.Pos (mkL mkE_Int x.At (mkL mkE_Bool x.Up (mkL mkE_RowS x.Parts (mkL mkE_Int x.Query.Out (mkL mkE_Cond x.Query.Conds k).2).2).2).2).2).2).2).2
 have hv0 : (mkV_Query x.Query k).2 = (mkL mkE_Int x.Query.Out (mkL mkE_Cond x.Query.Conds k).2).2 := rfl
 refine sw_seq ?_
 refine sO [(0, _), (1, _)] [] ?_
 refine sw_reg ?_
 refine RunS.step (by exact ⟨rfl, ⟨⟩⟩) (by exact ⟨⟩) (LocG.of rfl (loc_box (ag := true) (cs := [PV.nv _ (PV.val _), PV.nv _ (PV.val _), PV.nv _ (PV.sl _ _), PV.nv _ (PV.sl _ _), PV.nv _ (PV.sl _ _), PV.nv _ (PV.sl _ _), PV.nv _ (PV.sl _ _), PV.nv _ (PV.sl _ _), PV.nv _ (PV.sl _ _), PV.nv _ (PV.sl _ _), PV.nv _ (PV.sl _ _)]) (by decide) (by exact ⟨⟩))) (free1 (Free.of_ rfl)) ?_
 refine rA ?_ (x := kA)
 refine sw_seq ?_
 refine sO [(1, _), (2, _), (4, _)] [(2, (60, [PV.nv _ (PV.val _), PV.nv _ (PV.val _), PV.nv _ (PV.sl _ _), PV.nv _ (PV.sl _ _), PV.nv _ (PV.sl _ _), PV.nv _ (PV.sl _ _), PV.nv _ (PV.sl _ _), PV.nv _ (PV.sl _ _), PV.nv _ (PV.sl _ _), PV.nv _ (PV.sl _ _), PV.nv _ (PV.sl _ _)]))] ?_
 refine sw_regL ?_
 refine swl_step (by exact ⟨rfl, ⟨⟩⟩) (by exact ⟨⟩) (LocG.of rfl (loc_field (by decide) fd_60_0)) nofree ?_
 refine swl_step (by exact ⟨rfl, ⟨⟩⟩) (by exact ⟨rfl, ⟨⟩⟩) (LocG.of rfl (loc_load (qs := [PV.val _, PV.val _, PV.val _, PV.val _]) (by decide) ty_56 (fun h => nomatch h) (by exact Nat.le_of_ble_eq_true rfl) (by exact (ToL.cons PV.nv_val (ToL.cons PV.nv_val (ToL.cons PV.nv_val (ToL.cons PV.nv_val ToL.nil))))) (by exact (BorL.cons (PV.bor_val _) (BorL.cons (PV.bor_val _) (BorL.cons (PV.bor_val _) (BorL.cons (PV.bor_val _) BorL.nil))))))) nofree ?_
 refine swl_step (by exact ⟨rfl, ⟨⟩⟩) (by exact ⟨⟩) (LocG.of rfl (loc_copy (.inl rfl) (by decide) (by exact Cp.sc))) nofree ?_
 refine swl_of (l := [(1, RV.sv false [PV.val _]), (2, RV.ptr 2 0), (4, RV.sv false [PV.val _]), (5, RV.ptr 2 0), (6, RV.sv true [PV.val _, PV.val _, PV.val _, PV.val _]), (7, RV.sv false [PV.val _])]) (b := [(2, (60, [PV.nv _ (PV.val _), PV.nv _ (PV.val _), PV.nv _ (PV.sl _ _), PV.nv _ (PV.sl _ _), PV.nv _ (PV.sl _ _), PV.nv _ (PV.sl _ _), PV.nv _ (PV.sl _ _), PV.nv _ (PV.sl _ _), PV.nv _ (PV.sl _ _), PV.nv _ (PV.sl _ _), PV.nv _ (PV.sl _ _)]))]) (by exact ⟨rfl, rfl, rfl, rfl, rfl, rfl, ⟨⟩⟩) (by exact ⟨rfl, ⟨⟩⟩) ?_
 refine swl_ucallB (bx := 2) (L := L0w) (A := []) (ms := [PV.nv _ (PV.val _), PV.nv _ (PV.val _), PV.nv _ (PV.sl _ _), PV.nv _ (PV.sl _ _)]) (B := [PV.nv _ (PV.sl _ _), PV.nv _ (PV.sl _ _), PV.nv _ (PV.sl _ _), PV.nv _ (PV.sl _ _), PV.nv _ (PV.sl _ _), PV.nv _ (PV.sl _ _), PV.nv _ (PV.sl _ _)]) (qr := [(false, [PV.val _])]) (as_ := [(false, [PV.val _])]) (by decide) c_41 rfl (by exact rfl) (by exact (Nm.val (Nm.val (Nm.val (Nm.val Nm.nil))))) (by exact ⟨rfl, ⟨⟩⟩) (by exact (And.intro (by exact ⟨⟩) True.intro)) (by exact And.intro (And.intro rfl (ToL.cons (PV.To.refl _) ToL.nil)) True.intro) (by exact rfl) (by exact (Nm.nv (Nm.nv (Nm.nv (Nm.nv Nm.nil))))) (by exact (OwnTo.nv (OwnTo.nv (OwnTo.nv (OwnTo.nv OwnTo.nil))))) (by exact mark_Query (by omega) (by first | omega | (simp only [mkV_Query]; omega))) (by exact (OwnFrom.nv (OwnFrom.nv (OwnFrom.nv (OwnFrom.nv OwnFrom.nil))))) (fun x hx => hx.elim) (by exact (LclA.cons (RV.lcl_sv (LclC.cons PV.lcl_val LclC.nil)) (LclA.cons RV.lcl_ptr (LclA.cons (RV.lcl_sv (LclC.cons PV.lcl_val LclC.nil)) (LclA.cons RV.lcl_ptr (LclA.cons (RV.lcl_sv (LclC.cons PV.lcl_val (LclC.cons PV.lcl_val (LclC.cons PV.lcl_val (LclC.cons PV.lcl_val LclC.nil))))) (LclA.cons (RV.lcl_sv (LclC.cons PV.lcl_val LclC.nil)) LclA.nil))))))) (by exact (And.intro (.inl rfl) True.intro)) (by exact LclC.nil) (by exact (LclC.cons (PV.lcl_nv (PV.lcl_own (LclC.map fun x => (LclC.cons (PV.lcl_own (LclC.map fun x => (LclC.cons PV.lcl_val (LclC.cons (PV.lcl_own (LclC.map fun x => (LclC.cons PV.lcl_val LclC.nil))) LclC.nil)))) LclC.nil)))) (LclC.cons (PV.lcl_nv (PV.lcl_own (LclC.map fun x => (LclC.cons PV.lcl_val LclC.nil)))) (LclC.cons (PV.lcl_nv (PV.lcl_own (LclC.map fun x => (LclC.cons PV.lcl_val LclC.nil)))) (LclC.cons (PV.lcl_nv (PV.lcl_own (LclC.map fun x => (LclC.cons PV.lcl_val LclC.nil)))) (LclC.cons (PV.lcl_nv (PV.lcl_own (LclC.map fun x => (LclC.cons (PV.lcl_own (LclC.map fun x => (LclC.cons PV.lcl_val (LclC.cons (PV.lcl_own (LclC.map fun x => (LclC.cons PV.lcl_val LclC.nil))) LclC.nil)))) LclC.nil)))) (LclC.cons (PV.lcl_nv (PV.lcl_own (LclC.map fun x => (LclC.cons PV.lcl_val LclC.nil)))) (LclC.cons (PV.lcl_nv (PV.lcl_own (LclC.map fun x => (LclC.cons (PV.lcl_own (LclC.map fun x => (LclC.cons PV.lcl_val (LclC.cons (PV.lcl_own (LclC.map fun x => (LclC.cons PV.lcl_val LclC.nil))) LclC.nil)))) LclC.nil)))) LclC.nil)))))))) rfl ?_
 refine swl_step (by exact ⟨rfl, ⟨⟩⟩) (by exact ⟨⟩) (LocG.of rfl (loc_copy (.inr rfl) (by decide) (by exact Cp.sc))) nofree ?_
 refine swl_nil ?_
 refine sw_seq ?_
 refine sO [(1, _), (2, _), (4, _)] [(2, _)] ?_
 refine sw_regL ?_
 refine swl_step (by exact ⟨rfl, ⟨⟩⟩) (by exact ⟨⟩) (LocG.of rfl (loc_field (by decide) fd_60_1)) nofree ?_
 refine swl_step (by exact ⟨rfl, ⟨⟩⟩) (by exact ⟨rfl, ⟨⟩⟩) (LocG.of rfl (loc_load (qs := [PV.val _]) (by decide) ty_57 (fun _ => rfl) (by exact Nat.le_of_ble_eq_true rfl) (by exact (ToL.cons PV.nv_val ToL.nil)) (by exact (BorL.cons (PV.bor_val _) BorL.nil)))) nofree ?_
 refine swl_step (by exact ⟨rfl, ⟨⟩⟩) (by exact ⟨⟩) (LocG.of rfl (loc_copy (.inl rfl) (by decide) (by exact Cp.sc))) nofree ?_
 refine swl_of (l := [(1, RV.sv false [PV.val _]), (2, RV.ptr 2 0), (4, RV.sv false [PV.val _]), (9, RV.ptr 2 4), (10, RV.sv false [PV.val _]), (11, RV.sv false [PV.val _])]) (b := [(2, (60, [PV.nv _ (PV.val _), PV.nv _ (PV.val _), PV.nv _ (PV.sl _ _), PV.nv _ (PV.sl _ _), PV.nv _ (PV.sl _ _), PV.nv _ (PV.sl _ _), PV.nv _ (PV.sl _ _), PV.nv _ (PV.sl _ _), PV.nv _ (PV.sl _ _), PV.nv _ (PV.sl _ _), PV.nv _ (PV.sl _ _)]))]) (by exact ⟨rfl, rfl, rfl, rfl, rfl, rfl, ⟨⟩⟩) (by exact ⟨rfl, ⟨⟩⟩) ?_
 refine swl_ucallB (bx := 2) (L := L0w) (A := [PV.nv _ (PV.val _), PV.nv _ (PV.val _), PV.nv _ (PV.sl _ _), PV.nv _ (PV.sl _ _)]) (ms := [PV.nv _ (PV.sl _ _)]) (B := [PV.nv _ (PV.sl _ _), PV.nv _ (PV.sl _ _), PV.nv _ (PV.sl _ _), PV.nv _ (PV.sl _ _), PV.nv _ (PV.sl _ _), PV.nv _ (PV.sl _ _)]) (qr := [(false, [PV.val _])]) (as_ := [(false, [PV.val _])]) (by decide) c_42 rfl (by exact rfl) (by exact (Nm.val Nm.nil)) (by exact ⟨rfl, ⟨⟩⟩) (by exact (And.intro (by exact ⟨⟩) True.intro)) (by exact And.intro (And.intro rfl (ToL.cons (PV.To.refl _) ToL.nil)) True.intro) (by exact rfl) (by exact (Nm.nv Nm.nil)) (by exact (OwnTo.nv OwnTo.nil)) (by exact mark_RowSS (by first | omega | (simp only [mkV_Query]; omega)) (by first | omega | (simp only [mkV_Query]; omega))) (by exact (OwnFrom.nv OwnFrom.nil)) (fun x hx => hx.elim) (by exact (LclA.cons (RV.lcl_sv (LclC.cons PV.lcl_val LclC.nil)) (LclA.cons RV.lcl_ptr (LclA.cons (RV.lcl_sv (LclC.cons PV.lcl_val LclC.nil)) (LclA.cons RV.lcl_ptr (LclA.cons (RV.lcl_sv (LclC.cons PV.lcl_val LclC.nil)) (LclA.cons (RV.lcl_sv (LclC.cons PV.lcl_val LclC.nil)) LclA.nil))))))) (by exact (And.intro (.inl rfl) True.intro)) (by exact (LclC.cons (PV.lcl_nv PV.lcl_val) (LclC.cons (PV.lcl_nv PV.lcl_val) (LclC.cons (PV.lcl_nv (PV.lcl_own (LclC.map fun x => (LclC.cons PV.lcl_val (LclC.cons PV.lcl_val (LclC.cons PV.lcl_val LclC.nil)))))) (LclC.cons (PV.lcl_nv (PV.lcl_own (LclC.map fun x => (LclC.cons PV.lcl_val LclC.nil)))) LclC.nil))))) (by exact (LclC.cons (PV.lcl_nv (PV.lcl_own (LclC.map fun x => (LclC.cons PV.lcl_val LclC.nil)))) (LclC.cons (PV.lcl_nv (PV.lcl_own (LclC.map fun x => (LclC.cons PV.lcl_val LclC.nil)))) (LclC.cons (PV.lcl_nv (PV.lcl_own (LclC.map fun x => (LclC.cons PV.lcl_val LclC.nil)))) (LclC.cons (PV.lcl_nv (PV.lcl_own (LclC.map fun x => (LclC.cons (PV.lcl_own (LclC.map fun x => (LclC.cons PV.lcl_val (LclC.cons (PV.lcl_own (LclC.map fun x => (LclC.cons PV.lcl_val LclC.nil))) LclC.nil)))) LclC.nil)))) (LclC.cons (PV.lcl_nv (PV.lcl_own (LclC.map fun x => (LclC.cons PV.lcl_val LclC.nil)))) (LclC.cons (PV.lcl_nv (PV.lcl_own (LclC.map fun x => (LclC.cons (PV.lcl_own (LclC.map fun x => (LclC.cons PV.lcl_val (LclC.cons (PV.lcl_own (LclC.map fun x => (LclC.cons PV.lcl_val LclC.nil))) LclC.nil)))) LclC.nil)))) LclC.nil))))))) rfl ?_
 refine swl_step (by exact ⟨rfl, ⟨⟩⟩) (by exact ⟨⟩) (LocG.of rfl (loc_copy (.inr rfl) (by decide) (by exact Cp.sc))) nofree ?_
 refine swl_nil ?_
 refine sw_seq ?_
 refine sO [(1, _), (2, _), (4, _)] [(2, _)] ?_
 refine sw_regL ?_
 refine swl_step (by exact ⟨rfl, ⟨⟩⟩) (by exact ⟨⟩) (LocG.of rfl (loc_field (by decide) fd_60_2)) nofree ?_
 refine swl_step (by exact ⟨rfl, ⟨⟩⟩) (by exact ⟨rfl, ⟨⟩⟩) (LocG.of rfl (loc_load (qs := [PV.val _]) (by decide) ty_58 (fun _ => rfl) (by exact Nat.le_of_ble_eq_true rfl) (by exact (ToL.cons PV.nv_val ToL.nil)) (by exact (BorL.cons (PV.bor_val _) BorL.nil)))) nofree ?_
 refine swl_step (by exact ⟨rfl, ⟨⟩⟩) (by exact ⟨⟩) (LocG.of rfl (loc_copy (.inl rfl) (by decide) (by exact Cp.sc))) nofree ?_
 refine swl_of (l := [(1, RV.sv false [PV.val _]), (2, RV.ptr 2 0), (4, RV.sv false [PV.val _]), (13, RV.ptr 2 5), (14, RV.sv false [PV.val _]), (15, RV.sv false [PV.val _])]) (b := [(2, (60, [PV.nv _ (PV.val _), PV.nv _ (PV.val _), PV.nv _ (PV.sl _ _), PV.nv _ (PV.sl _ _), PV.nv _ (PV.sl _ _), PV.nv _ (PV.sl _ _), PV.nv _ (PV.sl _ _), PV.nv _ (PV.sl _ _), PV.nv _ (PV.sl _ _), PV.nv _ (PV.sl _ _), PV.nv _ (PV.sl _ _)]))]) (by exact ⟨rfl, rfl, rfl, rfl, rfl, rfl, ⟨⟩⟩) (by exact ⟨rfl, ⟨⟩⟩) ?_
 refine swl_ucallB (bx := 2) (L := L0w) (A := [PV.nv _ (PV.val _), PV.nv _ (PV.val _), PV.nv _ (PV.sl _ _), PV.nv _ (PV.sl _ _), PV.nv _ (PV.sl _ _)]) (ms := [PV.nv _ (PV.sl _ _)]) (B := [PV.nv _ (PV.sl _ _), PV.nv _ (PV.sl _ _), PV.nv _ (PV.sl _ _), PV.nv _ (PV.sl _ _), PV.nv _ (PV.sl _ _)]) (qr := [(false, [PV.val _])]) (as_ := [(false, [PV.val _])]) (by decide) c_92 rfl (by exact rfl) (by exact (Nm.val Nm.nil)) (by exact ⟨rfl, ⟨⟩⟩) (by exact (And.intro (by exact ⟨⟩) True.intro)) (by exact And.intro (And.intro rfl (ToL.cons (PV.To.refl _) ToL.nil)) True.intro) (by exact rfl) (by exact (Nm.nv Nm.nil)) (by exact (OwnTo.nv OwnTo.nil)) (by exact mark_BoolS (by first | omega | (simp only [mkV_Query]; omega)) (by first | omega | (simp only [mkV_Query]; omega))) (by exact (OwnFrom.nv OwnFrom.nil)) (fun x hx => hx.elim) (by exact (LclA.cons (RV.lcl_sv (LclC.cons PV.lcl_val LclC.nil)) (LclA.cons RV.lcl_ptr (LclA.cons (RV.lcl_sv (LclC.cons PV.lcl_val LclC.nil)) (LclA.cons RV.lcl_ptr (LclA.cons (RV.lcl_sv (LclC.cons PV.lcl_val LclC.nil)) (LclA.cons (RV.lcl_sv (LclC.cons PV.lcl_val LclC.nil)) LclA.nil))))))) (by exact (And.intro (.inl rfl) True.intro)) (by exact (LclC.cons (PV.lcl_nv PV.lcl_val) (LclC.cons (PV.lcl_nv PV.lcl_val) (LclC.cons (PV.lcl_nv (PV.lcl_own (LclC.map fun x => (LclC.cons PV.lcl_val (LclC.cons PV.lcl_val (LclC.cons PV.lcl_val LclC.nil)))))) (LclC.cons (PV.lcl_nv (PV.lcl_own (LclC.map fun x => (LclC.cons PV.lcl_val LclC.nil)))) (LclC.cons (PV.lcl_nv (PV.lcl_own (LclC.map fun x => (LclC.cons (PV.lcl_own (LclC.map fun x => (LclC.cons PV.lcl_val (LclC.cons (PV.lcl_own (LclC.map fun x => (LclC.cons PV.lcl_val LclC.nil))) LclC.nil)))) LclC.nil)))) LclC.nil)))))) (by exact (LclC.cons (PV.lcl_nv (PV.lcl_own (LclC.map fun x => (LclC.cons PV.lcl_val LclC.nil)))) (LclC.cons (PV.lcl_nv (PV.lcl_own (LclC.map fun x => (LclC.cons PV.lcl_val LclC.nil)))) (LclC.cons (PV.lcl_nv (PV.lcl_own (LclC.map fun x => (LclC.cons (PV.lcl_own (LclC.map fun x => (LclC.cons PV.lcl_val (LclC.cons (PV.lcl_own (LclC.map fun x => (LclC.cons PV.lcl_val LclC.nil))) LclC.nil)))) LclC.nil)))) (LclC.cons (PV.lcl_nv (PV.lcl_own (LclC.map fun x => (LclC.cons PV.lcl_val LclC.nil)))) (LclC.cons (PV.lcl_nv (PV.lcl_own (LclC.map fun x => (LclC.cons (PV.lcl_own (LclC.map fun x => (LclC.cons PV.lcl_val (LclC.cons (PV.lcl_own (LclC.map fun x => (LclC.cons PV.lcl_val LclC.nil))) LclC.nil)))) LclC.nil)))) LclC.nil)))))) rfl ?_
 refine swl_step (by exact ⟨rfl, ⟨⟩⟩) (by exact ⟨⟩) (LocG.of rfl (loc_copy (.inr rfl) (by decide) (by exact Cp.sc))) nofree ?_
 refine swl_nil ?_
 refine sw_seq ?_
 refine sO [(1, _), (2, _), (4, _)] [(2, _)] ?_
 refine sw_regL ?_
 refine swl_step (by exact ⟨rfl, ⟨⟩⟩) (by exact ⟨⟩) (LocG.of rfl (loc_field (by decide) fd_60_3)) nofree ?_
 refine swl_step (by exact ⟨rfl, ⟨⟩⟩) (by exact ⟨rfl, ⟨⟩⟩) (LocG.of rfl (loc_load (qs := [PV.val _]) (by decide) ty_38 (fun _ => rfl) (by exact Nat.le_of_ble_eq_true rfl) (by exact (ToL.cons PV.nv_val ToL.nil)) (by exact (BorL.cons (PV.bor_val _) BorL.nil)))) nofree ?_
 refine swl_step (by exact ⟨rfl, ⟨⟩⟩) (by exact ⟨⟩) (LocG.of rfl (loc_copy (.inl rfl) (by decide) (by exact Cp.sc))) nofree ?_
 refine swl_of (l := [(1, RV.sv false [PV.val _]), (2, RV.ptr 2 0), (4, RV.sv false [PV.val _]), (17, RV.ptr 2 6), (18, RV.sv false [PV.val _]), (19, RV.sv false [PV.val _])]) (b := [(2, (60, [PV.nv _ (PV.val _), PV.nv _ (PV.val _), PV.nv _ (PV.sl _ _), PV.nv _ (PV.sl _ _), PV.nv _ (PV.sl _ _), PV.nv _ (PV.sl _ _), PV.nv _ (PV.sl _ _), PV.nv _ (PV.sl _ _), PV.nv _ (PV.sl _ _), PV.nv _ (PV.sl _ _), PV.nv _ (PV.sl _ _)]))]) (by exact ⟨rfl, rfl, rfl, rfl, rfl, rfl, ⟨⟩⟩) (by exact ⟨rfl, ⟨⟩⟩) ?_
 refine swl_ucallB (bx := 2) (L := L0w) (A := [PV.nv _ (PV.val _), PV.nv _ (PV.val _), PV.nv _ (PV.sl _ _), PV.nv _ (PV.sl _ _), PV.nv _ (PV.sl _ _), PV.nv _ (PV.sl _ _)]) (ms := [PV.nv _ (PV.sl _ _)]) (B := [PV.nv _ (PV.sl _ _), PV.nv _ (PV.sl _ _), PV.nv _ (PV.sl _ _), PV.nv _ (PV.sl _ _)]) (qr := [(false, [PV.val _])]) (as_ := [(false, [PV.val _])]) (by decide) c_29 rfl (by exact rfl) (by exact (Nm.val Nm.nil)) (by exact ⟨rfl, ⟨⟩⟩) (by exact (And.intro (by exact ⟨⟩) True.intro)) (by exact And.intro (And.intro rfl (ToL.cons (PV.To.refl _) ToL.nil)) True.intro) (by exact rfl) (by exact (Nm.nv Nm.nil)) (by exact (OwnTo.nv OwnTo.nil)) (by exact mark_IntS (by first | omega | (simp only [mkV_Query]; omega)) (by first | omega | (simp only [mkV_Query]; omega))) (by exact (OwnFrom.nv OwnFrom.nil)) (fun x hx => hx.elim) (by exact (LclA.cons (RV.lcl_sv (LclC.cons PV.lcl_val LclC.nil)) (LclA.cons RV.lcl_ptr (LclA.cons (RV.lcl_sv (LclC.cons PV.lcl_val LclC.nil)) (LclA.cons RV.lcl_ptr (LclA.cons (RV.lcl_sv (LclC.cons PV.lcl_val LclC.nil)) (LclA.cons (RV.lcl_sv (LclC.cons PV.lcl_val LclC.nil)) LclA.nil))))))) (by exact (And.intro (.inl rfl) True.intro)) (by exact (LclC.cons (PV.lcl_nv PV.lcl_val) (LclC.cons (PV.lcl_nv PV.lcl_val) (LclC.cons (PV.lcl_nv (PV.lcl_own (LclC.map fun x => (LclC.cons PV.lcl_val (LclC.cons PV.lcl_val (LclC.cons PV.lcl_val LclC.nil)))))) (LclC.cons (PV.lcl_nv (PV.lcl_own (LclC.map fun x => (LclC.cons PV.lcl_val LclC.nil)))) (LclC.cons (PV.lcl_nv (PV.lcl_own (LclC.map fun x => (LclC.cons (PV.lcl_own (LclC.map fun x => (LclC.cons PV.lcl_val (LclC.cons (PV.lcl_own (LclC.map fun x => (LclC.cons PV.lcl_val LclC.nil))) LclC.nil)))) LclC.nil)))) (LclC.cons (PV.lcl_nv (PV.lcl_own (LclC.map fun x => (LclC.cons PV.lcl_val LclC.nil)))) LclC.nil))))))) (by exact (LclC.cons (PV.lcl_nv (PV.lcl_own (LclC.map fun x => (LclC.cons PV.lcl_val LclC.nil)))) (LclC.cons (PV.lcl_nv (PV.lcl_own (LclC.map fun x => (LclC.cons (PV.lcl_own (LclC.map fun x => (LclC.cons PV.lcl_val (LclC.cons (PV.lcl_own (LclC.map fun x => (LclC.cons PV.lcl_val LclC.nil))) LclC.nil)))) LclC.nil)))) (LclC.cons (PV.lcl_nv (PV.lcl_own (LclC.map fun x => (LclC.cons PV.lcl_val LclC.nil)))) (LclC.cons (PV.lcl_nv (PV.lcl_own (LclC.map fun x => (LclC.cons (PV.lcl_own (LclC.map fun x => (LclC.cons PV.lcl_val (LclC.cons (PV.lcl_own (LclC.map fun x => (LclC.cons PV.lcl_val LclC.nil))) LclC.nil)))) LclC.nil)))) LclC.nil))))) rfl ?_
 refine swl_step (by exact ⟨rfl, ⟨⟩⟩) (by exact ⟨⟩) (LocG.of rfl (loc_copy (.inr rfl) (by decide) (by exact Cp.sc))) nofree ?_
 refine swl_nil ?_
 refine sw_seq ?_
 refine sO [(1, _), (2, _), (4, _)] [(2, _)] ?_
 refine sw_regL ?_
 refine swl_step (by exact ⟨rfl, ⟨⟩⟩) (by exact ⟨⟩) (LocG.of rfl (loc_field (by decide) fd_60_4)) nofree ?_
 refine swl_step (by exact ⟨rfl, ⟨⟩⟩) (by exact ⟨rfl, ⟨⟩⟩) (LocG.of rfl (loc_load (qs := [PV.val _]) (by decide) ty_38 (fun _ => rfl) (by exact Nat.le_of_ble_eq_true rfl) (by exact (ToL.cons PV.nv_val ToL.nil)) (by exact (BorL.cons (PV.bor_val _) BorL.nil)))) nofree ?_
 refine swl_step (by exact ⟨rfl, ⟨⟩⟩) (by exact ⟨⟩) (LocG.of rfl (loc_copy (.inl rfl) (by decide) (by exact Cp.sc))) nofree ?_
 refine swl_of (l := [(1, RV.sv false [PV.val _]), (2, RV.ptr 2 0), (4, RV.sv false [PV.val _]), (21, RV.ptr 2 7), (22, RV.sv false [PV.val _]), (23, RV.sv false [PV.val _])]) (b := [(2, (60, [PV.nv _ (PV.val _), PV.nv _ (PV.val _), PV.nv _ (PV.sl _ _), PV.nv _ (PV.sl _ _), PV.nv _ (PV.sl _ _), PV.nv _ (PV.sl _ _), PV.nv _ (PV.sl _ _), PV.nv _ (PV.sl _ _), PV.nv _ (PV.sl _ _), PV.nv _ (PV.sl _ _), PV.nv _ (PV.sl _ _)]))]) (by exact ⟨rfl, rfl, rfl, rfl, rfl, rfl, ⟨⟩⟩) (by exact ⟨rfl, ⟨⟩⟩) ?_
 refine swl_ucallB (bx := 2) (L := L0w) (A := [PV.nv _ (PV.val _), PV.nv _ (PV.val _), PV.nv _ (PV.sl _ _), PV.nv _ (PV.sl _ _), PV.nv _ (PV.sl _ _), PV.nv _ (PV.sl _ _), PV.nv _ (PV.sl _ _)]) (ms := [PV.nv _ (PV.sl _ _)]) (B := [PV.nv _ (PV.sl _ _), PV.nv _ (PV.sl _ _), PV.nv _ (PV.sl _ _)]) (qr := [(false, [PV.val _])]) (as_ := [(false, [PV.val _])]) (by decide) c_29 rfl (by exact rfl) (by exact (Nm.val Nm.nil)) (by exact ⟨rfl, ⟨⟩⟩) (by exact (And.intro (by exact ⟨⟩) True.intro)) (by exact And.intro (And.intro rfl (ToL.cons (PV.To.refl _) ToL.nil)) True.intro) (by exact rfl) (by exact (Nm.nv Nm.nil)) (by exact (OwnTo.nv OwnTo.nil)) (by exact mark_IntS (by first | omega | (simp only [mkV_Query]; omega)) (by first | omega | (simp only [mkV_Query]; omega))) (by exact (OwnFrom.nv OwnFrom.nil)) (fun x hx => hx.elim) (by exact (LclA.cons (RV.lcl_sv (LclC.cons PV.lcl_val LclC.nil)) (LclA.cons RV.lcl_ptr (LclA.cons (RV.lcl_sv (LclC.cons PV.lcl_val LclC.nil)) (LclA.cons RV.lcl_ptr (LclA.cons (RV.lcl_sv (LclC.cons PV.lcl_val LclC.nil)) (LclA.cons (RV.lcl_sv (LclC.cons PV.lcl_val LclC.nil)) LclA.nil))))))) (by exact (And.intro (.inl rfl) True.intro)) (by exact (LclC.cons (PV.lcl_nv PV.lcl_val) (LclC.cons (PV.lcl_nv PV.lcl_val) (LclC.cons (PV.lcl_nv (PV.lcl_own (LclC.map fun x => (LclC.cons PV.lcl_val (LclC.cons PV.lcl_val (LclC.cons PV.lcl_val LclC.nil)))))) (LclC.cons (PV.lcl_nv (PV.lcl_own (LclC.map fun x => (LclC.cons PV.lcl_val LclC.nil)))) (LclC.cons (PV.lcl_nv (PV.lcl_own (LclC.map fun x => (LclC.cons (PV.lcl_own (LclC.map fun x => (LclC.cons PV.lcl_val (LclC.cons (PV.lcl_own (LclC.map fun x => (LclC.cons PV.lcl_val LclC.nil))) LclC.nil)))) LclC.nil)))) (LclC.cons (PV.lcl_nv (PV.lcl_own (LclC.map fun x => (LclC.cons PV.lcl_val LclC.nil)))) (LclC.cons (PV.lcl_nv (PV.lcl_own (LclC.map fun x => (LclC.cons PV.lcl_val LclC.nil)))) LclC.nil)))))))) (by exact (LclC.cons (PV.lcl_nv (PV.lcl_own (LclC.map fun x => (LclC.cons (PV.lcl_own (LclC.map fun x => (LclC.cons PV.lcl_val (LclC.cons (PV.lcl_own (LclC.map fun x => (LclC.cons PV.lcl_val LclC.nil))) LclC.nil)))) LclC.nil)))) (LclC.cons (PV.lcl_nv (PV.lcl_own (LclC.map fun x => (LclC.cons PV.lcl_val LclC.nil)))) (LclC.cons (PV.lcl_nv (PV.lcl_own (LclC.map fun x => (LclC.cons (PV.lcl_own (LclC.map fun x => (LclC.cons PV.lcl_val (LclC.cons (PV.lcl_own (LclC.map fun x => (LclC.cons PV.lcl_val LclC.nil))) LclC.nil)))) LclC.nil)))) LclC.nil)))) rfl ?_
 refine swl_step (by exact ⟨rfl, ⟨⟩⟩) (by exact ⟨⟩) (LocG.of rfl (loc_copy (.inr rfl) (by decide) (by exact Cp.sc))) nofree ?_
 refine swl_nil ?_
 refine sw_seq ?_
 refine sO [(1, _), (2, _), (4, _)] [(2, _)] ?_
 refine sw_regL ?_
 refine swl_step (by exact ⟨rfl, ⟨⟩⟩) (by exact ⟨⟩) (LocG.of rfl (loc_field (by decide) fd_60_5)) nofree ?_
 refine swl_step (by exact ⟨rfl, ⟨⟩⟩) (by exact ⟨rfl, ⟨⟩⟩) (LocG.of rfl (loc_load (qs := [PV.val _]) (by decide) ty_57 (fun _ => rfl) (by exact Nat.le_of_ble_eq_true rfl) (by exact (ToL.cons PV.nv_val ToL.nil)) (by exact (BorL.cons (PV.bor_val _) BorL.nil)))) nofree ?_
 refine swl_step (by exact ⟨rfl, ⟨⟩⟩) (by exact ⟨⟩) (LocG.of rfl (loc_copy (.inl rfl) (by decide) (by exact Cp.sc))) nofree ?_
 refine swl_of (l := [(1, RV.sv false [PV.val _]), (2, RV.ptr 2 0), (4, RV.sv false [PV.val _]), (25, RV.ptr 2 8), (26, RV.sv false [PV.val _]), (27, RV.sv false [PV.val _])]) (b := [(2, (60, [PV.nv _ (PV.val _), PV.nv _ (PV.val _), PV.nv _ (PV.sl _ _), PV.nv _ (PV.sl _ _), PV.nv _ (PV.sl _ _), PV.nv _ (PV.sl _ _), PV.nv _ (PV.sl _ _), PV.nv _ (PV.sl _ _), PV.nv _ (PV.sl _ _), PV.nv _ (PV.sl _ _), PV.nv _ (PV.sl _ _)]))]) (by exact ⟨rfl, rfl, rfl, rfl, rfl, rfl, ⟨⟩⟩) (by exact ⟨rfl, ⟨⟩⟩) ?_
 refine swl_ucallB (bx := 2) (L := L0w) (A := [PV.nv _ (PV.val _), PV.nv _ (PV.val _), PV.nv _ (PV.sl _ _), PV.nv _ (PV.sl _ _), PV.nv _ (PV.sl _ _), PV.nv _ (PV.sl _ _), PV.nv _ (PV.sl _ _), PV.nv _ (PV.sl _ _)]) (ms := [PV.nv _ (PV.sl _ _)]) (B := [PV.nv _ (PV.sl _ _), PV.nv _ (PV.sl _ _)]) (qr := [(false, [PV.val _])]) (as_ := [(false, [PV.val _])]) (by decide) c_42 rfl (by exact rfl) (by exact (Nm.val Nm.nil)) (by exact ⟨rfl, ⟨⟩⟩) (by exact (And.intro (by exact ⟨⟩) True.intro)) (by exact And.intro (And.intro rfl (ToL.cons (PV.To.refl _) ToL.nil)) True.intro) (by exact rfl) (by exact (Nm.nv Nm.nil)) (by exact (OwnTo.nv OwnTo.nil)) (by exact mark_RowSS (by first | omega | (simp only [mkV_Query]; omega)) (by first | omega | (simp only [mkV_Query]; omega))) (by exact (OwnFrom.nv OwnFrom.nil)) (fun x hx => hx.elim) (by exact (LclA.cons (RV.lcl_sv (LclC.cons PV.lcl_val LclC.nil)) (LclA.cons RV.lcl_ptr (LclA.cons (RV.lcl_sv (LclC.cons PV.lcl_val LclC.nil)) (LclA.cons RV.lcl_ptr (LclA.cons (RV.lcl_sv (LclC.cons PV.lcl_val LclC.nil)) (LclA.cons (RV.lcl_sv (LclC.cons PV.lcl_val LclC.nil)) LclA.nil))))))) (by exact (And.intro (.inl rfl) True.intro)) (by exact (LclC.cons (PV.lcl_nv PV.lcl_val) (LclC.cons (PV.lcl_nv PV.lcl_val) (LclC.cons (PV.lcl_nv (PV.lcl_own (LclC.map fun x => (LclC.cons PV.lcl_val (LclC.cons PV.lcl_val (LclC.cons PV.lcl_val LclC.nil)))))) (LclC.cons (PV.lcl_nv (PV.lcl_own (LclC.map fun x => (LclC.cons PV.lcl_val LclC.nil)))) (LclC.cons (PV.lcl_nv (PV.lcl_own (LclC.map fun x => (LclC.cons (PV.lcl_own (LclC.map fun x => (LclC.cons PV.lcl_val (LclC.cons (PV.lcl_own (LclC.map fun x => (LclC.cons PV.lcl_val LclC.nil))) LclC.nil)))) LclC.nil)))) (LclC.cons (PV.lcl_nv (PV.lcl_own (LclC.map fun x => (LclC.cons PV.lcl_val LclC.nil)))) (LclC.cons (PV.lcl_nv (PV.lcl_own (LclC.map fun x => (LclC.cons PV.lcl_val LclC.nil)))) (LclC.cons (PV.lcl_nv (PV.lcl_own (LclC.map fun x => (LclC.cons PV.lcl_val LclC.nil)))) LclC.nil))))))))) (by exact (LclC.cons (PV.lcl_nv (PV.lcl_own (LclC.map fun x => (LclC.cons PV.lcl_val LclC.nil)))) (LclC.cons (PV.lcl_nv (PV.lcl_own (LclC.map fun x => (LclC.cons (PV.lcl_own (LclC.map fun x => (LclC.cons PV.lcl_val (LclC.cons (PV.lcl_own (LclC.map fun x => (LclC.cons PV.lcl_val LclC.nil))) LclC.nil)))) LclC.nil)))) LclC.nil))) rfl ?_
 refine swl_step (by exact ⟨rfl, ⟨⟩⟩) (by exact ⟨⟩) (LocG.of rfl (loc_copy (.inr rfl) (by decide) (by exact Cp.sc))) nofree ?_
 refine swl_nil ?_
 refine sw_seq ?_
 refine sO [(1, _), (2, _), (4, _)] [(2, _)] ?_
 refine sw_regL ?_
 refine swl_step (by exact ⟨rfl, ⟨⟩⟩) (by exact ⟨⟩) (LocG.of rfl (loc_field (by decide) fd_60_6)) nofree ?_
 refine swl_step (by exact ⟨rfl, ⟨⟩⟩) (by exact ⟨rfl, ⟨⟩⟩) (LocG.of rfl (loc_load (qs := [PV.val _]) (by decide) ty_38 (fun _ => rfl) (by exact Nat.le_of_ble_eq_true rfl) (by exact (ToL.cons PV.nv_val ToL.nil)) (by exact (BorL.cons (PV.bor_val _) BorL.nil)))) nofree ?_
 refine swl_step (by exact ⟨rfl, ⟨⟩⟩) (by exact ⟨⟩) (LocG.of rfl (loc_copy (.inl rfl) (by decide) (by exact Cp.sc))) nofree ?_
 refine swl_of (l := [(1, RV.sv false [PV.val _]), (2, RV.ptr 2 0), (4, RV.sv false [PV.val _]), (29, RV.ptr 2 9), (30, RV.sv false [PV.val _]), (31, RV.sv false [PV.val _])]) (b := [(2, (60, [PV.nv _ (PV.val _), PV.nv _ (PV.val _), PV.nv _ (PV.sl _ _), PV.nv _ (PV.sl _ _), PV.nv _ (PV.sl _ _), PV.nv _ (PV.sl _ _), PV.nv _ (PV.sl _ _), PV.nv _ (PV.sl _ _), PV.nv _ (PV.sl _ _), PV.nv _ (PV.sl _ _), PV.nv _ (PV.sl _ _)]))]) (by exact ⟨rfl, rfl, rfl, rfl, rfl, rfl, ⟨⟩⟩) (by exact ⟨rfl, ⟨⟩⟩) ?_
 refine swl_ucallB (bx := 2) (L := L0w) (A := [PV.nv _ (PV.val _), PV.nv _ (PV.val _), PV.nv _ (PV.sl _ _), PV.nv _ (PV.sl _ _), PV.nv _ (PV.sl _ _), PV.nv _ (PV.sl _ _), PV.nv _ (PV.sl _ _), PV.nv _ (PV.sl _ _), PV.nv _ (PV.sl _ _)]) (ms := [PV.nv _ (PV.sl _ _)]) (B := [PV.nv _ (PV.sl _ _)]) (qr := [(false, [PV.val _])]) (as_ := [(false, [PV.val _])]) (by decide) c_29 rfl (by exact rfl) (by exact (Nm.val Nm.nil)) (by exact ⟨rfl, ⟨⟩⟩) (by exact (And.intro (by exact ⟨⟩) True.intro)) (by exact And.intro (And.intro rfl (ToL.cons (PV.To.refl _) ToL.nil)) True.intro) (by exact rfl) (by exact (Nm.nv Nm.nil)) (by exact (OwnTo.nv OwnTo.nil)) (by exact mark_IntS (by first | omega | (simp only [mkV_Query]; omega)) (by first | omega | (simp only [mkV_Query]; omega))) (by exact (OwnFrom.nv OwnFrom.nil)) (fun x hx => hx.elim) (by exact (LclA.cons (RV.lcl_sv (LclC.cons PV.lcl_val LclC.nil)) (LclA.cons RV.lcl_ptr (LclA.cons (RV.lcl_sv (LclC.cons PV.lcl_val LclC.nil)) (LclA.cons RV.lcl_ptr (LclA.cons (RV.lcl_sv (LclC.cons PV.lcl_val LclC.nil)) (LclA.cons (RV.lcl_sv (LclC.cons PV.lcl_val LclC.nil)) LclA.nil))))))) (by exact (And.intro (.inl rfl) True.intro)) (by exact (LclC.cons (PV.lcl_nv PV.lcl_val) (LclC.cons (PV.lcl_nv PV.lcl_val) (LclC.cons (PV.lcl_nv (PV.lcl_own (LclC.map fun x => (LclC.cons PV.lcl_val (LclC.cons PV.lcl_val (LclC.cons PV.lcl_val LclC.nil)))))) (LclC.cons (PV.lcl_nv (PV.lcl_own (LclC.map fun x => (LclC.cons PV.lcl_val LclC.nil)))) (LclC.cons (PV.lcl_nv (PV.lcl_own (LclC.map fun x => (LclC.cons (PV.lcl_own (LclC.map fun x => (LclC.cons PV.lcl_val (LclC.cons (PV.lcl_own (LclC.map fun x => (LclC.cons PV.lcl_val LclC.nil))) LclC.nil)))) LclC.nil)))) (LclC.cons (PV.lcl_nv (PV.lcl_own (LclC.map fun x => (LclC.cons PV.lcl_val LclC.nil)))) (LclC.cons (PV.lcl_nv (PV.lcl_own (LclC.map fun x => (LclC.cons PV.lcl_val LclC.nil)))) (LclC.cons (PV.lcl_nv (PV.lcl_own (LclC.map fun x => (LclC.cons PV.lcl_val LclC.nil)))) (LclC.cons (PV.lcl_nv (PV.lcl_own (LclC.map fun x => (LclC.cons (PV.lcl_own (LclC.map fun x => (LclC.cons PV.lcl_val (LclC.cons (PV.lcl_own (LclC.map fun x => (LclC.cons PV.lcl_val LclC.nil))) LclC.nil)))) LclC.nil)))) LclC.nil)))))))))) (by exact (LclC.cons (PV.lcl_nv (PV.lcl_own (LclC.map fun x => (LclC.cons (PV.lcl_own (LclC.map fun x => (LclC.cons PV.lcl_val (LclC.cons (PV.lcl_own (LclC.map fun x => (LclC.cons PV.lcl_val LclC.nil))) LclC.nil)))) LclC.nil)))) LclC.nil)) rfl ?_
 refine swl_step (by exact ⟨rfl, ⟨⟩⟩) (by exact ⟨⟩) (LocG.of rfl (loc_copy (.inr rfl) (by decide) (by exact Cp.sc))) nofree ?_
 refine swl_nil ?_
 refine sw_seq ?_
 refine sO [(1, _), (2, _), (4, _)] [(2, _)] ?_
 refine sw_regL ?_
 refine swl_step (by exact ⟨rfl, ⟨⟩⟩) (by exact ⟨⟩) (LocG.of rfl (loc_field (by decide) fd_60_7)) nofree ?_
 refine swl_step (by exact ⟨rfl, ⟨⟩⟩) (by exact ⟨rfl, ⟨⟩⟩) (LocG.of rfl (loc_load (qs := [PV.val _]) (by decide) ty_57 (fun _ => rfl) (by exact Nat.le_of_ble_eq_true rfl) (by exact (ToL.cons PV.nv_val ToL.nil)) (by exact (BorL.cons (PV.bor_val _) BorL.nil)))) nofree ?_
 refine swl_step (by exact ⟨rfl, ⟨⟩⟩) (by exact ⟨⟩) (LocG.of rfl (loc_copy (.inl rfl) (by decide) (by exact Cp.sc))) nofree ?_
 refine swl_of (l := [(1, RV.sv false [PV.val _]), (2, RV.ptr 2 0), (4, RV.sv false [PV.val _]), (33, RV.ptr 2 10), (34, RV.sv false [PV.val _]), (35, RV.sv false [PV.val _])]) (b := [(2, (60, [PV.nv _ (PV.val _), PV.nv _ (PV.val _), PV.nv _ (PV.sl _ _), PV.nv _ (PV.sl _ _), PV.nv _ (PV.sl _ _), PV.nv _ (PV.sl _ _), PV.nv _ (PV.sl _ _), PV.nv _ (PV.sl _ _), PV.nv _ (PV.sl _ _), PV.nv _ (PV.sl _ _), PV.nv _ (PV.sl _ _)]))]) (by exact ⟨rfl, rfl, rfl, rfl, rfl, rfl, ⟨⟩⟩) (by exact ⟨rfl, ⟨⟩⟩) ?_
 refine swl_ucallB (bx := 2) (L := L0w) (A := [PV.nv _ (PV.val _), PV.nv _ (PV.val _), PV.nv _ (PV.sl _ _), PV.nv _ (PV.sl _ _), PV.nv _ (PV.sl _ _), PV.nv _ (PV.sl _ _), PV.nv _ (PV.sl _ _), PV.nv _ (PV.sl _ _), PV.nv _ (PV.sl _ _), PV.nv _ (PV.sl _ _)]) (ms := [PV.nv _ (PV.sl _ _)]) (B := []) (qr := [(false, [PV.val _])]) (as_ := [(false, [PV.val _])]) (by decide) c_42 rfl (by exact rfl) (by exact (Nm.val Nm.nil)) (by exact ⟨rfl, ⟨⟩⟩) (by exact (And.intro (by exact ⟨⟩) True.intro)) (by exact And.intro (And.intro rfl (ToL.cons (PV.To.refl _) ToL.nil)) True.intro) (by exact rfl) (by exact (Nm.nv Nm.nil)) (by exact (OwnTo.nv OwnTo.nil)) (by exact mark_RowSS (by first | omega | (simp only [mkV_Query]; omega)) (by first | omega | (simp only [mkV_Query]; omega))) (by exact (OwnFrom.nv OwnFrom.nil)) (fun x hx => hx.elim) (by exact (LclA.cons (RV.lcl_sv (LclC.cons PV.lcl_val LclC.nil)) (LclA.cons RV.lcl_ptr (LclA.cons (RV.lcl_sv (LclC.cons PV.lcl_val LclC.nil)) (LclA.cons RV.lcl_ptr (LclA.cons (RV.lcl_sv (LclC.cons PV.lcl_val LclC.nil)) (LclA.cons (RV.lcl_sv (LclC.cons PV.lcl_val LclC.nil)) LclA.nil))))))) (by exact (And.intro (.inl rfl) True.intro)) (by exact (LclC.cons (PV.lcl_nv PV.lcl_val) (LclC.cons (PV.lcl_nv PV.lcl_val) (LclC.cons (PV.lcl_nv (PV.lcl_own (LclC.map fun x => (LclC.cons PV.lcl_val (LclC.cons PV.lcl_val (LclC.cons PV.lcl_val LclC.nil)))))) (LclC.cons (PV.lcl_nv (PV.lcl_own (LclC.map fun x => (LclC.cons PV.lcl_val LclC.nil)))) (LclC.cons (PV.lcl_nv (PV.lcl_own (LclC.map fun x => (LclC.cons (PV.lcl_own (LclC.map fun x => (LclC.cons PV.lcl_val (LclC.cons (PV.lcl_own (LclC.map fun x => (LclC.cons PV.lcl_val LclC.nil))) LclC.nil)))) LclC.nil)))) (LclC.cons (PV.lcl_nv (PV.lcl_own (LclC.map fun x => (LclC.cons PV.lcl_val LclC.nil)))) (LclC.cons (PV.lcl_nv (PV.lcl_own (LclC.map fun x => (LclC.cons PV.lcl_val LclC.nil)))) (LclC.cons (PV.lcl_nv (PV.lcl_own (LclC.map fun x => (LclC.cons PV.lcl_val LclC.nil)))) (LclC.cons (PV.lcl_nv (PV.lcl_own (LclC.map fun x => (LclC.cons (PV.lcl_own (LclC.map fun x => (LclC.cons PV.lcl_val (LclC.cons (PV.lcl_own (LclC.map fun x => (LclC.cons PV.lcl_val LclC.nil))) LclC.nil)))) LclC.nil)))) (LclC.cons (PV.lcl_nv (PV.lcl_own (LclC.map fun x => (LclC.cons PV.lcl_val LclC.nil)))) LclC.nil))))))))))) (by exact LclC.nil) rfl ?_
 refine swl_step (by exact ⟨rfl, ⟨⟩⟩) (by exact ⟨⟩) (LocG.of rfl (loc_copy (.inr rfl) (by decide) (by exact Cp.sc))) nofree ?_
 refine swl_nil ?_
 refine sw_seq ?_
 refine sO [(1, _), (2, _), (4, _)] [(2, _)] ?_
 refine sw_reg ?_
 refine rA ?_ (x := sM)
 refine rA ?_ (x := sA)
 refine sw_ret ?_
 exact And.intro (by exact rfl) (Exists.intro _ (And.intro (.inr (Exists.intro 2 (Exists.intro _ (by exact rfl)))) (And.intro (by exact (Nm.nv (Nm.nv (Nm.nv (Nm.nv (Nm.nv (Nm.nv (Nm.nv (Nm.nv (Nm.nv (Nm.nv (Nm.nv Nm.nil)))))))))))) (by exact (OwnTo.nv (OwnTo.nv (OwnTo.nv (OwnTo.nv (OwnTo.nv (OwnTo.nv (OwnTo.nv (OwnTo.nv (OwnTo.nv (OwnTo.nv (OwnTo.nv OwnTo.nil)))))))))))))))
end Go.Proofs.Ytloipjaiceifbaa
