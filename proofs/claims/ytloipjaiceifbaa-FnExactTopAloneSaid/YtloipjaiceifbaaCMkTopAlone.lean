/- What functions of the program compute. No condition. -/
import Derived.Test.YtloipjaiceifbaaCDb
import Derived.KernelRfl
set_option linter.unusedVariables false
set_option linter.unusedSimpArgs false
namespace Go.Proofs.Ytloipjaiceifbaa
open Go Go.RowKit M
set_option maxRecDepth 10000
attribute [local irreducible] PV.Lcl PV.LclR RV.Lcl
theorem mark_IntS {x : List Int} {k : Int} (h0k : 0 ≤ k) (hbk : (mkL mkE_Int x k).2 ≤ 4611686018427387904) : UCall Try.prog 29 false [PV.sl (.own 3 1) (x.map cInt)] [PV.sl (.own 3 1) ((mkL mkE_Int x k).1.map cInt)] [(false, [PV.val (vI k)])] (vI (mkL mkE_Int x k).2) := by
 refine ucall_of Try.func29 rfl (Nat.le_of_ble_eq_true rfl) (borA_cons (BorL.cons (PV.bor_val _) BorL.nil) borA_nil) ?_
 intro us h0 w0 Fz0 hus
 obtain ⟨u0, rfl⟩ := len1 hus
 by_cases hx : x = []
 ·subst hx
  refine sw_seq ?_
  refine sO [(0, _), (1, _)] [] ?_
  refine sw_reg ?_
  refine rA ?_ (x := kA)
  refine sw_seq ?_
  refine sw_seq ?_
  refine sO [(0, _), (1, _), (4, _)] [] ?_
  refine sw_reg ?_
  refine rA ?_ (x := kA)
  refine sw_block ?_
  refine sO [(0, _), (1, _), (4, _), (5, _)] [] ?_
  refine sw_loop (l0 := [(0, RV.sv false [PV.nv _ (PV.sl _ _)]), (4, RV.sv false [PV.val _])]) (b0 := []) (fun _ : Unit => True) (fun _ : Unit => [(1, RV.int k), (5, RV.int 0)]) (fun _ : Unit => []) (fun _ : Unit => 0) () True.intro (by exact ⟨rfl, rfl, ⟨⟩⟩) (by exact ⟨⟩) (by exact And.intro (by exact rfl) (And.intro (by exact rfl) (True.intro))) (by exact ⟨⟩) ?_
  rintro _ _
  refine sw_seq ?_
  refine sw_seq ?_
  refine sw_reg ?_
  refine rA ?_ (x := sM)
  refine rA ?_ (x := loc_copy (r' := RV.sv false [PV.sl .v _]) (.inl rfl) (by decide) (by exact Cp.sv (ToL.cons (PV.nv_to PV.to_none) ToL.nil) (BorL.cons (PV.bor_sl _) BorL.nil)))
  refine rA ?_ (x := lN sl_38)
  refine rA ?_ (x := B_lss)
  refine sw_cond (t := 9) rfl (fun hb1 => ?_) (fun hb1 => ?_)
  ·try simp only [q1, q2, q3, q4, q5, q6, q7, q8, q9] at hb1
   simp at hb1
  ·try simp only [q1, q2, q3, q4, q5, q6, q7, q8, q9] at hb1
   refine sw_exit ?_
   refine sw_seq ?_
   refine sO [(0, _), (1, _), (4, _), (5, _)] [] ?_
   refine sw_reg ?_
   refine rA ?_ (x := sM)
   refine rA ?_ (x := sA)
   refine sw_ret ?_
   exact And.intro (by exact rfl) (Exists.intro _ (And.intro (.inl (by exact rfl)) (And.intro (by exact (Nm.nv Nm.nil)) (by exact (OwnTo.nv OwnTo.nil)))))
 ·refine sw_thaw (s := 0) (D := 999) (E := 3) (e := 1) (u := u0) (es := x.map cInt) (L := L0w) (by exact rfl) (by simpa using hx) (by exact rfl) (by exact rfl) (fun x hx => hx.elim) (by exact And.intro (.inl rfl) (And.intro (.inr (RV.lcl_sv (LclC.cons PV.lcl_val LclC.nil))) True.intro)) True.intro (LclC.map fun x => (LclC.cons PV.lcl_val LclC.nil)) fun cp jk hl0 hcp hjk => ?_
  have hlm : (x.map cInt).length = x.length := List.length_map _
  rw [hlm] at hl0 hcp
  have hmono := mkL_take_le mkE_Int_le x
  have hmono0 := fun i => mkL_le mkE_Int_le (x.take i) k
  refine sw_seq ?_
  refine sO [(0, _), (1, _)] [(999, (3, _))] ?_
  refine sw_reg ?_
  refine rA ?_ (x := kA)
  refine sw_seq ?_
  refine sw_seq ?_
  refine sO [(0, _), (1, _), (4, _)] [(999, _)] ?_
  refine sw_reg ?_
  refine rA ?_ (x := kA)
  refine sw_block ?_
  refine sO [(0, _), (1, _), (4, _), (5, _)] [(999, _)] ?_
  refine sw_loop (l0 := [(0, RV.nm _ (RV.hdr 999 _ _)), (4, RV.sv false [PV.val _])]) (b0 := []) (fun i : Nat => i ≤ x.length) (fun i : Nat => [(1, RV.int (mkL mkE_Int (x.take i) k).2), (5, RV.int (i : Int))]) (fun i : Nat => [(999, (3, (((mkL mkE_Int (x.take i) k).1 ++ x.drop i).map cInt).flatten ++ jk.map PV.val))]) (fun i : Nat => x.length - i) 0 (by omega) (by exact ⟨rfl, rfl, ⟨⟩⟩) (by exact ⟨⟩) (by exact And.intro (by exact rfl) (And.intro (by exact rfl) (True.intro))) (by exact And.intro (by exact congrArg (fun z => some (3, z)) mark_zero) (True.intro)) ?_
  rintro i hi
  refine sw_seq ?_
  refine sw_seq ?_
  refine sw_reg ?_
  refine rA ?_ (x := sM)
  refine rA ?_ (x := loc_copy (.inl rfl) (by decide) (by exact Cp.nm Cp.hdr))
  refine rA ?_ (x := loc_hlen (by decide) sl_38)
  refine rA ?_ (x := B_lss)
  refine sw_cond (t := 9) rfl (fun hb1 => ?_) (fun hb1 => ?_)
  ·try simp only [q1, q2, q3, q4, q5, q6, q7, q8, q9] at hb1
   have hlt : i < x.length := by omega
   have hk0 := hmono0 i
   have hk1 := hmono (i + 1) k
   rw [mkL_succ hlt] at hk1
   dsimp only at hk1
   simp only [mkE_Int] at hk1
   refine sw_boxEq (d := 999) (by exact rfl) (mark_split hlt) ?_
   have hA := mark_len (f := mkE_Int) (c := cInt) (e := 1) (k := k) (fun _ => rfl) (Nat.le_of_lt hlt)
   refine sw_skip ?_
   refine sw_seq ?_
   refine sw_block ?_
   refine sw_seq ?_
   refine sO [(0, _), (1, _), (4, _), (5, _)] [(999, (3, _ ++ ([PV.val _] ++ _)))] ?_
   refine sw_reg ?_
   refine rA ?_ (x := loc_copy (.inl rfl) (by decide) (by exact Cp.nm Cp.hdr))
   refine rA ?_ (x := sM)
   refine rA ?_ (x := sM)
   refine rA ?_ (x := loc_hindex (by decide) sl_38 (by exact ⟨⟩) (by exact rfl) (by omega))
   refine rA ?_ (x := loc_storeM (o := 0) (ag := false) (vs := [PV.val _]) (by omega) ty_3 (by exact ⟨⟩) (by exact rfl) (by exact Nat.le_of_ble_eq_true rfl))
   refine sO [(0, _), (1, _), (4, _), (5, _)] [(999, (3, _ ++ ([PV.val _] ++ _)))] ?_
   refine sw_reg ?_
   refine rA ?_ (x := sM)
   refine rA ?_ (x := B_add)
   refine rA ?_ (x := sA)
   refine sO [(0, _), (1, _), (4, _), (5, _)] [(999, _)] ?_
   refine sw_reg ?_
   refine rA ?_ (x := sM)
   refine rA ?_ (x := B_add)
   refine rA ?_ (x := sA)
   refine Exists.intro (i + 1) (And.intro (by omega) (And.intro (by omega) (And.intro (And.intro (by exact ⟨rfl, rfl, ⟨⟩⟩) (by exact ⟨⟩)) (And.intro (by exact And.intro (by exact int_eq (by rw [mkL_succ hlt]; rfl)) (And.intro (by exact rfl) (True.intro))) (by exact And.intro (by exact congrArg (fun z => some (3, z)) (mark_join hlt rfl)) (True.intro))))))
  ·try simp only [q1, q2, q3, q4, q5, q6, q7, q8, q9] at hb1
   have hend : i = x.length := by omega
   refine sw_boxEq (d := 999) (by exact rfl) (mark_all hend) ?_
   refine sw_freeze (s := 0) (D := 999) (e := 1) (by exact rfl) (by exact rfl) (by rw [List.length_map, mkL_len, List.length_map]) (by intro c hc; obtain ⟨y, _, rfl⟩ := List.mem_map.1 hc; exact rfl) hjk ?_
   refine sw_exit ?_
   refine sw_seq ?_
   refine sO [(0, _), (1, _), (4, _), (5, _)] [] ?_
   refine sw_reg ?_
   refine rA ?_ (x := sM)
   refine rA ?_ (x := sA)
   refine sw_ret ?_
   exact And.intro (by exact int_eq (by first | rfl | rw [hend, List.take_length])) (Exists.intro _ (And.intro (.inl (by exact rfl)) (And.intro (by exact (Nm.nv Nm.nil)) (by exact (OwnTo.nv OwnTo.nil)))))
theorem mark_RowS {x : List Row} {k : Int} (h0k : 0 ≤ k) (hbk : (mkL mkE_Row x k).2 ≤ 4611686018427387904) : UCall Try.prog 22 false [PV.sl (.own 87 2) (x.map (cRow (.own 3 1)))] [PV.sl (.own 87 2) ((mkL mkE_Row x k).1.map (cRow (.own 3 1)))] [(false, [PV.val (vI k)])] (vI (mkL mkE_Row x k).2) := by
 refine ucall_of Try.func22 rfl (Nat.le_of_ble_eq_true rfl) (borA_cons (BorL.cons (PV.bor_val _) BorL.nil) borA_nil) ?_
 intro us h0 w0 Fz0 hus
 obtain ⟨u0, rfl⟩ := len1 hus
 by_cases hx : x = []
 ·subst hx
  refine sw_seq ?_
  refine sO [(0, _), (1, _)] [] ?_
  refine sw_reg ?_
  refine rA ?_ (x := kA)
  refine sw_seq ?_
  refine sw_seq ?_
  refine sO [(0, _), (1, _), (4, _)] [] ?_
  refine sw_reg ?_
  refine rA ?_ (x := kA)
  refine sw_block ?_
  refine sO [(0, _), (1, _), (4, _), (5, _)] [] ?_
  refine sw_loop (l0 := [(0, RV.sv false [PV.nv _ (PV.sl _ _)]), (4, RV.sv false [PV.val _])]) (b0 := []) (fun _ : Unit => True) (fun _ : Unit => [(1, RV.int k), (5, RV.int 0)]) (fun _ : Unit => []) (fun _ : Unit => 0) () True.intro (by exact ⟨rfl, rfl, ⟨⟩⟩) (by exact ⟨⟩) (by exact And.intro (by exact rfl) (And.intro (by exact rfl) (True.intro))) (by exact ⟨⟩) ?_
  rintro _ _
  refine sw_seq ?_
  refine sw_seq ?_
  refine sw_reg ?_
  refine rA ?_ (x := sM)
  refine rA ?_ (x := loc_copy (r' := RV.sv false [PV.sl .v _]) (.inl rfl) (by decide) (by exact Cp.sv (ToL.cons (PV.nv_to PV.to_none) ToL.nil) (BorL.cons (PV.bor_sl _) BorL.nil)))
  refine rA ?_ (x := lN sl_32)
  refine rA ?_ (x := B_lss)
  refine sw_cond (t := 9) rfl (fun hb1 => ?_) (fun hb1 => ?_)
  ·try simp only [q1, q2, q3, q4, q5, q6, q7, q8, q9] at hb1
   simp at hb1
  ·try simp only [q1, q2, q3, q4, q5, q6, q7, q8, q9] at hb1
   refine sw_exit ?_
   refine sw_seq ?_
   refine sO [(0, _), (1, _), (4, _), (5, _)] [] ?_
   refine sw_reg ?_
   refine rA ?_ (x := sM)
   refine rA ?_ (x := sA)
   refine sw_ret ?_
   exact And.intro (by exact rfl) (Exists.intro _ (And.intro (.inl (by exact rfl)) (And.intro (by exact (Nm.nv Nm.nil)) (by exact (OwnTo.nv OwnTo.nil)))))
 ·refine sw_thaw (s := 0) (D := 999) (E := 87) (e := 2) (u := u0) (es := x.map (cRow (.own 3 1))) (L := L0w) (by exact rfl) (by simpa using hx) (by exact rfl) (by exact rfl) (fun x hx => hx.elim) (by exact And.intro (.inl rfl) (And.intro (.inr (RV.lcl_sv (LclC.cons PV.lcl_val LclC.nil))) True.intro)) True.intro (LclC.map fun x => (LclC.cons PV.lcl_val (LclC.cons (PV.lcl_own (LclC.map fun x => (LclC.cons PV.lcl_val LclC.nil))) LclC.nil))) fun cp jk hl0 hcp hjk => ?_
  have hlm : (x.map (cRow (.own 3 1))).length = x.length := List.length_map _
  rw [hlm] at hl0 hcp
  have hmono := mkL_take_le mkE_Row_le x
  have hmono0 := fun i => mkL_le mkE_Row_le (x.take i) k
  refine sw_seq ?_
  refine sO [(0, _), (1, _)] [(999, (87, _))] ?_
  refine sw_reg ?_
  refine rA ?_ (x := kA)
  refine sw_seq ?_
  refine sw_seq ?_
  refine sO [(0, _), (1, _), (4, _)] [(999, _)] ?_
  refine sw_reg ?_
  refine rA ?_ (x := kA)
  refine sw_block ?_
  refine sO [(0, _), (1, _), (4, _), (5, _)] [(999, _)] ?_
  refine sw_loop (l0 := [(0, RV.nm _ (RV.hdr 999 _ _)), (4, RV.sv false [PV.val _])]) (b0 := []) (fun i : Nat => i ≤ x.length) (fun i : Nat => [(1, RV.int (mkL mkE_Row (x.take i) k).2), (5, RV.int (i : Int))]) (fun i : Nat => [(999, (87, (((mkL mkE_Row (x.take i) k).1 ++ x.drop i).map (cRow (.own 3 1))).flatten ++ jk.map PV.val))]) (fun i : Nat => x.length - i) 0 (by omega) (by exact ⟨rfl, rfl, ⟨⟩⟩) (by exact ⟨⟩) (by exact And.intro (by exact rfl) (And.intro (by exact rfl) (True.intro))) (by exact And.intro (by exact congrArg (fun z => some (87, z)) mark_zero) (True.intro)) ?_
  rintro i hi
  refine sw_seq ?_
  refine sw_seq ?_
  refine sw_reg ?_
  refine rA ?_ (x := sM)
  refine rA ?_ (x := loc_copy (.inl rfl) (by decide) (by exact Cp.nm Cp.hdr))
  refine rA ?_ (x := loc_hlen (by decide) sl_32)
  refine rA ?_ (x := B_lss)
  refine sw_cond (t := 9) rfl (fun hb1 => ?_) (fun hb1 => ?_)
  ·try simp only [q1, q2, q3, q4, q5, q6, q7, q8, q9] at hb1
   have hlt : i < x.length := by omega
   have hk0 := hmono0 i
   have hk1 := hmono (i + 1) k
   rw [mkL_succ hlt] at hk1
   dsimp only at hk1
   have hm0 := mkL_le mkE_Int_le x[i].Values ((mkL mkE_Row (x.take i) k).2 + 1)
   simp only [mkE_Row] at hk1
   refine sw_boxEq (d := 999) (by exact rfl) (mark_split hlt) ?_
   have hA := mark_len (f := mkE_Row) (c := (cRow (.own 3 1))) (e := 2) (k := k) (fun _ => rfl) (Nat.le_of_lt hlt)
   refine sw_nmB (d := 999) (ms := [PV.val _, PV.sl _ _]) (by exact rfl) fun us hus => ?_
   obtain ⟨v0, v1, rfl⟩ := us_2 hus
   refine sw_skip ?_
   refine sw_seq ?_
   refine sw_block ?_
   refine sw_seq ?_
   refine sO [(0, _), (1, _), (4, _), (5, _)] [(999, (87, _ ++ ([PV.nv _ (PV.val _), PV.nv _ (PV.sl _ _)] ++ _)))] ?_
   refine sw_reg ?_
   refine rA ?_ (x := loc_copy (.inl rfl) (by decide) (by exact Cp.nm Cp.hdr))
   refine rA ?_ (x := sM)
   refine rA ?_ (x := sM)
   refine rA ?_ (x := loc_hindex (by decide) sl_32 (by exact ⟨⟩) (by exact rfl) (by omega))
   refine rA ?_ (x := lF fd_87_0)
   refine rA ?_ (x := loc_storeM (o := 0) (ag := false) (vs := [PV.val _]) (by omega) ty_3 (by exact ⟨⟩) (by exact rfl) (by exact Nat.le_of_ble_eq_true rfl))
   refine sw_seq ?_
   refine sO [(0, _), (1, _), (4, _), (5, _)] [(999, (87, _ ++ ([PV.val _, PV.nv _ (PV.sl _ _)] ++ _)))] ?_
   refine sw_reg ?_
   refine rA ?_ (x := sM)
   refine rA ?_ (x := B_add)
   refine rA ?_ (x := sA)
   refine sO [(0, _), (1, _), (4, _), (5, _)] [(999, _)] ?_
   refine sw_regL ?_
   refine swl_step (by exact ⟨rfl, ⟨⟩⟩) (by exact ⟨⟩) (LocG.of rfl (loc_copy (.inl rfl) (by decide) (by exact Cp.nm Cp.hdr))) nofree ?_
   refine swl_step (by exact ⟨rfl, ⟨⟩⟩) (by exact ⟨⟩) (LocG.of rfl (loc_copy (.inl rfl) (by decide) (by exact Cp.sc))) nofree ?_
   refine swl_step (by exact ⟨rfl, rfl, ⟨⟩⟩) (by exact ⟨⟩) (LocG.of rfl (loc_hindex (by decide) sl_32 (by exact ⟨⟩) (by exact rfl) (by omega))) nofree ?_
   refine swl_step (by exact ⟨rfl, ⟨⟩⟩) (by exact ⟨⟩) (LocG.of rfl (loc_field (by decide) fd_87_1)) nofree ?_
   refine swl_step (by exact ⟨rfl, ⟨⟩⟩) (by exact ⟨rfl, ⟨⟩⟩) (LocG.of rfl (loc_loadM (o := 1) (qs := [PV.val _]) (by omega) (by decide) ty_38 (fun _ => rfl) (by exact Nat.le_of_ble_eq_true rfl) (by exact (ToL.cons PV.nv_val ToL.nil)) (by exact (BorL.cons (PV.bor_val _) BorL.nil)))) nofree ?_
   refine swl_step (by exact ⟨rfl, ⟨⟩⟩) (by exact ⟨⟩) (LocG.of rfl (loc_copy (.inl rfl) (by decide) (by exact Cp.sc))) nofree ?_
   refine swl_of (l := [(0, RV.nm _ (RV.hdr 999 _ _)), (1, RV.sv false [PV.val _]), (4, RV.sv false [PV.val _]), (5, RV.sv false [PV.val _]), (19, RV.hdr 999 _ _), (20, RV.sv false [PV.val _]), (21, RV.ptr 999 _), (22, RV.ptr 999 _), (23, RV.sv false [PV.val _]), (24, RV.sv false [PV.val _])]) (b := [(999, (87, _ ++ ([PV.val _, PV.nv _ (PV.sl _ _)] ++ _)))]) (by exact ⟨rfl, rfl, rfl, rfl, rfl, rfl, rfl, rfl, rfl, rfl, ⟨⟩⟩) (by exact ⟨rfl, ⟨⟩⟩) ?_
   refine swl_ucallM (bx := 999) (L := L0w) (pre := [PV.val _]) (ms := [PV.nv _ (PV.sl _ _)]) (post := []) (qr := [(false, [PV.val _])]) (as_ := [(false, [PV.val _])]) (by decide) c_29 rfl (by exact rfl) (by exact (Nm.val Nm.nil)) (by exact ⟨rfl, ⟨⟩⟩) (by exact (And.intro (by exact ⟨⟩) True.intro)) (by exact And.intro (And.intro rfl (ToL.cons (PV.To.refl _) ToL.nil)) True.intro) (by exact rfl) (by exact (Nm.nv Nm.nil)) (by exact (OwnTo.nv OwnTo.nil)) (by exact mark_IntS (by omega) (by omega)) (by exact (OwnFrom.nv OwnFrom.nil)) (fun x hx => hx.elim) (by exact (LclA.cons (RV.lcl_nm RV.lcl_hdr) (LclA.cons (RV.lcl_sv (LclC.cons PV.lcl_val LclC.nil)) (LclA.cons (RV.lcl_sv (LclC.cons PV.lcl_val LclC.nil)) (LclA.cons (RV.lcl_sv (LclC.cons PV.lcl_val LclC.nil)) (LclA.cons RV.lcl_hdr (LclA.cons (RV.lcl_sv (LclC.cons PV.lcl_val LclC.nil)) (LclA.cons RV.lcl_ptr (LclA.cons RV.lcl_ptr (LclA.cons (RV.lcl_sv (LclC.cons PV.lcl_val LclC.nil)) (LclA.cons (RV.lcl_sv (LclC.cons PV.lcl_val LclC.nil)) LclA.nil))))))))))) (by exact (And.intro (.inl rfl) True.intro)) (by exact (LclC.flat (LclC.map fun x => (LclC.cons PV.lcl_val (LclC.cons (PV.lcl_own (LclC.map fun x => (LclC.cons PV.lcl_val LclC.nil))) LclC.nil))))) (by exact (LclC.cons PV.lcl_val LclC.nil)) (by exact LclC.nil) (by exact (LclC.app (LclC.flat (LclC.map fun x => (LclC.cons PV.lcl_val (LclC.cons (PV.lcl_own (LclC.map fun x => (LclC.cons PV.lcl_val LclC.nil))) LclC.nil)))) LclC.vals)) rfl ?_
   refine swl_step (by exact ⟨rfl, ⟨⟩⟩) (by exact ⟨⟩) (LocG.of rfl (loc_copy (.inr rfl) (by decide) (by exact Cp.sc))) nofree ?_
   refine swl_nil ?_
   refine sw_boxTo (d := 999) (by exact rfl) (by exact (OwnTo.same (OwnTo.nv OwnTo.nil))) ?_
   refine sO [(0, _), (1, _), (4, _), (5, _)] [(999, (87, _ ++ ([PV.val _, PV.sl _ _] ++ _)))] ?_
   refine sw_reg ?_
   refine rA ?_ (x := sM)
   refine rA ?_ (x := B_add)
   refine rA ?_ (x := sA)
   refine Exists.intro (i + 1) (And.intro (by omega) (And.intro (by omega) (And.intro (And.intro (by exact ⟨rfl, rfl, ⟨⟩⟩) (by exact ⟨⟩)) (And.intro (by exact And.intro (by exact int_eq (by rw [mkL_succ hlt]; rfl)) (And.intro (by exact rfl) (True.intro))) (by exact And.intro (by exact congrArg (fun z => some (87, z)) (mark_join hlt rfl)) (True.intro))))))
  ·try simp only [q1, q2, q3, q4, q5, q6, q7, q8, q9] at hb1
   have hend : i = x.length := by omega
   refine sw_boxEq (d := 999) (by exact rfl) (mark_all hend) ?_
   refine sw_freeze (s := 0) (D := 999) (e := 2) (by exact rfl) (by exact rfl) (by rw [List.length_map, mkL_len, List.length_map]) (by intro c hc; obtain ⟨y, _, rfl⟩ := List.mem_map.1 hc; exact rfl) hjk ?_
   refine sw_exit ?_
   refine sw_seq ?_
   refine sO [(0, _), (1, _), (4, _), (5, _)] [] ?_
   refine sw_reg ?_
   refine rA ?_ (x := sM)
   refine rA ?_ (x := sA)
   refine sw_ret ?_
   exact And.intro (by exact int_eq (by first | rfl | rw [hend, List.take_length])) (Exists.intro _ (And.intro (.inl (by exact rfl)) (And.intro (by exact (Nm.nv Nm.nil)) (by exact (OwnTo.nv OwnTo.nil)))))
end Go.Proofs.Ytloipjaiceifbaa
