/- What functions of the program compute. No condition. -/
import Derived.Test.YteflgldonmgejaaGreatCZMRunAdaptive
import Derived.Test.YteflgldonmgejaaGreatCFcRunAdaptive
import Derived.Test.YteflgldonmgejaaGreatCDb
import Derived.KernelRfl
set_option linter.unusedVariables false
set_option linter.unusedSimpArgs false
namespace Go.Proofs.YteflgldonmgejaaGreat
open Go Go.RowKit M PV
set_option maxRecDepth 10000
attribute [local irreducible] PV.Lcl PV.LclR RV.Lcl
theorem mark_IntS {x : List Int} {k : Int} (h0k : 0 ≤ k) (hbk : (mkL mkE_Int x k).2 ≤ 4611686018427387904) : UCall Tryz.prog 18 false [sl (.own 3 1) (x.map cInt)] [sl (.own 3 1) ((mkL mkE_Int x k).1.map cInt)] [(false, [val (vI k)])] (vI (mkL mkE_Int x k).2) := by
 refine ucall_of Tryz.func18 rfl (nl rfl) (borA_cons (BorL.cons (bor_val _) BorL.nil) borA_nil) ?_
 intro us h0 w0 Fz0 hus
 obtain ⟨u0, rfl⟩ := len1 hus
 by_cases hx : x = []
 subst hx
 refine zds ?_
 rintro _ _
 refine zdt ?_
 refine rA ?_ (x := lN sl_25)
 exact zdu
 refine sw_thaw (s := 0) (D := 999) (E := 3) (e := 1) (u := u0) (es := x.map cInt) (L := L0w) (by exact rfl) (by simpa using hx) (by exact rfl) (by exact rfl) (fun x hx => hx.elim) (by exact aI (.inl rfl) (aI (.inr (RV.lcl_sv (LclC.cons lcl_val LclC.nil))) tI)) tI (LclC.map fun x => (LclC.cons lcl_val LclC.nil)) fun cp jk hl0 hcp hjk => ?_
 have hlm : (x.map cInt).length = x.length := List.length_map _
 rw [hlm] at hl0 hcp
 have hmono := mkL_take_le mkE_Int_le x
 have hmono0 := fun i => mkL_le mkE_Int_le (x.take i) k
 refine zdv ?_
 refine sL [0, 4] [] (fun i : Nat => i ≤ x.length) (fun i : Nat => [(1, RV.int (mkL mkE_Int (x.take i) k).2), (5, RV.int (i : Int))]) (fun i : Nat => [(999, (3, (((mkL mkE_Int (x.take i) k).1 ++ x.drop i).map cInt).flatten ++ jk.map val))]) (fun i : Nat => x.length - i) 0 (by omega) (by exact aI (by exact rfl) (aI (by exact rfl) (tI))) (by exact aI (by exact congrArg (fun z => some (3, z)) mark_zero) (tI)) ?_
 rintro i hi
 refine zdw ?_
 refine rA ?_ (x := loc_hlen (by decide) sl_25)
 refine rA ?_ (x := B_lss)
 refine sc (fun hba => ?_) (fun hba => ?_)
 have hlt : i < x.length := by omega
 have hk0 := hmono0 i
 have hk1 := hmono (i + 1) k
 rw [mkL_succ hlt] at hk1
 dsimp only at hk1
 simp only [mkE_Int] at hk1
 refine sw_boxEq (d := 999) (by exact rfl) (mark_split hlt) ?_
 have hA := mark_len (f := mkE_Int) (c := cInt) (e := 1) (k := k) (fun _ => rfl) (Nat.le_of_lt hlt)
 refine zdx ?_
 refine sO [(0, _), (1, _), (4, _), (5, _)] [(999, (3, _ ++ ([val _] ++ _)))] ?_
 refine zdy ?_
 refine rM ?_
 refine rA ?_ (x := loc_hindex (by decide) sl_25 (by exact ⟨⟩) (by exact rfl) (by omega))
 refine rA ?_ (x := loc_storeM (o := 0) (ag := false) (vs := [val _]) (by omega) ty_3 (by exact ⟨⟩) (by exact rfl) (by exact nl rfl))
 refine sO [(0, _), (1, _), (4, _), (5, _)] [(999, (3, _ ++ ([val _] ++ _)))] ?_
 refine zdz ?_
 refine sG [0, 1, 4, 5] [999] ?_
 refine ze0 ?_
 refine nx (i + 1) (by omega) (e := (by exact aI (by exact int_eq (by rw [mkL_succ hlt]; rfl)) (aI (by exact rfl) (tI)))) (f := (by exact aI (by exact congrArg (fun z => some (3, z)) (mark_join hlt rfl)) (tI)))
 exact ze1
theorem mark_CondS {x : List Cond} {k : Int} (h0k : 0 ≤ k) (hbk : (mkL mkE_Cond x k).2 ≤ 4611686018427387904) : UCall Tryz.prog 91 false [sl (.own 193 3) (x.map cCond)] [sl (.own 193 3) ((mkL mkE_Cond x k).1.map cCond)] [(false, [val (vI k)])] (vI (mkL mkE_Cond x k).2) := by
 refine ucall_of Tryz.func91 rfl (nl rfl) (borA_cons (BorL.cons (bor_val _) BorL.nil) borA_nil) ?_
 intro us h0 w0 Fz0 hus
 obtain ⟨u0, rfl⟩ := len1 hus
 by_cases hx : x = []
 subst hx
 refine zds ?_
 rintro _ _
 refine zdt ?_
 refine rA ?_ (x := lN sl_63)
 exact zdu
 refine sw_thaw (s := 0) (D := 999) (E := 193) (e := 3) (u := u0) (es := x.map cCond) (L := L0w) (by exact rfl) (by simpa using hx) (by exact rfl) (by exact rfl) (fun x hx => hx.elim) (by exact aI (.inl rfl) (aI (.inr (RV.lcl_sv (LclC.cons lcl_val LclC.nil))) tI)) tI (LclC.map fun x => (LclC.cons lcl_val (LclC.cons lcl_val (LclC.cons lcl_val LclC.nil)))) fun cp jk hl0 hcp hjk => ?_
 have hlm : (x.map cCond).length = x.length := List.length_map _
 rw [hlm] at hl0 hcp
 have hmono := mkL_take_le mkE_Cond_le x
 have hmono0 := fun i => mkL_le mkE_Cond_le (x.take i) k
 refine zdv ?_
 refine sL [0, 4] [] (fun i : Nat => i ≤ x.length) (fun i : Nat => [(1, RV.int (mkL mkE_Cond (x.take i) k).2), (5, RV.int (i : Int))]) (fun i : Nat => [(999, (193, (((mkL mkE_Cond (x.take i) k).1 ++ x.drop i).map cCond).flatten ++ jk.map val))]) (fun i : Nat => x.length - i) 0 (by omega) (by exact aI (by exact rfl) (aI (by exact rfl) (tI))) (by exact aI (by exact congrArg (fun z => some (193, z)) mark_zero) (tI)) ?_
 rintro i hi
 refine zdw ?_
 refine rA ?_ (x := loc_hlen (by decide) sl_63)
 refine rA ?_ (x := B_lss)
 refine sc (fun hba => ?_) (fun hba => ?_)
 have hlt : i < x.length := by omega
 have hk0 := hmono0 i
 have hk1 := hmono (i + 1) k
 rw [mkL_succ hlt] at hk1
 dsimp only at hk1
 simp only [mkE_Cond] at hk1
 refine sw_boxEq (d := 999) (by exact rfl) (mark_split hlt) ?_
 have hA := mark_len (f := mkE_Cond) (c := cCond) (e := 3) (k := k) (fun _ => rfl) (Nat.le_of_lt hlt)
 refine zdx ?_
 refine sO [(0, _), (1, _), (4, _), (5, _)] [(999, (193, _ ++ ([val _, val _, val _] ++ _)))] ?_
 refine zdy ?_
 refine ze2 ?_
 refine rA ?_ (x := lF fd_193_0)
 refine ze3 ?_
 refine ze4 ?_
 refine ze5 ?_
 refine ze2 ?_
 refine rA ?_ (x := lF fd_193_1)
 refine ze6 ?_
 refine ze4 ?_
 refine ze5 ?_
 refine ze2 ?_
 refine rA ?_ (x := lF fd_193_2)
 refine rA ?_ (x := loc_storeM (o := 2) (ag := false) (vs := [val _]) (by omega) ty_3 (by exact ⟨⟩) (by exact rfl) (by exact nl rfl))
 refine ze4 ?_
 refine sG [0, 1, 4, 5] [999] ?_
 refine ze0 ?_
 refine nx (i + 1) (by omega) (e := (by exact aI (by exact int_eq (by rw [mkL_succ hlt]; rfl)) (aI (by exact rfl) (tI)))) (f := (by exact aI (by exact congrArg (fun z => some (193, z)) (mark_join hlt rfl)) (tI)))
 have hend : i = x.length := by omega
 refine sw_boxEq (d := 999) (by exact rfl) (mark_all hend) ?_
 refine sw_freeze (s := 0) (D := 999) (e := 3) (by exact rfl) (by exact rfl) (by rw [List.length_map, mkL_len, List.length_map]) (by intro c hc; obtain ⟨y, _, rfl⟩ := List.mem_map.1 hc; exact rfl) hjk ?_
 exact ze7
theorem mark_ChargeS {x : List Charge} {k : Int} (h0k : 0 ≤ k) (hbk : (mkL mkE_Charge x k).2 ≤ 4611686018427387904) : UCall Tryz.prog 62 false [sl (.own 148 5) (x.map (cCharge (.own 3 1) (.own 3 1) (.own 3 1)))] [sl (.own 148 5) ((mkL mkE_Charge x k).1.map (cCharge (.own 3 1) (.own 3 1) (.own 3 1)))] [(false, [val (vI k)])] (vI (mkL mkE_Charge x k).2) := by
 refine ucall_of Tryz.func62 rfl (nl rfl) (borA_cons (BorL.cons (bor_val _) BorL.nil) borA_nil) ?_
 intro us h0 w0 Fz0 hus
 obtain ⟨u0, rfl⟩ := len1 hus
 by_cases hx : x = []
 subst hx
 refine zds ?_
 rintro _ _
 refine zdt ?_
 refine rA ?_ (x := lN sl_38)
 exact zdu
 refine sw_thaw (s := 0) (D := 999) (E := 148) (e := 5) (u := u0) (es := x.map (cCharge (.own 3 1) (.own 3 1) (.own 3 1))) (L := L0w) (by exact rfl) (by simpa using hx) (by exact rfl) (by exact rfl) (fun x hx => hx.elim) (by exact aI (.inl rfl) (aI (.inr (RV.lcl_sv (LclC.cons lcl_val LclC.nil))) tI)) tI (LclC.map fun x => (LclC.cons lcl_val (LclC.cons lcl_val (LclC.cons (lcl_own (LclC.map fun x => (LclC.cons lcl_val LclC.nil))) (LclC.cons (lcl_own (LclC.map fun x => (LclC.cons lcl_val LclC.nil))) (LclC.cons (lcl_own (LclC.map fun x => (LclC.cons lcl_val LclC.nil))) LclC.nil)))))) fun cp jk hl0 hcp hjk => ?_
 have hlm : (x.map (cCharge (.own 3 1) (.own 3 1) (.own 3 1))).length = x.length := List.length_map _
 rw [hlm] at hl0 hcp
 have hmono := mkL_take_le mkE_Charge_le x
 have hmono0 := fun i => mkL_le mkE_Charge_le (x.take i) k
 refine zdv ?_
 refine sL [0, 4] [] (fun i : Nat => i ≤ x.length) (fun i : Nat => [(1, RV.int (mkL mkE_Charge (x.take i) k).2), (5, RV.int (i : Int))]) (fun i : Nat => [(999, (148, (((mkL mkE_Charge (x.take i) k).1 ++ x.drop i).map (cCharge (.own 3 1) (.own 3 1) (.own 3 1))).flatten ++ jk.map val))]) (fun i : Nat => x.length - i) 0 (by omega) (by exact aI (by exact rfl) (aI (by exact rfl) (tI))) (by exact aI (by exact congrArg (fun z => some (148, z)) mark_zero) (tI)) ?_
 rintro i hi
 refine zdw ?_
 refine rA ?_ (x := loc_hlen (by decide) sl_38)
 refine rA ?_ (x := B_lss)
 refine sc (fun hba => ?_) (fun hba => ?_)
 have hlt : i < x.length := by omega
 have hk0 := hmono0 i
 have hk1 := hmono (i + 1) k
 rw [mkL_succ hlt] at hk1
 dsimp only at hk1
 have hm0 := mkL_le mkE_Int_le x[i].Ids (((mkL mkE_Charge (x.take i) k).2 + 1) + 1)
 have hm1 := mkL_le mkE_Int_le x[i].Tenants (mkL mkE_Int x[i].Ids (((mkL mkE_Charge (x.take i) k).2 + 1) + 1)).2
 have hm2 := mkL_le mkE_Int_le x[i].Rows (mkL mkE_Int x[i].Tenants (mkL mkE_Int x[i].Ids (((mkL mkE_Charge (x.take i) k).2 + 1) + 1)).2).2
 simp only [mkE_Charge] at hk1
 refine sw_boxEq (d := 999) (by exact rfl) (mark_split hlt) ?_
 have hA := mark_len (f := mkE_Charge) (c := (cCharge (.own 3 1) (.own 3 1) (.own 3 1))) (e := 5) (k := k) (fun _ => rfl) (Nat.le_of_lt hlt)
 refine sw_nmB (d := 999) (ms := [val _, val _, sl _ _, sl _ _, sl _ _]) (by exact rfl) fun us hus => ?_
 obtain ⟨v0, v1, v2, v3, v4, rfl⟩ := us_5 hus
 refine zdx ?_
 refine sO [(0, _), (1, _), (4, _), (5, _)] [(999, (148, _ ++ ([nv _ (val _), nv _ (val _), nv _ (sl _ _), nv _ (sl _ _), nv _ (sl _ _)] ++ _)))] ?_
 refine zdy ?_
 refine ze8 ?_
 refine rA ?_ (x := lF fd_148_0)
 refine ze3 ?_
 refine sO [(0, _), (1, _), (4, _), (5, _)] [(999, (148, _ ++ ([val _, nv _ (val _), nv _ (sl _ _), nv _ (sl _ _), nv _ (sl _ _)] ++ _)))] ?_
 refine ze9 ?_
 refine ze8 ?_
 refine rA ?_ (x := lF fd_148_1)
 refine ze6 ?_
 refine sO [(0, _), (1, _), (4, _), (5, _)] [(999, (148, _ ++ ([val _, val _, nv _ (sl _ _), nv _ (sl _ _), nv _ (sl _ _)] ++ _)))] ?_
 refine zdz ?_
 refine zea ?_
 refine swl_step (by exact ⟨rfl, ⟨⟩⟩) (by exact ⟨⟩) (LocG.of rfl (loc_copy (.inl rfl) (by decide) (by exact Cp.nm Cp.hdr))) nofree ?_
 refine swl_step (by exact ⟨rfl, ⟨⟩⟩) (by exact ⟨⟩) (LocG.of rfl (loc_copy (.inl rfl) (by decide) (by exact Cp.sc))) nofree ?_
 refine swl_step (by exact ⟨rfl, rfl, ⟨⟩⟩) (by exact ⟨⟩) (LocG.of rfl (loc_hindex (by decide) sl_38 (by exact ⟨⟩) (by exact rfl) (by omega))) nofree ?_
 refine swl_step (by exact ⟨rfl, ⟨⟩⟩) (by exact ⟨⟩) (LocG.of rfl (loc_field (by decide) fd_148_2)) nofree ?_
 refine swl_step (by exact ⟨rfl, ⟨⟩⟩) (by exact ⟨rfl, ⟨⟩⟩) (LocG.of rfl (loc_loadM (o := 2) (qs := [val _]) (by omega) (by decide) ty_25 (fun _ => rfl) (by exact nl rfl) (by exact (ToL.cons PV.nv_val ToL.nil)) (by exact (BorL.cons (bor_val _) BorL.nil)))) nofree ?_
 refine swl_step (by exact ⟨rfl, ⟨⟩⟩) (by exact ⟨⟩) (LocG.of rfl (loc_copy (.inl rfl) (by decide) (by exact Cp.sc))) nofree ?_
 refine swl_of (l := [(0, RV.nm _ (RV.hdr 999 _ _)), (1, RV.sv false [val _]), (4, RV.sv false [val _]), (5, RV.sv false [val _]), (26, RV.hdr 999 _ _), (27, RV.sv false [val _]), (28, RV.ptr 999 _), (29, RV.ptr 999 _), (30, RV.sv false [val _]), (31, RV.sv false [val _])]) (b := [(999, (148, _ ++ ([val _, val _, nv _ (sl _ _), nv _ (sl _ _), nv _ (sl _ _)] ++ _)))]) (by exact ⟨rfl, rfl, rfl, rfl, rfl, rfl, rfl, rfl, rfl, rfl, ⟨⟩⟩) (by exact ⟨rfl, ⟨⟩⟩) ?_
 refine swl_ucallM (bx := 999) (L := L0w) (pre := [val _, val _]) (ms := [nv _ (sl _ _)]) (post := [nv _ (sl _ _), nv _ (sl _ _)]) (qr := [(false, [val _])]) (as_ := [(false, [val _])]) (by decide) c_18 rfl (by exact rfl) (by exact (Nm.val Nm.nil)) (by exact ⟨rfl, ⟨⟩⟩) (by exact (aI (by exact ⟨⟩) tI)) (by exact aI (aI rfl (ToL.cons (PV.To.refl _) ToL.nil)) tI) (by exact rfl) (by exact (Nm.nv Nm.nil)) (by exact (OwnTo.nv OwnTo.nil)) (by exact mark_IntS (by omega) (by omega)) (by exact (OwnFrom.nv OwnFrom.nil)) (fun x hx => hx.elim) (by exact lc) (by exact (aI (.inl rfl) tI)) (by exact lc) (by exact lc) (by exact lc) (by exact lc) rfl ?_
 refine swl_step (by exact ⟨rfl, ⟨⟩⟩) (by exact ⟨⟩) (LocG.of rfl (loc_copy (.inr rfl) (by decide) (by exact Cp.sc))) nofree ?_
 refine swl_nil ?_
 refine zea ?_
 refine swl_step (by exact ⟨rfl, ⟨⟩⟩) (by exact ⟨⟩) (LocG.of rfl (loc_copy (.inl rfl) (by decide) (by exact Cp.nm Cp.hdr))) nofree ?_
 refine swl_step (by exact ⟨rfl, ⟨⟩⟩) (by exact ⟨⟩) (LocG.of rfl (loc_copy (.inl rfl) (by decide) (by exact Cp.sc))) nofree ?_
 refine swl_step (by exact ⟨rfl, rfl, ⟨⟩⟩) (by exact ⟨⟩) (LocG.of rfl (loc_hindex (by decide) sl_38 (by exact ⟨⟩) (by exact rfl) (by omega))) nofree ?_
 refine swl_step (by exact ⟨rfl, ⟨⟩⟩) (by exact ⟨⟩) (LocG.of rfl (loc_field (by decide) fd_148_3)) nofree ?_
 refine swl_step (by exact ⟨rfl, ⟨⟩⟩) (by exact ⟨rfl, ⟨⟩⟩) (LocG.of rfl (loc_loadM (o := 3) (qs := [val _]) (by omega) (by decide) ty_25 (fun _ => rfl) (by exact nl rfl) (by exact (ToL.cons PV.nv_val ToL.nil)) (by exact (BorL.cons (bor_val _) BorL.nil)))) nofree ?_
 refine swl_step (by exact ⟨rfl, ⟨⟩⟩) (by exact ⟨⟩) (LocG.of rfl (loc_copy (.inl rfl) (by decide) (by exact Cp.sc))) nofree ?_
 refine swl_of (l := [(0, RV.nm _ (RV.hdr 999 _ _)), (1, RV.sv false [val _]), (4, RV.sv false [val _]), (5, RV.sv false [val _]), (33, RV.hdr 999 _ _), (34, RV.sv false [val _]), (35, RV.ptr 999 _), (36, RV.ptr 999 _), (37, RV.sv false [val _]), (38, RV.sv false [val _])]) (b := [(999, (148, _ ++ ([val _, val _, nv _ (sl _ _), nv _ (sl _ _), nv _ (sl _ _)] ++ _)))]) (by exact ⟨rfl, rfl, rfl, rfl, rfl, rfl, rfl, rfl, rfl, rfl, ⟨⟩⟩) (by exact ⟨rfl, ⟨⟩⟩) ?_
 refine swl_ucallM (bx := 999) (L := L0w) (pre := [val _, val _, nv _ (sl _ _)]) (ms := [nv _ (sl _ _)]) (post := [nv _ (sl _ _)]) (qr := [(false, [val _])]) (as_ := [(false, [val _])]) (by decide) c_18 rfl (by exact rfl) (by exact (Nm.val Nm.nil)) (by exact ⟨rfl, ⟨⟩⟩) (by exact (aI (by exact ⟨⟩) tI)) (by exact aI (aI rfl (ToL.cons (PV.To.refl _) ToL.nil)) tI) (by exact rfl) (by exact (Nm.nv Nm.nil)) (by exact (OwnTo.nv OwnTo.nil)) (by exact mark_IntS (by omega) (by omega)) (by exact (OwnFrom.nv OwnFrom.nil)) (fun x hx => hx.elim) (by exact lc) (by exact (aI (.inl rfl) tI)) (by exact lc) (by exact lc) (by exact lc) (by exact lc) rfl ?_
 refine swl_step (by exact ⟨rfl, ⟨⟩⟩) (by exact ⟨⟩) (LocG.of rfl (loc_copy (.inr rfl) (by decide) (by exact Cp.sc))) nofree ?_
 refine swl_nil ?_
 refine zeb ?_
 refine swl_step (by exact ⟨rfl, ⟨⟩⟩) (by exact ⟨⟩) (LocG.of rfl (loc_copy (.inl rfl) (by decide) (by exact Cp.nm Cp.hdr))) nofree ?_
 refine swl_step (by exact ⟨rfl, ⟨⟩⟩) (by exact ⟨⟩) (LocG.of rfl (loc_copy (.inl rfl) (by decide) (by exact Cp.sc))) nofree ?_
 refine swl_step (by exact ⟨rfl, rfl, ⟨⟩⟩) (by exact ⟨⟩) (LocG.of rfl (loc_hindex (by decide) sl_38 (by exact ⟨⟩) (by exact rfl) (by omega))) nofree ?_
 refine swl_step (by exact ⟨rfl, ⟨⟩⟩) (by exact ⟨⟩) (LocG.of rfl (loc_field (by decide) fd_148_4)) nofree ?_
 refine swl_step (by exact ⟨rfl, ⟨⟩⟩) (by exact ⟨rfl, ⟨⟩⟩) (LocG.of rfl (loc_loadM (o := 4) (qs := [val _]) (by omega) (by decide) ty_25 (fun _ => rfl) (by exact nl rfl) (by exact (ToL.cons PV.nv_val ToL.nil)) (by exact (BorL.cons (bor_val _) BorL.nil)))) nofree ?_
 refine swl_step (by exact ⟨rfl, ⟨⟩⟩) (by exact ⟨⟩) (LocG.of rfl (loc_copy (.inl rfl) (by decide) (by exact Cp.sc))) nofree ?_
 refine swl_of (l := [(0, RV.nm _ (RV.hdr 999 _ _)), (1, RV.sv false [val _]), (4, RV.sv false [val _]), (5, RV.sv false [val _]), (40, RV.hdr 999 _ _), (41, RV.sv false [val _]), (42, RV.ptr 999 _), (43, RV.ptr 999 _), (44, RV.sv false [val _]), (45, RV.sv false [val _])]) (b := [(999, (148, _ ++ ([val _, val _, nv _ (sl _ _), nv _ (sl _ _), nv _ (sl _ _)] ++ _)))]) (by exact ⟨rfl, rfl, rfl, rfl, rfl, rfl, rfl, rfl, rfl, rfl, ⟨⟩⟩) (by exact ⟨rfl, ⟨⟩⟩) ?_
 refine swl_ucallM (bx := 999) (L := L0w) (pre := [val _, val _, nv _ (sl _ _), nv _ (sl _ _)]) (ms := [nv _ (sl _ _)]) (post := []) (qr := [(false, [val _])]) (as_ := [(false, [val _])]) (by decide) c_18 rfl (by exact rfl) (by exact (Nm.val Nm.nil)) (by exact ⟨rfl, ⟨⟩⟩) (by exact (aI (by exact ⟨⟩) tI)) (by exact aI (aI rfl (ToL.cons (PV.To.refl _) ToL.nil)) tI) (by exact rfl) (by exact (Nm.nv Nm.nil)) (by exact (OwnTo.nv OwnTo.nil)) (by exact mark_IntS (by omega) (by omega)) (by exact (OwnFrom.nv OwnFrom.nil)) (fun x hx => hx.elim) (by exact lc) (by exact (aI (.inl rfl) tI)) (by exact lc) (by exact lc) (by exact LclC.nil) (by exact lc) rfl ?_
 refine swl_step (by exact ⟨rfl, ⟨⟩⟩) (by exact ⟨⟩) (LocG.of rfl (loc_copy (.inr rfl) (by decide) (by exact Cp.sc))) nofree ?_
 refine swl_nil ?_
 refine sw_boxTo (d := 999) (by exact rfl) (by exact (OwnTo.same (OwnTo.same (OwnTo.nv (OwnTo.nv (OwnTo.nv OwnTo.nil)))))) ?_
 refine sO [(0, _), (1, _), (4, _), (5, _)] [(999, (148, _ ++ ([val _, val _, sl _ _, sl _ _, sl _ _] ++ _)))] ?_
 refine zdz ?_
 refine nx (i + 1) (by omega) (e := (by exact aI (by exact int_eq (by rw [mkL_succ hlt]; rfl)) (aI (by exact rfl) (tI)))) (f := (by exact aI (by exact congrArg (fun z => some (148, z)) (mark_join hlt rfl)) (tI)))
 have hend : i = x.length := by omega
 refine sw_boxEq (d := 999) (by exact rfl) (mark_all hend) ?_
 refine sw_freeze (s := 0) (D := 999) (e := 5) (by exact rfl) (by exact rfl) (by rw [List.length_map, mkL_len, List.length_map]) (by intro c hc; obtain ⟨y, _, rfl⟩ := List.mem_map.1 hc; exact rfl) hjk ?_
 exact ze7
theorem mark_RowS {x : List Row} {k : Int} (h0k : 0 ≤ k) (hbk : (mkL mkE_Row x k).2 ≤ 4611686018427387904) : UCall Tryz.prog 133 false [sl (.own 66 2) (x.map (cRow (.own 3 1)))] [sl (.own 66 2) ((mkL mkE_Row x k).1.map (cRow (.own 3 1)))] [(false, [val (vI k)])] (vI (mkL mkE_Row x k).2) := by
 refine ucall_of Tryz.func133 rfl (nl rfl) (borA_cons (BorL.cons (bor_val _) BorL.nil) borA_nil) ?_
 intro us h0 w0 Fz0 hus
 obtain ⟨u0, rfl⟩ := len1 hus
 by_cases hx : x = []
 subst hx
 refine zds ?_
 rintro _ _
 refine zdt ?_
 refine rA ?_ (x := lN sl_93)
 exact zdu
 refine sw_thaw (s := 0) (D := 999) (E := 66) (e := 2) (u := u0) (es := x.map (cRow (.own 3 1))) (L := L0w) (by exact rfl) (by simpa using hx) (by exact rfl) (by exact rfl) (fun x hx => hx.elim) (by exact aI (.inl rfl) (aI (.inr (RV.lcl_sv (LclC.cons lcl_val LclC.nil))) tI)) tI (LclC.map fun x => (LclC.cons lcl_val (LclC.cons (lcl_own (LclC.map fun x => (LclC.cons lcl_val LclC.nil))) LclC.nil))) fun cp jk hl0 hcp hjk => ?_
 have hlm : (x.map (cRow (.own 3 1))).length = x.length := List.length_map _
 rw [hlm] at hl0 hcp
 have hmono := mkL_take_le mkE_Row_le x
 have hmono0 := fun i => mkL_le mkE_Row_le (x.take i) k
 refine zdv ?_
 refine sL [0, 4] [] (fun i : Nat => i ≤ x.length) (fun i : Nat => [(1, RV.int (mkL mkE_Row (x.take i) k).2), (5, RV.int (i : Int))]) (fun i : Nat => [(999, (66, (((mkL mkE_Row (x.take i) k).1 ++ x.drop i).map (cRow (.own 3 1))).flatten ++ jk.map val))]) (fun i : Nat => x.length - i) 0 (by omega) (by exact aI (by exact rfl) (aI (by exact rfl) (tI))) (by exact aI (by exact congrArg (fun z => some (66, z)) mark_zero) (tI)) ?_
 rintro i hi
 refine zdw ?_
 refine rA ?_ (x := loc_hlen (by decide) sl_93)
 refine rA ?_ (x := B_lss)
 refine sc (fun hba => ?_) (fun hba => ?_)
 have hlt : i < x.length := by omega
 have hk0 := hmono0 i
 have hk1 := hmono (i + 1) k
 rw [mkL_succ hlt] at hk1
 dsimp only at hk1
 have hm0 := mkL_le mkE_Int_le x[i].Values ((mkL mkE_Row (x.take i) k).2 + 1)
 simp only [mkE_Row] at hk1
 refine sw_boxEq (d := 999) (by exact rfl) (mark_split hlt) ?_
 have hA := mark_len (f := mkE_Row) (c := (cRow (.own 3 1))) (e := 2) (k := k) (fun _ => rfl) (Nat.le_of_lt hlt)
 refine sw_nmB (d := 999) (ms := [val _, sl _ _]) (by exact rfl) fun us hus => ?_
 obtain ⟨v0, v1, rfl⟩ := us_2 hus
 refine zdx ?_
 refine sO [(0, _), (1, _), (4, _), (5, _)] [(999, (66, _ ++ ([nv _ (val _), nv _ (sl _ _)] ++ _)))] ?_
 refine zdy ?_
 refine rM ?_
 refine rA ?_ (x := loc_hindex (by decide) sl_93 (by exact ⟨⟩) (by exact rfl) (by omega))
 refine rA ?_ (x := lF fd_66_0)
 refine ze3 ?_
 refine sO [(0, _), (1, _), (4, _), (5, _)] [(999, (66, _ ++ ([val _, nv _ (sl _ _)] ++ _)))] ?_
 refine zdz ?_
 refine zeb ?_
 refine swl_step (by exact ⟨rfl, ⟨⟩⟩) (by exact ⟨⟩) (LocG.of rfl (loc_copy (.inl rfl) (by decide) (by exact Cp.nm Cp.hdr))) nofree ?_
 refine swl_step (by exact ⟨rfl, ⟨⟩⟩) (by exact ⟨⟩) (LocG.of rfl (loc_copy (.inl rfl) (by decide) (by exact Cp.sc))) nofree ?_
 refine swl_step (by exact ⟨rfl, rfl, ⟨⟩⟩) (by exact ⟨⟩) (LocG.of rfl (loc_hindex (by decide) sl_93 (by exact ⟨⟩) (by exact rfl) (by omega))) nofree ?_
 refine swl_step (by exact ⟨rfl, ⟨⟩⟩) (by exact ⟨⟩) (LocG.of rfl (loc_field (by decide) fd_66_1)) nofree ?_
 refine swl_step (by exact ⟨rfl, ⟨⟩⟩) (by exact ⟨rfl, ⟨⟩⟩) (LocG.of rfl (loc_loadM (o := 1) (qs := [val _]) (by omega) (by decide) ty_25 (fun _ => rfl) (by exact nl rfl) (by exact (ToL.cons PV.nv_val ToL.nil)) (by exact (BorL.cons (bor_val _) BorL.nil)))) nofree ?_
 refine swl_step (by exact ⟨rfl, ⟨⟩⟩) (by exact ⟨⟩) (LocG.of rfl (loc_copy (.inl rfl) (by decide) (by exact Cp.sc))) nofree ?_
 refine swl_of (l := [(0, RV.nm _ (RV.hdr 999 _ _)), (1, RV.sv false [val _]), (4, RV.sv false [val _]), (5, RV.sv false [val _]), (19, RV.hdr 999 _ _), (20, RV.sv false [val _]), (21, RV.ptr 999 _), (22, RV.ptr 999 _), (23, RV.sv false [val _]), (24, RV.sv false [val _])]) (b := [(999, (66, _ ++ ([val _, nv _ (sl _ _)] ++ _)))]) (by exact ⟨rfl, rfl, rfl, rfl, rfl, rfl, rfl, rfl, rfl, rfl, ⟨⟩⟩) (by exact ⟨rfl, ⟨⟩⟩) ?_
 refine swl_ucallM (bx := 999) (L := L0w) (pre := [val _]) (ms := [nv _ (sl _ _)]) (post := []) (qr := [(false, [val _])]) (as_ := [(false, [val _])]) (by decide) c_18 rfl (by exact rfl) (by exact (Nm.val Nm.nil)) (by exact ⟨rfl, ⟨⟩⟩) (by exact (aI (by exact ⟨⟩) tI)) (by exact aI (aI rfl (ToL.cons (PV.To.refl _) ToL.nil)) tI) (by exact rfl) (by exact (Nm.nv Nm.nil)) (by exact (OwnTo.nv OwnTo.nil)) (by exact mark_IntS (by omega) (by omega)) (by exact (OwnFrom.nv OwnFrom.nil)) (fun x hx => hx.elim) (by exact lc) (by exact (aI (.inl rfl) tI)) (by exact lc) (by exact lc) (by exact LclC.nil) (by exact lc) rfl ?_
 refine swl_step (by exact ⟨rfl, ⟨⟩⟩) (by exact ⟨⟩) (LocG.of rfl (loc_copy (.inr rfl) (by decide) (by exact Cp.sc))) nofree ?_
 refine swl_nil ?_
 refine sw_boxTo (d := 999) (by exact rfl) (by exact (OwnTo.same (OwnTo.nv OwnTo.nil))) ?_
 refine sO [(0, _), (1, _), (4, _), (5, _)] [(999, (66, _ ++ ([val _, sl _ _] ++ _)))] ?_
 refine zdz ?_
 refine nx (i + 1) (by omega) (e := (by exact aI (by exact int_eq (by rw [mkL_succ hlt]; rfl)) (aI (by exact rfl) (tI)))) (f := (by exact aI (by exact congrArg (fun z => some (66, z)) (mark_join hlt rfl)) (tI)))
 have hend : i = x.length := by omega
 refine sw_boxEq (d := 999) (by exact rfl) (mark_all hend) ?_
 refine sw_freeze (s := 0) (D := 999) (e := 2) (by exact rfl) (by exact rfl) (by rw [List.length_map, mkL_len, List.length_map]) (by intro c hc; obtain ⟨y, _, rfl⟩ := List.mem_map.1 hc; exact rfl) hjk ?_
 exact ze7
theorem mark_VersionS {x : List Version} {k : Int} (h0k : 0 ≤ k) (hbk : (mkL mkE_Version x k).2 ≤ 4611686018427387904) : UCall Tryz.prog 203 false [sl (.own 151 4) (x.map (cVersion (.own 3 1)))] [sl (.own 151 4) ((mkL mkE_Version x k).1.map (cVersion (.own 3 1)))] [(false, [val (vI k)])] (vI (mkL mkE_Version x k).2) := by
 refine ucall_of Tryz.func203 rfl (nl rfl) (borA_cons (BorL.cons (bor_val _) BorL.nil) borA_nil) ?_
 intro us h0 w0 Fz0 hus
 obtain ⟨u0, rfl⟩ := len1 hus
 by_cases hx : x = []
 subst hx
 refine zds ?_
 rintro _ _
 refine zdt ?_
 refine rA ?_ (x := lN sl_149)
 exact zdu
 refine sw_thaw (s := 0) (D := 999) (E := 151) (e := 4) (u := u0) (es := x.map (cVersion (.own 3 1))) (L := L0w) (by exact rfl) (by simpa using hx) (by exact rfl) (by exact rfl) (fun x hx => hx.elim) (by exact aI (.inl rfl) (aI (.inr (RV.lcl_sv (LclC.cons lcl_val LclC.nil))) tI)) tI (LclC.map fun x => (LclC.cons lcl_val (LclC.cons (lcl_own (LclC.map fun x => (LclC.cons lcl_val LclC.nil))) (LclC.cons lcl_val (LclC.cons lcl_val LclC.nil))))) fun cp jk hl0 hcp hjk => ?_
 have hlm : (x.map (cVersion (.own 3 1))).length = x.length := List.length_map _
 rw [hlm] at hl0 hcp
 have hmono := mkL_take_le mkE_Version_le x
 have hmono0 := fun i => mkL_le mkE_Version_le (x.take i) k
 refine zdv ?_
 refine sL [0, 4] [] (fun i : Nat => i ≤ x.length) (fun i : Nat => [(1, RV.int (mkL mkE_Version (x.take i) k).2), (5, RV.int (i : Int))]) (fun i : Nat => [(999, (151, (((mkL mkE_Version (x.take i) k).1 ++ x.drop i).map (cVersion (.own 3 1))).flatten ++ jk.map val))]) (fun i : Nat => x.length - i) 0 (by omega) (by exact aI (by exact rfl) (aI (by exact rfl) (tI))) (by exact aI (by exact congrArg (fun z => some (151, z)) mark_zero) (tI)) ?_
 rintro i hi
 refine zdw ?_
 refine rA ?_ (x := loc_hlen (by decide) sl_149)
 refine rA ?_ (x := B_lss)
 refine sc (fun hba => ?_) (fun hba => ?_)
 have hlt : i < x.length := by omega
 have hk0 := hmono0 i
 have hk1 := hmono (i + 1) k
 rw [mkL_succ hlt] at hk1
 dsimp only at hk1
 have hm0 := mkL_le mkE_Int_le x[i].Values ((mkL mkE_Version (x.take i) k).2 + 1)
 simp only [mkE_Version] at hk1
 refine sw_boxEq (d := 999) (by exact rfl) (mark_split hlt) ?_
 have hA := mark_len (f := mkE_Version) (c := (cVersion (.own 3 1))) (e := 4) (k := k) (fun _ => rfl) (Nat.le_of_lt hlt)
 refine sw_nmB (d := 999) (ms := [val _, sl _ _, val _, val _]) (by exact rfl) fun us hus => ?_
 obtain ⟨v0, v1, v2, v3, rfl⟩ := us_4 hus
 refine zdx ?_
 refine sO [(0, _), (1, _), (4, _), (5, _)] [(999, (151, _ ++ ([nv _ (val _), nv _ (sl _ _), nv _ (val _), nv _ (val _)] ++ _)))] ?_
 refine zdy ?_
 refine zec ?_
 refine rA ?_ (x := lF fd_151_0)
 refine ze3 ?_
 refine sO [(0, _), (1, _), (4, _), (5, _)] [(999, (151, _ ++ ([val _, nv _ (sl _ _), nv _ (val _), nv _ (val _)] ++ _)))] ?_
 refine zdz ?_
 refine zea ?_
 refine swl_step (by exact ⟨rfl, ⟨⟩⟩) (by exact ⟨⟩) (LocG.of rfl (loc_copy (.inl rfl) (by decide) (by exact Cp.nm Cp.hdr))) nofree ?_
 refine swl_step (by exact ⟨rfl, ⟨⟩⟩) (by exact ⟨⟩) (LocG.of rfl (loc_copy (.inl rfl) (by decide) (by exact Cp.sc))) nofree ?_
 refine swl_step (by exact ⟨rfl, rfl, ⟨⟩⟩) (by exact ⟨⟩) (LocG.of rfl (loc_hindex (by decide) sl_149 (by exact ⟨⟩) (by exact rfl) (by omega))) nofree ?_
 refine swl_step (by exact ⟨rfl, ⟨⟩⟩) (by exact ⟨⟩) (LocG.of rfl (loc_field (by decide) fd_151_1)) nofree ?_
 refine swl_step (by exact ⟨rfl, ⟨⟩⟩) (by exact ⟨rfl, ⟨⟩⟩) (LocG.of rfl (loc_loadM (o := 1) (qs := [val _]) (by omega) (by decide) ty_25 (fun _ => rfl) (by exact nl rfl) (by exact (ToL.cons PV.nv_val ToL.nil)) (by exact (BorL.cons (bor_val _) BorL.nil)))) nofree ?_
 refine swl_step (by exact ⟨rfl, ⟨⟩⟩) (by exact ⟨⟩) (LocG.of rfl (loc_copy (.inl rfl) (by decide) (by exact Cp.sc))) nofree ?_
 refine swl_of (l := [(0, RV.nm _ (RV.hdr 999 _ _)), (1, RV.sv false [val _]), (4, RV.sv false [val _]), (5, RV.sv false [val _]), (19, RV.hdr 999 _ _), (20, RV.sv false [val _]), (21, RV.ptr 999 _), (22, RV.ptr 999 _), (23, RV.sv false [val _]), (24, RV.sv false [val _])]) (b := [(999, (151, _ ++ ([val _, nv _ (sl _ _), nv _ (val _), nv _ (val _)] ++ _)))]) (by exact ⟨rfl, rfl, rfl, rfl, rfl, rfl, rfl, rfl, rfl, rfl, ⟨⟩⟩) (by exact ⟨rfl, ⟨⟩⟩) ?_
 refine swl_ucallM (bx := 999) (L := L0w) (pre := [val _]) (ms := [nv _ (sl _ _)]) (post := [nv _ (val _), nv _ (val _)]) (qr := [(false, [val _])]) (as_ := [(false, [val _])]) (by decide) c_18 rfl (by exact rfl) (by exact (Nm.val Nm.nil)) (by exact ⟨rfl, ⟨⟩⟩) (by exact (aI (by exact ⟨⟩) tI)) (by exact aI (aI rfl (ToL.cons (PV.To.refl _) ToL.nil)) tI) (by exact rfl) (by exact (Nm.nv Nm.nil)) (by exact (OwnTo.nv OwnTo.nil)) (by exact mark_IntS (by omega) (by omega)) (by exact (OwnFrom.nv OwnFrom.nil)) (fun x hx => hx.elim) (by exact lc) (by exact (aI (.inl rfl) tI)) (by exact lc) (by exact lc) (by exact lc) (by exact lc) rfl ?_
 refine swl_step (by exact ⟨rfl, ⟨⟩⟩) (by exact ⟨⟩) (LocG.of rfl (loc_copy (.inr rfl) (by decide) (by exact Cp.sc))) nofree ?_
 refine swl_nil ?_
 refine ze5 ?_
 refine zec ?_
 refine rA ?_ (x := lF fd_151_2)
 refine rA ?_ (x := loc_storeM (o := 2) (ag := false) (vs := [val _]) (by omega) ty_3 (by exact ⟨⟩) (by exact rfl) (by exact nl rfl))
 refine sw_seq ?_
 refine sO [(0, _), (1, _), (4, _), (5, _)] [(999, (151, _ ++ ([val _, nv _ (sl _ _), val _, nv _ (val _)] ++ _)))] ?_
 refine ze9 ?_
 refine zec ?_
 refine rA ?_ (x := lF fd_151_3)
 refine rA ?_ (x := loc_storeM (o := 3) (ag := false) (vs := [val _]) (by omega) ty_3 (by exact ⟨⟩) (by exact rfl) (by exact nl rfl))
 refine sO [(0, _), (1, _), (4, _), (5, _)] [(999, (151, _ ++ ([val _, nv _ (sl _ _), val _, val _] ++ _)))] ?_
 refine zdz ?_
 refine sw_boxTo (d := 999) (by exact rfl) (by exact (OwnTo.same (OwnTo.nv (OwnTo.same (OwnTo.same OwnTo.nil))))) ?_
 refine sO [(0, _), (1, _), (4, _), (5, _)] [(999, (151, _ ++ ([val _, sl _ _, val _, val _] ++ _)))] ?_
 refine zdz ?_
 refine nx (i + 1) (by omega) (e := (by exact aI (by exact int_eq (by rw [mkL_succ hlt]; rfl)) (aI (by exact rfl) (tI)))) (f := (by exact aI (by exact congrArg (fun z => some (151, z)) (mark_join hlt rfl)) (tI)))
 have hend : i = x.length := by omega
 refine sw_boxEq (d := 999) (by exact rfl) (mark_all hend) ?_
 refine sw_freeze (s := 0) (D := 999) (e := 4) (by exact rfl) (by exact rfl) (by rw [List.length_map, mkL_len, List.length_map]) (by intro c hc; obtain ⟨y, _, rfl⟩ := List.mem_map.1 hc; exact rfl) hjk ?_
 exact ze7
theorem mark_VersionSS {x : List (List Version)} {k : Int} (h0k : 0 ≤ k) (hbk : (mkL mkE_VersionS x k).2 ≤ 4611686018427387904) : UCall Tryz.prog 132 false [sl (.own 149 1) (x.map (cVersionS (.own 151 4) (.own 3 1)))] [sl (.own 149 1) ((mkL mkE_VersionS x k).1.map (cVersionS (.own 151 4) (.own 3 1)))] [(false, [val (vI k)])] (vI (mkL mkE_VersionS x k).2) := by
 refine ucall_of Tryz.func132 rfl (nl rfl) (borA_cons (BorL.cons (bor_val _) BorL.nil) borA_nil) ?_
 intro us h0 w0 Fz0 hus
 obtain ⟨u0, rfl⟩ := len1 hus
 by_cases hx : x = []
 subst hx
 refine zds ?_
 rintro _ _
 refine zdt ?_
 refine rA ?_ (x := lN sl_33)
 exact zdu
 refine sw_thaw (s := 0) (D := 999) (E := 149) (e := 1) (u := u0) (es := x.map (cVersionS (.own 151 4) (.own 3 1))) (L := L0w) (by exact rfl) (by simpa using hx) (by exact rfl) (by exact rfl) (fun x hx => hx.elim) (by exact aI (.inl rfl) (aI (.inr (RV.lcl_sv (LclC.cons lcl_val LclC.nil))) tI)) tI (LclC.map fun x => (LclC.cons (lcl_own (LclC.map fun x => (LclC.cons lcl_val (LclC.cons (lcl_own (LclC.map fun x => (LclC.cons lcl_val LclC.nil))) (LclC.cons lcl_val (LclC.cons lcl_val LclC.nil)))))) LclC.nil)) fun cp jk hl0 hcp hjk => ?_
 have hlm : (x.map (cVersionS (.own 151 4) (.own 3 1))).length = x.length := List.length_map _
 rw [hlm] at hl0 hcp
 have hmono := mkL_take_le mkE_VersionS_le x
 have hmono0 := fun i => mkL_le mkE_VersionS_le (x.take i) k
 refine zdv ?_
 refine sL [0, 4] [] (fun i : Nat => i ≤ x.length) (fun i : Nat => [(1, RV.int (mkL mkE_VersionS (x.take i) k).2), (5, RV.int (i : Int))]) (fun i : Nat => [(999, (149, (((mkL mkE_VersionS (x.take i) k).1 ++ x.drop i).map (cVersionS (.own 151 4) (.own 3 1))).flatten ++ jk.map val))]) (fun i : Nat => x.length - i) 0 (by omega) (by exact aI (by exact rfl) (aI (by exact rfl) (tI))) (by exact aI (by exact congrArg (fun z => some (149, z)) mark_zero) (tI)) ?_
 rintro i hi
 refine zdw ?_
 refine rA ?_ (x := loc_hlen (by decide) sl_33)
 refine rA ?_ (x := B_lss)
 refine sc (fun hba => ?_) (fun hba => ?_)
 have hlt : i < x.length := by omega
 have hk0 := hmono0 i
 have hk1 := hmono (i + 1) k
 rw [mkL_succ hlt] at hk1
 dsimp only at hk1
 have hm0 := mkL_le mkE_Version_le x[i] (mkL mkE_VersionS (x.take i) k).2
 simp only [mkE_VersionS] at hk1
 refine sw_boxEq (d := 999) (by exact rfl) (mark_split hlt) ?_
 have hA := mark_len (f := mkE_VersionS) (c := (cVersionS (.own 151 4) (.own 3 1))) (e := 1) (k := k) (fun _ => rfl) (Nat.le_of_lt hlt)
 refine sw_nmB (d := 999) (ms := [sl _ _]) (by exact rfl) fun us hus => ?_
 obtain ⟨v0, rfl⟩ := us_1 hus
 refine zed ?_
 refine sO [(0, _), (1, _), (4, _), (5, _)] [(999, (149, _ ++ ([nv _ (sl _ _)] ++ _)))] ?_
 refine sw_regL ?_
 refine swl_step (by exact ⟨rfl, ⟨⟩⟩) (by exact ⟨⟩) (LocG.of rfl (loc_copy (.inl rfl) (by decide) (by exact Cp.nm Cp.hdr))) nofree ?_
 refine swl_step (by exact ⟨rfl, ⟨⟩⟩) (by exact ⟨⟩) (LocG.of rfl (loc_copy (.inl rfl) (by decide) (by exact Cp.sc))) nofree ?_
 refine swl_step (by exact ⟨rfl, rfl, ⟨⟩⟩) (by exact ⟨⟩) (LocG.of rfl (loc_hindex (by decide) sl_33 (by exact ⟨⟩) (by exact rfl) (by omega))) nofree ?_
 refine swl_step (by exact ⟨rfl, ⟨⟩⟩) (by exact ⟨rfl, ⟨⟩⟩) (LocG.of rfl (loc_loadM (o := 0) (qs := [val _]) (by omega) (by decide) ty_149 (fun _ => rfl) (by exact nl rfl) (by exact (ToL.cons PV.nv_val ToL.nil)) (by exact (BorL.cons (bor_val _) BorL.nil)))) nofree ?_
 refine swl_step (by exact ⟨rfl, ⟨⟩⟩) (by exact ⟨⟩) (LocG.of rfl (loc_copy (.inl rfl) (by decide) (by exact Cp.sc))) nofree ?_
 refine swl_of (l := [(0, RV.nm _ (RV.hdr 999 _ _)), (1, RV.sv false [val _]), (4, RV.sv false [val _]), (5, RV.sv false [val _]), (12, RV.hdr 999 _ _), (13, RV.sv false [val _]), (14, RV.ptr 999 _), (15, RV.sv false [val _]), (16, RV.sv false [val _])]) (b := [(999, (149, _ ++ ([nv _ (sl _ _)] ++ _)))]) (by exact ⟨rfl, rfl, rfl, rfl, rfl, rfl, rfl, rfl, rfl, ⟨⟩⟩) (by exact ⟨rfl, ⟨⟩⟩) ?_
 refine swl_ucallM (bx := 999) (L := L0w) (pre := []) (ms := [nv _ (sl _ _)]) (post := []) (qr := [(false, [val _])]) (as_ := [(false, [val _])]) (by decide) c_203 rfl (by exact rfl) (by exact (Nm.val Nm.nil)) (by exact ⟨rfl, ⟨⟩⟩) (by exact (aI (by exact ⟨⟩) tI)) (by exact aI (aI rfl (ToL.cons (PV.To.refl _) ToL.nil)) tI) (by exact rfl) (by exact (Nm.nv Nm.nil)) (by exact (OwnTo.nv OwnTo.nil)) (by exact mark_VersionS (by omega) (by omega)) (by exact (OwnFrom.nv OwnFrom.nil)) (fun x hx => hx.elim) (by exact lc) (by exact (aI (.inl rfl) tI)) (by exact lc) (by exact LclC.nil) (by exact LclC.nil) (by exact lc) rfl ?_
 refine swl_step (by exact ⟨rfl, ⟨⟩⟩) (by exact ⟨⟩) (LocG.of rfl (loc_copy (.inr rfl) (by decide) (by exact Cp.sc))) nofree ?_
 refine swl_nil ?_
 refine sw_boxTo (d := 999) (by exact rfl) (by exact (OwnTo.nv OwnTo.nil)) ?_
 refine sO [(0, _), (1, _), (4, _), (5, _)] [(999, (149, _ ++ ([sl _ _] ++ _)))] ?_
 refine zdz ?_
 refine nx (i + 1) (by omega) (e := (by exact aI (by exact int_eq (by rw [mkL_succ hlt]; rfl)) (aI (by exact rfl) (tI)))) (f := (by exact aI (by exact congrArg (fun z => some (149, z)) (mark_join hlt rfl)) (tI)))
 exact ze1
theorem mark_Store {x : Store} {k : Int} (h0k : 0 ≤ k) (hbk : (mkV_Store x k).2 ≤ 4611686018427387904) : UCall Tryz.prog 59 true (cStore (.own 149 1) (.own 151 4) (.own 3 1) x) (cStore (.own 149 1) (.own 151 4) (.own 3 1) (mkV_Store x k).1) [(false, [val (vI k)])] (vI (mkV_Store x k).2) := by
 refine ucall_of Tryz.func59 rfl (nl rfl) (borA_cons (BorL.cons (bor_val _) BorL.nil) borA_nil) ?_
 intro us h0 w0 Fz0 hus
 obtain ⟨v0, v1, rfl⟩ := us_2 hus
 simp only [mkV_Store] at hbk
 have hm0 := mkL_le mkE_VersionS_le x.Segments k
 refine sS [0, 1] [] ?_
 refine rX ?_ (x := (loc_box (ag := true) (cs := [nv _ (sl _ _), nv _ (val _)]) (by decide) (by exact ⟨⟩)))
 refine zee ?_
 refine sO [(1, _), (2, _), (4, _)] [(2, (35, [nv _ (sl _ _), nv _ (val _)]))] ?_
 refine sw_regL ?_
 refine swl_step (by exact ⟨rfl, ⟨⟩⟩) (by exact ⟨⟩) (LocG.of rfl (loc_field (by decide) fd_35_0)) nofree ?_
 refine swl_step (by exact ⟨rfl, ⟨⟩⟩) (by exact ⟨rfl, ⟨⟩⟩) (LocG.of rfl (loc_load (qs := [val _]) (by decide) ty_33 (fun _ => rfl) (by exact nl rfl) (by exact (ToL.cons PV.nv_val ToL.nil)) (by exact (BorL.cons (bor_val _) BorL.nil)))) nofree ?_
 refine swl_step (by exact ⟨rfl, ⟨⟩⟩) (by exact ⟨⟩) (LocG.of rfl (loc_copy (.inl rfl) (by decide) (by exact Cp.sc))) nofree ?_
 refine swl_of (l := [(1, RV.sv false [val _]), (2, RV.ptr 2 0), (4, RV.sv false [val _]), (5, RV.ptr 2 0), (6, RV.sv false [val _]), (7, RV.sv false [val _])]) (b := [(2, (35, [nv _ (sl _ _), nv _ (val _)]))]) (by exact ⟨rfl, rfl, rfl, rfl, rfl, rfl, ⟨⟩⟩) (by exact ⟨rfl, ⟨⟩⟩) ?_
 refine swl_ucallB (bx := 2) (L := L0w) (A := []) (ms := [nv _ (sl _ _)]) (B := [nv _ (val _)]) (qr := [(false, [val _])]) (as_ := [(false, [val _])]) (by decide) c_132 rfl (by exact rfl) (by exact (Nm.val Nm.nil)) (by exact ⟨rfl, ⟨⟩⟩) (by exact (aI (by exact ⟨⟩) tI)) (by exact aI (aI rfl (ToL.cons (PV.To.refl _) ToL.nil)) tI) (by exact rfl) (by exact (Nm.nv Nm.nil)) (by exact (OwnTo.nv OwnTo.nil)) (by exact mark_VersionSS (by omega) (by omega)) (by exact (OwnFrom.nv OwnFrom.nil)) (fun x hx => hx.elim) (by exact lc) (by exact (aI (.inl rfl) tI)) (by exact LclC.nil) (by exact lc) rfl ?_
 refine swl_step (by exact ⟨rfl, ⟨⟩⟩) (by exact ⟨⟩) (LocG.of rfl (loc_copy (.inr rfl) (by decide) (by exact Cp.sc))) nofree ?_
 refine swl_nil ?_
 refine sS [1, 2, 4] [2] ?_
 refine za3 ?_
 exact aI (by exact rfl) (Exists.intro _ (aI (.inr (Exists.intro 2 (Exists.intro _ (by exact rfl)))) (aI (by exact (Nm.nv (Nm.nv Nm.nil))) (by exact (OwnTo.nv (OwnTo.nv OwnTo.nil))))))
theorem mark_ActiveS {x : List Active} {k : Int} (h0k : 0 ≤ k) (hbk : (mkL mkE_Active x k).2 ≤ 4611686018427387904) : UCall Tryz.prog 60 false [sl (.own 142 10) (x.map (cActive (.own 193 3) (.own 3 1) (.own 3 1) (.own 66 2) (.own 3 1)))] [sl (.own 142 10) ((mkL mkE_Active x k).1.map (cActive (.own 193 3) (.own 3 1) (.own 3 1) (.own 66 2) (.own 3 1)))] [(false, [val (vI k)])] (vI (mkL mkE_Active x k).2) := by
 refine ucall_of Tryz.func60 rfl (nl rfl) (borA_cons (BorL.cons (bor_val _) BorL.nil) borA_nil) ?_
 intro us h0 w0 Fz0 hus
 obtain ⟨u0, rfl⟩ := len1 hus
 by_cases hx : x = []
 subst hx
 refine zds ?_
 rintro _ _
 refine zdt ?_
 refine rA ?_ (x := lN sl_36)
 exact zdu
 refine sw_thaw (s := 0) (D := 999) (E := 142) (e := 10) (u := u0) (es := x.map (cActive (.own 193 3) (.own 3 1) (.own 3 1) (.own 66 2) (.own 3 1))) (L := L0w) (by exact rfl) (by simpa using hx) (by exact rfl) (by exact rfl) (fun x hx => hx.elim) (by exact aI (.inl rfl) (aI (.inr (RV.lcl_sv (LclC.cons lcl_val LclC.nil))) tI)) tI (LclC.map fun x => (LclC.cons lcl_val (LclC.cons lcl_val (LclC.cons (lcl_own (LclC.map fun x => (LclC.cons lcl_val (LclC.cons lcl_val (LclC.cons lcl_val LclC.nil))))) (LclC.cons (lcl_own (LclC.map fun x => (LclC.cons lcl_val LclC.nil))) (LclC.cons lcl_val (LclC.cons (lcl_own (LclC.map fun x => (LclC.cons lcl_val LclC.nil))) (LclC.cons lcl_val (LclC.cons lcl_val (LclC.cons lcl_val (LclC.cons (lcl_own (LclC.map fun x => (LclC.cons lcl_val (LclC.cons (lcl_own (LclC.map fun x => (LclC.cons lcl_val LclC.nil))) LclC.nil)))) LclC.nil))))))))))) fun cp jk hl0 hcp hjk => ?_
 have hlm : (x.map (cActive (.own 193 3) (.own 3 1) (.own 3 1) (.own 66 2) (.own 3 1))).length = x.length := List.length_map _
 rw [hlm] at hl0 hcp
 have hmono := mkL_take_le mkE_Active_le x
 have hmono0 := fun i => mkL_le mkE_Active_le (x.take i) k
 refine zdv ?_
 refine sL [0, 4] [] (fun i : Nat => i ≤ x.length) (fun i : Nat => [(1, RV.int (mkL mkE_Active (x.take i) k).2), (5, RV.int (i : Int))]) (fun i : Nat => [(999, (142, (((mkL mkE_Active (x.take i) k).1 ++ x.drop i).map (cActive (.own 193 3) (.own 3 1) (.own 3 1) (.own 66 2) (.own 3 1))).flatten ++ jk.map val))]) (fun i : Nat => x.length - i) 0 (by omega) (by exact aI (by exact rfl) (aI (by exact rfl) (tI))) (by exact aI (by exact congrArg (fun z => some (142, z)) mark_zero) (tI)) ?_
 rintro i hi
 refine zdw ?_
 refine rA ?_ (x := loc_hlen (by decide) sl_36)
 refine rA ?_ (x := B_lss)
 refine sc (fun hba => ?_) (fun hba => ?_)
 have hlt : i < x.length := by omega
 have hk0 := hmono0 i
 have hk1 := hmono (i + 1) k
 rw [mkL_succ hlt] at hk1
 dsimp only at hk1
 have hm0 := mkL_le mkE_Cond_le x[i].Query.Conds (((mkL mkE_Active (x.take i) k).2 + 1) + 1)
 have hm1 := mkL_le mkE_Int_le x[i].Query.Out (mkL mkE_Cond x[i].Query.Conds (((mkL mkE_Active (x.take i) k).2 + 1) + 1)).2
 have hm2 := mkL_le mkE_Int_le x[i].Todo ((mkL mkE_Int x[i].Query.Out (mkL mkE_Cond x[i].Query.Conds (((mkL mkE_Active (x.take i) k).2 + 1) + 1)).2).2 + 1)
 have hm3 := mkL_le mkE_Row_le x[i].Rows ((((mkL mkE_Int x[i].Todo ((mkL mkE_Int x[i].Query.Out (mkL mkE_Cond x[i].Query.Conds (((mkL mkE_Active (x.take i) k).2 + 1) + 1)).2).2 + 1)).2 + 1) + 1) + 1)
 simp only [mkE_Active] at hk1
 refine sw_boxEq (d := 999) (by exact rfl) (mark_split hlt) ?_
 have hA := mark_len (f := mkE_Active) (c := (cActive (.own 193 3) (.own 3 1) (.own 3 1) (.own 66 2) (.own 3 1))) (e := 10) (k := k) (fun _ => rfl) (Nat.le_of_lt hlt)
 refine sw_nmB (d := 999) (ms := [val _, val _, sl _ _, sl _ _, val _, sl _ _, val _, val _, val _, sl _ _]) (by exact rfl) fun us hus => ?_
 obtain ⟨v0, v1, v2, v3, v4, v5, v6, v7, v8, v9, rfl⟩ := us_10 hus
 refine zdx ?_
 refine sO [(0, _), (1, _), (4, _), (5, _)] [(999, (142, _ ++ ([nv _ (val _), nv _ (val _), nv _ (sl _ _), nv _ (sl _ _), nv _ (val _), nv _ (sl _ _), nv _ (val _), nv _ (val _), nv _ (val _), nv _ (sl _ _)] ++ _)))] ?_
 refine zdy ?_
 refine zef ?_
 refine rA ?_ (x := lF fd_142_0)
 refine rA ?_ (x := lF fd_65_0)
 refine ze3 ?_
 refine sO [(0, _), (1, _), (4, _), (5, _)] [(999, (142, _ ++ ([val _, nv _ (val _), nv _ (sl _ _), nv _ (sl _ _), nv _ (val _), nv _ (sl _ _), nv _ (val _), nv _ (val _), nv _ (val _), nv _ (sl _ _)] ++ _)))] ?_
 refine ze9 ?_
 refine zef ?_
 refine rA ?_ (x := lF fd_142_0)
 refine rA ?_ (x := lF fd_65_1)
 refine ze6 ?_
 refine sO [(0, _), (1, _), (4, _), (5, _)] [(999, (142, _ ++ ([val _, val _, nv _ (sl _ _), nv _ (sl _ _), nv _ (val _), nv _ (sl _ _), nv _ (val _), nv _ (val _), nv _ (val _), nv _ (sl _ _)] ++ _)))] ?_
 refine zdz ?_
 refine zea ?_
 refine swl_step (by exact ⟨rfl, ⟨⟩⟩) (by exact ⟨⟩) (LocG.of rfl (loc_copy (.inl rfl) (by decide) (by exact Cp.nm Cp.hdr))) nofree ?_
 refine swl_step (by exact ⟨rfl, ⟨⟩⟩) (by exact ⟨⟩) (LocG.of rfl (loc_copy (.inl rfl) (by decide) (by exact Cp.sc))) nofree ?_
 refine swl_step (by exact ⟨rfl, rfl, ⟨⟩⟩) (by exact ⟨⟩) (LocG.of rfl (loc_hindex (by decide) sl_36 (by exact ⟨⟩) (by exact rfl) (by omega))) nofree ?_
 refine swl_step (by exact ⟨rfl, ⟨⟩⟩) (by exact ⟨⟩) (LocG.of rfl (loc_field (by decide) fd_142_0)) nofree ?_
 refine swl_step (by exact ⟨rfl, ⟨⟩⟩) (by exact ⟨⟩) (LocG.of rfl (loc_field (by decide) fd_65_2)) nofree ?_
 refine swl_step (by exact ⟨rfl, ⟨⟩⟩) (by exact ⟨rfl, ⟨⟩⟩) (LocG.of rfl (loc_loadM (o := 2) (qs := [val _]) (by omega) (by decide) ty_63 (fun _ => rfl) (by exact nl rfl) (by exact (ToL.cons PV.nv_val ToL.nil)) (by exact (BorL.cons (bor_val _) BorL.nil)))) nofree ?_
 refine swl_step (by exact ⟨rfl, ⟨⟩⟩) (by exact ⟨⟩) (LocG.of rfl (loc_copy (.inl rfl) (by decide) (by exact Cp.sc))) nofree ?_
 refine swl_of (l := [(0, RV.nm _ (RV.hdr 999 _ _)), (1, RV.sv false [val _]), (4, RV.sv false [val _]), (5, RV.sv false [val _]), (28, RV.hdr 999 _ _), (29, RV.sv false [val _]), (30, RV.ptr 999 _), (31, RV.ptr 999 _), (32, RV.ptr 999 _), (33, RV.sv false [val _]), (34, RV.sv false [val _])]) (b := [(999, (142, _ ++ ([val _, val _, nv _ (sl _ _), nv _ (sl _ _), nv _ (val _), nv _ (sl _ _), nv _ (val _), nv _ (val _), nv _ (val _), nv _ (sl _ _)] ++ _)))]) (by exact ⟨rfl, rfl, rfl, rfl, rfl, rfl, rfl, rfl, rfl, rfl, rfl, ⟨⟩⟩) (by exact ⟨rfl, ⟨⟩⟩) ?_
 refine swl_ucallM (bx := 999) (L := L0w) (pre := [val _, val _]) (ms := [nv _ (sl _ _)]) (post := [nv _ (sl _ _), nv _ (val _), nv _ (sl _ _), nv _ (val _), nv _ (val _), nv _ (val _), nv _ (sl _ _)]) (qr := [(false, [val _])]) (as_ := [(false, [val _])]) (by decide) c_91 rfl (by exact rfl) (by exact (Nm.val Nm.nil)) (by exact ⟨rfl, ⟨⟩⟩) (by exact (aI (by exact ⟨⟩) tI)) (by exact aI (aI rfl (ToL.cons (PV.To.refl _) ToL.nil)) tI) (by exact rfl) (by exact (Nm.nv Nm.nil)) (by exact (OwnTo.nv OwnTo.nil)) (by exact mark_CondS (by omega) (by omega)) (by exact (OwnFrom.nv OwnFrom.nil)) (fun x hx => hx.elim) (by exact lc) (by exact (aI (.inl rfl) tI)) (by exact lc) (by exact lc) (by exact lc) (by exact lc) rfl ?_
 refine swl_step (by exact ⟨rfl, ⟨⟩⟩) (by exact ⟨⟩) (LocG.of rfl (loc_copy (.inr rfl) (by decide) (by exact Cp.sc))) nofree ?_
 refine swl_nil ?_
 refine zea ?_
 refine swl_step (by exact ⟨rfl, ⟨⟩⟩) (by exact ⟨⟩) (LocG.of rfl (loc_copy (.inl rfl) (by decide) (by exact Cp.nm Cp.hdr))) nofree ?_
 refine swl_step (by exact ⟨rfl, ⟨⟩⟩) (by exact ⟨⟩) (LocG.of rfl (loc_copy (.inl rfl) (by decide) (by exact Cp.sc))) nofree ?_
 refine swl_step (by exact ⟨rfl, rfl, ⟨⟩⟩) (by exact ⟨⟩) (LocG.of rfl (loc_hindex (by decide) sl_36 (by exact ⟨⟩) (by exact rfl) (by omega))) nofree ?_
 refine swl_step (by exact ⟨rfl, ⟨⟩⟩) (by exact ⟨⟩) (LocG.of rfl (loc_field (by decide) fd_142_0)) nofree ?_
 refine swl_step (by exact ⟨rfl, ⟨⟩⟩) (by exact ⟨⟩) (LocG.of rfl (loc_field (by decide) fd_65_3)) nofree ?_
 refine swl_step (by exact ⟨rfl, ⟨⟩⟩) (by exact ⟨rfl, ⟨⟩⟩) (LocG.of rfl (loc_loadM (o := 3) (qs := [val _]) (by omega) (by decide) ty_25 (fun _ => rfl) (by exact nl rfl) (by exact (ToL.cons PV.nv_val ToL.nil)) (by exact (BorL.cons (bor_val _) BorL.nil)))) nofree ?_
 refine swl_step (by exact ⟨rfl, ⟨⟩⟩) (by exact ⟨⟩) (LocG.of rfl (loc_copy (.inl rfl) (by decide) (by exact Cp.sc))) nofree ?_
 refine swl_of (l := [(0, RV.nm _ (RV.hdr 999 _ _)), (1, RV.sv false [val _]), (4, RV.sv false [val _]), (5, RV.sv false [val _]), (36, RV.hdr 999 _ _), (37, RV.sv false [val _]), (38, RV.ptr 999 _), (39, RV.ptr 999 _), (40, RV.ptr 999 _), (41, RV.sv false [val _]), (42, RV.sv false [val _])]) (b := [(999, (142, _ ++ ([val _, val _, nv _ (sl _ _), nv _ (sl _ _), nv _ (val _), nv _ (sl _ _), nv _ (val _), nv _ (val _), nv _ (val _), nv _ (sl _ _)] ++ _)))]) (by exact ⟨rfl, rfl, rfl, rfl, rfl, rfl, rfl, rfl, rfl, rfl, rfl, ⟨⟩⟩) (by exact ⟨rfl, ⟨⟩⟩) ?_
 refine swl_ucallM (bx := 999) (L := L0w) (pre := [val _, val _, nv _ (sl _ _)]) (ms := [nv _ (sl _ _)]) (post := [nv _ (val _), nv _ (sl _ _), nv _ (val _), nv _ (val _), nv _ (val _), nv _ (sl _ _)]) (qr := [(false, [val _])]) (as_ := [(false, [val _])]) (by decide) c_18 rfl (by exact rfl) (by exact (Nm.val Nm.nil)) (by exact ⟨rfl, ⟨⟩⟩) (by exact (aI (by exact ⟨⟩) tI)) (by exact aI (aI rfl (ToL.cons (PV.To.refl _) ToL.nil)) tI) (by exact rfl) (by exact (Nm.nv Nm.nil)) (by exact (OwnTo.nv OwnTo.nil)) (by exact mark_IntS (by omega) (by omega)) (by exact (OwnFrom.nv OwnFrom.nil)) (fun x hx => hx.elim) (by exact lc) (by exact (aI (.inl rfl) tI)) (by exact lc) (by exact lc) (by exact lc) (by exact lc) rfl ?_
 refine swl_step (by exact ⟨rfl, ⟨⟩⟩) (by exact ⟨⟩) (LocG.of rfl (loc_copy (.inr rfl) (by decide) (by exact Cp.sc))) nofree ?_
 refine swl_nil ?_
 refine ze5 ?_
 refine zef ?_
 refine rA ?_ (x := lF fd_142_1)
 refine zeg ?_
 refine sO [(0, _), (1, _), (4, _), (5, _)] [(999, (142, _ ++ ([val _, val _, nv _ (sl _ _), nv _ (sl _ _), val _, nv _ (sl _ _), nv _ (val _), nv _ (val _), nv _ (val _), nv _ (sl _ _)] ++ _)))] ?_
 refine zdz ?_
 refine zea ?_
 refine swl_step (by exact ⟨rfl, ⟨⟩⟩) (by exact ⟨⟩) (LocG.of rfl (loc_copy (.inl rfl) (by decide) (by exact Cp.nm Cp.hdr))) nofree ?_
 refine swl_step (by exact ⟨rfl, ⟨⟩⟩) (by exact ⟨⟩) (LocG.of rfl (loc_copy (.inl rfl) (by decide) (by exact Cp.sc))) nofree ?_
 refine swl_step (by exact ⟨rfl, rfl, ⟨⟩⟩) (by exact ⟨⟩) (LocG.of rfl (loc_hindex (by decide) sl_36 (by exact ⟨⟩) (by exact rfl) (by omega))) nofree ?_
 refine swl_step (by exact ⟨rfl, ⟨⟩⟩) (by exact ⟨⟩) (LocG.of rfl (loc_field (by decide) fd_142_2)) nofree ?_
 refine swl_step (by exact ⟨rfl, ⟨⟩⟩) (by exact ⟨rfl, ⟨⟩⟩) (LocG.of rfl (loc_loadM (o := 5) (qs := [val _]) (by omega) (by decide) ty_25 (fun _ => rfl) (by exact nl rfl) (by exact (ToL.cons PV.nv_val ToL.nil)) (by exact (BorL.cons (bor_val _) BorL.nil)))) nofree ?_
 refine swl_step (by exact ⟨rfl, ⟨⟩⟩) (by exact ⟨⟩) (LocG.of rfl (loc_copy (.inl rfl) (by decide) (by exact Cp.sc))) nofree ?_
 refine swl_of (l := [(0, RV.nm _ (RV.hdr 999 _ _)), (1, RV.sv false [val _]), (4, RV.sv false [val _]), (5, RV.sv false [val _]), (51, RV.hdr 999 _ _), (52, RV.sv false [val _]), (53, RV.ptr 999 _), (54, RV.ptr 999 _), (55, RV.sv false [val _]), (56, RV.sv false [val _])]) (b := [(999, (142, _ ++ ([val _, val _, nv _ (sl _ _), nv _ (sl _ _), val _, nv _ (sl _ _), nv _ (val _), nv _ (val _), nv _ (val _), nv _ (sl _ _)] ++ _)))]) (by exact ⟨rfl, rfl, rfl, rfl, rfl, rfl, rfl, rfl, rfl, rfl, ⟨⟩⟩) (by exact ⟨rfl, ⟨⟩⟩) ?_
 refine swl_ucallM (bx := 999) (L := L0w) (pre := [val _, val _, nv _ (sl _ _), nv _ (sl _ _), val _]) (ms := [nv _ (sl _ _)]) (post := [nv _ (val _), nv _ (val _), nv _ (val _), nv _ (sl _ _)]) (qr := [(false, [val _])]) (as_ := [(false, [val _])]) (by decide) c_18 rfl (by exact rfl) (by exact (Nm.val Nm.nil)) (by exact ⟨rfl, ⟨⟩⟩) (by exact (aI (by exact ⟨⟩) tI)) (by exact aI (aI rfl (ToL.cons (PV.To.refl _) ToL.nil)) tI) (by exact rfl) (by exact (Nm.nv Nm.nil)) (by exact (OwnTo.nv OwnTo.nil)) (by exact mark_IntS (by omega) (by omega)) (by exact (OwnFrom.nv OwnFrom.nil)) (fun x hx => hx.elim) (by exact lc) (by exact (aI (.inl rfl) tI)) (by exact lc) (by exact lc) (by exact lc) (by exact lc) rfl ?_
 refine swl_step (by exact ⟨rfl, ⟨⟩⟩) (by exact ⟨⟩) (LocG.of rfl (loc_copy (.inr rfl) (by decide) (by exact Cp.sc))) nofree ?_
 refine swl_nil ?_
 refine ze5 ?_
 refine zef ?_
 refine rA ?_ (x := lF fd_142_3)
 refine rA ?_ (x := loc_storeM (o := 6) (ag := false) (vs := [val _]) (by omega) ty_3 (by exact ⟨⟩) (by exact rfl) (by exact nl rfl))
 refine sw_seq ?_
 refine sO [(0, _), (1, _), (4, _), (5, _)] [(999, (142, _ ++ ([val _, val _, nv _ (sl _ _), nv _ (sl _ _), val _, nv _ (sl _ _), val _, nv _ (val _), nv _ (val _), nv _ (sl _ _)] ++ _)))] ?_
 refine ze9 ?_
 refine zef ?_
 refine rA ?_ (x := lF fd_142_4)
 refine rA ?_ (x := loc_storeM (o := 7) (ag := false) (vs := [val _]) (by omega) ty_3 (by exact ⟨⟩) (by exact rfl) (by exact nl rfl))
 refine sw_seq ?_
 refine sO [(0, _), (1, _), (4, _), (5, _)] [(999, (142, _ ++ ([val _, val _, nv _ (sl _ _), nv _ (sl _ _), val _, nv _ (sl _ _), val _, val _, nv _ (val _), nv _ (sl _ _)] ++ _)))] ?_
 refine ze9 ?_
 refine zef ?_
 refine rA ?_ (x := lF fd_142_5)
 refine rA ?_ (x := loc_storeM (o := 8) (ag := false) (vs := [val _]) (by omega) ty_3 (by exact ⟨⟩) (by exact rfl) (by exact nl rfl))
 refine sw_seq ?_
 refine sO [(0, _), (1, _), (4, _), (5, _)] [(999, (142, _ ++ ([val _, val _, nv _ (sl _ _), nv _ (sl _ _), val _, nv _ (sl _ _), val _, val _, val _, nv _ (sl _ _)] ++ _)))] ?_
 refine zdz ?_
 refine zeb ?_
 refine swl_step (by exact ⟨rfl, ⟨⟩⟩) (by exact ⟨⟩) (LocG.of rfl (loc_copy (.inl rfl) (by decide) (by exact Cp.nm Cp.hdr))) nofree ?_
 refine swl_step (by exact ⟨rfl, ⟨⟩⟩) (by exact ⟨⟩) (LocG.of rfl (loc_copy (.inl rfl) (by decide) (by exact Cp.sc))) nofree ?_
 refine swl_step (by exact ⟨rfl, rfl, ⟨⟩⟩) (by exact ⟨⟩) (LocG.of rfl (loc_hindex (by decide) sl_36 (by exact ⟨⟩) (by exact rfl) (by omega))) nofree ?_
 refine swl_step (by exact ⟨rfl, ⟨⟩⟩) (by exact ⟨⟩) (LocG.of rfl (loc_field (by decide) fd_142_6)) nofree ?_
 refine swl_step (by exact ⟨rfl, ⟨⟩⟩) (by exact ⟨rfl, ⟨⟩⟩) (LocG.of rfl (loc_loadM (o := 9) (qs := [val _]) (by omega) (by decide) ty_93 (fun _ => rfl) (by exact nl rfl) (by exact (ToL.cons PV.nv_val ToL.nil)) (by exact (BorL.cons (bor_val _) BorL.nil)))) nofree ?_
 refine swl_step (by exact ⟨rfl, ⟨⟩⟩) (by exact ⟨⟩) (LocG.of rfl (loc_copy (.inl rfl) (by decide) (by exact Cp.sc))) nofree ?_
 refine swl_of (l := [(0, RV.nm _ (RV.hdr 999 _ _)), (1, RV.sv false [val _]), (4, RV.sv false [val _]), (5, RV.sv false [val _]), (79, RV.hdr 999 _ _), (80, RV.sv false [val _]), (81, RV.ptr 999 _), (82, RV.ptr 999 _), (83, RV.sv false [val _]), (84, RV.sv false [val _])]) (b := [(999, (142, _ ++ ([val _, val _, nv _ (sl _ _), nv _ (sl _ _), val _, nv _ (sl _ _), val _, val _, val _, nv _ (sl _ _)] ++ _)))]) (by exact ⟨rfl, rfl, rfl, rfl, rfl, rfl, rfl, rfl, rfl, rfl, ⟨⟩⟩) (by exact ⟨rfl, ⟨⟩⟩) ?_
 refine swl_ucallM (bx := 999) (L := L0w) (pre := [val _, val _, nv _ (sl _ _), nv _ (sl _ _), val _, nv _ (sl _ _), val _, val _, val _]) (ms := [nv _ (sl _ _)]) (post := []) (qr := [(false, [val _])]) (as_ := [(false, [val _])]) (by decide) c_133 rfl (by exact rfl) (by exact (Nm.val Nm.nil)) (by exact ⟨rfl, ⟨⟩⟩) (by exact (aI (by exact ⟨⟩) tI)) (by exact aI (aI rfl (ToL.cons (PV.To.refl _) ToL.nil)) tI) (by exact rfl) (by exact (Nm.nv Nm.nil)) (by exact (OwnTo.nv OwnTo.nil)) (by exact mark_RowS (by omega) (by omega)) (by exact (OwnFrom.nv OwnFrom.nil)) (fun x hx => hx.elim) (by exact lc) (by exact (aI (.inl rfl) tI)) (by exact lc) (by exact lc) (by exact LclC.nil) (by exact lc) rfl ?_
 refine swl_step (by exact ⟨rfl, ⟨⟩⟩) (by exact ⟨⟩) (LocG.of rfl (loc_copy (.inr rfl) (by decide) (by exact Cp.sc))) nofree ?_
 refine swl_nil ?_
 refine sw_boxTo (d := 999) (by exact rfl) (by exact (OwnTo.same (OwnTo.same (OwnTo.nv (OwnTo.nv (OwnTo.same (OwnTo.nv (OwnTo.same (OwnTo.same (OwnTo.same (OwnTo.nv OwnTo.nil))))))))))) ?_
 refine sO [(0, _), (1, _), (4, _), (5, _)] [(999, (142, _ ++ ([val _, val _, sl _ _, sl _ _, val _, sl _ _, val _, val _, val _, sl _ _] ++ _)))] ?_
 refine zdz ?_
 refine nx (i + 1) (by omega) (e := (by exact aI (by exact int_eq (by rw [mkL_succ hlt]; rfl)) (aI (by exact rfl) (tI)))) (f := (by exact aI (by exact congrArg (fun z => some (142, z)) (mark_join hlt rfl)) (tI)))
 have hend : i = x.length := by omega
 refine sw_boxEq (d := 999) (by exact rfl) (mark_all hend) ?_
 refine sw_freeze (s := 0) (D := 999) (e := 10) (by exact rfl) (by exact rfl) (by rw [List.length_map, mkL_len, List.length_map]) (by intro c hc; obtain ⟨y, _, rfl⟩ := List.mem_map.1 hc; exact rfl) hjk ?_
 exact ze7
theorem mark_FinishedS {x : List Finished} {k : Int} (h0k : 0 ≤ k) (hbk : (mkL mkE_Finished x k).2 ≤ 4611686018427387904) : UCall Tryz.prog 61 false [sl (.own 144 7) (x.map (cFinished (.own 193 3) (.own 3 1) (.own 66 2) (.own 3 1)))] [sl (.own 144 7) ((mkL mkE_Finished x k).1.map (cFinished (.own 193 3) (.own 3 1) (.own 66 2) (.own 3 1)))] [(false, [val (vI k)])] (vI (mkL mkE_Finished x k).2) := by
 refine ucall_of Tryz.func61 rfl (nl rfl) (borA_cons (BorL.cons (bor_val _) BorL.nil) borA_nil) ?_
 intro us h0 w0 Fz0 hus
 obtain ⟨u0, rfl⟩ := len1 hus
 by_cases hx : x = []
 subst hx
 refine zds ?_
 rintro _ _
 refine zdt ?_
 refine rA ?_ (x := lN sl_37)
 exact zdu
 refine sw_thaw (s := 0) (D := 999) (E := 144) (e := 7) (u := u0) (es := x.map (cFinished (.own 193 3) (.own 3 1) (.own 66 2) (.own 3 1))) (L := L0w) (by exact rfl) (by simpa using hx) (by exact rfl) (by exact rfl) (fun x hx => hx.elim) (by exact aI (.inl rfl) (aI (.inr (RV.lcl_sv (LclC.cons lcl_val LclC.nil))) tI)) tI (LclC.map fun x => (LclC.cons lcl_val (LclC.cons lcl_val (LclC.cons (lcl_own (LclC.map fun x => (LclC.cons lcl_val (LclC.cons lcl_val (LclC.cons lcl_val LclC.nil))))) (LclC.cons (lcl_own (LclC.map fun x => (LclC.cons lcl_val LclC.nil))) (LclC.cons lcl_val (LclC.cons lcl_val (LclC.cons (lcl_own (LclC.map fun x => (LclC.cons lcl_val (LclC.cons (lcl_own (LclC.map fun x => (LclC.cons lcl_val LclC.nil))) LclC.nil)))) LclC.nil)))))))) fun cp jk hl0 hcp hjk => ?_
 have hlm : (x.map (cFinished (.own 193 3) (.own 3 1) (.own 66 2) (.own 3 1))).length = x.length := List.length_map _
 rw [hlm] at hl0 hcp
 have hmono := mkL_take_le mkE_Finished_le x
 have hmono0 := fun i => mkL_le mkE_Finished_le (x.take i) k
 refine zdv ?_
 refine sL [0, 4] [] (fun i : Nat => i ≤ x.length) (fun i : Nat => [(1, RV.int (mkL mkE_Finished (x.take i) k).2), (5, RV.int (i : Int))]) (fun i : Nat => [(999, (144, (((mkL mkE_Finished (x.take i) k).1 ++ x.drop i).map (cFinished (.own 193 3) (.own 3 1) (.own 66 2) (.own 3 1))).flatten ++ jk.map val))]) (fun i : Nat => x.length - i) 0 (by omega) (by exact aI (by exact rfl) (aI (by exact rfl) (tI))) (by exact aI (by exact congrArg (fun z => some (144, z)) mark_zero) (tI)) ?_
 rintro i hi
 refine zdw ?_
 refine rA ?_ (x := loc_hlen (by decide) sl_37)
 refine rA ?_ (x := B_lss)
 refine sc (fun hba => ?_) (fun hba => ?_)
 have hlt : i < x.length := by omega
 have hk0 := hmono0 i
 have hk1 := hmono (i + 1) k
 rw [mkL_succ hlt] at hk1
 dsimp only at hk1
 have hm0 := mkL_le mkE_Cond_le x[i].Query.Conds (((mkL mkE_Finished (x.take i) k).2 + 1) + 1)
 have hm1 := mkL_le mkE_Int_le x[i].Query.Out (mkL mkE_Cond x[i].Query.Conds (((mkL mkE_Finished (x.take i) k).2 + 1) + 1)).2
 have hm2 := mkL_le mkE_Row_le x[i].Rows (((mkL mkE_Int x[i].Query.Out (mkL mkE_Cond x[i].Query.Conds (((mkL mkE_Finished (x.take i) k).2 + 1) + 1)).2).2 + 1) + 1)
 simp only [mkE_Finished] at hk1
 refine sw_boxEq (d := 999) (by exact rfl) (mark_split hlt) ?_
 have hA := mark_len (f := mkE_Finished) (c := (cFinished (.own 193 3) (.own 3 1) (.own 66 2) (.own 3 1))) (e := 7) (k := k) (fun _ => rfl) (Nat.le_of_lt hlt)
 refine sw_nmB (d := 999) (ms := [val _, val _, sl _ _, sl _ _, val _, val _, sl _ _]) (by exact rfl) fun us hus => ?_
 obtain ⟨v0, v1, v2, v3, v4, v5, v6, rfl⟩ := us_7 hus
 refine zdx ?_
 refine sO [(0, _), (1, _), (4, _), (5, _)] [(999, (144, _ ++ ([nv _ (val _), nv _ (val _), nv _ (sl _ _), nv _ (sl _ _), nv _ (val _), nv _ (val _), nv _ (sl _ _)] ++ _)))] ?_
 refine zdy ?_
 refine zeh ?_
 refine rA ?_ (x := lF fd_144_0)
 refine rA ?_ (x := lF fd_65_0)
 refine ze3 ?_
 refine sO [(0, _), (1, _), (4, _), (5, _)] [(999, (144, _ ++ ([val _, nv _ (val _), nv _ (sl _ _), nv _ (sl _ _), nv _ (val _), nv _ (val _), nv _ (sl _ _)] ++ _)))] ?_
 refine ze9 ?_
 refine zeh ?_
 refine rA ?_ (x := lF fd_144_0)
 refine rA ?_ (x := lF fd_65_1)
 refine ze6 ?_
 refine sO [(0, _), (1, _), (4, _), (5, _)] [(999, (144, _ ++ ([val _, val _, nv _ (sl _ _), nv _ (sl _ _), nv _ (val _), nv _ (val _), nv _ (sl _ _)] ++ _)))] ?_
 refine zdz ?_
 refine zea ?_
 refine swl_step (by exact ⟨rfl, ⟨⟩⟩) (by exact ⟨⟩) (LocG.of rfl (loc_copy (.inl rfl) (by decide) (by exact Cp.nm Cp.hdr))) nofree ?_
 refine swl_step (by exact ⟨rfl, ⟨⟩⟩) (by exact ⟨⟩) (LocG.of rfl (loc_copy (.inl rfl) (by decide) (by exact Cp.sc))) nofree ?_
 refine swl_step (by exact ⟨rfl, rfl, ⟨⟩⟩) (by exact ⟨⟩) (LocG.of rfl (loc_hindex (by decide) sl_37 (by exact ⟨⟩) (by exact rfl) (by omega))) nofree ?_
 refine swl_step (by exact ⟨rfl, ⟨⟩⟩) (by exact ⟨⟩) (LocG.of rfl (loc_field (by decide) fd_144_0)) nofree ?_
 refine swl_step (by exact ⟨rfl, ⟨⟩⟩) (by exact ⟨⟩) (LocG.of rfl (loc_field (by decide) fd_65_2)) nofree ?_
 refine swl_step (by exact ⟨rfl, ⟨⟩⟩) (by exact ⟨rfl, ⟨⟩⟩) (LocG.of rfl (loc_loadM (o := 2) (qs := [val _]) (by omega) (by decide) ty_63 (fun _ => rfl) (by exact nl rfl) (by exact (ToL.cons PV.nv_val ToL.nil)) (by exact (BorL.cons (bor_val _) BorL.nil)))) nofree ?_
 refine swl_step (by exact ⟨rfl, ⟨⟩⟩) (by exact ⟨⟩) (LocG.of rfl (loc_copy (.inl rfl) (by decide) (by exact Cp.sc))) nofree ?_
 refine swl_of (l := [(0, RV.nm _ (RV.hdr 999 _ _)), (1, RV.sv false [val _]), (4, RV.sv false [val _]), (5, RV.sv false [val _]), (28, RV.hdr 999 _ _), (29, RV.sv false [val _]), (30, RV.ptr 999 _), (31, RV.ptr 999 _), (32, RV.ptr 999 _), (33, RV.sv false [val _]), (34, RV.sv false [val _])]) (b := [(999, (144, _ ++ ([val _, val _, nv _ (sl _ _), nv _ (sl _ _), nv _ (val _), nv _ (val _), nv _ (sl _ _)] ++ _)))]) (by exact ⟨rfl, rfl, rfl, rfl, rfl, rfl, rfl, rfl, rfl, rfl, rfl, ⟨⟩⟩) (by exact ⟨rfl, ⟨⟩⟩) ?_
 refine swl_ucallM (bx := 999) (L := L0w) (pre := [val _, val _]) (ms := [nv _ (sl _ _)]) (post := [nv _ (sl _ _), nv _ (val _), nv _ (val _), nv _ (sl _ _)]) (qr := [(false, [val _])]) (as_ := [(false, [val _])]) (by decide) c_91 rfl (by exact rfl) (by exact (Nm.val Nm.nil)) (by exact ⟨rfl, ⟨⟩⟩) (by exact (aI (by exact ⟨⟩) tI)) (by exact aI (aI rfl (ToL.cons (PV.To.refl _) ToL.nil)) tI) (by exact rfl) (by exact (Nm.nv Nm.nil)) (by exact (OwnTo.nv OwnTo.nil)) (by exact mark_CondS (by omega) (by omega)) (by exact (OwnFrom.nv OwnFrom.nil)) (fun x hx => hx.elim) (by exact lc) (by exact (aI (.inl rfl) tI)) (by exact lc) (by exact lc) (by exact lc) (by exact lc) rfl ?_
 refine swl_step (by exact ⟨rfl, ⟨⟩⟩) (by exact ⟨⟩) (LocG.of rfl (loc_copy (.inr rfl) (by decide) (by exact Cp.sc))) nofree ?_
 refine swl_nil ?_
 refine zea ?_
 refine swl_step (by exact ⟨rfl, ⟨⟩⟩) (by exact ⟨⟩) (LocG.of rfl (loc_copy (.inl rfl) (by decide) (by exact Cp.nm Cp.hdr))) nofree ?_
 refine swl_step (by exact ⟨rfl, ⟨⟩⟩) (by exact ⟨⟩) (LocG.of rfl (loc_copy (.inl rfl) (by decide) (by exact Cp.sc))) nofree ?_
 refine swl_step (by exact ⟨rfl, rfl, ⟨⟩⟩) (by exact ⟨⟩) (LocG.of rfl (loc_hindex (by decide) sl_37 (by exact ⟨⟩) (by exact rfl) (by omega))) nofree ?_
 refine swl_step (by exact ⟨rfl, ⟨⟩⟩) (by exact ⟨⟩) (LocG.of rfl (loc_field (by decide) fd_144_0)) nofree ?_
 refine swl_step (by exact ⟨rfl, ⟨⟩⟩) (by exact ⟨⟩) (LocG.of rfl (loc_field (by decide) fd_65_3)) nofree ?_
 refine swl_step (by exact ⟨rfl, ⟨⟩⟩) (by exact ⟨rfl, ⟨⟩⟩) (LocG.of rfl (loc_loadM (o := 3) (qs := [val _]) (by omega) (by decide) ty_25 (fun _ => rfl) (by exact nl rfl) (by exact (ToL.cons PV.nv_val ToL.nil)) (by exact (BorL.cons (bor_val _) BorL.nil)))) nofree ?_
 refine swl_step (by exact ⟨rfl, ⟨⟩⟩) (by exact ⟨⟩) (LocG.of rfl (loc_copy (.inl rfl) (by decide) (by exact Cp.sc))) nofree ?_
 refine swl_of (l := [(0, RV.nm _ (RV.hdr 999 _ _)), (1, RV.sv false [val _]), (4, RV.sv false [val _]), (5, RV.sv false [val _]), (36, RV.hdr 999 _ _), (37, RV.sv false [val _]), (38, RV.ptr 999 _), (39, RV.ptr 999 _), (40, RV.ptr 999 _), (41, RV.sv false [val _]), (42, RV.sv false [val _])]) (b := [(999, (144, _ ++ ([val _, val _, nv _ (sl _ _), nv _ (sl _ _), nv _ (val _), nv _ (val _), nv _ (sl _ _)] ++ _)))]) (by exact ⟨rfl, rfl, rfl, rfl, rfl, rfl, rfl, rfl, rfl, rfl, rfl, ⟨⟩⟩) (by exact ⟨rfl, ⟨⟩⟩) ?_
 refine swl_ucallM (bx := 999) (L := L0w) (pre := [val _, val _, nv _ (sl _ _)]) (ms := [nv _ (sl _ _)]) (post := [nv _ (val _), nv _ (val _), nv _ (sl _ _)]) (qr := [(false, [val _])]) (as_ := [(false, [val _])]) (by decide) c_18 rfl (by exact rfl) (by exact (Nm.val Nm.nil)) (by exact ⟨rfl, ⟨⟩⟩) (by exact (aI (by exact ⟨⟩) tI)) (by exact aI (aI rfl (ToL.cons (PV.To.refl _) ToL.nil)) tI) (by exact rfl) (by exact (Nm.nv Nm.nil)) (by exact (OwnTo.nv OwnTo.nil)) (by exact mark_IntS (by omega) (by omega)) (by exact (OwnFrom.nv OwnFrom.nil)) (fun x hx => hx.elim) (by exact lc) (by exact (aI (.inl rfl) tI)) (by exact lc) (by exact lc) (by exact lc) (by exact lc) rfl ?_
 refine swl_step (by exact ⟨rfl, ⟨⟩⟩) (by exact ⟨⟩) (LocG.of rfl (loc_copy (.inr rfl) (by decide) (by exact Cp.sc))) nofree ?_
 refine swl_nil ?_
 refine ze5 ?_
 refine zeh ?_
 refine rA ?_ (x := lF fd_144_1)
 refine zeg ?_
 refine sO [(0, _), (1, _), (4, _), (5, _)] [(999, (144, _ ++ ([val _, val _, nv _ (sl _ _), nv _ (sl _ _), val _, nv _ (val _), nv _ (sl _ _)] ++ _)))] ?_
 refine ze9 ?_
 refine zeh ?_
 refine rA ?_ (x := lF fd_144_2)
 refine rA ?_ (x := loc_storeM (o := 5) (ag := false) (vs := [val _]) (by omega) ty_3 (by exact ⟨⟩) (by exact rfl) (by exact nl rfl))
 refine sw_seq ?_
 refine sO [(0, _), (1, _), (4, _), (5, _)] [(999, (144, _ ++ ([val _, val _, nv _ (sl _ _), nv _ (sl _ _), val _, val _, nv _ (sl _ _)] ++ _)))] ?_
 refine zdz ?_
 refine zeb ?_
 refine swl_step (by exact ⟨rfl, ⟨⟩⟩) (by exact ⟨⟩) (LocG.of rfl (loc_copy (.inl rfl) (by decide) (by exact Cp.nm Cp.hdr))) nofree ?_
 refine swl_step (by exact ⟨rfl, ⟨⟩⟩) (by exact ⟨⟩) (LocG.of rfl (loc_copy (.inl rfl) (by decide) (by exact Cp.sc))) nofree ?_
 refine swl_step (by exact ⟨rfl, rfl, ⟨⟩⟩) (by exact ⟨⟩) (LocG.of rfl (loc_hindex (by decide) sl_37 (by exact ⟨⟩) (by exact rfl) (by omega))) nofree ?_
 refine swl_step (by exact ⟨rfl, ⟨⟩⟩) (by exact ⟨⟩) (LocG.of rfl (loc_field (by decide) fd_144_3)) nofree ?_
 refine swl_step (by exact ⟨rfl, ⟨⟩⟩) (by exact ⟨rfl, ⟨⟩⟩) (LocG.of rfl (loc_loadM (o := 6) (qs := [val _]) (by omega) (by decide) ty_93 (fun _ => rfl) (by exact nl rfl) (by exact (ToL.cons PV.nv_val ToL.nil)) (by exact (BorL.cons (bor_val _) BorL.nil)))) nofree ?_
 refine swl_step (by exact ⟨rfl, ⟨⟩⟩) (by exact ⟨⟩) (LocG.of rfl (loc_copy (.inl rfl) (by decide) (by exact Cp.sc))) nofree ?_
 refine swl_of (l := [(0, RV.nm _ (RV.hdr 999 _ _)), (1, RV.sv false [val _]), (4, RV.sv false [val _]), (5, RV.sv false [val _]), (58, RV.hdr 999 _ _), (59, RV.sv false [val _]), (60, RV.ptr 999 _), (61, RV.ptr 999 _), (62, RV.sv false [val _]), (63, RV.sv false [val _])]) (b := [(999, (144, _ ++ ([val _, val _, nv _ (sl _ _), nv _ (sl _ _), val _, val _, nv _ (sl _ _)] ++ _)))]) (by exact ⟨rfl, rfl, rfl, rfl, rfl, rfl, rfl, rfl, rfl, rfl, ⟨⟩⟩) (by exact ⟨rfl, ⟨⟩⟩) ?_
 refine swl_ucallM (bx := 999) (L := L0w) (pre := [val _, val _, nv _ (sl _ _), nv _ (sl _ _), val _, val _]) (ms := [nv _ (sl _ _)]) (post := []) (qr := [(false, [val _])]) (as_ := [(false, [val _])]) (by decide) c_133 rfl (by exact rfl) (by exact (Nm.val Nm.nil)) (by exact ⟨rfl, ⟨⟩⟩) (by exact (aI (by exact ⟨⟩) tI)) (by exact aI (aI rfl (ToL.cons (PV.To.refl _) ToL.nil)) tI) (by exact rfl) (by exact (Nm.nv Nm.nil)) (by exact (OwnTo.nv OwnTo.nil)) (by exact mark_RowS (by omega) (by omega)) (by exact (OwnFrom.nv OwnFrom.nil)) (fun x hx => hx.elim) (by exact lc) (by exact (aI (.inl rfl) tI)) (by exact lc) (by exact lc) (by exact LclC.nil) (by exact lc) rfl ?_
 refine swl_step (by exact ⟨rfl, ⟨⟩⟩) (by exact ⟨⟩) (LocG.of rfl (loc_copy (.inr rfl) (by decide) (by exact Cp.sc))) nofree ?_
 refine swl_nil ?_
 refine sw_boxTo (d := 999) (by exact rfl) (by exact (OwnTo.same (OwnTo.same (OwnTo.nv (OwnTo.nv (OwnTo.same (OwnTo.same (OwnTo.nv OwnTo.nil)))))))) ?_
 refine sO [(0, _), (1, _), (4, _), (5, _)] [(999, (144, _ ++ ([val _, val _, sl _ _, sl _ _, val _, val _, sl _ _] ++ _)))] ?_
 refine zdz ?_
 refine nx (i + 1) (by omega) (e := (by exact aI (by exact int_eq (by rw [mkL_succ hlt]; rfl)) (aI (by exact rfl) (tI)))) (f := (by exact aI (by exact congrArg (fun z => some (144, z)) (mark_join hlt rfl)) (tI)))
 have hend : i = x.length := by omega
 refine sw_boxEq (d := 999) (by exact rfl) (mark_all hend) ?_
 refine sw_freeze (s := 0) (D := 999) (e := 7) (by exact rfl) (by exact rfl) (by rw [List.length_map, mkL_len, List.length_map]) (by intro c hc; obtain ⟨y, _, rfl⟩ := List.mem_map.1 hc; exact rfl) hjk ?_
 exact ze7
theorem mark_Engine {x : Engine} {k : Int} (h0k : 0 ≤ k) (hbk : (mkV_Engine x k).2 ≤ 4611686018427387904) : UCall Tryz.prog 17 true (cEngine (.own 149 1) (.own 151 4) (.own 3 1) (.own 3 1) (.own 142 10) (.own 193 3) (.own 3 1) (.own 3 1) (.own 66 2) (.own 3 1) (.own 144 7) (.own 193 3) (.own 3 1) (.own 66 2) (.own 3 1) (.own 148 5) (.own 3 1) (.own 3 1) (.own 3 1) x) (cEngine (.own 149 1) (.own 151 4) (.own 3 1) (.own 3 1) (.own 142 10) (.own 193 3) (.own 3 1) (.own 3 1) (.own 66 2) (.own 3 1) (.own 144 7) (.own 193 3) (.own 3 1) (.own 66 2) (.own 3 1) (.own 148 5) (.own 3 1) (.own 3 1) (.own 3 1) (mkV_Engine x k).1) [(false, [val (vI k)])] (vI (mkV_Engine x k).2) := by
 refine ucall_of Tryz.func17 rfl (nl rfl) (borA_cons (BorL.cons (bor_val _) BorL.nil) borA_nil) ?_
 intro us h0 w0 Fz0 hus
 obtain ⟨v0, v1, v2, v3, v4, v5, v6, v7, rfl⟩ := us_8 hus
 simp only [mkV_Engine] at hbk
 have hm0 := mkL_le mkE_VersionS_le x.Store.Segments k
 have hm1 := mkL_le mkE_Int_le x.Order (mkL mkE_VersionS x.Store.Segments k).2
 have hm2 := mkL_le mkE_Active_le x.Active (mkL mkE_Int x.Order (mkL mkE_VersionS x.Store.Segments k).2).2
 have hm3 := mkL_le mkE_Finished_le x.Done (mkL mkE_Active x.Active (mkL mkE_Int x.Order (mkL mkE_VersionS x.Store.Segments k).2).2).2
 have hm4 := mkL_le mkE_Charge_le x.Ledger (mkL mkE_Finished x.Done (mkL mkE_Active x.Active (mkL mkE_Int x.Order (mkL mkE_VersionS x.Store.Segments k).2).2).2).2
 have hv0 : (mkV_Store x.Store k).2 = (mkL mkE_VersionS x.Store.Segments k).2 := rfl
 refine sS [0, 1] [] ?_
 refine rX ?_ (x := (loc_box (ag := true) (cs := [nv _ (sl _ _), nv _ (val _), nv _ (val _), nv _ (sl _ _), nv _ (sl _ _), nv _ (sl _ _), nv _ (sl _ _), nv _ (val _)]) (by decide) (by exact ⟨⟩)))
 refine zee ?_
 refine sO [(1, _), (2, _), (4, _)] [(2, (40, [nv _ (sl _ _), nv _ (val _), nv _ (val _), nv _ (sl _ _), nv _ (sl _ _), nv _ (sl _ _), nv _ (sl _ _), nv _ (val _)]))] ?_
 refine sw_regL ?_
 refine swl_step (by exact ⟨rfl, ⟨⟩⟩) (by exact ⟨⟩) (LocG.of rfl (loc_field (by decide) fd_40_0)) nofree ?_
 refine swl_step (by exact ⟨rfl, ⟨⟩⟩) (by exact ⟨rfl, ⟨⟩⟩) (LocG.of rfl (loc_load (qs := [val _, val _]) (by decide) ty_35 (fun h => nomatch h) (by exact nl rfl) (by exact (ToL.cons PV.nv_val (ToL.cons PV.nv_val ToL.nil))) (by exact (BorL.cons (bor_val _) (BorL.cons (bor_val _) BorL.nil))))) nofree ?_
 refine swl_step (by exact ⟨rfl, ⟨⟩⟩) (by exact ⟨⟩) (LocG.of rfl (loc_copy (.inl rfl) (by decide) (by exact Cp.sc))) nofree ?_
 refine swl_of (l := [(1, RV.sv false [val _]), (2, RV.ptr 2 0), (4, RV.sv false [val _]), (5, RV.ptr 2 0), (6, RV.sv true [val _, val _]), (7, RV.sv false [val _])]) (b := [(2, (40, [nv _ (sl _ _), nv _ (val _), nv _ (val _), nv _ (sl _ _), nv _ (sl _ _), nv _ (sl _ _), nv _ (sl _ _), nv _ (val _)]))]) (by exact ⟨rfl, rfl, rfl, rfl, rfl, rfl, ⟨⟩⟩) (by exact ⟨rfl, ⟨⟩⟩) ?_
 refine swl_ucallB (bx := 2) (L := L0w) (A := []) (ms := [nv _ (sl _ _), nv _ (val _)]) (B := [nv _ (val _), nv _ (sl _ _), nv _ (sl _ _), nv _ (sl _ _), nv _ (sl _ _), nv _ (val _)]) (qr := [(false, [val _])]) (as_ := [(false, [val _])]) (by decide) c_59 rfl (by exact rfl) (by exact (Nm.val (Nm.val Nm.nil))) (by exact ⟨rfl, ⟨⟩⟩) (by exact (aI (by exact ⟨⟩) tI)) (by exact aI (aI rfl (ToL.cons (PV.To.refl _) ToL.nil)) tI) (by exact rfl) (by exact (Nm.nv (Nm.nv Nm.nil))) (by exact (OwnTo.nv (OwnTo.nv OwnTo.nil))) (by exact mark_Store (by first | omega | (simp only [mkV_Store]; omega)) (by first | omega | (simp only [mkV_Store]; omega))) (by exact (OwnFrom.nv (OwnFrom.nv OwnFrom.nil))) (fun x hx => hx.elim) (by exact lc) (by exact (aI (.inl rfl) tI)) (by exact LclC.nil) (by exact lc) rfl ?_
 refine swl_step (by exact ⟨rfl, ⟨⟩⟩) (by exact ⟨⟩) (LocG.of rfl (loc_copy (.inr rfl) (by decide) (by exact Cp.sc))) nofree ?_
 refine swl_nil ?_
 refine sw_seq ?_
 refine zei ?_
 refine swl_step (by exact ⟨rfl, ⟨⟩⟩) (by exact ⟨⟩) (LocG.of rfl (loc_field (by decide) fd_40_2)) nofree ?_
 refine swl_step (by exact ⟨rfl, ⟨⟩⟩) (by exact ⟨rfl, ⟨⟩⟩) (LocG.of rfl (loc_load (qs := [val _]) (by decide) ty_25 (fun _ => rfl) (by exact nl rfl) (by exact (ToL.cons PV.nv_val ToL.nil)) (by exact (BorL.cons (bor_val _) BorL.nil)))) nofree ?_
 refine swl_step (by exact ⟨rfl, ⟨⟩⟩) (by exact ⟨⟩) (LocG.of rfl (loc_copy (.inl rfl) (by decide) (by exact Cp.sc))) nofree ?_
 refine swl_of (l := [(1, RV.sv false [val _]), (2, RV.ptr 2 0), (4, RV.sv false [val _]), (9, RV.ptr 2 3), (10, RV.sv false [val _]), (11, RV.sv false [val _])]) (b := [(2, (40, [nv _ (sl _ _), nv _ (val _), nv _ (val _), nv _ (sl _ _), nv _ (sl _ _), nv _ (sl _ _), nv _ (sl _ _), nv _ (val _)]))]) (by exact ⟨rfl, rfl, rfl, rfl, rfl, rfl, ⟨⟩⟩) (by exact ⟨rfl, ⟨⟩⟩) ?_
 refine swl_ucallB (bx := 2) (L := L0w) (A := [nv _ (sl _ _), nv _ (val _), nv _ (val _)]) (ms := [nv _ (sl _ _)]) (B := [nv _ (sl _ _), nv _ (sl _ _), nv _ (sl _ _), nv _ (val _)]) (qr := [(false, [val _])]) (as_ := [(false, [val _])]) (by decide) c_18 rfl (by exact rfl) (by exact (Nm.val Nm.nil)) (by exact ⟨rfl, ⟨⟩⟩) (by exact (aI (by exact ⟨⟩) tI)) (by exact aI (aI rfl (ToL.cons (PV.To.refl _) ToL.nil)) tI) (by exact rfl) (by exact (Nm.nv Nm.nil)) (by exact (OwnTo.nv OwnTo.nil)) (by exact mark_IntS (by first | omega | (simp only [mkV_Store]; omega)) (by first | omega | (simp only [mkV_Store]; omega))) (by exact (OwnFrom.nv OwnFrom.nil)) (fun x hx => hx.elim) (by exact lc) (by exact (aI (.inl rfl) tI)) (by exact lc) (by exact lc) rfl ?_
 refine swl_step (by exact ⟨rfl, ⟨⟩⟩) (by exact ⟨⟩) (LocG.of rfl (loc_copy (.inr rfl) (by decide) (by exact Cp.sc))) nofree ?_
 refine swl_nil ?_
 refine sw_seq ?_
 refine zei ?_
 refine swl_step (by exact ⟨rfl, ⟨⟩⟩) (by exact ⟨⟩) (LocG.of rfl (loc_field (by decide) fd_40_3)) nofree ?_
 refine swl_step (by exact ⟨rfl, ⟨⟩⟩) (by exact ⟨rfl, ⟨⟩⟩) (LocG.of rfl (loc_load (qs := [val _]) (by decide) ty_36 (fun _ => rfl) (by exact nl rfl) (by exact (ToL.cons PV.nv_val ToL.nil)) (by exact (BorL.cons (bor_val _) BorL.nil)))) nofree ?_
 refine swl_step (by exact ⟨rfl, ⟨⟩⟩) (by exact ⟨⟩) (LocG.of rfl (loc_copy (.inl rfl) (by decide) (by exact Cp.sc))) nofree ?_
 refine swl_of (l := [(1, RV.sv false [val _]), (2, RV.ptr 2 0), (4, RV.sv false [val _]), (13, RV.ptr 2 4), (14, RV.sv false [val _]), (15, RV.sv false [val _])]) (b := [(2, (40, [nv _ (sl _ _), nv _ (val _), nv _ (val _), nv _ (sl _ _), nv _ (sl _ _), nv _ (sl _ _), nv _ (sl _ _), nv _ (val _)]))]) (by exact ⟨rfl, rfl, rfl, rfl, rfl, rfl, ⟨⟩⟩) (by exact ⟨rfl, ⟨⟩⟩) ?_
 refine swl_ucallB (bx := 2) (L := L0w) (A := [nv _ (sl _ _), nv _ (val _), nv _ (val _), nv _ (sl _ _)]) (ms := [nv _ (sl _ _)]) (B := [nv _ (sl _ _), nv _ (sl _ _), nv _ (val _)]) (qr := [(false, [val _])]) (as_ := [(false, [val _])]) (by decide) c_60 rfl (by exact rfl) (by exact (Nm.val Nm.nil)) (by exact ⟨rfl, ⟨⟩⟩) (by exact (aI (by exact ⟨⟩) tI)) (by exact aI (aI rfl (ToL.cons (PV.To.refl _) ToL.nil)) tI) (by exact rfl) (by exact (Nm.nv Nm.nil)) (by exact (OwnTo.nv OwnTo.nil)) (by exact mark_ActiveS (by first | omega | (simp only [mkV_Store]; omega)) (by first | omega | (simp only [mkV_Store]; omega))) (by exact (OwnFrom.nv OwnFrom.nil)) (fun x hx => hx.elim) (by exact lc) (by exact (aI (.inl rfl) tI)) (by exact lc) (by exact lc) rfl ?_
 refine swl_step (by exact ⟨rfl, ⟨⟩⟩) (by exact ⟨⟩) (LocG.of rfl (loc_copy (.inr rfl) (by decide) (by exact Cp.sc))) nofree ?_
 refine swl_nil ?_
 refine sw_seq ?_
 refine zei ?_
 refine swl_step (by exact ⟨rfl, ⟨⟩⟩) (by exact ⟨⟩) (LocG.of rfl (loc_field (by decide) fd_40_4)) nofree ?_
 refine swl_step (by exact ⟨rfl, ⟨⟩⟩) (by exact ⟨rfl, ⟨⟩⟩) (LocG.of rfl (loc_load (qs := [val _]) (by decide) ty_37 (fun _ => rfl) (by exact nl rfl) (by exact (ToL.cons PV.nv_val ToL.nil)) (by exact (BorL.cons (bor_val _) BorL.nil)))) nofree ?_
 refine swl_step (by exact ⟨rfl, ⟨⟩⟩) (by exact ⟨⟩) (LocG.of rfl (loc_copy (.inl rfl) (by decide) (by exact Cp.sc))) nofree ?_
 refine swl_of (l := [(1, RV.sv false [val _]), (2, RV.ptr 2 0), (4, RV.sv false [val _]), (17, RV.ptr 2 5), (18, RV.sv false [val _]), (19, RV.sv false [val _])]) (b := [(2, (40, [nv _ (sl _ _), nv _ (val _), nv _ (val _), nv _ (sl _ _), nv _ (sl _ _), nv _ (sl _ _), nv _ (sl _ _), nv _ (val _)]))]) (by exact ⟨rfl, rfl, rfl, rfl, rfl, rfl, ⟨⟩⟩) (by exact ⟨rfl, ⟨⟩⟩) ?_
 refine swl_ucallB (bx := 2) (L := L0w) (A := [nv _ (sl _ _), nv _ (val _), nv _ (val _), nv _ (sl _ _), nv _ (sl _ _)]) (ms := [nv _ (sl _ _)]) (B := [nv _ (sl _ _), nv _ (val _)]) (qr := [(false, [val _])]) (as_ := [(false, [val _])]) (by decide) c_61 rfl (by exact rfl) (by exact (Nm.val Nm.nil)) (by exact ⟨rfl, ⟨⟩⟩) (by exact (aI (by exact ⟨⟩) tI)) (by exact aI (aI rfl (ToL.cons (PV.To.refl _) ToL.nil)) tI) (by exact rfl) (by exact (Nm.nv Nm.nil)) (by exact (OwnTo.nv OwnTo.nil)) (by exact mark_FinishedS (by first | omega | (simp only [mkV_Store]; omega)) (by first | omega | (simp only [mkV_Store]; omega))) (by exact (OwnFrom.nv OwnFrom.nil)) (fun x hx => hx.elim) (by exact lc) (by exact (aI (.inl rfl) tI)) (by exact lc) (by exact lc) rfl ?_
 refine swl_step (by exact ⟨rfl, ⟨⟩⟩) (by exact ⟨⟩) (LocG.of rfl (loc_copy (.inr rfl) (by decide) (by exact Cp.sc))) nofree ?_
 refine swl_nil ?_
 refine sw_seq ?_
 refine zei ?_
 refine swl_step (by exact ⟨rfl, ⟨⟩⟩) (by exact ⟨⟩) (LocG.of rfl (loc_field (by decide) fd_40_5)) nofree ?_
 refine swl_step (by exact ⟨rfl, ⟨⟩⟩) (by exact ⟨rfl, ⟨⟩⟩) (LocG.of rfl (loc_load (qs := [val _]) (by decide) ty_38 (fun _ => rfl) (by exact nl rfl) (by exact (ToL.cons PV.nv_val ToL.nil)) (by exact (BorL.cons (bor_val _) BorL.nil)))) nofree ?_
 refine swl_step (by exact ⟨rfl, ⟨⟩⟩) (by exact ⟨⟩) (LocG.of rfl (loc_copy (.inl rfl) (by decide) (by exact Cp.sc))) nofree ?_
 refine swl_of (l := [(1, RV.sv false [val _]), (2, RV.ptr 2 0), (4, RV.sv false [val _]), (21, RV.ptr 2 6), (22, RV.sv false [val _]), (23, RV.sv false [val _])]) (b := [(2, (40, [nv _ (sl _ _), nv _ (val _), nv _ (val _), nv _ (sl _ _), nv _ (sl _ _), nv _ (sl _ _), nv _ (sl _ _), nv _ (val _)]))]) (by exact ⟨rfl, rfl, rfl, rfl, rfl, rfl, ⟨⟩⟩) (by exact ⟨rfl, ⟨⟩⟩) ?_
 refine swl_ucallB (bx := 2) (L := L0w) (A := [nv _ (sl _ _), nv _ (val _), nv _ (val _), nv _ (sl _ _), nv _ (sl _ _), nv _ (sl _ _)]) (ms := [nv _ (sl _ _)]) (B := [nv _ (val _)]) (qr := [(false, [val _])]) (as_ := [(false, [val _])]) (by decide) c_62 rfl (by exact rfl) (by exact (Nm.val Nm.nil)) (by exact ⟨rfl, ⟨⟩⟩) (by exact (aI (by exact ⟨⟩) tI)) (by exact aI (aI rfl (ToL.cons (PV.To.refl _) ToL.nil)) tI) (by exact rfl) (by exact (Nm.nv Nm.nil)) (by exact (OwnTo.nv OwnTo.nil)) (by exact mark_ChargeS (by first | omega | (simp only [mkV_Store]; omega)) (by first | omega | (simp only [mkV_Store]; omega))) (by exact (OwnFrom.nv OwnFrom.nil)) (fun x hx => hx.elim) (by exact lc) (by exact (aI (.inl rfl) tI)) (by exact lc) (by exact lc) rfl ?_
 refine swl_step (by exact ⟨rfl, ⟨⟩⟩) (by exact ⟨⟩) (LocG.of rfl (loc_copy (.inr rfl) (by decide) (by exact Cp.sc))) nofree ?_
 refine swl_nil ?_
 refine sS [1, 2, 4] [2] ?_
 refine za3 ?_
 exact aI (by exact rfl) (Exists.intro _ (aI (.inr (Exists.intro 2 (Exists.intro _ (by exact rfl)))) (aI (by exact (Nm.nv (Nm.nv (Nm.nv (Nm.nv (Nm.nv (Nm.nv (Nm.nv (Nm.nv Nm.nil))))))))) (by exact (OwnTo.nv (OwnTo.nv (OwnTo.nv (OwnTo.nv (OwnTo.nv (OwnTo.nv (OwnTo.nv (OwnTo.nv OwnTo.nil))))))))))))
end Go.Proofs.YteflgldonmgejaaGreat
