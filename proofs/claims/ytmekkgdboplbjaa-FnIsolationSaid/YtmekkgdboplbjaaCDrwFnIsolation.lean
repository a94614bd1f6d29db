/- What functions of the program compute. No condition. -/
import Derived.Test.YtmekkgdboplbjaaCZMFnIsolation
import Derived.Test.YtmekkgdboplbjaaCFcFnIsolation
import Derived.Test.YtmekkgdboplbjaaCDb
import Derived.Test.YtmekkgdboplbjaaCDw
import Derived.KernelRfl
set_option linter.unusedVariables false
set_option linter.unusedSimpArgs false
namespace Go.Proofs.Ytmekkgdboplbjaa
open Go Go.RowKit M PV
set_option maxRecDepth 10000
attribute [local irreducible] PV.Lcl PV.LclR RV.Lcl
attribute [local irreducible] belowC byteC
theorem FDrw_pl_45 : placesI Try.prog 45 = some [(0, 1), (1, 1)] := by kernel_rfl
theorem FDrw_pl_85 : placesI Try.prog 85 = some [(0, 1), (1, 1), (2, 1)] := by kernel_rfl
theorem FDrw_ui_3 : Try.prog.underlying 3 = some (.int .i64) := by kernel_rfl
theorem FDrw_ui_5 : Try.prog.underlying 5 = some (.int .u8) := by kernel_rfl
theorem n_l1New {code : List Int}  (hb : code.length ≤ 9223372036854775807) (hb2 : code.length ≤ 4611686018427387904) : NCall Try.prog 13 85 [(false, [sl .v (code.map cU8)])] (cCur .v (curNew code hb)) := by
 refine ncall_of (rs := 2) Try.func13 rfl rfl (nl rfl) (borA_cons (BorL.cons (bor_sl _) BorL.nil) borA_nil) (by exact (BorL.cons (bor_sl _) (BorL.cons (bor_val _) (BorL.cons (bor_val _) BorL.nil)))) ?_
 intro h0 w0 Fz0
 refine sj 0 fun hl0 => ?_
 refine sR ?_
 refine rK ?_
 refine sS [0, 2] [] ?_
 refine zjy ?_
 refine rA ?_ (x := B_add)
 refine zca ?_
 refine sS [0, 2, 3] [] ?_
 refine zao ?_
 refine sP [0, 2, 3, 4] [] ?_
 refine sL [0, 2] [] (fun k : Nat => k ≤ code.length ∧ k ≤ 4000) (fun k : Nat => [(3, RV.int (hashTo code k)), (4, RV.int (k : Int))]) (fun k : Nat => []) (fun k : Nat => code.length - k) 0 (by omega) (by exact aI (by exact rfl) (aI (by exact rfl) (tI))) (by exact ⟨⟩) ?_
 rintro k ⟨hk, hk4⟩
 refine zap ?_
 refine zjy ?_
 refine rA ?_ (x := B_lss)
 refine rM ?_
 refine cx 12 (fun ga sga => ?_) (fun ga sga => ?_)
 refine zgw ?_
 refine rA ?_ (x := pkT ga)
 refine sc (fun hba => ?_) (fun hba => ?_)
 have hlt : k < code.length := by omega
 have hl4 : k < 4000 := by omega
 refine za6 ?_
 refine sG [0, 2, 3, 4] [] ?_
 refine rM ?_
 refine rA ?_ (x := loc_mulW (by decide) (by exact ⟨⟩) (ok_sc rfl))
 refine zeh ?_
 refine rA ?_ (x := loc_index (by decide) sl_22 (by exact ⟨⟩) (by exact rfl) (by exact getm2 (by omega) rfl) (by exact rfl))
 refine rA ?_ (x := lE [val _] ty_5)
 refine rA ?_ (x := loc_conv FDrw_ui_5 FDrw_ui_3 rfl)
 refine rA ?_ (x := loc_addW (by decide) (by exact ⟨⟩) (by exact ⟨⟩))
 refine rA ?_ (x := loc_addW (by decide) (by exact ⟨⟩) (ok_sc rfl))
 refine rA ?_ (x := loc_andW (by decide) (by exact ⟨⟩) (ok_sc rfl))
 refine rS ?_
 refine sG [0, 2, 3, 4] [] ?_
 refine zdb ?_
 refine nx (k + 1) (by omega) (e := (by exact aI (by exact int_eq (by rw [hashTo, List.getD_eq_getElem?_getD, List.getElem?_eq_getElem hlt]; rfl)) (aI (by exact int_eq (by omega)) (tI))))
 exact zjz
 refine zc2 ?_
 exact zjz
theorem x_l1Byte {o : Fl} {c : Cur} (hbo : ∀ es, (sl o es).Bor)  : XCall Try.prog 73 85 (cCur o c) (cCur o (byteC c).2) [] (resRV [(false, [val (vI (byteC c).1)])]) := by
 refine xcall_of (rs := [(false, [val (vI (byteC c).1)])]) Try.func73 rfl (nl rfl) (nl rfl) ?_
 intro g_ h0 w0 Fz0
 have hcb := c.hb
 refine sR ?_
 refine zbz ?_
 refine sO [(0, _), (2, _), (5000, _)] [(0, (85, [sl o _, val _, val _]))] ?_
 refine zk0 ?_
 refine rA ?_ (x := cM Cp.ptr)
 refine rA ?_ (x := loc_nilchk (by decide))
 refine rA ?_ (x := lF fd_85_2)
 refine rA ?_ (x := lD [val _] ty_3)
 refine rA ?_ (x := loc_mulW (by decide) (by exact ⟨⟩) (ok_sc rfl))
 refine rA ?_ (x := loc_addW (by decide) (by exact ⟨⟩) (ok_sc rfl))
 refine rA ?_ (x := loc_nilchk (by decide))
 refine rA ?_ (x := lF fd_85_2)
 refine zhg ?_
 refine sO [(0, _), (2, _), (5000, _)] [(0, (85, [sl o _, val _, val _]))] ?_
 refine sw_draw hm_ ?_
 refine dA 0 ?_ (x := cM Cp.ptr)
 refine dA 1 ?_ (x := loc_nilchk (by decide))
 refine dA 3 ?_ (x := lF fd_85_2)
 refine dA 7 ?_ (x := lD [val _] ty_3)
 refine dA 15 ?_ (x := loc_shr (m := 33) rfl (by decide))
 refine dA 0 ?_ (x := cM Cp.ptr)
 refine dA 32 ?_ (x := loc_nilchk (by decide))
 refine dA 96 ?_ (x := lF fd_85_2)
 refine dA 224 ?_ (x := lD [val _] ty_3)
 refine dA 480 ?_ (x := loc_shr (m := 45) rfl (by decide))
 refine dA 1023 ?_ (x := loc_xorW (by decide) (by exact ⟨⟩) (by exact ⟨⟩))
 refine dA 2047 ?_ (x := loc_andW (by decide) (by exact ⟨⟩) (ok_sc rfl))
 refine dA 4095 ?_ (x := sA)
 refine zdk ?_
 refine sP [0, 2, 3, 5000] [0] ?_
 refine sw_draw hm_ ?_
 refine dA 0 ?_ (x := cM Cp.ptr)
 refine dA 1 ?_ (x := loc_nilchk (by decide))
 refine dA 3 ?_ (x := lF fd_85_1)
 refine dA 7 ?_ (x := lD [val _] ty_3)
 refine dA 0 ?_ (x := cM Cp.ptr)
 refine dA 16 ?_ (x := loc_nilchk (by decide))
 refine dA 48 ?_ (x := lF fd_85_0)
 refine dA 112 ?_ (x := lD [sl .v _] ty_22)
 refine dA 240 ?_ (x := lN sl_22)
 refine dA 511 ?_ (x := B_lss)
 refine sc (fun hba => ?_) (fun hba => ?_)
 have hlt : c.i < c.b.length := by omega
 have hr := byteC_yes hlt
 have hge : c.b[c.i] = c.b.getD c.i 0 := by rw [List.getD_eq_getElem?_getD, List.getElem?_eq_getElem hlt]; rfl
 refine sw_seq ?_
 refine sP [0, 2, 3, 5000] [0] ?_
 refine sw_draw hm_ ?_
 refine dA 0 ?_ (x := sM)
 refine dA 0 ?_ (x := cM Cp.ptr)
 refine dA 2 ?_ (x := loc_nilchk (by decide))
 refine dA 6 ?_ (x := lF fd_85_0)
 refine dA 14 ?_ (x := lD [sl .v _] ty_22)
 refine dA 0 ?_ (x := cM Cp.ptr)
 refine dA 32 ?_ (x := loc_nilchk (by decide))
 refine dA 96 ?_ (x := lF fd_85_1)
 refine dA 224 ?_ (x := lD [val _] ty_3)
 refine dA 510 ?_ (x := loc_index (k := c.i) (by decide) sl_22 (by exact ⟨⟩) (by rfl) (by exact getm2 hlt (by rw [hge])) (by exact rfl))
 refine dA 1022 ?_ (x := lE [val _] ty_5)
 refine dA 2046 ?_ (x := loc_conv FDrw_ui_5 FDrw_ui_3 rfl)
 refine dA 4095 ?_ (x := loc_addW (by decide) (by exact ⟨⟩) (by exact ⟨⟩))
 refine dA 8191 ?_ (x := loc_andW (by decide) (by exact ⟨⟩) (ok_sc rfl))
 refine dA 16383 ?_ (x := sA)
 refine sG [0, 2, 3, 5000] [0] ?_
 refine rA ?_ (x := cM Cp.ptr)
 refine rA ?_ (x := cM Cp.ptr)
 refine rA ?_ (x := loc_nilchk (by decide))
 refine rA ?_ (x := lF fd_85_1)
 refine zhf ?_
 refine rA ?_ (x := loc_nilchk (by decide))
 refine rA ?_ (x := lF fd_85_1)
 refine zhg ?_
 refine sO [(0, _), (2, _), (3, _), (5000, _)] [(0, (85, [sl o _, val _, val _]))] ?_
 refine sw_reg ?_
 exact zk1
 have hr := byteC_no (c := c) (by omega)
 refine sw_skip ?_
 refine sS [0, 2, 3, 5000] [0] ?_
 exact zk1
theorem x_l1Below {o : Fl} {c : Cur} (hbo : ∀ es, (sl o es).Bor) {n : Int}  (hn : n ≤ 256) : XCall Try.prog 38 85 (cCur o c) (cCur o (belowC c n).2) [(false, [val (vI n)])] (resRV [(false, [val (vI (belowC c n).1)])]) := by
 refine xcall_of (rs := [(false, [val (vI (belowC c n).1)])]) Try.func38 rfl (nl rfl) (nl rfl) ?_
 intro g_ h0 w0 Fz0
 refine sR ?_
 refine rK ?_
 refine zdk ?_
 refine zk2 ?_
 refine rM ?_
 refine rA ?_ (x := B_leq)
 refine sc (fun hba => ?_) (fun hba => ?_)
 have hr := belowC_no (c := c) hba
 refine sS [0, 1, 4, 5000] [0] ?_
 refine rK ?_
 exact zk3
 have hn0 : 0 < n := by omega
 have hr := belowC_yes (c := c) hn0
 refine zbr ?_
 refine sS [0, 1, 4, 5000] [0] ?_
 refine rM ?_
 refine rA ?_ (x := B_leq)
 refine sc (fun hbb => ?_) (fun hbb => ?_)
 refine sS [0, 1, 4, 5000] [0] ?_
 refine rA ?_ (x := cM Cp.ptr)
 refine rA ?_ (x := loc_xcall0 (bx := 0) (qs := []) (as_ := []) (by decide) c_73 rfl (by exact ⟨⟩) (by exact ⟨⟩) (by exact (BorL.cons (hbo _) (BorL.cons (bor_val _) (BorL.cons (bor_val _) BorL.nil)))) (by exact borA_nil) (by exact (x_l1Byte hbo)))
 refine rM ?_
 refine rA ?_ (x := loc_rem (by decide) (by exact ⟨⟩) (by exact ⟨⟩) (by omega))
 refine rS ?_
 exact zk3
 omega
theorem x_l1PickInt {o : Fl} {c : Cur} (hbo : ∀ es, (sl o es).Bor) {l : List Int}  (hl : 0 < l.length) (hl2 : l.length ≤ 256) : XCall Try.prog 79 85 (cCur o c) (cCur o (pickC c l).2) [(false, [sl .v (l.map cInt)])] (resRV [(false, [val (vI (pickC c l).1)])]) := by
 refine xcall_of (rs := [(false, [val (vI (pickC c l).1)])]) Try.func79 rfl (nl rfl) (nl rfl) ?_
 intro g_ h0 w0 Fz0
 refine sj 1 fun hl1 => ?_
 have hg := belowC_ge c (l.length : Int)
 have hg2 := belowC_lt c (n := (l.length : Int)) (by omega)
 refine sR ?_
 refine zbz ?_
 refine zk2 ?_
 refine rA ?_ (x := vM false [sl .v _])
 refine rA ?_ (x := cM Cp.ptr)
 refine za3 ?_
 refine rA ?_ (x := loc_xcall0 (bx := 0) (qs := [(false, [val _])]) (as_ := [(false, [val _])]) (by decide) c_38 rfl (by exact (aI (by exact ⟨⟩) tI)) (by exact (aI (aI rfl (ToL.cons (PV.To.refl _) ToL.nil)) tI)) (by exact (BorL.cons (hbo _) (BorL.cons (bor_val _) (BorL.cons (bor_val _) BorL.nil)))) (by exact (borA_cons (BorL.cons (bor_val _) BorL.nil) borA_nil)) (by exact (x_l1Below hbo (by omega))))
 refine rA ?_ (x := loc_index (k := (belowC c (l.length : Int)).1.toNat) (by decide) sl_27 (by exact ⟨⟩) (by omega) (by exact getm2 (by omega) rfl) (by exact rfl))
 refine rA ?_ (x := lE [val _] ty_3)
 refine zfu ?_
 exact ⟨(by exact rfl), rfl, (aI (by refine int_eq ?_; show _ = l.getD _ 0; rw [List.getD_eq_getElem?_getD, List.getElem?_eq_getElem (by omega)]; rfl) tI)⟩
theorem x_l1Once {o : Fl} {c : Cur} (hbo : ∀ es, (sl o es).Bor) {n : Int}  (hn : n ≤ 256) : XCall Try.prog 77 85 (cCur o c) (cCur o (belowC c n).2) [(false, [val (vI n)])] (resRV [(false, [val (.bool (decide ((belowC c n).1 = 0)))])]) := by
 refine xcall_of (rs := [(false, [val (.bool (decide ((belowC c n).1 = 0)))])]) Try.func77 rfl (nl rfl) (nl rfl) ?_
 intro g_ h0 w0 Fz0
 refine sR ?_
 refine zbz ?_
 refine zk2 ?_
 refine zk4 ?_
 refine zco ?_
 refine sw_ret ?_
 exact ⟨(by exact rfl), rfl, (aI (by exact rfl) tI)⟩
theorem x_l3Row {o : Fl} {c : Cur} (hbo : ∀ es, (sl o es).Bor) {id : Int}  : XCall Try.prog 72 85 (cCur o c) (cCur o (rowC c id).2) [(false, [val (vI id)])] (resRV [(true, [val (vI (rowC c id).1.Id), sl (.own 3 1) ((rowC c id).1.Values.map cInt)])]) := by
 refine xcall_of (rs := [(true, [val (vI (rowC c id).1.Id), sl (.own 3 1) ((rowC c id).1.Values.map cInt)])]) Try.func72 rfl (nl rfl) (nl rfl) ?_
 intro g_ h0 w0 Fz0
 have hp3 := pick3 c
 refine sR ?_
 refine zaz ?_
 refine sO [(0, _), (1, _), (4, _), (5000, _)] [(0, (85, [sl o _, val _, val _])), (4, (45, [val _, sl _ _]))] ?_
 refine zg2 ?_
 refine rA ?_ (x := loc_build (qs := [(false, [val _])]) (cs := [val _, sl _ _]) (by decide) z_45 zo_45 FDrw_pl_45 (by exact rfl) (by exact (aI (by exact ⟨⟩) tI)) rfl (by exact rfl))
 refine zaw ?_
 refine sw_seq ?_
 refine sO [(0, _), (1, _), (4, _), (5, _), (5000, _)] [(0, _), (4, _), (5, (45, [val _, sl _ _]))] ?_
 refine zk0 ?_
 refine zk5 ?_
 refine zca ?_
 refine sS [0, 1, 4, 5, 6, 5000] [0, 4, 5] ?_
 refine zao ?_
 refine sP [0, 1, 4, 5, 6, 7, 5000] [0, 4, 5] ?_
 refine sL [0, 1, 4, 5, 6, 5000] [4] (fun k : Nat => k ≤ 3) (fun k : Nat => [(7, RV.int (k : Int))]) (fun k : Nat => [(0, (85, cCur o (valsC (pickC c [3, 6, 100]).1 (pickC c [3, 6, 100]).2 k).2)), (5, (45, [val (vI id), sl (.own 3 1) ((valsC (pickC c [3, 6, 100]).1 (pickC c [3, 6, 100]).2 k).1.map cInt)]))]) (fun k : Nat => 3 - k) 0 (by omega) (by exact aI (by exact rfl) (tI)) (by exact aI (by exact rfl) (aI (by exact rfl) (tI))) ?_
 rintro k hk
 have hvl : ((valsC (pickC c [3, 6, 100]).1 (pickC c [3, 6, 100]).2 k).1).length = k := valsC_len
 refine zeg ?_
 refine sc (fun hba => ?_) (fun hba => ?_)
 have hlt : k < 3 := by omega
 refine zdn ?_
 refine zk6 ?_
 refine zk4 ?_
 refine rS ?_
 refine sG [0, 1, 4, 5, 6, 7, 8, 5000] [0, 4, 5] ?_
 refine rA ?_ (x := lF fd_45_1)
 refine zge ?_
 refine zfr ?_
 refine rA ?_ (x := lF fd_45_1)
 refine rA ?_ (x := loc_store (ag := false) (vs := [sl _ _]) ty_27 (by exact ⟨⟩) (by exact rfl) (by exact nl rfl))
 refine sO [(0, _), (1, _), (4, _), (5, _), (6, _), (7, _), (8, _), (5000, _)] [(0, _), (4, _), (5, (45, [val _, sl _ _]))] ?_
 refine zfg ?_
 refine nx (k + 1) (by omega) (e := (by exact aI (by exact int_eq (by omega)) (tI))) (f := (by exact aI (by exact rfl) (aI (by simp only [valsC, List.map_append]; exact rfl) (tI))))
 have hend : k = 3 := by omega
 refine zbx ?_
 refine zk6 ?_
 refine rA ?_ (x := loc_ltake (ms := [val _, sl _ _]) (qs := [val _, sl .v _]) (by decide) ty_45 (fun h => nomatch h) (by exact nl rfl) (by exact rfl) (by exact (ToL.cons (PV.To.refl _) (ToL.cons PV.to_none ToL.nil))) (by exact (BorL.cons (bor_val _) (BorL.cons (bor_sl _) BorL.nil))))
 refine rA ?_ (x := loc_store (ag := true) (vs := [val _, sl _ _]) ty_45 (by exact ⟨⟩) (by exact rfl) (by exact nl rfl))
 refine sw_ret ?_
 exact ⟨(by subst hend; exact rfl), rfl, (Exists.intro 4 (Exists.intro _ (aI (by exact rfl) (aI (by refine box_eq ?_; subst hend; exact rfl) (aI ty_45 (aI (fun h => nomatch h) tI))))))⟩
theorem x_l3Rows {o : Fl} {c : Cur} (hbo : ∀ es, (sl o es).Bor) {most : Int}  (hm : 0 ≤ most ∧ most ≤ 200) : XCall Try.prog 37 85 (cCur o c) (cCur o (rowsC c most).2) [(false, [val (vI most)])] (resRV [(false, [sl (.own 45 2) ((rowsC c most).1.map (cRow (.own 3 1)))])]) := by
 refine xcall_of (rs := [(false, [sl (.own 45 2) ((rowsC c most).1.map (cRow (.own 3 1)))])]) Try.func37 rfl (nl rfl) (nl rfl) ?_
 intro g_ h0 w0 Fz0
 have ha := belowC_ge c 3
 have ha2 := belowC_lt c (n := 3) (by decide)
 have hb1 := belowC_ge (belowC c 3).2 (most + 1)
 have hb2 := belowC_lt (belowC c 3).2 (n := most + 1) (by omega)
 refine zb3 ?_
 refine sw_seq ?_
 refine zk2 ?_
 refine zb4 ?_
 refine sS [0, 1, 4, 5, 5000] [0] ?_
 refine zk7 ?_
 refine zca ?_
 refine sS [0, 1, 4, 5, 6, 5000] [0] ?_
 refine rA ?_ (x := cM Cp.ptr)
 refine zie ?_
 refine rA ?_ (x := loc_xcall0 (bx := 0) (qs := [(false, [val _])]) (as_ := [(false, [val _])]) (by decide) c_38 rfl (by exact (aI (by exact ⟨⟩) tI)) (by exact (aI (aI rfl (ToL.cons (PV.To.refl _) ToL.nil)) tI)) (by exact (BorL.cons (hbo _) (BorL.cons (bor_val _) (BorL.cons (bor_val _) BorL.nil)))) (by exact (borA_cons (BorL.cons (bor_val _) BorL.nil) borA_nil)) (by exact (x_l1Below hbo (by omega))))
 refine rS ?_
 refine sw_block ?_
 refine sP [0, 1, 4, 5, 6, 7, 5000] [0] ?_
 refine sL [0, 1, 4, 5000] [] (fun k : Nat => (k : Int) ≤ (belowC (belowC c 3).2 (most + 1)).1) (fun k : Nat => [(5, RV.slc (.own 45 2) ((rowsTo (belowC c 3).1 (belowC (belowC c 3).2 (most + 1)).2 k).l.map (cRow (.own 3 1)))), (6, RV.int (rowsTo (belowC c 3).1 (belowC (belowC c 3).2 (most + 1)).2 k).id), (7, RV.int ((belowC (belowC c 3).2 (most + 1)).1 - (k : Int)))]) (fun k : Nat => [(0, (85, cCur o (rowsTo (belowC c 3).1 (belowC (belowC c 3).2 (most + 1)).2 k).c))]) (fun k : Nat => ((belowC (belowC c 3).2 (most + 1)).1 - (k : Int)).toNat) 0 (by omega) (by exact aI (by exact rfl) (aI (by exact rfl) (aI (by exact int_eq (by omega)) (tI)))) (by exact aI (by exact rfl) (tI)) ?_
 rintro k hk
 have hid := rowsTo_id (id := (belowC c 3).1) (c := (belowC (belowC c 3).2 (most + 1)).2) (k := k) (by omega)
 have hln := rowsTo_len (id := (belowC c 3).1) (c := (belowC (belowC c 3).2 (most + 1)).2) (k := k)
 have hb3 := belowC_ge (rowC (rowsTo (belowC c 3).1 (belowC (belowC c 3).2 (most + 1)).2 k).c (rowsTo (belowC c 3).1 (belowC (belowC c 3).2 (most + 1)).2 k).id).2 3
 have hb4 := belowC_lt (rowC (rowsTo (belowC c 3).1 (belowC (belowC c 3).2 (most + 1)).2 k).c (rowsTo (belowC c 3).1 (belowC (belowC c 3).2 (most + 1)).2 k).id).2 (n := 3) (by decide)
 refine zk8 ?_
 refine sc (fun hba => ?_) (fun hba => ?_)
 have hlt : (k : Int) < (belowC (belowC c 3).2 (most + 1)).1 := by omega
 refine zdn ?_
 refine zk9 ?_
 refine rA ?_ (x := tM)
 refine rA ?_ (x := cM Cp.ptr)
 refine rM ?_
 refine rA ?_ (x := loc_xcall0 (bx := 0) (qs := [(false, [val _])]) (as_ := [(false, [val _])]) (by decide) c_72 rfl (by exact (aI (by exact ⟨⟩) tI)) (by exact (aI (aI rfl (ToL.cons (PV.To.refl _) ToL.nil)) tI)) (by exact (BorL.cons (hbo _) (BorL.cons (bor_val _) (BorL.cons (bor_val _) BorL.nil)))) (by exact (borA_cons (BorL.cons (bor_val _) BorL.nil) borA_nil)) (by exact (x_l3Row hbo)))
 refine zb5 ?_
 refine rA ?_ (x := tA)
 refine sG [0, 1, 4, 5, 6, 7, 5000] [0] ?_
 refine zie ?_
 refine zka ?_
 refine rS ?_
 refine sG [0, 1, 4, 5, 6, 7, 5000] [0] ?_
 refine rM ?_
 refine zjv ?_
 refine nx (k + 1) (by omega) (e := (by exact aI (by exact slc_eq (by simp only [rowsTo, List.map_append]; rfl)) (aI (by exact rfl) (aI (by exact int_eq (by omega)) (tI)))))
 have hend : (belowC (belowC c 3).2 (most + 1)).1.toNat = k := by omega
 refine zbx ?_
 refine zk9 ?_
 refine zdc ?_
 exact ⟨(by show _ = some (85, cCur o (rowsTo (belowC c 3).1 (belowC (belowC c 3).2 (most + 1)).2 (belowC (belowC c 3).2 (most + 1)).1.toNat).c); rw [hend]; exact rfl), rfl, (aI (by refine slc_eq ?_; show _ = List.map _ (rowsTo _ _ _).l; rw [hend]) tI)⟩
end Go.Proofs.Ytmekkgdboplbjaa
