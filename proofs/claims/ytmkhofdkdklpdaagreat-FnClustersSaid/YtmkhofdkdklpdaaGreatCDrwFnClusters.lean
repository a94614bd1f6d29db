/- What functions of the program compute. No condition. -/
import Derived.Test.YtmkhofdkdklpdaaGreatCZMFnClusters
import Derived.Test.YtmkhofdkdklpdaaGreatCFcFnClusters
import Derived.Test.YtmkhofdkdklpdaaGreatCDb
import Derived.Test.YtmkhofdkdklpdaaGreatCDw
import Derived.KernelRfl
set_option linter.unusedVariables false
set_option linter.unusedSimpArgs false
namespace Go.Proofs.YtmkhofdkdklpdaaGreat
open Go Go.RowKit M PV
set_option maxRecDepth 10000
attribute [local irreducible] PV.Lcl PV.LclR RV.Lcl
attribute [local irreducible] belowC byteC
theorem FDrw_pl_63 : placesI Tryz.prog 63 = some [(0, 1), (1, 1)] := by kernel_rfl
theorem FDrw_pl_74 : placesI Tryz.prog 74 = some [(0, 1), (1, 1), (2, 1)] := by kernel_rfl
theorem FDrw_ui_3 : Tryz.prog.underlying 3 = some (.int .i64) := by kernel_rfl
theorem FDrw_ui_5 : Tryz.prog.underlying 5 = some (.int .u8) := by kernel_rfl
theorem n_l1New {code : List Int}  (hb : code.length ≤ 9223372036854775807) (hb2 : code.length ≤ 4611686018427387904) : NCall Tryz.prog 33 74 [(false, [sl .v (code.map cU8)])] (cCur .v (curNew code hb)) := by
 refine ncall_of (rs := 2) Tryz.func33 rfl rfl (nl rfl) (borA_cons (BorL.cons (bor_sl _) BorL.nil) borA_nil) (by exact (BorL.cons (bor_sl _) (BorL.cons (bor_val _) (BorL.cons (bor_val _) BorL.nil)))) ?_
 intro h0 w0 Fz0
 refine sj 0 fun hl0 => ?_
 refine za0 ?_
 refine za1 ?_
 refine rA ?_ (x := lN sl_22)
 refine rA ?_ (x := B_add)
 refine za2 ?_
 refine za3 ?_
 refine sL [0, 2] [] (fun k : Nat => k ≤ code.length ∧ k ≤ 4000) (fun k : Nat => [(3, RV.int (hashTo code k)), (4, RV.int (k : Int))]) (fun k : Nat => []) (fun k : Nat => code.length - k) 0 (by omega) (by exact aI (by exact rfl) (aI (by exact rfl) (tI))) (by exact ⟨⟩) ?_
 rintro k ⟨hk, hk4⟩
 refine za4 ?_
 refine rA ?_ (x := vM false [sl .v _])
 refine rA ?_ (x := lN sl_22)
 refine rA ?_ (x := B_lss)
 refine rM ?_
 refine cx 12 (fun ga sga => ?_) (fun ga sga => ?_)
 refine rB ga ?_ (x := sM)
 refine za5 ?_
 refine sc (fun hba => ?_) (fun hba => ?_)
 have hlt : k < code.length := by omega
 have hl4 : k < 4000 := by omega
 refine za6 ?_
 refine sG [0, 2, 3, 4] [] ?_
 refine rM ?_
 refine rA ?_ (x := loc_mulW (by decide) (by exact ⟨⟩) (ok_sc rfl))
 refine za7 ?_
 refine rA ?_ (x := loc_index (by decide) sl_22 (by exact ⟨⟩) (by exact rfl) (by exact getm2 (by omega) rfl) (by exact rfl))
 refine rA ?_ (x := lE [val _] ty_5)
 refine rA ?_ (x := loc_conv FDrw_ui_5 FDrw_ui_3 rfl)
 refine rA ?_ (x := loc_addW (by decide) (by exact ⟨⟩) (by exact ⟨⟩))
 refine rA ?_ (x := loc_addW (by decide) (by exact ⟨⟩) (ok_sc rfl))
 refine rA ?_ (x := loc_andW (by decide) (by exact ⟨⟩) (ok_sc rfl))
 refine rS ?_
 refine sG [0, 2, 3, 4] [] ?_
 refine za8 ?_
 refine nx (k + 1) (by omega) (e := (by exact aI (by exact int_eq (by rw [hashTo, List.getD_eq_getElem?_getD, List.getElem?_eq_getElem hlt]; rfl)) (aI (by exact int_eq (by omega)) (tI))))
 exact za9
 refine zaa ?_
 refine scF ?_
 exact za9
theorem x_l1Byte {o : Fl} {c : Cur} (hbo : ∀ es, (sl o es).Bor)  : XCall Tryz.prog 89 74 (cCur o c) (cCur o (byteC c).2) [] (resRV [(false, [val (vI (byteC c).1)])]) := by
 refine xcall_of (rs := [(false, [val (vI (byteC c).1)])]) Tryz.func89 rfl (nl rfl) (nl rfl) ?_
 intro g_ h0 w0 Fz0
 have hcb := c.hb
 refine zab ?_
 refine sO [(0, _), (2, _), (5000, _)] [(0, (74, [sl o _, val _, val _]))] ?_
 refine zac ?_
 refine rA ?_ (x := cM Cp.ptr)
 refine rA ?_ (x := loc_nilchk (by decide))
 refine rA ?_ (x := lF fd_74_2)
 refine rA ?_ (x := lD [val _] ty_3)
 refine rA ?_ (x := loc_mulW (by decide) (by exact ⟨⟩) (ok_sc rfl))
 refine rA ?_ (x := loc_addW (by decide) (by exact ⟨⟩) (ok_sc rfl))
 refine rA ?_ (x := loc_nilchk (by decide))
 refine rA ?_ (x := lF fd_74_2)
 refine zad ?_
 refine sO [(0, _), (2, _), (5000, _)] [(0, (74, [sl o _, val _, val _]))] ?_
 refine sw_draw hm_ ?_
 refine dA 0 ?_ (x := cM Cp.ptr)
 refine dA 1 ?_ (x := loc_nilchk (by decide))
 refine dA 3 ?_ (x := lF fd_74_2)
 refine dA 7 ?_ (x := lD [val _] ty_3)
 refine dA 15 ?_ (x := loc_shr (m := 33) rfl (by decide))
 refine dA 0 ?_ (x := cM Cp.ptr)
 refine dA 32 ?_ (x := loc_nilchk (by decide))
 refine dA 96 ?_ (x := lF fd_74_2)
 refine dA 224 ?_ (x := lD [val _] ty_3)
 refine dA 480 ?_ (x := loc_shr (m := 45) rfl (by decide))
 refine dA 1023 ?_ (x := loc_xorW (by decide) (by exact ⟨⟩) (by exact ⟨⟩))
 refine dA 2047 ?_ (x := loc_andW (by decide) (by exact ⟨⟩) (ok_sc rfl))
 refine dA 4095 ?_ (x := sA)
 refine zae ?_
 refine sP [0, 2, 3, 5000] [0] ?_
 refine sw_draw hm_ ?_
 refine dA 0 ?_ (x := cM Cp.ptr)
 refine dA 1 ?_ (x := loc_nilchk (by decide))
 refine dA 3 ?_ (x := lF fd_74_1)
 refine dA 7 ?_ (x := lD [val _] ty_3)
 refine dA 0 ?_ (x := cM Cp.ptr)
 refine dA 16 ?_ (x := loc_nilchk (by decide))
 refine dA 48 ?_ (x := lF fd_74_0)
 refine dA 112 ?_ (x := lD [sl .v _] ty_22)
 refine dA 240 ?_ (x := lN sl_22)
 refine dA 511 ?_ (x := B_lss)
 refine sc (fun hba => ?_) (fun hba => ?_)
 have hlt : c.i < c.b.length := by omega
 have hr := byteC_yes hlt
 have hge : c.b[c.i] = c.b.getD c.i 0 := by rw [List.getD_eq_getElem?_getD, List.getElem?_eq_getElem hlt]; rfl
 refine sw_seq ?_
 refine sP [0, 2, 3, 5000] [0] ?_
 refine zaf ?_
 refine dA 0 ?_ (x := cM Cp.ptr)
 refine dA 2 ?_ (x := loc_nilchk (by decide))
 refine dA 6 ?_ (x := lF fd_74_0)
 refine dA 14 ?_ (x := lD [sl .v _] ty_22)
 refine dA 0 ?_ (x := cM Cp.ptr)
 refine dA 32 ?_ (x := loc_nilchk (by decide))
 refine dA 96 ?_ (x := lF fd_74_1)
 refine dA 224 ?_ (x := lD [val _] ty_3)
 refine dA 510 ?_ (x := loc_index (k := c.i) (by decide) sl_22 (by exact ⟨⟩) (by rfl) (by exact getm2 hlt (by rw [hge])) (by exact rfl))
 refine dA 1022 ?_ (x := lE [val _] ty_5)
 refine dA 2046 ?_ (x := loc_conv FDrw_ui_5 FDrw_ui_3 rfl)
 refine dA 4095 ?_ (x := loc_addW (by decide) (by exact ⟨⟩) (by exact ⟨⟩))
 refine dA 8191 ?_ (x := loc_andW (by decide) (by exact ⟨⟩) (ok_sc rfl))
 refine dA 16383 ?_ (x := sA)
 refine sG [0, 2, 3, 5000] [0] ?_
 refine rA ?_ (x := cM Cp.ptr)
 refine rA ?_ (x := cM Cp.ptr)
 refine rA ?_ (x := loc_nilchk (by decide))
 refine rA ?_ (x := lF fd_74_1)
 refine rA ?_ (x := lD [val _] ty_3)
 refine rA ?_ (x := B_add)
 refine rA ?_ (x := loc_nilchk (by decide))
 refine rA ?_ (x := lF fd_74_1)
 refine zad ?_
 refine sO [(0, _), (2, _), (3, _), (5000, _)] [(0, (74, [sl o _, val _, val _]))] ?_
 refine sw_reg ?_
 exact zag
 have hr := byteC_no (c := c) (by omega)
 refine sw_skip ?_
 refine sS [0, 2, 3, 5000] [0] ?_
 exact zag
theorem x_l1Below {o : Fl} {c : Cur} (hbo : ∀ es, (sl o es).Bor) {n : Int}  (hn : n ≤ 256) : XCall Tryz.prog 65 74 (cCur o c) (cCur o (belowC c n).2) [(false, [val (vI n)])] (resRV [(false, [val (vI (belowC c n).1)])]) := by
 refine xcall_of (rs := [(false, [val (vI (belowC c n).1)])]) Tryz.func65 rfl (nl rfl) (nl rfl) ?_
 intro g_ h0 w0 Fz0
 refine zab ?_
 refine sw_seq ?_
 refine sO [(0, _), (1, _), (4, _), (5000, _)] [(0, (74, [sl o _, val _, val _]))] ?_
 refine zah ?_
 refine rA ?_ (x := B_leq)
 refine sc (fun hba => ?_) (fun hba => ?_)
 have hr := belowC_no (c := c) hba
 refine sS [0, 1, 4, 5000] [0] ?_
 refine rK ?_
 exact zai
 have hn0 : 0 < n := by omega
 have hr := belowC_yes (c := c) hn0
 refine zaj ?_
 refine sS [0, 1, 4, 5000] [0] ?_
 refine rM ?_
 refine rA ?_ (x := B_leq)
 refine sc (fun hbb => ?_) (fun hbb => ?_)
 refine sS [0, 1, 4, 5000] [0] ?_
 refine rA ?_ (x := cM Cp.ptr)
 refine rA ?_ (x := loc_xcall0 (bx := 0) (qs := []) (as_ := []) (by decide) c_89 rfl (by exact ⟨⟩) (by exact ⟨⟩) (by exact (BorL.cons (hbo _) (BorL.cons (bor_val _) (BorL.cons (bor_val _) BorL.nil)))) (by exact borA_nil) (by exact (x_l1Byte hbo)))
 refine rM ?_
 refine rA ?_ (x := loc_rem (by decide) (by exact ⟨⟩) (by exact ⟨⟩) (by omega))
 refine rS ?_
 exact zai
 omega
theorem x_l1PickInt {o : Fl} {c : Cur} (hbo : ∀ es, (sl o es).Bor) {l : List Int}  (hl : 0 < l.length) (hl2 : l.length ≤ 256) : XCall Tryz.prog 64 74 (cCur o c) (cCur o (pickC c l).2) [(false, [sl .v (l.map cInt)])] (resRV [(false, [val (vI (pickC c l).1)])]) := by
 refine xcall_of (rs := [(false, [val (vI (pickC c l).1)])]) Tryz.func64 rfl (nl rfl) (nl rfl) ?_
 intro g_ h0 w0 Fz0
 refine sj 1 fun hl1 => ?_
 have hg := belowC_ge c (l.length : Int)
 have hg2 := belowC_lt c (n := (l.length : Int)) (by omega)
 refine zak ?_
 refine zal ?_
 refine rA ?_ (x := cM Cp.ptr)
 refine zam ?_
 refine rA ?_ (x := loc_xcall0 (bx := 0) (qs := [(false, [val _])]) (as_ := [(false, [val _])]) (by decide) c_65 rfl (by exact (aI (by exact ⟨⟩) tI)) (by exact (aI (aI rfl (ToL.cons (PV.To.refl _) ToL.nil)) tI)) (by exact (BorL.cons (hbo _) (BorL.cons (bor_val _) (BorL.cons (bor_val _) BorL.nil)))) (by exact (borA_cons (BorL.cons (bor_val _) BorL.nil) borA_nil)) (by exact (x_l1Below hbo (by omega))))
 refine rA ?_ (x := loc_index (k := (belowC c (l.length : Int)).1.toNat) (by decide) sl_25 (by exact ⟨⟩) (by omega) (by exact getm2 (by omega) rfl) (by exact rfl))
 refine rA ?_ (x := lE [val _] ty_3)
 refine zan ?_
 exact ⟨(by exact rfl), rfl, (aI (by refine int_eq ?_; show _ = l.getD _ 0; rw [List.getD_eq_getElem?_getD, List.getElem?_eq_getElem (by omega)]; rfl) tI)⟩
theorem x_l1Once {o : Fl} {c : Cur} (hbo : ∀ es, (sl o es).Bor) {n : Int}  (hn : n ≤ 256) : XCall Tryz.prog 111 74 (cCur o c) (cCur o (belowC c n).2) [(false, [val (vI n)])] (resRV [(false, [val (.bool (decide ((belowC c n).1 = 0)))])]) := by
 refine xcall_of (rs := [(false, [val (.bool (decide ((belowC c n).1 = 0)))])]) Tryz.func111 rfl (nl rfl) (nl rfl) ?_
 intro g_ h0 w0 Fz0
 refine zak ?_
 refine zac ?_
 refine zao ?_
 refine rA ?_ (x := B_eql)
 refine zan ?_
 exact ⟨(by exact rfl), rfl, (aI (by exact rfl) tI)⟩
theorem x_l3Row {o : Fl} {c : Cur} (hbo : ∀ es, (sl o es).Bor) {id : Int}  : XCall Tryz.prog 93 74 (cCur o c) (cCur o (rowC c id).2) [(false, [val (vI id)])] (resRV [(true, [val (vI (rowC c id).1.Id), sl (.own 3 1) ((rowC c id).1.Values.map cInt)])]) := by
 refine xcall_of (rs := [(true, [val (vI (rowC c id).1.Id), sl (.own 3 1) ((rowC c id).1.Values.map cInt)])]) Tryz.func93 rfl (nl rfl) (nl rfl) ?_
 intro g_ h0 w0 Fz0
 have hp3 := pick3 c
 refine sR ?_
 refine zap ?_
 refine sO [(0, _), (1, _), (4, _), (5000, _)] [(0, (74, [sl o _, val _, val _])), (4, (63, [val _, sl _ _]))] ?_
 refine zah ?_
 refine rA ?_ (x := loc_build (qs := [(false, [val _])]) (cs := [val _, sl _ _]) (by decide) z_63 zo_63 FDrw_pl_63 (by exact rfl) (by exact (aI (by exact ⟨⟩) tI)) rfl (by exact rfl))
 refine zaq ?_
 refine sw_seq ?_
 refine sO [(0, _), (1, _), (4, _), (5, _), (5000, _)] [(0, _), (4, _), (5, (63, [val _, sl _ _]))] ?_
 refine zac ?_
 refine zar ?_
 refine za2 ?_
 refine sS [0, 1, 4, 5, 6, 5000] [0, 4, 5] ?_
 refine zas ?_
 refine sP [0, 1, 4, 5, 6, 7, 5000] [0, 4, 5] ?_
 refine sL [0, 1, 4, 5, 6, 5000] [4] (fun k : Nat => k ≤ 3) (fun k : Nat => [(7, RV.int (k : Int))]) (fun k : Nat => [(0, (74, cCur o (valsC (pickC c [3, 6, 100]).1 (pickC c [3, 6, 100]).2 k).2)), (5, (63, [val (vI id), sl (.own 3 1) ((valsC (pickC c [3, 6, 100]).1 (pickC c [3, 6, 100]).2 k).1.map cInt)]))]) (fun k : Nat => 3 - k) 0 (by omega) (by exact aI (by exact rfl) (tI)) (by exact aI (by exact rfl) (aI (by exact rfl) (tI))) ?_
 rintro k hk
 have hvl : ((valsC (pickC c [3, 6, 100]).1 (pickC c [3, 6, 100]).2 k).1).length = k := valsC_len
 refine zat ?_
 refine sc (fun hba => ?_) (fun hba => ?_)
 have hlt : k < 3 := by omega
 refine zau ?_
 refine sO [(0, _), (1, _), (4, _), (5, _), (6, _), (7, _), (5000, _)] [(0, (74, [sl o _, val _, val _])), (4, (63, [val _, sl _ _])), (5, (63, [val _, sl _ _]))] ?_
 refine zac ?_
 refine zao ?_
 refine rS ?_
 refine sG [0, 1, 4, 5, 6, 7, 8, 5000] [0, 4, 5] ?_
 refine rA ?_ (x := lF fd_63_1)
 refine zav ?_
 refine zaw ?_
 refine zax ?_
 refine sO [(0, _), (1, _), (4, _), (5, _), (6, _), (7, _), (8, _), (5000, _)] [(0, _), (4, _), (5, (63, [val _, sl _ _]))] ?_
 refine sw_reg ?_
 refine za8 ?_
 refine nx (k + 1) (by omega) (e := (by exact aI (by exact int_eq (by omega)) (tI))) (f := (by exact aI (by exact rfl) (aI (by simp only [valsC, List.map_append]; exact rfl) (tI))))
 have hend : k = 3 := by omega
 refine zay ?_
 refine sO [(0, _), (1, _), (4, _), (5, _), (6, _), (7, _), (5000, _)] [(0, (74, [sl o _, val _, val _])), (4, (63, [val _, sl _ _])), (5, (63, [val _, sl _ _]))] ?_
 refine sw_reg ?_
 refine zaz ?_
 refine sw_ret ?_
 exact ⟨(by subst hend; exact rfl), rfl, (Exists.intro 4 (Exists.intro _ (aI (by exact rfl) (aI (by refine box_eq ?_; subst hend; exact rfl) (aI ty_63 (aI (fun h => nomatch h) tI))))))⟩
theorem x_l3Any {c : Cur}  : XCall Tryz.prog 68 74 (cCur .v c) (cCur .v (anyC c).2) [] (resRV [(true, [val (vI (anyC c).1.Id), sl (.own 3 1) ((anyC c).1.Values.map cInt)])]) := by
 refine xcall_of (rs := [(true, [val (vI (anyC c).1.Id), sl (.own 3 1) ((anyC c).1.Values.map cInt)])]) Tryz.func68 rfl (nl rfl) (nl rfl) ?_
 intro g_ h0 w0 Fz0
 refine sw_lowB (fun L => [(0, RV.ptr 0 0), (5000, RV.phi 0 g_)]) (fun L => [(0, (74, [sl (.lo L) (c.b.map cU8), val (vI (c.i : Int)), val (vI c.h)]))]) (fun L => by exact (LowS.cons LowR.ptr (LowS.cons LowR.phi tI))) (fun L => by exact (LowB1.cons (ToBL.cons (PV.tob_map (fun _ => nl rfl) (fun _ => (ToBL.cons PV.tob_refl ToBL.nil))) (ToBL.cons PV.tob_refl (ToBL.cons PV.tob_refl ToBL.nil))) (BorL.cons (bor_lo _ _) (BorL.cons (bor_val _) (BorL.cons (bor_val _) BorL.nil))) tI)) fun Bl w0 Fz0 => ?_
 have hv3 : (anyR c).1.Values.length = 3 := valsC_len
 have hv4 : (rowC (belowC c 9).2 (belowC c 9).1).1.Values.length = 3 := valsC_len
 have hv0 : 0 < (anyR c).1.Values.length := by omega
 refine sR ?_
 refine zap ?_
 refine sO [(0, _), (2, _), (5000, _)] [(0, (74, [sl (.lo _) _, val _, val _])), (2, (63, [val _, sl _ _]))] ?_
 refine zac ?_
 refine zb0 ?_
 refine rA ?_ (x := loc_xcall0 (bx := 0) (qs := [(false, [val _])]) (as_ := [(false, [val _])]) (by decide) c_93 rfl (by exact (aI (by exact ⟨⟩) tI)) (by exact (aI (aI rfl (ToL.cons (PV.To.refl _) ToL.nil)) tI)) (by exact (BorL.cons (bor_lo _ _) (BorL.cons (bor_val _) (BorL.cons (bor_val _) BorL.nil)))) (by exact (borA_cons (BorL.cons (bor_val _) BorL.nil) borA_nil)) (by exact (x_l3Row (fun es => bor_lo _ es))))
 refine zaq ?_
 refine zae ?_
 refine sO [(0, _), (2, _), (3, _), (5000, _)] [(0, _), (2, _), (3, (63, [val _, sl _ _]))] ?_
 refine sw_reg ?_
 refine zb0 ?_
 refine sw_block ?_
 refine zb1 ?_
 refine sc (fun hba => ?_) (fun hba => ?_)
 have hr := anyC_0 (c := c) hba
 refine sG [0, 2, 3, 9, 5000] [0, 2, 3] ?_
 refine rA ?_ (x := cM Cp.ptr)
 refine rA ?_ (x := loc_bslice (qs := [(false, [val _]), (false, [val _]), (false, [val _])]) (by decide) sl_25 z_3 (by decide) rfl rfl rfl rfl rfl (by exact nl rfl) (by exact (aI (ok_sc rfl) (aI (ok_sc rfl) (aI (ok_sc rfl) tI)))) rfl)
 refine rA ?_ (x := loc_xcall0 (bx := 0) (qs := [(false, [sl _ _])]) (as_ := [(false, [sl .v _])]) (by decide) c_64 rfl (by exact (aI (by exact ⟨⟩) tI)) (by exact (aI (aI rfl (ToL.cons PV.to_none ToL.nil)) tI)) (by exact (BorL.cons (bor_lo _ _) (BorL.cons (bor_val _) (BorL.cons (bor_val _) BorL.nil)))) (by exact (borA_cons (BorL.cons (bor_sl _) BorL.nil) borA_nil)) (by exact (x_l1PickInt (l := [-1, 999, 1000]) (fun es => bor_lo _ es) (by decide) (by decide))))
 refine rA ?_ (x := lF fd_63_0)
 refine rA ?_ (x := loc_store (ag := false) (vs := [val _]) ty_3 (by exact ⟨⟩) (by exact rfl) (by exact nl rfl))
 exact zb2
 have h0_ := hba
 refine zb1 ?_
 refine sc (fun hbb => ?_) (fun hbb => ?_)
 have hr := anyC_1 (c := c) h0_ hbb
 refine sP [0, 2, 3, 9, 5000] [0, 2, 3] ?_
 refine sw_thawB (d := 3) (t := 63) (D := 900) (G := 2900) (E := 3) (e := 1) (L := Bl) (A := [val _]) (B := []) (es := ((anyR c).1.Values).map cInt) (by exact rfl) (map_ne hv0) (by exact rfl) (by exact rfl) rfl (by exact rfl) (fun x hx => hx) (by exact (aI RV.lcl_ptr (aI RV.lcl_ptr (aI RV.lcl_ptr (aI (RV.lcl_sv (LclC.cons lcl_val LclC.nil)) (aI RV.lcl_phi tI)))))) (by exact (aI (.inr (LclC.cons (lcl_lo (LclRC.map fun x => (LclRC.cons PV.lclr_val LclRC.nil))) (LclC.cons lcl_val (LclC.cons lcl_val LclC.nil)))) (aI (.inr (LclC.cons lcl_val (LclC.cons (lcl_own (by first | exact (LclC.map fun x => (LclC.cons lcl_val LclC.nil)) | exact (fun cs h => nomatch h))) LclC.nil))) (aI (.inl rfl) tI)))) (by exact lc) (by exact LclC.nil) (LclC.map fun x => (LclC.cons lcl_val LclC.nil)) fun uu900 cp900 jk900 hlD900 hcp900 hjk900 => ?_
 rw [List.length_map] at hlD900 hcp900 hjk900
 refine sw_boxEq (d := 900) (by exact rfl) (at_split (k := 0) hv0) ?_
 have hA900 := at_len (f := cInt) (e := 1) (xs := (anyR c).1.Values) (k := 0) (fun _ => rfl) (Nat.le_of_lt hv0)
 refine sO [(0, _), (2, _), (3, _), (9, _), (2900, _), (5000, _)] [(0, _), (2, _), (3, (63, [val _, val _])), (900, (3, _ ++ ([val _] ++ _)))] ?_
 refine sw_draw hm_ ?_
 refine dA 0 ?_ (x := lF fd_63_1)
 refine dA 1 ?_ (x := lD [val _] ty_25)
 refine dA 0 ?_ (x := cM Cp.ptr)
 refine dA 0 ?_ (x := loc_bslice (qs := [(false, [val _]), (false, [val _]), (false, [val _])]) (by decide) sl_25 z_3 (by decide) rfl rfl rfl rfl rfl (by exact nl rfl) (by exact (aI (ok_sc rfl) (aI (ok_sc rfl) (aI (ok_sc rfl) tI)))) rfl)
 refine dA 12 ?_ (x := loc_xcall0 (bx := 0) (qs := [(false, [sl _ _])]) (as_ := [(false, [sl .v _])]) (by decide) c_64 rfl (by exact (aI (by exact ⟨⟩) tI)) (by exact (aI (aI rfl (ToL.cons PV.to_none ToL.nil)) tI)) (by exact (BorL.cons (bor_lo _ _) (BorL.cons (bor_val _) (BorL.cons (bor_val _) BorL.nil)))) (by exact (borA_cons (BorL.cons (bor_sl _) BorL.nil) borA_nil)) (by exact (x_l1PickInt (l := [-1, 99, 100]) (fun es => bor_lo _ es) (by decide) (by decide))))
 refine dA 31 ?_ (x := loc_gidx (k := 0) (G := 2900) (by decide) sl_25 (ok_sc rfl) (by rfl) (by first | (rw [List.length_map]; exact hv0) | exact hv0))
 refine dA 63 ?_ (x := loc_storeM (o := 0) (ag := false) (vs := [val _]) (by omega) ty_3 (by exact ⟨⟩) (by exact rfl) (by exact nl rfl))
 refine sw_boxEq (d := 900) (by exact rfl) (at_join ((pickC (anyB c).2 [-1, 99, 100]).1) hv0 (by exact rfl)) ?_
 refine sw_frzIn (d := 3) (D := 900) (G := 2900) (A := [val _]) (B := []) (es := (((anyR c).1.Values).set 0 ((pickC (anyB c).2 [-1, 99, 100]).1)).map cInt) (by exact rfl) (by exact rfl) (by exact rfl) rfl (by rw [List.length_map, List.length_set, List.length_map]) (by intro c hc; obtain ⟨y, _, rfl⟩ := List.mem_map.1 hc; exact rfl) (by rw [List.length_map]; exact hjk900) ?_
 exact zb2
 have h1_ := hbb
 refine zb1 ?_
 refine sc (fun hbc => ?_) (fun hbc => ?_)
 have hr := anyC_2 (c := c) h0_ h1_ hbc
 refine sG [0, 2, 3, 9, 5000] [0, 2, 3] ?_
 refine rA ?_ (x := lF fd_63_1)
 refine zb3 ?_
 refine rA ?_ (x := loc_append (by decide) sl_25 z_3 rfl rfl (by decide) rfl (by simp only [List.length_map, List.length_append, List.length_cons, List.length_nil]; omega) (by simp only [List.length_map, List.length_append, List.length_cons, List.length_nil]; omega))
 refine zax ?_
 exact zb2
 have hr := anyC_3 (c := c) h0_ h1_ hbc
 refine sw_skip ?_
 refine sS [0, 2, 3, 9, 5000] [0, 2, 3] ?_
 exact zb4
end Go.Proofs.YtmkhofdkdklpdaaGreat
