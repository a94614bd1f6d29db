/- What functions of the program compute. No condition. -/
import Derived.Test.YtmekkgdboplbjaaCZMFnIsolation
import Derived.Test.YtmekkgdboplbjaaCFcFnIsolation
import Derived.Test.YtmekkgdboplbjaaCDrzFnIsolation
import Derived.Test.YtmekkgdboplbjaaCCpyFnIsolation
import Derived.Test.YtmekkgdboplbjaaCUpdFnIsolation
import Derived.Test.YtmekkgdboplbjaaCStoFnIsolation
import Derived.Test.YtmekkgdboplbjaaCDge
import Derived.KernelRfl
set_option linter.unusedVariables false
set_option linter.unusedSimpArgs false
namespace Go.Proofs.Ytmekkgdboplbjaa
open Go Go.RowKit M PV
set_option maxRecDepth 10000
attribute [local irreducible] PV.Lcl PV.LclR RV.Lcl
set_option maxHeartbeats 8000000
attribute [local irreducible] belowC byteC
theorem FDst_pl_107 : placesI Try.prog 107 = some [(0, 1), (1, 1), (2, 1), (3, 1)] := by kernel_rfl
theorem FDst_pl_26 : placesI Try.prog 26 = some [(0, 1), (1, 1)] := by kernel_rfl
theorem FDst_pl_32 : placesI Try.prog 32 = some [(0, 2), (2, 1), (3, 1), (4, 1), (5, 1), (6, 1), (7, 1)] := by kernel_rfl
theorem FDst_pl_45 : placesI Try.prog 45 = some [(0, 1), (1, 1)] := by kernel_rfl
theorem FDst_pl_47 : placesI Try.prog 47 = some [(0, 1), (1, 2), (3, 1), (4, 1)] := by kernel_rfl
theorem FDst_pl_49 : placesI Try.prog 49 = some [(0, 1), (1, 4), (5, 1), (6, 1), (7, 5), (12, 1)] := by kernel_rfl
theorem spec_AreRows {p1 : Fl} {l : List Row}  : SCall Try.prog 71 [(false, [sl .v (l.map (cRow p1))])] (resRV [(false, [val (.bool (areRows l))])]) := by
 refine sF Try.func71 fun h0 w0 Fz0 => ?_
 refine sj 0 fun hl0 => ?_
 refine zat ?_
 refine zao ?_
 refine sP [0, 2, 3] [] ?_
 refine sL [0] [] (fun k : Nat => k ≤ l.length ∧ adjTo r0_ okRow ltRow l k = true) (fun k : Nat => [(3, RV.int (k : Int))]) (fun k : Nat => []) (fun k : Nat => l.length - k) 0 (by exact ⟨by omega, rfl⟩) (by exact aI (by exact rfl) (tI)) (by exact ⟨⟩) ?_
 rintro k ⟨hk, ha⟩
 refine zap ?_
 refine zau ?_
 refine rA ?_ (x := B_lss)
 refine sc (fun hba => ?_) (fun hba => ?_)
 have hlt : k < l.length := by omega
 have hgk : l.getD k r0_ = l[k] := getD_at hlt
 have hgp : 0 < k → l.getD (k - 1) r0_ = l[k - 1] := fun h => getD_at (by omega)
 refine zdn ?_
 refine sP [0, 3] [] ?_
 refine zdl ?_
 refine zj0 ?_
 refine dA 15 ?_ (x := cL [(true, [val _, sl _ _])] [(true, [val _, sl .v _])] c_90 (hs := by exact spec_IsRow))
 refine dA 31 ?_ (x := nT)
 refine dA 63 ?_ (x := sM)
 refine dx 16 (fun ga sga => ?_) (fun ga sga => ?_)
 refine dT 127 ga ?_
 refine dT 255 ga ?_
 refine dT 511 ga ?_
 refine dU 1023 ?_
 refine dU 1023 ?_
 refine dU 4095 ?_
 refine dU 8191 ?_
 refine dU 16383 ?_
 refine dU 1023 ?_
 refine dU 1023 ?_
 refine dU 66559 ?_
 refine dU 230399 ?_
 refine dU 492543 ?_
 refine dU 1016831 ?_
 refine dU 2097151 ?_
 refine dT 4194303 ga ?_
 refine dA 8388607 ?_ (x := pkT ga)
 refine scT ?_
 exact zkh
 refine dB 127 ga ?_ (x := sM)
 refine dB 255 ga ?_ (x := B_gtr)
 refine dB 511 ga ?_ (x := sM)
 refine dx 19 (fun gb sgb => ?_) (fun gb sgb => ?_)
 refine dB 1023 gb ?_ (x := vM false [sl .v _])
 refine dB 1023 gb ?_ (x := sM)
 refine dB 4095 gb ?_ (x := loc_index (by decide) sl_52 (by exact ⟨⟩) (by exact rfl) (by exact getm2 (by omega) rfl) (by exact rfl))
 refine dB 8191 gb ?_ (x := loc_efield (by decide) fd_45_0 (by exact nl rfl))
 refine dB 16383 gb ?_ (x := lE [val _] ty_3)
 refine dB 1023 gb ?_ (x := vM false [sl .v _])
 refine dB 1023 gb ?_ (x := sM)
 refine dB 66559 gb ?_ (x := B_sub)
 refine dB 230399 gb ?_ (x := loc_index (k := k - 1) (by decide) sl_52 (by exact ⟨⟩) (by omega) (by exact getm2 (by omega) rfl) (by exact rfl))
 refine dB 492543 gb ?_ (x := loc_efield (by decide) fd_45_0 (by exact nl rfl))
 refine dB 1016831 gb ?_ (x := lE [val _] ty_3)
 refine dB 2097151 gb ?_ (x := B_leq)
 refine dB 4194303 ga ?_ (x := pkT gb)
 refine dA 8388607 ?_ (x := pkF ga)
 refine sc (fun hbb => ?_) (fun hbb => ?_)
 exact zkh
 exact zki
 refine dF 1023 gb ?_
 refine dF 1023 gb ?_
 refine dF 4095 gb ?_
 refine dF 8191 gb ?_
 refine dF 16383 gb ?_
 refine dF 1023 gb ?_
 refine dF 1023 gb ?_
 refine dF 66559 gb ?_
 refine dF 230399 gb ?_
 refine dF 492543 gb ?_
 refine dF 1016831 gb ?_
 refine dF 2097151 gb ?_
 refine dB 4194303 ga ?_ (x := pkF gb)
 refine dA 8388607 ?_ (x := pkF ga)
 refine scF ?_
 exact zki
 have hend : k = l.length := by omega
 have hall : adjAll r0_ okRow ltRow l = true := adj_end ha hend
 refine sw_exit ?_
 refine sS [0, 3] [] ?_
 refine zau ?_
 refine rA ?_ (x := B_leq)
 refine zfu ?_
 exact rb (by first | (simp_all [areRows]; done) | (simp_all [areRows]; rfl) | (simp_all [areRows]; omega) | (simp_all [areRows]; intros; omega))
theorem spec_NewStore {p1 : Fl} {rows : List Row} {n : Int}  : SCall Try.prog 36 [(false, [sl .v (rows.map (cRow p1))]), (false, [val (vI n)])] (resRV [(true, [sl (.own 71 1) ((newSt rows n).1.Segments.map (cVersionS (.own 107 4) (.own 3 1))), val (vI (newSt rows n).1.Now)]), (false, [val (.bool (newSt rows n).2)])]) := by
 refine sF Try.func36 fun h0 w0 Fz0 => ?_
 refine sj 0 fun hl0 => ?_
 refine sR ?_
 refine zfw ?_
 refine sT [0, 1, 4, 5] [4] ?_
 refine rA ?_ (x := vM false [sl .v _])
 refine rA ?_ (x := cL [(false, [sl _ _])] [(false, [sl .v _])] c_71 (hs := by exact spec_AreRows))
 refine zbj ?_
 refine cx 13 (fun ga sga => ?_) (fun ga sga => ?_)
 refine zbk ?_
 refine RunS.cases (s := 18) rfl (fun g2 => ?_) (fun g2 => nomatch g2)
 refine zbl ?_
 refine scT ?_
 exact zkj
 refine zd5 ?_
 refine zc6 ?_
 refine rM ?_
 refine cx 18 (fun gb sgb => ?_) (fun gb sgb => ?_)
 refine zbp ?_
 refine scT ?_
 exact zkj
 refine rB gb ?_ (x := vM false [sl .v _])
 refine rB gb ?_ (x := lN sl_52)
 refine rB gb ?_ (x := sM)
 refine rB gb ?_ (x := loc_mul (by decide) (by exact ⟨⟩) (ok_sc rfl) (by have h1_ : areRows rows = true ∧ inB n 1 8 = true := (by first | (simp_all; done) | exact ⟨by simp_all, by simp_all⟩); have h2_ := h1_.2; simp only [inB, Bool.and_eq_true, decide_eq_true_eq] at h2_; unfold I64; omega))
 refine rB gb ?_ (x := B_gtr)
 refine rA ?_ (x := pkF gb)
 refine sc (fun hba => ?_) (fun hba => ?_)
 exact zkj
 have hok : newStOk rows n = true := by unfold newStOk; first | (simp_all; done) | (simp_all; omega)
 obtain ⟨har, hn18, hl4⟩ := newStOk_f hok
 have hn0 : 0 < n.toNat := by omega
 have hr32 := areRows_len har
 have hnn : (n.toNat : Int) = n := by omega
 refine sw_skip ?_
 refine zkk ?_
 refine zfa ?_
 refine sO [(0, _), (1, _), (4, _), (5, _), (6, _)] [(4, _), (6, (26, [sl _ _, val _]))] ?_
 refine sw_reg ?_
 refine zao ?_
 refine sP [0, 1, 4, 5, 6, 7] [4, 6] ?_
 refine sL [0, 1, 4, 5, 6] [4] (fun k : Nat => k ≤ n.toNat) (fun k : Nat => [(7, RV.int (k : Int))]) (fun k : Nat => [(6, (26, [sl (.own 71 1) ((segsTo rows n.toNat k).map (cVersionS (.own 107 4) (.own 3 1))), val (vI 0)]))]) (fun k : Nat => n.toNat - k) 0 (by omega) (by exact aI (by exact rfl) (tI)) (by exact aI (by exact rfl) (tI)) ?_
 rintro k hk
 have hsl := segsTo_len (rows := rows) (n := n.toNat) (k := k)
 refine zap ?_
 refine rM ?_
 refine rA ?_ (x := B_lss)
 refine sc (fun hbb => ?_) (fun hbb => ?_)
 have hlt : k < n.toNat := by omega
 refine za6 ?_
 refine sT [0, 1, 4, 5, 6, 7] [4, 6] ?_
 refine zd8 ?_
 refine sw_seq ?_
 refine sS [0, 1, 4, 5, 6, 7, 8] [4, 6] ?_
 refine rM ?_
 refine rS ?_
 refine sw_block ?_
 refine sP [0, 1, 4, 5, 6, 7, 8, 9] [4, 6] ?_
 refine sL [0, 1, 4, 5, 6, 7] [4, 6] (fun j : Nat => j ≤ strideN rows.length n.toNat k) (fun j : Nat => [(8, RV.slc (.own 107 4) ((strideL rows n.toNat k j).map (cVersion (.own 3 1)))), (9, RV.int ((k + j * n.toNat : Nat) : Int))]) (fun j : Nat => []) (fun j : Nat => strideN rows.length n.toNat k - j) 0 (by omega) (by exact aI (by exact rfl) (aI (by exact int_eq (by omega)) (tI))) (by exact ⟨⟩) ?_
 rintro j hj
 have htl := strideL_len (rows := rows) (n := n.toNat) (i := k) (k := j)
 have hj4 : j ≤ 4 := by have h_ := part_len (i := k) hn0 (rows := rows) (by omega); unfold partV at h_; rw [strideL_len] at h_; omega
 refine zap ?_
 refine zau ?_
 refine rA ?_ (x := B_lss)
 refine sc (fun hbc => ?_) (fun hbc => ?_)
 have hlt2 : k + j * n.toNat < rows.length := by omega
 have hv3 : rows[k + j * n.toNat].Values.length = 3 := (okRow_iff.1 (areRows_at har hlt2)).2.1
 have hjs : j < strideN rows.length n.toNat k := (stride_at hn0 (by omega)).1 hlt2
 refine za6 ?_
 refine sQ [0, 1, 4, 5, 6, 7, 8, 9] [4, 6] ?_
 refine sw_draw hm_ ?_
 refine dA 0 ?_ (x := tM)
 refine zdo ?_
 refine dA 6 ?_ (x := loc_index (k := k + j * n.toNat) (by decide) sl_52 (by exact ⟨⟩) (by rfl) (by exact getm2 hlt2 rfl) (by exact rfl))
 refine dA 14 ?_ (x := loc_efield (by decide) fd_45_0 (by exact nl rfl))
 refine dA 30 ?_ (x := lE [val _] ty_3)
 refine dA 0 ?_ (x := loc_bslice (qs := []) (by decide) sl_27 z_3 (by decide) rfl rfl rfl rfl rfl (by exact nl rfl) (by exact ⟨⟩) rfl)
 refine zdo ?_
 refine dA 384 ?_ (x := loc_index (k := k + j * n.toNat) (by decide) sl_52 (by exact ⟨⟩) (by rfl) (by exact getm2 hlt2 rfl) (by exact rfl))
 refine dA 896 ?_ (x := loc_efield (by decide) fd_45_1 (by exact nl rfl))
 refine dA 1920 ?_ (x := lE [sl .v _] ty_27)
 refine dA 4032 ?_ (x := loc_appendb (by decide) sl_27 z_3 rfl rfl (by decide) (by first | (intro cs hcs; obtain ⟨x, _, rfl⟩ := List.mem_map.1 hcs; exact rfl) | simp) (by first | (intro cs hcs; obtain ⟨x, _, rfl⟩ := List.mem_map.1 hcs; exact (BorL.cons (bor_val _) BorL.nil)) | simp) (by simp only [List.length_map, List.length_append, List.length_cons, List.length_nil]; omega) (by simp only [List.length_map, List.length_append, List.length_cons, List.length_nil]; omega))
 refine dA 8190 ?_ (x := loc_build (qs := [(false, [val _]), (false, [sl _ _]), (false, [val _])]) (cs := [val _, sl _ _, val _, val _]) (by decide) z_107 zo_107 FDst_pl_107 (by exact rfl) (by exact (aI (by exact ⟨⟩) (aI (by exact ⟨⟩) (aI (ok_sc rfl) tI)))) rfl (by exact rfl))
 refine dA 16382 ?_ (x := loc_bslice (qs := [(true, [val _, sl _ _, val _, val _])]) (by decide) sl_71 z_107 (by decide) rfl rfl rfl rfl rfl (by exact nl rfl) (by exact (aI (by exact ⟨⟩) tI)) rfl)
 refine dA 32767 ?_ (x := loc_append (by decide) sl_71 z_107 rfl rfl (by decide) rfl (by simp only [List.length_map, List.length_append, List.length_cons, List.length_nil]; omega) (by simp only [List.length_map, List.length_append, List.length_cons, List.length_nil]; omega))
 refine dA 65535 ?_ (x := tA)
 refine sG [0, 1, 4, 5, 6, 7, 8, 9] [4, 6] ?_
 refine rM ?_
 refine zdb ?_
 refine nx (j + 1) (by omega) (e := (by exact aI (by exact slc_eq (by rw [strideL_succ, List.map_append, ← gDt_ hlt2]; rfl)) (aI (by exact int_eq (by rw [Nat.succ_mul]; omega)) (tI))))
 have hend2 : j = strideN rows.length n.toNat k := by
  by_cases hkl : k ≤ rows.length
  ·have h_ := stride_at (k := j) hn0 hkl; omega
  ·have h_ := stride_big (n := n.toNat) hn0 (show rows.length ≤ k by omega); omega
 refine sw_exit ?_
 refine sH [0, 1, 4, 5, 6, 7, 8, 9] [4, 6] ?_
 refine zfc ?_
 refine rA ?_ (x := tM)
 refine zfd ?_
 refine zfe ?_
 refine sO [(0, _), (1, _), (4, _), (5, _), (6, _), (7, _), (9, _)] [(4, _), (6, (26, [sl _ _, val _]))] ?_
 refine zfg ?_
 refine nx (k + 1) (by omega) (e := (by exact aI (by exact int_eq (by omega)) (tI))) (f := (by exact aI (by rw [segsTo_succ, List.map_append]; unfold partV; rw [← hend2]; exact rfl) (tI)))
 have hend : k = n.toNat := by omega
 subst hend
 refine sw_exit ?_
 refine sT [0, 1, 4, 5, 6, 7] [4, 6] ?_
 refine zfz ?_
 refine za9 ?_
 exact (Exists.intro 4 (Exists.intro _ (aI (by exact rfl) (aI (by refine box_eq ?_; rw [newSt_yes hok]; exact rfl) (aI ty_26 (aI (fun h => nomatch h) (aI (by refine bool_eq ?_; rw [newSt_yes hok]) tI)))))))
theorem x_l8Update {o : Fl} {c : Cur} (hbo : ∀ es, (sl o es).Bor) {p1 p2 : Fl} {s : Store}  (hs : okStore s = true) : XCall Try.prog 40 85 (cCur o c) (cCur o (updC c s).2) [(true, [sl .v (s.Segments.map (cVersionS p1 p2)), val (vI s.Now)])] (resRV [(true, [val (vI (updC c s).1.Kind), val (vI (updC c s).1.Row.Id), sl (.own 3 1) ((updC c s).1.Row.Values.map cInt), val (vI (updC c s).1.Field), val (vI (updC c s).1.Value)])]) := by
 refine xcall_of (rs := [(true, [val (vI (updC c s).1.Kind), val (vI (updC c s).1.Row.Id), sl (.own 3 1) ((updC c s).1.Row.Values.map cInt), val (vI (updC c s).1.Field), val (vI (updC c s).1.Value)])]) Try.func40 rfl (nl rfl) (nl rfl) ?_
 intro g_ h0 w0 Fz0
 refine sn 1 0 fun hl1_0 => ?_
 have hsw := okSto_wt hs
 have hal := allV_len s
 have hb11 := belowC_ge c 12
 have hb12 := belowC_lt c (n := 12) (by decide)
 have hb21 := belowC_ge (belowC c 12).2 4
 have hb22 := belowC_lt (belowC c 12).2 (n := 4) (by decide)
 have hbs := hsw
 simp only [wtStore, wtVersionSS, wtInt] at hbs
 refine zd7 ?_
 refine rX ?_ (x := (loc_alloc (by decide) z_47 zo_47))
 refine sw_seq ?_
 refine sO [(0, _), (3, _), (4, _), (5000, _)] [(0, (85, [sl o _, val _, val _])), (3, (26, [sl _ _, val _])), (4, (47, [val _, val _, sl _ _, val _, val _]))] ?_
 refine sw_reg ?_
 refine zdi ?_
 refine rA ?_ (x := tA)
 refine sS [0, 3, 4, 5, 5000] [0, 3, 4] ?_
 refine zk7 ?_
 refine zca ?_
 refine sS [0, 3, 4, 5, 6, 5000] [0, 3, 4] ?_
 refine zdj ?_
 refine rA ?_ (x := B_gtr)
 refine rM ?_
 refine cx 15 (fun ga sga => ?_) (fun ga sga => ?_)
 refine rB ga ?_ (x := cM Cp.ptr)
 refine rB ga ?_ (x := loc_xcall0 (bx := 0) (qs := [(false, [val _])]) (as_ := [(false, [val _])]) (by decide) c_77 rfl (by exact (aI (ok_sc rfl) tI)) (by exact (aI (aI rfl (ToL.cons (PV.To.refl _) ToL.nil)) tI)) (by exact (BorL.cons (hbo _) (BorL.cons (bor_val _) (BorL.cons (bor_val _) BorL.nil)))) (by exact (borA_cons (BorL.cons (bor_val _) BorL.nil) borA_nil)) (by exact (x_l1Once hbo (by omega))))
 refine rB ga ?_ (x := nT)
 refine rA ?_ (x := pkT ga)
 refine sc (fun hba => ?_) (fun hba => ?_)
 have hl0 : ¬ (allV s).length = 0 := by first | omega | (simp_all; omega)
 have ho0 : ¬ (belowC (belowC c 12).2 4).1 = 0 := by first | (simpa using hba) | (simp_all; done)
 have hge := belowC_ge (belowC (belowC c 12).2 4).2 (allV s).length
 have hlt_ := belowC_lt (belowC (belowC c 12).2 4).2 (n := (allV s).length) (by omega)
 have hu := updId_2 hl0 ho0; have huk : updK c s = belowC (belowC (belowC (belowC c 12).2 4).2 (allV s).length).2 3 := (by unfold updK; rw [hu]); have hk1 := belowC_ge (updK c s).2 20; have hk2 := belowC_lt (updK c s).2 (n := 20) (by decide)
 refine sG [0, 3, 4, 5, 6, 5000] [0, 3, 4] ?_
 refine rA ?_ (x := vM false [sl .v _])
 refine rA ?_ (x := cM Cp.ptr)
 refine zdj ?_
 refine rA ?_ (x := loc_xcall0 (bx := 0) (qs := [(false, [val _])]) (as_ := [(false, [val _])]) (by decide) c_38 rfl (by exact (aI (by exact ⟨⟩) tI)) (by exact (aI (aI rfl (ToL.cons (PV.To.refl _) ToL.nil)) tI)) (by exact (BorL.cons (hbo _) (BorL.cons (bor_val _) (BorL.cons (bor_val _) BorL.nil)))) (by exact (borA_cons (BorL.cons (bor_val _) BorL.nil) borA_nil)) (by exact (x_l1Below hbo (by omega))))
 refine rA ?_ (x := loc_index (k := (belowC (belowC (belowC c 12).2 4).2 (allV s).length).1.toNat) (by decide) sl_71 (by exact ⟨⟩) (by omega) (by exact getm2 (by omega) (by rw [gDt_ (d := v0) (by omega)])) (by exact rfl))
 refine zh2 ?_
 refine rS ?_
 exact zkl
 have ho1 : (belowC (belowC c 12).2 4).1 = 0 := (by first | (simpa using hba) | (simp_all; done)); have hl0 : ¬ (allV s).length = 0 := (by first | omega | (simp_all; omega)); have hu := updId_1 hl0 ho1; have huk : updK c s = belowC (belowC (belowC c 12).2 4).2 3 := (by unfold updK; rw [hu]); have hk1 := belowC_ge (updK c s).2 20; have hk2 := belowC_lt (updK c s).2 (n := 20) (by decide)
 refine sw_skip ?_
 exact zkl
 have hl0 : (allV s).length = 0 := (by first | (simp at ga; omega) | (simp at ga; simp_all; done)); have hu := updId_0 (c := c) hl0; have huk : updK c s = belowC (belowC c 12).2 3 := (by unfold updK; rw [hu]); have hk1 := belowC_ge (updK c s).2 20; have hk2 := belowC_lt (updK c s).2 (n := 20) (by decide)
 have sga := ga
 try simp only [qq] at sga
 refine zc2 ?_
 refine zbr ?_
 refine sS [0, 3, 4, 5, 6, 5000] [0, 3, 4] ?_
 refine zk7 ?_
 refine sw_block ?_
 refine zkm ?_
 refine sc (fun hba => ?_) (fun hba => ?_)
 have h0_ : (updK c s).1 = 0 := by rw [huk]; first | exact hba | simpa using hba
 exact zkn
 have h0_ : ¬ (updK c s).1 = 0 := by rw [huk]; first | exact hba | simpa using hba
 refine zkm ?_
 refine sc (fun hbb => ?_) (fun hbb => ?_)
 have h1_ : (updK c s).1 = 1 := by rw [huk]; first | exact hbb | simpa using hbb
 exact zko
 have h1_ : ¬ (updK c s).1 = 1 := by rw [huk]; first | exact hbb | simpa using hbb
 exact zkp
theorem x_l7Store {o : Fl} {c : Cur} (hbo : ∀ es, (sl o es).Bor)  : XCall Try.prog 15 85 (cCur o c) (cCur o (stoC c).c) [] (resRV [(true, [sl (.own 71 1) ((stoC c).s.Segments.map (cVersionS (.own 107 4) (.own 3 1))), val (vI (stoC c).s.Now)])]) := by
 refine xcall_of (rs := [(true, [sl (.own 71 1) ((stoC c).s.Segments.map (cVersionS (.own 107 4) (.own 3 1))), val (vI (stoC c).s.Now)])]) Try.func15 rfl (nl rfl) (nl rfl) ?_
 intro g_ h0 w0 Fz0
 have hrw := rowsC_wt c (most := 7) (by decide)
 have hN1 : 0 ≤ stoN c := belowC_ge _ _
 have hN2 : stoN c < 6 := belowC_lt _ (by decide)
 have hb11 := belowC_ge (rowsC c 7).2 3
 have hb12 := belowC_lt (rowsC c 7).2 (n := 3) (by decide)
 refine sR ?_
 refine rX ?_ (x := (loc_alloc (by decide) z_26 zo_26))
 refine sw_seq ?_
 refine sO [(0, _), (2, _), (5000, _)] [(0, (85, [sl o _, val _, val _])), (2, (26, [sl _ _, val _]))] ?_
 refine zk0 ?_
 refine rA ?_ (x := loc_xcall0 (bx := 0) (qs := [(false, [val _])]) (as_ := [(false, [val _])]) (by decide) c_37 rfl (by exact (aI (ok_sc rfl) tI)) (by exact (aI (aI rfl (ToL.cons (PV.To.refl _) ToL.nil)) tI)) (by exact (BorL.cons (hbo _) (BorL.cons (bor_val _) (BorL.cons (bor_val _) BorL.nil)))) (by exact (borA_cons (BorL.cons (bor_val _) BorL.nil) borA_nil)) (by exact (x_l3Rows hbo (by omega))))
 refine zka ?_
 refine rA ?_ (x := cL [(false, [sl _ _]), (false, [val _])] [(false, [sl .v _]), (false, [val _])] c_36 (hs := by exact (spec_NewStore (rows := (stoR c).1) (n := 2 + (belowC (stoR c).2 3).1))))
 refine rA ?_ (x := tM)
 refine zg9 ?_
 refine zjl ?_
 refine rS ?_
 refine zdk ?_
 refine sO [(0, _), (2, _), (3, _), (4, _), (5000, _)] [(0, _), (2, _), (3, (26, [sl _ _, val _]))] ?_
 refine sw_reg ?_
 refine zk7 ?_
 refine rS ?_
 refine sw_block ?_
 refine sP [0, 2, 3, 4, 5, 5000] [0, 2, 3] ?_
 refine sL [0, 2, 3, 4, 5000] [2] (fun k : Nat => (k : Int) ≤ stoN c) (fun k : Nat => [(5, RV.int (stoN c - (k : Int)))]) (fun k : Nat => [(0, (85, cCur o (stoTo (sto0 c) k).c)), (3, (26, [sl (.own 71 1) ((stoTo (sto0 c) k).s.Segments.map (cVersionS (.own 107 4) (.own 3 1))), val (vI (stoTo (sto0 c) k).s.Now)]))]) (fun k : Nat => (stoN c - (k : Int)).toNat) 0 (by omega) (by exact aI (by exact int_eq (by first | omega | (show stoN c = _; omega))) (tI)) (by exact aI (by exact rfl) (aI (by exact rfl) (tI))) ?_
 rintro k hk
 have hso := stoTo_ok (x := sto0 c) (sto0_ok c) k
 have hsw := okSto_wt hso
 have huw := updC_wt (stoTo (sto0 c) k).c (stoTo (sto0 c) k).s
 refine zk8 ?_
 refine sc (fun hba => ?_) (fun hba => ?_)
 have hlt : (k : Int) < stoN c := by omega
 refine zdn ?_
 refine sO [(0, _), (2, _), (3, _), (4, _), (5, _), (5000, _)] [(0, (85, [sl o _, val _, val _])), (2, (26, [sl _ _, val _])), (3, (26, [sl _ _, val _]))] ?_
 refine sw_split (c := 4) (AI := [(8, ⟨[], [], [(6, some (RV.ptr 6 0))], [(6, some (26, [sl (.own 71 1) [], val (.int .i64 0)]))], some 6⟩)]) hm_ rfl rfl rfl rfl (by kernel_rfl) (fun j L h o ho => by have h := lk_mem h; simp only [List.mem_cons, List.not_mem_nil, or_false, Prod.mk.injEq] at h; obtain ⟨rfl, rfl⟩ := h; (· cases (show some ⟨some 6, .alloc 26, _, _, _, none⟩ = some o from ho); apply LocG.of rfl; exact loc_alloc (d := 6) (by decide) z_26 zo_26)) (fun j L h d hd => by have h := lk_mem h; simp only [List.mem_cons, List.not_mem_nil, or_false, Prod.mk.injEq] at h; obtain ⟨rfl, rfl⟩ := h; (· cases (show some _ = some d from hd); exact Free.of_ rfl)) ?_
 refine dX 0 ?_ (x := (loc_load (qs := [sl .v _, val _]) (by decide) ty_26 (fun h => nomatch h) (by exact nl rfl) (by exact (ToL.cons PV.to_none (ToL.cons (PV.To.refl _) ToL.nil))) (by exact (BorL.cons (bor_sl _) (BorL.cons (bor_val _) BorL.nil)))))
 refine dX 0 ?_ (x := (loc_copy (.inl rfl) (by decide) (by exact Cp.ptr)))
 refine dX 0 ?_ (x := (loc_load (qs := [sl .v _, val _]) (by decide) ty_26 (fun h => nomatch h) (by exact nl rfl) (by exact (ToL.cons PV.to_none (ToL.cons (PV.To.refl _) ToL.nil))) (by exact (BorL.cons (bor_sl _) (BorL.cons (bor_val _) BorL.nil)))))
 refine dX 6 ?_ (x := (loc_xcall0 (bx := 0) (qs := [(true, [sl _ _, val _])]) (as_ := [(true, [sl .v _, val _])]) (by decide) c_40 rfl (by exact (aI (by exact ⟨⟩) tI)) (by exact (aI (aI rfl (ToL.cons PV.to_none (ToL.cons (PV.To.refl _) ToL.nil))) tI)) (by exact (BorL.cons (hbo _) (BorL.cons (bor_val _) (BorL.cons (bor_val _) BorL.nil)))) (by exact (borA_cons (BorL.cons (bor_sl _) (BorL.cons (bor_val _) BorL.nil)) borA_nil)) (by exact (x_l8Update hbo (by assumption)))))
 refine mid_call (G := 2000) (qs := [(true, [sl _ _, val _]), (true, [val _, val _, sl _ _, val _, val _])]) (as_ := [(true, [sl .v _, val _]), (true, [val _, val _, sl .v _, val _, val _])]) (by decide) c_39 (by exact ⟨rfl, rfl, ⟨⟩⟩) (by exact (aI (by exact ⟨⟩) (aI (by exact ⟨⟩) tI))) (by exact (aI (aI rfl (ToL.cons PV.to_none (ToL.cons (PV.To.refl _) ToL.nil))) (aI (aI rfl (ToL.cons (PV.To.refl _) (ToL.cons (PV.To.refl _) (ToL.cons PV.to_none (ToL.cons (PV.To.refl _) (ToL.cons (PV.To.refl _) ToL.nil)))))) tI))) (by exact (spec_ApplyUpdate (s := (stoTo (sto0 c) k).s) (u := (updC (stoTo (sto0 c) k).c (stoTo (sto0 c) k).s).1) (by omega) (by omega))) (by kernel_rfl) (by kernel_rfl) fun uss hU0 => ?_
 obtain ⟨us0, r0, rfl, hl0, hR0, hU1⟩ := RelU.cons hU0
 obtain ⟨u2_0_0, u2_0_1, rfl⟩ := us_2 hl0
 obtain rfl := relval hR0 (j := 1) rfl rfl
 obtain ⟨us1, r1, rfl, hl1, hR1, hU2⟩ := RelU.cons hU1
 obtain ⟨u2_1_0, rfl⟩ := us_1 hl1
 obtain rfl := relval hR1 (j := 0) rfl rfl
 obtain rfl := RelU.nil hU2
 clear hR0 hU0 hR1 hU1 hU2
 refine Run.stepC 31 (by exact ⟨rfl, ⟨⟩⟩) (by exact ⟨⟩) (LocG.of rfl (loc_take (.inl rfl) (by decide))) nofree (by kernel_rfl) (by intro L' h; exact nomatch (show (none : Option Step) = some L' from h)) ?_
 refine Run.stepC 63 (by exact ⟨rfl, ⟨⟩⟩) (by exact ⟨⟩) (LocG.of rfl (loc_extractb (cs := [val _, val _]) (by decide) (by exact rfl) (by exact (BorL.cons (bor_val _) (BorL.cons (bor_val _) BorL.nil))))) nofree (by kernel_rfl) (by intro L' h; exact nomatch (show (none : Option Step) = some L' from h)) ?_
 refine Run.stepC 63 (by exact ⟨rfl, ⟨⟩⟩) (by exact ⟨⟩) (LocG.of rfl (loc_extractb (cs := [val _]) (by decide) (by exact rfl) (by exact (BorL.cons (bor_val _) BorL.nil)))) nofree (by kernel_rfl) (by intro L' h; exact nomatch (show (none : Option Step) = some L' from h)) ?_
 refine Run.stepC 0 (by exact ⟨⟩) (by exact ⟨⟩) (LocG.of rfl (loc_alloc (by decide) z_26 zo_26)) (free1 (Free.wr (Free.app (Free.app (Free.app (Free.app (Free.of_ rfl) rfl) rfl) rfl) rfl) rfl)) (by kernel_rfl) (by intro L' h; exact Option.some.inj (show some _ = some L' from h)) ?_
 refine Run.stepC 383 (by exact ⟨rfl, rfl, ⟨⟩⟩) (by exact ⟨rfl, ⟨⟩⟩) (LocG.of rfl (loc_store (ag := true) (vs := [val _, val _]) ty_26 (by exact ⟨⟩) (by exact rfl) (by exact nl rfl))) nofree (by kernel_rfl) (by intro L' h; exact nomatch (show (none : Option Step) = some L' from h)) ?_
 refine Run.stepC 1023 (by exact ⟨rfl, ⟨⟩⟩) (by exact ⟨⟩) (LocG.of rfl (loc_copy (.inr rfl) (by decide) (by exact Cp.sc))) nofree (by kernel_rfl) (by intro L' h; exact nomatch (show (none : Option Step) = some L' from h)) ?_
 refine sw_backB (d := 6) (G := 2000) (by exact rfl) (by exact (Nm.val (Nm.val Nm.nil))) (by exact rfl) ?_
 refine sw_backS (s := 7) (G := 2001) (by exact rfl) (by exact (Nm.val Nm.nil)) rfl (by decide) (by exact rfl) ?_
 refine sO [(0, _), (2, _), (3, _), (4, _), (5, _), (6, _), (7, _), (5000, _)] [(0, _), (2, _), (3, _), (6, (26, [sl _ _, val _]))] ?_
 refine sw_reg ?_
 refine zfz ?_
 refine sO [(0, _), (2, _), (3, _), (4, _), (5, _), (6, _), (7, _), (5000, _)] [(0, _), (2, _), (3, (26, [sl _ _, val _])), (6, (26, [sl _ _, val _]))] ?_
 refine zg2 ?_
 refine rA ?_ (x := B_sub)
 exact zjj
 have hend : k = (stoN c).toNat := by omega
 refine zbx ?_
 refine sO [(0, _), (2, _), (3, _), (4, _), (5, _), (5000, _)] [(0, (85, [sl o _, val _, val _])), (2, (26, [sl _ _, val _])), (3, (26, [sl _ _, val _]))] ?_
 refine sw_reg ?_
 refine zfz ?_
 refine sw_ret ?_
 exact ⟨(by unfold stoC; rw [← hend]; exact rfl), rfl, (Exists.intro 2 (Exists.intro _ (aI (by exact rfl) (aI (by refine box_eq ?_; unfold stoC; rw [← hend]; exact rfl) (aI ty_26 (aI (fun h => nomatch h) tI))))))⟩
theorem spec_NewEngine {p1 p2 : Fl} {s : Store}  (hs : okStore s = true) : SCall Try.prog 14 [(true, [sl .v (s.Segments.map (cVersionS p1 p2)), val (vI s.Now)])] (resRV [(true, [sl (.own 71 1) ((newEng s).Store.Segments.map (cVersionS (.own 107 4) (.own 3 1))), val (vI (newEng s).Store.Now), val (vI (newEng s).Cursor), sl (.own 3 1) ((newEng s).Order.map cInt), sl (.own 70 10) ((newEng s).Active.map (cActive (.own 41 3) (.own 3 1) (.own 3 1) (.own 45 2) (.own 3 1))), sl (.own 54 7) ((newEng s).Done.map (cFinished (.own 41 3) (.own 3 1) (.own 45 2) (.own 3 1))), sl (.own 73 5) ((newEng s).Ledger.map (cCharge (.own 3 1) (.own 3 1) (.own 3 1))), val (vI (newEng s).Steps)]), (false, [val (.bool true)])]) := by
 refine sF Try.func14 fun h0 w0 Fz0 => ?_
 refine sn 0 0 fun hl0_0 => ?_
 have hb := okSto_wt hs
 have hbu := hb
 simp only [wtStore, wtVersionSS, wtInt] at hbu
 refine zd7 ?_
 refine zgp ?_
 refine sT [1, 2, 3] [1, 2] ?_
 refine rA ?_ (x := lD [sl .v _, val _] ty_26)
 refine rA ?_ (x := cL [(true, [sl _ _, val _])] [(true, [sl .v _, val _])] c_34 (hs := by exact spec_IsStore (by omega)))
 refine rA ?_ (x := nT)
 refine sc (fun hba => ?_) (fun hba => ?_)
 exact absurd hba (by simp [hs])
 refine sw_skip ?_
 refine sS [1, 2, 3] [1, 2] ?_
 refine rA ?_ (x := lD [sl .v _, val _] ty_26)
 refine rA ?_ (x := cL [(true, [sl _ _, val _])] [(true, [sl .v _, val _])] c_35 (hs := by exact (spec_l7Copy (by omega))))
 refine rA ?_ (x := loc_bslice (qs := [(false, [val _]), (false, [val _]), (false, [val _])]) (by decide) sl_27 z_3 (by decide) rfl rfl rfl rfl rfl (by exact nl rfl) (by exact (aI (ok_sc rfl) (aI (ok_sc rfl) (aI (ok_sc rfl) tI)))) rfl)
 refine rA ?_ (x := loc_build (qs := [(true, [sl _ _, val _]), (false, [sl _ _])]) (cs := [sl _ _, val _, val _, sl _ _, sl _ _, sl _ _, sl _ _, val _]) (by decide) z_32 zo_32 FDst_pl_32 (by exact rfl) (by exact (aI (by exact ⟨⟩) (aI (by exact ⟨⟩) tI))) rfl (by exact rfl))
 refine zjr ?_
 exact zkq
theorem x_l20Event {o : Fl} {c : Cur} (hbo : ∀ es, (sl o es).Bor) {p1 p2 : Fl} {s : Store}  (hs : okStore s = true) : XCall Try.prog 41 85 (cCur o c) (cCur o (evtC c s).2) [(true, [sl .v (s.Segments.map (cVersionS p1 p2)), val (vI s.Now)])] (resRV [(true, [val (vI (evtC c s).1.Kind), val (vI (evtC c s).1.Query.Id), val (vI (evtC c s).1.Query.Tenant), sl (.own 41 3) ((evtC c s).1.Query.Conds.map cCond), sl (.own 3 1) ((evtC c s).1.Query.Out.map cInt), val (vI (evtC c s).1.Limit), val (vI (evtC c s).1.Id), val (vI (evtC c s).1.Update.Kind), val (vI (evtC c s).1.Update.Row.Id), sl (.own 3 1) ((evtC c s).1.Update.Row.Values.map cInt), val (vI (evtC c s).1.Update.Field), val (vI (evtC c s).1.Update.Value), val (vI (evtC c s).1.Steps)])]) := by
 refine xcall_of (rs := [(true, [val (vI (evtC c s).1.Kind), val (vI (evtC c s).1.Query.Id), val (vI (evtC c s).1.Query.Tenant), sl (.own 41 3) ((evtC c s).1.Query.Conds.map cCond), sl (.own 3 1) ((evtC c s).1.Query.Out.map cInt), val (vI (evtC c s).1.Limit), val (vI (evtC c s).1.Id), val (vI (evtC c s).1.Update.Kind), val (vI (evtC c s).1.Update.Row.Id), sl (.own 3 1) ((evtC c s).1.Update.Row.Values.map cInt), val (vI (evtC c s).1.Update.Field), val (vI (evtC c s).1.Update.Value), val (vI (evtC c s).1.Steps)])]) Try.func41 rfl (nl rfl) (nl rfl) ?_
 intro g_ h0 w0 Fz0
 refine sn 1 0 fun hl1_0 => ?_
 have hsw := okSto_wt hs
 have hbs := hsw
 simp only [wtStore, wtVersionSS, wtInt] at hbs
 have hqw := queC_wt (belowC (evtK c).2 6).2 (belowC (evtK c).2 6).1
 have hb11 := belowC_ge (belowC c 6).2 6
 have hb12 := belowC_lt (belowC c 6).2 (n := 6) (by decide)
 have hb21 := belowC_ge (belowC c 6).2 3
 have hb22 := belowC_lt (belowC c 6).2 (n := 3) (by decide)
 refine zd7 ?_
 refine rX ?_ (x := (loc_alloc (by decide) z_49 zo_49))
 refine zdk ?_
 refine sO [(0, _), (3, _), (4, _), (5000, _)] [(0, (85, [sl o _, val _, val _])), (3, (26, [sl _ _, val _])), (4, (49, [val _, val _, val _, sl _ _, sl _ _, val _, val _, val _, val _, sl _ _, val _, val _, val _]))] ?_
 refine sw_reg ?_
 refine zk7 ?_
 refine sw_block ?_
 refine sw_seq ?_
 refine zkr ?_
 refine sc (fun hba => ?_) (fun hba => ?_)
 have hk0 : (evtK c).1 = 0 ∨ (evtK c).1 = 1 := .inl hba
 refine sw_skip ?_
 exact zks
 have hk00 := hba
 refine sG [0, 3, 4, 7, 5000] [0, 3, 4] ?_
 refine zco ?_
 exact zks
theorem x_l20Events {o : Fl} {c : Cur} (hbo : ∀ es, (sl o es).Bor) {p1 p2 : Fl} {s : Store} {most : Int}  (hs : okStore s = true) (hm : 0 < most ∧ most ≤ 100) : XCall Try.prog 16 85 (cCur o c) (cCur o (evlC c s most).c) [(true, [sl .v (s.Segments.map (cVersionS p1 p2)), val (vI s.Now)]), (false, [val (vI most)])] (resRV [(false, [sl (.own 49 13) ((evlC c s most).l.map (cEvent (.own 41 3) (.own 3 1) (.own 3 1)))])]) := by
 refine xcall_of (rs := [(false, [sl (.own 49 13) ((evlC c s most).l.map (cEvent (.own 41 3) (.own 3 1) (.own 3 1)))])]) Try.func16 rfl (nl rfl) (nl rfl) ?_
 intro g_ h0 w0 Fz0
 refine sn 1 0 fun hl1_0 => ?_
 have hsw := okSto_wt hs
 have hbs := hsw
 simp only [wtStore, wtVersionSS, wtInt] at hbs
 have hb1 := belowC_ge c most
 have hb2 := belowC_lt c (n := most) hm.1
 refine zd7 ?_
 refine rA ?_ (x := loc_const (.inr rfl) (by decide) (ok_nil (t := 49) (e := 13)))
 refine sw_seq ?_
 refine sO [(0, _), (2, _), (4, _), (6, _), (5000, _)] [(0, (85, [sl o _, val _, val _])), (4, (26, [sl _ _, val _]))] ?_
 refine sw_reg ?_
 refine rA ?_ (x := loc_bslice (qs := []) (by decide) sl_33 z_49 (by decide) rfl rfl rfl rfl rfl (by exact nl rfl) (by exact ⟨⟩) rfl)
 refine rA ?_ (x := tA)
 refine sw_seq ?_
 refine sS [0, 2, 4, 6, 7, 5000] [0, 4] ?_
 refine zk4 ?_
 refine rS ?_
 refine sw_block ?_
 refine sP [0, 2, 4, 6, 7, 8, 5000] [0, 4] ?_
 refine sL [0, 2, 4, 6, 5000] [4] (fun k : Nat => (k : Int) ≤ (belowC c most).1) (fun k : Nat => [(7, RV.slc (.own 49 13) ((evlTo s (belowC c most).2 k).l.map (cEvent (.own 41 3) (.own 3 1) (.own 3 1)))), (8, RV.int ((belowC c most).1 - (k : Int)))]) (fun k : Nat => [(0, (85, cCur o (evlTo s (belowC c most).2 k).c))]) (fun k : Nat => ((belowC c most).1 - (k : Int)).toNat) 0 (by omega) (by exact aI (by exact rfl) (aI (by exact int_eq (by omega)) (tI))) (by exact aI (by exact rfl) (tI)) ?_
 rintro k hk
 have hel := evlTo_len (s := s) (c := (belowC c most).2) k
 refine zk8 ?_
 refine sc (fun hba => ?_) (fun hba => ?_)
 have hlt : (k : Int) < (belowC c most).1 := by omega
 refine za6 ?_
 refine zkt ?_
 refine rA ?_ (x := tM)
 refine rA ?_ (x := cM Cp.ptr)
 refine rA ?_ (x := lD [sl .v _, val _] ty_26)
 refine rA ?_ (x := loc_xcall0 (bx := 0) (qs := [(true, [sl _ _, val _])]) (as_ := [(true, [sl .v _, val _])]) (by decide) c_41 rfl (by exact (aI (by exact ⟨⟩) tI)) (by exact (aI (aI rfl (ToL.cons PV.to_none (ToL.cons (PV.To.refl _) ToL.nil))) tI)) (by exact (BorL.cons (hbo _) (BorL.cons (bor_val _) (BorL.cons (bor_val _) BorL.nil)))) (by exact (borA_cons (BorL.cons (bor_sl _) (BorL.cons (bor_val _) BorL.nil)) borA_nil)) (by exact (x_l20Event hbo (by assumption))))
 refine rA ?_ (x := loc_bslice (qs := [(true, [val _, val _, val _, sl _ _, sl _ _, val _, val _, val _, val _, sl _ _, val _, val _, val _])]) (by decide) sl_33 z_49 (by decide) rfl rfl rfl rfl rfl (by exact nl rfl) (by exact (aI (by exact ⟨⟩) tI)) rfl)
 refine rA ?_ (x := loc_append (by decide) sl_33 z_49 rfl rfl (by decide) rfl (by simp only [List.length_map, List.length_append, List.length_cons, List.length_nil]; omega) (by simp only [List.length_map, List.length_append, List.length_cons, List.length_nil]; omega))
 refine rA ?_ (x := tA)
 refine sG [0, 2, 4, 6, 7, 8, 5000] [0, 4] ?_
 refine rM ?_
 refine zjv ?_
 refine nx (k + 1) (by omega) (e := (by exact aI (by exact slc_eq (by rw [evlTo]; unfold evlNext; rw [List.map_append]; rfl)) (aI (by exact int_eq (by omega)) (tI))))
 have hend : evlN c most = k := by unfold evlN; omega
 refine zbx ?_
 refine zkt ?_
 refine zdc ?_
 exact ⟨(by unfold evlC; rw [hend]; exact rfl), rfl, (aI (by refine slc_eq ?_; unfold evlC; rw [hend]) tI)⟩
theorem spec_DrawHistory {code : List Int}  (hb : code.length ≤ 9223372036854775807) (hb2 : code.length ≤ 4611686018427387904) : SCall Try.prog 5 [(false, [sl .v (code.map cU8)])] (resRV [(true, [sl (.own 71 1) ((hisE (curNew code hb)).Store.Segments.map (cVersionS (.own 107 4) (.own 3 1))), val (vI (hisE (curNew code hb)).Store.Now), val (vI (hisE (curNew code hb)).Cursor), sl (.own 3 1) ((hisE (curNew code hb)).Order.map cInt), sl (.own 70 10) ((hisE (curNew code hb)).Active.map (cActive (.own 41 3) (.own 3 1) (.own 3 1) (.own 45 2) (.own 3 1))), sl (.own 54 7) ((hisE (curNew code hb)).Done.map (cFinished (.own 41 3) (.own 3 1) (.own 45 2) (.own 3 1))), sl (.own 73 5) ((hisE (curNew code hb)).Ledger.map (cCharge (.own 3 1) (.own 3 1) (.own 3 1))), val (vI (hisE (curNew code hb)).Steps)]), (false, [sl (.own 49 13) ((hisL (curNew code hb)).map (cEvent (.own 41 3) (.own 3 1) (.own 3 1)))])]) := by
 refine sF Try.func5 fun h0 w0 Fz0 => ?_
 refine sj 0 fun hl0 => ?_
 have hso := stoC_ok (curNew code hb)
 have hsw := okSto_wt hso
 refine sR ?_
 refine rX ?_ (x := (loc_alloc (by decide) z_32 zo_32))
 refine rA ?_ (x := loc_const (.inr rfl) (by decide) (ok_nil (t := 49) (e := 13)))
 refine sT [0, 2, 3] [2] ?_
 refine rA ?_ (x := vM false [sl .v _])
 refine rX ?_ (x := (loc_ncall (qs := [(false, [sl _ _])]) (as_ := [(false, [sl .v _])]) (by decide) c_13 (by exact (aI (by exact ⟨⟩) tI)) (by exact (aI (aI rfl (ToL.cons PV.to_none ToL.nil)) tI)) (by exact (n_l1New hb hb2))))
 refine rA ?_ (x := cA Cp.ptr)
 refine sw_seq ?_
 refine sO [(0, _), (2, _), (3, _), (4, _)] [(2, _), (8, (85, [sl _ _, val _, val _]))] ?_
 refine zk0 ?_
 refine rA ?_ (x := loc_xcall0 (bx := 8) (qs := []) (as_ := []) (by decide) c_15 rfl (by exact ⟨⟩) (by exact ⟨⟩) (by exact (BorL.cons (bor_sl _) (BorL.cons (bor_val _) (BorL.cons (bor_val _) BorL.nil)))) (by exact borA_nil) (by exact (x_l7Store (fun es => bor_sl es))))
 refine rA ?_ (x := cL [(true, [sl _ _, val _])] [(true, [sl .v _, val _])] c_14 (hs := by exact (spec_NewEngine (s := (stoC (curNew code hb)).s) hso)))
 refine rA ?_ (x := tM)
 refine zku ?_
 refine zgr ?_
 refine zca ?_
 refine sO [(0, _), (2, _), (3, _), (4, _), (5, _), (6, _)] [(2, _), (5, (32, [sl _ _, val _, val _, sl _ _, sl _ _, sl _ _, sl _ _, val _])), (8, _)] ?_
 refine sw_lendN (d := 5) (G := 1005) (by exact rfl) (by exact rfl) (ToL.cons PV.to_none (ToL.cons (PV.To.refl _) (ToL.cons (PV.To.refl _) (ToL.cons PV.to_none (ToL.cons PV.to_none (ToL.cons PV.to_none (ToL.cons PV.to_none (ToL.cons (PV.To.refl _) ToL.nil)))))))) (by exact lq) fun us hRN => ?_
 obtain ⟨_, _, hRN⟩ := hRN
 obtain ⟨u1_0, u1_1, u1_2, u1_3, u1_4, u1_5, u1_6, u1_7, rfl⟩ := us_8 hRN.len
 clear hRN
 refine sO [(0, _), (2, _), (3, _), (4, _), (5, _), (6, _), (1005, _)] [(2, _), (5, (32, [nv _ (sl _ _), nv _ (val _), nv _ (val _), nv _ (sl _ _), nv _ (sl _ _), nv _ (sl _ _), nv _ (sl _ _), nv _ (val _)])), (8, _)] ?_
 refine sw_draw hm_ ?_
 refine dA 0 ?_ (x := loc_load (qs := [nv _ (sl .v _), nv _ (val _), nv _ (val _), nv _ (sl .v _), nv _ (sl .v _), nv _ (sl .v _), nv _ (sl .v _), nv _ (val _)]) (by decide) ty_32 (fun h => nomatch h) (by exact nl rfl) (by exact (ToL.cons (PV.To.refl _) (ToL.cons (PV.To.refl _) (ToL.cons (PV.To.refl _) (ToL.cons (PV.To.refl _) (ToL.cons (PV.To.refl _) (ToL.cons (PV.To.refl _) (ToL.cons (PV.To.refl _) (ToL.cons (PV.To.refl _) ToL.nil))))))))) (by exact lq))
 refine dA 0 ?_ (x := cM Cp.ptr)
 refine dA 0 ?_ (x := lF fd_32_0)
 refine dA 4 ?_ (x := loc_load (qs := [nv _ (sl .v _), nv _ (val _)]) (by decide) ty_26 (fun h => nomatch h) (by exact nl rfl) (by exact (ToL.cons (PV.To.refl _) (ToL.cons (PV.To.refl _) ToL.nil))) (by exact (BorL.cons (bor_nv (bor_sl _)) (BorL.cons (bor_nv (bor_val _)) BorL.nil))))
 refine dA 14 ?_ (x := loc_xcall0 (bx := 8) (qs := [(true, [nv _ (sl _ _), nv _ (val _)]), (false, [val _])]) (as_ := [(true, [sl .v _, val _]), (false, [val _])]) (by decide) c_16 rfl (by exact (aI (by exact ⟨⟩) (aI (ok_sc rfl) tI))) (by exact (aI (aI rfl (ToL.cons (PV.nv_to PV.to_none) (ToL.cons (PV.nv_to (PV.To.refl _)) ToL.nil))) (aI (aI rfl (ToL.cons (PV.To.refl _) ToL.nil)) tI))) (by exact (BorL.cons (bor_sl _) (BorL.cons (bor_val _) (BorL.cons (bor_val _) BorL.nil)))) (by exact lq) (by exact (x_l20Events (s := (stoC (curNew code hb)).s) (most := 14) (fun es => bor_sl es) hso (by decide))))
 refine dA 31 ?_ (x := loc_store (ag := true) (vs := [nv _ (sl _ _), nv _ (val _), nv _ (val _), nv _ (sl _ _), nv _ (sl _ _), nv _ (sl _ _), nv _ (sl _ _), nv _ (val _)]) ty_32 (by exact ⟨⟩) (by exact rfl) (by exact nl rfl))
 refine dA 63 ?_ (x := tA)
 refine sw_backB (d := 2) (G := 1005) (by exact rfl) (by exact (Nm.nv (Nm.nv (Nm.nv (Nm.nv (Nm.nv (Nm.nv (Nm.nv (Nm.nv Nm.nil))))))))) (by exact rfl) ?_
 exact zkq
end Go.Proofs.Ytmekkgdboplbjaa
