/- What functions of the program compute. No condition. -/
import Derived.Test.YteflgldonmgejaaGreatCZMRunAdaptive
import Derived.Test.YteflgldonmgejaaGreatCFcRunAdaptive
import Derived.Test.YteflgldonmgejaaGreatCIdxRunAdaptive
import Derived.Test.YteflgldonmgejaaGreatCDj
import Derived.KernelRfl
set_option linter.unusedVariables false
set_option linter.unusedSimpArgs false
namespace Go.Proofs.YteflgldonmgejaaGreat
open Go Go.RowKit M PV
set_option maxRecDepth 10000
attribute [local irreducible] PV.Lcl PV.LclR RV.Lcl
theorem FIdb_pl_92 : placesI Tryz.prog 92 = some [(0, 1), (1, 1)] := by kernel_rfl
theorem spec_BuildIndex {p1 p2 : Fl} {l : List Query}  : SCall Tryz.prog 105 [(false, [sl .v (l.map (cQuery p1 p2))])] (resRV [(true, [sl (.own 65 4) ((buildIdx l).Queries.map (cQuery (.own 193 3) (.own 3 1))), sl (.own 205 1) ((buildIdx l).Fields.map (cSpanS (.own 234 3) (.own 3 1)))])]) := by
 refine sF Tryz.func105 fun h0 w0 Fz0 => ?_
 refine sj 0 fun hl0 => ?_
 refine sR ?_
 refine rX ?_ (x := (loc_alloc (by decide) z_92 zo_92))
 refine sw_seq ?_
 refine sT [0, 2] [2] ?_
 refine rA ?_ (x := vM false [sl .v _])
 refine rA ?_ (x := cL [(false, [sl _ _])] [(false, [sl .v _])] c_179 (hs := by exact spec_AreQueries))
 refine rA ?_ (x := nT)
 refine sc (fun hba => ?_) (fun hba => ?_)
 have hok : okQueries l = false := by simpa using hba
 refine sS [0, 2] [2] ?_
 refine rA ?_ (x := loc_build (qs := []) (cs := [sl _ _, sl _ _]) (by decide) z_92 zo_92 FIdb_pl_92 (by exact rfl) (by exact ⟨⟩) rfl (by exact rfl))
 exact zkr
 have hok : okQueries l = true := by simpa using hba
 have hqw := okQs_wt hok
 have hql := okQs hok
 refine sw_skip ?_
 refine sS [0, 2] [2] ?_
 refine rA ?_ (x := vM false [sl .v _])
 refine rA ?_ (x := cL [(false, [sl _ _])] [(false, [sl .v _])] c_180 (hs := by exact spec_l6Queries (by omega)))
 refine rA ?_ (x := loc_build (qs := [(false, [sl _ _])]) (cs := [sl _ _, sl _ _]) (by decide) z_92 zo_92 FIdb_pl_92 (by exact rfl) (by exact (aI (by exact ⟨⟩) tI)) rfl (by exact rfl))
 refine zks ?_
 refine zie ?_
 refine zkt ?_
 refine zhx ?_
 refine zku ?_
 rintro k hk
 refine zj5 ?_
 refine zi8 ?_
 refine sc (fun hbb => ?_) (fun hbb => ?_)
 have hlt : k < 3 := by omega
 have hfl := fieldsTo_len (l := l) (k := k)
 refine zed ?_
 refine sQ [0, 2, 3, 4] [2, 3] ?_
 refine sw_draw hm_ ?_
 refine zkv ?_
 refine zck ?_
 refine dA 12 ?_ (x := cL [(false, [sl _ _]), (false, [val _])] [(false, [sl .v _]), (false, [val _])] c_181 (hs := by exact spec_StabIndex))
 exact zkw
 exact zkx
theorem spec_IsIndex {p1 p2 p4 p5 : Fl} {x : Index}  : SCall Tryz.prog 106 [(true, [sl .v (x.Queries.map (cQuery p1 p2)), sl .v (x.Fields.map (cSpanS p4 p5))])] (resRV [(false, [val (.bool (okIndex x))])]) := by
 refine sF Tryz.func106 fun h0 w0 Fz0 => ?_
 refine sn 0 0 fun hl0_0 => ?_
 refine sn 0 1 fun hl0_1 => ?_
 refine zky ?_
 refine zft ?_
 refine zkz ?_
 refine rA ?_ (x := cL [(false, [sl _ _])] [(false, [sl .v _])] c_179 (hs := by exact spec_AreQueries))
 refine zha ?_
 refine cx 8 (fun ga sga => ?_) (fun ga sga => ?_)
 exact zl0
 refine rB ga ?_ (x := lF fd_92_1)
 refine rB ga ?_ (x := lD [sl .v _] ty_90)
 refine rB ga ?_ (x := lN sl_90)
 refine rB ga ?_ (x := B_neq)
 refine rA ?_ (x := pkF ga)
 refine sc (fun hba => ?_) (fun hba => ?_)
 exact zl1
 have hpr : (okQueries x.Queries && decide (x.Fields.length = 3)) = true := by first | (simp_all; done) | (simp_all; omega)
 have hf3 : x.Fields.length = 3 := of_decide_eq_true (Bool.and_eq_true_iff.1 hpr).2
 refine zhh ?_
 refine zg1 ?_
 refine sL [1] [1] (fun k : Nat => k ≤ 3 ∧ idxTo x k = true) (fun k : Nat => [(3, RV.int (k : Int))]) (fun k : Nat => []) (fun k : Nat => 3 - k) 0 (by exact ⟨by omega, rfl⟩) (by exact aI (by exact rfl) (tI)) (by exact ⟨⟩) ?_
 rintro k ⟨hk, ha⟩
 refine zj5 ?_
 refine zi8 ?_
 refine sc (fun hbb => ?_) (fun hbb => ?_)
 have hlt : k < 3 := by omega
 have hfl : k < x.Fields.length := by omega
 refine zdx ?_
 refine sQ [1, 3] [1] ?_
 refine sw_draw hm_ ?_
 refine zl2 ?_
 refine dA 0 ?_ (x := sM)
 refine dA 7 ?_ (x := loc_index (k := k) (by decide) sl_90 (by exact ⟨⟩) (by first | rfl | omega) (by exact getm2 hfl (by rw [gDt_ (d := []) hfl])) (by exact rfl))
 refine dA 15 ?_ (x := lE [sl .v _] ty_205)
 refine dA 0 ?_ (x := lF fd_92_0)
 refine dA 32 ?_ (x := lD [sl .v _] ty_89)
 refine dA 0 ?_ (x := sM)
 refine dA 224 ?_ (x := cL [(false, [sl _ _]), (false, [val _])] [(false, [sl .v _]), (false, [val _])] c_181 (hs := by exact spec_StabIndex))
 refine dA 511 ?_ (x := cL [(false, [sl _ _]), (false, [sl _ _])] [(false, [sl .v _]), (false, [sl .v _])] c_182 (hs := by exact spec_EqualSpans))
 refine dA 1023 ?_ (x := nT)
 refine sc (fun hbc => ?_) (fun hbc => ?_)
 have hd : deq (x.Fields.getD k []) (stabIdx x.Queries (k : Int)) = false := by simpa using hbc
 refine sS [1, 3] [1] ?_
 refine zgb ?_
 exact rb ((idx_no hlt hd).symm)
 have hd : deq (x.Fields.getD k []) (stabIdx x.Queries (k : Int)) = true := by simpa using hbc
 refine zg4 ?_
 refine ze0 ?_
 exact zl3
 have hend : k = 3 := by omega
 rw [hend] at ha
 refine zg6 ?_
 exact zl4
theorem spec_l6All {p1 p2 : Fl} {l : List Query}  (hb : l.length ≤ 1048576) : SCall Tryz.prog 183 [(false, [sl .v (l.map (cQuery p1 p2))])] (resRV [(false, [sl (.own 3 1) ((idsQ l).map cInt)])]) := by
 refine sF Tryz.func183 fun h0 w0 Fz0 => ?_
 refine sj 0 fun hl0 => ?_
 refine zaz ?_
 refine sS [0, 2] [] ?_
 refine zj4 ?_
 refine sS [0, 2, 3] [] ?_
 refine zgs ?_
 refine sL [0, 2] [] (fun k : Nat => k ≤ l.length) (fun k : Nat => [(3, RV.slc (.own 3 1) ((idsQ (l.take k)).map cInt)), (4, RV.int (k : Int))]) (fun k : Nat => []) (fun k : Nat => l.length - k) 0 (by omega) (by exact aI (by exact rfl) (aI (by exact rfl) (tI))) (by exact ⟨⟩) ?_
 rintro k hk
 refine zae ?_
 refine zjn ?_
 refine sc (fun hba => ?_) (fun hba => ?_)
 have hlt : k < l.length := by omega
 have htl : (idsQ (l.take k)).length = k := by unfold idsQ; rw [List.length_map, List.length_take]; omega
 refine zed ?_
 refine sG [0, 2, 3, 4] [] ?_
 refine zgt ?_
 refine zjx ?_
 refine zjy ?_
 refine sG [0, 2, 3, 4] [] ?_
 refine ze0 ?_
 refine nx (k + 1) (by omega) (e := (by exact aI (by exact slc_eq (by unfold idsQ; rw [map_take_succ hlt, List.map_append]; rfl)) (aI (by exact rfl) (tI))))
 have hend : k = l.length := by omega
 exact zl5
theorem spec_l6Order {o : List Int}  : SCall Tryz.prog 98 [(false, [sl .v (o.map cInt)])] (resRV [(false, [val (.bool (okOrder o))])]) := by
 refine sF Tryz.func98 fun h0 w0 Fz0 => ?_
 refine sj 0 fun hl0 => ?_
 refine zgd ?_
 refine zcf ?_
 refine sc (fun hba => ?_) (fun hba => ?_)
 have hbad : okOrder o = false := by unfold okOrder; rw [decide_eq_false (by omega)]; rfl
 refine sS [0, 2] [] ?_
 exact zi4
 have hl3 : o.length = 3 := by omega
 refine zf2 ?_
 refine sS [0, 2] [] ?_
 refine zge ?_
 refine sL [0] [] (fun k : Nat => k ≤ o.length ∧ ordTo o k = true) (fun k : Nat => [(3, RV.int (k : Int))]) (fun k : Nat => []) (fun k : Nat => o.length - k) 0 (by exact ⟨by omega, rfl⟩) (by exact aI (by exact rfl) (tI)) (by exact ⟨⟩) ?_
 rintro k ⟨hk, ha⟩
 refine zb2 ?_
 refine sc (fun hbb => ?_) (fun hbb => ?_)
 have hlt : k < o.length := by omega
 have hgk := gDt_ (d := (0 : Int)) hlt
 refine zdx ?_
 refine sP [0, 3] [] ?_
 refine zi6 ?_
 refine zcj ?_
 refine zj0 ?_
 refine dA 63 ?_ (x := sM)
 refine dx 19 (fun ga sga => ?_) (fun ga sga => ?_)
 refine dT 127 ga ?_
 refine dT 127 ga ?_
 refine dT 511 ga ?_
 refine dT 127 ga ?_
 refine dT 127 ga ?_
 refine dT 3199 ga ?_
 refine dT 7295 ga ?_
 refine dT 16383 ga ?_
 refine dA 32767 ?_ (x := pkT ga)
 refine scT ?_
 exact zl6
 refine dB 127 ga ?_ (x := vM false [sl .v _])
 refine dB 127 ga ?_ (x := sM)
 refine dB 511 ga ?_ (x := loc_sliceM (i := 0) (j := k) (ys := (o.take k)) (q := (0 : Int)) (by decide) sl_25 (by exact rfl) (by exact ⟨⟩) (by omega) (by omega) (by omega) (by omega) (fun _ => rfl) (by simp))
 refine dB 127 ga ?_ (x := vM false [sl .v _])
 refine dB 127 ga ?_ (x := sM)
 refine dB 3199 ga ?_ (x := loc_index (by decide) sl_25 (by exact ⟨⟩) (by exact rfl) (by exact getm2 (by omega) rfl) (by exact rfl))
 refine dB 7295 ga ?_ (x := lE [val _] ty_3)
 refine dB 16383 ga ?_ (x := cL [(false, [sl _ _]), (false, [val _])] [(false, [sl .v _]), (false, [val _])] c_173 (hs := by exact spec_HasMember))
 refine dA 32767 ?_ (x := pkF ga)
 refine sc (fun hbc => ?_) (fun hbc => ?_)
 exact zl6
 have hyes : (inB (o.getD k 0) 0 2 && !hasI (o.take k) (o.getD k 0)) = true := by rw [← hgk]; simp_all
 refine zgh ?_
 refine ze0 ?_
 refine nx (k + 1) (by exact ⟨by omega, by rw [ordTo_succ, ha, hyes]; rfl⟩)
 have hend : k = 3 := by omega
 rw [hend, ord_eq hl3] at ha
 refine zgi ?_
 refine zgb ?_
 exact rb (ha.symm)
theorem spec_l6Probe {p1 p2 p4 p5 : Fl} {x : Index} {r : Row} {o : List Int}  (hxo : okIndex x = true) (hro : okRow r = true) (hoo : okOrder o = true) : SCall Tryz.prog 108 [(true, [sl .v (x.Queries.map (cQuery p1 p2)), sl .v (x.Fields.map (cSpanS p4 p5))]), (true, [val (vI r.Id), sl .v (r.Values.map cInt)]), (false, [sl .v (o.map cInt)])] (resRV [(false, [sl (.own 3 1) ((probeAll x r o).1.map cInt)]), (false, [val (vI (probeAll x r o).2)])]) := by
 refine sF Tryz.func108 fun h0 w0 Fz0 => ?_
 refine sn 0 0 fun hl0_0 => ?_
 refine sn 0 1 fun hl0_1 => ?_
 refine sn 1 1 fun hl1_1 => ?_
 refine sj 2 fun hl2 => ?_
 have hx := idx_facts hxo
 have hq := okQs hx.1
 have ho := order_facts hoo
 have hrl := rowLen hro
 refine zky ?_
 refine zl7 ?_
 refine rK ?_
 refine sT [2, 3, 4, 6, 7] [3, 4] ?_
 refine zkz ?_
 refine rA ?_ (x := cL [(false, [sl _ _])] [(false, [sl .v _])] c_183 (hs := by exact spec_l6All (by omega)))
 refine rA ?_ (x := tA)
 refine sS [2, 3, 4, 6, 7, 8] [3, 4] ?_
 refine zee ?_
 refine sS [2, 3, 4, 6, 7, 8, 9] [3, 4] ?_
 refine zhx ?_
 refine sP [2, 3, 4, 6, 7, 8, 9, 10] [3, 4] ?_
 refine sL [2, 3, 4, 6, 7] [3, 4] (fun k : Nat => k ≤ o.length) (fun k : Nat => [(8, RV.slc (.own 3 1) ((probeTo x r o k).1.map cInt)), (9, RV.int (probeTo x r o k).2), (10, RV.int (k : Int))]) (fun k : Nat => []) (fun k : Nat => o.length - k) 0 (by omega) (by exact aI (by exact rfl) (aI (by exact rfl) (aI (by exact rfl) (tI)))) (by exact ⟨⟩) ?_
 rintro k hk
 refine zb2 ?_
 refine rM ?_
 refine cx 19 (fun ga sga => ?_) (fun ga sga => ?_)
 refine rB ga ?_ (x := vM false [sl .v _])
 refine rB ga ?_ (x := lN sl_25)
 refine rB ga ?_ (x := B_gtr)
 refine rA ?_ (x := pkT ga)
 refine sc (fun hba => ?_) (fun hba => ?_)
 have hlt : k < o.length := (by first | omega | (simp_all; done) | (simp_all; omega))
 have hne : (probeTo x r o k).1 ≠ [] := by intro e; simp_all
 have hof := ho.2 o[k] (List.getElem_mem hlt)
 have hff : o[k].toNat < x.Fields.length := by omega
 have hrf : o[k].toNat < r.Values.length := by omega
 have hpl := probe_len hq.1 r o k
 have hxf := hx.2.2 o[k].toNat (by omega)
 have hsi := stabIdx_len x.Queries (o[k].toNat : Int)
 rw [← hxf] at hsi
 have hss : ∀ s ∈ x.Fields.getD o[k].toNat [], s.Set.length ≤ 1048576 := fun s hs => Nat.le_trans (hsi.2 s hs) (by decide)
 have hfl := find_len hsi.2 (atI r.Values o[k])
 have hpe := probeTo_succ (x := x) (r := r) hlt hne
 refine zdx ?_
 refine sQ [2, 3, 4, 6, 7, 8, 9, 10] [3, 4] ?_
 refine sw_draw hm_ ?_
 refine zl2 ?_
 refine zck ?_
 refine dA 12 ?_ (x := loc_index (by decide) sl_25 (by exact ⟨⟩) (by exact rfl) (by exact getm2 (by omega) rfl) (by exact rfl))
 refine dA 28 ?_ (x := lE [val _] ty_3)
 refine dA 63 ?_ (x := loc_index (k := o[k].toNat) (by decide) sl_90 (by exact ⟨⟩) (by omega) (by exact getm2 hff (by rw [gDt_ (d := ([] : List Span)) hff])) (by exact rfl))
 refine dA 127 ?_ (x := lE [sl .v _] ty_205)
 refine dA 0 ?_ (x := lF fd_66_1)
 refine dA 256 ?_ (x := lD [sl .v _] ty_25)
 refine zck ?_
 refine dA 3072 ?_ (x := loc_index (by decide) sl_25 (by exact ⟨⟩) (by exact rfl) (by exact getm2 (by omega) rfl) (by exact rfl))
 refine dA 7168 ?_ (x := lE [val _] ty_3)
 refine dA 16128 ?_ (x := loc_index (k := o[k].toNat) (by decide) sl_25 (by exact ⟨⟩) (by omega) (by exact getm2 hrf (by rw [gDt_ (d := (0 : Int)) hrf])) (by exact rfl))
 refine dA 32512 ?_ (x := lE [val _] ty_3)
 refine dA 65535 ?_ (x := cL [(false, [sl _ _]), (false, [val _])] [(false, [sl .v _]), (false, [val _])] c_184 (hs := by exact (spec_FindSpan (l := x.Fields.getD o[k].toNat []) (v := atI r.Values o[k]) hss)))
 refine dA 131071 ?_ (x := tA)
 refine sS [2, 3, 4, 6, 7, 8, 9, 10, 11] [3, 4] ?_
 refine rM ?_
 refine rA ?_ (x := B_add)
 refine zb0 ?_
 refine zb0 ?_
 refine rA ?_ (x := loc_min (by decide) (by exact ⟨⟩) (by exact ⟨⟩))
 refine rA ?_ (x := B_add)
 refine rS ?_
 refine sG [2, 3, 4, 6, 7, 8, 9, 10, 11] [3, 4] ?_
 refine rA ?_ (x := vM false [sl .v _])
 refine rA ?_ (x := vM false [sl .v _])
 refine rA ?_ (x := cL [(false, [sl _ _]), (false, [sl _ _])] [(false, [sl .v _]), (false, [sl .v _])] c_185 (hs := by exact spec_MeetSets))
 refine rA ?_ (x := tA)
 refine sG [2, 3, 4, 6, 7, 8, 9, 10, 11] [3, 4] ?_
 refine ze0 ?_
 refine nx (k + 1) (by omega) (e := (by exact aI (by exact slc_eq (by rw [hpe])) (aI (by exact int_eq (by rw [hpe])) (aI (by exact rfl) (tI)))))
 exact zl8
 refine zfz ?_
 refine scF ?_
 exact zl8
end Go.Proofs.YteflgldonmgejaaGreat
