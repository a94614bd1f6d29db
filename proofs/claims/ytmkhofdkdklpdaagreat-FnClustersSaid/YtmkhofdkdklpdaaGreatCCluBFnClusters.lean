/- What functions of the program compute. No condition. -/
import Derived.Test.YtmkhofdkdklpdaaGreatCZMFnClusters
import Derived.Test.YtmkhofdkdklpdaaGreatCFcFnClusters
import Derived.Test.YtmkhofdkdklpdaaGreatCCluFnClusters
import Derived.KernelRfl
set_option linter.unusedVariables false
set_option linter.unusedSimpArgs false
namespace Go.Proofs.YtmkhofdkdklpdaaGreat
open Go Go.RowKit M PV
set_option maxRecDepth 10000
attribute [local irreducible] PV.Lcl PV.LclR RV.Lcl
theorem impl_startOk {p3 p4 : Fl} {q : Query} {l : List (List Row)} {m : Int}  (hb : wtRowSS l ≤ 68719476736) : SCall Tryz.prog 39 [(true, [val (vI q.Id), val (vI q.Tenant), sl .v (q.Conds.map cCond), sl .v (q.Out.map cInt)]), (false, [sl .v (l.map (cRowS p3 p4))]), (false, [val (vI m)])] (resRV [(false, [val (.bool (okQuery q && (okParts l && inB m 2 4)))])]) := by
 refine sF Tryz.func39 fun h0 w0 Fz0 => ?_
 refine sn 0 2 fun hl0_2 => ?_
 refine sn 0 3 fun hl0_3 => ?_
 refine sj 1 fun hl1 => ?_
 have hbu := hb
 simp only [wtRowSS] at hbu
 refine zdq ?_
 refine zby ?_
 refine sT [1, 2, 3, 6] [3] ?_
 refine zf4 ?_
 refine zep ?_
 refine cx 15 (fun ga sga => ?_) (fun ga sga => ?_)
 refine zdz ?_
 refine RunS.cases (s := 21) rfl (fun g2 => ?_) (fun g2 => nomatch g2)
 refine ze0 ?_
 refine scT ?_
 exact zff
 refine rB ga ?_ (x := vM false [sl .v _])
 refine rB ga ?_ (x := lN sl_28)
 refine rB ga ?_ (x := cL [(false, [val _]), (false, [val _]), (false, [val _])] [(false, [val _]), (false, [val _]), (false, [val _])] c_40 (hs := by exact impl_within))
 refine ze3 ?_
 refine cx 21 (fun gb sgb => ?_) (fun gb sgb => ?_)
 refine ze4 ?_
 exact zff
 refine rB gb ?_ (x := sM)
 refine rB gb ?_ (x := cL [(false, [val _]), (false, [val _]), (false, [val _])] [(false, [val _]), (false, [val _]), (false, [val _])] c_40 (hs := by exact impl_within))
 refine zfg ?_
 refine sc (fun hba => ?_) (fun hba => ?_)
 exact zff
 have hok : okQuery q = true ∧ inB l.length 1 8 = true ∧ inB m 2 4 = true := by simp_all
 refine sw_skip ?_
 refine sS [1, 2, 3, 6] [3] ?_
 refine zfh ?_
 refine sw_seq ?_
 refine sS [1, 2, 3, 6, 7] [3] ?_
 refine zdd ?_
 refine zbm ?_
 refine sP [1, 2, 3, 6, 7, 27, 28, 29] [3] ?_
 refine sL [1, 2, 3, 27, 28] [3] (fun k : Nat => k ≤ l.length ∧ (∀ i : Nat, (h : i < k) → (h2 : i < l.length) → segB l[i] = true) ∧ (idsOf (l.take k)).Nodup) (fun k : Nat => [(7, RV.slc (.own 3 1) ((idsOf (l.take k)).map cInt)), (29, RV.int (k : Int))]) (fun k : Nat => []) (fun k : Nat => l.length - k) 0 (by exact ⟨by omega, ⟨fun i hi => absurd hi (Nat.not_lt_zero _), by simp [idsOf]⟩⟩) (by exact aI (by first | exact rfl | simp) (aI (by exact rfl) (tI))) (by exact ⟨⟩) ?_
 rintro k ⟨hk, hsg, hnd⟩
 refine zbn ?_
 refine sc (fun hbb => ?_) (fun hbb => ?_)
 have hlt : k < l.length := by omega
 refine za6 ?_
 refine sT [1, 2, 3, 7, 27, 28, 29] [3] ?_
 refine zfi ?_
 refine rA ?_ (x := vA false [sl .v _])
 refine sw_seq ?_
 refine sS [1, 2, 3, 7, 9, 27, 28, 29] [3] ?_
 refine zcb ?_
 refine rA ?_ (x := B_gtr)
 refine rM ?_
 refine cx 36 (fun gc sgc => ?_) (fun gc sgc => ?_)
 refine zei ?_
 refine scT ?_
 exact zfj
 refine rB gc ?_ (x := vM false [sl .v _])
 refine rB gc ?_ (x := cL [(false, [sl _ _])] [(false, [sl .v _])] c_75 (hs := by exact impl_allRows))
 refine rB gc ?_ (x := nT)
 refine rA ?_ (x := pkF gc)
 refine sc (fun hbc => ?_) (fun hbc => ?_)
 exact zfj
 have hseg : segB l[k] = true := by simp_all [segB]
 have hwm := wt_mem (f := wtRowS) hlt
 refine sw_skip ?_
 refine sS [1, 2, 3, 7, 9, 27, 28, 29] [3] ?_
 refine zcb ?_
 refine zbm ?_
 refine sP [1, 2, 3, 7, 9, 27, 28, 29, 41, 42, 43] [3] ?_
 refine sL [1, 2, 3, 9, 27, 28, 29, 41, 42] [3] (fun k2 : Nat => k2 ≤ l[k].length ∧ (idsOf (l.take k) ++ (l[k].take k2).map Row.Id).Nodup) (fun k2 : Nat => [(7, RV.slc (.own 3 1) ((idsOf (l.take k) ++ (l[k].take k2).map Row.Id).map cInt)), (43, RV.int (k2 : Int))]) (fun k2 : Nat => []) (fun k2 : Nat => l[k].length - k2) 0 (by exact ⟨by omega, by simpa using hnd⟩) (by exact aI (by exact slc_eq (by simp)) (aI (by exact rfl) (tI))) (by exact ⟨⟩) ?_
 rintro k2 ⟨hk2, ha2⟩
 refine zbn ?_
 refine sc (fun hbd => ?_) (fun hbd => ?_)
 have hlt2 : k2 < l[k].length := by omega
 have hil := ids_le2 (l := l) (k := k) (j := k2) hlt
 simp only [List.length_append, List.length_map] at hil
 refine za6 ?_
 refine sT [1, 2, 3, 7, 9, 27, 28, 29, 41, 42, 43] [3] ?_
 refine zcc ?_
 refine zaq ?_
 refine zae ?_
 refine sO [(1, _), (2, _), (3, _), (7, _), (9, _), (11, _), (27, _), (28, _), (29, _), (41, _), (42, _), (43, _)] [(3, _), (11, (63, [val _, sl _ _]))] ?_
 refine zal ?_
 refine zc4 ?_
 refine rA ?_ (x := cL [(false, [sl _ _]), (false, [val _])] [(false, [sl .v _]), (false, [val _])] c_41 (hs := by exact impl_hasInt))
 refine sc (fun hbe => ?_) (fun hbe => ?_)
 have hbad : okParts l = false := okParts_dup hlt hlt2 hbe
 refine sS [1, 2, 3, 7, 9, 11, 27, 28, 29, 41, 42, 43] [3, 11] ?_
 refine zcd ?_
 exact rb (by simp [hbad])
 have hdu := hbe
 refine sw_skip ?_
 refine sG [1, 2, 3, 7, 9, 11, 27, 28, 29, 41, 42, 43] [3, 11] ?_
 refine rA ?_ (x := tM)
 refine zc4 ?_
 refine zaw ?_
 refine rA ?_ (x := tA)
 refine sG [1, 2, 3, 7, 9, 11, 27, 28, 29, 41, 42, 43] [3, 11] ?_
 refine zbr ?_
 refine nx (k2 + 1) (by exact ⟨by omega, by rw [ids_row hlt hlt2]; exact nodup_snoc ha2 hdu⟩) (e := (by exact aI (by exact slc_eq (by rw [ids_row hlt hlt2]; simp [cInt])) (aI (by exact rfl) (tI))))
 have hsegs : ∀ i : Nat, (h : i < k + 1) → (h2 : i < l.length) → segB l[i] = true := fun i h h2 => by by_cases e : i = k; (· subst e; exact hseg); (· exact hsg i (by omega) h2)
 have hnd2 : (idsOf (l.take (k + 1))).Nodup := by rw [ids_seg hlt, show l[k].length = k2 by omega]; exact ha2
 refine sw_exit ?_
 refine sH [1, 2, 3, 7, 9, 27, 28, 29, 41, 42, 43] [3] ?_
 refine zbr ?_
 exact zfk
 have hall : okParts l = true := okParts_iff.2 ⟨hok.2.1, fun s hs => by obtain ⟨i, hi, rfl⟩ := List.mem_iff_getElem.1 hs; exact hsg i (by omega) hi, by have := hnd; rwa [List.take_of_length_le (by omega)] at this⟩
 refine sw_exit ?_
 refine sT [1, 2, 3, 7, 27, 28, 29] [3] ?_
 refine zcd ?_
 exact rb (by simp [hall, hok])
theorem spec_l18Parts {p1 p2 : Fl} {l : List (List Row)}  (hb : wtRowSS l ≤ 68719476736) : SCall Tryz.prog 46 [(false, [sl .v (l.map (cRowS p1 p2))])] (resRV [(false, [val (.bool (okParts l))])]) := by
 refine sF Tryz.func46 fun h0 w0 Fz0 => ?_
 refine sj 0 fun hl0 => ?_
 have hbu := hb
 simp only [wtRowSS] at hbu
 refine za0 ?_
 refine sS [0, 2] [] ?_
 refine zfh ?_
 refine sw_seq ?_
 refine za3 ?_
 refine sL [0] [] (fun k : Nat => k ≤ l.length ∧ (∀ i : Nat, (h : i < k) → (h2 : i < l.length) → segB l[i] = true) ∧ (idsOf (l.take k)).Nodup) (fun k : Nat => [(3, RV.slc (.own 3 1) ((idsOf (l.take k)).map cInt)), (4, RV.int (k : Int))]) (fun k : Nat => []) (fun k : Nat => l.length - k) 0 (by exact ⟨by omega, ⟨fun i hi => absurd hi (Nat.not_lt_zero _), by simp [idsOf]⟩⟩) (by exact aI (by first | exact rfl | simp) (aI (by exact rfl) (tI))) (by exact ⟨⟩) ?_
 rintro k ⟨hk, hsg, hnd⟩
 refine za4 ?_
 refine zde ?_
 refine sc (fun hba => ?_) (fun hba => ?_)
 have hlt : k < l.length := by omega
 refine zau ?_
 refine sS [0, 3, 4] [] ?_
 refine za7 ?_
 refine zfi ?_
 refine rA ?_ (x := lN sl_36)
 refine rA ?_ (x := B_gtr)
 refine sc (fun hbb => ?_) (fun hbb => ?_)
 have hbad : okParts l = false := okParts_seg hlt (Bool.eq_false_iff.2 fun e => by unfold segB at e; rw [Bool.and_eq_true] at e; have e1 := of_decide_eq_true e.1; omega)
 refine sS [0, 3, 4] [] ?_
 exact zfl
 have hwm := wt_mem (f := wtRowS) hlt
 refine sw_skip ?_
 refine sS [0, 3, 4] [] ?_
 refine zas ?_
 refine sP [0, 3, 4, 5] [] ?_
 refine sL [0, 4] [] (fun k2 : Nat => k2 ≤ l[k].length ∧ (idsOf (l.take k) ++ (l[k].take k2).map Row.Id).Nodup ∧ (l[k].take k2).all okRow = true) (fun k2 : Nat => [(3, RV.slc (.own 3 1) ((idsOf (l.take k) ++ (l[k].take k2).map Row.Id).map cInt)), (5, RV.int (k2 : Int))]) (fun k2 : Nat => []) (fun k2 : Nat => l[k].length - k2) 0 (by exact ⟨by omega, ⟨by simpa using hnd, by simp⟩⟩) (by exact aI (by exact slc_eq (by simp)) (aI (by exact rfl) (tI))) (by exact ⟨⟩) ?_
 rintro k2 ⟨hk2, ha2, har⟩
 refine za4 ?_
 refine za7 ?_
 refine zfi ?_
 refine rA ?_ (x := lN sl_36)
 refine rA ?_ (x := B_lss)
 refine sc (fun hbc => ?_) (fun hbc => ?_)
 have hlt2 : k2 < l[k].length := by omega
 have hil := ids_le2 (l := l) (k := k) (j := k2) hlt
 simp only [List.length_append, List.length_map] at hil
 refine zau ?_
 refine sS [0, 3, 4, 5] [] ?_
 refine za7 ?_
 refine zfi ?_
 refine rM ?_
 refine zcc ?_
 refine rA ?_ (x := cL [(true, [val _, sl _ _])] [(true, [val _, sl .v _])] c_80 (hs := by exact spec_IsRow))
 refine zep ?_
 refine cx 37 (fun ga sga => ?_) (fun ga sga => ?_)
 refine zf5 ?_
 refine scT ?_
 exact zfm
 refine rB ga ?_ (x := vM false [sl .v _])
 refine rB ga ?_ (x := vM false [sl .v _])
 refine rB ga ?_ (x := sM)
 refine rB ga ?_ (x := loc_index (by decide) sl_28 (by exact ⟨⟩) (by exact rfl) (by exact getm2 (by omega) rfl) (by exact rfl))
 refine rB ga ?_ (x := lE [sl .v _] ty_36)
 refine rB ga ?_ (x := sM)
 refine rB ga ?_ (x := loc_index (by decide) sl_36 (by exact ⟨⟩) (by exact rfl) (by exact getm2 (by omega) rfl) (by exact rfl))
 refine rB ga ?_ (x := loc_efield (by decide) fd_63_0 (by exact nl rfl))
 refine rB ga ?_ (x := lE [val _] ty_3)
 refine rB ga ?_ (x := cL [(false, [sl _ _]), (false, [val _])] [(false, [sl .v _]), (false, [val _])] c_48 (hs := by exact spec_HasMember))
 refine rA ?_ (x := pkF ga)
 refine sc (fun hbd => ?_) (fun hbd => ?_)
 exact zfm
 have hyes : okRow l[k][k2] = true := by simp_all
 have hdu : hasI (idsOf (l.take k) ++ (l[k].take k2).map Row.Id) l[k][k2].Id = false := by first | assumption | (simp_all; done)
 refine sw_skip ?_
 refine sG [0, 3, 4, 5] [] ?_
 refine zcn ?_
 refine zfi ?_
 refine rM ?_
 refine rA ?_ (x := loc_index (by decide) sl_36 (by exact ⟨⟩) (by exact rfl) (by exact getm2 (by omega) rfl) (by exact rfl))
 refine rA ?_ (x := loc_efield (by decide) fd_63_0 (by exact nl rfl))
 refine rA ?_ (x := lE [val _] ty_3)
 refine zaw ?_
 refine rA ?_ (x := tA)
 refine sG [0, 3, 4, 5] [] ?_
 refine za8 ?_
 refine nx (k2 + 1) (by exact ⟨by omega, ⟨by rw [ids_row hlt hlt2]; exact nodup_snoc ha2 hdu, all_succ har hlt2 hyes⟩⟩) (e := (by exact aI (by exact slc_eq (by rw [ids_row hlt hlt2]; simp [cInt])) (aI (by exact rfl) (tI))))
 have hseg : segB l[k] = true := by unfold segB; rw [Bool.and_eq_true]; exact ⟨decide_eq_true (by omega), all_end (by rw [show l[k].length = k2 by omega]; exact har)⟩
 have hsegs : ∀ i : Nat, (h : i < k + 1) → (h2 : i < l.length) → segB l[i] = true := fun i h h2 => by by_cases e : i = k; (· subst e; exact hseg); (· exact hsg i (by omega) h2)
 have hnd2 : (idsOf (l.take (k + 1))).Nodup := by rw [ids_seg hlt, show l[k].length = k2 by omega]; exact ha2
 refine sw_exit ?_
 refine sG [0, 3, 4, 5] [] ?_
 refine za8 ?_
 exact zfk
 have hend : (∀ s ∈ l, segB s = true) ∧ (idsOf l).Nodup := ⟨fun s hs => by obtain ⟨i, hi, rfl⟩ := List.mem_iff_getElem.1 hs; exact hsg i (by omega) hi, by have := hnd; rwa [List.take_of_length_le (by omega)] at this⟩
 refine sw_exit ?_
 refine sS [0, 3, 4] [] ?_
 refine zdd ?_
 refine zdp ?_
 exact rb (by rw [Bool.eq_iff_iff, okParts_iff]; exact ⟨fun h => ⟨h, hend⟩, fun h => h.1⟩)
end Go.Proofs.YtmkhofdkdklpdaaGreat
