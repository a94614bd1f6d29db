/- Short names for what the printed proofs say often. No condition. -/
import Derived.Test.YtmekkgdboplbjaaCF2
set_option linter.unusedVariables false
namespace Go.Proofs.Ytmekkgdboplbjaa.M
open Go Go.RowKit
variable {G H : Prop}
theorem za1 (h : G := by
 refine zfu ?_
 exact rb (by simp [inB, *])) : G := h
theorem za0 (h : G := by
 refine sR ?_
 refine rK ?_
 refine sS [0, 1, 2, 6] [] ?_
 refine za8 ?_
 refine rA ?_ (x := B_geq)
 refine rM ?_
 refine cx 10 (fun ga sga => ?_) (fun ga sga => ?_)
 refine rB ga ?_ (x := sM)
 refine rB ga ?_ (x := sM)
 refine rB ga ?_ (x := B_leq)
 refine rA ?_ (x := pkT ga)
 exact za1
 refine zam ?_
 exact za1) : G := h
theorem zad (h : G := by
 refine sw_ret ?_
 exact (aI (by exact rfl) tI)) : G := h
theorem zai (h : G := by
 refine za9 ?_
 exact rb (by simp [okRow, beq_dec, all_no (P := okVal) hlt hno])) : G := h
theorem zlg (h : G := by
 refine nx (k + 1) (by exact ⟨by omega, all_succ ha hlt hyes⟩)) : G := h
theorem zaj (h : G := by
 refine zaa ?_
 exact zlg) : G := h
theorem zan (h : G := by
 refine zfu ?_
 exact rb (by simp [okRow, beq_dec, hall, *])) : G := h
theorem zal (h : G := by
 refine zc8 ?_
 refine zc9 ?_
 refine rA ?_ (x := pkT ga)
 exact zan) : G := h
theorem zar (h : G := by
 refine sw_skip ?_
 refine sG [1, 3] [1] ?_
 refine zdb ?_
 exact zlg) : G := h
theorem zay (h : G := by
 refine zfu ?_
 exact rb (by simp [okRows, *])) : G := h
theorem zb2 (h : G := by
 refine dA 63 ?_ (x := loc_store (ag := true) (vs := [val _, sl _ _]) ty_45 (by exact ⟨⟩) (by exact rfl) (by exact nl rfl))
 refine sw_ret ?_
 exact (Exists.intro 2 (Exists.intro _ (aI (by exact rfl) (aI (by exact rfl) (aI ty_45 (aI (fun h => nomatch h) tI))))))) : G := h
theorem zb6 (h : G := by
 refine nx (k + 1) (by omega) (e := (by exact aI (by exact slc_eq (by rw [tk_succ hlt, List.map_append]; rfl)) (aI (by exact rfl) (tI))))) : G := h
theorem zb7 (h : G := by
 refine zdc ?_
 exact (aI (by refine slc_eq ?_; rw [hend, List.take_length]) tI)) : G := h
theorem zbb (h : G := by
 refine zfu ?_
 exact rb (by first | (simp_all [okCond, inB]; done) | (simp_all [okCond, inB]; omega))) : G := h
theorem zby (h : G := by
 refine sw_ret ?_
 exact rb (by first | exact hbad0.symm | (simp [okQuery, okConds, hbad]; done) | (simp [okQuery, okFields, hn3]; done) | (simp_all [okQuery, okConds, okFields]; done) | (simp_all [okQuery, okConds, okFields]; rfl) | (simp_all [okQuery, okConds, okFields]; omega) | (simp_all [okQuery, okConds, okFields]; intros; omega))) : G := h
theorem zbm (h : G := by
 have hbad0 : okQuery x = false := by first | (simp_all [okQuery]; done) | (simp_all [okQuery]; rfl) | (simp_all [okQuery]; omega) | (simp_all [okQuery]; intros; omega)
 refine sS [1, 2] [1] ?_
 refine rK ?_
 exact zby) : G := h
theorem zbv (h : G := by
 have hbad : adjAll ⟨0, 0, 0⟩ okCond ltField x.Conds = false := adj_no hlt (Bool.eq_false_iff.2 fun hx => by
  have hx := adjStep.1 hx
  rw [hgk] at hx
  obtain ⟨hx1, hx2⟩ := hx
  first
  | (simp_all; done)
  | (simp only [decide_eq_true_eq, ltField] at *; by_cases h0 : k = 0 <;> (try rw [hgp (by omega)] at hx2) <;> omega))
 refine sS [1, 3, 4, 24, 25, 26] [1, 4] ?_
 refine rK ?_
 exact zby) : G := h
theorem zbw (h : G := by
 refine sw_skip ?_
 refine sG [1, 3, 4, 24, 25, 26] [1, 4] ?_
 refine zaa ?_
 refine nx (k + 1) (by exact ⟨by omega, by rw [adjTo_succ, ha, Bool.true_and]; refine adjStep.2 ⟨by rw [hgk]; first | assumption | simp_all, ?_⟩; rcases Nat.eq_zero_or_pos k with h0 | h0; (· exact .inl h0); (· right; rw [hgk, hgp h0]; first | (simp only [decide_eq_true_eq, ltField] at *; omega) | (simp_all; done))⟩)) : G := h
theorem zc1 (h : G := by
 have hyes : admC f v q.Conds[k] = true := by simp_all [admC]
 refine sw_skip ?_
 refine sG [1, 2, 3, 8, 10, 11, 12] [3, 8] ?_
 exact zaj) : G := h
theorem zdh (h : G := by
 refine za9 ?_
 exact rb (hbad.symm)) : G := h
theorem zc5 (h : G := by
 have hbad : matchRow q r = false := by simp_all [matchRow]
 refine sS [2, 3, 4] [2, 3] ?_
 exact zdh) : G := h
theorem zcr (h : G := by
 refine sw_ret ?_
 exact rb (by first | (simp_all [okUpdate, bareRow]; done) | (simp_all [okUpdate, bareRow]; rfl) | (simp_all [okUpdate, bareRow]; omega) | (simp_all [okUpdate, bareRow]; intros; omega))) : G := h
theorem zce (h : G := by
 refine rS ?_
 exact zcr) : G := h
theorem zcl (h : G := by
 refine rA ?_ (x := pkT gc)
 exact zce) : G := h
theorem zch (h : G := by
 refine rB gc ?_ (x := lF fd_47_3)
 refine rB gc ?_ (x := lD [val _] ty_3)
 refine rB gc ?_ (x := B_eql)
 exact zcl) : G := h
theorem zci (h : G := by
 refine zbc ?_
 exact zce) : G := h
theorem zcd (h : G := by
 refine zcg ?_
 refine zba ?_
 refine cx 27 (fun gc sgc => ?_) (fun gc sgc => ?_)
 exact zch
 exact zci) : G := h
theorem zcm (h : G := by
 refine sw_skip ?_
 refine sS [1, 2, 3, 16] [1] ?_
 refine rK ?_
 exact zcr) : G := h
theorem zct (h : G := by
 refine zfu ?_
 exact rb (by first | (simp_all [visV]; done) | (simp_all [visV]; rfl) | (simp_all [visV]; omega) | (simp_all [visV]; intros; omega))) : G := h
theorem zcx (h : G := by
 refine zfu ?_
 exact rb (by first | (simp_all [meetV]; done) | (simp_all [meetV]; rfl) | (simp_all [meetV]; omega) | (simp_all [meetV]; intros; omega))) : G := h
theorem zcz (h : G := by
 refine zfu ?_
 exact rb (by first | (simp_all [apartV]; done) | (simp_all [apartV]; omega) | (rw [Bool.eq_iff_iff]; simp_all [apartV]; done) | (rw [Bool.eq_iff_iff]; simp_all [apartV]; omega))) : G := h
theorem zd6 (h : G := by
 refine zfu ?_
 exact rb (by first | (simp_all [verOk]; done) | (simp_all [verOk]; rfl) | (simp_all [verOk]; omega) | (simp_all [verOk]; intros; omega))) : G := h
theorem zdf (h : G := by
 have hbad : okStore s = false := by first | (simp_all [okStore, stoPre]; done) | (simp_all [okStore, stoPre]; omega)
 refine sS [1, 2] [1] ?_
 exact zdh) : G := h
theorem zde (h : G := by
 refine zc4 ?_
 refine scT ?_
 exact zdf) : G := h
theorem zdp (h : G := by
 refine nx (m + 1) (by refine ⟨by omega, ?_⟩; rw [freeOf_succ, hfr, Bool.true_and]; exact hap)) : G := h
theorem zdv (h : G := by
 have hvo : verOk s.Now s.Segments[k][j] = false := by first | (simp_all [verOk, rowOfV]; done) | (simp_all [verOk, rowOfV]; omega)
 have hbad := sto_no hag.1 (good_no1 (by rw [hag.2]; exact hvo))
 refine sS [1, 3, 5, 7, 23, 24, 25, 32, 33, 34] [1, 7] ?_
 exact zdh) : G := h
theorem ze3 (h : G := by
 have hap : apartV ((allV s).getD ((preN s k).length + j) v0) ((allV s).getD m v0) = false := by
  rw [hag.2] at hma ⊢
  by_cases hid : s.Segments[k][j].Id = ((allV s).getD m v0).Id
  ·rw [beq_iff_eq.2 hid, Bool.true_and] at hma; simp_all
  ·simp_all
 have hbad := sto_no hag.1 (good_no2 hlt3 hap)
 refine sS [1, 3, 5, 7, 9, 23, 24, 25, 32, 33, 34, 66, 67, 68] [1, 7, 9] ?_
 exact zdh) : G := h
theorem ze4 (h : G := by
 have hap : apartV ((allV s).getD ((preN s k).length + j) v0) ((allV s).getD m v0) = true := by
  rw [hag.2] at hma ⊢
  by_cases hid : s.Segments[k][j].Id = ((allV s).getD m v0).Id
  ·rw [beq_iff_eq.2 hid, Bool.true_and] at hma; simp_all
  ·rw [beq_false_of_ne hid, Bool.false_and] at hma; simpa using hma.symm
 refine sw_skip ?_
 refine sG [1, 3, 5, 7, 9, 23, 24, 25, 32, 33, 34, 66, 67, 68] [1, 7, 9] ?_
 refine zaa ?_
 exact zdp) : G := h
theorem ze5 (h : G := by
 refine zf ge ?_
 refine rA ?_ (x := pkF ge)
 refine scF ?_
 exact ze4) : G := h
theorem ze6 (h : G := by
 have hend3 : m = (preN s k).length + j := by omega
 refine sw_exit ?_
 refine sH [1, 3, 5, 7, 23, 24, 25, 32, 33, 34, 66, 67, 68] [1, 7] ?_
 refine rA ?_ (x := tM)
 refine rA ?_ (x := lD [val _, sl .v _, val _, val _] ty_107)
 refine rA ?_ (x := loc_bslice (qs := [(true, [val _, sl _ _, val _, val _])]) (by decide) sl_71 z_107 (by decide) rfl rfl rfl rfl rfl (by exact nl rfl) (by exact (aI (by exact ⟨⟩) tI)) rfl)
 refine zg4 ?_
 refine sG [1, 3, 5, 7, 23, 24, 25, 32, 33, 34, 66, 67, 68] [1, 7] ?_
 refine zaa ?_
 refine nx (j + 1) (by refine ⟨by omega, ?_⟩; rw [← Nat.add_assoc, goodTo_succ, hg, Bool.true_and]; unfold goodV; rw [hag.2, hvo, Bool.true_and, ← hend3]; rw [hend3] at hfr ⊢; exact hfr) (e := (by exact aI (by exact slc_eq (by rw [List.take_succ_eq_append_getElem hlt2]; simp only [List.map_append, List.append_assoc]; rfl)) (aI (by exact rfl) (tI))))) : G := h
theorem ze8 (h : G := by
 refine sS [0, 3, 4, 5, 6, 7] [] ?_
 refine za9 ?_
 exact rb (by exact (okSetTo_no hlt (Bool.eq_false_iff.2 fun hx => by have hx := okStep.1 hx; rw [hgk] at hx; (try simp only [inB, Bool.and_eq_false_iff, decide_eq_false_iff_not] at *); omega)).symm)) : G := h
theorem ze9 (h : G := by
 refine sw_skip ?_
 refine sG [0, 3, 4, 5, 6, 7] [] ?_
 refine zaa ?_
 refine nx (k + 1) (by exact ⟨by omega, by rw [okSetTo_succ, ha, Bool.true_and]; exact okStep.2 (by rw [hgk]; (try simp only [inB, Bool.and_eq_true, decide_eq_true_eq] at *); omega)⟩)) : G := h
theorem zeb (h : G := by
 have hbad : okCharge x = false := by first | (simp_all [okCharge, chgPre, inB]; done) | (simp_all [okCharge, chgPre, inB]; rfl) | (simp_all [okCharge, chgPre, inB]; omega) | (simp_all [okCharge, chgPre, inB]; intros; omega)
 refine sS [1, 2, 3] [1] ?_
 exact zdh) : G := h
theorem zed (h : G := by
 have hno : chgAt x k = false := by simp_all [chgAt]
 refine sS [1, 3, 4, 33, 34] [1] ?_
 refine za9 ?_
 exact rb ((chg_no hlt hno).symm)) : G := h
theorem zee (h : G := by
 refine zfu ?_
 exact rb (by simp_all [okCharge])) : G := h
theorem zei (h : G := by
 have hbad : adjAll 0 (todoP s.Segments.length) ltI_ a.Todo = false := adj_no hlt (Bool.eq_false_iff.2 fun hx => by
  have hx := adjStep.1 hx
  rw [hgk] at hx
  obtain ⟨hx1, hx2⟩ := hx
  first
  | (simp_all; done)
  | (simp only [decide_eq_true_eq, ltI_, todoP, inB, Bool.and_eq_true, Bool.and_eq_false_iff, decide_eq_false_iff_not] at *; by_cases h0 : k = 0 <;> (try rw [hgp (by omega)] at hx2) <;> omega))
 refine sS [2, 3, 5, 6, 8, 9, 10] [2, 3] ?_
 refine za9 ?_
 exact rb (by simp [okActive, okTodo, hbad])) : G := h
theorem zej (h : G := by
 refine sw_skip ?_
 refine sG [2, 3, 5, 6, 8, 9, 10] [2, 3] ?_
 refine zaa ?_
 refine nx (k + 1) (by exact ⟨by omega, by rw [adjTo_succ, ha, Bool.true_and]; refine adjStep.2 ⟨by rw [hgk]; first | assumption | simp_all, ?_⟩; rcases Nat.eq_zero_or_pos k with h0 | h0; (· exact .inl h0); (· right; rw [hgk, hgp h0]; first | (simp only [decide_eq_true_eq, ltI_, todoP, inB, Bool.and_eq_true, Bool.and_eq_false_iff, decide_eq_false_iff_not] at *; omega) | (simp_all; done))⟩)) : G := h
theorem zel (h : G := by
 refine zfu ?_
 exact rb (by first | (simp_all [okActive, okTodo]; done) | (simp_all [okActive, okTodo]; rfl) | (simp_all [okActive, okTodo]; omega) | (simp_all [okActive, okTodo]; intros; omega))) : G := h
theorem zlh (h : G := by
 have hbad := eng_no1 hpr
 refine sS [1, 2] [1] ?_
 exact zdh) : G := h
theorem zen (h : G := by
 have hpr : engPre e = false := by first | (simp_all [engPre]; done) | (simp_all [engPre]; omega) | (rw [← Bool.not_eq_true]; intro hc_; simp [engPre] at hc_; simp_all; done) | (rw [← Bool.not_eq_true]; intro hc_; simp [engPre] at hc_; omega)
 exact zlh) : G := h
theorem zep (h : G := by
 have hpr : engPre e = false := by unfold engPre; rw [hp1]; first | (simp_all; done) | (simp_all; omega)
 exact zlh) : G := h
theorem zf1 (h : G := by
 refine za9 ?_
 exact rb (hbad2.symm)) : G := h
theorem zet (h : G := by
 have hbad : adjAll a0_ (okActive e.Store) ltA e.Active = false := adj_no hlt (Bool.eq_false_iff.2 fun hx => by
  have hx := adjStep.1 hx
  rw [hgk] at hx
  obtain ⟨hx1, hx2⟩ := hx
  first
  | (simp_all; done)
  | (simp only [decide_eq_true_eq, ltA] at *; by_cases h0 : k = 0 <;> (try rw [hgp (by omega)] at hx2) <;> omega))
 have hbad2 := eng_no2 hbad
 refine sS [1, 3, 4, 53, 54, 55] [1, 4] ?_
 exact zf1) : G := h
theorem zeu (h : G := by
 refine sw_skip ?_
 refine sG [1, 3, 4, 53, 54, 55] [1, 4] ?_
 refine zaa ?_
 refine nx (k + 1) (by exact ⟨by omega, by rw [adjTo_succ, ha, Bool.true_and]; refine adjStep.2 ⟨by rw [hgk]; first | assumption | simp_all, ?_⟩; rcases Nat.eq_zero_or_pos k with h0 | h0; (· exact .inl h0); (· right; rw [hgk, hgp h0]; first | (simp only [decide_eq_true_eq, ltA] at *; omega) | (simp_all; done))⟩)) : G := h
theorem zey (h : G := by
 have hno : (okFin e.Store.Now) e.Done[k] = false := by first | (simp_all [okFin]; done) | (simp_all [okFin]; omega)
 have hbad2 := eng_no3 (all_no hlt hno)
 refine sS [1, 6, 53, 54, 55, 85, 86, 87] [1, 6] ?_
 exact zf1) : G := h
theorem zff (h : G := by
 refine zfz ?_
 refine sw_ret ?_
 exact (Exists.intro 2 (Exists.intro _ (aI (by exact rfl) (aI (by refine box_eq ?_; rw [hend, List.take_length]; exact rfl) (aI ty_26 (aI (fun h => nomatch h) tI))))))) : G := h
theorem zfh (h : G := by
 refine nx (k + 1) (by omega) (f := (by exact aI (by rw [tk_succ hlt]; simp only [List.map_append]; exact rfl) (tI)))) : G := h
theorem zfl (h : G := by
 refine sw_reg ?_
 refine zaa ?_
 exact zfh) : G := h
theorem zfn (h : G := by
 refine zfu ?_
 exact rb (by first | (simp_all [awake]; done) | (simp_all [awake]; rfl) | (simp_all [awake]; omega) | (simp_all [awake]; intros; omega))) : G := h
theorem zfs (h : G := by
 refine sG [1, 2, 3, 5, 12, 13, 14] [1, 5] ?_
 refine zaa ?_
 refine nx (k + 1) (by omega) (e := (by exact aI (by first | exact slc_eq (by rw [partsOf_yes hlt hc, List.map_append]; rfl) | exact slc_eq (by rw [partsOf_no hlt hc])) (aI (by exact rfl) (tI))))) : G := h
theorem zft (h : G := by
 have hc : partP e e.Active[k] = false := by simp_all [partP]
 refine sw_skip ?_
 exact zfs) : G := h
theorem zg5 (h : G := by
 refine sG [1, 2, 4, 5, 6, 7, 8, 9, 11, 19, 20, 21, 27, 28, 29, 2900, 6000] [2, 4, 6, 11, 900] ?_
 refine zaa ?_
 refine nx (j + 1) (by omega) (e := (by exact aI (by first | exact slc_eq (by rw [filtZ_yes hlj (by rw [hz3]; exact hnd), List.map_append]; exact rfl) | exact slc_eq (by rw [filtZ_no hlj (by rw [hz3]; exact hnd)])) (aI (by exact int_eq (by omega)) (tI))))) : G := h
theorem zg6 (h : G := by
 refine sG [0, 1, 4, 5, 7, 9, 10, 11] [] ?_
 refine zaa ?_
 refine nx (k + 1) (by omega) (e := (by exact aI (by first | exact slc_eq (by rw [wthout_yes hlt hne, List.map_append]; rfl) | exact slc_eq (by rw [wthout_no hlt hne])) (aI (by exact rfl) (tI))))) : G := h
theorem zg7 (h : G := by
 refine sG [1, 2, 3, 6, 7, 9, 15, 16, 17] [3, 9] ?_
 refine zaa ?_
 refine nx (k + 1) (by omega) (e := (by exact aI (by first | exact slc_eq (by rw [visL_yes hlt hv, List.map_append]; rfl) | exact slc_eq (by rw [visL_no hlt hv])) (aI (by exact rfl) (tI))))) : G := h
theorem zgd (h : G := by
 have hno : admitOk e q l = false := by first | (simp_all [admitOk]; done) | (simp_all [admitOk]; omega) | (rw [← Bool.not_eq_true]; intro hc_; obtain ⟨h1_, h2_, h3_, h4_, h5_⟩ := admitOk_f hc_; first | omega | (simp_all; done) | (simp_all [inB]; omega))
 refine sS [2, 3, 4, 6, 7, 8] [3, 4, 6, 8] ?_
 refine zfm ?_
 refine za9 ?_
 exact (Exists.intro 6 (Exists.intro _ (aI (by exact rfl) (aI (by refine box_eq ?_; rw [admit_no hno]; exact rfl) (aI ty_32 (aI (fun h => nomatch h) (aI (by refine bool_eq ?_; rw [admit_no hno]) tI)))))))) : G := h
theorem zgl (h : G := by
 refine sG [2, 3, 4, 6, 7, 8, 9, 11, 13, 54, 55, 67, 68, 69, 6200, 6300] [3, 4, 6, 8, 9, 13] ?_
 refine zaa ?_
 refine nx (m + 1) (by omega) (e := (by exact aI (by first | exact slc_eq (by rw [filtA_yes hmz hlz, List.map_append]; rfl) | exact slc_eq (by rw [filtA_no hmz hlz])) (aI (by exact int_eq (by omega)) (tI))))) : G := h
theorem zgv (h : G := by
 have hno : cancelOk e id = false := by first | (simp_all [cancelOk]; done) | (simp_all [cancelOk]; omega) | (rw [← Bool.not_eq_true]; intro hc_; unfold cancelOk at hc_; simp only [Bool.and_eq_true, decide_eq_true_eq] at hc_; obtain ⟨h1_, h2_⟩ := hc_; first | omega | (simp_all; done) | (simp_all; omega))
 refine sS [1, 2, 4, 5, 6, 7] [2, 4, 6] ?_
 refine zfm ?_
 refine za9 ?_
 exact (Exists.intro 4 (Exists.intro _ (aI (by exact rfl) (aI (by refine box_eq ?_; rw [cancel_no hno]; exact rfl) (aI ty_32 (aI (fun h => nomatch h) (aI (by refine bool_eq ?_; rw [cancel_no hno]) tI)))))))) : G := h
theorem zgx (h : G := by
 refine za8 ?_
 refine rS ?_
 refine zfu ?_
 exact (aI (by refine int_eq ?_; rw [hfa.1]) (aI (by refine int_eq ?_; rw [hfa.2]) tI))) : G := h
theorem zli (h : G := by
 refine nx (j + 1) (by exact ⟨by omega, any_succ hc hlt2 hno2⟩) (e := (by exact aI (by exact int_eq (by omega)) (tI)))) : G := h
theorem zgy (h : G := by
 have hno2 : aliveP id s.Segments[i][j] = false := by first | (simp_all [aliveP]; done) | (unfold aliveP; simp_all)
 refine sw_skip ?_
 refine sG [1, 2, 6, 7, 8, 9, 11, 12, 13, 18, 19, 20] [2, 9] ?_
 refine zaa ?_
 exact zli) : G := h
theorem zgz (h : G := by
 refine nx (i + 1) (by exact ⟨by omega, any_succ ha hlt hno1⟩) (e := (by exact aI (by exact int_eq (by omega)) (tI)))) : G := h
theorem zh0 (h : G := by
 refine rK ?_
 refine za9 ?_
 exact (aI (by refine int_eq ?_; rw [hfn.1]) (aI (by refine int_eq ?_; rw [hfn.2]) tI))) : G := h
theorem zh3 (h : G := by
 have hno2 : aliveP id s.Segments[i][j] = false := by first | (simp_all [aliveP]; done) | (unfold aliveP; simp_all)
 refine sw_skip ?_
 refine sG [1, 2, 6, 7] [2] ?_
 refine zdb ?_
 exact zli) : G := h
theorem zlj (h : G := by
 refine zlk ?_
 exact (Exists.intro 4 (Exists.intro _ (aI (by exact rfl) (aI (by refine box_eq ?_; rw [apply_no hno]; exact rfl) (aI ty_26 (aI (fun h => nomatch h) (aI (by refine bool_eq ?_; rw [apply_no hno]) tI)))))))) : G := h
theorem zhe (h : G := by
 refine rA ?_ (x := loc_ltake (ms := [sl _ _, val _]) (qs := [sl .v _, val _]) (by decide) ty_26 (fun h => nomatch h) (by exact nl rfl) (by exact rfl) (by exact (ToL.cons PV.to_none (ToL.cons (PV.To.refl _) ToL.nil))) (by exact (BorL.cons (bor_sl _) (BorL.cons (bor_val _) BorL.nil))))
 exact zlj) : G := h
theorem zh9 (h : G := by
 have hno : applyOk s u = false := by rw [← Bool.not_eq_true]; intro hc_; obtain ⟨h1_, h2_, h3_, h4_, h5_⟩ := applyOk_f hc_; first | omega | (simp_all; done) | (simp_all; omega)
 refine sS [2, 3, 4, 5, 6] [2, 3, 4, 6] ?_
 exact zhe) : G := h
theorem zh7 (h : G := by
 refine zbl ?_
 refine scT ?_
 exact zh9) : G := h
theorem zh8 (h : G := by
 refine zbp ?_
 refine scT ?_
 exact zh9) : G := h
theorem zll (h : G := by
 refine zdk ?_
 refine sP [2, 3, 4, 5, 6, 7, 8, 9] [2, 3, 4, 6] ?_
 refine sw_slotEq (s := 9) (by exact rfl) (show _ = RV.slc (.own 3 1) ((upVals2 s u).map cInt) from by first | (rw [hv2]; done) | (rw [hv2]; exact rfl)) ?_
 refine sG [2, 3, 4, 5, 6, 7, 8, 9] [2, 3, 4, 6] ?_
 refine zhd ?_
 refine sc (fun hbe => ?_) (fun hbe => ?_)
 have hk2 : u.Kind = 2 := by first | exact hbe | simpa using hbe
 have hok := applyOk_of hos hou hnw hkd (.inl hk2)
 refine sS [2, 3, 4, 5, 6, 7, 8, 9] [2, 3, 4, 6] ?_
 refine zfz ?_
 refine za9 ?_
 exact (Exists.intro 4 (Exists.intro _ (aI (by exact rfl) (aI (by refine box_eq ?_; rw [apply_del hok hk2]; exact rfl) (aI ty_26 (aI (fun h => nomatch h) (aI (by refine bool_eq ?_; rw [apply_del hok hk2]) tI)))))))
 have hk2 : ¬ u.Kind = 2 := by first | exact hbe | simpa using hbe
 have hu0 : 0 < (upSegs s u).length := by omega
 refine zbr ?_
 refine sw_seq ?_
 refine sP [2, 3, 4, 5, 6, 7, 8, 9] [2, 3, 4, 6] ?_
 refine sw_thawB (d := 6) (t := 26) (D := 910) (G := 2910) (E := 71) (e := 1) (L := (Lw w0.heap.size)) (A := []) (B := [val _]) (es := ((upSegs s u)).map (cVersionS (.own 107 4) (.own 3 1))) (by exact rfl) (map_ne hu0) (by exact rfl) (by exact rfl) rfl (by exact rfl) (fun x hx => hx) (by exact lq) (by exact lq) (by exact LclC.nil) (by exact lc) (LclC.map fun x => (LclC.cons (lcl_own (LclC.map fun x => (LclC.cons lcl_val (LclC.cons (lcl_own (LclC.map fun x => (LclC.cons lcl_val LclC.nil))) (LclC.cons lcl_val (LclC.cons lcl_val LclC.nil)))))) LclC.nil)) fun uu910 cp910 jk910 hlD910 hcp910 hjk910 => ?_
 rw [List.length_map] at hlD910 hcp910 hjk910
 refine sw_boxEq (d := 910) (by exact rfl) (show _ = arr (cVersionS (.own 107 4) (.own 3 1)) ((upSegs s u)) jk910 from rfl) ?_
 refine sO [(2, _), (3, _), (4, _), (5, _), (6, _), (7, _), (8, _), (9, _), (2910, _)] [(2, _), (3, _), (4, _), (6, (26, [val _, val _])), (910, (71, arr (cVersionS (.own 107 4) (.own 3 1)) _ _))] ?_
 refine sw_reg ?_
 refine zg0 ?_
 refine rA ?_ (x := loc_glen (G := 2910) (by decide) sl_24)
 refine za4 ?_
 refine sP [2, 3, 4, 5, 6, 7, 8, 9, 87, 88, 89, 2910] [2, 3, 4, 6, 910] ?_
 refine sL [2, 3, 4, 6, 7, 8, 9, 87, 88, 2910] [2, 3, 4, 6, 910] (fun m : Nat => m ≤ s.Segments.length ∧ (s.Segments.take m).any smallV = false) (fun m : Nat => [(89, RV.int (m : Int))]) (fun m : Nat => []) (fun m : Nat => s.Segments.length - m) 0 (by exact ⟨by omega, rfl⟩) (by exact aI (by exact rfl) (tI)) (by exact ⟨⟩) ?_
 rintro m ⟨hm, ha⟩
 refine za5 ?_
 refine sc (fun hbf => ?_) (fun hbf => ?_)
 try simp only [List.length_map] at hbf
 have hlt : m < s.Segments.length := by omega
 have hum : m < (upSegs s u).length := by omega
 have hua := up_at s u hum hlt
 have hs4m := hs4 _ (List.getElem_mem hlt)
 refine za6 ?_
 refine zlm ?_
 refine sw_boxEq (d := 910) (by exact rfl) (at_split (f := (cVersionS (.own 107 4) (.own 3 1))) (xs := (upSegs s u)) (k := m) hum) ?_
 have hA910 := at_len (f := (cVersionS (.own 107 4) (.own 3 1))) (e := 1) (xs := (upSegs s u)) (k := m) (fun _ => rfl) (Nat.le_of_lt hum)
 refine sO [(2, _), (3, _), (4, _), (6, _), (7, _), (8, _), (9, _), (87, _), (88, _), (89, _), (2910, _)] [(2, _), (3, _), (4, _), (6, _), (910, (71, _ ++ ([sl _ _] ++ _)))] ?_
 refine sw_name1 (d := 910) (A := _) (B := [] ++ _) (by exact rfl) fun vN => ?_
 refine sO [(2, _), (3, _), (4, _), (6, _), (7, _), (8, _), (9, _), (87, _), (88, _), (89, _), (2910, _)] [(2, _), (3, _), (4, _), (6, _), (910, (71, _ ++ ([nv _ (sl _ _)] ++ _)))] ?_
 refine zg2 ?_
 refine rA ?_ (x := loc_gidx (k := m) (G := 2910) (by decide) sl_24 (by exact ⟨⟩) (by omega) (by first | (rw [List.length_map]; exact hum) | exact hum))
 refine rA ?_ (x := loc_loadM (o := 0) (qs := [nv _ (sl .v _)]) (by omega) (by decide) ty_71 (fun _ => rfl) (by exact nl rfl) (by exact (ToL.cons (PV.To.refl _) ToL.nil)) (by exact (BorL.cons (bor_nv (bor_sl _)) BorL.nil)))
 refine rS ?_
 refine rA ?_ (x := loc_copy (r' := RV.sv false [nv _ (sl .v _)]) (.inr rfl) (by decide) (by exact Cp.sv (ToL.cons (PV.To.refl _) ToL.nil) (BorL.cons (bor_nv (bor_sl _)) BorL.nil)))
 refine sS [2, 3, 4, 6, 7, 8, 9, 10, 11, 87, 88, 89, 2910] [2, 3, 4, 6, 910] ?_
 refine rA ?_ (x := loc_copy (r' := RV.sv false [sl .v _]) (.inl rfl) (by decide) (by exact Cp.sv (ToL.cons (PV.nv_to PV.to_none) ToL.nil) (BorL.cons (bor_sl _) BorL.nil)))
 refine zh1 ?_
 refine sc (fun hbg => ?_) (fun hbg => ?_)
 have hsm : smallV s.Segments[m] = true := by unfold smallV; rw [decide_eq_true_eq]; omega
 have hrm := room_at hlt ha hsm
 have hok := applyOk_of hos hou hnw hkd (.inr (by omega))
 have hpv := putV_eq (v := upNew s u) hum
 refine sw_seq ?_
 refine sP [2, 3, 4, 6, 7, 8, 9, 10, 11, 87, 88, 89, 2910] [2, 3, 4, 6, 910] ?_
 refine sw_lendNv (d := 910) (G := 6400) (A := _) (B := [] ++ _) (by exact rfl) (by exact rfl) PV.to_none (bor_sl _) ?_
 refine sO [(2, _), (3, _), (4, _), (6, _), (7, _), (8, _), (9, _), (10, _), (11, _), (87, _), (88, _), (89, _), (2910, _), (6400, _)] [(2, _), (3, _), (4, _), (6, _), (910, (71, _ ++ ([sl _ _] ++ _)))] ?_
 refine sw_backS (s := 11) (G := 6400) (by exact rfl) (by exact (Nm.nv Nm.nil)) rfl (by decide) (by exact rfl) ?_
 refine sP [2, 3, 4, 6, 7, 8, 9, 10, 11, 87, 88, 89, 2910] [2, 3, 4, 6, 910] ?_
 refine sw_draw hm_ ?_
 refine zhi ?_
 refine dA 0 ?_ (x := tM)
 refine dA 0 ?_ (x := lF fd_47_1)
 refine dA 16 ?_ (x := lF fd_45_0)
 refine dA 48 ?_ (x := lD [val _] ty_3)
 refine dA 0 ?_ (x := tM)
 refine zhx ?_
 refine dA 1008 ?_ (x := loc_build (qs := [(false, [val _]), (false, [sl _ _]), (false, [val _]), (false, [val _])]) (cs := [val _, sl _ _, val _, val _]) (by decide) z_107 zo_107 FUpd_pl_107 (by exact rfl) (by exact (aI (by exact ⟨⟩) (aI (by exact ⟨⟩) (aI (by exact ⟨⟩) (aI (ok_sc rfl) tI))))) rfl (by exact rfl))
 refine dA 2032 ?_ (x := loc_bslice (qs := [(true, [val _, sl _ _, val _, val _])]) (by decide) sl_71 z_107 (by decide) rfl rfl rfl rfl rfl (by exact nl rfl) (by exact (aI (by exact ⟨⟩) tI)) rfl)
 refine dA 4088 ?_ (x := loc_append (by decide) sl_71 z_107 rfl rfl (by decide) rfl (by simp only [List.length_map, List.length_append, List.length_cons, List.length_nil]; omega) (by simp only [List.length_map, List.length_append, List.length_cons, List.length_nil]; omega))
 refine dA 8191 ?_ (x := loc_gidx (k := m) (G := 2910) (by decide) sl_24 (by exact ⟨⟩) (by omega) (by first | (rw [List.length_map]; exact hum) | exact hum))
 refine dA 16383 ?_ (x := loc_storeM (o := 0) (ag := false) (vs := [sl _ _]) (by omega) ty_71 (by exact ⟨⟩) (by exact rfl) (by exact nl rfl))
 refine sw_boxEq (d := 910) (by exact rfl) (at_join ((upSegs s u)[m] ++ [upNew s u]) hum (by simp only [cVersionS, List.map_append]; exact rfl)) ?_
 refine sw_frzIn (d := 6) (D := 910) (G := 2910) (e := 1) (A := []) (B := [val _]) (es := (((upSegs s u)).set m ((upSegs s u)[m] ++ [upNew s u])).map (cVersionS (.own 107 4) (.own 3 1))) (by exact rfl) (by exact rfl) (by exact rfl) rfl (by rw [List.length_map, List.length_set, List.length_map]) (by intro c hc; obtain ⟨y, _, rfl⟩ := List.mem_map.1 hc; exact rfl) (by rw [List.length_map]; exact hjk910) ?_
 refine sw_seq ?_
 refine sO [(2, _), (3, _), (4, _), (6, _), (7, _), (8, _), (10, _), (87, _), (88, _), (89, _)] [(2, _), (3, _), (4, _), (6, (26, [sl _ _, val _]))] ?_
 refine sw_reg ?_
 refine zfz ?_
 refine za9 ?_
 exact (Exists.intro 4 (Exists.intro _ (aI (by exact rfl) (aI (by refine box_eq ?_; rw [apply_put hok hk2 hrm, hpv]; exact rfl) (aI ty_26 (aI (fun h => nomatch h) (aI (by refine bool_eq ?_; rw [apply_put hok hk2 hrm]) tI)))))))
 have hns : smallV s.Segments[m] = false := by unfold smallV; rw [decide_eq_false_iff_not]; omega
 refine sw_skip ?_
 refine sP [2, 3, 4, 6, 7, 8, 9, 10, 11, 87, 88, 89, 2910] [2, 3, 4, 6, 910] ?_
 refine sw_unname1 (d := 910) (A := _) (B := [] ++ _) (by exact rfl) ?_
 refine sO [(2, _), (3, _), (4, _), (6, _), (7, _), (8, _), (9, _), (10, _), (11, _), (87, _), (88, _), (89, _), (2910, _)] [(2, _), (3, _), (4, _), (6, _), (910, (71, _ ++ ([sl _ _] ++ _)))] ?_
 refine sw_boxEq (d := 910) (by exact rfl) (show _ = arr (cVersionS (.own 107 4) (.own 3 1)) (upSegs s u) jk910 from (at_split (f := (cVersionS (.own 107 4) (.own 3 1))) (xs := (upSegs s u)) (k := m) hum).symm) ?_
 refine sO [(2, _), (3, _), (4, _), (6, _), (7, _), (8, _), (9, _), (10, _), (11, _), (87, _), (88, _), (89, _), (2910, _)] [(2, _), (3, _), (4, _), (6, _), (910, (71, arr (cVersionS (.own 107 4) (.own 3 1)) _ _))] ?_
 refine sw_reg ?_
 refine zaa ?_
 refine nx (m + 1) (by exact ⟨by omega, any_succ ha hlt hns⟩) (e := (by exact aI (by exact int_eq (by omega)) (tI)))
 try simp only [List.length_map] at hbf
 have hend : m = s.Segments.length := by omega
 have hrn := room_none (by rw [hend, List.take_length] at ha; exact ha)
 have hno : applyOk s u = false := by rw [← Bool.not_eq_true]; intro hc_; obtain ⟨h1_, h2_, h3_, h4_, h5_⟩ := applyOk_f hc_; first | omega | (simp_all; done) | (simp_all; omega)
 refine sw_exit ?_
 refine zlm ?_
 refine sw_reg ?_
 refine zfx ?_
 exact zlj) : G := h
theorem zhs (h : G := by
 refine zdk ?_
 refine sP [2, 3, 4, 5, 6, 7, 8, 9] [2, 3, 4, 6] ?_
 refine sw_boxEq (d := 6) (by exact rfl) (show _ = [sl (.own 71 1) ((upSegs s u).map (cVersionS (.own 107 4) (.own 3 1))), val (vI (s.Now + 1))] from by first | (rw [hu1]; done) | (rw [hu1]; exact rfl)) ?_
 refine sP [2, 3, 4, 5, 6, 7, 8, 9] [2, 3, 4, 6] ?_
 refine sw_slotEq (s := 9) (by exact rfl) (show _ = RV.slc (.own 3 1) ((upVals s u).map cInt) from by first | (rw [hu2]; done) | (rw [hu2]; exact rfl)) ?_
 refine sG [2, 3, 4, 5, 6, 7, 8, 9] [2, 3, 4, 6] ?_
 refine zhd ?_
 refine sc (fun hbd => ?_) (fun hbd => ?_)
 have hk3 : u.Kind = 3 := by first | exact hbd | simpa using hbd
 have hge3 : 0 ≤ findI s u.Row.Id := by omega
 have hv3 := vals_3 (u := u) hos hge3
 have hf3 := upd_3 hou hk3
 have hfl : u.Field.toNat < (upVals s u).length := by omega
 have hv2 : upVals2 s u = (upVals s u).set u.Field.toNat u.Value := if_pos hk3
 refine sP [2, 3, 4, 5, 6, 7, 8, 9] [2, 3, 4, 6] ?_
 refine sw_thawS (s := 9) (D := 930) (G := 2930) (E := 3) (e := 1) (L := (Lw w0.heap.size)) (es := ((upVals s u)).map cInt) (by exact rfl) (map_ne hfl) (by exact rfl) (by exact rfl) rfl (by exact rfl) (fun x hx => hx) (by exact lq) (by exact lq) (LclC.map fun x => (LclC.cons lcl_val LclC.nil)) fun uu930 cp930 jk930 hlD930 hcp930 hjk930 => ?_
 rw [List.length_map] at hlD930 hcp930 hjk930
 refine sw_boxEq (d := 930) (by exact rfl) (at_split (k := u.Field.toNat) hfl) ?_
 have hA930 := at_len (f := cInt) (e := 1) (xs := (upVals s u)) (k := u.Field.toNat) (fun _ => rfl) (Nat.le_of_lt hfl)
 refine sO [(2, _), (3, _), (4, _), (5, _), (6, _), (7, _), (8, _), (9, _), (2930, _)] [(2, _), (3, _), (4, _), (6, _), (930, (3, _ ++ ([val _] ++ _)))] ?_
 refine sw_reg ?_
 refine rA ?_ (x := vM false [val _])
 refine zln ?_
 refine zlo ?_
 refine zlp ?_
 refine sw_boxEq (d := 930) (by exact rfl) (at_join u.Value hfl (by exact rfl)) ?_
 refine sw_frzS (s := 9) (D := 930) (G := 2930) (e := 1) (es := (((upVals s u)).set u.Field.toNat u.Value).map cInt) (by exact rfl) (by exact rfl) (by exact rfl) rfl (by decide) (by rw [List.length_map, List.length_set, List.length_map]) (by intro c hc; obtain ⟨y, _, rfl⟩ := List.mem_map.1 hc; exact rfl) (by rw [List.length_map]; exact hjk930) ?_
 exact zll
 have hk3n : ¬ u.Kind = 3 := by first | exact hbd | simpa using hbd
 have hv2 : upVals2 s u = upVals s u := if_neg hk3n
 refine sw_skip ?_
 exact zll) : G := h
theorem zht (h : G := by
 have hno : applyOk s u = false := by rw [← Bool.not_eq_true]; intro hc_; obtain ⟨h1_, h2_, h3_, h4_, h5_⟩ := applyOk_f hc_; by_cases h1 : 0 ≤ findI s u.Row.Id <;> by_cases h2 : u.Kind = 1 <;> by_cases h3 : u.Kind = 2 <;> by_cases h4 : 0 ≤ roomN s.Segments <;> by_cases h6 : findI s u.Row.Id < 0 <;> (first | omega | (simp_all; done) | (simp_all; omega))
 refine sS [2, 3, 4, 5, 6, 7, 8, 9] [2, 3, 4, 6] ?_
 exact zhe) : G := h
theorem zlq (h : G := by
 refine zfz ?_
 refine za9 ?_
 exact (Exists.intro 4 (Exists.intro _ (aI (by exact rfl) (aI (by refine box_eq ?_; first | (rw [apply_put hok hk2 hrm, hpv]; exact rfl) | (rw [apply_del hok hk2]; exact rfl)) (aI ty_26 (aI (fun h => nomatch h) (aI (by refine bool_eq ?_; first | (rw [apply_put hok hk2 hrm]; done) | (rw [apply_del hok hk2]; done)) tI)))))))) : G := h
theorem zlr (h : G := by
 obtain ⟨r, hr, hrm, hr4⟩ := room_ge (hrr.resolve_left hk2)
 have hru : r < (upSegs s u).length := by omega
 have hua := up_at s u hru hr
 have hpv := putV_eq (v := upNew s u) hru
 refine sP [2, 3, 4, 5, 6, 7, 8, 9, 10] [2, 3, 4, 6, 10] ?_
 refine sw_thawB (d := 6) (t := 26) (D := 940) (G := 2940) (E := 71) (e := 1) (L := (Lw w0.heap.size)) (A := []) (B := [val _]) (es := ((upSegs s u)).map (cVersionS (.own 107 4) (.own 3 1))) (by exact rfl) (map_ne hru) (by exact rfl) (by exact rfl) rfl (by exact rfl) (fun x hx => hx) (by exact lq) (by exact lq) (by exact LclC.nil) (by exact lc) (LclC.map fun x => (LclC.cons (lcl_own (LclC.map fun x => (LclC.cons lcl_val (LclC.cons (lcl_own (LclC.map fun x => (LclC.cons lcl_val LclC.nil))) (LclC.cons lcl_val (LclC.cons lcl_val LclC.nil)))))) LclC.nil)) fun uu940 cp940 jk940 hlD940 hcp940 hjk940 => ?_
 rw [List.length_map] at hlD940 hcp940 hjk940
 refine sw_boxEq (d := 940) (by exact rfl) (at_split (k := r) hru) ?_
 have hA940 := at_len (f := (cVersionS (.own 107 4) (.own 3 1))) (e := 1) (xs := (upSegs s u)) (k := r) (fun _ => rfl) (Nat.le_of_lt hru)
 refine sO [(2, _), (3, _), (4, _), (5, _), (6, _), (7, _), (8, _), (9, _), (10, _), (2940, _)] [(2, _), (3, _), (4, _), (6, (26, [val _, val _])), (10, _), (940, (71, _ ++ ([sl _ _] ++ _)))] ?_
 refine sw_draw hm_ ?_
 refine zhi ?_
 refine dA 0 ?_ (x := lF fd_26_0)
 refine dA 8 ?_ (x := lD [val _] ty_24)
 refine dA 0 ?_ (x := sM)
 refine dA 56 ?_ (x := loc_gidx (k := r) (G := 2940) (by decide) sl_24 (by exact ⟨⟩) (by omega) (by first | (rw [List.length_map]; exact hru) | exact hru))
 refine dA 120 ?_ (x := loc_ltakeM (o := 0) (ms := [sl _ _]) (qs := [sl .v _]) (by omega) (by decide) ty_71 (fun _ => rfl) (by exact nl rfl) (by exact rfl) (by exact (ToL.cons PV.to_none ToL.nil)) (by exact (BorL.cons (bor_sl _) BorL.nil)))
 refine dA 0 ?_ (x := loc_ltake (ms := [val _, sl _ _, val _, val _]) (qs := [val _, sl .v _, val _, val _]) (by decide) ty_107 (fun h => nomatch h) (by exact nl rfl) (by exact rfl) (by exact (ToL.cons (PV.To.refl _) (ToL.cons PV.to_none (ToL.cons (PV.To.refl _) (ToL.cons (PV.To.refl _) ToL.nil))))) (by exact lq))
 refine dA 256 ?_ (x := loc_bslice (qs := [(true, [val _, sl _ _, val _, val _])]) (by decide) sl_71 z_107 (by decide) rfl rfl rfl rfl rfl (by exact nl rfl) (by exact (aI (by exact ⟨⟩) tI)) rfl)
 refine dA 1016 ?_ (x := loc_append (by decide) sl_71 z_107 rfl rfl (by decide) rfl (by simp only [List.length_map, List.length_append, List.length_cons, List.length_nil]; omega) (by simp only [List.length_map, List.length_append, List.length_cons, List.length_nil]; omega))
 refine dA 2047 ?_ (x := loc_gidx (k := r) (G := 2940) (by decide) sl_24 (by exact ⟨⟩) (by omega) (by first | (rw [List.length_map]; exact hru) | exact hru))
 refine dA 4095 ?_ (x := loc_storeM (o := 0) (ag := false) (vs := [sl _ _]) (by omega) ty_71 (by exact ⟨⟩) (by exact rfl) (by exact nl rfl))
 refine sw_boxEq (d := 940) (by exact rfl) (at_join ((upSegs s u)[r] ++ [upNew s u]) hru (by simp only [cVersionS, List.map_append]; exact rfl)) ?_
 refine sw_frzIn (d := 6) (D := 940) (G := 2940) (e := 1) (A := []) (B := [val _]) (es := (((upSegs s u)).set r ((upSegs s u)[r] ++ [upNew s u])).map (cVersionS (.own 107 4) (.own 3 1))) (by exact rfl) (by exact rfl) (by exact rfl) rfl (by rw [List.length_map, List.length_set, List.length_map]) (by intro c hc; obtain ⟨y, _, rfl⟩ := List.mem_map.1 hc; exact rfl) (by rw [List.length_map]; exact hjk940) ?_
 refine sw_seq ?_
 refine sO [(2, _), (3, _), (4, _), (5, _), (6, _), (7, _), (8, _), (9, _), (10, _)] [(2, _), (3, _), (4, _), (6, (26, [sl _ _, val _])), (10, (107, [val _, sl _ _, val _, val _]))] ?_
 refine sw_reg ?_
 exact zlq) : G := h
theorem zls (h : G := by
 refine sw_skip ?_
 refine sS [2, 3, 4, 5, 6, 7, 8, 9, 10] [2, 3, 4, 6, 10] ?_
 exact zlq) : G := h
theorem zlt (h : G := by
 refine zlu ?_
 refine zcb ?_
 refine rA ?_ (x := B_neq)
 refine sc (fun hbe => ?_) (fun hbe => ?_)
 have hk2 : ¬ u.Kind = 2 := by first | exact hbe | simpa using hbe
 exact zlr
 have hk2 : u.Kind = 2 := by first | exact hbe | simpa using hbe
 exact zls) : G := h
theorem zi5 (h : G := by
 refine zlv ?_
 refine sG [2, 3, 4, 5, 6, 7, 8, 9, 10] [2, 3, 4, 6, 10] ?_
 refine zhd ?_
 refine sc (fun hbd => ?_) (fun hbd => ?_)
 have hk3 : u.Kind = 3 := by first | exact hbd | simpa using hbd
 have hge3 : 0 ≤ findI s u.Row.Id := by omega
 have hv3 := vals_3 (u := u) hos hge3
 have hf3 := upd_3 hou hk3
 have hfl : u.Field.toNat < (upVals s u).length := by omega
 have hv2 : upVals2 s u = (upVals s u).set u.Field.toNat u.Value := if_pos hk3
 refine sP [2, 3, 4, 5, 6, 7, 8, 9, 10] [2, 3, 4, 6, 10] ?_
 refine sw_thawB (d := 10) (t := 107) (D := 930) (G := 2930) (E := 3) (e := 1) (L := (Lw w0.heap.size)) (A := [val _]) (B := [val _, val _]) (es := ((upVals s u)).map cInt) (by exact rfl) (map_ne hfl) (by exact rfl) (by exact rfl) rfl (by exact rfl) (fun x hx => hx) (by exact lq) (by exact lq) (by exact lc) (by exact lc) (LclC.map fun x => (LclC.cons lcl_val LclC.nil)) fun uu930 cp930 jk930 hlD930 hcp930 hjk930 => ?_
 rw [List.length_map] at hlD930 hcp930 hjk930
 refine sw_boxEq (d := 930) (by exact rfl) (at_split (k := u.Field.toNat) hfl) ?_
 have hA930 := at_len (f := cInt) (e := 1) (xs := (upVals s u)) (k := u.Field.toNat) (fun _ => rfl) (Nat.le_of_lt hfl)
 refine zlw ?_
 refine rA ?_ (x := lF fd_107_1)
 refine rA ?_ (x := lD [val _] ty_27)
 refine zln ?_
 refine zlo ?_
 refine zlp ?_
 refine zlx ?_
 refine zhz ?_
 exact zlt
 have hk3n : ¬ u.Kind = 3 := by first | exact hbd | simpa using hbd
 have hv2 : upVals2 s u = upVals s u := if_neg hk3n
 refine zbr ?_
 refine zi6 ?_
 exact zlt) : G := h
theorem zly (h : G := by
 refine zlu ?_
 refine zcb ?_
 refine rA ?_ (x := B_neq)
 refine sc (fun hbd => ?_) (fun hbd => ?_)
 have hk2 : ¬ u.Kind = 2 := by first | exact hbd | simpa using hbd
 exact zlr
 have hk2 : u.Kind = 2 := by first | exact hbd | simpa using hbd
 exact zls) : G := h
theorem zi7 (h : G := by
 refine zlv ?_
 refine sG [2, 3, 4, 5, 6, 7, 8, 9, 10] [2, 3, 4, 6, 10] ?_
 refine zhd ?_
 refine sc (fun hbc => ?_) (fun hbc => ?_)
 have hk3 : u.Kind = 3 := by first | exact hbc | simpa using hbc
 have hge3 : 0 ≤ findI s u.Row.Id := by omega
 have hv3 := vals_3 (u := u) hos hge3
 have hf3 := upd_3 hou hk3
 have hfl : u.Field.toNat < (upVals s u).length := by omega
 have hv2 : upVals2 s u = (upVals s u).set u.Field.toNat u.Value := if_pos hk3
 refine sP [2, 3, 4, 5, 6, 7, 8, 9, 10] [2, 3, 4, 6, 10] ?_
 refine sw_thawB (d := 10) (t := 107) (D := 930) (G := 2930) (E := 3) (e := 1) (L := (Lw w0.heap.size)) (A := [val _]) (B := [val _, val _]) (es := ((upVals s u)).map cInt) (by exact rfl) (map_ne hfl) (by exact rfl) (by exact rfl) rfl (by exact rfl) (fun x hx => hx) (by exact lq) (by exact lq) (by exact lc) (by exact lc) (LclC.map fun x => (LclC.cons lcl_val LclC.nil)) fun uu930 cp930 jk930 hlD930 hcp930 hjk930 => ?_
 rw [List.length_map] at hlD930 hcp930 hjk930
 refine sw_boxEq (d := 930) (by exact rfl) (at_split (k := u.Field.toNat) hfl) ?_
 have hA930 := at_len (f := cInt) (e := 1) (xs := (upVals s u)) (k := u.Field.toNat) (fun _ => rfl) (Nat.le_of_lt hfl)
 refine zlw ?_
 refine rA ?_ (x := lF fd_107_1)
 refine rA ?_ (x := lD [val _] ty_27)
 refine zln ?_
 refine zlo ?_
 refine zlp ?_
 refine zlx ?_
 refine zhz ?_
 exact zly
 have hk3n : ¬ u.Kind = 3 := by first | exact hbc | simpa using hbc
 have hv2 : upVals2 s u = upVals s u := if_neg hk3n
 refine zbr ?_
 refine zi6 ?_
 exact zly) : G := h
theorem zi8 (h : G := by
 have hno : stepOk e = false := by first | (simp_all [stepOk]; done) | (simp_all [stepOk]; omega) | (rw [← Bool.not_eq_true]; intro hc_; obtain ⟨h1_, h2_, h3_, h4_⟩ := stepOk_f hc_; first | omega | (simp_all; done) | (simp_all; omega))
 refine sS [1, 2, 3, 4] [1, 2, 4] ?_
 refine zfm ?_
 refine za9 ?_
 exact (Exists.intro 2 (Exists.intro _ (aI (by exact rfl) (aI (by refine box_eq ?_; rw [step_no hno]; exact rfl) (aI ty_32 (aI (fun h => nomatch h) (aI (by refine bool_eq ?_; rw [hno]) tI)))))))) : G := h
theorem zid (h : G := by
 refine sG [1, 2, 3, 4, 5, 6, 8, 9, 10, 11, 13, 57, 58, 59, 77, 78, 79, 2900, 6100] [1, 2, 4, 6, 10, 13, 900] ?_
 refine zaa ?_
 refine nx (j + 1) (by omega) (e := (by exact aI (by first | exact int_eq (by rw [gotTo_yes hjv hm, List.length_append]; simp only [List.length_cons, List.length_nil]; omega) | exact int_eq (by rw [gotTo_no hjv hm])) (aI (by exact int_eq (by omega)) (aI (by exact rfl) (tI))))) (f := (by exact aI (by first | (rw [gotTo_yes hjv hm, ← hz3]; simp only [List.map_append, List.append_assoc]; exact rfl) | (rw [gotTo_no hjv hm]; exact rfl)) (tI)))) : G := h
theorem zlz (h : G := by
 refine sw_reg ?_
 refine zaa ?_
 refine nx (m + 1) (by omega) (e := (by exact aI (by first | exact slc_eq (by rw [rest_yes hm1 hep, hga, List.map_append]; exact rfl) | exact slc_eq (by rw [rest_no hm1 hep])) (aI (by exact int_eq (by omega)) (aI (by exact rfl) (tI))))) (f := (by exact aI (by first | (rw [done_yes hm1 hep, hga]; simp only [List.map_append, List.append_assoc]; exact rfl) | (rw [done_no hm1 hep]; exact rfl)) (tI)))) : G := h
theorem zm0 (h : G := by
 refine rA ?_ (x := lF fd_70_2)
 refine zag ?_
 refine rA ?_ (x := B_eql)
 refine sc (fun hbf => ?_) (fun hbf => ?_)
 have hep : endP (agedL e (parts e).length)[m] = true := by rw [hga]; simpa [endP] using hbf
 refine sG [1, 2, 3, 4, 5, 6, 14, 16, 57, 58, 59, 145, 146, 147, 6200] [1, 2, 4, 6, 16] ?_
 refine rA ?_ (x := lF fd_32_4)
 refine rA ?_ (x := loc_ltake (ms := [sl _ _]) (qs := [sl .v _]) (by decide) ty_29 (fun _ => rfl) (by exact nl rfl) (by exact rfl) (by exact (ToL.cons PV.to_none ToL.nil)) (by exact (BorL.cons (bor_sl _) BorL.nil)))
 refine rA ?_ (x := lF fd_70_0)
 refine rA ?_ (x := loc_ltake (ms := [val _, val _, sl _ _, sl _ _]) (qs := [val _, val _, sl .v _, sl .v _]) (by decide) ty_38 (fun h => nomatch h) (by exact nl rfl) (by exact rfl) (by exact (ToL.cons (PV.To.refl _) (ToL.cons (PV.To.refl _) (ToL.cons PV.to_none (ToL.cons PV.to_none ToL.nil))))) (by exact lq))
 refine zg8 ?_
 refine rA ?_ (x := lF fd_70_3)
 refine rA ?_ (x := lD [val _] ty_3)
 refine zic ?_
 refine rA ?_ (x := loc_build (qs := [(true, [val _, val _, sl _ _, sl _ _]), (false, [val _]), (false, [val _]), (false, [sl _ _])]) (cs := [val _, val _, sl _ _, sl _ _, val _, val _, sl _ _]) (by decide) z_54 zo_54 FStb_pl_54 (by exact rfl) (by exact (aI (by exact ⟨⟩) (aI (by exact ⟨⟩) (aI (by exact ⟨⟩) (aI (by exact ⟨⟩) tI))))) rfl (by exact rfl))
 refine rA ?_ (x := loc_bslice (qs := [(true, [val _, val _, sl _ _, sl _ _, val _, val _, sl _ _])]) (by decide) sl_29 z_54 (by decide) rfl rfl rfl rfl rfl (by exact nl rfl) (by exact (aI (by exact ⟨⟩) tI)) rfl)
 refine rA ?_ (x := loc_append (by decide) sl_29 z_54 rfl rfl (by decide) rfl (by simp only [List.length_map, List.length_append, List.length_cons, List.length_nil]; omega) (by simp only [List.length_map, List.length_append, List.length_cons, List.length_nil]; omega))
 refine rA ?_ (x := lF fd_32_4)
 refine rA ?_ (x := loc_store (ag := false) (vs := [sl _ _]) ty_29 (by exact ⟨⟩) (by exact rfl) (by exact nl rfl))
 refine sO [(1, _), (2, _), (3, _), (4, _), (5, _), (6, _), (14, _), (16, _), (57, _), (58, _), (59, _), (145, _), (146, _), (147, _), (6200, _)] [(1, _), (2, _), (4, (32, [sl _ _, val _, val _, sl _ _, sl _ _, sl _ _, sl _ _, val _])), (6, _), (16, (70, [val _, val _, sl _ _, sl _ _, val _, sl _ _, val _, val _, val _, sl _ _]))] ?_
 exact zlz
 have hep : endP (agedL e (parts e).length)[m] = false := by rw [hga]; simpa [endP] using hbf
 refine sG [1, 2, 3, 4, 5, 6, 14, 16, 57, 58, 59, 145, 146, 147, 6200] [1, 2, 4, 6, 16] ?_
 refine rA ?_ (x := tM)
 refine rA ?_ (x := loc_ltake (ms := [val _, val _, sl _ _, sl _ _, val _, sl _ _, val _, val _, val _, sl _ _]) (qs := [val _, val _, sl .v _, sl .v _, val _, sl .v _, val _, val _, val _, sl .v _]) (by decide) ty_70 (fun h => nomatch h) (by exact nl rfl) (by exact rfl) (by exact (ToL.cons (PV.To.refl _) (ToL.cons (PV.To.refl _) (ToL.cons PV.to_none (ToL.cons PV.to_none (ToL.cons (PV.To.refl _) (ToL.cons PV.to_none (ToL.cons (PV.To.refl _) (ToL.cons (PV.To.refl _) (ToL.cons (PV.To.refl _) (ToL.cons PV.to_none ToL.nil))))))))))) (by exact lq))
 refine rA ?_ (x := loc_bslice (qs := [(true, [val _, val _, sl _ _, sl _ _, val _, sl _ _, val _, val _, val _, sl _ _])]) (by decide) sl_28 z_70 (by decide) rfl rfl rfl rfl rfl (by exact nl rfl) (by exact (aI (by exact ⟨⟩) tI)) rfl)
 refine zgk ?_
 refine sO [(1, _), (2, _), (3, _), (4, _), (5, _), (6, _), (14, _), (16, _), (57, _), (58, _), (59, _), (145, _), (146, _), (147, _), (6200, _)] [(1, _), (2, _), (4, _), (6, _), (16, (70, [val _, val _, sl _ _, sl _ _, val _, sl _ _, val _, val _, val _, sl _ _]))] ?_
 exact zlz) : G := h
theorem zil (h : G := by
 refine sw_reg ?_
 refine zgh ?_
 refine zgi ?_
 refine sO [(1, _), (2, _), (3, _), (4, _), (5, _), (6, _), (14, _), (16, _), (57, _), (58, _), (59, _), (145, _), (146, _), (147, _), (6200, _)] [(1, _), (2, _), (4, _), (6, _), (16, (70, [nv _ (val _), nv _ (val _), nv _ (sl _ _), nv _ (sl _ _), nv _ (val _), nv _ (sl _ _), nv _ (val _), nv _ (val _), nv _ (val _), nv _ (sl _ _)]))] ?_
 refine sw_takeB (d := 16) (G := 6200) (e := 10) (f := (cActive (.own 41 3) (.own 3 1) (.own 3 1) (.own 45 2) (.own 3 1))) (z := za[m]) (zs := (za.drop (m + 1))) (by exact rfl) (by exact (Nm.nv (Nm.nv (Nm.nv (Nm.nv (Nm.nv (Nm.nv (Nm.nv (Nm.nv (Nm.nv (Nm.nv Nm.nil))))))))))) (fun _ => rfl) (by rw [← List.drop_eq_getElem_cons hltz]; exact rfl) ?_
 refine zm1 ?_
 refine sw_reg ?_
 refine rA ?_ (x := lF fd_70_3)
 refine zhf ?_
 refine rA ?_ (x := lF fd_70_3)
 refine zhg ?_
 refine zm1 ?_
 refine sw_reg ?_
 refine rA ?_ (x := lF fd_70_3)
 refine rA ?_ (x := lD [val _] ty_3)
 refine rA ?_ (x := lF fd_32_0)
 refine zhp ?_
 refine zm2 ?_
 refine rA ?_ (x := B_eql)
 refine sc (fun hbe => ?_) (fun hbe => ?_)
 have hga : (agedL e (parts e).length)[m] = (⟨za[m].1.Query, za[m].1.Time, za[m].1.Todo, za[m].1.Age + 1, 0, za[m].1.Cap, za[m].1.Rows⟩ : Active) := by rw [agedL_get hm1 hm2, ← hz3]; exact aged_yes hbe
 refine sG [1, 2, 3, 4, 5, 6, 14, 16, 57, 58, 59, 145, 146, 147, 6200] [1, 2, 4, 6, 16] ?_
 refine rA ?_ (x := lF fd_70_4)
 refine rA ?_ (x := loc_store (ag := false) (vs := [val _]) ty_3 (ok_sc rfl) (by exact rfl) (by exact nl rfl))
 refine zm1 ?_
 refine sw_reg ?_
 exact zm0
 have hga : (agedL e (parts e).length)[m] = (⟨za[m].1.Query, za[m].1.Time, za[m].1.Todo, za[m].1.Age + 1, za[m].1.Sent, za[m].1.Cap, za[m].1.Rows⟩ : Active) := by rw [agedL_get hm1 hm2, ← hz3]; exact aged_no hbe
 refine sw_skip ?_
 refine sS [1, 2, 3, 4, 5, 6, 14, 16, 57, 58, 59, 145, 146, 147, 6200] [1, 2, 4, 6, 16] ?_
 exact zm0) : G := h
theorem zim (h : G := by
 refine sw_reg ?_
 refine rA ?_ (x := tM)
 refine zgn ?_
 refine sw_seq ?_
 refine zm3 ?_
 refine rA ?_ (x := lF fd_32_1)
 refine zhf ?_
 refine rA ?_ (x := lF fd_32_0)
 refine zhp ?_
 refine zm2 ?_
 refine rA ?_ (x := lF fd_32_1)
 refine zhg ?_
 refine zm3 ?_
 refine rA ?_ (x := lF fd_32_6)
 refine zhf ?_
 refine rA ?_ (x := lF fd_32_6)
 refine zhg ?_
 refine sO [(1, _), (2, _), (3, _), (4, _), (5, _), (6, _), (57, _), (58, _), (59, _), (146, _), (147, _)] [(1, _), (2, _), (4, (32, [sl _ _, val _, val _, sl _ _, sl _ _, sl _ _, sl _ _, val _])), (6, _)] ?_
 refine sw_regL ?_
 refine wA ?_ (x := loc_ltake (ms := [sl _ _, val _, val _, sl _ _, sl _ _, sl _ _, sl _ _, val _]) (qs := [any, val _, val _, any, any, any, any, val _]) (by decide) ty_32 (fun h => nomatch h) (by exact nl rfl) (by exact rfl) (by exact (ToL.cons PV.to_any (ToL.cons (PV.To.refl _) (ToL.cons (PV.To.refl _) (ToL.cons PV.to_any (ToL.cons PV.to_any (ToL.cons PV.to_any (ToL.cons PV.to_any (ToL.cons (PV.To.refl _) ToL.nil))))))))) (by exact lq))
 refine wO [(1, _), (2, _), (3, _), (4, _), (5, _), (6, _), (57, _), (58, _), (59, _), (146, _), (147, _), (202, _)] [(1, _), (2, _), (4, (32, [any, val _, val _, any, any, any, any, val _])), (6, _)] ?_
 refine swl_ocall (L := (Lw w0.heap.size)) (qs := [(true, [sl _ _, val _, val _, sl _ _, sl _ _, sl _ _, sl _ _, val _])]) (as_ := [(true, [sl _ _, val _, val _, sl _ _, sl _ _, sl _ _, sl _ _, val _])]) (by decide) c_27 (by exact ⟨rfl, ⟨⟩⟩) (by exact (aI (by exact ⟨⟩) tI)) (by decide) (by exact lq) (by exact (impl_reclaimed (e := stepE e) (by omega))) (fun x hx => hx) (by exact lq) (by exact lq) ?_
 refine wA ?_ (x := loc_store (ag := true) (vs := [sl _ _, val _, val _, sl _ _, sl _ _, sl _ _, sl _ _, val _]) ty_32 (by exact ⟨⟩) (by exact rfl) (by exact nl rfl))
 refine wA ?_ (x := kA)
 refine swl_nil ?_
 refine sw_ret ?_
 exact (Exists.intro 2 (Exists.intro _ (aI (by exact rfl) (aI (by refine box_eq ?_; rw [step_yes hok]; exact rfl) (aI ty_32 (aI (fun h => nomatch h) (aI (by refine bool_eq ?_; rw [hok]) tI)))))))) : G := h
theorem zio (h : G := by
 refine sS [0, 1, 4] [] ?_
 refine za9 ?_
 exact rb (by exact (deq_false (fun e => by subst e; simp at *)).symm)) : G := h
theorem zit (h : G := by
 refine za9 ?_
 exact rb (by exact (deq_false (eq_no hlt hlt2 (by intro e; simp [e, deq_self] at *))).symm)) : G := h
theorem ziu (h : G := by
 refine nx (k + 1) (by exact ⟨by omega, eq_succ ha hlt hlt2 (by simp_all)⟩)) : G := h
theorem ziv (h : G := by
 refine za9 ?_
 exact rb (by exact (deq_true (eq_end hl (by rw [show x.length = k by omega]; exact ha))).symm)) : G := h
theorem zix (h : G := by
 refine sw_exit ?_
 refine sS [0, 1, 12, 13] [] ?_
 exact ziv) : G := h
theorem ziz (h : G := by
 refine zfu ?_
 exact rb (by rw [Bool.eq_iff_iff]; simp only [deq_iff, ext_Row_iff]; simp_all [deq_iff])) : G := h
theorem zj2 (h : G := by
 refine zfu ?_
 exact rb (by rw [Bool.eq_iff_iff]; simp only [deq_iff, ext_Query_iff]; simp_all [deq_iff, deq_no])) : G := h
theorem zj4 (h : G := by
 refine zfu ?_
 exact rb (by rw [Bool.eq_iff_iff]; simp only [deq_iff, ext_Update_iff]; simp_all [deq_iff, deq_no])) : G := h
theorem zm4 (h : G := by
 refine sw_ret ?_
 exact rb (by first | (simp_all [okEvent, deq_zeroQ, deq_zeroU]; done) | (simp_all [okEvent, deq_zeroQ, deq_zeroU]; rfl) | (simp_all [okEvent, deq_zeroQ, deq_zeroU]; omega) | (simp_all [okEvent, deq_zeroQ, deq_zeroU]; intros; omega))) : G := h
theorem zjc (h : G := by
 refine rS ?_
 exact zm4) : G := h
theorem zjb (h : G := by
 refine rB gd ?_ (x := sM)
 refine rA ?_ (x := pkT gd)
 refine rM ?_
 refine cx 38 (fun ge sge => ?_) (fun ge sge => ?_)
 refine rB ge ?_ (x := lF fd_49_5)
 refine rB ge ?_ (x := lD [val _] ty_3)
 refine rB ge ?_ (x := B_eql)
 refine rA ?_ (x := pkT ge)
 exact zjc
 refine zf ge ?_
 refine rA ?_ (x := pkF ge)
 exact zjc) : G := h
theorem zje (h : G := by
 refine rB gd ?_ (x := lF fd_49_5)
 refine rB gd ?_ (x := lD [val _] ty_3)
 refine rB gd ?_ (x := B_eql)
 refine rA ?_ (x := pkT gd)
 exact zjc) : G := h
theorem zjh (h : G := by
 refine sw_skip ?_
 refine sS [1, 2, 3, 4, 19] [1] ?_
 refine rK ?_
 exact zm4) : G := h
theorem zjj (h : G := by
 refine rS ?_
 refine nx (k + 1) (by omega) (e := (by exact aI (by exact int_eq (by omega)) (tI)))) : G := h
theorem zjk (h : G := by
 have hend : k = rounds n := by unfold rounds at hk ⊢; first | omega | (simp_all; omega)
 refine sw_exit ?_
 refine sT [1, 2, 4, 5, 6] [2, 4, 5] ?_
 refine zfm ?_
 refine sw_ret ?_
 exact (Exists.intro 4 (Exists.intro _ (aI (by exact rfl) (aI (by refine box_eq ?_; unfold runEngine; rw [← hend]; exact rfl) (aI ty_32 (aI (fun h => nomatch h) tI))))))) : G := h
theorem zjm (h : G := by
 have hno : (okEngine e && (applyU e.Store u).2) = false := by first | (simp_all; done) | (cases h1_ : okEngine e <;> cases h2_ : (applyU e.Store u).2 <;> simp_all)
 refine sS [2, 3, 4, 5, 6, 7, 8] [2, 3, 4, 6, 7] ?_
 refine zfm ?_
 refine za9 ?_
 exact (Exists.intro 4 (Exists.intro _ (aI (by exact rfl) (aI (by refine box_eq ?_; rw [upd_no hno]; exact rfl) (aI ty_32 (aI (fun h => nomatch h) (aI (by refine bool_eq ?_; rw [upd_no hno]) tI)))))))) : G := h
theorem zjn (h : G := by
 have hno : (okEngine e && okEvent x) = false := by first | (simp_all; done) | (cases h1_ : okEngine e <;> cases h2_ : okEvent x <;> simp_all)
 refine sS [2, 3, 4, 5] [2, 3, 4] ?_
 refine zgb ?_
 refine rA ?_ (x := loc_store (ag := true) (vs := [sl _ _, val _, val _, sl _ _, sl _ _, sl _ _, sl _ _, val _]) ty_32 (by exact ⟨⟩) (by exact rfl) (by exact nl rfl))
 refine za9 ?_
 exact (Exists.intro 4 (Exists.intro _ (aI (by exact rfl) (aI (by refine box_eq ?_; rw [ev_no hno]; exact rfl) (aI ty_32 (aI (fun h => nomatch h) (aI (by refine bool_eq ?_; rw [ev_no hno]) tI)))))))) : G := h
theorem zjs (h : G := by
 refine sw_ret ?_
 exact (Exists.intro 4 (Exists.intro _ (aI (by exact rfl) (aI (by refine box_eq ?_; first | (rw [ev_1 hok hk1]; first | done | exact rfl) | (rw [ev_2 hok hk2]; first | done | exact rfl) | (rw [ev_3 hok hk3]; first | done | exact rfl) | (rw [ev_4 hok hk1n hk2n hk3n]; first | done | exact rfl)) (aI ty_32 (aI (fun h => nomatch h) (aI (by refine bool_eq ?_; first | (rw [ev_1 hok hk1]; first | done | exact rfl) | (rw [ev_2 hok hk2]; first | done | exact rfl) | (rw [ev_3 hok hk3]; first | done | exact rfl) | (rw [ev_4 hok hk1n hk2n hk3n]; first | done | exact rfl)) tI)))))))) : G := h
theorem zjq (h : G := by
 refine zji ?_
 refine rS ?_
 exact zjs) : G := h
theorem zjt (h : G := by
 have hend : k = 200 ∨ finStop (finTo e k) = true := by unfold finStop; first | (left; omega) | (right; first | (simp_all; done) | (simp_all; omega)) | (left; simp_all; omega)
 have hfe := fin_end hk hend
 refine sw_exit ?_
 refine sT [1, 2, 3, 4] [1, 2, 3] ?_
 refine zfm ?_
 refine sw_ret ?_
 exact (Exists.intro 2 (Exists.intro _ (aI (by exact rfl) (aI (by refine box_eq ?_; rw [← hfe]; exact rfl) (aI ty_32 (aI (fun h => nomatch h) tI))))))) : G := h
theorem zjx (h : G := by
 refine rA ?_ (x := loc_store (ag := true) (vs := [val _, val _, sl _ _, sl _ _, val _, val _, sl _ _]) ty_54 (by exact ⟨⟩) (by exact rfl) (by exact nl rfl))
 refine za9 ?_
 exact (Exists.intro 4 (Exists.intro _ (aI (by exact rfl) (aI (by refine box_eq ?_; rw [hr]; try exact rfl) (aI ty_54 (aI (fun h => nomatch h) (aI (by refine bool_eq ?_; rw [hr]) tI)))))))) : G := h
theorem zju (h : G := by
 refine rA ?_ (x := loc_build (qs := []) (cs := [val _, val _, sl _ _, sl _ _, val _, val _, sl _ _]) (by decide) z_54 zo_54 FFin_pl_54 (by exact rfl) (by exact ⟨⟩) rfl (by exact rfl))
 exact zjx) : G := h
theorem zjz (h : G := by
 have hend : k = min code.length 4000 := by omega
 refine sw_exit ?_
 refine sS [0, 2, 3, 4] [] ?_
 refine zeh ?_
 refine rA ?_ (x := loc_build (qs := [(false, [sl _ _]), (false, [val _])]) (cs := [sl _ _, val _, val _]) (by decide) z_85 zo_85 FDrw_pl_85 (by exact rfl) (by exact (aI (by exact ⟨⟩) (aI (by exact ⟨⟩) tI))) rfl (by exact rfl))
 refine rX ?_ (x := (loc_box (ag := true) (cs := [sl _ _, val _, val _]) (by decide) (by exact ⟨⟩)))
 refine rA ?_ (x := cA Cp.ptr)
 refine sw_ret ?_
 exact ⟨31, by exact rfl, by subst hend; exact rfl⟩) : G := h
theorem zk1 (h : G := by
 refine rM ?_
 refine zfu ?_
 exact ⟨(by rw [hr]; exact rfl), rfl, (aI (by refine int_eq ?_; rw [hr]; rfl) tI)⟩) : G := h
theorem zk3 (h : G := by
 refine sw_ret ?_
 exact ⟨(by rw [hr]; exact rfl), rfl, (aI (by refine int_eq ?_; rw [hr]; try rfl) tI)⟩) : G := h
theorem zkf (h : G := by
 refine zdb ?_
 refine nx (k + 1) (by omega) (e := (by exact aI (by exact int_eq (by omega)) (tI))) (f := (by exact aI (by rw [consTo, hcn]; rfl) (aI (by rw [consTo, hcn]; try first | exact rfl | (simp only [List.map_append]; exact rfl)) (tI))))) : G := h
theorem zke (h : G := by
 refine sG [0, 1, 4, 5, 6, 7, 8, 9, 5000] [0, 4, 5] ?_
 refine rA ?_ (x := lF fd_38_2)
 refine rA ?_ (x := loc_ltake (ms := [sl _ _]) (qs := [sl .v _]) (by decide) ty_36 (fun _ => rfl) (by exact nl rfl) (by exact rfl) (by exact (ToL.cons PV.to_none ToL.nil)) (by exact (BorL.cons (bor_sl _) BorL.nil)))
 refine za8 ?_
 refine rM ?_
 refine rA ?_ (x := loc_build (qs := [(false, [val _]), (false, [val _]), (false, [val _])]) (cs := [val _, val _, val _]) (by decide) z_41 zo_41 FDrz_pl_41 (by exact rfl) (by exact (aI (by exact ⟨⟩) (aI (by exact ⟨⟩) (aI (by exact ⟨⟩) tI)))) rfl (by exact rfl))
 refine rA ?_ (x := loc_bslice (qs := [(true, [val _, val _, val _])]) (by decide) sl_36 z_41 (by decide) rfl rfl rfl rfl rfl (by exact nl rfl) (by exact (aI (by exact ⟨⟩) tI)) rfl)
 refine rA ?_ (x := loc_append (by decide) sl_36 z_41 rfl rfl (by decide) rfl (by simp only [List.length_map, List.length_append, List.length_cons, List.length_nil]; omega) (by simp only [List.length_map, List.length_append, List.length_cons, List.length_nil]; omega))
 refine zf2 ?_
 refine sO [(0, _), (1, _), (4, _), (5, _), (6, _), (7, _), (8, _), (9, _), (5000, _)] [(0, _), (4, _), (5, (38, [val _, val _, sl _ _, sl _ _]))] ?_
 refine sw_reg ?_
 exact zkf) : G := h
theorem zkh (h : G := by
 have hbad : adjAll r0_ okRow ltRow l = false := adj_no hlt (Bool.eq_false_iff.2 fun hx => by
  have hx := adjStep.1 hx
  rw [hgk] at hx
  obtain ⟨hx1, hx2⟩ := hx
  first
  | (simp_all; done)
  | (simp only [decide_eq_true_eq, ltRow] at *; by_cases h0 : k = 0 <;> (try rw [hgp (by omega)] at hx2) <;> omega))
 refine sS [0, 3] [] ?_
 refine za9 ?_
 exact rb (by simp [areRows, hbad])) : G := h
theorem zki (h : G := by
 refine sw_skip ?_
 refine sG [0, 3] [] ?_
 refine zdb ?_
 refine nx (k + 1) (by exact ⟨by omega, by rw [adjTo_succ, ha, Bool.true_and]; refine adjStep.2 ⟨by rw [hgk]; first | assumption | simp_all, ?_⟩; rcases Nat.eq_zero_or_pos k with h0 | h0; (· exact .inl h0); (· right; rw [hgk, hgp h0]; first | (simp only [decide_eq_true_eq, ltRow] at *; omega) | (simp_all; done))⟩)) : G := h
theorem zkj (h : G := by
 have hno : newStOk rows n = false := by rw [← Bool.not_eq_true]; intro hc_; obtain ⟨h1_, h2_, h3_⟩ := newStOk_f hc_; have h4_ : inB n 1 8 = true := (by simp [inB]; omega); (first | omega | (simp_all; done) | (simp_all; omega))
 refine zkk ?_
 refine zlk ?_
 exact (Exists.intro 4 (Exists.intro _ (aI (by exact rfl) (aI (by refine box_eq ?_; rw [newSt_no hno]; exact rfl) (aI ty_26 (aI (fun h => nomatch h) (aI (by refine bool_eq ?_; rw [newSt_no hno]) tI)))))))) : G := h
theorem zkn (h : G := by
 refine sS [0, 3, 4, 5, 6, 29, 5000] [0, 3, 4] ?_
 refine rA ?_ (x := cM Cp.ptr)
 refine zk7 ?_
 refine rA ?_ (x := loc_xcall0 (bx := 0) (qs := [(false, [val _])]) (as_ := [(false, [val _])]) (by decide) c_72 rfl (by exact (aI (by exact ⟨⟩) tI)) (by exact (aI (aI rfl (ToL.cons (PV.To.refl _) ToL.nil)) tI)) (by exact (BorL.cons (hbo _) (BorL.cons (bor_val _) (BorL.cons (bor_val _) BorL.nil)))) (by exact (borA_cons (BorL.cons (bor_val _) BorL.nil) borA_nil)) (by exact (x_l3Row hbo)))
 refine zm5 ?_
 refine sw_ret ?_
 exact ⟨(by rw [updC_0 h0_, huk]; exact rfl), rfl, (Exists.intro 4 (Exists.intro _ (aI (by exact rfl) (aI (by refine box_eq ?_; rw [updC_0 h0_, huk]; exact rfl) (aI ty_47 (aI (fun h => nomatch h) tI))))))⟩) : G := h
theorem zko (h : G := by
 refine sS [0, 3, 4, 5, 6, 29, 5000] [0, 3, 4] ?_
 refine zm6 ?_
 refine zm5 ?_
 refine sw_ret ?_
 exact ⟨(by rw [updC_1 h0_ h1_, huk]; exact rfl), rfl, (Exists.intro 4 (Exists.intro _ (aI (by exact rfl) (aI (by refine box_eq ?_; rw [updC_1 h0_ h1_, hu]; exact rfl) (aI ty_47 (aI (fun h => nomatch h) tI))))))⟩) : G := h
theorem zkp (h : G := by
 refine sw_skip ?_
 refine sS [0, 3, 4, 5, 6, 29, 5000] [0, 3, 4] ?_
 refine zk7 ?_
 refine rS ?_
 refine sS [0, 3, 4, 5, 6, 7, 29, 5000] [0, 3, 4] ?_
 refine zm6 ?_
 refine rM ?_
 refine zk7 ?_
 refine rA ?_ (x := loc_build (qs := [(false, [val _]), (true, [val _, sl _ _]), (false, [val _]), (false, [val _])]) (cs := [val _, val _, sl _ _, val _, val _]) (by decide) z_47 zo_47 FDst_pl_47 (by exact rfl) (by exact (aI (ok_sc rfl) (aI (by exact ⟨⟩) (aI (by exact ⟨⟩) (aI (by exact ⟨⟩) tI))))) rfl (by exact rfl))
 refine rA ?_ (x := loc_store (ag := true) (vs := [val _, val _, sl _ _, val _, val _]) ty_47 (by exact ⟨⟩) (by exact rfl) (by exact nl rfl))
 refine sw_ret ?_
 exact ⟨(by rw [updC_2 h0_ h1_, huk]; exact rfl), rfl, (Exists.intro 4 (Exists.intro _ (aI (by exact rfl) (aI (by refine box_eq ?_; rw [updC_2 h0_ h1_, huk, hu]; exact rfl) (aI ty_47 (aI (fun h => nomatch h) tI))))))⟩) : G := h
theorem zkl (h : G := by
 refine sw_seq ?_
 refine sS [0, 3, 4, 5, 6, 5000] [0, 3, 4] ?_
 refine zk7 ?_
 refine sw_block ?_
 refine zkm ?_
 refine sc (fun hbb => ?_) (fun hbb => ?_)
 have h0_ : (updK c s).1 = 0 := by rw [huk]; first | exact hbb | simpa using hbb
 exact zkn
 have h0_ : ¬ (updK c s).1 = 0 := by rw [huk]; first | exact hbb | simpa using hbb
 refine zkm ?_
 refine sc (fun hbc => ?_) (fun hbc => ?_)
 have h1_ : (updK c s).1 = 1 := by rw [huk]; first | exact hbc | simpa using hbc
 exact zko
 have h1_ : ¬ (updK c s).1 = 1 := by rw [huk]; first | exact hbc | simpa using hbc
 exact zkp) : G := h
theorem zkq (h : G := by
 refine sw_ret ?_
 exact (Exists.intro 2 (Exists.intro _ (aI (by exact rfl) (aI (by exact rfl) (aI ty_32 (aI (fun h => nomatch h) (aI (by exact rfl) tI)))))))) : G := h
theorem zm7 (h : G := by
 refine sw_ret ?_
 exact ⟨(by first | (rw [evtC_0 hk0]; exact rfl) | (rw [evtC_2 hk0 hk2]; exact rfl) | (rw [evtC_3 hk0 hk2 hk3]; exact rfl) | (rw [evtC_4 hk0 hk2 hk3]; exact rfl)), rfl, (Exists.intro 4 (Exists.intro _ (aI (by exact rfl) (aI (by refine box_eq ?_; first | (rw [evtC_0 hk0]; exact rfl) | (rw [evtC_2 hk0 hk2]; exact rfl) | (rw [evtC_3 hk0 hk2 hk3]; exact rfl) | (rw [evtC_4 hk0 hk2 hk3]; exact rfl)) (aI ty_49 (aI (fun h => nomatch h) tI))))))⟩) : G := h
theorem zm8 (h : G := by
 refine rA ?_ (x := loc_store (ag := true) (vs := [val _, val _, val _, sl _ _, sl _ _, val _, val _, val _, val _, sl _ _, val _, val _, val _]) ty_49 (by exact ⟨⟩) (by exact rfl) (by exact nl rfl))
 exact zm7) : G := h
theorem zm9 (h : G := by
 refine rA ?_ (x := loc_build (qs := [(false, [val _]), (false, [val _])]) (cs := [val _, val _, val _, sl _ _, sl _ _, val _, val _, val _, val _, sl _ _, val _, val _, val _]) (by decide) z_49 zo_49 FDst_pl_49 (by exact rfl) (by exact (aI (ok_sc rfl) (aI (by exact ⟨⟩) tI))) rfl (by exact rfl))
 exact zm8) : G := h
theorem zks (h : G := by
 refine sc (fun hbb => ?_) (fun hbb => ?_)
 have hk0 : (evtK c).1 = 0 ∨ (evtK c).1 = 1 := by first | assumption | exact .inr hbb | exact .inr (by simpa using hbb)
 refine sS [0, 3, 4, 7, 5000] [0, 3, 4] ?_
 refine rA ?_ (x := cM Cp.ptr)
 refine zk7 ?_
 refine rA ?_ (x := loc_xcall0 (bx := 0) (qs := [(false, [val _])]) (as_ := [(false, [val _])]) (by decide) c_78 rfl (by exact (aI (by exact ⟨⟩) tI)) (by exact (aI (aI rfl (ToL.cons (PV.To.refl _) ToL.nil)) tI)) (by exact (BorL.cons (hbo _) (BorL.cons (bor_val _) (BorL.cons (bor_val _) BorL.nil)))) (by exact (borA_cons (BorL.cons (bor_val _) BorL.nil) borA_nil)) (by exact (x_l4Query hbo)))
 refine zkb ?_
 refine sw_seq ?_
 refine sO [(0, _), (3, _), (4, _), (5, _), (7, _), (5000, _)] [(0, _), (3, _), (4, _), (5, (38, [val _, val _, sl _ _, sl _ _]))] ?_
 refine sw_draw hm_ ?_
 refine dA 0 ?_ (x := loc_ltake (ms := [val _, val _, sl _ _, sl _ _]) (qs := [val _, val _, sl .v _, sl .v _]) (by decide) ty_38 (fun h => nomatch h) (by exact nl rfl) (by exact rfl) (by exact (ToL.cons (PV.To.refl _) (ToL.cons (PV.To.refl _) (ToL.cons PV.to_none (ToL.cons PV.to_none ToL.nil))))) (by exact lq))
 refine dA 0 ?_ (x := cM Cp.ptr)
 refine dA 0 ?_ (x := loc_bslice (qs := [(false, [val _]), (false, [val _]), (false, [val _]), (false, [val _])]) (by decide) sl_27 z_3 (by decide) rfl rfl rfl rfl rfl (by exact nl rfl) (by exact (aI (ok_sc rfl) (aI (ok_sc rfl) (aI (ok_sc rfl) (aI (ok_sc rfl) tI))))) rfl)
 refine dA 6 ?_ (x := loc_xcall0 (bx := 0) (qs := [(false, [sl _ _])]) (as_ := [(false, [sl .v _])]) (by decide) c_79 rfl (by exact (aI (by exact ⟨⟩) tI)) (by exact (aI (aI rfl (ToL.cons PV.to_none ToL.nil)) tI)) (by exact (BorL.cons (hbo _) (BorL.cons (bor_val _) (BorL.cons (bor_val _) BorL.nil)))) (by exact (borA_cons (BorL.cons (bor_sl _) BorL.nil) borA_nil)) (by exact (x_l1PickInt (l := [0, 0, 1, 2]) hbo (by decide) (by decide))))
 refine dA 15 ?_ (x := loc_build (qs := [(false, [val _]), (true, [val _, val _, sl _ _, sl _ _]), (false, [val _])]) (cs := [val _, val _, val _, sl _ _, sl _ _, val _, val _, val _, val _, sl _ _, val _, val _, val _]) (by decide) z_49 zo_49 FDst_pl_49 (by exact rfl) (by exact (aI (ok_sc rfl) (aI (by exact ⟨⟩) (aI (by exact ⟨⟩) tI)))) rfl (by exact rfl))
 refine dA 31 ?_ (x := loc_store (ag := true) (vs := [val _, val _, val _, sl _ _, sl _ _, val _, val _, val _, val _, sl _ _, val _, val _, val _]) ty_49 (by exact ⟨⟩) (by exact rfl) (by exact nl rfl))
 exact zm7
 have hk0 : ¬ ((evtK c).1 = 0 ∨ (evtK c).1 = 1) := by intro hc_; rcases hc_ with hc_ | hc_ <;> first | exact hk00 hc_ | exact hbb hc_ | (simp_all; done)
 refine zkr ?_
 refine sc (fun hbc => ?_) (fun hbc => ?_)
 have hk2 : (evtK c).1 = 2 := hbc
 refine sS [0, 3, 4, 7, 5000] [0, 3, 4] ?_
 refine zk7 ?_
 exact zm9
 have hk2 : ¬ (evtK c).1 = 2 := hbc
 refine zkr ?_
 refine sc (fun hbd => ?_) (fun hbd => ?_)
 have hk3 : (evtK c).1 = 3 := hbd
 refine sS [0, 3, 4, 7, 5000] [0, 3, 4] ?_
 refine zka ?_
 exact zm9
 have hk3 : ¬ (evtK c).1 = 3 := hbd
 refine sw_skip ?_
 refine sS [0, 3, 4, 7, 5000] [0, 3, 4] ?_
 refine rA ?_ (x := cM Cp.ptr)
 refine rA ?_ (x := lD [sl .v _, val _] ty_26)
 refine rA ?_ (x := loc_xcall0 (bx := 0) (qs := [(true, [sl _ _, val _])]) (as_ := [(true, [sl .v _, val _])]) (by decide) c_40 rfl (by exact (aI (by exact ⟨⟩) tI)) (by exact (aI (aI rfl (ToL.cons PV.to_none (ToL.cons (PV.To.refl _) ToL.nil))) tI)) (by exact (BorL.cons (hbo _) (BorL.cons (bor_val _) (BorL.cons (bor_val _) BorL.nil)))) (by exact (borA_cons (BorL.cons (bor_sl _) (BorL.cons (bor_val _) BorL.nil)) borA_nil)) (by exact (x_l8Update hbo (by assumption))))
 refine rA ?_ (x := loc_build (qs := [(false, [val _]), (true, [val _, val _, sl _ _, val _, val _])]) (cs := [val _, val _, val _, sl _ _, sl _ _, val _, val _, val _, val _, sl _ _, val _, val _, val _]) (by decide) z_49 zo_49 FDst_pl_49 (by exact rfl) (by exact (aI (ok_sc rfl) (aI (by exact ⟨⟩) tI))) rfl (by exact rfl))
 exact zm8) : G := h
theorem zkv (h : G := by
 refine zfu ?_
 exact (aI (by refine int_eq ?_; rw [hr]; try rfl) tI)) : G := h
theorem zma (h : G := by
 refine zfg ?_
 refine nx (m + 1) (by omega) (e := (by exact aI (by exact int_eq (by omega)) (tI))) (f := (by exact aI (by first | (rw [isoTo_succ hlt, hxa]; exact rfl)) (aI (by first | (rw [isoTo_succ hlt, hxb]; exact rfl)) (tI))))) : G := h
theorem zl9 (h : G := by
 have hk4 : (hisL (curNew code hb))[m].Kind = 4 := by first | exact hbe | simpa using hbe
 refine sS [0, 2, 3, 4, 5, 6, 7, 8, 9, 56] [3, 5, 6, 8] ?_
 refine zao ?_
 refine sP [0, 2, 3, 4, 5, 6, 7, 8, 9, 10, 56] [3, 5, 6, 8] ?_
 refine sL [0, 2, 3, 4, 5, 6, 7, 8, 9, 56] [3, 5] (fun j : Nat => (j : Int) ≤ (hisL (curNew code hb))[m].Steps) (fun j : Nat => [(10, RV.int (j : Int))]) (fun j : Nat => [(6, (32, [sl .v ((runE (isoTo isoA (admitE (hisE (curNew code hb)) (isoQ code) 0).1 (hisL (curNew code hb)) m) j).Store.Segments.map (cVersionS .v .v)), val (vI (runE (isoTo isoA (admitE (hisE (curNew code hb)) (isoQ code) 0).1 (hisL (curNew code hb)) m) j).Store.Now), val (vI (runE (isoTo isoA (admitE (hisE (curNew code hb)) (isoQ code) 0).1 (hisL (curNew code hb)) m) j).Cursor), sl .v ((runE (isoTo isoA (admitE (hisE (curNew code hb)) (isoQ code) 0).1 (hisL (curNew code hb)) m) j).Order.map cInt), sl .v ((runE (isoTo isoA (admitE (hisE (curNew code hb)) (isoQ code) 0).1 (hisL (curNew code hb)) m) j).Active.map (cActive .v .v .v .v .v)), sl .v ((runE (isoTo isoA (admitE (hisE (curNew code hb)) (isoQ code) 0).1 (hisL (curNew code hb)) m) j).Done.map (cFinished .v .v .v .v)), sl .v ((runE (isoTo isoA (admitE (hisE (curNew code hb)) (isoQ code) 0).1 (hisL (curNew code hb)) m) j).Ledger.map (cCharge .v .v .v)), val (vI (runE (isoTo isoA (admitE (hisE (curNew code hb)) (isoQ code) 0).1 (hisL (curNew code hb)) m) j).Steps)])), (8, (32, [sl .v ((runE (isoTo isoB (admitE (hisE (curNew code hb)) (isoQ code) 0).1 (hisL (curNew code hb)) m) j).Store.Segments.map (cVersionS .v .v)), val (vI (runE (isoTo isoB (admitE (hisE (curNew code hb)) (isoQ code) 0).1 (hisL (curNew code hb)) m) j).Store.Now), val (vI (runE (isoTo isoB (admitE (hisE (curNew code hb)) (isoQ code) 0).1 (hisL (curNew code hb)) m) j).Cursor), sl .v ((runE (isoTo isoB (admitE (hisE (curNew code hb)) (isoQ code) 0).1 (hisL (curNew code hb)) m) j).Order.map cInt), sl .v ((runE (isoTo isoB (admitE (hisE (curNew code hb)) (isoQ code) 0).1 (hisL (curNew code hb)) m) j).Active.map (cActive .v .v .v .v .v)), sl .v ((runE (isoTo isoB (admitE (hisE (curNew code hb)) (isoQ code) 0).1 (hisL (curNew code hb)) m) j).Done.map (cFinished .v .v .v .v)), sl .v ((runE (isoTo isoB (admitE (hisE (curNew code hb)) (isoQ code) 0).1 (hisL (curNew code hb)) m) j).Ledger.map (cCharge .v .v .v)), val (vI (runE (isoTo isoB (admitE (hisE (curNew code hb)) (isoQ code) 0).1 (hisL (curNew code hb)) m) j).Steps)]))]) (fun j : Nat => (hisL (curNew code hb))[m].Steps.toNat - j) 0 (by omega) (by exact aI (by exact rfl) (tI)) (by exact aI (by exact rfl) (aI (by exact rfl) (tI))) ?_
 rintro j hj
 have hra := runE_wt (isoTo isoA (admitE (hisE (curNew code hb)) (isoQ code) 0).1 (hisL (curNew code hb)) m) j
 have hrb := runE_wt (isoTo isoB (admitE (hisE (curNew code hb)) (isoQ code) 0).1 (hisL (curNew code hb)) m) j
 refine zl4 ?_
 refine zl6 ?_
 refine rA ?_ (x := loc_efield (by decide) fd_49_5 (by exact nl rfl))
 refine rA ?_ (x := lE [val _] ty_3)
 refine rA ?_ (x := B_lss)
 refine sc (fun hbf => ?_) (fun hbf => ?_)
 have hjl : (j : Int) < (hisL (curNew code hb))[m].Steps := by omega
 refine za6 ?_
 refine sT [0, 2, 3, 4, 5, 6, 7, 8, 9, 10, 56] [3, 5, 6, 8] ?_
 refine rA ?_ (x := lD [sl .v _, val _, val _, sl .v _, sl .v _, sl .v _, sl .v _, val _] ty_32)
 refine rA ?_ (x := cL [(true, [sl _ _, val _, val _, sl _ _, sl _ _, sl _ _, sl _ _, val _])] [(true, [sl .v _, val _, val _, sl .v _, sl .v _, sl .v _, sl .v _, val _])] c_8 (hs := by exact (impl_StepEngine (e := runE (isoTo isoA (admitE (hisE (curNew code hb)) (isoQ code) 0).1 (hisL (curNew code hb)) m) j) (by omega))))
 refine rA ?_ (x := tM)
 refine zji ?_
 refine sO [(0, _), (2, _), (3, _), (4, _), (5, _), (6, _), (7, _), (8, _), (9, _), (10, _), (56, _)] [(3, _), (5, _), (6, (32, [sl _ _, val _, val _, sl _ _, sl _ _, sl _ _, sl _ _, val _])), (8, _)] ?_
 refine zl1 ?_
 refine rA ?_ (x := cL [(true, [sl _ _, val _, val _, sl _ _, sl _ _, sl _ _, sl _ _, val _])] [(true, [sl .v _, val _, val _, sl .v _, sl .v _, sl .v _, sl .v _, val _])] c_8 (hs := by exact (impl_StepEngine (e := runE (isoTo isoB (admitE (hisE (curNew code hb)) (isoQ code) 0).1 (hisL (curNew code hb)) m) j) (by omega))))
 refine rA ?_ (x := tM)
 refine zji ?_
 refine sO [(0, _), (2, _), (3, _), (4, _), (5, _), (6, _), (7, _), (8, _), (9, _), (10, _), (56, _)] [(3, _), (5, _), (6, _), (8, (32, [sl _ _, val _, val _, sl _ _, sl _ _, sl _ _, sl _ _, val _]))] ?_
 refine zmb ?_
 refine zmc ?_
 refine zfg ?_
 refine nx (j + 1) (by omega) (e := (by exact aI (by exact int_eq (by omega)) (tI)))
 have hje : (hisL (curNew code hb))[m].Steps.toNat = j := by omega
 have hxa : isoA (isoTo isoA (admitE (hisE (curNew code hb)) (isoQ code) 0).1 (hisL (curNew code hb)) m) (hisL (curNew code hb))[m] = runE (isoTo isoA (admitE (hisE (curNew code hb)) (isoQ code) 0).1 (hisL (curNew code hb)) m) j := by unfold isoA; rw [if_pos hk4, hje]
 have hxb : isoB (isoTo isoB (admitE (hisE (curNew code hb)) (isoQ code) 0).1 (hisL (curNew code hb)) m) (hisL (curNew code hb))[m] = runE (isoTo isoB (admitE (hisE (curNew code hb)) (isoQ code) 0).1 (hisL (curNew code hb)) m) j := by unfold isoB; rw [if_pos hk4, hje]
 refine sw_exit ?_
 refine sQ [0, 2, 3, 4, 5, 6, 7, 8, 9, 10, 56] [3, 5, 6, 8] ?_
 refine zmb ?_
 refine zmc ?_
 exact zma) : G := h
theorem zmd (h : G := by
 refine sw_weakB (d := 6) [sl .v _, val _, val _, sl .v _, sl .v _, sl .v _, sl .v _, val _] (by exact rfl) (by exact (ToL.cons (PV.to_map (fun _ => (ToL.cons (PV.to_map (fun _ => (ToL.cons (PV.To.refl _) (ToL.cons (PV.to_map (fun _ => (ToL.cons (PV.To.refl _) ToL.nil))) (ToL.cons (PV.To.refl _) (ToL.cons (PV.To.refl _) ToL.nil)))))) ToL.nil))) (ToL.cons (PV.To.refl _) (ToL.cons (PV.To.refl _) (ToL.cons (PV.to_map (fun _ => (ToL.cons (PV.To.refl _) ToL.nil))) (ToL.cons (PV.to_map (fun _ => (ToL.cons (PV.To.refl _) (ToL.cons (PV.To.refl _) (ToL.cons (PV.to_map (fun _ => (ToL.cons (PV.To.refl _) (ToL.cons (PV.To.refl _) (ToL.cons (PV.To.refl _) ToL.nil))))) (ToL.cons (PV.to_map (fun _ => (ToL.cons (PV.To.refl _) ToL.nil))) (ToL.cons (PV.To.refl _) (ToL.cons (PV.to_map (fun _ => (ToL.cons (PV.To.refl _) ToL.nil))) (ToL.cons (PV.To.refl _) (ToL.cons (PV.To.refl _) (ToL.cons (PV.To.refl _) (ToL.cons (PV.to_map (fun _ => (ToL.cons (PV.To.refl _) (ToL.cons (PV.to_map (fun _ => (ToL.cons (PV.To.refl _) ToL.nil))) ToL.nil)))) ToL.nil)))))))))))) (ToL.cons (PV.to_map (fun _ => (ToL.cons (PV.To.refl _) (ToL.cons (PV.To.refl _) (ToL.cons (PV.to_map (fun _ => (ToL.cons (PV.To.refl _) (ToL.cons (PV.To.refl _) (ToL.cons (PV.To.refl _) ToL.nil))))) (ToL.cons (PV.to_map (fun _ => (ToL.cons (PV.To.refl _) ToL.nil))) (ToL.cons (PV.To.refl _) (ToL.cons (PV.To.refl _) (ToL.cons (PV.to_map (fun _ => (ToL.cons (PV.To.refl _) (ToL.cons (PV.to_map (fun _ => (ToL.cons (PV.To.refl _) ToL.nil))) ToL.nil)))) ToL.nil))))))))) (ToL.cons (PV.to_map (fun _ => (ToL.cons (PV.To.refl _) (ToL.cons (PV.To.refl _) (ToL.cons (PV.to_map (fun _ => (ToL.cons (PV.To.refl _) ToL.nil))) (ToL.cons (PV.to_map (fun _ => (ToL.cons (PV.To.refl _) ToL.nil))) (ToL.cons (PV.to_map (fun _ => (ToL.cons (PV.To.refl _) ToL.nil))) ToL.nil))))))) (ToL.cons (PV.To.refl _) ToL.nil))))))))) (by exact lq) ?_
 refine sO [(0, _), (2, _), (3, _), (4, _), (5, _), (6, _), (7, _), (8, _), (9, _), (56, _)] [(3, _), (5, _), (6, (32, [sl _ _, val _, val _, sl _ _, sl _ _, sl _ _, sl _ _, val _])), (8, _)] ?_
 refine sw_weakB (d := 8) [sl .v _, val _, val _, sl .v _, sl .v _, sl .v _, sl .v _, val _] (by exact rfl) (by exact (ToL.cons (PV.to_map (fun _ => (ToL.cons (PV.to_map (fun _ => (ToL.cons (PV.To.refl _) (ToL.cons (PV.to_map (fun _ => (ToL.cons (PV.To.refl _) ToL.nil))) (ToL.cons (PV.To.refl _) (ToL.cons (PV.To.refl _) ToL.nil)))))) ToL.nil))) (ToL.cons (PV.To.refl _) (ToL.cons (PV.To.refl _) (ToL.cons (PV.to_map (fun _ => (ToL.cons (PV.To.refl _) ToL.nil))) (ToL.cons (PV.to_map (fun _ => (ToL.cons (PV.To.refl _) (ToL.cons (PV.To.refl _) (ToL.cons (PV.to_map (fun _ => (ToL.cons (PV.To.refl _) (ToL.cons (PV.To.refl _) (ToL.cons (PV.To.refl _) ToL.nil))))) (ToL.cons (PV.to_map (fun _ => (ToL.cons (PV.To.refl _) ToL.nil))) (ToL.cons (PV.To.refl _) (ToL.cons (PV.to_map (fun _ => (ToL.cons (PV.To.refl _) ToL.nil))) (ToL.cons (PV.To.refl _) (ToL.cons (PV.To.refl _) (ToL.cons (PV.To.refl _) (ToL.cons (PV.to_map (fun _ => (ToL.cons (PV.To.refl _) (ToL.cons (PV.to_map (fun _ => (ToL.cons (PV.To.refl _) ToL.nil))) ToL.nil)))) ToL.nil)))))))))))) (ToL.cons (PV.to_map (fun _ => (ToL.cons (PV.To.refl _) (ToL.cons (PV.To.refl _) (ToL.cons (PV.to_map (fun _ => (ToL.cons (PV.To.refl _) (ToL.cons (PV.To.refl _) (ToL.cons (PV.To.refl _) ToL.nil))))) (ToL.cons (PV.to_map (fun _ => (ToL.cons (PV.To.refl _) ToL.nil))) (ToL.cons (PV.To.refl _) (ToL.cons (PV.To.refl _) (ToL.cons (PV.to_map (fun _ => (ToL.cons (PV.To.refl _) (ToL.cons (PV.to_map (fun _ => (ToL.cons (PV.To.refl _) ToL.nil))) ToL.nil)))) ToL.nil))))))))) (ToL.cons (PV.to_map (fun _ => (ToL.cons (PV.To.refl _) (ToL.cons (PV.To.refl _) (ToL.cons (PV.to_map (fun _ => (ToL.cons (PV.To.refl _) ToL.nil))) (ToL.cons (PV.to_map (fun _ => (ToL.cons (PV.To.refl _) ToL.nil))) (ToL.cons (PV.to_map (fun _ => (ToL.cons (PV.To.refl _) ToL.nil))) ToL.nil))))))) (ToL.cons (PV.To.refl _) ToL.nil))))))))) (by exact lq) ?_
 refine sO [(0, _), (2, _), (3, _), (4, _), (5, _), (6, _), (7, _), (8, _), (9, _), (56, _)] [(3, _), (5, _), (6, _), (8, (32, [sl _ _, val _, val _, sl _ _, sl _ _, sl _ _, sl _ _, val _]))] ?_
 exact zma) : G := h
theorem zla (h : G := by
 have hk3 : (hisL (curNew code hb))[m].Kind = 3 := by first | exact hbf | simpa using hbf
 have hxa : isoA (isoTo isoA (admitE (hisE (curNew code hb)) (isoQ code) 0).1 (hisL (curNew code hb)) m) (hisL (curNew code hb))[m] = (isoTo isoA (admitE (hisE (curNew code hb)) (isoQ code) 0).1 (hisL (curNew code hb)) m) := by unfold isoA; rw [if_neg hk4]
 have hxb : isoB (isoTo isoB (admitE (hisE (curNew code hb)) (isoQ code) 0).1 (hisL (curNew code hb)) m) (hisL (curNew code hb))[m] = (isoTo isoB (admitE (hisE (curNew code hb)) (isoQ code) 0).1 (hisL (curNew code hb)) m) := by unfold isoB; rw [if_neg hk4, if_pos hk3]
 refine sw_exit ?_
 refine sP [0, 2, 3, 4, 5, 6, 7, 8, 9, 56] [3, 5, 6, 8] ?_
 exact zmd) : G := h
theorem zle (h : G := by
 obtain rfl := relval hR1 (j := 0) rfl rfl
 obtain rfl := RelU.nil hU2
 clear hR0 hU0 hR1 hU1 hU2
 refine Run.stepC 63 (by exact ⟨rfl, ⟨⟩⟩) (by exact ⟨⟩) (LocG.of rfl (loc_take (.inl rfl) (by decide))) nofree (by kernel_rfl) (by intro L' h; exact nomatch (show (none : Option Step) = some L' from h)) ?_
 refine Run.stepC 127 (by exact ⟨rfl, ⟨⟩⟩) (by exact ⟨⟩) (LocG.of rfl (loc_extractb (cs := [val _, val _, val _, val _, val _, val _, val _, val _]) (by decide) (by exact rfl) (by exact lq))) nofree (by kernel_rfl) (by intro L' h; exact nomatch (show (none : Option Step) = some L' from h)) ?_
 refine Run.stepC 127 (by exact ⟨rfl, ⟨⟩⟩) (by exact ⟨⟩) (LocG.of rfl (loc_extractb (cs := [val _]) (by decide) (by exact rfl) (by exact (BorL.cons (bor_val _) BorL.nil)))) nofree (by kernel_rfl) (by intro L' h; exact nomatch (show (none : Option Step) = some L' from h)) ?_
 refine Run.stepC 255 (by exact ⟨rfl, rfl, ⟨⟩⟩) (by exact ⟨rfl, ⟨⟩⟩) (LocG.of rfl (loc_store (ag := true) (vs := [val _, val _, val _, val _, val _, val _, val _, val _]) ty_32 (by exact ⟨⟩) (by exact rfl) (by exact nl rfl))) nofree (by kernel_rfl) (by intro L' h; exact nomatch (show (none : Option Step) = some L' from h)) ?_
 refine sw_backB (d := 8) (G := 2000) (by exact rfl) (by exact (Nm.val (Nm.val (Nm.val (Nm.val (Nm.val (Nm.val (Nm.val (Nm.val Nm.nil))))))))) (by exact rfl) ?_
 refine sO [(0, _), (2, _), (3, _), (4, _), (5, _), (6, _), (7, _), (8, _), (9, _), (56, _)] [(3, _), (5, _), (6, _), (8, (32, [sl _ _, val _, val _, sl _ _, sl _ _, sl _ _, sl _ _, val _]))] ?_
 exact zmd) : G := h
theorem zlf (h : G := by
 have hend : m = (hisL (curNew code hb)).length := by omega
 obtain ⟨hR, hR2⟩ := iso_law (c := (curNew code hb)) (code := code) hat hend
 have hR3 := hR2
 rw [hR] at hR3
 have hfa := finEng_wt (isoTo isoA (admitE (hisE (curNew code hb)) (isoQ code) 0).1 (hisL (curNew code hb)) m)
 have hfb := finEng_wt (isoTo isoB (admitE (hisE (curNew code hb)) (isoQ code) 0).1 (hisL (curNew code hb)) m)
 refine sw_exit ?_
 refine sT [0, 2, 3, 4, 5, 6, 7, 8, 9] [3, 5, 6, 8] ?_
 refine rA ?_ (x := lD [sl .v _, val _, val _, sl .v _, sl .v _, sl .v _, sl .v _, val _] ty_32)
 refine rA ?_ (x := cL [(true, [sl _ _, val _, val _, sl _ _, sl _ _, sl _ _, sl _ _, val _])] [(true, [sl .v _, val _, val _, sl .v _, sl .v _, sl .v _, sl .v _, val _])] c_11 (hs := by exact (impl_FinishEngine (e := (isoTo isoA (admitE (hisE (curNew code hb)) (isoQ code) 0).1 (hisL (curNew code hb)) m)) (by omega))))
 refine rA ?_ (x := cL [(true, [sl _ _, val _, val _, sl _ _, sl _ _, sl _ _, sl _ _, val _]), (false, [val _])] [(true, [sl .v _, val _, val _, sl .v _, sl .v _, sl .v _, sl .v _, val _]), (false, [val _])] c_10 (hs := by exact (impl_ResultOf (e := finEng (isoTo isoA (admitE (hisE (curNew code hb)) (isoQ code) 0).1 (hisL (curNew code hb)) m)) (id := 23) (by omega))))
 refine rA ?_ (x := tM)
 refine zme ?_
 refine zex ?_
 refine zca ?_
 refine sO [(0, _), (2, _), (3, _), (4, _), (5, _), (6, _), (7, _), (8, _), (9, _), (11, _), (12, _)] [(3, _), (5, _), (6, _), (8, _), (11, (54, [val _, val _, sl _ _, sl _ _, val _, val _, sl _ _]))] ?_
 refine zl1 ?_
 refine rA ?_ (x := cL [(true, [sl _ _, val _, val _, sl _ _, sl _ _, sl _ _, sl _ _, val _])] [(true, [sl .v _, val _, val _, sl .v _, sl .v _, sl .v _, sl .v _, val _])] c_11 (hs := by exact (impl_FinishEngine (e := (isoTo isoB (admitE (hisE (curNew code hb)) (isoQ code) 0).1 (hisL (curNew code hb)) m)) (by omega))))
 refine rA ?_ (x := cL [(true, [sl _ _, val _, val _, sl _ _, sl _ _, sl _ _, sl _ _, val _]), (false, [val _])] [(true, [sl .v _, val _, val _, sl .v _, sl .v _, sl .v _, sl .v _, val _]), (false, [val _])] c_10 (hs := by exact (impl_ResultOf (e := finEng (isoTo isoB (admitE (hisE (curNew code hb)) (isoQ code) 0).1 (hisL (curNew code hb)) m)) (id := 23) (by omega))))
 refine rA ?_ (x := tM)
 refine zme ?_
 refine zex ?_
 refine zca ?_
 refine sO [(0, _), (2, _), (3, _), (4, _), (5, _), (6, _), (7, _), (8, _), (9, _), (11, _), (12, _), (13, _), (14, _)] [(3, _), (5, _), (6, _), (8, _), (11, _), (13, (54, [val _, val _, sl _ _, sl _ _, val _, val _, sl _ _]))] ?_
 refine sw_reg ?_
 refine za8 ?_
 refine cx 102 (fun ga sga => ?_) (fun ga sga => ?_)
 refine rB ga ?_ (x := sM)
 refine zb9 ?_
 refine cx 105 (fun gb sgb => ?_) (fun gb sgb => ?_)
 refine rB gb ?_ (x := lF fd_54_3)
 refine rB gb ?_ (x := lD [sl .v _] ty_52)
 refine rB gb ?_ (x := lF fd_54_3)
 refine rB gb ?_ (x := lD [sl .v _] ty_52)
 refine rB gb ?_ (x := cL [(false, [sl _ _]), (false, [sl _ _])] [(false, [sl .v _]), (false, [sl .v _])] c_12 (hs := by exact spec_EqualRows))
 refine zba ?_
 refine cx 112 (fun gc sgc => ?_) (fun gc sgc => ?_)
 refine rB gc ?_ (x := lF fd_54_2)
 refine rB gc ?_ (x := lD [val _] ty_3)
 refine rB gc ?_ (x := lF fd_54_2)
 refine zj3 ?_
 refine zfu ?_
 exact rb (by first | (rw [hR]; simp; done) | rfl)
 exact absurd gc (by first | (rw [hR2]; simp; done) | (rw [hR3]; simp; done) | (rw [hR, deq_self]; simp; done))
 exact absurd gb (by first | (rw [hR2]; simp; done) | (rw [hR3]; simp; done) | (rw [hR, deq_self]; simp; done))
 exact absurd ga (by first | (rw [hR2]; simp; done) | (rw [hR3]; simp; done) | (rw [hR, deq_self]; simp; done))) : G := h
theorem zk7 (h : H) (w : Hd H → G := by
 intro h_
 refine rA ?_ (x := cM Cp.ptr)
 refine rA ?_ (x := loc_xcall0 (bx := 0) (qs := [(false, [val _])]) (as_ := [(false, [val _])]) (by decide) c_38 rfl (by exact (aI (ok_sc rfl) tI)) (by exact (aI (aI rfl (ToL.cons (PV.To.refl _) ToL.nil)) tI)) (by exact (BorL.cons (hbo _) (BorL.cons (bor_val _) (BorL.cons (bor_val _) BorL.nil)))) (by exact (borA_cons (BorL.cons (bor_val _) BorL.nil) borA_nil)) (by exact (x_l1Below hbo (by omega))))
 exact h_.get) : G := w ⟨h⟩
theorem zfm (h : H) (w : Hd H → G := by
 intro h_
 refine rA ?_ (x := loc_ltake (ms := [sl _ _, val _, val _, sl _ _, sl _ _, sl _ _, sl _ _, val _]) (qs := [sl .v _, val _, val _, sl .v _, sl .v _, sl .v _, sl .v _, val _]) (by decide) ty_32 (fun h => nomatch h) (by exact nl rfl) (by exact rfl) (by exact (ToL.cons PV.to_none (ToL.cons (PV.To.refl _) (ToL.cons (PV.To.refl _) (ToL.cons PV.to_none (ToL.cons PV.to_none (ToL.cons PV.to_none (ToL.cons PV.to_none (ToL.cons (PV.To.refl _) ToL.nil))))))))) (by exact lq))
 refine rA ?_ (x := loc_store (ag := true) (vs := [sl _ _, val _, val _, sl _ _, sl _ _, sl _ _, sl _ _, val _]) ty_32 (by exact ⟨⟩) (by exact rfl) (by exact nl rfl))
 exact h_.get) : G := w ⟨h⟩
theorem zku (h : H) (w : Hd H → G := by
 intro h_
 refine rA ?_ (x := loc_extract (cs := [sl _ _, val _, val _, sl _ _, sl _ _, sl _ _, sl _ _, val _]) (qs := [sl .v _, val _, val _, sl .v _, sl .v _, sl .v _, sl .v _, val _]) (by decide) (by exact rfl) (by exact (ToL.cons PV.to_none (ToL.cons (PV.To.refl _) (ToL.cons (PV.To.refl _) (ToL.cons PV.to_none (ToL.cons PV.to_none (ToL.cons PV.to_none (ToL.cons PV.to_none (ToL.cons (PV.To.refl _) ToL.nil))))))))) (by exact lq))
 refine rA ?_ (x := loc_extractb (cs := [val _]) (by decide) (by exact rfl) (by exact (BorL.cons (bor_val _) BorL.nil)))
 exact h_.get) : G := w ⟨h⟩
theorem zfr (h : H) (w : Hd H → G := by
 intro h_
 refine rA ?_ (x := loc_bslice (qs := [(false, [val _])]) (by decide) sl_27 z_3 (by decide) rfl rfl rfl rfl rfl (by exact nl rfl) (by exact (aI (by exact ⟨⟩) tI)) rfl)
 refine rA ?_ (x := loc_append (by decide) sl_27 z_3 rfl rfl (by decide) rfl (by simp only [List.length_map, List.length_append, List.length_cons, List.length_nil]; omega) (by simp only [List.length_map, List.length_append, List.length_cons, List.length_nil]; omega))
 exact h_.get) : G := w ⟨h⟩
theorem zfz (h : H) (w : Hd H → G := by
 intro h_
 refine rA ?_ (x := loc_ltake (ms := [sl _ _, val _]) (qs := [sl .v _, val _]) (by decide) ty_26 (fun h => nomatch h) (by exact nl rfl) (by exact rfl) (by exact (ToL.cons PV.to_none (ToL.cons (PV.To.refl _) ToL.nil))) (by exact (BorL.cons (bor_sl _) (BorL.cons (bor_val _) BorL.nil))))
 refine rA ?_ (x := loc_store (ag := true) (vs := [sl _ _, val _]) ty_26 (by exact ⟨⟩) (by exact rfl) (by exact nl rfl))
 exact h_.get) : G := w ⟨h⟩
theorem zgr (h : H) (w : Hd H → G := by
 intro h_
 refine rX ?_ (x := (loc_alloc (by decide) z_32 zo_32))
 refine rA ?_ (x := loc_store (ag := true) (vs := [sl _ _, val _, val _, sl _ _, sl _ _, sl _ _, sl _ _, val _]) ty_32 (by exact ⟨⟩) (by exact rfl) (by exact nl rfl))
 exact h_.get) : G := w ⟨h⟩
theorem zl3 (h : H) (w : Hd H → G := by
 intro h_
 refine sP [0, 2, 3, 4, 5, 6, 7, 8, 9] [3, 5, 6, 8] ?_
 refine sL [0, 2, 3, 4, 5, 6, 7, 8] [3, 5] (fun m : Nat => m ≤ (hisL (curNew code hb)).length) (fun m : Nat => [(9, RV.int (m : Int))]) (fun m : Nat => [(6, (32, [sl .v ((isoTo isoA (admitE (hisE (curNew code hb)) (isoQ code) 0).1 (hisL (curNew code hb)) m).Store.Segments.map (cVersionS .v .v)), val (vI (isoTo isoA (admitE (hisE (curNew code hb)) (isoQ code) 0).1 (hisL (curNew code hb)) m).Store.Now), val (vI (isoTo isoA (admitE (hisE (curNew code hb)) (isoQ code) 0).1 (hisL (curNew code hb)) m).Cursor), sl .v ((isoTo isoA (admitE (hisE (curNew code hb)) (isoQ code) 0).1 (hisL (curNew code hb)) m).Order.map cInt), sl .v ((isoTo isoA (admitE (hisE (curNew code hb)) (isoQ code) 0).1 (hisL (curNew code hb)) m).Active.map (cActive .v .v .v .v .v)), sl .v ((isoTo isoA (admitE (hisE (curNew code hb)) (isoQ code) 0).1 (hisL (curNew code hb)) m).Done.map (cFinished .v .v .v .v)), sl .v ((isoTo isoA (admitE (hisE (curNew code hb)) (isoQ code) 0).1 (hisL (curNew code hb)) m).Ledger.map (cCharge .v .v .v)), val (vI (isoTo isoA (admitE (hisE (curNew code hb)) (isoQ code) 0).1 (hisL (curNew code hb)) m).Steps)])), (8, (32, [sl .v ((isoTo isoB (admitE (hisE (curNew code hb)) (isoQ code) 0).1 (hisL (curNew code hb)) m).Store.Segments.map (cVersionS .v .v)), val (vI (isoTo isoB (admitE (hisE (curNew code hb)) (isoQ code) 0).1 (hisL (curNew code hb)) m).Store.Now), val (vI (isoTo isoB (admitE (hisE (curNew code hb)) (isoQ code) 0).1 (hisL (curNew code hb)) m).Cursor), sl .v ((isoTo isoB (admitE (hisE (curNew code hb)) (isoQ code) 0).1 (hisL (curNew code hb)) m).Order.map cInt), sl .v ((isoTo isoB (admitE (hisE (curNew code hb)) (isoQ code) 0).1 (hisL (curNew code hb)) m).Active.map (cActive .v .v .v .v .v)), sl .v ((isoTo isoB (admitE (hisE (curNew code hb)) (isoQ code) 0).1 (hisL (curNew code hb)) m).Done.map (cFinished .v .v .v .v)), sl .v ((isoTo isoB (admitE (hisE (curNew code hb)) (isoQ code) 0).1 (hisL (curNew code hb)) m).Ledger.map (cCharge .v .v .v)), val (vI (isoTo isoB (admitE (hisE (curNew code hb)) (isoQ code) 0).1 (hisL (curNew code hb)) m).Steps)]))]) (fun m : Nat => (hisL (curNew code hb)).length - m) 0 (by omega) (by exact aI (by exact rfl) (tI)) (by exact aI (by exact rfl) (aI (by exact rfl) (tI))) ?_
 exact h_.get) : G := w ⟨h⟩
theorem zbr (h : H) (w : Hd H → G := by
 intro h_
 refine sw_skip ?_
 refine sw_seq ?_
 exact h_.get) : G := w ⟨h⟩
theorem zmb (h : H) (w : Hd H → G := by
 intro h_
 refine sw_weakB (d := 6) [sl .v _, val _, val _, sl .v _, sl .v _, sl .v _, sl .v _, val _] (by exact rfl) (by exact (ToL.cons (PV.to_map (fun _ => (ToL.cons (PV.to_map (fun _ => (ToL.cons (PV.To.refl _) (ToL.cons (PV.to_map (fun _ => (ToL.cons (PV.To.refl _) ToL.nil))) (ToL.cons (PV.To.refl _) (ToL.cons (PV.To.refl _) ToL.nil)))))) ToL.nil))) (ToL.cons (PV.To.refl _) (ToL.cons (PV.To.refl _) (ToL.cons (PV.to_map (fun _ => (ToL.cons (PV.To.refl _) ToL.nil))) (ToL.cons (PV.to_map (fun _ => (ToL.cons (PV.To.refl _) (ToL.cons (PV.To.refl _) (ToL.cons (PV.to_map (fun _ => (ToL.cons (PV.To.refl _) (ToL.cons (PV.To.refl _) (ToL.cons (PV.To.refl _) ToL.nil))))) (ToL.cons (PV.to_map (fun _ => (ToL.cons (PV.To.refl _) ToL.nil))) (ToL.cons (PV.To.refl _) (ToL.cons (PV.to_map (fun _ => (ToL.cons (PV.To.refl _) ToL.nil))) (ToL.cons (PV.To.refl _) (ToL.cons (PV.To.refl _) (ToL.cons (PV.To.refl _) (ToL.cons (PV.to_map (fun _ => (ToL.cons (PV.To.refl _) (ToL.cons (PV.to_map (fun _ => (ToL.cons (PV.To.refl _) ToL.nil))) ToL.nil)))) ToL.nil)))))))))))) (ToL.cons (PV.to_map (fun _ => (ToL.cons (PV.To.refl _) (ToL.cons (PV.To.refl _) (ToL.cons (PV.to_map (fun _ => (ToL.cons (PV.To.refl _) (ToL.cons (PV.To.refl _) (ToL.cons (PV.To.refl _) ToL.nil))))) (ToL.cons (PV.to_map (fun _ => (ToL.cons (PV.To.refl _) ToL.nil))) (ToL.cons (PV.To.refl _) (ToL.cons (PV.To.refl _) (ToL.cons (PV.to_map (fun _ => (ToL.cons (PV.To.refl _) (ToL.cons (PV.to_map (fun _ => (ToL.cons (PV.To.refl _) ToL.nil))) ToL.nil)))) ToL.nil))))))))) (ToL.cons (PV.to_map (fun _ => (ToL.cons (PV.To.refl _) (ToL.cons (PV.To.refl _) (ToL.cons (PV.to_map (fun _ => (ToL.cons (PV.To.refl _) ToL.nil))) (ToL.cons (PV.to_map (fun _ => (ToL.cons (PV.To.refl _) ToL.nil))) (ToL.cons (PV.to_map (fun _ => (ToL.cons (PV.To.refl _) ToL.nil))) ToL.nil))))))) (ToL.cons (PV.To.refl _) ToL.nil))))))))) (by exact lq) ?_
 refine sO [(0, _), (2, _), (3, _), (4, _), (5, _), (6, _), (7, _), (8, _), (9, _), (10, _), (56, _)] [(3, _), (5, _), (6, (32, [sl _ _, val _, val _, sl _ _, sl _ _, sl _ _, sl _ _, val _])), (8, _)] ?_
 exact h_.get) : G := w ⟨h⟩
theorem zmc (h : H) (w : Hd H → G := by
 intro h_
 refine sw_weakB (d := 8) [sl .v _, val _, val _, sl .v _, sl .v _, sl .v _, sl .v _, val _] (by exact rfl) (by exact (ToL.cons (PV.to_map (fun _ => (ToL.cons (PV.to_map (fun _ => (ToL.cons (PV.To.refl _) (ToL.cons (PV.to_map (fun _ => (ToL.cons (PV.To.refl _) ToL.nil))) (ToL.cons (PV.To.refl _) (ToL.cons (PV.To.refl _) ToL.nil)))))) ToL.nil))) (ToL.cons (PV.To.refl _) (ToL.cons (PV.To.refl _) (ToL.cons (PV.to_map (fun _ => (ToL.cons (PV.To.refl _) ToL.nil))) (ToL.cons (PV.to_map (fun _ => (ToL.cons (PV.To.refl _) (ToL.cons (PV.To.refl _) (ToL.cons (PV.to_map (fun _ => (ToL.cons (PV.To.refl _) (ToL.cons (PV.To.refl _) (ToL.cons (PV.To.refl _) ToL.nil))))) (ToL.cons (PV.to_map (fun _ => (ToL.cons (PV.To.refl _) ToL.nil))) (ToL.cons (PV.To.refl _) (ToL.cons (PV.to_map (fun _ => (ToL.cons (PV.To.refl _) ToL.nil))) (ToL.cons (PV.To.refl _) (ToL.cons (PV.To.refl _) (ToL.cons (PV.To.refl _) (ToL.cons (PV.to_map (fun _ => (ToL.cons (PV.To.refl _) (ToL.cons (PV.to_map (fun _ => (ToL.cons (PV.To.refl _) ToL.nil))) ToL.nil)))) ToL.nil)))))))))))) (ToL.cons (PV.to_map (fun _ => (ToL.cons (PV.To.refl _) (ToL.cons (PV.To.refl _) (ToL.cons (PV.to_map (fun _ => (ToL.cons (PV.To.refl _) (ToL.cons (PV.To.refl _) (ToL.cons (PV.To.refl _) ToL.nil))))) (ToL.cons (PV.to_map (fun _ => (ToL.cons (PV.To.refl _) ToL.nil))) (ToL.cons (PV.To.refl _) (ToL.cons (PV.To.refl _) (ToL.cons (PV.to_map (fun _ => (ToL.cons (PV.To.refl _) (ToL.cons (PV.to_map (fun _ => (ToL.cons (PV.To.refl _) ToL.nil))) ToL.nil)))) ToL.nil))))))))) (ToL.cons (PV.to_map (fun _ => (ToL.cons (PV.To.refl _) (ToL.cons (PV.To.refl _) (ToL.cons (PV.to_map (fun _ => (ToL.cons (PV.To.refl _) ToL.nil))) (ToL.cons (PV.to_map (fun _ => (ToL.cons (PV.To.refl _) ToL.nil))) (ToL.cons (PV.to_map (fun _ => (ToL.cons (PV.To.refl _) ToL.nil))) ToL.nil))))))) (ToL.cons (PV.To.refl _) ToL.nil))))))))) (by exact lq) ?_
 refine sO [(0, _), (2, _), (3, _), (4, _), (5, _), (6, _), (7, _), (8, _), (9, _), (10, _), (56, _)] [(3, _), (5, _), (6, _), (8, (32, [sl _ _, val _, val _, sl _ _, sl _ _, sl _ _, sl _ _, val _]))] ?_
 exact h_.get) : G := w ⟨h⟩
theorem zl0 (h : H) (w : Hd H → G := by
 intro h_
 refine sw_weakB (d := 6) [sl .v _, val _, val _, sl .v _, sl .v _, sl .v _, sl .v _, val _] (by exact rfl) (by exact (ToL.cons (PV.to_map (fun _ => (ToL.cons (PV.to_map (fun _ => (ToL.cons (PV.To.refl _) (ToL.cons (PV.to_map (fun _ => (ToL.cons (PV.To.refl _) ToL.nil))) (ToL.cons (PV.To.refl _) (ToL.cons (PV.To.refl _) ToL.nil)))))) ToL.nil))) (ToL.cons (PV.To.refl _) (ToL.cons (PV.To.refl _) (ToL.cons (PV.to_map (fun _ => (ToL.cons (PV.To.refl _) ToL.nil))) (ToL.cons (PV.to_map (fun _ => (ToL.cons (PV.To.refl _) (ToL.cons (PV.To.refl _) (ToL.cons (PV.to_map (fun _ => (ToL.cons (PV.To.refl _) (ToL.cons (PV.To.refl _) (ToL.cons (PV.To.refl _) ToL.nil))))) (ToL.cons (PV.to_map (fun _ => (ToL.cons (PV.To.refl _) ToL.nil))) (ToL.cons (PV.To.refl _) (ToL.cons (PV.to_map (fun _ => (ToL.cons (PV.To.refl _) ToL.nil))) (ToL.cons (PV.To.refl _) (ToL.cons (PV.To.refl _) (ToL.cons (PV.To.refl _) (ToL.cons (PV.to_map (fun _ => (ToL.cons (PV.To.refl _) (ToL.cons (PV.to_map (fun _ => (ToL.cons (PV.To.refl _) ToL.nil))) ToL.nil)))) ToL.nil)))))))))))) (ToL.cons (PV.to_map (fun _ => (ToL.cons (PV.To.refl _) (ToL.cons (PV.To.refl _) (ToL.cons (PV.to_map (fun _ => (ToL.cons (PV.To.refl _) (ToL.cons (PV.To.refl _) (ToL.cons (PV.To.refl _) ToL.nil))))) (ToL.cons (PV.to_map (fun _ => (ToL.cons (PV.To.refl _) ToL.nil))) (ToL.cons (PV.To.refl _) (ToL.cons (PV.To.refl _) (ToL.cons (PV.to_map (fun _ => (ToL.cons (PV.To.refl _) (ToL.cons (PV.to_map (fun _ => (ToL.cons (PV.To.refl _) ToL.nil))) ToL.nil)))) ToL.nil))))))))) (ToL.cons (PV.to_map (fun _ => (ToL.cons (PV.To.refl _) (ToL.cons (PV.To.refl _) (ToL.cons (PV.to_map (fun _ => (ToL.cons (PV.To.refl _) ToL.nil))) (ToL.cons (PV.to_map (fun _ => (ToL.cons (PV.To.refl _) ToL.nil))) (ToL.cons (PV.to_map (fun _ => (ToL.cons (PV.To.refl _) ToL.nil))) ToL.nil))))))) (ToL.cons (PV.To.refl _) ToL.nil))))))))) (by exact lq) ?_
 refine sO [(0, _), (2, _), (3, _), (4, _), (5, _), (6, _), (7, _)] [(3, _), (5, _), (6, (32, [sl _ _, val _, val _, sl _ _, sl _ _, sl _ _, sl _ _, val _]))] ?_
 exact h_.get) : G := w ⟨h⟩
theorem zij (h : H) (w : Hd H → G := by
 intro h_
 refine sP [1, 2, 3, 4, 5, 6, 14, 57, 58, 59, 145, 146, 147, 6200] [1, 2, 4, 6] ?_
 refine sL [1, 2, 3, 4, 5, 6, 57, 58, 59, 145, 146] [1, 2, 6] (fun m : Nat => m ≤ e.Active.length) (fun m : Nat => [(14, RV.slc (.own 70 10) ((restTo e (parts e).length m).map (cActive (.own 41 3) (.own 3 1) (.own 3 1) (.own 45 2) (.own 3 1)))), (147, RV.int (m : Int)), (6200, RV.gh (valsE 10 (za.drop m)) (flatM (cActive (.own 41 3) (.own 3 1) (.own 3 1) (.own 45 2) (.own 3 1)) (za.drop m)))]) (fun m : Nat => [(4, (32, [sl (.own 71 1) (e.Store.Segments.map (cVersionS (.own 107 4) (.own 3 1))), val (vI e.Store.Now), val (vI e.Cursor), sl (.own 3 1) (e.Order.map cInt), sl .v (za.map nAct), sl (.own 54 7) ((e.Done ++ doneTo e (parts e).length m).map (cFinished (.own 41 3) (.own 3 1) (.own 45 2) (.own 3 1))), sl (.own 73 5) ((ledTo e (parts e).length).map (cCharge (.own 3 1) (.own 3 1) (.own 3 1))), val (vI e.Steps)]))]) (fun m : Nat => e.Active.length - m) 0 (by omega) (by exact aI (by exact rfl) (aI (by exact rfl) (aI (by exact rfl) (tI)))) (by exact aI (by show _ = some (32, [sl (.own 71 1) (e.Store.Segments.map (cVersionS (.own 107 4) (.own 3 1))), val (vI e.Store.Now), val (vI e.Cursor), sl (.own 3 1) (e.Order.map cInt), sl .v (za.map nAct), sl (.own 54 7) ((e.Done ++ doneTo e (parts e).length 0).map (cFinished (.own 41 3) (.own 3 1) (.own 45 2) (.own 3 1))), sl (.own 73 5) ((ledTo e (parts e).length).map (cCharge (.own 3 1) (.own 3 1) (.own 3 1))), val (vI e.Steps)]); rw [show doneTo e (parts e).length 0 = [] from rfl, List.append_nil]; first | (rw [hled]; simp only [List.map_append]; exact rfl) | (rw [hled]; exact rfl)) (tI)) ?_
 exact h_.get) : G := w ⟨h⟩
theorem za6 (h : H) (w : Hd H → G := by
 intro h_
 refine zbr ?_
 refine sw_block ?_
 exact h_.get) : G := w ⟨h⟩
theorem zaq (h : H) (w : Hd H → G := by
 intro h_
 refine rA ?_ (x := loc_index (by decide) sl_27 (by exact ⟨⟩) (by exact rfl) (by exact getm2 (by omega) rfl) (by exact rfl))
 refine rA ?_ (x := lE [val _] ty_3)
 exact h_.get) : G := w ⟨h⟩
theorem zd7 (h : H) (w : Hd H → G := by
 intro h_
 refine sR ?_
 refine rX ?_ (x := (loc_box (ag := true) (cs := [sl _ _, val _]) (by decide) (by exact ⟨⟩)))
 exact h_.get) : G := w ⟨h⟩
theorem zbi (h : H) (w : Hd H → G := by
 intro h_
 refine rA ?_ (x := lD [val _] ty_3)
 refine rA ?_ (x := cL [(false, [val _]), (false, [val _]), (false, [val _])] [(false, [val _]), (false, [val _]), (false, [val _])] c_20 (hs := by exact impl_within))
 exact h_.get) : G := w ⟨h⟩
theorem zb5 (h : H) (w : Hd H → G := by
 intro h_
 refine rA ?_ (x := loc_bslice (qs := [(true, [val _, sl _ _])]) (by decide) sl_52 z_45 (by decide) rfl rfl rfl rfl rfl (by exact nl rfl) (by exact (aI (by exact ⟨⟩) tI)) rfl)
 refine rA ?_ (x := loc_append (by decide) sl_52 z_45 rfl rfl (by decide) rfl (by simp only [List.length_map, List.length_append, List.length_cons, List.length_nil]; omega) (by simp only [List.length_map, List.length_append, List.length_cons, List.length_nil]; omega))
 exact h_.get) : G := w ⟨h⟩
theorem zem (h : H) (w : Hd H → G := by
 intro h_
 refine sR ?_
 refine rX ?_ (x := (loc_box (ag := true) (cs := [sl _ _, val _, val _, sl _ _, sl _ _, sl _ _, sl _ _, val _]) (by decide) (by exact ⟨⟩)))
 exact h_.get) : G := w ⟨h⟩
theorem za4 (h : H) (w : Hd H → G := by
 intro h_
 refine rA ?_ (x := kM)
 refine sw_block ?_
 exact h_.get) : G := w ⟨h⟩
theorem zjl (h : H) (w : Hd H → G := by
 intro h_
 refine rX ?_ (x := (loc_alloc (by decide) z_26 zo_26))
 refine rA ?_ (x := loc_store (ag := true) (vs := [sl _ _, val _]) ty_26 (by exact ⟨⟩) (by exact rfl) (by exact nl rfl))
 exact h_.get) : G := w ⟨h⟩
theorem zda (h : H) (w : Hd H → G := by
 intro h_
 refine rA ?_ (x := lF fd_26_0)
 refine rA ?_ (x := lD [sl .v _] ty_24)
 exact h_.get) : G := w ⟨h⟩
theorem zho (h : H) (w : Hd H → G := by
 intro h_
 refine sw_boxEq (d := 920) (by exact rfl) (at_join (s.Segments[i].set k (killV (s.Now + 1) s.Segments[i][k])) hi (by exact rfl)) ?_
 refine sw_frzIn (d := 6) (D := 920) (G := 2920) (e := 1) (A := []) (B := [val _]) (es := ((s.Segments).set i (s.Segments[i].set k (killV (s.Now + 1) s.Segments[i][k]))).map (cVersionS (.own 107 4) (.own 3 1))) (by exact rfl) (by exact rfl) (by exact rfl) rfl (by rw [List.length_map, List.length_set, List.length_map]) (by intro c hc; obtain ⟨y, _, rfl⟩ := List.mem_map.1 hc; exact rfl) (by rw [List.length_map]; exact hjk920) ?_
 exact h_.get) : G := w ⟨h⟩
theorem zdg (h : H) (w : Hd H → G := by
 intro h_
 refine rA ?_ (x := loc_index (by decide) sl_24 (by exact ⟨⟩) (by exact rfl) (by exact getm2 (by omega) rfl) (by exact rfl))
 refine rA ?_ (x := lE [sl .v _] ty_71)
 exact h_.get) : G := w ⟨h⟩
theorem zhn (h : H) (w : Hd H → G := by
 intro h_
 refine sw_boxEq (d := 921) (by exact rfl) (at_join (killV (s.Now + 1) s.Segments[i][k]) hk (by exact rfl)) ?_
 refine sw_frzIn (d := 920) (D := 921) (G := 2921) (e := 4) (A := _) (B := [] ++ _) (es := ((s.Segments[i]).set k (killV (s.Now + 1) s.Segments[i][k])).map (cVersion (.own 3 1))) (by exact rfl) (by exact rfl) (by exact rfl) rfl (by rw [List.length_map, List.length_set, List.length_map]) (by intro c hc; obtain ⟨y, _, rfl⟩ := List.mem_map.1 hc; exact rfl) (by rw [List.length_map]; exact hjk921) ?_
 exact h_.get) : G := w ⟨h⟩
theorem zhg (h : H) (w : Hd H → G := by
 intro h_
 refine rA ?_ (x := loc_store (ag := false) (vs := [val _]) ty_3 (by exact ⟨⟩) (by exact rfl) (by exact nl rfl))
 refine sw_seq ?_
 exact h_.get) : G := w ⟨h⟩
theorem zgb (h : H) (w : Hd H → G := by
 intro h_
 refine rA ?_ (x := lD [sl .v _, val _, val _, sl .v _, sl .v _, sl .v _, sl .v _, val _] ty_32)
 refine rA ?_ (x := cL [(true, [sl _ _, val _, val _, sl _ _, sl _ _, sl _ _, sl _ _, val _])] [(true, [sl .v _, val _, val _, sl .v _, sl .v _, sl .v _, sl .v _, val _])] c_17 (hs := by exact (impl_copyEngine (by omega))))
 exact h_.get) : G := w ⟨h⟩
theorem zfp (h : H) (w : Hd H → G := by
 intro h_
 refine rA ?_ (x := lD [sl .v _, val _, val _, sl .v _, sl .v _, sl .v _, sl .v _, val _] ty_32)
 refine rA ?_ (x := cL [(true, [sl _ _, val _, val _, sl _ _, sl _ _, sl _ _, sl _ _, val _])] [(true, [sl .v _, val _, val _, sl .v _, sl .v _, sl .v _, sl .v _, val _])] c_18 (hs := by exact (impl_IsEngine (by omega))))
 exact h_.get) : G := w ⟨h⟩
theorem zer (h : H) (w : Hd H → G := by
 intro h_
 refine rA ?_ (x := loc_index (by decide) sl_28 (by exact ⟨⟩) (by exact rfl) (by exact getm2 (by omega) rfl) (by exact rfl))
 refine rA ?_ (x := lE [val _, val _, sl .v _, sl .v _, val _, sl .v _, val _, val _, val _, sl .v _] ty_70)
 exact h_.get) : G := w ⟨h⟩
theorem zdo (h : H) (w : Hd H → G := by
 intro h_
 refine dA 0 ?_ (x := vM false [sl .v _])
 refine dA 0 ?_ (x := sM)
 exact h_.get) : G := w ⟨h⟩
theorem zge (h : H) (w : Hd H → G := by
 intro h_
 refine rA ?_ (x := loc_ltake (ms := [sl _ _]) (qs := [sl .v _]) (by decide) ty_27 (fun _ => rfl) (by exact nl rfl) (by exact rfl) (by exact (ToL.cons PV.to_none ToL.nil)) (by exact (BorL.cons (bor_sl _) BorL.nil)))
 refine rM ?_
 exact h_.get) : G := w ⟨h⟩
theorem zaa (h : H) (w : Hd H → G := by
 intro h_
 refine rA ?_ (x := B_add)
 refine rM ?_
 exact h_.get) : G := w ⟨h⟩
theorem zco (h : H) (w : Hd H → G := by
 intro h_
 refine rA ?_ (x := B_eql)
 refine rS ?_
 exact h_.get) : G := w ⟨h⟩
theorem zgj (h : H) (w : Hd H → G := by
 intro h_
 refine rA ?_ (x := loc_load (qs := [nv _ (val _), nv _ (val _), nv _ (sl .v _), nv _ (sl .v _), nv _ (val _), nv _ (sl .v _), nv _ (val _), nv _ (val _), nv _ (val _), nv _ (sl .v _)]) (by decide) ty_70 (fun h => nomatch h) (by exact nl rfl) (by exact (ToL.cons (PV.To.refl _) (ToL.cons (PV.To.refl _) (ToL.cons (PV.To.refl _) (ToL.cons (PV.To.refl _) (ToL.cons (PV.To.refl _) (ToL.cons (PV.To.refl _) (ToL.cons (PV.To.refl _) (ToL.cons (PV.To.refl _) (ToL.cons (PV.To.refl _) (ToL.cons (PV.To.refl _) ToL.nil))))))))))) (by exact lq))
 refine rA ?_ (x := loc_bslice (qs := [(true, [nv _ (val _), nv _ (val _), nv _ (sl _ _), nv _ (sl _ _), nv _ (val _), nv _ (sl _ _), nv _ (val _), nv _ (val _), nv _ (val _), nv _ (sl _ _)])]) (by decide) sl_28 z_70 (by decide) rfl rfl rfl rfl rfl (by exact nl rfl) (by exact (aI (by exact ⟨⟩) tI)) rfl)
 exact h_.get) : G := w ⟨h⟩
theorem zdk (h : H) (w : Hd H → G := by
 intro h_
 refine sw_seq ?_
 refine sw_seq ?_
 exact h_.get) : G := w ⟨h⟩
theorem zgs (h : H) (w : Hd H → G := by
 intro h_
 refine sw_reg ?_
 refine rA ?_ (x := lD [sl (.lo _) _, val _, val _, sl (.lo _) _, sl (.lo _) _, sl (.lo _) _, sl (.lo _) _, val _] ty_32)
 exact h_.get) : G := w ⟨h⟩
theorem zd8 (h : H) (w : Hd H → G := by
 intro h_
 refine rA ?_ (x := loc_bslice (qs := []) (by decide) sl_71 z_107 (by decide) rfl rfl rfl rfl rfl (by exact nl rfl) (by exact ⟨⟩) rfl)
 refine rA ?_ (x := tA)
 exact h_.get) : G := w ⟨h⟩
theorem zec (h : H) (w : Hd H → G := by
 intro h_
 refine rB ga ?_ (x := cL [(false, [val _]), (false, [val _]), (false, [val _])] [(false, [val _]), (false, [val _]), (false, [val _])] c_20 (hs := by exact impl_within))
 refine rB ga ?_ (x := nT)
 exact h_.get) : G := w ⟨h⟩
theorem zdt (h : H) (w : Hd H → G := by
 intro h_
 refine rX ?_ (x := (loc_alloc (by decide) z_107 zo_107))
 refine rA ?_ (x := loc_store (ag := true) (vs := [val _, sl _ _, val _, val _]) ty_107 (by exact ⟨⟩) (by exact rfl) (by exact nl rfl))
 exact h_.get) : G := w ⟨h⟩
theorem zhj (h : H) (w : Hd H → G := by
 intro h_
 refine dA 7 ?_ (x := loc_gidx (k := i) (G := 2920) (by decide) sl_24 (by exact ⟨⟩) (by omega) (by first | (rw [List.length_map]; exact hi) | exact hi))
 refine dA 15 ?_ (x := loc_loadM (o := 0) (qs := [val _]) (by omega) (by decide) ty_71 (fun _ => rfl) (by exact nl rfl) (by exact (ToL.cons (PV.To.refl _) ToL.nil)) (by exact (BorL.cons (bor_val _) BorL.nil)))
 exact h_.get) : G := w ⟨h⟩
theorem zam (h : H) (w : Hd H → G := by
 intro h_
 refine zf ga ?_
 refine rA ?_ (x := pkF ga)
 exact h_.get) : G := w ⟨h⟩
theorem zg9 (h : H) (w : Hd H → G := by
 intro h_
 refine rA ?_ (x := loc_extract (cs := [sl _ _, val _]) (qs := [sl .v _, val _]) (by decide) (by exact rfl) (by exact (ToL.cons PV.to_none (ToL.cons (PV.To.refl _) ToL.nil))) (by exact (BorL.cons (bor_sl _) (BorL.cons (bor_val _) BorL.nil))))
 refine rA ?_ (x := loc_extractb (cs := [val _]) (by decide) (by exact rfl) (by exact (BorL.cons (bor_val _) BorL.nil)))
 exact h_.get) : G := w ⟨h⟩
theorem zji (h : H) (w : Hd H → G := by
 intro h_
 refine zku ?_
 refine rA ?_ (x := loc_store (ag := true) (vs := [sl _ _, val _, val _, sl _ _, sl _ _, sl _ _, sl _ _, val _]) ty_32 (by exact ⟨⟩) (by exact rfl) (by exact nl rfl))
 exact h_.get) : G := w ⟨h⟩
theorem zld (h : H) (w : Hd H → G := by
 intro h_
 refine dX 6 ?_ (x := (loc_index (by decide) sl_33 (by exact ⟨⟩) (by exact rfl) (by exact getm2 (by omega) rfl) (by exact rfl)))
 refine dX 14 ?_ (x := (loc_eload (qs := [val _, val _, val _, sl .v _, sl .v _, val _, val _, val _, val _, sl .v _, val _, val _, val _]) (by decide) ty_49 (fun h => nomatch h) (by exact nl rfl) (by exact (ToL.cons (PV.To.refl _) (ToL.cons (PV.To.refl _) (ToL.cons (PV.To.refl _) (ToL.cons PV.to_none (ToL.cons PV.to_none (ToL.cons (PV.To.refl _) (ToL.cons (PV.To.refl _) (ToL.cons (PV.To.refl _) (ToL.cons (PV.To.refl _) (ToL.cons PV.to_none (ToL.cons (PV.To.refl _) (ToL.cons (PV.To.refl _) (ToL.cons (PV.To.refl _) ToL.nil)))))))))))))) (by exact lq)))
 exact h_.get) : G := w ⟨h⟩
theorem zfk (h : H) (w : Hd H → G := by
 intro h_
 refine rX ?_ (x := (loc_alloc (by decide) z_70 zo_70))
 refine rA ?_ (x := loc_store (ag := true) (vs := [val _, val _, sl _ _, sl _ _, val _, sl _ _, val _, val _, val _, sl _ _]) ty_70 (by exact ⟨⟩) (by exact rfl) (by exact nl rfl))
 exact h_.get) : G := w ⟨h⟩
theorem zib (h : H) (w : Hd H → G := by
 intro h_
 refine sw_seq ?_
 refine sO [(1, _), (2, _), (3, _), (4, _), (5, _), (6, _), (8, _), (9, _), (10, _), (11, _), (57, _), (58, _), (59, _), (77, _), (78, _), (79, _), (2900, _), (6100, _)] [(1, (32, [sl (.lo _) _, val _, val _, sl (.lo _) _, sl (.lo _) _, sl (.lo _) _, sl (.lo _) _, val _])), (2, (32, [sl _ _, val _, val _, sl _ _, sl _ _, sl _ _, sl _ _, val _])), (4, (32, [sl _ _, val _, val _, sl _ _, val _, sl _ _, sl _ _, val _])), (6, (73, [val _, val _, sl _ _, sl _ _, sl _ _])), (10, (70, [val _, val _, sl _ _, sl _ _, val _, sl _ _, val _, val _, val _, sl _ _])), (900, (70, _ ++ ([val _, val _, sl _ _, sl _ _, val _, sl _ _, val _, val _, val _, sl _ _] ++ _)))] ?_
 exact h_.get) : G := w ⟨h⟩
theorem zk5 (h : H) (w : Hd H → G := by
 intro h_
 refine rA ?_ (x := loc_bslice (qs := [(false, [val _]), (false, [val _]), (false, [val _])]) (by decide) sl_27 z_3 (by decide) rfl rfl rfl rfl rfl (by exact nl rfl) (by exact (aI (ok_sc rfl) (aI (ok_sc rfl) (aI (ok_sc rfl) tI)))) rfl)
 refine rA ?_ (x := loc_xcall0 (bx := 0) (qs := [(false, [sl _ _])]) (as_ := [(false, [sl .v _])]) (by decide) c_79 rfl (by exact (aI (by exact ⟨⟩) tI)) (by exact (aI (aI rfl (ToL.cons PV.to_none ToL.nil)) tI)) (by exact (BorL.cons (hbo _) (BorL.cons (bor_val _) (BorL.cons (bor_val _) BorL.nil)))) (by exact (borA_cons (BorL.cons (bor_sl _) BorL.nil) borA_nil)) (by exact (x_l1PickInt (l := [3, 6, 100]) hbo (by decide) (by decide))))
 exact h_.get) : G := w ⟨h⟩
theorem zgh (h : H) (w : Hd H → G := by
 intro h_
 refine rA ?_ (x := loc_index (by decide) sl_28 (by exact ⟨⟩) (by exact rfl) (by exact getm2 (by omega) rfl) (by exact rfl))
 refine rA ?_ (x := loc_eload (qs := [nv _ (val _), nv _ (val _), nv _ (sl .v _), nv _ (sl .v _), nv _ (val _), nv _ (sl .v _), nv _ (val _), nv _ (val _), nv _ (val _), nv _ (sl .v _)]) (by decide) ty_70 (fun h => nomatch h) (by exact nl rfl) (by exact (ToL.cons (PV.To.refl _) (ToL.cons (PV.To.refl _) (ToL.cons (PV.To.refl _) (ToL.cons (PV.To.refl _) (ToL.cons (PV.To.refl _) (ToL.cons (PV.To.refl _) (ToL.cons (PV.To.refl _) (ToL.cons (PV.To.refl _) (ToL.cons (PV.To.refl _) (ToL.cons (PV.To.refl _) ToL.nil))))))))))) (by exact lq))
 exact h_.get) : G := w ⟨h⟩
theorem zbz (h : H) (w : Hd H → G := by
 intro h_
 refine rK ?_
 refine sw_seq ?_
 exact h_.get) : G := w ⟨h⟩
theorem za9 (h : H) (w : Hd H → G := by
 intro h_
 refine rK ?_
 refine sw_ret ?_
 exact h_.get) : G := w ⟨h⟩
theorem zcb (h : H) (w : Hd H → G := by
 intro h_
 refine rA ?_ (x := lF fd_47_0)
 refine rA ?_ (x := lD [val _] ty_3)
 exact h_.get) : G := w ⟨h⟩
theorem zie (h : H) (w : Hd H → G := by
 intro h_
 refine rM ?_
 refine rA ?_ (x := B_add)
 exact h_.get) : G := w ⟨h⟩
theorem zex (h : H) (w : Hd H → G := by
 intro h_
 refine rX ?_ (x := (loc_alloc (by decide) z_54 zo_54))
 refine rA ?_ (x := loc_store (ag := true) (vs := [val _, val _, sl _ _, sl _ _, val _, val _, sl _ _]) ty_54 (by exact ⟨⟩) (by exact rfl) (by exact nl rfl))
 exact h_.get) : G := w ⟨h⟩
theorem za3 (h : H) (w : Hd H → G := by
 intro h_
 refine rA ?_ (x := vM false [sl .v _])
 refine rA ?_ (x := lN sl_27)
 exact h_.get) : G := w ⟨h⟩
theorem zdj (h : H) (w : Hd H → G := by
 intro h_
 refine rA ?_ (x := vM false [sl .v _])
 refine rA ?_ (x := lN sl_71)
 exact h_.get) : G := w ⟨h⟩
theorem za5 (h : H) (w : Hd H → G := by
 intro h_
 refine sR ?_
 refine rA ?_ (x := B_lss)
 refine sw_seq ?_
 exact h_.get) : G := w ⟨h⟩
theorem zdw (h : H) (w : Hd H → G := by
 intro h_
 refine rB gb ?_ (x := lD [val _] ty_3)
 refine rB gb ?_ (x := cL [(false, [val _]), (false, [val _]), (false, [val _])] [(false, [val _]), (false, [val _]), (false, [val _])] c_20 (hs := by exact impl_within))
 exact h_.get) : G := w ⟨h⟩
theorem zlp (h : H) (w : Hd H → G := by
 intro h_
 refine rA ?_ (x := loc_gidx (k := u.Field.toNat) (G := 2930) (by decide) sl_27 (by exact ⟨⟩) (by omega) (by first | (rw [List.length_map]; exact hfl) | exact hfl))
 refine rA ?_ (x := loc_storeM (o := 0) (ag := false) (vs := [val _]) (by omega) ty_3 (by exact ⟨⟩) (by exact rfl) (by exact nl rfl))
 exact h_.get) : G := w ⟨h⟩
theorem zba (h : H) (w : Hd H → G := by
 intro h_
 refine rA ?_ (x := pkT gb)
 refine rM ?_
 exact h_.get) : G := w ⟨h⟩
theorem zdx (h : H) (w : Hd H → G := by
 intro h_
 refine rA ?_ (x := pkF gb)
 refine rM ?_
 exact h_.get) : G := w ⟨h⟩
theorem zgg (h : H) (w : Hd H → G := by
 intro h_
 refine sw_seq ?_
 refine sO [(2, _), (3, _), (4, _), (6, _), (7, _), (8, _), (9, _), (11, _), (54, _), (55, _), (67, _), (68, _), (69, _), (6200, _), (6300, _)] [(3, (32, [sl _ _, val _, val _, sl _ _, sl _ _, sl _ _, sl _ _, val _])), (4, (38, [val _, val _, sl _ _, sl _ _])), (6, (32, [sl _ _, val _, val _, sl _ _, sl _ _, sl _ _, sl _ _, val _])), (8, (32, [sl _ _, val _, val _, sl _ _, sl _ _, sl _ _, sl _ _, val _])), (9, (70, [nv _ (val _), nv _ (val _), nv _ (sl _ _), nv _ (sl _ _), nv _ (val _), nv _ (sl _ _), nv _ (val _), nv _ (val _), nv _ (val _), nv _ (sl _ _)]))] ?_
 exact h_.get) : G := w ⟨h⟩
theorem zc3 (h : H) (w : Hd H → G := by
 intro h_
 refine rA ?_ (x := lD [val _, val _, sl .v _, sl .v _] ty_38)
 refine rA ?_ (x := cL [(true, [val _, val _, sl _ _, sl _ _])] [(true, [val _, val _, sl .v _, sl .v _])] c_19 (hs := by exact impl_IsQuery))
 exact h_.get) : G := w ⟨h⟩
theorem zgk (h : H) (w : Hd H → G := by
 intro h_
 refine rA ?_ (x := loc_append (by decide) sl_28 z_70 rfl rfl (by decide) rfl (by simp only [List.length_map, List.length_append, List.length_cons, List.length_nil]; omega) (by simp only [List.length_map, List.length_append, List.length_cons, List.length_nil]; omega))
 refine rA ?_ (x := tA)
 exact h_.get) : G := w ⟨h⟩
theorem zcs (h : H) (w : Hd H → G := by
 intro h_
 refine sR ?_
 refine rX ?_ (x := (loc_box (ag := true) (cs := [val _, sl _ _, val _, val _]) (by decide) (by exact ⟨⟩)))
 exact h_.get) : G := w ⟨h⟩
theorem zm1 (h : H) (w : Hd H → G := by
 intro h_
 refine sw_seq ?_
 refine sO [(1, _), (2, _), (3, _), (4, _), (5, _), (6, _), (14, _), (16, _), (57, _), (58, _), (59, _), (145, _), (146, _), (147, _), (6200, _)] [(1, _), (2, _), (4, _), (6, _), (16, (70, [val _, val _, sl _ _, sl _ _, val _, sl _ _, val _, val _, val _, sl _ _]))] ?_
 exact h_.get) : G := w ⟨h⟩
theorem zag (h : H) (w : Hd H → G := by
 intro h_
 refine rA ?_ (x := lD [sl .v _] ty_27)
 refine rA ?_ (x := lN sl_27)
 exact h_.get) : G := w ⟨h⟩
theorem zlc (h : H) (w : Hd H → G := by
 intro h_
 refine dX 0 ?_ (x := (loc_load (qs := [sl .v _, val _, val _, sl .v _, sl .v _, sl .v _, sl .v _, val _]) (by decide) ty_32 (fun h => nomatch h) (by exact nl rfl) (by exact (ToL.cons PV.to_none (ToL.cons (PV.To.refl _) (ToL.cons (PV.To.refl _) (ToL.cons PV.to_none (ToL.cons PV.to_none (ToL.cons PV.to_none (ToL.cons PV.to_none (ToL.cons (PV.To.refl _) ToL.nil))))))))) (by exact lq)))
 refine dX 0 ?_ (x := (loc_copy (r' := RV.sv false [sl .v _]) (.inl rfl) (by decide) (by exact Cp.sv (ToL.cons PV.to_none ToL.nil) (BorL.cons (bor_sl _) BorL.nil))))
 exact h_.get) : G := w ⟨h⟩
theorem zds (h : H) (w : Hd H → G := by
 intro h_
 refine rA ?_ (x := loc_index (by decide) sl_71 (by exact ⟨⟩) (by exact rfl) (by exact getm2 (by omega) rfl) (by exact rfl))
 refine rA ?_ (x := lE [val _, sl .v _, val _, val _] ty_107)
 exact h_.get) : G := w ⟨h⟩
theorem zgu (h : H) (w : Hd H → G := by
 intro h_
 refine rA ?_ (x := cL [(true, [sl (.lo _) _, val _, val _, sl (.lo _) _, sl (.lo _) _, sl (.lo _) _, sl (.lo _) _, val _])] [(true, [sl .v _, val _, val _, sl .v _, sl .v _, sl .v _, sl .v _, val _])] c_18 (hs := by exact (impl_IsEngine (by omega))))
 refine rA ?_ (x := nT)
 exact h_.get) : G := w ⟨h⟩
theorem zhw (h : H) (w : Hd H → G := by
 intro h_
 refine dA 48 ?_ (x := lD [sl (.lo _) _] ty_27)
 refine dA 120 ?_ (x := loc_appendb (by decide) sl_27 z_3 rfl rfl (by decide) (by first | (intro cs hcs; obtain ⟨x, _, rfl⟩ := List.mem_map.1 hcs; exact rfl) | simp) (by first | (intro cs hcs; obtain ⟨x, _, rfl⟩ := List.mem_map.1 hcs; exact (BorL.cons (bor_val _) BorL.nil)) | simp) (by simp only [List.length_map, List.length_append, List.length_cons, List.length_nil]; omega) (by simp only [List.length_map, List.length_append, List.length_cons, List.length_nil]; omega))
 exact h_.get) : G := w ⟨h⟩
theorem zgq (h : H) (w : Hd H → G := by
 intro h_
 refine zgs ?_
 refine rA ?_ (x := cL [(true, [sl (.lo _) _, val _, val _, sl (.lo _) _, sl (.lo _) _, sl (.lo _) _, sl (.lo _) _, val _])] [(true, [sl .v _, val _, val _, sl .v _, sl .v _, sl .v _, sl .v _, val _])] c_17 (hs := by exact (impl_copyEngine (by omega))))
 exact h_.get) : G := w ⟨h⟩
theorem zi1 (h : H) (w : Hd H → G := by
 intro h_
 refine rA ?_ (x := lE [sl .v _] ty_27)
 refine rA ?_ (x := loc_appendb (by decide) sl_27 z_3 rfl rfl (by decide) (by first | (intro cs hcs; obtain ⟨x, _, rfl⟩ := List.mem_map.1 hcs; exact rfl) | simp) (by first | (intro cs hcs; obtain ⟨x, _, rfl⟩ := List.mem_map.1 hcs; exact (BorL.cons (bor_val _) BorL.nil)) | simp) (by simp only [List.length_map, List.length_append, List.length_cons, List.length_nil]; omega) (by simp only [List.length_map, List.length_append, List.length_cons, List.length_nil]; omega))
 exact h_.get) : G := w ⟨h⟩
theorem zig (h : H) (w : Hd H → G := by
 intro h_
 refine sO [(1, _), (2, _), (3, _), (4, _), (5, _), (6, _), (8, _), (9, _), (10, _), (11, _), (57, _), (58, _), (59, _), (77, _), (78, _), (79, _), (6100, _)] [(1, _), (2, _), (4, _), (6, (73, [val _, val _, sl _ _, sl _ _, sl _ _])), (10, _)] ?_
 refine sw_reg ?_
 exact h_.get) : G := w ⟨h⟩
theorem zhz (h : H) (w : Hd H → G := by
 intro h_
 refine zdk ?_
 refine sO [(2, _), (3, _), (4, _), (5, _), (6, _), (7, _), (8, _), (9, _), (10, _)] [(2, _), (3, _), (4, _), (6, _), (10, (107, [val _, sl _ _, val _, val _]))] ?_
 exact h_.get) : G := w ⟨h⟩
theorem zb9 (h : H) (w : Hd H → G := by
 intro h_
 refine rA ?_ (x := pkT ga)
 refine rM ?_
 exact h_.get) : G := w ⟨h⟩
theorem zme (h : H) (w : Hd H → G := by
 intro h_
 refine rA ?_ (x := loc_extract (cs := [val _, val _, sl _ _, sl _ _, val _, val _, sl _ _]) (qs := [val _, val _, sl .v _, sl .v _, val _, val _, sl .v _]) (by decide) (by exact rfl) (by exact (ToL.cons (PV.To.refl _) (ToL.cons (PV.To.refl _) (ToL.cons PV.to_none (ToL.cons PV.to_none (ToL.cons (PV.To.refl _) (ToL.cons (PV.To.refl _) (ToL.cons PV.to_none ToL.nil)))))))) (by exact lq))
 refine rA ?_ (x := loc_extractb (cs := [val _]) (by decide) (by exact rfl) (by exact (BorL.cons (bor_val _) BorL.nil)))
 exact h_.get) : G := w ⟨h⟩
theorem zky (h : H) (w : Hd H → G := by
 intro h_
 refine rA ?_ (x := lD [val _, val _, sl .v _, sl .v _] ty_38)
 refine rA ?_ (x := cL [(true, [sl _ _, val _, val _, sl _ _, sl _ _, sl _ _, sl _ _, val _]), (true, [val _, val _, sl _ _, sl _ _]), (false, [val _])] [(true, [sl .v _, val _, val _, sl .v _, sl .v _, sl .v _, sl .v _, val _]), (true, [val _, val _, sl .v _, sl .v _]), (false, [val _])] c_7 (hs := by exact (impl_AdmitQuery (e := (hisE (curNew code hb))) (q := (isoQ code)) (l := 0) (by omega) (by omega))))
 exact h_.get) : G := w ⟨h⟩
theorem zj7 (h : H) (w : Hd H → G := by
 intro h_
 refine rA ?_ (x := loc_build (qs := []) (cs := [val _, val _, sl _ _, val _, val _]) (by decide) z_47 zo_47 pl_47 (by exact rfl) (by exact ⟨⟩) rfl (by exact rfl))
 refine rA ?_ (x := cL [(true, [val _, val _, sl _ _, val _, val _]), (true, [val _, val _, sl _ _, val _, val _])] [(true, [val _, val _, sl .v _, val _, val _]), (true, [val _, val _, sl .v _, val _, val _])] c_61 (hs := by exact (impl_equalUpdate (x := x.Update) (y := ⟨0, ⟨0, []⟩, 0, 0⟩))))
 exact h_.get) : G := w ⟨h⟩
theorem zlx (h : H) (w : Hd H → G := by
 intro h_
 refine sw_boxEq (d := 930) (by exact rfl) (at_join u.Value hfl (by exact rfl)) ?_
 refine sw_frzIn (d := 10) (D := 930) (G := 2930) (e := 1) (A := [val _]) (B := [val _, val _]) (es := (((upVals s u)).set u.Field.toNat u.Value).map cInt) (by exact rfl) (by exact rfl) (by exact rfl) rfl (by rw [List.length_map, List.length_set, List.length_map]) (by intro c hc; obtain ⟨y, _, rfl⟩ := List.mem_map.1 hc; exact rfl) (by rw [List.length_map]; exact hjk930) ?_
 exact h_.get) : G := w ⟨h⟩
theorem zin (h : H) (w : Hd H → G := by
 intro h_
 refine sw_seq ?_
 refine sO [(1, _), (2, _), (3, _), (4, _), (5, _), (6, _), (14, _), (57, _), (58, _), (59, _), (145, _), (146, _), (147, _), (6200, _)] [(1, (32, [sl (.lo _) _, val _, val _, sl (.lo _) _, sl (.lo _) _, sl (.lo _) _, sl (.lo _) _, val _])), (2, (32, [sl _ _, val _, val _, sl _ _, sl _ _, sl _ _, sl _ _, val _])), (4, (32, [sl _ _, val _, val _, sl _ _, sl _ _, sl _ _, sl _ _, val _])), (6, (73, [val _, val _, sl _ _, sl _ _, sl _ _]))] ?_
 exact h_.get) : G := w ⟨h⟩
theorem zbh (h : H) (w : Hd H → G := by
 intro h_
 refine sR ?_
 refine rX ?_ (x := (loc_box (ag := true) (cs := [val _, val _, sl _ _, sl _ _]) (by decide) (by exact ⟨⟩)))
 exact h_.get) : G := w ⟨h⟩
theorem zik (h : H) (w : Hd H → G := by
 intro h_
 refine sw_seq ?_
 refine sO [(1, _), (2, _), (3, _), (4, _), (5, _), (6, _), (14, _), (57, _), (58, _), (59, _), (145, _), (146, _), (147, _), (6200, _)] [(1, (32, [sl (.lo _) _, val _, val _, sl (.lo _) _, sl (.lo _) _, sl (.lo _) _, sl (.lo _) _, val _])), (2, (32, [sl _ _, val _, val _, sl _ _, sl _ _, sl _ _, sl _ _, val _])), (4, (32, [sl _ _, val _, val _, sl _ _, sl _ _, sl _ _, sl _ _, val _])), (6, (73, [val _, val _, any, any, any]))] ?_
 exact h_.get) : G := w ⟨h⟩
theorem zf5 (h : H) (w : Hd H → G := by
 intro h_
 refine rA ?_ (x := loc_ltake (ms := [val _, val _, sl _ _, sl _ _]) (qs := [val _, val _, sl .v _, sl .v _]) (by decide) ty_38 (fun h => nomatch h) (by exact nl rfl) (by exact rfl) (by exact (ToL.cons (PV.To.refl _) (ToL.cons (PV.To.refl _) (ToL.cons PV.to_none (ToL.cons PV.to_none ToL.nil))))) (by exact lq))
 refine rA ?_ (x := loc_store (ag := true) (vs := [val _, val _, sl _ _, sl _ _]) ty_38 (by exact ⟨⟩) (by exact rfl) (by exact nl rfl))
 exact h_.get) : G := w ⟨h⟩
theorem zc8 (h : H) (w : Hd H → G := by
 intro h_
 refine rB ga ?_ (x := lF fd_45_1)
 refine rB ga ?_ (x := lD [sl .v _] ty_27)
 exact h_.get) : G := w ⟨h⟩
theorem zau (h : H) (w : Hd H → G := by
 intro h_
 refine rA ?_ (x := vM false [sl .v _])
 refine rA ?_ (x := lN sl_52)
 exact h_.get) : G := w ⟨h⟩
theorem zfd (h : H) (w : Hd H → G := by
 intro h_
 refine rA ?_ (x := loc_bslice (qs := [(false, [sl _ _])]) (by decide) sl_24 z_71 (by decide) rfl rfl rfl rfl rfl (by exact nl rfl) (by exact (aI (by exact ⟨⟩) tI)) rfl)
 refine rA ?_ (x := loc_append (by decide) sl_24 z_71 rfl rfl (by decide) rfl (by simp only [List.length_map, List.length_append, List.length_cons, List.length_nil]; omega) (by simp only [List.length_map, List.length_append, List.length_cons, List.length_nil]; omega))
 exact h_.get) : G := w ⟨h⟩
theorem zhb (h : H) (w : Hd H → G := by
 intro h_
 refine rA ?_ (x := lF fd_45_0)
 refine rA ?_ (x := lD [val _] ty_3)
 exact h_.get) : G := w ⟨h⟩
theorem zkd (h : H) (w : Hd H → G := by
 intro h_
 refine rA ?_ (x := cM Cp.ptr)
 refine rA ?_ (x := loc_xcall0 (bx := 0) (qs := [(false, [val _])]) (as_ := [(false, [val _])]) (by decide) c_77 rfl (by exact (aI (ok_sc rfl) tI)) (by exact (aI (aI rfl (ToL.cons (PV.To.refl _) ToL.nil)) tI)) (by exact (BorL.cons (hbo _) (BorL.cons (bor_val _) (BorL.cons (bor_val _) BorL.nil)))) (by exact (borA_cons (BorL.cons (bor_val _) BorL.nil) borA_nil)) (by exact (x_l1Once hbo (by omega))))
 exact h_.get) : G := w ⟨h⟩
theorem zdz (h : H) (w : Hd H → G := by
 intro h_
 refine sP [1, 3, 5, 7, 23, 24, 25, 32, 33, 34, 66, 67, 68] [1, 7] ?_
 refine sL [1, 3, 5, 7, 23, 24, 25, 32, 33, 34, 66, 67] [1, 7] (fun m : Nat => m ≤ (preN s k).length + j ∧ freeOf (allV s) ((preN s k).length + j) m = true) (fun m : Nat => [(68, RV.int (m : Int))]) (fun m : Nat => []) (fun m : Nat => (preN s k).length + j - m) 0 (by exact ⟨by omega, rfl⟩) (by exact aI (by exact rfl) (tI)) (by exact ⟨⟩) ?_
 exact h_.get) : G := w ⟨h⟩
theorem zao (h : H) (w : Hd H → G := by
 intro h_
 refine rK ?_
 refine sw_block ?_
 exact h_.get) : G := w ⟨h⟩
theorem zia (h : H) (w : Hd H → G := by
 intro h_
 refine sO [(1, _), (2, _), (3, _), (4, _), (5, _), (6, _), (57, _), (58, _), (59, _)] [(1, (32, [sl (.lo _) _, val _, val _, sl (.lo _) _, sl (.lo _) _, sl (.lo _) _, sl (.lo _) _, val _])), (2, (32, [sl _ _, val _, val _, sl _ _, sl _ _, sl _ _, sl _ _, val _])), (4, (32, [sl _ _, val _, val _, sl _ _, sl _ _, sl _ _, sl _ _, val _])), (6, (73, [val _, val _, sl _ _, sl _ _, sl _ _]))] ?_
 refine sw_reg ?_
 exact h_.get) : G := w ⟨h⟩
theorem zap (h : H) (w : Hd H → G := by
 intro h_
 refine sw_seq ?_
 refine sR ?_
 refine rM ?_
 exact h_.get) : G := w ⟨h⟩
theorem zck (h : H) (w : Hd H → G := by
 intro h_
 refine rB gc ?_ (x := lD [val _] ty_3)
 refine rB gc ?_ (x := cL [(false, [val _]), (false, [val _]), (false, [val _])] [(false, [val _]), (false, [val _]), (false, [val _])] c_20 (hs := by exact impl_within))
 exact h_.get) : G := w ⟨h⟩
theorem zdy (h : H) (w : Hd H → G := by
 intro h_
 refine rB gd ?_ (x := lD [val _] ty_3)
 refine rB gd ?_ (x := cL [(false, [val _]), (false, [val _]), (false, [val _])] [(false, [val _]), (false, [val _]), (false, [val _])] c_20 (hs := by exact impl_within))
 exact h_.get) : G := w ⟨h⟩
theorem zae (h : H) (w : Hd H → G := by
 intro h_
 refine sR ?_
 refine rX ?_ (x := (loc_box (ag := true) (cs := [val _, sl _ _]) (by decide) (by exact ⟨⟩)))
 exact h_.get) : G := w ⟨h⟩
theorem zm5 (h : H) (w : Hd H → G := by
 intro h_
 refine rA ?_ (x := loc_build (qs := [(false, [val _]), (true, [val _, sl _ _])]) (cs := [val _, val _, sl _ _, val _, val _]) (by decide) z_47 zo_47 FDst_pl_47 (by exact rfl) (by exact (aI (ok_sc rfl) (aI (by exact ⟨⟩) tI))) rfl (by exact rfl))
 refine rA ?_ (x := loc_store (ag := true) (vs := [val _, val _, sl _ _, val _, val _]) ty_47 (by exact ⟨⟩) (by exact rfl) (by exact nl rfl))
 exact h_.get) : G := w ⟨h⟩
theorem zcy (h : H) (w : Hd H → G := by
 intro h_
 refine rA ?_ (x := lF fd_107_0)
 refine rA ?_ (x := lD [val _] ty_3)
 exact h_.get) : G := w ⟨h⟩
theorem zf0 (h : H) (w : Hd H → G := by
 intro h_
 refine rX ?_ (x := (loc_alloc (by decide) z_73 zo_73))
 refine rA ?_ (x := loc_store (ag := true) (vs := [val _, val _, sl _ _, sl _ _, sl _ _]) ty_73 (by exact ⟨⟩) (by exact rfl) (by exact nl rfl))
 exact h_.get) : G := w ⟨h⟩
theorem zhl (h : H) (w : Hd H → G := by
 intro h_
 refine dA 64 ?_ (x := lD [val _] ty_3)
 refine dA 255 ?_ (x := loc_gidx (k := k) (G := 2921) (by decide) sl_71 (by exact ⟨⟩) (by omega) (by first | (rw [List.length_map]; exact hk) | exact hk))
 exact h_.get) : G := w ⟨h⟩
theorem zjp (h : H) (w : Hd H → G := by
 intro h_
 refine sS [2, 3, 4, 5, 17] [2, 3, 4] ?_
 refine rA ?_ (x := lD [sl .v _, val _, val _, sl .v _, sl .v _, sl .v _, sl .v _, val _] ty_32)
 exact h_.get) : G := w ⟨h⟩
theorem zhr (h : H) (w : Hd H → G := by
 intro h_
 refine rA ?_ (x := loc_index (k := k) (by decide) sl_71 (by exact ⟨⟩) (by omega) (by exact getm2 hk rfl) (by exact rfl))
 refine rA ?_ (x := loc_efield (by decide) fd_107_1 (by exact nl rfl))
 exact h_.get) : G := w ⟨h⟩
theorem zdd (h : H) (w : Hd H → G := by
 intro h_
 refine zda ?_
 refine rA ?_ (x := lN sl_24)
 exact h_.get) : G := w ⟨h⟩
theorem zkb (h : H) (w : Hd H → G := by
 intro h_
 refine rX ?_ (x := (loc_alloc (by decide) z_38 zo_38))
 refine rA ?_ (x := loc_store (ag := true) (vs := [val _, val _, sl _ _, sl _ _]) ty_38 (by exact ⟨⟩) (by exact rfl) (by exact nl rfl))
 exact h_.get) : G := w ⟨h⟩
theorem zcj (h : H) (w : Hd H → G := by
 intro h_
 refine rB gb ?_ (x := lF fd_47_2)
 refine rB gb ?_ (x := lD [val _] ty_3)
 exact h_.get) : G := w ⟨h⟩
theorem zah (h : H) (w : Hd H → G := by
 intro h_
 refine rA ?_ (x := cL [(false, [val _]), (false, [val _]), (false, [val _])] [(false, [val _]), (false, [val _]), (false, [val _])] c_20 (hs := by exact impl_within))
 refine rA ?_ (x := nT)
 exact h_.get) : G := w ⟨h⟩
theorem zfu (h : H) (w : Hd H → G := by
 intro h_
 refine rS ?_
 refine sw_ret ?_
 exact h_.get) : G := w ⟨h⟩
theorem zgo (h : H) (w : Hd H → G := by
 intro h_
 refine sR ?_
 refine rX ?_ (x := (loc_box (ag := true) (cs := [sl (.lo _) _, val _, val _, sl (.lo _) _, sl (.lo _) _, sl (.lo _) _, sl (.lo _) _, val _]) (by decide) (by exact ⟨⟩)))
 exact h_.get) : G := w ⟨h⟩
theorem zfx (h : H) (w : Hd H → G := by
 intro h_
 refine rA ?_ (x := lD [sl (.lo _) _, val _] ty_26)
 refine rA ?_ (x := cL [(true, [sl (.lo _) _, val _])] [(true, [sl .v _, val _])] c_42 (hs := by exact (impl_copyStore (by omega))))
 exact h_.get) : G := w ⟨h⟩
theorem zj6 (h : H) (w : Hd H → G := by
 intro h_
 refine rA ?_ (x := lF fd_49_4)
 refine rA ?_ (x := lD [val _, val _, sl .v _, val _, val _] ty_47)
 exact h_.get) : G := w ⟨h⟩
theorem zas (h : H) (w : Hd H → G := by
 intro h_
 refine zhb ?_
 refine rA ?_ (x := cL [(false, [val _]), (false, [val _]), (false, [val _])] [(false, [val _]), (false, [val _]), (false, [val _])] c_66 (hs := by exact spec_l1In))
 exact h_.get) : G := w ⟨h⟩
theorem zaw (h : H) (w : Hd H → G := by
 intro h_
 refine rX ?_ (x := (loc_alloc (by decide) z_45 zo_45))
 refine rA ?_ (x := loc_store (ag := true) (vs := [val _, sl _ _]) ty_45 (by exact ⟨⟩) (by exact rfl) (by exact nl rfl))
 exact h_.get) : G := w ⟨h⟩
theorem zhm (h : H) (w : Hd H → G := by
 intro h_
 refine dA 511 ?_ (x := lF fd_107_3)
 refine dA 1023 ?_ (x := loc_storeM (o := 3) (ag := false) (vs := [val _]) (by omega) ty_3 (by exact ⟨⟩) (by exact rfl) (by exact nl rfl))
 exact h_.get) : G := w ⟨h⟩
theorem zca (h : H) (w : Hd H → G := by
 intro h_
 refine rS ?_
 refine sw_seq ?_
 exact h_.get) : G := w ⟨h⟩
theorem zlm (h : H) (w : Hd H → G := by
 intro h_
 refine sw_seq ?_
 refine sO [(2, _), (3, _), (4, _), (6, _), (7, _), (8, _), (9, _), (87, _), (88, _), (89, _), (2910, _)] [(2, (26, [sl (.lo _) _, val _])), (3, (47, [val _, val _, sl (.lo _) _, val _, val _])), (4, (26, [sl _ _, val _])), (6, (26, [val _, val _])), (910, (71, arr (cVersionS (.own 107 4) (.own 3 1)) _ _))] ?_
 exact h_.get) : G := w ⟨h⟩
theorem zif (h : H) (w : Hd H → G := by
 intro h_
 refine sO [(1, _), (2, _), (3, _), (4, _), (5, _), (6, _), (8, _), (9, _), (10, _), (11, _), (57, _), (58, _), (59, _), (77, _), (78, _), (79, _), (2900, _), (6100, _)] [(1, _), (2, _), (4, _), (6, _), (10, (70, [val _, val _, sl _ _, sl _ _, val _, sl _ _, val _, val _, val _, sl _ _])), (900, _)] ?_
 refine sw_reg ?_
 exact h_.get) : G := w ⟨h⟩
theorem zl1 (h : H) (w : Hd H → G := by
 intro h_
 refine sw_reg ?_
 refine rA ?_ (x := lD [sl .v _, val _, val _, sl .v _, sl .v _, sl .v _, sl .v _, val _] ty_32)
 exact h_.get) : G := w ⟨h⟩
theorem zdb (h : H) (w : Hd H → G := by
 intro h_
 refine zie ?_
 refine rS ?_
 exact h_.get) : G := w ⟨h⟩
theorem zgi (h : H) (w : Hd H → G := by
 intro h_
 refine rX ?_ (x := (loc_alloc (by decide) z_70 zo_70))
 refine rA ?_ (x := loc_store (ag := true) (vs := [nv _ (val _), nv _ (val _), nv _ (sl _ _), nv _ (sl _ _), nv _ (val _), nv _ (sl _ _), nv _ (val _), nv _ (val _), nv _ (val _), nv _ (sl _ _)]) ty_70 (by exact ⟨⟩) (by exact rfl) (by exact nl rfl))
 exact h_.get) : G := w ⟨h⟩
theorem zb4 (h : H) (w : Hd H → G := by
 intro h_
 refine rA ?_ (x := loc_bslice (qs := []) (by decide) sl_52 z_45 (by decide) rfl rfl rfl rfl rfl (by exact nl rfl) (by exact ⟨⟩) rfl)
 refine rA ?_ (x := tA)
 exact h_.get) : G := w ⟨h⟩
theorem zgf (h : H) (w : Hd H → G := by
 intro h_
 refine rA ?_ (x := loc_bslice (qs := []) (by decide) sl_28 z_70 (by decide) rfl rfl rfl rfl rfl (by exact nl rfl) (by exact ⟨⟩) rfl)
 refine rA ?_ (x := tA)
 exact h_.get) : G := w ⟨h⟩
theorem zfo (h : H) (w : Hd H → G := by
 intro h_
 refine rA ?_ (x := loc_bslice (qs := []) (by decide) sl_27 z_3 (by decide) rfl rfl rfl rfl rfl (by exact nl rfl) (by exact ⟨⟩) rfl)
 refine rA ?_ (x := tA)
 exact h_.get) : G := w ⟨h⟩
theorem zhf (h : H) (w : Hd H → G := by
 intro h_
 refine rA ?_ (x := lD [val _] ty_3)
 refine rA ?_ (x := B_add)
 exact h_.get) : G := w ⟨h⟩
theorem ziw (h : H) (w : Hd H → G := by
 intro h_
 refine sP [0, 1, 4, 12, 13] [] ?_
 refine sL [0, 1, 12] [] (fun k : Nat => k ≤ x.length ∧ x.take k = y.take k) (fun k : Nat => [(13, RV.int (k : Int))]) (fun k : Nat => []) (fun k : Nat => x.length - k) 0 (by exact ⟨by omega, by simp⟩) (by exact aI (by exact rfl) (tI)) (by exact ⟨⟩) ?_
 exact h_.get) : G := w ⟨h⟩
theorem zax (h : H) (w : Hd H → G := by
 intro h_
 refine rA ?_ (x := lD [val _, sl .v _] ty_45)
 refine rA ?_ (x := cL [(true, [val _, sl _ _])] [(true, [val _, sl .v _])] c_57 (hs := by exact impl_IsRow))
 exact h_.get) : G := w ⟨h⟩
theorem zg4 (h : H) (w : Hd H → G := by
 intro h_
 refine rA ?_ (x := loc_append (by decide) sl_71 z_107 rfl rfl (by decide) rfl (by simp only [List.length_map, List.length_append, List.length_cons, List.length_nil]; omega) (by simp only [List.length_map, List.length_append, List.length_cons, List.length_nil]; omega))
 refine rA ?_ (x := tA)
 exact h_.get) : G := w ⟨h⟩
theorem zgt (h : H) (w : Hd H → G := by
 intro h_
 refine rA ?_ (x := cL [(true, [sl (.lo _) _, val _, val _, sl (.lo _) _, sl (.lo _) _, sl (.lo _) _, sl (.lo _) _, val _]), (false, [val _])] [(true, [sl .v _, val _, val _, sl .v _, sl .v _, sl .v _, sl .v _, val _]), (false, [val _])] c_21 (hs := by exact impl_FindActive))
 refine zca ?_
 exact h_.get) : G := w ⟨h⟩
theorem zg3 (h : H) (w : Hd H → G := by
 intro h_
 refine sO [(1, _), (2, _), (4, _), (5, _), (6, _), (7, _), (8, _), (9, _), (19, _), (20, _), (21, _), (27, _), (28, _), (29, _), (2900, _), (6000, _)] [(2, (26, [sl (.lo _) _, val _])), (4, (26, [sl _ _, val _])), (6, (26, [val _, val _])), (900, (71, arr nVerS _ _))] ?_
 refine sw_reg ?_
 exact h_.get) : G := w ⟨h⟩
theorem ze2 (h : H) (w : Hd H → G := by
 intro h_
 refine rB ge ?_ (x := lD [val _, sl .v _, val _, val _] ty_107)
 refine rB ge ?_ (x := cL [(true, [val _, sl _ _, val _, val _]), (true, [val _, sl _ _, val _, val _])] [(true, [val _, sl .v _, val _, val _]), (true, [val _, sl .v _, val _, val _])] c_80 (hs := by exact impl_meetInTime))
 exact h_.get) : G := w ⟨h⟩
theorem ziq (h : H) (w : Hd H → G := by
 intro h_
 refine sP [0, 1, 4, 5] [] ?_
 refine sL [0, 1] [] (fun k : Nat => k ≤ x.length ∧ x.take k = y.take k) (fun k : Nat => [(5, RV.int (k : Int))]) (fun k : Nat => []) (fun k : Nat => x.length - k) 0 (by exact ⟨by omega, by simp⟩) (by exact aI (by exact rfl) (tI)) (by exact ⟨⟩) ?_
 exact h_.get) : G := w ⟨h⟩
theorem zc6 (h : H) (w : Hd H → G := by
 intro h_
 refine rB ga ?_ (x := nT)
 refine rA ?_ (x := pkF ga)
 exact h_.get) : G := w ⟨h⟩
theorem zcq (h : H) (w : Hd H → G := by
 intro h_
 refine rB ga ?_ (x := lD [val _] ty_3)
 refine rB ga ?_ (x := B_eql)
 exact h_.get) : G := w ⟨h⟩
theorem zf2 (h : H) (w : Hd H → G := by
 intro h_
 refine rA ?_ (x := lF fd_38_2)
 refine rA ?_ (x := loc_store (ag := false) (vs := [sl _ _]) ty_36 (by exact ⟨⟩) (by exact rfl) (by exact nl rfl))
 exact h_.get) : G := w ⟨h⟩
theorem zi2 (h : H) (w : Hd H → G := by
 intro h_
 refine rA ?_ (x := loc_store (ag := false) (vs := [sl _ _]) ty_27 (by exact ⟨⟩) (by exact rfl) (by exact nl rfl))
 refine sO [(2, _), (3, _), (4, _), (5, _), (6, _), (7, _), (8, _), (9, _), (10, _)] [(2, _), (3, _), (4, _), (6, _), (10, (107, [val _, sl _ _, val _, val _]))] ?_
 exact h_.get) : G := w ⟨h⟩
theorem zk2 (h : H) (w : Hd H → G := by
 intro h_
 refine sO [(0, _), (1, _), (4, _), (5000, _)] [(0, (85, [sl o _, val _, val _]))] ?_
 refine sw_reg ?_
 exact h_.get) : G := w ⟨h⟩
theorem zl6 (h : H) (w : Hd H → G := by
 intro h_
 refine rM ?_
 refine rA ?_ (x := loc_index (by decide) sl_33 (by exact ⟨⟩) (by exact rfl) (by exact getm2 (by omega) rfl) (by exact rfl))
 exact h_.get) : G := w ⟨h⟩
theorem zlu (h : H) (w : Hd H → G := by
 intro h_
 refine sw_boxEq (d := 10) (by exact rfl) (show _ = [val (vI u.Row.Id), sl (.own 3 1) ((upVals2 s u).map cInt), val (vI (s.Now + 1)), val (vI (-1))] from by first | (rw [hv2]; done) | (rw [hv2]; exact rfl)) ?_
 refine sG [2, 3, 4, 5, 6, 7, 8, 9, 10] [2, 3, 4, 6, 10] ?_
 exact h_.get) : G := w ⟨h⟩
theorem zc0 (h : H) (w : Hd H → G := by
 intro h_
 refine rA ?_ (x := B_eql)
 refine rM ?_
 exact h_.get) : G := w ⟨h⟩
theorem zi3 (h : H) (w : Hd H → G := by
 intro h_
 refine sO [(2, _), (3, _), (4, _), (5, _), (6, _), (7, _), (8, _), (9, _), (10, _), (2920, _), (2921, _)] [(2, _), (3, _), (4, _), (6, _), (10, _), (920, (71, _ ++ ([val _] ++ _))), (921, (107, _ ++ ([val _, sl _ _, val _, val _] ++ _)))] ?_
 refine sw_draw hm_ ?_
 exact h_.get) : G := w ⟨h⟩
theorem zhq (h : H) (w : Hd H → G := by
 intro h_
 refine rM ?_
 refine rA ?_ (x := loc_index (k := i) (by decide) sl_24 (by exact ⟨⟩) (by omega) (by exact getm2 hi rfl) (by exact rfl))
 exact h_.get) : G := w ⟨h⟩
theorem zj9 (h : H) (w : Hd H → G := by
 intro h_
 refine sS [1, 2, 3, 4, 19] [1] ?_
 refine zco ?_
 exact h_.get) : G := w ⟨h⟩
theorem zbj (h : H) (w : Hd H → G := by
 intro h_
 refine rA ?_ (x := nT)
 refine rM ?_
 exact h_.get) : G := w ⟨h⟩
theorem zf4 (h : H) (w : Hd H → G := by
 intro h_
 refine rA ?_ (x := loc_store (ag := false) (vs := [sl _ _]) ty_27 (by exact ⟨⟩) (by exact rfl) (by exact nl rfl))
 refine sw_seq ?_
 exact h_.get) : G := w ⟨h⟩
theorem zeo (h : H) (w : Hd H → G := by
 intro h_
 refine rA ?_ (x := lF fd_32_3)
 refine rA ?_ (x := lD [sl .v _] ty_28)
 refine rA ?_ (x := lN sl_28)
 exact h_.get) : G := w ⟨h⟩
theorem zc7 (h : H) (w : Hd H → G := by
 intro h_
 refine sR ?_
 refine rX ?_ (x := (loc_box (ag := true) (cs := [val _, val _, sl _ _, val _, val _]) (by decide) (by exact ⟨⟩)))
 exact h_.get) : G := w ⟨h⟩
theorem zbc (h : H) (w : Hd H → G := by
 intro h_
 refine zf gc ?_
 refine rA ?_ (x := pkF gc)
 exact h_.get) : G := w ⟨h⟩
theorem zfc (h : H) (w : Hd H → G := by
 intro h_
 refine rA ?_ (x := lF fd_26_0)
 refine rA ?_ (x := loc_ltake (ms := [sl _ _]) (qs := [sl .v _]) (by decide) ty_24 (fun _ => rfl) (by exact nl rfl) (by exact rfl) (by exact (ToL.cons PV.to_none ToL.nil)) (by exact (BorL.cons (bor_sl _) BorL.nil)))
 exact h_.get) : G := w ⟨h⟩
theorem zic (h : H) (w : Hd H → G := by
 intro h_
 refine rA ?_ (x := lF fd_70_6)
 refine rA ?_ (x := loc_ltake (ms := [sl _ _]) (qs := [sl .v _]) (by decide) ty_52 (fun _ => rfl) (by exact nl rfl) (by exact rfl) (by exact (ToL.cons PV.to_none ToL.nil)) (by exact (BorL.cons (bor_sl _) BorL.nil)))
 exact h_.get) : G := w ⟨h⟩
theorem zm3 (h : H) (w : Hd H → G := by
 intro h_
 refine sO [(1, _), (2, _), (3, _), (4, _), (5, _), (6, _), (57, _), (58, _), (59, _), (145, _), (146, _), (147, _), (6200, _)] [(1, _), (2, _), (4, (32, [sl _ _, val _, val _, sl _ _, sl _ _, sl _ _, sl _ _, val _])), (6, _)] ?_
 refine sw_reg ?_
 exact h_.get) : G := w ⟨h⟩
theorem zhc (h : H) (w : Hd H → G := by
 intro h_
 refine rA ?_ (x := loc_extractb (cs := [val _]) (by decide) (by exact rfl) (by exact (BorL.cons (bor_val _) BorL.nil)))
 refine rA ?_ (x := loc_extractb (cs := [val _]) (by decide) (by exact rfl) (by exact (BorL.cons (bor_val _) BorL.nil)))
 exact h_.get) : G := w ⟨h⟩
theorem zev (h : H) (w : Hd H → G := by
 intro h_
 refine rA ?_ (x := lF fd_32_4)
 refine rA ?_ (x := lD [sl .v _] ty_29)
 exact h_.get) : G := w ⟨h⟩
theorem zg1 (h : H) (w : Hd H → G := by
 intro h_
 refine sw_seq ?_
 refine sO [(1, _), (2, _), (4, _), (5, _), (6, _), (19, _), (20, _), (21, _), (2900, _), (6000, _)] [(2, (26, [sl (.lo _) _, val _])), (4, (26, [sl _ _, val _])), (6, (26, [val _, val _])), (900, (71, arr nVerS _ _))] ?_
 exact h_.get) : G := w ⟨h⟩
theorem zgp (h : H) (w : Hd H → G := by
 intro h_
 refine rX ?_ (x := (loc_alloc (by decide) z_32 zo_32))
 refine zbz ?_
 exact h_.get) : G := w ⟨h⟩
theorem zjy (h : H) (w : Hd H → G := by
 intro h_
 refine rA ?_ (x := vM false [sl .v _])
 refine rA ?_ (x := lN sl_22)
 exact h_.get) : G := w ⟨h⟩
theorem zh4 (h : H) (w : Hd H → G := by
 intro h_
 refine rX ?_ (x := (loc_box (ag := true) (cs := [sl (.lo _) _, val _]) (by decide) (by exact ⟨⟩)))
 refine rX ?_ (x := (loc_box (ag := true) (cs := [val _, val _, sl (.lo _) _, val _, val _]) (by decide) (by exact ⟨⟩)))
 exact h_.get) : G := w ⟨h⟩
theorem zfq (h : H) (w : Hd H → G := by
 intro h_
 refine rA ?_ (x := lF fd_38_0)
 refine rA ?_ (x := lD [val _] ty_3)
 exact h_.get) : G := w ⟨h⟩
theorem zii (h : H) (w : Hd H → G := by
 intro h_
 refine sO [(1, _), (2, _), (3, _), (4, _), (5, _), (6, _), (14, _), (57, _), (58, _), (59, _), (6200, _)] [(1, _), (2, _), (4, (32, [sl _ _, val _, val _, sl _ _, sl _ _, sl _ _, sl _ _, val _])), (6, _)] ?_
 refine sw_reg ?_
 exact h_.get) : G := w ⟨h⟩
theorem zlw (h : H) (w : Hd H → G := by
 intro h_
 refine sO [(2, _), (3, _), (4, _), (5, _), (6, _), (7, _), (8, _), (9, _), (10, _), (2930, _)] [(2, _), (3, _), (4, _), (6, _), (10, (107, [val _, val _, val _, val _])), (930, (3, _ ++ ([val _] ++ _)))] ?_
 refine sw_reg ?_
 exact h_.get) : G := w ⟨h⟩
theorem zf9 (h : H) (w : Hd H → G := by
 intro h_
 refine rA ?_ (x := lD [val _] ty_3)
 refine rA ?_ (x := loc_build (qs := [(false, [val _])]) (cs := [sl _ _, val _]) (by decide) z_26 zo_26 FCpy_pl_26 (by exact rfl) (by exact (aI (by exact ⟨⟩) tI)) rfl (by exact rfl))
 exact h_.get) : G := w ⟨h⟩
theorem zf8 (h : H) (w : Hd H → G := by
 intro h_
 refine dA 1 ?_ (x := lD [val _, val _, sl .v _, sl .v _] ty_38)
 refine dA 3 ?_ (x := cL [(true, [val _, val _, sl _ _, sl _ _])] [(true, [val _, val _, sl .v _, sl .v _])] c_22 (hs := by exact impl_copyQuery (by omega)))
 exact h_.get) : G := w ⟨h⟩
theorem zkg (h : H) (w : Hd H → G := by
 intro h_
 refine sw_seq ?_
 refine sO [(0, _), (1, _), (4, _), (5, _), (6, _), (7, _), (10, _), (5000, _)] [(0, (85, [sl o _, val _, val _])), (4, (38, [val _, val _, sl _ _, sl _ _])), (5, (38, [val _, val _, sl _ _, sl _ _]))] ?_
 exact h_.get) : G := w ⟨h⟩
theorem zlv (h : H) (w : Hd H → G := by
 intro h_
 refine sw_boxEq (d := 6) (by exact rfl) (show _ = [sl (.own 71 1) ((upSegs s u).map (cVersionS (.own 107 4) (.own 3 1))), val (vI (s.Now + 1))] from by first | (rw [hu1]; done) | (rw [hu1]; exact rfl)) ?_
 refine sP [2, 3, 4, 5, 6, 7, 8, 9, 10] [2, 3, 4, 6, 10] ?_
 refine sw_boxEq (d := 10) (by exact rfl) (show _ = [val (vI u.Row.Id), sl (.own 3 1) ((upVals s u).map cInt), val (vI (s.Now + 1)), val (vI (-1))] from by first | (rw [hu2]; done) | (rw [hu2]; exact rfl)) ?_
 exact h_.get) : G := w ⟨h⟩
theorem zbl (h : H) (w : Hd H → G := by
 intro h_
 refine zt g2 ?_
 refine rA ?_ (x := pkT g2)
 exact h_.get) : G := w ⟨h⟩
theorem zc4 (h : H) (w : Hd H → G := by
 intro h_
 refine zt ga ?_
 refine rA ?_ (x := pkT ga)
 exact h_.get) : G := w ⟨h⟩
theorem zdm (h : H) (w : Hd H → G := by
 intro h_
 refine dA 3 ?_ (x := loc_index (k := i) (by decide) sl_71 (by exact ⟨⟩) (by rfl) (by exact getm2 hlt2 (by rw [gDt_ (d := v0) hlt2])) (by exact rfl))
 refine dA 7 ?_ (x := lE [val _, sl .v _, val _, val _] ty_107)
 exact h_.get) : G := w ⟨h⟩
theorem zew (h : H) (w : Hd H → G := by
 intro h_
 refine rA ?_ (x := loc_index (by decide) sl_29 (by exact ⟨⟩) (by exact rfl) (by exact getm2 (by omega) rfl) (by exact rfl))
 refine rA ?_ (x := lE [val _, val _, sl .v _, sl .v _, val _, val _, sl .v _] ty_54)
 exact h_.get) : G := w ⟨h⟩
theorem ze1 (h : H) (w : Hd H → G := by
 intro h_
 refine sw_seq ?_
 refine sO [(1, _), (3, _), (5, _), (7, _), (9, _), (23, _), (24, _), (25, _), (32, _), (33, _), (34, _), (66, _), (67, _), (68, _)] [(1, _), (7, _), (9, (107, [val _, sl _ _, val _, val _]))] ?_
 exact h_.get) : G := w ⟨h⟩
theorem zkc (h : H) (w : Hd H → G := by
 intro h_
 refine sO [(0, _), (1, _), (4, _), (5, _), (6, _), (7, _), (5000, _)] [(0, (85, [sl o _, val _, val _])), (4, (38, [val _, val _, sl _ _, sl _ _])), (5, (38, [val _, val _, sl _ _, sl _ _]))] ?_
 refine sw_reg ?_
 exact h_.get) : G := w ⟨h⟩
theorem ze0 (h : H) (w : Hd H → G := by
 intro h_
 refine sT [1, 3, 5, 7, 23, 24, 25, 32, 33, 34, 66, 67, 68] [1, 7] ?_
 refine rA ?_ (x := loc_index (k := m) (by decide) sl_71 (by exact ⟨⟩) (by rfl) (by exact getm2 (by omega) (by rw [hsg])) (by exact rfl))
 exact h_.get) : G := w ⟨h⟩
theorem zek (h : H) (w : Hd H → G := by
 intro h_
 refine rB ga ?_ (x := lD [val _, val _, sl .v _, sl .v _] ty_38)
 refine rB ga ?_ (x := cL [(true, [val _, val _, sl _ _, sl _ _])] [(true, [val _, val _, sl .v _, sl .v _])] c_19 (hs := by exact impl_IsQuery))
 exact h_.get) : G := w ⟨h⟩
theorem zdu (h : H) (w : Hd H → G := by
 intro h_
 refine rA ?_ (x := lD [val _, sl .v _, val _, val _] ty_107)
 refine rA ?_ (x := cL [(true, [val _, sl _ _, val _, val _])] [(true, [val _, sl .v _, val _, val _])] c_56 (hs := by exact impl_rowOf (by omega)))
 exact h_.get) : G := w ⟨h⟩
theorem zbd (h : H) (w : Hd H → G := by
 intro h_
 refine zf gb ?_
 refine zdx ?_
 exact h_.get) : G := w ⟨h⟩
theorem zes (h : H) (w : Hd H → G := by
 intro h_
 refine rA ?_ (x := loc_store (ag := true) (vs := [val _, val _, sl _ _, sl _ _, val _, sl _ _, val _, val _, val _, sl _ _]) ty_70 (by exact ⟨⟩) (by exact rfl) (by exact nl rfl))
 refine sw_seq ?_
 exact h_.get) : G := w ⟨h⟩
theorem zi6 (h : H) (w : Hd H → G := by
 intro h_
 refine sw_seq ?_
 refine sP [2, 3, 4, 5, 6, 7, 8, 9, 10] [2, 3, 4, 6, 10] ?_
 exact h_.get) : G := w ⟨h⟩
theorem zez (h : H) (w : Hd H → G := by
 intro h_
 refine rA ?_ (x := loc_index (by decide) sl_30 (by exact ⟨⟩) (by exact rfl) (by exact getm2 (by omega) rfl) (by exact rfl))
 refine rA ?_ (x := lE [val _, val _, sl .v _, sl .v _, sl .v _] ty_73)
 exact h_.get) : G := w ⟨h⟩
theorem zm6 (h : H) (w : Hd H → G := by
 intro h_
 refine rM ?_
 refine rA ?_ (x := loc_build (qs := [(false, [val _])]) (cs := [val _, sl _ _]) (by decide) z_45 zo_45 FDst_pl_45 (by exact rfl) (by exact (aI (by exact ⟨⟩) tI)) rfl (by exact rfl))
 exact h_.get) : G := w ⟨h⟩
theorem zhp (h : H) (w : Hd H → G := by
 intro h_
 refine rA ?_ (x := lF fd_26_0)
 refine rA ?_ (x := lD [sl (.lo _) _] ty_24)
 exact h_.get) : G := w ⟨h⟩
theorem zi0 (h : H) (w : Hd H → G := by
 intro h_
 refine sS [2, 3, 4, 5, 6, 7, 8, 9, 10] [2, 3, 4, 6, 10] ?_
 refine rA ?_ (x := loc_bslice (qs := []) (by decide) sl_27 z_3 (by decide) rfl rfl rfl rfl rfl (by exact nl rfl) (by exact ⟨⟩) rfl)
 exact h_.get) : G := w ⟨h⟩
theorem zd1 (h : H) (w : Hd H → G := by
 intro h_
 refine rB gc ?_ (x := lF fd_107_3)
 refine rB gc ?_ (x := lD [val _] ty_3)
 exact h_.get) : G := w ⟨h⟩
theorem zd5 (h : H) (w : Hd H → G := by
 intro h_
 refine rB ga ?_ (x := sM)
 refine rB ga ?_ (x := cL [(false, [val _]), (false, [val _]), (false, [val _])] [(false, [val _]), (false, [val _]), (false, [val _])] c_66 (hs := by exact spec_l1In))
 exact h_.get) : G := w ⟨h⟩
theorem zl2 (h : H) (w : Hd H → G := by
 intro h_
 refine sO [(0, _), (2, _), (3, _), (4, _), (5, _), (6, _), (7, _), (8, _)] [(3, _), (5, _), (6, _), (8, (32, [sl _ _, val _, val _, sl _ _, sl _ _, sl _ _, sl _ _, val _]))] ?_
 refine sw_reg ?_
 exact h_.get) : G := w ⟨h⟩
theorem zl8 (h : H) (w : Hd H → G := by
 intro h_
 refine sS [0, 2, 3, 4, 5, 6, 7, 8, 9, 56] [3, 5, 6, 8] ?_
 refine zco ?_
 exact h_.get) : G := w ⟨h⟩
theorem zfv (h : H) (w : Hd H → G := by
 intro h_
 refine rM ?_
 refine rA ?_ (x := cL [(true, [val _, sl _ _, val _, val _]), (false, [val _])] [(true, [val _, sl .v _, val _, val _]), (false, [val _])] c_55 (hs := by exact impl_IsVisible))
 exact h_.get) : G := w ⟨h⟩
theorem zaf (h : H) (w : Hd H → G := by
 intro h_
 refine zbz ?_
 refine sT [1, 2] [1] ?_
 exact h_.get) : G := w ⟨h⟩
theorem zb0 (h : H) (w : Hd H → G := by
 intro h_
 refine sQ [1, 2] [1, 2] ?_
 refine sw_draw hm_ ?_
 exact h_.get) : G := w ⟨h⟩
theorem zd0 (h : H) (w : Hd H → G := by
 intro h_
 refine zt gc ?_
 refine rA ?_ (x := pkT gc)
 exact h_.get) : G := w ⟨h⟩
theorem zjr (h : H) (w : Hd H → G := by
 intro h_
 refine rA ?_ (x := loc_store (ag := true) (vs := [sl _ _, val _, val _, sl _ _, sl _ _, sl _ _, sl _ _, val _]) ty_32 (by exact ⟨⟩) (by exact rfl) (by exact nl rfl))
 refine rK ?_
 exact h_.get) : G := w ⟨h⟩
theorem zlb (h : H) (w : Hd H → G := by
 intro h_
 refine sP [0, 2, 3, 4, 5, 6, 7, 8, 9, 56] [3, 5, 6, 8] ?_
 refine sw_split (c := 5) (AI := []) hm_ rfl rfl rfl rfl (by kernel_rfl) (fun j L h => nomatch h) (fun j L h => nomatch h) ?_
 exact h_.get) : G := w ⟨h⟩
theorem zbx (h : H) (w : Hd H → G := by
 intro h_
 refine sw_exit ?_
 refine sw_seq ?_
 exact h_.get) : G := w ⟨h⟩
theorem zfi (h : H) (w : Hd H → G := by
 intro h_
 refine zem ?_
 refine rX ?_ (x := (loc_alloc (by decide) z_32 zo_32))
 exact h_.get) : G := w ⟨h⟩
theorem zfw (h : H) (w : Hd H → G := by
 intro h_
 refine rX ?_ (x := (loc_alloc (by decide) z_26 zo_26))
 refine zbz ?_
 exact h_.get) : G := w ⟨h⟩
theorem zk6 (h : H) (w : Hd H → G := by
 intro h_
 refine sO [(0, _), (1, _), (4, _), (5, _), (6, _), (7, _), (5000, _)] [(0, (85, [sl o _, val _, val _])), (4, (45, [val _, sl _ _])), (5, (45, [val _, sl _ _]))] ?_
 refine sw_reg ?_
 exact h_.get) : G := w ⟨h⟩
theorem zh5 (h : H) (w : Hd H → G := by
 intro h_
 refine sO [(2, _), (3, _), (4, _), (5, _)] [(2, (26, [sl (.lo _) _, val _])), (3, (47, [val _, val _, sl (.lo _) _, val _, val _])), (4, (26, [sl _ _, val _]))] ?_
 refine sw_reg ?_
 exact h_.get) : G := w ⟨h⟩
theorem zkk (h : H) (w : Hd H → G := by
 intro h_
 refine sS [0, 1, 4, 5] [4] ?_
 refine rA ?_ (x := loc_build (qs := []) (cs := [sl _ _, val _]) (by decide) z_26 zo_26 FDst_pl_26 (by exact rfl) (by exact ⟨⟩) rfl (by exact rfl))
 exact h_.get) : G := w ⟨h⟩
theorem zbt (h : H) (w : Hd H → G := by
 intro h_
 refine rA ?_ (x := loc_index (by decide) sl_36 (by exact ⟨⟩) (by exact rfl) (by exact getm2 (by omega) rfl) (by exact rfl))
 refine rA ?_ (x := lE [val _, val _, val _] ty_41)
 exact h_.get) : G := w ⟨h⟩
theorem zfy (h : H) (w : Hd H → G := by
 intro h_
 refine rA ?_ (x := lD [sl (.lo _) _, val _] ty_26)
 refine rA ?_ (x := cL [(true, [sl (.lo _) _, val _])] [(true, [sl .v _, val _])] c_46 (hs := by exact impl_IsStore (by omega)))
 exact h_.get) : G := w ⟨h⟩
theorem zj0 (h : H) (w : Hd H → G := by
 intro h_
 refine dA 3 ?_ (x := loc_index (by decide) sl_52 (by exact ⟨⟩) (by exact rfl) (by exact getm2 (by omega) rfl) (by exact rfl))
 refine dA 7 ?_ (x := lE [val _, sl .v _] ty_45)
 exact h_.get) : G := w ⟨h⟩
theorem zkz (h : H) (w : Hd H → G := by
 intro h_
 refine sO [(0, _), (2, _), (3, _), (4, _), (5, _), (6, _), (7, _)] [(3, _), (5, _), (6, (32, [sl _ _, val _, val _, sl _ _, sl _ _, sl _ _, sl _ _, val _]))] ?_
 refine sw_reg ?_
 exact h_.get) : G := w ⟨h⟩
theorem zdn (h : H) (w : Hd H → G := by
 intro h_
 refine za6 ?_
 refine sw_seq ?_
 exact h_.get) : G := w ⟨h⟩
theorem zhv (h : H) (w : Hd H → G := by
 intro h_
 refine dA 3 ?_ (x := lD [val _] ty_3)
 refine dA 0 ?_ (x := loc_bslice (qs := []) (by decide) sl_27 z_3 (by decide) rfl rfl rfl rfl rfl (by exact nl rfl) (by exact ⟨⟩) rfl)
 exact h_.get) : G := w ⟨h⟩
theorem zav (h : H) (w : Hd H → G := by
 intro h_
 refine rA ?_ (x := loc_index (by decide) sl_52 (by exact ⟨⟩) (by exact rfl) (by exact getm2 (by omega) rfl) (by exact rfl))
 refine rA ?_ (x := lE [val _, sl .v _] ty_45)
 exact h_.get) : G := w ⟨h⟩
theorem zcc (h : H) (w : Hd H → G := by
 intro h_
 refine sS [1, 2, 3, 16] [1] ?_
 refine zco ?_
 exact h_.get) : G := w ⟨h⟩
theorem zi9 (h : H) (w : Hd H → G := by
 intro h_
 refine rA ?_ (x := lF fd_32_1)
 refine rA ?_ (x := lD [val _] ty_3)
 exact h_.get) : G := w ⟨h⟩
theorem zis (h : H) (w : Hd H → G := by
 intro h_
 refine dA 48 ?_ (x := loc_index (by decide) sl_27 (by exact ⟨⟩) (by exact rfl) (by exact getm2 (by omega) rfl) (by exact rfl))
 refine dA 112 ?_ (x := lE [val _] ty_3)
 exact h_.get) : G := w ⟨h⟩
theorem zbo (h : H) (w : Hd H → G := by
 intro h_
 refine rA ?_ (x := pkF ga)
 refine rM ?_
 exact h_.get) : G := w ⟨h⟩
theorem zf7 (h : H) (w : Hd H → G := by
 intro h_
 refine sR ?_
 refine rX ?_ (x := (loc_box (ag := true) (cs := [val _, val _, sl _ _, sl _ _, val _, sl _ _, val _, val _, val _, sl _ _]) (by decide) (by exact ⟨⟩)))
 exact h_.get) : G := w ⟨h⟩
theorem zjg (h : H) (w : Hd H → G := by
 intro h_
 refine zj6 ?_
 refine rA ?_ (x := cL [(true, [val _, val _, sl _ _, val _, val _])] [(true, [val _, val _, sl .v _, val _, val _])] c_62 (hs := by exact impl_IsUpdate))
 exact h_.get) : G := w ⟨h⟩
theorem zir (h : H) (w : Hd H → G := by
 intro h_
 refine dA 3 ?_ (x := loc_index (by decide) sl_27 (by exact ⟨⟩) (by exact rfl) (by exact getm2 (by omega) rfl) (by exact rfl))
 refine dA 7 ?_ (x := lE [val _] ty_3)
 exact h_.get) : G := w ⟨h⟩
theorem zbk (h : H) (w : Hd H → G := by
 intro h_
 refine zt ga ?_
 refine zb9 ?_
 exact h_.get) : G := w ⟨h⟩
theorem zdi (h : H) (w : Hd H → G := by
 intro h_
 refine rA ?_ (x := lD [sl .v _, val _] ty_26)
 refine rA ?_ (x := cL [(true, [sl _ _, val _])] [(true, [sl .v _, val _])] c_67 (hs := by exact spec_l7All (by omega)))
 exact h_.get) : G := w ⟨h⟩
theorem zjw (h : H) (w : Hd H → G := by
 intro h_
 refine rM ?_
 refine rA ?_ (x := loc_index (k := e.Done.length - 1 - k) (by decide) sl_29 (by exact ⟨⟩) (by omega) (by exact getm2 (by omega) rfl) (by exact rfl))
 exact h_.get) : G := w ⟨h⟩
theorem zi4 (h : H) (w : Hd H → G := by
 intro h_
 refine zdk ?_
 refine sO [(2, _), (3, _), (4, _), (5, _), (6, _), (7, _), (8, _), (9, _), (10, _)] [(2, _), (3, _), (4, _), (6, (26, [sl _ _, val _])), (10, _)] ?_
 exact h_.get) : G := w ⟨h⟩
theorem zkm (h : H) (w : Hd H → G := by
 intro h_
 refine sS [0, 3, 4, 5, 6, 29, 5000] [0, 3, 4] ?_
 refine zco ?_
 exact h_.get) : G := w ⟨h⟩
theorem zcw (h : H) (w : Hd H → G := by
 intro h_
 refine rK ?_
 refine sT [2, 3, 4] [2, 3] ?_
 exact h_.get) : G := w ⟨h⟩
theorem zhy (h : H) (w : Hd H → G := by
 intro h_
 refine dA 1023 ?_ (x := loc_build (qs := [(false, [val _]), (false, [sl _ _]), (false, [val _]), (false, [val _])]) (cs := [val _, sl _ _, val _, val _]) (by decide) z_107 zo_107 FUpd_pl_107 (by exact rfl) (by exact (aI (by exact ⟨⟩) (aI (by exact ⟨⟩) (aI (by exact ⟨⟩) (aI (ok_sc rfl) tI))))) rfl (by exact rfl))
 refine Run.step 0 (by exact ⟨⟩) (by exact ⟨⟩) (LocG.of rfl (loc_alloc (by decide) z_107 zo_107)) (free1 (Free.of_ rfl)) (by kernel_rfl) ?_
 refine dA 4095 ?_ (x := loc_store (ag := true) (vs := [val _, sl _ _, val _, val _]) ty_107 (by exact ⟨⟩) (by exact rfl) (by exact nl rfl))
 exact h_.get) : G := w ⟨h⟩
theorem zb1 (h : H) (w : Hd H → G := by
 intro h_
 refine dA 4 ?_ (x := lD [sl .v _] ty_27)
 refine dA 12 ?_ (x := cL [(false, [sl _ _])] [(false, [sl .v _])] c_43 (hs := by exact impl_copyInts (by omega)))
 exact h_.get) : G := w ⟨h⟩
theorem zc9 (h : H) (w : Hd H → G := by
 intro h_
 refine rB ga ?_ (x := lN sl_27)
 refine rB ga ?_ (x := B_eql)
 exact h_.get) : G := w ⟨h⟩
theorem zf6 (h : H) (w : Hd H → G := by
 intro h_
 refine dA 8 ?_ (x := lD [sl .v _] ty_27)
 refine dA 31 ?_ (x := cL [(false, [sl _ _])] [(false, [sl .v _])] c_43 (hs := by exact impl_copyInts (by omega)))
 exact h_.get) : G := w ⟨h⟩
theorem zga (h : H) (w : Hd H → G := by
 intro h_
 refine rA ?_ (x := lF fd_32_0)
 refine rA ?_ (x := loc_store (ag := true) (vs := [sl _ _, val _]) ty_26 (by exact ⟨⟩) (by exact rfl) (by exact nl rfl))
 exact h_.get) : G := w ⟨h⟩
theorem zj3 (h : H) (w : Hd H → G := by
 intro h_
 refine rB gc ?_ (x := lD [val _] ty_3)
 refine rB gc ?_ (x := B_eql)
 refine rA ?_ (x := pkT gc)
 exact h_.get) : G := w ⟨h⟩
theorem zkt (h : H) (w : Hd H → G := by
 intro h_
 refine sO [(0, _), (2, _), (4, _), (6, _), (7, _), (8, _), (5000, _)] [(0, (85, [sl o _, val _, val _])), (4, (26, [sl _ _, val _]))] ?_
 refine sw_reg ?_
 exact h_.get) : G := w ⟨h⟩
theorem zhu (h : H) (w : Hd H → G := by
 intro h_
 refine sO [(2, _), (3, _), (4, _), (5, _), (6, _), (7, _), (8, _), (9, _)] [(2, _), (3, _), (4, _), (6, (26, [sl _ _, val _]))] ?_
 refine sw_draw hm_ ?_
 exact h_.get) : G := w ⟨h⟩
theorem zdl (h : H) (w : Hd H → G := by
 intro h_
 refine sw_draw hm_ ?_
 refine zdo ?_
 exact h_.get) : G := w ⟨h⟩
theorem zac (h : H) (w : Hd H → G := by
 intro h_
 refine rA ?_ (x := loc_bslice (qs := []) (by decide) sl_27 z_3 (by decide) rfl rfl rfl rfl rfl (by exact nl rfl) (by exact ⟨⟩) rfl)
 refine rA ?_ (x := vM false [sl .v _])
 refine rA ?_ (x := loc_appendb (by decide) sl_27 z_3 rfl rfl (by decide) (by first | (intro cs hcs; obtain ⟨x, _, rfl⟩ := List.mem_map.1 hcs; exact rfl) | simp) (by first | (intro cs hcs; obtain ⟨x, _, rfl⟩ := List.mem_map.1 hcs; exact (BorL.cons (bor_val _) BorL.nil)) | simp) (by simp only [List.length_map, List.length_append, List.length_cons, List.length_nil]; omega) (by simp only [List.length_map, List.length_append, List.length_cons, List.length_nil]; omega))
 exact h_.get) : G := w ⟨h⟩
theorem za2 (h : H) (w : Hd H → G := by
 intro h_
 refine sR ?_
 refine zbz ?_
 refine sS [0, 1, 4] [] ?_
 exact h_.get) : G := w ⟨h⟩
theorem zfe (h : H) (w : Hd H → G := by
 intro h_
 refine rA ?_ (x := lF fd_26_0)
 refine rA ?_ (x := loc_store (ag := false) (vs := [sl _ _]) ty_24 (by exact ⟨⟩) (by exact rfl) (by exact nl rfl))
 exact h_.get) : G := w ⟨h⟩
theorem zgn (h : H) (w : Hd H → G := by
 intro h_
 refine rA ?_ (x := lF fd_32_3)
 refine rA ?_ (x := loc_store (ag := false) (vs := [sl _ _]) ty_28 (by exact ⟨⟩) (by exact rfl) (by exact nl rfl))
 exact h_.get) : G := w ⟨h⟩
theorem zjd (h : H) (w : Hd H → G := by
 intro h_
 refine rB gb ?_ (x := sM)
 refine zba ?_
 exact h_.get) : G := w ⟨h⟩
theorem zbu (h : H) (w : Hd H → G := by
 intro h_
 refine rA ?_ (x := loc_store (ag := true) (vs := [val _, val _, val _]) ty_41 (by exact ⟨⟩) (by exact rfl) (by exact nl rfl))
 refine sw_seq ?_
 exact h_.get) : G := w ⟨h⟩
theorem za8 (h : H) (w : Hd H → G := by
 intro h_
 refine rM ?_
 refine rM ?_
 exact h_.get) : G := w ⟨h⟩
theorem zfj (h : H) (w : Hd H → G := by
 intro h_
 refine sO [(1, _), (2, _), (3, _)] [(1, _), (2, _), (3, (32, [sl _ _, val _, val _, sl _ _, sl _ _, sl _ _, sl _ _, val _]))] ?_
 refine sw_reg ?_
 exact h_.get) : G := w ⟨h⟩
theorem zk0 (h : H) (w : Hd H → G := by
 intro h_
 refine sw_reg ?_
 refine rA ?_ (x := cM Cp.ptr)
 exact h_.get) : G := w ⟨h⟩
theorem zhh (h : H) (w : Hd H → G := by
 intro h_
 refine rA ?_ (x := cL [(false, [sl (.lo _) _])] [(false, [sl .v _])] c_43 (hs := by exact impl_copyInts (by omega)))
 refine rA ?_ (x := tA)
 exact h_.get) : G := w ⟨h⟩
theorem zlk (h : H) (w : Hd H → G := by
 intro h_
 refine rA ?_ (x := loc_store (ag := true) (vs := [sl _ _, val _]) ty_26 (by exact ⟨⟩) (by exact rfl) (by exact nl rfl))
 refine za9 ?_
 exact h_.get) : G := w ⟨h⟩
theorem zbq (h : H) (w : Hd H → G := by
 intro h_
 refine rB gb ?_ (x := lF fd_38_2)
 refine rB gb ?_ (x := lD [sl .v _] ty_36)
 exact h_.get) : G := w ⟨h⟩
theorem zk4 (h : H) (w : Hd H → G := by
 intro h_
 refine rA ?_ (x := cM Cp.ptr)
 refine rM ?_
 refine rA ?_ (x := loc_xcall0 (bx := 0) (qs := [(false, [val _])]) (as_ := [(false, [val _])]) (by decide) c_38 rfl (by exact (aI (by exact ⟨⟩) tI)) (by exact (aI (aI rfl (ToL.cons (PV.To.refl _) ToL.nil)) tI)) (by exact (BorL.cons (hbo _) (BorL.cons (bor_val _) (BorL.cons (bor_val _) BorL.nil)))) (by exact (borA_cons (BorL.cons (bor_val _) BorL.nil) borA_nil)) (by exact (x_l1Below hbo (by omega))))
 exact h_.get) : G := w ⟨h⟩
theorem zcu (h : H) (w : Hd H → G := by
 intro h_
 refine rB gb ?_ (x := lF fd_107_3)
 refine rB gb ?_ (x := lD [val _] ty_3)
 exact h_.get) : G := w ⟨h⟩
theorem zea (h : H) (w : Hd H → G := by
 intro h_
 refine sR ?_
 refine rX ?_ (x := (loc_box (ag := true) (cs := [val _, val _, sl _ _, sl _ _, sl _ _]) (by decide) (by exact ⟨⟩)))
 exact h_.get) : G := w ⟨h⟩
theorem zih (h : H) (w : Hd H → G := by
 intro h_
 refine rA ?_ (x := loc_store (ag := false) (vs := [sl _ _]) ty_27 (by exact ⟨⟩) (by exact rfl) (by exact nl rfl))
 refine zig ?_
 exact h_.get) : G := w ⟨h⟩
theorem zhx (h : H) (w : Hd H → G := by
 intro h_
 refine dA 0 ?_ (x := lF fd_26_1)
 refine dA 256 ?_ (x := lD [val _] ty_3)
 exact h_.get) : G := w ⟨h⟩
theorem zaz (h : H) (w : Hd H → G := by
 intro h_
 refine rX ?_ (x := (loc_alloc (by decide) z_45 zo_45))
 refine sw_seq ?_
 exact h_.get) : G := w ⟨h⟩
theorem zbe (h : H) (w : Hd H → G := by
 intro h_
 refine zf g4 ?_
 refine rA ?_ (x := pkF g4)
 exact h_.get) : G := w ⟨h⟩
theorem zbg (h : H) (w : Hd H → G := by
 intro h_
 refine zf g5 ?_
 refine rA ?_ (x := pkF g5)
 exact h_.get) : G := w ⟨h⟩
theorem ze7 (h : H) (w : Hd H → G := by
 intro h_
 refine zt g3 ?_
 refine rA ?_ (x := pkT g3)
 exact h_.get) : G := w ⟨h⟩
theorem zb8 (h : H) (w : Hd H → G := by
 intro h_
 refine rK ?_
 refine sT [1, 2] [1] ?_
 exact h_.get) : G := w ⟨h⟩
theorem zjf (h : H) (w : Hd H → G := by
 intro h_
 refine RunS.s0f gb ?_
 refine zdx ?_
 exact h_.get) : G := w ⟨h⟩
theorem zeh (h : H) (w : Hd H → G := by
 intro h_
 refine rA ?_ (x := vM false [sl .v _])
 refine rM ?_
 exact h_.get) : G := w ⟨h⟩
theorem za7 (h : H) (w : Hd H → G := by
 intro h_
 refine zaq ?_
 refine rS ?_
 exact h_.get) : G := w ⟨h⟩
theorem zbf (h : H) (w : Hd H → G := by
 intro h_
 refine zam ?_
 refine rM ?_
 exact h_.get) : G := w ⟨h⟩
theorem zbs (h : H) (w : Hd H → G := by
 intro h_
 refine rA ?_ (x := lF fd_38_2)
 refine rA ?_ (x := lD [sl .v _] ty_36)
 exact h_.get) : G := w ⟨h⟩
theorem zcv (h : H) (w : Hd H → G := by
 intro h_
 refine zcs ?_
 refine rX ?_ (x := (loc_box (ag := true) (cs := [val _, sl _ _, val _, val _]) (by decide) (by exact ⟨⟩)))
 exact h_.get) : G := w ⟨h⟩
theorem zeq (h : H) (w : Hd H → G := by
 intro h_
 refine zeo ?_
 refine za4 ?_
 exact h_.get) : G := w ⟨h⟩
theorem zg2 (h : H) (w : Hd H → G := by
 intro h_
 refine sw_reg ?_
 refine rM ?_
 exact h_.get) : G := w ⟨h⟩
theorem zk9 (h : H) (w : Hd H → G := by
 intro h_
 refine sO [(0, _), (1, _), (4, _), (5, _), (6, _), (7, _), (5000, _)] [(0, (85, [sl o _, val _, val _]))] ?_
 refine sw_reg ?_
 exact h_.get) : G := w ⟨h⟩
theorem zh6 (h : H) (w : Hd H → G := by
 intro h_
 refine sO [(2, _), (3, _), (4, _), (5, _), (6, _)] [(2, _), (3, _), (4, _), (6, (26, [sl _ _, val _]))] ?_
 refine sw_reg ?_
 exact h_.get) : G := w ⟨h⟩
theorem zd9 (h : H) (w : Hd H → G := by
 intro h_
 refine zdd ?_
 refine rA ?_ (x := B_lss)
 exact h_.get) : G := w ⟨h⟩
theorem zfg (h : H) (w : Hd H → G := by
 intro h_
 refine sw_reg ?_
 refine zdb ?_
 exact h_.get) : G := w ⟨h⟩
theorem zg0 (h : H) (w : Hd H → G := by
 intro h_
 refine rA ?_ (x := lF fd_26_0)
 refine rA ?_ (x := lD [val _] ty_24)
 exact h_.get) : G := w ⟨h⟩
theorem zhd (h : H) (w : Hd H → G := by
 intro h_
 refine zcb ?_
 refine rA ?_ (x := B_eql)
 exact h_.get) : G := w ⟨h⟩
theorem zj1 (h : H) (w : Hd H → G := by
 intro h_
 refine rA ?_ (x := vM false [sl .v _])
 refine rA ?_ (x := lN sl_36)
 exact h_.get) : G := w ⟨h⟩
theorem zg8 (h : H) (w : Hd H → G := by
 intro h_
 refine rA ?_ (x := lF fd_70_1)
 refine rA ?_ (x := lD [val _] ty_3)
 exact h_.get) : G := w ⟨h⟩
theorem zj8 (h : H) (w : Hd H → G := by
 intro h_
 refine rA ?_ (x := lF fd_49_0)
 refine rA ?_ (x := lD [val _] ty_3)
 exact h_.get) : G := w ⟨h⟩
theorem zln (h : H) (w : Hd H → G := by
 intro h_
 refine rA ?_ (x := lF fd_47_2)
 refine rA ?_ (x := lD [val _] ty_3)
 exact h_.get) : G := w ⟨h⟩
theorem zlo (h : H) (w : Hd H → G := by
 intro h_
 refine rA ?_ (x := lF fd_47_3)
 refine rA ?_ (x := lD [val _] ty_3)
 exact h_.get) : G := w ⟨h⟩
theorem zja (h : H) (w : Hd H → G := by
 intro h_
 refine rB gc ?_ (x := lF fd_49_3)
 refine zj3 ?_
 exact h_.get) : G := w ⟨h⟩
theorem zhi (h : H) (w : Hd H → G := by
 intro h_
 refine dA 0 ?_ (x := lF fd_26_0)
 refine dA 1 ?_ (x := lD [val _] ty_24)
 refine dA 0 ?_ (x := sM)
 exact h_.get) : G := w ⟨h⟩
theorem zm2 (h : H) (w : Hd H → G := by
 intro h_
 refine rA ?_ (x := lN sl_24)
 refine rA ?_ (x := loc_rem (by decide) (by exact ⟨⟩) (by exact ⟨⟩) (by omega))
 exact h_.get) : G := w ⟨h⟩
theorem zgm (h : H) (w : Hd H → G := by
 intro h_
 refine sS [2, 3, 4, 6, 7, 8, 9, 11, 14, 54, 55, 67, 68, 69, 6200, 6300] [3, 4, 6, 8, 9] ?_
 refine rA ?_ (x := tM)
 exact h_.get) : G := w ⟨h⟩
theorem zjv (h : H) (w : Hd H → G := by
 intro h_
 refine rA ?_ (x := B_sub)
 refine rS ?_
 exact h_.get) : G := w ⟨h⟩
theorem ziy (h : H) (w : Hd H → G := by
 intro h_
 refine zae ?_
 refine rX ?_ (x := (loc_box (ag := true) (cs := [val _, sl _ _]) (by decide) (by exact ⟨⟩)))
 exact h_.get) : G := w ⟨h⟩
theorem zkx (h : H) (w : Hd H → G := by
 intro h_
 refine sw_boxEq (d := 5) (by exact rfl) (show _ = [val (vI (isoQ code).Id), val (vI (isoQ code).Tenant), sl (.own 41 3) ((isoQ code).Conds.map cCond), sl (.own 3 1) ((isoQ code).Out.map cInt)] from by first | (rw [hq]; exact rfl) | (simp only [hq]; exact rfl)) ?_
 refine sG [0, 2, 3, 4, 5] [3, 5] ?_
 refine rA ?_ (x := lD [sl .v _, val _, val _, sl .v _, sl .v _, sl .v _, sl .v _, val _] ty_32)
 exact h_.get) : G := w ⟨h⟩
theorem zat (h : H) (w : Hd H → G := by
 intro h_
 refine sR ?_
 refine zbz ?_
 refine sS [0, 2] [] ?_
 exact h_.get) : G := w ⟨h⟩
theorem zcf (h : H) (w : Hd H → G := by
 intro h_
 refine sS [1, 2, 3, 16] [1] ?_
 refine za8 ?_
 exact h_.get) : G := w ⟨h⟩
theorem zcn (h : H) (w : Hd H → G := by
 intro h_
 refine zf g17 ?_
 refine rA ?_ (x := pkF g17)
 exact h_.get) : G := w ⟨h⟩
theorem zh2 (h : H) (w : Hd H → G := by
 intro h_
 refine rA ?_ (x := loc_efield (by decide) fd_107_0 (by exact nl rfl))
 refine rA ?_ (x := lE [val _] ty_3)
 exact h_.get) : G := w ⟨h⟩
theorem zl7 (h : H) (w : Hd H → G := by
 intro h_
 refine rA ?_ (x := loc_efield (by decide) fd_49_0 (by exact nl rfl))
 refine rA ?_ (x := lE [val _] ty_3)
 exact h_.get) : G := w ⟨h⟩
theorem zc2 (h : H) (w : Hd H → G := by
 intro h_
 refine zam ?_
 refine scF ?_
 exact h_.get) : G := w ⟨h⟩
theorem zcg (h : H) (w : Hd H → G := by
 intro h_
 refine zcj ?_
 refine rB gb ?_ (x := B_eql)
 exact h_.get) : G := w ⟨h⟩
theorem zdc (h : H) (w : Hd H → G := by
 intro h_
 refine rA ?_ (x := tM)
 refine rA ?_ (x := tA)
 refine sw_ret ?_
 exact h_.get) : G := w ⟨h⟩
theorem zcp (h : H) (w : Hd H → G := by
 intro h_
 refine sS [1, 2, 4] [1] ?_
 refine rA ?_ (x := lF fd_47_1)
 exact h_.get) : G := w ⟨h⟩
theorem zhk (h : H) (w : Hd H → G := by
 intro h_
 refine dA 0 ?_ (x := sM)
 refine dA 0 ?_ (x := lF fd_26_1)
 exact h_.get) : G := w ⟨h⟩
theorem zbp (h : H) (w : Hd H → G := by
 intro h_
 refine zt gb ?_
 refine rA ?_ (x := pkT gb)
 exact h_.get) : G := w ⟨h⟩
theorem zef (h : H) (w : Hd H → G := by
 intro h_
 refine zf gd ?_
 refine rA ?_ (x := pkF gd)
 exact h_.get) : G := w ⟨h⟩
theorem zd3 (h : H) (w : Hd H → G := by
 intro h_
 refine rB gc ?_ (x := pkT gd)
 refine rA ?_ (x := pkF gc)
 exact h_.get) : G := w ⟨h⟩
theorem zd4 (h : H) (w : Hd H → G := by
 intro h_
 refine rB gc ?_ (x := pkF gd)
 refine rA ?_ (x := pkF gc)
 exact h_.get) : G := w ⟨h⟩
theorem zfb (h : H) (w : Hd H → G := by
 intro h_
 refine sO [(1, _), (2, _), (3, _)] [(1, _), (2, _), (3, (26, [sl _ _, val _]))] ?_
 refine sw_reg ?_
 exact h_.get) : G := w ⟨h⟩
theorem zkr (h : H) (w : Hd H → G := by
 intro h_
 refine sS [0, 3, 4, 7, 5000] [0, 3, 4] ?_
 refine zco ?_
 exact h_.get) : G := w ⟨h⟩
theorem zf3 (h : H) (w : Hd H → G := by
 intro h_
 refine sO [(1, _), (2, _)] [(1, (38, [val _, val _, sl _ _, sl _ _])), (2, _)] ?_
 refine sw_reg ?_
 exact h_.get) : G := w ⟨h⟩
theorem zak (h : H) (w : Hd H → G := by
 intro h_
 refine zbi ?_
 refine rM ?_
 exact h_.get) : G := w ⟨h⟩
theorem zd2 (h : H) (w : Hd H → G := by
 intro h_
 refine rB gc ?_ (x := B_neq)
 refine rB gc ?_ (x := sM)
 exact h_.get) : G := w ⟨h⟩
theorem zgw (h : H) (w : Hd H → G := by
 intro h_
 refine rB ga ?_ (x := sM)
 refine rB ga ?_ (x := B_lss)
 exact h_.get) : G := w ⟨h⟩
theorem zh1 (h : H) (w : Hd H → G := by
 intro h_
 refine rA ?_ (x := lN sl_71)
 refine rA ?_ (x := B_lss)
 exact h_.get) : G := w ⟨h⟩
theorem zjo (h : H) (w : Hd H → G := by
 intro h_
 refine sS [2, 3, 4, 5, 17] [2, 3, 4] ?_
 refine zco ?_
 exact h_.get) : G := w ⟨h⟩
theorem zeg (h : H) (w : Hd H → G := by
 intro h_
 refine zap ?_
 refine rA ?_ (x := B_lss)
 exact h_.get) : G := w ⟨h⟩
theorem zip (h : H) (w : Hd H → G := by
 intro h_
 refine zbr ?_
 refine sS [0, 1, 4] [] ?_
 exact h_.get) : G := w ⟨h⟩
theorem zk8 (h : H) (w : Hd H → G := by
 intro h_
 refine zap ?_
 refine rA ?_ (x := B_gtr)
 exact h_.get) : G := w ⟨h⟩
theorem zka (h : H) (w : Hd H → G := by
 intro h_
 refine zk7 ?_
 refine rA ?_ (x := B_add)
 exact h_.get) : G := w ⟨h⟩
theorem zb3 (h : H) (w : Hd H → G := by
 intro h_
 refine sR ?_
 refine rA ?_ (x := loc_const (.inr rfl) (by decide) (ok_nil (t := 45) (e := 2)))
 exact h_.get) : G := w ⟨h⟩
theorem zbn (h : H) (w : Hd H → G := by
 intro h_
 refine rB ga ?_ (x := lD [val _] ty_3)
 refine zec ?_
 exact h_.get) : G := w ⟨h⟩
theorem zdq (h : H) (w : Hd H → G := by
 intro h_
 refine zdg ?_
 refine rA ?_ (x := vA false [sl .v _])
 exact h_.get) : G := w ⟨h⟩
theorem zdr (h : H) (w : Hd H → G := by
 intro h_
 refine zdj ?_
 refine za4 ?_
 exact h_.get) : G := w ⟨h⟩
theorem zfa (h : H) (w : Hd H → G := by
 intro h_
 refine zjl ?_
 refine zdk ?_
 exact h_.get) : G := w ⟨h⟩
theorem zgc (h : H) (w : Hd H → G := by
 intro h_
 refine zgr ?_
 refine zdk ?_
 exact h_.get) : G := w ⟨h⟩
theorem zkw (h : H) (w : Hd H → G := by
 intro h_
 refine rA ?_ (x := vM false [sl .v _])
 refine rA ?_ (x := cL [(false, [sl _ _]), (false, [val _])] [(false, [sl .v _]), (false, [val _])] c_6 (hs := by exact (laws_at (by decide) (by omega))))
 refine rA ?_ (x := loc_rem (by decide) (by exact ⟨⟩) (ok_sc rfl) (by omega))
 exact h_.get) : G := w ⟨h⟩
theorem zl4 (h : H) (w : Hd H → G := by
 intro h_
 refine zap ?_
 refine rA ?_ (x := vM false [sl .v _])
 exact h_.get) : G := w ⟨h⟩
theorem zab (h : H) (w : Hd H → G := by
 intro h_
 refine sR ?_
 refine rA ?_ (x := loc_const (.inr rfl) (by decide) (ok_nil (t := 3) (e := 1)))
 exact h_.get) : G := w ⟨h⟩
theorem zha (h : H) (w : Hd H → G := by
 intro h_
 refine sS [2, 3, 4, 5, 6] [2, 3, 4, 6] ?_
 refine rA ?_ (x := lD [sl (.lo _) _, val _] ty_26)
 exact h_.get) : G := w ⟨h⟩
theorem zj5 (h : H) (w : Hd H → G := by
 intro h_
 refine rA ?_ (x := lF fd_49_1)
 refine rA ?_ (x := lD [val _, val _, sl .v _, sl .v _] ty_38)
 exact h_.get) : G := w ⟨h⟩
theorem zl5 (h : H) (w : Hd H → G := by
 intro h_
 refine sT [0, 2, 3, 4, 5, 6, 7, 8, 9] [3, 5, 6, 8] ?_
 refine rA ?_ (x := vM false [sl .v _])
 exact h_.get) : G := w ⟨h⟩
end Go.Proofs.Ytmekkgdboplbjaa.M
