/- Short names for what the printed proofs say often. No condition. -/
import Derived.Test.YtmkhofdkdklpdaaGreatCF2
set_option linter.unusedVariables false
namespace Go.Proofs.YtmkhofdkdklpdaaGreat.M
open Go Go.RowKit
variable {G H : Prop}
theorem za9 (h : G := by
 have hend : k = min code.length 4000 := by omega
 refine sw_exit ?_
 refine sS [0, 2, 3, 4] [] ?_
 refine za7 ?_
 refine rA ?_ (x := loc_build (qs := [(false, [sl _ _]), (false, [val _])]) (cs := [sl _ _, val _, val _]) (by decide) z_74 zo_74 FDrw_pl_74 (by exact rfl) (by exact (aI (by exact ⟨⟩) (aI (by exact ⟨⟩) tI))) rfl (by exact rfl))
 refine rX ?_ (x := (loc_box (ag := true) (cs := [sl _ _, val _, val _]) (by decide) (by exact ⟨⟩)))
 refine rA ?_ (x := cA Cp.ptr)
 refine sw_ret ?_
 exact ⟨31, by exact rfl, by subst hend; exact rfl⟩) : G := h
theorem zag (h : G := by
 refine rM ?_
 refine zan ?_
 exact ⟨(by rw [hr]; exact rfl), rfl, (aI (by refine int_eq ?_; rw [hr]; rfl) tI)⟩) : G := h
theorem zai (h : G := by
 refine sw_ret ?_
 exact ⟨(by rw [hr]; exact rfl), rfl, (aI (by refine int_eq ?_; rw [hr]; try rfl) tI)⟩) : G := h
theorem zb4 (h : G := by
 refine zaz ?_
 refine sw_boxO (d := 0) [sl .v _, val _, val _] (by exact rfl) (by exact (OwnTo.cons OTo.lo (OwnTo.cons OTo.refl (OwnTo.cons OTo.refl OwnTo.nil)))) ?_
 refine sw_ret ?_
 exact ⟨(by rw [hr]; exact rfl), rfl, (Exists.intro 2 (Exists.intro _ (aI (by exact rfl) (aI (by refine box_eq ?_; rw [hr]; try first | exact rfl | (simp only [List.map_append]; exact rfl)) (aI ty_63 (aI (fun h => nomatch h) tI))))))⟩) : G := h
theorem zb2 (h : G := by
 refine sw_seq ?_
 refine sO [(0, _), (2, _), (3, _), (9, _), (5000, _)] [(0, _), (2, _), (3, (63, [val _, sl _ _]))] ?_
 refine sw_reg ?_
 exact zb4) : G := h
theorem zba (h : G := by
 refine za8 ?_
 refine nx (k + 1) (by omega) (e := (by exact aI (by exact int_eq (by omega)) (tI))) (f := (by exact aI (by rw [consTo, hcn]; rfl) (aI (by rw [consTo, hcn]; try first | exact rfl | (simp only [List.map_append]; exact rfl)) (tI))))) : G := h
theorem zb9 (h : G := by
 refine sG [0, 1, 4, 5, 6, 7, 8, 9, 5000] [0, 4, 5] ?_
 refine rA ?_ (x := lF fd_27_2)
 refine rA ?_ (x := loc_ltake (ms := [sl _ _]) (qs := [sl .v _]) (by decide) ty_24 (fun _ => rfl) (by exact nl rfl) (by exact rfl) (by exact (ToL.cons PV.to_none ToL.nil)) (by exact (BorL.cons (bor_sl _) BorL.nil)))
 refine zbp ?_
 refine rM ?_
 refine rA ?_ (x := loc_build (qs := [(false, [val _]), (false, [val _]), (false, [val _])]) (cs := [val _, val _, val _]) (by decide) z_79 zo_79 FDrz_pl_79 (by exact rfl) (by exact (aI (by exact ⟨⟩) (aI (by exact ⟨⟩) (aI (by exact ⟨⟩) tI)))) rfl (by exact rfl))
 refine rA ?_ (x := loc_bslice (qs := [(true, [val _, val _, val _])]) (by decide) sl_24 z_79 (by decide) rfl rfl rfl rfl rfl (by exact nl rfl) (by exact (aI (by exact ⟨⟩) tI)) rfl)
 refine rA ?_ (x := loc_append (by decide) sl_24 z_79 rfl rfl (by decide) rfl (by simp only [List.length_map, List.length_append, List.length_cons, List.length_nil]; omega) (by simp only [List.length_map, List.length_append, List.length_cons, List.length_nil]; omega))
 refine zhl ?_
 refine sO [(0, _), (1, _), (4, _), (5, _), (6, _), (7, _), (8, _), (9, _), (5000, _)] [(0, _), (4, _), (5, (27, [val _, val _, sl _ _, sl _ _]))] ?_
 refine sw_reg ?_
 exact zba) : G := h
theorem zbj (h : G := by
 refine zan ?_
 exact rb (by simp [inB, *])) : G := h
theorem zbh (h : G := by
 refine za0 ?_
 refine sS [0, 1, 2, 6] [] ?_
 refine zbp ?_
 refine rA ?_ (x := B_geq)
 refine rM ?_
 refine cx 10 (fun ga sga => ?_) (fun ga sga => ?_)
 refine rB ga ?_ (x := sM)
 refine rB ga ?_ (x := sM)
 refine rB ga ?_ (x := B_leq)
 refine rA ?_ (x := pkT ga)
 exact zbj
 refine zaa ?_
 exact zbj) : G := h
theorem zbq (h : G := by
 refine zcd ?_
 exact rb ((any_yes (P := fun y => y == x) hlt (by simpa using ‹_ = x›)).symm)) : G := h
theorem zbs (h : G := by
 refine nx (k + 1) (by exact ⟨by omega, any_succ ha ‹_› (by simpa using ‹¬ _›)⟩)) : G := h
theorem zbt (h : G := by
 refine zcd ?_
 exact rb (by exact (any_end (by rw [show xs.length = k by omega]; exact ha)).symm)) : G := h
theorem zbk (h : G := by
 refine sj 0 fun hl0 => ?_
 refine zbl ?_
 refine zas ?_
 refine sP [0, 1, 4, 5] [] ?_
 refine sL [0, 1] [] (fun k : Nat => k ≤ xs.length ∧ (xs.take k).any (fun y => y == x) = false) (fun k : Nat => [(5, RV.int (k : Int))]) (fun k : Nat => []) (fun k : Nat => xs.length - k) 0 (by exact ⟨by omega, by simp⟩) (by exact aI (by exact rfl) (tI)) (by exact ⟨⟩) ?_
 rintro k ⟨hk, ha⟩
 refine za4 ?_
 refine zcv ?_
 refine sc (fun hba => ?_) (fun hba => ?_)
 have hlt : k < xs.length := by omega
 refine za6 ?_
 refine sS [0, 1, 5] [] ?_
 refine za7 ?_
 refine zc7 ?_
 refine rM ?_
 refine rA ?_ (x := B_eql)
 refine sc (fun hbb => ?_) (fun hbb => ?_)
 refine sS [0, 1, 5] [] ?_
 exact zbq
 refine zd1 ?_
 refine za8 ?_
 exact zbs
 refine sw_exit ?_
 refine sS [0, 1, 5] [] ?_
 exact zbt) : G := h
theorem zbw (h : G := by
 refine sw_ret ?_
 exact (aI (by exact rfl) tI)) : G := h
theorem zc2 (h : G := by
 refine zcd ?_
 exact rb (by simp [okRow, beq_dec, all_no (P := okVal) hlt hno])) : G := h
theorem zlg (h : G := by
 refine nx (k + 1) (by exact ⟨by omega, all_succ ha hlt hyes⟩)) : G := h
theorem zc3 (h : G := by
 refine zbr ?_
 exact zlg) : G := h
theorem zc6 (h : G := by
 refine zan ?_
 exact rb (by simp [okRow, beq_dec, hall, *])) : G := h
theorem zc5 (h : G := by
 refine zd9 ?_
 refine rB ga ?_ (x := lN sl_25)
 refine zfx ?_
 exact zc6) : G := h
theorem zc9 (h : G := by
 refine za8 ?_
 exact zlg) : G := h
theorem zcf (h : G := by
 refine sw_ret ?_
 exact (Exists.intro 2 (Exists.intro _ (aI (by exact rfl) (aI (by exact rfl) (aI ty_63 (aI (fun h => nomatch h) tI))))))) : G := h
theorem zck (h : G := by
 refine nx (k + 1) (by omega) (e := (by exact aI (by exact slc_eq (by rw [tk_succ hlt, List.map_append]; rfl)) (aI (by exact rfl) (tI))))) : G := h
theorem zfe (h : G := by
 refine zjq ?_
 refine sw_ret ?_
 exact (aI (by refine slc_eq ?_; rw [hend, List.take_length]) tI)) : G := h
theorem zcl (h : G := by
 have hend : k = x.length := by omega
 refine sw_exit ?_
 refine sS [0, 2, 3, 7, 8, 9] [] ?_
 exact zfe) : G := h
theorem zcq (h : G := by
 refine rA ?_ (x := tA)
 refine sG [0, 2, 3, 4] [] ?_
 refine za8 ?_
 exact zck) : G := h
theorem zcr (h : G := by
 refine sw_exit ?_
 refine sS [0, 2, 3, 4] [] ?_
 exact zfe) : G := h
theorem zdb (h : G := by
 refine zcd ?_
 exact rb (by exact (deq_false (fun e => by subst e; simp at *)).symm)) : G := h
theorem zcs (h : G := by
 refine sS [0, 1, 4] [] ?_
 exact zdb) : G := h
theorem zd0 (h : G := by
 refine zcd ?_
 exact rb (by exact (deq_false (eq_no hlt hlt2 (by intro e; simp [e, deq_self] at *))).symm)) : G := h
theorem zd4 (h : G := by
 refine nx (k + 1) (by exact ⟨by omega, eq_succ ha hlt hlt2 (by simp_all)⟩)) : G := h
theorem zd2 (h : G := by
 refine za8 ?_
 exact zd4) : G := h
theorem zd5 (h : G := by
 refine zcd ?_
 exact rb (by exact (deq_true (eq_end hl (by rw [show x.length = k by omega]; exact ha))).symm)) : G := h
theorem zd3 (h : G := by
 refine sw_exit ?_
 refine sS [0, 1, 5] [] ?_
 exact zd5) : G := h
theorem zda (h : G := by
 refine zan ?_
 exact rb (by rw [Bool.eq_iff_iff]; simp only [deq_iff, ext_Row_iff]; simp_all [deq_iff])) : G := h
theorem zdc (h : G := by
 refine dA 511 ?_ (x := nT)
 refine sc (fun hbc => ?_) (fun hbc => ?_)
 refine sS [0, 1, 5] [] ?_
 exact zd0
 refine zd1 ?_
 refine za8 ?_
 refine nx (k + 1) (by exact ⟨by omega, eq_succ ha hlt hlt2 (by first | (simp_all [deq_iff]; done) | (apply deq_iff.1; simp_all))⟩)) : G := h
theorem zdk (h : G := by
 refine zan ?_
 exact rb (by first | (simp_all [okCond, inB]; done) | (simp_all [okCond, inB]; omega))) : G := h
theorem zdt (h : G := by
 have hbad : adjAll ⟨0, 0, 0⟩ okCond ltField x.Conds = false := adj_no hlt (Bool.eq_false_iff.2 fun hx => by
  have hx := adjStep.1 hx
  rw [hgk] at hx
  obtain ⟨hx1, hx2⟩ := hx
  first
  | (simp_all; done)
  | (simp only [decide_eq_true_eq, ltField] at *; by_cases h0 : k = 0 <;> (try rw [hgp (by omega)] at hx2) <;> omega))
 refine sS [1, 3] [1] ?_
 refine zcd ?_
 exact rb (by simp [okQuery, okConds, hbad])) : G := h
theorem zlh (h : G := by
 refine nx (k + 1) (by exact ⟨by omega, by rw [adjTo_succ, ha, Bool.true_and]; refine adjStep.2 ⟨by rw [hgk]; first | assumption | simp_all, ?_⟩; rcases Nat.eq_zero_or_pos k with h0 | h0; (· exact .inl h0); (· right; rw [hgk, hgp h0]; first | (simp only [decide_eq_true_eq, ltField] at *; omega) | (simp_all; done))⟩)) : G := h
theorem zdu (h : G := by
 refine sw_skip ?_
 refine sG [1, 3] [1] ?_
 refine za8 ?_
 exact zlh) : G := h
theorem zdy (h : G := by
 refine zan ?_
 exact rb (by first | (simp_all [okQuery, okConds]; done) | (simp_all [okQuery, okConds]; rfl) | (simp_all [okQuery, okConds]; omega) | (simp_all [okQuery, okConds]; intros; omega))) : G := h
theorem zea (h : G := by
 refine sw_ret ?_
 exact rb (by first | exact hbad0.symm | (simp [okQuery, okConds, hbad]; done) | (simp [okQuery, okFields, hn3]; done) | (simp_all [okQuery, okConds, okFields]; done) | (simp_all [okQuery, okConds, okFields]; rfl) | (simp_all [okQuery, okConds, okFields]; omega) | (simp_all [okQuery, okConds, okFields]; intros; omega))) : G := h
theorem ze1 (h : G := by
 have hbad0 : okQuery x = false := by first | (simp_all [okQuery]; done) | (simp_all [okQuery]; rfl) | (simp_all [okQuery]; omega) | (simp_all [okQuery]; intros; omega)
 refine sS [1, 2] [1] ?_
 refine rK ?_
 exact zea) : G := h
theorem ze7 (h : G := by
 have hbad : adjAll ⟨0, 0, 0⟩ okCond ltField x.Conds = false := adj_no hlt (Bool.eq_false_iff.2 fun hx => by
  have hx := adjStep.1 hx
  rw [hgk] at hx
  obtain ⟨hx1, hx2⟩ := hx
  first
  | (simp_all; done)
  | (simp only [decide_eq_true_eq, ltField] at *; by_cases h0 : k = 0 <;> (try rw [hgp (by omega)] at hx2) <;> omega))
 refine sS [1, 3, 4, 24, 25, 26] [1, 4] ?_
 refine rK ?_
 exact zea) : G := h
theorem ze8 (h : G := by
 refine sw_skip ?_
 refine sG [1, 3, 4, 24, 25, 26] [1, 4] ?_
 refine zbr ?_
 exact zlh) : G := h
theorem zek (h : G := by
 refine sS [2, 3, 4] [2, 3] ?_
 refine zcd ?_
 exact rb (by exact (deq_false (fun e => by subst e; simp_all [deq_self])).symm)) : G := h
theorem zed (h : G := by
 refine scT ?_
 exact zek) : G := h
theorem zel (h : G := by
 have hbad : ¬ x = y := by intro e; subst e; simp_all
 refine sS [2, 3, 5] [2, 3] ?_
 refine zcd ?_
 exact rb ((deq_false hbad).symm)) : G := h
theorem zli (h : G := by
 refine sS [0, 1, 4] [] ?_
 refine zcd ?_
 exact (aI (by refine int_eq ?_; unfold homeOf; rw [if_neg (by simp_all)]) tI)) : G := h
theorem zez (h : G := by
 refine zep ?_
 refine cx 8 (fun ga sga => ?_) (fun ga sga => ?_)
 refine zf5 ?_
 refine scT ?_
 exact zli
 refine rB ga ?_ (x := sM)
 refine rB ga ?_ (x := B_lss)
 refine rA ?_ (x := pkF ga)
 refine sc (fun hba => ?_) (fun hba => ?_)
 exact zli
 have hin : inB n 2 4 = true ∧ 0 ≤ s := by simp_all
 have hn : 2 ≤ n ∧ n ≤ 4 := by simpa [inB] using hin.1
 have htm := tmod_in hn.1 hn.2 hin.2
 refine sw_skip ?_
 refine sS [0, 1, 4] [] ?_
 refine zlj ?_
 refine zan ?_
 exact (aI (by refine int_eq ?_; unfold homeOf; rw [if_pos hin]) tI)) : G := h
theorem zlk (h : G := by
 refine sS [0, 1, 4] [] ?_
 refine zcd ?_
 exact (aI (by refine int_eq ?_; unfold backupOf; rw [if_neg (by simp_all)]) tI)) : G := h
theorem zf1 (h : G := by
 refine zep ?_
 refine cx 8 (fun ga sga => ?_) (fun ga sga => ?_)
 refine zf5 ?_
 refine scT ?_
 exact zlk
 refine rB ga ?_ (x := sM)
 refine rB ga ?_ (x := B_lss)
 refine rA ?_ (x := pkF ga)
 refine sc (fun hba => ?_) (fun hba => ?_)
 exact zlk
 have hin : inB n 2 4 = true ∧ 0 ≤ s := by simp_all
 have hn : 2 ≤ n ∧ n ≤ 4 := by simpa [inB] using hin.1
 have htm := tmod_in hn.1 hn.2 hin.2
 refine sw_skip ?_
 refine sS [0, 1, 4] [] ?_
 refine zlj ?_
 refine zbr ?_
 refine rA ?_ (x := loc_rem (by decide) (by exact ⟨⟩) (by exact ⟨⟩) (by omega))
 refine zan ?_
 exact (aI (by refine int_eq ?_; unfold backupOf; rw [if_pos hin]) tI)) : G := h
theorem zf2 (h : G := by
 have hyes : admC f v q.Conds[k] = true := by simp_all [admC]
 refine sw_skip ?_
 refine sG [1, 2, 3, 8, 10, 11, 12] [3, 8] ?_
 exact zc3) : G := h
theorem zfl (h : G := by
 refine zcd ?_
 exact rb (hbad.symm)) : G := h
theorem zf6 (h : G := by
 have hbad : matchRow q r = false := by simp_all [matchRow]
 refine sS [2, 3, 4] [2, 3] ?_
 exact zfl) : G := h
theorem zfb (h : G := by
 refine zan ?_
 exact rb (by first | (simp_all [matchRow]; done) | (unfold matchRow; simp_all))) : G := h
theorem zf9 (h : G := by
 have hend : okRow r = true → okQuery q = true → q.Conds.all (condOk r) = true := fun h1 h2 => all_end (by rw [show q.Conds.length = k by first | (simp_all; done) | (simp_all; omega)]; exact ha)
 refine zem ?_
 refine zfa ?_
 refine rM ?_
 refine cx 41 (fun gc sgc => ?_) (fun gc sgc => ?_)
 refine rB gc ?_ (x := lD [val _, val _, sl .v _, sl .v _] ty_27)
 refine rB gc ?_ (x := cL [(true, [val _, val _, sl _ _, sl _ _])] [(true, [val _, val _, sl .v _, sl .v _])] c_45 (hs := by exact spec_IsQuery))
 refine rA ?_ (x := pkT gc)
 exact zfb
 refine zdl ?_
 exact zfb) : G := h
theorem zll (h : G := by
 refine nx (k + 1) (by omega) (e := (by exact aI (by first | exact slc_eq (by rw [found_yes hlt hc, List.map_append]; rfl) | exact slc_eq (by rw [found_no hlt hc])) (aI (by exact rfl) (tI))))) : G := h
theorem zfd (h : G := by
 refine sG [1, 2, 4, 5, 7, 9, 10, 11] [2, 7] ?_
 refine zbr ?_
 exact zll) : G := h
theorem zff (h : G := by
 have hbad : (okQuery q && (okParts l && inB m 2 4)) = false := by simp_all [okParts]; try omega
 refine sS [1, 2, 3, 6] [3] ?_
 exact zfl) : G := h
theorem zfj (h : G := by
 have hbad : okParts l = false := okParts_seg hlt (Bool.eq_false_iff.2 fun e => by unfold segB at e; rw [Bool.and_eq_true] at e; first | (have e1 := of_decide_eq_true e.1; omega) | (simp_all; done))
 refine sS [1, 2, 3, 7, 9, 27, 28, 29] [3] ?_
 refine zcd ?_
 exact rb (by simp [hbad])) : G := h
theorem zfk (h : G := by
 refine nx (k + 1) (by exact ⟨by omega, hsegs, hnd2⟩) (e := (by exact aI (by exact slc_eq (by rw [ids_seg hlt, show l[k].length = k2 by omega])) (aI (by exact rfl) (tI))))) : G := h
theorem zfm (h : G := by
 have hbad : okParts l = false := by
  by_cases hr : okRow l[k][k2] = true
  ·exact okParts_dup hlt hlt2 (by first | assumption | (simp_all; done))
  ·exact okParts_seg hlt (by unfold segB; rw [all_no hlt2 (by simpa using hr)]; simp)
 refine sS [0, 3, 4, 5] [] ?_
 exact zfl) : G := h
theorem zfs (h : G := by
 refine sG [1, 2, 3, 6, 7, 8] [3] ?_
 refine za8 ?_
 refine nx (k + 1) (by exact ⟨by omega, by omega⟩) (e := (by exact aI (by first | exact slc_eq (by rw [found_yes hlt hc, List.map_append]; rfl) | exact slc_eq (by rw [found_no hlt hc])) (aI (by exact rfl) (tI))))) : G := h
theorem zft (h : G := by
 have hend := found_end (q := c.Query) (l := (partAt c s)) (k := k) (n := n) ha (by first | omega | (simp_all; done) | (simp_all; omega))
 refine sw_exit ?_
 refine sT [1, 2, 3, 6, 7, 8] [3] ?_
 refine zjq ?_
 refine sw_ret ?_
 exact (aI (by refine slc_eq ?_; rw [hend]) tI)) : G := h
theorem zfy (h : G := by
 refine zan ?_
 exact rb (by unfold nodeB; rw [if_pos (by assumption)]; first | (simp_all; done) | (rw [Bool.eq_iff_iff]; simp_all))) : G := h
theorem zg4 (h : G := by
 have hbad : nodeB c n = false := by unfold nodeB; rw [if_neg (by assumption)]; simp_all; try (intros; simp_all)
 refine sS [1, 2, 4, 5] [2] ?_
 exact zfl) : G := h
theorem zlm (h : G := by
 refine dA 68719476735 ?_ (x := sA)
 refine sw_ret ?_
 exact rb (by unfold nodeB; rw [if_neg (by assumption)]; simp_all)) : G := h
theorem zg5 (h : G := by
 have hin : inB (atI c.At n) 0 ((c.Parts.length : Int) - 1) = true := by simp_all
 have hin2 := hin
 simp only [inB, Bool.and_eq_true, decide_eq_true_eq] at hin2
 refine zaj ?_
 refine sP [1, 2, 4, 5] [2] ?_
 refine zja ?_
 refine zgu ?_
 refine zjb ?_
 refine dA 0 ?_ (x := lF fd_31_1)
 refine dA 32 ?_ (x := lD [sl .v _] ty_28)
 refine dA 0 ?_ (x := lF fd_31_3)
 refine dA 128 ?_ (x := lD [sl .v _] ty_25)
 refine dA 0 ?_ (x := sM)
 refine dA 896 ?_ (x := loc_index (k := (n).toNat) (by decide) sl_25 (by exact ⟨⟩) (by omega) (by exact getm2 (by omega) (by rw [atI_eq (by omega)])) (by exact rfl))
 refine dA 1920 ?_ (x := lE [val _] ty_3)
 refine dA 4064 ?_ (x := loc_index (k := (atI c.At n).toNat) (by decide) sl_28 (by exact ⟨⟩) (by omega) (by exact getm2 (by omega) (by rw [partAt_eq (by omega)])) (by exact rfl))
 refine dA 8160 ?_ (x := lE [sl .v _] ty_36)
 refine dA 16352 ?_ (x := lN sl_36)
 refine dA 32767 ?_ (x := cL [(false, [val _]), (false, [val _]), (false, [val _])] [(false, [val _]), (false, [val _]), (false, [val _])] c_47 (hs := by exact spec_l1In))
 refine dA 65535 ?_ (x := sM)
 refine dx 97 (fun ge sge => ?_) (fun ge sge => ?_)
 refine dB 131071 ge ?_ (x := lF fd_31_5)
 refine dB 262143 ge ?_ (x := lD [sl .v _] ty_28)
 refine dB 131071 ge ?_ (x := sM)
 refine dB 1048575 ge ?_ (x := loc_index (k := (n).toNat) (by decide) sl_28 (by exact ⟨⟩) (by omega) (by exact getm2 (by omega) (by rw [bufAt_eq (by omega)])) (by exact rfl))
 refine dB 2097151 ge ?_ (x := lE [sl .v _] ty_36)
 refine dB 131071 ge ?_ (x := lD [val _, val _, sl .v _, sl .v _, sl .v _, sl .v _, sl .v _, sl .v _, sl .v _, sl .v _, sl .v _] ty_31)
 refine dB 131071 ge ?_ (x := lF fd_31_3)
 refine dB 8519679 ge ?_ (x := lD [sl .v _] ty_25)
 refine dB 131071 ge ?_ (x := sM)
 refine dB 58851327 ge ?_ (x := loc_index (k := (n).toNat) (by decide) sl_25 (by exact ⟨⟩) (by omega) (by exact getm2 (by omega) (by rw [atI_eq (by omega)])) (by exact rfl))
 refine dB 125960191 ge ?_ (x := lE [val _] ty_3)
 refine dB 131071 ge ?_ (x := lF fd_31_4)
 refine dB 268566527 ge ?_ (x := lD [sl .v _] ty_25)
 refine dB 131071 ge ?_ (x := sM)
 refine dB 1879179263 ge ?_ (x := loc_index (k := (n).toNat) (by decide) sl_25 (by exact ⟨⟩) (by omega) (by exact getm2 (by omega) (by rw [atI_eq (by omega)])) (by exact rfl))
 refine dB 4026662911 ge ?_ (x := lE [val _] ty_3)
 refine dB 8585871359 ge ?_ (x := cL [(true, [val _, val _, sl _ _, sl _ _, sl _ _, sl _ _, sl _ _, sl _ _, sl _ _, sl _ _, sl _ _]), (false, [val _]), (false, [val _])] [(true, [val _, val _, sl .v _, sl .v _, sl .v _, sl .v _, sl .v _, sl .v _, sl .v _, sl .v _, sl .v _]), (false, [val _]), (false, [val _])] c_49 (hs := by exact spec_l18Found (by omega) (by first | omega | assumption)))
 refine dB 17179869183 ge ?_ (x := cL [(false, [sl _ _]), (false, [sl _ _])] [(false, [sl .v _]), (false, [sl .v _])] c_15 (hs := by exact spec_EqualRows))
 refine dA 34359738367 ?_ (x := pkT ge)
 exact zlm
 refine dF 131071 ge ?_
 refine dF 262143 ge ?_
 refine dF 131071 ge ?_
 refine dF 1048575 ge ?_
 refine dF 2097151 ge ?_
 refine dF 131071 ge ?_
 refine dF 131071 ge ?_
 refine dF 8519679 ge ?_
 refine dF 131071 ge ?_
 refine dF 58851327 ge ?_
 refine dF 125960191 ge ?_
 refine dF 131071 ge ?_
 refine dF 268566527 ge ?_
 refine dF 131071 ge ?_
 refine dF 1879179263 ge ?_
 refine dF 4026662911 ge ?_
 refine dF 8585871359 ge ?_
 refine dF 17179869183 ge ?_
 refine dA 34359738367 ?_ (x := pkF ge)
 exact zlm) : G := h
theorem zg6 (h : G := by
 refine zan ?_
 exact rb (by unfold nodeI nodeB loneB; rw [if_pos (by assumption)]; first | (simp_all; done) | (rw [Bool.eq_iff_iff]; simp_all))) : G := h
theorem zg8 (h : G := by
 have hbad : nodeI c n = false := by unfold nodeI nodeB loneB; rw [if_neg (by assumption)]; simp_all; try (intros; simp_all)
 refine sS [1, 2, 4, 5] [2] ?_
 exact zfl) : G := h
theorem zln (h : G := by
 refine dA 67108863 ?_ (x := sA)
 refine sw_ret ?_
 exact rb (by unfold nodeI nodeB loneB; rw [if_neg (by assumption)]; simp_all)) : G := h
theorem zgc (h : G := by
 refine sw_skip ?_
 refine sS [1, 2, 4, 5, 6] [2] ?_
 refine zfr ?_
 refine ziu ?_
 refine rA ?_ (x := lE [sl .v _] ty_36)
 refine rA ?_ (x := vA false [sl .v _])
 refine sw_seq ?_
 refine sP [1, 2, 4, 5, 6, 7] [2] ?_
 refine zja ?_
 refine zgu ?_
 refine zjb ?_
 refine dA 0 ?_ (x := vM false [sl .v _])
 refine dA 32 ?_ (x := lN sl_36)
 refine dA 127 ?_ (x := cL [(false, [val _]), (false, [val _]), (false, [val _])] [(false, [val _]), (false, [val _]), (false, [val _])] c_40 (hs := by exact impl_within))
 refine dA 255 ?_ (x := sM)
 refine dx 87 (fun ge sge => ?_) (fun ge sge => ?_)
 refine dB 511 ge ?_ (x := lF fd_31_5)
 refine dB 1023 ge ?_ (x := lD [sl .v _] ty_28)
 refine dB 511 ge ?_ (x := sM)
 refine dB 4095 ge ?_ (x := loc_index (k := (n).toNat) (by decide) sl_28 (by exact ⟨⟩) (by omega) (by exact getm2 (by omega) (by rw [bufAt_eq (by omega)])) (by exact rfl))
 refine dB 8191 ge ?_ (x := lE [sl .v _] ty_36)
 refine dB 511 ge ?_ (x := lF fd_31_0)
 refine dB 16895 ge ?_ (x := lD [val _, val _, sl .v _, sl .v _] ty_27)
 refine dB 511 ge ?_ (x := vM false [sl .v _])
 refine dB 511 ge ?_ (x := lF fd_31_4)
 refine dB 131583 ge ?_ (x := lD [sl .v _] ty_25)
 refine dB 511 ge ?_ (x := sM)
 refine dB 918015 ge ?_ (x := loc_index (k := (n).toNat) (by decide) sl_25 (by exact ⟨⟩) (by omega) (by exact getm2 (by omega) (by rw [atI_eq (by omega)])) (by exact rfl))
 refine dB 1966591 ge ?_ (x := lE [val _] ty_3)
 refine dB 4129279 ge ?_ (x := loc_sliceM (i := 0) (j := (atI c.Pos n).toNat) (ys := ((partAt c (atI c.At n)).take (atI c.Pos n).toNat)) (q := (0 : Int)) (by decide) sl_36 (by exact rfl) (by exact ⟨⟩) (by omega) (by have hq := inB_iff.1 ‹inB (atI c.Pos n) 0 ((partAt c (atI c.At n)).length : Int) = true›; omega) (by omega) (by have hq := inB_iff.1 ‹inB (atI c.Pos n) 0 ((partAt c (atI c.At n)).length : Int) = true›; omega) (fun _ => rfl) (by simp))
 refine dB 8372735 ge ?_ (x := cL [(true, [val _, val _, sl _ _, sl _ _]), (false, [sl _ _])] [(true, [val _, val _, sl .v _, sl .v _]), (false, [sl .v _])] c_42 (hs := by exact impl_matching (by first | omega | exact hwp _)))
 refine dB 16777215 ge ?_ (x := cL [(false, [sl _ _]), (false, [sl _ _])] [(false, [sl .v _]), (false, [sl .v _])] c_43 (hs := by exact impl_EqualRows))
 refine dA 33554431 ?_ (x := pkT ge)
 exact zln
 refine dF 511 ge ?_
 refine dF 1023 ge ?_
 refine dF 511 ge ?_
 refine dF 4095 ge ?_
 refine dF 8191 ge ?_
 refine dF 511 ge ?_
 refine dF 16895 ge ?_
 refine dF 511 ge ?_
 refine dF 511 ge ?_
 refine dF 131583 ge ?_
 refine dF 511 ge ?_
 refine dF 918015 ge ?_
 refine dF 1966591 ge ?_
 refine dF 4129279 ge ?_
 refine dF 8372735 ge ?_
 refine dF 16777215 ge ?_
 refine dA 33554431 ?_ (x := pkF ge)
 exact zln) : G := h
theorem zgf (h : G := by
 have hbad : isCl c = false := isCl_head (fun x => by unfold headB at x; simp_all)
 refine sS [1, 2, 3] [1] ?_
 exact zfl) : G := h
theorem zgd (h : G := by
 refine scT ?_
 exact zgf) : G := h
theorem zlo (h : G := by
 refine zcd ?_
 exact rb ((isCl_done hbad).symm)) : G := h
theorem zgh (h : G := by
 have hbad : adjAll 0 (doneP c) ltI c.Done = false := adj_no hlt (Bool.eq_false_iff.2 fun hx => by
  have hx := adjStep.1 hx
  rw [hgk] at hx
  obtain ⟨hx1, hx2⟩ := hx
  first
  | (simp_all [doneP]; done)
  | (simp only [decide_eq_true_eq, ltI, doneP] at *; by_cases h0 : k = 0 <;> (try rw [hgp (by omega)] at hx2) <;> omega))
 refine sS [1, 3, 4, 5, 51, 52, 53] [1] ?_
 exact zlo) : G := h
theorem zlp (h : G := by
 refine nx (k + 1) (by exact ⟨by omega, by rw [adjTo_succ, ha, Bool.true_and]; refine adjStep.2 ⟨by rw [hgk]; first | assumption | simp_all, ?_⟩; rcases Nat.eq_zero_or_pos k with h0 | h0; (· exact .inl h0); (· right; rw [hgk, hgp h0]; first | (simp only [decide_eq_true_eq, ltI, doneP] at *; omega) | (simp_all; done))⟩)) : G := h
theorem zgi (h : G := by
 refine sw_skip ?_
 refine sG [1, 3, 4, 5, 51, 52, 53] [1] ?_
 refine zbr ?_
 exact zlp) : G := h
theorem zlq (h : G := by
 refine nx (k + 1) (by exact ⟨by omega, fun i hi => by by_cases e : i = k; (· subst e; exact hro); (· exact ha i (by omega))⟩)) : G := h
theorem zgn (h : G := by
 refine sS [1, 3, 6, 7, 8, 51, 52, 53, 81, 82, 83] [1] ?_
 refine rA ?_ (x := vM false [sl .v _])
 refine rA ?_ (x := vM false [sl .v _])
 refine rA ?_ (x := cL [(false, [sl _ _]), (false, [sl _ _])] [(false, [sl .v _]), (false, [sl .v _])] c_43 (hs := by exact (by first | exact impl_EqualRows | exact @impl_EqualRows _ .v _ [])))
 refine rA ?_ (x := nT)
 refine sc (fun hbe => ?_) (fun hbe => ?_)
 have hro : rowOk c (k : Int) = false := by simp_all [rowOk]
 have hbad : isCl c = false := isCl_row hlt2 hro
 refine sS [1, 3, 6, 7, 8, 51, 52, 53, 81, 82, 83] [1] ?_
 exact zfl
 have hro : rowOk c (k : Int) = true := by simp_all [rowOk]
 refine sw_skip ?_
 refine sG [1, 3, 6, 7, 8, 51, 52, 53, 81, 82, 83] [1] ?_
 refine zbr ?_
 exact zlq) : G := h
theorem zgp (h : G := by
 refine nx (k + 1) (by exact ⟨by omega, fun i hi => by by_cases e : i = k; (· subst e; exact hno); (· exact ha i (by omega))⟩)) : G := h
theorem zgv (h : G := by
 have hbad : adjAll 0 (doneP c) ltI c.Done = false := adj_no hlt (Bool.eq_false_iff.2 fun hx => by
  have hx := adjStep.1 hx
  rw [hgk] at hx
  obtain ⟨hx1, hx2⟩ := hx
  first
  | (simp_all [doneP]; done)
  | (simp only [decide_eq_true_eq, ltI, doneP] at *; by_cases h0 : k = 0 <;> (try rw [hgp (by omega)] at hx2) <;> omega))
 refine sS [1, 3, 4] [1] ?_
 exact zlo) : G := h
theorem zgw (h : G := by
 refine sw_skip ?_
 refine sG [1, 3, 4] [1] ?_
 refine za8 ?_
 exact zlp) : G := h
theorem zgz (h : G := by
 refine sS [1, 3, 4, 5, 6] [1] ?_
 refine zgj ?_
 refine rM ?_
 refine zgk ?_
 refine rA ?_ (x := vM false [sl .v _])
 refine rA ?_ (x := cL [(false, [sl _ _]), (false, [sl _ _])] [(false, [sl .v _]), (false, [sl .v _])] c_15 (hs := by exact (by first | exact spec_EqualRows | exact @spec_EqualRows _ .v _ [])))
 refine rA ?_ (x := nT)
 refine sc (fun hbe => ?_) (fun hbe => ?_)
 have hro : rowOk c (k : Int) = false := by simp_all [rowOk]
 have hbad : isCl c = false := isCl_row hlt2 hro
 refine sS [1, 3, 4, 5, 6] [1] ?_
 exact zfl
 have hro : rowOk c (k : Int) = true := by simp_all [rowOk]
 refine sw_skip ?_
 refine sG [1, 3, 4, 5, 6] [1] ?_
 refine za8 ?_
 exact zlq) : G := h
theorem zh1 (h : G := by
 have hne : ¬ (atI c.At (k : Int) ≠ -1 ∧ atI c.At (k : Int) = atI c.At (j : Int)) := by simp_all
 refine sw_skip ?_
 refine sG [1, 3, 4, 5, 7, 8] [1] ?_
 refine za8 ?_
 refine nx (j + 1) (by exact ⟨by omega, fun i hi => by by_cases e : i = j; (· subst e; exact hne); (· exact haj i (by omega))⟩)) : G := h
theorem zh5 (h : G := by
 refine zan ?_
 exact rb (by unfold upOk; simp_all)) : G := h
theorem zlr (h : G := by
 refine zcd ?_
 exact (aI (by refine int_eq ?_; exact hbad.symm) tI)) : G := h
theorem zh6 (h : G := by
 have hbad : nextSeg c n = -1 := nextSeg_no (fun x => by simp_all)
 refine sS [1, 2, 4] [2] ?_
 exact zlr) : G := h
theorem zha (h : G := by
 refine zbr ?_
 refine nx (k + 1) (by exact ⟨by omega, fun i hi => by by_cases e : i = k; (· subst e; exact hP); (· exact ha i (by omega))⟩) (e := (by exact aI (by exact int_eq (by rw [firstIx_snoc, Nat.zero_add]; first | (rw [if_neg (by assumption)]; done) | (simp_all; done) | (simp_all; omega))) (aI (by exact rfl) (tI))))) : G := h
theorem zh7 (h : G := by
 have hP : homeP c n (k : Int) = false := by unfold homeP freeB; simp_all
 have hB : backP c n (k : Int) = false := by unfold backP freeB; simp_all
 refine sw_exit ?_
 refine sG [1, 2, 5, 6, 7, 26, 27] [2] ?_
 exact zha) : G := h
theorem zh8 (h : G := by
 refine rM ?_
 refine zan ?_
 exact (aI (by refine int_eq ?_; exact hhit.symm) tI)) : G := h
theorem zhb (h : G := by
 have hB : firstIx (backP c n) 0 k = -1 → backP c n (k : Int) = false := by intro e; unfold backP at *; simp_all
 refine sw_skip ?_
 refine sG [1, 2, 5, 6, 7, 8, 26, 27] [2] ?_
 exact zha) : G := h
theorem zhc (h : G := by
 refine rM ?_
 refine zan ?_
 exact (aI (by refine int_eq ?_; exact hend.symm) tI)) : G := h
theorem zhe (h : G := by
 have hbad : nextSeg c n = -1 := nextSeg_no (fun x => by unfold upOk at x; simp_all)
 refine sS [1, 2, 4, 5] [2] ?_
 exact zlr) : G := h
theorem zhi (h : G := by
 refine sG [1, 2, 4, 5, 6, 7] [2] ?_
 refine zbf ?_
 refine nx (m - 1) (by omega) (e := (by exact aI (by exact int_eq (by rw [firstIx_down (by omega) hm, hB]; rfl)) (aI (by exact int_eq (by omega)) (tI))))) : G := h
theorem zhg (h : G := by
 have hB : backP c n ((m : Int) - 1) = false := by unfold backP freeB; simp_all
 refine sw_exit ?_
 exact zhi) : G := h
theorem zhj (h : G := by
 have hB : backP c n ((m : Int) - 1) = false := by unfold backP; simp_all
 refine sw_skip ?_
 exact zhi) : G := h
theorem zhk (h : G := by
 have hP : homeP c n (k : Int) = false := by unfold homeP freeB; simp_all
 refine sw_skip ?_
 refine sG [1, 2, 5, 6, 7, 8] [2] ?_
 refine za8 ?_
 refine nx (k + 1) (by exact ⟨by omega, fun i hi => by by_cases e : i = k; (· subst e; exact hP); (· exact ha i (by omega))⟩)) : G := h
theorem zhn (h : G := by
 refine sw_ret ?_
 exact (Exists.intro 2 (Exists.intro _ (aI (by exact rfl) (aI (by exact rfl) (aI ty_27 (aI (fun h => nomatch h) tI))))))) : G := h
theorem zhv (h : G := by
 refine sw_ret ?_
 exact (Exists.intro 2 (Exists.intro _ (aI (by exact rfl) (aI (by exact rfl) (aI ty_31 (aI (fun h => nomatch h) tI))))))) : G := h
theorem zit (h : G := by
 refine sw_ret ?_
 exact (Exists.intro 4 (Exists.intro _ (aI (by exact rfl) (aI (by refine box_eq ?_; rw [hr]; try rfl) (aI ty_31 (aI (fun h => nomatch h) (aI (by refine bool_eq ?_; rw [hr]; try rfl) tI)))))))) : G := h
theorem zls (h : G := by
 refine zia ?_
 refine rK ?_
 exact zit) : G := h
theorem zio (h : G := by
 refine sS [1, 2, 4, 5, 6] [2, 4, 6] ?_
 exact zls) : G := h
theorem zi3 (h : G := by
 have hr := rec_no (c := c) (n := n) (by simp_all)
 exact zio) : G := h
theorem zjf (h : G := by
 refine sw_reg ?_
 exact zls) : G := h
theorem zi8 (h : G := by
 refine zi0 ?_
 exact zjf) : G := h
theorem zib (h : G := by
 have hr := fail_no (c := c) (n := n) (by unfold upOk; simp_all)
 exact zio) : G := h
theorem zih (h : G := by
 refine zan ?_
 exact rb (by simp_all)) : G := h
theorem zik (h : G := by
 refine sw_exit ?_
 refine sO [(0, _), (1, _), (2, _), (6, _), (7, _), (5000, _), (5001, _)] [(0, (3, arr cInt _ _))] ?_
 refine sw_reg ?_
 refine za8 ?_
 refine nx (k + 1) (by omega) (f := (by exact aI (by exact congrArg (fun z_ => some (3, arr cInt z_ jk)) (cont_end haj hst)) (tI)))) : G := h
theorem zim (h : G := by
 exact ⟨(by exact rfl), rfl, tI⟩) : G := h
theorem zin (h : G := by
 have htl : (l.take k).length = k := by rw [List.length_take]; omega
 have hdl0 : (l.drop k).length = l.length - k := List.length_drop
 refine sw_exit ?_
 refine sS [0, 1, 4, 5, 6] [] ?_
 refine zam ?_
 refine rS ?_
 refine sS [0, 1, 4, 5, 6, 7] [] ?_
 refine rA ?_ (x := tM)
 refine rM ?_
 refine zaw ?_
 refine rA ?_ (x := tA)
 refine sS [0, 1, 4, 5, 6, 7] [] ?_
 refine zcn ?_
 refine rA ?_ (x := loc_sliceM (i := k) (j := l.length) (ys := (l.drop k)) (r := ((l.length : Nat) : Int)) (by decide) sl_25 (by exact ⟨⟩) (by exact rfl) (by omega) (by omega) (by omega) (by omega) (fun _ => rfl) (by simp))
 refine zbv ?_
 refine sw_ret ?_
 exact (aI (by refine slc_eq ?_; rw [insP_at hk ha hend]; simp [cInt]) tI)) : G := h
theorem zj5 (h : G := by
 refine zj2 ?_
 exact zjf) : G := h
theorem zj9 (h : G := by
 have hr := step_no (c := c) (n := n) (by unfold upOk; simp_all)
 exact zio) : G := h
theorem zje (h : G := by
 refine zjc ?_
 exact zjf) : G := h
theorem zjn (h : G := by
 refine rA ?_ (x := loc_store (ag := true) (vs := [val _, val _, sl _ _, sl _ _, sl _ _, sl _ _, sl _ _, sl _ _, sl _ _, sl _ _, sl _ _]) ty_31 (by exact ⟨⟩) (by exact rfl) (by exact nl rfl))
 refine zcd ?_
 exact (Exists.intro 6 (Exists.intro _ (aI (by exact rfl) (aI (by refine box_eq ?_; rw [hr]; try first | rfl | (simp only [newCl, List.map_replicate]; rfl)) (aI ty_31 (aI (fun h => nomatch h) (aI (by refine bool_eq ?_; rw [hr]; try first | rfl | (simp only [newCl, List.map_replicate]; rfl)) tI)))))))) : G := h
theorem zjg (h : G := by
 have hr := new_no (q := q) (l := l) (n := n) (by simp_all)
 refine sS [1, 2, 3, 6, 7] [3, 6] ?_
 refine rA ?_ (x := loc_build (qs := []) (cs := [val _, val _, sl _ _, sl _ _, sl _ _, sl _ _, sl _ _, sl _ _, sl _ _, sl _ _, sl _ _]) (by decide) z_31 zo_31 FCluI_pl_31 (by exact rfl) (by exact ⟨⟩) rfl (by exact rfl))
 exact zjn) : G := h
theorem zjm (h : G := by
 refine sw_reg ?_
 refine za8 ?_
 refine nx (k + 1) (by omega) (f := (by exact aI (by simp only [List.replicate_succ']; exact rfl) (tI)))) : G := h
theorem zju (h : G := by
 refine rA ?_ (x := tM)
 refine zjr ?_
 refine rA ?_ (x := loc_store (ag := true) (vs := [val _, val _, sl _ _, sl _ _, sl _ _, sl _ _, sl _ _, sl _ _, sl _ _, sl _ _, sl _ _]) ty_31 (by exact ⟨⟩) (by exact rfl) (by exact nl rfl))
 refine sO [(0, _), (2, _), (3, _), (4, _), (5, _), (6, _), (7, _), (29, _), (5000, _)] [(0, _), (2, _), (3, _), (7, (31, [val _, val _, sl _ _, sl _ _, sl _ _, sl _ _, sl _ _, sl _ _, sl _ _, sl _ _, sl _ _]))] ?_
 refine sw_reg ?_
 refine zia ?_
 refine sO [(0, _), (2, _), (3, _), (4, _), (5, _), (6, _), (7, _), (29, _), (5000, _)] [(0, _), (2, _), (3, (31, [val _, val _, sl _ _, sl _ _, sl _ _, sl _ _, sl _ _, sl _ _, sl _ _, sl _ _, sl _ _])), (7, (31, [val _, val _, sl _ _, sl _ _, sl _ _, sl _ _, sl _ _, sl _ _, sl _ _, sl _ _, sl _ _]))] ?_
 refine sw_reg ?_
 refine zbf ?_
 refine nx (k + 1) (by omega) (e := (by exact aI (by exact int_eq (by omega)) (tI))) (f := (by exact aI (by rw [cluTo, hcn]; rfl) (aI (by rw [cluTo, hcn]; exact rfl) (tI))))) : G := h
theorem zjz (h : G := by
 refine sw_ret ?_
 exact ⟨(by rw [hr]; exact rfl), rfl, (Exists.intro 2 (Exists.intro _ (aI (by exact rfl) (aI (by refine box_eq ?_; rw [hr]; try first | exact rfl | (simp only [List.map_append]; exact rfl)) (aI ty_31 (aI (fun h => nomatch h) tI))))))⟩) : G := h
theorem zk0 (h : G := by
 refine zia ?_
 refine sw_boxO (d := 0) [sl .v _, val _, val _] (by exact rfl) (by exact (OwnTo.cons OTo.lo (OwnTo.cons OTo.refl (OwnTo.cons OTo.refl OwnTo.nil)))) ?_
 exact zjz) : G := h
theorem zjx (h : G := by
 refine zjy ?_
 refine sw_reg ?_
 exact zk0) : G := h
theorem zk5 (h : G := by
 refine sw_exit ?_
 refine sO [(0, _), (1, _), (2, _), (3, _), (8, _), (9, _), (5000, _), (5001, _)] [(0, (63, arr nRow _ _))] ?_
 refine sw_reg ?_
 refine za8 ?_
 refine nx (k + 1) (by omega) (e := (by exact aI (by exact int_eq (by omega)) (tI))) (f := (by exact aI (by exact congrArg (fun z_ => some (63, arr nRow z_ jk)) (cN_end ho hi hlt hj haj hst)) (tI)))) : G := h
theorem zke (h : G := by
 refine sG [0, 1, 2, 3, 4, 10, 11, 5000, 5001] [0] ?_
 refine zil ?_
 refine rS ?_
 refine nx v2 (by exact hI) (b := (by exact hm2)) (e := (by exact aI (by exact int_eq (by omega)) (aI (by exact int_eq (by omega)) (tI)))) (f := (by exact aI (by exact congrArg (fun z_ => some (63, arr nRow z_ jk)) (by rw [hv2]; simp only [List.append_assoc])) (tI)))) : G := h
theorem zkk (h : G := by
 refine rS ?_
 refine nx v2 (by exact hI) (b := (by exact hm2)) (e := (by exact aI (by exact int_eq (by omega)) (aI (by exact int_eq (by omega)) (tI))))) : G := h
theorem zkj (h : G := by
 refine zkf ?_
 exact zkk) : G := h
theorem zlt (h : G := by
 exact ⟨(by exact congrArg (fun z_ => some (63, arr nRow z_ jk)) (by first | exact sy_r2'.trans (sy_end hpart) | exact (sy3_eq hr2).trans (sy_end hpart))), rfl, tI⟩) : G := h
theorem zlu (h : G := by
 refine sw_boxEq (d := 0) (by exact rfl) (show _ = arr nRow (sy2 (ltC q) P A B R s t) jk from congrArg (fun z_ => arr nRow z_ jk) (by first | exact rfl | exact sy2_eq hr1)) ?_
 refine sG [0, 1, 2, 3, 4, 18, 19, 20, 21, 22, 24, 5000, 5001] [0] ?_
 refine zkc ?_
 refine zkd ?_
 refine rA ?_ (x := loc_acall0 (bx := 0) (G := 5001) (qs := [(false, [val _]), (false, [val _]), (false, [val _]), (false, [PV.clo _ _ _])]) (as_ := [(false, [val _]), (false, [val _]), (false, [val _]), (false, [PV.clo _ _ _])]) (by decide) c_113 rfl (by exact (aI (by exact ⟨⟩) (aI (by exact ⟨⟩) (aI (by exact ⟨⟩) (aI (by exact ⟨⟩) tI))))) (by exact (aI (aI rfl (ToL.cons (PV.To.refl _) ToL.nil)) (aI (aI rfl (ToL.cons (PV.To.refl _) ToL.nil)) (aI (aI rfl (ToL.cons (PV.To.refl _) ToL.nil)) (aI (aI rfl (ToL.cons (PV.To.refl _) ToL.nil)) tI))))) (bor_arr bor_nRow _ _) (by exact (borA_cons (BorL.cons (bor_val _) BorL.nil) (borA_cons (BorL.cons (bor_val _) BorL.nil) (borA_cons (BorL.cons (bor_val _) BorL.nil) (borA_cons (BorL.cons (bor_clo _ _) BorL.nil) borA_nil))))) (by exact (ih (P' := P ++ mergeL (ltC q) (A.take s) (B.take t)) (A' := A.drop s) (B' := B.drop t) (R' := R) (hm.trans hl2.symm) sy_r2 (by (try simp only [List.length_append, List.length_take, List.length_drop, List.length_nil, mergeL_len]) <;> omega) (by (try simp only [List.length_append, List.length_take, List.length_drop, List.length_nil, mergeL_len]) <;> omega) (by (try simp only [List.length_append, List.length_take, List.length_drop, List.length_nil, mergeL_len]) <;> omega) (by (try simp only [List.length_append, List.length_take, List.length_drop, List.length_nil, mergeL_len]) <;> omega) (by (try simp only [List.length_append, List.length_take, List.length_drop, List.length_nil, mergeL_len]) <;> omega) (sorted_drop hSA _) (sorted_drop hSB _) (by (try simp only [List.length_append, List.length_take, List.length_drop, List.length_nil, mergeL_len]) <;> omega) (by omega))))
 exact zlt) : G := h
theorem zlv (h : G := by
 refine sw_boxEq (d := 0) (by exact rfl) (show _ = arr nRow (sy2 (ltC q) P A B R s t) jk from congrArg (fun z_ => arr nRow z_ jk) (by first | exact rfl | exact sy2_eq hr1)) ?_
 have hr2 : (A.drop s).length = 0 ∨ (B.drop t).length = 0 := by omega
 refine sw_skip ?_
 exact zlt) : G := h
theorem zlw (h : G := by
 refine zdl ?_
 refine scF ?_
 exact zlv) : G := h
theorem zlx (h : G := by
 refine zly ?_
 refine rM ?_
 refine cx 209 (fun gc sgc => ?_) (fun gc sgc => ?_)
 refine zh9 ?_
 refine zlz ?_
 refine sc (fun hbg => ?_) (fun hbg => ?_)
 exact zlu
 exact zlv
 exact zlw) : G := h
theorem zm0 (h : G := by
 refine zly ?_
 refine rM ?_
 refine cx 209 (fun gc sgc => ?_) (fun gc sgc => ?_)
 refine zh9 ?_
 refine zlz ?_
 refine sc (fun hbf => ?_) (fun hbf => ?_)
 exact zlu
 exact zlv
 exact zlw) : G := h
theorem zm1 (h : G := by
 refine sw_boxEq (d := 0) (by exact rfl) (show _ = arr nRow (sy1 P A B R s t) jk from congrArg (fun z_ => arr nRow z_ jk) (by first | exact rfl | exact sy_rot' | exact (hz.trans sy0_eq).trans (sy1_eq hr0))) ?_
 have hr1 : (A.take s).length = 0 ∨ (B.take t).length = 0 := by omega
 refine sw_skip ?_
 exact zm0) : G := h
theorem zm2 (h : G := by
 refine sw_seq ?_
 refine zly ?_
 refine rM ?_
 refine cx 195 (fun gb sgb => ?_) (fun gb sgb => ?_)
 refine rB gb ?_ (x := sM)
 refine rB gb ?_ (x := sM)
 refine zl3 ?_
 refine sc (fun hbf => ?_) (fun hbf => ?_)
 refine zm3 ?_
 refine zkc ?_
 refine zm4 ?_
 exact zlx
 refine sw_boxEq (d := 0) (by exact rfl) (show _ = arr nRow (sy1 P A B R s t) jk from congrArg (fun z_ => arr nRow z_ jk) (by first | exact rfl | exact sy_rot' | exact (hz.trans sy0_eq).trans (sy1_eq hr0))) ?_
 have hr1 : (A.take s).length = 0 ∨ (B.take t).length = 0 := by omega
 refine sw_skip ?_
 exact zlx
 refine zdm ?_
 refine scF ?_
 exact zm1) : G := h
theorem zkn (h : G := by
 refine rS ?_
 refine sG [0, 1, 2, 3, 4, 18, 19, 20, 21, 5000, 5001] [0] ?_
 refine zb8 ?_
 refine sS [0, 1, 2, 3, 4, 18, 19, 20, 21, 5000, 5001] [0] ?_
 refine rM ?_
 refine rA ?_ (x := B_sub)
 refine zk7 ?_
 refine sP [0, 1, 2, 3, 4, 18, 19, 20, 21, 22, 5000, 5001] [0] ?_
 refine sL [0, 1, 2, 3, 4, 18, 19, 22, 5000, 5001] [0] (fun v : Nat × Nat => lo ≤ v.1 ∧ v.1 ≤ v.2 ∧ v.2 ≤ hi2 ∧ (∀ (c_ : Nat) (x_ y_ : NRow), lo ≤ c_ → c_ < v.1 → A[c_]? = some x_ → B[M - 1 - c_]? = some y_ → ltC q y_ x_ = false) ∧ (∀ (c_ : Nat) (x_ y_ : NRow), v.2 ≤ c_ → c_ < hi2 → A[c_]? = some x_ → B[M - 1 - c_]? = some y_ → ltC q y_ x_ = true)) (fun v : Nat × Nat => [(20, RV.int ((P.length + v.1 : Nat) : Int)), (21, RV.int ((P.length + v.2 : Nat) : Int))]) (fun v : Nat × Nat => []) (fun v : Nat × Nat => v.2 - v.1) (lo, hi2) (by exact ⟨Nat.le_refl _, (by dsimp only; omega), Nat.le_refl _, fun c_ x_ y_ h1 h2 => absurd h2 (Nat.not_lt.2 h1), fun c_ x_ y_ h1 h2 => absurd h2 (Nat.not_lt.2 h1)⟩) (by exact aI (by exact int_eq (by dsimp only; omega)) (aI (by exact int_eq (by dsimp only; omega)) (tI))) (by exact ⟨⟩) ?_
 rintro ⟨x, y⟩ ⟨hlx, hxy, hyh, hx1, hx2⟩
 dsimp only at hlx hxy hyh hx1 hx2
 have e1 : (x, y).1 = x := rfl
 have e2 : (x, y).2 = y := rfl
 obtain ⟨H, hH⟩ : ∃ H, H = (x + y) / 2 := ⟨_, rfl⟩
 refine zfo ?_
 refine sc (fun hbd => ?_) (fun hbd => ?_)
 have hHA : H < A.length := by omega
 have hHM : H < M := by omega
 have hHB : M - 1 - H < B.length := by omega
 have hbd6_ : P.length + H < zs.length := by omega
 have hbd7_ : P.length + A.length + (M - 1 - H) < zs.length := by omega
 refine zk9 ?_
 refine sO [(0, _), (1, _), (2, _), (3, _), (4, _), (18, _), (19, _), (20, _), (21, _), (22, _), (5000, _), (5001, _)] [(0, (63, arr nRow _ _))] ?_
 refine zah ?_
 refine zkf ?_
 refine zkh ?_
 refine za2 ?_
 refine sP [0, 1, 2, 3, 4, 18, 19, 20, 21, 22, 23, 5000, 5001] [0] ?_
 refine zki ?_
 refine zk6 ?_
 refine dA 12 ?_ (x := B_sub)
 refine dA 30 ?_ (x := loc_gidx (k := (P.length + A.length + (M - 1 - H))) (G := 5001) (by decide) sl_36 (by exact ⟨⟩) (by omega) (by omega))
 refine dA 62 ?_ (x := loc_aget (f := nRow) (e := 2) (k := (P.length + A.length + (M - 1 - H))) (fun _ => rfl) rfl hbd7_ ty_63 (fun h => nomatch h) bor_nRow)
 refine zij ?_
 refine dA 384 ?_ (x := loc_gidx (k := (P.length + H)) (G := 5001) (by decide) sl_36 (by exact ⟨⟩) (by omega) (by omega))
 refine dA 896 ?_ (x := loc_aget (f := nRow) (e := 2) (k := (P.length + H)) (fun _ => rfl) rfl hbd6_ ty_63 (fun h => nomatch h) bor_nRow)
 refine dA 2047 ?_ (x := loc_callp (zs[(P.length + A.length + (M - 1 - H))].1, zs[(P.length + H)].1) (qs := [(true, [nv _ (val _), nv _ (sl _ _)]), (true, [nv _ (val _), nv _ (sl _ _)])]) (r := RV.sv false [val _]) (by decide) (by exact (aI (by exact ⟨⟩) (aI (by exact ⟨⟩) tI))) (by exact (aI (aI rfl (ToL.cons (PV.nv_to (PV.To.refl _)) (ToL.cons (PV.nv_to (PV.to_map (fun _ => (ToL.cons (PV.To.refl _) ToL.nil)))) ToL.nil))) (aI (aI rfl (ToL.cons (PV.nv_to (PV.To.refl _)) (ToL.cons (PV.nv_to (PV.to_map (fun _ => (ToL.cons (PV.To.refl _) ToL.nil)))) ToL.nil))) tI))) (by exact rfl))
 refine dA 4095 ?_ (x := B_lss)
 refine dA 8191 ?_ (x := nT)
 refine sc (fun hbe => ?_) (fun hbe => ?_)
 obtain ⟨v2, hv2⟩ : ∃ v2 : Nat × Nat, v2 = (H + 1, y) := ⟨_, rfl⟩
 have hq1 : v2.1 = H + 1 := by rw [hv2]
 have hq2 : v2.2 = y := by rw [hv2]
 have hm2 : v2.2 - v2.1 < (x, y).2 - (x, y).1 := by rw [hq1, hq2]; dsimp only; omega
 have hlt : ltC q B[M - 1 - H] A[H] = false := ltC_no (by have hh := hbe; rw [at_B hHB hz, at_A hHA hz] at hh; omega)
 have hI : lo ≤ v2.1 ∧ v2.1 ≤ v2.2 ∧ v2.2 ≤ hi2 ∧ (∀ (c_ : Nat) (x_ y_ : NRow), lo ≤ c_ → c_ < v2.1 → A[c_]? = some x_ → B[M - 1 - c_]? = some y_ → ltC q y_ x_ = false) ∧ (∀ (c_ : Nat) (x_ y_ : NRow), v2.2 ≤ c_ → c_ < hi2 → A[c_]? = some x_ → B[M - 1 - c_]? = some y_ → ltC q y_ x_ = true) := by rw [hq1, hq2]; exact ⟨by omega, by omega, by omega, fun c_ x_ y_ h1 h2 hx_ hy_ => sym_lo ho hSA hSB (List.getElem?_eq_getElem hHA) (List.getElem?_eq_getElem hHB) hlt c_ x_ y_ (by omega) hHM hx_ hy_, hx2⟩
 refine sG [0, 1, 2, 3, 4, 18, 19, 20, 21, 22, 23, 5000, 5001] [0] ?_
 exact zkj
 obtain ⟨v2, hv2⟩ : ∃ v2 : Nat × Nat, v2 = (x, H) := ⟨_, rfl⟩
 have hq1 : v2.1 = x := by rw [hv2]
 have hq2 : v2.2 = H := by rw [hv2]
 have hm2 : v2.2 - v2.1 < (x, y).2 - (x, y).1 := by rw [hq1, hq2]; dsimp only; omega
 have hlt : ltC q B[M - 1 - H] A[H] = true := ltC_yes (by have hh := hbe; rw [at_B hHB hz, at_A hHA hz] at hh; omega)
 have hI : lo ≤ v2.1 ∧ v2.1 ≤ v2.2 ∧ v2.2 ≤ hi2 ∧ (∀ (c_ : Nat) (x_ y_ : NRow), lo ≤ c_ → c_ < v2.1 → A[c_]? = some x_ → B[M - 1 - c_]? = some y_ → ltC q y_ x_ = false) ∧ (∀ (c_ : Nat) (x_ y_ : NRow), v2.2 ≤ c_ → c_ < hi2 → A[c_]? = some x_ → B[M - 1 - c_]? = some y_ → ltC q y_ x_ = true) := by rw [hq1, hq2]; exact ⟨by omega, by omega, by omega, hx1, fun c_ x_ y_ h1 h2 hx_ hy_ => sym_hi ho hSA hSB (List.getElem?_eq_getElem hHA) (List.getElem?_eq_getElem hHB) hlt c_ x_ y_ h1 (by omega) hx_ hy_⟩
 refine sG [0, 1, 2, 3, 4, 18, 19, 20, 21, 22, 23, 5000, 5001] [0] ?_
 refine rM ?_
 exact zkk
 obtain ⟨s, hs⟩ : ∃ s, s = x := ⟨_, rfl⟩
 obtain ⟨t, ht⟩ : ∃ t, t = M - s := ⟨_, rfl⟩
 have hpart := sym_part ho hSA hSB (s := s) (M := M) (lo := lo) (hi := hi2) (by omega) hc4 (by omega) (by omega) (fun c_ x_ y_ h1 h2 => hx1 c_ x_ y_ h1 (by omega)) (fun c_ x_ y_ h1 h2 => hx2 c_ x_ y_ (by omega) h2)
 rw [← ht] at hpart
 have hsA : s ≤ A.length := by omega
 have htB : t ≤ B.length := by omega
 have hl1 : (sy1 P A B R s t).length = zs.length := by rw [sy1_len]; omega
 have hl2 : (sy2 (ltC q) P A B R s t).length = zs.length := by rw [sy2_len]; omega
 have hst : s + t = M := by omega
 have he1 : (A.take s).length = s := by rw [List.length_take]; omega
 have he2 : (A.drop s).length = A.length - s := List.length_drop
 have he3 : (B.take t).length = t := by rw [List.length_take]; omega
 have he4 : (B.drop t).length = B.length - t := List.length_drop
 refine zay ?_
 refine sO [(0, _), (1, _), (2, _), (3, _), (4, _), (18, _), (19, _), (20, _), (21, _), (22, _), (5000, _), (5001, _)] [(0, (63, arr nRow _ _))] ?_
 refine sw_reg ?_
 refine zil ?_
 refine za2 ?_
 refine zly ?_
 refine rM ?_
 refine cx 181 (fun ga sga => ?_) (fun ga sga => ?_)
 refine rB ga ?_ (x := sM)
 refine rB ga ?_ (x := sM)
 refine za5 ?_
 refine sc (fun hbe => ?_) (fun hbe => ?_)
 refine sG [0, 1, 2, 3, 4, 18, 19, 20, 21, 22, 24, 5000, 5001] [0] ?_
 refine zkc ?_
 refine zkd ?_
 refine rA ?_ (x := loc_acall0 (bx := 0) (G := 5001) (qs := [(false, [val _]), (false, [val _]), (false, [val _]), (false, [PV.clo _ _ _])]) (as_ := [(false, [val _]), (false, [val _]), (false, [val _]), (false, [PV.clo _ _ _])]) (by decide) c_120 rfl (by exact (aI (by exact ⟨⟩) (aI (by exact ⟨⟩) (aI (by exact ⟨⟩) (aI (by exact ⟨⟩) tI))))) (by exact (aI (aI rfl (ToL.cons (PV.To.refl _) ToL.nil)) (aI (aI rfl (ToL.cons (PV.To.refl _) ToL.nil)) (aI (aI rfl (ToL.cons (PV.To.refl _) ToL.nil)) (aI (aI rfl (ToL.cons (PV.To.refl _) ToL.nil)) tI))))) (bor_arr bor_nRow _ _) (by exact (borA_cons (BorL.cons (bor_val _) BorL.nil) (borA_cons (BorL.cons (bor_val _) BorL.nil) (borA_cons (BorL.cons (bor_val _) BorL.nil) (borA_cons (BorL.cons (bor_clo _ _) BorL.nil) borA_nil))))) (by exact (rot_Row (P := P ++ A.take s) (X := A.drop s) (Y := B.take t) (R := B.drop t ++ R) (by (try simp only [List.length_append, List.length_take, List.length_drop, List.length_nil, mergeL_len]) <;> omega) (hz.trans (sy0_eq.trans sy_rot)) (by (try simp only [List.length_append, List.length_take, List.length_drop, List.length_nil, mergeL_len]) <;> omega) (by (try simp only [List.length_append, List.length_take, List.length_drop, List.length_nil, mergeL_len]) <;> omega) (by (try simp only [List.length_append, List.length_take, List.length_drop, List.length_nil, mergeL_len]) <;> omega) (by (try simp only [List.length_append, List.length_take, List.length_drop, List.length_nil, mergeL_len]) <;> omega) (by (try simp only [List.length_append, List.length_take, List.length_drop, List.length_nil, mergeL_len]) <;> omega) (by (try simp only [List.length_append, List.length_take, List.length_drop, List.length_nil, mergeL_len]) <;> omega))))
 exact zm2
 have hr0 : (A.drop s).length = 0 ∨ (B.take t).length = 0 := by omega
 refine sw_skip ?_
 exact zm2
 refine zaa ?_
 refine scF ?_
 have hr0 : (A.drop s).length = 0 ∨ (B.take t).length = 0 := by omega
 refine zaj ?_
 refine zly ?_
 refine rM ?_
 refine cx 195 (fun gb sgb => ?_) (fun gb sgb => ?_)
 refine rB gb ?_ (x := sM)
 refine rB gb ?_ (x := sM)
 refine zl3 ?_
 refine sc (fun hbe => ?_) (fun hbe => ?_)
 refine zm3 ?_
 refine zkc ?_
 refine zm4 ?_
 exact zm0
 exact zm1
 refine zdm ?_
 refine scF ?_
 refine sw_boxEq (d := 0) (by exact rfl) (show _ = arr nRow (sy1 P A B R s t) jk from congrArg (fun z_ => arr nRow z_ jk) (by first | exact rfl | exact sy_rot' | exact (hz.trans sy0_eq).trans (sy1_eq hr0))) ?_
 have hr1 : (A.take s).length = 0 ∨ (B.take t).length = 0 := by omega
 refine sw_skip ?_
 refine zly ?_
 refine rM ?_
 refine cx 209 (fun gc sgc => ?_) (fun gc sgc => ?_)
 refine zh9 ?_
 refine zlz ?_
 refine sc (fun hbe => ?_) (fun hbe => ?_)
 exact zlu
 exact zlv
 exact zlw) : G := h
theorem zkr (h : G := by
 refine sG [0, 1, 2, 6, 7, 8, 9, 5000, 5001] [0] ?_
 refine rM ?_
 refine rA ?_ (x := loc_mul (by decide) (by exact ⟨⟩) (ok_sc rfl) (by unfold I64; omega))
 refine rS ?_
 refine nx (2 * s) (by omega) (e := (by exact aI (by exact int_eq (by omega)) (tI))) (f := (by exact aI (by exact congrArg (fun z_ => some (63, arr nRow z_ jk)) (by first | exact stp_end1 ho hs hu hbe3_ hbe4_ | exact stp_end2 hs hu hul hbe5_)) (tI)))) : G := h
theorem zks (h : G := by
 refine sS [0, 1, 4, 5, 6] [] ?_
 refine zcd ?_
 exact (aI (by refine int_eq ?_; first | (exfalso; simp_all; done) | (unfold cmpI lexI; repeat' split) <;> (first | omega | simp_all)) tI)) : G := h
theorem zkt (h : G := by
 refine nx (k + 1) (by exact ⟨by omega, ⟨hy2, ha.2.trans hst⟩⟩)) : G := h
theorem zku (h : G := by
 refine sw_ret ?_
 exact (aI (by refine int_eq ?_; unfold cmpRow lexI; dsimp only; split <;> (first | omega | (split <;> (first | omega | rfl)))) tI)) : G := h
theorem zkv (h : G := by
 have hend : k = x.length ∨ k = y.length := by omega
 refine sw_exit ?_
 refine sS [0, 1, 5] [] ?_
 refine zam ?_
 refine zcv ?_
 refine zan ?_
 exact rb (by rw [ha.2, decide_eq_decide]; rcases Nat.lt_or_ge k x.length with h1 | h1 <;> rcases Nat.lt_or_ge k y.length with h2 | h2 <;> (first | omega | (rw [cmpL_long h1 h2]; omega) | (rw [cmpL_short h1 h2]; omega) | (rw [cmpL_both h1 h2]; omega)))) : G := h
theorem zkw (h : G := by
 refine zan ?_
 exact rb (by unfold lessQ cmpRow lexI; dsimp only; (first | rw [decide_eq_decide] | skip); repeat' split; all_goals (first | omega | rfl | simp_all))) : G := h
theorem zkx (h : G := by
 have hins : isort (lessQ cmpRow) (x.take (i + 1)) = (isort (lessQ cmpRow) (x.take i)).take j ++ x[i] :: (isort (lessQ cmpRow) (x.take i)).drop j := by rw [List.take_succ_eq_append_getElem hlt, isort_snoc, ins_scan (cmpRow_ok).ord (sorted_isort (cmpRow_ok).ord (cmpRow_ok).irr _) (by omega) haj hst]
 refine sw_exit ?_
 refine sS [0, 2, 3, 4, 5] [] ?_
 refine rA ?_ (x := loc_bslice (qs := []) (by decide) sl_36 z_63 (by decide) rfl rfl rfl rfl rfl (by exact nl rfl) (by exact ⟨⟩) rfl)
 refine za7 ?_
 refine rA ?_ (x := loc_sliceM (i := 0) (j := j) (ys := ((isort (lessQ cmpRow) (x.take i)).take j)) (q := (0 : Int)) (by decide) sl_36 (by exact rfl) (by exact ⟨⟩) (by omega) (by omega) (by omega) (by omega) (fun _ => rfl) (by simp))
 refine zkz ?_
 refine sS [0, 2, 3, 4, 5, 6] [] ?_
 refine zcn ?_
 refine zcc ?_
 refine rA ?_ (x := cL [(true, [val _, sl _ _])] [(true, [val _, sl .v _])] c_54 (hs := by exact (SCall.view (ag := true) (ToL.cons (PV.To.refl _) (ToL.cons PV.to_none ToL.nil)) (BorL.cons (bor_val _) (BorL.cons (bor_sl _) BorL.nil)) ((spec_l3Copy (by omega))))))
 refine zcj ?_
 refine sG [0, 2, 3, 4, 5, 6] [] ?_
 refine zcn ?_
 refine rA ?_ (x := loc_sliceM (i := j) (j := (isort (lessQ cmpRow) (x.take i)).length) (ys := ((isort (lessQ cmpRow) (x.take i)).drop j)) (r := (((isort (lessQ cmpRow) (x.take i)).length : Nat) : Int)) (by decide) sl_36 (by exact ⟨⟩) (by exact rfl) (by omega) (by omega) (by omega) (by omega) (fun _ => rfl) (by rw [List.take_length]))
 refine zkz ?_
 refine sG [0, 2, 3, 4, 5] [] ?_
 refine za8 ?_
 refine nx (i + 1) (by omega) (e := (by exact aI (by exact slc_eq (by rw [hins]; simp only [List.map_append, List.map_cons, List.map_nil, List.append_assoc, List.nil_append, List.cons_append]; try rfl)) (aI (by exact int_eq (by omega)) (tI))))) : G := h
theorem zl7 (h : G := by
 refine sw_reg ?_
 refine za8 ?_
 refine nx (k + 1, (stepNode x (Int.tmod (k : Int) (x.Up.length : Int))).1) (by exact ⟨by dsimp only; omega, by dsimp only; rw [← fin_go hlt hgo]; exact hf, by dsimp only; rw [step_parts]; exact hp, by dsimp only; have h9 := step_wt1 x (Int.tmod (k : Int) (x.Up.length : Int)); rw [hp] at h9; omega⟩)) : G := h
theorem zl8 (h : G := by
 have hstop : ¬ (k < 400 ∧ goOn x = true) := by rintro ⟨h1, h2⟩; unfold goOn at h2; simp only [Bool.and_eq_true, decide_eq_true_eq] at h2; first | omega | (simp_all; done) | (simp_all; omega)
 have hr : finC c = x := by unfold finC; rw [← hf]; exact fin_stop hstop
 refine sw_exit ?_
 refine sT [1, 2, 3, 4] [1, 2, 3] ?_
 refine zia ?_
 refine sw_ret ?_
 exact (Exists.intro 2 (Exists.intro _ (aI (by exact rfl) (aI (by refine box_eq ?_; rw [hr]; try rfl) (aI ty_31 (aI (fun h => nomatch h) tI))))))) : G := h
theorem zl9 (h : G := by
 refine zdm ?_
 refine scF ?_
 exact zl8) : G := h
theorem zla (h : G := by
 refine zf g6 ?_
 refine rA ?_ (x := pkF g6)
 refine scF ?_
 exact zl8) : G := h
theorem zlb (h : G := by
 refine sG [1, 2, 4, 5, 6] [2] ?_
 refine za8 ?_
 exact zll) : G := h
theorem zm5 (h : G := by
 refine sS [0, 3, 4, 5, 6, 7, 8, 9, 10] [3, 4] ?_
 refine rM ?_
 refine zgg ?_
 refine zm6 ?_
 refine rA ?_ (x := loc_bneq (by decide) FLawFnClusters_ub_4 (by exact ⟨⟩) (by exact ⟨⟩))
 refine sc (fun hbf => ?_) (fun hbf => ?_)
 exact absurd hbf (by first | (rw [hxk, hfi]; simp; done) | (simp [hxk, hfi]; done))
 refine sw_skip ?_
 refine sG [0, 3, 4, 5, 6, 7, 8, 9, 10] [3, 4] ?_
 refine za8 ?_
 refine nx (k + 1) (by omega) (e := (by exact aI (by exact slc_eq (by rw [flat_succ hlt, List.map_append]; try rfl)) (aI (by first | exact slc_eq (by rw [partsOn_succ, if_pos hxd, List.map_append, getD_at hlt]; try rfl) | exact slc_eq (by rw [partsOn_succ, if_neg (by rw [hxd]; simp), List.append_nil])) (aI (by exact bool_eq (by first | (rw [upTo_succ, hup, hfi]; done) | (rw [upTo_succ, hup, hfi]; rfl) | (rw [upTo_succ, hup]; rfl))) (aI (by exact int_eq (by omega)) (tI))))))) : G := h
theorem zld (h : G := by
 refine rS ?_
 refine sS [0, 3, 4, 5, 6, 7, 8, 9, 10] [3, 4] ?_
 refine rA ?_ (x := tM)
 refine zfr ?_
 refine rM ?_
 refine zky ?_
 refine zkz ?_
 refine sw_seq ?_
 refine sS [0, 3, 4, 5, 6, 7, 8, 9, 10] [3, 4] ?_
 refine zgg ?_
 refine zm6 ?_
 refine sc (fun hbe => ?_) (fun hbe => ?_)
 have hxd : hasI (finC (drClu code hb).1).Done (k : Int) = true := by simpa using hbe
 refine sG [0, 3, 4, 5, 6, 7, 8, 9, 10] [3, 4] ?_
 refine rA ?_ (x := tM)
 refine zfr ?_
 refine rM ?_
 refine zky ?_
 refine zkz ?_
 exact zm5
 have hxd : hasI (finC (drClu code hb).1).Done (k : Int) = false := by simpa using hbe
 refine sw_skip ?_
 exact zm5) : G := h
theorem zle (h : G := by
 refine dA 4194303 ?_ (x := sA)
 refine sS [0, 3, 4, 5, 6, 7, 8, 9, 10] [3, 4] ?_
 refine zbp ?_
 refine cx 67 (fun gd sgd => ?_) (fun gd sgd => ?_)
 have hup : upTo (drClu code hb).1 k = true := by simpa using gd
 have sgd := gd
 try simp only [qq] at sgd
 refine rB gd ?_ (x := sM)
 refine rA ?_ (x := pkT gd)
 exact zld
 have hup : upTo (drClu code hb).1 k = false := by simpa using gd
 have sgd := gd
 try simp only [qq] at sgd
 refine RunS.s0f gd ?_
 refine rA ?_ (x := pkF gd)
 exact zld) : G := h
theorem zlf (h : G := by
 refine dA 8388607 ?_ (x := pkT gc)
 refine dA 16777215 ?_ (x := sA)
 refine sw_ret ?_
 exact rb (by first | rfl | (rw [← hal]; simp [deq_self]; done) | (simp [← hal, deq_self]; done))) : G := h
theorem zia (h : H) (w : Hd H → G := by
 intro h_
 refine rA ?_ (x := loc_ltake (ms := [val _, val _, sl _ _, sl _ _, sl _ _, sl _ _, sl _ _, sl _ _, sl _ _, sl _ _, sl _ _]) (qs := [val _, val _, sl .v _, sl .v _, sl .v _, sl .v _, sl .v _, sl .v _, sl .v _, sl .v _, sl .v _]) (by decide) ty_31 (fun h => nomatch h) (by exact nl rfl) (by exact rfl) (by exact (ToL.cons (PV.To.refl _) (ToL.cons (PV.To.refl _) (ToL.cons PV.to_none (ToL.cons PV.to_none (ToL.cons PV.to_none (ToL.cons PV.to_none (ToL.cons PV.to_none (ToL.cons PV.to_none (ToL.cons PV.to_none (ToL.cons PV.to_none (ToL.cons PV.to_none ToL.nil)))))))))))) (by exact (BorL.cons (bor_val _) (BorL.cons (bor_val _) (BorL.cons (bor_sl _) (BorL.cons (bor_sl _) (BorL.cons (bor_sl _) (BorL.cons (bor_sl _) (BorL.cons (bor_sl _) (BorL.cons (bor_sl _) (BorL.cons (bor_sl _) (BorL.cons (bor_sl _) (BorL.cons (bor_sl _) BorL.nil)))))))))))))
 refine rA ?_ (x := loc_store (ag := true) (vs := [val _, val _, sl _ _, sl _ _, sl _ _, sl _ _, sl _ _, sl _ _, sl _ _, sl _ _, sl _ _]) ty_31 (by exact ⟨⟩) (by exact rfl) (by exact nl rfl))
 exact h_.get) : G := w ⟨h⟩
theorem zb5 (h : H) (w : Hd H → G := by
 intro h_
 refine rA ?_ (x := cM Cp.ptr)
 refine rA ?_ (x := loc_xcall0 (bx := 0) (qs := [(false, [val _])]) (as_ := [(false, [val _])]) (by decide) c_65 rfl (by exact (aI (ok_sc rfl) tI)) (by exact (aI (aI rfl (ToL.cons (PV.To.refl _) ToL.nil)) tI)) (by exact (BorL.cons (hbo _) (BorL.cons (bor_val _) (BorL.cons (bor_val _) BorL.nil)))) (by exact (borA_cons (BorL.cons (bor_val _) BorL.nil) borA_nil)) (by exact (x_l1Below hbo (by omega))))
 exact h_.get) : G := w ⟨h⟩
theorem zcp (h : H) (w : Hd H → G := by
 intro h_
 refine rA ?_ (x := loc_bslice (qs := [(true, [val _, sl _ _])]) (by decide) sl_36 z_63 (by decide) rfl rfl rfl rfl rfl (by exact nl rfl) (by exact (aI (by exact ⟨⟩) tI)) rfl)
 refine rA ?_ (x := loc_append (by decide) sl_36 z_63 rfl rfl (by decide) rfl (by simp only [List.length_map, List.length_append, List.length_cons, List.length_nil]; omega) (by simp only [List.length_map, List.length_append, List.length_cons, List.length_nil]; omega))
 exact h_.get) : G := w ⟨h⟩
theorem zhz (h : H) (w : Hd H → G := by
 intro h_
 refine rX ?_ (x := (loc_alloc (by decide) z_31 zo_31))
 refine rA ?_ (x := loc_store (ag := true) (vs := [val _, val _, sl _ _, sl _ _, sl _ _, sl _ _, sl _ _, sl _ _, sl _ _, sl _ _, sl _ _]) ty_31 (by exact ⟨⟩) (by exact rfl) (by exact nl rfl))
 exact h_.get) : G := w ⟨h⟩
theorem zaw (h : H) (w : Hd H → G := by
 intro h_
 refine rA ?_ (x := loc_bslice (qs := [(false, [val _])]) (by decide) sl_25 z_3 (by decide) rfl rfl rfl rfl rfl (by exact nl rfl) (by exact (aI (by exact ⟨⟩) tI)) rfl)
 refine rA ?_ (x := loc_append (by decide) sl_25 z_3 rfl rfl (by decide) rfl (by simp only [List.length_map, List.length_append, List.length_cons, List.length_nil]; omega) (by simp only [List.length_map, List.length_append, List.length_cons, List.length_nil]; omega))
 exact h_.get) : G := w ⟨h⟩
theorem zen (h : H) (w : Hd H → G := by
 intro h_
 refine sR ?_
 refine rX ?_ (x := (loc_box (ag := true) (cs := [val _, val _, sl _ _, sl _ _, sl _ _, sl _ _, sl _ _, sl _ _, sl _ _, sl _ _, sl _ _]) (by decide) (by exact ⟨⟩)))
 exact h_.get) : G := w ⟨h⟩
theorem zkz (h : H) (w : Hd H → G := by
 intro h_
 refine rA ?_ (x := loc_appendb (by decide) sl_36 z_63 rfl rfl (by decide) (by first | (intro cs hcs; obtain ⟨x, _, rfl⟩ := List.mem_map.1 hcs; exact rfl) | simp) (by first | (intro cs hcs; obtain ⟨x, _, rfl⟩ := List.mem_map.1 hcs; exact (BorL.cons (bor_val _) (BorL.cons (bor_sl _) BorL.nil))) | simp) (by simp only [List.length_map, List.length_append, List.length_cons, List.length_nil]; omega) (by simp only [List.length_map, List.length_append, List.length_cons, List.length_nil]; omega))
 refine rA ?_ (x := tA)
 exact h_.get) : G := w ⟨h⟩
theorem zaj (h : H) (w : Hd H → G := by
 intro h_
 refine sw_skip ?_
 refine sw_seq ?_
 exact h_.get) : G := w ⟨h⟩
theorem zkd (h : H) (w : Hd H → G := by
 intro h_
 refine rM ?_
 refine rA ?_ (x := loc_copy (r' := RV.sv false [PV.clo _ _ _]) (.inl rfl) (by decide) (by exact Cp.sv (ToL.cons (PV.To.refl _) ToL.nil) (BorL.cons (bor_clo _ _) BorL.nil)))
 exact h_.get) : G := w ⟨h⟩
theorem zm4 (h : H) (w : Hd H → G := by
 intro h_
 refine zkd ?_
 refine rA ?_ (x := loc_acall0 (bx := 0) (G := 5001) (qs := [(false, [val _]), (false, [val _]), (false, [val _]), (false, [PV.clo _ _ _])]) (as_ := [(false, [val _]), (false, [val _]), (false, [val _]), (false, [PV.clo _ _ _])]) (by decide) c_113 rfl (by exact (aI (by exact ⟨⟩) (aI (by exact ⟨⟩) (aI (by exact ⟨⟩) (aI (by exact ⟨⟩) tI))))) (by exact (aI (aI rfl (ToL.cons (PV.To.refl _) ToL.nil)) (aI (aI rfl (ToL.cons (PV.To.refl _) ToL.nil)) (aI (aI rfl (ToL.cons (PV.To.refl _) ToL.nil)) (aI (aI rfl (ToL.cons (PV.To.refl _) ToL.nil)) tI))))) (bor_arr bor_nRow _ _) (by exact (borA_cons (BorL.cons (bor_val _) BorL.nil) (borA_cons (BorL.cons (bor_val _) BorL.nil) (borA_cons (BorL.cons (bor_val _) BorL.nil) (borA_cons (BorL.cons (bor_clo _ _) BorL.nil) borA_nil))))) (by exact (ih (P' := P) (A' := A.take s) (B' := B.take t) (R' := A.drop s ++ (B.drop t ++ R)) (hm.trans hl1.symm) rfl (by (try simp only [List.length_append, List.length_take, List.length_drop, List.length_nil, mergeL_len]) <;> omega) (by (try simp only [List.length_append, List.length_take, List.length_drop, List.length_nil, mergeL_len]) <;> omega) (by (try simp only [List.length_append, List.length_take, List.length_drop, List.length_nil, mergeL_len]) <;> omega) (by (try simp only [List.length_append, List.length_take, List.length_drop, List.length_nil, mergeL_len]) <;> omega) (by (try simp only [List.length_append, List.length_take, List.length_drop, List.length_nil, mergeL_len]) <;> omega) (sorted_take hSA _) (sorted_take hSB _) (by (try simp only [List.length_append, List.length_take, List.length_drop, List.length_nil, mergeL_len]) <;> omega) (by omega))))
 exact h_.get) : G := w ⟨h⟩
theorem zlc (h : H) (w : Hd H → G := by
 intro h_
 refine rA ?_ (x := loc_bslice (qs := []) (by decide) sl_36 z_63 (by decide) rfl rfl rfl rfl rfl (by exact nl rfl) (by exact ⟨⟩) rfl)
 refine rA ?_ (x := tA)
 exact h_.get) : G := w ⟨h⟩
theorem zcc (h : H) (w : Hd H → G := by
 intro h_
 refine rA ?_ (x := loc_index (by decide) sl_36 (by exact ⟨⟩) (by exact rfl) (by exact getm2 (by omega) rfl) (by exact rfl))
 refine rA ?_ (x := lE [val _, sl .v _] ty_63)
 exact h_.get) : G := w ⟨h⟩
theorem zc7 (h : H) (w : Hd H → G := by
 intro h_
 refine rA ?_ (x := loc_index (by decide) sl_25 (by exact ⟨⟩) (by exact rfl) (by exact getm2 (by omega) rfl) (by exact rfl))
 refine rA ?_ (x := lE [val _] ty_3)
 exact h_.get) : G := w ⟨h⟩
theorem za6 (h : H) (w : Hd H → G := by
 intro h_
 refine zaj ?_
 refine sw_block ?_
 exact h_.get) : G := w ⟨h⟩
theorem zij (h : H) (w : Hd H → G := by
 intro h_
 refine dA 0 ?_ (x := vM false [val _])
 refine dA 0 ?_ (x := sM)
 exact h_.get) : G := w ⟨h⟩
theorem zdq (h : H) (w : Hd H → G := by
 intro h_
 refine sR ?_
 refine rX ?_ (x := (loc_box (ag := true) (cs := [val _, val _, sl _ _, sl _ _]) (by decide) (by exact ⟨⟩)))
 exact h_.get) : G := w ⟨h⟩
theorem zao (h : H) (w : Hd H → G := by
 intro h_
 refine rM ?_
 refine rA ?_ (x := loc_xcall0 (bx := 0) (qs := [(false, [val _])]) (as_ := [(false, [val _])]) (by decide) c_65 rfl (by exact (aI (by exact ⟨⟩) tI)) (by exact (aI (aI rfl (ToL.cons (PV.To.refl _) ToL.nil)) tI)) (by exact (BorL.cons (hbo _) (BorL.cons (bor_val _) (BorL.cons (bor_val _) BorL.nil)))) (by exact (borA_cons (BorL.cons (bor_val _) BorL.nil) borA_nil)) (by exact (x_l1Below hbo (by omega))))
 exact h_.get) : G := w ⟨h⟩
theorem zi1 (h : H) (w : Hd H → G := by
 intro h_
 refine sw_reg ?_
 refine rA ?_ (x := lD [val _, val _, sl (.lo _) _, sl (.lo _) _, sl (.lo _) _, sl (.lo _) _, sl (.lo _) _, sl (.lo _) _, sl (.lo _) _, sl (.lo _) _, sl (.lo _) _] ty_31)
 exact h_.get) : G := w ⟨h⟩
theorem zi0 (h : H) (w : Hd H → G := by
 intro h_
 refine sw_seq ?_
 refine sO [(1, _), (2, _), (4, _), (5, _), (6, _)] [(2, _), (4, _), (6, (31, [val _, val _, sl _ _, sl _ _, sl _ _, sl _ _, sl _ _, sl _ _, sl _ _, sl _ _, sl _ _]))] ?_
 exact h_.get) : G := w ⟨h⟩
theorem zfv (h : H) (w : Hd H → G := by
 intro h_
 refine rA ?_ (x := loc_index (k := (n).toNat) (by decide) sl_25 (by exact ⟨⟩) (by omega) (by exact getm2 (by omega) (by rw [atI_eq (by omega)])) (by exact rfl))
 refine rA ?_ (x := lE [val _] ty_3)
 exact h_.get) : G := w ⟨h⟩
theorem zkf (h : H) (w : Hd H → G := by
 intro h_
 refine rM ?_
 refine rA ?_ (x := B_add)
 exact h_.get) : G := w ⟨h⟩
theorem zam (h : H) (w : Hd H → G := by
 intro h_
 refine rA ?_ (x := vM false [sl .v _])
 refine rA ?_ (x := lN sl_25)
 exact h_.get) : G := w ⟨h⟩
theorem zaq (h : H) (w : Hd H → G := by
 intro h_
 refine rX ?_ (x := (loc_alloc (by decide) z_63 zo_63))
 refine rA ?_ (x := loc_store (ag := true) (vs := [val _, sl _ _]) ty_63 (by exact ⟨⟩) (by exact rfl) (by exact nl rfl))
 exact h_.get) : G := w ⟨h⟩
theorem zl2 (h : H) (w : Hd H → G := by
 intro h_
 refine sP [1, 2, 3, 4] [1, 2, 3] ?_
 refine sL [1, 2, 3] [1, 2] (fun q : Nat × Cluster => q.1 ≤ 400 ∧ finGo (400 - q.1) q.1 q.2 = finGo 400 0 c ∧ q.2.Parts = c.Parts ∧ wtCluster q.2 ≤ 1048576 + q.1 * 1048577) (fun q : Nat × Cluster => [(4, RV.int (q.1 : Int))]) (fun q : Nat × Cluster => [(3, (31, [val (vI q.2.Query.Id), val (vI q.2.Query.Tenant), sl (.own 79 3) (q.2.Query.Conds.map cCond), sl (.own 3 1) (q.2.Query.Out.map cInt), sl (.own 36 1) (q.2.Parts.map (cRowS (.own 63 2) (.own 3 1))), sl (.own 4 1) (q.2.Up.map cBool), sl (.own 3 1) (q.2.At.map cInt), sl (.own 3 1) (q.2.Pos.map cInt), sl (.own 36 1) (q.2.Buffer.map (cRowS (.own 63 2) (.own 3 1))), sl (.own 3 1) (q.2.Done.map cInt), sl (.own 36 1) (q.2.Rows.map (cRowS (.own 63 2) (.own 3 1)))]))]) (fun q : Nat × Cluster => 400 - q.1) (0, c) (by exact ⟨by dsimp only; omega, rfl, rfl, by dsimp only; omega⟩) (by exact aI (by exact rfl) (tI)) (by exact aI (by exact rfl) (tI)) ?_
 exact h_.get) : G := w ⟨h⟩
theorem zfi (h : H) (w : Hd H → G := by
 intro h_
 refine rA ?_ (x := loc_index (by decide) sl_28 (by exact ⟨⟩) (by exact rfl) (by exact getm2 (by omega) rfl) (by exact rfl))
 refine rA ?_ (x := lE [sl .v _] ty_36)
 exact h_.get) : G := w ⟨h⟩
theorem zjr (h : H) (w : Hd H → G := by
 intro h_
 refine rA ?_ (x := loc_extract (cs := [val _, val _, sl _ _, sl _ _, sl _ _, sl _ _, sl _ _, sl _ _, sl _ _, sl _ _, sl _ _]) (qs := [val _, val _, sl .v _, sl .v _, sl .v _, sl .v _, sl .v _, sl .v _, sl .v _, sl .v _, sl .v _]) (by decide) (by exact rfl) (by exact (ToL.cons (PV.To.refl _) (ToL.cons (PV.To.refl _) (ToL.cons PV.to_none (ToL.cons PV.to_none (ToL.cons PV.to_none (ToL.cons PV.to_none (ToL.cons PV.to_none (ToL.cons PV.to_none (ToL.cons PV.to_none (ToL.cons PV.to_none (ToL.cons PV.to_none ToL.nil)))))))))))) (by exact (BorL.cons (bor_val _) (BorL.cons (bor_val _) (BorL.cons (bor_sl _) (BorL.cons (bor_sl _) (BorL.cons (bor_sl _) (BorL.cons (bor_sl _) (BorL.cons (bor_sl _) (BorL.cons (bor_sl _) (BorL.cons (bor_sl _) (BorL.cons (bor_sl _) (BorL.cons (bor_sl _) BorL.nil)))))))))))))
 refine rA ?_ (x := loc_extractb (cs := [val _]) (by decide) (by exact rfl) (by exact (BorL.cons (bor_val _) BorL.nil)))
 exact h_.get) : G := w ⟨h⟩
theorem zhx (h : H) (w : Hd H → G := by
 intro h_
 refine sw_seq ?_
 refine sO [(1, _), (2, _), (4, _), (5, _)] [(2, (31, [val _, val _, sl (.lo _) _, sl (.lo _) _, sl (.lo _) _, sl (.lo _) _, sl (.lo _) _, sl (.lo _) _, sl (.lo _) _, sl (.lo _) _, sl (.lo _) _])), (4, (31, [val _, val _, sl _ _, sl _ _, sl _ _, sl _ _, sl _ _, sl _ _, sl _ _, sl _ _, sl _ _]))] ?_
 exact h_.get) : G := w ⟨h⟩
theorem zis (h : H) (w : Hd H → G := by
 intro h_
 refine sw_seq ?_
 refine sO [(1, _), (2, _), (4, _), (5, _), (6, _), (7, _)] [(2, _), (4, _), (6, (31, [val _, val _, sl _ _, sl _ _, sl _ _, sl _ _, sl _ _, sl _ _, sl _ _, sl _ _, sl _ _]))] ?_
 exact h_.get) : G := w ⟨h⟩
theorem zb0 (h : H) (w : Hd H → G := by
 intro h_
 refine rA ?_ (x := cM Cp.ptr)
 refine rA ?_ (x := loc_xcall0 (bx := 0) (qs := [(false, [val _])]) (as_ := [(false, [val _])]) (by decide) c_65 rfl (by exact (aI (ok_sc rfl) tI)) (by exact (aI (aI rfl (ToL.cons (PV.To.refl _) ToL.nil)) tI)) (by exact (BorL.cons (bor_lo _ _) (BorL.cons (bor_val _) (BorL.cons (bor_val _) BorL.nil)))) (by exact (borA_cons (BorL.cons (bor_val _) BorL.nil) borA_nil)) (by exact (x_l1Below (fun es => bor_lo _ es) (by omega))))
 exact h_.get) : G := w ⟨h⟩
theorem zhr (h : H) (w : Hd H → G := by
 intro h_
 refine rA ?_ (x := loc_bslice (qs := [(false, [sl _ _])]) (by decide) sl_28 z_36 (by decide) rfl rfl rfl rfl rfl (by exact nl rfl) (by exact (aI (by exact ⟨⟩) tI)) rfl)
 refine rA ?_ (x := loc_append (by decide) sl_28 z_36 rfl rfl (by decide) rfl (by simp only [List.length_map, List.length_append, List.length_cons, List.length_nil]; omega) (by simp only [List.length_map, List.length_append, List.length_cons, List.length_nil]; omega))
 exact h_.get) : G := w ⟨h⟩
theorem zk8 (h : H) (w : Hd H → G := by
 intro h_
 refine sw_seq ?_
 refine sR ?_
 exact h_.get) : G := w ⟨h⟩
theorem zky (h : H) (w : Hd H → G := by
 intro h_
 refine rA ?_ (x := loc_index (by decide) sl_28 (by exact ⟨⟩) (by exact rfl) (by exact getm2 (by omega) rfl) (by exact rfl))
 refine rA ?_ (x := loc_eload (qs := [sl .v _]) (by decide) ty_36 (fun _ => rfl) (by exact nl rfl) (by exact (ToL.cons (PV.to_map (fun _ => (ToL.cons (PV.To.refl _) (ToL.cons (PV.to_map (fun _ => (ToL.cons (PV.To.refl _) ToL.nil))) ToL.nil)))) ToL.nil)) (by exact (BorL.cons (bor_sl _) BorL.nil)))
 exact h_.get) : G := w ⟨h⟩
theorem zcb (h : H) (w : Hd H → G := by
 intro h_
 refine rA ?_ (x := vM false [sl .v _])
 refine rA ?_ (x := lN sl_36)
 exact h_.get) : G := w ⟨h⟩
theorem zl4 (h : H) (w : Hd H → G := by
 intro h_
 refine dX 0 ?_ (x := (loc_load (qs := [val _, val _, sl .v _, sl .v _, sl .v _, sl .v _, sl .v _, sl .v _, sl .v _, sl .v _, sl .v _]) (by decide) ty_31 (fun h => nomatch h) (by exact nl rfl) (by exact (ToL.cons (PV.To.refl _) (ToL.cons (PV.To.refl _) (ToL.cons PV.to_none (ToL.cons PV.to_none (ToL.cons PV.to_none (ToL.cons PV.to_none (ToL.cons PV.to_none (ToL.cons PV.to_none (ToL.cons PV.to_none (ToL.cons PV.to_none (ToL.cons PV.to_none ToL.nil)))))))))))) (by exact (BorL.cons (bor_val _) (BorL.cons (bor_val _) (BorL.cons (bor_sl _) (BorL.cons (bor_sl _) (BorL.cons (bor_sl _) (BorL.cons (bor_sl _) (BorL.cons (bor_sl _) (BorL.cons (bor_sl _) (BorL.cons (bor_sl _) (BorL.cons (bor_sl _) (BorL.cons (bor_sl _) BorL.nil))))))))))))))
 refine dX 0 ?_ (x := (loc_copy (.inl rfl) (by decide) (by exact Cp.sc)))
 exact h_.get) : G := w ⟨h⟩
theorem zc4 (h : H) (w : Hd H → G := by
 intro h_
 refine rA ?_ (x := lF fd_63_0)
 refine rA ?_ (x := lD [val _] ty_3)
 exact h_.get) : G := w ⟨h⟩
theorem zhw (h : H) (w : Hd H → G := by
 intro h_
 refine rX ?_ (x := (loc_box (ag := true) (cs := [val _, val _, sl (.lo _) _, sl (.lo _) _, sl (.lo _) _, sl (.lo _) _, sl (.lo _) _, sl (.lo _) _, sl (.lo _) _, sl (.lo _) _, sl (.lo _) _]) (by decide) (by exact ⟨⟩)))
 refine rX ?_ (x := (loc_alloc (by decide) z_31 zo_31))
 exact h_.get) : G := w ⟨h⟩
theorem zbp (h : H) (w : Hd H → G := by
 intro h_
 refine rM ?_
 refine rM ?_
 exact h_.get) : G := w ⟨h⟩
theorem zb3 (h : H) (w : Hd H → G := by
 intro h_
 refine rA ?_ (x := loc_ltake (ms := [sl _ _]) (qs := [sl .v _]) (by decide) ty_25 (fun _ => rfl) (by exact nl rfl) (by exact rfl) (by exact (ToL.cons PV.to_none ToL.nil)) (by exact (BorL.cons (bor_sl _) BorL.nil)))
 refine rA ?_ (x := loc_bslice (qs := [(false, [val _])]) (by decide) sl_25 z_3 (by decide) rfl rfl rfl rfl rfl (by exact nl rfl) (by exact (aI (ok_sc rfl) tI)) rfl)
 exact h_.get) : G := w ⟨h⟩
theorem zj1 (h : H) (w : Hd H → G := by
 intro h_
 refine sw_boxEq (d := 901) (by exact rfl) (at_join (bufAt c n ++ [(rowOf (partAt c (atI c.At n)) (atI c.Pos n))]) hn.2.2.2.2 (by rw [← bufAt_eq hn.2.2.2.2]; simp only [cRowS, List.map_append]; exact rfl)) ?_
 refine sw_frzIn (d := 6) (D := 901) (G := 2901) (A := [val _, val _, sl _ _, sl _ _, sl _ _, sl _ _, sl _ _, sl _ _]) (B := [sl _ _, sl _ _]) (es := ((c.Buffer).set n.toNat (bufAt c n ++ [(rowOf (partAt c (atI c.At n)) (atI c.Pos n))])).map (cRowS (.own 63 2) (.own 3 1))) (by exact rfl) (by exact rfl) (by exact rfl) rfl (by rw [List.length_map, List.length_set, List.length_map]) (by intro c hc; obtain ⟨y, _, rfl⟩ := List.mem_map.1 hc; exact rfl) (by rw [List.length_map]; exact hjk901) ?_
 exact h_.get) : G := w ⟨h⟩
theorem zby (h : H) (w : Hd H → G := by
 intro h_
 refine rK ?_
 refine sw_seq ?_
 exact h_.get) : G := w ⟨h⟩
theorem za7 (h : H) (w : Hd H → G := by
 intro h_
 refine rA ?_ (x := vM false [sl .v _])
 refine rM ?_
 exact h_.get) : G := w ⟨h⟩
theorem zk3 (h : H) (w : Hd H → G := by
 intro h_
 refine dA 16355 ?_ (x := loc_gidx (k := (P.length + j)) (G := 5001) (by decide) sl_36 (by exact ⟨⟩) (by omega) (by omega))
 refine dA 32739 ?_ (x := loc_astore (f := nRow) (e := 2) (k := (P.length + j)) (ag := true) (vs := nRow _) _ (fun _ => rfl) rfl (by first | omega | (simp only [List.length_set]; omega)) ty_63 (by exact ⟨⟩) (by exact rfl))
 exact h_.get) : G := w ⟨h⟩
theorem zi2 (h : H) (w : Hd H → G := by
 intro h_
 refine rA ?_ (x := cL [(true, [val _, val _, sl (.lo _) _, sl (.lo _) _, sl (.lo _) _, sl (.lo _) _, sl (.lo _) _, sl (.lo _) _, sl (.lo _) _, sl (.lo _) _, sl (.lo _) _])] [(true, [val _, val _, sl .v _, sl .v _, sl .v _, sl .v _, sl .v _, sl .v _, sl .v _, sl .v _, sl .v _])] c_11 (hs := by exact spec_IsCluster (by omega)))
 refine rA ?_ (x := nT)
 exact h_.get) : G := w ⟨h⟩
theorem zbx (h : H) (w : Hd H → G := by
 intro h_
 refine sR ?_
 refine rX ?_ (x := (loc_box (ag := true) (cs := [val _, sl _ _]) (by decide) (by exact ⟨⟩)))
 exact h_.get) : G := w ⟨h⟩
theorem zar (h : H) (w : Hd H → G := by
 intro h_
 refine rA ?_ (x := loc_bslice (qs := [(false, [val _]), (false, [val _]), (false, [val _])]) (by decide) sl_25 z_3 (by decide) rfl rfl rfl rfl rfl (by exact nl rfl) (by exact (aI (ok_sc rfl) (aI (ok_sc rfl) (aI (ok_sc rfl) tI)))) rfl)
 refine rA ?_ (x := loc_xcall0 (bx := 0) (qs := [(false, [sl _ _])]) (as_ := [(false, [sl .v _])]) (by decide) c_64 rfl (by exact (aI (by exact ⟨⟩) tI)) (by exact (aI (aI rfl (ToL.cons PV.to_none ToL.nil)) tI)) (by exact (BorL.cons (hbo _) (BorL.cons (bor_val _) (BorL.cons (bor_val _) BorL.nil)))) (by exact (borA_cons (BorL.cons (bor_sl _) BorL.nil) borA_nil)) (by exact (x_l1PickInt (l := [3, 6, 100]) hbo (by decide) (by decide))))
 exact h_.get) : G := w ⟨h⟩
theorem zhy (h : H) (w : Hd H → G := by
 intro h_
 refine zi1 ?_
 refine rA ?_ (x := cL [(true, [val _, val _, sl (.lo _) _, sl (.lo _) _, sl (.lo _) _, sl (.lo _) _, sl (.lo _) _, sl (.lo _) _, sl (.lo _) _, sl (.lo _) _, sl (.lo _) _])] [(true, [val _, val _, sl .v _, sl .v _, sl .v _, sl .v _, sl .v _, sl .v _, sl .v _, sl .v _, sl .v _])] c_38 (hs := by exact spec_l18Copy (by omega)))
 exact h_.get) : G := w ⟨h⟩
theorem zcx (h : H) (w : Hd H → G := by
 intro h_
 refine dA 0 ?_ (x := vM false [sl .v _])
 refine dA 0 ?_ (x := sM)
 exact h_.get) : G := w ⟨h⟩
theorem zgo (h : H) (w : Hd H → G := by
 intro h_
 refine rA ?_ (x := lD [val _, val _, sl .v _, sl .v _, sl .v _, sl .v _, sl .v _, sl .v _, sl .v _, sl .v _, sl .v _] ty_31)
 refine rM ?_
 exact h_.get) : G := w ⟨h⟩
theorem zfr (h : H) (w : Hd H → G := by
 intro h_
 refine rA ?_ (x := lF fd_31_1)
 refine rA ?_ (x := lD [sl .v _] ty_28)
 exact h_.get) : G := w ⟨h⟩
theorem zas (h : H) (w : Hd H → G := by
 intro h_
 refine rK ?_
 refine sw_block ?_
 exact h_.get) : G := w ⟨h⟩
theorem zaa (h : H) (w : Hd H → G := by
 intro h_
 refine zf ga ?_
 refine rA ?_ (x := pkF ga)
 exact h_.get) : G := w ⟨h⟩
theorem zhf (h : H) (w : Hd H → G := by
 intro h_
 refine rB ga ?_ (x := B_sub)
 refine rB ga ?_ (x := cL [(false, [val _]), (false, [val _]), (false, [val _])] [(false, [val _]), (false, [val _]), (false, [val _])] c_47 (hs := by exact spec_l1In))
 exact h_.get) : G := w ⟨h⟩
theorem zcu (h : H) (w : Hd H → G := by
 intro h_
 refine sP [0, 1, 4, 5] [] ?_
 refine sL [0, 1] [] (fun k : Nat => k ≤ x.length ∧ x.take k = y.take k) (fun k : Nat => [(5, RV.int (k : Int))]) (fun k : Nat => []) (fun k : Nat => x.length - k) 0 (by exact ⟨by omega, by simp⟩) (by exact aI (by exact rfl) (tI)) (by exact ⟨⟩) ?_
 exact h_.get) : G := w ⟨h⟩
theorem za2 (h : H) (w : Hd H → G := by
 intro h_
 refine rS ?_
 refine sw_seq ?_
 exact h_.get) : G := w ⟨h⟩
theorem zcd (h : H) (w : Hd H → G := by
 intro h_
 refine rK ?_
 refine sw_ret ?_
 exact h_.get) : G := w ⟨h⟩
theorem zkq (h : H) (w : Hd H → G := by
 intro h_
 refine zbp ?_
 refine rA ?_ (x := B_lss)
 exact h_.get) : G := w ⟨h⟩
theorem zkh (h : H) (w : Hd H → G := by
 intro h_
 refine rA ?_ (x := loc_conv FSyR_ui_3 FSyR_ui_91 (by first | exact (congrArg (IntKind.wrap .u64) fdiv2).trans (IntWalk.u64_in _ (by omega)) | exact IntWalk.u64_in _ (by omega)))
 refine rA ?_ (x := loc_shr (m := 1) rfl (by decide))
 refine rA ?_ (x := loc_conv FSyR_ui_91 FSyR_ui_3 (by first | exact (congrArg (IntKind.wrap .i64) fdiv2).trans (IntWalk.i64_in _ (by omega)) | exact IntWalk.i64_in _ (by omega)))
 exact h_.get) : G := w ⟨h⟩
theorem zbg (h : H) (w : Hd H → G := by
 intro h_
 refine rA ?_ (x := loc_ltake (ms := [val _, val _, sl _ _, sl _ _]) (qs := [val _, val _, sl .v _, sl .v _]) (by decide) ty_27 (fun h => nomatch h) (by exact nl rfl) (by exact rfl) (by exact (ToL.cons (PV.To.refl _) (ToL.cons (PV.To.refl _) (ToL.cons PV.to_none (ToL.cons PV.to_none ToL.nil))))) (by exact (BorL.cons (bor_val _) (BorL.cons (bor_val _) (BorL.cons (bor_sl _) (BorL.cons (bor_sl _) BorL.nil))))))
 refine rA ?_ (x := loc_store (ag := true) (vs := [val _, val _, sl _ _, sl _ _]) ty_27 (by exact ⟨⟩) (by exact rfl) (by exact nl rfl))
 exact h_.get) : G := w ⟨h⟩
theorem zj4 (h : H) (w : Hd H → G := by
 intro h_
 refine sw_boxEq (d := 902) (by exact rfl) (at_join (atI c.Pos n + 1) hn.2.2.2.1 (by rw [← atI_eq hn.2.2.2.1]; exact rfl)) ?_
 refine sw_frzIn (d := 6) (D := 902) (G := 2902) (A := [val _, val _, sl _ _, sl _ _, sl _ _, sl _ _, sl _ _]) (B := [sl _ _, sl _ _, sl _ _]) (es := ((c.Pos).set n.toNat (atI c.Pos n + 1)).map cInt) (by exact rfl) (by exact rfl) (by exact rfl) rfl (by rw [List.length_map, List.length_set, List.length_map]) (by intro c hc; obtain ⟨y, _, rfl⟩ := List.mem_map.1 hc; exact rfl) (by rw [List.length_map]; exact hjk902) ?_
 exact h_.get) : G := w ⟨h⟩
theorem zj6 (h : H) (w : Hd H → G := by
 intro h_
 refine sw_boxEq (d := 903) (by exact rfl) (at_join (atI c.Pos n + 1) hn.2.2.2.1 (by rw [← atI_eq hn.2.2.2.1]; exact rfl)) ?_
 refine sw_frzIn (d := 6) (D := 903) (G := 2903) (A := [val _, val _, sl _ _, sl _ _, sl _ _, sl _ _, sl _ _]) (B := [sl _ _, sl _ _, sl _ _]) (es := ((c.Pos).set n.toNat (atI c.Pos n + 1)).map cInt) (by exact rfl) (by exact rfl) (by exact rfl) rfl (by rw [List.length_map, List.length_set, List.length_map]) (by intro c hc; obtain ⟨y, _, rfl⟩ := List.mem_map.1 hc; exact rfl) (by rw [List.length_map]; exact hjk903) ?_
 exact h_.get) : G := w ⟨h⟩
theorem zbm (h : H) (w : Hd H → G := by
 intro h_
 refine rA ?_ (x := kM)
 refine sw_block ?_
 exact h_.get) : G := w ⟨h⟩
theorem zc1 (h : H) (w : Hd H → G := by
 intro h_
 refine rA ?_ (x := cL [(false, [val _]), (false, [val _]), (false, [val _])] [(false, [val _]), (false, [val _]), (false, [val _])] c_40 (hs := by exact impl_within))
 refine rA ?_ (x := nT)
 exact h_.get) : G := w ⟨h⟩
theorem zhu (h : H) (w : Hd H → G := by
 intro h_
 refine dA 128 ?_ (x := lD [sl .v _] ty_29)
 refine dA 511 ?_ (x := loc_appendb (by decide) sl_29 z_4 rfl rfl (by decide) (by first | (intro cs hcs; obtain ⟨x, _, rfl⟩ := List.mem_map.1 hcs; exact rfl) | simp) (by first | (intro cs hcs; obtain ⟨x, _, rfl⟩ := List.mem_map.1 hcs; exact (BorL.cons (bor_val _) BorL.nil)) | simp) (by simp only [List.length_map, List.length_append, List.length_cons, List.length_nil]; omega) (by simp only [List.length_map, List.length_append, List.length_cons, List.length_nil]; omega))
 exact h_.get) : G := w ⟨h⟩
theorem zir (h : H) (w : Hd H → G := by
 intro h_
 refine sw_boxEq (d := 900) (by exact rfl) (at_join (nextSeg c n) hn.2.2.1 (by exact rfl)) ?_
 refine sw_frzIn (d := 6) (D := 900) (G := 2900) (A := [val _, val _, sl _ _, sl _ _, sl _ _, sl _ _]) (B := [sl _ _, sl _ _, sl _ _, sl _ _]) (es := ((c.At).set n.toNat (nextSeg c n)).map cInt) (by exact rfl) (by exact rfl) (by exact rfl) rfl (by rw [List.length_map, List.length_set, List.length_map]) (by intro c hc; obtain ⟨y, _, rfl⟩ := List.mem_map.1 hc; exact rfl) (by rw [List.length_map]; exact hjk900) ?_
 exact h_.get) : G := w ⟨h⟩
theorem zdi (h : H) (w : Hd H → G := by
 intro h_
 refine rA ?_ (x := pkT ga)
 refine rM ?_
 exact h_.get) : G := w ⟨h⟩
theorem za8 (h : H) (w : Hd H → G := by
 intro h_
 refine zkf ?_
 refine rS ?_
 exact h_.get) : G := w ⟨h⟩
theorem zbv (h : H) (w : Hd H → G := by
 intro h_
 refine rA ?_ (x := loc_appendb (by decide) sl_25 z_3 rfl rfl (by decide) (by first | (intro cs hcs; obtain ⟨x, _, rfl⟩ := List.mem_map.1 hcs; exact rfl) | simp) (by first | (intro cs hcs; obtain ⟨x, _, rfl⟩ := List.mem_map.1 hcs; exact (BorL.cons (bor_val _) BorL.nil)) | simp) (by simp only [List.length_map, List.length_append, List.length_cons, List.length_nil]; omega) (by simp only [List.length_map, List.length_append, List.length_cons, List.length_nil]; omega))
 refine rA ?_ (x := tA)
 exact h_.get) : G := w ⟨h⟩
theorem zcz (h : H) (w : Hd H → G := by
 intro h_
 refine dA 48 ?_ (x := loc_index (by decide) sl_25 (by exact ⟨⟩) (by exact rfl) (by exact getm2 (by omega) rfl) (by exact rfl))
 refine dA 112 ?_ (x := lE [val _] ty_3)
 exact h_.get) : G := w ⟨h⟩
theorem zcy (h : H) (w : Hd H → G := by
 intro h_
 refine dA 3 ?_ (x := loc_index (by decide) sl_25 (by exact ⟨⟩) (by exact rfl) (by exact getm2 (by omega) rfl) (by exact rfl))
 refine dA 7 ?_ (x := lE [val _] ty_3)
 exact h_.get) : G := w ⟨h⟩
theorem zbr (h : H) (w : Hd H → G := by
 intro h_
 refine rA ?_ (x := B_add)
 refine rM ?_
 exact h_.get) : G := w ⟨h⟩
theorem za4 (h : H) (w : Hd H → G := by
 intro h_
 refine zk8 ?_
 refine rM ?_
 exact h_.get) : G := w ⟨h⟩
theorem zgg (h : H) (w : Hd H → G := by
 intro h_
 refine rA ?_ (x := lF fd_31_6)
 refine rA ?_ (x := lD [sl .v _] ty_25)
 exact h_.get) : G := w ⟨h⟩
theorem zjw (h : H) (w : Hd H → G := by
 intro h_
 refine dA 0 ?_ (x := cM Cp.ptr)
 refine dA 4 ?_ (x := loc_xcall0 (bx := 0) (qs := [(false, [val _])]) (as_ := [(false, [val _])]) (by decide) c_65 rfl (by exact (aI (ok_sc rfl) tI)) (by exact (aI (aI rfl (ToL.cons (PV.To.refl _) ToL.nil)) tI)) (by exact (BorL.cons (bor_lo _ _) (BorL.cons (bor_val _) (BorL.cons (bor_val _) BorL.nil)))) (by exact (borA_cons (BorL.cons (bor_val _) BorL.nil) borA_nil)) (by exact (x_l1Below (fun es => bor_lo _ es) (by omega))))
 exact h_.get) : G := w ⟨h⟩
theorem ziz (h : H) (w : Hd H → G := by
 intro h_
 refine dA 768 ?_ (x := loc_bslice (qs := [(true, [val _, sl _ _])]) (by decide) sl_36 z_63 (by decide) rfl rfl rfl rfl rfl (by exact nl rfl) (by exact (aI (by exact ⟨⟩) tI)) rfl)
 refine dA 2040 ?_ (x := loc_append (by decide) sl_36 z_63 rfl rfl (by decide) rfl (by simp only [List.length_map, List.length_append, List.length_cons, List.length_nil]; omega) (by simp only [List.length_map, List.length_append, List.length_cons, List.length_nil]; omega))
 exact h_.get) : G := w ⟨h⟩
theorem zjl (h : H) (w : Hd H → G := by
 intro h_
 refine rA ?_ (x := loc_bslice (qs := [(false, [sl _ _])]) (by decide) sl_28 z_36 (by decide) rfl rfl rfl rfl rfl (by exact nl rfl) (by exact (aI (by exact ⟨⟩) tI)) rfl)
 refine rA ?_ (x := loc_append (by decide) sl_28 z_36 rfl rfl (by decide) rfl (by simp only [List.length_map, List.length_replicate, List.length_cons, List.length_nil]; omega) (by simp only [List.length_map, List.length_replicate, List.length_cons, List.length_nil]; omega))
 exact h_.get) : G := w ⟨h⟩
theorem zdd (h : H) (w : Hd H → G := by
 intro h_
 refine rA ?_ (x := vM false [sl .v _])
 refine rA ?_ (x := lN sl_28)
 exact h_.get) : G := w ⟨h⟩
theorem zav (h : H) (w : Hd H → G := by
 intro h_
 refine rA ?_ (x := loc_ltake (ms := [sl _ _]) (qs := [sl .v _]) (by decide) ty_25 (fun _ => rfl) (by exact nl rfl) (by exact rfl) (by exact (ToL.cons PV.to_none ToL.nil)) (by exact (BorL.cons (bor_sl _) BorL.nil)))
 refine rM ?_
 exact h_.get) : G := w ⟨h⟩
theorem zb7 (h : H) (w : Hd H → G := by
 intro h_
 refine rA ?_ (x := cM Cp.ptr)
 refine rA ?_ (x := loc_xcall0 (bx := 0) (qs := [(false, [val _])]) (as_ := [(false, [val _])]) (by decide) c_111 rfl (by exact (aI (ok_sc rfl) tI)) (by exact (aI (aI rfl (ToL.cons (PV.To.refl _) ToL.nil)) tI)) (by exact (BorL.cons (hbo _) (BorL.cons (bor_val _) (BorL.cons (bor_val _) BorL.nil)))) (by exact (borA_cons (BorL.cons (bor_val _) BorL.nil) borA_nil)) (by exact (x_l1Once hbo (by omega))))
 exact h_.get) : G := w ⟨h⟩
theorem zau (h : H) (w : Hd H → G := by
 intro h_
 refine za6 ?_
 refine sw_seq ?_
 exact h_.get) : G := w ⟨h⟩
theorem ziy (h : H) (w : Hd H → G := by
 intro h_
 refine dA 56 ?_ (x := loc_gidx (k := n.toNat) (G := 2901) (by decide) sl_28 (by exact ⟨⟩) (by omega) (by first | (rw [List.length_map]; exact hn.2.2.2.2) | exact hn.2.2.2.2))
 refine dA 120 ?_ (x := loc_ltakeM (o := 0) (ms := [sl _ _]) (qs := [sl .v _]) (by omega) (by decide) ty_36 (fun _ => rfl) (by exact nl rfl) (by exact rfl) (by exact (ToL.cons PV.to_none ToL.nil)) (by exact (BorL.cons (bor_sl _) BorL.nil)))
 exact h_.get) : G := w ⟨h⟩
theorem zaz (h : H) (w : Hd H → G := by
 intro h_
 refine rA ?_ (x := loc_ltake (ms := [val _, sl _ _]) (qs := [val _, sl .v _]) (by decide) ty_63 (fun h => nomatch h) (by exact nl rfl) (by exact rfl) (by exact (ToL.cons (PV.To.refl _) (ToL.cons PV.to_none ToL.nil))) (by exact (BorL.cons (bor_val _) (BorL.cons (bor_sl _) BorL.nil))))
 refine rA ?_ (x := loc_store (ag := true) (vs := [val _, sl _ _]) ty_63 (by exact ⟨⟩) (by exact rfl) (by exact nl rfl))
 exact h_.get) : G := w ⟨h⟩
theorem zbz (h : H) (w : Hd H → G := by
 intro h_
 refine rA ?_ (x := lF fd_63_1)
 refine rA ?_ (x := lD [sl .v _] ty_25)
 exact h_.get) : G := w ⟨h⟩
theorem zh2 (h : H) (w : Hd H → G := by
 intro h_
 refine rA ?_ (x := lD [val _, val _, sl .v _, sl .v _, sl .v _, sl .v _, sl .v _, sl .v _, sl .v _, sl .v _, sl .v _] ty_31)
 refine rA ?_ (x := cL [(true, [val _, val _, sl _ _, sl _ _, sl _ _, sl _ _, sl _ _, sl _ _, sl _ _, sl _ _, sl _ _])] [(true, [val _, val _, sl .v _, sl .v _, sl .v _, sl .v _, sl .v _, sl .v _, sl .v _, sl .v _, sl .v _])] c_10 (hs := by exact impl_IsCluster (by omega)))
 exact h_.get) : G := w ⟨h⟩
theorem zhd (h : H) (w : Hd H → G := by
 intro h_
 refine rA ?_ (x := lD [val _, val _, sl .v _, sl .v _, sl .v _, sl .v _, sl .v _, sl .v _, sl .v _, sl .v _, sl .v _] ty_31)
 refine rA ?_ (x := cL [(true, [val _, val _, sl _ _, sl _ _, sl _ _, sl _ _, sl _ _, sl _ _, sl _ _, sl _ _, sl _ _])] [(true, [val _, val _, sl .v _, sl .v _, sl .v _, sl .v _, sl .v _, sl .v _, sl .v _, sl .v _, sl .v _])] c_11 (hs := by exact spec_IsCluster (by omega)))
 exact h_.get) : G := w ⟨h⟩
theorem zjb (h : H) (w : Hd H → G := by
 intro h_
 refine dA 7 ?_ (x := loc_index (k := (n).toNat) (by decide) sl_25 (by exact ⟨⟩) (by omega) (by exact getm2 (by omega) (by rw [atI_eq (by omega)])) (by exact rfl))
 refine dA 15 ?_ (x := lE [val _] ty_3)
 exact h_.get) : G := w ⟨h⟩
theorem zay (h : H) (w : Hd H → G := by
 intro h_
 refine sw_exit ?_
 refine sw_seq ?_
 exact h_.get) : G := w ⟨h⟩
theorem zj7 (h : H) (w : Hd H → G := by
 intro h_
 refine sw_seq ?_
 refine sO [(1, _), (2, _), (4, _), (5, _), (6, _), (7, _), (8, _)] [(2, _), (4, _), (6, (31, [val _, val _, sl _ _, sl _ _, sl _ _, sl _ _, sl _ _, sl _ _, sl _ _, sl _ _, sl _ _]))] ?_
 exact h_.get) : G := w ⟨h⟩
theorem zji (h : H) (w : Hd H → G := by
 intro h_
 refine sO [(1, _), (2, _), (3, _), (6, _), (7, _), (8, _), (9, _)] [(3, _), (6, _), (8, (31, [val _, val _, sl _ _, sl _ _, sl _ _, sl _ _, sl _ _, sl _ _, sl _ _, sl _ _, sl _ _]))] ?_
 refine sw_reg ?_
 exact h_.get) : G := w ⟨h⟩
theorem zef (h : H) (w : Hd H → G := by
 intro h_
 refine zt gb ?_
 refine rA ?_ (x := pkT gb)
 exact h_.get) : G := w ⟨h⟩
theorem zka (h : H) (w : Hd H → G := by
 intro h_
 refine sO [(0, _), (1, _), (2, _), (3, _), (4, _), (10, _), (11, _), (5000, _), (5001, _)] [(0, (63, arr nRow _ _))] ?_
 refine sw_reg ?_
 exact h_.get) : G := w ⟨h⟩
theorem zan (h : H) (w : Hd H → G := by
 intro h_
 refine rS ?_
 refine sw_ret ?_
 exact h_.get) : G := w ⟨h⟩
theorem zki (h : H) (w : Hd H → G := by
 intro h_
 refine sw_draw hm_ ?_
 refine dA 0 ?_ (x := loc_copy (r' := RV.sv false [PV.clo _ _ _]) (.inl rfl) (by decide) (by exact Cp.sv (ToL.cons (PV.To.refl _) ToL.nil) (BorL.cons (bor_clo _ _) BorL.nil)))
 exact h_.get) : G := w ⟨h⟩
theorem zcg (h : H) (w : Hd H → G := by
 intro h_
 refine rA ?_ (x := loc_const (.inr rfl) (by decide) (ok_nil (t := 63) (e := 2)))
 refine sS [0, 2] [] ?_
 exact h_.get) : G := w ⟨h⟩
theorem ziu (h : H) (w : Hd H → G := by
 intro h_
 refine rM ?_
 refine rA ?_ (x := loc_index (k := (atI c.At n).toNat) (by decide) sl_28 (by exact ⟨⟩) (by omega) (by exact getm2 (by omega) (by rw [partAt_eq (by omega)])) (by exact rfl))
 exact h_.get) : G := w ⟨h⟩
theorem zly (h : H) (w : Hd H → G := by
 intro h_
 refine sS [0, 1, 2, 3, 4, 18, 19, 20, 21, 22, 24, 5000, 5001] [0] ?_
 refine zkq ?_
 exact h_.get) : G := w ⟨h⟩
theorem zk4 (h : H) (w : Hd H → G := by
 intro h_
 refine dA 65535 ?_ (x := loc_gidx (k := (P.length + j - 1)) (G := 5001) (by decide) sl_36 (by exact ⟨⟩) (by omega) (by omega))
 refine dA 131071 ?_ (x := loc_astore (f := nRow) (e := 2) (k := (P.length + j - 1)) (ag := true) (vs := nRow _) _ (fun _ => rfl) rfl (by first | omega | (simp only [List.length_set]; omega)) ty_63 (by exact ⟨⟩) (by exact rfl))
 exact h_.get) : G := w ⟨h⟩
theorem zkp (h : H) (w : Hd H → G := by
 intro h_
 refine sO [(0, _), (1, _), (2, _), (6, _), (7, _), (8, _), (5000, _), (5001, _)] [(0, (63, arr nRow _ _))] ?_
 refine sw_reg ?_
 exact h_.get) : G := w ⟨h⟩
theorem zjk (h : H) (w : Hd H → G := by
 intro h_
 refine rA ?_ (x := loc_ltake (ms := [sl _ _]) (qs := [sl .v _]) (by decide) ty_28 (fun _ => rfl) (by exact nl rfl) (by exact rfl) (by exact (ToL.cons PV.to_none ToL.nil)) (by exact (BorL.cons (bor_sl _) BorL.nil)))
 refine rA ?_ (x := loc_bslice (qs := []) (by decide) sl_36 z_63 (by decide) rfl rfl rfl rfl rfl (by exact nl rfl) (by exact ⟨⟩) rfl)
 exact h_.get) : G := w ⟨h⟩
theorem zf8 (h : H) (w : Hd H → G := by
 intro h_
 refine rA ?_ (x := lF fd_27_2)
 refine rA ?_ (x := lD [sl .v _] ty_24)
 exact h_.get) : G := w ⟨h⟩
theorem zbi (h : H) (w : Hd H → G := by
 intro h_
 refine rM ?_
 refine rA ?_ (x := cL [(false, [val _]), (false, [val _]), (false, [val _])] [(false, [val _]), (false, [val _]), (false, [val _])] c_40 (hs := by exact impl_within))
 exact h_.get) : G := w ⟨h⟩
theorem zca (h : H) (w : Hd H → G := by
 intro h_
 refine rA ?_ (x := cL [(false, [val _]), (false, [val _]), (false, [val _])] [(false, [val _]), (false, [val _]), (false, [val _])] c_47 (hs := by exact spec_l1In))
 refine rM ?_
 exact h_.get) : G := w ⟨h⟩
theorem zab (h : H) (w : Hd H → G := by
 intro h_
 refine sR ?_
 refine zby ?_
 exact h_.get) : G := w ⟨h⟩
theorem zj0 (h : H) (w : Hd H → G := by
 intro h_
 refine dA 4095 ?_ (x := loc_gidx (k := n.toNat) (G := 2901) (by decide) sl_28 (by exact ⟨⟩) (by omega) (by first | (rw [List.length_map]; exact hn.2.2.2.2) | exact hn.2.2.2.2))
 refine dA 8191 ?_ (x := loc_storeM (o := 0) (ag := false) (vs := [sl _ _]) (by omega) ty_36 (by exact ⟨⟩) (by exact rfl) (by exact nl rfl))
 exact h_.get) : G := w ⟨h⟩
theorem zkc (h : H) (w : Hd H → G := by
 intro h_
 refine rA ?_ (x := vM false [val _])
 refine zbp ?_
 exact h_.get) : G := w ⟨h⟩
theorem zjs (h : H) (w : Hd H → G := by
 intro h_
 refine sO [(0, _), (2, _), (3, _), (4, _), (5, _), (5000, _)] [(0, (74, [sl o _, val _, val _])), (2, (31, [val _, val _, sl _ _, sl _ _, sl _ _, sl _ _, sl _ _, sl _ _, sl _ _, sl _ _, sl _ _])), (3, (31, [val _, val _, sl _ _, sl _ _, sl _ _, sl _ _, sl _ _, sl _ _, sl _ _, sl _ _, sl _ _]))] ?_
 refine sw_reg ?_
 exact h_.get) : G := w ⟨h⟩
theorem zbl (h : H) (w : Hd H → G := by
 intro h_
 refine zab ?_
 refine sS [0, 1, 4] [] ?_
 exact h_.get) : G := w ⟨h⟩
theorem zd6 (h : H) (w : Hd H → G := by
 intro h_
 refine zbx ?_
 refine rX ?_ (x := (loc_box (ag := true) (cs := [val _, sl _ _]) (by decide) (by exact ⟨⟩)))
 exact h_.get) : G := w ⟨h⟩
theorem zhp (h : H) (w : Hd H → G := by
 intro h_
 refine rA ?_ (x := loc_bslice (qs := []) (by decide) sl_28 z_36 (by decide) rfl rfl rfl rfl rfl (by exact nl rfl) (by exact ⟨⟩) rfl)
 refine rA ?_ (x := tA)
 exact h_.get) : G := w ⟨h⟩
theorem ze0 (h : H) (w : Hd H → G := by
 intro h_
 refine zt g2 ?_
 refine rA ?_ (x := pkT g2)
 exact h_.get) : G := w ⟨h⟩
theorem zfh (h : H) (w : Hd H → G := by
 intro h_
 refine rA ?_ (x := loc_bslice (qs := []) (by decide) sl_25 z_3 (by decide) rfl rfl rfl rfl rfl (by exact nl rfl) (by exact ⟨⟩) rfl)
 refine rA ?_ (x := tA)
 exact h_.get) : G := w ⟨h⟩
theorem zi7 (h : H) (w : Hd H → G := by
 intro h_
 refine rA ?_ (x := loc_gidx (k := n.toNat) (G := 2900) (by decide) sl_29 (by exact ⟨⟩) (by omega) (by first | (rw [List.length_map]; exact hn.2.1) | exact hn.2.1))
 refine rA ?_ (x := loc_storeM (o := 0) (ag := false) (vs := [val _]) (by omega) ty_4 (ok_sc rfl) (by exact rfl) (by exact nl rfl))
 exact h_.get) : G := w ⟨h⟩
theorem zjj (h : H) (w : Hd H → G := by
 intro h_
 refine zb3 ?_
 refine rA ?_ (x := loc_append (by decide) sl_25 z_3 rfl rfl (by decide) rfl (by simp only [List.length_map, List.length_replicate, List.length_cons, List.length_nil]; omega) (by simp only [List.length_map, List.length_replicate, List.length_cons, List.length_nil]; omega))
 exact h_.get) : G := w ⟨h⟩
theorem zgx (h : H) (w : Hd H → G := by
 intro h_
 refine rM ?_
 refine rA ?_ (x := cL [(false, [sl _ _]), (false, [val _])] [(false, [sl .v _]), (false, [val _])] c_48 (hs := by exact spec_HasMember))
 exact h_.get) : G := w ⟨h⟩
theorem zgy (h : H) (w : Hd H → G := by
 intro h_
 refine sw_draw hm_ ?_
 refine dA 0 ?_ (x := lD [val _, val _, sl .v _, sl .v _, sl .v _, sl .v _, sl .v _, sl .v _, sl .v _, sl .v _, sl .v _] ty_31)
 exact h_.get) : G := w ⟨h⟩
theorem zbn (h : H) (w : Hd H → G := by
 intro h_
 refine sR ?_
 refine rA ?_ (x := B_lss)
 refine sw_seq ?_
 exact h_.get) : G := w ⟨h⟩
theorem ze6 (h : H) (w : Hd H → G := by
 intro h_
 refine rA ?_ (x := loc_store (ag := true) (vs := [val _, val _, val _]) ty_79 (by exact ⟨⟩) (by exact rfl) (by exact nl rfl))
 refine sw_seq ?_
 exact h_.get) : G := w ⟨h⟩
theorem zm3 (h : H) (w : Hd H → G := by
 intro h_
 refine sw_boxEq (d := 0) (by exact rfl) (show _ = arr nRow (sy1 P A B R s t) jk from congrArg (fun z_ => arr nRow z_ jk) (by first | exact rfl | exact sy_rot' | exact (hz.trans sy0_eq).trans (sy1_eq hr0))) ?_
 refine sG [0, 1, 2, 3, 4, 18, 19, 20, 21, 22, 24, 5000, 5001] [0] ?_
 exact h_.get) : G := w ⟨h⟩
theorem zae (h : H) (w : Hd H → G := by
 intro h_
 refine sw_seq ?_
 refine sw_seq ?_
 exact h_.get) : G := w ⟨h⟩
theorem zk2 (h : H) (w : Hd H → G := by
 intro h_
 refine zij ?_
 refine dA 3072 ?_ (x := loc_gidx (k := (P.length + j)) (G := 5001) (by decide) sl_36 (by exact ⟨⟩) (by omega) (by omega))
 exact h_.get) : G := w ⟨h⟩
theorem zfp (h : H) (w : Hd H → G := by
 intro h_
 refine dA 0 ?_ (x := lF fd_31_0)
 refine dA 1 ?_ (x := lD [val _, val _, sl .v _, sl .v _] ty_27)
 exact h_.get) : G := w ⟨h⟩
theorem zd9 (h : H) (w : Hd H → G := by
 intro h_
 refine rB ga ?_ (x := lF fd_63_1)
 refine rB ga ?_ (x := lD [sl .v _] ty_25)
 exact h_.get) : G := w ⟨h⟩
theorem zet (h : H) (w : Hd H → G := by
 intro h_
 refine rB gc ?_ (x := lF fd_31_3)
 refine rB gc ?_ (x := lD [sl .v _] ty_25)
 exact h_.get) : G := w ⟨h⟩
theorem zco (h : H) (w : Hd H → G := by
 intro h_
 refine zcc ?_
 refine rA ?_ (x := cL [(true, [val _, sl _ _])] [(true, [val _, sl .v _])] c_54 (hs := by exact spec_l3Copy (by omega)))
 exact h_.get) : G := w ⟨h⟩
theorem zep (h : H) (w : Hd H → G := by
 intro h_
 refine rA ?_ (x := nT)
 refine rM ?_
 exact h_.get) : G := w ⟨h⟩
theorem zeo (h : H) (w : Hd H → G := by
 intro h_
 refine rA ?_ (x := lF fd_31_0)
 refine rA ?_ (x := lD [val _, val _, sl .v _, sl .v _] ty_27)
 exact h_.get) : G := w ⟨h⟩
theorem zdm (h : H) (w : Hd H → G := by
 intro h_
 refine zf gb ?_
 refine rA ?_ (x := pkF gb)
 exact h_.get) : G := w ⟨h⟩
theorem zhs (h : H) (w : Hd H → G := by
 intro h_
 refine rX ?_ (x := (loc_alloc (by decide) z_31 zo_31))
 refine sw_seq ?_
 exact h_.get) : G := w ⟨h⟩
theorem zac (h : H) (w : Hd H → G := by
 intro h_
 refine sw_reg ?_
 refine rA ?_ (x := cM Cp.ptr)
 exact h_.get) : G := w ⟨h⟩
theorem zl6 (h : H) (w : Hd H → G := by
 intro h_
 refine Run.stepC 127 (by exact ⟨rfl, ⟨⟩⟩) (by exact ⟨⟩) (LocG.of rfl (loc_take (.inl rfl) (by decide))) nofree (by kernel_rfl) (by intro L' h; exact nomatch (show (none : Option Step) = some L' from h)) ?_
 refine Run.stepC 255 (by exact ⟨rfl, ⟨⟩⟩) (by exact ⟨⟩) (LocG.of rfl (loc_extractb (cs := [val _, val _, val _, val _, val _, val _, val _, val _, val _, val _, val _]) (by decide) (by exact rfl) (by exact (BorL.cons (bor_val _) (BorL.cons (bor_val _) (BorL.cons (bor_val _) (BorL.cons (bor_val _) (BorL.cons (bor_val _) (BorL.cons (bor_val _) (BorL.cons (bor_val _) (BorL.cons (bor_val _) (BorL.cons (bor_val _) (BorL.cons (bor_val _) (BorL.cons (bor_val _) BorL.nil)))))))))))))) nofree (by kernel_rfl) (by intro L' h; exact nomatch (show (none : Option Step) = some L' from h)) ?_
 refine Run.stepC 255 (by exact ⟨rfl, ⟨⟩⟩) (by exact ⟨⟩) (LocG.of rfl (loc_extractb (cs := [val _]) (by decide) (by exact rfl) (by exact (BorL.cons (bor_val _) BorL.nil)))) nofree (by kernel_rfl) (by intro L' h; exact nomatch (show (none : Option Step) = some L' from h)) ?_
 exact h_.get) : G := w ⟨h⟩
theorem zj3 (h : H) (w : Hd H → G := by
 intro h_
 refine rA ?_ (x := loc_loadM (o := 0) (qs := [val _]) (by omega) (by decide) ty_3 (fun _ => rfl) (by exact nl rfl) (by exact (ToL.cons (PV.To.refl _) ToL.nil)) (by exact (BorL.cons (bor_val _) BorL.nil)))
 refine rA ?_ (x := B_add)
 exact h_.get) : G := w ⟨h⟩
theorem zi6 (h : H) (w : Hd H → G := by
 intro h_
 refine sO [(1, _), (2, _), (4, _), (5, _), (6, _), (2900, _)] [(2, _), (4, _), (6, (31, [val _, val _, sl _ _, sl _ _, sl _ _, val _, sl _ _, sl _ _, sl _ _, sl _ _, sl _ _])), (900, (4, _ ++ ([val _] ++ _)))] ?_
 refine sw_reg ?_
 exact h_.get) : G := w ⟨h⟩
theorem zil (h : H) (w : Hd H → G := by
 intro h_
 refine zbp ?_
 refine rA ?_ (x := B_sub)
 exact h_.get) : G := w ⟨h⟩
theorem zey (h : H) (w : Hd H → G := by
 intro h_
 refine rA ?_ (x := lF fd_31_2)
 refine rA ?_ (x := lD [sl .v _] ty_29)
 refine rA ?_ (x := lN sl_29)
 exact h_.get) : G := w ⟨h⟩
theorem zgu (h : H) (w : Hd H → G := by
 intro h_
 refine dA 1 ?_ (x := lD [sl .v _] ty_25)
 refine dA 0 ?_ (x := sM)
 exact h_.get) : G := w ⟨h⟩
theorem zbd (h : H) (w : Hd H → G := by
 intro h_
 refine sO [(0, _), (1, _), (4, _), (5, _), (6, _), (7, _), (10, _), (5000, _)] [(0, (74, [sl o _, val _, val _])), (4, (27, [val _, val _, sl _ _, sl _ _])), (5, (27, [val _, val _, sl _ _, sl _ _]))] ?_
 refine sw_reg ?_
 exact h_.get) : G := w ⟨h⟩
theorem zj2 (h : H) (w : Hd H → G := by
 intro h_
 refine sw_seq ?_
 refine sO [(1, _), (2, _), (4, _), (5, _), (6, _), (7, _), (8, _), (9, _)] [(2, _), (4, _), (6, (31, [val _, val _, sl _ _, sl _ _, sl _ _, sl _ _, sl _ _, sl _ _, sl _ _, sl _ _, sl _ _])), (9, _)] ?_
 exact h_.get) : G := w ⟨h⟩
theorem zb6 (h : H) (w : Hd H → G := by
 intro h_
 refine sO [(0, _), (1, _), (4, _), (5, _), (6, _), (7, _), (5000, _)] [(0, (74, [sl o _, val _, val _])), (4, (27, [val _, val _, sl _ _, sl _ _])), (5, (27, [val _, val _, sl _ _, sl _ _]))] ?_
 refine sw_reg ?_
 exact h_.get) : G := w ⟨h⟩
theorem zfw (h : H) (w : Hd H → G := by
 intro h_
 refine rB ga ?_ (x := loc_index (k := (n).toNat) (by decide) sl_28 (by exact ⟨⟩) (by omega) (by exact getm2 (by omega) (by rw [bufAt_eq (by omega)])) (by exact rfl))
 refine rB ga ?_ (x := lE [sl .v _] ty_36)
 exact h_.get) : G := w ⟨h⟩
theorem zjc (h : H) (w : Hd H → G := by
 intro h_
 refine sw_seq ?_
 refine sO [(1, _), (2, _), (4, _), (5, _), (6, _), (7, _), (8, _)] [(2, _), (4, _), (6, (31, [val _, val _, sl _ _, sl _ _, sl _ _, sl _ _, sl _ _, sl _ _, sl _ _, sl _ _, sl _ _])), (8, _)] ?_
 exact h_.get) : G := w ⟨h⟩
theorem zf7 (h : H) (w : Hd H → G := by
 intro h_
 refine rB gb ?_ (x := lD [val _, val _, sl .v _, sl .v _] ty_27)
 refine rB gb ?_ (x := cL [(true, [val _, val _, sl _ _, sl _ _])] [(true, [val _, val _, sl .v _, sl .v _])] c_45 (hs := by exact spec_IsQuery))
 exact h_.get) : G := w ⟨h⟩
theorem ze2 (h : H) (w : Hd H → G := by
 intro h_
 refine rB ga ?_ (x := lD [val _] ty_3)
 refine rB ga ?_ (x := cL [(false, [val _]), (false, [val _]), (false, [val _])] [(false, [val _]), (false, [val _]), (false, [val _])] c_40 (hs := by exact impl_within))
 exact h_.get) : G := w ⟨h⟩
theorem zfg (h : H) (w : Hd H → G := by
 intro h_
 refine rB gb ?_ (x := nT)
 refine rA ?_ (x := pkF gb)
 exact h_.get) : G := w ⟨h⟩
theorem zjd (h : H) (w : Hd H → G := by
 intro h_
 refine dA 56 ?_ (x := loc_index (k := (n).toNat) (by decide) sl_25 (by exact ⟨⟩) (by omega) (by exact getm2 (by omega) (by rw [atI_eq (by omega)])) (by exact rfl))
 refine dA 120 ?_ (x := lE [val _] ty_3)
 exact h_.get) : G := w ⟨h⟩
theorem zdo (h : H) (w : Hd H → G := by
 intro h_
 refine rB ga ?_ (x := lD [val _] ty_3)
 refine rB ga ?_ (x := cL [(false, [val _]), (false, [val _]), (false, [val _])] [(false, [val _]), (false, [val _]), (false, [val _])] c_47 (hs := by exact spec_l1In))
 exact h_.get) : G := w ⟨h⟩
theorem zfo (h : H) (w : Hd H → G := by
 intro h_
 refine zk8 ?_
 refine zkq ?_
 exact h_.get) : G := w ⟨h⟩
theorem zf4 (h : H) (w : Hd H → G := by
 intro h_
 refine rA ?_ (x := lD [val _, val _, sl .v _, sl .v _] ty_27)
 refine rA ?_ (x := cL [(true, [val _, val _, sl _ _, sl _ _])] [(true, [val _, val _, sl .v _, sl .v _])] c_74 (hs := by exact impl_IsQuery))
 exact h_.get) : G := w ⟨h⟩
theorem zdz (h : H) (w : Hd H → G := by
 intro h_
 refine zt ga ?_
 refine zdi ?_
 exact h_.get) : G := w ⟨h⟩
theorem zer (h : H) (w : Hd H → G := by
 intro h_
 refine rB ga ?_ (x := lF fd_31_1)
 refine rB ga ?_ (x := lD [sl .v _] ty_28)
 exact h_.get) : G := w ⟨h⟩
theorem zes (h : H) (w : Hd H → G := by
 intro h_
 refine rB gb ?_ (x := lF fd_31_2)
 refine rB gb ?_ (x := lD [sl .v _] ty_29)
 exact h_.get) : G := w ⟨h⟩
theorem zig (h : H) (w : Hd H → G := by
 intro h_
 refine rM ?_
 refine rA ?_ (x := cL [(false, [val _])] [(false, [val _])] c_114 (hs := by exact cmp_isNaN))
 exact h_.get) : G := w ⟨h⟩
theorem zgm (h : H) (w : Hd H → G := by
 intro h_
 refine dA 28 ?_ (x := loc_index (by decide) sl_28 (by exact ⟨⟩) (by exact rfl) (by exact getm2 (by omega) (by rw [partN (by omega)])) (by exact rfl))
 refine dA 60 ?_ (x := lE [sl .v _] ty_36)
 exact h_.get) : G := w ⟨h⟩
theorem zg7 (h : H) (w : Hd H → G := by
 intro h_
 refine zfr ?_
 refine rA ?_ (x := lN sl_28)
 exact h_.get) : G := w ⟨h⟩
theorem zgs (h : H) (w : Hd H → G := by
 intro h_
 refine rB gb ?_ (x := sM)
 refine rB gb ?_ (x := cL [(false, [val _]), (false, [val _]), (false, [val _])] [(false, [val _]), (false, [val _]), (false, [val _])] c_47 (hs := by exact spec_l1In))
 exact h_.get) : G := w ⟨h⟩
theorem zic (h : H) (w : Hd H → G := by
 intro h_
 refine rA ?_ (x := lD [val _] ty_25)
 refine rM ?_
 exact h_.get) : G := w ⟨h⟩
theorem zie (h : H) (w : Hd H → G := by
 intro h_
 refine zic ?_
 refine rA ?_ (x := loc_gidx (k := n.toNat) (G := 2902) (by decide) sl_25 (by exact ⟨⟩) (by omega) (by first | (rw [List.length_map]; exact hn.2.2.2.1) | exact hn.2.2.2.1))
 exact h_.get) : G := w ⟨h⟩
theorem zah (h : H) (w : Hd H → G := by
 intro h_
 refine sw_reg ?_
 refine rM ?_
 exact h_.get) : G := w ⟨h⟩
theorem zgk (h : H) (w : Hd H → G := by
 intro h_
 refine rA ?_ (x := loc_index (by decide) sl_28 (by exact ⟨⟩) (by exact rfl) (by exact getm2 (by omega) (by rw [rowsN (by omega)])) (by exact rfl))
 refine rA ?_ (x := lE [sl .v _] ty_36)
 exact h_.get) : G := w ⟨h⟩
theorem zjy (h : H) (w : Hd H → G := by
 intro h_
 refine sw_seq ?_
 refine sO [(0, _), (2, _), (3, _), (7, _), (5000, _)] [(0, _), (2, _), (3, (31, [val _, val _, sl _ _, sl _ _, sl _ _, sl _ _, sl _ _, sl _ _, sl _ _, sl _ _, sl _ _]))] ?_
 exact h_.get) : G := w ⟨h⟩
theorem zap (h : H) (w : Hd H → G := by
 intro h_
 refine rX ?_ (x := (loc_alloc (by decide) z_63 zo_63))
 refine sw_seq ?_
 exact h_.get) : G := w ⟨h⟩
theorem zc8 (h : H) (w : Hd H → G := by
 intro h_
 refine rA ?_ (x := cL [(false, [val _]), (false, [val _]), (false, [val _])] [(false, [val _]), (false, [val _]), (false, [val _])] c_47 (hs := by exact spec_l1In))
 refine rA ?_ (x := nT)
 exact h_.get) : G := w ⟨h⟩
theorem zei (h : H) (w : Hd H → G := by
 intro h_
 refine zt gc ?_
 refine rA ?_ (x := pkT gc)
 exact h_.get) : G := w ⟨h⟩
theorem zii (h : H) (w : Hd H → G := by
 intro h_
 refine dB 15 ga ?_ (x := vM false [val _])
 refine dB 15 ga ?_ (x := sM)
 exact h_.get) : G := w ⟨h⟩
theorem zds (h : H) (w : Hd H → G := by
 intro h_
 refine dA 7 ?_ (x := loc_index (by decide) sl_24 (by exact ⟨⟩) (by exact rfl) (by exact getm2 (by omega) rfl) (by exact rfl))
 refine dA 15 ?_ (x := lE [val _, val _, val _] ty_79)
 exact h_.get) : G := w ⟨h⟩
theorem za5 (h : H) (w : Hd H → G := by
 intro h_
 refine rB ga ?_ (x := B_lss)
 refine rA ?_ (x := pkT ga)
 exact h_.get) : G := w ⟨h⟩
theorem zcn (h : H) (w : Hd H → G := by
 intro h_
 refine rA ?_ (x := tM)
 refine za7 ?_
 exact h_.get) : G := w ⟨h⟩
theorem zdp (h : H) (w : Hd H → G := by
 intro h_
 refine rA ?_ (x := cL [(false, [val _]), (false, [val _]), (false, [val _])] [(false, [val _]), (false, [val _]), (false, [val _])] c_47 (hs := by exact spec_l1In))
 refine zan ?_
 exact h_.get) : G := w ⟨h⟩
theorem zf0 (h : H) (w : Hd H → G := by
 intro h_
 refine rM ?_
 refine rA ?_ (x := cL [(false, [val _]), (false, [val _]), (false, [val _])] [(false, [val _]), (false, [val _]), (false, [val _])] c_47 (hs := by exact spec_l1In))
 exact h_.get) : G := w ⟨h⟩
theorem zja (h : H) (w : Hd H → G := by
 intro h_
 refine sw_draw hm_ ?_
 refine dA 0 ?_ (x := lF fd_31_4)
 exact h_.get) : G := w ⟨h⟩
theorem zch (h : H) (w : Hd H → G := by
 intro h_
 refine zlc ?_
 refine sw_seq ?_
 exact h_.get) : G := w ⟨h⟩
theorem zcv (h : H) (w : Hd H → G := by
 intro h_
 refine zam ?_
 refine rA ?_ (x := B_lss)
 exact h_.get) : G := w ⟨h⟩
theorem zho (h : H) (w : Hd H → G := by
 intro h_
 refine sR ?_
 refine rA ?_ (x := loc_const (.inr rfl) (by decide) (ok_nil (t := 36) (e := 1)))
 exact h_.get) : G := w ⟨h⟩
theorem zjq (h : H) (w : Hd H → G := by
 intro h_
 refine rA ?_ (x := tM)
 refine rA ?_ (x := tA)
 exact h_.get) : G := w ⟨h⟩
theorem zdv (h : H) (w : Hd H → G := by
 intro h_
 refine rA ?_ (x := lF fd_27_0)
 refine rA ?_ (x := lD [val _] ty_3)
 exact h_.get) : G := w ⟨h⟩
theorem zht (h : H) (w : Hd H → G := by
 intro h_
 refine dA 0 ?_ (x := loc_bslice (qs := []) (by decide) sl_29 z_4 (by decide) rfl rfl rfl rfl rfl (by exact nl rfl) (by exact ⟨⟩) rfl)
 refine dA 0 ?_ (x := lF fd_31_2)
 exact h_.get) : G := w ⟨h⟩
theorem zl1 (h : H) (w : Hd H → G := by
 intro h_
 refine sO [(1, _), (2, _), (3, _)] [(1, _), (2, _), (3, (31, [val _, val _, sl _ _, sl _ _, sl _ _, sl _ _, sl _ _, sl _ _, sl _ _, sl _ _, sl _ _]))] ?_
 refine sw_reg ?_
 exact h_.get) : G := w ⟨h⟩
theorem zci (h : H) (w : Hd H → G := by
 intro h_
 refine rA ?_ (x := lD [val _, sl .v _] ty_63)
 refine rA ?_ (x := cL [(true, [val _, sl _ _])] [(true, [val _, sl .v _])] c_59 (hs := by exact impl_copyRow (by omega)))
 exact h_.get) : G := w ⟨h⟩
theorem zej (h : H) (w : Hd H → G := by
 intro h_
 refine rB gc ?_ (x := cL [(false, [sl _ _]), (false, [sl _ _])] [(false, [sl .v _]), (false, [sl .v _])] c_37 (hs := by exact spec_l2Ints))
 refine rB gc ?_ (x := nT)
 exact h_.get) : G := w ⟨h⟩
theorem zhh (h : H) (w : Hd H → G := by
 intro h_
 refine rB gd ?_ (x := sM)
 refine rB gd ?_ (x := cL [(false, [sl _ _]), (false, [val _])] [(false, [sl .v _]), (false, [val _])] c_48 (hs := by exact spec_HasMember))
 exact h_.get) : G := w ⟨h⟩
theorem zga (h : H) (w : Hd H → G := by
 intro h_
 refine rB gb ?_ (x := cL [(false, [sl _ _]), (false, [val _])] [(false, [sl .v _]), (false, [val _])] c_41 (hs := by exact impl_hasInt))
 refine rA ?_ (x := pkF gb)
 exact h_.get) : G := w ⟨h⟩
theorem zi9 (h : H) (w : Hd H → G := by
 intro h_
 refine dA 1 ?_ (x := lD [val _] ty_25)
 refine dA 0 ?_ (x := sM)
 exact h_.get) : G := w ⟨h⟩
theorem za1 (h : H) (w : Hd H → G := by
 intro h_
 refine sS [0, 2] [] ?_
 refine rA ?_ (x := vM false [sl .v _])
 exact h_.get) : G := w ⟨h⟩
theorem zbb (h : H) (w : Hd H → G := by
 intro h_
 refine rS ?_
 refine sw_block ?_
 exact h_.get) : G := w ⟨h⟩
theorem zk1 (h : H) (w : Hd H → G := by
 intro h_
 refine dA 64 ?_ (x := B_sub)
 refine dA 224 ?_ (x := loc_gidx (k := (P.length + j - 1)) (G := 5001) (by decide) sl_36 (by exact ⟨⟩) (by omega) (by omega))
 exact h_.get) : G := w ⟨h⟩
theorem zgq (h : H) (w : Hd H → G := by
 intro h_
 refine rA ?_ (x := cL [(true, [val _, val _, sl _ _, sl _ _])] [(true, [val _, val _, sl .v _, sl .v _])] c_45 (hs := by exact spec_IsQuery))
 refine zep ?_
 exact h_.get) : G := w ⟨h⟩
theorem zfa (h : H) (w : Hd H → G := by
 intro h_
 refine rA ?_ (x := lD [val _, sl .v _] ty_63)
 refine rA ?_ (x := cL [(true, [val _, sl _ _])] [(true, [val _, sl .v _])] c_80 (hs := by exact spec_IsRow))
 exact h_.get) : G := w ⟨h⟩
theorem zce (h : H) (w : Hd H → G := by
 intro h_
 refine sQ [1, 2] [1, 2] ?_
 refine sw_draw hm_ ?_
 exact h_.get) : G := w ⟨h⟩
theorem zk7 (h : H) (w : Hd H → G := by
 intro h_
 refine za2 ?_
 refine sw_block ?_
 exact h_.get) : G := w ⟨h⟩
theorem zkl (h : H) (w : Hd H → G := by
 intro h_
 refine zk2 ?_
 refine dA 7168 ?_ (x := loc_aget (f := nRow) (e := 2) (k := (P.length + j)) (fun _ => rfl) rfl hbd3_ ty_63 (fun h => nomatch h) bor_nRow)
 exact h_.get) : G := w ⟨h⟩
theorem zh3 (h : H) (w : Hd H → G := by
 intro h_
 refine rB ga ?_ (x := sM)
 refine rB ga ?_ (x := lF fd_31_2)
 exact h_.get) : G := w ⟨h⟩
theorem zl0 (h : H) (w : Hd H → G := by
 intro h_
 refine sT [1, 2] [1, 2] ?_
 refine rA ?_ (x := lD [val _, val _, sl .v _, sl .v _, sl .v _, sl .v _, sl .v _, sl .v _, sl .v _, sl .v _, sl .v _] ty_31)
 exact h_.get) : G := w ⟨h⟩
theorem zcw (h : H) (w : Hd H → G := by
 intro h_
 refine sP [0, 1, 5] [] ?_
 refine sw_draw hm_ ?_
 exact h_.get) : G := w ⟨h⟩
theorem zhq (h : H) (w : Hd H → G := by
 intro h_
 refine rA ?_ (x := vM false [sl .v _])
 refine rA ?_ (x := cL [(false, [sl _ _])] [(false, [sl .v _])] c_60 (hs := by exact impl_copyRows (by omega)))
 exact h_.get) : G := w ⟨h⟩
theorem zif (h : H) (w : Hd H → G := by
 intro h_
 refine rM ?_
 refine rA ?_ (x := loc_bslice (qs := []) (by decide) sl_36 z_63 (by decide) rfl rfl rfl rfl rfl (by exact nl rfl) (by exact ⟨⟩) rfl)
 exact h_.get) : G := w ⟨h⟩
theorem zax (h : H) (w : Hd H → G := by
 intro h_
 refine rA ?_ (x := lF fd_63_1)
 refine rA ?_ (x := loc_store (ag := false) (vs := [sl _ _]) ty_25 (by exact ⟨⟩) (by exact rfl) (by exact nl rfl))
 exact h_.get) : G := w ⟨h⟩
theorem zbe (h : H) (w : Hd H → G := by
 intro h_
 refine rA ?_ (x := lF fd_27_3)
 refine rA ?_ (x := loc_store (ag := false) (vs := [sl _ _]) ty_25 (by exact ⟨⟩) (by exact rfl) (by exact nl rfl))
 exact h_.get) : G := w ⟨h⟩
theorem zhl (h : H) (w : Hd H → G := by
 intro h_
 refine rA ?_ (x := lF fd_27_2)
 refine rA ?_ (x := loc_store (ag := false) (vs := [sl _ _]) ty_24 (by exact ⟨⟩) (by exact rfl) (by exact nl rfl))
 exact h_.get) : G := w ⟨h⟩
theorem zj8 (h : H) (w : Hd H → G := by
 intro h_
 refine rA ?_ (x := lF fd_31_6)
 refine rA ?_ (x := loc_store (ag := false) (vs := [sl _ _]) ty_25 (by exact ⟨⟩) (by exact rfl) (by exact nl rfl))
 exact h_.get) : G := w ⟨h⟩
theorem zi5 (h : H) (w : Hd H → G := by
 intro h_
 refine rB gb ?_ (x := lF fd_31_2)
 refine rB gb ?_ (x := lD [sl (.lo _) _] ty_29)
 exact h_.get) : G := w ⟨h⟩
theorem zgl (h : H) (w : Hd H → G := by
 intro h_
 refine rM ?_
 refine rA ?_ (x := cL [(false, [sl _ _]), (false, [val _])] [(false, [sl .v _]), (false, [val _])] c_41 (hs := by exact impl_hasInt))
 exact h_.get) : G := w ⟨h⟩
theorem zaf (h : H) (w : Hd H → G := by
 intro h_
 refine sw_draw hm_ ?_
 refine dA 0 ?_ (x := sM)
 exact h_.get) : G := w ⟨h⟩
theorem zgb (h : H) (w : Hd H → G := by
 intro h_
 refine zbp ?_
 refine rA ?_ (x := cL [(false, [val _]), (false, [val _])] [(false, [val _]), (false, [val _])] c_30 (hs := by exact impl_HomeOf))
 exact h_.get) : G := w ⟨h⟩
theorem zi4 (h : H) (w : Hd H → G := by
 intro h_
 refine rB ga ?_ (x := lD [sl (.lo _) _] ty_29)
 refine rB ga ?_ (x := lN sl_29)
 exact h_.get) : G := w ⟨h⟩
theorem zm6 (h : H) (w : Hd H → G := by
 intro h_
 refine rM ?_
 refine rA ?_ (x := cL [(false, [sl _ _]), (false, [val _])] [(false, [sl .v _]), (false, [val _])] c_12 (hs := by exact laws_has))
 exact h_.get) : G := w ⟨h⟩
theorem zip (h : H) (w : Hd H → G := by
 intro h_
 refine rA ?_ (x := lD [sl (.lo _) _] ty_25)
 refine rM ?_
 exact h_.get) : G := w ⟨h⟩
theorem ze3 (h : H) (w : Hd H → G := by
 intro h_
 refine rB ga ?_ (x := nT)
 refine rA ?_ (x := pkF ga)
 refine rM ?_
 exact h_.get) : G := w ⟨h⟩
theorem zl3 (h : H) (w : Hd H → G := by
 intro h_
 refine rB gb ?_ (x := B_lss)
 refine rA ?_ (x := pkT gb)
 exact h_.get) : G := w ⟨h⟩
theorem zd8 (h : H) (w : Hd H → G := by
 intro h_
 refine rA ?_ (x := B_eql)
 refine rM ?_
 exact h_.get) : G := w ⟨h⟩
theorem zdx (h : H) (w : Hd H → G := by
 intro h_
 refine rB gc ?_ (x := lF fd_27_3)
 refine rB gc ?_ (x := lD [sl .v _] ty_25)
 exact h_.get) : G := w ⟨h⟩
theorem zeb (h : H) (w : Hd H → G := by
 intro h_
 refine zby ?_
 refine sT [2, 3, 4] [2, 3] ?_
 exact h_.get) : G := w ⟨h⟩
theorem zev (h : H) (w : Hd H → G := by
 intro h_
 refine rB gd ?_ (x := lF fd_31_4)
 refine rB gd ?_ (x := lD [sl .v _] ty_25)
 exact h_.get) : G := w ⟨h⟩
theorem zew (h : H) (w : Hd H → G := by
 intro h_
 refine rB ge ?_ (x := lF fd_31_5)
 refine rB ge ?_ (x := lD [sl .v _] ty_28)
 exact h_.get) : G := w ⟨h⟩
theorem zex (h : H) (w : Hd H → G := by
 intro h_
 refine rB gf ?_ (x := lF fd_31_6)
 refine rB gf ?_ (x := lD [sl .v _] ty_25)
 exact h_.get) : G := w ⟨h⟩
theorem zg9 (h : H) (w : Hd H → G := by
 intro h_
 refine rB gb ?_ (x := lF fd_31_6)
 refine rB gb ?_ (x := lD [sl .v _] ty_25)
 exact h_.get) : G := w ⟨h⟩
theorem zh0 (h : H) (w : Hd H → G := by
 intro h_
 refine sw_draw hm_ ?_
 refine dA 0 ?_ (x := lF fd_31_3)
 exact h_.get) : G := w ⟨h⟩
theorem zkm (h : H) (w : Hd H → G := by
 intro h_
 refine sw_seq ?_
 refine sO [(0, _), (1, _), (2, _), (3, _), (4, _), (14, _), (15, _), (5000, _), (5001, _)] [(0, (63, arr nRow _ _))] ?_
 exact h_.get) : G := w ⟨h⟩
theorem zc0 (h : H) (w : Hd H → G := by
 intro h_
 refine rA ?_ (x := lN sl_25)
 refine zbm ?_
 exact h_.get) : G := w ⟨h⟩
theorem zcj (h : H) (w : Hd H → G := by
 intro h_
 refine zcp ?_
 refine rA ?_ (x := tA)
 exact h_.get) : G := w ⟨h⟩
theorem zdr (h : H) (w : Hd H → G := by
 intro h_
 refine zf8 ?_
 refine rA ?_ (x := lN sl_24)
 exact h_.get) : G := w ⟨h⟩
theorem zfq (h : H) (w : Hd H → G := by
 intro h_
 refine dA 0 ?_ (x := lF fd_31_1)
 refine dA 4 ?_ (x := lD [sl .v _] ty_28)
 exact h_.get) : G := w ⟨h⟩
theorem ziw (h : H) (w : Hd H → G := by
 intro h_
 refine dA 1 ?_ (x := lD [val _] ty_28)
 refine dA 0 ?_ (x := sM)
 refine dA 0 ?_ (x := lF fd_31_5)
 exact h_.get) : G := w ⟨h⟩
theorem zjp (h : H) (w : Hd H → G := by
 intro h_
 refine sO [(0, _), (2, _), (3, _), (4, _), (5, _), (6, _), (7, _), (5000, _)] [(0, (74, [sl o _, val _, val _]))] ?_
 refine sw_reg ?_
 exact h_.get) : G := w ⟨h⟩
theorem zad (h : H) (w : Hd H → G := by
 intro h_
 refine rA ?_ (x := loc_store (ag := false) (vs := [val _]) ty_3 (by exact ⟨⟩) (by exact rfl) (by exact nl rfl))
 refine sw_seq ?_
 exact h_.get) : G := w ⟨h⟩
theorem zdh (h : H) (w : Hd H → G := by
 intro h_
 refine rB ga ?_ (x := lF fd_79_1)
 refine rB ga ?_ (x := lD [val _] ty_3)
 exact h_.get) : G := w ⟨h⟩
theorem zjt (h : H) (w : Hd H → G := by
 intro h_
 refine sG [0, 2, 3, 4, 5, 6, 7, 29, 5000] [0, 2, 3, 7] ?_
 refine zgo ?_
 exact h_.get) : G := w ⟨h⟩
theorem zdl (h : H) (w : Hd H → G := by
 intro h_
 refine zf gc ?_
 refine rA ?_ (x := pkF gc)
 exact h_.get) : G := w ⟨h⟩
theorem zec (h : H) (w : Hd H → G := by
 intro h_
 refine zt g3 ?_
 refine rA ?_ (x := pkT g3)
 exact h_.get) : G := w ⟨h⟩
theorem zf5 (h : H) (w : Hd H → G := by
 intro h_
 refine zt ga ?_
 refine rA ?_ (x := pkT ga)
 exact h_.get) : G := w ⟨h⟩
theorem zgr (h : H) (w : Hd H → G := by
 intro h_
 refine rB ga ?_ (x := cL [(false, [sl _ _])] [(false, [sl .v _])] c_46 (hs := by exact spec_l18Parts (by omega)))
 refine ze3 ?_
 exact h_.get) : G := w ⟨h⟩
theorem zfu (h : H) (w : Hd H → G := by
 intro h_
 refine rA ?_ (x := lD [sl .v _] ty_25)
 refine rM ?_
 exact h_.get) : G := w ⟨h⟩
theorem zh9 (h : H) (w : Hd H → G := by
 intro h_
 refine rB gc ?_ (x := sM)
 refine rB gc ?_ (x := sM)
 exact h_.get) : G := w ⟨h⟩
theorem zbf (h : H) (w : Hd H → G := by
 intro h_
 refine rM ?_
 refine rA ?_ (x := B_sub)
 refine rS ?_
 exact h_.get) : G := w ⟨h⟩
theorem ze5 (h : H) (w : Hd H → G := by
 intro h_
 refine rA ?_ (x := loc_index (by decide) sl_24 (by exact ⟨⟩) (by exact rfl) (by exact getm2 (by omega) rfl) (by exact rfl))
 refine rA ?_ (x := lE [val _, val _, val _] ty_79)
 refine rX ?_ (x := (loc_alloc (by decide) z_79 zo_79))
 exact h_.get) : G := w ⟨h⟩
theorem ze9 (h : H) (w : Hd H → G := by
 intro h_
 refine rA ?_ (x := lF fd_27_3)
 refine rA ?_ (x := lD [sl .v _] ty_25)
 exact h_.get) : G := w ⟨h⟩
theorem zgj (h : H) (w : Hd H → G := by
 intro h_
 refine rA ?_ (x := lF fd_31_7)
 refine rA ?_ (x := lD [sl .v _] ty_28)
 exact h_.get) : G := w ⟨h⟩
theorem ziv (h : H) (w : Hd H → G := by
 intro h_
 refine rA ?_ (x := lD [val _, val _, sl (.lo _) _, sl (.lo _) _] ty_27)
 refine rA ?_ (x := lD [val _, sl (.lo _) _] ty_63)
 exact h_.get) : G := w ⟨h⟩
theorem za0 (h : H) (w : Hd H → G := by
 intro h_
 refine sR ?_
 refine rK ?_
 exact h_.get) : G := w ⟨h⟩
theorem za3 (h : H) (w : Hd H → G := by
 intro h_
 refine sS [0, 2, 3] [] ?_
 refine zas ?_
 refine sP [0, 2, 3, 4] [] ?_
 exact h_.get) : G := w ⟨h⟩
theorem zh4 (h : H) (w : Hd H → G := by
 intro h_
 refine rB gb ?_ (x := sM)
 refine rB gb ?_ (x := loc_index (k := (n).toNat) (by decide) sl_29 (by exact ⟨⟩) (by have hq := inB_iff.1 ‹inB n 0 ((c.Up.length : Int) - 1) = true›; have hl := clLen ‹isCl c = true›; omega) (by exact getm2 (by have hq := inB_iff.1 ‹inB n 0 ((c.Up.length : Int) - 1) = true›; have hl := clLen ‹isCl c = true›; omega) (by rw [upAt_eq (by have hq := inB_iff.1 ‹inB n 0 ((c.Up.length : Int) - 1) = true›; have hl := clLen ‹isCl c = true›; omega)])) (by exact rfl))
 refine rB gb ?_ (x := lE [val _] ty_4)
 exact h_.get) : G := w ⟨h⟩
theorem zdg (h : H) (w : Hd H → G := by
 intro h_
 refine rA ?_ (x := lF fd_79_0)
 refine rA ?_ (x := lD [val _] ty_3)
 exact h_.get) : G := w ⟨h⟩
theorem zkg (h : H) (w : Hd H → G := by
 intro h_
 refine sw_seq ?_
 refine sO [(0, _), (1, _), (2, _), (3, _), (4, _), (5000, _), (5001, _)] [(0, (63, arr nRow _ _))] ?_
 exact h_.get) : G := w ⟨h⟩
theorem zjo (h : H) (w : Hd H → G := by
 intro h_
 refine sO [(0, _), (2, _), (3, _), (4, _), (5, _), (5000, _)] [(0, (74, [sl o _, val _, val _]))] ?_
 refine sw_reg ?_
 exact h_.get) : G := w ⟨h⟩
theorem zk6 (h : H) (w : Hd H → G := by
 intro h_
 refine zij ?_
 refine dA 0 ?_ (x := sM)
 exact h_.get) : G := w ⟨h⟩
theorem zdf (h : H) (w : Hd H → G := by
 intro h_
 refine sR ?_
 refine rX ?_ (x := (loc_box (ag := true) (cs := [val _, val _, val _]) (by decide) (by exact ⟨⟩)))
 exact h_.get) : G := w ⟨h⟩
theorem zem (h : H) (w : Hd H → G := by
 intro h_
 refine sw_exit ?_
 refine sT [2, 3, 5] [2, 3] ?_
 exact h_.get) : G := w ⟨h⟩
theorem zid (h : H) (w : Hd H → G := by
 intro h_
 refine sw_reg ?_
 refine rA ?_ (x := lF fd_31_4)
 exact h_.get) : G := w ⟨h⟩
theorem zix (h : H) (w : Hd H → G := by
 intro h_
 refine dA 8 ?_ (x := lD [val _] ty_28)
 refine dA 0 ?_ (x := sM)
 exact h_.get) : G := w ⟨h⟩
theorem zdw (h : H) (w : Hd H → G := by
 intro h_
 refine rB gb ?_ (x := lF fd_27_2)
 refine rB gb ?_ (x := lD [sl .v _] ty_24)
 refine rB gb ?_ (x := lN sl_24)
 exact h_.get) : G := w ⟨h⟩
theorem zdn (h : H) (w : Hd H → G := by
 intro h_
 refine zaa ?_
 refine rM ?_
 exact h_.get) : G := w ⟨h⟩
theorem zf3 (h : H) (w : Hd H → G := by
 intro h_
 refine zdq ?_
 refine rX ?_ (x := (loc_box (ag := true) (cs := [val _, sl _ _]) (by decide) (by exact ⟨⟩)))
 exact h_.get) : G := w ⟨h⟩
theorem zko (h : H) (w : Hd H → G := by
 intro h_
 refine sO [(0, _), (1, _), (2, _), (6, _), (5000, _), (5001, _)] [(0, (63, arr nRow _ _))] ?_
 refine zah ?_
 exact h_.get) : G := w ⟨h⟩
theorem zfc (h : H) (w : Hd H → G := by
 intro h_
 refine rA ?_ (x := loc_const (.inr rfl) (by decide) (ok_nil (t := 63) (e := 2)))
 refine sT [1, 2, 4] [2] ?_
 exact h_.get) : G := w ⟨h⟩
theorem zl5 (h : H) (w : Hd H → G := by
 intro h_
 refine dX 4 ?_ (x := (loc_load (qs := [sl .v _]) (by decide) ty_29 (fun _ => rfl) (by exact nl rfl) (by exact (ToL.cons PV.to_none ToL.nil)) (by exact (BorL.cons (bor_sl _) BorL.nil))))
 refine dX 12 ?_ (x := (loc_len (by decide) sl_29 (by first | exact List.length_map _ | exact rfl)))
 refine dX 30 ?_ (x := (loc_rem (by decide) (by exact ⟨⟩) (by exact ⟨⟩) (by omega)))
 exact h_.get) : G := w ⟨h⟩
theorem zd1 (h : H) (w : Hd H → G := by
 intro h_
 refine sw_skip ?_
 refine sG [0, 1, 5] [] ?_
 exact h_.get) : G := w ⟨h⟩
theorem ze4 (h : H) (w : Hd H → G := by
 intro h_
 refine zef ?_
 refine scT ?_
 exact h_.get) : G := w ⟨h⟩
theorem ziq (h : H) (w : Hd H → G := by
 intro h_
 refine sw_seq ?_
 refine sP [1, 2, 4, 5, 6, 7] [2, 4, 6] ?_
 exact h_.get) : G := w ⟨h⟩
theorem zk9 (h : H) (w : Hd H → G := by
 intro h_
 refine sw_skip ?_
 refine sw_block ?_
 refine sw_seq ?_
 exact h_.get) : G := w ⟨h⟩
theorem zlj (h : H) (w : Hd H → G := by
 intro h_
 refine zbp ?_
 refine rA ?_ (x := loc_rem (by decide) (by exact ⟨⟩) (by exact ⟨⟩) (by omega))
 exact h_.get) : G := w ⟨h⟩
theorem zeg (h : H) (w : Hd H → G := by
 intro h_
 refine zt g6 ?_
 refine rA ?_ (x := pkT g6)
 exact h_.get) : G := w ⟨h⟩
theorem zeq (h : H) (w : Hd H → G := by
 intro h_
 refine zt g4 ?_
 refine rA ?_ (x := pkT g4)
 exact h_.get) : G := w ⟨h⟩
theorem zeu (h : H) (w : Hd H → G := by
 intro h_
 refine zt gd ?_
 refine rA ?_ (x := pkT gd)
 exact h_.get) : G := w ⟨h⟩
theorem zak (h : H) (w : Hd H → G := by
 intro h_
 refine zab ?_
 refine sO [(0, _), (1, _), (4, _), (5000, _)] [(0, (74, [sl o _, val _, val _]))] ?_
 exact h_.get) : G := w ⟨h⟩
theorem zb1 (h : H) (w : Hd H → G := by
 intro h_
 refine sS [0, 2, 3, 9, 5000] [0, 2, 3] ?_
 refine rA ?_ (x := B_eql)
 refine rS ?_
 exact h_.get) : G := w ⟨h⟩
theorem zjv (h : H) (w : Hd H → G := by
 intro h_
 refine sS [0, 2, 3, 7, 5000] [0, 2, 3] ?_
 refine rA ?_ (x := B_eql)
 refine rS ?_
 exact h_.get) : G := w ⟨h⟩
theorem zhm (h : H) (w : Hd H → G := by
 intro h_
 refine sw_seq ?_
 refine sO [(1, _), (2, _)] [(1, (27, [val _, val _, sl _ _, sl _ _])), (2, _)] ?_
 exact h_.get) : G := w ⟨h⟩
theorem zal (h : H) (w : Hd H → G := by
 intro h_
 refine sw_reg ?_
 refine rA ?_ (x := vM false [sl .v _])
 exact h_.get) : G := w ⟨h⟩
theorem zb8 (h : H) (w : Hd H → G := by
 intro h_
 refine rM ?_
 refine rS ?_
 exact h_.get) : G := w ⟨h⟩
theorem zbo (h : H) (w : Hd H → G := by
 intro h_
 refine zc7 ?_
 refine rS ?_
 exact h_.get) : G := w ⟨h⟩
theorem zdj (h : H) (w : Hd H → G := by
 intro h_
 refine rB gb ?_ (x := B_leq)
 refine rA ?_ (x := pkT gb)
 exact h_.get) : G := w ⟨h⟩
theorem zee (h : H) (w : Hd H → G := by
 intro h_
 refine rB ga ?_ (x := B_neq)
 refine rA ?_ (x := pkF ga)
 exact h_.get) : G := w ⟨h⟩
theorem zeh (h : H) (w : Hd H → G := by
 intro h_
 refine rB gb ?_ (x := B_neq)
 refine rA ?_ (x := pkF gb)
 exact h_.get) : G := w ⟨h⟩
theorem zfx (h : H) (w : Hd H → G := by
 intro h_
 refine rB ga ?_ (x := B_eql)
 refine rA ?_ (x := pkT ga)
 exact h_.get) : G := w ⟨h⟩
theorem zg3 (h : H) (w : Hd H → G := by
 intro h_
 refine dU 1099511627775 ?_
 refine dU 281474976710655 ?_
 exact h_.get) : G := w ⟨h⟩
theorem zge (h : H) (w : Hd H → G := by
 intro h_
 refine rB gc ?_ (x := B_neq)
 refine rA ?_ (x := pkF gc)
 exact h_.get) : G := w ⟨h⟩
theorem zlz (h : H) (w : Hd H → G := by
 intro h_
 refine rB gc ?_ (x := B_lss)
 refine rA ?_ (x := pkT gc)
 exact h_.get) : G := w ⟨h⟩
theorem zfn (h : H) (w : Hd H → G := by
 intro h_
 refine zen ?_
 refine rA ?_ (x := loc_const (.inr rfl) (by decide) (ok_nil (t := 63) (e := 2)))
 exact h_.get) : G := w ⟨h⟩
theorem zg1 (h : H) (w : Hd H → G := by
 intro h_
 refine dU 8796093022207 ?_
 refine dU 17592186044415 ?_
 exact h_.get) : G := w ⟨h⟩
theorem zg2 (h : H) (w : Hd H → G := by
 intro h_
 refine dU 1099511627775 ?_
 refine dU 70368744177663 ?_
 exact h_.get) : G := w ⟨h⟩
theorem zgt (h : H) (w : Hd H → G := by
 intro h_
 refine sw_draw hm_ ?_
 refine dA 0 ?_ (x := lF fd_31_6)
 exact h_.get) : G := w ⟨h⟩
theorem zat (h : H) (w : Hd H → G := by
 intro h_
 refine za4 ?_
 refine rA ?_ (x := B_lss)
 exact h_.get) : G := w ⟨h⟩
theorem zbc (h : H) (w : Hd H → G := by
 intro h_
 refine za4 ?_
 refine rA ?_ (x := B_gtr)
 exact h_.get) : G := w ⟨h⟩
theorem zcm (h : H) (w : Hd H → G := by
 intro h_
 refine zcb ?_
 refine rA ?_ (x := B_lss)
 exact h_.get) : G := w ⟨h⟩
theorem zct (h : H) (w : Hd H → G := by
 intro h_
 refine zaj ?_
 refine sS [0, 1, 4] [] ?_
 exact h_.get) : G := w ⟨h⟩
theorem zde (h : H) (w : Hd H → G := by
 intro h_
 refine zdd ?_
 refine rA ?_ (x := B_lss)
 exact h_.get) : G := w ⟨h⟩
theorem zkb (h : H) (w : Hd H → G := by
 intro h_
 refine zbp ?_
 refine rA ?_ (x := B_gtr)
 exact h_.get) : G := w ⟨h⟩
theorem zd7 (h : H) (w : Hd H → G := by
 intro h_
 refine zc4 ?_
 refine zc4 ?_
 exact h_.get) : G := w ⟨h⟩
theorem zfz (h : H) (w : Hd H → G := by
 intro h_
 refine zey ?_
 refine za2 ?_
 exact h_.get) : G := w ⟨h⟩
theorem zg0 (h : H) (w : Hd H → G := by
 intro h_
 refine dU 1099511627775 ?_
 refine dU 2199023255551 ?_
 exact h_.get) : G := w ⟨h⟩
theorem zjh (h : H) (w : Hd H → G := by
 intro h_
 refine zhz ?_
 refine zae ?_
 exact h_.get) : G := w ⟨h⟩
theorem zbu (h : H) (w : Hd H → G := by
 intro h_
 refine sR ?_
 refine rA ?_ (x := loc_const (.inr rfl) (by decide) (ok_nil (t := 3) (e := 1)))
 exact h_.get) : G := w ⟨h⟩
end Go.Proofs.YtmkhofdkdklpdaaGreat.M
