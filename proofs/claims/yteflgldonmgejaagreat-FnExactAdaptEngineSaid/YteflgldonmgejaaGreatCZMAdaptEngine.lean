/- Short names for what the printed proofs say often. No condition. -/
import Derived.Test.YteflgldonmgejaaGreatCF2
set_option linter.unusedVariables false
namespace Go.Proofs.YteflgldonmgejaaGreat.M
open Go Go.RowKit
variable {G H : Prop}
theorem za7 (h : G := by
 refine sS [1, 2, 4] [2] ?_
 refine zg4 ?_
 exact (aI (by refine int_eq ?_; exact (szR_no (by omega)).symm) tI)) : G := h
theorem zab (h : G := by
 have hn0 := szR_neg (w := wtIntS x.Values) (l := l) (by omega) hba
 exact za7) : G := h
theorem zas (h : G := by
 have hn0 := szR_neg (w := wtQuery x.Query) (l := l) (by omega) hba
 exact za7) : G := h
theorem zfk (h : G := by
 refine sw_ret ?_
 exact (aI (by exact rfl) tI)) : G := h
theorem zb7 (h : G := by
 refine rA ?_ (x := tA)
 exact zfk) : G := h
theorem zns (h : G := by
 refine sw_ret ?_
 exact (Exists.intro 2 (Exists.intro _ (aI (by exact rfl) (aI (by exact rfl) (aI ty_148 (aI (fun h => nomatch h) tI))))))) : G := h
theorem zbf (h : G := by
 refine sw_reg ?_
 refine rA ?_ (x := loc_ltake (ms := [val _, val _, sl _ _, sl _ _, sl _ _]) (qs := [val _, val _, sl .v _, sl .v _, sl .v _]) (by decide) ty_148 (fun h => nomatch h) (by exact nl rfl) (by exact rfl) (by exact (ToL.cons (PV.To.refl _) (ToL.cons (PV.To.refl _) (ToL.cons PV.to_none (ToL.cons PV.to_none (ToL.cons PV.to_none ToL.nil)))))) (by exact (BorL.cons (bor_val _) (BorL.cons (bor_val _) (BorL.cons (bor_sl _) (BorL.cons (bor_sl _) (BorL.cons (bor_sl _) BorL.nil)))))))
 refine rA ?_ (x := loc_store (ag := true) (vs := [val _, val _, sl _ _, sl _ _, sl _ _]) ty_148 (by exact ⟨⟩) (by exact rfl) (by exact nl rfl))
 exact zns) : G := h
theorem zbj (h : G := by
 refine sw_ret ?_
 exact (Exists.intro 2 (Exists.intro _ (aI (by exact rfl) (aI (by exact rfl) (aI ty_66 (aI (fun h => nomatch h) tI))))))) : G := h
theorem zka (h : G := by
 refine sw_ret ?_
 exact (Exists.intro 2 (Exists.intro _ (aI (by exact rfl) (aI (by exact rfl) (aI ty_65 (aI (fun h => nomatch h) tI))))))) : G := h
theorem zbp (h : G := by
 refine sw_reg ?_
 refine rA ?_ (x := loc_ltake (ms := [val _, val _, sl _ _, sl _ _]) (qs := [val _, val _, sl .v _, sl .v _]) (by decide) ty_65 (fun h => nomatch h) (by exact nl rfl) (by exact rfl) (by exact (ToL.cons (PV.To.refl _) (ToL.cons (PV.To.refl _) (ToL.cons PV.to_none (ToL.cons PV.to_none ToL.nil))))) (by exact (BorL.cons (bor_val _) (BorL.cons (bor_val _) (BorL.cons (bor_sl _) (BorL.cons (bor_sl _) BorL.nil))))))
 refine rA ?_ (x := loc_store (ag := true) (vs := [val _, val _, sl _ _, sl _ _]) ty_65 (by exact ⟨⟩) (by exact rfl) (by exact nl rfl))
 exact zka) : G := h
theorem zbx (h : G := by
 refine sw_reg ?_
 refine rA ?_ (x := loc_ltake (ms := [val _, val _, sl _ _, sl _ _, val _, sl _ _, val _, val _, val _, sl _ _]) (qs := [val _, val _, sl .v _, sl .v _, val _, sl .v _, val _, val _, val _, sl .v _]) (by decide) ty_142 (fun h => nomatch h) (by exact nl rfl) (by exact rfl) (by exact (ToL.cons (PV.To.refl _) (ToL.cons (PV.To.refl _) (ToL.cons PV.to_none (ToL.cons PV.to_none (ToL.cons (PV.To.refl _) (ToL.cons PV.to_none (ToL.cons (PV.To.refl _) (ToL.cons (PV.To.refl _) (ToL.cons (PV.To.refl _) (ToL.cons PV.to_none ToL.nil))))))))))) (by exact (BorL.cons (bor_val _) (BorL.cons (bor_val _) (BorL.cons (bor_sl _) (BorL.cons (bor_sl _) (BorL.cons (bor_val _) (BorL.cons (bor_sl _) (BorL.cons (bor_val _) (BorL.cons (bor_val _) (BorL.cons (bor_val _) (BorL.cons (bor_sl _) BorL.nil))))))))))))
 refine rA ?_ (x := loc_store (ag := true) (vs := [val _, val _, sl _ _, sl _ _, val _, sl _ _, val _, val _, val _, sl _ _]) ty_142 (by exact ⟨⟩) (by exact rfl) (by exact nl rfl))
 refine sw_ret ?_
 exact (Exists.intro 2 (Exists.intro _ (aI (by exact rfl) (aI (by exact rfl) (aI ty_142 (aI (fun h => nomatch h) tI))))))) : G := h
theorem zc0 (h : G := by
 refine sw_reg ?_
 refine rA ?_ (x := loc_ltake (ms := [val _, val _, sl _ _, sl _ _, val _, val _, sl _ _]) (qs := [val _, val _, sl .v _, sl .v _, val _, val _, sl .v _]) (by decide) ty_144 (fun h => nomatch h) (by exact nl rfl) (by exact rfl) (by exact (ToL.cons (PV.To.refl _) (ToL.cons (PV.To.refl _) (ToL.cons PV.to_none (ToL.cons PV.to_none (ToL.cons (PV.To.refl _) (ToL.cons (PV.To.refl _) (ToL.cons PV.to_none ToL.nil)))))))) (by exact (BorL.cons (bor_val _) (BorL.cons (bor_val _) (BorL.cons (bor_sl _) (BorL.cons (bor_sl _) (BorL.cons (bor_val _) (BorL.cons (bor_val _) (BorL.cons (bor_sl _) BorL.nil)))))))))
 refine rA ?_ (x := loc_store (ag := true) (vs := [val _, val _, sl _ _, sl _ _, val _, val _, sl _ _]) ty_144 (by exact ⟨⟩) (by exact rfl) (by exact nl rfl))
 refine sw_ret ?_
 exact (Exists.intro 2 (Exists.intro _ (aI (by exact rfl) (aI (by exact rfl) (aI ty_144 (aI (fun h => nomatch h) tI))))))) : G := h
theorem zca (h : G := by
 refine sw_reg ?_
 refine zog ?_
 refine sw_ret ?_
 exact (Exists.intro 2 (Exists.intro _ (aI (by exact rfl) (aI (by exact rfl) (aI ty_40 (aI (fun h => nomatch h) tI))))))) : G := h
theorem zce (h : G := by
 refine za2 ?_
 exact rb (by exact (deq_false (fun e => by subst e; omega)).symm)) : G := h
theorem zck (h : G := by
 refine zai ?_
 exact rb ((deq_false (eq_no hlt hlt2 hne)).symm)) : G := h
theorem zcl (h : G := by
 refine zaj ?_
 refine nx (k + 1) (by exact ⟨by omega, eq_succ ha hlt hlt2 heq⟩)) : G := h
theorem zjc (h : G := by
 refine zg4 ?_
 exact rb (by exact (deq_true (eq_end hl (by rw [show x.length = k by omega]; exact ha))).symm)) : G := h
theorem zcm (h : G := by
 refine zfd ?_
 exact zjc) : G := h
theorem zcq (h : G := by
 refine sS [2, 3, 4] [2, 3] ?_
 refine zg4 ?_
 exact rb (by exact (deq_false (fun e => by subst e; simp_all [deq_self])).symm)) : G := h
theorem zcw (h : G := by
 refine dA 511 ?_ (x := nT)
 refine sc (fun hbc => ?_) (fun hbc => ?_)
 have hne : x[k] ≠ y[k] := by intro hxy; rw [hxy, deq_self] at hbc; simp at hbc
 exact zck
 have heq : x[k] = y[k] := by exact deq_iff.1 (by simpa using hbc)
 exact zcl) : G := h
theorem zdo (h : G := by
 refine rA ?_ (x := B_lss)
 refine sc (fun hba => ?_) (fun hba => ?_)
 simp at hba
 refine sw_exit ?_
 refine sS [0, 1, 4, 5] [] ?_
 refine za3 ?_
 exact aI (by exact rfl) (Exists.intro _ (aI (.inl (by exact rfl)) (aI (by exact (Nm.nv Nm.nil)) (by exact (OwnTo.nv OwnTo.nil)))))) : G := h
theorem ze1 (h : G := by
 refine sw_exit ?_
 refine sS [0, 1, 4, 5] [] ?_
 refine za3 ?_
 exact aI (by exact int_eq (by first | rfl | rw [hend, List.take_length])) (Exists.intro _ (aI (.inl (by exact rfl)) (aI (by exact (Nm.nv Nm.nil)) (by exact (OwnTo.nv OwnTo.nil)))))) : G := h
theorem zdv (h : G := by
 have hend : i = x.length := by omega
 refine sw_boxEq (d := 999) (by exact rfl) (mark_all hend) ?_
 refine sw_freeze (s := 0) (D := 999) (e := 1) (by exact rfl) (by exact rfl) (by rw [List.length_map, mkL_len, List.length_map]) (by intro c hc; obtain ⟨y, _, rfl⟩ := List.mem_map.1 hc; exact rfl) hjk ?_
 exact ze1) : G := h
theorem zeg (h : G := by
 first | exact absurd rfl hbb | omega) : G := h
theorem zoh (h : G := by
 refine sG [0, 1, 5] [] ?_
 refine zdu ?_
 refine nx (i + 1) (by omega) (e := (by exact aI (by exact int_eq (by rw [mkL_succ hlt]; rfl)) (aI (by exact rfl) (tI))))) : G := h
theorem zeh (h : G := by
 refine zaj ?_
 exact zoh) : G := h
theorem zei (h : G := by
 have hend : i = x.length := by omega
 refine zak ?_
 exact (aI (by refine int_eq ?_; first | rfl | rw [hend, List.take_length]) tI)) : G := h
theorem zel (h : G := by
 first | exact absurd rfl hbc | omega) : G := h
theorem zem (h : G := by
 first | exact absurd rfl hbd | omega) : G := h
theorem zeq (h : G := by
 first | exact absurd rfl hbe | omega) : G := h
theorem zes (h : G := by
 first | exact absurd rfl hbf | omega) : G := h
theorem zet (h : G := by
 refine sw_skip ?_
 exact zoh) : G := h
theorem zex (h : G := by
 refine za8 ?_
 refine rM ?_
 refine rS ?_
 exact zfk) : G := h
theorem zfa (h : G := by
 refine zgc ?_
 exact rb (by simp [inB, *])) : G := h
theorem zf8 (h : G := by
 refine sR ?_
 refine rK ?_
 refine sS [0, 1, 2, 6] [] ?_
 refine zfh ?_
 refine rA ?_ (x := B_geq)
 refine rM ?_
 refine cx 10 (fun ga sga => ?_) (fun ga sga => ?_)
 refine rB ga ?_ (x := sM)
 refine rB ga ?_ (x := sM)
 refine rB ga ?_ (x := B_leq)
 refine rA ?_ (x := pkT ga)
 exact zfa
 refine zfs ?_
 exact zfa) : G := h
theorem zfb (h : G := by
 refine zg4 ?_
 exact rb ((any_yes (P := fun y => y == x) hlt (by simpa using ‹_ = x›)).symm)) : G := h
theorem zfc (h : G := by
 refine nx (k + 1) (by exact ⟨by omega, any_succ ha ‹_› (by simpa using ‹¬ _›)⟩)) : G := h
theorem zfe (h : G := by
 refine zg4 ?_
 exact rb (by exact (any_end (by rw [show xs.length = k by omega]; exact ha)).symm)) : G := h
theorem zfo (h : G := by
 refine zg4 ?_
 exact rb (by simp [okRow, beq_dec, all_no (P := okVal) hlt hno])) : G := h
theorem zoi (h : G := by
 refine nx (k + 1) (by exact ⟨by omega, all_succ ha hlt hyes⟩)) : G := h
theorem zfp (h : G := by
 refine zfi ?_
 exact zoi) : G := h
theorem zft (h : G := by
 refine zgc ?_
 exact rb (by simp [okRow, beq_dec, hall, *])) : G := h
theorem zfr (h : G := by
 refine rB ga ?_ (x := lF fd_66_1)
 refine rB ga ?_ (x := lD [sl .v _] ty_25)
 refine rB ga ?_ (x := lN sl_25)
 refine rB ga ?_ (x := B_eql)
 refine rA ?_ (x := pkT ga)
 exact zft) : G := h
theorem zfy (h : G := by
 refine zdu ?_
 exact zoi) : G := h
theorem zg5 (h : G := by
 refine zgc ?_
 exact rb (by simp [okRows, *])) : G := h
theorem zgf (h : G := by
 refine dA 63 ?_ (x := loc_store (ag := true) (vs := [val _, sl _ _]) ty_66 (by exact ⟨⟩) (by exact rfl) (by exact nl rfl))
 exact zbj) : G := h
theorem zoj (h : G := by
 refine nx (k + 1) (by omega) (e := (by exact aI (by exact slc_eq (by rw [tk_succ hlt, List.map_append]; rfl)) (aI (by exact rfl) (tI))))) : G := h
theorem zgj (h : G := by
 refine rA ?_ (x := tA)
 refine sG [0, 2, 3, 5, 7, 8, 9] [5] ?_
 refine zfi ?_
 exact zoj) : G := h
theorem zm9 (h : G := by
 refine zht ?_
 exact (aI (by refine slc_eq ?_; rw [hend, List.take_length]) tI)) : G := h
theorem zgk (h : G := by
 have hend : k = x.length := by omega
 refine sw_exit ?_
 refine sS [0, 2, 3, 7, 8, 9] [] ?_
 exact zm9) : G := h
theorem zgm (h : G := by
 refine zdu ?_
 exact zoj) : G := h
theorem zkt (h : G := by
 refine sw_exit ?_
 refine sS [0, 2, 3, 4] [] ?_
 exact zm9) : G := h
theorem zgn (h : G := by
 have hend : k = x.length := by omega
 exact zkt) : G := h
theorem zgt (h : G := by
 refine zgc ?_
 exact rb (by first | (simp_all [okCond, inB]; done) | (simp_all [okCond, inB]; omega))) : G := h
theorem zgz (h : G := by
 have hbad : adjAll ⟨0, 0, 0⟩ okCond ltField x.Conds = false := adj_no hlt (Bool.eq_false_iff.2 fun hx => by
  have hx := adjStep.1 hx
  rw [hgk] at hx
  obtain ⟨hx1, hx2⟩ := hx
  first
  | (simp_all; done)
  | (simp only [decide_eq_true_eq, ltField] at *; by_cases h0 : k = 0 <;> (try rw [hgp (by omega)] at hx2) <;> omega))
 refine sS [1, 3] [1] ?_
 refine zg4 ?_
 exact rb (by simp [okQuery, okConds, hbad])) : G := h
theorem zok (h : G := by
 refine nx (k + 1) (by exact ⟨by omega, by rw [adjTo_succ, ha, Bool.true_and]; refine adjStep.2 ⟨by rw [hgk]; first | assumption | simp_all, ?_⟩; rcases Nat.eq_zero_or_pos k with h0 | h0; (· exact .inl h0); (· right; rw [hgk, hgp h0]; first | (simp only [decide_eq_true_eq, ltField] at *; omega) | (simp_all; done))⟩)) : G := h
theorem zh0 (h : G := by
 refine zfx ?_
 refine zdu ?_
 exact zok) : G := h
theorem zh1 (h : G := by
 refine zgc ?_
 exact rb (by first | (simp_all [okQuery, okConds]; done) | (simp_all [okQuery, okConds]; rfl) | (simp_all [okQuery, okConds]; omega) | (simp_all [okQuery, okConds]; intros; omega))) : G := h
theorem zhf (h : G := by
 refine sw_ret ?_
 exact rb (by first | exact hbad0.symm | (simp [okQuery, okConds, hbad]; done) | (simp [okQuery, okFields, hn3]; done) | (simp_all [okQuery, okConds, okFields]; done) | (simp_all [okQuery, okConds, okFields]; rfl) | (simp_all [okQuery, okConds, okFields]; omega) | (simp_all [okQuery, okConds, okFields]; intros; omega))) : G := h
theorem zh5 (h : G := by
 have hbad0 : okQuery x = false := by first | (simp_all [okQuery]; done) | (simp_all [okQuery]; rfl) | (simp_all [okQuery]; omega) | (simp_all [okQuery]; intros; omega)
 refine sS [1, 2] [1] ?_
 refine rK ?_
 exact zhf) : G := h
theorem zhc (h : G := by
 have hbad : adjAll ⟨0, 0, 0⟩ okCond ltField x.Conds = false := adj_no hlt (Bool.eq_false_iff.2 fun hx => by
  have hx := adjStep.1 hx
  rw [hgk] at hx
  obtain ⟨hx1, hx2⟩ := hx
  first
  | (simp_all; done)
  | (simp only [decide_eq_true_eq, ltField] at *; by_cases h0 : k = 0 <;> (try rw [hgp (by omega)] at hx2) <;> omega))
 refine sS [1, 3, 4, 24, 25, 26] [1, 4] ?_
 refine rK ?_
 exact zhf) : G := h
theorem zhd (h : G := by
 refine sw_skip ?_
 refine sG [1, 3, 4, 24, 25, 26] [1, 4] ?_
 refine zfi ?_
 exact zok) : G := h
theorem zhg (h : G := by
 refine zgc ?_
 exact rb (by first | (simp_all [visV]; done) | (simp_all [visV]; rfl) | (simp_all [visV]; omega) | (simp_all [visV]; intros; omega))) : G := h
theorem zhk (h : G := by
 refine zgc ?_
 exact rb (by first | (simp_all [meetV]; done) | (simp_all [meetV]; rfl) | (simp_all [meetV]; omega) | (simp_all [meetV]; intros; omega))) : G := h
theorem zhl (h : G := by
 refine zgc ?_
 exact rb (by first | (simp_all [apartV]; done) | (simp_all [apartV]; omega) | (rw [Bool.eq_iff_iff]; simp_all [apartV]; done) | (rw [Bool.eq_iff_iff]; simp_all [apartV]; omega))) : G := h
theorem zho (h : G := by
 refine zgc ?_
 exact rb (by first | (simp_all [verOk]; done) | (simp_all [verOk]; rfl) | (simp_all [verOk]; omega) | (simp_all [verOk]; intros; omega))) : G := h
theorem zhy (h : G := by
 refine zg4 ?_
 exact rb (hbad.symm)) : G := h
theorem zol (h : G := by
 refine sS [1, 2] [1] ?_
 exact zhy) : G := h
theorem zhw (h : G := by
 have hbad : okStore s = false := by first | (simp_all [okStore, stoPre]; done) | (simp_all [okStore, stoPre]; omega)
 exact zol) : G := h
theorem zhu (h : G := by
 refine zj2 ?_
 exact zhw) : G := h
theorem zi3 (h : G := by
 refine nx (m + 1) (by refine ⟨by omega, ?_⟩; rw [freeOf_succ, hfr, Bool.true_and]; exact hap)) : G := h
theorem zia (h : G := by
 have hvo : verOk s.Now s.Segments[k][j] = false := by first | (simp_all [verOk, rowOfV]; done) | (simp_all [verOk, rowOfV]; omega)
 have hbad := sto_no hag.1 (good_no1 (by rw [hag.2]; exact hvo))
 refine sS [1, 3, 5, 7, 23, 24, 25, 32, 33, 34] [1, 7] ?_
 exact zhy) : G := h
theorem zij (h : G := by
 have hap : apartV ((allV s).getD ((preN s k).length + j) v0) ((allV s).getD m v0) = false := by
  rw [hag.2] at hma ⊢
  by_cases hid : s.Segments[k][j].Id = ((allV s).getD m v0).Id
  ·rw [beq_iff_eq.2 hid, Bool.true_and] at hma; simp_all
  ·simp_all
 have hbad := sto_no hag.1 (good_no2 hlt3 hap)
 refine sS [1, 3, 5, 7, 9, 23, 24, 25, 32, 33, 34, 66, 67, 68] [1, 7, 9] ?_
 exact zhy) : G := h
theorem zik (h : G := by
 have hap : apartV ((allV s).getD ((preN s k).length + j) v0) ((allV s).getD m v0) = true := by
  rw [hag.2] at hma ⊢
  by_cases hid : s.Segments[k][j].Id = ((allV s).getD m v0).Id
  ·rw [beq_iff_eq.2 hid, Bool.true_and] at hma; simp_all
  ·rw [beq_false_of_ne hid, Bool.false_and] at hma; simpa using hma.symm
 refine sw_skip ?_
 refine sG [1, 3, 5, 7, 9, 23, 24, 25, 32, 33, 34, 66, 67, 68] [1, 7, 9] ?_
 refine zfi ?_
 exact zi3) : G := h
theorem zil (h : G := by
 refine zf ge ?_
 refine rA ?_ (x := pkF ge)
 refine scF ?_
 exact zik) : G := h
theorem zim (h : G := by
 have hend3 : m = (preN s k).length + j := by omega
 refine sw_exit ?_
 refine sH [1, 3, 5, 7, 23, 24, 25, 32, 33, 34, 66, 67, 68] [1, 7] ?_
 refine rA ?_ (x := tM)
 refine rA ?_ (x := lD [val _, sl .v _, val _, val _] ty_151)
 refine rA ?_ (x := loc_bslice (qs := [(true, [val _, sl _ _, val _, val _])]) (by decide) sl_149 z_151 (by decide) rfl rfl rfl rfl rfl (by exact nl rfl) (by exact (aI (by exact ⟨⟩) tI)) rfl)
 refine rA ?_ (x := loc_append (by decide) sl_149 z_151 rfl rfl (by decide) rfl (by simp only [List.length_map, List.length_append, List.length_cons, List.length_nil]; omega) (by simp only [List.length_map, List.length_append, List.length_cons, List.length_nil]; omega))
 refine rA ?_ (x := tA)
 refine sG [1, 3, 5, 7, 23, 24, 25, 32, 33, 34, 66, 67, 68] [1, 7] ?_
 refine zfi ?_
 refine nx (j + 1) (by refine ⟨by omega, ?_⟩; rw [← Nat.add_assoc, goodTo_succ, hg, Bool.true_and]; unfold goodV; rw [hag.2, hvo, Bool.true_and, ← hend3]; rw [hend3] at hfr ⊢; exact hfr) (e := (by exact aI (by exact slc_eq (by rw [List.take_succ_eq_append_getElem hlt2]; simp only [List.map_append, List.append_assoc]; rfl)) (aI (by exact rfl) (tI))))) : G := h
theorem zip (h : G := by
 refine zg4 ?_
 exact rb (by exact (okSetTo_no hlt (Bool.eq_false_iff.2 fun hx => by have hx := okStep.1 hx; rw [hgk] at hx; (try simp only [inB, Bool.and_eq_false_iff, decide_eq_false_iff_not] at *); omega)).symm)) : G := h
theorem zio (h : G := by
 refine scT ?_
 refine sS [0, 3, 4, 5, 6, 7] [] ?_
 exact zip) : G := h
theorem zom (h : G := by
 refine nx (k + 1) (by exact ⟨by omega, by rw [okSetTo_succ, ha, Bool.true_and]; exact okStep.2 (by rw [hgk]; (try simp only [inB, Bool.and_eq_true, decide_eq_true_eq] at *); omega)⟩)) : G := h
theorem ziq (h : G := by
 refine sw_skip ?_
 refine sG [0, 3, 4, 5, 6, 7] [] ?_
 refine zfi ?_
 exact zom) : G := h
theorem zir (h : G := by
 refine zg4 ?_
 exact rb (by subst hend; exact ha.symm)) : G := h
theorem ziu (h : G := by
 refine zga ?_
 refine zdu ?_
 exact zom) : G := h
theorem ziz (h : G := by
 refine sG [0, 2, 3, 4] [] ?_
 refine zdu ?_
 refine nx (k + 1) (by omega) (e := (by exact aI (by exact slc_eq (by rw [pickL_succ]; simp [hc, cInt])) (aI (by exact rfl) (tI))))) : G := h
theorem zj4 (h : G := by
 refine sw_ret ?_
 exact (aI (by refine slc_eq ?_; simp [MeetSetsF, *]) tI)) : G := h
theorem zj3 (h : G := by
 refine sS [2, 3, 4] [2, 3] ?_
 refine rA ?_ (x := loc_const (.inr rfl) (by decide) (ok_nil (t := 3) (e := 1)))
 exact zj4) : G := h
theorem zj5 (h : G := by
 refine sG [0, 1, 4, 5, 6] [] ?_
 refine zdu ?_
 refine nx (k + 1) (by exact ⟨by omega, fun _ => hok2⟩) (e := (by exact aI (by exact slc_eq (by rw [tk_succ hlt, List.filter_append, List.map_append]; simp [hc, cInt])) (aI (by exact rfl) (tI))))) : G := h
theorem zj6 (h : G := by
 have hfin : (k = a.length ∧ (okSet a && okSet b) = true) ∨ (k = 0 ∧ (a.length = 0 ∨ (okSet a && okSet b) = false)) := by
  by_cases h0k : 0 < k
  ·left
   have := ha h0k
   refine ⟨?_, this⟩
   rw [Bool.and_eq_true] at this
   by_cases hka : k = a.length
   ·exact hka
   ·have : k < a.length := by omega
    simp_all
  ·right
   refine ⟨by omega, ?_⟩
   by_cases hka : a.length = 0
   ·exact .inl hka
   ·right
    have : k < a.length := by omega
    cases h1 : okSet a <;> cases h2 : okSet b <;> simp_all
 refine sw_exit ?_
 refine sS [0, 1, 4, 5, 6] [] ?_
 refine zht ?_
 exact (aI (by refine slc_eq ?_; rw [meet_end ha hfin]) tI)) : G := h
theorem zj7 (h : G := by
 refine za2 ?_
 exact rb (by exact (deq_false (fun e => by subst e; simp at *)).symm)) : G := h
theorem zjb (h : G := by
 refine zg4 ?_
 exact rb (by exact (deq_false (eq_no hlt hlt2 (by intro e; simp [e, deq_self] at *))).symm)) : G := h
theorem zj8 (h : G := by
 refine sS [0, 1, 5] [] ?_
 exact zjb) : G := h
theorem zj9 (h : G := by
 refine nx (k + 1) (by exact ⟨by omega, eq_succ ha hlt hlt2 (by simp_all)⟩)) : G := h
theorem zon (h : G := by
 refine zg4 ?_
 exact rb (by simp [okQueries, hbad])) : G := h
theorem zjf (h : G := by
 have hbad : adjAll q0_ okQuery ltQ l = false := adj_no hlt (Bool.eq_false_iff.2 fun hx => by
  have hx := adjStep.1 hx
  rw [hgk] at hx
  obtain ⟨hx1, hx2⟩ := hx
  first
  | (simp_all; done)
  | (simp only [decide_eq_true_eq, ltQ] at *; by_cases h0 : k = 0 <;> (try rw [hgp (by omega)] at hx2) <;> omega))
 refine sS [0, 3] [] ?_
 exact zon) : G := h
theorem zoo (h : G := by
 refine nx (k + 1) (by exact ⟨by omega, by rw [adjTo_succ, ha, Bool.true_and]; refine adjStep.2 ⟨by rw [hgk]; first | assumption | simp_all, ?_⟩; rcases Nat.eq_zero_or_pos k with h0 | h0; (· exact .inl h0); (· right; rw [hgk, hgp h0]; first | (simp only [decide_eq_true_eq, ltQ] at *; omega) | (simp_all; done))⟩)) : G := h
theorem zjg (h : G := by
 refine zga ?_
 refine zdu ?_
 exact zoo) : G := h
theorem zjh (h : G := by
 refine zm7 ?_
 refine rA ?_ (x := B_leq)
 refine zgc ?_
 exact rb (by simp [okQueries, hall])) : G := h
theorem zji (h : G := by
 refine zg4 ?_
 exact rb (by simp [admitsV, all_no (P := (admC f v)) hlt hno])) : G := h
theorem zjj (h : G := by
 have hyes : admC f v q.Conds[k] = true := by simp_all [admC]
 refine sw_skip ?_
 refine sG [1, 2, 3, 7] [3] ?_
 exact zfy) : G := h
theorem zjk (h : G := by
 refine zg4 ?_
 exact rb (by simp [admitsV, hall, *])) : G := h
theorem zjo (h : G := by
 refine sG [0, 1, 2, 6, 7, 8] [] ?_
 refine zdu ?_
 refine nx (k + 1) (by exact ⟨by omega, fun _ => hok⟩) (e := (by exact aI (by first | exact slc_eq (by rw [stabS_yes hlt hc, List.map_append]; rfl) | exact slc_eq (by rw [stabS_no hlt hc])) (aI (by exact rfl) (tI))))) : G := h
theorem zjp (h : G := by
 have hfin : (k = l.length ∧ (okQueries l && (inB f 0 2 && inB v 0 99)) = true) ∨ (k = 0 ∧ (l.length = 0 ∨ (okQueries l && (inB f 0 2 && inB v 0 99)) = false)) := by
  by_cases h0k : 0 < k
  ·left
   have h1 := ha h0k
   refine ⟨?_, h1⟩
   by_cases hka : k = l.length
   ·exact hka
   ·exfalso
    have hlt_ : k < l.length := by omega
    have hlt2_ : (k : Int) < (l.length : Int) := by omega
    first | omega | simp_all
  ·right
   refine ⟨by omega, ?_⟩
   by_cases hka : l.length = 0
   ·exact .inl hka
   ·right
    have hlt_ : k < l.length := by omega
    have hlt2_ : (k : Int) < (l.length : Int) := by omega
    rw [← Bool.not_eq_true]; intro hc_; simp_all
 refine sw_exit ?_
 refine sS [0, 1, 2, 6, 7, 8] [] ?_
 refine zht ?_
 exact (aI (by refine slc_eq ?_; rw [stab_end hfin]) tI)) : G := h
theorem zjt (h : G := by
 have hok : (okQueries l && inB f 0 2) = false := by simp_all
 refine sS [0, 1, 4, 5] [] ?_
 refine zht ?_
 exact (aI (by refine slc_eq ?_; unfold stabIdx; rw [if_neg (by rw [hok]; simp)]; rfl) tI)) : G := h
theorem zjr (h : G := by
 refine zj2 ?_
 exact zjt) : G := h
theorem zk1 (h : G := by
 refine zdu ?_
 refine nx (k + 1) (by omega) (e := (by exact aI (by first | exact slc_eq (by rw [spansTo, spanNext_no hls, List.map_append, ← hse]; exact rfl) | exact slc_eq (by rw [spansTo, spanNext_yes hls])) (aI (by exact rfl) (tI))))) : G := h
theorem zk2 (h : G := by
 have hls : lastIs (spansTo l f k) (stabS l f (k : Int)) = false := by
  by_cases h0 : (spansTo l f k).length = 0
  ·simp [lastIs, h0]
  ·simp_all [lastIs]
 refine sG [0, 1, 4, 5, 6, 7, 8] [] ?_
 refine rA ?_ (x := tM)
 refine zfh ?_
 refine rA ?_ (x := tM)
 refine rA ?_ (x := loc_build (qs := [(false, [val _]), (false, [val _]), (false, [sl _ _])]) (cs := [val _, val _, sl _ _]) (by decide) z_234 zo_234 FIdx_pl_234 (by exact rfl) (by exact (aI (by exact ⟨⟩) (aI (by exact ⟨⟩) (aI (by exact ⟨⟩) tI)))) rfl (by exact rfl))
 refine zop ?_
 refine rA ?_ (x := tA)
 refine sG [0, 1, 4, 5, 6, 8] [] ?_
 exact zk1) : G := h
theorem zk3 (h : G := by
 have hend : k = 100 := by omega
 refine sw_exit ?_
 refine sS [0, 1, 4, 5, 6] [] ?_
 refine zht ?_
 exact (aI (by refine slc_eq ?_; unfold stabIdx; rw [if_pos hok, hend]) tI)) : G := h
theorem zme (h : G := by
 refine nx (k + 1) (by exact ⟨by omega, any_succ ha hlt hno⟩)) : G := h
theorem zk6 (h : G := by
 refine zdu ?_
 exact zme) : G := h
theorem zk7 (h : G := by
 refine sw_ret ?_
 exact (aI (by refine slc_eq ?_; rw [find_no ha]; exact rfl) tI)) : G := h
theorem zk8 (h : G := by
 refine nx (k + 1) (by exact ⟨by omega, eq_succ ha hlt hlt2 (by rw [ext_Span_iff]; simp_all [deq_iff])⟩)) : G := h
theorem zkf (h : G := by
 refine zoq ?_
 exact (Exists.intro 2 (Exists.intro _ (aI (by exact rfl) (aI (by refine box_eq ?_; rw [build_no hok]; exact rfl) (aI ty_92 (aI (fun h => nomatch h) tI))))))) : G := h
theorem zkk (h : G := by
 refine dA 28 ?_ (x := loc_bslice (qs := [(false, [sl _ _])]) (by decide) sl_90 z_205 (by decide) rfl rfl rfl rfl rfl (by exact nl rfl) (by exact (aI (by exact ⟨⟩) tI)) rfl)
 refine dA 63 ?_ (x := loc_append (by decide) sl_90 z_205 rfl rfl (by decide) rfl (by simp only [List.length_map, List.length_append, List.length_cons, List.length_nil]; omega) (by simp only [List.length_map, List.length_append, List.length_cons, List.length_nil]; omega))
 refine dA 127 ?_ (x := lF fd_92_1)
 refine dA 255 ?_ (x := loc_store (ag := false) (vs := [sl _ _]) ty_90 (by exact ⟨⟩) (by exact rfl) (by exact nl rfl))
 refine sO [(0, _), (2, _), (3, _), (4, _)] [(2, _), (3, (92, [sl _ _, sl _ _]))] ?_
 refine zdt ?_
 refine nx (k + 1) (by omega) (e := (by exact aI (by exact int_eq (by omega)) (tI))) (f := (by exact aI (by simp only [fieldsTo_succ]; show _ = some (92, (cIndex (.own 65 4) (.own 193 3) (.own 3 1) (.own 205 1) (.own 234 3) (.own 3 1)) (Index.mk l (fieldsTo l k ++ [stabIdx l (k : Int)]))); simp only [cIndex, List.map_append]; exact rfl) (tI)))) : G := h
theorem zkl (h : G := by
 have hend : k = 3 := by omega
 refine sw_exit ?_
 refine sT [0, 2, 3, 4] [2, 3] ?_
 refine rA ?_ (x := loc_ltake (ms := [sl _ _, sl _ _]) (qs := [sl .v _, sl .v _]) (by decide) ty_92 (fun h => nomatch h) (by exact nl rfl) (by exact rfl) (by exact (ToL.cons PV.to_none (ToL.cons PV.to_none ToL.nil))) (by exact (BorL.cons (bor_sl _) (BorL.cons (bor_sl _) BorL.nil))))
 refine zoq ?_
 exact (Exists.intro 2 (Exists.intro _ (aI (by exact rfl) (aI (by refine box_eq ?_; subst hend; rw [build_yes hok]; exact rfl) (aI ty_92 (aI (fun h => nomatch h) tI))))))) : G := h
theorem zkp (h : G := by
 have hbad : okIndex x = false := by first | (simp_all [okIndex]; done) | (simp_all [okIndex]; omega)
 exact zol) : G := h
theorem zko (h : G := by
 refine zj2 ?_
 exact zkp) : G := h
theorem zkr (h : G := by
 refine nx (k + 1) (by exact ⟨by omega, by rw [idxTo_succ, ha, hd]; rfl⟩)) : G := h
theorem zks (h : G := by
 refine zg4 ?_
 exact rb (by unfold okIndex; rw [hpr, ha]; rfl)) : G := h
theorem zku (h : G := by
 have hno : (inB (o.getD k 0) 0 2 && !hasI (o.take k) (o.getD k 0)) = false := by rw [← hgk]; simp_all
 refine sS [0, 3] [] ?_
 refine zg4 ?_
 exact rb ((ord_no hl3 (by omega) hno).symm)) : G := h
theorem zmg (h : G := by
 refine rA ?_ (x := tM)
 refine rM ?_
 refine rA ?_ (x := tA)
 refine zgc ?_
 exact (aI (by refine slc_eq ?_; rw [hpe]) (aI (by refine int_eq ?_; rw [hpe]) tI))) : G := h
theorem zkw (h : G := by
 have hfin : k = o.length ∨ (probeTo x r o k).1 = [] := by
  by_cases hka : k = o.length
  ·exact .inl hka
  ·right
   have hlt_ : k < o.length := by omega
   have hlt2_ : (k : Int) < (o.length : Int) := by omega
   first | omega | (rw [← List.length_eq_zero_iff]; first | omega | (simp_all; done))
 have hpe := probe_end (x := x) (r := r) hfin
 refine sw_exit ?_
 refine sT [2, 3, 4, 6, 7, 8, 9, 10] [3, 4] ?_
 exact zmg) : G := h
theorem zl1 (h : G := by
 have hbad : okCharge x = false := by first | (simp_all [okCharge, chgPre, inB]; done) | (simp_all [okCharge, chgPre, inB]; rfl) | (simp_all [okCharge, chgPre, inB]; omega) | (simp_all [okCharge, chgPre, inB]; intros; omega)
 refine sS [1, 2, 3] [1] ?_
 exact zhy) : G := h
theorem zky (h : G := by
 refine scT ?_
 exact zl1) : G := h
theorem zor (h : G := by
 refine zg4 ?_
 exact rb ((chg_no hlt hno).symm)) : G := h
theorem zl3 (h : G := by
 have hno : chgAt x k = false := by simp_all [chgAt]
 refine sS [1, 3, 4, 33, 34] [1] ?_
 exact zor) : G := h
theorem zl4 (h : G := by
 refine nx (k + 1) (by exact ⟨by omega, by rw [chgTo_succ, ha, hyes]; rfl⟩)) : G := h
theorem zl5 (h : G := by
 refine zgc ?_
 exact rb (by simp_all [okCharge])) : G := h
theorem zl9 (h : G := by
 have hno : chgAt x k = false := by simp_all [chgAt]
 refine sS [1, 3, 4] [1] ?_
 exact zor) : G := h
theorem zla (h : G := by
 have hbad : adjAll 0 (todoP s.Segments.length) ltI_ a.Todo = false := adj_no hlt (Bool.eq_false_iff.2 fun hx => by
  have hx := adjStep.1 hx
  rw [hgk] at hx
  obtain ⟨hx1, hx2⟩ := hx
  first
  | (simp_all; done)
  | (simp only [decide_eq_true_eq, ltI_, todoP, inB, Bool.and_eq_true, Bool.and_eq_false_iff, decide_eq_false_iff_not] at *; by_cases h0 : k = 0 <;> (try rw [hgp (by omega)] at hx2) <;> omega))
 refine sS [2, 3, 5, 6, 8, 9, 10] [2, 3] ?_
 refine zg4 ?_
 exact rb (by simp [okActive, okTodo, hbad])) : G := h
theorem zos (h : G := by
 refine nx (k + 1) (by exact ⟨by omega, by rw [adjTo_succ, ha, Bool.true_and]; refine adjStep.2 ⟨by rw [hgk]; first | assumption | simp_all, ?_⟩; rcases Nat.eq_zero_or_pos k with h0 | h0; (· exact .inl h0); (· right; rw [hgk, hgp h0]; first | (simp only [decide_eq_true_eq, ltI_, todoP, inB, Bool.and_eq_true, Bool.and_eq_false_iff, decide_eq_false_iff_not] at *; omega) | (simp_all; done))⟩)) : G := h
theorem zlb (h : G := by
 refine sw_skip ?_
 refine sG [2, 3, 5, 6, 8, 9, 10] [2, 3] ?_
 refine zfi ?_
 exact zos) : G := h
theorem zld (h : G := by
 refine zgc ?_
 exact rb (by first | (simp_all [okActive, okTodo]; done) | (simp_all [okActive, okTodo]; rfl) | (simp_all [okActive, okTodo]; omega) | (simp_all [okActive, okTodo]; intros; omega))) : G := h
theorem zle (h : G := by
 have hbad : adjAll 0 (todoP n) ltI_ l = false := adj_no hlt (Bool.eq_false_iff.2 fun hx => by
  have hx := adjStep.1 hx
  rw [hgk] at hx
  obtain ⟨hx1, hx2⟩ := hx
  first
  | (simp_all; done)
  | (simp only [decide_eq_true_eq, ltI_, todoP, inB, Bool.and_eq_true, Bool.and_eq_false_iff, decide_eq_false_iff_not] at *; by_cases h0 : k = 0 <;> (try rw [hgp (by omega)] at hx2) <;> omega))
 refine zai ?_
 exact rb (by simp [okTodo, hbad])) : G := h
theorem zlf (h : G := by
 refine zaj ?_
 exact zos) : G := h
theorem zli (h : G := by
 refine zgc ?_
 exact rb (by first | (simp_all [okActive]; done) | (simp_all [okActive]; rfl) | (simp_all [okActive]; omega) | (simp_all [okActive]; intros; omega))) : G := h
theorem zlk (h : G := by
 have hpr : engPre e = false := by first | (simp_all [engPre]; done) | (simp_all [engPre]; omega) | (rw [← Bool.not_eq_true]; intro hc_; simp [engPre] at hc_; simp_all; done) | (rw [← Bool.not_eq_true]; intro hc_; simp [engPre] at hc_; omega)
 have hbad := eng_no1 hpr
 exact zol) : G := h
theorem zlj (h : G := by
 refine scT ?_
 exact zlk) : G := h
theorem zlm (h : G := by
 have hpr : engPre e = false := by unfold engPre; rw [hp1]; first | (simp_all; done) | (simp_all; omega)
 have hbad := eng_no1 hpr
 exact zol) : G := h
theorem zlx (h : G := by
 refine zg4 ?_
 exact rb (hbad2.symm)) : G := h
theorem zlq (h : G := by
 have hbad : adjAll a0_ (okActive e.Store) ltA e.Active = false := adj_no hlt (Bool.eq_false_iff.2 fun hx => by
  have hx := adjStep.1 hx
  rw [hgk] at hx
  obtain ⟨hx1, hx2⟩ := hx
  first
  | (simp_all; done)
  | (simp only [decide_eq_true_eq, ltA] at *; by_cases h0 : k = 0 <;> (try rw [hgp (by omega)] at hx2) <;> omega))
 have hbad2 := eng_no2 hbad
 refine sS [1, 3, 4, 53, 54, 55] [1, 4] ?_
 exact zlx) : G := h
theorem zot (h : G := by
 refine nx (k + 1) (by exact ⟨by omega, by rw [adjTo_succ, ha, Bool.true_and]; refine adjStep.2 ⟨by rw [hgk]; first | assumption | simp_all, ?_⟩; rcases Nat.eq_zero_or_pos k with h0 | h0; (· exact .inl h0); (· right; rw [hgk, hgp h0]; first | (simp only [decide_eq_true_eq, ltA] at *; omega) | (simp_all; done))⟩)) : G := h
theorem zlr (h : G := by
 refine sw_skip ?_
 refine sG [1, 3, 4, 53, 54, 55] [1, 4] ?_
 refine zfi ?_
 exact zot) : G := h
theorem zlu (h : G := by
 have hno : (okFin e.Store.Now) e.Done[k] = false := by first | (simp_all [okFin]; done) | (simp_all [okFin]; omega)
 have hbad2 := eng_no3 (all_no hlt hno)
 refine sS [1, 6, 53, 54, 55, 85, 86, 87] [1, 6] ?_
 exact zlx) : G := h
theorem zly (h : G := by
 refine zg4 ?_
 exact rb ((eng_yes hpr hall hfa hla).symm)) : G := h
theorem zm1 (h : G := by
 have hbad : adjAll a0_ (okActive e.Store) ltA e.Active = false := adj_no hlt (Bool.eq_false_iff.2 fun hx => by
  have hx := adjStep.1 hx
  rw [hgk] at hx
  obtain ⟨hx1, hx2⟩ := hx
  first
  | (simp_all; done)
  | (simp only [decide_eq_true_eq, ltA] at *; by_cases h0 : k = 0 <;> (try rw [hgp (by omega)] at hx2) <;> omega))
 have hbad2 := eng_no2 hbad
 refine sS [1, 3] [1] ?_
 exact zlx) : G := h
theorem zm2 (h : G := by
 refine zfx ?_
 refine zdu ?_
 exact zot) : G := h
theorem zm3 (h : G := by
 have hno : (okFin e.Store.Now) e.Done[k] = false := by first | (simp_all [okFin]; done) | (simp_all [okFin]; omega)
 have hbad2 := eng_no3 (all_no hlt hno)
 refine sS [1, 3, 4, 5] [1, 5] ?_
 exact zlx) : G := h
theorem zm4 (h : G := by
 have hbad : adjAll q0_ okQuery ltQ l = false := adj_no hlt (Bool.eq_false_iff.2 fun hx => by
  have hx := adjStep.1 hx
  rw [hgk] at hx
  obtain ⟨hx1, hx2⟩ := hx
  first
  | (simp_all; done)
  | (simp only [decide_eq_true_eq, ltQ] at *; by_cases h0 : k = 0 <;> (try rw [hgp (by omega)] at hx2) <;> omega))
 refine sS [0, 3, 4, 5, 6, 7] [4] ?_
 exact zon) : G := h
theorem zm5 (h : G := by
 refine sw_skip ?_
 refine sG [0, 3, 4, 5, 6, 7] [4] ?_
 refine zfi ?_
 exact zoo) : G := h
theorem zm6 (h : G := by
 have hyes : admC f v q.Conds[k] = true := by simp_all [admC]
 refine sw_skip ?_
 refine sG [1, 2, 3, 8, 10, 11, 12] [3, 8] ?_
 exact zfp) : G := h
theorem zm8 (h : G := by
 refine sG [0, 1, 2, 6, 7, 9, 11, 12, 13] [9] ?_
 refine zfi ?_
 refine nx (k + 1) (by omega) (e := (by exact aI (by first | exact slc_eq (by rw [stabS_yes hlt hc, List.map_append]; rfl) | exact slc_eq (by rw [stabS_no hlt hc])) (aI (by exact rfl) (tI))))) : G := h
theorem zma (h : G := by
 refine zdu ?_
 refine nx (k + 1) (by omega) (e := (by exact aI (by first | exact slc_eq (by rw [spansTo, spanNext_no hls, List.map_append]; exact rfl) | exact slc_eq (by rw [spansTo, spanNext_yes hls])) (aI (by exact rfl) (tI))))) : G := h
theorem zmb (h : G := by
 have hls : lastIs (spansTo l f k) (stabS l f (k : Int)) = false := by
  by_cases h0 : (spansTo l f k).length = 0
  ·simp [lastIs, h0]
  ·simp_all [lastIs]
 refine sG [0, 1, 4, 5, 6, 7, 8] [] ?_
 refine rA ?_ (x := tM)
 refine zfh ?_
 refine rA ?_ (x := tM)
 refine rA ?_ (x := loc_build (qs := [(false, [val _]), (false, [val _]), (false, [sl _ _])]) (cs := [val _, val _, sl _ _]) (by decide) z_234 zo_234 FIdi_pl_234 (by exact rfl) (by exact (aI (by exact ⟨⟩) (aI (by exact ⟨⟩) (aI (by exact ⟨⟩) tI)))) rfl (by exact rfl))
 refine zop ?_
 refine rA ?_ (x := tA)
 refine sG [0, 1, 4, 5, 6, 8] [] ?_
 exact zma) : G := h
theorem zmf (h : G := by
 refine scT ?_
 refine sS [0, 1, 5, 6, 12, 13, 14] [6] ?_
 exact zjb) : G := h
theorem zmi (h : G := by
 refine zgc ?_
 exact rb (by first | (simp_all [awake]; done) | (simp_all [awake]; rfl) | (simp_all [awake]; omega) | (simp_all [awake]; intros; omega))) : G := h
theorem zmk (h : G := by
 have hbad : isAwakeAt e i = false := by first | (simp_all [isAwakeAt]; done) | (simp_all [isAwakeAt]; omega)
 refine sS [1, 2, 4] [2] ?_
 exact zhy) : G := h
theorem zml (h : G := by
 refine zgc ?_
 exact rb (by unfold isAwakeAt; rw [hok.1, hok.2, ← hgd]; first | (simp_all [awake]; done) | (simp_all [awake]; omega))) : G := h
theorem zmo (h : G := by
 refine sG [1, 2, 3, 4] [1] ?_
 refine zdu ?_
 refine nx (k + 1) (by exact ⟨by omega, fun _ => hok⟩) (e := (by exact aI (by first | exact slc_eq (by rw [partsOf_yes hlt hc, List.map_append]; rfl) | exact slc_eq (by rw [partsOf_no hlt hc])) (aI (by exact rfl) (tI))))) : G := h
theorem zmp (h : G := by
 have hc : partP e e.Active[k] = false := by simp_all [partP]
 refine sw_skip ?_
 exact zmo) : G := h
theorem zmq (h : G := by
 have hfin : (k = e.Active.length ∧ okEngine e = true) ∨ (k = 0 ∧ (e.Active.length = 0 ∨ okEngine e = false)) := by
  by_cases h0k : 0 < k
  ·left
   have h1 := ha h0k
   refine ⟨?_, h1⟩
   by_cases hka : k = e.Active.length
   ·exact hka
   ·exfalso
    have hlt_ : k < e.Active.length := by omega
    have hlt2_ : (k : Int) < (e.Active.length : Int) := by omega
    first | omega | simp_all
  ·right
   refine ⟨by omega, ?_⟩
   by_cases hka : e.Active.length = 0
   ·exact .inl hka
   ·right
    have hlt_ : k < e.Active.length := by omega
    have hlt2_ : (k : Int) < (e.Active.length : Int) := by omega
    rw [← Bool.not_eq_true]; intro hc_; simp_all
 refine sw_exit ?_
 refine sT [1, 2, 3, 4] [1] ?_
 refine zht ?_
 exact (aI (by refine slc_eq ?_; rw [parts_end hfin]) tI)) : G := h
theorem zms (h : G := by
 refine sG [1, 2, 3, 5, 12, 13, 14] [1, 5] ?_
 refine zfi ?_
 refine nx (k + 1) (by omega) (e := (by exact aI (by first | exact slc_eq (by rw [partsOf_yes hlt hc, List.map_append]; rfl) | exact slc_eq (by rw [partsOf_no hlt hc])) (aI (by exact rfl) (tI))))) : G := h
theorem zmt (h : G := by
 have hc : partP e e.Active[k] = false := by simp_all [partP]
 refine sw_skip ?_
 exact zms) : G := h
theorem zmu (h : G := by
 refine za3 ?_
 exact (aI (by refine int_eq ?_; rw [findA_yes hlt ha hy]) tI)) : G := h
theorem zmv (h : G := by
 refine zg4 ?_
 exact (aI (by refine int_eq ?_; rw [findA_no ha]) tI)) : G := h
theorem zn0 (h : G := by
 refine nx (k + 1) (by omega) (e := (by exact aI (by exact slc_eq (by unfold partQ; rw [map_take_succ hlt, List.map_append]; rfl)) (aI (by exact rfl) (tI))))) : G := h
theorem zn2 (h : G := by
 refine nx (k + 1) (by omega) (e := (by exact aI (by exact slc_eq (by rw [map_take_succ hlt, List.map_append]; rfl)) (aI (by exact rfl) (tI))))) : G := h
theorem zn3 (h : G := by
 refine rA ?_ (x := tM)
 refine rA ?_ (x := loc_store (ag := true) (vs := [sl _ _, sl _ _]) ty_92 (by exact ⟨⟩) (by exact rfl) (by exact nl rfl))
 refine rA ?_ (x := tA)
 refine sw_ret ?_
 exact (Exists.intro 2 (Exists.intro _ (aI (by exact rfl) (aI (by exact rfl) (aI ty_92 (aI (fun h => nomatch h) (aI (by exact rfl) tI)))))))) : G := h
theorem zn7 (h : G := by
 have hbad : (okIndex x && okOrder o) = false := by first | (simp_all; done)
 refine sS [1, 2, 3, 6, 7] [3] ?_
 refine za3 ?_
 exact (aI (by refine int_eq ?_; unfold workOf; rw [if_neg (by rw [hbad]; simp)]) tI)) : G := h
theorem zn9 (h : G := by
 refine zfi ?_
 refine nx (k + 1) (by omega) (e := (by exact aI (by exact int_eq (by rw [workTo_succ hlt, hwo]; try omega)) (aI (by exact rfl) (tI))))) : G := h
theorem znb (h : G := by
 refine zdu ?_
 refine nx (k + 1) (by exact ⟨by omega, fun _ => hxo⟩) (e := (by exact aI (by exact int_eq (by rw [workTo_succ hlt, hwo]; try omega)) (aI (by exact rfl) (tI))))) : G := h
theorem znc (h : G := by
 have hfin : (k = l.length ∧ (okIndex x && okOrder o) = true) ∨ (k = 0 ∧ (l.length = 0 ∨ (okIndex x && okOrder o) = false)) := by
  by_cases h0k : 0 < k
  ·left
   have h1 := ha h0k
   refine ⟨?_, h1⟩
   by_cases hka : k = l.length
   ·exact hka
   ·exfalso
    have hlt_ : k < l.length := by omega
    have hlt2_ : (k : Int) < (l.length : Int) := by omega
    first | omega | simp_all
  ·right
   refine ⟨by omega, ?_⟩
   by_cases hka : l.length = 0
   ·exact .inl hka
   ·right
    have hlt_ : k < l.length := by omega
    have hlt2_ : (k : Int) < (l.length : Int) := by omega
    rw [← Bool.not_eq_true]; intro hc_; simp_all
 refine sw_exit ?_
 refine sT [1, 2, 3, 6, 7, 8] [3] ?_
 refine za3 ?_
 exact (aI (by refine int_eq ?_; rw [work_end hfin]) tI)) : G := h
theorem zni (h : G := by
 refine sG [1, 2, 4, 5, 6, 8, 22, 23, 24] [2] ?_
 refine zfi ?_
 refine nx (k + 1) (by omega) (e := (by exact aI (by first | exact congrArg (fun z => some (RV.sv false [sl .v (List.map cInt z)])) (bestTo_yes hlt hc).symm | exact congrArg (fun z => some (RV.sv false [sl .v (List.map cInt z)])) (bestTo_no hlt hc).symm) (aI (by exact rfl) (tI))))) : G := h
theorem znk (h : G := by
 refine sG [1, 2, 4, 5, 6, 7, 8, 9] [2] ?_
 refine zdu ?_
 refine nx (k + 1) (by exact ⟨by omega, fun _ => hok⟩) (e := (by exact aI (by exact congrArg (fun z => some (RV.sv false [sl .v (List.map cInt z)])) hsb.1.symm) (aI (by exact int_eq hsb.2.symm) (aI (by exact rfl) (tI)))))) : G := h
theorem znj (h : G := by
 have hsb := spBest_yes (x := x) (l := l) hlt (by first | exact .inl hk0e | exact .inr (by omega))
 refine sS [1, 2, 4, 5, 6, 7, 8, 9] [2] ?_
 refine zg8 ?_
 refine znf ?_
 refine rA ?_ (x := vA false [sl .v _])
 refine sG [1, 2, 4, 5, 6, 7, 8, 9] [2] ?_
 refine rM ?_
 refine rS ?_
 exact znk) : G := h
theorem znl (h : G := by
 have hfin : (k = ordersL.length ∧ okIndex x = true) ∨ (k = 0 ∧ (ordersL.length = 0 ∨ okIndex x = false)) := by
  by_cases h0k : 0 < k
  ·left
   have h1 := ha h0k
   refine ⟨?_, h1⟩
   by_cases hka : k = ordersL.length
   ·exact hka
   ·exfalso
    have hlt_ : k < ordersL.length := by omega
    have hlt2_ : (k : Int) < (ordersL.length : Int) := by omega
    first | omega | simp_all
  ·right
   refine ⟨by omega, ?_⟩
   by_cases hka : ordersL.length = 0
   ·exact .inl hka
   ·right
    have hlt_ : k < ordersL.length := by omega
    have hlt2_ : (k : Int) < (ordersL.length : Int) := by omega
    rw [← Bool.not_eq_true]; intro hc_; simp_all
 refine sw_exit ?_
 refine sT [1, 2, 4, 5, 6, 7, 8] [2] ?_
 refine znh ?_
 refine sw_ret ?_
 exact (aI (by refine slc_eq ?_; rw [best_end hfin]) tI)) : G := h
theorem znm (h : G := by
 refine sw_weak (s := 2) [sl _ _] (by exact rfl) (by exact (ToL.cons PV.to_none ToL.nil)) (by exact (BorL.cons (bor_sl _) BorL.nil)) ?_
 refine sw_ret ?_
 exact (aI (by refine slc_eq ?_; unfold chooseOrder; rw [if_neg (by rw [hok]; simp)]; rfl) tI)) : G := h
theorem znq (h : G := by
 refine rA ?_ (x := vA false [sl .v _])
 refine sw_ret ?_
 exact (aI (by refine slc_eq ?_; unfold chooseOrder; rw [if_pos hok]) tI)) : G := h
theorem znv (h : G := by
 refine zc4 ?_
 refine sw_ret ?_
 exact (Exists.intro 2 (Exists.intro _ (aI (by exact rfl) (aI (by refine box_eq ?_; rw [hend, List.take_length]; exact rfl) (aI ty_35 (aI (fun h => nomatch h) tI))))))) : G := h
theorem zou (h : G := by
 refine nx (k + 1) (by omega) (f := (by exact aI (by rw [tk_succ hlt]; simp only [List.map_append]; exact rfl) (tI)))) : G := h
theorem znw (h : G := by
 refine zdt ?_
 exact zou) : G := h
theorem znx (h : G := by
 refine sw_reg ?_
 refine zfi ?_
 exact zou) : G := h
theorem znz (h : G := by
 refine zog ?_
 refine sw_ret ?_
 exact (Exists.intro 2 (Exists.intro _ (aI (by exact rfl) (aI (by refine box_eq ?_; rw [hend2, List.take_length]; exact rfl) (aI ty_40 (aI (fun h => nomatch h) tI))))))) : G := h
theorem zov (h : G := by
 refine zog ?_
 refine zg4 ?_
 exact (Exists.intro 4 (Exists.intro _ (aI (by exact rfl) (aI (by refine box_eq ?_; rw [hr]; exact rfl) (aI ty_40 (aI (fun h => nomatch h) (aI (by refine bool_eq ?_; rw [hr]) tI)))))))) : G := h
theorem zo7 (h : G := by
 have hr := setOrder_no (e := e) (o := o) (by cases h1_ : okEngine e <;> cases h2_ : okOrder o <;> simp_all)
 refine sS [1, 2, 4, 5, 6] [2, 4, 6] ?_
 exact zov) : G := h
theorem zo6 (h : G := by
 refine zj2 ?_
 exact zo7) : G := h
theorem zo8 (h : G := by
 refine rA ?_ (x := lF fd_40_2)
 refine zbe ?_
 refine zo5 ?_
 exact zov) : G := h
theorem zoa (h : G := by
 obtain ⟨us0, r0, rfl, hl0, hR0, hU1⟩ := RelU.cons hU0
 obtain ⟨u1_0_0, u1_0_1, u1_0_2, u1_0_3, u1_0_4, u1_0_5, u1_0_6, u1_0_7, rfl⟩ := us_8 hl0
 obtain rfl := relval hR0 (j := 1) rfl rfl
 obtain rfl := relval hR0 (j := 2) rfl rfl
 obtain rfl := relval hR0 (j := 7) rfl rfl
 obtain ⟨us1, r1, rfl, hl1, hR1, hU2⟩ := RelU.cons hU1
 obtain ⟨u1_1_0, rfl⟩ := us_1 hl1
 obtain rfl := relval hR1 (j := 0) rfl rfl
 obtain rfl := RelU.nil hU2
 clear hR0 hU0 hR1 hU1 hU2
 refine Run.stepC 15 (by exact ⟨rfl, ⟨⟩⟩) (by exact ⟨⟩) (LocG.of rfl (loc_take (.inl rfl) (by decide))) nofree (by kernel_rfl) (by intro L' h; exact nomatch (show (none : Option Step) = some L' from h)) ?_
 refine Run.stepC 31 (by exact ⟨rfl, ⟨⟩⟩) (by exact ⟨⟩) (LocG.of rfl (loc_extractb (cs := [val _, val _, val _, val _, val _, val _, val _, val _]) (by decide) (by exact rfl) (by exact (BorL.cons (bor_val _) (BorL.cons (bor_val _) (BorL.cons (bor_val _) (BorL.cons (bor_val _) (BorL.cons (bor_val _) (BorL.cons (bor_val _) (BorL.cons (bor_val _) (BorL.cons (bor_val _) BorL.nil))))))))))) nofree (by kernel_rfl) (by intro L' h; exact nomatch (show (none : Option Step) = some L' from h)) ?_
 refine Run.stepC 31 (by exact ⟨rfl, ⟨⟩⟩) (by exact ⟨⟩) (LocG.of rfl (loc_extractb (cs := [val _]) (by decide) (by exact rfl) (by exact (BorL.cons (bor_val _) BorL.nil)))) nofree (by kernel_rfl) (by intro L' h; exact nomatch (show (none : Option Step) = some L' from h)) ?_
 refine Run.stepC 0 (by exact ⟨⟩) (by exact ⟨⟩) (LocG.of rfl (loc_alloc (by decide) z_40 zo_40)) (free1 (Free.wr (Free.app (Free.app (Free.app (Free.of_ rfl) rfl) rfl) rfl) rfl)) (by kernel_rfl) (by intro L' h; exact Option.some.inj (show some _ = some L' from h)) ?_
 refine Run.stepC 191 (by exact ⟨rfl, rfl, ⟨⟩⟩) (by exact ⟨rfl, ⟨⟩⟩) (LocG.of rfl (loc_store (ag := true) (vs := [val _, val _, val _, val _, val _, val _, val _, val _]) ty_40 (by exact ⟨⟩) (by exact rfl) (by exact nl rfl))) nofree (by kernel_rfl) (by intro L' h; exact nomatch (show (none : Option Step) = some L' from h)) ?_
 refine Run.stepC 511 (by exact ⟨rfl, ⟨⟩⟩) (by exact ⟨⟩) (LocG.of rfl (loc_copy (.inr rfl) (by decide) (by exact Cp.sc))) nofree (by kernel_rfl) (by intro L' h; exact nomatch (show (none : Option Step) = some L' from h)) ?_
 refine sw_backB (d := 3) (G := 2000) (by exact rfl) (by exact (Nm.val (Nm.val (Nm.val (Nm.val (Nm.val (Nm.val (Nm.val (Nm.val Nm.nil))))))))) (by exact rfl) ?_
 refine sw_backS (s := 4) (G := 2001) (by exact rfl) (by exact (Nm.val Nm.nil)) rfl (by decide) (by exact rfl) ?_
 refine sw_seq ?_
 refine sO [(1, _), (2, _), (3, _), (4, _)] [(1, _), (2, _), (3, (40, [sl _ _, val _, val _, sl _ _, sl _ _, sl _ _, sl _ _, val _]))] ?_
 exact zca) : G := h
theorem zew (h : H) (w : Hd H → G := by
 intro h_
 refine sw_skip ?_
 refine sw_seq ?_
 exact h_.get) : G := w ⟨h⟩
theorem zay (h : H) (w : Hd H → G := by
 intro h_
 refine sR ?_
 refine rX ?_ (x := (loc_box (ag := true) (cs := [sl _ _, val _, val _, sl _ _, sl _ _, sl _ _, sl _ _, val _]) (by decide) (by exact ⟨⟩)))
 exact h_.get) : G := w ⟨h⟩
theorem zmh (h : H) (w : Hd H → G := by
 intro h_
 refine rM ?_
 refine rA ?_ (x := vM false [sl .v _])
 exact h_.get) : G := w ⟨h⟩
theorem ze7 (h : H) (w : Hd H → G := by
 intro h_
 refine zew ?_
 refine sw_block ?_
 exact h_.get) : G := w ⟨h⟩
theorem znd (h : H) (w : Hd H → G := by
 intro h_
 refine rA ?_ (x := loc_bslice (qs := [(false, [val _]), (false, [val _]), (false, [val _])]) (by decide) sl_25 z_3 (by decide) rfl rfl rfl rfl rfl (by exact nl rfl) (by exact (aI (ok_sc rfl) (aI (ok_sc rfl) (aI (ok_sc rfl) tI)))) rfl)
 refine rA ?_ (x := loc_bslice (qs := [(false, [val _]), (false, [val _]), (false, [val _])]) (by decide) sl_25 z_3 (by decide) rfl rfl rfl rfl rfl (by exact nl rfl) (by exact (aI (ok_sc rfl) (aI (ok_sc rfl) (aI (ok_sc rfl) tI)))) rfl)
 exact h_.get) : G := w ⟨h⟩
theorem zba (h : H) (w : Hd H → G := by
 intro h_
 refine rA ?_ (x := loc_store (ag := false) (vs := [val _]) ty_3 (by exact ⟨⟩) (by exact rfl) (by exact nl rfl))
 refine sw_seq ?_
 exact h_.get) : G := w ⟨h⟩
theorem zci (h : H) (w : Hd H → G := by
 intro h_
 refine dA 0 ?_ (x := vM false [sl .v _])
 refine dA 0 ?_ (x := sM)
 exact h_.get) : G := w ⟨h⟩
theorem zee (h : H) (w : Hd H → G := by
 intro h_
 refine sS [0, 1, 5] [] ?_
 refine rA ?_ (x := vM false [sl .v _])
 exact h_.get) : G := w ⟨h⟩
theorem zb4 (h : H) (w : Hd H → G := by
 intro h_
 refine rA ?_ (x := loc_index (by decide) sl_25 (by exact ⟨⟩) (by exact rfl) (by exact getm2 (by omega) rfl) (by exact rfl))
 refine rA ?_ (x := lE [val _] ty_3)
 exact h_.get) : G := w ⟨h⟩
theorem zog (h : H) (w : Hd H → G := by
 intro h_
 refine rA ?_ (x := loc_ltake (ms := [sl _ _, val _, val _, sl _ _, sl _ _, sl _ _, sl _ _, val _]) (qs := [sl .v _, val _, val _, sl .v _, sl .v _, sl .v _, sl .v _, val _]) (by decide) ty_40 (fun h => nomatch h) (by exact nl rfl) (by exact rfl) (by exact (ToL.cons PV.to_none (ToL.cons (PV.To.refl _) (ToL.cons (PV.To.refl _) (ToL.cons PV.to_none (ToL.cons PV.to_none (ToL.cons PV.to_none (ToL.cons PV.to_none (ToL.cons (PV.To.refl _) ToL.nil))))))))) (by exact (BorL.cons (bor_sl _) (BorL.cons (bor_val _) (BorL.cons (bor_val _) (BorL.cons (bor_sl _) (BorL.cons (bor_sl _) (BorL.cons (bor_sl _) (BorL.cons (bor_sl _) (BorL.cons (bor_val _) BorL.nil))))))))))
 refine rA ?_ (x := loc_store (ag := true) (vs := [sl _ _, val _, val _, sl _ _, sl _ _, sl _ _, sl _ _, val _]) ty_40 (by exact ⟨⟩) (by exact rfl) (by exact nl rfl))
 exact h_.get) : G := w ⟨h⟩
theorem zhr (h : H) (w : Hd H → G := by
 intro h_
 refine rK ?_
 refine sw_block ?_
 exact h_.get) : G := w ⟨h⟩
theorem zi2 (h : H) (w : Hd H → G := by
 intro h_
 refine rM ?_
 refine rA ?_ (x := B_lss)
 exact h_.get) : G := w ⟨h⟩
theorem ziw (h : H) (w : Hd H → G := by
 intro h_
 refine rA ?_ (x := loc_bslice (qs := []) (by decide) sl_25 z_3 (by decide) rfl rfl rfl rfl rfl (by exact nl rfl) (by exact ⟨⟩) rfl)
 refine rA ?_ (x := tA)
 exact h_.get) : G := w ⟨h⟩
theorem zix (h : H) (w : Hd H → G := by
 intro h_
 refine sw_seq ?_
 refine sR ?_
 exact h_.get) : G := w ⟨h⟩
theorem zdu (h : H) (w : Hd H → G := by
 intro h_
 refine rM ?_
 refine rA ?_ (x := B_add)
 refine rS ?_
 exact h_.get) : G := w ⟨h⟩
theorem ze8 (h : H) (w : Hd H → G := by
 intro h_
 refine rK ?_
 refine sw_seq ?_
 exact h_.get) : G := w ⟨h⟩
theorem zf7 (h : H) (w : Hd H → G := by
 intro h_
 refine rM ?_
 refine rA ?_ (x := cL [(false, [sl _ _]), (false, [val _])] [(false, [sl .v _]), (false, [val _])] c_19 (hs := by exact held_IntS (by omega) (by omega)))
 exact h_.get) : G := w ⟨h⟩
theorem zbe (h : H) (w : Hd H → G := by
 intro h_
 refine rA ?_ (x := loc_store (ag := false) (vs := [sl _ _]) ty_25 (by exact ⟨⟩) (by exact rfl) (by exact nl rfl))
 refine sw_seq ?_
 exact h_.get) : G := w ⟨h⟩
theorem zc6 (h : H) (w : Hd H → G := by
 intro h_
 refine sO [(1, _), (2, _), (3, _)] [(1, _), (2, _), (3, (40, [sl _ _, val _, val _, sl _ _, sl _ _, sl _ _, sl _ _, val _]))] ?_
 refine sw_reg ?_
 exact h_.get) : G := w ⟨h⟩
theorem zo4 (h : H) (w : Hd H → G := by
 intro h_
 refine rX ?_ (x := (loc_alloc (by decide) z_40 zo_40))
 refine rA ?_ (x := loc_store (ag := true) (vs := [sl _ _, val _, val _, sl _ _, sl _ _, sl _ _, sl _ _, val _]) ty_40 (by exact ⟨⟩) (by exact rfl) (by exact nl rfl))
 exact h_.get) : G := w ⟨h⟩
theorem zff (h : H) (w : Hd H → G := by
 intro h_
 refine rA ?_ (x := kM)
 refine sw_block ?_
 exact h_.get) : G := w ⟨h⟩
theorem zb0 (h : H) (w : Hd H → G := by
 intro h_
 refine rA ?_ (x := vM false [sl .v _])
 refine rA ?_ (x := lN sl_25)
 exact h_.get) : G := w ⟨h⟩
theorem zcp (h : H) (w : Hd H → G := by
 intro h_
 refine rA ?_ (x := lD [val _] ty_3)
 refine rA ?_ (x := B_neq)
 exact h_.get) : G := w ⟨h⟩
theorem zg4 (h : H) (w : Hd H → G := by
 intro h_
 refine rK ?_
 refine sw_ret ?_
 exact h_.get) : G := w ⟨h⟩
theorem zbd (h : H) (w : Hd H → G := by
 intro h_
 refine rA ?_ (x := lD [sl .v _] ty_25)
 refine rA ?_ (x := cL [(false, [sl _ _])] [(false, [sl .v _])] c_46 (hs := by exact to_IntS (by omega)))
 exact h_.get) : G := w ⟨h⟩
theorem zal (h : H) (w : Hd H → G := by
 intro h_
 refine sR ?_
 refine rX ?_ (x := (loc_box (ag := true) (cs := [val _, val _, sl _ _, sl _ _]) (by decide) (by exact ⟨⟩)))
 exact h_.get) : G := w ⟨h⟩
theorem zjm (h : H) (w : Hd H → G := by
 intro h_
 refine rA ?_ (x := loc_index (by decide) sl_89 (by exact ⟨⟩) (by exact rfl) (by exact getm2 (by omega) rfl) (by exact rfl))
 refine rA ?_ (x := lE [val _, val _, sl .v _, sl .v _] ty_65)
 exact h_.get) : G := w ⟨h⟩
theorem zbs (h : H) (w : Hd H → G := by
 intro h_
 refine sO [(1, _), (2, _), (3, _)] [(1, _), (2, _), (3, (142, [val _, val _, sl _ _, sl _ _, val _, sl _ _, val _, val _, val _, sl _ _]))] ?_
 refine sw_reg ?_
 exact h_.get) : G := w ⟨h⟩
theorem zcr (h : H) (w : Hd H → G := by
 intro h_
 refine zew ?_
 refine sS [2, 3, 4] [2, 3] ?_
 exact h_.get) : G := w ⟨h⟩
theorem zgi (h : H) (w : Hd H → G := by
 intro h_
 refine rA ?_ (x := loc_bslice (qs := [(true, [val _, sl _ _])]) (by decide) sl_93 z_66 (by decide) rfl rfl rfl rfl rfl (by exact nl rfl) (by exact (aI (by exact ⟨⟩) tI)) rfl)
 refine rA ?_ (x := loc_append (by decide) sl_93 z_66 rfl rfl (by decide) rfl (by simp only [List.length_map, List.length_append, List.length_cons, List.length_nil]; omega) (by simp only [List.length_map, List.length_append, List.length_cons, List.length_nil]; omega))
 exact h_.get) : G := w ⟨h⟩
theorem zav (h : H) (w : Hd H → G := by
 intro h_
 refine sR ?_
 refine rX ?_ (x := (loc_box (ag := true) (cs := [sl _ _, val _]) (by decide) (by exact ⟨⟩)))
 exact h_.get) : G := w ⟨h⟩
theorem zdj (h : H) (w : Hd H → G := by
 intro h_
 refine rA ?_ (x := lF fd_40_3)
 refine rA ?_ (x := lD [sl .v _] ty_36)
 exact h_.get) : G := w ⟨h⟩
theorem zae (h : H) (w : Hd H → G := by
 intro h_
 refine zix ?_
 refine zmh ?_
 exact h_.get) : G := w ⟨h⟩
theorem zg1 (h : H) (w : Hd H → G := by
 intro h_
 refine rA ?_ (x := loc_index (by decide) sl_93 (by exact ⟨⟩) (by exact rfl) (by exact getm2 (by omega) rfl) (by exact rfl))
 refine rA ?_ (x := lE [val _, sl .v _] ty_66)
 exact h_.get) : G := w ⟨h⟩
theorem zde (h : H) (w : Hd H → G := by
 intro h_
 refine rA ?_ (x := lF fd_35_0)
 refine rA ?_ (x := lD [sl .v _] ty_33)
 exact h_.get) : G := w ⟨h⟩
theorem zac (h : H) (w : Hd H → G := by
 intro h_
 refine sR ?_
 refine rX ?_ (x := (loc_box (ag := true) (cs := [val _, sl _ _, val _, val _]) (by decide) (by exact ⟨⟩)))
 exact h_.get) : G := w ⟨h⟩
theorem zch (h : H) (w : Hd H → G := by
 intro h_
 refine dA 3 ?_ (x := loc_index (by decide) sl_25 (by exact ⟨⟩) (by exact rfl) (by exact getm2 (by omega) rfl) (by exact rfl))
 refine dA 7 ?_ (x := lE [val _] ty_3)
 exact h_.get) : G := w ⟨h⟩
theorem zja (h : H) (w : Hd H → G := by
 intro h_
 refine rS ?_
 refine sw_seq ?_
 exact h_.get) : G := w ⟨h⟩
theorem zlo (h : H) (w : Hd H → G := by
 intro h_
 refine rA ?_ (x := loc_store (ag := true) (vs := [val _, val _, sl _ _, sl _ _, val _, sl _ _, val _, val _, val _, sl _ _]) ty_142 (by exact ⟨⟩) (by exact rfl) (by exact nl rfl))
 refine sw_seq ?_
 exact h_.get) : G := w ⟨h⟩
theorem za8 (h : H) (w : Hd H → G := by
 intro h_
 refine sw_skip ?_
 refine sS [1, 2, 4] [2] ?_
 exact h_.get) : G := w ⟨h⟩
theorem zk0 (h : H) (w : Hd H → G := by
 intro h_
 refine sw_boxEq (d := 900) (by exact rfl) (at_join (⟨((spansTo l f k).getD ((spansTo l f k).length - 1) sp0).From, (k : Int), ((spansTo l f k).getD ((spansTo l f k).length - 1) sp0).Set⟩) hl1 (by rw [gDt_ (d := sp0) hl1]; exact rfl)) ?_
 refine sw_frzS (s := 5) (D := 900) (G := 2900) (e := 3) (es := (((spansTo l f k)).set ((spansTo l f k).length - 1) (⟨((spansTo l f k).getD ((spansTo l f k).length - 1) sp0).From, (k : Int), ((spansTo l f k).getD ((spansTo l f k).length - 1) sp0).Set⟩)).map (cSpan (.own 3 1))) (by exact rfl) (by exact rfl) (by exact rfl) rfl (by decide) (by rw [List.length_map, List.length_set, List.length_map]) (by intro c hc; obtain ⟨y, _, rfl⟩ := List.mem_map.1 hc; exact rfl) (by rw [List.length_map]; exact hjk900) ?_
 exact h_.get) : G := w ⟨h⟩
theorem zf6 (h : H) (w : Hd H → G := by
 intro h_
 refine rM ?_
 refine rA ?_ (x := loc_index (by decide) sl_37 (by exact ⟨⟩) (by exact rfl) (by exact mkL_getc hlt rfl) (by exact rfl))
 exact h_.get) : G := w ⟨h⟩
theorem zgc (h : H) (w : Hd H → G := by
 intro h_
 refine rS ?_
 refine sw_ret ?_
 exact h_.get) : G := w ⟨h⟩
theorem zkz (h : H) (w : Hd H → G := by
 intro h_
 refine rB ga ?_ (x := cL [(false, [val _]), (false, [val _]), (false, [val _])] [(false, [val _]), (false, [val _]), (false, [val _])] c_114 (hs := by exact impl_within))
 refine rB ga ?_ (x := nT)
 exact h_.get) : G := w ⟨h⟩
theorem zi7 (h : H) (w : Hd H → G := by
 intro h_
 refine rX ?_ (x := (loc_alloc (by decide) z_151 zo_151))
 refine rA ?_ (x := loc_store (ag := true) (vs := [val _, sl _ _, val _, val _]) ty_151 (by exact ⟨⟩) (by exact rfl) (by exact nl rfl))
 exact h_.get) : G := w ⟨h⟩
theorem za4 (h : H) (w : Hd H → G := by
 intro h_
 refine sR ?_
 refine rX ?_ (x := (loc_box (ag := true) (cs := [val _, val _, sl _ _, sl _ _, sl _ _]) (by decide) (by exact ⟨⟩)))
 exact h_.get) : G := w ⟨h⟩
theorem zob (h : H) (w : Hd H → G := by
 intro h_
 refine rA ?_ (x := lD [sl (.lo _) _, val _, val _, sl (.lo _) _, sl (.lo _) _, sl (.lo _) _, sl (.lo _) _, val _] ty_30)
 refine rA ?_ (x := cL [(true, [sl (.lo _) _, val _, val _, sl (.lo _) _, sl (.lo _) _, sl (.lo _) _, sl (.lo _) _, val _])] [(true, [sl .v _, val _, val _, sl .v _, sl .v _, sl .v _, sl .v _, val _])] c_11 (hs := by exact to_Engine (by omega)))
 exact h_.get) : G := w ⟨h⟩
theorem zdx (h : H) (w : Hd H → G := by
 intro h_
 refine rA ?_ (x := loc_storeM (o := 0) (ag := false) (vs := [val _]) (by omega) ty_3 (by exact ⟨⟩) (by exact rfl) (by exact nl rfl))
 refine sw_seq ?_
 exact h_.get) : G := w ⟨h⟩
theorem zfi (h : H) (w : Hd H → G := by
 intro h_
 refine rA ?_ (x := B_add)
 refine rM ?_
 exact h_.get) : G := w ⟨h⟩
theorem zdr (h : H) (w : Hd H → G := by
 intro h_
 refine ze7 ?_
 refine sw_seq ?_
 exact h_.get) : G := w ⟨h⟩
theorem zkm (h : H) (w : Hd H → G := by
 intro h_
 refine sR ?_
 refine rX ?_ (x := (loc_box (ag := true) (cs := [sl _ _, sl _ _]) (by decide) (by exact ⟨⟩)))
 exact h_.get) : G := w ⟨h⟩
theorem zaz (h : H) (w : Hd H → G := by
 intro h_
 refine sR ?_
 refine rA ?_ (x := loc_const (.inr rfl) (by decide) (ok_nil (t := 3) (e := 1)))
 exact h_.get) : G := w ⟨h⟩
theorem zaq (h : H) (w : Hd H → G := by
 intro h_
 refine sR ?_
 refine rX ?_ (x := (loc_box (ag := true) (cs := [val _, val _, sl _ _, sl _ _, val _, sl _ _, val _, val _, val _, sl _ _]) (by decide) (by exact ⟨⟩)))
 exact h_.get) : G := w ⟨h⟩
theorem zlt (h : H) (w : Hd H → G := by
 intro h_
 refine rX ?_ (x := (loc_alloc (by decide) z_144 zo_144))
 refine rA ?_ (x := loc_store (ag := true) (vs := [val _, val _, sl _ _, sl _ _, val _, val _, sl _ _]) ty_144 (by exact ⟨⟩) (by exact rfl) (by exact nl rfl))
 exact h_.get) : G := w ⟨h⟩
theorem zmj (h : H) (w : Hd H → G := by
 intro h_
 refine rA ?_ (x := lD [sl .v _, val _, val _, sl .v _, sl .v _, sl .v _, sl .v _, val _] ty_40)
 refine rA ?_ (x := cL [(true, [sl _ _, val _, val _, sl _ _, sl _ _, sl _ _, sl _ _, val _])] [(true, [sl .v _, val _, val _, sl .v _, sl .v _, sl .v _, sl .v _, val _])] c_42 (hs := by exact (spec_IsEngine (by omega))))
 exact h_.get) : G := w ⟨h⟩
theorem zmr (h : H) (w : Hd H → G := by
 intro h_
 refine rA ?_ (x := lD [sl .v _, val _, val _, sl .v _, sl .v _, sl .v _, sl .v _, val _] ty_40)
 refine rA ?_ (x := cL [(true, [sl _ _, val _, val _, sl _ _, sl _ _, sl _ _, sl _ _, val _])] [(true, [sl .v _, val _, val _, sl .v _, sl .v _, sl .v _, sl .v _, val _])] c_50 (hs := by exact (impl_IsEngine (by omega))))
 exact h_.get) : G := w ⟨h⟩
theorem zls (h : H) (w : Hd H → G := by
 intro h_
 refine rA ?_ (x := loc_index (by decide) sl_37 (by exact ⟨⟩) (by exact rfl) (by exact getm2 (by omega) rfl) (by exact rfl))
 refine rA ?_ (x := lE [val _, val _, sl .v _, sl .v _, val _, val _, sl .v _] ty_144)
 exact h_.get) : G := w ⟨h⟩
theorem zo9 (h : H) (w : Hd H → G := by
 intro h_
 refine sw_split (c := 3) (AI := [(7, ⟨[], [], [(3, some (RV.ptr 3 0))], [(3, some (40, [sl (.own 149 1) [], val (.int .i64 0), val (.int .i64 0), sl (.own 3 1) [], sl (.own 142 10) [], sl (.own 144 7) [], sl (.own 148 5) [], val (.int .i64 0)]))], some 3⟩)]) hm_ rfl rfl rfl rfl (by kernel_rfl) (fun j L h o ho => by have h := lk_mem h; simp only [List.mem_cons, List.not_mem_nil, or_false, Prod.mk.injEq] at h; obtain ⟨rfl, rfl⟩ := h; (· cases (show some ⟨some 3, .alloc 40, _, _, _, none⟩ = some o from ho); apply LocG.of rfl; exact loc_alloc (d := 3) (by decide) z_40 zo_40)) (fun j L h d hd => by have h := lk_mem h; simp only [List.mem_cons, List.not_mem_nil, or_false, Prod.mk.injEq] at h; obtain ⟨rfl, rfl⟩ := h; (· cases (show some _ = some d from hd); exact Free.of_ rfl)) ?_
 refine dX 0 ?_ (x := (loc_load (qs := [sl .v _, val _, val _, sl .v _, sl .v _, sl .v _, sl .v _, val _]) (by decide) ty_40 (fun h => nomatch h) (by exact nl rfl) (by exact (ToL.cons PV.to_none (ToL.cons (PV.To.refl _) (ToL.cons (PV.To.refl _) (ToL.cons PV.to_none (ToL.cons PV.to_none (ToL.cons PV.to_none (ToL.cons PV.to_none (ToL.cons (PV.To.refl _) ToL.nil))))))))) (by exact (BorL.cons (bor_sl _) (BorL.cons (bor_val _) (BorL.cons (bor_val _) (BorL.cons (bor_sl _) (BorL.cons (bor_sl _) (BorL.cons (bor_sl _) (BorL.cons (bor_sl _) (BorL.cons (bor_val _) BorL.nil)))))))))))
 refine dX 0 ?_ (x := (loc_load (qs := [sl .v _, val _, val _, sl .v _, sl .v _, sl .v _, sl .v _, val _]) (by decide) ty_40 (fun h => nomatch h) (by exact nl rfl) (by exact (ToL.cons PV.to_none (ToL.cons (PV.To.refl _) (ToL.cons (PV.To.refl _) (ToL.cons PV.to_none (ToL.cons PV.to_none (ToL.cons PV.to_none (ToL.cons PV.to_none (ToL.cons (PV.To.refl _) ToL.nil))))))))) (by exact (BorL.cons (bor_sl _) (BorL.cons (bor_val _) (BorL.cons (bor_val _) (BorL.cons (bor_sl _) (BorL.cons (bor_sl _) (BorL.cons (bor_sl _) (BorL.cons (bor_sl _) (BorL.cons (bor_val _) BorL.nil)))))))))))
 exact h_.get) : G := w ⟨h⟩
theorem zgx (h : H) (w : Hd H → G := by
 intro h_
 refine rB ga ?_ (x := lD [val _] ty_3)
 refine rB ga ?_ (x := cL [(false, [val _]), (false, [val _]), (false, [val _])] [(false, [val _]), (false, [val _]), (false, [val _])] c_97 (hs := by exact spec_l1In))
 exact h_.get) : G := w ⟨h⟩
theorem zaa (h : H) (w : Hd H → G := by
 intro h_
 refine sR ?_
 refine rX ?_ (x := (loc_box (ag := true) (cs := [val _, sl _ _]) (by decide) (by exact ⟨⟩)))
 exact h_.get) : G := w ⟨h⟩
theorem zfq (h : H) (w : Hd H → G := by
 intro h_
 refine rA ?_ (x := lD [val _] ty_3)
 refine rA ?_ (x := cL [(false, [val _]), (false, [val _]), (false, [val _])] [(false, [val _]), (false, [val _]), (false, [val _])] c_114 (hs := by exact impl_within))
 exact h_.get) : G := w ⟨h⟩
theorem zbu (h : H) (w : Hd H → G := by
 intro h_
 refine rA ?_ (x := loc_store (ag := true) (vs := [val _, val _, sl _ _, sl _ _]) ty_65 (by exact ⟨⟩) (by exact rfl) (by exact nl rfl))
 refine sw_seq ?_
 exact h_.get) : G := w ⟨h⟩
theorem zfj (h : H) (w : Hd H → G := by
 intro h_
 refine sS [0, 1, 4] [] ?_
 refine rA ?_ (x := vM false [sl .v _])
 exact h_.get) : G := w ⟨h⟩
theorem zfs (h : H) (w : Hd H → G := by
 intro h_
 refine zf ga ?_
 refine rA ?_ (x := pkF ga)
 exact h_.get) : G := w ⟨h⟩
theorem zkd (h : H) (w : Hd H → G := by
 intro h_
 refine rX ?_ (x := (loc_alloc (by decide) z_65 zo_65))
 refine rA ?_ (x := loc_store (ag := true) (vs := [val _, val _, sl _ _, sl _ _]) ty_65 (by exact ⟨⟩) (by exact rfl) (by exact nl rfl))
 exact h_.get) : G := w ⟨h⟩
theorem zef (h : H) (w : Hd H → G := by
 intro h_
 refine rA ?_ (x := lE [val _] ty_3)
 refine rM ?_
 refine rA ?_ (x := B_neq)
 exact h_.get) : G := w ⟨h⟩
theorem zk9 (h : H) (w : Hd H → G := by
 intro h_
 refine dA 512 ?_ (x := lD [sl .v _] ty_25)
 refine dA 2032 ?_ (x := loc_appendb (by decide) sl_25 z_3 rfl rfl (by decide) (by first | (intro cs hcs; obtain ⟨x, _, rfl⟩ := List.mem_map.1 hcs; exact rfl) | simp) (by first | (intro cs hcs; obtain ⟨x, _, rfl⟩ := List.mem_map.1 hcs; exact (BorL.cons (bor_val _) BorL.nil)) | simp) (by simp only [List.length_map, List.length_append, List.length_cons, List.length_nil]; omega) (by simp only [List.length_map, List.length_append, List.length_cons, List.length_nil]; omega))
 exact h_.get) : G := w ⟨h⟩
theorem zo0 (h : H) (w : Hd H → G := by
 intro h_
 refine sO [(1, _), (2, _), (3, _), (4, _), (5, _)] [(1, _), (2, _), (3, _), (5, (142, [val _, val _, sl _ _, sl _ _, val _, sl _ _, val _, val _, val _, sl _ _]))] ?_
 refine sw_reg ?_
 exact h_.get) : G := w ⟨h⟩
theorem zfg (h : H) (w : Hd H → G := by
 intro h_
 refine sR ?_
 refine rA ?_ (x := B_lss)
 refine sw_seq ?_
 exact h_.get) : G := w ⟨h⟩
theorem zkg (h : H) (w : Hd H → G := by
 intro h_
 refine rX ?_ (x := (loc_alloc (by decide) z_92 zo_92))
 refine rA ?_ (x := loc_store (ag := true) (vs := [sl _ _, sl _ _]) ty_92 (by exact ⟨⟩) (by exact rfl) (by exact nl rfl))
 exact h_.get) : G := w ⟨h⟩
theorem zen (h : H) (w : Hd H → G := by
 intro h_
 refine rM ?_
 refine rA ?_ (x := loc_index (by decide) sl_38 (by exact ⟨⟩) (by exact rfl) (by exact mkL_getc hlt rfl) (by exact rfl))
 exact h_.get) : G := w ⟨h⟩
theorem zf3 (h : H) (w : Hd H → G := by
 intro h_
 refine sS [0, 1, 5] [] ?_
 refine zi2 ?_
 exact h_.get) : G := w ⟨h⟩
theorem zdt (h : H) (w : Hd H → G := by
 intro h_
 refine sw_reg ?_
 refine zdu ?_
 exact h_.get) : G := w ⟨h⟩
theorem zk4 (h : H) (w : Hd H → G := by
 intro h_
 refine sS [0, 1, 4] [] ?_
 refine zhr ?_
 refine sP [0, 1, 4, 5] [] ?_
 exact h_.get) : G := w ⟨h⟩
theorem zcj (h : H) (w : Hd H → G := by
 intro h_
 refine dA 48 ?_ (x := loc_index (by decide) sl_25 (by exact ⟨⟩) (by exact rfl) (by exact getm2 (by omega) rfl) (by exact rfl))
 refine dA 112 ?_ (x := lE [val _] ty_3)
 exact h_.get) : G := w ⟨h⟩
theorem zhj (h : H) (w : Hd H → G := by
 intro h_
 refine zt ga ?_
 refine rA ?_ (x := pkT ga)
 exact h_.get) : G := w ⟨h⟩
theorem ze9 (h : H) (w : Hd H → G := by
 intro h_
 refine rM ?_
 refine rA ?_ (x := loc_hindex (by decide) sl_36 (by exact ⟨⟩) (by exact rfl) (by omega))
 exact h_.get) : G := w ⟨h⟩
theorem zg8 (h : H) (w : Hd H → G := by
 intro h_
 refine rA ?_ (x := vM false [sl .v _])
 refine rM ?_
 exact h_.get) : G := w ⟨h⟩
theorem zdk (h : H) (w : Hd H → G := by
 intro h_
 refine rA ?_ (x := lF fd_40_4)
 refine rA ?_ (x := lD [sl .v _] ty_37)
 exact h_.get) : G := w ⟨h⟩
theorem zke (h : H) (w : Hd H → G := by
 intro h_
 refine rA ?_ (x := loc_bslice (qs := [(true, [val _, val _, sl _ _, sl _ _])]) (by decide) sl_89 z_65 (by decide) rfl rfl rfl rfl rfl (by exact nl rfl) (by exact (aI (by exact ⟨⟩) tI)) rfl)
 refine rA ?_ (x := loc_append (by decide) sl_89 z_65 rfl rfl (by decide) rfl (by simp only [List.length_map, List.length_append, List.length_cons, List.length_nil]; omega) (by simp only [List.length_map, List.length_append, List.length_cons, List.length_nil]; omega))
 exact h_.get) : G := w ⟨h⟩
theorem zhp (h : H) (w : Hd H → G := by
 intro h_
 refine rA ?_ (x := loc_bslice (qs := []) (by decide) sl_149 z_151 (by decide) rfl rfl rfl rfl rfl (by exact nl rfl) (by exact ⟨⟩) rfl)
 refine rA ?_ (x := tA)
 exact h_.get) : G := w ⟨h⟩
theorem zop (h : H) (w : Hd H → G := by
 intro h_
 refine rA ?_ (x := loc_bslice (qs := [(true, [val _, val _, sl _ _])]) (by decide) sl_205 z_234 (by decide) rfl rfl rfl rfl rfl (by exact nl rfl) (by exact (aI (by exact ⟨⟩) tI)) rfl)
 refine rA ?_ (x := loc_append (by decide) sl_205 z_234 rfl rfl (by decide) rfl (by simp only [List.length_map, List.length_append, List.length_cons, List.length_nil]; omega) (by simp only [List.length_map, List.length_append, List.length_cons, List.length_nil]; omega))
 exact h_.get) : G := w ⟨h⟩
theorem zbc (h : H) (w : Hd H → G := by
 intro h_
 refine sO [(1, _), (2, _), (3, _)] [(1, _), (2, _), (3, (148, [val _, val _, sl _ _, sl _ _, sl _ _]))] ?_
 refine sw_reg ?_
 exact h_.get) : G := w ⟨h⟩
theorem zgg (h : H) (w : Hd H → G := by
 intro h_
 refine rA ?_ (x := loc_bslice (qs := []) (by decide) sl_93 z_66 (by decide) rfl rfl rfl rfl rfl (by exact nl rfl) (by exact ⟨⟩) rfl)
 refine rA ?_ (x := tA)
 exact h_.get) : G := w ⟨h⟩
theorem zkc (h : H) (w : Hd H → G := by
 intro h_
 refine rA ?_ (x := loc_bslice (qs := []) (by decide) sl_89 z_65 (by decide) rfl rfl rfl rfl rfl (by exact nl rfl) (by exact ⟨⟩) rfl)
 refine rA ?_ (x := tA)
 exact h_.get) : G := w ⟨h⟩
theorem zcb (h : H) (w : Hd H → G := by
 intro h_
 refine sR ?_
 refine ze8 ?_
 exact h_.get) : G := w ⟨h⟩
theorem zoe (h : H) (w : Hd H → G := by
 intro h_
 refine rA ?_ (x := lD [sl .v _, val _, val _, sl .v _, sl .v _, sl .v _, sl .v _, val _] ty_40)
 refine rA ?_ (x := cL [(true, [sl _ _, val _, val _, sl _ _, sl _ _, sl _ _, sl _ _, val _]), (true, [sl _ _, val _, val _, sl _ _, sl _ _, sl _ _, sl _ _, val _])] [(true, [sl .v _, val _, val _, sl .v _, sl .v _, sl .v _, sl .v _, val _]), (true, [sl .v _, val _, val _, sl .v _, sl .v _, sl .v _, sl .v _, val _])] c_13 (hs := by exact eq_Engine))
 exact h_.get) : G := w ⟨h⟩
theorem zbg (h : H) (w : Hd H → G := by
 intro h_
 refine sS [0, 2] [] ?_
 refine rA ?_ (x := vM false [sl .v _])
 exact h_.get) : G := w ⟨h⟩
theorem ze0 (h : H) (w : Hd H → G := by
 intro h_
 refine rA ?_ (x := loc_storeM (o := 1) (ag := false) (vs := [val _]) (by omega) ty_3 (by exact ⟨⟩) (by exact rfl) (by exact nl rfl))
 refine sw_seq ?_
 exact h_.get) : G := w ⟨h⟩
theorem zh2 (h : H) (w : Hd H → G := by
 intro h_
 refine rA ?_ (x := nT)
 refine rM ?_
 exact h_.get) : G := w ⟨h⟩
theorem zie (h : H) (w : Hd H → G := by
 intro h_
 refine sP [1, 3, 5, 7, 23, 24, 25, 32, 33, 34, 66, 67, 68] [1, 7] ?_
 refine sL [1, 3, 5, 7, 23, 24, 25, 32, 33, 34, 66, 67] [1, 7] (fun m : Nat => m ≤ (preN s k).length + j ∧ freeOf (allV s) ((preN s k).length + j) m = true) (fun m : Nat => [(68, RV.int (m : Int))]) (fun m : Nat => []) (fun m : Nat => (preN s k).length + j - m) 0 (by exact ⟨by omega, rfl⟩) (by exact aI (by exact rfl) (tI)) (by exact ⟨⟩) ?_
 exact h_.get) : G := w ⟨h⟩
theorem zbk (h : H) (w : Hd H → G := by
 intro h_
 refine sO [(1, _), (2, _), (3, _)] [(1, _), (2, _), (3, (151, [val _, sl _ _, val _, val _]))] ?_
 refine sw_reg ?_
 exact h_.get) : G := w ⟨h⟩
theorem zno (h : H) (w : Hd H → G := by
 intro h_
 refine rA ?_ (x := loc_extract (cs := [sl _ _, sl _ _]) (qs := [sl .v _, sl .v _]) (by decide) (by exact rfl) (by exact (ToL.cons PV.to_none (ToL.cons PV.to_none ToL.nil))) (by exact (BorL.cons (bor_sl _) (BorL.cons (bor_sl _) BorL.nil))))
 refine rA ?_ (x := loc_extract (cs := [sl _ _]) (qs := [sl .v _]) (by decide) (by exact rfl) (by exact (ToL.cons PV.to_none ToL.nil)) (by exact (BorL.cons (bor_sl _) BorL.nil)))
 exact h_.get) : G := w ⟨h⟩
theorem zau (h : H) (w : Hd H → G := by
 intro h_
 refine sR ?_
 refine rX ?_ (x := (loc_box (ag := true) (cs := [val _, val _, sl _ _, sl _ _, val _, val _, sl _ _]) (by decide) (by exact ⟨⟩)))
 exact h_.get) : G := w ⟨h⟩
theorem zdz (h : H) (w : Hd H → G := by
 intro h_
 refine sS [0, 1, 4, 5] [999] ?_
 refine rA ?_ (x := loc_copy (.inl rfl) (by decide) (by exact Cp.nm Cp.hdr))
 refine rM ?_
 exact h_.get) : G := w ⟨h⟩
theorem ze5 (h : H) (w : Hd H → G := by
 intro h_
 refine sP [0, 1, 4, 5] [999] ?_
 refine sw_regL ?_
 exact h_.get) : G := w ⟨h⟩
theorem zc4 (h : H) (w : Hd H → G := by
 intro h_
 refine rA ?_ (x := loc_ltake (ms := [sl _ _, val _]) (qs := [sl .v _, val _]) (by decide) ty_35 (fun h => nomatch h) (by exact nl rfl) (by exact rfl) (by exact (ToL.cons PV.to_none (ToL.cons (PV.To.refl _) ToL.nil))) (by exact (BorL.cons (bor_sl _) (BorL.cons (bor_val _) BorL.nil))))
 refine rA ?_ (x := loc_store (ag := true) (vs := [sl _ _, val _]) ty_35 (by exact ⟨⟩) (by exact rfl) (by exact nl rfl))
 exact h_.get) : G := w ⟨h⟩
theorem zdl (h : H) (w : Hd H → G := by
 intro h_
 refine rA ?_ (x := lF fd_40_5)
 refine rA ?_ (x := lD [sl .v _] ty_38)
 exact h_.get) : G := w ⟨h⟩
theorem zid (h : H) (w : Hd H → G := by
 intro h_
 refine rB gd ?_ (x := lD [val _] ty_3)
 refine rB gd ?_ (x := cL [(false, [val _]), (false, [val _]), (false, [val _])] [(false, [val _]), (false, [val _]), (false, [val _])] c_114 (hs := by exact impl_within))
 exact h_.get) : G := w ⟨h⟩
theorem zne (h : H) (w : Hd H → G := by
 intro h_
 refine znd ?_
 refine rA ?_ (x := loc_bslice (qs := [(false, [sl _ _]), (false, [sl _ _]), (false, [sl _ _]), (false, [sl _ _]), (false, [sl _ _]), (false, [sl _ _])]) (by decide) sl_167 z_25 (by decide) rfl rfl rfl rfl rfl (by exact nl rfl) (by exact (aI (by exact ⟨⟩) (aI (by exact ⟨⟩) (aI (by exact ⟨⟩) (aI (by exact ⟨⟩) (aI (by exact ⟨⟩) (aI (by exact ⟨⟩) tI))))))) rfl)
 exact h_.get) : G := w ⟨h⟩
theorem zfn (h : H) (w : Hd H → G := by
 intro h_
 refine rA ?_ (x := lD [sl .v _] ty_25)
 refine rA ?_ (x := lN sl_25)
 exact h_.get) : G := w ⟨h⟩
theorem zg0 (h : H) (w : Hd H → G := by
 intro h_
 refine rA ?_ (x := lD [val _] ty_3)
 refine rA ?_ (x := cL [(false, [val _]), (false, [val _]), (false, [val _])] [(false, [val _]), (false, [val _]), (false, [val _])] c_97 (hs := by exact spec_l1In))
 exact h_.get) : G := w ⟨h⟩
theorem zby (h : H) (w : Hd H → G := by
 intro h_
 refine sO [(1, _), (2, _), (3, _)] [(1, _), (2, _), (3, (144, [val _, val _, sl _ _, sl _ _, val _, val _, sl _ _]))] ?_
 refine sw_reg ?_
 exact h_.get) : G := w ⟨h⟩
theorem zev (h : H) (w : Hd H → G := by
 intro h_
 refine rM ?_
 refine rA ?_ (x := loc_index (by decide) sl_149 (by exact ⟨⟩) (by exact rfl) (by exact mkL_getc hlt rfl) (by exact rfl))
 exact h_.get) : G := w ⟨h⟩
theorem zlv (h : H) (w : Hd H → G := by
 intro h_
 refine rA ?_ (x := loc_index (by decide) sl_38 (by exact ⟨⟩) (by exact rfl) (by exact getm2 (by omega) rfl) (by exact rfl))
 refine rA ?_ (x := lE [val _, val _, sl .v _, sl .v _, sl .v _] ty_148)
 exact h_.get) : G := w ⟨h⟩
theorem zam (h : H) (w : Hd H → G := by
 intro h_
 refine zja ?_
 refine sS [1, 2, 4] [2] ?_
 refine zi2 ?_
 exact h_.get) : G := w ⟨h⟩
theorem zjs (h : H) (w : Hd H → G := by
 intro h_
 refine rB ga ?_ (x := cL [(false, [val _]), (false, [val _]), (false, [val _])] [(false, [val _]), (false, [val _]), (false, [val _])] c_97 (hs := by exact spec_l1In))
 refine rB ga ?_ (x := nT)
 exact h_.get) : G := w ⟨h⟩
theorem zi6 (h : H) (w : Hd H → G := by
 intro h_
 refine rA ?_ (x := loc_index (by decide) sl_149 (by exact ⟨⟩) (by exact rfl) (by exact getm2 (by omega) rfl) (by exact rfl))
 refine rA ?_ (x := lE [val _, sl .v _, val _, val _] ty_151)
 exact h_.get) : G := w ⟨h⟩
theorem zki (h : H) (w : Hd H → G := by
 intro h_
 refine sP [0, 2, 3, 4] [2, 3] ?_
 refine sL [0, 2, 3] [2] (fun k : Nat => k ≤ 3) (fun k : Nat => [(4, RV.int (k : Int))]) (fun k : Nat => [(3, (92, (cIndex (.own 65 4) (.own 193 3) (.own 3 1) (.own 205 1) (.own 234 3) (.own 3 1)) ⟨l, fieldsTo l k⟩))]) (fun k : Nat => 3 - k) 0 (by omega) (by exact aI (by exact rfl) (tI)) (by exact aI (by exact rfl) (tI)) ?_
 exact h_.get) : G := w ⟨h⟩
theorem zc2 (h : H) (w : Hd H → G := by
 intro h_
 refine sO [(1, _), (2, _), (3, _)] [(1, _), (2, _), (3, (35, [sl _ _, val _]))] ?_
 refine sw_reg ?_
 exact h_.get) : G := w ⟨h⟩
theorem za3 (h : H) (w : Hd H → G := by
 intro h_
 refine rM ?_
 refine zgc ?_
 exact h_.get) : G := w ⟨h⟩
theorem zc5 (h : H) (w : Hd H → G := by
 intro h_
 refine zay ?_
 refine rX ?_ (x := (loc_alloc (by decide) z_40 zo_40))
 exact h_.get) : G := w ⟨h⟩
theorem zd3 (h : H) (w : Hd H → G := by
 intro h_
 refine rA ?_ (x := lF fd_65_2)
 refine rA ?_ (x := lD [sl .v _] ty_63)
 exact h_.get) : G := w ⟨h⟩
theorem zg2 (h : H) (w : Hd H → G := by
 intro h_
 refine rX ?_ (x := (loc_alloc (by decide) z_66 zo_66))
 refine rA ?_ (x := loc_store (ag := true) (vs := [val _, sl _ _]) ty_66 (by exact ⟨⟩) (by exact rfl) (by exact nl rfl))
 exact h_.get) : G := w ⟨h⟩
theorem zcz (h : H) (w : Hd H → G := by
 intro h_
 refine rA ?_ (x := lF fd_151_0)
 refine rA ?_ (x := lD [val _] ty_3)
 exact h_.get) : G := w ⟨h⟩
theorem zdd (h : H) (w : Hd H → G := by
 intro h_
 refine rA ?_ (x := lF fd_144_0)
 refine rA ?_ (x := lD [val _, val _, sl .v _, sl .v _] ty_65)
 exact h_.get) : G := w ⟨h⟩
theorem zo2 (h : H) (w : Hd H → G := by
 intro h_
 refine sO [(1, _), (2, _), (3, _), (4, _), (6, _), (7, _)] [(1, _), (2, _), (3, _), (7, (144, [val _, val _, sl _ _, sl _ _, val _, val _, sl _ _]))] ?_
 refine sw_reg ?_
 exact h_.get) : G := w ⟨h⟩
theorem zju (h : H) (w : Hd H → G := by
 intro h_
 refine sP [0, 1, 4, 5, 6] [] ?_
 refine sL [0, 1, 4] [] (fun k : Nat => k ≤ 100) (fun k : Nat => [(5, RV.slc (.own 234 3) ((spansTo l f k).map (cSpan (.own 3 1)))), (6, RV.int (k : Int))]) (fun k : Nat => []) (fun k : Nat => 100 - k) 0 (by omega) (by exact aI (by exact rfl) (aI (by exact rfl) (tI))) (by exact ⟨⟩) ?_
 exact h_.get) : G := w ⟨h⟩
theorem zhx (h : H) (w : Hd H → G := by
 intro h_
 refine rA ?_ (x := loc_index (by decide) sl_33 (by exact ⟨⟩) (by exact rfl) (by exact getm2 (by omega) rfl) (by exact rfl))
 refine rA ?_ (x := lE [sl .v _] ty_149)
 exact h_.get) : G := w ⟨h⟩
theorem zof (h : H) (w : Hd H → G := by
 intro h_
 refine rA ?_ (x := loc_load (qs := [sl .v _, val _, val _, sl .v _, sl .v _, sl .v _, sl .v _, val _]) (by decide) ty_40 (fun h => nomatch h) (by exact nl rfl) (by exact (ToL.cons (PV.nv_to PV.to_none) (ToL.cons (PV.nv_to (PV.To.refl _)) (ToL.cons (PV.nv_to (PV.To.refl _)) (ToL.cons (PV.nv_to PV.to_none) (ToL.cons (PV.nv_to PV.to_none) (ToL.cons (PV.nv_to PV.to_none) (ToL.cons (PV.nv_to PV.to_none) (ToL.cons (PV.nv_to (PV.To.refl _)) ToL.nil))))))))) (by exact (BorL.cons (bor_sl _) (BorL.cons (bor_val _) (BorL.cons (bor_val _) (BorL.cons (bor_sl _) (BorL.cons (bor_sl _) (BorL.cons (bor_sl _) (BorL.cons (bor_sl _) (BorL.cons (bor_val _) BorL.nil))))))))))
 refine rM ?_
 refine rA ?_ (x := cL [(true, [sl _ _, val _, val _, sl _ _, sl _ _, sl _ _, sl _ _, val _]), (false, [val _])] [(true, [sl .v _, val _, val _, sl .v _, sl .v _, sl .v _, sl .v _, val _]), (false, [val _])] c_22 (hs := by exact held_Engine (by omega) (by first | omega | (simp only [mkV_Engine]; omega))))
 exact h_.get) : G := w ⟨h⟩
theorem zb8 (h : H) (w : Hd H → G := by
 intro h_
 refine sR ?_
 refine rX ?_ (x := (loc_box (ag := true) (cs := [val _, val _, val _]) (by decide) (by exact ⟨⟩)))
 exact h_.get) : G := w ⟨h⟩
theorem zbn (h : H) (w : Hd H → G := by
 intro h_
 refine sO [(1, _), (2, _), (3, _)] [(1, _), (2, _), (3, (65, [val _, val _, sl _ _, sl _ _]))] ?_
 refine sw_reg ?_
 exact h_.get) : G := w ⟨h⟩
theorem zo5 (h : H) (w : Hd H → G := by
 intro h_
 refine sO [(1, _), (2, _), (4, _), (5, _), (6, _)] [(2, _), (4, _), (6, (40, [sl _ _, val _, val _, sl _ _, sl _ _, sl _ _, sl _ _, val _]))] ?_
 refine sw_reg ?_
 exact h_.get) : G := w ⟨h⟩
theorem zgv (h : H) (w : Hd H → G := by
 intro h_
 refine zf gb ?_
 refine rA ?_ (x := pkF gb)
 exact h_.get) : G := w ⟨h⟩
theorem za5 (h : H) (w : Hd H → G := by
 intro h_
 refine rK ?_
 refine sT [1, 2, 4] [2] ?_
 exact h_.get) : G := w ⟨h⟩
theorem zer (h : H) (w : Hd H → G := by
 intro h_
 refine rA ?_ (x := lE [sl .v _] ty_25)
 refine zf7 ?_
 exact h_.get) : G := w ⟨h⟩
theorem zb9 (h : H) (w : Hd H → G := by
 intro h_
 refine sO [(1, _), (2, _), (3, _)] [(1, _), (2, _), (3, (193, [val _, val _, val _]))] ?_
 refine sw_reg ?_
 exact h_.get) : G := w ⟨h⟩
theorem zcn (h : H) (w : Hd H → G := by
 intro h_
 refine ze8 ?_
 refine sT [2, 3, 4] [2, 3] ?_
 exact h_.get) : G := w ⟨h⟩
theorem zeb (h : H) (w : Hd H → G := by
 intro h_
 refine rM ?_
 refine rA ?_ (x := loc_hindex (by decide) sl_37 (by exact ⟨⟩) (by exact rfl) (by omega))
 exact h_.get) : G := w ⟨h⟩
theorem zd4 (h : H) (w : Hd H → G := by
 intro h_
 refine rA ?_ (x := vM false [sl .v _])
 refine rA ?_ (x := lN sl_149)
 exact h_.get) : G := w ⟨h⟩
theorem zii (h : H) (w : Hd H → G := by
 intro h_
 refine rB ge ?_ (x := lD [val _, sl .v _, val _, val _] ty_151)
 refine rB ge ?_ (x := cL [(true, [val _, sl _ _, val _, val _]), (true, [val _, sl _ _, val _, val _])] [(true, [val _, sl .v _, val _, val _]), (true, [val _, sl .v _, val _, val _])] c_188 (hs := by exact impl_meetInTime))
 exact h_.get) : G := w ⟨h⟩
theorem zfl (h : H) (w : Hd H → G := by
 intro h_
 refine rA ?_ (x := loc_bslice (qs := []) (by decide) sl_25 z_3 (by decide) rfl rfl rfl rfl rfl (by exact nl rfl) (by exact ⟨⟩) rfl)
 refine rA ?_ (x := vM false [sl .v _])
 refine rA ?_ (x := loc_appendb (by decide) sl_25 z_3 rfl rfl (by decide) (by first | (intro cs hcs; obtain ⟨x, _, rfl⟩ := List.mem_map.1 hcs; exact rfl) | simp) (by first | (intro cs hcs; obtain ⟨x, _, rfl⟩ := List.mem_map.1 hcs; exact (BorL.cons (bor_val _) BorL.nil)) | simp) (by simp only [List.length_map, List.length_append, List.length_cons, List.length_nil]; omega) (by simp only [List.length_map, List.length_append, List.length_cons, List.length_nil]; omega))
 exact h_.get) : G := w ⟨h⟩
theorem zfd (h : H) (w : Hd H → G := by
 intro h_
 refine sw_exit ?_
 refine sS [0, 1, 5] [] ?_
 exact h_.get) : G := w ⟨h⟩
theorem zeo (h : H) (w : Hd H → G := by
 intro h_
 refine sw_skip ?_
 refine sS [0, 1, 5] [] ?_
 refine zdu ?_
 exact h_.get) : G := w ⟨h⟩
theorem zc7 (h : H) (w : Hd H → G := by
 intro h_
 refine rA ?_ (x := loc_store (ag := true) (vs := [sl _ _, val _]) ty_35 (by exact ⟨⟩) (by exact rfl) (by exact nl rfl))
 refine sw_seq ?_
 exact h_.get) : G := w ⟨h⟩
theorem zjx (h : H) (w : Hd H → G := by
 intro h_
 refine rB gb ?_ (x := loc_index (k := (spansTo l f k).length - 1) (by decide) sl_205 (by exact ⟨⟩) (by omega) (by exact getm2 (by omega) (by rw [gDt_ (d := sp0) (by omega)])) (by exact rfl))
 refine rB gb ?_ (x := loc_efield (by decide) fd_234_2 (by exact nl rfl))
 exact h_.get) : G := w ⟨h⟩
theorem zdh (h : H) (w : Hd H → G := by
 intro h_
 refine rA ?_ (x := lF fd_40_0)
 refine rA ?_ (x := lD [sl .v _, val _] ty_35)
 exact h_.get) : G := w ⟨h⟩
theorem zez (h : H) (w : Hd H → G := by
 intro h_
 refine rA ?_ (x := loc_efield (by decide) fd_142_0 (by exact nl rfl))
 refine rA ?_ (x := loc_efield (by decide) fd_65_0 (by exact nl rfl))
 exact h_.get) : G := w ⟨h⟩
theorem zj0 (h : H) (w : Hd H → G := by
 intro h_
 refine rA ?_ (x := loc_const (.inr rfl) (by decide) (ok_nil (t := 3) (e := 1)))
 refine sw_seq ?_
 exact h_.get) : G := w ⟨h⟩
theorem zej (h : H) (w : Hd H → G := by
 intro h_
 refine rM ?_
 refine rA ?_ (x := loc_index (by decide) sl_63 (by exact ⟨⟩) (by exact rfl) (by exact mkL_getc hlt rfl) (by exact rfl))
 exact h_.get) : G := w ⟨h⟩
theorem za2 (h : H) (w : Hd H → G := by
 intro h_
 refine sS [0, 1, 4] [] ?_
 refine zg4 ?_
 exact h_.get) : G := w ⟨h⟩
theorem zd9 (h : H) (w : Hd H → G := by
 intro h_
 refine rA ?_ (x := lF fd_142_0)
 refine rA ?_ (x := lD [val _, val _, sl .v _, sl .v _] ty_65)
 exact h_.get) : G := w ⟨h⟩
theorem zll (h : H) (w : Hd H → G := by
 intro h_
 refine zdj ?_
 refine rA ?_ (x := lN sl_36)
 exact h_.get) : G := w ⟨h⟩
theorem zb6 (h : H) (w : Hd H → G := by
 intro h_
 refine sw_exit ?_
 refine sT [0, 2, 3, 4] [7] ?_
 exact h_.get) : G := w ⟨h⟩
theorem zfv (h : H) (w : Hd H → G := by
 intro h_
 refine zix ?_
 refine rM ?_
 exact h_.get) : G := w ⟨h⟩
theorem zkj (h : H) (w : Hd H → G := by
 intro h_
 refine dA 0 ?_ (x := lF fd_92_1)
 refine dA 1 ?_ (x := loc_ltake (ms := [sl _ _]) (qs := [sl .v _]) (by decide) ty_90 (fun _ => rfl) (by exact nl rfl) (by exact rfl) (by exact (ToL.cons PV.to_none ToL.nil)) (by exact (BorL.cons (bor_sl _) BorL.nil)))
 exact h_.get) : G := w ⟨h⟩
theorem zny (h : H) (w : Hd H → G := by
 intro h_
 refine dA 0 ?_ (x := lF fd_40_5)
 refine dA 1 ?_ (x := loc_ltake (ms := [sl _ _]) (qs := [sl .v _]) (by decide) ty_38 (fun _ => rfl) (by exact nl rfl) (by exact rfl) (by exact (ToL.cons PV.to_none ToL.nil)) (by exact (BorL.cons (bor_sl _) BorL.nil)))
 exact h_.get) : G := w ⟨h⟩
theorem zgs (h : H) (w : Hd H → G := by
 intro h_
 refine rA ?_ (x := pkT gb)
 refine rM ?_
 exact h_.get) : G := w ⟨h⟩
theorem zhv (h : H) (w : Hd H → G := by
 intro h_
 refine rB ga ?_ (x := nT)
 refine rA ?_ (x := pkF ga)
 exact h_.get) : G := w ⟨h⟩
theorem zln (h : H) (w : Hd H → G := by
 intro h_
 refine rA ?_ (x := loc_index (by decide) sl_36 (by exact ⟨⟩) (by exact rfl) (by exact getm2 (by omega) rfl) (by exact rfl))
 refine rA ?_ (x := lE [val _, val _, sl .v _, sl .v _, val _, sl .v _, val _, val _, val _, sl .v _] ty_142)
 refine rX ?_ (x := (loc_alloc (by decide) z_142 zo_142))
 exact h_.get) : G := w ⟨h⟩
theorem zda (h : H) (w : Hd H → G := by
 intro h_
 refine rA ?_ (x := cL [(true, [val _, val _, sl _ _, sl _ _]), (true, [val _, val _, sl _ _, sl _ _])] [(true, [val _, val _, sl .v _, sl .v _]), (true, [val _, val _, sl .v _, sl .v _])] c_87 (hs := by exact eq_Query))
 refine rA ?_ (x := nT)
 exact h_.get) : G := w ⟨h⟩
theorem znu (h : H) (w : Hd H → G := by
 intro h_
 refine rA ?_ (x := loc_build (qs := [(false, [val _])]) (cs := [sl _ _, val _]) (by decide) z_35 zo_35 FCpy_pl_35 (by exact rfl) (by exact (aI (by exact ⟨⟩) tI)) rfl (by exact rfl))
 refine rX ?_ (x := (loc_alloc (by decide) z_35 zo_35))
 exact h_.get) : G := w ⟨h⟩
theorem zfm (h : H) (w : Hd H → G := by
 intro h_
 refine ze8 ?_
 refine sT [1, 2] [1] ?_
 exact h_.get) : G := w ⟨h⟩
theorem zod (h : H) (w : Hd H → G := by
 intro h_
 refine rA ?_ (x := cL [(true, [sl _ _, val _, val _, sl _ _, sl _ _, sl _ _, sl _ _, val _])] [(true, [sl .v _, val _, val _, sl .v _, sl .v _, sl .v _, sl .v _, val _])] c_21 (hs := by exact (impl_AdaptEngine (by omega))))
 refine zo4 ?_
 exact h_.get) : G := w ⟨h⟩
theorem zcy (h : H) (w : Hd H → G := by
 intro h_
 refine zac ?_
 refine rX ?_ (x := (loc_box (ag := true) (cs := [val _, sl _ _, val _, val _]) (by decide) (by exact ⟨⟩)))
 exact h_.get) : G := w ⟨h⟩
theorem zkn (h : H) (w : Hd H → G := by
 intro h_
 refine rA ?_ (x := lF fd_92_0)
 refine rA ?_ (x := lD [sl .v _] ty_89)
 exact h_.get) : G := w ⟨h⟩
theorem zaw (h : H) (w : Hd H → G := by
 intro h_
 refine rA ?_ (x := loc_index (by decide) sl_26 (by exact ⟨⟩) (by exact rfl) (by exact getm2 (by omega) rfl) (by exact rfl))
 refine rA ?_ (x := lE [val _, val _, sl .v _, sl .v _, val _, sl .v _, val _, val _, val _, sl .v _] ty_130)
 exact h_.get) : G := w ⟨h⟩
theorem zb5 (h : H) (w : Hd H → G := by
 intro h_
 refine sG [0, 2, 3, 4] [7] ?_
 refine zdu ?_
 exact h_.get) : G := w ⟨h⟩
theorem zht (h : H) (w : Hd H → G := by
 intro h_
 refine rA ?_ (x := tM)
 refine rA ?_ (x := tA)
 refine sw_ret ?_
 exact h_.get) : G := w ⟨h⟩
theorem zf5 (h : H) (w : Hd H → G := by
 intro h_
 refine zf6 ?_
 refine rA ?_ (x := loc_efield (by decide) fd_144_0 (by exact nl rfl))
 exact h_.get) : G := w ⟨h⟩
theorem zd2 (h : H) (w : Hd H → G := by
 intro h_
 refine rA ?_ (x := lF fd_65_0)
 refine rA ?_ (x := lD [val _] ty_3)
 exact h_.get) : G := w ⟨h⟩
theorem zm0 (h : H) (w : Hd H → G := by
 intro h_
 refine sw_draw hm_ ?_
 refine dA 0 ?_ (x := lD [sl .v _, val _, val _, sl .v _, sl .v _, sl .v _, sl .v _, val _] ty_40)
 exact h_.get) : G := w ⟨h⟩
theorem zhs (h : H) (w : Hd H → G := by
 intro h_
 refine zde ?_
 refine rA ?_ (x := lN sl_33)
 exact h_.get) : G := w ⟨h⟩
theorem zgq (h : H) (w : Hd H → G := by
 intro h_
 refine rA ?_ (x := pkT ga)
 refine rM ?_
 exact h_.get) : G := w ⟨h⟩
theorem znt (h : H) (w : Hd H → G := by
 intro h_
 refine dA 1 ?_ (x := lD [val _, val _, sl .v _, sl .v _] ty_65)
 refine dA 3 ?_ (x := cL [(true, [val _, val _, sl _ _, sl _ _])] [(true, [val _, val _, sl .v _, sl .v _])] c_163 (hs := by exact impl_copyQuery (by omega)))
 exact h_.get) : G := w ⟨h⟩
theorem zgd (h : H) (w : Hd H → G := by
 intro h_
 refine sw_seq ?_
 refine sQ [1, 2] [1, 2] ?_
 refine sw_draw hm_ ?_
 exact h_.get) : G := w ⟨h⟩
theorem zn1 (h : H) (w : Hd H → G := by
 intro h_
 refine rA ?_ (x := loc_index (k := e.Cursor.toNat) (by decide) sl_33 (by exact ⟨⟩) (by omega) (by exact getm2 hcl (by rw [gDt_ (d := ([] : List Version)) hcl])) (by exact rfl))
 refine rA ?_ (x := lE [sl .v _] ty_149)
 exact h_.get) : G := w ⟨h⟩
theorem zi1 (h : H) (w : Hd H → G := by
 intro h_
 refine dA 3 ?_ (x := loc_index (k := i) (by decide) sl_149 (by exact ⟨⟩) (by rfl) (by exact getm2 hlt2 (by rw [gDt_ (d := v0) hlt2])) (by exact rfl))
 refine dA 7 ?_ (x := lE [val _, sl .v _, val _, val _] ty_151)
 exact h_.get) : G := w ⟨h⟩
theorem zax (h : H) (w : Hd H → G := by
 intro h_
 refine rA ?_ (x := loc_index (by decide) sl_27 (by exact ⟨⟩) (by exact rfl) (by exact getm2 (by omega) rfl) (by exact rfl))
 refine rA ?_ (x := lE [val _, val _, sl .v _, sl .v _, val _, val _, sl .v _] ty_133)
 exact h_.get) : G := w ⟨h⟩
theorem zig (h : H) (w : Hd H → G := by
 intro h_
 refine sw_seq ?_
 refine sO [(1, _), (3, _), (5, _), (7, _), (9, _), (23, _), (24, _), (25, _), (32, _), (33, _), (34, _), (66, _), (67, _), (68, _)] [(1, _), (7, _), (9, (151, [val _, sl _ _, val _, val _]))] ?_
 exact h_.get) : G := w ⟨h⟩
theorem zoc (h : H) (w : Hd H → G := by
 intro h_
 refine sw_reg ?_
 refine rA ?_ (x := lD [sl .v _, val _, val _, sl .v _, sl .v _, sl .v _, sl .v _, val _] ty_40)
 exact h_.get) : G := w ⟨h⟩
theorem zar (h : H) (w : Hd H → G := by
 intro h_
 refine rA ?_ (x := cL [(true, [val _, val _, sl _ _, sl _ _]), (false, [val _])] [(true, [val _, val _, sl .v _, sl .v _]), (false, [val _])] c_73 (hs := by exact sz_Query (by omega) (by omega)))
 refine zam ?_
 exact h_.get) : G := w ⟨h⟩
theorem zbt (h : H) (w : Hd H → G := by
 intro h_
 refine rA ?_ (x := lD [val _, val _, sl .v _, sl .v _] ty_53)
 refine rA ?_ (x := cL [(true, [val _, val _, sl _ _, sl _ _])] [(true, [val _, val _, sl .v _, sl .v _])] c_80 (hs := by exact to_Query (by omega)))
 exact h_.get) : G := w ⟨h⟩
theorem zif (h : H) (w : Hd H → G := by
 intro h_
 refine sT [1, 3, 5, 7, 23, 24, 25, 32, 33, 34, 66, 67, 68] [1, 7] ?_
 refine rA ?_ (x := loc_index (k := m) (by decide) sl_149 (by exact ⟨⟩) (by rfl) (by exact getm2 (by omega) (by rw [hsg])) (by exact rfl))
 exact h_.get) : G := w ⟨h⟩
theorem zi9 (h : H) (w : Hd H → G := by
 intro h_
 refine rA ?_ (x := lD [val _, sl .v _, val _, val _] ty_151)
 refine rA ?_ (x := cL [(true, [val _, sl _ _, val _, val _])] [(true, [val _, sl .v _, val _, val _])] c_122 (hs := by exact impl_rowOf (by omega)))
 exact h_.get) : G := w ⟨h⟩
theorem zib (h : H) (w : Hd H → G := by
 intro h_
 refine rB gb ?_ (x := lD [val _] ty_3)
 refine rB gb ?_ (x := cL [(false, [val _]), (false, [val _]), (false, [val _])] [(false, [val _]), (false, [val _]), (false, [val _])] c_114 (hs := by exact impl_within))
 exact h_.get) : G := w ⟨h⟩
theorem zlc (h : H) (w : Hd H → G := by
 intro h_
 refine rB gc ?_ (x := lD [val _] ty_3)
 refine rB gc ?_ (x := cL [(false, [val _]), (false, [val _]), (false, [val _])] [(false, [val _]), (false, [val _]), (false, [val _])] c_114 (hs := by exact impl_within))
 exact h_.get) : G := w ⟨h⟩
theorem zdy (h : H) (w : Hd H → G := by
 intro h_
 refine sO [(0, _), (1, _), (4, _), (5, _)] [(999, (193, _ ++ ([val _, val _, val _] ++ _)))] ?_
 refine zdt ?_
 exact h_.get) : G := w ⟨h⟩
theorem zl8 (h : H) (w : Hd H → G := by
 intro h_
 refine rB ge ?_ (x := lD [val _] ty_3)
 refine rB ge ?_ (x := cL [(false, [val _]), (false, [val _]), (false, [val _])] [(false, [val _]), (false, [val _]), (false, [val _])] c_97 (hs := by exact spec_l1In))
 exact h_.get) : G := w ⟨h⟩
theorem zlh (h : H) (w : Hd H → G := by
 intro h_
 refine rB gd ?_ (x := lD [val _] ty_3)
 refine rB gd ?_ (x := cL [(false, [val _]), (false, [val _]), (false, [val _])] [(false, [val _]), (false, [val _]), (false, [val _])] c_97 (hs := by exact spec_l1In))
 exact h_.get) : G := w ⟨h⟩
theorem zn5 (h : H) (w : Hd H → G := by
 intro h_
 refine dA 192 ?_ (x := loc_index (by decide) sl_149 (by exact ⟨⟩) (by exact rfl) (by exact getm2 (by omega) rfl) (by exact rfl))
 refine dA 448 ?_ (x := loc_efield (by decide) fd_151_1 (by exact nl rfl))
 exact h_.get) : G := w ⟨h⟩
theorem zit (h : H) (w : Hd H → G := by
 intro h_
 refine dB 1023 gb ?_ (x := vM false [sl .v _])
 refine dB 1023 gb ?_ (x := sM)
 exact h_.get) : G := w ⟨h⟩
theorem zlw (h : H) (w : Hd H → G := by
 intro h_
 refine rX ?_ (x := (loc_alloc (by decide) z_148 zo_148))
 refine rA ?_ (x := loc_store (ag := true) (vs := [val _, val _, sl _ _, sl _ _, sl _ _]) ty_148 (by exact ⟨⟩) (by exact rfl) (by exact nl rfl))
 exact h_.get) : G := w ⟨h⟩
theorem zn4 (h : H) (w : Hd H → G := by
 intro h_
 refine dA 6 ?_ (x := loc_index (by decide) sl_149 (by exact ⟨⟩) (by exact rfl) (by exact getm2 (by omega) rfl) (by exact rfl))
 refine dA 14 ?_ (x := loc_efield (by decide) fd_151_0 (by exact nl rfl))
 exact h_.get) : G := w ⟨h⟩
theorem zai (h : H) (w : Hd H → G := by
 intro h_
 refine sS [0, 1, 5] [] ?_
 refine zg4 ?_
 exact h_.get) : G := w ⟨h⟩
theorem zl2 (h : H) (w : Hd H → G := by
 intro h_
 refine dA 7 ?_ (x := loc_index (k := k) (by decide) sl_25 (by exact ⟨⟩) (by rfl) (by exact getm2 (by omega) (by rw [gDt_ (d := 0) (by omega)])) (by exact rfl))
 refine dA 15 ?_ (x := lE [val _] ty_3)
 exact h_.get) : G := w ⟨h⟩
theorem zag (h : H) (w : Hd H → G := by
 intro h_
 refine rA ?_ (x := loc_index (by decide) sl_28 (by exact ⟨⟩) (by exact rfl) (by exact getm2 (by omega) rfl) (by exact rfl))
 refine rA ?_ (x := lE [val _, val _, sl .v _, sl .v _, sl .v _] ty_136)
 exact h_.get) : G := w ⟨h⟩
theorem ze6 (h : H) (w : Hd H → G := by
 intro h_
 refine rM ?_
 refine rA ?_ (x := loc_hindex (by decide) sl_149 (by exact ⟨⟩) (by exact rfl) (by omega))
 exact h_.get) : G := w ⟨h⟩
theorem zdw (h : H) (w : Hd H → G := by
 intro h_
 refine rM ?_
 refine rA ?_ (x := loc_hindex (by decide) sl_63 (by exact ⟨⟩) (by exact rfl) (by omega))
 exact h_.get) : G := w ⟨h⟩
theorem zjn (h : H) (w : Hd H → G := by
 intro h_
 refine rA ?_ (x := loc_index (by decide) sl_89 (by exact ⟨⟩) (by exact rfl) (by exact getm2 (by omega) rfl) (by exact rfl))
 refine rA ?_ (x := loc_efield (by decide) fd_65_0 (by exact nl rfl))
 exact h_.get) : G := w ⟨h⟩
theorem zh7 (h : H) (w : Hd H → G := by
 intro h_
 refine rA ?_ (x := pkF ga)
 refine rM ?_
 exact h_.get) : G := w ⟨h⟩
theorem zhz (h : H) (w : Hd H → G := by
 intro h_
 refine rA ?_ (x := tA)
 refine sw_seq ?_
 exact h_.get) : G := w ⟨h⟩
theorem zjl (h : H) (w : Hd H → G := by
 intro h_
 refine rB gc ?_ (x := cL [(false, [val _]), (false, [val _]), (false, [val _])] [(false, [val _]), (false, [val _]), (false, [val _])] c_97 (hs := by exact spec_l1In))
 refine rA ?_ (x := pkT gc)
 exact h_.get) : G := w ⟨h⟩
theorem zhn (h : H) (w : Hd H → G := by
 intro h_
 refine rB gc ?_ (x := lF fd_151_3)
 refine rB gc ?_ (x := lD [val _] ty_3)
 exact h_.get) : G := w ⟨h⟩
theorem zis (h : H) (w : Hd H → G := by
 intro h_
 refine dA 15 ?_ (x := cL [(false, [val _]), (false, [val _]), (false, [val _])] [(false, [val _]), (false, [val _]), (false, [val _])] c_97 (hs := by exact spec_l1In))
 refine dA 31 ?_ (x := nT)
 exact h_.get) : G := w ⟨h⟩
theorem zaj (h : H) (w : Hd H → G := by
 intro h_
 refine sw_skip ?_
 refine sG [0, 1, 5] [] ?_
 refine zdu ?_
 exact h_.get) : G := w ⟨h⟩
theorem zan (h : H) (w : Hd H → G := by
 intro h_
 refine rA ?_ (x := loc_index (by decide) sl_195 (by exact ⟨⟩) (by exact rfl) (by exact getm2 (by omega) rfl) (by exact rfl))
 refine rA ?_ (x := lE [val _, sl .v _, val _, val _] ty_231)
 exact h_.get) : G := w ⟨h⟩
theorem zb2 (h : H) (w : Hd H → G := by
 intro h_
 refine zae ?_
 refine rA ?_ (x := lN sl_25)
 refine rA ?_ (x := B_lss)
 exact h_.get) : G := w ⟨h⟩
theorem zfw (h : H) (w : Hd H → G := by
 intro h_
 refine rA ?_ (x := cL [(false, [val _]), (false, [val _]), (false, [val _])] [(false, [val _]), (false, [val _]), (false, [val _])] c_97 (hs := by exact spec_l1In))
 refine rA ?_ (x := nT)
 exact h_.get) : G := w ⟨h⟩
theorem zgh (h : H) (w : Hd H → G := by
 intro h_
 refine sw_seq ?_
 refine sS [0, 2, 3] [] ?_
 exact h_.get) : G := w ⟨h⟩
theorem zbi (h : H) (w : Hd H → G := by
 intro h_
 refine sO [(1, _), (2, _), (3, _)] [(1, _), (2, _), (3, (66, [val _, sl _ _]))] ?_
 refine sw_reg ?_
 exact h_.get) : G := w ⟨h⟩
theorem zi4 (h : H) (w : Hd H → G := by
 intro h_
 refine rA ?_ (x := cL [(false, [val _]), (false, [val _]), (false, [val _])] [(false, [val _]), (false, [val _]), (false, [val _])] c_114 (hs := by exact impl_within))
 refine zh2 ?_
 exact h_.get) : G := w ⟨h⟩
theorem zmc (h : H) (w : Hd H → G := by
 intro h_
 refine rA ?_ (x := loc_index (by decide) sl_205 (by exact ⟨⟩) (by exact rfl) (by exact getm2 (by omega) rfl) (by exact rfl))
 refine rA ?_ (x := lE [val _, val _, sl .v _] ty_234)
 exact h_.get) : G := w ⟨h⟩
theorem zct (h : H) (w : Hd H → G := by
 intro h_
 refine rA ?_ (x := lD [sl .v _] ty_25)
 refine rA ?_ (x := cL [(false, [sl _ _]), (false, [sl _ _])] [(false, [sl .v _]), (false, [sl .v _])] c_16 (hs := by exact eq_IntS))
 refine rA ?_ (x := nT)
 exact h_.get) : G := w ⟨h⟩
theorem zd5 (h : H) (w : Hd H → G := by
 intro h_
 refine rA ?_ (x := lN sl_149)
 refine rA ?_ (x := B_lss)
 exact h_.get) : G := w ⟨h⟩
theorem zhe (h : H) (w : Hd H → G := by
 intro h_
 refine sw_exit ?_
 refine sw_seq ?_
 exact h_.get) : G := w ⟨h⟩
theorem ziy (h : H) (w : Hd H → G := by
 intro h_
 refine rA ?_ (x := loc_bslice (qs := [(false, [val _])]) (by decide) sl_25 z_3 (by decide) rfl rfl rfl rfl rfl (by exact nl rfl) (by exact (aI (by exact ⟨⟩) tI)) rfl)
 refine rA ?_ (x := loc_append (by decide) sl_25 z_3 rfl rfl (by decide) rfl (by simp only [List.length_map, List.length_append, List.length_cons, List.length_nil]; omega) (by simp only [List.length_map, List.length_append, List.length_cons, List.length_nil]; omega))
 refine rA ?_ (x := tA)
 exact h_.get) : G := w ⟨h⟩
theorem zf9 (h : H) (w : Hd H → G := by
 intro h_
 refine rM ?_
 refine rA ?_ (x := cL [(false, [val _]), (false, [val _]), (false, [val _])] [(false, [val _]), (false, [val _]), (false, [val _])] c_114 (hs := by exact impl_within))
 exact h_.get) : G := w ⟨h⟩
theorem zha (h : H) (w : Hd H → G := by
 intro h_
 refine rA ?_ (x := loc_index (by decide) sl_63 (by exact ⟨⟩) (by exact rfl) (by exact getm2 (by omega) rfl) (by exact rfl))
 refine rA ?_ (x := lE [val _, val _, val _] ty_193)
 exact h_.get) : G := w ⟨h⟩
theorem zjv (h : H) (w : Hd H → G := by
 intro h_
 refine rA ?_ (x := vM false [sl .v _])
 refine rA ?_ (x := lN sl_205)
 exact h_.get) : G := w ⟨h⟩
theorem zd7 (h : H) (w : Hd H → G := by
 intro h_
 refine rA ?_ (x := lN sl_93)
 refine rA ?_ (x := B_lss)
 exact h_.get) : G := w ⟨h⟩
theorem zkv (h : H) (w : Hd H → G := by
 intro h_
 refine rX ?_ (x := (loc_box (ag := true) (cs := [val _, sl _ _]) (by decide) (by exact ⟨⟩)))
 refine rA ?_ (x := loc_const (.inr rfl) (by decide) (ok_nil (t := 3) (e := 1)))
 exact h_.get) : G := w ⟨h⟩
theorem zd6 (h : H) (w : Hd H → G := by
 intro h_
 refine rA ?_ (x := vM false [sl .v _])
 refine rA ?_ (x := lN sl_93)
 exact h_.get) : G := w ⟨h⟩
theorem zao (h : H) (w : Hd H → G := by
 intro h_
 refine rA ?_ (x := loc_index (by decide) sl_128 (by exact ⟨⟩) (by exact rfl) (by exact getm2 (by omega) rfl) (by exact rfl))
 refine rA ?_ (x := lE [val _, sl .v _] ty_55)
 exact h_.get) : G := w ⟨h⟩
theorem zbr (h : H) (w : Hd H → G := by
 intro h_
 refine sR ?_
 refine rA ?_ (x := loc_const (.inr rfl) (by decide) (ok_nil (t := 66) (e := 2)))
 exact h_.get) : G := w ⟨h⟩
theorem zcg (h : H) (w : Hd H → G := by
 intro h_
 refine zdr ?_
 refine sP [0, 1, 5] [] ?_
 refine sw_draw hm_ ?_
 refine zci ?_
 exact h_.get) : G := w ⟨h⟩
theorem zi8 (h : H) (w : Hd H → G := by
 intro h_
 refine sw_seq ?_
 refine sw_seq ?_
 exact h_.get) : G := w ⟨h⟩
theorem zdc (h : H) (w : Hd H → G := by
 intro h_
 refine rA ?_ (x := lD [sl .v _] ty_93)
 refine rA ?_ (x := cL [(false, [sl _ _]), (false, [sl _ _])] [(false, [sl .v _]), (false, [sl .v _])] c_202 (hs := by exact eq_RowS))
 exact h_.get) : G := w ⟨h⟩
theorem zd8 (h : H) (w : Hd H → G := by
 intro h_
 refine rX ?_ (x := (loc_box (ag := true) (cs := [val _, val _, sl _ _, sl _ _, val _, sl _ _, val _, val _, val _, sl _ _]) (by decide) (by exact ⟨⟩)))
 refine zcn ?_
 exact h_.get) : G := w ⟨h⟩
theorem zf2 (h : H) (w : Hd H → G := by
 intro h_
 refine rA ?_ (x := cL [(false, [sl _ _]), (false, [val _])] [(false, [sl .v _]), (false, [val _])] c_136 (hs := by exact held_CondS (by omega) (by omega)))
 refine zja ?_
 exact h_.get) : G := w ⟨h⟩
theorem zna (h : H) (w : Hd H → G := by
 intro h_
 refine rB ga ?_ (x := lD [sl .v _, sl .v _] ty_92)
 refine rB ga ?_ (x := cL [(true, [sl _ _, sl _ _])] [(true, [sl .v _, sl .v _])] c_106 (hs := by exact spec_IsIndex))
 exact h_.get) : G := w ⟨h⟩
theorem zap (h : H) (w : Hd H → G := by
 intro h_
 refine rA ?_ (x := loc_index (by decide) sl_22 (by exact ⟨⟩) (by exact rfl) (by exact getm2 (by omega) rfl) (by exact rfl))
 refine rA ?_ (x := lE [sl .v _] ty_195)
 exact h_.get) : G := w ⟨h⟩
theorem zat (h : H) (w : Hd H → G := by
 intro h_
 refine rA ?_ (x := cL [(false, [sl _ _]), (false, [val _])] [(false, [sl .v _]), (false, [val _])] c_169 (hs := by exact sz_RowS (by omega) (by omega)))
 refine zam ?_
 exact h_.get) : G := w ⟨h⟩
theorem zf4 (h : H) (w : Hd H → G := by
 intro h_
 refine rM ?_
 refine rA ?_ (x := cL [(false, [sl _ _]), (false, [val _])] [(false, [sl .v _]), (false, [val _])] c_137 (hs := by exact held_RowS (by omega) (by omega)))
 exact h_.get) : G := w ⟨h⟩
theorem znf (h : H) (w : Hd H → G := by
 intro h_
 refine rA ?_ (x := loc_index (by decide) sl_167 (by exact ⟨⟩) (by exact rfl) (by exact getm2 (by omega) rfl) (by exact rfl))
 refine rA ?_ (x := lE [sl .v _] ty_25)
 exact h_.get) : G := w ⟨h⟩
theorem zng (h : H) (w : Hd H → G := by
 intro h_
 refine dA 0 ?_ (x := lD [sl .v _, sl .v _] ty_92)
 refine dA 0 ?_ (x := vM false [sl .v _])
 exact h_.get) : G := w ⟨h⟩
theorem zcs (h : H) (w : Hd H → G := by
 intro h_
 refine sw_skip ?_
 refine sS [2, 3, 4] [2, 3] ?_
 refine zg4 ?_
 exact h_.get) : G := w ⟨h⟩
theorem zh9 (h : H) (w : Hd H → G := by
 intro h_
 refine zew ?_
 refine sS [1, 2] [1] ?_
 exact h_.get) : G := w ⟨h⟩
theorem zn6 (h : H) (w : Hd H → G := by
 intro h_
 refine rA ?_ (x := lD [sl .v _, sl .v _] ty_92)
 refine rA ?_ (x := cL [(true, [sl _ _, sl _ _])] [(true, [sl .v _, sl .v _])] c_124 (hs := by exact impl_IsIndex))
 exact h_.get) : G := w ⟨h⟩
theorem zh4 (h : H) (w : Hd H → G := by
 intro h_
 refine zt g2 ?_
 refine rA ?_ (x := pkT g2)
 exact h_.get) : G := w ⟨h⟩
theorem zhm (h : H) (w : Hd H → G := by
 intro h_
 refine zt gc ?_
 refine rA ?_ (x := pkT gc)
 exact h_.get) : G := w ⟨h⟩
theorem zcf (h : H) (w : Hd H → G := by
 intro h_
 refine zew ?_
 refine sS [0, 1, 4] [] ?_
 refine zhr ?_
 refine sP [0, 1, 4, 5] [] ?_
 refine sL [0, 1] [] (fun k : Nat => k ≤ x.length ∧ x.take k = y.take k) (fun k : Nat => [(5, RV.int (k : Int))]) (fun k : Nat => []) (fun k : Nat => x.length - k) 0 (by exact ⟨by omega, by simp⟩) (by exact aI (by exact rfl) (tI)) (by exact ⟨⟩) ?_
 exact h_.get) : G := w ⟨h⟩
theorem zed (h : H) (w : Hd H → G := by
 intro h_
 refine zcb ?_
 refine zk4 ?_
 exact h_.get) : G := w ⟨h⟩
theorem zey (h : H) (w : Hd H → G := by
 intro h_
 refine zee ?_
 refine rM ?_
 refine rA ?_ (x := loc_index (by decide) sl_36 (by exact ⟨⟩) (by exact rfl) (by exact mkL_getc hlt rfl) (by exact rfl))
 exact h_.get) : G := w ⟨h⟩
theorem zg6 (h : H) (w : Hd H → G := by
 intro h_
 refine zcb ?_
 refine sS [0, 2] [] ?_
 exact h_.get) : G := w ⟨h⟩
theorem zbl (h : H) (w : Hd H → G := by
 intro h_
 refine rA ?_ (x := loc_store (ag := true) (vs := [val _, sl _ _, val _, val _]) ty_151 (by exact ⟨⟩) (by exact rfl) (by exact nl rfl))
 refine sw_ret ?_
 exact h_.get) : G := w ⟨h⟩
theorem zf0 (h : H) (w : Hd H → G := by
 intro h_
 refine zey ?_
 refine rA ?_ (x := loc_efield (by decide) fd_142_0 (by exact nl rfl))
 exact h_.get) : G := w ⟨h⟩
theorem zg3 (h : H) (w : Hd H → G := by
 intro h_
 refine rA ?_ (x := lD [val _, sl .v _] ty_66)
 refine rA ?_ (x := cL [(true, [val _, sl _ _])] [(true, [val _, sl .v _])] c_125 (hs := by exact impl_IsRow))
 exact h_.get) : G := w ⟨h⟩
theorem zge (h : H) (w : Hd H → G := by
 intro h_
 refine dA 4 ?_ (x := lD [sl .v _] ty_25)
 refine dA 12 ?_ (x := cL [(false, [sl _ _])] [(false, [sl .v _])] c_134 (hs := by exact impl_copyInts (by omega)))
 exact h_.get) : G := w ⟨h⟩
theorem znr (h : H) (w : Hd H → G := by
 intro h_
 refine dA 8 ?_ (x := lD [sl .v _] ty_25)
 refine dA 31 ?_ (x := cL [(false, [sl _ _])] [(false, [sl .v _])] c_134 (hs := by exact impl_copyInts (by omega)))
 exact h_.get) : G := w ⟨h⟩
theorem zgy (h : H) (w : Hd H → G := by
 intro h_
 refine dA 0 ?_ (x := sM)
 refine dA 7 ?_ (x := loc_index (by decide) sl_63 (by exact ⟨⟩) (by exact rfl) (by exact getm2 (by omega) rfl) (by exact rfl))
 exact h_.get) : G := w ⟨h⟩
theorem zah (h : H) (w : Hd H → G := by
 intro h_
 refine rS ?_
 refine zf3 ?_
 exact h_.get) : G := w ⟨h⟩
theorem zea (h : H) (w : Hd H → G := by
 intro h_
 refine rA ?_ (x := loc_storeM (o := 4) (ag := false) (vs := [val _]) (by omega) ty_3 (by exact ⟨⟩) (by exact rfl) (by exact nl rfl))
 refine sw_seq ?_
 exact h_.get) : G := w ⟨h⟩
theorem zjz (h : H) (w : Hd H → G := by
 intro h_
 refine rA ?_ (x := loc_gidx (k := ((spansTo l f k).length - 1)) (G := 2900) (by decide) sl_205 (by exact ⟨⟩) (by omega) (by first | (rw [List.length_map]; exact hl1) | exact hl1))
 refine rA ?_ (x := lF fd_234_1)
 refine rA ?_ (x := loc_storeM (o := 1) (ag := false) (vs := [val _]) (by omega) ty_3 (by exact ⟨⟩) (by exact rfl) (by exact nl rfl))
 exact h_.get) : G := w ⟨h⟩
theorem zmd (h : H) (w : Hd H → G := by
 intro h_
 refine rA ?_ (x := lD [sl .v _] ty_25)
 refine rA ?_ (x := cL [(false, [sl _ _])] [(false, [sl .v _])] c_134 (hs := by exact impl_copyInts (by omega)))
 exact h_.get) : G := w ⟨h⟩
theorem zbw (h : H) (w : Hd H → G := by
 intro h_
 refine rA ?_ (x := lF fd_142_6)
 refine rA ?_ (x := loc_store (ag := false) (vs := [sl _ _]) ty_93 (by exact ⟨⟩) (by exact rfl) (by exact nl rfl))
 exact h_.get) : G := w ⟨h⟩
theorem zbz (h : H) (w : Hd H → G := by
 intro h_
 refine rA ?_ (x := lF fd_144_3)
 refine rA ?_ (x := loc_store (ag := false) (vs := [sl _ _]) ty_93 (by exact ⟨⟩) (by exact rfl) (by exact nl rfl))
 exact h_.get) : G := w ⟨h⟩
theorem zc1 (h : H) (w : Hd H → G := by
 intro h_
 refine rX ?_ (x := (loc_alloc (by decide) z_35 zo_35))
 refine sT [1, 2] [1, 2] ?_
 exact h_.get) : G := w ⟨h⟩
theorem zbo (h : H) (w : Hd H → G := by
 intro h_
 refine rA ?_ (x := lF fd_65_2)
 refine rA ?_ (x := loc_store (ag := false) (vs := [sl _ _]) ty_63 (by exact ⟨⟩) (by exact rfl) (by exact nl rfl))
 exact h_.get) : G := w ⟨h⟩
theorem zc3 (h : H) (w : Hd H → G := by
 intro h_
 refine rA ?_ (x := lF fd_35_0)
 refine rA ?_ (x := loc_store (ag := false) (vs := [sl _ _]) ty_33 (by exact ⟨⟩) (by exact rfl) (by exact nl rfl))
 exact h_.get) : G := w ⟨h⟩
theorem zc8 (h : H) (w : Hd H → G := by
 intro h_
 refine rA ?_ (x := lF fd_40_3)
 refine rA ?_ (x := loc_store (ag := false) (vs := [sl _ _]) ty_36 (by exact ⟨⟩) (by exact rfl) (by exact nl rfl))
 exact h_.get) : G := w ⟨h⟩
theorem zc9 (h : H) (w : Hd H → G := by
 intro h_
 refine rA ?_ (x := lF fd_40_4)
 refine rA ?_ (x := loc_store (ag := false) (vs := [sl _ _]) ty_37 (by exact ⟨⟩) (by exact rfl) (by exact nl rfl))
 exact h_.get) : G := w ⟨h⟩
theorem zg7 (h : H) (w : Hd H → G := by
 intro h_
 refine zhr ?_
 refine sP [0, 2, 3] [] ?_
 exact h_.get) : G := w ⟨h⟩
theorem zga (h : H) (w : Hd H → G := by
 intro h_
 refine sw_skip ?_
 refine sG [0, 3] [] ?_
 exact h_.get) : G := w ⟨h⟩
theorem zgb (h : H) (w : Hd H → G := by
 intro h_
 refine sw_exit ?_
 refine sS [0, 3] [] ?_
 exact h_.get) : G := w ⟨h⟩
theorem zjy (h : H) (w : Hd H → G := by
 intro h_
 refine sO [(0, _), (1, _), (4, _), (5, _), (6, _), (7, _), (8, _), (2900, _)] [(900, (234, _ ++ ([val _, val _, sl _ _] ++ _)))] ?_
 refine sw_reg ?_
 exact h_.get) : G := w ⟨h⟩
theorem zo1 (h : H) (w : Hd H → G := by
 intro h_
 refine rA ?_ (x := lD [sl .v _] ty_93)
 refine rA ?_ (x := cL [(false, [sl _ _])] [(false, [sl .v _])] c_140 (hs := by exact spec_l9Rows (by omega)))
 exact h_.get) : G := w ⟨h⟩
theorem zhb (h : H) (w : Hd H → G := by
 intro h_
 refine rA ?_ (x := loc_store (ag := true) (vs := [val _, val _, val _]) ty_193 (by exact ⟨⟩) (by exact rfl) (by exact nl rfl))
 refine sw_seq ?_
 exact h_.get) : G := w ⟨h⟩
theorem zlp (h : H) (w : Hd H → G := by
 intro h_
 refine dA 0 ?_ (x := lF fd_40_0)
 refine dA 1 ?_ (x := lD [sl .v _, val _] ty_35)
 exact h_.get) : G := w ⟨h⟩
theorem zbv (h : H) (w : Hd H → G := by
 intro h_
 refine rA ?_ (x := lD [sl .v _] ty_128)
 refine rA ?_ (x := cL [(false, [sl _ _])] [(false, [sl .v _])] c_187 (hs := by exact to_RowS (by omega)))
 exact h_.get) : G := w ⟨h⟩
theorem zmy (h : H) (w : Hd H → G := by
 intro h_
 refine sw_draw hm_ ?_
 refine dA 0 ?_ (x := tM)
 exact h_.get) : G := w ⟨h⟩
theorem zn8 (h : H) (w : Hd H → G := by
 intro h_
 refine rB ga ?_ (x := vM false [sl .v _])
 refine rB ga ?_ (x := cL [(false, [sl _ _])] [(false, [sl .v _])] c_115 (hs := by exact impl_isOrder))
 exact h_.get) : G := w ⟨h⟩
theorem zmn (h : H) (w : Hd H → G := by
 intro h_
 refine rA ?_ (x := loc_index (by decide) sl_36 (by exact ⟨⟩) (by exact rfl) (by exact getm2 (by omega) rfl) (by exact rfl))
 refine zez ?_
 exact h_.get) : G := w ⟨h⟩
theorem zcu (h : H) (w : Hd H → G := by
 intro h_
 refine zcb ?_
 refine zfj ?_
 exact h_.get) : G := w ⟨h⟩
theorem znh (h : H) (w : Hd H → G := by
 intro h_
 refine rA ?_ (x := vM false [sl .v _])
 refine rA ?_ (x := vA false [sl .v _])
 exact h_.get) : G := w ⟨h⟩
theorem zoq (h : H) (w : Hd H → G := by
 intro h_
 refine rA ?_ (x := loc_store (ag := true) (vs := [sl _ _, sl _ _]) ty_92 (by exact ⟨⟩) (by exact rfl) (by exact nl rfl))
 refine sw_ret ?_
 exact h_.get) : G := w ⟨h⟩
theorem ze4 (h : H) (w : Hd H → G := by
 intro h_
 refine sw_seq ?_
 refine ze5 ?_
 exact h_.get) : G := w ⟨h⟩
theorem zi5 (h : H) (w : Hd H → G := by
 intro h_
 refine rA ?_ (x := vA false [sl .v _])
 refine sw_seq ?_
 exact h_.get) : G := w ⟨h⟩
theorem zeu (h : H) (w : Hd H → G := by
 intro h_
 refine zee ?_
 refine rM ?_
 refine rA ?_ (x := loc_index (by decide) sl_93 (by exact ⟨⟩) (by exact rfl) (by exact mkL_getc hlt rfl) (by exact rfl))
 exact h_.get) : G := w ⟨h⟩
theorem zih (h : H) (w : Hd H → G := by
 intro h_
 refine rA ?_ (x := B_eql)
 refine rM ?_
 exact h_.get) : G := w ⟨h⟩
theorem zmz (h : H) (w : Hd H → G := by
 intro h_
 refine dA 2 ?_ (x := lD [sl .v _] ty_36)
 refine dA 0 ?_ (x := lD [sl .v _, val _, val _, sl .v _, sl .v _, sl .v _, sl .v _, val _] ty_40)
 exact h_.get) : G := w ⟨h⟩
theorem zcv (h : H) (w : Hd H → G := by
 intro h_
 refine rA ?_ (x := lN sl_63)
 refine rA ?_ (x := B_lss)
 exact h_.get) : G := w ⟨h⟩
theorem zd1 (h : H) (w : Hd H → G := by
 intro h_
 refine rA ?_ (x := lN sl_38)
 refine rA ?_ (x := B_lss)
 exact h_.get) : G := w ⟨h⟩
theorem zdg (h : H) (w : Hd H → G := by
 intro h_
 refine rA ?_ (x := lN sl_37)
 refine rA ?_ (x := B_lss)
 exact h_.get) : G := w ⟨h⟩
theorem zj1 (h : H) (w : Hd H → G := by
 intro h_
 refine rA ?_ (x := lD [sl .v _] ty_25)
 refine rA ?_ (x := cL [(false, [sl _ _])] [(false, [sl .v _])] c_193 (hs := by exact impl_IsSet))
 exact h_.get) : G := w ⟨h⟩
theorem zjd (h : H) (w : Hd H → G := by
 intro h_
 refine rA ?_ (x := lN sl_89)
 refine rA ?_ (x := B_lss)
 exact h_.get) : G := w ⟨h⟩
theorem zmw (h : H) (w : Hd H → G := by
 intro h_
 refine rX ?_ (x := (loc_alloc (by decide) z_92 zo_92))
 refine rA ?_ (x := loc_const (.inr rfl) (by decide) (ok_nil (t := 66) (e := 2)))
 exact h_.get) : G := w ⟨h⟩
theorem zfh (h : H) (w : Hd H → G := by
 intro h_
 refine rM ?_
 refine rM ?_
 exact h_.get) : G := w ⟨h⟩
theorem zgl (h : H) (w : Hd H → G := by
 intro h_
 refine zhr ?_
 refine sP [0, 2, 3, 4] [] ?_
 exact h_.get) : G := w ⟨h⟩
theorem zgp (h : H) (w : Hd H → G := by
 intro h_
 refine rB ga ?_ (x := lF fd_193_1)
 refine rB ga ?_ (x := lD [val _] ty_3)
 exact h_.get) : G := w ⟨h⟩
theorem zhh (h : H) (w : Hd H → G := by
 intro h_
 refine rB gb ?_ (x := lF fd_151_3)
 refine rB gb ?_ (x := lD [val _] ty_3)
 exact h_.get) : G := w ⟨h⟩
theorem zkq (h : H) (w : Hd H → G := by
 intro h_
 refine dA 0 ?_ (x := lF fd_92_1)
 refine dA 1 ?_ (x := lD [sl .v _] ty_90)
 exact h_.get) : G := w ⟨h⟩
theorem zlg (h : H) (w : Hd H → G := by
 intro h_
 refine rB ga ?_ (x := lD [val _] ty_3)
 refine rB ga ?_ (x := lF fd_40_0)
 exact h_.get) : G := w ⟨h⟩
theorem zbb (h : H) (w : Hd H → G := by
 intro h_
 refine za4 ?_
 refine rX ?_ (x := (loc_alloc (by decide) z_148 zo_148))
 exact h_.get) : G := w ⟨h⟩
theorem zgu (h : H) (w : Hd H → G := by
 intro h_
 refine zf gc ?_
 refine rA ?_ (x := pkF gc)
 exact h_.get) : G := w ⟨h⟩
theorem zin (h : H) (w : Hd H → G := by
 intro h_
 refine zt g3 ?_
 refine rA ?_ (x := pkT g3)
 exact h_.get) : G := w ⟨h⟩
theorem zi0 (h : H) (w : Hd H → G := by
 intro h_
 refine sw_draw hm_ ?_
 refine zci ?_
 exact h_.get) : G := w ⟨h⟩
theorem zmx (h : H) (w : Hd H → G := by
 intro h_
 refine sS [1, 2, 3, 4] [1, 2] ?_
 refine rA ?_ (x := lD [sl .v _, val _, val _, sl .v _, sl .v _, sl .v _, sl .v _, val _] ty_40)
 exact h_.get) : G := w ⟨h⟩
theorem zo3 (h : H) (w : Hd H → G := by
 intro h_
 refine sT [1, 2, 4, 5] [2, 4] ?_
 refine rA ?_ (x := lD [sl .v _, val _, val _, sl .v _, sl .v _, sl .v _, sl .v _, val _] ty_40)
 exact h_.get) : G := w ⟨h⟩
theorem za0 (h : H) (w : Hd H → G := by
 intro h_
 refine sR ?_
 refine rK ?_
 refine sS [0, 1, 4] [] ?_
 refine zmh ?_
 exact h_.get) : G := w ⟨h⟩
theorem za1 (h : H) (w : Hd H → G := by
 intro h_
 refine rA ?_ (x := B_sub)
 refine zja ?_
 refine sS [0, 1, 4] [] ?_
 refine zi2 ?_
 exact h_.get) : G := w ⟨h⟩
theorem za6 (h : H) (w : Hd H → G := by
 intro h_
 refine rA ?_ (x := lD [sl .v _] ty_25)
 refine rM ?_
 refine rA ?_ (x := cL [(false, [sl _ _]), (false, [val _])] [(false, [sl .v _]), (false, [val _])] c_38 (hs := by exact sz_IntS (by omega) (by omega)))
 refine zam ?_
 exact h_.get) : G := w ⟨h⟩
theorem za9 (h : H) (w : Hd H → G := by
 intro h_
 refine za8 ?_
 refine za3 ?_
 exact h_.get) : G := w ⟨h⟩
theorem zaf (h : H) (w : Hd H → G := by
 intro h_
 refine ze7 ?_
 refine zee ?_
 refine rM ?_
 exact h_.get) : G := w ⟨h⟩
theorem zb1 (h : H) (w : Hd H → G := by
 intro h_
 refine rA ?_ (x := cA Cp.hdr)
 refine sw_seq ?_
 refine sT [0, 2, 3] [7] ?_
 refine zhr ?_
 refine sP [0, 2, 3, 4] [7] ?_
 exact h_.get) : G := w ⟨h⟩
theorem zbh (h : H) (w : Hd H → G := by
 intro h_
 refine zaa ?_
 refine rX ?_ (x := (loc_alloc (by decide) z_66 zo_66))
 exact h_.get) : G := w ⟨h⟩
theorem zbm (h : H) (w : Hd H → G := by
 intro h_
 refine zal ?_
 refine rX ?_ (x := (loc_alloc (by decide) z_65 zo_65))
 exact h_.get) : G := w ⟨h⟩
theorem zcx (h : H) (w : Hd H → G := by
 intro h_
 refine rA ?_ (x := lF fd_66_1)
 refine rA ?_ (x := lD [sl .v _] ty_25)
 exact h_.get) : G := w ⟨h⟩
theorem zdm (h : H) (w : Hd H → G := by
 intro h_
 refine sS [0, 1] [] ?_
 refine ze8 ?_
 refine sS [0, 1, 4] [] ?_
 refine zhr ?_
 refine sP [0, 1, 4, 5] [] ?_
 refine sL [0, 4] [] (fun _ : Unit => True) (fun _ : Unit => [(1, RV.int k), (5, RV.int 0)]) (fun _ : Unit => []) (fun _ : Unit => 0) () tI (by exact aI (by exact rfl) (aI (by exact rfl) (tI))) (by exact ⟨⟩) ?_
 exact h_.get) : G := w ⟨h⟩
theorem zdn (h : H) (w : Hd H → G := by
 intro h_
 refine zix ?_
 refine rM ?_
 refine rA ?_ (x := loc_copy (r' := RV.sv false [sl .v _]) (.inl rfl) (by decide) (by exact Cp.sv (ToL.cons (PV.nv_to PV.to_none) ToL.nil) (BorL.cons (bor_sl _) BorL.nil)))
 exact h_.get) : G := w ⟨h⟩
theorem zdp (h : H) (w : Hd H → G := by
 intro h_
 refine sT [0, 1] [999] ?_
 refine ze8 ?_
 refine sS [0, 1, 4] [999] ?_
 refine zhr ?_
 refine sP [0, 1, 4, 5] [999] ?_
 exact h_.get) : G := w ⟨h⟩
theorem zdq (h : H) (w : Hd H → G := by
 intro h_
 refine zix ?_
 refine rM ?_
 refine rA ?_ (x := loc_copy (.inl rfl) (by decide) (by exact Cp.nm Cp.hdr))
 exact h_.get) : G := w ⟨h⟩
theorem zfu (h : H) (w : Hd H → G := by
 intro h_
 refine zhr ?_
 refine sP [1, 2, 3] [1] ?_
 exact h_.get) : G := w ⟨h⟩
theorem zfx (h : H) (w : Hd H → G := by
 intro h_
 refine sw_skip ?_
 refine sG [1, 3] [1] ?_
 exact h_.get) : G := w ⟨h⟩
theorem zgw (h : H) (w : Hd H → G := by
 intro h_
 refine zfs ?_
 refine rM ?_
 exact h_.get) : G := w ⟨h⟩
theorem zg9 (h : H) (w : Hd H → G := by
 intro h_
 refine zg1 ?_
 refine rA ?_ (x := cL [(true, [val _, sl _ _])] [(true, [val _, sl .v _])] c_107 (hs := by exact spec_IsRow))
 exact h_.get) : G := w ⟨h⟩
theorem zcc (h : H) (w : Hd H → G := by
 intro h_
 refine sS [0, 1, 4] [] ?_
 refine zb0 ?_
 exact h_.get) : G := w ⟨h⟩
theorem zco (h : H) (w : Hd H → G := by
 intro h_
 refine rA ?_ (x := lF fd_193_0)
 refine rA ?_ (x := lD [val _] ty_3)
 exact h_.get) : G := w ⟨h⟩
theorem zd0 (h : H) (w : Hd H → G := by
 intro h_
 refine rA ?_ (x := lF fd_151_2)
 refine rA ?_ (x := lD [val _] ty_3)
 exact h_.get) : G := w ⟨h⟩
theorem zdb (h : H) (w : Hd H → G := by
 intro h_
 refine rA ?_ (x := lF fd_142_5)
 refine rA ?_ (x := lD [val _] ty_3)
 exact h_.get) : G := w ⟨h⟩
theorem zds (h : H) (w : Hd H → G := by
 intro h_
 refine sw_reg ?_
 refine rA ?_ (x := loc_copy (.inl rfl) (by decide) (by exact Cp.nm Cp.hdr))
 refine rM ?_
 exact h_.get) : G := w ⟨h⟩
theorem zgr (h : H) (w : Hd H → G := by
 intro h_
 refine rB gb ?_ (x := lD [val _] ty_3)
 refine rB gb ?_ (x := B_leq)
 exact h_.get) : G := w ⟨h⟩
theorem zm7 (h : H) (w : Hd H → G := by
 intro h_
 refine rA ?_ (x := vM false [sl .v _])
 refine rA ?_ (x := lN sl_89)
 exact h_.get) : G := w ⟨h⟩
theorem zdf (h : H) (w : Hd H → G := by
 intro h_
 refine rA ?_ (x := lF fd_35_1)
 refine rA ?_ (x := lD [val _] ty_3)
 exact h_.get) : G := w ⟨h⟩
theorem zdi (h : H) (w : Hd H → G := by
 intro h_
 refine rA ?_ (x := lF fd_40_1)
 refine rA ?_ (x := lD [val _] ty_3)
 exact h_.get) : G := w ⟨h⟩
theorem znn (h : H) (w : Hd H → G := by
 intro h_
 refine sS [1, 2] [1] ?_
 refine rA ?_ (x := lD [sl .v _, val _, val _, sl .v _, sl .v _, sl .v _, sl .v _, val _] ty_40)
 exact h_.get) : G := w ⟨h⟩
theorem zj2 (h : H) (w : Hd H → G := by
 intro h_
 refine zhj ?_
 refine scT ?_
 exact h_.get) : G := w ⟨h⟩
theorem zic (h : H) (w : Hd H → G := by
 intro h_
 refine rA ?_ (x := pkF gb)
 refine rM ?_
 exact h_.get) : G := w ⟨h⟩
theorem zl6 (h : H) (w : Hd H → G := by
 intro h_
 refine rA ?_ (x := pkT gd)
 refine rM ?_
 exact h_.get) : G := w ⟨h⟩
theorem zl7 (h : H) (w : Hd H → G := by
 intro h_
 refine rA ?_ (x := pkF gd)
 refine rM ?_
 exact h_.get) : G := w ⟨h⟩
theorem zb3 (h : H) (w : Hd H → G := by
 intro h_
 refine ze7 ?_
 refine sH [0, 2, 3, 4] [7] ?_
 refine rA ?_ (x := cM Cp.hdr)
 refine zmh ?_
 refine rM ?_
 exact h_.get) : G := w ⟨h⟩
theorem zak (h : H) (w : Hd H → G := by
 intro h_
 refine zfd ?_
 refine za3 ?_
 exact h_.get) : G := w ⟨h⟩
theorem ze3 (h : H) (w : Hd H → G := by
 intro h_
 refine zdt ?_
 refine zdz ?_
 exact h_.get) : G := w ⟨h⟩
theorem zf1 (h : H) (w : Hd H → G := by
 intro h_
 refine rA ?_ (x := loc_efield (by decide) fd_65_2 (by exact nl rfl))
 refine rA ?_ (x := lE [sl .v _] ty_63)
 exact h_.get) : G := w ⟨h⟩
theorem zec (h : H) (w : Hd H → G := by
 intro h_
 refine sP [1, 2, 4] [2] ?_
 refine sw_regL ?_
 exact h_.get) : G := w ⟨h⟩
theorem ze2 (h : H) (w : Hd H → G := by
 intro h_
 refine rM ?_
 refine rA ?_ (x := loc_hindex (by decide) sl_38 (by exact ⟨⟩) (by exact rfl) (by omega))
 exact h_.get) : G := w ⟨h⟩
theorem zgo (h : H) (w : Hd H → G := by
 intro h_
 refine rK ?_
 refine sT [1, 2] [1] ?_
 exact h_.get) : G := w ⟨h⟩
theorem zhq (h : H) (w : Hd H → G := by
 intro h_
 refine sw_seq ?_
 refine sS [1, 2, 3] [1] ?_
 exact h_.get) : G := w ⟨h⟩
theorem zje (h : H) (w : Hd H → G := by
 intro h_
 refine dT 4194303 ga ?_
 refine dA 8388607 ?_ (x := pkT ga)
 exact h_.get) : G := w ⟨h⟩
theorem zkb (h : H) (w : Hd H → G := by
 intro h_
 refine rA ?_ (x := loc_const (.inr rfl) (by decide) (ok_nil (t := 65) (e := 4)))
 refine sS [0, 2] [] ?_
 exact h_.get) : G := w ⟨h⟩
theorem zkx (h : H) (w : Hd H → G := by
 intro h_
 refine sS [1, 2, 3] [1] ?_
 refine rA ?_ (x := lF fd_148_2)
 exact h_.get) : G := w ⟨h⟩
theorem zmm (h : H) (w : Hd H → G := by
 intro h_
 refine rA ?_ (x := loc_const (.inr rfl) (by decide) (ok_nil (t := 3) (e := 1)))
 refine sT [1, 2] [1] ?_
 exact h_.get) : G := w ⟨h⟩
theorem zh8 (h : H) (w : Hd H → G := by
 intro h_
 refine zt gb ?_
 refine rA ?_ (x := pkT gb)
 exact h_.get) : G := w ⟨h⟩
theorem zl0 (h : H) (w : Hd H → G := by
 intro h_
 refine zt g6 ?_
 refine rA ?_ (x := pkT g6)
 exact h_.get) : G := w ⟨h⟩
theorem znp (h : H) (w : Hd H → G := by
 intro h_
 refine sO [(1, _), (2, _), (3, _), (4, _)] [(1, _), (3, (92, [sl _ _, sl _ _]))] ?_
 refine sw_reg ?_
 exact h_.get) : G := w ⟨h⟩
theorem zfz (h : H) (w : Hd H → G := by
 intro h_
 refine sw_exit ?_
 refine sT [1, 3] [1] ?_
 exact h_.get) : G := w ⟨h⟩
theorem zh3 (h : H) (w : Hd H → G := by
 intro h_
 refine zhj ?_
 refine rM ?_
 exact h_.get) : G := w ⟨h⟩
theorem ziv (h : H) (w : Hd H → G := by
 intro h_
 refine dF 1023 gb ?_
 refine dF 1023 gb ?_
 exact h_.get) : G := w ⟨h⟩
theorem zjq (h : H) (w : Hd H → G := by
 intro h_
 refine rA ?_ (x := loc_const (.inr rfl) (by decide) (ok_nil (t := 234) (e := 3)))
 refine sS [0, 1, 4] [] ?_
 refine rA ?_ (x := loc_bslice (qs := []) (by decide) sl_205 z_234 (by decide) rfl rfl rfl rfl rfl (by exact nl rfl) (by exact ⟨⟩) rfl)
 exact h_.get) : G := w ⟨h⟩
theorem zhi (h : H) (w : Hd H → G := by
 intro h_
 refine rB gb ?_ (x := sM)
 refine rB gb ?_ (x := B_gtr)
 exact h_.get) : G := w ⟨h⟩
theorem zjw (h : H) (w : Hd H → G := by
 intro h_
 refine rB gb ?_ (x := sM)
 refine rB gb ?_ (x := B_sub)
 exact h_.get) : G := w ⟨h⟩
theorem zbq (h : H) (w : Hd H → G := by
 intro h_
 refine sR ?_
 refine rA ?_ (x := loc_const (.inr rfl) (by decide) (ok_nil (t := 151) (e := 4)))
 exact h_.get) : G := w ⟨h⟩
theorem zcd (h : H) (w : Hd H → G := by
 intro h_
 refine zb0 ?_
 refine rA ?_ (x := B_neq)
 exact h_.get) : G := w ⟨h⟩
theorem zlz (h : H) (w : Hd H → G := by
 intro h_
 refine zll ?_
 refine rA ?_ (x := B_lss)
 exact h_.get) : G := w ⟨h⟩
theorem zad (h : H) (w : Hd H → G := by
 intro h_
 refine zew ?_
 refine zk4 ?_
 exact h_.get) : G := w ⟨h⟩
theorem zek (h : H) (w : Hd H → G := by
 intro h_
 refine zeo ?_
 refine sw_seq ?_
 refine zee ?_
 exact h_.get) : G := w ⟨h⟩
theorem zep (h : H) (w : Hd H → G := by
 intro h_
 refine zer ?_
 refine zja ?_
 refine zf3 ?_
 exact h_.get) : G := w ⟨h⟩
theorem zh6 (h : H) (w : Hd H → G := by
 intro h_
 refine rB ga ?_ (x := lD [val _] ty_3)
 refine zkz ?_
 exact h_.get) : G := w ⟨h⟩
theorem zk5 (h : H) (w : Hd H → G := by
 intro h_
 refine dA 30 ?_ (x := lE [val _] ty_3)
 refine zci ?_
 exact h_.get) : G := w ⟨h⟩
theorem zkh (h : H) (w : Hd H → G := by
 intro h_
 refine sO [(0, _), (2, _), (3, _)] [(2, _), (3, (92, [sl _ _, sl _ _]))] ?_
 refine sw_reg ?_
 exact h_.get) : G := w ⟨h⟩
end Go.Proofs.YteflgldonmgejaaGreat.M
