/- Short names for what the printed proofs say often. No condition. -/
import Derived.Test.YteflgldonmgejaaGreatCF2
set_option linter.unusedVariables false
namespace Go.Proofs.YteflgldonmgejaaGreat.M
open Go Go.RowKit
variable {G H : Prop}
theorem za7 (h : G := by
 refine sS [1, 2, 4] [2] ?_
 refine zgb ?_
 exact (aI (by refine int_eq ?_; exact (szR_no (by omega)).symm) tI)) : G := h
theorem zab (h : G := by
 have hn0 := szR_neg (w := wtIntS x.Values) (l := l) (by omega) hba
 exact za7) : G := h
theorem zas (h : G := by
 have hn0 := szR_neg (w := wtQuery x.Query) (l := l) (by omega) hba
 exact za7) : G := h
theorem zfr (h : G := by
 refine sw_ret ?_
 exact (aI (by exact rfl) tI)) : G := h
theorem zb7 (h : G := by
 refine rA ?_ (x := tA)
 exact zfr) : G := h
theorem zn2 (h : G := by
 refine sw_ret ?_
 exact (Exists.intro 2 (Exists.intro _ (aI (by exact rfl) (aI (by exact rfl) (aI ty_148 (aI (fun h => nomatch h) tI))))))) : G := h
theorem zbf (h : G := by
 refine sw_reg ?_
 refine rA ?_ (x := loc_ltake (ms := [val _, val _, sl _ _, sl _ _, sl _ _]) (qs := [val _, val _, sl .v _, sl .v _, sl .v _]) (by decide) ty_148 (fun h => nomatch h) (by exact nl rfl) (by exact rfl) (by exact (ToL.cons (PV.To.refl _) (ToL.cons (PV.To.refl _) (ToL.cons PV.to_none (ToL.cons PV.to_none (ToL.cons PV.to_none ToL.nil)))))) (by exact lq))
 refine rA ?_ (x := loc_store (ag := true) (vs := [val _, val _, sl _ _, sl _ _, sl _ _]) ty_148 (by exact ⟨⟩) (by exact rfl) (by exact nl rfl))
 exact zn2) : G := h
theorem zbj (h : G := by
 refine sw_ret ?_
 exact (Exists.intro 2 (Exists.intro _ (aI (by exact rfl) (aI (by exact rfl) (aI ty_66 (aI (fun h => nomatch h) tI))))))) : G := h
theorem zkm (h : G := by
 refine sw_ret ?_
 exact (Exists.intro 2 (Exists.intro _ (aI (by exact rfl) (aI (by exact rfl) (aI ty_65 (aI (fun h => nomatch h) tI))))))) : G := h
theorem zbp (h : G := by
 refine sw_reg ?_
 refine rA ?_ (x := loc_ltake (ms := [val _, val _, sl _ _, sl _ _]) (qs := [val _, val _, sl .v _, sl .v _]) (by decide) ty_65 (fun h => nomatch h) (by exact nl rfl) (by exact rfl) (by exact (ToL.cons (PV.To.refl _) (ToL.cons (PV.To.refl _) (ToL.cons PV.to_none (ToL.cons PV.to_none ToL.nil))))) (by exact lq))
 refine rA ?_ (x := loc_store (ag := true) (vs := [val _, val _, sl _ _, sl _ _]) ty_65 (by exact ⟨⟩) (by exact rfl) (by exact nl rfl))
 exact zkm) : G := h
theorem zby (h : G := by
 refine sw_reg ?_
 refine rA ?_ (x := loc_ltake (ms := [val _, val _, sl _ _, sl _ _, val _, sl _ _, val _, val _, val _, sl _ _]) (qs := [val _, val _, sl .v _, sl .v _, val _, sl .v _, val _, val _, val _, sl .v _]) (by decide) ty_142 (fun h => nomatch h) (by exact nl rfl) (by exact rfl) (by exact (ToL.cons (PV.To.refl _) (ToL.cons (PV.To.refl _) (ToL.cons PV.to_none (ToL.cons PV.to_none (ToL.cons (PV.To.refl _) (ToL.cons PV.to_none (ToL.cons (PV.To.refl _) (ToL.cons (PV.To.refl _) (ToL.cons (PV.To.refl _) (ToL.cons PV.to_none ToL.nil))))))))))) (by exact lq))
 refine rA ?_ (x := loc_store (ag := true) (vs := [val _, val _, sl _ _, sl _ _, val _, sl _ _, val _, val _, val _, sl _ _]) ty_142 (by exact ⟨⟩) (by exact rfl) (by exact nl rfl))
 refine sw_ret ?_
 exact (Exists.intro 2 (Exists.intro _ (aI (by exact rfl) (aI (by exact rfl) (aI ty_142 (aI (fun h => nomatch h) tI))))))) : G := h
theorem zc1 (h : G := by
 refine sw_reg ?_
 refine rA ?_ (x := loc_ltake (ms := [val _, val _, sl _ _, sl _ _, val _, val _, sl _ _]) (qs := [val _, val _, sl .v _, sl .v _, val _, val _, sl .v _]) (by decide) ty_144 (fun h => nomatch h) (by exact nl rfl) (by exact rfl) (by exact (ToL.cons (PV.To.refl _) (ToL.cons (PV.To.refl _) (ToL.cons PV.to_none (ToL.cons PV.to_none (ToL.cons (PV.To.refl _) (ToL.cons (PV.To.refl _) (ToL.cons PV.to_none ToL.nil)))))))) (by exact lq))
 refine rA ?_ (x := loc_store (ag := true) (vs := [val _, val _, sl _ _, sl _ _, val _, val _, sl _ _]) ty_144 (by exact ⟨⟩) (by exact rfl) (by exact nl rfl))
 refine sw_ret ?_
 exact (Exists.intro 2 (Exists.intro _ (aI (by exact rfl) (aI (by exact rfl) (aI ty_144 (aI (fun h => nomatch h) tI))))))) : G := h
theorem zcc (h : G := by
 refine sw_reg ?_
 refine zqn ?_
 refine sw_ret ?_
 exact (Exists.intro 2 (Exists.intro _ (aI (by exact rfl) (aI (by exact rfl) (aI ty_40 (aI (fun h => nomatch h) tI))))))) : G := h
theorem zcg (h : G := by
 refine za2 ?_
 exact rb (by exact (deq_false (fun e => by subst e; omega)).symm)) : G := h
theorem zcm (h : G := by
 refine zai ?_
 exact rb ((deq_false (eq_no hlt hlt2 hne)).symm)) : G := h
theorem zcn (h : G := by
 refine zaj ?_
 refine nx (k + 1) (by exact ⟨by omega, eq_succ ha hlt hlt2 heq⟩)) : G := h
theorem zjm (h : G := by
 refine zgb ?_
 exact rb (by exact (deq_true (eq_end hl (by rw [show x.length = k by omega]; exact ha))).symm)) : G := h
theorem zco (h : G := by
 refine zfj ?_
 exact zjm) : G := h
theorem zcs (h : G := by
 refine sS [2, 3, 4] [2, 3] ?_
 refine zgb ?_
 exact rb (by exact (deq_false (fun e => by subst e; simp_all [deq_self])).symm)) : G := h
theorem zcy (h : G := by
 refine dA 511 ?_ (x := nT)
 refine sc (fun hbc => ?_) (fun hbc => ?_)
 have hne : x[k] ≠ y[k] := by intro hxy; rw [hxy, deq_self] at hbc; simp at hbc
 exact zcm
 have heq : x[k] = y[k] := by exact deq_iff.1 (by simpa using hbc)
 exact zcn) : G := h
theorem zdu (h : G := by
 refine rA ?_ (x := B_lss)
 refine sc (fun hba => ?_) (fun hba => ?_)
 simp at hba
 refine sw_exit ?_
 refine sS [0, 1, 4, 5] [] ?_
 refine za3 ?_
 exact aI (by exact rfl) (Exists.intro _ (aI (.inl (by exact rfl)) (aI (by exact (Nm.nv Nm.nil)) (by exact (OwnTo.nv OwnTo.nil)))))) : G := h
theorem ze7 (h : G := by
 refine sw_exit ?_
 refine sS [0, 1, 4, 5] [] ?_
 refine za3 ?_
 exact aI (by exact int_eq (by first | rfl | rw [hend, List.take_length])) (Exists.intro _ (aI (.inl (by exact rfl)) (aI (by exact (Nm.nv Nm.nil)) (by exact (OwnTo.nv OwnTo.nil)))))) : G := h
theorem ze1 (h : G := by
 have hend : i = x.length := by omega
 refine sw_boxEq (d := 999) (by exact rfl) (mark_all hend) ?_
 refine sw_freeze (s := 0) (D := 999) (e := 1) (by exact rfl) (by exact rfl) (by rw [List.length_map, mkL_len, List.length_map]) (by intro c hc; obtain ⟨y, _, rfl⟩ := List.mem_map.1 hc; exact rfl) hjk ?_
 exact ze7) : G := h
theorem zem (h : G := by
 first | exact absurd rfl hbb | omega) : G := h
theorem zrm (h : G := by
 refine sG [0, 1, 5] [] ?_
 refine ze0 ?_
 refine nx (i + 1) (by omega) (e := (by exact aI (by exact int_eq (by rw [mkL_succ hlt]; rfl)) (aI (by exact rfl) (tI))))) : G := h
theorem zen (h : G := by
 refine zaj ?_
 exact zrm) : G := h
theorem zeo (h : G := by
 have hend : i = x.length := by omega
 refine zak ?_
 exact (aI (by refine int_eq ?_; first | rfl | rw [hend, List.take_length]) tI)) : G := h
theorem zer (h : G := by
 first | exact absurd rfl hbc | omega) : G := h
theorem zes (h : G := by
 first | exact absurd rfl hbd | omega) : G := h
theorem zew (h : G := by
 first | exact absurd rfl hbe | omega) : G := h
theorem zey (h : G := by
 first | exact absurd rfl hbf | omega) : G := h
theorem zez (h : G := by
 refine sw_skip ?_
 exact zrm) : G := h
theorem zf3 (h : G := by
 refine za8 ?_
 refine rM ?_
 refine rS ?_
 exact zfr) : G := h
theorem zfg (h : G := by
 refine zgj ?_
 exact rb (by simp [inB, *])) : G := h
theorem zfe (h : G := by
 refine sR ?_
 refine rK ?_
 refine sS [0, 1, 2, 6] [] ?_
 refine zfo ?_
 refine rA ?_ (x := B_geq)
 refine rM ?_
 refine cx 10 (fun ga sga => ?_) (fun ga sga => ?_)
 refine rB ga ?_ (x := sM)
 refine rB ga ?_ (x := sM)
 refine rB ga ?_ (x := B_leq)
 refine rA ?_ (x := pkT ga)
 exact zfg
 refine zfz ?_
 exact zfg) : G := h
theorem zfh (h : G := by
 refine zgb ?_
 exact rb ((any_yes (P := fun y => y == x) hlt (by simpa using ‹_ = x›)).symm)) : G := h
theorem zfi (h : G := by
 refine nx (k + 1) (by exact ⟨by omega, any_succ ha ‹_› (by simpa using ‹¬ _›)⟩)) : G := h
theorem zfk (h : G := by
 refine zgb ?_
 exact rb (by exact (any_end (by rw [show xs.length = k by omega]; exact ha)).symm)) : G := h
theorem zfv (h : G := by
 refine zgb ?_
 exact rb (by simp [okRow, beq_dec, all_no (P := okVal) hlt hno])) : G := h
theorem zrn (h : G := by
 refine nx (k + 1) (by exact ⟨by omega, all_succ ha hlt hyes⟩)) : G := h
theorem zfw (h : G := by
 refine zfp ?_
 exact zrn) : G := h
theorem zg0 (h : G := by
 refine zgj ?_
 exact rb (by simp [okRow, beq_dec, hall, *])) : G := h
theorem zfy (h : G := by
 refine rB ga ?_ (x := lF fd_66_1)
 refine rB ga ?_ (x := lD [sl .v _] ty_25)
 refine rB ga ?_ (x := lN sl_25)
 refine rB ga ?_ (x := B_eql)
 refine rA ?_ (x := pkT ga)
 exact zg0) : G := h
theorem zg5 (h : G := by
 refine ze0 ?_
 exact zrn) : G := h
theorem zgc (h : G := by
 refine zgj ?_
 exact rb (by simp [okRows, *])) : G := h
theorem zgm (h : G := by
 refine dA 63 ?_ (x := loc_store (ag := true) (vs := [val _, sl _ _]) ty_66 (by exact ⟨⟩) (by exact rfl) (by exact nl rfl))
 exact zbj) : G := h
theorem zro (h : G := by
 refine nx (k + 1) (by omega) (e := (by exact aI (by exact slc_eq (by rw [tk_succ hlt, List.map_append]; rfl)) (aI (by exact rfl) (tI))))) : G := h
theorem zgq (h : G := by
 refine rA ?_ (x := tA)
 refine sG [0, 2, 3, 5, 7, 8, 9] [5] ?_
 refine zfp ?_
 exact zro) : G := h
theorem zmq (h : G := by
 refine zhz ?_
 exact (aI (by refine slc_eq ?_; rw [hend, List.take_length]) tI)) : G := h
theorem zgr (h : G := by
 have hend : k = x.length := by omega
 refine sw_exit ?_
 refine sS [0, 2, 3, 7, 8, 9] [] ?_
 exact zmq) : G := h
theorem zgu (h : G := by
 refine ze0 ?_
 exact zro) : G := h
theorem zl5 (h : G := by
 refine sw_exit ?_
 refine sS [0, 2, 3, 4] [] ?_
 exact zmq) : G := h
theorem zgv (h : G := by
 have hend : k = x.length := by omega
 exact zl5) : G := h
theorem zh1 (h : G := by
 refine zgj ?_
 exact rb (by first | (simp_all [okCond, inB]; done) | (simp_all [okCond, inB]; omega))) : G := h
theorem zh7 (h : G := by
 have hbad : adjAll ⟨0, 0, 0⟩ okCond ltField x.Conds = false := adj_no hlt (Bool.eq_false_iff.2 fun hx => by
  have hx := adjStep.1 hx
  rw [hgk] at hx
  obtain ⟨hx1, hx2⟩ := hx
  first
  | (simp_all; done)
  | (simp only [decide_eq_true_eq, ltField] at *; by_cases h0 : k = 0 <;> (try rw [hgp (by omega)] at hx2) <;> omega))
 refine sS [1, 3] [1] ?_
 refine zgb ?_
 exact rb (by simp [okQuery, okConds, hbad])) : G := h
theorem zrp (h : G := by
 refine nx (k + 1) (by exact ⟨by omega, by rw [adjTo_succ, ha, Bool.true_and]; refine adjStep.2 ⟨by rw [hgk]; first | assumption | simp_all, ?_⟩; rcases Nat.eq_zero_or_pos k with h0 | h0; (· exact .inl h0); (· right; rw [hgk, hgp h0]; first | (simp only [decide_eq_true_eq, ltField] at *; omega) | (simp_all; done))⟩)) : G := h
theorem zh8 (h : G := by
 refine zg4 ?_
 refine ze0 ?_
 exact zrp) : G := h
theorem zh9 (h : G := by
 refine zgj ?_
 exact rb (by first | (simp_all [okQuery, okConds]; done) | (simp_all [okQuery, okConds]; rfl) | (simp_all [okQuery, okConds]; omega) | (simp_all [okQuery, okConds]; intros; omega))) : G := h
theorem zhn (h : G := by
 refine sw_ret ?_
 exact rb (by first | exact hbad0.symm | (simp [okQuery, okConds, hbad]; done) | (simp [okQuery, okFields, hn3]; done) | (simp_all [okQuery, okConds, okFields]; done) | (simp_all [okQuery, okConds, okFields]; rfl) | (simp_all [okQuery, okConds, okFields]; omega) | (simp_all [okQuery, okConds, okFields]; intros; omega))) : G := h
theorem zhd (h : G := by
 have hbad0 : okQuery x = false := by first | (simp_all [okQuery]; done) | (simp_all [okQuery]; rfl) | (simp_all [okQuery]; omega) | (simp_all [okQuery]; intros; omega)
 refine sS [1, 2] [1] ?_
 refine rK ?_
 exact zhn) : G := h
theorem zhk (h : G := by
 have hbad : adjAll ⟨0, 0, 0⟩ okCond ltField x.Conds = false := adj_no hlt (Bool.eq_false_iff.2 fun hx => by
  have hx := adjStep.1 hx
  rw [hgk] at hx
  obtain ⟨hx1, hx2⟩ := hx
  first
  | (simp_all; done)
  | (simp only [decide_eq_true_eq, ltField] at *; by_cases h0 : k = 0 <;> (try rw [hgp (by omega)] at hx2) <;> omega))
 refine sS [1, 3, 4, 24, 25, 26] [1, 4] ?_
 refine rK ?_
 exact zhn) : G := h
theorem zhl (h : G := by
 refine sw_skip ?_
 refine sG [1, 3, 4, 24, 25, 26] [1, 4] ?_
 refine zfp ?_
 exact zrp) : G := h
theorem zrq (h : G := by
 refine zgj ?_
 exact rb (by first | (simp_all [visV]; done) | (simp_all [visV]; rfl) | (simp_all [visV]; omega) | (simp_all [visV]; intros; omega))) : G := h
theorem zho (h : G := by
 refine sn 0 1 fun hl0_1 => ?_
 refine zac ?_
 refine za5 ?_
 refine zd2 ?_
 refine rM ?_
 refine rA ?_ (x := B_leq)
 refine rM ?_
 refine cx 9 (fun ga sga => ?_) (fun ga sga => ?_)
 refine rB ga ?_ (x := lF fd_151_3)
 refine rB ga ?_ (x := lD [val _] ty_3)
 refine rB ga ?_ (x := B_eql)
 refine rB ga ?_ (x := sM)
 refine cx 13 (fun gb sgb => ?_) (fun gb sgb => ?_)
 refine zt gb ?_
 refine rB ga ?_ (x := pkT gb)
 refine rA ?_ (x := pkT ga)
 exact zrq
 refine zhs ?_
 refine ziw ?_
 refine rB ga ?_ (x := pkF gb)
 refine rA ?_ (x := pkT ga)
 exact zrq
 refine zfz ?_
 exact zrq) : G := h
theorem zhq (h : G := by
 refine zgj ?_
 exact rb (by first | (simp_all [meetV]; done) | (simp_all [meetV]; rfl) | (simp_all [meetV]; omega) | (simp_all [meetV]; intros; omega))) : G := h
theorem zhr (h : G := by
 refine zgj ?_
 exact rb (by first | (simp_all [apartV]; done) | (simp_all [apartV]; omega) | (rw [Bool.eq_iff_iff]; simp_all [apartV]; done) | (rw [Bool.eq_iff_iff]; simp_all [apartV]; omega))) : G := h
theorem zhv (h : G := by
 refine zgj ?_
 exact rb (by first | (simp_all [verOk]; done) | (simp_all [verOk]; rfl) | (simp_all [verOk]; omega) | (simp_all [verOk]; intros; omega))) : G := h
theorem zi4 (h : G := by
 refine zgb ?_
 exact rb (hbad.symm)) : G := h
theorem zrr (h : G := by
 refine sS [1, 2] [1] ?_
 exact zi4) : G := h
theorem zi2 (h : G := by
 have hbad : okStore s = false := by first | (simp_all [okStore, stoPre]; done) | (simp_all [okStore, stoPre]; omega)
 exact zrr) : G := h
theorem zi0 (h : G := by
 refine zja ?_
 exact zi2) : G := h
theorem zi9 (h : G := by
 refine nx (m + 1) (by refine ⟨by omega, ?_⟩; rw [freeOf_succ, hfr, Bool.true_and]; exact hap)) : G := h
theorem zih (h : G := by
 have hvo : verOk s.Now s.Segments[k][j] = false := by first | (simp_all [verOk, rowOfV]; done) | (simp_all [verOk, rowOfV]; omega)
 have hbad := sto_no hag.1 (good_no1 (by rw [hag.2]; exact hvo))
 refine sS [1, 3, 5, 7, 23, 24, 25, 32, 33, 34] [1, 7] ?_
 exact zi4) : G := h
theorem ziq (h : G := by
 have hap : apartV ((allV s).getD ((preN s k).length + j) v0) ((allV s).getD m v0) = false := by
  rw [hag.2] at hma ⊢
  by_cases hid : s.Segments[k][j].Id = ((allV s).getD m v0).Id
  ·rw [beq_iff_eq.2 hid, Bool.true_and] at hma; simp_all
  ·simp_all
 have hbad := sto_no hag.1 (good_no2 hlt3 hap)
 refine sS [1, 3, 5, 7, 9, 23, 24, 25, 32, 33, 34, 66, 67, 68] [1, 7, 9] ?_
 exact zi4) : G := h
theorem zir (h : G := by
 have hap : apartV ((allV s).getD ((preN s k).length + j) v0) ((allV s).getD m v0) = true := by
  rw [hag.2] at hma ⊢
  by_cases hid : s.Segments[k][j].Id = ((allV s).getD m v0).Id
  ·rw [beq_iff_eq.2 hid, Bool.true_and] at hma; simp_all
  ·rw [beq_false_of_ne hid, Bool.false_and] at hma; simpa using hma.symm
 refine sw_skip ?_
 refine sG [1, 3, 5, 7, 9, 23, 24, 25, 32, 33, 34, 66, 67, 68] [1, 7, 9] ?_
 refine zfp ?_
 exact zi9) : G := h
theorem zis (h : G := by
 refine zf ge ?_
 refine rA ?_ (x := pkF ge)
 refine scF ?_
 exact zir) : G := h
theorem zit (h : G := by
 have hend3 : m = (preN s k).length + j := by omega
 refine sw_exit ?_
 refine sH [1, 3, 5, 7, 23, 24, 25, 32, 33, 34, 66, 67, 68] [1, 7] ?_
 refine rA ?_ (x := tM)
 refine rA ?_ (x := lD [val _, sl .v _, val _, val _] ty_151)
 refine rA ?_ (x := loc_bslice (qs := [(true, [val _, sl _ _, val _, val _])]) (by decide) sl_149 z_151 (by decide) rfl rfl rfl rfl rfl (by exact nl rfl) (by exact (aI (by exact ⟨⟩) tI)) rfl)
 refine znz ?_
 refine sG [1, 3, 5, 7, 23, 24, 25, 32, 33, 34, 66, 67, 68] [1, 7] ?_
 refine zfp ?_
 refine nx (j + 1) (by refine ⟨by omega, ?_⟩; rw [← Nat.add_assoc, goodTo_succ, hg, Bool.true_and]; unfold goodV; rw [hag.2, hvo, Bool.true_and, ← hend3]; rw [hend3] at hfr ⊢; exact hfr) (e := (by exact aI (by exact slc_eq (by rw [List.take_succ_eq_append_getElem hlt2]; simp only [List.map_append, List.append_assoc]; rfl)) (aI (by exact rfl) (tI))))) : G := h
theorem zix (h : G := by
 refine zgb ?_
 exact rb (by exact (okSetTo_no hlt (Bool.eq_false_iff.2 fun hx => by have hx := okStep.1 hx; rw [hgk] at hx; (try simp only [inB, Bool.and_eq_false_iff, decide_eq_false_iff_not] at *); omega)).symm)) : G := h
theorem ziv (h : G := by
 refine scT ?_
 refine sS [0, 3, 4, 5, 6, 7] [] ?_
 exact zix) : G := h
theorem zrs (h : G := by
 refine nx (k + 1) (by exact ⟨by omega, by rw [okSetTo_succ, ha, Bool.true_and]; exact okStep.2 (by rw [hgk]; (try simp only [inB, Bool.and_eq_true, decide_eq_true_eq] at *); omega)⟩)) : G := h
theorem ziy (h : G := by
 refine sw_skip ?_
 refine sG [0, 3, 4, 5, 6, 7] [] ?_
 refine zfp ?_
 exact zrs) : G := h
theorem ziz (h : G := by
 refine zgb ?_
 exact rb (by subst hend; exact ha.symm)) : G := h
theorem zj2 (h : G := by
 refine zgh ?_
 refine ze0 ?_
 exact zrs) : G := h
theorem zj7 (h : G := by
 refine sG [0, 2, 3, 4] [] ?_
 refine ze0 ?_
 refine nx (k + 1) (by omega) (e := (by exact aI (by exact slc_eq (by rw [pickL_succ]; simp [hc, cInt])) (aI (by exact rfl) (tI))))) : G := h
theorem zjc (h : G := by
 refine sw_ret ?_
 exact (aI (by refine slc_eq ?_; simp [MeetSetsF, *]) tI)) : G := h
theorem zjb (h : G := by
 refine sS [2, 3, 4] [2, 3] ?_
 refine rA ?_ (x := loc_const (.inr rfl) (by decide) (ok_nil (t := 3) (e := 1)))
 exact zjc) : G := h
theorem zjf (h : G := by
 refine sG [0, 1, 4, 5, 6] [] ?_
 refine ze0 ?_
 refine nx (k + 1) (by exact ⟨by omega, fun _ => hok2⟩) (e := (by exact aI (by exact slc_eq (by rw [tk_succ hlt, List.filter_append, List.map_append]; simp [hc, cInt])) (aI (by exact rfl) (tI))))) : G := h
theorem zjg (h : G := by
 have hfin : (k = a.length ∧ (okSet a && okSet b) = true) ∨ (k = 0 ∧ (a.length = 0 ∨ (okSet a && okSet b) = false)) := by
  by_cases h0k : 0 < k
  ·left
   have := ha h0k
   refine ⟨?_, this⟩
   rw [Bool.and_eq_true] at this
   by_cases hka : k = a.length
   ·exact hka
   ·have : k < a.length := by omega
    simp_all
  ·right
   refine ⟨by omega, ?_⟩
   by_cases hka : a.length = 0
   ·exact .inl hka
   ·right
    have : k < a.length := by omega
    cases h1 : okSet a <;> cases h2 : okSet b <;> simp_all
 refine sw_exit ?_
 refine sS [0, 1, 4, 5, 6] [] ?_
 refine zhz ?_
 exact (aI (by refine slc_eq ?_; rw [meet_end ha hfin]) tI)) : G := h
theorem zjh (h : G := by
 refine za2 ?_
 exact rb (by exact (deq_false (fun e => by subst e; simp at *)).symm)) : G := h
theorem zjl (h : G := by
 refine zgb ?_
 exact rb (by exact (deq_false (eq_no hlt hlt2 (by intro e; simp [e, deq_self] at *))).symm)) : G := h
theorem zji (h : G := by
 refine sS [0, 1, 5] [] ?_
 exact zjl) : G := h
theorem zjj (h : G := by
 refine nx (k + 1) (by exact ⟨by omega, eq_succ ha hlt hlt2 (by simp_all)⟩)) : G := h
theorem zrt (h : G := by
 refine zgb ?_
 exact rb (by simp [okQueries, hbad])) : G := h
theorem zjp (h : G := by
 have hbad : adjAll q0_ okQuery ltQ l = false := adj_no hlt (Bool.eq_false_iff.2 fun hx => by
  have hx := adjStep.1 hx
  rw [hgk] at hx
  obtain ⟨hx1, hx2⟩ := hx
  first
  | (simp_all; done)
  | (simp only [decide_eq_true_eq, ltQ] at *; by_cases h0 : k = 0 <;> (try rw [hgp (by omega)] at hx2) <;> omega))
 refine sS [0, 3] [] ?_
 exact zrt) : G := h
theorem zru (h : G := by
 refine nx (k + 1) (by exact ⟨by omega, by rw [adjTo_succ, ha, Bool.true_and]; refine adjStep.2 ⟨by rw [hgk]; first | assumption | simp_all, ?_⟩; rcases Nat.eq_zero_or_pos k with h0 | h0; (· exact .inl h0); (· right; rw [hgk, hgp h0]; first | (simp only [decide_eq_true_eq, ltQ] at *; omega) | (simp_all; done))⟩)) : G := h
theorem zjq (h : G := by
 refine zgh ?_
 refine ze0 ?_
 exact zru) : G := h
theorem zjr (h : G := by
 refine zmn ?_
 refine rA ?_ (x := B_leq)
 refine zgj ?_
 exact rb (by simp [okQueries, hall])) : G := h
theorem zjs (h : G := by
 refine zgb ?_
 exact rb (by simp [admitsV, all_no (P := (admC f v)) hlt hno])) : G := h
theorem zjt (h : G := by
 have hyes : admC f v q.Conds[k] = true := by simp_all [admC]
 refine sw_skip ?_
 refine sG [1, 2, 3, 7] [3] ?_
 exact zg5) : G := h
theorem zju (h : G := by
 refine zgb ?_
 exact rb (by simp [admitsV, hall, *])) : G := h
theorem zjz (h : G := by
 refine sG [0, 1, 2, 6, 7, 8] [] ?_
 refine ze0 ?_
 refine nx (k + 1) (by exact ⟨by omega, fun _ => hok⟩) (e := (by exact aI (by first | exact slc_eq (by rw [stabS_yes hlt hc, List.map_append]; rfl) | exact slc_eq (by rw [stabS_no hlt hc])) (aI (by exact rfl) (tI))))) : G := h
theorem zk0 (h : G := by
 have hfin : (k = l.length ∧ (okQueries l && (inB f 0 2 && inB v 0 99)) = true) ∨ (k = 0 ∧ (l.length = 0 ∨ (okQueries l && (inB f 0 2 && inB v 0 99)) = false)) := by
  by_cases h0k : 0 < k
  ·left
   have h1 := ha h0k
   refine ⟨?_, h1⟩
   by_cases hka : k = l.length
   ·exact hka
   ·exfalso
    have hlt_ : k < l.length := by omega
    have hlt2_ : (k : Int) < (l.length : Int) := by omega
    first | omega | simp_all
  ·right
   refine ⟨by omega, ?_⟩
   by_cases hka : l.length = 0
   ·exact .inl hka
   ·right
    have hlt_ : k < l.length := by omega
    have hlt2_ : (k : Int) < (l.length : Int) := by omega
    rw [← Bool.not_eq_true]; intro hc_; simp_all
 refine sw_exit ?_
 refine sS [0, 1, 2, 6, 7, 8] [] ?_
 refine zhz ?_
 exact (aI (by refine slc_eq ?_; rw [stab_end hfin]) tI)) : G := h
theorem zk4 (h : G := by
 have hok : (okQueries l && inB f 0 2) = false := by simp_all
 refine sS [0, 1, 4, 5] [] ?_
 refine zhz ?_
 exact (aI (by refine slc_eq ?_; unfold stabIdx; rw [if_neg (by rw [hok]; simp)]; rfl) tI)) : G := h
theorem zk2 (h : G := by
 refine zja ?_
 exact zk4) : G := h
theorem zkc (h : G := by
 refine ze0 ?_
 refine nx (k + 1) (by omega) (e := (by exact aI (by first | exact slc_eq (by rw [spansTo, spanNext_no hls, List.map_append, ← hse]; exact rfl) | exact slc_eq (by rw [spansTo, spanNext_yes hls])) (aI (by exact rfl) (tI))))) : G := h
theorem zkd (h : G := by
 have hls : lastIs (spansTo l f k) (stabS l f (k : Int)) = false := by
  by_cases h0 : (spansTo l f k).length = 0
  ·simp [lastIs, h0]
  ·simp_all [lastIs]
 refine sG [0, 1, 4, 5, 6, 7, 8] [] ?_
 refine rA ?_ (x := tM)
 refine zfo ?_
 refine rA ?_ (x := tM)
 refine rA ?_ (x := loc_build (qs := [(false, [val _]), (false, [val _]), (false, [sl _ _])]) (cs := [val _, val _, sl _ _]) (by decide) z_234 zo_234 FIdx_pl_234 (by exact rfl) (by exact (aI (by exact ⟨⟩) (aI (by exact ⟨⟩) (aI (by exact ⟨⟩) tI)))) rfl (by exact rfl))
 refine zrv ?_
 refine rA ?_ (x := tA)
 refine sG [0, 1, 4, 5, 6, 8] [] ?_
 exact zkc) : G := h
theorem zke (h : G := by
 have hend : k = 100 := by omega
 refine sw_exit ?_
 refine sS [0, 1, 4, 5, 6] [] ?_
 refine zhz ?_
 exact (aI (by refine slc_eq ?_; unfold stabIdx; rw [if_pos hok, hend]) tI)) : G := h
theorem zmw (h : G := by
 refine nx (k + 1) (by exact ⟨by omega, any_succ ha hlt hno⟩)) : G := h
theorem zkh (h : G := by
 refine ze0 ?_
 exact zmw) : G := h
theorem zkj (h : G := by
 refine sw_ret ?_
 exact (aI (by refine slc_eq ?_; rw [find_no ha]; exact rfl) tI)) : G := h
theorem zkk (h : G := by
 refine nx (k + 1) (by exact ⟨by omega, eq_succ ha hlt hlt2 (by rw [ext_Span_iff]; simp_all [deq_iff])⟩)) : G := h
theorem zkr (h : G := by
 refine zrw ?_
 exact (Exists.intro 2 (Exists.intro _ (aI (by exact rfl) (aI (by refine box_eq ?_; rw [build_no hok]; exact rfl) (aI ty_92 (aI (fun h => nomatch h) tI))))))) : G := h
theorem zkw (h : G := by
 refine dA 28 ?_ (x := loc_bslice (qs := [(false, [sl _ _])]) (by decide) sl_90 z_205 (by decide) rfl rfl rfl rfl rfl (by exact nl rfl) (by exact (aI (by exact ⟨⟩) tI)) rfl)
 refine dA 63 ?_ (x := loc_append (by decide) sl_90 z_205 rfl rfl (by decide) rfl (by simp only [List.length_map, List.length_append, List.length_cons, List.length_nil]; omega) (by simp only [List.length_map, List.length_append, List.length_cons, List.length_nil]; omega))
 refine dA 127 ?_ (x := lF fd_92_1)
 refine dA 255 ?_ (x := loc_store (ag := false) (vs := [sl _ _]) ty_90 (by exact ⟨⟩) (by exact rfl) (by exact nl rfl))
 refine sO [(0, _), (2, _), (3, _), (4, _)] [(2, _), (3, (92, [sl _ _, sl _ _]))] ?_
 refine zdz ?_
 refine nx (k + 1) (by omega) (e := (by exact aI (by exact int_eq (by omega)) (tI))) (f := (by exact aI (by simp only [fieldsTo_succ]; show _ = some (92, (cIndex (.own 65 4) (.own 193 3) (.own 3 1) (.own 205 1) (.own 234 3) (.own 3 1)) (Index.mk l (fieldsTo l k ++ [stabIdx l (k : Int)]))); simp only [cIndex, List.map_append]; exact rfl) (tI)))) : G := h
theorem zkx (h : G := by
 have hend : k = 3 := by omega
 refine sw_exit ?_
 refine sT [0, 2, 3, 4] [2, 3] ?_
 refine rA ?_ (x := loc_ltake (ms := [sl _ _, sl _ _]) (qs := [sl .v _, sl .v _]) (by decide) ty_92 (fun h => nomatch h) (by exact nl rfl) (by exact rfl) (by exact (ToL.cons PV.to_none (ToL.cons PV.to_none ToL.nil))) (by exact (BorL.cons (bor_sl _) (BorL.cons (bor_sl _) BorL.nil))))
 refine zrw ?_
 exact (Exists.intro 2 (Exists.intro _ (aI (by exact rfl) (aI (by refine box_eq ?_; subst hend; rw [build_yes hok]; exact rfl) (aI ty_92 (aI (fun h => nomatch h) tI))))))) : G := h
theorem zl1 (h : G := by
 have hbad : okIndex x = false := by first | (simp_all [okIndex]; done) | (simp_all [okIndex]; omega)
 exact zrr) : G := h
theorem zl0 (h : G := by
 refine zja ?_
 exact zl1) : G := h
theorem zl3 (h : G := by
 refine nx (k + 1) (by exact ⟨by omega, by rw [idxTo_succ, ha, hd]; rfl⟩)) : G := h
theorem zl4 (h : G := by
 refine zgb ?_
 exact rb (by unfold okIndex; rw [hpr, ha]; rfl)) : G := h
theorem zl6 (h : G := by
 have hno : (inB (o.getD k 0) 0 2 && !hasI (o.take k) (o.getD k 0)) = false := by rw [← hgk]; simp_all
 refine sS [0, 3] [] ?_
 refine zgb ?_
 exact rb ((ord_no hl3 (by omega) hno).symm)) : G := h
theorem zmy (h : G := by
 refine rA ?_ (x := tM)
 refine rM ?_
 refine rA ?_ (x := tA)
 refine zgj ?_
 exact (aI (by refine slc_eq ?_; rw [hpe]) (aI (by refine int_eq ?_; rw [hpe]) tI))) : G := h
theorem zl8 (h : G := by
 have hfin : k = o.length ∨ (probeTo x r o k).1 = [] := by
  by_cases hka : k = o.length
  ·exact .inl hka
  ·right
   have hlt_ : k < o.length := by omega
   have hlt2_ : (k : Int) < (o.length : Int) := by omega
   first | omega | (rw [← List.length_eq_zero_iff]; first | omega | (simp_all; done))
 have hpe := probe_end (x := x) (r := r) hfin
 refine sw_exit ?_
 refine sT [2, 3, 4, 6, 7, 8, 9, 10] [3, 4] ?_
 exact zmy) : G := h
theorem zld (h : G := by
 have hbad : okCharge x = false := by first | (simp_all [okCharge, chgPre, inB]; done) | (simp_all [okCharge, chgPre, inB]; rfl) | (simp_all [okCharge, chgPre, inB]; omega) | (simp_all [okCharge, chgPre, inB]; intros; omega)
 refine sS [1, 2, 3] [1] ?_
 exact zi4) : G := h
theorem zla (h : G := by
 refine scT ?_
 exact zld) : G := h
theorem zrx (h : G := by
 refine zgb ?_
 exact rb ((chg_no hlt hno).symm)) : G := h
theorem zlg (h : G := by
 have hno : chgAt x k = false := by simp_all [chgAt]
 refine sS [1, 3, 4, 33, 34] [1] ?_
 exact zrx) : G := h
theorem zlh (h : G := by
 refine nx (k + 1) (by exact ⟨by omega, by rw [chgTo_succ, ha, hyes]; rfl⟩)) : G := h
theorem zli (h : G := by
 refine zgj ?_
 exact rb (by simp_all [okCharge])) : G := h
theorem zlm (h : G := by
 have hno : chgAt x k = false := by simp_all [chgAt]
 refine sS [1, 3, 4] [1] ?_
 exact zrx) : G := h
theorem zlo (h : G := by
 have hbad : adjAll 0 (todoP s.Segments.length) ltI_ a.Todo = false := adj_no hlt (Bool.eq_false_iff.2 fun hx => by
  have hx := adjStep.1 hx
  rw [hgk] at hx
  obtain ⟨hx1, hx2⟩ := hx
  first
  | (simp_all; done)
  | (simp only [decide_eq_true_eq, ltI_, todoP, inB, Bool.and_eq_true, Bool.and_eq_false_iff, decide_eq_false_iff_not] at *; by_cases h0 : k = 0 <;> (try rw [hgp (by omega)] at hx2) <;> omega))
 refine sS [2, 3, 5, 6, 8, 9, 10] [2, 3] ?_
 refine zgb ?_
 exact rb (by simp [okActive, okTodo, hbad])) : G := h
theorem zry (h : G := by
 refine nx (k + 1) (by exact ⟨by omega, by rw [adjTo_succ, ha, Bool.true_and]; refine adjStep.2 ⟨by rw [hgk]; first | assumption | simp_all, ?_⟩; rcases Nat.eq_zero_or_pos k with h0 | h0; (· exact .inl h0); (· right; rw [hgk, hgp h0]; first | (simp only [decide_eq_true_eq, ltI_, todoP, inB, Bool.and_eq_true, Bool.and_eq_false_iff, decide_eq_false_iff_not] at *; omega) | (simp_all; done))⟩)) : G := h
theorem zlp (h : G := by
 refine sw_skip ?_
 refine sG [2, 3, 5, 6, 8, 9, 10] [2, 3] ?_
 refine zfp ?_
 exact zry) : G := h
theorem zlr (h : G := by
 refine zgj ?_
 exact rb (by first | (simp_all [okActive, okTodo]; done) | (simp_all [okActive, okTodo]; rfl) | (simp_all [okActive, okTodo]; omega) | (simp_all [okActive, okTodo]; intros; omega))) : G := h
theorem zls (h : G := by
 have hbad : adjAll 0 (todoP n) ltI_ l = false := adj_no hlt (Bool.eq_false_iff.2 fun hx => by
  have hx := adjStep.1 hx
  rw [hgk] at hx
  obtain ⟨hx1, hx2⟩ := hx
  first
  | (simp_all; done)
  | (simp only [decide_eq_true_eq, ltI_, todoP, inB, Bool.and_eq_true, Bool.and_eq_false_iff, decide_eq_false_iff_not] at *; by_cases h0 : k = 0 <;> (try rw [hgp (by omega)] at hx2) <;> omega))
 refine zai ?_
 exact rb (by simp [okTodo, hbad])) : G := h
theorem zlt (h : G := by
 refine zaj ?_
 exact zry) : G := h
theorem zlw (h : G := by
 refine zgj ?_
 exact rb (by first | (simp_all [okActive]; done) | (simp_all [okActive]; rfl) | (simp_all [okActive]; omega) | (simp_all [okActive]; intros; omega))) : G := h
theorem zly (h : G := by
 have hpr : engPre e = false := by first | (simp_all [engPre]; done) | (simp_all [engPre]; omega) | (rw [← Bool.not_eq_true]; intro hc_; simp [engPre] at hc_; simp_all; done) | (rw [← Bool.not_eq_true]; intro hc_; simp [engPre] at hc_; omega)
 have hbad := eng_no1 hpr
 exact zrr) : G := h
theorem zlx (h : G := by
 refine scT ?_
 exact zly) : G := h
theorem zlz (h : G := by
 have hpr : engPre e = false := by unfold engPre; rw [hp1]; first | (simp_all; done) | (simp_all; omega)
 have hbad := eng_no1 hpr
 exact zrr) : G := h
theorem zmc (h : G := by
 refine zgb ?_
 exact rb (hbad2.symm)) : G := h
theorem zm4 (h : G := by
 have hbad : adjAll a0_ (okActive e.Store) ltA e.Active = false := adj_no hlt (Bool.eq_false_iff.2 fun hx => by
  have hx := adjStep.1 hx
  rw [hgk] at hx
  obtain ⟨hx1, hx2⟩ := hx
  first
  | (simp_all; done)
  | (simp only [decide_eq_true_eq, ltA] at *; by_cases h0 : k = 0 <;> (try rw [hgp (by omega)] at hx2) <;> omega))
 have hbad2 := eng_no2 hbad
 refine sS [1, 3, 4, 53, 54, 55] [1, 4] ?_
 exact zmc) : G := h
theorem zrz (h : G := by
 refine nx (k + 1) (by exact ⟨by omega, by rw [adjTo_succ, ha, Bool.true_and]; refine adjStep.2 ⟨by rw [hgk]; first | assumption | simp_all, ?_⟩; rcases Nat.eq_zero_or_pos k with h0 | h0; (· exact .inl h0); (· right; rw [hgk, hgp h0]; first | (simp only [decide_eq_true_eq, ltA] at *; omega) | (simp_all; done))⟩)) : G := h
theorem zm5 (h : G := by
 refine sw_skip ?_
 refine sG [1, 3, 4, 53, 54, 55] [1, 4] ?_
 refine zfp ?_
 exact zrz) : G := h
theorem zm9 (h : G := by
 have hno : (okFin e.Store.Now) e.Done[k] = false := by first | (simp_all [okFin]; done) | (simp_all [okFin]; omega)
 have hbad2 := eng_no3 (all_no hlt hno)
 refine sS [1, 6, 53, 54, 55, 85, 86, 87] [1, 6] ?_
 exact zmc) : G := h
theorem zmd (h : G := by
 refine zgb ?_
 exact rb ((eng_yes hpr hall hfa hla).symm)) : G := h
theorem zmh (h : G := by
 have hbad : adjAll a0_ (okActive e.Store) ltA e.Active = false := adj_no hlt (Bool.eq_false_iff.2 fun hx => by
  have hx := adjStep.1 hx
  rw [hgk] at hx
  obtain ⟨hx1, hx2⟩ := hx
  first
  | (simp_all; done)
  | (simp only [decide_eq_true_eq, ltA] at *; by_cases h0 : k = 0 <;> (try rw [hgp (by omega)] at hx2) <;> omega))
 have hbad2 := eng_no2 hbad
 refine sS [1, 3] [1] ?_
 exact zmc) : G := h
theorem zmi (h : G := by
 refine zg4 ?_
 refine ze0 ?_
 exact zrz) : G := h
theorem zmj (h : G := by
 have hno : (okFin e.Store.Now) e.Done[k] = false := by first | (simp_all [okFin]; done) | (simp_all [okFin]; omega)
 have hbad2 := eng_no3 (all_no hlt hno)
 refine sS [1, 3, 4, 5] [1, 5] ?_
 exact zmc) : G := h
theorem zmk (h : G := by
 have hbad : adjAll q0_ okQuery ltQ l = false := adj_no hlt (Bool.eq_false_iff.2 fun hx => by
  have hx := adjStep.1 hx
  rw [hgk] at hx
  obtain ⟨hx1, hx2⟩ := hx
  first
  | (simp_all; done)
  | (simp only [decide_eq_true_eq, ltQ] at *; by_cases h0 : k = 0 <;> (try rw [hgp (by omega)] at hx2) <;> omega))
 refine sS [0, 3, 4, 5, 6, 7] [4] ?_
 exact zrt) : G := h
theorem zml (h : G := by
 refine sw_skip ?_
 refine sG [0, 3, 4, 5, 6, 7] [4] ?_
 refine zfp ?_
 exact zru) : G := h
theorem zmm (h : G := by
 have hyes : admC f v q.Conds[k] = true := by simp_all [admC]
 refine sw_skip ?_
 refine sG [1, 2, 3, 8, 10, 11, 12] [3, 8] ?_
 exact zfw) : G := h
theorem zmp (h : G := by
 refine sG [0, 1, 2, 6, 7, 9, 11, 12, 13] [9] ?_
 refine zfp ?_
 refine nx (k + 1) (by omega) (e := (by exact aI (by first | exact slc_eq (by rw [stabS_yes hlt hc, List.map_append]; rfl) | exact slc_eq (by rw [stabS_no hlt hc])) (aI (by exact rfl) (tI))))) : G := h
theorem zmr (h : G := by
 refine ze0 ?_
 refine nx (k + 1) (by omega) (e := (by exact aI (by first | exact slc_eq (by rw [spansTo, spanNext_no hls, List.map_append]; exact rfl) | exact slc_eq (by rw [spansTo, spanNext_yes hls])) (aI (by exact rfl) (tI))))) : G := h
theorem zms (h : G := by
 have hls : lastIs (spansTo l f k) (stabS l f (k : Int)) = false := by
  by_cases h0 : (spansTo l f k).length = 0
  ·simp [lastIs, h0]
  ·simp_all [lastIs]
 refine sG [0, 1, 4, 5, 6, 7, 8] [] ?_
 refine rA ?_ (x := tM)
 refine zfo ?_
 refine rA ?_ (x := tM)
 refine rA ?_ (x := loc_build (qs := [(false, [val _]), (false, [val _]), (false, [sl _ _])]) (cs := [val _, val _, sl _ _]) (by decide) z_234 zo_234 FIdi_pl_234 (by exact rfl) (by exact (aI (by exact ⟨⟩) (aI (by exact ⟨⟩) (aI (by exact ⟨⟩) tI)))) rfl (by exact rfl))
 refine zrv ?_
 refine rA ?_ (x := tA)
 refine sG [0, 1, 4, 5, 6, 8] [] ?_
 exact zmr) : G := h
theorem zmx (h : G := by
 refine scT ?_
 refine sS [0, 1, 5, 6, 12, 13, 14] [6] ?_
 exact zjl) : G := h
theorem zn9 (h : G := by
 refine zc5 ?_
 refine sw_ret ?_
 exact (Exists.intro 2 (Exists.intro _ (aI (by exact rfl) (aI (by refine box_eq ?_; rw [hend, List.take_length]; exact rfl) (aI ty_35 (aI (fun h => nomatch h) tI))))))) : G := h
theorem zs0 (h : G := by
 refine nx (k + 1) (by omega) (f := (by exact aI (by rw [tk_succ hlt]; simp only [List.map_append]; exact rfl) (tI)))) : G := h
theorem zna (h : G := by
 refine zdz ?_
 exact zs0) : G := h
theorem znc (h : G := by
 refine sw_reg ?_
 refine zfp ?_
 exact zs0) : G := h
theorem zne (h : G := by
 refine zqn ?_
 refine sw_ret ?_
 exact (Exists.intro 2 (Exists.intro _ (aI (by exact rfl) (aI (by refine box_eq ?_; rw [hend2, List.take_length]; exact rfl) (aI ty_40 (aI (fun h => nomatch h) tI))))))) : G := h
theorem zo0 (h : G := by
 refine sG [1, 2, 4, 5, 6, 7, 8, 9, 11, 19, 20, 21, 27, 28, 29, 2900, 6000] [2, 4, 6, 11, 900] ?_
 refine zfp ?_
 refine nx (j + 1) (by omega) (e := (by exact aI (by first | exact slc_eq (by rw [filtZ_yes hlj (by rw [hz3]; exact hnd), List.map_append]; exact rfl) | exact slc_eq (by rw [filtZ_no hlj (by rw [hz3]; exact hnd)])) (aI (by exact int_eq (by omega)) (tI))))) : G := h
theorem zo5 (h : G := by
 refine dA 511 ?_ (x := sA)
 refine zo7 ?_
 refine nx (m + 1) (by omega) (e := (by exact aI (by exact bool_eq (by rw [needTo_succ hlm, hg]; rfl)) (aI (by exact int_eq (by omega)) (tI))))) : G := h
theorem zo6 (h : G := by
 refine zo7 ?_
 refine nx (j + 1) (by omega) (e := (by exact aI (by first | exact int_eq (by rw [cntD_yes hls hlj2 hnd]) | exact int_eq (by rw [cntD_no hls hlj2 hnd]; omega)) (aI (by first | exact slc_eq (by rw [filtZ_yes hlj (by rw [hz3]; exact hnd), List.map_append]; exact rfl) | exact slc_eq (by rw [filtZ_no hlj (by rw [hz3]; exact hnd)])) (aI (by exact int_eq (by omega)) (tI)))))) : G := h
theorem zs1 (h : G := by
 refine nx (k + 1) (by omega) (e := (by exact aI (by first | exact slc_eq (by rw [wthout_yes hlt hne, List.map_append]; rfl) | exact slc_eq (by rw [wthout_no hlt hne])) (aI (by exact rfl) (tI))))) : G := h
theorem zo8 (h : G := by
 refine sG [0, 1, 4, 5, 7, 9, 10, 11] [] ?_
 refine zfp ?_
 exact zs1) : G := h
theorem zo9 (h : G := by
 refine sG [0, 1, 4, 5, 6] [] ?_
 refine ze0 ?_
 exact zs1) : G := h
theorem zoa (h : G := by
 refine sG [1, 2, 3, 6, 7, 9, 15, 16, 17] [3, 9] ?_
 refine zfp ?_
 refine nx (k + 1) (by omega) (e := (by exact aI (by first | exact slc_eq (by rw [visL_yes hlt hv, List.map_append]; rfl) | exact slc_eq (by rw [visL_no hlt hv])) (aI (by exact rfl) (tI))))) : G := h
theorem zob (h : G := by
 refine nx (k + 1) (by omega) (e := (by exact aI (by exact slc_eq (by rw [hts, List.map_append]; rfl)) (aI (by exact rfl) (tI))))) : G := h
theorem zof (h : G := by
 refine zgj ?_
 exact rb (by first | (simp_all [awake]; done) | (simp_all [awake]; rfl) | (simp_all [awake]; omega) | (simp_all [awake]; intros; omega))) : G := h
theorem zoh (h : G := by
 have hbad : isAwakeAt e i = false := by first | (simp_all [isAwakeAt]; done) | (simp_all [isAwakeAt]; omega)
 refine sS [1, 2, 4] [2] ?_
 exact zi4) : G := h
theorem zoi (h : G := by
 refine zgj ?_
 exact rb (by unfold isAwakeAt; rw [hok.1, hok.2, ← hgd]; first | (simp_all [awake]; done) | (simp_all [awake]; omega))) : G := h
theorem zok (h : G := by
 refine sG [1, 2, 3, 4] [1] ?_
 refine ze0 ?_
 refine nx (k + 1) (by exact ⟨by omega, fun _ => hok⟩) (e := (by exact aI (by first | exact slc_eq (by rw [partsOf_yes hlt hc, List.map_append]; rfl) | exact slc_eq (by rw [partsOf_no hlt hc])) (aI (by exact rfl) (tI))))) : G := h
theorem zol (h : G := by
 have hc : partP e e.Active[k] = false := by simp_all [partP]
 refine sw_skip ?_
 exact zok) : G := h
theorem zom (h : G := by
 have hfin : (k = e.Active.length ∧ okEngine e = true) ∨ (k = 0 ∧ (e.Active.length = 0 ∨ okEngine e = false)) := by
  by_cases h0k : 0 < k
  ·left
   have h1 := ha h0k
   refine ⟨?_, h1⟩
   by_cases hka : k = e.Active.length
   ·exact hka
   ·exfalso
    have hlt_ : k < e.Active.length := by omega
    have hlt2_ : (k : Int) < (e.Active.length : Int) := by omega
    first | omega | simp_all
  ·right
   refine ⟨by omega, ?_⟩
   by_cases hka : e.Active.length = 0
   ·exact .inl hka
   ·right
    have hlt_ : k < e.Active.length := by omega
    have hlt2_ : (k : Int) < (e.Active.length : Int) := by omega
    rw [← Bool.not_eq_true]; intro hc_; simp_all
 refine sw_exit ?_
 refine sT [1, 2, 3, 4] [1] ?_
 refine zhz ?_
 exact (aI (by refine slc_eq ?_; rw [parts_end hfin]) tI)) : G := h
theorem zoo (h : G := by
 refine sG [1, 2, 3, 5, 12, 13, 14] [1, 5] ?_
 refine zfp ?_
 refine nx (k + 1) (by omega) (e := (by exact aI (by first | exact slc_eq (by rw [partsOf_yes hlt hc, List.map_append]; rfl) | exact slc_eq (by rw [partsOf_no hlt hc])) (aI (by exact rfl) (tI))))) : G := h
theorem zop (h : G := by
 have hc : partP e e.Active[k] = false := by simp_all [partP]
 refine sw_skip ?_
 exact zoo) : G := h
theorem zoq (h : G := by
 refine za3 ?_
 exact (aI (by refine int_eq ?_; rw [findA_yes hlt ha hy]) tI)) : G := h
theorem zor (h : G := by
 refine zgb ?_
 exact (aI (by refine int_eq ?_; rw [findA_no ha]) tI)) : G := h
theorem zou (h : G := by
 refine nx (k + 1) (by omega) (e := (by exact aI (by exact slc_eq (by unfold partQ; rw [map_take_succ hlt, List.map_append]; rfl)) (aI (by exact rfl) (tI))))) : G := h
theorem zow (h : G := by
 refine nx (k + 1) (by omega) (e := (by exact aI (by exact slc_eq (by rw [map_take_succ hlt, List.map_append]; rfl)) (aI (by exact rfl) (tI))))) : G := h
theorem zox (h : G := by
 refine rA ?_ (x := tM)
 refine rA ?_ (x := loc_store (ag := true) (vs := [sl _ _, sl _ _]) ty_92 (by exact ⟨⟩) (by exact rfl) (by exact nl rfl))
 refine rA ?_ (x := tA)
 refine sw_ret ?_
 exact (Exists.intro 2 (Exists.intro _ (aI (by exact rfl) (aI (by exact rfl) (aI ty_92 (aI (fun h => nomatch h) (aI (by exact rfl) tI)))))))) : G := h
theorem zoz (h : G := by
 refine ze0 ?_
 exact zou) : G := h
theorem zp2 (h : G := by
 have hbad : (okIndex x && okOrder o) = false := by first | (simp_all; done)
 refine sS [1, 2, 3, 6, 7] [3] ?_
 refine za3 ?_
 exact (aI (by refine int_eq ?_; unfold workOf; rw [if_neg (by rw [hbad]; simp)]) tI)) : G := h
theorem zp4 (h : G := by
 refine zfp ?_
 refine nx (k + 1) (by omega) (e := (by exact aI (by exact int_eq (by rw [workTo_succ hlt, hwo]; try omega)) (aI (by exact rfl) (tI))))) : G := h
theorem zp9 (h : G := by
 refine ze0 ?_
 refine nx (k + 1) (by exact ⟨by omega, fun _ => hxo⟩) (e := (by exact aI (by exact int_eq (by rw [workTo_succ hlt, hwo]; try omega)) (aI (by exact rfl) (tI))))) : G := h
theorem zpa (h : G := by
 have hfin : (k = l.length ∧ (okIndex x && okOrder o) = true) ∨ (k = 0 ∧ (l.length = 0 ∨ (okIndex x && okOrder o) = false)) := by
  by_cases h0k : 0 < k
  ·left
   have h1 := ha h0k
   refine ⟨?_, h1⟩
   by_cases hka : k = l.length
   ·exact hka
   ·exfalso
    have hlt_ : k < l.length := by omega
    have hlt2_ : (k : Int) < (l.length : Int) := by omega
    first | omega | simp_all
  ·right
   refine ⟨by omega, ?_⟩
   by_cases hka : l.length = 0
   ·exact .inl hka
   ·right
    have hlt_ : k < l.length := by omega
    have hlt2_ : (k : Int) < (l.length : Int) := by omega
    rw [← Bool.not_eq_true]; intro hc_; simp_all
 refine sw_exit ?_
 refine sT [1, 2, 3, 6, 7, 8] [3] ?_
 refine za3 ?_
 exact (aI (by refine int_eq ?_; rw [work_end hfin]) tI)) : G := h
theorem zpb (h : G := by
 have hbad : matchRow q r = false := by simp_all [matchRow]
 refine sS [2, 3, 4] [2, 3] ?_
 exact zi4) : G := h
theorem zpk (h : G := by
 have hno : stepOk e = false := by first | (simp_all [stepOk]; done) | (simp_all [stepOk]; omega) | (rw [← Bool.not_eq_true]; intro hc_; obtain ⟨h1_, h2_, h3_, h4_⟩ := stepOk_f hc_; first | omega | (simp_all; done) | (simp_all; omega))
 refine sS [1, 2, 3, 4] [1, 2, 4] ?_
 refine zqn ?_
 refine zgb ?_
 exact (Exists.intro 2 (Exists.intro _ (aI (by exact rfl) (aI (by refine box_eq ?_; rw [step_no hno]; exact rfl) (aI ty_40 (aI (fun h => nomatch h) (aI (by refine bool_eq ?_; rw [hno]) tI)))))))) : G := h
theorem zph (h : G := by
 refine ziu ?_
 refine scT ?_
 exact zpk) : G := h
theorem zpi (h : G := by
 refine zlc ?_
 refine scT ?_
 exact zpk) : G := h
theorem zpj (h : G := by
 refine zht ?_
 refine scT ?_
 exact zpk) : G := h
theorem zpo (h : G := by
 refine sG [1, 2, 3, 4, 5, 6, 8, 9, 10, 11, 13, 57, 58, 59, 77, 78, 79, 2900, 6100] [1, 2, 4, 6, 10, 13, 900] ?_
 refine zfp ?_
 refine nx (j + 1) (by omega) (e := (by exact aI (by first | exact int_eq (by rw [gotTo_yes hjv hm, List.length_append]; simp only [List.length_cons, List.length_nil]; omega) | exact int_eq (by rw [gotTo_no hjv hm])) (aI (by exact int_eq (by omega)) (aI (by exact rfl) (tI))))) (f := (by exact aI (by first | (rw [gotTo_yes hjv hm, ← hz3]; simp only [List.map_append, List.append_assoc]; exact rfl) | (rw [gotTo_no hjv hm]; exact rfl)) (tI)))) : G := h
theorem zs2 (h : G := by
 refine nx (m + 1) (by omega) (e := (by exact aI (by first | exact slc_eq (by rw [rest_yes hm1 hep, hga, List.map_append]; exact rfl) | exact slc_eq (by rw [rest_no hm1 hep])) (aI (by exact int_eq (by omega)) (aI (by exact rfl) (tI))))) (f := (by exact aI (by first | (rw [done_yes hm1 hep, hga]; simp only [List.map_append, List.append_assoc]; exact rfl) | (rw [done_no hm1 hep]; exact rfl)) (tI)))) : G := h
theorem zs3 (h : G := by
 refine sw_reg ?_
 refine zfp ?_
 exact zs2) : G := h
theorem zs4 (h : G := by
 refine zln ?_
 refine rA ?_ (x := B_eql)
 refine sc (fun hbf => ?_) (fun hbf => ?_)
 have hep : endP (agedL e (parts e).length)[m] = true := by rw [hga]; simpa [endP] using hbf
 refine sG [1, 2, 3, 4, 5, 6, 14, 16, 57, 58, 59, 145, 146, 147, 6200] [1, 2, 4, 6, 16] ?_
 refine znj ?_
 refine rA ?_ (x := lF fd_142_0)
 refine rA ?_ (x := loc_ltake (ms := [val _, val _, sl _ _, sl _ _]) (qs := [val _, val _, sl .v _, sl .v _]) (by decide) ty_65 (fun h => nomatch h) (by exact nl rfl) (by exact rfl) (by exact (ToL.cons (PV.To.refl _) (ToL.cons (PV.To.refl _) (ToL.cons PV.to_none (ToL.cons PV.to_none ToL.nil))))) (by exact lq))
 refine zde ?_
 refine zdg ?_
 refine zpn ?_
 refine rA ?_ (x := loc_build (qs := [(true, [val _, val _, sl _ _, sl _ _]), (false, [val _]), (false, [val _]), (false, [sl _ _])]) (cs := [val _, val _, sl _ _, sl _ _, val _, val _, sl _ _]) (by decide) z_144 zo_144 FStb_pl_144 (by exact rfl) (by exact (aI (by exact ⟨⟩) (aI (by exact ⟨⟩) (aI (by exact ⟨⟩) (aI (by exact ⟨⟩) tI))))) rfl (by exact rfl))
 refine znk ?_
 refine zca ?_
 refine sO [(1, _), (2, _), (3, _), (4, _), (5, _), (6, _), (14, _), (16, _), (57, _), (58, _), (59, _), (145, _), (146, _), (147, _), (6200, _)] [(1, _), (2, _), (4, (40, [sl _ _, val _, val _, sl _ _, sl _ _, sl _ _, sl _ _, val _])), (6, _), (16, (142, [val _, val _, sl _ _, sl _ _, val _, sl _ _, val _, val _, val _, sl _ _]))] ?_
 exact zs3
 have hep : endP (agedL e (parts e).length)[m] = false := by rw [hga]; simpa [endP] using hbf
 refine sG [1, 2, 3, 4, 5, 6, 14, 16, 57, 58, 59, 145, 146, 147, 6200] [1, 2, 4, 6, 16] ?_
 refine rA ?_ (x := tM)
 refine znh ?_
 refine rA ?_ (x := tA)
 refine sO [(1, _), (2, _), (3, _), (4, _), (5, _), (6, _), (14, _), (16, _), (57, _), (58, _), (59, _), (145, _), (146, _), (147, _), (6200, _)] [(1, _), (2, _), (4, _), (6, _), (16, (142, [val _, val _, sl _ _, sl _ _, val _, sl _ _, val _, val _, val _, sl _ _]))] ?_
 exact zs3) : G := h
theorem zpx (h : G := by
 refine sw_reg ?_
 refine zq9 ?_
 refine zqa ?_
 refine sO [(1, _), (2, _), (3, _), (4, _), (5, _), (6, _), (14, _), (16, _), (57, _), (58, _), (59, _), (145, _), (146, _), (147, _), (6200, _)] [(1, _), (2, _), (4, _), (6, _), (16, (142, [nv _ (val _), nv _ (val _), nv _ (sl _ _), nv _ (sl _ _), nv _ (val _), nv _ (sl _ _), nv _ (val _), nv _ (val _), nv _ (val _), nv _ (sl _ _)]))] ?_
 refine sw_takeB (d := 16) (G := 6200) (e := 10) (f := (cActive (.own 193 3) (.own 3 1) (.own 3 1) (.own 66 2) (.own 3 1))) (z := za[m]) (zs := (za.drop (m + 1))) (by exact rfl) (by exact (Nm.nv (Nm.nv (Nm.nv (Nm.nv (Nm.nv (Nm.nv (Nm.nv (Nm.nv (Nm.nv (Nm.nv Nm.nil))))))))))) (fun _ => rfl) (by rw [← List.drop_eq_getElem_cons hltz]; exact rfl) ?_
 refine zs5 ?_
 refine sw_reg ?_
 refine zdg ?_
 refine rA ?_ (x := B_add)
 refine zbv ?_
 refine zs5 ?_
 refine sw_reg ?_
 refine zdg ?_
 refine rA ?_ (x := lF fd_40_0)
 refine zo3 ?_
 refine rA ?_ (x := lN sl_33)
 refine zqd ?_
 refine sc (fun hbe => ?_) (fun hbe => ?_)
 have hga : (agedL e (parts e).length)[m] = (⟨za[m].1.Query, za[m].1.Time, za[m].1.Todo, za[m].1.Age + 1, 0, za[m].1.Cap, za[m].1.Rows⟩ : Active) := by rw [agedL_get hm1 hm2, ← hz3]; exact aged_yes hbe
 refine sG [1, 2, 3, 4, 5, 6, 14, 16, 57, 58, 59, 145, 146, 147, 6200] [1, 2, 4, 6, 16] ?_
 refine zqe ?_
 refine zs5 ?_
 refine sw_reg ?_
 exact zs4
 have hga : (agedL e (parts e).length)[m] = (⟨za[m].1.Query, za[m].1.Time, za[m].1.Todo, za[m].1.Age + 1, za[m].1.Sent, za[m].1.Cap, za[m].1.Rows⟩ : Active) := by rw [agedL_get hm1 hm2, ← hz3]; exact aged_no hbe
 refine sw_skip ?_
 refine sS [1, 2, 3, 4, 5, 6, 14, 16, 57, 58, 59, 145, 146, 147, 6200] [1, 2, 4, 6, 16] ?_
 exact zs4) : G := h
theorem zqo (h : G := by
 refine sw_ret ?_
 exact (Exists.intro 2 (Exists.intro _ (aI (by exact rfl) (aI (by refine box_eq ?_; rw [step_yes hok]; exact rfl) (aI ty_40 (aI (fun h => nomatch h) (aI (by refine bool_eq ?_; rw [hok]) tI)))))))) : G := h
theorem zpy (h : G := by
 refine sw_reg ?_
 refine rA ?_ (x := tM)
 refine zc9 ?_
 refine sw_seq ?_
 refine zs6 ?_
 refine zdn ?_
 refine rA ?_ (x := B_add)
 refine rA ?_ (x := lF fd_40_0)
 refine zo3 ?_
 refine rA ?_ (x := lN sl_33)
 refine rA ?_ (x := loc_rem (by decide) (by exact ⟨⟩) (by exact ⟨⟩) (by omega))
 refine rA ?_ (x := lF fd_40_1)
 refine zba ?_
 refine zs6 ?_
 refine zdr ?_
 refine rA ?_ (x := B_add)
 refine rA ?_ (x := lF fd_40_6)
 refine zba ?_
 refine sO [(1, _), (2, _), (3, _), (4, _), (5, _), (6, _), (57, _), (58, _), (59, _), (146, _), (147, _)] [(1, _), (2, _), (4, (40, [sl _ _, val _, val _, sl _ _, sl _ _, sl _ _, sl _ _, val _])), (6, _)] ?_
 refine sw_regL ?_
 refine wA ?_ (x := loc_ltake (ms := [sl _ _, val _, val _, sl _ _, sl _ _, sl _ _, sl _ _, val _]) (qs := [any, val _, val _, any, any, any, any, val _]) (by decide) ty_40 (fun h => nomatch h) (by exact nl rfl) (by exact rfl) (by exact (ToL.cons PV.to_any (ToL.cons (PV.To.refl _) (ToL.cons (PV.To.refl _) (ToL.cons PV.to_any (ToL.cons PV.to_any (ToL.cons PV.to_any (ToL.cons PV.to_any (ToL.cons (PV.To.refl _) ToL.nil))))))))) (by exact lq))
 refine wO [(1, _), (2, _), (3, _), (4, _), (5, _), (6, _), (57, _), (58, _), (59, _), (146, _), (147, _), (202, _)] [(1, _), (2, _), (4, (40, [any, val _, val _, any, any, any, any, val _])), (6, _)] ?_
 refine swl_ocall (L := (Lw w0.heap.size)) (qs := [(true, [sl _ _, val _, val _, sl _ _, sl _ _, sl _ _, sl _ _, val _])]) (as_ := [(true, [sl _ _, val _, val _, sl _ _, sl _ _, sl _ _, sl _ _, val _])]) (by decide) c_150 (by exact ⟨rfl, ⟨⟩⟩) (by exact (aI (by exact ⟨⟩) tI)) (by decide) (by exact lq) (by exact (impl_reclaimed (e := stepE e) (by omega))) (fun x hx => hx) (by exact lq) (by exact lq) ?_
 refine wA ?_ (x := loc_store (ag := true) (vs := [sl _ _, val _, val _, sl _ _, sl _ _, sl _ _, sl _ _, val _]) ty_40 (by exact ⟨⟩) (by exact rfl) (by exact nl rfl))
 refine wA ?_ (x := kA)
 refine swl_nil ?_
 exact zqo) : G := h
theorem zq7 (h : G := by
 refine sG [0, 1, 5, 6, 7, 8, 9, 10, 11, 12, 13, 14, 15, 2900, 5000] [0, 6, 8, 13, 900] ?_
 refine ze0 ?_
 refine nx (j + 1) (by omega) (e := (by exact aI (by first | exact int_eq (by rw [gotV_yes hj2 hvv hmm, List.length_append]; simp only [List.length_cons, List.length_nil]; omega) | exact int_eq (by rw [gotV_no hj2 (.inl hvv)]) | exact int_eq (by rw [gotV_no hj2 (.inr hmm)])) (aI (by exact int_eq (by omega)) (tI)))) (f := (by exact aI (by first | (rw [gotV_yes hj2 hvv hmm, ← hz4]; simp only [List.map_append, List.append_assoc]; exact rfl) | (rw [gotV_no hj2 (.inl hvv)]; exact rfl) | (rw [gotV_no hj2 (.inr hmm)]; exact rfl)) (tI)))) : G := h
theorem zs7 (h : G := by
 refine ze0 ?_
 exact zs2) : G := h
theorem zqf (h : G := by
 refine zln ?_
 refine rA ?_ (x := B_eql)
 refine sc (fun hbd => ?_) (fun hbd => ?_)
 have hep : endP (agedL e (parts e).length)[m] = true := by rw [hga]; simpa [endP] using hbd
 refine sP [0, 3, 4, 5, 6, 5000, 6200] [0, 6] ?_
 refine sw_lendN (d := 6) (G := 6300) (by exact rfl) (by exact rfl) (ToL.cons (PV.To.refl _) (ToL.cons (PV.To.refl _) (ToL.cons PV.to_none (ToL.cons PV.to_none (ToL.cons (PV.To.refl _) (ToL.cons PV.to_none (ToL.cons (PV.To.refl _) (ToL.cons (PV.To.refl _) (ToL.cons (PV.To.refl _) (ToL.cons PV.to_none ToL.nil)))))))))) (by exact lq) fun us hRN => ?_
 obtain ⟨_, _, hRN⟩ := hRN
 obtain ⟨uA_0, uA_1, uA_2, uA_3, uA_4, uA_5, uA_6, uA_7, uA_8, uA_9, rfl⟩ := us_10 hRN.len
 clear hRN
 refine sO [(0, _), (3, _), (4, _), (5, _), (6, _), (5000, _), (6200, _), (6300, _)] [(0, _), (6, (142, [nv _ (val _), nv _ (val _), nv _ (sl _ _), nv _ (sl _ _), nv _ (val _), nv _ (sl _ _), nv _ (val _), nv _ (val _), nv _ (val _), nv _ (sl _ _)]))] ?_
 refine zq8 ?_
 refine zpz ?_
 refine zs8 ?_
 refine zs9 ?_
 refine zsa ?_
 refine zsb ?_
 refine zsc ?_
 refine zsd ?_
 refine zse ?_
 refine zsf ?_
 refine sO [(0, _), (3, _), (4, _), (5, _), (6, _), (5000, _), (6200, _), (6300, _)] [(0, (40, [sl _ _, val _, val _, sl _ _, sl _ _, sl _ _, sl _ _, val _])), (6, _)] ?_
 refine sw_backX (d := 0) (G := 6300) (A := [sl _ _, val _, val _, sl _ _, sl _ _]) (B := [sl _ _, val _]) (p := sl (.own 144 7) (((e.Done ++ doneTo e (parts e).length m).map (cFinished (.own 193 3) (.own 3 1) (.own 66 2) (.own 3 1))) ++ [[val (vI (⟨za[m].1.Query, za[m].1.Time, za[m].1.Age + 1, za[m].1.Rows⟩ : Finished).Query.Id), val (vI (⟨za[m].1.Query, za[m].1.Time, za[m].1.Age + 1, za[m].1.Rows⟩ : Finished).Query.Tenant), sl (.own 193 3) ((⟨za[m].1.Query, za[m].1.Time, za[m].1.Age + 1, za[m].1.Rows⟩ : Finished).Query.Conds.map cCond), sl (.own 3 1) ((⟨za[m].1.Query, za[m].1.Time, za[m].1.Age + 1, za[m].1.Rows⟩ : Finished).Query.Out.map cInt), val (vI (⟨za[m].1.Query, za[m].1.Time, za[m].1.Age + 1, za[m].1.Rows⟩ : Finished).Time), val (vI (⟨za[m].1.Query, za[m].1.Time, za[m].1.Age + 1, za[m].1.Rows⟩ : Finished).Steps), sl (.own 66 2) ((⟨za[m].1.Query, za[m].1.Time, za[m].1.Age + 1, za[m].1.Rows⟩ : Finished).Rows.map (cRow (.own 3 1)))]])) (by exact rfl) (by exact rfl) (fun h_ k_ => last_back (by exact (Nm.nv (Nm.nv (Nm.nv (Nm.nv (Nm.val (Nm.val (Nm.nv Nm.nil)))))))) (by exact (Sel.keep (Sel.keep (Sel.keep (Sel.keep (Sel.lit rfl (Sel.lit rfl (Sel.drop (Sel.drop (Sel.drop (Sel.drop (Sel.drop (Sel.keep Sel.nil))))))))))))) h_ k_) ?_
 refine sG [0, 3, 4, 5, 6, 5000, 6200] [0, 6] ?_
 exact zs7
 have hep : endP (agedL e (parts e).length)[m] = false := by rw [hga]; simpa [endP] using hbd
 refine sG [0, 3, 4, 5, 6, 5000, 6200] [0, 6] ?_
 refine rA ?_ (x := tM)
 refine znh ?_
 refine rA ?_ (x := tA)
 refine zqc ?_
 exact zs7) : G := h
theorem zqk (h : G := by
 refine swl_xcall (bx := 0) (L := L0w) (qs := []) (as_ := []) (by decide) c_156 rfl (by exact rfl) (by exact rfl) (by exact ⟨⟩) (by exact ⟨⟩) (by decide) (by exact ⟨⟩) (by exact (spec_l9Reclaim (e := stepE e) (by omega))) (fun x hx => hx.elim) (by exact lq) (by exact (aI (.inl rfl) tI)) ?_
 refine swl_nil ?_
 exact ⟨(by exact rfl), rfl, tI⟩) : G := h
theorem zqm (h : G := by
 refine zln ?_
 refine rA ?_ (x := B_eql)
 refine sc (fun hbd => ?_) (fun hbd => ?_)
 have hep : endP (agedL e (parts e).length)[m] = true := by rw [hga]; simpa [endP] using hbd
 refine sP [0, 2, 3, 4, 5, 6, 5000, 6200] [0, 6] ?_
 refine sw_lendN (d := 6) (G := 6300) (by exact rfl) (by exact rfl) (ToL.cons (PV.To.refl _) (ToL.cons (PV.To.refl _) (ToL.cons PV.to_none (ToL.cons PV.to_none (ToL.cons (PV.To.refl _) (ToL.cons PV.to_none (ToL.cons (PV.To.refl _) (ToL.cons (PV.To.refl _) (ToL.cons (PV.To.refl _) (ToL.cons PV.to_none ToL.nil)))))))))) (by exact lq) fun us hRN => ?_
 obtain ⟨_, _, hRN⟩ := hRN
 obtain ⟨uA_0, uA_1, uA_2, uA_3, uA_4, uA_5, uA_6, uA_7, uA_8, uA_9, rfl⟩ := us_10 hRN.len
 clear hRN
 refine sO [(0, _), (2, _), (3, _), (4, _), (5, _), (6, _), (5000, _), (6200, _), (6300, _)] [(0, _), (6, (142, [nv _ (val _), nv _ (val _), nv _ (sl _ _), nv _ (sl _ _), nv _ (val _), nv _ (sl _ _), nv _ (val _), nv _ (val _), nv _ (val _), nv _ (sl _ _)]))] ?_
 refine zq8 ?_
 refine zpz ?_
 refine zs8 ?_
 refine zs9 ?_
 refine zsa ?_
 refine zsb ?_
 refine zsc ?_
 refine zsd ?_
 refine zse ?_
 refine zsf ?_
 refine sO [(0, _), (2, _), (3, _), (4, _), (5, _), (6, _), (5000, _), (6200, _), (6300, _)] [(0, (40, [sl _ _, val _, val _, sl _ _, sl _ _, sl _ _, sl _ _, val _])), (6, _)] ?_
 refine sw_backX (d := 0) (G := 6300) (A := [sl _ _, val _, val _, sl _ _, sl _ _]) (B := [sl _ _, val _]) (p := sl (.own 144 7) (((e.Done ++ doneTo e (parts e).length m).map (cFinished (.own 193 3) (.own 3 1) (.own 66 2) (.own 3 1))) ++ [[val (vI (⟨za[m].1.Query, za[m].1.Time, za[m].1.Age + 1, za[m].1.Rows⟩ : Finished).Query.Id), val (vI (⟨za[m].1.Query, za[m].1.Time, za[m].1.Age + 1, za[m].1.Rows⟩ : Finished).Query.Tenant), sl (.own 193 3) ((⟨za[m].1.Query, za[m].1.Time, za[m].1.Age + 1, za[m].1.Rows⟩ : Finished).Query.Conds.map cCond), sl (.own 3 1) ((⟨za[m].1.Query, za[m].1.Time, za[m].1.Age + 1, za[m].1.Rows⟩ : Finished).Query.Out.map cInt), val (vI (⟨za[m].1.Query, za[m].1.Time, za[m].1.Age + 1, za[m].1.Rows⟩ : Finished).Time), val (vI (⟨za[m].1.Query, za[m].1.Time, za[m].1.Age + 1, za[m].1.Rows⟩ : Finished).Steps), sl (.own 66 2) ((⟨za[m].1.Query, za[m].1.Time, za[m].1.Age + 1, za[m].1.Rows⟩ : Finished).Rows.map (cRow (.own 3 1)))]])) (by exact rfl) (by exact rfl) (fun h_ k_ => last_back (by exact (Nm.nv (Nm.nv (Nm.nv (Nm.nv (Nm.val (Nm.val (Nm.nv Nm.nil)))))))) (by exact (Sel.keep (Sel.keep (Sel.keep (Sel.keep (Sel.lit rfl (Sel.lit rfl (Sel.drop (Sel.drop (Sel.drop (Sel.drop (Sel.drop (Sel.keep Sel.nil))))))))))))) h_ k_) ?_
 refine sG [0, 2, 3, 4, 5, 6, 5000, 6200] [0, 6] ?_
 exact zs7
 have hep : endP (agedL e (parts e).length)[m] = false := by rw [hga]; simpa [endP] using hbd
 refine sG [0, 2, 3, 4, 5, 6, 5000, 6200] [0, 6] ?_
 refine rA ?_ (x := tM)
 refine znh ?_
 refine rA ?_ (x := tA)
 refine zql ?_
 exact zs7) : G := h
theorem zqu (h : G := by
 refine sG [1, 2, 4, 5, 6, 8, 22, 23, 24] [2] ?_
 refine zfp ?_
 refine nx (k + 1) (by omega) (e := (by exact aI (by first | exact congrArg (fun z => some (RV.sv false [sl .v (List.map cInt z)])) (bestTo_yes hlt hc).symm | exact congrArg (fun z => some (RV.sv false [sl .v (List.map cInt z)])) (bestTo_no hlt hc).symm) (aI (by exact rfl) (tI))))) : G := h
theorem zqw (h : G := by
 refine sG [1, 2, 4, 5, 6, 7, 8, 9] [2] ?_
 refine ze0 ?_
 refine nx (k + 1) (by exact ⟨by omega, fun _ => hok⟩) (e := (by exact aI (by exact congrArg (fun z => some (RV.sv false [sl .v (List.map cInt z)])) hsb.1.symm) (aI (by exact int_eq hsb.2.symm) (aI (by exact rfl) (tI)))))) : G := h
theorem zqv (h : G := by
 have hsb := spBest_yes (x := x) (l := l) hlt (by first | exact .inl hk0e | exact .inr (by omega))
 refine sS [1, 2, 4, 5, 6, 7, 8, 9] [2] ?_
 refine zgf ?_
 refine zqr ?_
 refine rA ?_ (x := vA false [sl .v _])
 refine sG [1, 2, 4, 5, 6, 7, 8, 9] [2] ?_
 refine rM ?_
 refine rS ?_
 exact zqw) : G := h
theorem zqx (h : G := by
 have hfin : (k = ordersL.length ∧ okIndex x = true) ∨ (k = 0 ∧ (ordersL.length = 0 ∨ okIndex x = false)) := by
  by_cases h0k : 0 < k
  ·left
   have h1 := ha h0k
   refine ⟨?_, h1⟩
   by_cases hka : k = ordersL.length
   ·exact hka
   ·exfalso
    have hlt_ : k < ordersL.length := by omega
    have hlt2_ : (k : Int) < (ordersL.length : Int) := by omega
    first | omega | simp_all
  ·right
   refine ⟨by omega, ?_⟩
   by_cases hka : ordersL.length = 0
   ·exact .inl hka
   ·right
    have hlt_ : k < ordersL.length := by omega
    have hlt2_ : (k : Int) < (ordersL.length : Int) := by omega
    rw [← Bool.not_eq_true]; intro hc_; simp_all
 refine sw_exit ?_
 refine sT [1, 2, 4, 5, 6, 7, 8] [2] ?_
 refine zqt ?_
 refine sw_ret ?_
 exact (aI (by refine slc_eq ?_; rw [best_end hfin]) tI)) : G := h
theorem zqy (h : G := by
 refine sw_weak (s := 2) [sl _ _] (by exact rfl) (by exact (ToL.cons PV.to_none ToL.nil)) (by exact (BorL.cons (bor_sl _) BorL.nil)) ?_
 refine sw_ret ?_
 exact (aI (by refine slc_eq ?_; unfold chooseOrder; rw [if_neg (by rw [hok]; simp)]; rfl) tI)) : G := h
theorem zr2 (h : G := by
 refine rA ?_ (x := vA false [sl .v _])
 refine sw_ret ?_
 exact (aI (by refine slc_eq ?_; unfold chooseOrder; rw [if_pos hok]) tI)) : G := h
theorem zsg (h : G := by
 refine zqn ?_
 refine zgb ?_
 exact (Exists.intro 4 (Exists.intro _ (aI (by exact rfl) (aI (by refine box_eq ?_; rw [hr]; exact rfl) (aI ty_40 (aI (fun h => nomatch h) (aI (by refine bool_eq ?_; rw [hr]) tI)))))))) : G := h
theorem zr6 (h : G := by
 have hr := setOrder_no (e := e) (o := o) (by cases h1_ : okEngine e <;> cases h2_ : okOrder o <;> simp_all)
 refine sS [1, 2, 4, 5, 6] [2, 4, 6] ?_
 exact zsg) : G := h
theorem zr5 (h : G := by
 refine zja ?_
 exact zr6) : G := h
theorem zr7 (h : G := by
 refine rA ?_ (x := lF fd_40_2)
 refine zbe ?_
 refine zr4 ?_
 exact zsg) : G := h
theorem zra (h : G := by
 obtain ⟨us0, r0, rfl, hl0, hR0, hU1⟩ := RelU.cons hU0
 obtain ⟨u1_0_0, u1_0_1, u1_0_2, u1_0_3, u1_0_4, u1_0_5, u1_0_6, u1_0_7, rfl⟩ := us_8 hl0
 obtain rfl := relval hR0 (j := 1) rfl rfl
 obtain rfl := relval hR0 (j := 2) rfl rfl
 obtain rfl := relval hR0 (j := 7) rfl rfl
 obtain ⟨us1, r1, rfl, hl1, hR1, hU2⟩ := RelU.cons hU1
 obtain ⟨u1_1_0, rfl⟩ := us_1 hl1
 obtain rfl := relval hR1 (j := 0) rfl rfl
 obtain rfl := RelU.nil hU2
 clear hR0 hU0 hR1 hU1 hU2
 refine Run.stepC 15 (by exact ⟨rfl, ⟨⟩⟩) (by exact ⟨⟩) (LocG.of rfl (loc_take (.inl rfl) (by decide))) nofree (by kernel_rfl) (by intro L' h; exact nomatch (show (none : Option Step) = some L' from h)) ?_
 refine Run.stepC 31 (by exact ⟨rfl, ⟨⟩⟩) (by exact ⟨⟩) (LocG.of rfl (loc_extractb (cs := [val _, val _, val _, val _, val _, val _, val _, val _]) (by decide) (by exact rfl) (by exact lq))) nofree (by kernel_rfl) (by intro L' h; exact nomatch (show (none : Option Step) = some L' from h)) ?_
 refine Run.stepC 31 (by exact ⟨rfl, ⟨⟩⟩) (by exact ⟨⟩) (LocG.of rfl (loc_extractb (cs := [val _]) (by decide) (by exact rfl) (by exact (BorL.cons (bor_val _) BorL.nil)))) nofree (by kernel_rfl) (by intro L' h; exact nomatch (show (none : Option Step) = some L' from h)) ?_
 refine Run.stepC 0 (by exact ⟨⟩) (by exact ⟨⟩) (LocG.of rfl (loc_alloc (by decide) z_40 zo_40)) (free1 (Free.wr (Free.app (Free.app (Free.app (Free.of_ rfl) rfl) rfl) rfl) rfl)) (by kernel_rfl) (by intro L' h; exact Option.some.inj (show some _ = some L' from h)) ?_
 refine Run.stepC 191 (by exact ⟨rfl, rfl, ⟨⟩⟩) (by exact ⟨rfl, ⟨⟩⟩) (LocG.of rfl (loc_store (ag := true) (vs := [val _, val _, val _, val _, val _, val _, val _, val _]) ty_40 (by exact ⟨⟩) (by exact rfl) (by exact nl rfl))) nofree (by kernel_rfl) (by intro L' h; exact nomatch (show (none : Option Step) = some L' from h)) ?_
 refine Run.stepC 511 (by exact ⟨rfl, ⟨⟩⟩) (by exact ⟨⟩) (LocG.of rfl (loc_copy (.inr rfl) (by decide) (by exact Cp.sc))) nofree (by kernel_rfl) (by intro L' h; exact nomatch (show (none : Option Step) = some L' from h)) ?_
 refine sw_backB (d := 3) (G := 2000) (by exact rfl) (by exact (Nm.val (Nm.val (Nm.val (Nm.val (Nm.val (Nm.val (Nm.val (Nm.val Nm.nil))))))))) (by exact rfl) ?_
 refine sw_backS (s := 4) (G := 2001) (by exact rfl) (by exact (Nm.val Nm.nil)) rfl (by decide) (by exact rfl) ?_
 refine sw_seq ?_
 refine sO [(1, _), (2, _), (3, _), (4, _)] [(1, _), (2, _), (3, (40, [sl _ _, val _, val _, sl _ _, sl _ _, sl _ _, sl _ _, val _]))] ?_
 exact zcc) : G := h
theorem zre (h : G := by
 refine zdz ?_
 refine nx (k + 1) (by omega) (e := (by exact aI (by exact int_eq (by omega)) (tI)))) : G := h
theorem zrf (h : G := by
 have hend : k = rounds n := by unfold rounds at hk ⊢; first | omega | (simp_all; omega)
 refine sw_exit ?_
 refine sT [1, 2, 4, 5, 6] [2, 4, 5] ?_
 refine zqn ?_
 refine sw_ret ?_
 exact (Exists.intro 4 (Exists.intro _ (aI (by exact rfl) (aI (by refine box_eq ?_; unfold runAdaptive; rw [← hend]; exact rfl) (aI ty_40 (aI (fun h => nomatch h) tI))))))) : G := h
theorem zrg (h : G := by
 refine zfz ?_
 refine scF ?_
 exact zrf) : G := h
theorem zpr (h : H) (w : Hd H → G := by
 intro h_
 refine rA ?_ (x := loc_bslice (qs := [(false, [val _])]) (by decide) sl_25 z_3 (by decide) rfl rfl rfl rfl rfl (by exact nl rfl) (by exact (aI (by exact ⟨⟩) tI)) rfl)
 refine rA ?_ (x := loc_append (by decide) sl_25 z_3 rfl rfl (by decide) rfl (by simp only [List.length_map, List.length_append, List.length_cons, List.length_nil]; omega) (by simp only [List.length_map, List.length_append, List.length_cons, List.length_nil]; omega))
 exact h_.get) : G := w ⟨h⟩
theorem zf2 (h : H) (w : Hd H → G := by
 intro h_
 refine sw_skip ?_
 refine sw_seq ?_
 exact h_.get) : G := w ⟨h⟩
theorem zqn (h : H) (w : Hd H → G := by
 intro h_
 refine rA ?_ (x := loc_ltake (ms := [sl _ _, val _, val _, sl _ _, sl _ _, sl _ _, sl _ _, val _]) (qs := [sl .v _, val _, val _, sl .v _, sl .v _, sl .v _, sl .v _, val _]) (by decide) ty_40 (fun h => nomatch h) (by exact nl rfl) (by exact rfl) (by exact (ToL.cons PV.to_none (ToL.cons (PV.To.refl _) (ToL.cons (PV.To.refl _) (ToL.cons PV.to_none (ToL.cons PV.to_none (ToL.cons PV.to_none (ToL.cons PV.to_none (ToL.cons (PV.To.refl _) ToL.nil))))))))) (by exact lq))
 refine rA ?_ (x := loc_store (ag := true) (vs := [sl _ _, val _, val _, sl _ _, sl _ _, sl _ _, sl _ _, val _]) ty_40 (by exact ⟨⟩) (by exact rfl) (by exact nl rfl))
 exact h_.get) : G := w ⟨h⟩
theorem zay (h : H) (w : Hd H → G := by
 intro h_
 refine sR ?_
 refine rX ?_ (x := (loc_box (ag := true) (cs := [sl _ _, val _, val _, sl _ _, sl _ _, sl _ _, sl _ _, val _]) (by decide) (by exact ⟨⟩)))
 exact h_.get) : G := w ⟨h⟩
theorem zba (h : H) (w : Hd H → G := by
 intro h_
 refine rA ?_ (x := loc_store (ag := false) (vs := [val _]) ty_3 (by exact ⟨⟩) (by exact rfl) (by exact nl rfl))
 refine sw_seq ?_
 exact h_.get) : G := w ⟨h⟩
theorem zed (h : H) (w : Hd H → G := by
 intro h_
 refine zf2 ?_
 refine sw_block ?_
 exact h_.get) : G := w ⟨h⟩
theorem zmz (h : H) (w : Hd H → G := by
 intro h_
 refine rM ?_
 refine rA ?_ (x := vM false [sl .v _])
 exact h_.get) : G := w ⟨h⟩
theorem zb4 (h : H) (w : Hd H → G := by
 intro h_
 refine rA ?_ (x := loc_index (by decide) sl_25 (by exact ⟨⟩) (by exact rfl) (by exact getm2 (by omega) rfl) (by exact rfl))
 refine rA ?_ (x := lE [val _] ty_3)
 exact h_.get) : G := w ⟨h⟩
theorem zck (h : H) (w : Hd H → G := by
 intro h_
 refine dA 0 ?_ (x := vM false [sl .v _])
 refine dA 0 ?_ (x := sM)
 exact h_.get) : G := w ⟨h⟩
theorem zqp (h : H) (w : Hd H → G := by
 intro h_
 refine rA ?_ (x := loc_bslice (qs := [(false, [val _]), (false, [val _]), (false, [val _])]) (by decide) sl_25 z_3 (by decide) rfl rfl rfl rfl rfl (by exact nl rfl) (by exact (aI (ok_sc rfl) (aI (ok_sc rfl) (aI (ok_sc rfl) tI)))) rfl)
 refine rA ?_ (x := loc_bslice (qs := [(false, [val _]), (false, [val _]), (false, [val _])]) (by decide) sl_25 z_3 (by decide) rfl rfl rfl rfl rfl (by exact nl rfl) (by exact (aI (ok_sc rfl) (aI (ok_sc rfl) (aI (ok_sc rfl) tI)))) rfl)
 exact h_.get) : G := w ⟨h⟩
theorem zpf (h : H) (w : Hd H → G := by
 intro h_
 refine rX ?_ (x := (loc_alloc (by decide) z_40 zo_40))
 refine rA ?_ (x := loc_store (ag := true) (vs := [sl _ _, val _, val _, sl _ _, sl _ _, sl _ _, sl _ _, val _]) ty_40 (by exact ⟨⟩) (by exact rfl) (by exact nl rfl))
 exact h_.get) : G := w ⟨h⟩
theorem zgf (h : H) (w : Hd H → G := by
 intro h_
 refine rA ?_ (x := vM false [sl .v _])
 refine rM ?_
 exact h_.get) : G := w ⟨h⟩
theorem zki (h : H) (w : Hd H → G := by
 intro h_
 refine rA ?_ (x := loc_bslice (qs := []) (by decide) sl_25 z_3 (by decide) rfl rfl rfl rfl rfl (by exact nl rfl) (by exact ⟨⟩) rfl)
 refine rA ?_ (x := tA)
 exact h_.get) : G := w ⟨h⟩
theorem zhx (h : H) (w : Hd H → G := by
 intro h_
 refine rK ?_
 refine sw_block ?_
 exact h_.get) : G := w ⟨h⟩
theorem zgp (h : H) (w : Hd H → G := by
 intro h_
 refine rA ?_ (x := loc_bslice (qs := [(true, [val _, sl _ _])]) (by decide) sl_93 z_66 (by decide) rfl rfl rfl rfl rfl (by exact nl rfl) (by exact (aI (by exact ⟨⟩) tI)) rfl)
 refine rA ?_ (x := loc_append (by decide) sl_93 z_66 rfl rfl (by decide) rfl (by simp only [List.length_map, List.length_append, List.length_cons, List.length_nil]; omega) (by simp only [List.length_map, List.length_append, List.length_cons, List.length_nil]; omega))
 exact h_.get) : G := w ⟨h⟩
theorem zpw (h : H) (w : Hd H → G := by
 intro h_
 refine sP [1, 2, 3, 4, 5, 6, 14, 57, 58, 59, 145, 146, 147, 6200] [1, 2, 4, 6] ?_
 refine sL [1, 2, 3, 4, 5, 6, 57, 58, 59, 145, 146] [1, 2, 6] (fun m : Nat => m ≤ e.Active.length) (fun m : Nat => [(14, RV.slc (.own 142 10) ((restTo e (parts e).length m).map (cActive (.own 193 3) (.own 3 1) (.own 3 1) (.own 66 2) (.own 3 1)))), (147, RV.int (m : Int)), (6200, RV.gh (valsE 10 (za.drop m)) (flatM (cActive (.own 193 3) (.own 3 1) (.own 3 1) (.own 66 2) (.own 3 1)) (za.drop m)))]) (fun m : Nat => [(4, (40, [sl (.own 149 1) (e.Store.Segments.map (cVersionS (.own 151 4) (.own 3 1))), val (vI e.Store.Now), val (vI e.Cursor), sl (.own 3 1) (e.Order.map cInt), sl .v (za.map nAct), sl (.own 144 7) ((e.Done ++ doneTo e (parts e).length m).map (cFinished (.own 193 3) (.own 3 1) (.own 66 2) (.own 3 1))), sl (.own 148 5) ((ledTo e (parts e).length).map (cCharge (.own 3 1) (.own 3 1) (.own 3 1))), val (vI e.Steps)]))]) (fun m : Nat => e.Active.length - m) 0 (by omega) (by exact aI (by exact rfl) (aI (by exact rfl) (aI (by exact rfl) (tI)))) (by exact aI (by show _ = some (40, [sl (.own 149 1) (e.Store.Segments.map (cVersionS (.own 151 4) (.own 3 1))), val (vI e.Store.Now), val (vI e.Cursor), sl (.own 3 1) (e.Order.map cInt), sl .v (za.map nAct), sl (.own 144 7) ((e.Done ++ doneTo e (parts e).length 0).map (cFinished (.own 193 3) (.own 3 1) (.own 66 2) (.own 3 1))), sl (.own 148 5) ((ledTo e (parts e).length).map (cCharge (.own 3 1) (.own 3 1) (.own 3 1))), val (vI e.Steps)]); rw [show doneTo e (parts e).length 0 = [] from rfl, List.append_nil]; first | (rw [hled]; simp only [List.map_append]; exact rfl) | (rw [hled]; exact rfl)) (tI)) ?_
 exact h_.get) : G := w ⟨h⟩
theorem zj5 (h : H) (w : Hd H → G := by
 intro h_
 refine sw_seq ?_
 refine sR ?_
 exact h_.get) : G := w ⟨h⟩
theorem zi8 (h : H) (w : Hd H → G := by
 intro h_
 refine rM ?_
 refine rA ?_ (x := B_lss)
 exact h_.get) : G := w ⟨h⟩
theorem zbe (h : H) (w : Hd H → G := by
 intro h_
 refine rA ?_ (x := loc_store (ag := false) (vs := [sl _ _]) ty_25 (by exact ⟨⟩) (by exact rfl) (by exact nl rfl))
 refine sw_seq ?_
 exact h_.get) : G := w ⟨h⟩
theorem ze0 (h : H) (w : Hd H → G := by
 intro h_
 refine rM ?_
 refine rA ?_ (x := B_add)
 refine rS ?_
 exact h_.get) : G := w ⟨h⟩
theorem zee (h : H) (w : Hd H → G := by
 intro h_
 refine rK ?_
 refine sw_seq ?_
 exact h_.get) : G := w ⟨h⟩
theorem zdo (h : H) (w : Hd H → G := by
 intro h_
 refine rA ?_ (x := lF fd_40_3)
 refine rA ?_ (x := lD [sl .v _] ty_36)
 exact h_.get) : G := w ⟨h⟩
theorem zfl (h : H) (w : Hd H → G := by
 intro h_
 refine rA ?_ (x := kM)
 refine sw_block ?_
 exact h_.get) : G := w ⟨h⟩
theorem zq9 (h : H) (w : Hd H → G := by
 intro h_
 refine rA ?_ (x := loc_index (by decide) sl_36 (by exact ⟨⟩) (by exact rfl) (by exact getm2 (by omega) rfl) (by exact rfl))
 refine rA ?_ (x := loc_eload (qs := [nv _ (val _), nv _ (val _), nv _ (sl .v _), nv _ (sl .v _), nv _ (val _), nv _ (sl .v _), nv _ (val _), nv _ (val _), nv _ (val _), nv _ (sl .v _)]) (by decide) ty_142 (fun h => nomatch h) (by exact nl rfl) (by exact (ToL.cons (PV.To.refl _) (ToL.cons (PV.To.refl _) (ToL.cons (PV.To.refl _) (ToL.cons (PV.To.refl _) (ToL.cons (PV.To.refl _) (ToL.cons (PV.To.refl _) (ToL.cons (PV.To.refl _) (ToL.cons (PV.To.refl _) (ToL.cons (PV.To.refl _) (ToL.cons (PV.To.refl _) ToL.nil))))))))))) (by exact lq))
 exact h_.get) : G := w ⟨h⟩
theorem zfd (h : H) (w : Hd H → G := by
 intro h_
 refine rM ?_
 refine rA ?_ (x := cL [(false, [sl _ _]), (false, [val _])] [(false, [sl .v _]), (false, [val _])] c_19 (hs := by exact held_IntS (by omega) (by omega)))
 exact h_.get) : G := w ⟨h⟩
theorem zb0 (h : H) (w : Hd H → G := by
 intro h_
 refine rA ?_ (x := vM false [sl .v _])
 refine rA ?_ (x := lN sl_25)
 exact h_.get) : G := w ⟨h⟩
theorem zc5 (h : H) (w : Hd H → G := by
 intro h_
 refine rA ?_ (x := loc_ltake (ms := [sl _ _, val _]) (qs := [sl .v _, val _]) (by decide) ty_35 (fun h => nomatch h) (by exact nl rfl) (by exact rfl) (by exact (ToL.cons PV.to_none (ToL.cons (PV.To.refl _) ToL.nil))) (by exact (BorL.cons (bor_sl _) (BorL.cons (bor_val _) BorL.nil))))
 refine rA ?_ (x := loc_store (ag := true) (vs := [sl _ _, val _]) ty_35 (by exact ⟨⟩) (by exact rfl) (by exact nl rfl))
 exact h_.get) : G := w ⟨h⟩
theorem znb (h : H) (w : Hd H → G := by
 intro h_
 refine rX ?_ (x := (loc_alloc (by decide) z_142 zo_142))
 refine rA ?_ (x := loc_store (ag := true) (vs := [val _, val _, sl _ _, sl _ _, val _, sl _ _, val _, val _, val _, sl _ _]) ty_142 (by exact ⟨⟩) (by exact rfl) (by exact nl rfl))
 exact h_.get) : G := w ⟨h⟩
theorem zf9 (h : H) (w : Hd H → G := by
 intro h_
 refine zgf ?_
 refine rA ?_ (x := loc_index (by decide) sl_36 (by exact ⟨⟩) (by exact rfl) (by exact mkL_getc hlt rfl) (by exact rfl))
 exact h_.get) : G := w ⟨h⟩
theorem zm1 (h : H) (w : Hd H → G := by
 intro h_
 refine rA ?_ (x := loc_index (by decide) sl_36 (by exact ⟨⟩) (by exact rfl) (by exact getm2 (by omega) rfl) (by exact rfl))
 refine rA ?_ (x := lE [val _, val _, sl .v _, sl .v _, val _, sl .v _, val _, val _, val _, sl .v _] ty_142)
 exact h_.get) : G := w ⟨h⟩
theorem zav (h : H) (w : Hd H → G := by
 intro h_
 refine sR ?_
 refine rX ?_ (x := (loc_box (ag := true) (cs := [sl _ _, val _]) (by decide) (by exact ⟨⟩)))
 exact h_.get) : G := w ⟨h⟩
theorem zc7 (h : H) (w : Hd H → G := by
 intro h_
 refine sO [(1, _), (2, _), (3, _)] [(1, _), (2, _), (3, (40, [sl _ _, val _, val _, sl _ _, sl _ _, sl _ _, sl _ _, val _]))] ?_
 refine sw_reg ?_
 exact h_.get) : G := w ⟨h⟩
theorem zgb (h : H) (w : Hd H → G := by
 intro h_
 refine rK ?_
 refine sw_ret ?_
 exact h_.get) : G := w ⟨h⟩
theorem zfp (h : H) (w : Hd H → G := by
 intro h_
 refine rA ?_ (x := B_add)
 refine rM ?_
 exact h_.get) : G := w ⟨h⟩
theorem zdk (h : H) (w : Hd H → G := by
 intro h_
 refine rA ?_ (x := lF fd_35_0)
 refine rA ?_ (x := lD [sl .v _] ty_33)
 exact h_.get) : G := w ⟨h⟩
theorem zal (h : H) (w : Hd H → G := by
 intro h_
 refine sR ?_
 refine rX ?_ (x := (loc_box (ag := true) (cs := [val _, val _, sl _ _, sl _ _]) (by decide) (by exact ⟨⟩)))
 exact h_.get) : G := w ⟨h⟩
theorem zcr (h : H) (w : Hd H → G := by
 intro h_
 refine rA ?_ (x := lD [val _] ty_3)
 refine rA ?_ (x := B_neq)
 exact h_.get) : G := w ⟨h⟩
theorem zbd (h : H) (w : Hd H → G := by
 intro h_
 refine rA ?_ (x := lD [sl .v _] ty_25)
 refine rA ?_ (x := cL [(false, [sl _ _])] [(false, [sl .v _])] c_46 (hs := by exact to_IntS (by omega)))
 exact h_.get) : G := w ⟨h⟩
theorem zid (h : H) (w : Hd H → G := by
 intro h_
 refine rX ?_ (x := (loc_alloc (by decide) z_151 zo_151))
 refine rA ?_ (x := loc_store (ag := true) (vs := [val _, sl _ _, val _, val _]) ty_151 (by exact ⟨⟩) (by exact rfl) (by exact nl rfl))
 exact h_.get) : G := w ⟨h⟩
theorem zct (h : H) (w : Hd H → G := by
 intro h_
 refine zf2 ?_
 refine sS [2, 3, 4] [2, 3] ?_
 exact h_.get) : G := w ⟨h⟩
theorem zac (h : H) (w : Hd H → G := by
 intro h_
 refine sR ?_
 refine rX ?_ (x := (loc_box (ag := true) (cs := [val _, sl _ _, val _, val _]) (by decide) (by exact ⟨⟩)))
 exact h_.get) : G := w ⟨h⟩
theorem zjw (h : H) (w : Hd H → G := by
 intro h_
 refine rA ?_ (x := loc_index (by decide) sl_89 (by exact ⟨⟩) (by exact rfl) (by exact getm2 (by omega) rfl) (by exact rfl))
 refine rA ?_ (x := lE [val _, val _, sl .v _, sl .v _] ty_65)
 exact h_.get) : G := w ⟨h⟩
theorem zbs (h : H) (w : Hd H → G := by
 intro h_
 refine sO [(1, _), (2, _), (3, _)] [(1, _), (2, _), (3, (142, [val _, val _, sl _ _, sl _ _, val _, sl _ _, val _, val _, val _, sl _ _]))] ?_
 refine sw_reg ?_
 exact h_.get) : G := w ⟨h⟩
theorem zae (h : H) (w : Hd H → G := by
 intro h_
 refine zj5 ?_
 refine zmz ?_
 exact h_.get) : G := w ⟨h⟩
theorem zdx (h : H) (w : Hd H → G := by
 intro h_
 refine zed ?_
 refine sw_seq ?_
 exact h_.get) : G := w ⟨h⟩
theorem znh (h : H) (w : Hd H → G := by
 intro h_
 refine rA ?_ (x := loc_ltake (ms := [val _, val _, sl _ _, sl _ _, val _, sl _ _, val _, val _, val _, sl _ _]) (qs := [val _, val _, sl .v _, sl .v _, val _, sl .v _, val _, val _, val _, sl .v _]) (by decide) ty_142 (fun h => nomatch h) (by exact nl rfl) (by exact rfl) (by exact (ToL.cons (PV.To.refl _) (ToL.cons (PV.To.refl _) (ToL.cons PV.to_none (ToL.cons PV.to_none (ToL.cons (PV.To.refl _) (ToL.cons PV.to_none (ToL.cons (PV.To.refl _) (ToL.cons (PV.To.refl _) (ToL.cons (PV.To.refl _) (ToL.cons PV.to_none ToL.nil))))))))))) (by exact lq))
 refine rA ?_ (x := loc_bslice (qs := [(true, [val _, val _, sl _ _, sl _ _, val _, sl _ _, val _, val _, val _, sl _ _])]) (by decide) sl_36 z_142 (by decide) rfl rfl rfl rfl rfl (by exact nl rfl) (by exact (aI (by exact ⟨⟩) tI)) rfl)
 refine rA ?_ (x := loc_append (by decide) sl_36 z_142 rfl rfl (by decide) rfl (by simp only [List.length_map, List.length_append, List.length_cons, List.length_nil]; omega) (by simp only [List.length_map, List.length_append, List.length_cons, List.length_nil]; omega))
 exact h_.get) : G := w ⟨h⟩
theorem zg8 (h : H) (w : Hd H → G := by
 intro h_
 refine rA ?_ (x := loc_index (by decide) sl_93 (by exact ⟨⟩) (by exact rfl) (by exact getm2 (by omega) rfl) (by exact rfl))
 refine rA ?_ (x := lE [val _, sl .v _] ty_66)
 exact h_.get) : G := w ⟨h⟩
theorem zaz (h : H) (w : Hd H → G := by
 intro h_
 refine sR ?_
 refine rA ?_ (x := loc_const (.inr rfl) (by decide) (ok_nil (t := 3) (e := 1)))
 exact h_.get) : G := w ⟨h⟩
theorem zjk (h : H) (w : Hd H → G := by
 intro h_
 refine rS ?_
 refine sw_seq ?_
 exact h_.get) : G := w ⟨h⟩
theorem zgj (h : H) (w : Hd H → G := by
 intro h_
 refine rS ?_
 refine sw_ret ?_
 exact h_.get) : G := w ⟨h⟩
theorem zek (h : H) (w : Hd H → G := by
 intro h_
 refine sS [0, 1, 5] [] ?_
 refine zgf ?_
 exact h_.get) : G := w ⟨h⟩
theorem zrc (h : H) (w : Hd H → G := by
 intro h_
 refine sP [1, 2, 4, 5, 6] [2, 4, 5] ?_
 refine sL [1, 2, 4, 5] [2, 4] (fun k : Nat => k ≤ rounds n) (fun k : Nat => [(6, RV.int (k : Int))]) (fun k : Nat => [(5, (40, [sl (.own 149 1) ((runA e k).Store.Segments.map (cVersionS (.own 151 4) (.own 3 1))), val (vI (runA e k).Store.Now), val (vI (runA e k).Cursor), sl (.own 3 1) ((runA e k).Order.map cInt), sl (.own 142 10) ((runA e k).Active.map (cActive (.own 193 3) (.own 3 1) (.own 3 1) (.own 66 2) (.own 3 1))), sl (.own 144 7) ((runA e k).Done.map (cFinished (.own 193 3) (.own 3 1) (.own 66 2) (.own 3 1))), sl (.own 148 5) ((runA e k).Ledger.map (cCharge (.own 3 1) (.own 3 1) (.own 3 1))), val (vI (runA e k).Steps)]))]) (fun k : Nat => rounds n - k) 0 (by omega) (by exact aI (by exact rfl) (tI)) (by exact aI (by exact rfl) (tI)) ?_
 exact h_.get) : G := w ⟨h⟩
theorem zcj (h : H) (w : Hd H → G := by
 intro h_
 refine dA 3 ?_ (x := loc_index (by decide) sl_25 (by exact ⟨⟩) (by exact rfl) (by exact getm2 (by omega) rfl) (by exact rfl))
 refine dA 7 ?_ (x := lE [val _] ty_3)
 exact h_.get) : G := w ⟨h⟩
theorem zod (h : H) (w : Hd H → G := by
 intro h_
 refine rA ?_ (x := cM Cp.ptr)
 refine rA ?_ (x := loc_nilchk (by decide))
 exact h_.get) : G := w ⟨h⟩
theorem zfc (h : H) (w : Hd H → G := by
 intro h_
 refine zek ?_
 refine rA ?_ (x := loc_index (by decide) sl_37 (by exact ⟨⟩) (by exact rfl) (by exact mkL_getc hlt rfl) (by exact rfl))
 exact h_.get) : G := w ⟨h⟩
theorem za8 (h : H) (w : Hd H → G := by
 intro h_
 refine sw_skip ?_
 refine sS [1, 2, 4] [2] ?_
 exact h_.get) : G := w ⟨h⟩
theorem zkb (h : H) (w : Hd H → G := by
 intro h_
 refine sw_boxEq (d := 900) (by exact rfl) (at_join (⟨((spansTo l f k).getD ((spansTo l f k).length - 1) sp0).From, (k : Int), ((spansTo l f k).getD ((spansTo l f k).length - 1) sp0).Set⟩) hl1 (by rw [gDt_ (d := sp0) hl1]; exact rfl)) ?_
 refine sw_frzS (s := 5) (D := 900) (G := 2900) (e := 3) (es := (((spansTo l f k)).set ((spansTo l f k).length - 1) (⟨((spansTo l f k).getD ((spansTo l f k).length - 1) sp0).From, (k : Int), ((spansTo l f k).getD ((spansTo l f k).length - 1) sp0).Set⟩)).map (cSpan (.own 3 1))) (by exact rfl) (by exact rfl) (by exact rfl) rfl (by decide) (by rw [List.length_map, List.length_set, List.length_map]) (by intro c hc; obtain ⟨y, _, rfl⟩ := List.mem_map.1 hc; exact rfl) (by rw [List.length_map]; exact hjk900) ?_
 exact h_.get) : G := w ⟨h⟩
theorem zhw (h : H) (w : Hd H → G := by
 intro h_
 refine rA ?_ (x := loc_bslice (qs := []) (by decide) sl_149 z_151 (by decide) rfl rfl rfl rfl rfl (by exact nl rfl) (by exact ⟨⟩) rfl)
 refine rA ?_ (x := tA)
 exact h_.get) : G := w ⟨h⟩
theorem zlb (h : H) (w : Hd H → G := by
 intro h_
 refine rB ga ?_ (x := cL [(false, [val _]), (false, [val _]), (false, [val _])] [(false, [val _]), (false, [val _]), (false, [val _])] c_114 (hs := by exact impl_within))
 refine rB ga ?_ (x := nT)
 exact h_.get) : G := w ⟨h⟩
theorem znu (h : H) (w : Hd H → G := by
 intro h_
 refine rA ?_ (x := loc_gidx (k := i) (G := 2900) (by decide) sl_33 (by exact ⟨⟩) (by first | rfl | omega) (by simp only [List.length_map]; omega))
 refine rA ?_ (x := loc_aload (f := nVerS) (e := 1) (k := i) (qs := [sl .v _]) (fun _ => rfl) rfl (by omega) (by decide) ty_149 (fun _ => rfl) (by exact (ToL.cons PV.to_none ToL.nil)) (by exact (BorL.cons (bor_sl _) BorL.nil)))
 exact h_.get) : G := w ⟨h⟩
theorem za4 (h : H) (w : Hd H → G := by
 intro h_
 refine sR ?_
 refine rX ?_ (x := (loc_box (ag := true) (cs := [val _, val _, sl _ _, sl _ _, sl _ _]) (by decide) (by exact ⟨⟩)))
 exact h_.get) : G := w ⟨h⟩
theorem zrh (h : H) (w : Hd H → G := by
 intro h_
 refine rA ?_ (x := lD [sl (.lo _) _, val _, val _, sl (.lo _) _, sl (.lo _) _, sl (.lo _) _, sl (.lo _) _, val _] ty_30)
 refine rA ?_ (x := cL [(true, [sl (.lo _) _, val _, val _, sl (.lo _) _, sl (.lo _) _, sl (.lo _) _, sl (.lo _) _, val _])] [(true, [sl .v _, val _, val _, sl .v _, sl .v _, sl .v _, sl .v _, val _])] c_11 (hs := by exact to_Engine (by omega)))
 exact h_.get) : G := w ⟨h⟩
theorem zfu (h : H) (w : Hd H → G := by
 intro h_
 refine rA ?_ (x := lD [sl .v _] ty_25)
 refine rA ?_ (x := lN sl_25)
 exact h_.get) : G := w ⟨h⟩
theorem ze3 (h : H) (w : Hd H → G := by
 intro h_
 refine rA ?_ (x := loc_storeM (o := 0) (ag := false) (vs := [val _]) (by omega) ty_3 (by exact ⟨⟩) (by exact rfl) (by exact nl rfl))
 refine sw_seq ?_
 exact h_.get) : G := w ⟨h⟩
theorem zsd (h : H) (w : Hd H → G := by
 intro h_
 refine dA 8160 ?_ (x := loc_build (qs := [(true, [nv _ (val _), nv _ (val _), nv _ (sl _ _), nv _ (sl _ _)]), (false, [val _]), (false, [val _]), (false, [nv _ (sl _ _)])]) (cs := [nv _ (val _), nv _ (val _), nv _ (sl _ _), nv _ (sl _ _), val _, val _, nv _ (sl _ _)]) (by decide) z_144 zo_144 FStd_pl_144 (by exact rfl) (by exact (aI (by exact ⟨⟩) (aI (by exact ⟨⟩) (aI (by exact ⟨⟩) (aI (by exact ⟨⟩) tI))))) rfl (by exact rfl))
 refine dA 16352 ?_ (x := loc_bslice (qs := [(true, [nv _ (val _), nv _ (val _), nv _ (sl _ _), nv _ (sl _ _), val _, val _, nv _ (sl _ _)])]) (by decide) sl_37 z_144 (by decide) rfl rfl rfl rfl rfl (by exact nl rfl) (by exact (aI (by exact ⟨⟩) tI)) rfl)
 exact h_.get) : G := w ⟨h⟩
theorem zky (h : H) (w : Hd H → G := by
 intro h_
 refine sR ?_
 refine rX ?_ (x := (loc_box (ag := true) (cs := [sl _ _, sl _ _]) (by decide) (by exact ⟨⟩)))
 exact h_.get) : G := w ⟨h⟩
theorem zfm (h : H) (w : Hd H → G := by
 intro h_
 refine sR ?_
 refine rA ?_ (x := B_lss)
 refine sw_seq ?_
 exact h_.get) : G := w ⟨h⟩
theorem zpm (h : H) (w : Hd H → G := by
 intro h_
 refine sO [(1, _), (2, _), (3, _), (4, _), (5, _), (6, _), (8, _), (9, _), (10, _), (11, _), (57, _), (58, _), (59, _), (77, _), (78, _), (79, _), (2900, _), (6100, _)] [(1, (40, [sl (.lo _) _, val _, val _, sl (.lo _) _, sl (.lo _) _, sl (.lo _) _, sl (.lo _) _, val _])), (2, (40, [sl _ _, val _, val _, sl _ _, sl _ _, sl _ _, sl _ _, val _])), (4, (40, [sl _ _, val _, val _, sl _ _, val _, sl _ _, sl _ _, val _])), (6, (148, [val _, val _, sl _ _, sl _ _, sl _ _])), (10, (142, [val _, val _, sl _ _, sl _ _, val _, sl _ _, val _, val _, val _, sl _ _])), (900, (142, _ ++ ([val _, val _, sl _ _, sl _ _, val _, sl _ _, val _, val _, val _, sl _ _] ++ _)))] ?_
 refine sw_reg ?_
 exact h_.get) : G := w ⟨h⟩
theorem zks (h : H) (w : Hd H → G := by
 intro h_
 refine rX ?_ (x := (loc_alloc (by decide) z_92 zo_92))
 refine rA ?_ (x := loc_store (ag := true) (vs := [sl _ _, sl _ _]) ty_92 (by exact ⟨⟩) (by exact rfl) (by exact nl rfl))
 exact h_.get) : G := w ⟨h⟩
theorem zn8 (h : H) (w : Hd H → G := by
 intro h_
 refine rX ?_ (x := (loc_alloc (by decide) z_35 zo_35))
 refine rA ?_ (x := loc_store (ag := true) (vs := [sl _ _, val _]) ty_35 (by exact ⟨⟩) (by exact rfl) (by exact nl rfl))
 exact h_.get) : G := w ⟨h⟩
theorem zaq (h : H) (w : Hd H → G := by
 intro h_
 refine sR ?_
 refine rX ?_ (x := (loc_box (ag := true) (cs := [val _, val _, sl _ _, sl _ _, val _, sl _ _, val _, val _, val _, sl _ _]) (by decide) (by exact ⟨⟩)))
 exact h_.get) : G := w ⟨h⟩
theorem zm7 (h : H) (w : Hd H → G := by
 intro h_
 refine rX ?_ (x := (loc_alloc (by decide) z_144 zo_144))
 refine rA ?_ (x := loc_store (ag := true) (vs := [val _, val _, sl _ _, sl _ _, val _, val _, sl _ _]) ty_144 (by exact ⟨⟩) (by exact rfl) (by exact nl rfl))
 exact h_.get) : G := w ⟨h⟩
theorem zog (h : H) (w : Hd H → G := by
 intro h_
 refine rA ?_ (x := lD [sl .v _, val _, val _, sl .v _, sl .v _, sl .v _, sl .v _, val _] ty_40)
 refine rA ?_ (x := cL [(true, [sl _ _, val _, val _, sl _ _, sl _ _, sl _ _, sl _ _, val _])] [(true, [sl .v _, val _, val _, sl .v _, sl .v _, sl .v _, sl .v _, val _])] c_42 (hs := by exact (spec_IsEngine (by omega))))
 exact h_.get) : G := w ⟨h⟩
theorem zon (h : H) (w : Hd H → G := by
 intro h_
 refine rA ?_ (x := lD [sl .v _, val _, val _, sl .v _, sl .v _, sl .v _, sl .v _, val _] ty_40)
 refine rA ?_ (x := cL [(true, [sl _ _, val _, val _, sl _ _, sl _ _, sl _ _, sl _ _, val _])] [(true, [sl .v _, val _, val _, sl .v _, sl .v _, sl .v _, sl .v _, val _])] c_50 (hs := by exact (impl_IsEngine (by omega))))
 exact h_.get) : G := w ⟨h⟩
theorem zm6 (h : H) (w : Hd H → G := by
 intro h_
 refine rA ?_ (x := loc_index (by decide) sl_37 (by exact ⟨⟩) (by exact rfl) (by exact getm2 (by omega) rfl) (by exact rfl))
 refine rA ?_ (x := lE [val _, val _, sl .v _, sl .v _, val _, val _, sl .v _] ty_144)
 exact h_.get) : G := w ⟨h⟩
theorem zqa (h : H) (w : Hd H → G := by
 intro h_
 refine rX ?_ (x := (loc_alloc (by decide) z_142 zo_142))
 refine rA ?_ (x := loc_store (ag := true) (vs := [nv _ (val _), nv _ (val _), nv _ (sl _ _), nv _ (sl _ _), nv _ (val _), nv _ (sl _ _), nv _ (val _), nv _ (val _), nv _ (val _), nv _ (sl _ _)]) ty_142 (by exact ⟨⟩) (by exact rfl) (by exact nl rfl))
 exact h_.get) : G := w ⟨h⟩
theorem zgn (h : H) (w : Hd H → G := by
 intro h_
 refine rA ?_ (x := loc_bslice (qs := []) (by decide) sl_93 z_66 (by decide) rfl rfl rfl rfl rfl (by exact nl rfl) (by exact ⟨⟩) rfl)
 refine rA ?_ (x := tA)
 exact h_.get) : G := w ⟨h⟩
theorem zko (h : H) (w : Hd H → G := by
 intro h_
 refine rA ?_ (x := loc_bslice (qs := []) (by decide) sl_89 z_65 (by decide) rfl rfl rfl rfl rfl (by exact nl rfl) (by exact ⟨⟩) rfl)
 refine rA ?_ (x := tA)
 exact h_.get) : G := w ⟨h⟩
theorem zfz (h : H) (w : Hd H → G := by
 intro h_
 refine zf ga ?_
 refine rA ?_ (x := pkF ga)
 exact h_.get) : G := w ⟨h⟩
theorem zh5 (h : H) (w : Hd H → G := by
 intro h_
 refine rB ga ?_ (x := lD [val _] ty_3)
 refine rB ga ?_ (x := cL [(false, [val _]), (false, [val _]), (false, [val _])] [(false, [val _]), (false, [val _]), (false, [val _])] c_97 (hs := by exact spec_l1In))
 exact h_.get) : G := w ⟨h⟩
theorem zaa (h : H) (w : Hd H → G := by
 intro h_
 refine sR ?_
 refine rX ?_ (x := (loc_box (ag := true) (cs := [val _, sl _ _]) (by decide) (by exact ⟨⟩)))
 exact h_.get) : G := w ⟨h⟩
theorem zfx (h : H) (w : Hd H → G := by
 intro h_
 refine rA ?_ (x := lD [val _] ty_3)
 refine rA ?_ (x := cL [(false, [val _]), (false, [val _]), (false, [val _])] [(false, [val _]), (false, [val _]), (false, [val _])] c_114 (hs := by exact impl_within))
 exact h_.get) : G := w ⟨h⟩
theorem zbu (h : H) (w : Hd H → G := by
 intro h_
 refine rA ?_ (x := loc_store (ag := true) (vs := [val _, val _, sl _ _, sl _ _]) ty_65 (by exact ⟨⟩) (by exact rfl) (by exact nl rfl))
 refine sw_seq ?_
 exact h_.get) : G := w ⟨h⟩
theorem zo2 (h : H) (w : Hd H → G := by
 intro h_
 refine sw_boxEq (d := 900) (by exact rfl) (congrArg (fun z_ => arr (cVersionS (.own 151 4) (.own 3 1)) z_ jk900) (show (fzTo zss keep i).map (List.map Prod.fst) = s.Segments.map (keptL keep) from by rw [hend, fz_end]; exact fz_fst hzss)) ?_
 refine sw_frzIn (d := 6) (D := 900) (G := 2900) (e := 1) (A := []) (B := [val _]) (es := ((s.Segments.map (keptL keep))).map (cVersionS (.own 151 4) (.own 3 1))) (by exact rfl) (by exact rfl) (by exact rfl) rfl (by simp) (by intro c hc; obtain ⟨y, _, rfl⟩ := List.mem_map.1 hc; exact rfl) (by rw [List.length_map]; exact hjk900) ?_
 exact h_.get) : G := w ⟨h⟩
theorem znz (h : H) (w : Hd H → G := by
 intro h_
 refine rA ?_ (x := loc_append (by decide) sl_149 z_151 rfl rfl (by decide) rfl (by simp only [List.length_map, List.length_append, List.length_cons, List.length_nil]; omega) (by simp only [List.length_map, List.length_append, List.length_cons, List.length_nil]; omega))
 refine rA ?_ (x := tA)
 exact h_.get) : G := w ⟨h⟩
theorem zql (h : H) (w : Hd H → G := by
 intro h_
 refine sO [(0, _), (2, _), (3, _), (4, _), (5, _), (6, _), (5000, _), (6200, _)] [(0, _), (6, (142, [val _, val _, sl _ _, sl _ _, val _, sl _ _, val _, val _, val _, sl _ _]))] ?_
 refine sw_reg ?_
 exact h_.get) : G := w ⟨h⟩
theorem zhp (h : H) (w : Hd H → G := by
 intro h_
 refine zt ga ?_
 refine rA ?_ (x := pkT ga)
 exact h_.get) : G := w ⟨h⟩
theorem zs5 (h : H) (w : Hd H → G := by
 intro h_
 refine sw_seq ?_
 refine sO [(1, _), (2, _), (3, _), (4, _), (5, _), (6, _), (14, _), (16, _), (57, _), (58, _), (59, _), (145, _), (146, _), (147, _), (6200, _)] [(1, _), (2, _), (4, _), (6, _), (16, (142, [val _, val _, sl _ _, sl _ _, val _, sl _ _, val _, val _, val _, sl _ _]))] ?_
 exact h_.get) : G := w ⟨h⟩
theorem zc9 (h : H) (w : Hd H → G := by
 intro h_
 refine rA ?_ (x := lF fd_40_3)
 refine rA ?_ (x := loc_store (ag := false) (vs := [sl _ _]) ty_36 (by exact ⟨⟩) (by exact rfl) (by exact nl rfl))
 exact h_.get) : G := w ⟨h⟩
theorem zdz (h : H) (w : Hd H → G := by
 intro h_
 refine sw_reg ?_
 refine ze0 ?_
 exact h_.get) : G := w ⟨h⟩
theorem zkp (h : H) (w : Hd H → G := by
 intro h_
 refine rX ?_ (x := (loc_alloc (by decide) z_65 zo_65))
 refine rA ?_ (x := loc_store (ag := true) (vs := [val _, val _, sl _ _, sl _ _]) ty_65 (by exact ⟨⟩) (by exact rfl) (by exact nl rfl))
 exact h_.get) : G := w ⟨h⟩
theorem zrd (h : H) (w : Hd H → G := by
 intro h_
 refine rA ?_ (x := loc_extract (cs := [sl _ _, val _, val _, sl _ _, sl _ _, sl _ _, sl _ _, val _]) (qs := [sl .v _, val _, val _, sl .v _, sl .v _, sl .v _, sl .v _, val _]) (by decide) (by exact rfl) (by exact (ToL.cons PV.to_none (ToL.cons (PV.To.refl _) (ToL.cons (PV.To.refl _) (ToL.cons PV.to_none (ToL.cons PV.to_none (ToL.cons PV.to_none (ToL.cons PV.to_none (ToL.cons (PV.To.refl _) ToL.nil))))))))) (by exact lq))
 refine rA ?_ (x := loc_extractb (cs := [val _]) (by decide) (by exact rfl) (by exact (BorL.cons (bor_val _) BorL.nil)))
 exact h_.get) : G := w ⟨h⟩
theorem zic (h : H) (w : Hd H → G := by
 intro h_
 refine rA ?_ (x := loc_index (by decide) sl_149 (by exact ⟨⟩) (by exact rfl) (by exact getm2 (by omega) rfl) (by exact rfl))
 refine rA ?_ (x := lE [val _, sl .v _, val _, val _] ty_151)
 exact h_.get) : G := w ⟨h⟩
theorem zqc (h : H) (w : Hd H → G := by
 intro h_
 refine sO [(0, _), (3, _), (4, _), (5, _), (6, _), (5000, _), (6200, _)] [(0, _), (6, (142, [val _, val _, sl _ _, sl _ _, val _, sl _ _, val _, val _, val _, sl _ _]))] ?_
 refine sw_reg ?_
 exact h_.get) : G := w ⟨h⟩
theorem zel (h : H) (w : Hd H → G := by
 intro h_
 refine rA ?_ (x := lE [val _] ty_3)
 refine rM ?_
 refine rA ?_ (x := B_neq)
 exact h_.get) : G := w ⟨h⟩
theorem zkl (h : H) (w : Hd H → G := by
 intro h_
 refine dA 512 ?_ (x := lD [sl .v _] ty_25)
 refine dA 2032 ?_ (x := loc_appendb (by decide) sl_25 z_3 rfl rfl (by decide) (by first | (intro cs hcs; obtain ⟨x, _, rfl⟩ := List.mem_map.1 hcs; exact rfl) | simp) (by first | (intro cs hcs; obtain ⟨x, _, rfl⟩ := List.mem_map.1 hcs; exact (BorL.cons (bor_val _) BorL.nil)) | simp) (by simp only [List.length_map, List.length_append, List.length_cons, List.length_nil]; omega) (by simp only [List.length_map, List.length_append, List.length_cons, List.length_nil]; omega))
 exact h_.get) : G := w ⟨h⟩
theorem zmt (h : H) (w : Hd H → G := by
 intro h_
 refine sS [0, 1, 4] [] ?_
 refine rA ?_ (x := vM false [sl .v _])
 exact h_.get) : G := w ⟨h⟩
theorem znf (h : H) (w : Hd H → G := by
 intro h_
 refine sO [(1, _), (2, _), (3, _), (4, _), (5, _)] [(1, _), (2, _), (3, _), (5, (142, [val _, val _, sl _ _, sl _ _, val _, sl _ _, val _, val _, val _, sl _ _]))] ?_
 refine sw_reg ?_
 exact h_.get) : G := w ⟨h⟩
theorem zc6 (h : H) (w : Hd H → G := by
 intro h_
 refine zay ?_
 refine rX ?_ (x := (loc_alloc (by decide) z_40 zo_40))
 exact h_.get) : G := w ⟨h⟩
theorem zet (h : H) (w : Hd H → G := by
 intro h_
 refine zek ?_
 refine rA ?_ (x := loc_index (by decide) sl_38 (by exact ⟨⟩) (by exact rfl) (by exact mkL_getc hlt rfl) (by exact rfl))
 exact h_.get) : G := w ⟨h⟩
theorem zny (h : H) (w : Hd H → G := by
 intro h_
 refine rA ?_ (x := loc_load (qs := [nv _ (val _), nv _ (sl .v _), nv _ (val _), nv _ (val _)]) (by decide) ty_151 (fun h => nomatch h) (by exact nl rfl) (by exact (ToL.cons (PV.To.refl _) (ToL.cons (PV.To.refl _) (ToL.cons (PV.To.refl _) (ToL.cons (PV.To.refl _) ToL.nil))))) (by exact lq))
 refine rA ?_ (x := loc_bslice (qs := [(true, [nv _ (val _), nv _ (sl _ _), nv _ (val _), nv _ (val _)])]) (by decide) sl_149 z_151 (by decide) rfl rfl rfl rfl rfl (by exact nl rfl) (by exact (aI (by exact ⟨⟩) tI)) rfl)
 exact h_.get) : G := w ⟨h⟩
theorem zps (h : H) (w : Hd H → G := by
 intro h_
 refine sO [(1, _), (2, _), (3, _), (4, _), (5, _), (6, _), (8, _), (9, _), (10, _), (11, _), (57, _), (58, _), (59, _), (77, _), (78, _), (79, _), (6100, _)] [(1, _), (2, _), (4, _), (6, (148, [val _, val _, sl _ _, sl _ _, sl _ _])), (10, _)] ?_
 refine sw_reg ?_
 exact h_.get) : G := w ⟨h⟩
theorem zpe (h : H) (w : Hd H → G := by
 intro h_
 refine sw_reg ?_
 refine rA ?_ (x := lD [sl (.lo _) _, val _, val _, sl (.lo _) _, sl (.lo _) _, sl (.lo _) _, sl (.lo _) _, val _] ty_40)
 exact h_.get) : G := w ⟨h⟩
theorem zf8 (h : H) (w : Hd H → G := by
 intro h_
 refine sS [0, 1, 5] [] ?_
 refine zi8 ?_
 exact h_.get) : G := w ⟨h⟩
theorem zha (h : H) (w : Hd H → G := by
 intro h_
 refine rA ?_ (x := nT)
 refine rM ?_
 exact h_.get) : G := w ⟨h⟩
theorem zkf (h : H) (w : Hd H → G := by
 intro h_
 refine sS [0, 1, 4] [] ?_
 refine zhx ?_
 refine sP [0, 1, 4, 5] [] ?_
 exact h_.get) : G := w ⟨h⟩
theorem zdn (h : H) (w : Hd H → G := by
 intro h_
 refine rA ?_ (x := lF fd_40_1)
 refine rA ?_ (x := lD [val _] ty_3)
 exact h_.get) : G := w ⟨h⟩
theorem znk (h : H) (w : Hd H → G := by
 intro h_
 refine rA ?_ (x := loc_bslice (qs := [(true, [val _, val _, sl _ _, sl _ _, val _, val _, sl _ _])]) (by decide) sl_37 z_144 (by decide) rfl rfl rfl rfl rfl (by exact nl rfl) (by exact (aI (by exact ⟨⟩) tI)) rfl)
 refine rA ?_ (x := loc_append (by decide) sl_37 z_144 rfl rfl (by decide) rfl (by simp only [List.length_map, List.length_append, List.length_cons, List.length_nil]; omega) (by simp only [List.length_map, List.length_append, List.length_cons, List.length_nil]; omega))
 exact h_.get) : G := w ⟨h⟩
theorem zcl (h : H) (w : Hd H → G := by
 intro h_
 refine dA 48 ?_ (x := loc_index (by decide) sl_25 (by exact ⟨⟩) (by exact rfl) (by exact getm2 (by omega) rfl) (by exact rfl))
 refine dA 112 ?_ (x := lE [val _] ty_3)
 exact h_.get) : G := w ⟨h⟩
theorem zi3 (h : H) (w : Hd H → G := by
 intro h_
 refine rA ?_ (x := loc_index (by decide) sl_33 (by exact ⟨⟩) (by exact rfl) (by exact getm2 (by omega) rfl) (by exact rfl))
 refine rA ?_ (x := lE [sl .v _] ty_149)
 exact h_.get) : G := w ⟨h⟩
theorem zef (h : H) (w : Hd H → G := by
 intro h_
 refine rM ?_
 refine rA ?_ (x := loc_hindex (by decide) sl_36 (by exact ⟨⟩) (by exact rfl) (by omega))
 exact h_.get) : G := w ⟨h⟩
theorem zp8 (h : H) (w : Hd H → G := by
 intro h_
 refine Run.stepC 511 (by exact ⟨rfl, ⟨⟩⟩) (by exact ⟨⟩) (LocG.of rfl (loc_copy (.inr rfl) (by decide) (by exact Cp.sc))) nofree (by kernel_rfl) (by intro L' h; exact nomatch (show (none : Option Step) = some L' from h)) ?_
 refine Run.stepC 2047 (by exact ⟨rfl, ⟨⟩⟩) (by exact ⟨⟩) (LocG.of rfl (loc_copy (.inr rfl) (by decide) (by exact Cp.sc))) nofree (by kernel_rfl) (by intro L' h; exact nomatch (show (none : Option Step) = some L' from h)) ?_
 exact h_.get) : G := w ⟨h⟩
theorem zdp (h : H) (w : Hd H → G := by
 intro h_
 refine rA ?_ (x := lF fd_40_4)
 refine rA ?_ (x := lD [sl .v _] ty_37)
 exact h_.get) : G := w ⟨h⟩
theorem zkq (h : H) (w : Hd H → G := by
 intro h_
 refine rA ?_ (x := loc_bslice (qs := [(true, [val _, val _, sl _ _, sl _ _])]) (by decide) sl_89 z_65 (by decide) rfl rfl rfl rfl rfl (by exact nl rfl) (by exact (aI (by exact ⟨⟩) tI)) rfl)
 refine rA ?_ (x := loc_append (by decide) sl_89 z_65 rfl rfl (by decide) rfl (by simp only [List.length_map, List.length_append, List.length_cons, List.length_nil]; omega) (by simp only [List.length_map, List.length_append, List.length_cons, List.length_nil]; omega))
 exact h_.get) : G := w ⟨h⟩
theorem zrv (h : H) (w : Hd H → G := by
 intro h_
 refine rA ?_ (x := loc_bslice (qs := [(true, [val _, val _, sl _ _])]) (by decide) sl_205 z_234 (by decide) rfl rfl rfl rfl rfl (by exact nl rfl) (by exact (aI (by exact ⟨⟩) tI)) rfl)
 refine rA ?_ (x := loc_append (by decide) sl_205 z_234 rfl rfl (by decide) rfl (by simp only [List.length_map, List.length_append, List.length_cons, List.length_nil]; omega) (by simp only [List.length_map, List.length_append, List.length_cons, List.length_nil]; omega))
 exact h_.get) : G := w ⟨h⟩
theorem zpu (h : H) (w : Hd H → G := by
 intro h_
 refine rA ?_ (x := loc_bslice (qs := []) (by decide) sl_36 z_142 (by decide) rfl rfl rfl rfl rfl (by exact nl rfl) (by exact ⟨⟩) rfl)
 refine rA ?_ (x := tA)
 exact h_.get) : G := w ⟨h⟩
theorem zbc (h : H) (w : Hd H → G := by
 intro h_
 refine sO [(1, _), (2, _), (3, _)] [(1, _), (2, _), (3, (148, [val _, val _, sl _ _, sl _ _, sl _ _]))] ?_
 refine sw_reg ?_
 exact h_.get) : G := w ⟨h⟩
theorem zie (h : H) (w : Hd H → G := by
 intro h_
 refine sw_seq ?_
 refine sw_seq ?_
 exact h_.get) : G := w ⟨h⟩
theorem zcd (h : H) (w : Hd H → G := by
 intro h_
 refine sR ?_
 refine zee ?_
 exact h_.get) : G := w ⟨h⟩
theorem zrk (h : H) (w : Hd H → G := by
 intro h_
 refine rA ?_ (x := lD [sl .v _, val _, val _, sl .v _, sl .v _, sl .v _, sl .v _, val _] ty_40)
 refine rA ?_ (x := cL [(true, [sl _ _, val _, val _, sl _ _, sl _ _, sl _ _, sl _ _, val _]), (true, [sl _ _, val _, val _, sl _ _, sl _ _, sl _ _, sl _ _, val _])] [(true, [sl .v _, val _, val _, sl .v _, sl .v _, sl .v _, sl .v _, val _]), (true, [sl .v _, val _, val _, sl .v _, sl .v _, sl .v _, sl .v _, val _])] c_13 (hs := by exact eq_Engine))
 exact h_.get) : G := w ⟨h⟩
theorem zbg (h : H) (w : Hd H → G := by
 intro h_
 refine sS [0, 2] [] ?_
 refine rA ?_ (x := vM false [sl .v _])
 exact h_.get) : G := w ⟨h⟩
theorem zpq (h : H) (w : Hd H → G := by
 intro h_
 refine rA ?_ (x := loc_ltake (ms := [sl _ _]) (qs := [sl .v _]) (by decide) ty_25 (fun _ => rfl) (by exact nl rfl) (by exact rfl) (by exact (ToL.cons PV.to_none ToL.nil)) (by exact (BorL.cons (bor_sl _) BorL.nil)))
 refine rM ?_
 exact h_.get) : G := w ⟨h⟩
theorem ze6 (h : H) (w : Hd H → G := by
 intro h_
 refine rA ?_ (x := loc_storeM (o := 1) (ag := false) (vs := [val _]) (by omega) ty_3 (by exact ⟨⟩) (by exact rfl) (by exact nl rfl))
 refine sw_seq ?_
 exact h_.get) : G := w ⟨h⟩
theorem zil (h : H) (w : Hd H → G := by
 intro h_
 refine sP [1, 3, 5, 7, 23, 24, 25, 32, 33, 34, 66, 67, 68] [1, 7] ?_
 refine sL [1, 3, 5, 7, 23, 24, 25, 32, 33, 34, 66, 67] [1, 7] (fun m : Nat => m ≤ (preN s k).length + j ∧ freeOf (allV s) ((preN s k).length + j) m = true) (fun m : Nat => [(68, RV.int (m : Int))]) (fun m : Nat => []) (fun m : Nat => (preN s k).length + j - m) 0 (by exact ⟨by omega, rfl⟩) (by exact aI (by exact rfl) (tI)) (by exact ⟨⟩) ?_
 exact h_.get) : G := w ⟨h⟩
theorem zbk (h : H) (w : Hd H → G := by
 intro h_
 refine sO [(1, _), (2, _), (3, _)] [(1, _), (2, _), (3, (151, [val _, sl _ _, val _, val _]))] ?_
 refine sw_reg ?_
 exact h_.get) : G := w ⟨h⟩
theorem zr0 (h : H) (w : Hd H → G := by
 intro h_
 refine rA ?_ (x := loc_extract (cs := [sl _ _, sl _ _]) (qs := [sl .v _, sl .v _]) (by decide) (by exact rfl) (by exact (ToL.cons PV.to_none (ToL.cons PV.to_none ToL.nil))) (by exact (BorL.cons (bor_sl _) (BorL.cons (bor_sl _) BorL.nil))))
 refine rA ?_ (x := loc_extract (cs := [sl _ _]) (qs := [sl .v _]) (by decide) (by exact rfl) (by exact (ToL.cons PV.to_none ToL.nil)) (by exact (BorL.cons (bor_sl _) BorL.nil)))
 exact h_.get) : G := w ⟨h⟩
theorem zau (h : H) (w : Hd H → G := by
 intro h_
 refine sR ?_
 refine rX ?_ (x := (loc_box (ag := true) (cs := [val _, val _, sl _ _, sl _ _, val _, val _, sl _ _]) (by decide) (by exact ⟨⟩)))
 exact h_.get) : G := w ⟨h⟩
theorem zpl (h : H) (w : Hd H → G := by
 intro h_
 refine sO [(1, _), (2, _), (3, _), (4, _), (5, _), (6, _), (57, _), (58, _), (59, _)] [(1, (40, [sl (.lo _) _, val _, val _, sl (.lo _) _, sl (.lo _) _, sl (.lo _) _, sl (.lo _) _, val _])), (2, (40, [sl _ _, val _, val _, sl _ _, sl _ _, sl _ _, sl _ _, val _])), (4, (40, [sl _ _, val _, val _, sl _ _, sl _ _, sl _ _, sl _ _, val _])), (6, (148, [val _, val _, sl _ _, sl _ _, sl _ _]))] ?_
 refine sw_reg ?_
 exact h_.get) : G := w ⟨h⟩
theorem ze5 (h : H) (w : Hd H → G := by
 intro h_
 refine sS [0, 1, 4, 5] [999] ?_
 refine rA ?_ (x := loc_copy (.inl rfl) (by decide) (by exact Cp.nm Cp.hdr))
 refine rM ?_
 exact h_.get) : G := w ⟨h⟩
theorem zeb (h : H) (w : Hd H → G := by
 intro h_
 refine sP [0, 1, 4, 5] [999] ?_
 refine sw_regL ?_
 exact h_.get) : G := w ⟨h⟩
theorem zdq (h : H) (w : Hd H → G := by
 intro h_
 refine rA ?_ (x := lF fd_40_5)
 refine rA ?_ (x := lD [sl .v _] ty_38)
 exact h_.get) : G := w ⟨h⟩
theorem zif (h : H) (w : Hd H → G := by
 intro h_
 refine rA ?_ (x := lD [val _, sl .v _, val _, val _] ty_151)
 refine rA ?_ (x := cL [(true, [val _, sl _ _, val _, val _])] [(true, [val _, sl .v _, val _, val _])] c_122 (hs := by exact impl_rowOf (by omega)))
 exact h_.get) : G := w ⟨h⟩
theorem zik (h : H) (w : Hd H → G := by
 intro h_
 refine rB gd ?_ (x := lD [val _] ty_3)
 refine rB gd ?_ (x := cL [(false, [val _]), (false, [val _]), (false, [val _])] [(false, [val _]), (false, [val _]), (false, [val _])] c_114 (hs := by exact impl_within))
 exact h_.get) : G := w ⟨h⟩
theorem zi1 (h : H) (w : Hd H → G := by
 intro h_
 refine rB ga ?_ (x := nT)
 refine rA ?_ (x := pkF ga)
 exact h_.get) : G := w ⟨h⟩
theorem zr9 (h : H) (w : Hd H → G := by
 intro h_
 refine sw_split (c := 3) (AI := [(7, ⟨[], [], [(3, some (RV.ptr 3 0))], [(3, some (40, [sl (.own 149 1) [], val (.int .i64 0), val (.int .i64 0), sl (.own 3 1) [], sl (.own 142 10) [], sl (.own 144 7) [], sl (.own 148 5) [], val (.int .i64 0)]))], some 3⟩)]) hm_ rfl rfl rfl rfl (by kernel_rfl) (fun j L h o ho => by have h := lk_mem h; simp only [List.mem_cons, List.not_mem_nil, or_false, Prod.mk.injEq] at h; obtain ⟨rfl, rfl⟩ := h; (· cases (show some ⟨some 3, .alloc 40, _, _, _, none⟩ = some o from ho); apply LocG.of rfl; exact loc_alloc (d := 3) (by decide) z_40 zo_40)) (fun j L h d hd => by have h := lk_mem h; simp only [List.mem_cons, List.not_mem_nil, or_false, Prod.mk.injEq] at h; obtain ⟨rfl, rfl⟩ := h; (· cases (show some _ = some d from hd); exact Free.of_ rfl)) ?_
 refine dX 0 ?_ (x := (loc_load (qs := [sl .v _, val _, val _, sl .v _, sl .v _, sl .v _, sl .v _, val _]) (by decide) ty_40 (fun h => nomatch h) (by exact nl rfl) (by exact (ToL.cons PV.to_none (ToL.cons (PV.To.refl _) (ToL.cons (PV.To.refl _) (ToL.cons PV.to_none (ToL.cons PV.to_none (ToL.cons PV.to_none (ToL.cons PV.to_none (ToL.cons (PV.To.refl _) ToL.nil))))))))) (by exact lq)))
 refine dX 0 ?_ (x := (loc_load (qs := [sl .v _, val _, val _, sl .v _, sl .v _, sl .v _, sl .v _, val _]) (by decide) ty_40 (fun h => nomatch h) (by exact nl rfl) (by exact (ToL.cons PV.to_none (ToL.cons (PV.To.refl _) (ToL.cons (PV.To.refl _) (ToL.cons PV.to_none (ToL.cons PV.to_none (ToL.cons PV.to_none (ToL.cons PV.to_none (ToL.cons (PV.To.refl _) ToL.nil))))))))) (by exact lq)))
 exact h_.get) : G := w ⟨h⟩
theorem zqq (h : H) (w : Hd H → G := by
 intro h_
 refine zqp ?_
 refine rA ?_ (x := loc_bslice (qs := [(false, [sl _ _]), (false, [sl _ _]), (false, [sl _ _]), (false, [sl _ _]), (false, [sl _ _]), (false, [sl _ _])]) (by decide) sl_167 z_25 (by decide) rfl rfl rfl rfl rfl (by exact nl rfl) (by exact (aI (by exact ⟨⟩) (aI (by exact ⟨⟩) (aI (by exact ⟨⟩) (aI (by exact ⟨⟩) (aI (by exact ⟨⟩) (aI (by exact ⟨⟩) tI))))))) rfl)
 exact h_.get) : G := w ⟨h⟩
theorem zmb (h : H) (w : Hd H → G := by
 intro h_
 refine rX ?_ (x := (loc_alloc (by decide) z_148 zo_148))
 refine rA ?_ (x := loc_store (ag := true) (vs := [val _, val _, sl _ _, sl _ _, sl _ _]) ty_148 (by exact ⟨⟩) (by exact rfl) (by exact nl rfl))
 exact h_.get) : G := w ⟨h⟩
theorem zq6 (h : H) (w : Hd H → G := by
 intro h_
 refine dA 0 ?_ (x := sM)
 refine dA 992 ?_ (x := loc_gidx (k := i) (G := 2900) (by decide) sl_36 (by exact ⟨⟩) (by first | exact hf2 | omega) (by first | (rw [List.length_map]; exact hil) | exact hil))
 exact h_.get) : G := w ⟨h⟩
theorem zdg (h : H) (w : Hd H → G := by
 intro h_
 refine rA ?_ (x := lF fd_142_3)
 refine rA ?_ (x := lD [val _] ty_3)
 exact h_.get) : G := w ⟨h⟩
theorem zdm (h : H) (w : Hd H → G := by
 intro h_
 refine rA ?_ (x := lF fd_40_0)
 refine rA ?_ (x := lD [sl .v _, val _] ty_35)
 exact h_.get) : G := w ⟨h⟩
theorem zf1 (h : H) (w : Hd H → G := by
 intro h_
 refine zek ?_
 refine rA ?_ (x := loc_index (by decide) sl_149 (by exact ⟨⟩) (by exact rfl) (by exact mkL_getc hlt rfl) (by exact rfl))
 exact h_.get) : G := w ⟨h⟩
theorem zg7 (h : H) (w : Hd H → G := by
 intro h_
 refine rA ?_ (x := lD [val _] ty_3)
 refine rA ?_ (x := cL [(false, [val _]), (false, [val _]), (false, [val _])] [(false, [val _]), (false, [val _]), (false, [val _])] c_97 (hs := by exact spec_l1In))
 exact h_.get) : G := w ⟨h⟩
theorem zbz (h : H) (w : Hd H → G := by
 intro h_
 refine sO [(1, _), (2, _), (3, _)] [(1, _), (2, _), (3, (144, [val _, val _, sl _ _, sl _ _, val _, val _, sl _ _]))] ?_
 refine sw_reg ?_
 exact h_.get) : G := w ⟨h⟩
theorem zma (h : H) (w : Hd H → G := by
 intro h_
 refine rA ?_ (x := loc_index (by decide) sl_38 (by exact ⟨⟩) (by exact rfl) (by exact getm2 (by omega) rfl) (by exact rfl))
 refine rA ?_ (x := lE [val _, val _, sl .v _, sl .v _, sl .v _] ty_148)
 exact h_.get) : G := w ⟨h⟩
theorem zam (h : H) (w : Hd H → G := by
 intro h_
 refine zjk ?_
 refine sS [1, 2, 4] [2] ?_
 refine zi8 ?_
 exact h_.get) : G := w ⟨h⟩
theorem zov (h : H) (w : Hd H → G := by
 intro h_
 refine zdn ?_
 refine rA ?_ (x := loc_index (k := e.Cursor.toNat) (by decide) sl_33 (by exact ⟨⟩) (by omega) (by exact getm2 hcl (by rw [gDt_ (d := ([] : List Version)) hcl])) (by exact rfl))
 exact h_.get) : G := w ⟨h⟩
theorem zp6 (h : H) (w : Hd H → G := by
 intro h_
 refine sw_split (c := 6) (AI := []) hm_ rfl rfl rfl rfl (by kernel_rfl) (fun j L h => nomatch h) (fun j L h => nomatch h) ?_
 refine dX 0 ?_ (x := (loc_load (qs := [sl .v _, sl .v _]) (by decide) ty_92 (fun h => nomatch h) (by exact nl rfl) (by exact (ToL.cons PV.to_none (ToL.cons PV.to_none ToL.nil))) (by exact (BorL.cons (bor_sl _) (BorL.cons (bor_sl _) BorL.nil)))))
 exact h_.get) : G := w ⟨h⟩
theorem zqb (h : H) (w : Hd H → G := by
 intro h_
 refine sw_takeB (d := 6) (G := 6200) (e := 10) (f := (cActive (.own 193 3) (.own 3 1) (.own 3 1) (.own 66 2) (.own 3 1))) (z := za[m]) (zs := (za.drop (m + 1))) (by exact rfl) (by exact (Nm.nv (Nm.nv (Nm.nv (Nm.nv (Nm.nv (Nm.nv (Nm.nv (Nm.nv (Nm.nv (Nm.nv Nm.nil))))))))))) (fun _ => rfl) (by rw [← List.drop_eq_getElem_cons hltz]; exact rfl) ?_
 refine sw_seq ?_
 exact h_.get) : G := w ⟨h⟩
theorem za3 (h : H) (w : Hd H → G := by
 intro h_
 refine rM ?_
 refine zgj ?_
 exact h_.get) : G := w ⟨h⟩
theorem zg2 (h : H) (w : Hd H → G := by
 intro h_
 refine zj5 ?_
 refine rM ?_
 exact h_.get) : G := w ⟨h⟩
theorem zku (h : H) (w : Hd H → G := by
 intro h_
 refine sP [0, 2, 3, 4] [2, 3] ?_
 refine sL [0, 2, 3] [2] (fun k : Nat => k ≤ 3) (fun k : Nat => [(4, RV.int (k : Int))]) (fun k : Nat => [(3, (92, (cIndex (.own 65 4) (.own 193 3) (.own 3 1) (.own 205 1) (.own 234 3) (.own 3 1)) ⟨l, fieldsTo l k⟩))]) (fun k : Nat => 3 - k) 0 (by omega) (by exact aI (by exact rfl) (tI)) (by exact aI (by exact rfl) (tI)) ?_
 exact h_.get) : G := w ⟨h⟩
theorem zo1 (h : H) (w : Hd H → G := by
 intro h_
 refine rA ?_ (x := loc_gidx (k := i) (G := 2900) (by decide) sl_33 (by exact ⟨⟩) (by first | rfl | omega) (by simp only [List.length_map]; omega))
 refine rA ?_ (x := loc_astore (f := nVerS) (e := 1) (k := i) (ag := false) (vs := [sl _ _]) _ (fun _ => rfl) rfl (by first | omega | (simp only [List.length_set]; omega)) ty_149 (by exact ⟨⟩) (by exact rfl))
 exact h_.get) : G := w ⟨h⟩
theorem zoc (h : H) (w : Hd H → G := by
 intro h_
 refine rA ?_ (x := loc_extract (cs := [sl _ _, val _]) (qs := [sl .v _, val _]) (by decide) (by exact rfl) (by exact (ToL.cons PV.to_none (ToL.cons (PV.To.refl _) ToL.nil))) (by exact (BorL.cons (bor_sl _) (BorL.cons (bor_val _) BorL.nil))))
 refine rA ?_ (x := loc_extractb (cs := [val _]) (by decide) (by exact rfl) (by exact (BorL.cons (bor_val _) BorL.nil)))
 exact h_.get) : G := w ⟨h⟩
theorem zc3 (h : H) (w : Hd H → G := by
 intro h_
 refine sO [(1, _), (2, _), (3, _)] [(1, _), (2, _), (3, (35, [sl _ _, val _]))] ?_
 refine sw_reg ?_
 exact h_.get) : G := w ⟨h⟩
theorem zpc (h : H) (w : Hd H → G := by
 intro h_
 refine sR ?_
 refine rX ?_ (x := (loc_box (ag := true) (cs := [sl (.lo _) _, val _, val _, sl (.lo _) _, sl (.lo _) _, sl (.lo _) _, sl (.lo _) _, val _]) (by decide) (by exact ⟨⟩)))
 exact h_.get) : G := w ⟨h⟩
theorem zk3 (h : H) (w : Hd H → G := by
 intro h_
 refine rB ga ?_ (x := cL [(false, [val _]), (false, [val _]), (false, [val _])] [(false, [val _]), (false, [val _]), (false, [val _])] c_97 (hs := by exact spec_l1In))
 refine zi1 ?_
 exact h_.get) : G := w ⟨h⟩
theorem zd5 (h : H) (w : Hd H → G := by
 intro h_
 refine rA ?_ (x := lF fd_65_2)
 refine rA ?_ (x := lD [sl .v _] ty_63)
 exact h_.get) : G := w ⟨h⟩
theorem znw (h : H) (w : Hd H → G := by
 intro h_
 refine rA ?_ (x := loc_eload (qs := [nv _ (val _), nv _ (sl .v _), nv _ (val _), nv _ (val _)]) (by decide) ty_151 (fun h => nomatch h) (by exact nl rfl) (by exact (ToL.cons (PV.To.refl _) (ToL.cons (PV.To.refl _) (ToL.cons (PV.To.refl _) (ToL.cons (PV.To.refl _) ToL.nil))))) (by exact lq))
 refine rX ?_ (x := (loc_alloc (by decide) z_151 zo_151))
 exact h_.get) : G := w ⟨h⟩
theorem zd6 (h : H) (w : Hd H → G := by
 intro h_
 refine rA ?_ (x := vM false [sl .v _])
 refine rA ?_ (x := lN sl_149)
 exact h_.get) : G := w ⟨h⟩
theorem zg9 (h : H) (w : Hd H → G := by
 intro h_
 refine rX ?_ (x := (loc_alloc (by decide) z_66 zo_66))
 refine rA ?_ (x := loc_store (ag := true) (vs := [val _, sl _ _]) ty_66 (by exact ⟨⟩) (by exact rfl) (by exact nl rfl))
 exact h_.get) : G := w ⟨h⟩
theorem zd1 (h : H) (w : Hd H → G := by
 intro h_
 refine rA ?_ (x := lF fd_151_0)
 refine rA ?_ (x := lD [val _] ty_3)
 exact h_.get) : G := w ⟨h⟩
theorem zdc (h : H) (w : Hd H → G := by
 intro h_
 refine rA ?_ (x := lF fd_142_0)
 refine rA ?_ (x := lD [val _, val _, sl .v _, sl .v _] ty_65)
 exact h_.get) : G := w ⟨h⟩
theorem zdj (h : H) (w : Hd H → G := by
 intro h_
 refine rA ?_ (x := lF fd_144_0)
 refine rA ?_ (x := lD [val _, val _, sl .v _, sl .v _] ty_65)
 exact h_.get) : G := w ⟨h⟩
theorem zq8 (h : H) (w : Hd H → G := by
 intro h_
 refine sw_draw hm_ ?_
 refine dA 0 ?_ (x := cM Cp.ptr)
 exact h_.get) : G := w ⟨h⟩
theorem zhm (h : H) (w : Hd H → G := by
 intro h_
 refine sw_exit ?_
 refine sw_seq ?_
 exact h_.get) : G := w ⟨h⟩
theorem zs9 (h : H) (w : Hd H → G := by
 intro h_
 refine dA 0 ?_ (x := lF fd_142_0)
 refine dA 32 ?_ (x := loc_load (qs := [nv _ (val _), nv _ (val _), nv _ (sl .v _), nv _ (sl .v _)]) (by decide) ty_65 (fun h => nomatch h) (by exact nl rfl) (by exact (ToL.cons (PV.To.refl _) (ToL.cons (PV.To.refl _) (ToL.cons (PV.To.refl _) (ToL.cons (PV.To.refl _) ToL.nil))))) (by exact lq))
 exact h_.get) : G := w ⟨h⟩
theorem zni (h : H) (w : Hd H → G := by
 intro h_
 refine sO [(1, _), (2, _), (3, _), (4, _), (6, _), (7, _)] [(1, _), (2, _), (3, _), (7, (144, [val _, val _, sl _ _, sl _ _, val _, val _, sl _ _]))] ?_
 refine sw_reg ?_
 exact h_.get) : G := w ⟨h⟩
theorem zcp (h : H) (w : Hd H → G := by
 intro h_
 refine zee ?_
 refine sT [2, 3, 4] [2, 3] ?_
 exact h_.get) : G := w ⟨h⟩
theorem zse (h : H) (w : Hd H → G := by
 intro h_
 refine dA 32766 ?_ (x := loc_append (by decide) sl_37 z_144 rfl rfl (by decide) rfl (by simp only [List.length_map, List.length_append, List.length_cons, List.length_nil]; omega) (by simp only [List.length_map, List.length_append, List.length_cons, List.length_nil]; omega))
 refine dA 65535 ?_ (x := loc_nilchk (by decide))
 exact h_.get) : G := w ⟨h⟩
theorem zk5 (h : H) (w : Hd H → G := by
 intro h_
 refine sP [0, 1, 4, 5, 6] [] ?_
 refine sL [0, 1, 4] [] (fun k : Nat => k ≤ 100) (fun k : Nat => [(5, RV.slc (.own 234 3) ((spansTo l f k).map (cSpan (.own 3 1)))), (6, RV.int (k : Int))]) (fun k : Nat => []) (fun k : Nat => 100 - k) 0 (by omega) (by exact aI (by exact rfl) (aI (by exact rfl) (tI))) (by exact ⟨⟩) ?_
 exact h_.get) : G := w ⟨h⟩
theorem zoy (h : H) (w : Hd H → G := by
 intro h_
 refine rA ?_ (x := lD [sl .v _, val _, val _, sl .v _, sl .v _, sl .v _, sl .v _, val _] ty_40)
 refine rA ?_ (x := cL [(true, [sl _ _, val _, val _, sl _ _, sl _ _, sl _ _, sl _ _, val _])] [(true, [sl .v _, val _, val _, sl .v _, sl .v _, sl .v _, sl .v _, val _])] c_103 (hs := by exact (spec_Participants (by omega))))
 exact h_.get) : G := w ⟨h⟩
theorem zpp (h : H) (w : Hd H → G := by
 intro h_
 refine sO [(1, _), (2, _), (3, _), (4, _), (5, _), (6, _), (8, _), (9, _), (10, _), (11, _), (57, _), (58, _), (59, _), (77, _), (78, _), (79, _), (2900, _), (6100, _)] [(1, _), (2, _), (4, _), (6, _), (10, (142, [val _, val _, sl _ _, sl _ _, val _, sl _ _, val _, val _, val _, sl _ _])), (900, _)] ?_
 refine sw_reg ?_
 exact h_.get) : G := w ⟨h⟩
theorem zrl (h : H) (w : Hd H → G := by
 intro h_
 refine rA ?_ (x := loc_load (qs := [sl .v _, val _, val _, sl .v _, sl .v _, sl .v _, sl .v _, val _]) (by decide) ty_40 (fun h => nomatch h) (by exact nl rfl) (by exact (ToL.cons (PV.nv_to PV.to_none) (ToL.cons (PV.nv_to (PV.To.refl _)) (ToL.cons (PV.nv_to (PV.To.refl _)) (ToL.cons (PV.nv_to PV.to_none) (ToL.cons (PV.nv_to PV.to_none) (ToL.cons (PV.nv_to PV.to_none) (ToL.cons (PV.nv_to PV.to_none) (ToL.cons (PV.nv_to (PV.To.refl _)) ToL.nil))))))))) (by exact lq))
 refine rM ?_
 refine rA ?_ (x := cL [(true, [sl _ _, val _, val _, sl _ _, sl _ _, sl _ _, sl _ _, val _]), (false, [val _])] [(true, [sl .v _, val _, val _, sl .v _, sl .v _, sl .v _, sl .v _, val _]), (false, [val _])] c_22 (hs := by exact held_Engine (by omega) (by first | omega | (simp only [mkV_Engine]; omega))))
 exact h_.get) : G := w ⟨h⟩
theorem zb8 (h : H) (w : Hd H → G := by
 intro h_
 refine sR ?_
 refine rX ?_ (x := (loc_box (ag := true) (cs := [val _, val _, val _]) (by decide) (by exact ⟨⟩)))
 exact h_.get) : G := w ⟨h⟩
theorem zr3 (h : H) (w : Hd H → G := by
 intro h_
 refine rA ?_ (x := lD [sl .v _, val _, val _, sl .v _, sl .v _, sl .v _, sl .v _, val _] ty_40)
 refine rA ?_ (x := cL [(true, [sl _ _, val _, val _, sl _ _, sl _ _, sl _ _, sl _ _, val _])] [(true, [sl .v _, val _, val _, sl .v _, sl .v _, sl .v _, sl .v _, val _])] c_71 (hs := by exact (impl_copyEngine (by omega))))
 exact h_.get) : G := w ⟨h⟩
theorem zbn (h : H) (w : Hd H → G := by
 intro h_
 refine sO [(1, _), (2, _), (3, _)] [(1, _), (2, _), (3, (65, [val _, val _, sl _ _, sl _ _]))] ?_
 refine sw_reg ?_
 exact h_.get) : G := w ⟨h⟩
theorem zr8 (h : H) (w : Hd H → G := by
 intro h_
 refine rA ?_ (x := lD [sl .v _, val _, val _, sl .v _, sl .v _, sl .v _, sl .v _, val _] ty_40)
 refine rA ?_ (x := cL [(true, [sl _ _, val _, val _, sl _ _, sl _ _, sl _ _, sl _ _, val _])] [(true, [sl .v _, val _, val _, sl .v _, sl .v _, sl .v _, sl .v _, val _])] c_69 (hs := by exact (spec_l9Copy (by omega))))
 exact h_.get) : G := w ⟨h⟩
theorem zfj (h : H) (w : Hd H → G := by
 intro h_
 refine sw_exit ?_
 refine sS [0, 1, 5] [] ?_
 exact h_.get) : G := w ⟨h⟩
theorem zhy (h : H) (w : Hd H → G := by
 intro h_
 refine zdk ?_
 refine rA ?_ (x := lN sl_33)
 exact h_.get) : G := w ⟨h⟩
theorem zr4 (h : H) (w : Hd H → G := by
 intro h_
 refine sO [(1, _), (2, _), (4, _), (5, _), (6, _)] [(2, _), (4, _), (6, (40, [sl _ _, val _, val _, sl _ _, sl _ _, sl _ _, sl _ _, val _]))] ?_
 refine sw_reg ?_
 exact h_.get) : G := w ⟨h⟩
theorem zh3 (h : H) (w : Hd H → G := by
 intro h_
 refine zf gb ?_
 refine rA ?_ (x := pkF gb)
 exact h_.get) : G := w ⟨h⟩
theorem zhg (h : H) (w : Hd H → G := by
 intro h_
 refine zt gb ?_
 refine rA ?_ (x := pkT gb)
 exact h_.get) : G := w ⟨h⟩
theorem za5 (h : H) (w : Hd H → G := by
 intro h_
 refine rK ?_
 refine sT [1, 2, 4] [2] ?_
 exact h_.get) : G := w ⟨h⟩
theorem zc8 (h : H) (w : Hd H → G := by
 intro h_
 refine rA ?_ (x := lF fd_40_0)
 refine rA ?_ (x := loc_store (ag := true) (vs := [sl _ _, val _]) ty_35 (by exact ⟨⟩) (by exact rfl) (by exact nl rfl))
 exact h_.get) : G := w ⟨h⟩
theorem zex (h : H) (w : Hd H → G := by
 intro h_
 refine rA ?_ (x := lE [sl .v _] ty_25)
 refine zfd ?_
 exact h_.get) : G := w ⟨h⟩
theorem zb9 (h : H) (w : Hd H → G := by
 intro h_
 refine sO [(1, _), (2, _), (3, _)] [(1, _), (2, _), (3, (193, [val _, val _, val _]))] ?_
 refine sw_reg ?_
 exact h_.get) : G := w ⟨h⟩
theorem znr (h : H) (w : Hd H → G := by
 intro h_
 refine sw_boxEq (d := 900) (by exact rfl) (show _ = arr (cVersionS (.own 151 4) (.own 3 1)) (s.Segments) jk900 from rfl) ?_
 refine sO [(1, _), (2, _), (4, _), (5, _), (6, _), (2900, _)] [(2, _), (4, _), (6, (35, [val _, val _])), (900, (149, arr (cVersionS (.own 151 4) (.own 3 1)) _ _))] ?_
 exact h_.get) : G := w ⟨h⟩
theorem zeh (h : H) (w : Hd H → G := by
 intro h_
 refine rM ?_
 refine rA ?_ (x := loc_hindex (by decide) sl_37 (by exact ⟨⟩) (by exact rfl) (by omega))
 exact h_.get) : G := w ⟨h⟩
theorem znv (h : H) (w : Hd H → G := by
 intro h_
 refine sO [(1, _), (2, _), (4, _), (5, _), (6, _), (7, _), (8, _), (9, _), (19, _), (20, _), (21, _), (27, _), (28, _), (29, _), (2900, _), (6000, _)] [(2, (35, [sl (.lo _) _, val _])), (4, (35, [sl _ _, val _])), (6, (35, [val _, val _])), (900, (149, arr nVerS _ _))] ?_
 refine sw_reg ?_
 exact h_.get) : G := w ⟨h⟩
theorem zip (h : H) (w : Hd H → G := by
 intro h_
 refine rB ge ?_ (x := lD [val _, sl .v _, val _, val _] ty_151)
 refine rB ge ?_ (x := cL [(true, [val _, sl _ _, val _, val _]), (true, [val _, sl _ _, val _, val _])] [(true, [val _, sl .v _, val _, val _]), (true, [val _, sl .v _, val _, val _])] c_188 (hs := by exact impl_meetInTime))
 exact h_.get) : G := w ⟨h⟩
theorem zfs (h : H) (w : Hd H → G := by
 intro h_
 refine rA ?_ (x := loc_bslice (qs := []) (by decide) sl_25 z_3 (by decide) rfl rfl rfl rfl rfl (by exact nl rfl) (by exact ⟨⟩) rfl)
 refine rA ?_ (x := vM false [sl .v _])
 refine rA ?_ (x := loc_appendb (by decide) sl_25 z_3 rfl rfl (by decide) (by first | (intro cs hcs; obtain ⟨x, _, rfl⟩ := List.mem_map.1 hcs; exact rfl) | simp) (by first | (intro cs hcs; obtain ⟨x, _, rfl⟩ := List.mem_map.1 hcs; exact (BorL.cons (bor_val _) BorL.nil)) | simp) (by simp only [List.length_map, List.length_append, List.length_cons, List.length_nil]; omega) (by simp only [List.length_map, List.length_append, List.length_cons, List.length_nil]; omega))
 exact h_.get) : G := w ⟨h⟩
theorem zbx (h : H) (w : Hd H → G := by
 intro h_
 refine rA ?_ (x := lF fd_142_6)
 refine rA ?_ (x := loc_store (ag := false) (vs := [sl _ _]) ty_93 (by exact ⟨⟩) (by exact rfl) (by exact nl rfl))
 exact h_.get) : G := w ⟨h⟩
theorem zca (h : H) (w : Hd H → G := by
 intro h_
 refine rA ?_ (x := lF fd_40_4)
 refine rA ?_ (x := loc_store (ag := false) (vs := [sl _ _]) ty_37 (by exact ⟨⟩) (by exact rfl) (by exact nl rfl))
 exact h_.get) : G := w ⟨h⟩
theorem zj6 (h : H) (w : Hd H → G := by
 intro h_
 refine zpr ?_
 refine rA ?_ (x := tA)
 exact h_.get) : G := w ⟨h⟩
theorem zrj (h : H) (w : Hd H → G := by
 intro h_
 refine rA ?_ (x := cL [(true, [sl _ _, val _, val _, sl _ _, sl _ _, sl _ _, sl _ _, val _]), (false, [val _])] [(true, [sl .v _, val _, val _, sl .v _, sl .v _, sl .v _, sl .v _, val _]), (false, [val _])] c_24 (hs := by exact (impl_RunAdaptive (by omega))))
 refine zpf ?_
 exact h_.get) : G := w ⟨h⟩
theorem zeu (h : H) (w : Hd H → G := by
 intro h_
 refine sw_skip ?_
 refine sS [0, 1, 5] [] ?_
 refine ze0 ?_
 exact h_.get) : G := w ⟨h⟩
theorem zq0 (h : H) (w : Hd H → G := by
 intro h_
 refine dA 0 ?_ (x := cM Cp.ptr)
 refine dA 32 ?_ (x := loc_nilchk (by decide))
 exact h_.get) : G := w ⟨h⟩
theorem zqe (h : H) (w : Hd H → G := by
 intro h_
 refine rA ?_ (x := lF fd_142_4)
 refine rA ?_ (x := loc_store (ag := false) (vs := [val _]) ty_3 (ok_sc rfl) (by exact rfl) (by exact nl rfl))
 exact h_.get) : G := w ⟨h⟩
theorem zk8 (h : H) (w : Hd H → G := by
 intro h_
 refine rB gb ?_ (x := loc_index (k := (spansTo l f k).length - 1) (by decide) sl_205 (by exact ⟨⟩) (by omega) (by exact getm2 (by omega) (by rw [gDt_ (d := sp0) (by omega)])) (by exact rfl))
 refine rB gb ?_ (x := loc_efield (by decide) fd_234_2 (by exact nl rfl))
 exact h_.get) : G := w ⟨h⟩
theorem zoe (h : H) (w : Hd H → G := by
 intro h_
 refine rM ?_
 refine rA ?_ (x := loc_index (by decide) sl_36 (by exact ⟨⟩) (by exact rfl) (by exact getm2 (by omega) rfl) (by exact rfl))
 exact h_.get) : G := w ⟨h⟩
theorem zd7 (h : H) (w : Hd H → G := by
 intro h_
 refine rA ?_ (x := lN sl_149)
 refine rA ?_ (x := B_lss)
 exact h_.get) : G := w ⟨h⟩
theorem zep (h : H) (w : Hd H → G := by
 intro h_
 refine zek ?_
 refine rA ?_ (x := loc_index (by decide) sl_63 (by exact ⟨⟩) (by exact rfl) (by exact mkL_getc hlt rfl) (by exact rfl))
 exact h_.get) : G := w ⟨h⟩
theorem zf5 (h : H) (w : Hd H → G := by
 intro h_
 refine rA ?_ (x := loc_efield (by decide) fd_142_0 (by exact nl rfl))
 refine rA ?_ (x := loc_efield (by decide) fd_65_0 (by exact nl rfl))
 exact h_.get) : G := w ⟨h⟩
theorem zj8 (h : H) (w : Hd H → G := by
 intro h_
 refine rA ?_ (x := loc_const (.inr rfl) (by decide) (ok_nil (t := 3) (e := 1)))
 refine sw_seq ?_
 exact h_.get) : G := w ⟨h⟩
theorem za2 (h : H) (w : Hd H → G := by
 intro h_
 refine sS [0, 1, 4] [] ?_
 refine zgb ?_
 exact h_.get) : G := w ⟨h⟩
theorem zb6 (h : H) (w : Hd H → G := by
 intro h_
 refine sw_exit ?_
 refine sT [0, 2, 3, 4] [7] ?_
 exact h_.get) : G := w ⟨h⟩
theorem zs8 (h : H) (w : Hd H → G := by
 intro h_
 refine dA 6 ?_ (x := lF fd_40_4)
 refine dA 14 ?_ (x := loc_ltake (ms := [sl _ _]) (qs := [sl .v _]) (by decide) ty_37 (fun _ => rfl) (by exact nl rfl) (by exact rfl) (by exact (ToL.cons PV.to_none ToL.nil)) (by exact (BorL.cons (bor_sl _) BorL.nil)))
 exact h_.get) : G := w ⟨h⟩
theorem zkv (h : H) (w : Hd H → G := by
 intro h_
 refine dA 0 ?_ (x := lF fd_92_1)
 refine dA 1 ?_ (x := loc_ltake (ms := [sl _ _]) (qs := [sl .v _]) (by decide) ty_90 (fun _ => rfl) (by exact nl rfl) (by exact rfl) (by exact (ToL.cons PV.to_none ToL.nil)) (by exact (BorL.cons (bor_sl _) BorL.nil)))
 exact h_.get) : G := w ⟨h⟩
theorem znd (h : H) (w : Hd H → G := by
 intro h_
 refine dA 0 ?_ (x := lF fd_40_5)
 refine dA 1 ?_ (x := loc_ltake (ms := [sl _ _]) (qs := [sl .v _]) (by decide) ty_38 (fun _ => rfl) (by exact nl rfl) (by exact rfl) (by exact (ToL.cons PV.to_none ToL.nil)) (by exact (BorL.cons (bor_sl _) BorL.nil)))
 exact h_.get) : G := w ⟨h⟩
theorem zpn (h : H) (w : Hd H → G := by
 intro h_
 refine rA ?_ (x := lF fd_142_6)
 refine rA ?_ (x := loc_ltake (ms := [sl _ _]) (qs := [sl .v _]) (by decide) ty_93 (fun _ => rfl) (by exact nl rfl) (by exact rfl) (by exact (ToL.cons PV.to_none ToL.nil)) (by exact (BorL.cons (bor_sl _) BorL.nil)))
 exact h_.get) : G := w ⟨h⟩
theorem znj (h : H) (w : Hd H → G := by
 intro h_
 refine rA ?_ (x := lF fd_40_4)
 refine rA ?_ (x := loc_ltake (ms := [sl _ _]) (qs := [sl .v _]) (by decide) ty_37 (fun _ => rfl) (by exact nl rfl) (by exact rfl) (by exact (ToL.cons PV.to_none ToL.nil)) (by exact (BorL.cons (bor_sl _) BorL.nil)))
 exact h_.get) : G := w ⟨h⟩
theorem zs6 (h : H) (w : Hd H → G := by
 intro h_
 refine sO [(1, _), (2, _), (3, _), (4, _), (5, _), (6, _), (57, _), (58, _), (59, _), (145, _), (146, _), (147, _), (6200, _)] [(1, _), (2, _), (4, (40, [sl _ _, val _, val _, sl _ _, sl _ _, sl _ _, sl _ _, val _])), (6, _)] ?_
 refine sw_reg ?_
 exact h_.get) : G := w ⟨h⟩
theorem zo4 (h : H) (w : Hd H → G := by
 intro h_
 refine sO [(1, _), (2, _), (4, _), (5, _), (6, _), (7, _), (8, _), (9, _), (10, _), (2900, _), (6000, _)] [(2, (35, [sl (.lo _) _, val _])), (4, (35, [sl _ _, val _])), (6, (35, [val _, val _])), (900, (149, arr nVerS _ _))] ?_
 refine sw_reg ?_
 exact h_.get) : G := w ⟨h⟩
theorem zq1 (h : H) (w : Hd H → G := by
 intro h_
 refine zq8 ?_
 refine dA 1 ?_ (x := loc_nilchk (by decide))
 exact h_.get) : G := w ⟨h⟩
theorem zdd (h : H) (w : Hd H → G := by
 intro h_
 refine rA ?_ (x := cL [(true, [val _, val _, sl _ _, sl _ _]), (true, [val _, val _, sl _ _, sl _ _])] [(true, [val _, val _, sl .v _, sl .v _]), (true, [val _, val _, sl .v _, sl .v _])] c_87 (hs := by exact eq_Query))
 refine rA ?_ (x := nT)
 exact h_.get) : G := w ⟨h⟩
theorem zsc (h : H) (w : Hd H → G := by
 intro h_
 refine dA 0 ?_ (x := lF fd_142_6)
 refine dA 2048 ?_ (x := loc_load (qs := [nv _ (sl .v _)]) (by decide) ty_93 (fun _ => rfl) (by exact nl rfl) (by exact (ToL.cons (PV.To.refl _) ToL.nil)) (by exact (BorL.cons (bor_nv (bor_sl _)) BorL.nil)))
 exact h_.get) : G := w ⟨h⟩
theorem zft (h : H) (w : Hd H → G := by
 intro h_
 refine zee ?_
 refine sT [1, 2] [1] ?_
 exact h_.get) : G := w ⟨h⟩
theorem zb2 (h : H) (w : Hd H → G := by
 intro h_
 refine zae ?_
 refine rA ?_ (x := lN sl_25)
 refine rA ?_ (x := B_lss)
 exact h_.get) : G := w ⟨h⟩
theorem zd0 (h : H) (w : Hd H → G := by
 intro h_
 refine zac ?_
 refine rX ?_ (x := (loc_box (ag := true) (cs := [val _, sl _ _, val _, val _]) (by decide) (by exact ⟨⟩)))
 exact h_.get) : G := w ⟨h⟩
theorem zkz (h : H) (w : Hd H → G := by
 intro h_
 refine rA ?_ (x := lF fd_92_0)
 refine rA ?_ (x := lD [sl .v _] ty_89)
 exact h_.get) : G := w ⟨h⟩
theorem zaw (h : H) (w : Hd H → G := by
 intro h_
 refine rA ?_ (x := loc_index (by decide) sl_26 (by exact ⟨⟩) (by exact rfl) (by exact getm2 (by omega) rfl) (by exact rfl))
 refine rA ?_ (x := lE [val _, val _, sl .v _, sl .v _, val _, sl .v _, val _, val _, val _, sl .v _] ty_130)
 exact h_.get) : G := w ⟨h⟩
theorem zp7 (h : H) (w : Hd H → G := by
 intro h_
 refine Run.stepC 127 (by exact ⟨rfl, ⟨⟩⟩) (by exact ⟨⟩) (LocG.of rfl (loc_take (.inl rfl) (by decide))) nofree (by kernel_rfl) (by intro L' h; exact nomatch (show (none : Option Step) = some L' from h)) ?_
 refine Run.stepC 255 (by exact ⟨rfl, ⟨⟩⟩) (by exact ⟨⟩) (LocG.of rfl (loc_extractb (cs := [val _]) (by decide) (by exact rfl) (by exact (BorL.cons (bor_val _) BorL.nil)))) nofree (by kernel_rfl) (by intro L' h; exact nomatch (show (none : Option Step) = some L' from h)) ?_
 refine Run.stepC 255 (by exact ⟨rfl, ⟨⟩⟩) (by exact ⟨⟩) (LocG.of rfl (loc_extractb (cs := [val _]) (by decide) (by exact rfl) (by exact (BorL.cons (bor_val _) BorL.nil)))) nofree (by kernel_rfl) (by intro L' h; exact nomatch (show (none : Option Step) = some L' from h)) ?_
 exact h_.get) : G := w ⟨h⟩
theorem zsa (h : H) (w : Hd H → G := by
 intro h_
 refine dA 0 ?_ (x := lF fd_142_1)
 refine dA 128 ?_ (x := loc_load (qs := [val _]) (by decide) ty_3 (fun _ => rfl) (by exact nl rfl) (by exact (ToL.cons (PV.nv_to (PV.To.refl _)) ToL.nil)) (by exact (BorL.cons (bor_val _) BorL.nil)))
 exact h_.get) : G := w ⟨h⟩
theorem zsb (h : H) (w : Hd H → G := by
 intro h_
 refine dA 0 ?_ (x := lF fd_142_3)
 refine dA 512 ?_ (x := loc_load (qs := [val _]) (by decide) ty_3 (fun _ => rfl) (by exact nl rfl) (by exact (ToL.cons (PV.nv_to (PV.To.refl _)) ToL.nil)) (by exact (BorL.cons (bor_val _) BorL.nil)))
 exact h_.get) : G := w ⟨h⟩
theorem zpd (h : H) (w : Hd H → G := by
 intro h_
 refine zee ?_
 refine sO [(1, _), (2, _), (3, _)] [(1, (40, [sl (.lo _) _, val _, val _, sl (.lo _) _, sl (.lo _) _, sl (.lo _) _, sl (.lo _) _, val _])), (2, (40, [sl _ _, val _, val _, sl _ _, sl _ _, sl _ _, sl _ _, val _]))] ?_
 exact h_.get) : G := w ⟨h⟩
theorem zb5 (h : H) (w : Hd H → G := by
 intro h_
 refine sG [0, 2, 3, 4] [7] ?_
 refine ze0 ?_
 exact h_.get) : G := w ⟨h⟩
theorem zf4 (h : H) (w : Hd H → G := by
 intro h_
 refine sS [0, 1, 5] [] ?_
 refine zf9 ?_
 exact h_.get) : G := w ⟨h⟩
theorem zhz (h : H) (w : Hd H → G := by
 intro h_
 refine rA ?_ (x := tM)
 refine rA ?_ (x := tA)
 refine sw_ret ?_
 exact h_.get) : G := w ⟨h⟩
theorem znt (h : H) (w : Hd H → G := by
 intro h_
 refine rA ?_ (x := lF fd_35_0)
 refine rA ?_ (x := lD [val _] ty_33)
 exact h_.get) : G := w ⟨h⟩
theorem zfb (h : H) (w : Hd H → G := by
 intro h_
 refine zfc ?_
 refine rA ?_ (x := loc_efield (by decide) fd_144_0 (by exact nl rfl))
 exact h_.get) : G := w ⟨h⟩
theorem zmo (h : H) (w : Hd H → G := by
 intro h_
 refine rM ?_
 refine rA ?_ (x := cL [(true, [val _, val _, sl _ _, sl _ _]), (false, [val _]), (false, [val _])] [(true, [val _, val _, sl .v _, sl .v _]), (false, [val _]), (false, [val _])] c_210 (hs := by exact impl_admits))
 exact h_.get) : G := w ⟨h⟩
theorem zd4 (h : H) (w : Hd H → G := by
 intro h_
 refine rA ?_ (x := lF fd_65_0)
 refine rA ?_ (x := lD [val _] ty_3)
 exact h_.get) : G := w ⟨h⟩
theorem zmg (h : H) (w : Hd H → G := by
 intro h_
 refine sw_draw hm_ ?_
 refine dA 0 ?_ (x := lD [sl .v _, val _, val _, sl .v _, sl .v _, sl .v _, sl .v _, val _] ty_40)
 exact h_.get) : G := w ⟨h⟩
theorem zpv (h : H) (w : Hd H → G := by
 intro h_
 refine sO [(1, _), (2, _), (3, _), (4, _), (5, _), (6, _), (14, _), (57, _), (58, _), (59, _), (6200, _)] [(1, _), (2, _), (4, (40, [sl _ _, val _, val _, sl _ _, sl _ _, sl _ _, sl _ _, val _])), (6, _)] ?_
 refine sw_reg ?_
 exact h_.get) : G := w ⟨h⟩
theorem zgy (h : H) (w : Hd H → G := by
 intro h_
 refine rA ?_ (x := pkT ga)
 refine rM ?_
 exact h_.get) : G := w ⟨h⟩
theorem zhf (h : H) (w : Hd H → G := by
 intro h_
 refine rA ?_ (x := pkF ga)
 refine rM ?_
 exact h_.get) : G := w ⟨h⟩
theorem zi5 (h : H) (w : Hd H → G := by
 intro h_
 refine rA ?_ (x := tA)
 refine sw_seq ?_
 exact h_.get) : G := w ⟨h⟩
theorem zn3 (h : H) (w : Hd H → G := by
 intro h_
 refine dA 1 ?_ (x := lD [val _, val _, sl .v _, sl .v _] ty_65)
 refine dA 3 ?_ (x := cL [(true, [val _, val _, sl _ _, sl _ _])] [(true, [val _, val _, sl .v _, sl .v _])] c_163 (hs := by exact impl_copyQuery (by omega)))
 exact h_.get) : G := w ⟨h⟩
theorem zn7 (h : H) (w : Hd H → G := by
 intro h_
 refine rA ?_ (x := lD [val _] ty_3)
 refine rA ?_ (x := loc_build (qs := [(false, [val _])]) (cs := [sl _ _, val _]) (by decide) z_35 zo_35 FCpy_pl_35 (by exact rfl) (by exact (aI (by exact ⟨⟩) tI)) rfl (by exact rfl))
 exact h_.get) : G := w ⟨h⟩
theorem zgk (h : H) (w : Hd H → G := by
 intro h_
 refine sw_seq ?_
 refine sQ [1, 2] [1, 2] ?_
 refine sw_draw hm_ ?_
 exact h_.get) : G := w ⟨h⟩
theorem zhc (h : H) (w : Hd H → G := by
 intro h_
 refine zt g2 ?_
 refine rA ?_ (x := pkT g2)
 exact h_.get) : G := w ⟨h⟩
theorem zi7 (h : H) (w : Hd H → G := by
 intro h_
 refine dA 3 ?_ (x := loc_index (k := i) (by decide) sl_149 (by exact ⟨⟩) (by rfl) (by exact getm2 hlt2 (by rw [gDt_ (d := v0) hlt2])) (by exact rfl))
 refine dA 7 ?_ (x := lE [val _, sl .v _, val _, val _] ty_151)
 exact h_.get) : G := w ⟨h⟩
theorem zax (h : H) (w : Hd H → G := by
 intro h_
 refine rA ?_ (x := loc_index (by decide) sl_27 (by exact ⟨⟩) (by exact rfl) (by exact getm2 (by omega) rfl) (by exact rfl))
 refine rA ?_ (x := lE [val _, val _, sl .v _, sl .v _, val _, val _, sl .v _] ty_133)
 exact h_.get) : G := w ⟨h⟩
theorem zin (h : H) (w : Hd H → G := by
 intro h_
 refine sw_seq ?_
 refine sO [(1, _), (3, _), (5, _), (7, _), (9, _), (23, _), (24, _), (25, _), (32, _), (33, _), (34, _), (66, _), (67, _), (68, _)] [(1, _), (7, _), (9, (151, [val _, sl _ _, val _, val _]))] ?_
 exact h_.get) : G := w ⟨h⟩
theorem zj4 (h : H) (w : Hd H → G := by
 intro h_
 refine zki ?_
 refine sw_seq ?_
 exact h_.get) : G := w ⟨h⟩
theorem zqd (h : H) (w : Hd H → G := by
 intro h_
 refine rA ?_ (x := loc_rem (by decide) (by exact ⟨⟩) (by exact ⟨⟩) (by omega))
 refine rA ?_ (x := B_eql)
 exact h_.get) : G := w ⟨h⟩
theorem zri (h : H) (w : Hd H → G := by
 intro h_
 refine sw_reg ?_
 refine rA ?_ (x := lD [sl .v _, val _, val _, sl .v _, sl .v _, sl .v _, sl .v _, val _] ty_40)
 exact h_.get) : G := w ⟨h⟩
theorem zar (h : H) (w : Hd H → G := by
 intro h_
 refine rA ?_ (x := cL [(true, [val _, val _, sl _ _, sl _ _]), (false, [val _])] [(true, [val _, val _, sl .v _, sl .v _]), (false, [val _])] c_73 (hs := by exact sz_Query (by omega) (by omega)))
 refine zam ?_
 exact h_.get) : G := w ⟨h⟩
theorem zbt (h : H) (w : Hd H → G := by
 intro h_
 refine rA ?_ (x := lD [val _, val _, sl .v _, sl .v _] ty_53)
 refine rA ?_ (x := cL [(true, [val _, val _, sl _ _, sl _ _])] [(true, [val _, val _, sl .v _, sl .v _])] c_80 (hs := by exact to_Query (by omega)))
 exact h_.get) : G := w ⟨h⟩
theorem zim (h : H) (w : Hd H → G := by
 intro h_
 refine sT [1, 3, 5, 7, 23, 24, 25, 32, 33, 34, 66, 67, 68] [1, 7] ?_
 refine rA ?_ (x := loc_index (k := m) (by decide) sl_149 (by exact ⟨⟩) (by rfl) (by exact getm2 (by omega) (by rw [hsg])) (by exact rfl))
 exact h_.get) : G := w ⟨h⟩
theorem zii (h : H) (w : Hd H → G := by
 intro h_
 refine rB gb ?_ (x := lD [val _] ty_3)
 refine rB gb ?_ (x := cL [(false, [val _]), (false, [val _]), (false, [val _])] [(false, [val _]), (false, [val _]), (false, [val _])] c_114 (hs := by exact impl_within))
 exact h_.get) : G := w ⟨h⟩
theorem zlq (h : H) (w : Hd H → G := by
 intro h_
 refine rB gc ?_ (x := lD [val _] ty_3)
 refine rB gc ?_ (x := cL [(false, [val _]), (false, [val _]), (false, [val _])] [(false, [val _]), (false, [val _]), (false, [val _])] c_114 (hs := by exact impl_within))
 exact h_.get) : G := w ⟨h⟩
theorem ze4 (h : H) (w : Hd H → G := by
 intro h_
 refine sO [(0, _), (1, _), (4, _), (5, _)] [(999, (193, _ ++ ([val _, val _, val _] ++ _)))] ?_
 refine zdz ?_
 exact h_.get) : G := w ⟨h⟩
theorem zll (h : H) (w : Hd H → G := by
 intro h_
 refine rB ge ?_ (x := lD [val _] ty_3)
 refine rB ge ?_ (x := cL [(false, [val _]), (false, [val _]), (false, [val _])] [(false, [val _]), (false, [val _]), (false, [val _])] c_97 (hs := by exact spec_l1In))
 exact h_.get) : G := w ⟨h⟩
theorem zlv (h : H) (w : Hd H → G := by
 intro h_
 refine rB gd ?_ (x := lD [val _] ty_3)
 refine rB gd ?_ (x := cL [(false, [val _]), (false, [val _]), (false, [val _])] [(false, [val _]), (false, [val _]), (false, [val _])] c_97 (hs := by exact spec_l1In))
 exact h_.get) : G := w ⟨h⟩
theorem zn6 (h : H) (w : Hd H → G := by
 intro h_
 refine dA 192 ?_ (x := loc_index (by decide) sl_149 (by exact ⟨⟩) (by exact rfl) (by exact getm2 (by omega) rfl) (by exact rfl))
 refine dA 448 ?_ (x := loc_efield (by decide) fd_151_1 (by exact nl rfl))
 exact h_.get) : G := w ⟨h⟩
theorem zj1 (h : H) (w : Hd H → G := by
 intro h_
 refine dB 1023 gb ?_ (x := vM false [sl .v _])
 refine dB 1023 gb ?_ (x := sM)
 exact h_.get) : G := w ⟨h⟩
theorem zn5 (h : H) (w : Hd H → G := by
 intro h_
 refine dA 6 ?_ (x := loc_index (by decide) sl_149 (by exact ⟨⟩) (by exact rfl) (by exact getm2 (by omega) rfl) (by exact rfl))
 refine dA 14 ?_ (x := loc_efield (by decide) fd_151_0 (by exact nl rfl))
 exact h_.get) : G := w ⟨h⟩
theorem zai (h : H) (w : Hd H → G := by
 intro h_
 refine sS [0, 1, 5] [] ?_
 refine zgb ?_
 exact h_.get) : G := w ⟨h⟩
theorem zlf (h : H) (w : Hd H → G := by
 intro h_
 refine dA 7 ?_ (x := loc_index (k := k) (by decide) sl_25 (by exact ⟨⟩) (by rfl) (by exact getm2 (by omega) (by rw [gDt_ (d := 0) (by omega)])) (by exact rfl))
 refine dA 15 ?_ (x := lE [val _] ty_3)
 exact h_.get) : G := w ⟨h⟩
theorem zpz (h : H) (w : Hd H → G := by
 intro h_
 refine dA 0 ?_ (x := cM Cp.ptr)
 refine dA 2 ?_ (x := loc_nilchk (by decide))
 exact h_.get) : G := w ⟨h⟩
theorem zm2 (h : H) (w : Hd H → G := by
 intro h_
 refine rA ?_ (x := loc_store (ag := true) (vs := [val _, val _, sl _ _, sl _ _, val _, sl _ _, val _, val _, val _, sl _ _]) ty_142 (by exact ⟨⟩) (by exact rfl) (by exact nl rfl))
 refine sw_seq ?_
 exact h_.get) : G := w ⟨h⟩
theorem zag (h : H) (w : Hd H → G := by
 intro h_
 refine rA ?_ (x := loc_index (by decide) sl_28 (by exact ⟨⟩) (by exact rfl) (by exact getm2 (by omega) rfl) (by exact rfl))
 refine rA ?_ (x := lE [val _, val _, sl .v _, sl .v _, sl .v _] ty_136)
 exact h_.get) : G := w ⟨h⟩
theorem zec (h : H) (w : Hd H → G := by
 intro h_
 refine rM ?_
 refine rA ?_ (x := loc_hindex (by decide) sl_149 (by exact ⟨⟩) (by exact rfl) (by omega))
 exact h_.get) : G := w ⟨h⟩
theorem zq2 (h : H) (w : Hd H → G := by
 intro h_
 refine dA 0 ?_ (x := loc_copy (r' := RV.sv false [sl .v _]) (.inl rfl) (by decide) (by exact Cp.sv (ToL.cons (PV.nv_to PV.to_none) ToL.nil) (BorL.cons (bor_sl _) BorL.nil)))
 refine dA 0 ?_ (x := sM)
 exact h_.get) : G := w ⟨h⟩
theorem ze2 (h : H) (w : Hd H → G := by
 intro h_
 refine rM ?_
 refine rA ?_ (x := loc_hindex (by decide) sl_63 (by exact ⟨⟩) (by exact rfl) (by omega))
 exact h_.get) : G := w ⟨h⟩
theorem zjx (h : H) (w : Hd H → G := by
 intro h_
 refine rA ?_ (x := loc_index (by decide) sl_89 (by exact ⟨⟩) (by exact rfl) (by exact getm2 (by omega) rfl) (by exact rfl))
 refine rA ?_ (x := loc_efield (by decide) fd_65_0 (by exact nl rfl))
 exact h_.get) : G := w ⟨h⟩
theorem zo3 (h : H) (w : Hd H → G := by
 intro h_
 refine rA ?_ (x := lF fd_35_0)
 refine rA ?_ (x := lD [sl (.lo _) _] ty_33)
 exact h_.get) : G := w ⟨h⟩
theorem zjv (h : H) (w : Hd H → G := by
 intro h_
 refine rB gc ?_ (x := cL [(false, [val _]), (false, [val _]), (false, [val _])] [(false, [val _]), (false, [val _]), (false, [val _])] c_97 (hs := by exact spec_l1In))
 refine rA ?_ (x := pkT gc)
 exact h_.get) : G := w ⟨h⟩
theorem zhu (h : H) (w : Hd H → G := by
 intro h_
 refine rB gc ?_ (x := lF fd_151_3)
 refine rB gc ?_ (x := lD [val _] ty_3)
 exact h_.get) : G := w ⟨h⟩
theorem zj0 (h : H) (w : Hd H → G := by
 intro h_
 refine dA 15 ?_ (x := cL [(false, [val _]), (false, [val _]), (false, [val _])] [(false, [val _]), (false, [val _]), (false, [val _])] c_97 (hs := by exact spec_l1In))
 refine dA 31 ?_ (x := nT)
 exact h_.get) : G := w ⟨h⟩
theorem znm (h : H) (w : Hd H → G := by
 intro h_
 refine rM ?_
 refine rA ?_ (x := cL [(true, [val _, sl _ _, val _, val _]), (false, [val _])] [(true, [val _, sl .v _, val _, val _]), (false, [val _])] c_209 (hs := by exact impl_IsVisible))
 exact h_.get) : G := w ⟨h⟩
theorem zaj (h : H) (w : Hd H → G := by
 intro h_
 refine sw_skip ?_
 refine sG [0, 1, 5] [] ?_
 refine ze0 ?_
 exact h_.get) : G := w ⟨h⟩
theorem zan (h : H) (w : Hd H → G := by
 intro h_
 refine rA ?_ (x := loc_index (by decide) sl_195 (by exact ⟨⟩) (by exact rfl) (by exact getm2 (by omega) rfl) (by exact rfl))
 refine rA ?_ (x := lE [val _, sl .v _, val _, val _] ty_231)
 exact h_.get) : G := w ⟨h⟩
theorem zg3 (h : H) (w : Hd H → G := by
 intro h_
 refine rA ?_ (x := cL [(false, [val _]), (false, [val _]), (false, [val _])] [(false, [val _]), (false, [val _]), (false, [val _])] c_97 (hs := by exact spec_l1In))
 refine rA ?_ (x := nT)
 exact h_.get) : G := w ⟨h⟩
theorem zht (h : H) (w : Hd H → G := by
 intro h_
 refine zt gc ?_
 refine rA ?_ (x := pkT gc)
 exact h_.get) : G := w ⟨h⟩
theorem zbi (h : H) (w : Hd H → G := by
 intro h_
 refine sO [(1, _), (2, _), (3, _)] [(1, _), (2, _), (3, (66, [val _, sl _ _]))] ?_
 refine sw_reg ?_
 exact h_.get) : G := w ⟨h⟩
theorem zo7 (h : H) (w : Hd H → G := by
 intro h_
 refine sG [1, 2, 4, 5, 6, 7, 8, 9, 10, 11, 12, 13, 2900, 6000] [2, 4, 6, 11, 900] ?_
 refine ze0 ?_
 exact h_.get) : G := w ⟨h⟩
theorem znx (h : H) (w : Hd H → G := by
 intro h_
 refine rA ?_ (x := loc_store (ag := true) (vs := [nv _ (val _), nv _ (sl _ _), nv _ (val _), nv _ (val _)]) ty_151 (by exact ⟨⟩) (by exact rfl) (by exact nl rfl))
 refine sw_seq ?_
 exact h_.get) : G := w ⟨h⟩
theorem zia (h : H) (w : Hd H → G := by
 intro h_
 refine rA ?_ (x := cL [(false, [val _]), (false, [val _]), (false, [val _])] [(false, [val _]), (false, [val _]), (false, [val _])] c_114 (hs := by exact impl_within))
 refine zha ?_
 exact h_.get) : G := w ⟨h⟩
theorem zmu (h : H) (w : Hd H → G := by
 intro h_
 refine rA ?_ (x := loc_index (by decide) sl_205 (by exact ⟨⟩) (by exact rfl) (by exact getm2 (by omega) rfl) (by exact rfl))
 refine rA ?_ (x := lE [val _, val _, sl .v _] ty_234)
 exact h_.get) : G := w ⟨h⟩
theorem zcv (h : H) (w : Hd H → G := by
 intro h_
 refine rA ?_ (x := lD [sl .v _] ty_25)
 refine rA ?_ (x := cL [(false, [sl _ _]), (false, [sl _ _])] [(false, [sl .v _]), (false, [sl .v _])] c_16 (hs := by exact eq_IntS))
 refine rA ?_ (x := nT)
 exact h_.get) : G := w ⟨h⟩
theorem zff (h : H) (w : Hd H → G := by
 intro h_
 refine rM ?_
 refine rA ?_ (x := cL [(false, [val _]), (false, [val _]), (false, [val _])] [(false, [val _]), (false, [val _]), (false, [val _])] c_114 (hs := by exact impl_within))
 exact h_.get) : G := w ⟨h⟩
theorem zhi (h : H) (w : Hd H → G := by
 intro h_
 refine rA ?_ (x := loc_index (by decide) sl_63 (by exact ⟨⟩) (by exact rfl) (by exact getm2 (by omega) rfl) (by exact rfl))
 refine rA ?_ (x := lE [val _, val _, val _] ty_193)
 exact h_.get) : G := w ⟨h⟩
theorem zk6 (h : H) (w : Hd H → G := by
 intro h_
 refine rA ?_ (x := vM false [sl .v _])
 refine rA ?_ (x := lN sl_205)
 exact h_.get) : G := w ⟨h⟩
theorem zn4 (h : H) (w : Hd H → G := by
 intro h_
 refine sw_draw hm_ ?_
 refine dA 0 ?_ (x := tM)
 exact h_.get) : G := w ⟨h⟩
theorem zd9 (h : H) (w : Hd H → G := by
 intro h_
 refine rA ?_ (x := lN sl_93)
 refine rA ?_ (x := B_lss)
 exact h_.get) : G := w ⟨h⟩
theorem zl7 (h : H) (w : Hd H → G := by
 intro h_
 refine rX ?_ (x := (loc_box (ag := true) (cs := [val _, sl _ _]) (by decide) (by exact ⟨⟩)))
 refine rA ?_ (x := loc_const (.inr rfl) (by decide) (ok_nil (t := 3) (e := 1)))
 exact h_.get) : G := w ⟨h⟩
theorem zd8 (h : H) (w : Hd H → G := by
 intro h_
 refine rA ?_ (x := vM false [sl .v _])
 refine rA ?_ (x := lN sl_93)
 exact h_.get) : G := w ⟨h⟩
theorem zde (h : H) (w : Hd H → G := by
 intro h_
 refine rA ?_ (x := lF fd_142_1)
 refine rA ?_ (x := lD [val _] ty_3)
 exact h_.get) : G := w ⟨h⟩
theorem zmf (h : H) (w : Hd H → G := by
 intro h_
 refine zdo ?_
 refine rA ?_ (x := lN sl_36)
 refine rA ?_ (x := B_lss)
 exact h_.get) : G := w ⟨h⟩
theorem znp (h : H) (w : Hd H → G := by
 intro h_
 refine sw_reg ?_
 refine rA ?_ (x := lD [sl (.lo _) _, val _] ty_35)
 exact h_.get) : G := w ⟨h⟩
theorem zao (h : H) (w : Hd H → G := by
 intro h_
 refine rA ?_ (x := loc_index (by decide) sl_128 (by exact ⟨⟩) (by exact rfl) (by exact getm2 (by omega) rfl) (by exact rfl))
 refine rA ?_ (x := lE [val _, sl .v _] ty_55)
 exact h_.get) : G := w ⟨h⟩
theorem zbr (h : H) (w : Hd H → G := by
 intro h_
 refine sR ?_
 refine rA ?_ (x := loc_const (.inr rfl) (by decide) (ok_nil (t := 66) (e := 2)))
 exact h_.get) : G := w ⟨h⟩
theorem zci (h : H) (w : Hd H → G := by
 intro h_
 refine zdx ?_
 refine sP [0, 1, 5] [] ?_
 refine sw_draw hm_ ?_
 refine zck ?_
 exact h_.get) : G := w ⟨h⟩
theorem zdi (h : H) (w : Hd H → G := by
 intro h_
 refine rA ?_ (x := lD [sl .v _] ty_93)
 refine rA ?_ (x := cL [(false, [sl _ _]), (false, [sl _ _])] [(false, [sl .v _]), (false, [sl .v _])] c_202 (hs := by exact eq_RowS))
 exact h_.get) : G := w ⟨h⟩
theorem zdr (h : H) (w : Hd H → G := by
 intro h_
 refine rA ?_ (x := lF fd_40_6)
 refine rA ?_ (x := lD [val _] ty_3)
 exact h_.get) : G := w ⟨h⟩
theorem zdb (h : H) (w : Hd H → G := by
 intro h_
 refine rX ?_ (x := (loc_box (ag := true) (cs := [val _, val _, sl _ _, sl _ _, val _, sl _ _, val _, val _, val _, sl _ _]) (by decide) (by exact ⟨⟩)))
 refine zcp ?_
 exact h_.get) : G := w ⟨h⟩
theorem zf7 (h : H) (w : Hd H → G := by
 intro h_
 refine rA ?_ (x := cL [(false, [sl _ _]), (false, [val _])] [(false, [sl .v _]), (false, [val _])] c_136 (hs := by exact held_CondS (by omega) (by omega)))
 refine zjk ?_
 exact h_.get) : G := w ⟨h⟩
theorem zij (h : H) (w : Hd H → G := by
 intro h_
 refine rA ?_ (x := pkF gb)
 refine rM ?_
 exact h_.get) : G := w ⟨h⟩
theorem zp5 (h : H) (w : Hd H → G := by
 intro h_
 refine rB ga ?_ (x := lD [sl .v _, sl .v _] ty_92)
 refine rB ga ?_ (x := cL [(true, [sl _ _, sl _ _])] [(true, [sl .v _, sl .v _])] c_106 (hs := by exact spec_IsIndex))
 exact h_.get) : G := w ⟨h⟩
theorem zap (h : H) (w : Hd H → G := by
 intro h_
 refine rA ?_ (x := loc_index (by decide) sl_22 (by exact ⟨⟩) (by exact rfl) (by exact getm2 (by omega) rfl) (by exact rfl))
 refine rA ?_ (x := lE [sl .v _] ty_195)
 exact h_.get) : G := w ⟨h⟩
theorem zat (h : H) (w : Hd H → G := by
 intro h_
 refine rA ?_ (x := cL [(false, [sl _ _]), (false, [val _])] [(false, [sl .v _]), (false, [val _])] c_169 (hs := by exact sz_RowS (by omega) (by omega)))
 refine zam ?_
 exact h_.get) : G := w ⟨h⟩
theorem zfa (h : H) (w : Hd H → G := by
 intro h_
 refine rM ?_
 refine rA ?_ (x := cL [(false, [sl _ _]), (false, [val _])] [(false, [sl .v _]), (false, [val _])] c_137 (hs := by exact held_RowS (by omega) (by omega)))
 exact h_.get) : G := w ⟨h⟩
theorem zqr (h : H) (w : Hd H → G := by
 intro h_
 refine rA ?_ (x := loc_index (by decide) sl_167 (by exact ⟨⟩) (by exact rfl) (by exact getm2 (by omega) rfl) (by exact rfl))
 refine rA ?_ (x := lE [sl .v _] ty_25)
 exact h_.get) : G := w ⟨h⟩
theorem zqs (h : H) (w : Hd H → G := by
 intro h_
 refine dA 0 ?_ (x := lD [sl .v _, sl .v _] ty_92)
 refine dA 0 ?_ (x := vM false [sl .v _])
 exact h_.get) : G := w ⟨h⟩
theorem zcu (h : H) (w : Hd H → G := by
 intro h_
 refine sw_skip ?_
 refine sS [2, 3, 4] [2, 3] ?_
 refine zgb ?_
 exact h_.get) : G := w ⟨h⟩
theorem zhh (h : H) (w : Hd H → G := by
 intro h_
 refine zf2 ?_
 refine sS [1, 2] [1] ?_
 exact h_.get) : G := w ⟨h⟩
theorem zp1 (h : H) (w : Hd H → G := by
 intro h_
 refine rA ?_ (x := lD [sl .v _, sl .v _] ty_92)
 refine rA ?_ (x := cL [(true, [sl _ _, sl _ _])] [(true, [sl .v _, sl .v _])] c_124 (hs := by exact impl_IsIndex))
 exact h_.get) : G := w ⟨h⟩
theorem zsf (h : H) (w : Hd H → G := by
 intro h_
 refine dA 131071 ?_ (x := lF fd_40_4)
 refine dA 262143 ?_ (x := loc_store (ag := false) (vs := [sl _ _]) ty_37 (by exact ⟨⟩) (by exact rfl) (by exact nl rfl))
 exact h_.get) : G := w ⟨h⟩
theorem ziu (h : H) (w : Hd H → G := by
 intro h_
 refine zt g3 ?_
 refine rA ?_ (x := pkT g3)
 exact h_.get) : G := w ⟨h⟩
theorem zch (h : H) (w : Hd H → G := by
 intro h_
 refine zf2 ?_
 refine sS [0, 1, 4] [] ?_
 refine zhx ?_
 refine sP [0, 1, 4, 5] [] ?_
 refine sL [0, 1] [] (fun k : Nat => k ≤ x.length ∧ x.take k = y.take k) (fun k : Nat => [(5, RV.int (k : Int))]) (fun k : Nat => []) (fun k : Nat => x.length - k) 0 (by exact ⟨by omega, by simp⟩) (by exact aI (by exact rfl) (tI)) (by exact ⟨⟩) ?_
 exact h_.get) : G := w ⟨h⟩
theorem zej (h : H) (w : Hd H → G := by
 intro h_
 refine zcd ?_
 refine zkf ?_
 exact h_.get) : G := w ⟨h⟩
theorem zeq (h : H) (w : Hd H → G := by
 intro h_
 refine zeu ?_
 refine sw_seq ?_
 exact h_.get) : G := w ⟨h⟩
theorem zgd (h : H) (w : Hd H → G := by
 intro h_
 refine zcd ?_
 refine sS [0, 2] [] ?_
 exact h_.get) : G := w ⟨h⟩
theorem zm8 (h : H) (w : Hd H → G := by
 intro h_
 refine rA ?_ (x := cL [(true, [val _, val _, sl _ _, sl _ _])] [(true, [val _, val _, sl .v _, sl .v _])] c_117 (hs := by exact impl_IsQuery))
 refine zha ?_
 exact h_.get) : G := w ⟨h⟩
theorem znn (h : H) (w : Hd H → G := by
 intro h_
 refine rX ?_ (x := (loc_box (ag := true) (cs := [sl (.lo _) _, val _]) (by decide) (by exact ⟨⟩)))
 refine rX ?_ (x := (loc_alloc (by decide) z_35 zo_35))
 exact h_.get) : G := w ⟨h⟩
theorem zbl (h : H) (w : Hd H → G := by
 intro h_
 refine rA ?_ (x := loc_store (ag := true) (vs := [val _, sl _ _, val _, val _]) ty_151 (by exact ⟨⟩) (by exact rfl) (by exact nl rfl))
 refine sw_ret ?_
 exact h_.get) : G := w ⟨h⟩
theorem zga (h : H) (w : Hd H → G := by
 intro h_
 refine rA ?_ (x := lD [val _, sl .v _] ty_66)
 refine rA ?_ (x := cL [(true, [val _, sl _ _])] [(true, [val _, sl .v _])] c_125 (hs := by exact impl_IsRow))
 exact h_.get) : G := w ⟨h⟩
theorem zgl (h : H) (w : Hd H → G := by
 intro h_
 refine dA 4 ?_ (x := lD [sl .v _] ty_25)
 refine dA 12 ?_ (x := cL [(false, [sl _ _])] [(false, [sl .v _])] c_134 (hs := by exact impl_copyInts (by omega)))
 exact h_.get) : G := w ⟨h⟩
theorem zn0 (h : H) (w : Hd H → G := by
 intro h_
 refine dA 8 ?_ (x := lD [sl .v _] ty_25)
 refine dA 31 ?_ (x := cL [(false, [sl _ _])] [(false, [sl .v _])] c_134 (hs := by exact impl_copyInts (by omega)))
 exact h_.get) : G := w ⟨h⟩
theorem zh6 (h : H) (w : Hd H → G := by
 intro h_
 refine dA 0 ?_ (x := sM)
 refine dA 7 ?_ (x := loc_index (by decide) sl_63 (by exact ⟨⟩) (by exact rfl) (by exact getm2 (by omega) rfl) (by exact rfl))
 exact h_.get) : G := w ⟨h⟩
theorem zah (h : H) (w : Hd H → G := by
 intro h_
 refine rS ?_
 refine zf8 ?_
 exact h_.get) : G := w ⟨h⟩
theorem zeg (h : H) (w : Hd H → G := by
 intro h_
 refine rA ?_ (x := loc_storeM (o := 4) (ag := false) (vs := [val _]) (by omega) ty_3 (by exact ⟨⟩) (by exact rfl) (by exact nl rfl))
 refine sw_seq ?_
 exact h_.get) : G := w ⟨h⟩
theorem zrb (h : H) (w : Hd H → G := by
 intro h_
 refine sO [(1, _), (2, _), (4, _), (5, _)] [(2, _), (4, _), (5, (40, [sl _ _, val _, val _, sl _ _, sl _ _, sl _ _, sl _ _, val _]))] ?_
 refine sw_reg ?_
 exact h_.get) : G := w ⟨h⟩
theorem zka (h : H) (w : Hd H → G := by
 intro h_
 refine rA ?_ (x := loc_gidx (k := ((spansTo l f k).length - 1)) (G := 2900) (by decide) sl_205 (by exact ⟨⟩) (by omega) (by first | (rw [List.length_map]; exact hl1) | exact hl1))
 refine rA ?_ (x := lF fd_234_1)
 refine rA ?_ (x := loc_storeM (o := 1) (ag := false) (vs := [val _]) (by omega) ty_3 (by exact ⟨⟩) (by exact rfl) (by exact nl rfl))
 exact h_.get) : G := w ⟨h⟩
theorem zpg (h : H) (w : Hd H → G := by
 intro h_
 refine zie ?_
 refine sO [(1, _), (2, _), (3, _), (4, _)] [(1, _), (2, _), (4, (40, [sl _ _, val _, val _, sl _ _, sl _ _, sl _ _, sl _ _, val _]))] ?_
 exact h_.get) : G := w ⟨h⟩
theorem zmv (h : H) (w : Hd H → G := by
 intro h_
 refine rA ?_ (x := lD [sl .v _] ty_25)
 refine rA ?_ (x := cL [(false, [sl _ _])] [(false, [sl .v _])] c_134 (hs := by exact impl_copyInts (by omega)))
 exact h_.get) : G := w ⟨h⟩
theorem zc0 (h : H) (w : Hd H → G := by
 intro h_
 refine rA ?_ (x := lF fd_144_3)
 refine rA ?_ (x := loc_store (ag := false) (vs := [sl _ _]) ty_93 (by exact ⟨⟩) (by exact rfl) (by exact nl rfl))
 exact h_.get) : G := w ⟨h⟩
theorem zc2 (h : H) (w : Hd H → G := by
 intro h_
 refine rX ?_ (x := (loc_alloc (by decide) z_35 zo_35))
 refine sT [1, 2] [1, 2] ?_
 exact h_.get) : G := w ⟨h⟩
theorem zfq (h : H) (w : Hd H → G := by
 intro h_
 refine zgf ?_
 refine rA ?_ (x := cL [(false, [sl _ _]), (false, [val _])] [(false, [sl .v _]), (false, [val _])] c_189 (hs := by exact impl_hasInt))
 exact h_.get) : G := w ⟨h⟩
theorem zbo (h : H) (w : Hd H → G := by
 intro h_
 refine rA ?_ (x := lF fd_65_2)
 refine rA ?_ (x := loc_store (ag := false) (vs := [sl _ _]) ty_63 (by exact ⟨⟩) (by exact rfl) (by exact nl rfl))
 exact h_.get) : G := w ⟨h⟩
theorem zc4 (h : H) (w : Hd H → G := by
 intro h_
 refine rA ?_ (x := lF fd_35_0)
 refine rA ?_ (x := loc_store (ag := false) (vs := [sl _ _]) ty_33 (by exact ⟨⟩) (by exact rfl) (by exact nl rfl))
 exact h_.get) : G := w ⟨h⟩
theorem zcb (h : H) (w : Hd H → G := by
 intro h_
 refine rA ?_ (x := lF fd_40_5)
 refine rA ?_ (x := loc_store (ag := false) (vs := [sl _ _]) ty_38 (by exact ⟨⟩) (by exact rfl) (by exact nl rfl))
 exact h_.get) : G := w ⟨h⟩
theorem zge (h : H) (w : Hd H → G := by
 intro h_
 refine zhx ?_
 refine sP [0, 2, 3] [] ?_
 exact h_.get) : G := w ⟨h⟩
theorem zgh (h : H) (w : Hd H → G := by
 intro h_
 refine sw_skip ?_
 refine sG [0, 3] [] ?_
 exact h_.get) : G := w ⟨h⟩
theorem zgi (h : H) (w : Hd H → G := by
 intro h_
 refine sw_exit ?_
 refine sS [0, 3] [] ?_
 exact h_.get) : G := w ⟨h⟩
theorem zk9 (h : H) (w : Hd H → G := by
 intro h_
 refine sO [(0, _), (1, _), (4, _), (5, _), (6, _), (7, _), (8, _), (2900, _)] [(900, (234, _ ++ ([val _, val _, sl _ _] ++ _)))] ?_
 refine sw_reg ?_
 exact h_.get) : G := w ⟨h⟩
theorem zng (h : H) (w : Hd H → G := by
 intro h_
 refine rA ?_ (x := lD [sl .v _] ty_93)
 refine rA ?_ (x := cL [(false, [sl _ _])] [(false, [sl .v _])] c_140 (hs := by exact spec_l9Rows (by omega)))
 exact h_.get) : G := w ⟨h⟩
theorem zhj (h : H) (w : Hd H → G := by
 intro h_
 refine rA ?_ (x := loc_store (ag := true) (vs := [val _, val _, val _]) ty_193 (by exact ⟨⟩) (by exact rfl) (by exact nl rfl))
 refine sw_seq ?_
 exact h_.get) : G := w ⟨h⟩
theorem zm3 (h : H) (w : Hd H → G := by
 intro h_
 refine dA 0 ?_ (x := lF fd_40_0)
 refine dA 1 ?_ (x := lD [sl .v _, val _] ty_35)
 exact h_.get) : G := w ⟨h⟩
theorem zns (h : H) (w : Hd H → G := by
 intro h_
 refine sO [(1, _), (2, _), (4, _), (5, _), (6, _), (2900, _), (6000, _)] [(2, _), (4, _), (6, _), (900, (149, arr nVerS _ _))] ?_
 refine sw_reg ?_
 exact h_.get) : G := w ⟨h⟩
theorem zqi (h : H) (w : Hd H → G := by
 intro h_
 refine rA ?_ (x := lF fd_40_1)
 refine rA ?_ (x := loc_store (ag := false) (vs := [val _]) ty_3 (by exact ⟨⟩) (by exact rfl) (by exact nl rfl))
 exact h_.get) : G := w ⟨h⟩
theorem zqj (h : H) (w : Hd H → G := by
 intro h_
 refine rA ?_ (x := lF fd_40_6)
 refine rA ?_ (x := loc_store (ag := false) (vs := [val _]) ty_3 (by exact ⟨⟩) (by exact rfl) (by exact nl rfl))
 exact h_.get) : G := w ⟨h⟩
theorem zbw (h : H) (w : Hd H → G := by
 intro h_
 refine rA ?_ (x := lD [sl .v _] ty_128)
 refine rA ?_ (x := cL [(false, [sl _ _])] [(false, [sl .v _])] c_187 (hs := by exact to_RowS (by omega)))
 exact h_.get) : G := w ⟨h⟩
theorem zln (h : H) (w : Hd H → G := by
 intro h_
 refine rA ?_ (x := lF fd_142_2)
 refine zfu ?_
 exact h_.get) : G := w ⟨h⟩
theorem zp3 (h : H) (w : Hd H → G := by
 intro h_
 refine rB ga ?_ (x := vM false [sl .v _])
 refine rB ga ?_ (x := cL [(false, [sl _ _])] [(false, [sl .v _])] c_115 (hs := by exact impl_isOrder))
 exact h_.get) : G := w ⟨h⟩
theorem zcw (h : H) (w : Hd H → G := by
 intro h_
 refine zcd ?_
 refine zmt ?_
 exact h_.get) : G := w ⟨h⟩
theorem zdt (h : H) (w : Hd H → G := by
 intro h_
 refine zj5 ?_
 refine rM ?_
 refine rA ?_ (x := loc_copy (r' := RV.sv false [sl .v _]) (.inl rfl) (by decide) (by exact Cp.sv (ToL.cons (PV.nv_to PV.to_none) ToL.nil) (BorL.cons (bor_sl _) BorL.nil)))
 exact h_.get) : G := w ⟨h⟩
theorem zp0 (h : H) (w : Hd H → G := by
 intro h_
 refine rA ?_ (x := vM false [sl .v _])
 refine rA ?_ (x := cL [(false, [sl _ _])] [(false, [sl .v _])] c_105 (hs := by exact spec_BuildIndex))
 exact h_.get) : G := w ⟨h⟩
theorem zqt (h : H) (w : Hd H → G := by
 intro h_
 refine rA ?_ (x := vM false [sl .v _])
 refine rA ?_ (x := vA false [sl .v _])
 exact h_.get) : G := w ⟨h⟩
theorem zrw (h : H) (w : Hd H → G := by
 intro h_
 refine rA ?_ (x := loc_store (ag := true) (vs := [sl _ _, sl _ _]) ty_92 (by exact ⟨⟩) (by exact rfl) (by exact nl rfl))
 refine sw_ret ?_
 exact h_.get) : G := w ⟨h⟩
theorem zn1 (h : H) (w : Hd H → G := by
 intro h_
 refine dA 16383 ?_ (x := loc_store (ag := false) (vs := [sl _ _]) ty_25 (by exact ⟨⟩) (by exact rfl) (by exact nl rfl))
 refine sw_seq ?_
 exact h_.get) : G := w ⟨h⟩
theorem zea (h : H) (w : Hd H → G := by
 intro h_
 refine sw_seq ?_
 refine zeb ?_
 exact h_.get) : G := w ⟨h⟩
theorem zfn (h : H) (w : Hd H → G := by
 intro h_
 refine zb4 ?_
 refine rS ?_
 exact h_.get) : G := w ⟨h⟩
theorem zib (h : H) (w : Hd H → G := by
 intro h_
 refine rA ?_ (x := vA false [sl .v _])
 refine sw_seq ?_
 exact h_.get) : G := w ⟨h⟩
theorem zf0 (h : H) (w : Hd H → G := by
 intro h_
 refine zek ?_
 refine rA ?_ (x := loc_index (by decide) sl_93 (by exact ⟨⟩) (by exact rfl) (by exact mkL_getc hlt rfl) (by exact rfl))
 exact h_.get) : G := w ⟨h⟩
theorem zio (h : H) (w : Hd H → G := by
 intro h_
 refine rA ?_ (x := B_eql)
 refine rM ?_
 exact h_.get) : G := w ⟨h⟩
theorem zot (h : H) (w : Hd H → G := by
 intro h_
 refine dA 2 ?_ (x := lD [sl .v _] ty_36)
 refine dA 0 ?_ (x := lD [sl .v _, val _, val _, sl .v _, sl .v _, sl .v _, sl .v _, val _] ty_40)
 exact h_.get) : G := w ⟨h⟩
theorem zcx (h : H) (w : Hd H → G := by
 intro h_
 refine rA ?_ (x := lN sl_63)
 refine rA ?_ (x := B_lss)
 exact h_.get) : G := w ⟨h⟩
theorem zd3 (h : H) (w : Hd H → G := by
 intro h_
 refine rA ?_ (x := lN sl_38)
 refine rA ?_ (x := B_lss)
 exact h_.get) : G := w ⟨h⟩
theorem zdl (h : H) (w : Hd H → G := by
 intro h_
 refine rA ?_ (x := lN sl_37)
 refine rA ?_ (x := B_lss)
 exact h_.get) : G := w ⟨h⟩
theorem zj9 (h : H) (w : Hd H → G := by
 intro h_
 refine rA ?_ (x := lD [sl .v _] ty_25)
 refine rA ?_ (x := cL [(false, [sl _ _])] [(false, [sl .v _])] c_193 (hs := by exact impl_IsSet))
 exact h_.get) : G := w ⟨h⟩
theorem zjn (h : H) (w : Hd H → G := by
 intro h_
 refine rA ?_ (x := lN sl_89)
 refine rA ?_ (x := B_lss)
 exact h_.get) : G := w ⟨h⟩
theorem zos (h : H) (w : Hd H → G := by
 intro h_
 refine rX ?_ (x := (loc_alloc (by decide) z_92 zo_92))
 refine rA ?_ (x := loc_const (.inr rfl) (by decide) (ok_nil (t := 66) (e := 2)))
 exact h_.get) : G := w ⟨h⟩
theorem zq5 (h : H) (w : Hd H → G := by
 intro h_
 refine dA 96 ?_ (x := lF fd_40_3)
 refine dA 224 ?_ (x := lD [val _] ty_36)
 exact h_.get) : G := w ⟨h⟩
theorem zfo (h : H) (w : Hd H → G := by
 intro h_
 refine rM ?_
 refine rM ?_
 exact h_.get) : G := w ⟨h⟩
theorem zgs (h : H) (w : Hd H → G := by
 intro h_
 refine zhx ?_
 refine sP [0, 2, 3, 4] [] ?_
 exact h_.get) : G := w ⟨h⟩
theorem zgx (h : H) (w : Hd H → G := by
 intro h_
 refine rB ga ?_ (x := lF fd_193_1)
 refine rB ga ?_ (x := lD [val _] ty_3)
 exact h_.get) : G := w ⟨h⟩
theorem zhs (h : H) (w : Hd H → G := by
 intro h_
 refine rB gb ?_ (x := lF fd_151_3)
 refine rB gb ?_ (x := lD [val _] ty_3)
 exact h_.get) : G := w ⟨h⟩
theorem zja (h : H) (w : Hd H → G := by
 intro h_
 refine zhp ?_
 refine scT ?_
 exact h_.get) : G := w ⟨h⟩
theorem zl2 (h : H) (w : Hd H → G := by
 intro h_
 refine dA 0 ?_ (x := lF fd_92_1)
 refine dA 1 ?_ (x := lD [sl .v _] ty_90)
 exact h_.get) : G := w ⟨h⟩
theorem zpt (h : H) (w : Hd H → G := by
 intro h_
 refine rA ?_ (x := loc_store (ag := false) (vs := [sl _ _]) ty_25 (by exact ⟨⟩) (by exact rfl) (by exact nl rfl))
 refine zps ?_
 exact h_.get) : G := w ⟨h⟩
theorem zlu (h : H) (w : Hd H → G := by
 intro h_
 refine rB ga ?_ (x := lD [val _] ty_3)
 refine rB ga ?_ (x := lF fd_40_0)
 exact h_.get) : G := w ⟨h⟩
theorem zbb (h : H) (w : Hd H → G := by
 intro h_
 refine za4 ?_
 refine rX ?_ (x := (loc_alloc (by decide) z_148 zo_148))
 exact h_.get) : G := w ⟨h⟩
theorem zgo (h : H) (w : Hd H → G := by
 intro h_
 refine sw_seq ?_
 refine sS [0, 2, 3] [] ?_
 exact h_.get) : G := w ⟨h⟩
theorem zh2 (h : H) (w : Hd H → G := by
 intro h_
 refine zf gc ?_
 refine rA ?_ (x := pkF gc)
 exact h_.get) : G := w ⟨h⟩
theorem zlc (h : H) (w : Hd H → G := by
 intro h_
 refine zt g6 ?_
 refine rA ?_ (x := pkT g6)
 exact h_.get) : G := w ⟨h⟩
theorem zq4 (h : H) (w : Hd H → G := by
 intro h_
 refine dA 3 ?_ (x := lF fd_40_3)
 refine dA 7 ?_ (x := lD [val _] ty_36)
 exact h_.get) : G := w ⟨h⟩
theorem zqh (h : H) (w : Hd H → G := by
 intro h_
 refine rA ?_ (x := loc_rem (by decide) (by exact ⟨⟩) (by exact ⟨⟩) (by omega))
 refine rA ?_ (x := loc_nilchk (by decide))
 exact h_.get) : G := w ⟨h⟩
theorem zgw (h : H) (w : Hd H → G := by
 intro h_
 refine rK ?_
 refine sT [1, 2] [1] ?_
 exact h_.get) : G := w ⟨h⟩
theorem zi6 (h : H) (w : Hd H → G := by
 intro h_
 refine sw_draw hm_ ?_
 refine zck ?_
 exact h_.get) : G := w ⟨h⟩
theorem zdf (h : H) (w : Hd H → G := by
 intro h_
 refine rA ?_ (x := lF fd_142_2)
 refine rA ?_ (x := lD [sl .v _] ty_25)
 exact h_.get) : G := w ⟨h⟩
theorem za0 (h : H) (w : Hd H → G := by
 intro h_
 refine sR ?_
 refine rK ?_
 refine sS [0, 1, 4] [] ?_
 refine zmz ?_
 exact h_.get) : G := w ⟨h⟩
theorem za1 (h : H) (w : Hd H → G := by
 intro h_
 refine rA ?_ (x := B_sub)
 refine zjk ?_
 refine sS [0, 1, 4] [] ?_
 refine zi8 ?_
 exact h_.get) : G := w ⟨h⟩
theorem za6 (h : H) (w : Hd H → G := by
 intro h_
 refine rA ?_ (x := lD [sl .v _] ty_25)
 refine rM ?_
 refine rA ?_ (x := cL [(false, [sl _ _]), (false, [val _])] [(false, [sl .v _]), (false, [val _])] c_38 (hs := by exact sz_IntS (by omega) (by omega)))
 refine zam ?_
 exact h_.get) : G := w ⟨h⟩
theorem za9 (h : H) (w : Hd H → G := by
 intro h_
 refine za8 ?_
 refine za3 ?_
 exact h_.get) : G := w ⟨h⟩
theorem zaf (h : H) (w : Hd H → G := by
 intro h_
 refine zed ?_
 refine zek ?_
 exact h_.get) : G := w ⟨h⟩
theorem zb1 (h : H) (w : Hd H → G := by
 intro h_
 refine rA ?_ (x := cA Cp.hdr)
 refine sw_seq ?_
 refine sT [0, 2, 3] [7] ?_
 refine zhx ?_
 refine sP [0, 2, 3, 4] [7] ?_
 exact h_.get) : G := w ⟨h⟩
theorem zbh (h : H) (w : Hd H → G := by
 intro h_
 refine zaa ?_
 refine rX ?_ (x := (loc_alloc (by decide) z_66 zo_66))
 exact h_.get) : G := w ⟨h⟩
theorem zbm (h : H) (w : Hd H → G := by
 intro h_
 refine zal ?_
 refine rX ?_ (x := (loc_alloc (by decide) z_65 zo_65))
 exact h_.get) : G := w ⟨h⟩
theorem zds (h : H) (w : Hd H → G := by
 intro h_
 refine sS [0, 1] [] ?_
 refine zee ?_
 refine sS [0, 1, 4] [] ?_
 refine zhx ?_
 refine sP [0, 1, 4, 5] [] ?_
 refine sL [0, 4] [] (fun _ : Unit => True) (fun _ : Unit => [(1, RV.int k), (5, RV.int 0)]) (fun _ : Unit => []) (fun _ : Unit => 0) () tI (by exact aI (by exact rfl) (aI (by exact rfl) (tI))) (by exact ⟨⟩) ?_
 exact h_.get) : G := w ⟨h⟩
theorem zdv (h : H) (w : Hd H → G := by
 intro h_
 refine sT [0, 1] [999] ?_
 refine zee ?_
 refine sS [0, 1, 4] [999] ?_
 refine zhx ?_
 refine sP [0, 1, 4, 5] [999] ?_
 exact h_.get) : G := w ⟨h⟩
theorem zdw (h : H) (w : Hd H → G := by
 intro h_
 refine zj5 ?_
 refine rM ?_
 refine rA ?_ (x := loc_copy (.inl rfl) (by decide) (by exact Cp.nm Cp.hdr))
 exact h_.get) : G := w ⟨h⟩
theorem zg1 (h : H) (w : Hd H → G := by
 intro h_
 refine zhx ?_
 refine sP [1, 2, 3] [1] ?_
 exact h_.get) : G := w ⟨h⟩
theorem zg4 (h : H) (w : Hd H → G := by
 intro h_
 refine sw_skip ?_
 refine sG [1, 3] [1] ?_
 exact h_.get) : G := w ⟨h⟩
theorem zh4 (h : H) (w : Hd H → G := by
 intro h_
 refine zfz ?_
 refine rM ?_
 exact h_.get) : G := w ⟨h⟩
theorem zhb (h : H) (w : Hd H → G := by
 intro h_
 refine zhp ?_
 refine rM ?_
 exact h_.get) : G := w ⟨h⟩
theorem zgg (h : H) (w : Hd H → G := by
 intro h_
 refine zg8 ?_
 refine rA ?_ (x := cL [(true, [val _, sl _ _])] [(true, [val _, sl .v _])] c_107 (hs := by exact spec_IsRow))
 exact h_.get) : G := w ⟨h⟩
theorem zjy (h : H) (w : Hd H → G := by
 intro h_
 refine rA ?_ (x := lE [val _] ty_3)
 refine zj6 ?_
 exact h_.get) : G := w ⟨h⟩
theorem zno (h : H) (w : Hd H → G := by
 intro h_
 refine zee ?_
 refine sO [(1, _), (2, _), (4, _), (5, _)] [(2, (35, [sl (.lo _) _, val _])), (4, (35, [sl _ _, val _]))] ?_
 exact h_.get) : G := w ⟨h⟩
theorem zce (h : H) (w : Hd H → G := by
 intro h_
 refine sS [0, 1, 4] [] ?_
 refine zb0 ?_
 exact h_.get) : G := w ⟨h⟩
theorem zcq (h : H) (w : Hd H → G := by
 intro h_
 refine rA ?_ (x := lF fd_193_0)
 refine rA ?_ (x := lD [val _] ty_3)
 exact h_.get) : G := w ⟨h⟩
theorem zd2 (h : H) (w : Hd H → G := by
 intro h_
 refine rA ?_ (x := lF fd_151_2)
 refine rA ?_ (x := lD [val _] ty_3)
 exact h_.get) : G := w ⟨h⟩
theorem zdh (h : H) (w : Hd H → G := by
 intro h_
 refine rA ?_ (x := lF fd_142_5)
 refine rA ?_ (x := lD [val _] ty_3)
 exact h_.get) : G := w ⟨h⟩
theorem zdy (h : H) (w : Hd H → G := by
 intro h_
 refine sw_reg ?_
 refine rA ?_ (x := loc_copy (.inl rfl) (by decide) (by exact Cp.nm Cp.hdr))
 refine rM ?_
 exact h_.get) : G := w ⟨h⟩
theorem zgz (h : H) (w : Hd H → G := by
 intro h_
 refine rB gb ?_ (x := lD [val _] ty_3)
 refine rB gb ?_ (x := B_leq)
 exact h_.get) : G := w ⟨h⟩
theorem zmn (h : H) (w : Hd H → G := by
 intro h_
 refine rA ?_ (x := vM false [sl .v _])
 refine rA ?_ (x := lN sl_89)
 exact h_.get) : G := w ⟨h⟩
theorem zqz (h : H) (w : Hd H → G := by
 intro h_
 refine sS [1, 2] [1] ?_
 refine rA ?_ (x := lD [sl .v _, val _, val _, sl .v _, sl .v _, sl .v _, sl .v _, val _] ty_40)
 exact h_.get) : G := w ⟨h⟩
theorem zh0 (h : H) (w : Hd H → G := by
 intro h_
 refine rA ?_ (x := pkT gb)
 refine rM ?_
 exact h_.get) : G := w ⟨h⟩
theorem zlj (h : H) (w : Hd H → G := by
 intro h_
 refine rA ?_ (x := pkT gd)
 refine rM ?_
 exact h_.get) : G := w ⟨h⟩
theorem zlk (h : H) (w : Hd H → G := by
 intro h_
 refine rA ?_ (x := pkF gd)
 refine rM ?_
 exact h_.get) : G := w ⟨h⟩
theorem znq (h : H) (w : Hd H → G := by
 intro h_
 refine zie ?_
 refine sO [(1, _), (2, _), (4, _), (5, _), (6, _)] [(2, _), (4, _), (6, (35, [sl _ _, val _]))] ?_
 exact h_.get) : G := w ⟨h⟩
theorem zbv (h : H) (w : Hd H → G := by
 intro h_
 refine rA ?_ (x := lF fd_142_3)
 refine zba ?_
 exact h_.get) : G := w ⟨h⟩
theorem zje (h : H) (w : Hd H → G := by
 intro h_
 refine zed ?_
 refine sS [0, 1, 4, 5, 6] [] ?_
 exact h_.get) : G := w ⟨h⟩
theorem zl9 (h : H) (w : Hd H → G := by
 intro h_
 refine rA ?_ (x := lF fd_148_2)
 refine zfu ?_
 exact h_.get) : G := w ⟨h⟩
theorem zb3 (h : H) (w : Hd H → G := by
 intro h_
 refine zed ?_
 refine sH [0, 2, 3, 4] [7] ?_
 refine rA ?_ (x := cM Cp.hdr)
 refine zmz ?_
 refine rM ?_
 exact h_.get) : G := w ⟨h⟩
theorem zcz (h : H) (w : Hd H → G := by
 intro h_
 refine rX ?_ (x := (loc_box (ag := true) (cs := [val _, sl _ _]) (by decide) (by exact ⟨⟩)))
 refine zcp ?_
 exact h_.get) : G := w ⟨h⟩
theorem zak (h : H) (w : Hd H → G := by
 intro h_
 refine zfj ?_
 refine za3 ?_
 exact h_.get) : G := w ⟨h⟩
theorem ze9 (h : H) (w : Hd H → G := by
 intro h_
 refine zdz ?_
 refine ze5 ?_
 exact h_.get) : G := w ⟨h⟩
theorem zgt (h : H) (w : Hd H → G := by
 intro h_
 refine rA ?_ (x := tM)
 refine zgf ?_
 exact h_.get) : G := w ⟨h⟩
theorem zm0 (h : H) (w : Hd H → G := by
 intro h_
 refine zdo ?_
 refine rA ?_ (x := lN sl_36)
 refine zfl ?_
 exact h_.get) : G := w ⟨h⟩
theorem zf6 (h : H) (w : Hd H → G := by
 intro h_
 refine rA ?_ (x := loc_efield (by decide) fd_65_2 (by exact nl rfl))
 refine rA ?_ (x := lE [sl .v _] ty_63)
 exact h_.get) : G := w ⟨h⟩
theorem zei (h : H) (w : Hd H → G := by
 intro h_
 refine sP [1, 2, 4] [2] ?_
 refine sw_regL ?_
 exact h_.get) : G := w ⟨h⟩
theorem zq3 (h : H) (w : Hd H → G := by
 intro h_
 refine sw_seq ?_
 refine sP [0, 1, 5, 6, 7, 8, 9, 10, 11, 12, 13, 14, 15, 2900, 5000] [0, 6, 8, 13, 900] ?_
 exact h_.get) : G := w ⟨h⟩
theorem zqg (h : H) (w : Hd H → G := by
 intro h_
 refine rA ?_ (x := cM Cp.ptr)
 refine zod ?_
 exact h_.get) : G := w ⟨h⟩
theorem ze8 (h : H) (w : Hd H → G := by
 intro h_
 refine rM ?_
 refine rA ?_ (x := loc_hindex (by decide) sl_38 (by exact ⟨⟩) (by exact rfl) (by omega))
 exact h_.get) : G := w ⟨h⟩
theorem zjd (h : H) (w : Hd H → G := by
 intro h_
 refine sS [0, 1, 4, 5] [] ?_
 refine zhx ?_
 exact h_.get) : G := w ⟨h⟩
theorem zjo (h : H) (w : Hd H → G := by
 intro h_
 refine dT 4194303 ga ?_
 refine dA 8388607 ?_ (x := pkT ga)
 exact h_.get) : G := w ⟨h⟩
theorem zkn (h : H) (w : Hd H → G := by
 intro h_
 refine rA ?_ (x := loc_const (.inr rfl) (by decide) (ok_nil (t := 65) (e := 4)))
 refine sS [0, 2] [] ?_
 exact h_.get) : G := w ⟨h⟩
theorem zoj (h : H) (w : Hd H → G := by
 intro h_
 refine rA ?_ (x := loc_const (.inr rfl) (by decide) (ok_nil (t := 3) (e := 1)))
 refine sT [1, 2] [1] ?_
 exact h_.get) : G := w ⟨h⟩
theorem zr1 (h : H) (w : Hd H → G := by
 intro h_
 refine sO [(1, _), (2, _), (3, _), (4, _)] [(1, _), (3, (92, [sl _ _, sl _ _]))] ?_
 refine sw_reg ?_
 exact h_.get) : G := w ⟨h⟩
theorem zg6 (h : H) (w : Hd H → G := by
 intro h_
 refine sw_exit ?_
 refine sT [1, 3] [1] ?_
 exact h_.get) : G := w ⟨h⟩
theorem zig (h : H) (w : Hd H → G := by
 intro h_
 refine zhg ?_
 refine rM ?_
 exact h_.get) : G := w ⟨h⟩
theorem zj3 (h : H) (w : Hd H → G := by
 intro h_
 refine dF 1023 gb ?_
 refine dF 1023 gb ?_
 exact h_.get) : G := w ⟨h⟩
theorem zle (h : H) (w : Hd H → G := by
 intro h_
 refine sw_draw hm_ ?_
 refine dA 0 ?_ (x := lF fd_148_3)
 exact h_.get) : G := w ⟨h⟩
theorem zme (h : H) (w : Hd H → G := by
 intro h_
 refine rB gc ?_ (x := B_gtr)
 refine rA ?_ (x := pkF gc)
 exact h_.get) : G := w ⟨h⟩
theorem znl (h : H) (w : Hd H → G := by
 intro h_
 refine zee ?_
 refine sT [1, 2, 4] [2] ?_
 exact h_.get) : G := w ⟨h⟩
theorem zk1 (h : H) (w : Hd H → G := by
 intro h_
 refine rA ?_ (x := loc_const (.inr rfl) (by decide) (ok_nil (t := 234) (e := 3)))
 refine sS [0, 1, 4] [] ?_
 refine rA ?_ (x := loc_bslice (qs := []) (by decide) sl_205 z_234 (by decide) rfl rfl rfl rfl rfl (by exact nl rfl) (by exact ⟨⟩) rfl)
 exact h_.get) : G := w ⟨h⟩
theorem zda (h : H) (w : Hd H → G := by
 intro h_
 refine rA ?_ (x := lN sl_33)
 refine rA ?_ (x := B_lss)
 exact h_.get) : G := w ⟨h⟩
theorem ziw (h : H) (w : Hd H → G := by
 intro h_
 refine rB gb ?_ (x := sM)
 refine rB gb ?_ (x := B_gtr)
 exact h_.get) : G := w ⟨h⟩
theorem zk7 (h : H) (w : Hd H → G := by
 intro h_
 refine rB gb ?_ (x := sM)
 refine rB gb ?_ (x := B_sub)
 exact h_.get) : G := w ⟨h⟩
theorem zbq (h : H) (w : Hd H → G := by
 intro h_
 refine sR ?_
 refine rA ?_ (x := loc_const (.inr rfl) (by decide) (ok_nil (t := 151) (e := 4)))
 exact h_.get) : G := w ⟨h⟩
theorem zcf (h : H) (w : Hd H → G := by
 intro h_
 refine zb0 ?_
 refine rA ?_ (x := B_neq)
 exact h_.get) : G := w ⟨h⟩
theorem zad (h : H) (w : Hd H → G := by
 intro h_
 refine zf2 ?_
 refine zkf ?_
 exact h_.get) : G := w ⟨h⟩
theorem zev (h : H) (w : Hd H → G := by
 intro h_
 refine zex ?_
 refine zjk ?_
 refine zf8 ?_
 exact h_.get) : G := w ⟨h⟩
theorem zhe (h : H) (w : Hd H → G := by
 intro h_
 refine rB ga ?_ (x := lD [val _] ty_3)
 refine zlb ?_
 exact h_.get) : G := w ⟨h⟩
theorem zkg (h : H) (w : Hd H → G := by
 intro h_
 refine dA 30 ?_ (x := lE [val _] ty_3)
 refine zck ?_
 exact h_.get) : G := w ⟨h⟩
theorem zkt (h : H) (w : Hd H → G := by
 intro h_
 refine sO [(0, _), (2, _), (3, _)] [(2, _), (3, (92, [sl _ _, sl _ _]))] ?_
 refine sw_reg ?_
 exact h_.get) : G := w ⟨h⟩
end Go.Proofs.YteflgldonmgejaaGreat.M
