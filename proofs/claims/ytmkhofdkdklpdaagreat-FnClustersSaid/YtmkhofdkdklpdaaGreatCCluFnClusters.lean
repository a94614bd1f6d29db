/- What functions of the program compute. No condition. -/
import Derived.Test.YtmkhofdkdklpdaaGreatCZMFnClusters
import Derived.Test.YtmkhofdkdklpdaaGreatCFcFnClusters
import Derived.Test.YtmkhofdkdklpdaaGreatCEqCFnClusters
import Derived.Test.YtmkhofdkdklpdaaGreatCQuerFnClusters
import Derived.KernelRfl
set_option linter.unusedVariables false
set_option linter.unusedSimpArgs false
namespace Go.Proofs.YtmkhofdkdklpdaaGreat
open Go Go.RowKit M PV
set_option maxRecDepth 10000
attribute [local irreducible] PV.Lcl PV.LclR RV.Lcl
theorem impl_HomeOf {s : Int} {n : Int}  : SCall Tryz.prog 30 [(false, [val (vI s)]), (false, [val (vI n)])] (resRV [(false, [val (vI (homeOf s n))])]) := by
 refine sF Tryz.func30 fun h0 w0 Fz0 => ?_
 refine zbl ?_
 refine zbi ?_
 exact zez
theorem spec_HomeOf {s : Int} {n : Int}  : SCall Tryz.prog 13 [(false, [val (vI s)]), (false, [val (vI n)])] (resRV [(false, [val (vI (homeOf s n))])]) := by
 refine sF Tryz.func13 fun h0 w0 Fz0 => ?_
 refine zbl ?_
 refine zf0 ?_
 exact zez
theorem impl_BackupOf {s : Int} {n : Int}  : SCall Tryz.prog 31 [(false, [val (vI s)]), (false, [val (vI n)])] (resRV [(false, [val (vI (backupOf s n))])]) := by
 refine sF Tryz.func31 fun h0 w0 Fz0 => ?_
 refine zbl ?_
 refine zbi ?_
 exact zf1
theorem spec_BackupOf {s : Int} {n : Int}  : SCall Tryz.prog 14 [(false, [val (vI s)]), (false, [val (vI n)])] (resRV [(false, [val (vI (backupOf s n))])]) := by
 refine sF Tryz.func14 fun h0 w0 Fz0 => ?_
 refine zbl ?_
 refine zf0 ?_
 exact zf1
theorem impl_admits {q : Query} {f : Int} {v : Int}  : SCall Tryz.prog 86 [(true, [val (vI q.Id), val (vI q.Tenant), sl .v (q.Conds.map cCond), sl .v (q.Out.map cInt)]), (false, [val (vI f)]), (false, [val (vI v)])] (resRV [(false, [val (.bool (admitsV q f v))])]) := by
 refine sF Tryz.func86 fun h0 w0 Fz0 => ?_
 refine sn 0 2 fun hl0_2 => ?_
 refine sn 0 3 fun hl0_3 => ?_
 refine zdq ?_
 refine zby ?_
 refine sT [1, 2, 3, 6] [3] ?_
 refine zdr ?_
 refine zbm ?_
 refine sP [1, 2, 3, 6, 10, 11, 12] [3] ?_
 refine sL [1, 2, 3, 10, 11] [3] (fun k : Nat => k ≤ q.Conds.length ∧ (q.Conds.take k).all (admC f v) = true) (fun k : Nat => [(12, RV.int (k : Int))]) (fun k : Nat => []) (fun k : Nat => q.Conds.length - k) 0 (by exact ⟨by omega, by simp⟩) (by exact aI (by exact rfl) (tI)) (by exact ⟨⟩) ?_
 rintro k ⟨hk, ha⟩
 refine zbn ?_
 refine sc (fun hba => ?_) (fun hba => ?_)
 have hlt : k < q.Conds.length := by omega
 refine za6 ?_
 refine sT [1, 2, 3, 10, 11, 12] [3] ?_
 refine ze5 ?_
 refine ze6 ?_
 refine sO [(1, _), (2, _), (3, _), (8, _), (10, _), (11, _), (12, _)] [(3, _), (8, (79, [val _, val _, val _]))] ?_
 refine sw_reg ?_
 refine zdg ?_
 refine rM ?_
 refine zd8 ?_
 refine cx 20 (fun ga sga => ?_) (fun ga sga => ?_)
 refine rB ga ?_ (x := sM)
 refine zdh ?_
 refine rB ga ?_ (x := lF fd_79_2)
 refine ze2 ?_
 refine rB ga ?_ (x := nT)
 refine rA ?_ (x := pkT ga)
 refine sc (fun hbb => ?_) (fun hbb => ?_)
 have hno : admC f v q.Conds[k] = false := by simp_all [admC]
 refine sS [1, 2, 3, 8, 10, 11, 12] [3, 8] ?_
 refine zcd ?_
 exact rb (by simp [admitsV, all_no (P := (admC f v)) hlt hno])
 exact zf2
 refine zaa ?_
 refine scF ?_
 exact zf2
 have hall : q.Conds.all (admC f v) = true := all_end (by rw [show q.Conds.length = k by omega]; exact ha)
 refine sw_exit ?_
 refine sT [1, 2, 3, 10, 11, 12] [3] ?_
 refine zcd ?_
 exact rb (by simp [admitsV, hall, *])
theorem impl_MatchesRow {q : Query} {r : Row}  : SCall Tryz.prog 58 [(true, [val (vI q.Id), val (vI q.Tenant), sl .v (q.Conds.map cCond), sl .v (q.Out.map cInt)]), (true, [val (vI r.Id), sl .v (r.Values.map cInt)])] (resRV [(false, [val (.bool (matchRow q r))])]) := by
 refine sF Tryz.func58 fun h0 w0 Fz0 => ?_
 refine sn 0 2 fun hl0_2 => ?_
 refine sn 0 3 fun hl0_3 => ?_
 refine sn 1 1 fun hl1_1 => ?_
 refine zf3 ?_
 refine zeb ?_
 refine zf4 ?_
 refine zep ?_
 refine cx 10 (fun ga sga => ?_) (fun ga sga => ?_)
 refine zf5 ?_
 refine scT ?_
 exact zf6
 refine rB ga ?_ (x := lD [val _, sl .v _] ty_63)
 refine rB ga ?_ (x := cL [(true, [val _, sl _ _])] [(true, [val _, sl .v _])] c_85 (hs := by exact impl_IsRow))
 refine rB ga ?_ (x := nT)
 refine rA ?_ (x := pkF ga)
 refine sc (fun hba => ?_) (fun hba => ?_)
 exact zf6
 have hok : okQuery q = true ∧ okRow r = true := by simp_all
 refine zaj ?_
 refine sS [2, 3, 4] [2, 3] ?_
 refine zbz ?_
 refine zc0 ?_
 refine sP [2, 3, 4, 16, 17, 18] [2, 3] ?_
 refine sL [2, 3, 16, 17] [2, 3] (fun k : Nat => k ≤ r.Values.length ∧ (∀ i : Nat, i < k → admitsV q (i : Int) (r.Values.getD i 0) = true)) (fun k : Nat => [(18, RV.int (k : Int))]) (fun k : Nat => []) (fun k : Nat => r.Values.length - k) 0 (by exact ⟨by omega, fun i hi => absurd hi (Nat.not_lt_zero _)⟩) (by exact aI (by exact rfl) (tI)) (by exact ⟨⟩) ?_
 rintro k ⟨hk, ha⟩
 refine zbn ?_
 refine sc (fun hbb => ?_) (fun hbb => ?_)
 have hlt : k < r.Values.length := by omega
 refine za6 ?_
 refine sT [2, 3, 16, 17, 18] [2, 3] ?_
 refine rM ?_
 refine zbo ?_
 refine rS ?_
 refine sS [2, 3, 5, 6, 16, 17, 18] [2, 3] ?_
 refine rA ?_ (x := lD [val _, val _, sl .v _, sl .v _] ty_27)
 refine zbp ?_
 refine rA ?_ (x := cL [(true, [val _, val _, sl _ _, sl _ _]), (false, [val _]), (false, [val _])] [(true, [val _, val _, sl .v _, sl .v _]), (false, [val _]), (false, [val _])] c_86 (hs := by exact impl_admits))
 refine rA ?_ (x := nT)
 refine sc (fun hbc => ?_) (fun hbc => ?_)
 have hno : matchRow q r = false := match_no (i := k) (by rw [← gDt hlt]; simpa using hbc)
 refine sS [2, 3, 5, 6, 16, 17, 18] [2, 3] ?_
 refine zcd ?_
 exact rb (hno.symm)
 have hyes : admitsV q (k : Int) (r.Values.getD k 0) = true := by rw [← gDt hlt]; simpa using hbc
 refine sw_skip ?_
 refine sG [2, 3, 5, 6, 16, 17, 18] [2, 3] ?_
 refine zbr ?_
 refine nx (k + 1) (by exact ⟨by omega, fun i hi => by by_cases e : i = k; (· subst e; exact hyes); (· exact ha i (by omega))⟩)
 have hall := match_yes hok.1 hok.2 (fun i hi => ha i (by omega))
 refine sw_exit ?_
 refine sT [2, 3, 16, 17, 18] [2, 3] ?_
 refine zcd ?_
 exact rb (hall.symm)
theorem spec_MatchesRow {q : Query} {r : Row}  : SCall Tryz.prog 53 [(true, [val (vI q.Id), val (vI q.Tenant), sl .v (q.Conds.map cCond), sl .v (q.Out.map cInt)]), (true, [val (vI r.Id), sl .v (r.Values.map cInt)])] (resRV [(false, [val (.bool (matchRow q r))])]) := by
 refine sF Tryz.func53 fun h0 w0 Fz0 => ?_
 refine sn 0 2 fun hl0_2 => ?_
 refine sn 0 3 fun hl0_3 => ?_
 refine sn 1 1 fun hl1_1 => ?_
 refine zf3 ?_
 refine zeb ?_
 refine zas ?_
 refine sP [2, 3, 4, 5] [2, 3] ?_
 refine sL [2, 3] [2, 3] (fun k : Nat => k ≤ q.Conds.length ∧ (q.Conds.take k).all (condOk r) = true) (fun k : Nat => [(5, RV.int (k : Int))]) (fun k : Nat => []) (fun k : Nat => q.Conds.length - k) 0 (by exact ⟨by omega, by simp⟩) (by exact aI (by exact rfl) (tI)) (by exact ⟨⟩) ?_
 rintro k ⟨hk, ha⟩
 refine za4 ?_
 refine zdr ?_
 refine rA ?_ (x := B_lss)
 refine rM ?_
 refine cx 12 (fun ga sga => ?_) (fun ga sga => ?_)
 refine rB ga ?_ (x := lD [val _, sl .v _] ty_63)
 refine rB ga ?_ (x := cL [(true, [val _, sl _ _])] [(true, [val _, sl .v _])] c_80 (hs := by exact spec_IsRow))
 refine zdi ?_
 refine cx 16 (fun gb sgb => ?_) (fun gb sgb => ?_)
 refine zf7 ?_
 refine rA ?_ (x := pkT gb)
 refine sc (fun hba => ?_) (fun hba => ?_)
 have hlt : k < q.Conds.length := by first | (simp_all; done) | (simp_all; omega)
 have hok : okRow r = true ∧ okQuery q = true := by simp_all
 have hf := condField hok.2 (List.getElem_mem hlt)
 have hl := rowLen hok.1
 refine za6 ?_
 refine sT [2, 3, 5] [2, 3] ?_
 refine zf8 ?_
 refine rM ?_
 refine ze5 ?_
 refine ze6 ?_
 refine sO [(2, _), (3, _), (5, _), (6, _)] [(2, _), (3, _), (6, (79, [val _, val _, val _]))] ?_
 refine sw_draw hm_ ?_
 refine dA 0 ?_ (x := lF fd_63_1)
 refine dA 1 ?_ (x := lD [sl .v _] ty_25)
 refine dA 0 ?_ (x := lF fd_79_0)
 refine dA 4 ?_ (x := lD [val _] ty_3)
 refine dA 15 ?_ (x := loc_index (k := q.Conds[k].Field.toNat) (by decide) sl_25 (by exact ⟨⟩) (by omega) (by exact getm2 (by omega) (by rw [gDt (d := 0) (by omega)])) (by exact rfl))
 refine dA 31 ?_ (x := lE [val _] ty_3)
 refine dA 0 ?_ (x := lF fd_79_1)
 refine dA 64 ?_ (x := lD [val _] ty_3)
 refine dA 0 ?_ (x := lF fd_79_2)
 refine dA 256 ?_ (x := lD [val _] ty_3)
 refine dA 1023 ?_ (x := cL [(false, [val _]), (false, [val _]), (false, [val _])] [(false, [val _]), (false, [val _]), (false, [val _])] c_47 (hs := by exact spec_l1In))
 refine dA 2047 ?_ (x := nT)
 refine sc (fun hbb => ?_) (fun hbb => ?_)
 have hno : condOk r q.Conds[k] = false := by simpa [condOk, atI] using hbb
 refine sS [2, 3, 5, 6] [2, 3, 6] ?_
 refine zcd ?_
 exact rb (by simp [matchRow, all_no hlt hno])
 have hyes : condOk r q.Conds[k] = true := by simpa [condOk, atI] using hbb
 refine sw_skip ?_
 refine sG [2, 3, 5, 6] [2, 3, 6] ?_
 exact zc9
 exact zf9
 refine zdm ?_
 refine scF ?_
 exact zf9
 refine zdn ?_
 refine RunS.cases (s := 16) rfl (fun g8 => nomatch g8) (fun g8 => ?_)
 refine zf g8 ?_
 refine rA ?_ (x := pkF g8)
 refine scF ?_
 have hend : okRow r = true → okQuery q = true → q.Conds.all (condOk r) = true := fun h1 h2 => all_end (by rw [show q.Conds.length = k by first | (simp_all; done) | (simp_all; omega)]; exact ha)
 refine zem ?_
 refine zfa ?_
 refine rM ?_
 refine cx 41 (fun gb sgb => ?_) (fun gb sgb => ?_)
 refine zf7 ?_
 refine rA ?_ (x := pkT gb)
 exact zfb
 refine zdm ?_
 exact zfb
theorem impl_matching {p3 : Fl} {q : Query} {l : List Row}  (hb : wtRowS l ≤ 68719476736) : SCall Tryz.prog 42 [(true, [val (vI q.Id), val (vI q.Tenant), sl .v (q.Conds.map cCond), sl .v (q.Out.map cInt)]), (false, [sl .v (l.map (cRow p3))])] (resRV [(false, [sl (.own 63 2) ((found q l).map (cRow (.own 3 1)))])]) := by
 refine sF Tryz.func42 fun h0 w0 Fz0 => ?_
 refine sn 0 2 fun hl0_2 => ?_
 refine sn 0 3 fun hl0_3 => ?_
 refine sj 1 fun hl1 => ?_
 have hbu := hb
 simp only [wtRowS] at hbu
 refine zdq ?_
 refine zfc ?_
 refine zch ?_
 refine sS [1, 2, 4, 5] [2] ?_
 refine zcb ?_
 refine zbm ?_
 refine sP [1, 2, 4, 5, 9, 10, 11] [2] ?_
 refine sL [1, 2, 4, 9, 10] [2] (fun k : Nat => k ≤ l.length) (fun k : Nat => [(5, RV.slc (.own 63 2) ((found q (l.take k)).map (cRow (.own 3 1)))), (11, RV.int (k : Int))]) (fun k : Nat => []) (fun k : Nat => l.length - k) 0 (by omega) (by exact aI (by first | exact rfl | simp) (aI (by exact rfl) (tI))) (by exact ⟨⟩) ?_
 rintro k hk
 refine zbn ?_
 refine sc (fun hba => ?_) (fun hba => ?_)
 have hlt : k < l.length := by omega
 have hwm := wt_mem (f := wtRow) hlt
 have hfl := found_le (q := q) (l := l) (k := k)
 refine za6 ?_
 refine sT [1, 2, 4, 5, 9, 10, 11] [2] ?_
 refine zcc ?_
 refine zaq ?_
 refine sw_seq ?_
 refine sO [(1, _), (2, _), (4, _), (5, _), (7, _), (9, _), (10, _), (11, _)] [(2, _), (7, (63, [val _, sl _ _]))] ?_
 refine sw_reg ?_
 refine rA ?_ (x := lD [val _, val _, sl .v _, sl .v _] ty_27)
 refine rA ?_ (x := lD [val _, sl .v _] ty_63)
 refine rA ?_ (x := cL [(true, [val _, val _, sl _ _, sl _ _]), (true, [val _, sl _ _])] [(true, [val _, val _, sl .v _, sl .v _]), (true, [val _, sl .v _])] c_58 (hs := by exact impl_MatchesRow))
 refine sc (fun hbb => ?_) (fun hbb => ?_)
 have hc := hbb
 refine sG [1, 2, 4, 5, 7, 9, 10, 11] [2, 7] ?_
 refine rA ?_ (x := tM)
 refine zci ?_
 refine zcj ?_
 exact zfd
 have hc := hbb
 refine sw_skip ?_
 exact zfd
 have hend : k = l.length := by omega
 refine sw_exit ?_
 refine sT [1, 2, 4, 5, 9, 10, 11] [2] ?_
 exact zfe
end Go.Proofs.YtmkhofdkdklpdaaGreat
