/- What functions of the program compute. No condition. -/
import Derived.Test.YtmekkgdboplbjaaCZMFnIsolation
import Derived.Test.YtmekkgdboplbjaaCFcFnIsolation
import Derived.Test.YtmekkgdboplbjaaCProgFnIsolation
import Derived.KernelRfl
set_option linter.unusedVariables false
set_option linter.unusedSimpArgs false
namespace Go.Proofs.Ytmekkgdboplbjaa
open Go Go.RowKit M PV
set_option maxRecDepth 10000
attribute [local irreducible] PV.Lcl PV.LclR RV.Lcl
theorem impl_IsCond {x : Cond}  : SCall Try.prog 51 [(true, [val (vI x.Field), val (vI x.Low), val (vI x.High)])] (resRV [(false, [val (.bool (okCond x))])]) := by
 refine sF Try.func51 fun h0 w0 Fz0 => ?_
 refine sR ?_
 refine rX ?_ (x := (loc_box (ag := true) (cs := [val _, val _, val _]) (by decide) (by exact ⟨⟩)))
 refine zb8 ?_
 refine rA ?_ (x := lF fd_41_0)
 refine rA ?_ (x := lD [val _] ty_3)
 refine rA ?_ (x := cL [(false, [val _])] [(false, [val _])] c_52 (hs := by exact impl_isField))
 refine rM ?_
 refine cx 6 (fun ga sga => ?_) (fun ga sga => ?_)
 refine rB ga ?_ (x := lF fd_41_1)
 refine rB ga ?_ (x := lD [val _] ty_3)
 refine rB ga ?_ (x := B_geq)
 refine zb9 ?_
 refine cx 11 (fun gb sgb => ?_) (fun gb sgb => ?_)
 refine rB gb ?_ (x := lF fd_41_1)
 refine rB gb ?_ (x := lD [val _] ty_3)
 refine rB gb ?_ (x := lF fd_41_2)
 refine rB gb ?_ (x := lD [val _] ty_3)
 refine rB gb ?_ (x := B_leq)
 refine zba ?_
 refine cx 18 (fun gc sgc => ?_) (fun gc sgc => ?_)
 refine rB gc ?_ (x := lF fd_41_2)
 refine rB gc ?_ (x := lD [val _] ty_3)
 refine rB gc ?_ (x := B_leq)
 refine rA ?_ (x := pkT gc)
 exact zbb
 refine zbc ?_
 exact zbb
 refine zbd ?_
 refine RunS.cases (s := 18) rfl (fun g4 => nomatch g4) (fun g4 => ?_)
 refine zbe ?_
 exact zbb
 refine zbf ?_
 refine RunS.cases (s := 11) rfl (fun g5 => nomatch g5) (fun g5 => ?_)
 refine zbg ?_
 refine rM ?_
 refine RunS.cases (s := 18) rfl (fun g6 => nomatch g6) (fun g6 => ?_)
 refine zf g6 ?_
 refine rA ?_ (x := pkF g6)
 exact zbb
theorem impl_IsQuery {x : Query}  : SCall Try.prog 19 [(true, [val (vI x.Id), val (vI x.Tenant), sl .v (x.Conds.map cCond), sl .v (x.Out.map cInt)])] (resRV [(false, [val (.bool (okQuery x))])]) := by
 refine sF Try.func19 fun h0 w0 Fz0 => ?_
 refine sn 0 2 fun hl0_2 => ?_
 refine sn 0 3 fun hl0_3 => ?_
 refine zbh ?_
 refine zaf ?_
 refine rA ?_ (x := lF fd_38_0)
 refine zbi ?_
 refine zbj ?_
 refine cx 11 (fun ga sga => ?_) (fun ga sga => ?_)
 refine zbk ?_
 refine RunS.cases (s := 17) rfl (fun g2 => ?_) (fun g2 => nomatch g2)
 refine zbl ?_
 refine scT ?_
 exact zbm
 refine rB ga ?_ (x := lF fd_38_1)
 refine zbn ?_
 refine zbo ?_
 refine cx 17 (fun gb sgb => ?_) (fun gb sgb => ?_)
 refine zbp ?_
 refine scT ?_
 exact zbm
 refine zbq ?_
 refine rB gb ?_ (x := lN sl_36)
 refine rB gb ?_ (x := B_gtr)
 refine rA ?_ (x := pkF gb)
 refine sc (fun hba => ?_) (fun hba => ?_)
 exact zbm
 have hfirst : (inB x.Id 0 23 && (inB x.Tenant 0 3 && decide ((x.Conds.length : Int) ≤ 3))) = true := by simp_all
 refine zbr ?_
 refine sS [1, 2] [1] ?_
 refine zbs ?_
 refine rA ?_ (x := lN sl_36)
 refine za4 ?_
 refine sP [1, 2, 24, 25, 26] [1] ?_
 refine sL [1, 24, 25] [1] (fun k : Nat => k ≤ x.Conds.length ∧ adjTo ⟨0, 0, 0⟩ okCond ltField x.Conds k = true) (fun k : Nat => [(26, RV.int (k : Int))]) (fun k : Nat => []) (fun k : Nat => x.Conds.length - k) 0 (by exact ⟨by omega, rfl⟩) (by exact aI (by exact rfl) (tI)) (by exact ⟨⟩) ?_
 rintro k ⟨hk, ha⟩
 refine za5 ?_
 refine sc (fun hbb => ?_) (fun hbb => ?_)
 have hlt : k < x.Conds.length := by omega
 have hgk : x.Conds.getD k ⟨0, 0, 0⟩ = x.Conds[k] := getD_at hlt
 have hgp : 0 < k → x.Conds.getD (k - 1) ⟨0, 0, 0⟩ = x.Conds[k - 1] := fun h => getD_at (by omega)
 refine za6 ?_
 refine sT [1, 24, 25, 26] [1] ?_
 refine rM ?_
 refine zbt ?_
 refine rX ?_ (x := (loc_alloc (by decide) z_41 zo_41))
 refine rS ?_
 refine zbu ?_
 refine sO [(1, _), (3, _), (4, _), (24, _), (25, _), (26, _)] [(1, _), (4, (41, [val _, val _, val _]))] ?_
 refine sw_draw hm_ ?_
 refine dA 0 ?_ (x := lD [val _, val _, val _] ty_41)
 refine dA 1 ?_ (x := cL [(true, [val _, val _, val _])] [(true, [val _, val _, val _])] c_51 (hs := by exact impl_IsCond))
 refine dA 3 ?_ (x := nT)
 refine dA 7 ?_ (x := sM)
 refine dx 34 (fun gc sgc => ?_) (fun gc sgc => ?_)
 refine dT 15 gc ?_
 refine dT 31 gc ?_
 refine dT 63 gc ?_
 refine dU 127 ?_
 refine dU 255 ?_
 refine dU 127 ?_
 refine dU 639 ?_
 refine dU 2047 ?_
 refine dU 4095 ?_
 refine dU 8191 ?_
 refine dU 127 ?_
 refine dU 16511 ?_
 refine dU 65535 ?_
 refine dT 131071 gc ?_
 refine dA 262143 ?_ (x := pkT gc)
 refine scT ?_
 exact zbv
 refine dB 15 gc ?_ (x := sM)
 refine dB 31 gc ?_ (x := B_gtr)
 refine dB 63 gc ?_ (x := sM)
 refine dx 37 (fun gd sgd => ?_) (fun gd sgd => ?_)
 refine dB 127 gd ?_ (x := lF fd_38_2)
 refine dB 255 gd ?_ (x := lD [sl .v _] ty_36)
 refine dB 127 gd ?_ (x := sM)
 refine dB 639 gd ?_ (x := B_sub)
 refine dB 2047 gd ?_ (x := loc_index (k := k - 1) (by decide) sl_36 (by exact ⟨⟩) (by omega) (by exact getm2 (by omega) rfl) (by exact rfl))
 refine dB 4095 gd ?_ (x := loc_efield (by decide) fd_41_0 (by exact nl rfl))
 refine dB 8191 gd ?_ (x := lE [val _] ty_3)
 refine dB 127 gd ?_ (x := lF fd_41_0)
 refine dB 16511 gd ?_ (x := lD [val _] ty_3)
 refine dB 65535 gd ?_ (x := B_geq)
 refine dB 131071 gc ?_ (x := pkT gd)
 refine dA 262143 ?_ (x := pkF gc)
 refine sc (fun hbc => ?_) (fun hbc => ?_)
 exact zbv
 exact zbw
 refine dF 127 gd ?_
 refine dF 255 gd ?_
 refine dF 127 gd ?_
 refine dF 639 gd ?_
 refine dF 2047 gd ?_
 refine dF 4095 gd ?_
 refine dF 8191 gd ?_
 refine dF 127 gd ?_
 refine dF 16511 gd ?_
 refine dF 65535 gd ?_
 refine dB 131071 gc ?_ (x := pkF gd)
 refine dA 262143 ?_ (x := pkF gc)
 refine scF ?_
 exact zbw
 have hend : k = x.Conds.length := by omega
 have hall : adjAll ⟨0, 0, 0⟩ okCond ltField x.Conds = true := adj_end ha hend
 refine zbx ?_
 refine sT [1, 24, 25, 26] [1] ?_
 refine rA ?_ (x := lF fd_38_3)
 refine zag ?_
 refine za4 ?_
 refine sP [1, 24, 25, 26, 52, 53, 54] [1] ?_
 refine sL [1, 24, 25, 26, 52, 53] [1] (fun k2 : Nat => k2 ≤ x.Out.length ∧ (x.Out.take k2).all okOut = true) (fun k2 : Nat => [(54, RV.int (k2 : Int))]) (fun k2 : Nat => []) (fun k2 : Nat => x.Out.length - k2) 0 (by exact ⟨by omega, by simp⟩) (by exact aI (by exact rfl) (tI)) (by exact ⟨⟩) ?_
 rintro k2 ⟨hk2, ha2⟩
 refine za5 ?_
 refine sc (fun hbc => ?_) (fun hbc => ?_)
 have hlt2 : k2 < x.Out.length := by omega
 refine za6 ?_
 refine sT [1, 24, 25, 26, 52, 53, 54] [1] ?_
 refine za7 ?_
 refine sS [1, 6, 24, 25, 26, 52, 53, 54] [1] ?_
 refine rM ?_
 refine rA ?_ (x := cL [(false, [val _])] [(false, [val _])] c_52 (hs := by exact impl_isField))
 refine rA ?_ (x := nT)
 refine sc (fun hbd => ?_) (fun hbd => ?_)
 have hno2 : okOut x.Out[k2] = false := by simpa [okOut] using hbd
 have hn3 : x.Out.all okOut = false := all_no hlt2 hno2
 refine sS [1, 6, 24, 25, 26, 52, 53, 54] [1] ?_
 refine rK ?_
 exact zby
 have hyes : okOut x.Out[k2] = true := by simpa [okOut] using hbd
 refine sw_skip ?_
 refine sG [1, 6, 24, 25, 26, 52, 53, 54] [1] ?_
 refine zaa ?_
 refine nx (k2 + 1) (by exact ⟨by omega, all_succ ha2 hlt2 hyes⟩)
 have hall2 : x.Out.all okOut = true := all_end (by rw [show x.Out.length = k2 by omega]; exact ha2)
 refine sw_exit ?_
 refine sT [1, 24, 25, 26, 52, 53, 54] [1] ?_
 refine rA ?_ (x := lF fd_38_3)
 refine zag ?_
 refine rA ?_ (x := cL [(false, [val _]), (false, [val _]), (false, [val _])] [(false, [val _]), (false, [val _]), (false, [val _])] c_20 (hs := by exact impl_within))
 refine rS ?_
 exact zby
theorem impl_admits {q : Query} {f : Int} {v : Int}  : SCall Try.prog 58 [(true, [val (vI q.Id), val (vI q.Tenant), sl .v (q.Conds.map cCond), sl .v (q.Out.map cInt)]), (false, [val (vI f)]), (false, [val (vI v)])] (resRV [(false, [val (.bool (admitsV q f v))])]) := by
 refine sF Try.func58 fun h0 w0 Fz0 => ?_
 refine sn 0 2 fun hl0_2 => ?_
 refine sn 0 3 fun hl0_3 => ?_
 refine zbh ?_
 refine zbz ?_
 refine sT [1, 2, 3, 6] [3] ?_
 refine zbs ?_
 refine rA ?_ (x := lN sl_36)
 refine za4 ?_
 refine sP [1, 2, 3, 6, 10, 11, 12] [3] ?_
 refine sL [1, 2, 3, 10, 11] [3] (fun k : Nat => k ≤ q.Conds.length ∧ (q.Conds.take k).all (admC f v) = true) (fun k : Nat => [(12, RV.int (k : Int))]) (fun k : Nat => []) (fun k : Nat => q.Conds.length - k) 0 (by exact ⟨by omega, by simp⟩) (by exact aI (by exact rfl) (tI)) (by exact ⟨⟩) ?_
 rintro k ⟨hk, ha⟩
 refine za5 ?_
 refine sc (fun hba => ?_) (fun hba => ?_)
 have hlt : k < q.Conds.length := by omega
 refine za6 ?_
 refine sT [1, 2, 3, 10, 11, 12] [3] ?_
 refine zbt ?_
 refine rX ?_ (x := (loc_alloc (by decide) z_41 zo_41))
 refine zbu ?_
 refine sO [(1, _), (2, _), (3, _), (8, _), (10, _), (11, _), (12, _)] [(3, _), (8, (41, [val _, val _, val _]))] ?_
 refine sw_reg ?_
 refine rA ?_ (x := lF fd_41_0)
 refine rA ?_ (x := lD [val _] ty_3)
 refine rM ?_
 refine zc0 ?_
 refine cx 20 (fun ga sga => ?_) (fun ga sga => ?_)
 refine rB ga ?_ (x := sM)
 refine rB ga ?_ (x := lF fd_41_1)
 refine rB ga ?_ (x := lD [val _] ty_3)
 refine rB ga ?_ (x := lF fd_41_2)
 refine zbn ?_
 refine rA ?_ (x := pkT ga)
 refine sc (fun hbb => ?_) (fun hbb => ?_)
 have hno : admC f v q.Conds[k] = false := by simp_all [admC]
 refine sS [1, 2, 3, 8, 10, 11, 12] [3, 8] ?_
 refine za9 ?_
 exact rb (by simp [admitsV, all_no (P := (admC f v)) hlt hno])
 exact zc1
 refine zc2 ?_
 exact zc1
 have hall : q.Conds.all (admC f v) = true := all_end (by rw [show q.Conds.length = k by omega]; exact ha)
 refine sw_exit ?_
 refine sT [1, 2, 3, 10, 11, 12] [3] ?_
 refine za9 ?_
 exact rb (by simp [admitsV, hall, *])
theorem impl_MatchesRow {q : Query} {r : Row}  : SCall Try.prog 25 [(true, [val (vI q.Id), val (vI q.Tenant), sl .v (q.Conds.map cCond), sl .v (q.Out.map cInt)]), (true, [val (vI r.Id), sl .v (r.Values.map cInt)])] (resRV [(false, [val (.bool (matchRow q r))])]) := by
 refine sF Try.func25 fun h0 w0 Fz0 => ?_
 refine sn 0 2 fun hl0_2 => ?_
 refine sn 0 3 fun hl0_3 => ?_
 refine sn 1 1 fun hl1_1 => ?_
 refine zbh ?_
 refine rX ?_ (x := (loc_box (ag := true) (cs := [val _, sl _ _]) (by decide) (by exact ⟨⟩)))
 refine zbz ?_
 refine sT [2, 3, 4] [2, 3] ?_
 refine zc3 ?_
 refine zbj ?_
 refine cx 10 (fun ga sga => ?_) (fun ga sga => ?_)
 refine zc4 ?_
 refine scT ?_
 exact zc5
 refine rB ga ?_ (x := lD [val _, sl .v _] ty_45)
 refine rB ga ?_ (x := cL [(true, [val _, sl _ _])] [(true, [val _, sl .v _])] c_57 (hs := by exact impl_IsRow))
 refine zc6 ?_
 refine sc (fun hba => ?_) (fun hba => ?_)
 exact zc5
 have hok : okQuery q = true ∧ okRow r = true := by simp_all
 refine zbr ?_
 refine sS [2, 3, 4] [2, 3] ?_
 refine rA ?_ (x := lF fd_45_1)
 refine zag ?_
 refine za4 ?_
 refine sP [2, 3, 4, 16, 17, 18] [2, 3] ?_
 refine sL [2, 3, 16, 17] [2, 3] (fun k : Nat => k ≤ r.Values.length ∧ (∀ i : Nat, i < k → admitsV q (i : Int) (r.Values.getD i 0) = true)) (fun k : Nat => [(18, RV.int (k : Int))]) (fun k : Nat => []) (fun k : Nat => r.Values.length - k) 0 (by exact ⟨by omega, fun i hi => absurd hi (Nat.not_lt_zero _)⟩) (by exact aI (by exact rfl) (tI)) (by exact ⟨⟩) ?_
 rintro k ⟨hk, ha⟩
 refine za5 ?_
 refine sc (fun hbb => ?_) (fun hbb => ?_)
 have hlt : k < r.Values.length := by omega
 refine za6 ?_
 refine sT [2, 3, 16, 17, 18] [2, 3] ?_
 refine rM ?_
 refine za7 ?_
 refine rS ?_
 refine sS [2, 3, 5, 6, 16, 17, 18] [2, 3] ?_
 refine rA ?_ (x := lD [val _, val _, sl .v _, sl .v _] ty_38)
 refine za8 ?_
 refine rA ?_ (x := cL [(true, [val _, val _, sl _ _, sl _ _]), (false, [val _]), (false, [val _])] [(true, [val _, val _, sl .v _, sl .v _]), (false, [val _]), (false, [val _])] c_58 (hs := by exact impl_admits))
 refine rA ?_ (x := nT)
 refine sc (fun hbc => ?_) (fun hbc => ?_)
 have hno : matchRow q r = false := match_no (i := k) (by rw [← gDt hlt]; simpa using hbc)
 refine sS [2, 3, 5, 6, 16, 17, 18] [2, 3] ?_
 refine za9 ?_
 exact rb (hno.symm)
 have hyes : admitsV q (k : Int) (r.Values.getD k 0) = true := by rw [← gDt hlt]; simpa using hbc
 refine sw_skip ?_
 refine sG [2, 3, 5, 6, 16, 17, 18] [2, 3] ?_
 refine zaa ?_
 refine nx (k + 1) (by exact ⟨by omega, fun i hi => by by_cases e : i = k; (· subst e; exact hyes); (· exact ha i (by omega))⟩)
 have hall := match_yes hok.1 hok.2 (fun i hi => ha i (by omega))
 refine sw_exit ?_
 refine sT [2, 3, 16, 17, 18] [2, 3] ?_
 refine za9 ?_
 exact rb (hall.symm)
theorem impl_IsUpdate {x : Update}  : SCall Try.prog 62 [(true, [val (vI x.Kind), val (vI x.Row.Id), sl .v (x.Row.Values.map cInt), val (vI x.Field), val (vI x.Value)])] (resRV [(false, [val (.bool (okUpdate x))])]) := by
 refine sF Try.func62 fun h0 w0 Fz0 => ?_
 refine sn 0 2 fun hl0_2 => ?_
 refine zc7 ?_
 refine zb8 ?_
 refine rA ?_ (x := lF fd_47_1)
 refine rA ?_ (x := lF fd_45_0)
 refine zak ?_
 refine cx 8 (fun ga sga => ?_) (fun ga sga => ?_)
 refine rB ga ?_ (x := lF fd_47_1)
 refine zc8 ?_
 refine zc9 ?_
 refine rA ?_ (x := pkT ga)
 refine zca ?_
 refine sS [1, 2, 3] [1] ?_
 refine zcb ?_
 refine sw_block ?_
 refine zcc ?_
 refine sc (fun hba => ?_) (fun hba => ?_)
 refine sS [1, 2, 3, 16] [1] ?_
 refine rA ?_ (x := lF fd_47_1)
 refine zax ?_
 refine rM ?_
 refine cx 22 (fun gb sgb => ?_) (fun gb sgb => ?_)
 exact zcd
 refine zbd ?_
 refine RunS.cases (s := 27) rfl (fun g5 => nomatch g5) (fun g5 => ?_)
 refine zbg ?_
 exact zce
 refine zcc ?_
 refine sc (fun hbb => ?_) (fun hbb => ?_)
 refine zcf ?_
 refine cx 35 (fun gb sgb => ?_) (fun gb sgb => ?_)
 refine zcg ?_
 refine zba ?_
 refine cx 40 (fun gc sgc => ?_) (fun gc sgc => ?_)
 exact zch
 exact zci
 refine zbd ?_
 refine RunS.cases (s := 40) rfl (fun g9 => nomatch g9) (fun g9 => ?_)
 refine zf g9 ?_
 refine rA ?_ (x := pkF g9)
 exact zce
 refine zcc ?_
 refine sc (fun hbc => ?_) (fun hbc => ?_)
 refine zcf ?_
 refine cx 48 (fun gb sgb => ?_) (fun gb sgb => ?_)
 refine zcj ?_
 refine rB gb ?_ (x := cL [(false, [val _])] [(false, [val _])] c_52 (hs := by exact impl_isField))
 refine zba ?_
 refine cx 53 (fun gc sgc => ?_) (fun gc sgc => ?_)
 refine rB gc ?_ (x := lF fd_47_3)
 refine zck ?_
 exact zcl
 exact zci
 refine zbd ?_
 refine RunS.cases (s := 53) rfl (fun g13 => nomatch g13) (fun g13 => ?_)
 refine zf g13 ?_
 refine rA ?_ (x := pkF g13)
 exact zce
 exact zcm
 refine zam ?_
 refine zca ?_
 refine sS [1, 2, 3] [1] ?_
 refine zcb ?_
 refine sw_block ?_
 refine zcc ?_
 refine sc (fun hba => ?_) (fun hba => ?_)
 refine sS [1, 2, 3, 16] [1] ?_
 refine rA ?_ (x := lF fd_47_1)
 refine zax ?_
 refine rM ?_
 refine cx 22 (fun gb sgb => ?_) (fun gb sgb => ?_)
 exact zcd
 refine zbd ?_
 refine RunS.cases (s := 27) rfl (fun g17 => nomatch g17) (fun g17 => ?_)
 refine zcn ?_
 exact zce
 refine zcc ?_
 refine sc (fun hbb => ?_) (fun hbb => ?_)
 refine zcf ?_
 refine RunS.cases (s := 35) rfl (fun g19 => nomatch g19) (fun g19 => ?_)
 refine zf g19 ?_
 refine rA ?_ (x := pkF g19)
 refine rM ?_
 refine RunS.cases (s := 40) rfl (fun g20 => nomatch g20) (fun g20 => ?_)
 refine zf g20 ?_
 refine rA ?_ (x := pkF g20)
 exact zce
 refine zcc ?_
 refine sc (fun hbc => ?_) (fun hbc => ?_)
 refine zcf ?_
 refine RunS.cases (s := 48) rfl (fun g22 => nomatch g22) (fun g22 => ?_)
 refine zf g22 ?_
 refine rA ?_ (x := pkF g22)
 refine rM ?_
 refine RunS.cases (s := 53) rfl (fun g23 => nomatch g23) (fun g23 => ?_)
 refine zf g23 ?_
 refine rA ?_ (x := pkF g23)
 exact zce
 exact zcm
theorem spec_IsUpdate {x : Update}  : SCall Try.prog 74 [(true, [val (vI x.Kind), val (vI x.Row.Id), sl .v (x.Row.Values.map cInt), val (vI x.Field), val (vI x.Value)])] (resRV [(false, [val (.bool (okUpdate x))])]) := by
 refine sF Try.func74 fun h0 w0 Fz0 => ?_
 refine sn 0 2 fun hl0_2 => ?_
 refine zc7 ?_
 refine zaf ?_
 refine zcb ?_
 refine sw_block ?_
 refine sS [1, 2, 4] [1] ?_
 refine zco ?_
 refine sc (fun hba => ?_) (fun hba => ?_)
 refine zcp ?_
 refine rA ?_ (x := lD [val _, sl .v _] ty_45)
 refine rA ?_ (x := cL [(true, [val _, sl _ _])] [(true, [val _, sl .v _])] c_90 (hs := by exact spec_IsRow))
 refine rM ?_
 refine cx 10 (fun ga sga => ?_) (fun ga sga => ?_)
 refine rB ga ?_ (x := lF fd_47_2)
 refine zcq ?_
 refine zb9 ?_
 refine cx 15 (fun gb sgb => ?_) (fun gb sgb => ?_)
 refine rB gb ?_ (x := lF fd_47_3)
 refine rB gb ?_ (x := lD [val _] ty_3)
 refine rB gb ?_ (x := B_eql)
 refine rA ?_ (x := pkT gb)
 exact zce
 refine zf gb ?_
 refine rA ?_ (x := pkF gb)
 exact zce
 refine zbf ?_
 refine RunS.cases (s := 15) rfl (fun g4 => nomatch g4) (fun g4 => ?_)
 refine zbe ?_
 exact zce
 refine sS [1, 2, 4] [1] ?_
 refine zco ?_
 refine sc (fun hbb => ?_) (fun hbb => ?_)
 refine zcp ?_
 refine zas ?_
 refine rM ?_
 refine cx 26 (fun ga sga => ?_) (fun ga sga => ?_)
 refine rB ga ?_ (x := lF fd_47_1)
 refine zc8 ?_
 refine zc9 ?_
 refine zb9 ?_
 refine cx 33 (fun gb sgb => ?_) (fun gb sgb => ?_)
 refine zcg ?_
 refine zba ?_
 refine cx 38 (fun gc sgc => ?_) (fun gc sgc => ?_)
 exact zch
 exact zci
 refine zbd ?_
 refine RunS.cases (s := 38) rfl (fun g9 => nomatch g9) (fun g9 => ?_)
 refine zf g9 ?_
 refine rA ?_ (x := pkF g9)
 exact zce
 refine zbf ?_
 refine RunS.cases (s := 33) rfl (fun g10 => nomatch g10) (fun g10 => ?_)
 refine zf g10 ?_
 refine rA ?_ (x := pkF g10)
 refine rM ?_
 refine RunS.cases (s := 38) rfl (fun g11 => nomatch g11) (fun g11 => ?_)
 refine zf g11 ?_
 refine rA ?_ (x := pkF g11)
 exact zce
 refine sS [1, 2, 4] [1] ?_
 refine zco ?_
 refine sc (fun hbc => ?_) (fun hbc => ?_)
 refine zcp ?_
 refine zas ?_
 refine rM ?_
 refine cx 49 (fun ga sga => ?_) (fun ga sga => ?_)
 refine rB ga ?_ (x := lF fd_47_1)
 refine zc8 ?_
 refine zc9 ?_
 refine zb9 ?_
 refine cx 56 (fun gb sgb => ?_) (fun gb sgb => ?_)
 refine zcj ?_
 refine rB gb ?_ (x := cL [(false, [val _]), (false, [val _]), (false, [val _])] [(false, [val _]), (false, [val _]), (false, [val _])] c_66 (hs := by exact spec_l1In))
 refine zba ?_
 refine cx 61 (fun gc sgc => ?_) (fun gc sgc => ?_)
 refine rB gc ?_ (x := lF fd_47_3)
 refine rB gc ?_ (x := lD [val _] ty_3)
 refine rB gc ?_ (x := cL [(false, [val _]), (false, [val _]), (false, [val _])] [(false, [val _]), (false, [val _]), (false, [val _])] c_66 (hs := by exact spec_l1In))
 exact zcl
 exact zci
 refine zbd ?_
 refine RunS.cases (s := 61) rfl (fun g16 => nomatch g16) (fun g16 => ?_)
 refine zf g16 ?_
 refine rA ?_ (x := pkF g16)
 exact zce
 refine zbf ?_
 refine RunS.cases (s := 56) rfl (fun g17 => nomatch g17) (fun g17 => ?_)
 refine zcn ?_
 refine rM ?_
 refine RunS.cases (s := 61) rfl (fun g18 => nomatch g18) (fun g18 => ?_)
 refine zf g18 ?_
 refine rA ?_ (x := pkF g18)
 exact zce
 refine sw_skip ?_
 refine sS [1, 2, 4] [1] ?_
 refine rK ?_
 exact zcr
end Go.Proofs.Ytmekkgdboplbjaa
