/- What functions of the program compute. No condition. -/
import Derived.Test.YteflgldonmgejaaGreatCZMRunAdaptive
import Derived.Test.YteflgldonmgejaaGreatCFcRunAdaptive
import Derived.Test.YteflgldonmgejaaGreatCQuerRunAdaptive
import Derived.Test.YteflgldonmgejaaGreatCStoRunAdaptive
import Derived.Test.YteflgldonmgejaaGreatCIdbRunAdaptive
import Derived.Test.YteflgldonmgejaaGreatCChgRunAdaptive
import Derived.Test.YteflgldonmgejaaGreatCDe
import Derived.KernelRfl
set_option linter.unusedVariables false
set_option linter.unusedSimpArgs false
namespace Go.Proofs.YteflgldonmgejaaGreat
open Go Go.RowKit M PV
set_option maxRecDepth 10000
attribute [local irreducible] PV.Lcl PV.LclR RV.Lcl
theorem impl_isOrder {o : List Int}  : SCall Tryz.prog 115 [(false, [sl .v (o.map cInt)])] (resRV [(false, [val (.bool (okOrder o))])]) := by
 refine sF Tryz.func115 fun h0 w0 Fz0 => ?_
 refine sj 0 fun hl0 => ?_
 refine zgd ?_
 refine zge ?_
 refine sL [0] [] (fun k : Nat => k ≤ 3 ∧ okOrdTo o k = true) (fun k : Nat => [(3, RV.int (k : Int))]) (fun k : Nat => []) (fun k : Nat => 3 - k) 0 (by exact ⟨by omega, rfl⟩) (by exact aI (by exact rfl) (tI)) (by exact ⟨⟩) ?_
 rintro k ⟨hk, ha⟩
 refine zj5 ?_
 refine zi8 ?_
 refine sc (fun hba => ?_) (fun hba => ?_)
 have hlt : k < 3 := by omega
 refine zed ?_
 refine sS [0, 3] [] ?_
 refine zfq ?_
 refine rA ?_ (x := nT)
 refine sc (fun hbb => ?_) (fun hbb => ?_)
 have hno : hasI o (k : Int) = false := by simpa using hbb
 refine sS [0, 3] [] ?_
 refine zgb ?_
 exact rb ((okOrd_no hlt hno).symm)
 have hyes : hasI o (k : Int) = true := by simpa using hbb
 refine zgh ?_
 refine ze0 ?_
 refine nx (k + 1) (by exact ⟨by omega, by rw [okOrdTo_succ, ha, hyes]; rfl⟩) (e := (by exact aI (by exact int_eq (by omega)) (tI)))
 have hend : k = 3 := by omega
 rw [hend] at ha
 refine zgi ?_
 refine zb0 ?_
 refine rA ?_ (x := B_eql)
 refine zgj ?_
 exact rb (by rw [← okOrd_eq, ha, Bool.true_and]; first | rfl | (rw [decide_eq_decide]; omega) | (rw [Bool.eq_iff_iff]; simp; omega) | (rw [Bool.eq_iff_iff]; simp))
theorem impl_activeOk {p1 p2 p7 : Fl} {s : Store} {a : Active}  : SCall Tryz.prog 116 [(true, [sl .v (s.Segments.map (cVersionS p1 p2)), val (vI s.Now)]), (true, [val (vI a.Query.Id), val (vI a.Query.Tenant), sl .v (a.Query.Conds.map cCond), sl .v (a.Query.Out.map cInt), val (vI a.Time), sl .v (a.Todo.map cInt), val (vI a.Age), val (vI a.Sent), val (vI a.Cap), sl .v (a.Rows.map (cRow p7))])] (resRV [(false, [val (.bool (okActive s a))])]) := by
 refine sF Tryz.func116 fun h0 w0 Fz0 => ?_
 refine sn 0 0 fun hl0_0 => ?_
 refine sn 1 2 fun hl1_2 => ?_
 refine sn 1 3 fun hl1_3 => ?_
 refine sn 1 5 fun hl1_5 => ?_
 refine sn 1 9 fun hl1_9 => ?_
 refine zav ?_
 refine zdb ?_
 refine zln ?_
 refine zfl ?_
 refine sP [2, 3, 4, 8, 9, 10] [2, 3] ?_
 refine sL [2, 3, 8, 9] [2, 3] (fun k : Nat => k ≤ a.Todo.length ∧ adjTo 0 (todoP s.Segments.length) ltI_ a.Todo k = true) (fun k : Nat => [(10, RV.int (k : Int))]) (fun k : Nat => []) (fun k : Nat => a.Todo.length - k) 0 (by exact ⟨by omega, rfl⟩) (by exact aI (by exact rfl) (tI)) (by exact ⟨⟩) ?_
 rintro k ⟨hk, ha⟩
 refine zfm ?_
 refine sc (fun hba => ?_) (fun hba => ?_)
 have hlt : k < a.Todo.length := by omega
 have hgk : a.Todo.getD k 0 = a.Todo[k] := getD_at hlt
 have hgp : 0 < k → a.Todo.getD (k - 1) 0 = a.Todo[k - 1] := fun h => getD_at (by omega)
 refine zed ?_
 refine sT [2, 3, 8, 9, 10] [2, 3] ?_
 refine rM ?_
 refine zfn ?_
 refine rS ?_
 refine sS [2, 3, 5, 6, 8, 9, 10] [2, 3] ?_
 refine rM ?_
 refine zhy ?_
 refine rA ?_ (x := B_sub)
 refine zia ?_
 refine cx 22 (fun ga sga => ?_) (fun ga sga => ?_)
 refine zja ?_
 exact zlo
 refine rB ga ?_ (x := sM)
 refine rB ga ?_ (x := B_gtr)
 refine rB ga ?_ (x := sM)
 refine cx 25 (fun gb sgb => ?_) (fun gb sgb => ?_)
 refine rB gb ?_ (x := lF fd_142_2)
 refine rB gb ?_ (x := lD [sl .v _] ty_25)
 refine zk7 ?_
 refine rB gb ?_ (x := loc_index (k := k - 1) (by decide) sl_25 (by exact ⟨⟩) (by omega) (by exact getm2 (by omega) rfl) (by exact rfl))
 refine rB gb ?_ (x := lE [val _] ty_3)
 refine rB gb ?_ (x := sM)
 refine rB gb ?_ (x := B_geq)
 refine rB ga ?_ (x := pkT gb)
 refine rA ?_ (x := pkF ga)
 refine sc (fun hbb => ?_) (fun hbb => ?_)
 exact zlo
 exact zlp
 refine zf gb ?_
 refine rB ga ?_ (x := pkF gb)
 refine rA ?_ (x := pkF ga)
 refine scF ?_
 exact zlp
 have hend : k = a.Todo.length := by omega
 have hall : adjAll 0 (todoP s.Segments.length) ltI_ a.Todo = true := adj_end ha hend
 refine sw_exit ?_
 refine sT [2, 3, 8, 9, 10] [2, 3] ?_
 refine zln ?_
 refine rA ?_ (x := B_gtr)
 refine rM ?_
 refine cx 41 (fun ga sga => ?_) (fun ga sga => ?_)
 refine rB ga ?_ (x := lF fd_142_0)
 refine rB ga ?_ (x := lD [val _, val _, sl .v _, sl .v _] ty_65)
 refine rB ga ?_ (x := cL [(true, [val _, val _, sl _ _, sl _ _])] [(true, [val _, val _, sl .v _, sl .v _])] c_117 (hs := by exact impl_IsQuery))
 refine zgy ?_
 refine cx 46 (fun gb sgb => ?_) (fun gb sgb => ?_)
 refine rB gb ?_ (x := lF fd_142_1)
 refine rB gb ?_ (x := lD [val _] ty_3)
 refine rB gb ?_ (x := lF fd_35_1)
 refine zii ?_
 refine zh0 ?_
 refine cx 53 (fun gc sgc => ?_) (fun gc sgc => ?_)
 refine rB gc ?_ (x := lF fd_142_3)
 refine zlq ?_
 refine rA ?_ (x := pkT gc)
 refine rM ?_
 refine cx 58 (fun gd sgd => ?_) (fun gd sgd => ?_)
 refine rB gd ?_ (x := lF fd_142_4)
 refine zik ?_
 refine zlj ?_
 refine cx 63 (fun ge sge => ?_) (fun ge sge => ?_)
 refine rB ge ?_ (x := lF fd_142_5)
 refine rB ge ?_ (x := lD [val _] ty_3)
 refine rB ge ?_ (x := cL [(false, [val _]), (false, [val _]), (false, [val _])] [(false, [val _]), (false, [val _]), (false, [val _])] c_114 (hs := by exact impl_within))
 refine rA ?_ (x := pkT ge)
 refine rM ?_
 refine cx 68 (fun gf sgf => ?_) (fun gf sgf => ?_)
 refine rB gf ?_ (x := lF fd_142_6)
 refine rB gf ?_ (x := lD [sl .v _] ty_93)
 refine rB gf ?_ (x := cL [(false, [sl _ _])] [(false, [sl .v _])] c_118 (hs := by exact impl_resultOk))
 refine rA ?_ (x := pkT gf)
 exact zlr
 refine zf gf ?_
 refine rA ?_ (x := pkF gf)
 exact zlr
 refine zf ge ?_
 refine rA ?_ (x := pkF ge)
 refine rM ?_
 refine RunS.cases (s := 68) rfl (fun g13 => nomatch g13) (fun g13 => ?_)
 refine zf g13 ?_
 refine rA ?_ (x := pkF g13)
 exact zlr
 refine zf gd ?_
 refine zlk ?_
 refine RunS.cases (s := 63) rfl (fun g14 => nomatch g14) (fun g14 => ?_)
 refine zf g14 ?_
 refine rA ?_ (x := pkF g14)
 refine rM ?_
 refine RunS.cases (s := 68) rfl (fun g15 => nomatch g15) (fun g15 => ?_)
 refine zf g15 ?_
 refine rA ?_ (x := pkF g15)
 exact zlr
 refine zh2 ?_
 refine rM ?_
 refine RunS.cases (s := 58) rfl (fun g16 => nomatch g16) (fun g16 => ?_)
 refine zf g16 ?_
 refine rA ?_ (x := pkF g16)
 refine rM ?_
 refine RunS.cases (s := 63) rfl (fun g17 => nomatch g17) (fun g17 => ?_)
 refine zf g17 ?_
 refine rA ?_ (x := pkF g17)
 refine rM ?_
 refine RunS.cases (s := 68) rfl (fun g18 => nomatch g18) (fun g18 => ?_)
 refine zf g18 ?_
 refine rA ?_ (x := pkF g18)
 exact zlr
 refine zh3 ?_
 refine rM ?_
 refine RunS.cases (s := 53) rfl (fun g19 => nomatch g19) (fun g19 => ?_)
 refine zf g19 ?_
 refine rA ?_ (x := pkF g19)
 refine rM ?_
 refine RunS.cases (s := 58) rfl (fun g20 => nomatch g20) (fun g20 => ?_)
 refine zf g20 ?_
 refine rA ?_ (x := pkF g20)
 refine rM ?_
 refine RunS.cases (s := 63) rfl (fun g21 => nomatch g21) (fun g21 => ?_)
 refine zf g21 ?_
 refine rA ?_ (x := pkF g21)
 refine rM ?_
 refine RunS.cases (s := 68) rfl (fun g22 => nomatch g22) (fun g22 => ?_)
 refine zf g22 ?_
 refine rA ?_ (x := pkF g22)
 exact zlr
 refine zh4 ?_
 refine RunS.cases (s := 46) rfl (fun g23 => nomatch g23) (fun g23 => ?_)
 refine zf g23 ?_
 refine rA ?_ (x := pkF g23)
 refine rM ?_
 refine RunS.cases (s := 53) rfl (fun g24 => nomatch g24) (fun g24 => ?_)
 refine zf g24 ?_
 refine rA ?_ (x := pkF g24)
 refine rM ?_
 refine RunS.cases (s := 58) rfl (fun g25 => nomatch g25) (fun g25 => ?_)
 refine zf g25 ?_
 refine rA ?_ (x := pkF g25)
 refine rM ?_
 refine RunS.cases (s := 63) rfl (fun g26 => nomatch g26) (fun g26 => ?_)
 refine zf g26 ?_
 refine rA ?_ (x := pkF g26)
 refine rM ?_
 refine RunS.cases (s := 68) rfl (fun g27 => nomatch g27) (fun g27 => ?_)
 refine zf g27 ?_
 refine rA ?_ (x := pkF g27)
 exact zlr
theorem spec_l9Todo {l : List Int} {n : Int}  (hn : 0 ≤ n ∧ n ≤ 9223372036854775807) : SCall Tryz.prog 174 [(false, [sl .v (l.map cInt)]), (false, [val (vI n)])] (resRV [(false, [val (.bool (okTodo l n))])]) := by
 refine sF Tryz.func174 fun h0 w0 Fz0 => ?_
 refine sj 0 fun hl0 => ?_
 refine zej ?_
 refine sL [0, 1] [] (fun k : Nat => k ≤ l.length ∧ adjTo 0 (todoP n) ltI_ l k = true) (fun k : Nat => [(5, RV.int (k : Int))]) (fun k : Nat => []) (fun k : Nat => l.length - k) 0 (by exact ⟨by omega, rfl⟩) (by exact aI (by exact rfl) (tI)) (by exact ⟨⟩) ?_
 rintro k ⟨hk, ha⟩
 refine zb2 ?_
 refine sc (fun hba => ?_) (fun hba => ?_)
 have hlt : k < l.length := by omega
 have hgk : l.getD k 0 = l[k] := getD_at hlt
 have hgp : 0 < k → l.getD (k - 1) 0 = l[k - 1] := fun h => getD_at (by omega)
 refine zci ?_
 refine zcj ?_
 refine dA 0 ?_ (x := sM)
 refine dA 16 ?_ (x := B_sub)
 refine dA 63 ?_ (x := cL [(false, [val _]), (false, [val _]), (false, [val _])] [(false, [val _]), (false, [val _]), (false, [val _])] c_97 (hs := by exact spec_l1In))
 refine dA 127 ?_ (x := nT)
 refine dA 255 ?_ (x := sM)
 refine dx 20 (fun ga sga => ?_) (fun ga sga => ?_)
 refine dT 511 ga ?_
 refine dT 1023 ga ?_
 refine dT 2047 ga ?_
 refine dU 4095 ?_
 refine dU 4095 ?_
 refine dU 16383 ?_
 refine dU 32767 ?_
 refine dU 4095 ?_
 refine dU 4095 ?_
 refine dU 135167 ?_
 refine dU 462847 ?_
 refine dU 987135 ?_
 refine dU 2097151 ?_
 refine zjo ?_
 refine scT ?_
 exact zls
 refine dB 511 ga ?_ (x := sM)
 refine dB 1023 ga ?_ (x := B_gtr)
 refine dB 2047 ga ?_ (x := sM)
 refine dx 23 (fun gb sgb => ?_) (fun gb sgb => ?_)
 refine dB 4095 gb ?_ (x := vM false [sl .v _])
 refine dB 4095 gb ?_ (x := sM)
 refine dB 16383 gb ?_ (x := loc_index (by decide) sl_25 (by exact ⟨⟩) (by exact rfl) (by exact getm2 (by omega) rfl) (by exact rfl))
 refine dB 32767 gb ?_ (x := lE [val _] ty_3)
 refine dB 4095 gb ?_ (x := vM false [sl .v _])
 refine dB 4095 gb ?_ (x := sM)
 refine dB 135167 gb ?_ (x := B_sub)
 refine dB 462847 gb ?_ (x := loc_index (k := k - 1) (by decide) sl_25 (by exact ⟨⟩) (by omega) (by exact getm2 (by omega) rfl) (by exact rfl))
 refine dB 987135 gb ?_ (x := lE [val _] ty_3)
 refine dB 2097151 gb ?_ (x := B_leq)
 refine dB 4194303 ga ?_ (x := pkT gb)
 refine dA 8388607 ?_ (x := pkF ga)
 refine sc (fun hbb => ?_) (fun hbb => ?_)
 exact zls
 exact zlt
 refine dF 4095 gb ?_
 refine dF 4095 gb ?_
 refine dF 16383 gb ?_
 refine dF 32767 gb ?_
 refine dF 4095 gb ?_
 refine dF 4095 gb ?_
 refine dF 135167 gb ?_
 refine dF 462847 gb ?_
 refine dF 987135 gb ?_
 refine dF 2097151 gb ?_
 refine dB 4194303 ga ?_ (x := pkF gb)
 refine dA 8388607 ?_ (x := pkF ga)
 refine scF ?_
 exact zlt
 have hend : k = l.length := by omega
 have hall : adjAll 0 (todoP n) ltI_ l = true := adj_end ha hend
 refine zfj ?_
 refine zb0 ?_
 refine rA ?_ (x := B_gtr)
 refine zgj ?_
 exact rb (by first | (simp_all [okTodo]; done) | (simp_all [okTodo]; rfl) | (simp_all [okTodo]; omega) | (simp_all [okTodo]; intros; omega))
theorem spec_l9Active {p1 p2 p5 p6 p7 p8 p9 p11 p12 p13 p14 p16 p17 p18 p23 : Fl} {e : Engine} {a : Active}  : SCall Tryz.prog 99 [(true, [sl .v (e.Store.Segments.map (cVersionS p1 p2)), val (vI e.Store.Now), val (vI e.Cursor), sl .v (e.Order.map cInt), sl .v (e.Active.map (cActive p5 p6 p7 p8 p9)), sl .v (e.Done.map (cFinished p11 p12 p13 p14)), sl .v (e.Ledger.map (cCharge p16 p17 p18)), val (vI e.Steps)]), (true, [val (vI a.Query.Id), val (vI a.Query.Tenant), sl .v (a.Query.Conds.map cCond), sl .v (a.Query.Out.map cInt), val (vI a.Time), sl .v (a.Todo.map cInt), val (vI a.Age), val (vI a.Sent), val (vI a.Cap), sl .v (a.Rows.map (cRow p23))])] (resRV [(false, [val (.bool (okActive e.Store a))])]) := by
 refine sF Tryz.func99 fun h0 w0 Fz0 => ?_
 refine sn 0 0 fun hl0_0 => ?_
 refine sn 0 3 fun hl0_3 => ?_
 refine sn 0 4 fun hl0_4 => ?_
 refine sn 0 5 fun hl0_5 => ?_
 refine sn 0 6 fun hl0_6 => ?_
 refine sn 1 2 fun hl1_2 => ?_
 refine sn 1 3 fun hl1_3 => ?_
 refine sn 1 5 fun hl1_5 => ?_
 refine sn 1 9 fun hl1_9 => ?_
 refine zay ?_
 refine rX ?_ (x := (loc_box (ag := true) (cs := [val _, val _, sl _ _, sl _ _, val _, sl _ _, val _, val _, val _, sl _ _]) (by decide) (by exact ⟨⟩)))
 refine rK ?_
 refine sT [2, 3, 4] [2, 3] ?_
 refine zdc ?_
 refine rA ?_ (x := cL [(true, [val _, val _, sl _ _, sl _ _])] [(true, [val _, val _, sl .v _, sl .v _])] c_100 (hs := by exact spec_IsQuery))
 refine rM ?_
 refine cx 8 (fun ga sga => ?_) (fun ga sga => ?_)
 refine rB ga ?_ (x := lF fd_142_1)
 refine zlu ?_
 refine rB ga ?_ (x := lF fd_35_1)
 refine zh5 ?_
 refine zgy ?_
 refine cx 16 (fun gb sgb => ?_) (fun gb sgb => ?_)
 refine rB gb ?_ (x := lF fd_142_2)
 refine rB gb ?_ (x := lD [sl .v _] ty_25)
 refine rB gb ?_ (x := lF fd_40_0)
 refine rB gb ?_ (x := lF fd_35_0)
 refine rB gb ?_ (x := lD [sl .v _] ty_33)
 refine rB gb ?_ (x := lN sl_33)
 refine rB gb ?_ (x := cL [(false, [sl _ _]), (false, [val _])] [(false, [sl .v _]), (false, [val _])] c_174 (hs := by exact (spec_l9Todo (by omega))))
 refine zh0 ?_
 refine cx 25 (fun gc sgc => ?_) (fun gc sgc => ?_)
 refine rB gc ?_ (x := lF fd_142_3)
 refine rB gc ?_ (x := lD [val _] ty_3)
 refine zjv ?_
 refine rM ?_
 refine cx 30 (fun gd sgd => ?_) (fun gd sgd => ?_)
 refine rB gd ?_ (x := lF fd_142_4)
 refine zlv ?_
 refine zlj ?_
 refine cx 35 (fun ge sge => ?_) (fun ge sge => ?_)
 refine rB ge ?_ (x := lF fd_142_5)
 refine zll ?_
 refine rA ?_ (x := pkT ge)
 refine rM ?_
 refine cx 40 (fun gf sgf => ?_) (fun gf sgf => ?_)
 refine rB gf ?_ (x := lF fd_142_6)
 refine rB gf ?_ (x := lD [sl .v _] ty_93)
 refine rB gf ?_ (x := cL [(false, [sl _ _])] [(false, [sl .v _])] c_101 (hs := by exact spec_l9List))
 refine rA ?_ (x := pkT gf)
 exact zlw
 refine zf gf ?_
 refine rA ?_ (x := pkF gf)
 exact zlw
 refine zf ge ?_
 refine rA ?_ (x := pkF ge)
 refine rM ?_
 refine RunS.cases (s := 40) rfl (fun g7 => nomatch g7) (fun g7 => ?_)
 refine zf g7 ?_
 refine rA ?_ (x := pkF g7)
 exact zlw
 refine zf gd ?_
 refine zlk ?_
 refine RunS.cases (s := 35) rfl (fun g8 => nomatch g8) (fun g8 => ?_)
 refine zf g8 ?_
 refine rA ?_ (x := pkF g8)
 refine rM ?_
 refine RunS.cases (s := 40) rfl (fun g9 => nomatch g9) (fun g9 => ?_)
 refine zf g9 ?_
 refine rA ?_ (x := pkF g9)
 exact zlw
 refine zh2 ?_
 refine rM ?_
 refine RunS.cases (s := 30) rfl (fun g10 => nomatch g10) (fun g10 => ?_)
 refine zf g10 ?_
 refine rA ?_ (x := pkF g10)
 refine rM ?_
 refine RunS.cases (s := 35) rfl (fun g11 => nomatch g11) (fun g11 => ?_)
 refine zf g11 ?_
 refine rA ?_ (x := pkF g11)
 refine rM ?_
 refine RunS.cases (s := 40) rfl (fun g12 => nomatch g12) (fun g12 => ?_)
 refine zf g12 ?_
 refine rA ?_ (x := pkF g12)
 exact zlw
 refine zh3 ?_
 refine rM ?_
 refine RunS.cases (s := 25) rfl (fun g13 => nomatch g13) (fun g13 => ?_)
 refine zf g13 ?_
 refine rA ?_ (x := pkF g13)
 refine rM ?_
 refine RunS.cases (s := 30) rfl (fun g14 => nomatch g14) (fun g14 => ?_)
 refine zf g14 ?_
 refine rA ?_ (x := pkF g14)
 refine rM ?_
 refine RunS.cases (s := 35) rfl (fun g15 => nomatch g15) (fun g15 => ?_)
 refine zf g15 ?_
 refine rA ?_ (x := pkF g15)
 refine rM ?_
 refine RunS.cases (s := 40) rfl (fun g16 => nomatch g16) (fun g16 => ?_)
 refine zf g16 ?_
 refine rA ?_ (x := pkF g16)
 exact zlw
 refine zh4 ?_
 refine RunS.cases (s := 16) rfl (fun g17 => nomatch g17) (fun g17 => ?_)
 refine zf g17 ?_
 refine rA ?_ (x := pkF g17)
 refine rM ?_
 refine RunS.cases (s := 25) rfl (fun g18 => nomatch g18) (fun g18 => ?_)
 refine zf g18 ?_
 refine rA ?_ (x := pkF g18)
 refine rM ?_
 refine RunS.cases (s := 30) rfl (fun g19 => nomatch g19) (fun g19 => ?_)
 refine zf g19 ?_
 refine rA ?_ (x := pkF g19)
 refine rM ?_
 refine RunS.cases (s := 35) rfl (fun g20 => nomatch g20) (fun g20 => ?_)
 refine zf g20 ?_
 refine rA ?_ (x := pkF g20)
 refine rM ?_
 refine RunS.cases (s := 40) rfl (fun g21 => nomatch g21) (fun g21 => ?_)
 refine zf g21 ?_
 refine rA ?_ (x := pkF g21)
 exact zlw
theorem impl_IsEngine {p1 p2 p5 p6 p7 p8 p9 p11 p12 p13 p14 p16 p17 p18 : Fl} {e : Engine}  (hb : wtEngine e ≤ 68719476736) : SCall Tryz.prog 50 [(true, [sl .v (e.Store.Segments.map (cVersionS p1 p2)), val (vI e.Store.Now), val (vI e.Cursor), sl .v (e.Order.map cInt), sl .v (e.Active.map (cActive p5 p6 p7 p8 p9)), sl .v (e.Done.map (cFinished p11 p12 p13 p14)), sl .v (e.Ledger.map (cCharge p16 p17 p18)), val (vI e.Steps)])] (resRV [(false, [val (.bool (okEngine e))])]) := by
 refine sF Tryz.func50 fun h0 w0 Fz0 => ?_
 refine sn 0 0 fun hl0_0 => ?_
 refine sn 0 3 fun hl0_3 => ?_
 refine sn 0 4 fun hl0_4 => ?_
 refine sn 0 5 fun hl0_5 => ?_
 refine sn 0 6 fun hl0_6 => ?_
 have hbu := hb
 simp only [wtEngine] at hbu
 refine zay ?_
 refine zft ?_
 refine zdm ?_
 refine rA ?_ (x := cL [(true, [sl _ _, val _])] [(true, [sl .v _, val _])] c_113 (hs := by exact impl_IsStore (by omega)))
 refine zha ?_
 refine cx 13 (fun ga sga => ?_) (fun ga sga => ?_)
 refine zhb ?_
 refine RunS.cases (s := 24) rfl (fun g2 => ?_) (fun g2 => nomatch g2)
 refine zhc ?_
 refine rM ?_
 refine RunS.cases (s := 30) rfl (fun g3 => ?_) (fun g3 => nomatch g3)
 refine ziu ?_
 exact zlx
 refine rB ga ?_ (x := lF fd_40_1)
 refine zlu ?_
 refine rB ga ?_ (x := lF fd_35_0)
 refine rB ga ?_ (x := lD [sl .v _] ty_33)
 refine rB ga ?_ (x := lN sl_33)
 refine rB ga ?_ (x := B_sub)
 refine zlb ?_
 refine zhf ?_
 refine cx 24 (fun gb sgb => ?_) (fun gb sgb => ?_)
 refine zig ?_
 refine RunS.cases (s := 30) rfl (fun g6 => ?_) (fun g6 => nomatch g6)
 refine zlc ?_
 exact zlx
 refine rB gb ?_ (x := lF fd_40_2)
 refine rB gb ?_ (x := lD [sl .v _] ty_25)
 refine rB gb ?_ (x := cL [(false, [sl _ _])] [(false, [sl .v _])] c_115 (hs := by exact impl_isOrder))
 refine rB gb ?_ (x := nT)
 refine zij ?_
 refine cx 30 (fun gc sgc => ?_) (fun gc sgc => ?_)
 refine zht ?_
 exact zlx
 refine rB gc ?_ (x := lF fd_40_6)
 refine zlq ?_
 refine rB gc ?_ (x := nT)
 refine rA ?_ (x := pkF gc)
 refine sc (fun hba => ?_) (fun hba => ?_)
 exact zly
 have hp1 : (okStore e.Store && (inB e.Cursor 0 (e.Store.Segments.length - 1) && (okOrder e.Order && inB e.Steps 0 100000))) = true := by first | (simp_all; done) | (simp_all; omega)
 refine zhh ?_
 refine zdo ?_
 refine rA ?_ (x := lN sl_36)
 refine rA ?_ (x := B_gtr)
 refine rM ?_
 refine cx 40 (fun gd sgd => ?_) (fun gd sgd => ?_)
 refine zt gd ?_
 refine zlj ?_
 refine RunS.cases (s := 46) rfl (fun g12 => ?_) (fun g12 => nomatch g12)
 refine zt g12 ?_
 refine rA ?_ (x := pkT g12)
 refine scT ?_
 exact zlz
 refine rB gd ?_ (x := lF fd_40_4)
 refine rB gd ?_ (x := lD [sl .v _] ty_37)
 refine rB gd ?_ (x := lN sl_37)
 refine rB gd ?_ (x := B_gtr)
 refine zlk ?_
 refine cx 46 (fun ge sge => ?_) (fun ge sge => ?_)
 refine zt ge ?_
 refine rA ?_ (x := pkT ge)
 refine scT ?_
 exact zlz
 refine rB ge ?_ (x := lF fd_40_5)
 refine rB ge ?_ (x := lD [sl .v _] ty_38)
 refine rB ge ?_ (x := lN sl_38)
 refine rB ge ?_ (x := B_gtr)
 refine rA ?_ (x := pkF ge)
 refine sc (fun hbb => ?_) (fun hbb => ?_)
 exact zlz
 have hpr : engPre e = true := by unfold engPre; rw [hp1]; first | (simp_all; done) | (simp_all; omega)
 refine zhh ?_
 refine zm0 ?_
 refine sP [1, 2, 53, 54, 55] [1] ?_
 refine sL [1, 53, 54] [1] (fun k : Nat => k ≤ e.Active.length ∧ adjTo a0_ (okActive e.Store) ltA e.Active k = true) (fun k : Nat => [(55, RV.int (k : Int))]) (fun k : Nat => []) (fun k : Nat => e.Active.length - k) 0 (by exact ⟨by omega, rfl⟩) (by exact aI (by exact rfl) (tI)) (by exact ⟨⟩) ?_
 rintro k ⟨hk, ha⟩
 refine zfm ?_
 refine sc (fun hbc => ?_) (fun hbc => ?_)
 have hlt : k < e.Active.length := by omega
 have hgk : e.Active.getD k a0_ = e.Active[k] := getD_at hlt
 have hgp : 0 < k → e.Active.getD (k - 1) a0_ = e.Active[k - 1] := fun h => getD_at (by omega)
 refine zed ?_
 refine sT [1, 53, 54, 55] [1] ?_
 refine rM ?_
 refine zm1 ?_
 refine rX ?_ (x := (loc_alloc (by decide) z_142 zo_142))
 refine rS ?_
 refine zm2 ?_
 refine sO [(1, _), (3, _), (4, _), (53, _), (54, _), (55, _)] [(1, _), (4, (142, [val _, val _, sl _ _, sl _ _, val _, sl _ _, val _, val _, val _, sl _ _]))] ?_
 refine sw_draw hm_ ?_
 refine zm3 ?_
 refine dA 0 ?_ (x := lD [val _, val _, sl .v _, sl .v _, val _, sl .v _, val _, val _, val _, sl .v _] ty_142)
 refine dA 7 ?_ (x := cL [(true, [sl _ _, val _]), (true, [val _, val _, sl _ _, sl _ _, val _, sl _ _, val _, val _, val _, sl _ _])] [(true, [sl .v _, val _]), (true, [val _, val _, sl .v _, sl .v _, val _, sl .v _, val _, val _, val _, sl .v _])] c_116 (hs := by exact impl_activeOk))
 refine dA 15 ?_ (x := nT)
 refine dA 31 ?_ (x := sM)
 refine dx 65 (fun gf sgf => ?_) (fun gf sgf => ?_)
 refine dT 63 gf ?_
 refine dT 127 gf ?_
 refine dT 255 gf ?_
 refine dU 511 ?_
 refine dU 1023 ?_
 refine dU 511 ?_
 refine dU 2559 ?_
 refine dU 8191 ?_
 refine dU 16383 ?_
 refine dU 32767 ?_
 refine dU 65535 ?_
 refine dU 511 ?_
 refine dU 131583 ?_
 refine dU 393727 ?_
 refine dU 1048575 ?_
 refine dT 2097151 gf ?_
 refine dA 4194303 ?_ (x := pkT gf)
 refine scT ?_
 exact zm4
 refine dB 63 gf ?_ (x := sM)
 refine dB 127 gf ?_ (x := B_gtr)
 refine dB 255 gf ?_ (x := sM)
 refine dx 68 (fun gg sgg => ?_) (fun gg sgg => ?_)
 refine dB 511 gg ?_ (x := lF fd_40_3)
 refine dB 1023 gg ?_ (x := lD [sl .v _] ty_36)
 refine dB 511 gg ?_ (x := sM)
 refine dB 2559 gg ?_ (x := B_sub)
 refine dB 8191 gg ?_ (x := loc_index (k := k - 1) (by decide) sl_36 (by exact ⟨⟩) (by omega) (by exact getm2 (by omega) rfl) (by exact rfl))
 refine dB 16383 gg ?_ (x := loc_efield (by decide) fd_142_0 (by exact nl rfl))
 refine dB 32767 gg ?_ (x := loc_efield (by decide) fd_65_0 (by exact nl rfl))
 refine dB 65535 gg ?_ (x := lE [val _] ty_3)
 refine dB 511 gg ?_ (x := lF fd_142_0)
 refine dB 131583 gg ?_ (x := lF fd_65_0)
 refine dB 393727 gg ?_ (x := lD [val _] ty_3)
 refine dB 1048575 gg ?_ (x := B_geq)
 refine dB 2097151 gf ?_ (x := pkT gg)
 refine dA 4194303 ?_ (x := pkF gf)
 refine sc (fun hbd => ?_) (fun hbd => ?_)
 exact zm4
 exact zm5
 refine dF 511 gg ?_
 refine dF 1023 gg ?_
 refine dF 511 gg ?_
 refine dF 2559 gg ?_
 refine dF 8191 gg ?_
 refine dF 16383 gg ?_
 refine dF 32767 gg ?_
 refine dF 65535 gg ?_
 refine dF 511 gg ?_
 refine dF 131583 gg ?_
 refine dF 393727 gg ?_
 refine dF 1048575 gg ?_
 refine dB 2097151 gf ?_ (x := pkF gg)
 refine dA 4194303 ?_ (x := pkF gf)
 refine scF ?_
 exact zm5
 have hend : k = e.Active.length := by omega
 have hall : adjAll a0_ (okActive e.Store) ltA e.Active = true := adj_end ha hend
 refine zhm ?_
 refine sT [1, 53, 54, 55] [1] ?_
 refine zdp ?_
 refine rA ?_ (x := lN sl_37)
 refine zfl ?_
 refine sP [1, 53, 54, 55, 85, 86, 87] [1] ?_
 refine sL [1, 53, 54, 55, 85, 86] [1] (fun k : Nat => k ≤ e.Done.length ∧ (List.take k e.Done).all (okFin e.Store.Now) = true) (fun k : Nat => [(87, RV.int (k : Int))]) (fun k : Nat => []) (fun k : Nat => e.Done.length - k) 0 (by exact ⟨by omega, rfl⟩) (by exact aI (by exact rfl) (tI)) (by exact ⟨⟩) ?_
 rintro k ⟨hk, ha⟩
 refine zfm ?_
 refine sc (fun hbd => ?_) (fun hbd => ?_)
 have hlt : k < e.Done.length := by omega
 refine zed ?_
 refine sT [1, 53, 54, 55, 85, 86, 87] [1] ?_
 refine zm6 ?_
 refine zm7 ?_
 refine sw_seq ?_
 refine sO [(1, _), (6, _), (53, _), (54, _), (55, _), (85, _), (86, _), (87, _)] [(1, _), (6, (144, [val _, val _, sl _ _, sl _ _, val _, val _, sl _ _]))] ?_
 refine sw_reg ?_
 refine zdj ?_
 refine zm8 ?_
 refine cx 95 (fun gf sgf => ?_) (fun gf sgf => ?_)
 refine zt gf ?_
 refine rA ?_ (x := pkT gf)
 refine rM ?_
 refine RunS.cases (s := 104) rfl (fun g25 => ?_) (fun g25 => nomatch g25)
 refine zt g25 ?_
 refine rA ?_ (x := pkT g25)
 refine rM ?_
 refine RunS.cases (s := 110) rfl (fun g26 => ?_) (fun g26 => nomatch g26)
 refine zt g26 ?_
 refine rA ?_ (x := pkT g26)
 refine scT ?_
 exact zm9
 refine rB gf ?_ (x := lF fd_144_1)
 refine rB gf ?_ (x := lD [val _] ty_3)
 refine rB gf ?_ (x := lF fd_40_0)
 refine rB gf ?_ (x := lF fd_35_1)
 refine rB gf ?_ (x := lD [val _] ty_3)
 refine rB gf ?_ (x := cL [(false, [val _]), (false, [val _]), (false, [val _])] [(false, [val _]), (false, [val _]), (false, [val _])] c_114 (hs := by exact impl_within))
 refine rB gf ?_ (x := nT)
 refine rA ?_ (x := pkF gf)
 refine rM ?_
 refine cx 104 (fun gg sgg => ?_) (fun gg sgg => ?_)
 refine zt gg ?_
 refine rA ?_ (x := pkT gg)
 refine rM ?_
 refine RunS.cases (s := 110) rfl (fun g29 => ?_) (fun g29 => nomatch g29)
 refine zt g29 ?_
 refine rA ?_ (x := pkT g29)
 refine scT ?_
 exact zm9
 refine rB gg ?_ (x := lF fd_144_2)
 refine rB gg ?_ (x := lD [val _] ty_3)
 refine rB gg ?_ (x := cL [(false, [val _]), (false, [val _]), (false, [val _])] [(false, [val _]), (false, [val _]), (false, [val _])] c_114 (hs := by exact impl_within))
 refine rB gg ?_ (x := nT)
 refine rA ?_ (x := pkF gg)
 refine rM ?_
 refine cx 110 (fun gh sgh => ?_) (fun gh sgh => ?_)
 refine zt gh ?_
 refine rA ?_ (x := pkT gh)
 refine scT ?_
 exact zm9
 refine rB gh ?_ (x := lF fd_144_3)
 refine rB gh ?_ (x := lD [sl .v _] ty_93)
 refine rB gh ?_ (x := cL [(false, [sl _ _])] [(false, [sl .v _])] c_118 (hs := by exact impl_resultOk))
 refine rB gh ?_ (x := nT)
 refine rA ?_ (x := pkF gh)
 refine sc (fun hbe => ?_) (fun hbe => ?_)
 exact zm9
 have hyes : (okFin e.Store.Now) e.Done[k] = true := by first | (simp_all [okFin]; done) | (simp_all [okFin]; omega)
 refine sw_skip ?_
 refine sG [1, 6, 53, 54, 55, 85, 86, 87] [1, 6] ?_
 exact zfw
 have hfa : e.Done.all (okFin e.Store.Now) = true := all_end (by rw [show e.Done.length = k by omega]; exact ha)
 refine zhm ?_
 refine sT [1, 53, 54, 55, 85, 86, 87] [1] ?_
 refine zdq ?_
 refine rA ?_ (x := lN sl_38)
 refine zfl ?_
 refine sP [1, 53, 54, 55, 85, 86, 87, 118, 119, 120] [1] ?_
 refine sL [1, 53, 54, 55, 85, 86, 87, 118, 119] [1] (fun k : Nat => k ≤ e.Ledger.length ∧ (List.take k e.Ledger).all okCharge = true) (fun k : Nat => [(120, RV.int (k : Int))]) (fun k : Nat => []) (fun k : Nat => e.Ledger.length - k) 0 (by exact ⟨by omega, rfl⟩) (by exact aI (by exact rfl) (tI)) (by exact ⟨⟩) ?_
 rintro k ⟨hk, ha⟩
 refine zfm ?_
 refine sc (fun hbe => ?_) (fun hbe => ?_)
 have hlt : k < e.Ledger.length := by omega
 refine zed ?_
 refine sT [1, 53, 54, 55, 85, 86, 87, 118, 119, 120] [1] ?_
 refine zma ?_
 refine zmb ?_
 refine sw_seq ?_
 refine sO [(1, _), (8, _), (53, _), (54, _), (55, _), (85, _), (86, _), (87, _), (118, _), (119, _), (120, _)] [(1, _), (8, (148, [val _, val _, sl _ _, sl _ _, sl _ _]))] ?_
 refine sw_reg ?_
 refine rA ?_ (x := lD [val _, val _, sl .v _, sl .v _, sl .v _] ty_148)
 refine rA ?_ (x := cL [(true, [val _, val _, sl _ _, sl _ _, sl _ _])] [(true, [val _, val _, sl .v _, sl .v _, sl .v _])] c_119 (hs := by exact impl_IsCharge))
 refine rA ?_ (x := nT)
 refine sc (fun hbf => ?_) (fun hbf => ?_)
 have hno : okCharge e.Ledger[k] = false := by simpa using hbf
 have hbad2 := eng_no4 (all_no hlt hno)
 refine sS [1, 8, 53, 54, 55, 85, 86, 87, 118, 119, 120] [1, 8] ?_
 exact zmc
 have hyes : okCharge e.Ledger[k] = true := by simpa using hbf
 refine sw_skip ?_
 refine sG [1, 8, 53, 54, 55, 85, 86, 87, 118, 119, 120] [1, 8] ?_
 exact zfw
 have hla : e.Ledger.all okCharge = true := all_end (by rw [show e.Ledger.length = k by omega]; exact ha)
 refine sw_exit ?_
 refine sT [1, 53, 54, 55, 85, 86, 87, 118, 119, 120] [1] ?_
 exact zmd
theorem spec_IsEngine {p1 p2 p5 p6 p7 p8 p9 p11 p12 p13 p14 p16 p17 p18 : Fl} {e : Engine}  (hb : wtEngine e ≤ 68719476736) : SCall Tryz.prog 42 [(true, [sl .v (e.Store.Segments.map (cVersionS p1 p2)), val (vI e.Store.Now), val (vI e.Cursor), sl .v (e.Order.map cInt), sl .v (e.Active.map (cActive p5 p6 p7 p8 p9)), sl .v (e.Done.map (cFinished p11 p12 p13 p14)), sl .v (e.Ledger.map (cCharge p16 p17 p18)), val (vI e.Steps)])] (resRV [(false, [val (.bool (okEngine e))])]) := by
 refine sF Tryz.func42 fun h0 w0 Fz0 => ?_
 refine sn 0 0 fun hl0_0 => ?_
 refine sn 0 3 fun hl0_3 => ?_
 refine sn 0 4 fun hl0_4 => ?_
 refine sn 0 5 fun hl0_5 => ?_
 refine sn 0 6 fun hl0_6 => ?_
 have hbu := hb
 simp only [wtEngine] at hbu
 refine zay ?_
 refine zft ?_
 refine zdm ?_
 refine rA ?_ (x := cL [(true, [sl _ _, val _])] [(true, [sl .v _, val _])] c_96 (hs := by exact spec_IsStore (by omega)))
 refine zha ?_
 refine cx 11 (fun ga sga => ?_) (fun ga sga => ?_)
 refine zhb ?_
 refine RunS.cases (s := 22) rfl (fun g2 => ?_) (fun g2 => nomatch g2)
 refine zhc ?_
 refine rM ?_
 refine RunS.cases (s := 28) rfl (fun g3 => ?_) (fun g3 => nomatch g3)
 refine ziu ?_
 refine rM ?_
 refine RunS.cases (s := 34) rfl (fun g4 => ?_) (fun g4 => nomatch g4)
 refine zt g4 ?_
 refine rA ?_ (x := pkT g4)
 refine rM ?_
 refine RunS.cases (s := 40) rfl (fun g5 => ?_) (fun g5 => nomatch g5)
 refine zt g5 ?_
 refine rA ?_ (x := pkT g5)
 refine rM ?_
 refine RunS.cases (s := 46) rfl (fun g6 => ?_) (fun g6 => nomatch g6)
 refine zlc ?_
 exact zlx
 refine rB ga ?_ (x := lF fd_40_1)
 refine zlu ?_
 refine rB ga ?_ (x := lF fd_35_0)
 refine rB ga ?_ (x := lD [sl .v _] ty_33)
 refine rB ga ?_ (x := lN sl_33)
 refine rB ga ?_ (x := B_sub)
 refine zk3 ?_
 refine rM ?_
 refine cx 22 (fun gb sgb => ?_) (fun gb sgb => ?_)
 refine zig ?_
 refine RunS.cases (s := 28) rfl (fun g9 => ?_) (fun g9 => nomatch g9)
 refine zt g9 ?_
 refine rA ?_ (x := pkT g9)
 refine rM ?_
 refine RunS.cases (s := 34) rfl (fun g10 => ?_) (fun g10 => nomatch g10)
 refine zt g10 ?_
 refine rA ?_ (x := pkT g10)
 refine rM ?_
 refine RunS.cases (s := 40) rfl (fun g11 => ?_) (fun g11 => nomatch g11)
 refine zt g11 ?_
 refine rA ?_ (x := pkT g11)
 refine rM ?_
 refine RunS.cases (s := 46) rfl (fun g12 => ?_) (fun g12 => nomatch g12)
 refine zt g12 ?_
 refine rA ?_ (x := pkT g12)
 exact zlx
 refine rB gb ?_ (x := lF fd_40_2)
 refine rB gb ?_ (x := lD [sl .v _] ty_25)
 refine rB gb ?_ (x := cL [(false, [sl _ _])] [(false, [sl .v _])] c_98 (hs := by exact spec_l6Order))
 refine rB gb ?_ (x := nT)
 refine zij ?_
 refine cx 28 (fun gc sgc => ?_) (fun gc sgc => ?_)
 refine zht ?_
 refine rM ?_
 refine RunS.cases (s := 34) rfl (fun g15 => ?_) (fun g15 => nomatch g15)
 refine zt g15 ?_
 refine rA ?_ (x := pkT g15)
 refine rM ?_
 refine RunS.cases (s := 40) rfl (fun g16 => ?_) (fun g16 => nomatch g16)
 refine zt g16 ?_
 refine rA ?_ (x := pkT g16)
 refine rM ?_
 refine RunS.cases (s := 46) rfl (fun g17 => ?_) (fun g17 => nomatch g17)
 refine zt g17 ?_
 refine rA ?_ (x := pkT g17)
 exact zlx
 refine rB gc ?_ (x := lF fd_40_3)
 refine rB gc ?_ (x := lD [sl .v _] ty_36)
 refine rB gc ?_ (x := lN sl_36)
 refine zme ?_
 refine rM ?_
 refine cx 34 (fun gd sgd => ?_) (fun gd sgd => ?_)
 refine zt gd ?_
 refine zlj ?_
 refine RunS.cases (s := 40) rfl (fun g20 => ?_) (fun g20 => nomatch g20)
 refine zt g20 ?_
 refine rA ?_ (x := pkT g20)
 refine rM ?_
 refine RunS.cases (s := 46) rfl (fun g21 => ?_) (fun g21 => nomatch g21)
 refine zt g21 ?_
 refine rA ?_ (x := pkT g21)
 exact zlx
 refine rB gd ?_ (x := lF fd_40_6)
 refine zlv ?_
 refine rB gd ?_ (x := nT)
 refine zlk ?_
 refine cx 40 (fun ge sge => ?_) (fun ge sge => ?_)
 refine zt ge ?_
 refine rA ?_ (x := pkT ge)
 refine rM ?_
 refine RunS.cases (s := 46) rfl (fun g24 => ?_) (fun g24 => nomatch g24)
 refine zt g24 ?_
 refine rA ?_ (x := pkT g24)
 exact zlx
 refine rB ge ?_ (x := lF fd_40_4)
 refine rB ge ?_ (x := lD [sl .v _] ty_37)
 refine rB ge ?_ (x := lN sl_37)
 refine rB ge ?_ (x := B_gtr)
 refine rA ?_ (x := pkF ge)
 refine rM ?_
 refine cx 46 (fun gf sgf => ?_) (fun gf sgf => ?_)
 refine zt gf ?_
 refine rA ?_ (x := pkT gf)
 exact zlx
 refine rB gf ?_ (x := lF fd_40_5)
 refine rB gf ?_ (x := lD [sl .v _] ty_38)
 refine rB gf ?_ (x := lN sl_38)
 refine rB gf ?_ (x := B_gtr)
 refine rA ?_ (x := pkF gf)
 refine sc (fun hba => ?_) (fun hba => ?_)
 exact zly
 have hpr : engPre e = true := by first | (simp_all [engPre]; done) | (simp_all [engPre]; omega)
 refine zhh ?_
 refine zg1 ?_
 refine sL [1] [1] (fun k : Nat => k ≤ e.Active.length ∧ adjTo a0_ (okActive e.Store) ltA e.Active k = true) (fun k : Nat => [(3, RV.int (k : Int))]) (fun k : Nat => []) (fun k : Nat => e.Active.length - k) 0 (by exact ⟨by omega, rfl⟩) (by exact aI (by exact rfl) (tI)) (by exact ⟨⟩) ?_
 rintro k ⟨hk, ha⟩
 refine zg2 ?_
 refine zmf ?_
 refine sc (fun hbb => ?_) (fun hbb => ?_)
 have hlt : k < e.Active.length := by omega
 have hgk : e.Active.getD k a0_ = e.Active[k] := getD_at hlt
 have hgp : 0 < k → e.Active.getD (k - 1) a0_ = e.Active[k - 1] := fun h => getD_at (by omega)
 refine zdx ?_
 refine sQ [1, 3] [1] ?_
 refine zmg ?_
 refine dA 0 ?_ (x := lF fd_40_3)
 refine dA 2 ?_ (x := lD [sl .v _] ty_36)
 refine dA 0 ?_ (x := sM)
 refine dA 14 ?_ (x := loc_index (by decide) sl_36 (by exact ⟨⟩) (by exact rfl) (by exact getm2 (by omega) rfl) (by exact rfl))
 refine dA 30 ?_ (x := lE [val _, val _, sl .v _, sl .v _, val _, sl .v _, val _, val _, val _, sl .v _] ty_142)
 refine dA 63 ?_ (x := cL [(true, [sl _ _, val _, val _, sl _ _, sl _ _, sl _ _, sl _ _, val _]), (true, [val _, val _, sl _ _, sl _ _, val _, sl _ _, val _, val _, val _, sl _ _])] [(true, [sl .v _, val _, val _, sl .v _, sl .v _, sl .v _, sl .v _, val _]), (true, [val _, val _, sl .v _, sl .v _, val _, sl .v _, val _, val _, val _, sl .v _])] c_99 (hs := by exact spec_l9Active))
 refine dA 127 ?_ (x := nT)
 refine dA 255 ?_ (x := sM)
 refine dx 67 (fun gg sgg => ?_) (fun gg sgg => ?_)
 refine dT 511 gg ?_
 refine dT 1023 gg ?_
 refine dT 2047 gg ?_
 refine dU 4095 ?_
 refine dU 8191 ?_
 refine dU 4095 ?_
 refine dU 32767 ?_
 refine dU 65535 ?_
 refine dU 131071 ?_
 refine dU 262143 ?_
 refine dU 4095 ?_
 refine dU 528383 ?_
 refine dU 4095 ?_
 refine dU 2101247 ?_
 refine dU 7868415 ?_
 refine dU 16257023 ?_
 refine dU 33034239 ?_
 refine dU 66588671 ?_
 refine dU 134217727 ?_
 refine dT 268435455 gg ?_
 refine dA 536870911 ?_ (x := pkT gg)
 refine scT ?_
 exact zmh
 refine dB 511 gg ?_ (x := sM)
 refine dB 1023 gg ?_ (x := B_gtr)
 refine dB 2047 gg ?_ (x := sM)
 refine dx 70 (fun gh sgh => ?_) (fun gh sgh => ?_)
 refine dB 4095 gh ?_ (x := lF fd_40_3)
 refine dB 8191 gh ?_ (x := lD [sl .v _] ty_36)
 refine dB 4095 gh ?_ (x := sM)
 refine dB 32767 gh ?_ (x := loc_index (by decide) sl_36 (by exact ⟨⟩) (by exact rfl) (by exact getm2 (by omega) rfl) (by exact rfl))
 refine dB 65535 gh ?_ (x := loc_efield (by decide) fd_142_0 (by exact nl rfl))
 refine dB 131071 gh ?_ (x := loc_efield (by decide) fd_65_0 (by exact nl rfl))
 refine dB 262143 gh ?_ (x := lE [val _] ty_3)
 refine dB 4095 gh ?_ (x := lF fd_40_3)
 refine dB 528383 gh ?_ (x := lD [sl .v _] ty_36)
 refine dB 4095 gh ?_ (x := sM)
 refine dB 2101247 gh ?_ (x := B_sub)
 refine dB 7868415 gh ?_ (x := loc_index (k := k - 1) (by decide) sl_36 (by exact ⟨⟩) (by omega) (by exact getm2 (by omega) rfl) (by exact rfl))
 refine dB 16257023 gh ?_ (x := loc_efield (by decide) fd_142_0 (by exact nl rfl))
 refine dB 33034239 gh ?_ (x := loc_efield (by decide) fd_65_0 (by exact nl rfl))
 refine dB 66588671 gh ?_ (x := lE [val _] ty_3)
 refine dB 134217727 gh ?_ (x := B_leq)
 refine dB 268435455 gg ?_ (x := pkT gh)
 refine dA 536870911 ?_ (x := pkF gg)
 refine sc (fun hbc => ?_) (fun hbc => ?_)
 exact zmh
 exact zmi
 refine dF 4095 gh ?_
 refine dF 8191 gh ?_
 refine dF 4095 gh ?_
 refine dF 32767 gh ?_
 refine dF 65535 gh ?_
 refine dF 131071 gh ?_
 refine dF 262143 gh ?_
 refine dF 4095 gh ?_
 refine dF 528383 gh ?_
 refine dF 4095 gh ?_
 refine dF 2101247 gh ?_
 refine dF 7868415 gh ?_
 refine dF 16257023 gh ?_
 refine dF 33034239 gh ?_
 refine dF 66588671 gh ?_
 refine dF 134217727 gh ?_
 refine dB 268435455 gg ?_ (x := pkF gh)
 refine dA 536870911 ?_ (x := pkF gg)
 refine scF ?_
 exact zmi
 have hend : k = e.Active.length := by omega
 have hall : adjAll a0_ (okActive e.Store) ltA e.Active = true := adj_end ha hend
 refine zhm ?_
 refine sT [1, 3] [1] ?_
 refine zhx ?_
 refine sP [1, 3, 4] [1] ?_
 refine sL [1, 3] [1] (fun k : Nat => k ≤ e.Done.length ∧ (List.take k e.Done).all (okFin e.Store.Now) = true) (fun k : Nat => [(4, RV.int (k : Int))]) (fun k : Nat => []) (fun k : Nat => e.Done.length - k) 0 (by exact ⟨by omega, rfl⟩) (by exact aI (by exact rfl) (tI)) (by exact ⟨⟩) ?_
 rintro k ⟨hk, ha⟩
 refine zg2 ?_
 refine zdp ?_
 refine zdl ?_
 refine sc (fun hbc => ?_) (fun hbc => ?_)
 have hlt : k < e.Done.length := by omega
 refine zed ?_
 refine sT [1, 3, 4] [1] ?_
 refine zdp ?_
 refine rM ?_
 refine zm6 ?_
 refine zm7 ?_
 refine sw_seq ?_
 refine sO [(1, _), (3, _), (4, _), (5, _)] [(1, _), (5, (144, [val _, val _, sl _ _, sl _ _, val _, val _, sl _ _]))] ?_
 refine sw_reg ?_
 refine zdj ?_
 refine rA ?_ (x := cL [(true, [val _, val _, sl _ _, sl _ _])] [(true, [val _, val _, sl .v _, sl .v _])] c_100 (hs := by exact spec_IsQuery))
 refine zha ?_
 refine cx 105 (fun gg sgg => ?_) (fun gg sgg => ?_)
 refine zt gg ?_
 refine rA ?_ (x := pkT gg)
 refine rM ?_
 refine RunS.cases (s := 114) rfl (fun g37 => ?_) (fun g37 => nomatch g37)
 refine zt g37 ?_
 refine rA ?_ (x := pkT g37)
 refine rM ?_
 refine RunS.cases (s := 120) rfl (fun g38 => ?_) (fun g38 => nomatch g38)
 refine zt g38 ?_
 refine rA ?_ (x := pkT g38)
 refine scT ?_
 exact zmj
 refine rB gg ?_ (x := lF fd_144_1)
 refine rB gg ?_ (x := lD [val _] ty_3)
 refine rB gg ?_ (x := lF fd_40_0)
 refine rB gg ?_ (x := lF fd_35_1)
 refine rB gg ?_ (x := lD [val _] ty_3)
 refine rB gg ?_ (x := cL [(false, [val _]), (false, [val _]), (false, [val _])] [(false, [val _]), (false, [val _]), (false, [val _])] c_97 (hs := by exact spec_l1In))
 refine rB gg ?_ (x := nT)
 refine rA ?_ (x := pkF gg)
 refine rM ?_
 refine cx 114 (fun gh sgh => ?_) (fun gh sgh => ?_)
 refine zt gh ?_
 refine rA ?_ (x := pkT gh)
 refine rM ?_
 refine RunS.cases (s := 120) rfl (fun g41 => ?_) (fun g41 => nomatch g41)
 refine zt g41 ?_
 refine rA ?_ (x := pkT g41)
 refine scT ?_
 exact zmj
 refine rB gh ?_ (x := lF fd_144_2)
 refine rB gh ?_ (x := lD [val _] ty_3)
 refine rB gh ?_ (x := cL [(false, [val _]), (false, [val _]), (false, [val _])] [(false, [val _]), (false, [val _]), (false, [val _])] c_97 (hs := by exact spec_l1In))
 refine rB gh ?_ (x := nT)
 refine rA ?_ (x := pkF gh)
 refine rM ?_
 refine cx 120 (fun gi sgi => ?_) (fun gi sgi => ?_)
 refine zt gi ?_
 refine rA ?_ (x := pkT gi)
 refine scT ?_
 exact zmj
 refine rB gi ?_ (x := lF fd_144_3)
 refine rB gi ?_ (x := lD [sl .v _] ty_93)
 refine rB gi ?_ (x := cL [(false, [sl _ _])] [(false, [sl .v _])] c_101 (hs := by exact spec_l9List))
 refine rB gi ?_ (x := nT)
 refine rA ?_ (x := pkF gi)
 refine sc (fun hbd => ?_) (fun hbd => ?_)
 exact zmj
 have hyes : (okFin e.Store.Now) e.Done[k] = true := by first | (simp_all [okFin]; done) | (simp_all [okFin]; omega)
 refine sw_skip ?_
 refine sG [1, 3, 4, 5] [1, 5] ?_
 exact zg5
 have hfa : e.Done.all (okFin e.Store.Now) = true := all_end (by rw [show e.Done.length = k by omega]; exact ha)
 refine zhm ?_
 refine sT [1, 3, 4] [1] ?_
 refine zhx ?_
 refine sP [1, 3, 4, 6] [1] ?_
 refine sL [1, 3, 4] [1] (fun k : Nat => k ≤ e.Ledger.length ∧ (List.take k e.Ledger).all okCharge = true) (fun k : Nat => [(6, RV.int (k : Int))]) (fun k : Nat => []) (fun k : Nat => e.Ledger.length - k) 0 (by exact ⟨by omega, rfl⟩) (by exact aI (by exact rfl) (tI)) (by exact ⟨⟩) ?_
 rintro k ⟨hk, ha⟩
 refine zg2 ?_
 refine zdq ?_
 refine zd3 ?_
 refine sc (fun hbd => ?_) (fun hbd => ?_)
 have hlt : k < e.Ledger.length := by omega
 refine zed ?_
 refine sT [1, 3, 4, 6] [1] ?_
 refine zdq ?_
 refine rM ?_
 refine zma ?_
 refine rA ?_ (x := cL [(true, [val _, val _, sl _ _, sl _ _, sl _ _])] [(true, [val _, val _, sl .v _, sl .v _, sl .v _])] c_102 (hs := by exact spec_IsCharge))
 refine rA ?_ (x := nT)
 refine sc (fun hbe => ?_) (fun hbe => ?_)
 have hno : okCharge e.Ledger[k] = false := by simpa using hbe
 have hbad2 := eng_no4 (all_no hlt hno)
 refine sS [1, 3, 4, 6] [1] ?_
 exact zmc
 have hyes : okCharge e.Ledger[k] = true := by simpa using hbe
 refine sw_skip ?_
 refine sG [1, 3, 4, 6] [1] ?_
 exact zg5
 have hla : e.Ledger.all okCharge = true := all_end (by rw [show e.Ledger.length = k by omega]; exact ha)
 refine sw_exit ?_
 refine sT [1, 3, 4, 6] [1] ?_
 exact zmd
end Go.Proofs.YteflgldonmgejaaGreat
