/- What functions of the program compute. No condition. -/
import Derived.Test.YtmekkgdboplbjaaCZMFnIsolation
import Derived.Test.YtmekkgdboplbjaaCFcFnIsolation
import Derived.Test.YtmekkgdboplbjaaCQuerFnIsolation
import Derived.Test.YtmekkgdboplbjaaCStoFnIsolation
import Derived.Test.YtmekkgdboplbjaaCChgFnIsolation
import Derived.Test.YtmekkgdboplbjaaCDe
import Derived.KernelRfl
set_option linter.unusedVariables false
set_option linter.unusedSimpArgs false
namespace Go.Proofs.Ytmekkgdboplbjaa
open Go Go.RowKit M PV
set_option maxRecDepth 10000
attribute [local irreducible] PV.Lcl PV.LclR RV.Lcl
theorem impl_isOrder {o : List Int}  : SCall Try.prog 47 [(false, [sl .v (o.map cInt)])] (resRV [(false, [val (.bool (okOrder o))])]) := by
 refine sF Try.func47 fun h0 w0 Fz0 => ?_
 refine sj 0 fun hl0 => ?_
 refine zat ?_
 refine zao ?_
 refine sP [0, 2, 3] [] ?_
 refine sL [0] [] (fun k : Nat => k ≤ 3 ∧ okOrdTo o k = true) (fun k : Nat => [(3, RV.int (k : Int))]) (fun k : Nat => []) (fun k : Nat => 3 - k) 0 (by exact ⟨by omega, rfl⟩) (by exact aI (by exact rfl) (tI)) (by exact ⟨⟩) ?_
 rintro k ⟨hk, ha⟩
 refine zeg ?_
 refine sc (fun hba => ?_) (fun hba => ?_)
 have hlt : k < 3 := by omega
 refine za6 ?_
 refine sS [0, 3] [] ?_
 refine zeh ?_
 refine rA ?_ (x := cL [(false, [sl _ _]), (false, [val _])] [(false, [sl .v _]), (false, [val _])] c_54 (hs := by exact impl_hasInt))
 refine rA ?_ (x := nT)
 refine sc (fun hbb => ?_) (fun hbb => ?_)
 have hno : hasI o (k : Int) = false := by simpa using hbb
 refine sS [0, 3] [] ?_
 refine za9 ?_
 exact rb ((okOrd_no hlt hno).symm)
 have hyes : hasI o (k : Int) = true := by simpa using hbb
 refine sw_skip ?_
 refine sG [0, 3] [] ?_
 refine zdb ?_
 refine nx (k + 1) (by exact ⟨by omega, by rw [okOrdTo_succ, ha, hyes]; rfl⟩) (e := (by exact aI (by exact int_eq (by omega)) (tI)))
 have hend : k = 3 := by omega
 rw [hend] at ha
 refine sw_exit ?_
 refine sS [0, 3] [] ?_
 refine za3 ?_
 refine zco ?_
 refine sw_ret ?_
 exact rb (by rw [← okOrd_eq, ha, Bool.true_and]; first | rfl | (rw [decide_eq_decide]; omega) | (rw [Bool.eq_iff_iff]; simp; omega) | (rw [Bool.eq_iff_iff]; simp))
theorem impl_activeOk {p1 p2 p7 : Fl} {s : Store} {a : Active}  : SCall Try.prog 48 [(true, [sl .v (s.Segments.map (cVersionS p1 p2)), val (vI s.Now)]), (true, [val (vI a.Query.Id), val (vI a.Query.Tenant), sl .v (a.Query.Conds.map cCond), sl .v (a.Query.Out.map cInt), val (vI a.Time), sl .v (a.Todo.map cInt), val (vI a.Age), val (vI a.Sent), val (vI a.Cap), sl .v (a.Rows.map (cRow p7))])] (resRV [(false, [val (.bool (okActive s a))])]) := by
 refine sF Try.func48 fun h0 w0 Fz0 => ?_
 refine sn 0 0 fun hl0_0 => ?_
 refine sn 1 2 fun hl1_2 => ?_
 refine sn 1 3 fun hl1_3 => ?_
 refine sn 1 5 fun hl1_5 => ?_
 refine sn 1 9 fun hl1_9 => ?_
 refine zd7 ?_
 refine rX ?_ (x := (loc_box (ag := true) (cs := [val _, val _, sl _ _, sl _ _, val _, sl _ _, val _, val _, val _, sl _ _]) (by decide) (by exact ⟨⟩)))
 refine zbz ?_
 refine sT [2, 3, 4] [2, 3] ?_
 refine rA ?_ (x := lF fd_70_2)
 refine zag ?_
 refine za4 ?_
 refine sP [2, 3, 4, 8, 9, 10] [2, 3] ?_
 refine sL [2, 3, 8, 9] [2, 3] (fun k : Nat => k ≤ a.Todo.length ∧ adjTo 0 (todoP s.Segments.length) ltI_ a.Todo k = true) (fun k : Nat => [(10, RV.int (k : Int))]) (fun k : Nat => []) (fun k : Nat => a.Todo.length - k) 0 (by exact ⟨by omega, rfl⟩) (by exact aI (by exact rfl) (tI)) (by exact ⟨⟩) ?_
 rintro k ⟨hk, ha⟩
 refine za5 ?_
 refine sc (fun hba => ?_) (fun hba => ?_)
 have hlt : k < a.Todo.length := by omega
 have hgk : a.Todo.getD k 0 = a.Todo[k] := getD_at hlt
 have hgp : 0 < k → a.Todo.getD (k - 1) 0 = a.Todo[k - 1] := fun h => getD_at (by omega)
 refine za6 ?_
 refine sT [2, 3, 8, 9, 10] [2, 3] ?_
 refine rM ?_
 refine za7 ?_
 refine rS ?_
 refine sS [2, 3, 5, 6, 8, 9, 10] [2, 3] ?_
 refine rM ?_
 refine zdd ?_
 refine rA ?_ (x := B_sub)
 refine zah ?_
 refine rM ?_
 refine cx 22 (fun ga sga => ?_) (fun ga sga => ?_)
 refine zc4 ?_
 refine scT ?_
 exact zei
 refine rB ga ?_ (x := sM)
 refine rB ga ?_ (x := B_gtr)
 refine rB ga ?_ (x := sM)
 refine cx 25 (fun gb sgb => ?_) (fun gb sgb => ?_)
 refine rB gb ?_ (x := lF fd_70_2)
 refine rB gb ?_ (x := lD [sl .v _] ty_27)
 refine rB gb ?_ (x := sM)
 refine rB gb ?_ (x := B_sub)
 refine rB gb ?_ (x := loc_index (k := k - 1) (by decide) sl_27 (by exact ⟨⟩) (by omega) (by exact getm2 (by omega) rfl) (by exact rfl))
 refine rB gb ?_ (x := lE [val _] ty_3)
 refine rB gb ?_ (x := sM)
 refine rB gb ?_ (x := B_geq)
 refine rB ga ?_ (x := pkT gb)
 refine rA ?_ (x := pkF ga)
 refine sc (fun hbb => ?_) (fun hbb => ?_)
 exact zei
 exact zej
 refine zf gb ?_
 refine rB ga ?_ (x := pkF gb)
 refine rA ?_ (x := pkF ga)
 refine scF ?_
 exact zej
 have hend : k = a.Todo.length := by omega
 have hall : adjAll 0 (todoP s.Segments.length) ltI_ a.Todo = true := adj_end ha hend
 refine sw_exit ?_
 refine sT [2, 3, 8, 9, 10] [2, 3] ?_
 refine rA ?_ (x := lF fd_70_2)
 refine zag ?_
 refine rA ?_ (x := B_gtr)
 refine rM ?_
 refine cx 41 (fun ga sga => ?_) (fun ga sga => ?_)
 refine rB ga ?_ (x := lF fd_70_0)
 refine zek ?_
 refine zb9 ?_
 refine cx 46 (fun gb sgb => ?_) (fun gb sgb => ?_)
 refine rB gb ?_ (x := lF fd_70_1)
 refine rB gb ?_ (x := lD [val _] ty_3)
 refine rB gb ?_ (x := lF fd_26_1)
 refine zdw ?_
 refine zba ?_
 refine cx 53 (fun gc sgc => ?_) (fun gc sgc => ?_)
 refine rB gc ?_ (x := lF fd_70_3)
 refine zck ?_
 refine rA ?_ (x := pkT gc)
 refine rM ?_
 refine cx 58 (fun gd sgd => ?_) (fun gd sgd => ?_)
 refine rB gd ?_ (x := lF fd_70_4)
 refine zdy ?_
 refine rA ?_ (x := pkT gd)
 refine rM ?_
 refine cx 63 (fun ge sge => ?_) (fun ge sge => ?_)
 refine rB ge ?_ (x := lF fd_70_5)
 refine rB ge ?_ (x := lD [val _] ty_3)
 refine rB ge ?_ (x := cL [(false, [val _]), (false, [val _]), (false, [val _])] [(false, [val _]), (false, [val _]), (false, [val _])] c_20 (hs := by exact impl_within))
 refine rA ?_ (x := pkT ge)
 refine rM ?_
 refine cx 68 (fun gf sgf => ?_) (fun gf sgf => ?_)
 refine rB gf ?_ (x := lF fd_70_6)
 refine rB gf ?_ (x := lD [sl .v _] ty_52)
 refine rB gf ?_ (x := cL [(false, [sl _ _])] [(false, [sl .v _])] c_49 (hs := by exact impl_resultOk))
 refine rA ?_ (x := pkT gf)
 exact zel
 refine zf gf ?_
 refine rA ?_ (x := pkF gf)
 exact zel
 refine zf ge ?_
 refine rA ?_ (x := pkF ge)
 refine rM ?_
 refine RunS.cases (s := 68) rfl (fun g13 => nomatch g13) (fun g13 => ?_)
 refine zf g13 ?_
 refine rA ?_ (x := pkF g13)
 exact zel
 refine zef ?_
 refine rM ?_
 refine RunS.cases (s := 63) rfl (fun g14 => nomatch g14) (fun g14 => ?_)
 refine zf g14 ?_
 refine rA ?_ (x := pkF g14)
 refine rM ?_
 refine RunS.cases (s := 68) rfl (fun g15 => nomatch g15) (fun g15 => ?_)
 refine zf g15 ?_
 refine rA ?_ (x := pkF g15)
 exact zel
 refine zbc ?_
 refine rM ?_
 refine RunS.cases (s := 58) rfl (fun g16 => nomatch g16) (fun g16 => ?_)
 refine zf g16 ?_
 refine rA ?_ (x := pkF g16)
 refine rM ?_
 refine RunS.cases (s := 63) rfl (fun g17 => nomatch g17) (fun g17 => ?_)
 refine zcn ?_
 refine rM ?_
 refine RunS.cases (s := 68) rfl (fun g18 => nomatch g18) (fun g18 => ?_)
 refine zf g18 ?_
 refine rA ?_ (x := pkF g18)
 exact zel
 refine zbd ?_
 refine RunS.cases (s := 53) rfl (fun g19 => nomatch g19) (fun g19 => ?_)
 refine zf g19 ?_
 refine rA ?_ (x := pkF g19)
 refine rM ?_
 refine RunS.cases (s := 58) rfl (fun g20 => nomatch g20) (fun g20 => ?_)
 refine zf g20 ?_
 refine rA ?_ (x := pkF g20)
 refine rM ?_
 refine RunS.cases (s := 63) rfl (fun g21 => nomatch g21) (fun g21 => ?_)
 refine zf g21 ?_
 refine rA ?_ (x := pkF g21)
 refine rM ?_
 refine RunS.cases (s := 68) rfl (fun g22 => nomatch g22) (fun g22 => ?_)
 refine zf g22 ?_
 refine rA ?_ (x := pkF g22)
 exact zel
 refine zbf ?_
 refine RunS.cases (s := 46) rfl (fun g23 => nomatch g23) (fun g23 => ?_)
 refine zf g23 ?_
 refine rA ?_ (x := pkF g23)
 refine rM ?_
 refine RunS.cases (s := 53) rfl (fun g24 => nomatch g24) (fun g24 => ?_)
 refine zf g24 ?_
 refine rA ?_ (x := pkF g24)
 refine rM ?_
 refine RunS.cases (s := 58) rfl (fun g25 => nomatch g25) (fun g25 => ?_)
 refine zf g25 ?_
 refine rA ?_ (x := pkF g25)
 refine rM ?_
 refine RunS.cases (s := 63) rfl (fun g26 => nomatch g26) (fun g26 => ?_)
 refine zf g26 ?_
 refine rA ?_ (x := pkF g26)
 refine rM ?_
 refine RunS.cases (s := 68) rfl (fun g27 => nomatch g27) (fun g27 => ?_)
 refine zf g27 ?_
 refine rA ?_ (x := pkF g27)
 exact zel
theorem impl_IsEngine {p1 p2 p5 p6 p7 p8 p9 p11 p12 p13 p14 p16 p17 p18 : Fl} {e : Engine}  (hb : wtEngine e ≤ 68719476736) : SCall Try.prog 18 [(true, [sl .v (e.Store.Segments.map (cVersionS p1 p2)), val (vI e.Store.Now), val (vI e.Cursor), sl .v (e.Order.map cInt), sl .v (e.Active.map (cActive p5 p6 p7 p8 p9)), sl .v (e.Done.map (cFinished p11 p12 p13 p14)), sl .v (e.Ledger.map (cCharge p16 p17 p18)), val (vI e.Steps)])] (resRV [(false, [val (.bool (okEngine e))])]) := by
 refine sF Try.func18 fun h0 w0 Fz0 => ?_
 refine sn 0 0 fun hl0_0 => ?_
 refine sn 0 3 fun hl0_3 => ?_
 refine sn 0 4 fun hl0_4 => ?_
 refine sn 0 5 fun hl0_5 => ?_
 refine sn 0 6 fun hl0_6 => ?_
 have hbu := hb
 simp only [wtEngine] at hbu
 refine zem ?_
 refine zaf ?_
 refine rA ?_ (x := lF fd_32_0)
 refine rA ?_ (x := lD [sl .v _, val _] ty_26)
 refine rA ?_ (x := cL [(true, [sl _ _, val _])] [(true, [sl .v _, val _])] c_46 (hs := by exact impl_IsStore (by omega)))
 refine zbj ?_
 refine cx 13 (fun ga sga => ?_) (fun ga sga => ?_)
 refine zbk ?_
 refine RunS.cases (s := 24) rfl (fun g2 => ?_) (fun g2 => nomatch g2)
 refine zbl ?_
 refine rM ?_
 refine RunS.cases (s := 30) rfl (fun g3 => ?_) (fun g3 => nomatch g3)
 refine ze7 ?_
 refine scT ?_
 exact zen
 refine rB ga ?_ (x := lF fd_32_1)
 refine rB ga ?_ (x := lD [val _] ty_3)
 refine rB ga ?_ (x := lF fd_32_0)
 refine rB ga ?_ (x := lF fd_26_0)
 refine rB ga ?_ (x := lD [sl .v _] ty_24)
 refine rB ga ?_ (x := lN sl_24)
 refine rB ga ?_ (x := B_sub)
 refine zec ?_
 refine zbo ?_
 refine cx 24 (fun gb sgb => ?_) (fun gb sgb => ?_)
 refine zt gb ?_
 refine zba ?_
 refine RunS.cases (s := 30) rfl (fun g6 => ?_) (fun g6 => nomatch g6)
 refine zt g6 ?_
 refine rA ?_ (x := pkT g6)
 refine scT ?_
 exact zen
 refine rB gb ?_ (x := lF fd_32_2)
 refine rB gb ?_ (x := lD [sl .v _] ty_27)
 refine rB gb ?_ (x := cL [(false, [sl _ _])] [(false, [sl .v _])] c_47 (hs := by exact impl_isOrder))
 refine rB gb ?_ (x := nT)
 refine zdx ?_
 refine cx 30 (fun gc sgc => ?_) (fun gc sgc => ?_)
 refine zd0 ?_
 refine scT ?_
 exact zen
 refine rB gc ?_ (x := lF fd_32_6)
 refine zck ?_
 refine rB gc ?_ (x := nT)
 refine rA ?_ (x := pkF gc)
 refine sc (fun hba => ?_) (fun hba => ?_)
 exact zen
 have hp1 : (okStore e.Store && (inB e.Cursor 0 (e.Store.Segments.length - 1) && (okOrder e.Order && inB e.Steps 0 100000))) = true := by first | (simp_all; done) | (simp_all; omega)
 refine zbr ?_
 refine sS [1, 2] [1] ?_
 refine zeo ?_
 refine rA ?_ (x := B_gtr)
 refine rM ?_
 refine cx 40 (fun gd sgd => ?_) (fun gd sgd => ?_)
 refine zt gd ?_
 refine rA ?_ (x := pkT gd)
 refine rM ?_
 refine RunS.cases (s := 46) rfl (fun g12 => ?_) (fun g12 => nomatch g12)
 refine zt g12 ?_
 refine rA ?_ (x := pkT g12)
 refine scT ?_
 exact zep
 refine rB gd ?_ (x := lF fd_32_4)
 refine rB gd ?_ (x := lD [sl .v _] ty_29)
 refine rB gd ?_ (x := lN sl_29)
 refine rB gd ?_ (x := B_gtr)
 refine rA ?_ (x := pkF gd)
 refine rM ?_
 refine cx 46 (fun ge sge => ?_) (fun ge sge => ?_)
 refine zt ge ?_
 refine rA ?_ (x := pkT ge)
 refine scT ?_
 exact zep
 refine rB ge ?_ (x := lF fd_32_5)
 refine rB ge ?_ (x := lD [sl .v _] ty_30)
 refine rB ge ?_ (x := lN sl_30)
 refine rB ge ?_ (x := B_gtr)
 refine rA ?_ (x := pkF ge)
 refine sc (fun hbb => ?_) (fun hbb => ?_)
 exact zep
 have hpr : engPre e = true := by unfold engPre; rw [hp1]; first | (simp_all; done) | (simp_all; omega)
 refine zbr ?_
 refine sS [1, 2] [1] ?_
 refine zeq ?_
 refine sP [1, 2, 53, 54, 55] [1] ?_
 refine sL [1, 53, 54] [1] (fun k : Nat => k ≤ e.Active.length ∧ adjTo a0_ (okActive e.Store) ltA e.Active k = true) (fun k : Nat => [(55, RV.int (k : Int))]) (fun k : Nat => []) (fun k : Nat => e.Active.length - k) 0 (by exact ⟨by omega, rfl⟩) (by exact aI (by exact rfl) (tI)) (by exact ⟨⟩) ?_
 rintro k ⟨hk, ha⟩
 refine za5 ?_
 refine sc (fun hbc => ?_) (fun hbc => ?_)
 have hlt : k < e.Active.length := by omega
 have hgk : e.Active.getD k a0_ = e.Active[k] := getD_at hlt
 have hgp : 0 < k → e.Active.getD (k - 1) a0_ = e.Active[k - 1] := fun h => getD_at (by omega)
 refine za6 ?_
 refine sT [1, 53, 54, 55] [1] ?_
 refine rM ?_
 refine zer ?_
 refine rX ?_ (x := (loc_alloc (by decide) z_70 zo_70))
 refine rS ?_
 refine zes ?_
 refine sO [(1, _), (3, _), (4, _), (53, _), (54, _), (55, _)] [(1, _), (4, (70, [val _, val _, sl _ _, sl _ _, val _, sl _ _, val _, val _, val _, sl _ _]))] ?_
 refine sw_draw hm_ ?_
 refine dA 0 ?_ (x := lF fd_32_0)
 refine dA 1 ?_ (x := lD [sl .v _, val _] ty_26)
 refine dA 0 ?_ (x := lD [val _, val _, sl .v _, sl .v _, val _, sl .v _, val _, val _, val _, sl .v _] ty_70)
 refine dA 7 ?_ (x := cL [(true, [sl _ _, val _]), (true, [val _, val _, sl _ _, sl _ _, val _, sl _ _, val _, val _, val _, sl _ _])] [(true, [sl .v _, val _]), (true, [val _, val _, sl .v _, sl .v _, val _, sl .v _, val _, val _, val _, sl .v _])] c_48 (hs := by exact impl_activeOk))
 refine dA 15 ?_ (x := nT)
 refine dA 31 ?_ (x := sM)
 refine dx 65 (fun gf sgf => ?_) (fun gf sgf => ?_)
 refine dT 63 gf ?_
 refine dT 127 gf ?_
 refine dT 255 gf ?_
 refine dU 511 ?_
 refine dU 1023 ?_
 refine dU 511 ?_
 refine dU 2559 ?_
 refine dU 8191 ?_
 refine dU 16383 ?_
 refine dU 32767 ?_
 refine dU 65535 ?_
 refine dU 511 ?_
 refine dU 131583 ?_
 refine dU 393727 ?_
 refine dU 1048575 ?_
 refine dT 2097151 gf ?_
 refine dA 4194303 ?_ (x := pkT gf)
 refine scT ?_
 exact zet
 refine dB 63 gf ?_ (x := sM)
 refine dB 127 gf ?_ (x := B_gtr)
 refine dB 255 gf ?_ (x := sM)
 refine dx 68 (fun gg sgg => ?_) (fun gg sgg => ?_)
 refine dB 511 gg ?_ (x := lF fd_32_3)
 refine dB 1023 gg ?_ (x := lD [sl .v _] ty_28)
 refine dB 511 gg ?_ (x := sM)
 refine dB 2559 gg ?_ (x := B_sub)
 refine dB 8191 gg ?_ (x := loc_index (k := k - 1) (by decide) sl_28 (by exact ⟨⟩) (by omega) (by exact getm2 (by omega) rfl) (by exact rfl))
 refine dB 16383 gg ?_ (x := loc_efield (by decide) fd_70_0 (by exact nl rfl))
 refine dB 32767 gg ?_ (x := loc_efield (by decide) fd_38_0 (by exact nl rfl))
 refine dB 65535 gg ?_ (x := lE [val _] ty_3)
 refine dB 511 gg ?_ (x := lF fd_70_0)
 refine dB 131583 gg ?_ (x := lF fd_38_0)
 refine dB 393727 gg ?_ (x := lD [val _] ty_3)
 refine dB 1048575 gg ?_ (x := B_geq)
 refine dB 2097151 gf ?_ (x := pkT gg)
 refine dA 4194303 ?_ (x := pkF gf)
 refine sc (fun hbd => ?_) (fun hbd => ?_)
 exact zet
 exact zeu
 refine dF 511 gg ?_
 refine dF 1023 gg ?_
 refine dF 511 gg ?_
 refine dF 2559 gg ?_
 refine dF 8191 gg ?_
 refine dF 16383 gg ?_
 refine dF 32767 gg ?_
 refine dF 65535 gg ?_
 refine dF 511 gg ?_
 refine dF 131583 gg ?_
 refine dF 393727 gg ?_
 refine dF 1048575 gg ?_
 refine dB 2097151 gf ?_ (x := pkF gg)
 refine dA 4194303 ?_ (x := pkF gf)
 refine scF ?_
 exact zeu
 have hend : k = e.Active.length := by omega
 have hall : adjAll a0_ (okActive e.Store) ltA e.Active = true := adj_end ha hend
 refine zbx ?_
 refine sT [1, 53, 54, 55] [1] ?_
 refine zev ?_
 refine rA ?_ (x := lN sl_29)
 refine za4 ?_
 refine sP [1, 53, 54, 55, 85, 86, 87] [1] ?_
 refine sL [1, 53, 54, 55, 85, 86] [1] (fun k : Nat => k ≤ e.Done.length ∧ (List.take k e.Done).all (okFin e.Store.Now) = true) (fun k : Nat => [(87, RV.int (k : Int))]) (fun k : Nat => []) (fun k : Nat => e.Done.length - k) 0 (by exact ⟨by omega, rfl⟩) (by exact aI (by exact rfl) (tI)) (by exact ⟨⟩) ?_
 rintro k ⟨hk, ha⟩
 refine za5 ?_
 refine sc (fun hbd => ?_) (fun hbd => ?_)
 have hlt : k < e.Done.length := by omega
 refine za6 ?_
 refine sT [1, 53, 54, 55, 85, 86, 87] [1] ?_
 refine zew ?_
 refine zex ?_
 refine sw_seq ?_
 refine sO [(1, _), (6, _), (53, _), (54, _), (55, _), (85, _), (86, _), (87, _)] [(1, _), (6, (54, [val _, val _, sl _ _, sl _ _, val _, val _, sl _ _]))] ?_
 refine sw_reg ?_
 refine rA ?_ (x := lF fd_54_0)
 refine zc3 ?_
 refine zbj ?_
 refine cx 95 (fun gf sgf => ?_) (fun gf sgf => ?_)
 refine zt gf ?_
 refine rA ?_ (x := pkT gf)
 refine rM ?_
 refine RunS.cases (s := 104) rfl (fun g25 => ?_) (fun g25 => nomatch g25)
 refine zt g25 ?_
 refine rA ?_ (x := pkT g25)
 refine rM ?_
 refine RunS.cases (s := 110) rfl (fun g26 => ?_) (fun g26 => nomatch g26)
 refine zt g26 ?_
 refine rA ?_ (x := pkT g26)
 refine scT ?_
 exact zey
 refine rB gf ?_ (x := lF fd_54_1)
 refine rB gf ?_ (x := lD [val _] ty_3)
 refine rB gf ?_ (x := lF fd_32_0)
 refine rB gf ?_ (x := lF fd_26_1)
 refine rB gf ?_ (x := lD [val _] ty_3)
 refine rB gf ?_ (x := cL [(false, [val _]), (false, [val _]), (false, [val _])] [(false, [val _]), (false, [val _]), (false, [val _])] c_20 (hs := by exact impl_within))
 refine rB gf ?_ (x := nT)
 refine rA ?_ (x := pkF gf)
 refine rM ?_
 refine cx 104 (fun gg sgg => ?_) (fun gg sgg => ?_)
 refine zt gg ?_
 refine rA ?_ (x := pkT gg)
 refine rM ?_
 refine RunS.cases (s := 110) rfl (fun g29 => ?_) (fun g29 => nomatch g29)
 refine zt g29 ?_
 refine rA ?_ (x := pkT g29)
 refine scT ?_
 exact zey
 refine rB gg ?_ (x := lF fd_54_2)
 refine rB gg ?_ (x := lD [val _] ty_3)
 refine rB gg ?_ (x := cL [(false, [val _]), (false, [val _]), (false, [val _])] [(false, [val _]), (false, [val _]), (false, [val _])] c_20 (hs := by exact impl_within))
 refine rB gg ?_ (x := nT)
 refine rA ?_ (x := pkF gg)
 refine rM ?_
 refine cx 110 (fun gh sgh => ?_) (fun gh sgh => ?_)
 refine zt gh ?_
 refine rA ?_ (x := pkT gh)
 refine scT ?_
 exact zey
 refine rB gh ?_ (x := lF fd_54_3)
 refine rB gh ?_ (x := lD [sl .v _] ty_52)
 refine rB gh ?_ (x := cL [(false, [sl _ _])] [(false, [sl .v _])] c_49 (hs := by exact impl_resultOk))
 refine rB gh ?_ (x := nT)
 refine rA ?_ (x := pkF gh)
 refine sc (fun hbe => ?_) (fun hbe => ?_)
 exact zey
 have hyes : (okFin e.Store.Now) e.Done[k] = true := by first | (simp_all [okFin]; done) | (simp_all [okFin]; omega)
 refine sw_skip ?_
 refine sG [1, 6, 53, 54, 55, 85, 86, 87] [1, 6] ?_
 exact zaj
 have hfa : e.Done.all (okFin e.Store.Now) = true := all_end (by rw [show e.Done.length = k by omega]; exact ha)
 refine zbx ?_
 refine sT [1, 53, 54, 55, 85, 86, 87] [1] ?_
 refine rA ?_ (x := lF fd_32_5)
 refine rA ?_ (x := lD [sl .v _] ty_30)
 refine rA ?_ (x := lN sl_30)
 refine za4 ?_
 refine sP [1, 53, 54, 55, 85, 86, 87, 118, 119, 120] [1] ?_
 refine sL [1, 53, 54, 55, 85, 86, 87, 118, 119] [1] (fun k : Nat => k ≤ e.Ledger.length ∧ (List.take k e.Ledger).all okCharge = true) (fun k : Nat => [(120, RV.int (k : Int))]) (fun k : Nat => []) (fun k : Nat => e.Ledger.length - k) 0 (by exact ⟨by omega, rfl⟩) (by exact aI (by exact rfl) (tI)) (by exact ⟨⟩) ?_
 rintro k ⟨hk, ha⟩
 refine za5 ?_
 refine sc (fun hbe => ?_) (fun hbe => ?_)
 have hlt : k < e.Ledger.length := by omega
 refine za6 ?_
 refine sT [1, 53, 54, 55, 85, 86, 87, 118, 119, 120] [1] ?_
 refine zez ?_
 refine zf0 ?_
 refine sw_seq ?_
 refine sO [(1, _), (8, _), (53, _), (54, _), (55, _), (85, _), (86, _), (87, _), (118, _), (119, _), (120, _)] [(1, _), (8, (73, [val _, val _, sl _ _, sl _ _, sl _ _]))] ?_
 refine sw_reg ?_
 refine rA ?_ (x := lD [val _, val _, sl .v _, sl .v _, sl .v _] ty_73)
 refine rA ?_ (x := cL [(true, [val _, val _, sl _ _, sl _ _, sl _ _])] [(true, [val _, val _, sl .v _, sl .v _, sl .v _])] c_50 (hs := by exact impl_IsCharge))
 refine rA ?_ (x := nT)
 refine sc (fun hbf => ?_) (fun hbf => ?_)
 have hno : okCharge e.Ledger[k] = false := by simpa using hbf
 have hbad2 := eng_no4 (all_no hlt hno)
 refine sS [1, 8, 53, 54, 55, 85, 86, 87, 118, 119, 120] [1, 8] ?_
 exact zf1
 have hyes : okCharge e.Ledger[k] = true := by simpa using hbf
 refine sw_skip ?_
 refine sG [1, 8, 53, 54, 55, 85, 86, 87, 118, 119, 120] [1, 8] ?_
 exact zaj
 have hla : e.Ledger.all okCharge = true := all_end (by rw [show e.Ledger.length = k by omega]; exact ha)
 refine sw_exit ?_
 refine sT [1, 53, 54, 55, 85, 86, 87, 118, 119, 120] [1] ?_
 refine za9 ?_
 exact rb ((eng_yes hpr hall hfa hla).symm)
end Go.Proofs.Ytmekkgdboplbjaa
