/- What functions of the program compute. No condition. -/
import Derived.Test.YtmekkgdboplbjaaCZMFnIsolation
import Derived.Test.YtmekkgdboplbjaaCFcFnIsolation
import Derived.Test.YtmekkgdboplbjaaCEveFnIsolation
import Derived.Test.YtmekkgdboplbjaaCDis
import Derived.KernelRfl
set_option linter.unusedVariables false
set_option linter.unusedSimpArgs false
namespace Go.Proofs.Ytmekkgdboplbjaa
open Go Go.RowKit M PV
set_option maxRecDepth 10000
attribute [local irreducible] PV.Lcl PV.LclR RV.Lcl
theorem FFin_pl_54 : placesI Try.prog 54 = some [(0, 4), (4, 1), (5, 1), (6, 1)] := by kernel_rfl
theorem impl_FinishEngine {p1 p2 p5 p6 p7 p8 p9 p11 p12 p13 p14 p16 p17 p18 : Fl} {e : Engine}  (hb : wtEngine e ≤ 68718000000) : SCall Try.prog 11 [(true, [sl .v (e.Store.Segments.map (cVersionS p1 p2)), val (vI e.Store.Now), val (vI e.Cursor), sl .v (e.Order.map cInt), sl .v (e.Active.map (cActive p5 p6 p7 p8 p9)), sl .v (e.Done.map (cFinished p11 p12 p13 p14)), sl .v (e.Ledger.map (cCharge p16 p17 p18)), val (vI e.Steps)])] (resRV [(true, [sl (.own 71 1) ((finEng e).Store.Segments.map (cVersionS (.own 107 4) (.own 3 1))), val (vI (finEng e).Store.Now), val (vI (finEng e).Cursor), sl (.own 3 1) ((finEng e).Order.map cInt), sl (.own 70 10) ((finEng e).Active.map (cActive (.own 41 3) (.own 3 1) (.own 3 1) (.own 45 2) (.own 3 1))), sl (.own 54 7) ((finEng e).Done.map (cFinished (.own 41 3) (.own 3 1) (.own 45 2) (.own 3 1))), sl (.own 73 5) ((finEng e).Ledger.map (cCharge (.own 3 1) (.own 3 1) (.own 3 1))), val (vI (finEng e).Steps)])]) := by
 refine sF Try.func11 fun h0 w0 Fz0 => ?_
 refine sn 0 0 fun hl0_0 => ?_
 refine sn 0 3 fun hl0_3 => ?_
 refine sn 0 4 fun hl0_4 => ?_
 refine sn 0 5 fun hl0_5 => ?_
 refine sn 0 6 fun hl0_6 => ?_
 have hbu := hb
 simp only [wtEngine, wtActiveS, wtFinishedS, wtChargeS] at hbu
 refine zfi ?_
 refine sT [1, 2] [1, 2] ?_
 refine zgb ?_
 refine zgc ?_
 refine zfj ?_
 refine zao ?_
 refine sP [1, 2, 3, 4] [1, 2, 3] ?_
 refine sL [1, 2, 3] [1, 2] (fun k : Nat => k ≤ 200) (fun k : Nat => [(4, RV.int (k : Int))]) (fun k : Nat => [(3, (32, [sl (.own 71 1) ((finTo e k).Store.Segments.map (cVersionS (.own 107 4) (.own 3 1))), val (vI (finTo e k).Store.Now), val (vI (finTo e k).Cursor), sl (.own 3 1) ((finTo e k).Order.map cInt), sl (.own 70 10) ((finTo e k).Active.map (cActive (.own 41 3) (.own 3 1) (.own 3 1) (.own 45 2) (.own 3 1))), sl (.own 54 7) ((finTo e k).Done.map (cFinished (.own 41 3) (.own 3 1) (.own 45 2) (.own 3 1))), sl (.own 73 5) ((finTo e k).Ledger.map (cCharge (.own 3 1) (.own 3 1) (.own 3 1))), val (vI (finTo e k).Steps)]))]) (fun k : Nat => 200 - k) 0 (by omega) (by exact aI (by exact rfl) (tI)) (by exact aI (by exact rfl) (tI)) ?_
 rintro k hk
 have hfw := finTo_wt e k
 refine zeg ?_
 refine rM ?_
 refine cx 9 (fun ga sga => ?_) (fun ga sga => ?_)
 refine rB ga ?_ (x := lD [sl .v _, val _, val _, sl .v _, sl .v _, sl .v _, sl .v _, val _] ty_32)
 refine rB ga ?_ (x := cL [(true, [sl _ _, val _, val _, sl _ _, sl _ _, sl _ _, sl _ _, val _])] [(true, [sl .v _, val _, val _, sl .v _, sl .v _, sl .v _, sl .v _, val _])] c_18 (hs := by exact (impl_IsEngine (e := finTo e k) (by omega))))
 refine zb9 ?_
 refine cx 13 (fun gb sgb => ?_) (fun gb sgb => ?_)
 refine rB gb ?_ (x := lF fd_32_3)
 refine rB gb ?_ (x := lD [sl .v _] ty_28)
 refine rB gb ?_ (x := lN sl_28)
 refine rB gb ?_ (x := B_gtr)
 refine rA ?_ (x := pkT gb)
 refine sc (fun hba => ?_) (fun hba => ?_)
 have hns : finStop (finTo e k) = false := by unfold finStop; first | (simp_all; done) | (simp_all; omega)
 have hlt : k < 200 := by first | omega | (simp_all; omega)
 refine za6 ?_
 refine sH [1, 2, 3, 4] [1, 2, 3] ?_
 refine rA ?_ (x := lD [sl .v _, val _, val _, sl .v _, sl .v _, sl .v _, sl .v _, val _] ty_32)
 refine rA ?_ (x := cL [(true, [sl _ _, val _, val _, sl _ _, sl _ _, sl _ _, sl _ _, val _])] [(true, [sl .v _, val _, val _, sl .v _, sl .v _, sl .v _, sl .v _, val _])] c_8 (hs := by exact (impl_StepEngine (e := finTo e k) (by omega))))
 refine rA ?_ (x := tM)
 refine zji ?_
 refine sO [(1, _), (2, _), (3, _), (4, _)] [(1, _), (2, _), (3, (32, [sl _ _, val _, val _, sl _ _, sl _ _, sl _ _, sl _ _, val _]))] ?_
 refine zfg ?_
 refine nx (k + 1) (by omega) (e := (by exact aI (by exact int_eq (by omega)) (tI))) (f := (by exact aI (by rw [fin_next hns]; exact rfl) (tI)))
 exact zjt
 refine zf gb ?_
 refine rA ?_ (x := pkF gb)
 refine scF ?_
 exact zjt
 refine zbf ?_
 refine RunS.cases (s := 13) rfl (fun g5 => nomatch g5) (fun g5 => ?_)
 refine zbg ?_
 refine scF ?_
 exact zjt
theorem impl_ResultOf {p1 p2 p5 p6 p7 p8 p9 p11 p12 p13 p14 p16 p17 p18 : Fl} {e : Engine} {id : Int}  (hb : wtEngine e ≤ 68718000000) : SCall Try.prog 10 [(true, [sl .v (e.Store.Segments.map (cVersionS p1 p2)), val (vI e.Store.Now), val (vI e.Cursor), sl .v (e.Order.map cInt), sl .v (e.Active.map (cActive p5 p6 p7 p8 p9)), sl .v (e.Done.map (cFinished p11 p12 p13 p14)), sl .v (e.Ledger.map (cCharge p16 p17 p18)), val (vI e.Steps)]), (false, [val (vI id)])] (resRV [(true, [val (vI (resultOf e id).1.Query.Id), val (vI (resultOf e id).1.Query.Tenant), sl (.own 41 3) ((resultOf e id).1.Query.Conds.map cCond), sl (.own 3 1) ((resultOf e id).1.Query.Out.map cInt), val (vI (resultOf e id).1.Time), val (vI (resultOf e id).1.Steps), sl (.own 45 2) ((resultOf e id).1.Rows.map (cRow (.own 3 1)))]), (false, [val (.bool (resultOf e id).2)])]) := by
 refine sF Try.func10 fun h0 w0 Fz0 => ?_
 refine sn 0 0 fun hl0_0 => ?_
 refine sn 0 3 fun hl0_3 => ?_
 refine sn 0 4 fun hl0_4 => ?_
 refine sn 0 5 fun hl0_5 => ?_
 refine sn 0 6 fun hl0_6 => ?_
 have hbu := hb
 simp only [wtEngine, wtActiveS, wtFinishedS, wtChargeS] at hbu
 refine zem ?_
 refine rX ?_ (x := (loc_alloc (by decide) z_54 zo_54))
 refine zbz ?_
 refine sT [1, 2, 4, 5] [2, 4] ?_
 refine zfp ?_
 refine rA ?_ (x := nT)
 refine sc (fun hba => ?_) (fun hba => ?_)
 have hr := res_bad (id := id) (by simpa using hba : okEngine e = false)
 refine sS [1, 2, 4, 5] [2, 4] ?_
 exact zju
 have hok : okEngine e = true := by simpa using hba
 refine zbr ?_
 refine sS [1, 2, 4, 5] [2, 4] ?_
 refine zev ?_
 refine rA ?_ (x := lN sl_29)
 refine zjv ?_
 refine sw_block ?_
 refine sP [1, 2, 4, 5, 6] [2, 4] ?_
 refine sL [1, 2, 4] [2, 4] (fun k : Nat => k ≤ e.Done.length ∧ (∀ f ∈ e.Done.drop (e.Done.length - k), f.Query.Id ≠ id)) (fun k : Nat => [(6, RV.int ((e.Done.length : Int) - 1 - (k : Int)))]) (fun k : Nat => []) (fun k : Nat => e.Done.length - k) 0 (by exact ⟨by omega, by simp⟩) (by exact aI (by exact int_eq (by omega)) (tI)) (by exact ⟨⟩) ?_
 rintro k ⟨hk, ha⟩
 refine zap ?_
 refine rA ?_ (x := B_geq)
 refine sc (fun hbb => ?_) (fun hbb => ?_)
 have hlt : k < e.Done.length := by omega
 have hwm := wt_mem (f := wtFinished) (show e.Done.length - 1 - k < e.Done.length by omega)
 refine za6 ?_
 refine sT [1, 2, 4, 6] [2, 4] ?_
 refine zev ?_
 refine zjw ?_
 refine rA ?_ (x := loc_efield (by decide) fd_54_0 (by exact nl rfl))
 refine rA ?_ (x := loc_efield (by decide) fd_38_0 (by exact nl rfl))
 refine rA ?_ (x := lE [val _] ty_3)
 refine rM ?_
 refine rA ?_ (x := B_eql)
 refine sc (fun hbc => ?_) (fun hbc => ?_)
 have hr := res_all hlt hok ha (by first | exact hbc | simpa using hbc)
 refine sS [1, 2, 4, 6] [2, 4] ?_
 refine zev ?_
 refine zjw ?_
 refine rA ?_ (x := lE [val _, val _, sl .v _, sl .v _, val _, val _, sl .v _] ty_54)
 refine rA ?_ (x := cL [(true, [val _, val _, sl _ _, sl _ _, val _, val _, sl _ _])] [(true, [val _, val _, sl .v _, sl .v _, val _, val _, sl .v _])] c_32 (hs := by exact (impl_copyFinished (x := e.Done[e.Done.length - 1 - k]) (by omega))))
 exact zjx
 have hno : ¬ e.Done[e.Done.length - 1 - k].Query.Id = id := by first | exact hbc | simpa using hbc
 refine sw_skip ?_
 refine sG [1, 2, 4, 6] [2, 4] ?_
 refine rM ?_
 refine zjv ?_
 refine nx (k + 1) (by exact ⟨by omega, drop_next hlt ha hno⟩) (e := (by exact aI (by exact int_eq (by omega)) (tI)))
 have hend : k = e.Done.length := by omega
 have hr := res_none (id := id) hok (by rw [hend, Nat.sub_self, List.drop_zero] at ha; exact ha)
 refine sw_exit ?_
 refine sT [1, 2, 4, 6] [2, 4] ?_
 exact zju
end Go.Proofs.Ytmekkgdboplbjaa
