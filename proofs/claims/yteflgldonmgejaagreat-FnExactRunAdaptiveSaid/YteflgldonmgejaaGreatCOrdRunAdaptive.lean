/- What functions of the program compute. No condition. -/
import Derived.Test.YteflgldonmgejaaGreatCZMRunAdaptive
import Derived.Test.YteflgldonmgejaaGreatCFcRunAdaptive
import Derived.Test.YteflgldonmgejaaGreatCPrbRunAdaptive
import Derived.KernelRfl
set_option linter.unusedVariables false
set_option linter.unusedSimpArgs false
namespace Go.Proofs.YteflgldonmgejaaGreat
open Go Go.RowKit M PV
set_option maxRecDepth 10000
attribute [local irreducible] PV.Lcl PV.LclR RV.Lcl
theorem spec_l6Orders  : SCall Tryz.prog 131 [] (resRV [(false, [sl (.own 25 1) (ordersL.map (cIntS (.own 3 1)))])]) := by
 refine sF Tryz.func131 fun h0 w0 Fz0 => ?_
 refine sR ?_
 refine rA ?_ (x := loc_const (.inr rfl) (by decide) (ok_nil (t := 25) (e := 1)))
 refine sS [0] [] ?_
 refine zqp ?_
 refine zqp ?_
 refine zqq ?_
 exact zb7
theorem impl_BestOrder {p1 p2 p4 p5 p7 : Fl} {x : Index} {l : List Row}  (hl : l.length ≤ 1048576) : SCall Tryz.prog 58 [(true, [sl .v (x.Queries.map (cQuery p1 p2)), sl .v (x.Fields.map (cSpanS p4 p5))]), (false, [sl .v (l.map (cRow p7))])] (resRV [(false, [sl .v ((bestOrder x l).map cInt)])]) := by
 refine sF Tryz.func58 fun h0 w0 Fz0 => ?_
 refine sn 0 0 fun hl0_0 => ?_
 refine sn 0 1 fun hl0_1 => ?_
 refine sj 1 fun hl1 => ?_
 have hO6 : ordersL.length = 6 := rfl
 refine zky ?_
 refine zj8 ?_
 refine sT [1, 2, 4] [2] ?_
 refine zp1 ?_
 refine rA ?_ (x := nT)
 refine sc (fun hba => ?_) (fun hba => ?_)
 have hok : okIndex x = false := by simpa using hba
 refine sS [1, 2, 4] [2] ?_
 refine rA ?_ (x := loc_const (.inr rfl) (by decide) (ok_nil (t := 3) (e := 1)))
 refine sw_weak (s := 4) [sl _ _] (by exact rfl) (by exact (ToL.cons PV.to_none ToL.nil)) (by exact (BorL.cons (bor_sl _) BorL.nil)) ?_
 refine sw_ret ?_
 exact (aI (by refine slc_eq ?_; unfold bestOrder; rw [if_neg (by rw [hok]; simp)]; rfl) tI)
 have hok : okIndex x = true := by simpa using hba
 refine za8 ?_
 refine zqp ?_
 refine zqp ?_
 refine zqq ?_
 refine zi5 ?_
 refine sP [1, 2, 4, 5] [2] ?_
 refine sw_weak (s := 5) [sl .v (ordersL.map fun z => [sl (.own 3 1) (z.map cInt)])] (by exact rfl) (by exact (ToL.cons (to_eqv_ rfl) ToL.nil)) (by exact (BorL.cons (bor_sl _) BorL.nil)) ?_
 refine sG [1, 2, 4, 5] [2] ?_
 refine rA ?_ (x := vM false [sl .v _])
 refine rA ?_ (x := loc_index (k := 0) (by decide) sl_167 (ok_sc rfl) (by rfl) (by exact getm2 (by decide) rfl) (by exact rfl))
 refine rA ?_ (x := lE [sl .v _] ty_25)
 refine zib ?_
 refine sS [1, 2, 4, 5, 6] [2] ?_
 refine rA ?_ (x := vM false [sl .v _])
 refine rA ?_ (x := lN sl_167)
 refine zfl ?_
 refine sP [1, 2, 4, 5, 6, 22, 23, 24] [2] ?_
 refine sL [1, 2, 4, 5, 22, 23] [2] (fun k : Nat => k ≤ ordersL.length) (fun k : Nat => [(6, RV.sv false [sl .v ((bestTo x l k).map cInt)]), (24, RV.int (k : Int))]) (fun k : Nat => []) (fun k : Nat => ordersL.length - k) 0 (by omega) (by exact aI (by exact rfl) (aI (by exact rfl) (tI))) (by exact ⟨⟩) ?_
 rintro k hk
 refine zfm ?_
 refine sc (fun hbb => ?_) (fun hbb => ?_)
 have hlt : k < ordersL.length := by show k < 6; omega
 have ho3 := ordersL_3 hlt
 refine zed ?_
 refine sT [1, 2, 4, 5, 6, 22, 23, 24] [2] ?_
 refine zqr ?_
 refine zib ?_
 refine sP [1, 2, 4, 5, 6, 8, 22, 23, 24] [2] ?_
 refine sw_draw hm_ ?_
 refine zqs ?_
 refine dA 0 ?_ (x := vM false [sl .v _])
 refine dA 7 ?_ (x := cL [(true, [sl _ _, sl _ _]), (false, [sl _ _]), (false, [sl _ _])] [(true, [sl .v _, sl .v _]), (false, [sl .v _]), (false, [sl .v _])] c_52 (hs := by exact (impl_WorkOf (by omega))))
 refine zqs ?_
 refine dA 0 ?_ (x := vM false [sl .v _])
 refine dA 127 ?_ (x := cL [(true, [sl _ _, sl _ _]), (false, [sl _ _]), (false, [sl _ _])] [(true, [sl .v _, sl .v _]), (false, [sl .v _]), (false, [sl .v _])] c_52 (hs := by exact (impl_WorkOf (by omega))))
 refine dA 255 ?_ (x := B_lss)
 refine sc (fun hbc => ?_) (fun hbc => ?_)
 have hc := hbc
 refine sG [1, 2, 4, 5, 6, 8, 22, 23, 24] [2] ?_
 refine zqt ?_
 exact zqu
 have hc := hbc
 refine sw_skip ?_
 exact zqu
 have hend : k = 6 := by omega
 refine sw_exit ?_
 refine sT [1, 2, 4, 5, 6, 22, 23, 24] [2] ?_
 refine zqt ?_
 refine sw_ret ?_
 exact (aI (by refine slc_eq ?_; unfold bestOrder; rw [if_pos hok, ← hend]) tI)
theorem spec_BestOrder {p1 p2 p4 p5 p7 : Fl} {x : Index} {l : List Row}  (hl : l.length ≤ 1048576) : SCall Tryz.prog 57 [(true, [sl .v (x.Queries.map (cQuery p1 p2)), sl .v (x.Fields.map (cSpanS p4 p5))]), (false, [sl .v (l.map (cRow p7))])] (resRV [(false, [sl .v ((bestOrder x l).map cInt)])]) := by
 refine sF Tryz.func57 fun h0 w0 Fz0 => ?_
 refine sn 0 0 fun hl0_0 => ?_
 refine sn 0 1 fun hl0_1 => ?_
 refine sj 1 fun hl1 => ?_
 have hO6 : ordersL.length = 6 := rfl
 refine zky ?_
 refine rA ?_ (x := loc_const (.inr rfl) (by decide) (ok_nil (t := 3) (e := 1)))
 refine sT [1, 2, 4] [2] ?_
 refine zki ?_
 refine sS [1, 2, 4, 5] [2] ?_
 refine rK ?_
 refine sS [1, 2, 4, 5, 6] [2] ?_
 refine rA ?_ (x := cL [] [] c_131 (hs := by exact spec_l6Orders))
 refine zi5 ?_
 refine sS [1, 2, 4, 5, 6, 7] [2] ?_
 refine zhx ?_
 refine sP [1, 2, 4, 5, 6, 7, 8] [2] ?_
 refine sw_weak (s := 5) [sl .v (([] : List Int).map cInt)] (by exact rfl) (by exact (ToL.cons (to_eqv_ rfl) ToL.nil)) (by exact (BorL.cons (bor_sl _) BorL.nil)) ?_
 refine sP [1, 2, 4, 5, 6, 7, 8] [2] ?_
 refine sL [1, 2, 4, 7] [2] (fun k : Nat => k ≤ ordersL.length ∧ (0 < k → okIndex x = true)) (fun k : Nat => [(5, RV.sv false [sl .v ((spBest x l k).map cInt)]), (6, RV.int (spLeast x l k)), (8, RV.int (k : Int))]) (fun k : Nat => []) (fun k : Nat => ordersL.length - k) 0 (by exact ⟨by omega, fun h => absurd h (Nat.lt_irrefl 0)⟩) (by exact aI (by exact rfl) (aI (by exact rfl) (aI (by exact rfl) (tI)))) (by exact ⟨⟩) ?_
 rintro k ⟨hk, ha⟩
 refine zae ?_
 refine rA ?_ (x := lN sl_167)
 refine rA ?_ (x := B_lss)
 refine rM ?_
 refine cx 16 (fun ga sga => ?_) (fun ga sga => ?_)
 refine zp5 ?_
 refine rA ?_ (x := pkT ga)
 refine sc (fun hba => ?_) (fun hba => ?_)
 have hok : okIndex x = true := by simp_all
 have hlt : k < ordersL.length := by show k < 6; have h6_ : ordersL.length = 6 := rfl; first | omega | (simp_all; done) | (simp_all; omega)
 have ho3 := ordersL_3 hlt
 refine zdx ?_
 refine sQ [1, 2, 4, 5, 6, 7, 8] [2] ?_
 refine sw_draw hm_ ?_
 refine zqs ?_
 refine zck ?_
 refine dA 12 ?_ (x := loc_index (by decide) sl_167 (by exact ⟨⟩) (by exact rfl) (by exact getm2 (by omega) rfl) (by exact rfl))
 refine dA 28 ?_ (x := lE [sl .v _] ty_25)
 refine dA 63 ?_ (x := cL [(true, [sl _ _, sl _ _]), (false, [sl _ _]), (false, [sl _ _])] [(true, [sl .v _, sl .v _]), (false, [sl .v _]), (false, [sl .v _])] c_44 (hs := by exact (spec_WorkOf (by omega))))
 refine dA 127 ?_ (x := sA)
 refine sS [1, 2, 4, 5, 6, 7, 8, 9] [2] ?_
 refine zb0 ?_
 refine zio ?_
 refine cx 32 (fun gb sgb => ?_) (fun gb sgb => ?_)
 have hk0e : k = 0 := sp_k0 (x := x) (l := l) (by omega) (by first | omega | (simp_all; done))
 have sgb := gb
 try simp only [qq] at sgb
 refine zhg ?_
 refine scT ?_
 exact zqv
 have hk0 : k ≠ 0 := by intro h0_; subst h0_; have hz_ : (spBest x l 0).length = 0 := rfl; first | omega | (simp_all; done)
 have sgb := gb
 try simp only [qq] at sgb
 refine rB gb ?_ (x := sM)
 refine rB gb ?_ (x := sM)
 refine rB gb ?_ (x := B_lss)
 refine rA ?_ (x := pkF gb)
 refine sc (fun hbb => ?_) (fun hbb => ?_)
 exact zqv
 have hsb := spBest_no (x := x) (l := l) hlt hk0 (by omega)
 refine sw_skip ?_
 exact zqw
 exact zqx
 refine zfz ?_
 refine scF ?_
 exact zqx
theorem impl_ChooseOrder {p1 p2 p5 p6 p7 p8 p9 p11 p12 p13 p14 p16 p17 p18 : Fl} {e : Engine}  (hb : wtEngine e ≤ 68719476736) : SCall Tryz.prog 15 [(true, [sl .v (e.Store.Segments.map (cVersionS p1 p2)), val (vI e.Store.Now), val (vI e.Cursor), sl .v (e.Order.map cInt), sl .v (e.Active.map (cActive p5 p6 p7 p8 p9)), sl .v (e.Done.map (cFinished p11 p12 p13 p14)), sl .v (e.Ledger.map (cCharge p16 p17 p18)), val (vI e.Steps)])] (resRV [(false, [sl .v ((chooseOrder e).map cInt)])]) := by
 refine sF Tryz.func15 fun h0 w0 Fz0 => ?_
 refine sn 0 0 fun hl0_0 => ?_
 refine sn 0 3 fun hl0_3 => ?_
 refine sn 0 4 fun hl0_4 => ?_
 refine sn 0 5 fun hl0_5 => ?_
 refine sn 0 6 fun hl0_6 => ?_
 refine zay ?_
 refine zj8 ?_
 refine sT [1, 2] [1] ?_
 refine zon ?_
 refine rA ?_ (x := nT)
 refine sc (fun hba => ?_) (fun hba => ?_)
 have hok : okEngine e = false := by simpa using hba
 refine sS [1, 2] [1] ?_
 refine rA ?_ (x := loc_const (.inr rfl) (by decide) (ok_nil (t := 3) (e := 1)))
 exact zqy
 have hok : okEngine e = true := by simpa using hba
 have hrl := rowsAt_len hok
 refine sw_skip ?_
 refine zqz ?_
 refine rA ?_ (x := cL [(true, [sl _ _, val _, val _, sl _ _, sl _ _, sl _ _, sl _ _, val _])] [(true, [sl .v _, val _, val _, sl .v _, sl .v _, sl .v _, sl .v _, val _])] c_51 (hs := by exact (impl_probed (by assumption) (by omega))))
 refine rA ?_ (x := tM)
 refine zr0 ?_
 refine zks ?_
 refine zi5 ?_
 refine zr1 ?_
 refine rA ?_ (x := lD [sl .v _, sl .v _] ty_92)
 refine rA ?_ (x := vM false [sl .v _])
 refine rA ?_ (x := cL [(true, [sl _ _, sl _ _]), (false, [sl _ _])] [(true, [sl .v _, sl .v _]), (false, [sl .v _])] c_58 (hs := by exact (impl_BestOrder (by omega))))
 exact zr2
theorem spec_ChooseOrder {p1 p2 p5 p6 p7 p8 p9 p11 p12 p13 p14 p16 p17 p18 : Fl} {e : Engine}  (hb : wtEngine e ≤ 68719476736) : SCall Tryz.prog 14 [(true, [sl .v (e.Store.Segments.map (cVersionS p1 p2)), val (vI e.Store.Now), val (vI e.Cursor), sl .v (e.Order.map cInt), sl .v (e.Active.map (cActive p5 p6 p7 p8 p9)), sl .v (e.Done.map (cFinished p11 p12 p13 p14)), sl .v (e.Ledger.map (cCharge p16 p17 p18)), val (vI e.Steps)])] (resRV [(false, [sl .v ((chooseOrder e).map cInt)])]) := by
 refine sF Tryz.func14 fun h0 w0 Fz0 => ?_
 refine sn 0 0 fun hl0_0 => ?_
 refine sn 0 3 fun hl0_3 => ?_
 refine sn 0 4 fun hl0_4 => ?_
 refine sn 0 5 fun hl0_5 => ?_
 refine sn 0 6 fun hl0_6 => ?_
 refine zay ?_
 refine zj8 ?_
 refine sT [1, 2] [1] ?_
 refine zog ?_
 refine rA ?_ (x := nT)
 refine sc (fun hba => ?_) (fun hba => ?_)
 have hok : okEngine e = false := by simpa using hba
 refine sS [1, 2] [1] ?_
 refine zki ?_
 exact zqy
 have hok : okEngine e = true := by simpa using hba
 have hrl := rowsAt_len hok
 refine sw_skip ?_
 refine zqz ?_
 refine rA ?_ (x := cL [(true, [sl _ _, val _, val _, sl _ _, sl _ _, sl _ _, sl _ _, val _])] [(true, [sl .v _, val _, val _, sl .v _, sl .v _, sl .v _, sl .v _, val _])] c_43 (hs := by exact (spec_l19Now (by assumption) (by omega))))
 refine rA ?_ (x := tM)
 refine zr0 ?_
 refine zks ?_
 refine zi5 ?_
 refine zr1 ?_
 refine rA ?_ (x := lD [sl .v _, sl .v _] ty_92)
 refine rA ?_ (x := vM false [sl .v _])
 refine rA ?_ (x := cL [(true, [sl _ _, sl _ _]), (false, [sl _ _])] [(true, [sl .v _, sl .v _]), (false, [sl .v _])] c_57 (hs := by exact (spec_BestOrder (by omega))))
 exact zr2
end Go.Proofs.YteflgldonmgejaaGreat
