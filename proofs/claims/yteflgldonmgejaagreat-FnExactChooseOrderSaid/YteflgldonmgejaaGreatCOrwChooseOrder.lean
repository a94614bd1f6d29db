/- What functions of the program compute. No condition. -/
import Derived.Test.YteflgldonmgejaaGreatCZMChooseOrder
import Derived.Test.YteflgldonmgejaaGreatCFcChooseOrder
import Derived.Test.YteflgldonmgejaaGreatCOrdChooseOrder
import Derived.Test.YteflgldonmgejaaGreatCDow
import Derived.Test.YteflgldonmgejaaGreatCF2
import Derived.KernelRfl
set_option linter.unusedVariables false
set_option linter.unusedSimpArgs false
namespace Go.Proofs.YteflgldonmgejaaGreat
open Go Go.RowKit M PV
set_option maxRecDepth 10000
attribute [local irreducible] PV.Lcl PV.LclR RV.Lcl
theorem impl_BestOrder_o {p1 p2 p4 p5 p7 : Fl} {x : Index} {l : List Row}  (hl : l.length ≤ 1048576) : SCall Tryz.prog 58 [(true, [sl .v (x.Queries.map (cQuery p1 p2)), sl .v (x.Fields.map (cSpanS p4 p5))]), (false, [sl .v (l.map (cRow p7))])] (resRV [(false, [sl (.own 3 1) ((bestOrder x l).map cInt)])]) := by
 refine sF Tryz.func58 fun h0 w0 Fz0 => ?_
 refine sn 0 0 fun hl0_0 => ?_
 refine sn 0 1 fun hl0_1 => ?_
 refine sj 1 fun hl1 => ?_
 have hO6 : ordersL.length = 6 := rfl
 refine ziv ?_
 refine zh7 ?_
 refine sT [1, 2, 4] [2] ?_
 refine zlb ?_
 refine rA ?_ (x := nT)
 refine sc (fun hba => ?_) (fun hba => ?_)
 have hok : okIndex x = false := by simpa using hba
 refine sS [1, 2, 4] [2] ?_
 refine rA ?_ (x := loc_const (.inr rfl) (by decide) (ok_nil (t := 3) (e := 1)))
 refine sw_ret ?_
 exact (aI (by refine slc_eq ?_; unfold bestOrder; rw [if_neg (by rw [hok]; simp)]; rfl) tI)
 have hok : okIndex x = true := by simpa using hba
 refine za8 ?_
 refine zlh ?_
 refine zlh ?_
 refine zli ?_
 refine zg7 ?_
 refine sP [1, 2, 4, 5] [2] ?_
 refine sw_lendE (s := 5) (t := 25) (e := 1) (G := 6000) (f := (fun z : List Int => [sl (.own 3 1) (z.map cInt)])) (g := (fun z : List Int => [sl .v (z.map cInt)])) (fN := nIntS) (xs := ordersL) (by exact rfl) (by exact rfl) (by exact rfl) (fun _ _ => rfl) (fun _ => rfl) (fun _ => (ToL.cons PV.to_none ToL.nil)) (fun _ => (BorL.cons (bor_sl _) BorL.nil)) fun zsE hzsE => ?_
 have hz6 : zsE.length = 6 := by rw [← List.length_map (f := Prod.fst), hzsE]; rfl
 refine sG [1, 2, 4, 5, 6000] [2] ?_
 refine rA ?_ (x := vM false [sl .v _])
 refine rA ?_ (x := loc_index (k := 0) (by decide) sl_167 (ok_sc rfl) (by rfl) (by exact getm2 (by omega) rfl) (by exact rfl))
 refine zlj ?_
 refine sw_seq ?_
 refine sS [1, 2, 4, 5, 6, 6000] [2] ?_
 refine rA ?_ (x := vM false [sl .v _])
 refine rA ?_ (x := lN sl_167)
 refine ze0 ?_
 refine sP [1, 2, 4, 5, 6, 22, 23, 24, 6000] [2] ?_
 refine sL [1, 2, 4, 5, 22, 23, 6000] [2] (fun k : Nat => k ≤ zsE.length) (fun k : Nat => [(6, RV.sv false (nIntS (zbTo x l zsE k))), (24, RV.int (k : Int))]) (fun k : Nat => []) (fun k : Nat => zsE.length - k) 0 (by omega) (by exact aI (by show _ = some (RV.sv false (nIntS (zsE.getD 0 ([], fun _ => undef)))); rw [getD_at (show 0 < zsE.length by omega)]; exact rfl) (aI (by exact rfl) (tI))) (by exact ⟨⟩) ?_
 rintro k hk
 refine ze1 ?_
 refine sc (fun hbb => ?_) (fun hbb => ?_)
 have hlt : k < zsE.length := by omega
 have ho3 : zsE[k].1.length = 3 := by have h3_ := ordersL_3 (k := k) (by show k < 6; omega); have hz_ := zs_at hzsE hlt; rw [getD_at hlt, getD_at (show k < ordersL.length by show k < 6; omega)] at hz_; rw [hz_]; exact h3_
 refine zdl ?_
 refine sT [1, 2, 4, 5, 6, 22, 23, 24, 6000] [2] ?_
 refine zlk ?_
 refine sw_seq ?_
 refine sP [1, 2, 4, 5, 6, 8, 22, 23, 24, 6000] [2] ?_
 refine sw_draw hm_ ?_
 refine dA 0 ?_ (x := lD [sl .v _, sl .v _] ty_92)
 refine zll ?_
 refine dA 7 ?_ (x := loc_call (qs := [(true, [sl _ _, sl _ _]), (false, [sl _ _]), (false, [nv _ (sl _ _)])]) (as_ := [(true, [sl .v _, sl .v _]), (false, [sl .v _]), (false, [sl .v _])]) (by decide) c_52 (by exact (aI (by exact ⟨⟩) (aI (by exact ⟨⟩) (aI (by exact ⟨⟩) tI)))) (by exact (aI (aI rfl (ToL.cons PV.to_none (ToL.cons PV.to_none ToL.nil))) (aI (aI rfl (ToL.cons PV.to_none ToL.nil)) (aI (aI rfl (ToL.cons (PV.nv_to PV.to_none) ToL.nil)) tI)))) (by exact (impl_WorkOf (by omega))))
 refine dA 0 ?_ (x := lD [sl .v _, sl .v _] ty_92)
 refine zll ?_
 refine dA 127 ?_ (x := loc_call (qs := [(true, [sl _ _, sl _ _]), (false, [sl _ _]), (false, [nv _ (sl _ _)])]) (as_ := [(true, [sl .v _, sl .v _]), (false, [sl .v _]), (false, [sl .v _])]) (by decide) c_52 (by exact (aI (by exact ⟨⟩) (aI (by exact ⟨⟩) (aI (by exact ⟨⟩) tI)))) (by exact (aI (aI rfl (ToL.cons PV.to_none (ToL.cons PV.to_none ToL.nil))) (aI (aI rfl (ToL.cons PV.to_none ToL.nil)) (aI (aI rfl (ToL.cons (PV.nv_to PV.to_none) ToL.nil)) tI)))) (by exact (impl_WorkOf (by omega))))
 refine dA 255 ?_ (x := B_lss)
 refine sc (fun hbc => ?_) (fun hbc => ?_)
 have hc := hbc
 refine sG [1, 2, 4, 5, 6, 8, 22, 23, 24, 6000] [2] ?_
 refine zlm ?_
 exact zln
 have hc := hbc
 refine sw_skip ?_
 exact zln
 have hend : k = 6 := by omega
 refine sw_exit ?_
 refine sT [1, 2, 4, 5, 6, 22, 23, 24, 6000] [2] ?_
 refine zlm ?_
 refine sP [1, 2, 4, 5, 6, 22, 23, 24, 6000] [2] ?_
 refine sw_pickS (s := 4) (G := 6000) (e := 1) (f := (fun z : List Int => [sl (.own 3 1) (z.map cInt)])) (z := (zbTo x l zsE k)) (by exact zbTo_mem (by omega) (by omega)) (by exact rfl) (by exact (Nm.nv Nm.nil)) (fun _ => rfl) (by exact rfl) (by decide) (by exact rfl) ?_
 refine sw_ret ?_
 exact (aI (by refine slc_eq ?_; show _ = (bestOrder x l).map cInt; unfold bestOrder; rw [if_pos hok, ← zbTo_fst hzsE (by omega), hend]) tI)
theorem spec_BestOrder_o {p1 p2 p4 p5 p7 : Fl} {x : Index} {l : List Row}  (hl : l.length ≤ 1048576) : SCall Tryz.prog 57 [(true, [sl .v (x.Queries.map (cQuery p1 p2)), sl .v (x.Fields.map (cSpanS p4 p5))]), (false, [sl .v (l.map (cRow p7))])] (resRV [(false, [sl (.own 3 1) ((bestOrder x l).map cInt)])]) := by
 refine sF Tryz.func57 fun h0 w0 Fz0 => ?_
 refine sn 0 0 fun hl0_0 => ?_
 refine sn 0 1 fun hl0_1 => ?_
 refine sj 1 fun hl1 => ?_
 have hO6 : ordersL.length = 6 := rfl
 refine ziv ?_
 refine rA ?_ (x := loc_const (.inr rfl) (by decide) (ok_nil (t := 3) (e := 1)))
 refine sT [1, 2, 4] [2] ?_
 refine zie ?_
 refine sS [1, 2, 4, 5] [2] ?_
 refine rK ?_
 refine sS [1, 2, 4, 5, 6] [2] ?_
 refine rA ?_ (x := cL [] [] c_131 (hs := by exact spec_l6Orders))
 refine zg7 ?_
 refine sw_seq ?_
 refine sP [1, 2, 4, 5, 6, 7] [2] ?_
 refine sw_lendE (s := 7) (t := 25) (e := 1) (G := 6000) (f := (fun z : List Int => [sl (.own 3 1) (z.map cInt)])) (g := (fun z : List Int => [sl .v (z.map cInt)])) (fN := nIntS) (xs := ordersL) (by exact rfl) (by exact rfl) (by exact rfl) (fun _ _ => rfl) (fun _ => rfl) (fun _ => (ToL.cons PV.to_none ToL.nil)) (fun _ => (BorL.cons (bor_sl _) BorL.nil)) fun zsE hzsE => ?_
 have hz6 : zsE.length = 6 := zs_len hzsE
 refine sP [1, 2, 4, 5, 6, 7, 6000] [2] ?_
 refine sw_lendS (s := 5) (e := 1) (G := 6001) (f := (fun z : List Int => [sl (.own 3 1) (z.map cInt)])) (g := (fun z : List Int => [sl .v (z.map cInt)])) (fN := nIntS) (x := ([] : List Int)) (by exact rfl) (by exact rfl) (by exact rfl) (fun _ _ => rfl) (fun _ => rfl) (ToL.cons PV.to_none ToL.nil) (BorL.cons (bor_sl _) BorL.nil) fun zB hzB => ?_
 refine sP [1, 2, 4, 5, 6, 7, 6000, 6001] [2] ?_
 refine sw_mergeG (G := 6001) (H := 6000) (e := 1) (f := (fun z : List Int => [sl (.own 3 1) (z.map cInt)])) (by exact rfl) (by exact rfl) (by exact rfl) ?_
 refine sG [1, 2, 4, 5, 6, 7, 6001] [2] ?_
 refine zfz ?_
 refine sP [1, 2, 4, 5, 6, 7, 8, 6001] [2] ?_
 refine sL [1, 2, 4, 7, 6001] [2] (fun k : Nat => k ≤ zsE.length ∧ (0 < k → okIndex x = true)) (fun k : Nat => [(5, RV.sv false (nIntS (spz x l zB zsE k))), (6, RV.int (spLeast x l k)), (8, RV.int (k : Int))]) (fun k : Nat => []) (fun k : Nat => zsE.length - k) 0 (by exact ⟨by omega, fun h => absurd h (Nat.lt_irrefl 0)⟩) (by exact aI (by exact rfl) (aI (by exact rfl) (aI (by exact rfl) (tI)))) (by exact ⟨⟩) ?_
 rintro k ⟨hk, ha⟩
 refine zae ?_
 refine rA ?_ (x := lN sl_167)
 refine rA ?_ (x := B_lss)
 refine rM ?_
 refine cx 16 (fun ga sga => ?_) (fun ga sga => ?_)
 refine zle ?_
 refine rA ?_ (x := pkT ga)
 refine sc (fun hba => ?_) (fun hba => ?_)
 have hok : okIndex x = true := by simp_all
 have hlt : k < zsE.length := by first | omega | (simp_all; done) | (simp_all; omega)
 have ho3 : zsE[k].1.length = 3 := by rw [zs_ord hzsE hlt (by show k < 6; omega)]; exact ordersL_3 _
 have hoL : k < ordersL.length := by show k < 6; omega
 have hzo := zs_ord hzsE hlt hoL
 refine zd5 ?_
 refine sQ [1, 2, 4, 5, 6, 7, 8, 6001] [2] ?_
 refine sw_draw hm_ ?_
 refine dA 0 ?_ (x := lD [sl .v _, sl .v _] ty_92)
 refine dA 0 ?_ (x := vM false [sl .v _])
 refine zc1 ?_
 refine dA 12 ?_ (x := loc_index (by decide) sl_167 (by exact ⟨⟩) (by exact rfl) (by exact getm2 (by omega) rfl) (by exact rfl))
 refine dA 28 ?_ (x := loc_eload (qs := [nv _ (sl .v _)]) (by decide) ty_25 (fun _ => rfl) (by exact nl rfl) (by exact (ToL.cons (PV.To.refl _) ToL.nil)) (by exact (BorL.cons (bor_nv (bor_sl _)) BorL.nil)))
 refine dA 63 ?_ (x := loc_call (qs := [(true, [sl _ _, sl _ _]), (false, [sl _ _]), (false, [nv _ (sl _ _)])]) (as_ := [(true, [sl .v _, sl .v _]), (false, [sl .v _]), (false, [sl .v _])]) (by decide) c_44 (by exact (aI (by exact ⟨⟩) (aI (by exact ⟨⟩) (aI (by exact ⟨⟩) tI)))) (by exact (aI (aI rfl (ToL.cons PV.to_none (ToL.cons PV.to_none ToL.nil))) (aI (aI rfl (ToL.cons PV.to_none ToL.nil)) (aI (aI rfl (ToL.cons (PV.nv_to PV.to_none) ToL.nil)) tI)))) (by exact (spec_WorkOf (by omega))))
 refine dA 127 ?_ (x := sA)
 refine sS [1, 2, 4, 5, 6, 7, 8, 9, 6001] [2] ?_
 refine rA ?_ (x := loc_copy (r' := RV.sv false [sl .v _]) (.inl rfl) (by decide) (by exact Cp.sv (ToL.cons (PV.nv_to PV.to_none) ToL.nil) (BorL.cons (bor_sl _) BorL.nil)))
 refine rA ?_ (x := lN sl_25)
 refine zgo ?_
 refine cx 32 (fun gb sgb => ?_) (fun gb sgb => ?_)
 have hk0e : k = 0 := sp_k0 (x := x) (l := l) (by omega) (by rw [← spz_fst hzB hzsE (by omega)]; first | omega | (simp_all; done))
 have sgb := gb
 try simp only [qq] at sgb
 refine zfh ?_
 refine scT ?_
 exact zlo
 have hk0 : k ≠ 0 := by intro h0_; subst h0_; have hz_ : (spBest x l 0).length = 0 := rfl; rw [← spz_fst hzB hzsE (by omega)] at hz_; first | omega | (simp_all; done)
 have sgb := gb
 try simp only [qq] at sgb
 refine rB gb ?_ (x := sM)
 refine rB gb ?_ (x := sM)
 refine rB gb ?_ (x := B_lss)
 refine rA ?_ (x := pkF gb)
 refine sc (fun hbb => ?_) (fun hbb => ?_)
 exact zlo
 have hsz := spz_no (x := x) (l := l) (z0 := zB) hzsE hlt hk0 (by omega)
 have hsb := spBest_no (x := x) (l := l) hoL hk0 (by rw [← hzo]; omega)
 refine sw_skip ?_
 exact zlp
 exact zlq
 refine zec ?_
 refine scF ?_
 exact zlq
theorem spec_ChooseOrder_o {p1 p2 p5 p6 p7 p8 p9 p11 p12 p13 p14 p16 p17 p18 : Fl} {e : Engine}  (hb : wtEngine e ≤ 68719476736) : SCall Tryz.prog 14 [(true, [sl .v (e.Store.Segments.map (cVersionS p1 p2)), val (vI e.Store.Now), val (vI e.Cursor), sl .v (e.Order.map cInt), sl .v (e.Active.map (cActive p5 p6 p7 p8 p9)), sl .v (e.Done.map (cFinished p11 p12 p13 p14)), sl .v (e.Ledger.map (cCharge p16 p17 p18)), val (vI e.Steps)])] (resRV [(false, [sl (.own 3 1) ((chooseOrder e).map cInt)])]) := by
 refine sF Tryz.func14 fun h0 w0 Fz0 => ?_
 refine sn 0 0 fun hl0_0 => ?_
 refine sn 0 3 fun hl0_3 => ?_
 refine sn 0 4 fun hl0_4 => ?_
 refine sn 0 5 fun hl0_5 => ?_
 refine sn 0 6 fun hl0_6 => ?_
 refine zay ?_
 refine zh7 ?_
 refine sT [1, 2] [1] ?_
 refine zks ?_
 refine rA ?_ (x := nT)
 refine sc (fun hba => ?_) (fun hba => ?_)
 have hok : okEngine e = false := by simpa using hba
 refine sS [1, 2] [1] ?_
 refine zie ?_
 exact zlr
 have hok : okEngine e = true := by simpa using hba
 have hrl := rowsAt_len hok
 refine sw_skip ?_
 refine zls ?_
 refine rA ?_ (x := cL [(true, [sl _ _, val _, val _, sl _ _, sl _ _, sl _ _, sl _ _, val _])] [(true, [sl .v _, val _, val _, sl .v _, sl .v _, sl .v _, sl .v _, val _])] c_43 (hs := by exact (spec_l19Now (by assumption) (by omega))))
 refine rA ?_ (x := tM)
 refine zlt ?_
 refine zip ?_
 refine zg7 ?_
 refine zlu ?_
 refine rA ?_ (x := lD [sl .v _, sl .v _] ty_92)
 refine rA ?_ (x := vM false [sl .v _])
 refine rA ?_ (x := cL [(true, [sl _ _, sl _ _]), (false, [sl _ _])] [(true, [sl .v _, sl .v _]), (false, [sl .v _])] c_57 (hs := by exact (spec_BestOrder_o (by omega))))
 exact zlv
theorem impl_ChooseOrder_o {p1 p2 p5 p6 p7 p8 p9 p11 p12 p13 p14 p16 p17 p18 : Fl} {e : Engine}  (hb : wtEngine e ≤ 68719476736) : SCall Tryz.prog 15 [(true, [sl .v (e.Store.Segments.map (cVersionS p1 p2)), val (vI e.Store.Now), val (vI e.Cursor), sl .v (e.Order.map cInt), sl .v (e.Active.map (cActive p5 p6 p7 p8 p9)), sl .v (e.Done.map (cFinished p11 p12 p13 p14)), sl .v (e.Ledger.map (cCharge p16 p17 p18)), val (vI e.Steps)])] (resRV [(false, [sl (.own 3 1) ((chooseOrder e).map cInt)])]) := by
 refine sF Tryz.func15 fun h0 w0 Fz0 => ?_
 refine sn 0 0 fun hl0_0 => ?_
 refine sn 0 3 fun hl0_3 => ?_
 refine sn 0 4 fun hl0_4 => ?_
 refine sn 0 5 fun hl0_5 => ?_
 refine sn 0 6 fun hl0_6 => ?_
 refine zay ?_
 refine zh7 ?_
 refine sT [1, 2] [1] ?_
 refine zkz ?_
 refine rA ?_ (x := nT)
 refine sc (fun hba => ?_) (fun hba => ?_)
 have hok : okEngine e = false := by simpa using hba
 refine sS [1, 2] [1] ?_
 refine rA ?_ (x := loc_const (.inr rfl) (by decide) (ok_nil (t := 3) (e := 1)))
 exact zlr
 have hok : okEngine e = true := by simpa using hba
 have hrl := rowsAt_len hok
 refine sw_skip ?_
 refine zls ?_
 refine rA ?_ (x := cL [(true, [sl _ _, val _, val _, sl _ _, sl _ _, sl _ _, sl _ _, val _])] [(true, [sl .v _, val _, val _, sl .v _, sl .v _, sl .v _, sl .v _, val _])] c_51 (hs := by exact (impl_probed (by assumption) (by omega))))
 refine rA ?_ (x := tM)
 refine zlt ?_
 refine zip ?_
 refine zg7 ?_
 refine zlu ?_
 refine rA ?_ (x := lD [sl .v _, sl .v _] ty_92)
 refine rA ?_ (x := vM false [sl .v _])
 refine rA ?_ (x := cL [(true, [sl _ _, sl _ _]), (false, [sl _ _])] [(true, [sl .v _, sl .v _]), (false, [sl .v _])] c_58 (hs := by exact (impl_BestOrder_o (by omega))))
 exact zlv
end Go.Proofs.YteflgldonmgejaaGreat
