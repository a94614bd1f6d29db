/- What functions of the program compute. No condition. -/
import Derived.Test.YtmekkgdboplbjaaCZMFnIsolation
import Derived.Test.YtmekkgdboplbjaaCFcFnIsolation
import Derived.Test.YtmekkgdboplbjaaCCpyFnIsolation
import Derived.Test.YtmekkgdboplbjaaCPrbFnIsolation
import Derived.Test.YtmekkgdboplbjaaCStaFnIsolation
import Derived.Test.YtmekkgdboplbjaaCDam
import Derived.Test.YtmekkgdboplbjaaCF2
import Derived.KernelRfl
set_option linter.unusedVariables false
set_option linter.unusedSimpArgs false
namespace Go.Proofs.Ytmekkgdboplbjaa
open Go Go.RowKit M PV
set_option maxRecDepth 10000
attribute [local irreducible] PV.Lcl PV.LclR RV.Lcl
set_option maxHeartbeats 8000000
theorem FAdm_pl_70 : placesI Try.prog 70 = some [(0, 4), (4, 1), (5, 1), (6, 1), (7, 1), (8, 1), (9, 1)] := by kernel_rfl
theorem impl_AdmitQuery {p1 p2 p5 p6 p7 p8 p9 p11 p12 p13 p14 p16 p17 p18 : Fl} {e : Engine} {q : Query} {l : Int}  (hb : wtEngine e ≤ 68719000000) (hbq : wtQuery q ≤ 68719000000) : SCall Try.prog 7 [(true, [sl .v (e.Store.Segments.map (cVersionS p1 p2)), val (vI e.Store.Now), val (vI e.Cursor), sl .v (e.Order.map cInt), sl .v (e.Active.map (cActive p5 p6 p7 p8 p9)), sl .v (e.Done.map (cFinished p11 p12 p13 p14)), sl .v (e.Ledger.map (cCharge p16 p17 p18)), val (vI e.Steps)]), (true, [val (vI q.Id), val (vI q.Tenant), sl .v (q.Conds.map cCond), sl .v (q.Out.map cInt)]), (false, [val (vI l)])] (resRV [(true, [sl (.own 71 1) ((admitE e q l).1.Store.Segments.map (cVersionS (.own 107 4) (.own 3 1))), val (vI (admitE e q l).1.Store.Now), val (vI (admitE e q l).1.Cursor), sl (.own 3 1) ((admitE e q l).1.Order.map cInt), sl (.own 70 10) ((admitE e q l).1.Active.map (cActive (.own 41 3) (.own 3 1) (.own 3 1) (.own 45 2) (.own 3 1))), sl (.own 54 7) ((admitE e q l).1.Done.map (cFinished (.own 41 3) (.own 3 1) (.own 45 2) (.own 3 1))), sl (.own 73 5) ((admitE e q l).1.Ledger.map (cCharge (.own 3 1) (.own 3 1) (.own 3 1))), val (vI (admitE e q l).1.Steps)]), (false, [val (.bool (admitE e q l).2)])]) := by
 refine sF Try.func7 fun h0 w0 Fz0 => ?_
 refine sn 0 0 fun hl0_0 => ?_
 refine sn 0 3 fun hl0_3 => ?_
 refine sn 0 4 fun hl0_4 => ?_
 refine sn 0 5 fun hl0_5 => ?_
 refine sn 0 6 fun hl0_6 => ?_
 refine sn 1 2 fun hl1_2 => ?_
 refine sn 1 3 fun hl1_3 => ?_
 have hbu := hb
 simp only [wtEngine, wtActiveS, wtFinishedS, wtChargeS] at hbu
 refine zem ?_
 refine rX ?_ (x := (loc_box (ag := true) (cs := [val _, val _, sl _ _, sl _ _]) (by decide) (by exact ⟨⟩)))
 refine rX ?_ (x := (loc_alloc (by decide) z_32 zo_32))
 refine rK ?_
 refine sT [2, 3, 4, 6, 7] [3, 4, 6] ?_
 refine zgb ?_
 refine zgc ?_
 refine sO [(2, _), (3, _), (4, _), (6, _), (7, _), (8, _)] [(3, _), (4, _), (6, _), (8, (32, [sl _ _, val _, val _, sl _ _, sl _ _, sl _ _, sl _ _, val _]))] ?_
 refine sw_reg ?_
 refine zfp ?_
 refine zbj ?_
 refine cx 20 (fun ga sga => ?_) (fun ga sga => ?_)
 refine zbk ?_
 refine RunS.cases (s := 25) rfl (fun g2 => ?_) (fun g2 => nomatch g2)
 refine zbl ?_
 refine rM ?_
 refine RunS.cases (s := 30) rfl (fun g3 => ?_) (fun g3 => nomatch g3)
 refine ze7 ?_
 refine rM ?_
 refine RunS.cases (s := 37) rfl (fun g4 => ?_) (fun g4 => nomatch g4)
 refine zt g4 ?_
 refine rA ?_ (x := pkT g4)
 refine scT ?_
 exact zgd
 refine zek ?_
 refine zc6 ?_
 refine rM ?_
 refine cx 25 (fun gb sgb => ?_) (fun gb sgb => ?_)
 refine zt gb ?_
 refine zba ?_
 refine RunS.cases (s := 30) rfl (fun g7 => ?_) (fun g7 => nomatch g7)
 refine zt g7 ?_
 refine rA ?_ (x := pkT g7)
 refine rM ?_
 refine RunS.cases (s := 37) rfl (fun g8 => ?_) (fun g8 => nomatch g8)
 refine zt g8 ?_
 refine rA ?_ (x := pkT g8)
 refine scT ?_
 exact zgd
 refine rB gb ?_ (x := sM)
 refine rB gb ?_ (x := cL [(false, [val _]), (false, [val _]), (false, [val _])] [(false, [val _]), (false, [val _]), (false, [val _])] c_20 (hs := by exact impl_within))
 refine rB gb ?_ (x := nT)
 refine zdx ?_
 refine cx 30 (fun gc sgc => ?_) (fun gc sgc => ?_)
 refine zd0 ?_
 refine rM ?_
 refine RunS.cases (s := 37) rfl (fun g11 => ?_) (fun g11 => nomatch g11)
 refine zt g11 ?_
 refine rA ?_ (x := pkT g11)
 refine scT ?_
 exact zgd
 refine rB gc ?_ (x := lD [sl .v _, val _, val _, sl .v _, sl .v _, sl .v _, sl .v _, val _] ty_32)
 refine rB gc ?_ (x := lF fd_38_0)
 refine rB gc ?_ (x := lD [val _] ty_3)
 refine rB gc ?_ (x := cL [(true, [sl _ _, val _, val _, sl _ _, sl _ _, sl _ _, sl _ _, val _]), (false, [val _])] [(true, [sl .v _, val _, val _, sl .v _, sl .v _, sl .v _, sl .v _, val _]), (false, [val _])] c_21 (hs := by exact impl_FindActive))
 refine rB gc ?_ (x := B_geq)
 refine rA ?_ (x := pkF gc)
 refine rM ?_
 refine cx 37 (fun gd sgd => ?_) (fun gd sgd => ?_)
 refine zt gd ?_
 refine rA ?_ (x := pkT gd)
 refine scT ?_
 exact zgd
 refine rB gd ?_ (x := lF fd_32_3)
 refine rB gd ?_ (x := lD [sl .v _] ty_28)
 refine rB gd ?_ (x := lN sl_28)
 refine rB gd ?_ (x := B_eql)
 refine rA ?_ (x := pkF gd)
 refine sc (fun hba => ?_) (fun hba => ?_)
 exact zgd
 have hok : admitOk e q l = true := by
  have ho_ : okEngine e = true := by simp_all
  have hq_ : okQuery q = true := by simp_all
  have hl_ : inB l 0 32 = true := by simp_all
  have hef_ := eng_facts ho_
  unfold admitOk
  rw [ho_, hq_, hl_]
  simp only [Bool.true_and, Bool.and_eq_true, decide_eq_true_eq]
  exact ⟨by omega, by omega⟩
 obtain ⟨hoe, hoq, hol, hfn, ha8⟩ := admitOk_f hok
 have hef := eng_facts hoe
 obtain ⟨hs8, hs1, _, _, _, _⟩ := sto_facts hef.1
 have hcl := cut_le (e := e) (x := q.Id)
 refine zbr ?_
 refine sP [2, 3, 4, 6, 7, 8] [3, 4, 6, 8] ?_
 refine sw_draw hm_ ?_
 refine dA 0 ?_ (x := lD [val _, val _, sl .v _, sl .v _] ty_38)
 refine dA 1 ?_ (x := cL [(true, [val _, val _, sl _ _, sl _ _])] [(true, [val _, val _, sl .v _, sl .v _])] c_22 (hs := by exact impl_copyQuery (by omega)))
 refine dA 0 ?_ (x := lF fd_32_0)
 refine dA 4 ?_ (x := lF fd_26_1)
 refine dA 12 ?_ (x := lD [val _] ty_3)
 refine dA 0 ?_ (x := sM)
 refine dA 63 ?_ (x := loc_build (qs := [(true, [val _, val _, sl _ _, sl _ _]), (false, [val _]), (false, [val _])]) (cs := [val _, val _, sl _ _, sl _ _, val _, sl _ _, val _, val _, val _, sl _ _]) (by decide) z_70 zo_70 FAdm_pl_70 (by exact rfl) (by exact (aI (by exact ⟨⟩) (aI (by exact ⟨⟩) (aI (by exact ⟨⟩) tI)))) rfl (by exact rfl))
 refine Run.step 0 (by exact ⟨⟩) (by exact ⟨⟩) (LocG.of rfl (loc_alloc (by decide) z_70 zo_70)) (free1 (Free.of_ rfl)) (by kernel_rfl) ?_
 refine dA 255 ?_ (x := loc_store (ag := true) (vs := [val _, val _, sl _ _, sl _ _, val _, sl _ _, val _, val _, val _, sl _ _]) ty_70 (by exact ⟨⟩) (by exact rfl) (by exact nl rfl))
 refine zdk ?_
 refine sO [(2, _), (3, _), (4, _), (6, _), (7, _), (8, _), (9, _)] [(3, _), (4, _), (6, _), (8, _), (9, (70, [val _, val _, sl _ _, sl _ _, val _, sl _ _, val _, val _, val _, sl _ _]))] ?_
 refine sw_reg ?_
 refine rA ?_ (x := lF fd_32_0)
 refine zdd ?_
 refine za4 ?_
 refine sP [2, 3, 4, 6, 7, 8, 9, 54, 55] [3, 4, 6, 8, 9] ?_
 refine sL [2, 3, 4, 6, 7, 8, 9, 54] [3, 4, 6, 8] (fun k : Nat => k ≤ e.Store.Segments.length) (fun k : Nat => [(55, RV.int (k : Int))]) (fun k : Nat => [(9, (70, [val (vI (newAct e q l).Query.Id), val (vI (newAct e q l).Query.Tenant), sl (.own 41 3) ((newAct e q l).Query.Conds.map cCond), sl (.own 3 1) ((newAct e q l).Query.Out.map cInt), val (vI (newAct e q l).Time), sl (.own 3 1) ((todoTo k).map cInt), val (vI (newAct e q l).Age), val (vI (newAct e q l).Sent), val (vI (newAct e q l).Cap), sl (.own 45 2) ((newAct e q l).Rows.map (cRow (.own 3 1)))]))]) (fun k : Nat => e.Store.Segments.length - k) 0 (by omega) (by exact aI (by exact rfl) (tI)) (by exact aI (by exact rfl) (tI)) ?_
 rintro k hk
 have htl := todoTo_len k
 refine za5 ?_
 refine sc (fun hbb => ?_) (fun hbb => ?_)
 have hlt : k < e.Store.Segments.length := by omega
 refine za6 ?_
 refine sT [2, 3, 4, 6, 7, 8, 9, 54, 55] [3, 4, 6, 8, 9] ?_
 refine rM ?_
 refine rS ?_
 refine sG [2, 3, 4, 6, 7, 8, 9, 10, 54, 55] [3, 4, 6, 8, 9] ?_
 refine rA ?_ (x := lF fd_70_2)
 refine zge ?_
 refine zfr ?_
 refine rA ?_ (x := lF fd_70_2)
 refine rA ?_ (x := loc_store (ag := false) (vs := [sl _ _]) ty_27 (by exact ⟨⟩) (by exact rfl) (by exact nl rfl))
 refine sO [(2, _), (3, _), (4, _), (6, _), (7, _), (8, _), (9, _), (10, _), (54, _), (55, _)] [(3, _), (4, _), (6, _), (8, _), (9, (70, [val _, val _, sl _ _, sl _ _, val _, sl _ _, val _, val _, val _, sl _ _]))] ?_
 refine sw_reg ?_
 refine zaa ?_
 refine nx (k + 1) (by omega) (f := (by exact aI (by rw [todoTo_succ, List.map_append]; exact rfl) (tI)))
 have hend : k = e.Store.Segments.length := by omega
 subst hend
 refine sw_exit ?_
 refine sT [2, 3, 4, 6, 7, 8, 9, 54, 55] [3, 4, 6, 8, 9] ?_
 refine zgf ?_
 refine zdk ?_
 refine sP [2, 3, 4, 6, 7, 8, 9, 11, 54, 55] [3, 4, 6, 8, 9] ?_
 refine sw_lendEB (d := 8) (t := 70) (e := 10) (G := 6200) (A := [sl _ _, val _, val _, sl _ _]) (B := [sl _ _, sl _ _, val _]) (f := (cActive (.own 41 3) (.own 3 1) (.own 3 1) (.own 45 2) (.own 3 1))) (g := (fun z : Active => [val (vI z.Query.Id), val (vI z.Query.Tenant), sl .v (z.Query.Conds.map cCond), sl .v (z.Query.Out.map cInt), val (vI z.Time), sl .v (z.Todo.map cInt), val (vI z.Age), val (vI z.Sent), val (vI z.Cap), sl .v (z.Rows.map (cRow (.own 3 1)))])) (fN := nAct) (xs := e.Active) (by exact rfl) (by exact rfl) (fun _ _ => rfl) (fun _ => rfl) (fun _ => (ToL.cons (PV.To.refl _) (ToL.cons (PV.To.refl _) (ToL.cons PV.to_none (ToL.cons PV.to_none (ToL.cons (PV.To.refl _) (ToL.cons PV.to_none (ToL.cons (PV.To.refl _) (ToL.cons (PV.To.refl _) (ToL.cons (PV.To.refl _) (ToL.cons PV.to_none ToL.nil))))))))))) (fun _ => (by exact lq)) fun za hza => ?_
 have hzal : za.length = e.Active.length := by rw [← List.length_map (f := Prod.fst), hza]
 refine sO [(2, _), (3, _), (4, _), (6, _), (7, _), (8, _), (9, _), (11, _), (54, _), (55, _), (6200, _)] [(3, _), (4, _), (6, _), (8, (32, [sl _ _, val _, val _, sl _ _, sl _ _, sl _ _, sl _ _, val _])), (9, _)] ?_
 refine sw_lendB1 (d := 9) (e := 10) (G := 6300) (f := (cActive (.own 41 3) (.own 3 1) (.own 3 1) (.own 45 2) (.own 3 1))) (g := (fun z : Active => [val (vI z.Query.Id), val (vI z.Query.Tenant), sl .v (z.Query.Conds.map cCond), sl .v (z.Query.Out.map cInt), val (vI z.Time), sl .v (z.Todo.map cInt), val (vI z.Age), val (vI z.Sent), val (vI z.Cap), sl .v (z.Rows.map (cRow (.own 3 1)))])) (fN := nAct) (newAct e q l) (by exact rfl) (by exact rfl) (fun _ _ => rfl) (fun _ => rfl) (ToL.cons (PV.To.refl _) (ToL.cons (PV.To.refl _) (ToL.cons PV.to_none (ToL.cons PV.to_none (ToL.cons (PV.To.refl _) (ToL.cons PV.to_none (ToL.cons (PV.To.refl _) (ToL.cons (PV.To.refl _) (ToL.cons (PV.To.refl _) (ToL.cons PV.to_none ToL.nil)))))))))) (by exact lq) fun kNew => ?_
 refine sO [(2, _), (3, _), (4, _), (6, _), (7, _), (8, _), (9, _), (11, _), (54, _), (55, _), (6200, _), (6300, _)] [(3, _), (4, _), (6, _), (8, _), (9, (70, [nv _ (val _), nv _ (val _), nv _ (sl _ _), nv _ (sl _ _), nv _ (val _), nv _ (sl _ _), nv _ (val _), nv _ (val _), nv _ (val _), nv _ (sl _ _)]))] ?_
 refine sw_reg ?_
 refine zeq ?_
 refine sP [2, 3, 4, 6, 7, 8, 9, 11, 54, 55, 67, 68, 69, 6200, 6300] [3, 4, 6, 8, 9] ?_
 refine sL [2, 3, 4, 6, 7, 8, 9, 54, 55, 67, 68, 6200, 6300] [3, 4, 6, 8, 9] (fun m : Nat => m ≤ za.length) (fun m : Nat => [(11, RV.slc (.own 70 10) ((filtA q.Id (za.take m)).map nAct)), (69, RV.int (m : Int))]) (fun m : Nat => []) (fun m : Nat => za.length - m) 0 (by omega) (by exact aI (by exact rfl) (aI (by exact rfl) (tI))) (by exact ⟨⟩) ?_
 rintro m hm
 have hfl := filtA_le (x := q.Id) (zs := za) (k := m)
 refine za5 ?_
 refine sc (fun hbc => ?_) (fun hbc => ?_)
 have hmz : m < za.length := by omega
 refine za6 ?_
 refine zgg ?_
 refine sw_reg ?_
 refine zgh ?_
 refine zgi ?_
 refine sw_seq ?_
 refine sO [(2, _), (3, _), (4, _), (6, _), (7, _), (8, _), (9, _), (11, _), (13, _), (54, _), (55, _), (67, _), (68, _), (69, _), (6200, _), (6300, _)] [(3, _), (4, _), (6, _), (8, _), (9, _), (13, (70, [nv _ (val _), nv _ (val _), nv _ (sl _ _), nv _ (sl _ _), nv _ (val _), nv _ (sl _ _), nv _ (val _), nv _ (val _), nv _ (val _), nv _ (sl _ _)]))] ?_
 refine sw_reg ?_
 refine rA ?_ (x := lF fd_70_0)
 refine rA ?_ (x := lF fd_38_0)
 refine rA ?_ (x := loc_load (qs := [val _]) (by decide) ty_3 (fun _ => rfl) (by exact nl rfl) (by exact (ToL.cons (PV.nv_to (PV.To.refl _)) ToL.nil)) (by exact (BorL.cons (bor_val _) BorL.nil)))
 refine zfq ?_
 refine rA ?_ (x := B_lss)
 refine sc (fun hbd => ?_) (fun hbd => ?_)
 have hlz : ltId q.Id za[m].1 = true := by simpa [ltId] using hbd
 refine sG [2, 3, 4, 6, 7, 8, 9, 11, 13, 54, 55, 67, 68, 69, 6200, 6300] [3, 4, 6, 8, 9, 13] ?_
 refine rA ?_ (x := tM)
 refine zgj ?_
 refine zgk ?_
 exact zgl
 have hlz : ltId q.Id za[m].1 = false := by simpa [ltId] using hbd
 refine sw_skip ?_
 exact zgl
 have hend2 : m = za.length := by omega
 have hfa : filtA q.Id (za.take m) = filtA q.Id za := by rw [hend2, List.take_length]
 rw [hfa]
 have hfl2 := filtA_len (x := q.Id) hza
 refine sw_exit ?_
 refine zgg ?_
 refine sw_reg ?_
 refine rA ?_ (x := vM false [sl .v _])
 refine rA ?_ (x := lN sl_28)
 refine rS ?_
 refine zgm ?_
 refine zgj ?_
 refine zgk ?_
 refine zgm ?_
 refine rA ?_ (x := lF fd_32_3)
 refine rA ?_ (x := lD [sl .v _] ty_28)
 refine rM ?_
 refine rA ?_ (x := loc_sliceM (i := (cutA e.Active q.Id)) (j := za.length) (ys := (za.drop (cutA e.Active q.Id))) (r := ((za.length : Nat) : Int)) (by decide) sl_28 (by exact ⟨⟩) (by exact rfl) (by omega) (by omega) (by omega) (by omega) (fun _ => rfl) (by rw [List.take_length]))
 refine rA ?_ (x := loc_appendb (by decide) sl_28 z_70 rfl rfl (by decide) (by intro cs hcs; obtain ⟨x, _, rfl⟩ := List.mem_map.1 hcs; exact rfl) (by intro cs hcs; obtain ⟨x, _, rfl⟩ := List.mem_map.1 hcs; exact (by exact lq)) (by simp only [List.length_map, List.length_append, List.length_cons, List.length_nil, List.length_drop]; omega) (by simp only [List.length_map, List.length_append, List.length_cons, List.length_nil, List.length_drop]; omega))
 refine zgn ?_
 refine sw_seq ?_
 refine sO [(2, _), (3, _), (4, _), (6, _), (7, _), (8, _), (9, _), (14, _), (54, _), (55, _), (67, _), (68, _), (69, _), (6200, _), (6300, _)] [(3, _), (4, _), (6, _), (8, (32, [sl _ _, val _, val _, sl _ _, sl _ _, sl _ _, sl _ _, val _])), (9, _)] ?_
 refine sw_boxEq (d := 8) (by exact rfl) (show _ = [sl (.own 71 1) (e.Store.Segments.map (cVersionS (.own 107 4) (.own 3 1))), val (vI e.Store.Now), val (vI e.Cursor), sl (.own 3 1) (e.Order.map cInt), sl (.own 70 10) ((za.take (cutA e.Active q.Id) ++ (newAct e q l, kNew) :: za.drop (cutA e.Active q.Id)).map nAct), sl (.own 54 7) (e.Done.map (cFinished (.own 41 3) (.own 3 1) (.own 45 2) (.own 3 1))), sl (.own 73 5) (e.Ledger.map (cCharge (.own 3 1) (.own 3 1) (.own 3 1))), val (vI e.Steps)] from by rw [← filtA_take hoe hza]; simp only [List.map_append, List.map_cons, List.map_nil, List.append_assoc]; exact rfl) ?_
 refine sP [2, 3, 4, 6, 7, 8, 9, 14, 54, 55, 67, 68, 69, 6200, 6300] [3, 4, 6, 8, 9] ?_
 refine sw_mergeG (G := 6300) (H := 6200) (e := 10) (f := (cActive (.own 41 3) (.own 3 1) (.own 3 1) (.own 45 2) (.own 3 1))) (by exact rfl) (by exact rfl) (by exact rfl) ?_
 refine sP [2, 3, 4, 6, 7, 8, 9, 14, 54, 55, 67, 68, 69, 6300] [3, 4, 6, 8, 9] ?_
 refine sw_backP (d := 8) (t := 70) (e := 10) (G := 6300) (A := [sl _ _, val _, val _, sl _ _]) (B := [sl _ _, sl _ _, val _]) (f := (cActive (.own 41 3) (.own 3 1) (.own 3 1) (.own 45 2) (.own 3 1))) (g := (fun z : Active => [val (vI z.Query.Id), val (vI z.Query.Tenant), sl .v (z.Query.Conds.map cCond), sl .v (z.Query.Out.map cInt), val (vI z.Time), sl .v (z.Todo.map cInt), val (vI z.Age), val (vI z.Sent), val (vI z.Cap), sl .v (z.Rows.map (cRow (.own 3 1)))])) (fN := nAct) (ys := (za.take (cutA e.Active q.Id) ++ (newAct e q l, kNew) :: za.drop (cutA e.Active q.Id))) [] (admAct e q l) (by exact rfl) (by exact rfl) (fun _ _ => rfl) (fun _ => rfl) (fun _ => rfl) (admZ_perm) (admZ_fst hoe hza) ?_
 refine sO [(2, _), (3, _), (4, _), (6, _), (7, _), (8, _), (9, _), (14, _), (54, _), (55, _), (67, _), (68, _), (69, _)] [(3, _), (4, _), (6, _), (8, (32, [sl _ _, val _, val _, sl _ _, sl _ _, sl _ _, sl _ _, val _])), (9, _)] ?_
 refine sw_reg ?_
 refine zfm ?_
 refine za9 ?_
 exact (Exists.intro 6 (Exists.intro _ (aI (by exact rfl) (aI (by refine box_eq ?_; rw [admit_yes hok]; exact rfl) (aI ty_32 (aI (fun h => nomatch h) (aI (by refine bool_eq ?_; rw [admit_yes hok]) tI)))))))
end Go.Proofs.Ytmekkgdboplbjaa
