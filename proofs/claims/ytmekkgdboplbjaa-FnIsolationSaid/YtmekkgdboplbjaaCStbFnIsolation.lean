/- What functions of the program compute. No condition. -/
import Derived.Test.YtmekkgdboplbjaaCZMFnIsolation
import Derived.Test.YtmekkgdboplbjaaCFcFnIsolation
import Derived.Test.YtmekkgdboplbjaaCStaFnIsolation
import Derived.Test.YtmekkgdboplbjaaCPrbFnIsolation
import Derived.Test.YtmekkgdboplbjaaCCpyFnIsolation
import Derived.KernelRfl
set_option linter.unusedVariables false
set_option linter.unusedSimpArgs false
namespace Go.Proofs.Ytmekkgdboplbjaa
open Go Go.RowKit M PV
set_option maxRecDepth 10000
attribute [local irreducible] PV.Lcl PV.LclR RV.Lcl
set_option maxHeartbeats 8000000
theorem FStb_pl_54 : placesI Try.prog 54 = some [(0, 4), (4, 1), (5, 1), (6, 1)] := by kernel_rfl
theorem FStb_pl_73 : placesI Try.prog 73 = some [(0, 1), (1, 1), (2, 1), (3, 1), (4, 1)] := by kernel_rfl
theorem impl_StepEngine {p1 p2 p5 p6 p7 p8 p9 p11 p12 p13 p14 p16 p17 p18 : Fl} {e : Engine}  (hb : wtEngine e ≤ 68719000000) : SCall Try.prog 8 [(true, [sl .v (e.Store.Segments.map (cVersionS p1 p2)), val (vI e.Store.Now), val (vI e.Cursor), sl .v (e.Order.map cInt), sl .v (e.Active.map (cActive p5 p6 p7 p8 p9)), sl .v (e.Done.map (cFinished p11 p12 p13 p14)), sl .v (e.Ledger.map (cCharge p16 p17 p18)), val (vI e.Steps)])] (resRV [(true, [sl (.own 71 1) ((stepEng e).Store.Segments.map (cVersionS (.own 107 4) (.own 3 1))), val (vI (stepEng e).Store.Now), val (vI (stepEng e).Cursor), sl (.own 3 1) ((stepEng e).Order.map cInt), sl (.own 70 10) ((stepEng e).Active.map (cActive (.own 41 3) (.own 3 1) (.own 3 1) (.own 45 2) (.own 3 1))), sl (.own 54 7) ((stepEng e).Done.map (cFinished (.own 41 3) (.own 3 1) (.own 45 2) (.own 3 1))), sl (.own 73 5) ((stepEng e).Ledger.map (cCharge (.own 3 1) (.own 3 1) (.own 3 1))), val (vI (stepEng e).Steps)]), (false, [val (.bool (stepOk e))])]) := by
 refine scall_lo (largs := fun L => [(true, [sl (.lo L) (e.Store.Segments.map (cVersionS (.lo L) (.lo L))), val (vI e.Store.Now), val (vI e.Cursor), sl (.lo L) (e.Order.map cInt), sl (.lo L) (e.Active.map (cActive (.lo L) (.lo L) (.lo L) (.lo L) (.lo L))), sl (.lo L) (e.Done.map (cFinished (.lo L) (.lo L) (.lo L) (.lo L))), sl (.lo L) (e.Ledger.map (cCharge (.lo L) (.lo L) (.lo L))), val (vI e.Steps)])]) (rs := [(true, [sl (.own 71 1) ((stepEng e).Store.Segments.map (cVersionS (.own 107 4) (.own 3 1))), val (vI (stepEng e).Store.Now), val (vI (stepEng e).Cursor), sl (.own 3 1) ((stepEng e).Order.map cInt), sl (.own 70 10) ((stepEng e).Active.map (cActive (.own 41 3) (.own 3 1) (.own 3 1) (.own 45 2) (.own 3 1))), sl (.own 54 7) ((stepEng e).Done.map (cFinished (.own 41 3) (.own 3 1) (.own 45 2) (.own 3 1))), sl (.own 73 5) ((stepEng e).Ledger.map (cCharge (.own 3 1) (.own 3 1) (.own 3 1))), val (vI (stepEng e).Steps)]), (false, [val (.bool (stepOk e))])]) Try.func8 rfl (nl rfl) (fun L => by exact (aI (aI rfl (ToBL.cons (PV.tob_map (fun _ => nl rfl) (fun _ => (ToBL.cons (PV.tob_map (fun _ => nl rfl) (fun _ => (ToBL.cons PV.tob_refl (ToBL.cons (PV.tob_map (fun _ => nl rfl) (fun _ => (ToBL.cons PV.tob_refl ToBL.nil))) (ToBL.cons PV.tob_refl (ToBL.cons PV.tob_refl ToBL.nil)))))) ToBL.nil))) (ToBL.cons PV.tob_refl (ToBL.cons PV.tob_refl (ToBL.cons (PV.tob_map (fun _ => nl rfl) (fun _ => (ToBL.cons PV.tob_refl ToBL.nil))) (ToBL.cons (PV.tob_map (fun _ => nl rfl) (fun _ => (ToBL.cons PV.tob_refl (ToBL.cons PV.tob_refl (ToBL.cons (PV.tob_map (fun _ => nl rfl) (fun _ => (ToBL.cons PV.tob_refl (ToBL.cons PV.tob_refl (ToBL.cons PV.tob_refl ToBL.nil))))) (ToBL.cons (PV.tob_map (fun _ => nl rfl) (fun _ => (ToBL.cons PV.tob_refl ToBL.nil))) (ToBL.cons PV.tob_refl (ToBL.cons (PV.tob_map (fun _ => nl rfl) (fun _ => (ToBL.cons PV.tob_refl ToBL.nil))) (ToBL.cons PV.tob_refl (ToBL.cons PV.tob_refl (ToBL.cons PV.tob_refl (ToBL.cons (PV.tob_map (fun _ => nl rfl) (fun _ => (ToBL.cons PV.tob_refl (ToBL.cons (PV.tob_map (fun _ => nl rfl) (fun _ => (ToBL.cons PV.tob_refl ToBL.nil))) ToBL.nil)))) ToBL.nil)))))))))))) (ToBL.cons (PV.tob_map (fun _ => nl rfl) (fun _ => (ToBL.cons PV.tob_refl (ToBL.cons PV.tob_refl (ToBL.cons (PV.tob_map (fun _ => nl rfl) (fun _ => (ToBL.cons PV.tob_refl (ToBL.cons PV.tob_refl (ToBL.cons PV.tob_refl ToBL.nil))))) (ToBL.cons (PV.tob_map (fun _ => nl rfl) (fun _ => (ToBL.cons PV.tob_refl ToBL.nil))) (ToBL.cons PV.tob_refl (ToBL.cons PV.tob_refl (ToBL.cons (PV.tob_map (fun _ => nl rfl) (fun _ => (ToBL.cons PV.tob_refl (ToBL.cons (PV.tob_map (fun _ => nl rfl) (fun _ => (ToBL.cons PV.tob_refl ToBL.nil))) ToBL.nil)))) ToBL.nil))))))))) (ToBL.cons (PV.tob_map (fun _ => nl rfl) (fun _ => (ToBL.cons PV.tob_refl (ToBL.cons PV.tob_refl (ToBL.cons (PV.tob_map (fun _ => nl rfl) (fun _ => (ToBL.cons PV.tob_refl ToBL.nil))) (ToBL.cons (PV.tob_map (fun _ => nl rfl) (fun _ => (ToBL.cons PV.tob_refl ToBL.nil))) (ToBL.cons (PV.tob_map (fun _ => nl rfl) (fun _ => (ToBL.cons PV.tob_refl ToBL.nil))) ToBL.nil))))))) (ToBL.cons PV.tob_refl ToBL.nil))))))))) tI)) (fun L => by exact lq) ?_
 intro w0 Fz0
 refine sn 0 0 fun hl0_0 => ?_
 refine sn 0 3 fun hl0_3 => ?_
 refine sn 0 4 fun hl0_4 => ?_
 refine sn 0 5 fun hl0_5 => ?_
 refine sn 0 6 fun hl0_6 => ?_
 have hbu := hb
 simp only [wtEngine, wtActiveS, wtFinishedS, wtChargeS] at hbu
 refine zgo ?_
 refine zgp ?_
 refine sO [(1, _), (2, _), (3, _)] [(1, (32, [sl (.lo _) _, val _, val _, sl (.lo _) _, sl (.lo _) _, sl (.lo _) _, sl (.lo _) _, val _])), (2, (32, [sl _ _, val _, val _, sl _ _, sl _ _, sl _ _, sl _ _, val _]))] ?_
 refine zgq ?_
 refine zgc ?_
 refine sO [(1, _), (2, _), (3, _), (4, _)] [(1, _), (2, _), (4, (32, [sl _ _, val _, val _, sl _ _, sl _ _, sl _ _, sl _ _, val _]))] ?_
 refine zgs ?_
 refine zgu ?_
 refine rM ?_
 refine cx 22 (fun ga sga => ?_) (fun ga sga => ?_)
 refine zbk ?_
 refine RunS.cases (s := 27) rfl (fun g2 => ?_) (fun g2 => nomatch g2)
 refine zbl ?_
 refine rM ?_
 refine RunS.cases (s := 33) rfl (fun g3 => ?_) (fun g3 => nomatch g3)
 refine ze7 ?_
 refine scT ?_
 exact zi8
 refine rB ga ?_ (x := lF fd_32_6)
 refine zcq ?_
 refine zbo ?_
 refine cx 27 (fun gb sgb => ?_) (fun gb sgb => ?_)
 refine zt gb ?_
 refine zba ?_
 refine RunS.cases (s := 33) rfl (fun g6 => ?_) (fun g6 => nomatch g6)
 refine zt g6 ?_
 refine rA ?_ (x := pkT g6)
 refine scT ?_
 exact zi8
 refine rB gb ?_ (x := lF fd_32_5)
 refine rB gb ?_ (x := lD [sl (.lo _) _] ty_30)
 refine rB gb ?_ (x := lN sl_30)
 refine rB gb ?_ (x := B_eql)
 refine zdx ?_
 refine cx 33 (fun gc sgc => ?_) (fun gc sgc => ?_)
 refine zd0 ?_
 refine scT ?_
 exact zi8
 refine rB gc ?_ (x := lF fd_32_4)
 refine rB gc ?_ (x := lD [sl (.lo _) _] ty_29)
 refine rB gc ?_ (x := lN sl_29)
 refine rB gc ?_ (x := lF fd_32_3)
 refine rB gc ?_ (x := lD [sl (.lo _) _] ty_28)
 refine rB gc ?_ (x := lN sl_28)
 refine rB gc ?_ (x := B_add)
 refine rB gc ?_ (x := B_gtr)
 refine rA ?_ (x := pkF gc)
 refine sc (fun hba => ?_) (fun hba => ?_)
 exact zi8
 have hok : stepOk e = true := by
  have ho_ : okEngine e = true := by simp_all
  have hef_ := eng_facts ho_
  unfold stepOk
  rw [ho_]
  simp only [Bool.true_and, Bool.and_eq_true, decide_eq_true_eq]
  exact ⟨by omega, by omega, by omega⟩
 obtain ⟨hoe, hst, hld, hda⟩ := stepOk_f hok
 have hef := eng_facts hoe
 have hcl : e.Cursor.toNat < e.Store.Segments.length := hef.2.2.2.1
 have hpl := parts_len (e := e)
 have hs4 := segV_le hoe
 have hswt := step_wt hoe
 refine sw_skip ?_
 refine sS [1, 2, 3, 4] [1, 2, 4] ?_
 refine rA ?_ (x := lF fd_32_0)
 refine zhp ?_
 refine zi9 ?_
 refine rA ?_ (x := loc_index (k := e.Cursor.toNat) (by decide) sl_24 (by exact ⟨⟩) (by omega) (by exact getm2 hcl (by rw [gDt_ (d := ([] : List Version)) hcl])) (by exact rfl))
 refine rA ?_ (x := lE [sl (.lo _) _] ty_71)
 refine rA ?_ (x := vA false [sl (.lo _) _])
 refine sS [1, 2, 3, 4, 5] [1, 2, 4] ?_
 refine zi9 ?_
 refine rA ?_ (x := vM false [sl (.lo _) _])
 refine rA ?_ (x := lN sl_71)
 refine rA ?_ (x := loc_build (qs := [(false, [val _]), (false, [val _])]) (cs := [val _, val _, sl _ _, sl _ _, sl _ _]) (by decide) z_73 zo_73 FStb_pl_73 (by exact rfl) (by exact (aI (by exact ⟨⟩) (aI (by exact ⟨⟩) tI))) rfl (by exact rfl))
 refine zf0 ?_
 refine zdk ?_
 refine sO [(1, _), (2, _), (3, _), (4, _), (5, _), (6, _)] [(1, _), (2, _), (4, _), (6, (73, [val _, val _, sl _ _, sl _ _, sl _ _]))] ?_
 refine zgs ?_
 refine rA ?_ (x := cL [(true, [sl (.lo _) _, val _, val _, sl (.lo _) _, sl (.lo _) _, sl (.lo _) _, sl (.lo _) _, val _])] [(true, [sl .v _, val _, val _, sl .v _, sl .v _, sl .v _, sl .v _, val _])] c_23 (hs := by exact (impl_Participants (by omega))))
 refine rA ?_ (x := lN sl_27)
 refine za4 ?_
 refine sP [1, 2, 3, 4, 5, 6, 57, 58, 59] [1, 2, 4, 6] ?_
 refine sL [1, 2, 3, 4, 5, 6, 57, 58] [1, 2] (fun k : Nat => k ≤ (parts e).length) (fun k : Nat => [(59, RV.int (k : Int))]) (fun k : Nat => [(4, (32, [sl (.own 71 1) (e.Store.Segments.map (cVersionS (.own 107 4) (.own 3 1))), val (vI e.Store.Now), val (vI e.Cursor), sl (.own 3 1) (e.Order.map cInt), sl (.own 70 10) ((servedTo e k).map (cActive (.own 41 3) (.own 3 1) (.own 3 1) (.own 45 2) (.own 3 1))), sl (.own 54 7) (e.Done.map (cFinished (.own 41 3) (.own 3 1) (.own 45 2) (.own 3 1))), sl (.own 73 5) (e.Ledger.map (cCharge (.own 3 1) (.own 3 1) (.own 3 1))), val (vI e.Steps)])), (6, (73, [val (vI (scgTo e k).Segment), val (vI (scgTo e k).Base), sl (.own 3 1) ((scgTo e k).Ids.map cInt), sl (.own 3 1) ((scgTo e k).Tenants.map cInt), sl (.own 3 1) ((scgTo e k).Rows.map cInt)]))]) (fun k : Nat => (parts e).length - k) 0 (by omega) (by exact aI (by exact rfl) (tI)) (by exact aI (by rw [servedTo_zero]; exact rfl) (aI (by exact rfl) (tI))) ?_
 rintro k hk
 have hcg := chg_len (e := e) hk
 have hsl := servedTo_len (e := e) (k := k)
 refine za5 ?_
 refine sc (fun hbb => ?_) (fun hbb => ?_)
 have hlt : k < (parts e).length := by omega
 obtain ⟨i, hi, hf, hid, hpp⟩ := part_at hoe hlt
 have hil : i < (servedTo e k).length := by omega
 have hoa := act_b (hef.2.2.2.2.2.2.2.2.2.1 _ (List.getElem_mem hi))
 have hwa := wt_mem (f := wtActive) hi
 have hwq : wtActive e.Active[i] = wtQuery e.Active[i].Query + e.Active[i].Todo.length + wtRowS e.Active[i].Rows := by simp only [wtActive, wtIntS_len, wtInt]; omega
 have hga4 := gotA_len hoe e.Active[i]
 have hvl := visL_len (segV e) e.Active[i].Time
 refine zdn ?_
 refine zia ?_
 refine za7 ?_
 refine sS [1, 2, 3, 4, 5, 6, 8, 57, 58, 59] [1, 2, 4, 6] ?_
 refine rA ?_ (x := lD [sl (.lo _) _, val _, val _, sl (.lo _) _, sl (.lo _) _, sl (.lo _) _, sl (.lo _) _, val _] ty_32)
 refine rM ?_
 refine zgt ?_
 refine sP [1, 2, 3, 4, 5, 6, 8, 9, 57, 58, 59] [1, 2, 4, 6] ?_
 refine sw_thawB (d := 4) (t := 32) (D := 900) (G := 2900) (E := 70) (e := 10) (L := (Lw w0.heap.size)) (A := [sl _ _, val _, val _, sl _ _]) (B := [sl _ _, sl _ _, val _]) (es := ((servedTo e k)).map (cActive (.own 41 3) (.own 3 1) (.own 3 1) (.own 45 2) (.own 3 1))) (by exact rfl) (map_ne hil) (by exact rfl) (by exact rfl) rfl (by exact rfl) (fun x hx => hx) (by exact lq) (by exact lq) (by exact lq) (by exact lq) (LclC.map fun x => (LclC.cons lcl_val (LclC.cons lcl_val (LclC.cons (lcl_own (LclC.map fun x => (LclC.cons lcl_val (LclC.cons lcl_val (LclC.cons lcl_val LclC.nil))))) (LclC.cons (lcl_own (LclC.map fun x => (LclC.cons lcl_val LclC.nil))) (LclC.cons lcl_val (LclC.cons (lcl_own (LclC.map fun x => (LclC.cons lcl_val LclC.nil))) (LclC.cons lcl_val (LclC.cons lcl_val (LclC.cons lcl_val (LclC.cons (lcl_own (LclC.map fun x => (LclC.cons lcl_val (LclC.cons (lcl_own (LclC.map fun x => (LclC.cons lcl_val LclC.nil))) LclC.nil)))) LclC.nil))))))))))) fun uu900 cp900 jk900 hlD900 hcp900 hjk900 => ?_
 rw [List.length_map] at hlD900 hcp900 hjk900
 refine sw_boxEq (d := 900) (by exact rfl) (at_split (k := i) hil) ?_
 have hA900 := at_len (f := (cActive (.own 41 3) (.own 3 1) (.own 3 1) (.own 45 2) (.own 3 1))) (e := 10) (xs := (servedTo e k)) (k := i) (fun _ => rfl) (Nat.le_of_lt hil)
 refine sw_boxEq (d := 900) (by exact rfl) (congrArg (fun z_ => ((((servedTo e k)).take i).map (cActive (.own 41 3) (.own 3 1) (.own 3 1) (.own 45 2) (.own 3 1))).flatten ++ ((cActive (.own 41 3) (.own 3 1) (.own 3 1) (.own 45 2) (.own 3 1)) z_ ++ (((((servedTo e k)).drop (i + 1)).map (cActive (.own 41 3) (.own 3 1) (.own 3 1) (.own 45 2) (.own 3 1))).flatten ++ jk900.map val))) (servedTo_at hoe hlt hi hid hil)) ?_
 refine sO [(1, _), (2, _), (3, _), (4, _), (5, _), (6, _), (8, _), (9, _), (57, _), (58, _), (59, _), (2900, _)] [(1, _), (2, _), (4, (32, [sl _ _, val _, val _, sl _ _, val _, sl _ _, sl _ _, val _])), (6, _), (900, (70, _ ++ ([val _, val _, sl _ _, sl _ _, val _, sl _ _, val _, val _, val _, sl _ _] ++ _)))] ?_
 refine sw_reg ?_
 refine rA ?_ (x := lF fd_32_3)
 refine rA ?_ (x := lD [val _] ty_28)
 refine rM ?_
 refine rA ?_ (x := loc_gidx (k := i) (G := 2900) (by decide) sl_28 (by exact ⟨⟩) (by omega) (by first | (rw [List.length_map]; exact hil) | exact hil))
 refine rA ?_ (x := loc_ltakeM (o := 0) (ms := [val _, val _, sl _ _, sl _ _, val _, sl _ _, val _, val _, val _, sl _ _]) (qs := [val _, val _, sl .v _, sl .v _, val _, sl .v _, val _, val _, val _, sl .v _]) (by omega) (by decide) ty_70 (fun h => nomatch h) (by exact nl rfl) (by exact rfl) (by exact (ToL.cons (PV.To.refl _) (ToL.cons (PV.To.refl _) (ToL.cons PV.to_none (ToL.cons PV.to_none (ToL.cons (PV.To.refl _) (ToL.cons PV.to_none (ToL.cons (PV.To.refl _) (ToL.cons (PV.To.refl _) (ToL.cons (PV.To.refl _) (ToL.cons PV.to_none ToL.nil))))))))))) (by exact lq))
 refine zfk ?_
 refine sw_seq ?_
 refine sO [(1, _), (2, _), (3, _), (4, _), (5, _), (6, _), (8, _), (9, _), (10, _), (57, _), (58, _), (59, _), (2900, _)] [(1, _), (2, _), (4, _), (6, _), (10, (70, [val _, val _, sl _ _, sl _ _, val _, sl _ _, val _, val _, val _, sl _ _])), (900, (70, _ ++ ([val _, val _, sl _ _, sl _ _, val _, sl _ _, val _, val _, val _, sl _ _] ++ _)))] ?_
 refine sw_reg ?_
 refine zbz ?_
 refine sS [1, 2, 3, 4, 5, 6, 8, 9, 10, 11, 57, 58, 59, 2900] [1, 2, 4, 6, 10, 900] ?_
 refine rA ?_ (x := lF fd_32_0)
 refine rA ?_ (x := lD [sl (.lo _) _, val _] ty_26)
 refine zi9 ?_
 refine zg8 ?_
 refine rA ?_ (x := cL [(true, [sl (.lo _) _, val _]), (false, [val _]), (false, [val _])] [(true, [sl .v _, val _]), (false, [val _]), (false, [val _])] c_24 (hs := by exact (impl_segmentRows (by omega) (by omega) (by omega))))
 refine rA ?_ (x := lN sl_52)
 refine za4 ?_
 refine sP [1, 2, 3, 4, 5, 6, 8, 9, 10, 11, 57, 58, 59, 77, 78, 79, 2900] [1, 2, 4, 6, 10, 900] ?_
 refine sw_lendE (s := 77) (t := 45) (e := 2) (G := 6100) (f := (cRow (.own 3 1))) (g := (fun z : Row => [val (vI z.Id), sl .v (z.Values.map cInt)])) (fN := nRow) (xs := (visL (segV e) e.Active[i].Time)) (by exact rfl) (by exact rfl) (by exact rfl) (fun _ _ => rfl) (fun _ => rfl) (fun _ => (ToL.cons (PV.To.refl _) (ToL.cons PV.to_none ToL.nil))) (fun _ => (BorL.cons (bor_val _) (BorL.cons (bor_sl _) BorL.nil))) fun zr hzr => ?_
 have hzl : zr.length = (visL (segV e) e.Active[i].Time).length := by rw [← hzr, List.length_map]
 have hve : (visL (e.Store.Segments.getD e.Cursor.toNat []) e.Active[i].Time).length = (visL (segV e) e.Active[i].Time).length := rfl
 refine sP [1, 2, 3, 4, 5, 6, 8, 9, 10, 11, 57, 58, 59, 77, 78, 79, 2900, 6100] [1, 2, 4, 6, 10, 900] ?_
 refine sL [1, 2, 3, 4, 5, 6, 8, 9, 10, 57, 58, 59, 77, 78, 2900] [1, 2, 4, 6, 900] (fun j : Nat => j ≤ zr.length) (fun j : Nat => [(11, RV.int ((gotTo e e.Active[i] j).length : Int)), (79, RV.int (j : Int)), (6100, RV.gh (valsE 2 (zr.drop j)) (flatM (cRow (.own 3 1)) (zr.drop j)))]) (fun j : Nat => [(10, (70, [val (vI e.Active[i].Query.Id), val (vI e.Active[i].Query.Tenant), sl (.own 41 3) (e.Active[i].Query.Conds.map cCond), sl (.own 3 1) (e.Active[i].Query.Out.map cInt), val (vI e.Active[i].Time), sl (.own 3 1) (e.Active[i].Todo.map cInt), val (vI e.Active[i].Age), val (vI e.Active[i].Sent), val (vI e.Active[i].Cap), sl (.own 45 2) ((e.Active[i].Rows ++ gotTo e e.Active[i] j).map (cRow (.own 3 1)))]))]) (fun j : Nat => zr.length - j) 0 (by omega) (by exact aI (by exact rfl) (aI (by exact rfl) (aI (by exact rfl) (tI)))) (by exact aI (by show _ = some (70, [val (vI e.Active[i].Query.Id), val (vI e.Active[i].Query.Tenant), sl (.own 41 3) (e.Active[i].Query.Conds.map cCond), sl (.own 3 1) (e.Active[i].Query.Out.map cInt), val (vI e.Active[i].Time), sl (.own 3 1) (e.Active[i].Todo.map cInt), val (vI e.Active[i].Age), val (vI e.Active[i].Sent), val (vI e.Active[i].Cap), sl (.own 45 2) ((e.Active[i].Rows ++ gotTo e e.Active[i] 0).map (cRow (.own 3 1)))]); rw [show gotTo e e.Active[i] 0 = [] from rfl, List.append_nil]; exact rfl) (tI)) ?_
 rintro j hj
 have hgl := gotTo_wt hoe e.Active[i] j
 refine za5 ?_
 refine sc (fun hbc => ?_) (fun hbc => ?_)
 have hltz : j < zr.length := by omega
 have hjv : j < (visL (segV e) e.Active[i].Time).length := by omega
 have hz3 : zr[j].1 = (visL (segV e) e.Active[i].Time)[j] := by simp [← hzr]
 refine za6 ?_
 refine zib ?_
 refine sw_reg ?_
 refine rA ?_ (x := loc_index (by decide) sl_52 (by exact ⟨⟩) (by exact rfl) (by exact getm2 (by omega) rfl) (by exact rfl))
 refine rA ?_ (x := loc_eload (qs := [nv _ (val _), nv _ (sl .v _)]) (by decide) ty_45 (fun h => nomatch h) (by exact nl rfl) (by exact (ToL.cons (PV.To.refl _) (ToL.cons (PV.To.refl _) ToL.nil))) (by exact (BorL.cons (bor_nv (bor_val _)) (BorL.cons (bor_nv (bor_sl _)) BorL.nil))))
 refine rX ?_ (x := (loc_alloc (by decide) z_45 zo_45))
 refine rA ?_ (x := loc_store (ag := true) (vs := [nv _ (val _), nv _ (sl _ _)]) ty_45 (by exact ⟨⟩) (by exact rfl) (by exact nl rfl))
 refine sO [(1, _), (2, _), (3, _), (4, _), (5, _), (6, _), (8, _), (9, _), (10, _), (11, _), (13, _), (57, _), (58, _), (59, _), (77, _), (78, _), (79, _), (2900, _), (6100, _)] [(1, _), (2, _), (4, _), (6, _), (10, _), (13, (45, [nv _ (val _), nv _ (sl _ _)])), (900, _)] ?_
 refine sw_takeB (d := 13) (G := 6100) (e := 2) (f := (cRow (.own 3 1))) (z := zr[j]) (zs := (zr.drop (j + 1))) (by exact rfl) (by exact (Nm.nv (Nm.nv Nm.nil))) (fun _ => rfl) (by rw [← List.drop_eq_getElem_cons hltz]; exact rfl) ?_
 refine sw_seq ?_
 refine sO [(1, _), (2, _), (3, _), (4, _), (5, _), (6, _), (8, _), (9, _), (10, _), (11, _), (13, _), (57, _), (58, _), (59, _), (77, _), (78, _), (79, _), (2900, _), (6100, _)] [(1, _), (2, _), (4, _), (6, _), (10, _), (13, (45, [val _, sl _ _])), (900, _)] ?_
 refine sw_reg ?_
 refine rA ?_ (x := lF fd_70_0)
 refine rA ?_ (x := lD [val _, val _, sl .v _, sl .v _] ty_38)
 refine rA ?_ (x := lD [val _, sl .v _] ty_45)
 refine rA ?_ (x := cL [(true, [val _, val _, sl _ _, sl _ _]), (true, [val _, sl _ _])] [(true, [val _, val _, sl .v _, sl .v _]), (true, [val _, sl .v _])] c_25 (hs := by exact impl_MatchesRow))
 refine sc (fun hbd => ?_) (fun hbd => ?_)
 have hm : matchRow e.Active[i].Query (visL (segV e) e.Active[i].Time)[j] = true := by rw [← hz3]; simpa using hbd
 refine sS [1, 2, 3, 4, 5, 6, 8, 9, 10, 11, 13, 57, 58, 59, 77, 78, 79, 2900, 6100] [1, 2, 4, 6, 10, 13, 900] ?_
 refine zic ?_
 refine rA ?_ (x := loc_ltake (ms := [val _, sl _ _]) (qs := [val _, sl .v _]) (by decide) ty_45 (fun h => nomatch h) (by exact nl rfl) (by exact rfl) (by exact (ToL.cons (PV.To.refl _) (ToL.cons PV.to_none ToL.nil))) (by exact (BorL.cons (bor_val _) (BorL.cons (bor_sl _) BorL.nil))))
 refine zb5 ?_
 refine rA ?_ (x := lF fd_70_6)
 refine rA ?_ (x := loc_store (ag := false) (vs := [sl _ _]) ty_52 (by exact ⟨⟩) (by exact rfl) (by exact nl rfl))
 refine sO [(1, _), (2, _), (3, _), (4, _), (5, _), (6, _), (8, _), (9, _), (10, _), (11, _), (13, _), (57, _), (58, _), (59, _), (77, _), (78, _), (79, _), (2900, _), (6100, _)] [(1, _), (2, _), (4, _), (6, _), (10, (70, [val _, val _, sl _ _, sl _ _, val _, sl _ _, val _, val _, val _, sl _ _])), (13, (45, [val _, sl _ _])), (900, _)] ?_
 refine zfg ?_
 exact zid
 have hm : matchRow e.Active[i].Query (visL (segV e) e.Active[i].Time)[j] = false := by rw [← hz3]; simpa using hbd
 refine sw_skip ?_
 exact zid
 have hjend : j = (visL (segV e) e.Active[i].Time).length := by omega
 have hgt : gotTo e e.Active[i] j = gotA e e.Active[i] := by rw [hjend]; exact gotTo_end
 rw [hgt]
 refine sw_exit ?_
 refine zib ?_
 refine sw_reg ?_
 refine rA ?_ (x := lF fd_70_4)
 refine rA ?_ (x := lD [val _] ty_3)
 refine zie ?_
 refine rA ?_ (x := lF fd_70_4)
 refine zhg ?_
 refine zif ?_
 refine rA ?_ (x := lF fd_70_2)
 refine rA ?_ (x := lD [sl .v _] ty_27)
 refine zi9 ?_
 refine rA ?_ (x := cL [(false, [sl _ _]), (false, [val _])] [(false, [sl .v _]), (false, [val _])] c_26 (hs := by exact (impl_withoutInt (by omega))))
 refine rA ?_ (x := lF fd_70_2)
 refine zf4 ?_
 refine zif ?_
 refine rA ?_ (x := lF fd_32_3)
 refine rA ?_ (x := lD [val _] ty_28)
 refine rM ?_
 refine rA ?_ (x := loc_ltake (ms := [val _, val _, sl _ _, sl _ _, val _, sl _ _, val _, val _, val _, sl _ _]) (qs := [val _, val _, sl .v _, sl .v _, val _, sl .v _, val _, val _, val _, sl .v _]) (by decide) ty_70 (fun h => nomatch h) (by exact nl rfl) (by exact rfl) (by exact (ToL.cons (PV.To.refl _) (ToL.cons (PV.To.refl _) (ToL.cons PV.to_none (ToL.cons PV.to_none (ToL.cons (PV.To.refl _) (ToL.cons PV.to_none (ToL.cons (PV.To.refl _) (ToL.cons (PV.To.refl _) (ToL.cons (PV.To.refl _) (ToL.cons PV.to_none ToL.nil))))))))))) (by exact lq))
 refine rA ?_ (x := loc_gidx (k := i) (G := 2900) (by decide) sl_28 (by exact ⟨⟩) (by omega) (by first | (rw [List.length_map]; exact hil) | exact hil))
 refine rA ?_ (x := loc_storeM (o := 0) (ag := true) (vs := [val _, val _, sl _ _, sl _ _, val _, sl _ _, val _, val _, val _, sl _ _]) (by omega) ty_70 (by exact ⟨⟩) (by exact rfl) (by exact nl rfl))
 refine sw_boxEq (d := 900) (by exact rfl) (at_join (serve e e.Active[i]) hil (by exact rfl)) ?_
 refine sw_frzIn (d := 4) (D := 900) (G := 2900) (e := 10) (A := [sl _ _, val _, val _, sl _ _]) (B := [sl _ _, sl _ _, val _]) (es := (((servedTo e k)).set i (serve e e.Active[i])).map (cActive (.own 41 3) (.own 3 1) (.own 3 1) (.own 45 2) (.own 3 1))) (by exact rfl) (by exact rfl) (by exact rfl) rfl (by rw [List.length_map, List.length_set, List.length_map]) (by intro c hc; obtain ⟨y, _, rfl⟩ := List.mem_map.1 hc; exact rfl) (by rw [List.length_map]; exact hjk900) ?_
 refine sw_seq ?_
 refine sO [(1, _), (2, _), (3, _), (4, _), (5, _), (6, _), (8, _), (9, _), (10, _), (11, _), (57, _), (58, _), (59, _), (77, _), (78, _), (79, _), (6100, _)] [(1, _), (2, _), (4, (32, [sl _ _, val _, val _, sl _ _, sl _ _, sl _ _, sl _ _, val _])), (6, _), (10, (70, [val _, val _, sl _ _, sl _ _, val _, sl _ _, val _, val _, val _, sl _ _]))] ?_
 refine sw_reg ?_
 refine rA ?_ (x := lF fd_73_2)
 refine zge ?_
 refine zfr ?_
 refine rA ?_ (x := lF fd_73_2)
 refine zf4 ?_
 refine zig ?_
 refine rA ?_ (x := lF fd_73_3)
 refine rA ?_ (x := loc_ltake (ms := [sl _ _]) (qs := [sl .v _]) (by decide) ty_27 (fun _ => rfl) (by exact nl rfl) (by exact rfl) (by exact (ToL.cons PV.to_none ToL.nil)) (by exact (BorL.cons (bor_sl _) BorL.nil)))
 refine rA ?_ (x := lF fd_70_0)
 refine rA ?_ (x := lF fd_38_1)
 refine rA ?_ (x := lD [val _] ty_3)
 refine zfr ?_
 refine rA ?_ (x := lF fd_73_3)
 refine zih ?_
 refine rA ?_ (x := lF fd_73_4)
 refine zge ?_
 refine zfr ?_
 refine rA ?_ (x := lF fd_73_4)
 refine zih ?_
 refine zaa ?_
 refine nx (k + 1) (by omega) (f := (by exact aI (by rw [← served_set hoe hlt hi hid]; exact rfl) (aI (by rw [chg_succ hlt hi hf]; simp only [List.map_append]; exact rfl) (tI))))
 have hend : k = (parts e).length := by omega
 subst hend
 refine sw_exit ?_
 refine zdk ?_
 refine zia ?_
 refine rA ?_ (x := lF fd_73_2)
 refine zag ?_
 refine rA ?_ (x := B_gtr)
 refine sc (fun hbc => ?_) (fun hbc => ?_)
 have hled : ledTo e (parts e).length = e.Ledger ++ [scgTo e (parts e).length] := by unfold ledTo; rw [if_neg (by omega)]
 refine sG [1, 2, 3, 4, 5, 6, 57, 58, 59] [1, 2, 4, 6] ?_
 refine rA ?_ (x := lF fd_32_5)
 refine rA ?_ (x := loc_ltake (ms := [sl _ _]) (qs := [sl .v _]) (by decide) ty_30 (fun _ => rfl) (by exact nl rfl) (by exact rfl) (by exact (ToL.cons PV.to_none ToL.nil)) (by exact (BorL.cons (bor_sl _) BorL.nil)))
 refine rA ?_ (x := loc_ltake (ms := [val _, val _, sl _ _, sl _ _, sl _ _]) (qs := [val _, val _, any, any, any]) (by decide) ty_73 (fun h => nomatch h) (by exact nl rfl) (by exact rfl) (by exact (ToL.cons (PV.To.refl _) (ToL.cons (PV.To.refl _) (ToL.cons PV.to_any (ToL.cons PV.to_any (ToL.cons PV.to_any ToL.nil)))))) (by exact lq))
 refine rA ?_ (x := loc_bslice (qs := [(true, [val _, val _, sl _ _, sl _ _, sl _ _])]) (by decide) sl_30 z_73 (by decide) rfl rfl rfl rfl rfl (by exact nl rfl) (by exact (aI (by exact ⟨⟩) tI)) rfl)
 refine rA ?_ (x := loc_append (by decide) sl_30 z_73 rfl rfl (by decide) rfl (by simp only [List.length_map, List.length_append, List.length_cons, List.length_nil]; omega) (by simp only [List.length_map, List.length_append, List.length_cons, List.length_nil]; omega))
 refine rA ?_ (x := lF fd_32_5)
 refine rA ?_ (x := loc_store (ag := false) (vs := [sl _ _]) ty_30 (by exact ⟨⟩) (by exact rfl) (by exact nl rfl))
 refine sw_seq ?_
 refine sO [(1, _), (2, _), (3, _), (4, _), (5, _), (6, _), (57, _), (58, _), (59, _)] [(1, _), (2, _), (4, (32, [sl _ _, val _, val _, sl _ _, sl _ _, sl _ _, sl _ _, val _])), (6, (73, [val _, val _, any, any, any]))] ?_
 refine sw_reg ?_
 refine zgf ?_
 refine zdk ?_
 refine sP [1, 2, 3, 4, 5, 6, 14, 57, 58, 59] [1, 2, 4, 6] ?_
 refine sw_lendEB (d := 4) (t := 70) (e := 10) (G := 6200) (A := [sl _ _, val _, val _, sl _ _]) (B := [sl _ _, sl _ _, val _]) (f := (cActive (.own 41 3) (.own 3 1) (.own 3 1) (.own 45 2) (.own 3 1))) (g := (fun z : Active => [val (vI z.Query.Id), val (vI z.Query.Tenant), sl .v (z.Query.Conds.map cCond), sl .v (z.Query.Out.map cInt), val (vI z.Time), sl .v (z.Todo.map cInt), val (vI z.Age), val (vI z.Sent), val (vI z.Cap), sl .v (z.Rows.map (cRow (.own 3 1)))])) (fN := nAct) (xs := (servedTo e (parts e).length)) (by exact rfl) (by exact rfl) (fun _ _ => rfl) (fun _ => rfl) (fun _ => (ToL.cons (PV.To.refl _) (ToL.cons (PV.To.refl _) (ToL.cons PV.to_none (ToL.cons PV.to_none (ToL.cons (PV.To.refl _) (ToL.cons PV.to_none (ToL.cons (PV.To.refl _) (ToL.cons (PV.To.refl _) (ToL.cons (PV.To.refl _) (ToL.cons PV.to_none ToL.nil))))))))))) (fun _ => (by exact lq)) fun za hza => ?_
 have hzal : za.length = e.Active.length := by rw [← List.length_map (f := Prod.fst), hza, servedTo_len]
 refine zii ?_
 refine zeq ?_
 refine zij ?_
 rintro m hm
 have hrl2 := rest_le (e := e) (k := (parts e).length) (m := m)
 have hdl2 := done_le (e := e) (k := (parts e).length) (m := m)
 refine za5 ?_
 refine sc (fun hbd => ?_) (fun hbd => ?_)
 have hltm : m < e.Active.length := by omega
 have hltz : m < za.length := by omega
 have hm2 : m < (servedTo e (parts e).length).length := by rw [servedTo_len]; exact hltm
 have hm1 : m < (agedL e (parts e).length).length := by rw [agedL_len]; exact hltm
 have hz3 : za[m].1 = (servedTo e (parts e).length)[m] := by simp [← hza]
 have hab := served_b hoe hltm hm2
 rw [← hz3] at hab
 refine za6 ?_
 refine zik ?_
 exact zil
 have hend2 : m = e.Active.length := by omega
 subst hend2
 refine sw_exit ?_
 refine zik ?_
 exact zim
 have hled : ledTo e (parts e).length = e.Ledger := by unfold ledTo; rw [if_pos (by omega)]
 refine sw_skip ?_
 refine sS [1, 2, 3, 4, 5, 6, 57, 58, 59] [1, 2, 4, 6] ?_
 refine zgf ?_
 refine zdk ?_
 refine sP [1, 2, 3, 4, 5, 6, 14, 57, 58, 59] [1, 2, 4, 6] ?_
 refine sw_lendEB (d := 4) (t := 70) (e := 10) (G := 6200) (A := [sl _ _, val _, val _, sl _ _]) (B := [sl _ _, sl _ _, val _]) (f := (cActive (.own 41 3) (.own 3 1) (.own 3 1) (.own 45 2) (.own 3 1))) (g := (fun z : Active => [val (vI z.Query.Id), val (vI z.Query.Tenant), sl .v (z.Query.Conds.map cCond), sl .v (z.Query.Out.map cInt), val (vI z.Time), sl .v (z.Todo.map cInt), val (vI z.Age), val (vI z.Sent), val (vI z.Cap), sl .v (z.Rows.map (cRow (.own 3 1)))])) (fN := nAct) (xs := (servedTo e (parts e).length)) (by exact rfl) (by exact rfl) (fun _ _ => rfl) (fun _ => rfl) (fun _ => (ToL.cons (PV.To.refl _) (ToL.cons (PV.To.refl _) (ToL.cons PV.to_none (ToL.cons PV.to_none (ToL.cons (PV.To.refl _) (ToL.cons PV.to_none (ToL.cons (PV.To.refl _) (ToL.cons (PV.To.refl _) (ToL.cons (PV.To.refl _) (ToL.cons PV.to_none ToL.nil))))))))))) (fun _ => (by exact lq)) fun za hza => ?_
 have hzal : za.length = e.Active.length := by rw [← List.length_map (f := Prod.fst), hza, servedTo_len]
 refine zii ?_
 refine zeq ?_
 refine zij ?_
 rintro m hm
 have hrl2 := rest_le (e := e) (k := (parts e).length) (m := m)
 have hdl2 := done_le (e := e) (k := (parts e).length) (m := m)
 refine za5 ?_
 refine sc (fun hbd => ?_) (fun hbd => ?_)
 have hltm : m < e.Active.length := by omega
 have hltz : m < za.length := by omega
 have hm2 : m < (servedTo e (parts e).length).length := by rw [servedTo_len]; exact hltm
 have hm1 : m < (agedL e (parts e).length).length := by rw [agedL_len]; exact hltm
 have hz3 : za[m].1 = (servedTo e (parts e).length)[m] := by simp [← hza]
 have hab := served_b hoe hltm hm2
 rw [← hz3] at hab
 refine za6 ?_
 refine zin ?_
 exact zil
 have hend2 : m = e.Active.length := by omega
 subst hend2
 refine sw_exit ?_
 refine zin ?_
 exact zim
end Go.Proofs.Ytmekkgdboplbjaa
