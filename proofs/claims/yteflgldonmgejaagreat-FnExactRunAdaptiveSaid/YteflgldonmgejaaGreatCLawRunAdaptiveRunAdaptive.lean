/- What functions of the program compute. No condition. -/
import Derived.Test.YteflgldonmgejaaGreatCZMRunAdaptive
import Derived.Test.YteflgldonmgejaaGreatCFcRunAdaptive
import Derived.Test.YteflgldonmgejaaGreatCToRunAdaptive
import Derived.Test.YteflgldonmgejaaGreatCEqRunAdaptive
import Derived.Test.YteflgldonmgejaaGreatCMkRunAdaptive
import Derived.Test.YteflgldonmgejaaGreatCHeRunAdaptive
import Derived.Test.YteflgldonmgejaaGreatCRuaRunAdaptive
import Derived.KernelRfl
set_option linter.unusedVariables false
set_option linter.unusedSimpArgs false
namespace Go.Proofs.YteflgldonmgejaaGreat
open Go Go.RowKit M PV
set_option maxRecDepth 10000
attribute [local irreducible] PV.Lcl PV.LclR RV.Lcl
theorem law_RunAdaptive {p1 p2 p5 p6 p7 p8 p9 p11 p12 p13 p14 p16 p17 p18 : Fl} {aE : Engine} {aSteps : Int}  : SCall Tryz.prog 6 [(true, [sl .v (aE.Store.Segments.map (cVersionS p1 p2)), val (vI aE.Store.Now), val (vI aE.Cursor), sl .v (aE.Order.map cInt), sl .v (aE.Active.map (cActive p5 p6 p7 p8 p9)), sl .v (aE.Done.map (cFinished p11 p12 p13 p14)), sl .v (aE.Ledger.map (cCharge p16 p17 p18)), val (vI aE.Steps)]), (false, [val (vI aSteps)])] (resRV [(false, [val (.bool true)])]) := by
 refine scall_lo (largs := fun L => [(true, [sl (.lo L) (aE.Store.Segments.map (cVersionS (.lo L) (.lo L))), val (vI aE.Store.Now), val (vI aE.Cursor), sl (.lo L) (aE.Order.map cInt), sl (.lo L) (aE.Active.map (cActive (.lo L) (.lo L) (.lo L) (.lo L) (.lo L))), sl (.lo L) (aE.Done.map (cFinished (.lo L) (.lo L) (.lo L) (.lo L))), sl (.lo L) (aE.Ledger.map (cCharge (.lo L) (.lo L) (.lo L))), val (vI aE.Steps)]), (false, [val (vI aSteps)])]) (rs := [(false, [val (.bool true)])]) Tryz.func6 rfl (nl rfl) (fun L => by exact (aI (aI rfl (ToBL.cons (PV.tob_map (fun _ => nl rfl) (fun _ => (ToBL.cons (PV.tob_map (fun _ => nl rfl) (fun _ => (ToBL.cons PV.tob_refl (ToBL.cons (PV.tob_map (fun _ => nl rfl) (fun _ => (ToBL.cons PV.tob_refl ToBL.nil))) (ToBL.cons PV.tob_refl (ToBL.cons PV.tob_refl ToBL.nil)))))) ToBL.nil))) (ToBL.cons PV.tob_refl (ToBL.cons PV.tob_refl (ToBL.cons (PV.tob_map (fun _ => nl rfl) (fun _ => (ToBL.cons PV.tob_refl ToBL.nil))) (ToBL.cons (PV.tob_map (fun _ => nl rfl) (fun _ => (ToBL.cons PV.tob_refl (ToBL.cons PV.tob_refl (ToBL.cons (PV.tob_map (fun _ => nl rfl) (fun _ => (ToBL.cons PV.tob_refl (ToBL.cons PV.tob_refl (ToBL.cons PV.tob_refl ToBL.nil))))) (ToBL.cons (PV.tob_map (fun _ => nl rfl) (fun _ => (ToBL.cons PV.tob_refl ToBL.nil))) (ToBL.cons PV.tob_refl (ToBL.cons (PV.tob_map (fun _ => nl rfl) (fun _ => (ToBL.cons PV.tob_refl ToBL.nil))) (ToBL.cons PV.tob_refl (ToBL.cons PV.tob_refl (ToBL.cons PV.tob_refl (ToBL.cons (PV.tob_map (fun _ => nl rfl) (fun _ => (ToBL.cons PV.tob_refl (ToBL.cons (PV.tob_map (fun _ => nl rfl) (fun _ => (ToBL.cons PV.tob_refl ToBL.nil))) ToBL.nil)))) ToBL.nil)))))))))))) (ToBL.cons (PV.tob_map (fun _ => nl rfl) (fun _ => (ToBL.cons PV.tob_refl (ToBL.cons PV.tob_refl (ToBL.cons (PV.tob_map (fun _ => nl rfl) (fun _ => (ToBL.cons PV.tob_refl (ToBL.cons PV.tob_refl (ToBL.cons PV.tob_refl ToBL.nil))))) (ToBL.cons (PV.tob_map (fun _ => nl rfl) (fun _ => (ToBL.cons PV.tob_refl ToBL.nil))) (ToBL.cons PV.tob_refl (ToBL.cons PV.tob_refl (ToBL.cons (PV.tob_map (fun _ => nl rfl) (fun _ => (ToBL.cons PV.tob_refl (ToBL.cons (PV.tob_map (fun _ => nl rfl) (fun _ => (ToBL.cons PV.tob_refl ToBL.nil))) ToBL.nil)))) ToBL.nil))))))))) (ToBL.cons (PV.tob_map (fun _ => nl rfl) (fun _ => (ToBL.cons PV.tob_refl (ToBL.cons PV.tob_refl (ToBL.cons (PV.tob_map (fun _ => nl rfl) (fun _ => (ToBL.cons PV.tob_refl ToBL.nil))) (ToBL.cons (PV.tob_map (fun _ => nl rfl) (fun _ => (ToBL.cons PV.tob_refl ToBL.nil))) (ToBL.cons (PV.tob_map (fun _ => nl rfl) (fun _ => (ToBL.cons PV.tob_refl ToBL.nil))) ToBL.nil))))))) (ToBL.cons PV.tob_refl ToBL.nil))))))))) (aI (aI rfl (ToBL.cons PV.tob_refl ToBL.nil)) tI))) (fun L => by exact lq) ?_
 intro w0 Fz0
 refine sn 0 0 fun hl0_0 => ?_
 refine sn 0 3 fun hl0_3 => ?_
 refine sn 0 4 fun hl0_4 => ?_
 refine sn 0 5 fun hl0_5 => ?_
 refine sn 0 6 fun hl0_6 => ?_
 refine zpc ?_
 refine zee ?_
 refine sO [(1, _), (2, _), (4, _)] [(2, (30, [sl (.lo _) _, val _, val _, sl (.lo _) _, sl (.lo _) _, sl (.lo _) _, sl (.lo _) _, val _]))] ?_
 refine sw_reg ?_
 refine rK ?_
 refine sS [1, 2, 4, 5] [2] ?_
 refine rA ?_ (x := lD [sl (.lo _) _, val _, val _, sl (.lo _) _, sl (.lo _) _, sl (.lo _) _, sl (.lo _) _, val _] ty_30)
 refine rM ?_
 refine rA ?_ (x := cL [(true, [sl (.lo _) _, val _, val _, sl (.lo _) _, sl (.lo _) _, sl (.lo _) _, sl (.lo _) _, val _]), (false, [val _])] [(true, [sl .v _, val _, val _, sl .v _, sl .v _, sl .v _, sl .v _, val _]), (false, [val _])] c_9 (hs := by exact sz_Engine (by omega) (by omega)))
 refine zjk ?_
 refine sS [1, 2, 4, 5] [2] ?_
 refine zi8 ?_
 refine sc (fun hba => ?_) (fun hba => ?_)
 refine sS [1, 2, 4, 5] [2] ?_
 refine rK ?_
 exact zfr
 have hp0 := szR_pos (w := wtEngine aE) (l := 1048576) hba
 have he0 := szR_yes hp0
 have hw0 := runAdaptive_wt aE aSteps
 refine sw_skip ?_
 refine sS [1, 2, 4, 5] [2] ?_
 refine zrh ?_
 refine rM ?_
 refine rA ?_ (x := cL [(true, [sl _ _, val _, val _, sl _ _, sl _ _, sl _ _, sl _ _, val _]), (false, [val _])] [(true, [sl .v _, val _, val _, sl .v _, sl .v _, sl .v _, sl .v _, val _]), (false, [val _])] c_23 (hs := by exact (spec_RunAdaptive (by omega))))
 refine zpf ?_
 refine sw_seq ?_
 refine sO [(1, _), (2, _), (4, _), (5, _), (6, _)] [(2, _), (6, (40, [sl _ _, val _, val _, sl _ _, sl _ _, sl _ _, sl _ _, val _]))] ?_
 refine sw_reg ?_
 refine zrh ?_
 refine zpf ?_
 refine sw_seq ?_
 refine sO [(1, _), (2, _), (4, _), (5, _), (6, _), (7, _)] [(2, _), (6, _), (7, (40, [sl _ _, val _, val _, sl _ _, sl _ _, sl _ _, sl _ _, val _]))] ?_
 refine zri ?_
 refine rM ?_
 refine zrj ?_
 refine zie ?_
 refine sO [(1, _), (2, _), (4, _), (5, _), (6, _), (7, _), (8, _)] [(2, _), (6, _), (7, _), (8, (40, [sl _ _, val _, val _, sl _ _, sl _ _, sl _ _, sl _ _, val _]))] ?_
 refine zri ?_
 refine zrk ?_
 refine rA ?_ (x := nT)
 refine sc (fun hbb => ?_) (fun hbb => ?_)
 ·first | exact absurd rfl hbb | (simp [deq_self] at hbb; done) | omega
 refine zf2 ?_
 refine sw_seq ?_
 refine sP [1, 2, 4, 5, 6, 7, 8] [2, 6, 7, 8] ?_
 refine zmg ?_
 refine dA 0 ?_ (x := lD [sl (.lo _) _, val _, val _, sl (.lo _) _, sl (.lo _) _, sl (.lo _) _, sl (.lo _) _, val _] ty_30)
 refine dA 2 ?_ (x := cL [(true, [sl (.lo _) _, val _, val _, sl (.lo _) _, sl (.lo _) _, sl (.lo _) _, sl (.lo _) _, val _])] [(true, [sl .v _, val _, val _, sl .v _, sl .v _, sl .v _, sl .v _, val _])] c_11 (hs := by exact to_Engine (by omega)))
 refine dA 7 ?_ (x := cL [(true, [sl _ _, val _, val _, sl _ _, sl _ _, sl _ _, sl _ _, val _]), (true, [sl _ _, val _, val _, sl _ _, sl _ _, sl _ _, sl _ _, val _])] [(true, [sl .v _, val _, val _, sl .v _, sl .v _, sl .v _, sl .v _, val _]), (true, [sl .v _, val _, val _, sl .v _, sl .v _, sl .v _, sl .v _, val _])] c_13 (hs := by exact eq_Engine))
 refine dA 15 ?_ (x := nT)
 refine sc (fun hbc => ?_) (fun hbc => ?_)
 ·first | exact absurd rfl hbc | (simp [deq_self] at hbc; done) | omega
 refine sw_skip ?_
 refine sS [1, 2, 4, 5, 6, 7, 8] [2, 6, 7, 8] ?_
 refine zee ?_
 refine sP [1, 2, 4, 5, 6, 7, 8, 9] [2, 6, 7, 8] ?_
 refine sw_nmB (d := 7) (A := []) (ms := [sl _ _, val _, val _, sl _ _, sl _ _, sl _ _, sl _ _, val _]) (B := []) (by exact rfl) fun us hus => ?_
 obtain ⟨u4_0, u4_1, u4_2, u4_3, u4_4, u4_5, u4_6, u4_7, rfl⟩ := us_8 hus
 have hq5 := mkV_Engine_le aE 1
 have hq6 := ctV_Engine aE 1
 refine sO [(1, _), (2, _), (4, _), (5, _), (6, _), (7, _), (8, _), (9, _)] [(2, _), (6, _), (7, (40, [nv _ (sl _ _), nv _ (val _), nv _ (val _), nv _ (sl _ _), nv _ (sl _ _), nv _ (sl _ _), nv _ (sl _ _), nv _ (val _)])), (8, _)] ?_
 refine sw_regL ?_
 refine swl_step (by exact ⟨rfl, ⟨⟩⟩) (by exact ⟨rfl, ⟨⟩⟩) (LocG.of rfl (loc_load (qs := [val _, val _, val _, val _, val _, val _, val _, val _]) (by decide) ty_40 (fun h => nomatch h) (by exact nl rfl) (by exact (ToL.cons PV.nv_val (ToL.cons PV.nv_val (ToL.cons PV.nv_val (ToL.cons PV.nv_val (ToL.cons PV.nv_val (ToL.cons PV.nv_val (ToL.cons PV.nv_val (ToL.cons PV.nv_val ToL.nil))))))))) (by exact lq))) nofree ?_
 refine swl_step (by exact ⟨rfl, ⟨⟩⟩) (by exact ⟨⟩) (LocG.of rfl (loc_copy (.inl rfl) (by decide) (by exact Cp.sc))) nofree ?_
 refine swl_of (l := [(1, RV.sv false [val _]), (2, RV.ptr 2 0), (4, RV.sv false [val _]), (5, RV.sv false [val _]), (6, RV.ptr 6 0), (7, RV.ptr 7 0), (8, RV.ptr 8 0), (9, RV.sv false [val _]), (36, RV.sv true [val _, val _, val _, val _, val _, val _, val _, val _]), (37, RV.sv false [val _])]) (b := [(2, (30, [sl (.lo _) _, val _, val _, sl (.lo _) _, sl (.lo _) _, sl (.lo _) _, sl (.lo _) _, val _])), (6, (40, [sl _ _, val _, val _, sl _ _, sl _ _, sl _ _, sl _ _, val _])), (7, (40, [nv _ (sl _ _), nv _ (val _), nv _ (val _), nv _ (sl _ _), nv _ (sl _ _), nv _ (sl _ _), nv _ (sl _ _), nv _ (val _)])), (8, (40, [sl _ _, val _, val _, sl _ _, sl _ _, sl _ _, sl _ _, val _]))]) (by exact ⟨rfl, rfl, rfl, rfl, rfl, rfl, rfl, rfl, rfl, rfl, ⟨⟩⟩) (by exact ⟨rfl, rfl, rfl, rfl, ⟨⟩⟩) ?_
 refine swl_ucallB (bx := 7) (L := (Lw w0.heap.size)) (A := []) (ms := [nv _ (sl _ _), nv _ (val _), nv _ (val _), nv _ (sl _ _), nv _ (sl _ _), nv _ (sl _ _), nv _ (sl _ _), nv _ (val _)]) (B := []) (qr := [(false, [val _])]) (as_ := [(false, [val _])]) (by decide) c_17 rfl (by exact rfl) (by exact (Nm.val (Nm.val (Nm.val (Nm.val (Nm.val (Nm.val (Nm.val (Nm.val Nm.nil))))))))) (by exact ⟨rfl, ⟨⟩⟩) (by exact (aI (by exact ⟨⟩) tI)) (by exact aI (aI rfl (ToL.cons (PV.To.refl _) ToL.nil)) tI) (by exact rfl) (by exact (Nm.nv (Nm.nv (Nm.nv (Nm.nv (Nm.nv (Nm.nv (Nm.nv (Nm.nv Nm.nil))))))))) (by exact (OwnTo.nv (OwnTo.nv (OwnTo.nv (OwnTo.nv (OwnTo.nv (OwnTo.nv (OwnTo.nv (OwnTo.nv OwnTo.nil))))))))) (by exact mark_Engine (x := aE) (by omega) (by omega)) (by exact (OwnFrom.nv (OwnFrom.nv (OwnFrom.nv (OwnFrom.nv (OwnFrom.nv (OwnFrom.nv (OwnFrom.nv (OwnFrom.nv OwnFrom.nil))))))))) (fun x hx => hx) (by exact lc) (by exact lq) (by exact LclC.nil) (by exact LclC.nil) rfl ?_
 refine swl_step (by exact ⟨rfl, ⟨⟩⟩) (by exact ⟨⟩) (LocG.of rfl (loc_copy (.inr rfl) (by decide) (by exact Cp.sc))) nofree ?_
 refine swl_nil ?_
 refine sw_seq ?_
 refine sS [1, 2, 4, 5, 6, 7, 8, 9] [2, 6, 7, 8] ?_
 refine zi8 ?_
 refine rM ?_
 refine cx 41 (fun ga sga => ?_) (fun ga sga => ?_)
 ·first | (simp [deq_self] at ga; done) | (simp only [decide_eq_true_eq] at ga; omega)
 refine rB ga ?_ (x := lD [sl .v _, val _, val _, sl .v _, sl .v _, sl .v _, sl .v _, val _] ty_40)
 refine rB ga ?_ (x := lD [sl .v _, val _, val _, sl .v _, sl .v _, sl .v _, sl .v _, val _] ty_40)
 refine rB ga ?_ (x := cL [(true, [sl _ _, val _, val _, sl _ _, sl _ _, sl _ _, sl _ _, val _]), (true, [sl _ _, val _, val _, sl _ _, sl _ _, sl _ _, sl _ _, val _])] [(true, [sl .v _, val _, val _, sl .v _, sl .v _, sl .v _, sl .v _, val _]), (true, [sl .v _, val _, val _, sl .v _, sl .v _, sl .v _, sl .v _, val _])] c_13 (hs := by exact eq_Engine))
 refine zi1 ?_
 refine sc (fun hbd => ?_) (fun hbd => ?_)
 ·first | exact absurd rfl hbd | (simp [deq_self] at hbd; done) | omega
 refine sw_skip ?_
 refine sS [1, 2, 4, 5, 6, 7, 8, 9] [2, 6, 7, 8] ?_
 refine zee ?_
 refine sP [1, 2, 4, 5, 6, 7, 8, 9, 10] [2, 6, 7, 8] ?_
 refine sw_nmB (d := 8) (A := []) (ms := [sl _ _, val _, val _, sl _ _, sl _ _, sl _ _, sl _ _, val _]) (B := []) (by exact rfl) fun us hus => ?_
 obtain ⟨u9_0, u9_1, u9_2, u9_3, u9_4, u9_5, u9_6, u9_7, rfl⟩ := us_8 hus
 have hq10 := mkV_Engine_le (runAdaptive aE aSteps) 1
 have hq11 := ctV_Engine (runAdaptive aE aSteps) 1
 refine sO [(1, _), (2, _), (4, _), (5, _), (6, _), (7, _), (8, _), (9, _), (10, _)] [(2, _), (6, _), (7, _), (8, (40, [nv _ (sl _ _), nv _ (val _), nv _ (val _), nv _ (sl _ _), nv _ (sl _ _), nv _ (sl _ _), nv _ (sl _ _), nv _ (val _)]))] ?_
 refine sw_regL ?_
 refine swl_step (by exact ⟨rfl, ⟨⟩⟩) (by exact ⟨rfl, ⟨⟩⟩) (LocG.of rfl (loc_load (qs := [val _, val _, val _, val _, val _, val _, val _, val _]) (by decide) ty_40 (fun h => nomatch h) (by exact nl rfl) (by exact (ToL.cons PV.nv_val (ToL.cons PV.nv_val (ToL.cons PV.nv_val (ToL.cons PV.nv_val (ToL.cons PV.nv_val (ToL.cons PV.nv_val (ToL.cons PV.nv_val (ToL.cons PV.nv_val ToL.nil))))))))) (by exact lq))) nofree ?_
 refine swl_step (by exact ⟨rfl, ⟨⟩⟩) (by exact ⟨⟩) (LocG.of rfl (loc_copy (.inl rfl) (by decide) (by exact Cp.sc))) nofree ?_
 refine swl_of (l := [(1, RV.sv false [val _]), (2, RV.ptr 2 0), (4, RV.sv false [val _]), (5, RV.sv false [val _]), (6, RV.ptr 6 0), (7, RV.ptr 7 0), (8, RV.ptr 8 0), (9, RV.sv false [val _]), (10, RV.sv false [val _]), (47, RV.sv true [val _, val _, val _, val _, val _, val _, val _, val _]), (48, RV.sv false [val _])]) (b := [(2, (30, [sl (.lo _) _, val _, val _, sl (.lo _) _, sl (.lo _) _, sl (.lo _) _, sl (.lo _) _, val _])), (6, (40, [sl _ _, val _, val _, sl _ _, sl _ _, sl _ _, sl _ _, val _])), (7, (40, [nv _ (sl _ _), nv _ (val _), nv _ (val _), nv _ (sl _ _), nv _ (sl _ _), nv _ (sl _ _), nv _ (sl _ _), nv _ (val _)])), (8, (40, [nv _ (sl _ _), nv _ (val _), nv _ (val _), nv _ (sl _ _), nv _ (sl _ _), nv _ (sl _ _), nv _ (sl _ _), nv _ (val _)]))]) (by exact ⟨rfl, rfl, rfl, rfl, rfl, rfl, rfl, rfl, rfl, rfl, rfl, ⟨⟩⟩) (by exact ⟨rfl, rfl, rfl, rfl, ⟨⟩⟩) ?_
 refine swl_ucallB (bx := 8) (L := (Lw w0.heap.size)) (A := []) (ms := [nv _ (sl _ _), nv _ (val _), nv _ (val _), nv _ (sl _ _), nv _ (sl _ _), nv _ (sl _ _), nv _ (sl _ _), nv _ (val _)]) (B := []) (qr := [(false, [val _])]) (as_ := [(false, [val _])]) (by decide) c_17 rfl (by exact rfl) (by exact (Nm.val (Nm.val (Nm.val (Nm.val (Nm.val (Nm.val (Nm.val (Nm.val Nm.nil))))))))) (by exact ⟨rfl, ⟨⟩⟩) (by exact (aI (by exact ⟨⟩) tI)) (by exact aI (aI rfl (ToL.cons (PV.To.refl _) ToL.nil)) tI) (by exact rfl) (by exact (Nm.nv (Nm.nv (Nm.nv (Nm.nv (Nm.nv (Nm.nv (Nm.nv (Nm.nv Nm.nil))))))))) (by exact (OwnTo.nv (OwnTo.nv (OwnTo.nv (OwnTo.nv (OwnTo.nv (OwnTo.nv (OwnTo.nv (OwnTo.nv OwnTo.nil))))))))) (by exact mark_Engine (x := (runAdaptive aE aSteps)) (by omega) (by omega)) (by exact (OwnFrom.nv (OwnFrom.nv (OwnFrom.nv (OwnFrom.nv (OwnFrom.nv (OwnFrom.nv (OwnFrom.nv (OwnFrom.nv OwnFrom.nil))))))))) (fun x hx => hx) (by exact lc) (by exact lq) (by exact LclC.nil) (by exact LclC.nil) rfl ?_
 refine swl_step (by exact ⟨rfl, ⟨⟩⟩) (by exact ⟨⟩) (LocG.of rfl (loc_copy (.inr rfl) (by decide) (by exact Cp.sc))) nofree ?_
 refine swl_nil ?_
 refine sS [1, 2, 4, 5, 6, 7, 8, 9, 10] [2, 6, 7, 8] ?_
 refine rK ?_
 refine sS [1, 2, 4, 5, 6, 7, 8, 9, 10, 11] [2, 6, 7, 8] ?_
 refine zrl ?_
 refine zjk ?_
 refine sS [1, 2, 4, 5, 6, 7, 8, 9, 10, 11] [2, 6, 7, 8] ?_
 refine zi8 ?_
 refine sc (fun hbe => ?_) (fun hbe => ?_)
 ·first | exact absurd rfl hbe | (simp [deq_self] at hbe; done) | omega
 refine zf2 ?_
 refine sS [1, 2, 4, 5, 6, 7, 8, 9, 10, 11] [2, 6, 7, 8] ?_
 refine zfo ?_
 refine rA ?_ (x := B_neq)
 refine sc (fun hbf => ?_) (fun hbf => ?_)
 ·first | exact absurd rfl hbf | (simp [deq_self] at hbf; done) | omega
 refine sw_skip ?_
 refine sS [1, 2, 4, 5, 6, 7, 8, 9, 10, 11] [2, 6, 7, 8] ?_
 refine zrh ?_
 refine rM ?_
 refine zrj ?_
 refine zie ?_
 refine sO [(1, _), (2, _), (4, _), (5, _), (6, _), (7, _), (8, _), (9, _), (10, _), (11, _), (12, _)] [(2, _), (6, _), (7, _), (8, _), (12, (40, [sl _ _, val _, val _, sl _ _, sl _ _, sl _ _, sl _ _, val _]))] ?_
 refine zri ?_
 refine zrk ?_
 refine rA ?_ (x := nT)
 refine sc (fun hbg => ?_) (fun hbg => ?_)
 ·first | exact absurd rfl hbg | (simp [deq_self] at hbg; done) | omega
 refine sw_skip ?_
 refine sS [1, 2, 4, 5, 6, 7, 8, 9, 10, 11, 12] [2, 6, 7, 8, 12] ?_
 refine rK ?_
 refine sS [1, 2, 4, 5, 6, 7, 8, 9, 10, 11, 12] [2, 6, 7, 8, 12] ?_
 refine zrl ?_
 refine zjk ?_
 refine sS [1, 2, 4, 5, 6, 7, 8, 9, 10, 11, 12] [2, 6, 7, 8, 12] ?_
 refine zi8 ?_
 refine sc (fun hbh => ?_) (fun hbh => ?_)
 ·first | exact absurd rfl hbh | (simp [deq_self] at hbh; done) | omega
 refine zf2 ?_
 refine sS [1, 2, 4, 5, 6, 7, 8, 9, 10, 11, 12] [2, 6, 7, 8, 12] ?_
 refine zfo ?_
 refine rA ?_ (x := B_neq)
 refine sc (fun hbi => ?_) (fun hbi => ?_)
 ·first | exact absurd rfl hbi | (simp [deq_self] at hbi; done) | omega
 refine sw_skip ?_
 refine sS [1, 2, 4, 5, 6, 7, 8, 9, 10, 11, 12] [2, 6, 7, 8, 12] ?_
 refine rK ?_
 exact zfr
end Go.Proofs.YteflgldonmgejaaGreat
