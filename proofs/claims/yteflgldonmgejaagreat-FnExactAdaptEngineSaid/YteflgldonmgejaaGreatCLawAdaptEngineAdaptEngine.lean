/- What functions of the program compute. No condition. -/
import Derived.Test.YteflgldonmgejaaGreatCZMAdaptEngine
import Derived.Test.YteflgldonmgejaaGreatCFcAdaptEngine
import Derived.Test.YteflgldonmgejaaGreatCToAdaptEngine
import Derived.Test.YteflgldonmgejaaGreatCEqAdaptEngine
import Derived.Test.YteflgldonmgejaaGreatCMkAdaptEngine
import Derived.Test.YteflgldonmgejaaGreatCHeAdaptEngine
import Derived.Test.YteflgldonmgejaaGreatCAdpAdaptEngine
import Derived.KernelRfl
set_option linter.unusedVariables false
set_option linter.unusedSimpArgs false
namespace Go.Proofs.YteflgldonmgejaaGreat
open Go Go.RowKit M PV
set_option maxRecDepth 10000
attribute [local irreducible] PV.Lcl PV.LclR RV.Lcl
theorem law_AdaptEngine {p1 p2 p5 p6 p7 p8 p9 p11 p12 p13 p14 p16 p17 p18 : Fl} {aE : Engine}  : SCall Tryz.prog 5 [(true, [sl .v (aE.Store.Segments.map (cVersionS p1 p2)), val (vI aE.Store.Now), val (vI aE.Cursor), sl .v (aE.Order.map cInt), sl .v (aE.Active.map (cActive p5 p6 p7 p8 p9)), sl .v (aE.Done.map (cFinished p11 p12 p13 p14)), sl .v (aE.Ledger.map (cCharge p16 p17 p18)), val (vI aE.Steps)])] (resRV [(false, [val (.bool true)])]) := by
 refine scall_lo (largs := fun L => [(true, [sl (.lo L) (aE.Store.Segments.map (cVersionS (.lo L) (.lo L))), val (vI aE.Store.Now), val (vI aE.Cursor), sl (.lo L) (aE.Order.map cInt), sl (.lo L) (aE.Active.map (cActive (.lo L) (.lo L) (.lo L) (.lo L) (.lo L))), sl (.lo L) (aE.Done.map (cFinished (.lo L) (.lo L) (.lo L) (.lo L))), sl (.lo L) (aE.Ledger.map (cCharge (.lo L) (.lo L) (.lo L))), val (vI aE.Steps)])]) (rs := [(false, [val (.bool true)])]) Tryz.func5 rfl (nl rfl) (fun L => by exact (aI (aI rfl (ToBL.cons (PV.tob_map (fun _ => nl rfl) (fun _ => (ToBL.cons (PV.tob_map (fun _ => nl rfl) (fun _ => (ToBL.cons PV.tob_refl (ToBL.cons (PV.tob_map (fun _ => nl rfl) (fun _ => (ToBL.cons PV.tob_refl ToBL.nil))) (ToBL.cons PV.tob_refl (ToBL.cons PV.tob_refl ToBL.nil)))))) ToBL.nil))) (ToBL.cons PV.tob_refl (ToBL.cons PV.tob_refl (ToBL.cons (PV.tob_map (fun _ => nl rfl) (fun _ => (ToBL.cons PV.tob_refl ToBL.nil))) (ToBL.cons (PV.tob_map (fun _ => nl rfl) (fun _ => (ToBL.cons PV.tob_refl (ToBL.cons PV.tob_refl (ToBL.cons (PV.tob_map (fun _ => nl rfl) (fun _ => (ToBL.cons PV.tob_refl (ToBL.cons PV.tob_refl (ToBL.cons PV.tob_refl ToBL.nil))))) (ToBL.cons (PV.tob_map (fun _ => nl rfl) (fun _ => (ToBL.cons PV.tob_refl ToBL.nil))) (ToBL.cons PV.tob_refl (ToBL.cons (PV.tob_map (fun _ => nl rfl) (fun _ => (ToBL.cons PV.tob_refl ToBL.nil))) (ToBL.cons PV.tob_refl (ToBL.cons PV.tob_refl (ToBL.cons PV.tob_refl (ToBL.cons (PV.tob_map (fun _ => nl rfl) (fun _ => (ToBL.cons PV.tob_refl (ToBL.cons (PV.tob_map (fun _ => nl rfl) (fun _ => (ToBL.cons PV.tob_refl ToBL.nil))) ToBL.nil)))) ToBL.nil)))))))))))) (ToBL.cons (PV.tob_map (fun _ => nl rfl) (fun _ => (ToBL.cons PV.tob_refl (ToBL.cons PV.tob_refl (ToBL.cons (PV.tob_map (fun _ => nl rfl) (fun _ => (ToBL.cons PV.tob_refl (ToBL.cons PV.tob_refl (ToBL.cons PV.tob_refl ToBL.nil))))) (ToBL.cons (PV.tob_map (fun _ => nl rfl) (fun _ => (ToBL.cons PV.tob_refl ToBL.nil))) (ToBL.cons PV.tob_refl (ToBL.cons PV.tob_refl (ToBL.cons (PV.tob_map (fun _ => nl rfl) (fun _ => (ToBL.cons PV.tob_refl (ToBL.cons (PV.tob_map (fun _ => nl rfl) (fun _ => (ToBL.cons PV.tob_refl ToBL.nil))) ToBL.nil)))) ToBL.nil))))))))) (ToBL.cons (PV.tob_map (fun _ => nl rfl) (fun _ => (ToBL.cons PV.tob_refl (ToBL.cons PV.tob_refl (ToBL.cons (PV.tob_map (fun _ => nl rfl) (fun _ => (ToBL.cons PV.tob_refl ToBL.nil))) (ToBL.cons (PV.tob_map (fun _ => nl rfl) (fun _ => (ToBL.cons PV.tob_refl ToBL.nil))) (ToBL.cons (PV.tob_map (fun _ => nl rfl) (fun _ => (ToBL.cons PV.tob_refl ToBL.nil))) ToBL.nil))))))) (ToBL.cons PV.tob_refl ToBL.nil))))))))) tI)) (fun L => by exact (borA_cons (BorL.cons (bor_lo _ _) (BorL.cons (bor_val _) (BorL.cons (bor_val _) (BorL.cons (bor_lo _ _) (BorL.cons (bor_lo _ _) (BorL.cons (bor_lo _ _) (BorL.cons (bor_lo _ _) (BorL.cons (bor_val _) BorL.nil)))))))) borA_nil)) ?_
 intro w0 Fz0
 refine sn 0 0 fun hl0_0 => ?_
 refine sn 0 3 fun hl0_3 => ?_
 refine sn 0 4 fun hl0_4 => ?_
 refine sn 0 5 fun hl0_5 => ?_
 refine sn 0 6 fun hl0_6 => ?_
 refine sR ?_
 refine rX ?_ (x := (loc_box (ag := true) (cs := [sl (.lo _) _, val _, val _, sl (.lo _) _, sl (.lo _) _, sl (.lo _) _, sl (.lo _) _, val _]) (by decide) (by exact ⟨⟩)))
 refine ze8 ?_
 refine sO [(1, _), (2, _)] [(1, (30, [sl (.lo _) _, val _, val _, sl (.lo _) _, sl (.lo _) _, sl (.lo _) _, sl (.lo _) _, val _]))] ?_
 refine sw_reg ?_
 refine rK ?_
 refine sS [1, 2, 3] [1] ?_
 refine rA ?_ (x := lD [sl (.lo _) _, val _, val _, sl (.lo _) _, sl (.lo _) _, sl (.lo _) _, sl (.lo _) _, val _] ty_30)
 refine rM ?_
 refine rA ?_ (x := cL [(true, [sl (.lo _) _, val _, val _, sl (.lo _) _, sl (.lo _) _, sl (.lo _) _, sl (.lo _) _, val _]), (false, [val _])] [(true, [sl .v _, val _, val _, sl .v _, sl .v _, sl .v _, sl .v _, val _]), (false, [val _])] c_9 (hs := by exact sz_Engine (by omega) (by omega)))
 refine zja ?_
 refine sS [1, 2, 3] [1] ?_
 refine zi2 ?_
 refine sc (fun hba => ?_) (fun hba => ?_)
 refine sS [1, 2, 3] [1] ?_
 refine rK ?_
 exact zfk
 have hp0 := szR_pos (w := wtEngine aE) (l := 1048576) hba
 have he0 := szR_yes hp0
 have hw0 := adapt_wt aE
 refine sw_skip ?_
 refine sS [1, 2, 3] [1] ?_
 refine zob ?_
 refine rA ?_ (x := cL [(true, [sl _ _, val _, val _, sl _ _, sl _ _, sl _ _, sl _ _, val _])] [(true, [sl .v _, val _, val _, sl .v _, sl .v _, sl .v _, sl .v _, val _])] c_20 (hs := by exact (spec_AdaptEngine (by omega))))
 refine zo4 ?_
 refine sw_seq ?_
 refine sO [(1, _), (2, _), (3, _), (4, _)] [(1, _), (4, (40, [sl _ _, val _, val _, sl _ _, sl _ _, sl _ _, sl _ _, val _]))] ?_
 refine sw_reg ?_
 refine zob ?_
 refine zo4 ?_
 refine sw_seq ?_
 refine sO [(1, _), (2, _), (3, _), (4, _), (5, _)] [(1, _), (4, _), (5, (40, [sl _ _, val _, val _, sl _ _, sl _ _, sl _ _, sl _ _, val _]))] ?_
 refine zoc ?_
 refine zod ?_
 refine zi8 ?_
 refine sO [(1, _), (2, _), (3, _), (4, _), (5, _), (6, _)] [(1, _), (4, _), (5, _), (6, (40, [sl _ _, val _, val _, sl _ _, sl _ _, sl _ _, sl _ _, val _]))] ?_
 refine zoc ?_
 refine zoe ?_
 refine rA ?_ (x := nT)
 refine sc (fun hbb => ?_) (fun hbb => ?_)
 ·first | exact absurd rfl hbb | (simp [deq_self] at hbb; done) | omega
 refine zew ?_
 refine sw_seq ?_
 refine sP [1, 2, 3, 4, 5, 6] [1, 4, 5, 6] ?_
 refine zm0 ?_
 refine dA 0 ?_ (x := lD [sl (.lo _) _, val _, val _, sl (.lo _) _, sl (.lo _) _, sl (.lo _) _, sl (.lo _) _, val _] ty_30)
 refine dA 2 ?_ (x := cL [(true, [sl (.lo _) _, val _, val _, sl (.lo _) _, sl (.lo _) _, sl (.lo _) _, sl (.lo _) _, val _])] [(true, [sl .v _, val _, val _, sl .v _, sl .v _, sl .v _, sl .v _, val _])] c_11 (hs := by exact to_Engine (by omega)))
 refine dA 7 ?_ (x := cL [(true, [sl _ _, val _, val _, sl _ _, sl _ _, sl _ _, sl _ _, val _]), (true, [sl _ _, val _, val _, sl _ _, sl _ _, sl _ _, sl _ _, val _])] [(true, [sl .v _, val _, val _, sl .v _, sl .v _, sl .v _, sl .v _, val _]), (true, [sl .v _, val _, val _, sl .v _, sl .v _, sl .v _, sl .v _, val _])] c_13 (hs := by exact eq_Engine))
 refine dA 15 ?_ (x := nT)
 refine sc (fun hbc => ?_) (fun hbc => ?_)
 ·first | exact absurd rfl hbc | (simp [deq_self] at hbc; done) | omega
 refine sw_skip ?_
 refine sS [1, 2, 3, 4, 5, 6] [1, 4, 5, 6] ?_
 refine ze8 ?_
 refine sP [1, 2, 3, 4, 5, 6, 7] [1, 4, 5, 6] ?_
 refine sw_nmB (d := 5) (A := []) (ms := [sl _ _, val _, val _, sl _ _, sl _ _, sl _ _, sl _ _, val _]) (B := []) (by exact rfl) fun us hus => ?_
 obtain ⟨u4_0, u4_1, u4_2, u4_3, u4_4, u4_5, u4_6, u4_7, rfl⟩ := us_8 hus
 have hq5 := mkV_Engine_le aE 1
 have hq6 := ctV_Engine aE 1
 refine sO [(1, _), (2, _), (3, _), (4, _), (5, _), (6, _), (7, _)] [(1, _), (4, _), (5, (40, [nv _ (sl _ _), nv _ (val _), nv _ (val _), nv _ (sl _ _), nv _ (sl _ _), nv _ (sl _ _), nv _ (sl _ _), nv _ (val _)])), (6, _)] ?_
 refine sw_regL ?_
 refine swl_step (by exact ⟨rfl, ⟨⟩⟩) (by exact ⟨rfl, ⟨⟩⟩) (LocG.of rfl (loc_load (qs := [val _, val _, val _, val _, val _, val _, val _, val _]) (by decide) ty_40 (fun h => nomatch h) (by exact nl rfl) (by exact (ToL.cons PV.nv_val (ToL.cons PV.nv_val (ToL.cons PV.nv_val (ToL.cons PV.nv_val (ToL.cons PV.nv_val (ToL.cons PV.nv_val (ToL.cons PV.nv_val (ToL.cons PV.nv_val ToL.nil))))))))) (by exact (BorL.cons (bor_val _) (BorL.cons (bor_val _) (BorL.cons (bor_val _) (BorL.cons (bor_val _) (BorL.cons (bor_val _) (BorL.cons (bor_val _) (BorL.cons (bor_val _) (BorL.cons (bor_val _) BorL.nil))))))))))) nofree ?_
 refine swl_step (by exact ⟨rfl, ⟨⟩⟩) (by exact ⟨⟩) (LocG.of rfl (loc_copy (.inl rfl) (by decide) (by exact Cp.sc))) nofree ?_
 refine swl_of (l := [(1, RV.ptr 1 0), (2, RV.sv false [val _]), (3, RV.sv false [val _]), (4, RV.ptr 4 0), (5, RV.ptr 5 0), (6, RV.ptr 6 0), (7, RV.sv false [val _]), (32, RV.sv true [val _, val _, val _, val _, val _, val _, val _, val _]), (33, RV.sv false [val _])]) (b := [(1, (30, [sl (.lo _) _, val _, val _, sl (.lo _) _, sl (.lo _) _, sl (.lo _) _, sl (.lo _) _, val _])), (4, (40, [sl _ _, val _, val _, sl _ _, sl _ _, sl _ _, sl _ _, val _])), (5, (40, [nv _ (sl _ _), nv _ (val _), nv _ (val _), nv _ (sl _ _), nv _ (sl _ _), nv _ (sl _ _), nv _ (sl _ _), nv _ (val _)])), (6, (40, [sl _ _, val _, val _, sl _ _, sl _ _, sl _ _, sl _ _, val _]))]) (by exact ⟨rfl, rfl, rfl, rfl, rfl, rfl, rfl, rfl, rfl, ⟨⟩⟩) (by exact ⟨rfl, rfl, rfl, rfl, ⟨⟩⟩) ?_
 refine swl_ucallB (bx := 5) (L := (Lw w0.heap.size)) (A := []) (ms := [nv _ (sl _ _), nv _ (val _), nv _ (val _), nv _ (sl _ _), nv _ (sl _ _), nv _ (sl _ _), nv _ (sl _ _), nv _ (val _)]) (B := []) (qr := [(false, [val _])]) (as_ := [(false, [val _])]) (by decide) c_17 rfl (by exact rfl) (by exact (Nm.val (Nm.val (Nm.val (Nm.val (Nm.val (Nm.val (Nm.val (Nm.val Nm.nil))))))))) (by exact ⟨rfl, ⟨⟩⟩) (by exact (aI (by exact ⟨⟩) tI)) (by exact aI (aI rfl (ToL.cons (PV.To.refl _) ToL.nil)) tI) (by exact rfl) (by exact (Nm.nv (Nm.nv (Nm.nv (Nm.nv (Nm.nv (Nm.nv (Nm.nv (Nm.nv Nm.nil))))))))) (by exact (OwnTo.nv (OwnTo.nv (OwnTo.nv (OwnTo.nv (OwnTo.nv (OwnTo.nv (OwnTo.nv (OwnTo.nv OwnTo.nil))))))))) (by exact mark_Engine (x := aE) (by omega) (by omega)) (by exact (OwnFrom.nv (OwnFrom.nv (OwnFrom.nv (OwnFrom.nv (OwnFrom.nv (OwnFrom.nv (OwnFrom.nv (OwnFrom.nv OwnFrom.nil))))))))) (fun x hx => hx) (by exact lc) (by exact (aI (.inr (LclC.cons (lcl_lo (LclRC.map fun x => (LclRC.cons (PV.lclr_lo (LclRC.map fun x => (LclRC.cons PV.lclr_val (LclRC.cons (PV.lclr_lo (LclRC.map fun x => (LclRC.cons PV.lclr_val LclRC.nil))) (LclRC.cons PV.lclr_val (LclRC.cons PV.lclr_val LclRC.nil)))))) LclRC.nil))) (LclC.cons lcl_val (LclC.cons lcl_val (LclC.cons (lcl_lo (LclRC.map fun x => (LclRC.cons PV.lclr_val LclRC.nil))) (LclC.cons (lcl_lo (LclRC.map fun x => (LclRC.cons PV.lclr_val (LclRC.cons PV.lclr_val (LclRC.cons (PV.lclr_lo (LclRC.map fun x => (LclRC.cons PV.lclr_val (LclRC.cons PV.lclr_val (LclRC.cons PV.lclr_val LclRC.nil))))) (LclRC.cons (PV.lclr_lo (LclRC.map fun x => (LclRC.cons PV.lclr_val LclRC.nil))) (LclRC.cons PV.lclr_val (LclRC.cons (PV.lclr_lo (LclRC.map fun x => (LclRC.cons PV.lclr_val LclRC.nil))) (LclRC.cons PV.lclr_val (LclRC.cons PV.lclr_val (LclRC.cons PV.lclr_val (LclRC.cons (PV.lclr_lo (LclRC.map fun x => (LclRC.cons PV.lclr_val (LclRC.cons (PV.lclr_lo (LclRC.map fun x => (LclRC.cons PV.lclr_val LclRC.nil))) LclRC.nil)))) LclRC.nil)))))))))))) (LclC.cons (lcl_lo (LclRC.map fun x => (LclRC.cons PV.lclr_val (LclRC.cons PV.lclr_val (LclRC.cons (PV.lclr_lo (LclRC.map fun x => (LclRC.cons PV.lclr_val (LclRC.cons PV.lclr_val (LclRC.cons PV.lclr_val LclRC.nil))))) (LclRC.cons (PV.lclr_lo (LclRC.map fun x => (LclRC.cons PV.lclr_val LclRC.nil))) (LclRC.cons PV.lclr_val (LclRC.cons PV.lclr_val (LclRC.cons (PV.lclr_lo (LclRC.map fun x => (LclRC.cons PV.lclr_val (LclRC.cons (PV.lclr_lo (LclRC.map fun x => (LclRC.cons PV.lclr_val LclRC.nil))) LclRC.nil)))) LclRC.nil))))))))) (LclC.cons (lcl_lo (LclRC.map fun x => (LclRC.cons PV.lclr_val (LclRC.cons PV.lclr_val (LclRC.cons (PV.lclr_lo (LclRC.map fun x => (LclRC.cons PV.lclr_val LclRC.nil))) (LclRC.cons (PV.lclr_lo (LclRC.map fun x => (LclRC.cons PV.lclr_val LclRC.nil))) (LclRC.cons (PV.lclr_lo (LclRC.map fun x => (LclRC.cons PV.lclr_val LclRC.nil))) LclRC.nil))))))) (LclC.cons lcl_val LclC.nil))))))))) (aI (.inr (LclC.cons (lcl_own (LclC.map fun x => (LclC.cons (lcl_own (LclC.map fun x => (LclC.cons lcl_val (LclC.cons (lcl_own (LclC.map fun x => (LclC.cons lcl_val LclC.nil))) (LclC.cons lcl_val (LclC.cons lcl_val LclC.nil)))))) LclC.nil))) (LclC.cons lcl_val (LclC.cons lcl_val (LclC.cons (lcl_own (LclC.map fun x => (LclC.cons lcl_val LclC.nil))) (LclC.cons (lcl_own (LclC.map fun x => (LclC.cons lcl_val (LclC.cons lcl_val (LclC.cons (lcl_own (LclC.map fun x => (LclC.cons lcl_val (LclC.cons lcl_val (LclC.cons lcl_val LclC.nil))))) (LclC.cons (lcl_own (LclC.map fun x => (LclC.cons lcl_val LclC.nil))) (LclC.cons lcl_val (LclC.cons (lcl_own (LclC.map fun x => (LclC.cons lcl_val LclC.nil))) (LclC.cons lcl_val (LclC.cons lcl_val (LclC.cons lcl_val (LclC.cons (lcl_own (LclC.map fun x => (LclC.cons lcl_val (LclC.cons (lcl_own (LclC.map fun x => (LclC.cons lcl_val LclC.nil))) LclC.nil)))) LclC.nil)))))))))))) (LclC.cons (lcl_own (LclC.map fun x => (LclC.cons lcl_val (LclC.cons lcl_val (LclC.cons (lcl_own (LclC.map fun x => (LclC.cons lcl_val (LclC.cons lcl_val (LclC.cons lcl_val LclC.nil))))) (LclC.cons (lcl_own (LclC.map fun x => (LclC.cons lcl_val LclC.nil))) (LclC.cons lcl_val (LclC.cons lcl_val (LclC.cons (lcl_own (LclC.map fun x => (LclC.cons lcl_val (LclC.cons (lcl_own (LclC.map fun x => (LclC.cons lcl_val LclC.nil))) LclC.nil)))) LclC.nil))))))))) (LclC.cons (lcl_own (LclC.map fun x => (LclC.cons lcl_val (LclC.cons lcl_val (LclC.cons (lcl_own (LclC.map fun x => (LclC.cons lcl_val LclC.nil))) (LclC.cons (lcl_own (LclC.map fun x => (LclC.cons lcl_val LclC.nil))) (LclC.cons (lcl_own (LclC.map fun x => (LclC.cons lcl_val LclC.nil))) LclC.nil))))))) (LclC.cons lcl_val LclC.nil))))))))) (aI (.inl rfl) (aI (.inr (LclC.cons (lcl_own (LclC.map fun x => (LclC.cons (lcl_own (LclC.map fun x => (LclC.cons lcl_val (LclC.cons (lcl_own (LclC.map fun x => (LclC.cons lcl_val LclC.nil))) (LclC.cons lcl_val (LclC.cons lcl_val LclC.nil)))))) LclC.nil))) (LclC.cons lcl_val (LclC.cons lcl_val (LclC.cons (lcl_own (LclC.map fun x => (LclC.cons lcl_val LclC.nil))) (LclC.cons (lcl_own (LclC.map fun x => (LclC.cons lcl_val (LclC.cons lcl_val (LclC.cons (lcl_own (LclC.map fun x => (LclC.cons lcl_val (LclC.cons lcl_val (LclC.cons lcl_val LclC.nil))))) (LclC.cons (lcl_own (LclC.map fun x => (LclC.cons lcl_val LclC.nil))) (LclC.cons lcl_val (LclC.cons (lcl_own (LclC.map fun x => (LclC.cons lcl_val LclC.nil))) (LclC.cons lcl_val (LclC.cons lcl_val (LclC.cons lcl_val (LclC.cons (lcl_own (LclC.map fun x => (LclC.cons lcl_val (LclC.cons (lcl_own (LclC.map fun x => (LclC.cons lcl_val LclC.nil))) LclC.nil)))) LclC.nil)))))))))))) (LclC.cons (lcl_own (LclC.map fun x => (LclC.cons lcl_val (LclC.cons lcl_val (LclC.cons (lcl_own (LclC.map fun x => (LclC.cons lcl_val (LclC.cons lcl_val (LclC.cons lcl_val LclC.nil))))) (LclC.cons (lcl_own (LclC.map fun x => (LclC.cons lcl_val LclC.nil))) (LclC.cons lcl_val (LclC.cons lcl_val (LclC.cons (lcl_own (LclC.map fun x => (LclC.cons lcl_val (LclC.cons (lcl_own (LclC.map fun x => (LclC.cons lcl_val LclC.nil))) LclC.nil)))) LclC.nil))))))))) (LclC.cons (lcl_own (LclC.map fun x => (LclC.cons lcl_val (LclC.cons lcl_val (LclC.cons (lcl_own (LclC.map fun x => (LclC.cons lcl_val LclC.nil))) (LclC.cons (lcl_own (LclC.map fun x => (LclC.cons lcl_val LclC.nil))) (LclC.cons (lcl_own (LclC.map fun x => (LclC.cons lcl_val LclC.nil))) LclC.nil))))))) (LclC.cons lcl_val LclC.nil))))))))) tI))))) (by exact LclC.nil) (by exact LclC.nil) rfl ?_
 refine swl_step (by exact ⟨rfl, ⟨⟩⟩) (by exact ⟨⟩) (LocG.of rfl (loc_copy (.inr rfl) (by decide) (by exact Cp.sc))) nofree ?_
 refine swl_nil ?_
 refine sw_seq ?_
 refine sS [1, 2, 3, 4, 5, 6, 7] [1, 4, 5, 6] ?_
 refine zi2 ?_
 refine rM ?_
 refine cx 37 (fun ga sga => ?_) (fun ga sga => ?_)
 ·first | (simp [deq_self] at ga; done) | (simp only [decide_eq_true_eq] at ga; omega)
 refine rB ga ?_ (x := lD [sl .v _, val _, val _, sl .v _, sl .v _, sl .v _, sl .v _, val _] ty_40)
 refine rB ga ?_ (x := lD [sl .v _, val _, val _, sl .v _, sl .v _, sl .v _, sl .v _, val _] ty_40)
 refine rB ga ?_ (x := cL [(true, [sl _ _, val _, val _, sl _ _, sl _ _, sl _ _, sl _ _, val _]), (true, [sl _ _, val _, val _, sl _ _, sl _ _, sl _ _, sl _ _, val _])] [(true, [sl .v _, val _, val _, sl .v _, sl .v _, sl .v _, sl .v _, val _]), (true, [sl .v _, val _, val _, sl .v _, sl .v _, sl .v _, sl .v _, val _])] c_13 (hs := by exact eq_Engine))
 refine zhv ?_
 refine sc (fun hbd => ?_) (fun hbd => ?_)
 ·first | exact absurd rfl hbd | (simp [deq_self] at hbd; done) | omega
 refine sw_skip ?_
 refine sS [1, 2, 3, 4, 5, 6, 7] [1, 4, 5, 6] ?_
 refine ze8 ?_
 refine sP [1, 2, 3, 4, 5, 6, 7, 8] [1, 4, 5, 6] ?_
 refine sw_nmB (d := 6) (A := []) (ms := [sl _ _, val _, val _, sl _ _, sl _ _, sl _ _, sl _ _, val _]) (B := []) (by exact rfl) fun us hus => ?_
 obtain ⟨u9_0, u9_1, u9_2, u9_3, u9_4, u9_5, u9_6, u9_7, rfl⟩ := us_8 hus
 have hq10 := mkV_Engine_le (adapt aE) 1
 have hq11 := ctV_Engine (adapt aE) 1
 refine sO [(1, _), (2, _), (3, _), (4, _), (5, _), (6, _), (7, _), (8, _)] [(1, _), (4, _), (5, _), (6, (40, [nv _ (sl _ _), nv _ (val _), nv _ (val _), nv _ (sl _ _), nv _ (sl _ _), nv _ (sl _ _), nv _ (sl _ _), nv _ (val _)]))] ?_
 refine sw_regL ?_
 refine swl_step (by exact ⟨rfl, ⟨⟩⟩) (by exact ⟨rfl, ⟨⟩⟩) (LocG.of rfl (loc_load (qs := [val _, val _, val _, val _, val _, val _, val _, val _]) (by decide) ty_40 (fun h => nomatch h) (by exact nl rfl) (by exact (ToL.cons PV.nv_val (ToL.cons PV.nv_val (ToL.cons PV.nv_val (ToL.cons PV.nv_val (ToL.cons PV.nv_val (ToL.cons PV.nv_val (ToL.cons PV.nv_val (ToL.cons PV.nv_val ToL.nil))))))))) (by exact (BorL.cons (bor_val _) (BorL.cons (bor_val _) (BorL.cons (bor_val _) (BorL.cons (bor_val _) (BorL.cons (bor_val _) (BorL.cons (bor_val _) (BorL.cons (bor_val _) (BorL.cons (bor_val _) BorL.nil))))))))))) nofree ?_
 refine swl_step (by exact ⟨rfl, ⟨⟩⟩) (by exact ⟨⟩) (LocG.of rfl (loc_copy (.inl rfl) (by decide) (by exact Cp.sc))) nofree ?_
 refine swl_of (l := [(1, RV.ptr 1 0), (2, RV.sv false [val _]), (3, RV.sv false [val _]), (4, RV.ptr 4 0), (5, RV.ptr 5 0), (6, RV.ptr 6 0), (7, RV.sv false [val _]), (8, RV.sv false [val _]), (43, RV.sv true [val _, val _, val _, val _, val _, val _, val _, val _]), (44, RV.sv false [val _])]) (b := [(1, (30, [sl (.lo _) _, val _, val _, sl (.lo _) _, sl (.lo _) _, sl (.lo _) _, sl (.lo _) _, val _])), (4, (40, [sl _ _, val _, val _, sl _ _, sl _ _, sl _ _, sl _ _, val _])), (5, (40, [nv _ (sl _ _), nv _ (val _), nv _ (val _), nv _ (sl _ _), nv _ (sl _ _), nv _ (sl _ _), nv _ (sl _ _), nv _ (val _)])), (6, (40, [nv _ (sl _ _), nv _ (val _), nv _ (val _), nv _ (sl _ _), nv _ (sl _ _), nv _ (sl _ _), nv _ (sl _ _), nv _ (val _)]))]) (by exact ⟨rfl, rfl, rfl, rfl, rfl, rfl, rfl, rfl, rfl, rfl, ⟨⟩⟩) (by exact ⟨rfl, rfl, rfl, rfl, ⟨⟩⟩) ?_
 refine swl_ucallB (bx := 6) (L := (Lw w0.heap.size)) (A := []) (ms := [nv _ (sl _ _), nv _ (val _), nv _ (val _), nv _ (sl _ _), nv _ (sl _ _), nv _ (sl _ _), nv _ (sl _ _), nv _ (val _)]) (B := []) (qr := [(false, [val _])]) (as_ := [(false, [val _])]) (by decide) c_17 rfl (by exact rfl) (by exact (Nm.val (Nm.val (Nm.val (Nm.val (Nm.val (Nm.val (Nm.val (Nm.val Nm.nil))))))))) (by exact ⟨rfl, ⟨⟩⟩) (by exact (aI (by exact ⟨⟩) tI)) (by exact aI (aI rfl (ToL.cons (PV.To.refl _) ToL.nil)) tI) (by exact rfl) (by exact (Nm.nv (Nm.nv (Nm.nv (Nm.nv (Nm.nv (Nm.nv (Nm.nv (Nm.nv Nm.nil))))))))) (by exact (OwnTo.nv (OwnTo.nv (OwnTo.nv (OwnTo.nv (OwnTo.nv (OwnTo.nv (OwnTo.nv (OwnTo.nv OwnTo.nil))))))))) (by exact mark_Engine (x := (adapt aE)) (by omega) (by omega)) (by exact (OwnFrom.nv (OwnFrom.nv (OwnFrom.nv (OwnFrom.nv (OwnFrom.nv (OwnFrom.nv (OwnFrom.nv (OwnFrom.nv OwnFrom.nil))))))))) (fun x hx => hx) (by exact lc) (by exact (aI (.inr (LclC.cons (lcl_lo (LclRC.map fun x => (LclRC.cons (PV.lclr_lo (LclRC.map fun x => (LclRC.cons PV.lclr_val (LclRC.cons (PV.lclr_lo (LclRC.map fun x => (LclRC.cons PV.lclr_val LclRC.nil))) (LclRC.cons PV.lclr_val (LclRC.cons PV.lclr_val LclRC.nil)))))) LclRC.nil))) (LclC.cons lcl_val (LclC.cons lcl_val (LclC.cons (lcl_lo (LclRC.map fun x => (LclRC.cons PV.lclr_val LclRC.nil))) (LclC.cons (lcl_lo (LclRC.map fun x => (LclRC.cons PV.lclr_val (LclRC.cons PV.lclr_val (LclRC.cons (PV.lclr_lo (LclRC.map fun x => (LclRC.cons PV.lclr_val (LclRC.cons PV.lclr_val (LclRC.cons PV.lclr_val LclRC.nil))))) (LclRC.cons (PV.lclr_lo (LclRC.map fun x => (LclRC.cons PV.lclr_val LclRC.nil))) (LclRC.cons PV.lclr_val (LclRC.cons (PV.lclr_lo (LclRC.map fun x => (LclRC.cons PV.lclr_val LclRC.nil))) (LclRC.cons PV.lclr_val (LclRC.cons PV.lclr_val (LclRC.cons PV.lclr_val (LclRC.cons (PV.lclr_lo (LclRC.map fun x => (LclRC.cons PV.lclr_val (LclRC.cons (PV.lclr_lo (LclRC.map fun x => (LclRC.cons PV.lclr_val LclRC.nil))) LclRC.nil)))) LclRC.nil)))))))))))) (LclC.cons (lcl_lo (LclRC.map fun x => (LclRC.cons PV.lclr_val (LclRC.cons PV.lclr_val (LclRC.cons (PV.lclr_lo (LclRC.map fun x => (LclRC.cons PV.lclr_val (LclRC.cons PV.lclr_val (LclRC.cons PV.lclr_val LclRC.nil))))) (LclRC.cons (PV.lclr_lo (LclRC.map fun x => (LclRC.cons PV.lclr_val LclRC.nil))) (LclRC.cons PV.lclr_val (LclRC.cons PV.lclr_val (LclRC.cons (PV.lclr_lo (LclRC.map fun x => (LclRC.cons PV.lclr_val (LclRC.cons (PV.lclr_lo (LclRC.map fun x => (LclRC.cons PV.lclr_val LclRC.nil))) LclRC.nil)))) LclRC.nil))))))))) (LclC.cons (lcl_lo (LclRC.map fun x => (LclRC.cons PV.lclr_val (LclRC.cons PV.lclr_val (LclRC.cons (PV.lclr_lo (LclRC.map fun x => (LclRC.cons PV.lclr_val LclRC.nil))) (LclRC.cons (PV.lclr_lo (LclRC.map fun x => (LclRC.cons PV.lclr_val LclRC.nil))) (LclRC.cons (PV.lclr_lo (LclRC.map fun x => (LclRC.cons PV.lclr_val LclRC.nil))) LclRC.nil))))))) (LclC.cons lcl_val LclC.nil))))))))) (aI (.inr (LclC.cons (lcl_own (LclC.map fun x => (LclC.cons (lcl_own (LclC.map fun x => (LclC.cons lcl_val (LclC.cons (lcl_own (LclC.map fun x => (LclC.cons lcl_val LclC.nil))) (LclC.cons lcl_val (LclC.cons lcl_val LclC.nil)))))) LclC.nil))) (LclC.cons lcl_val (LclC.cons lcl_val (LclC.cons (lcl_own (LclC.map fun x => (LclC.cons lcl_val LclC.nil))) (LclC.cons (lcl_own (LclC.map fun x => (LclC.cons lcl_val (LclC.cons lcl_val (LclC.cons (lcl_own (LclC.map fun x => (LclC.cons lcl_val (LclC.cons lcl_val (LclC.cons lcl_val LclC.nil))))) (LclC.cons (lcl_own (LclC.map fun x => (LclC.cons lcl_val LclC.nil))) (LclC.cons lcl_val (LclC.cons (lcl_own (LclC.map fun x => (LclC.cons lcl_val LclC.nil))) (LclC.cons lcl_val (LclC.cons lcl_val (LclC.cons lcl_val (LclC.cons (lcl_own (LclC.map fun x => (LclC.cons lcl_val (LclC.cons (lcl_own (LclC.map fun x => (LclC.cons lcl_val LclC.nil))) LclC.nil)))) LclC.nil)))))))))))) (LclC.cons (lcl_own (LclC.map fun x => (LclC.cons lcl_val (LclC.cons lcl_val (LclC.cons (lcl_own (LclC.map fun x => (LclC.cons lcl_val (LclC.cons lcl_val (LclC.cons lcl_val LclC.nil))))) (LclC.cons (lcl_own (LclC.map fun x => (LclC.cons lcl_val LclC.nil))) (LclC.cons lcl_val (LclC.cons lcl_val (LclC.cons (lcl_own (LclC.map fun x => (LclC.cons lcl_val (LclC.cons (lcl_own (LclC.map fun x => (LclC.cons lcl_val LclC.nil))) LclC.nil)))) LclC.nil))))))))) (LclC.cons (lcl_own (LclC.map fun x => (LclC.cons lcl_val (LclC.cons lcl_val (LclC.cons (lcl_own (LclC.map fun x => (LclC.cons lcl_val LclC.nil))) (LclC.cons (lcl_own (LclC.map fun x => (LclC.cons lcl_val LclC.nil))) (LclC.cons (lcl_own (LclC.map fun x => (LclC.cons lcl_val LclC.nil))) LclC.nil))))))) (LclC.cons lcl_val LclC.nil))))))))) (aI (.inr (LclC.cons (lcl_nv (lcl_own (LclC.map fun x => (LclC.cons (lcl_own (LclC.map fun x => (LclC.cons lcl_val (LclC.cons (lcl_own (LclC.map fun x => (LclC.cons lcl_val LclC.nil))) (LclC.cons lcl_val (LclC.cons lcl_val LclC.nil)))))) LclC.nil)))) (LclC.cons (lcl_nv lcl_val) (LclC.cons (lcl_nv lcl_val) (LclC.cons (lcl_nv (lcl_own (LclC.map fun x => (LclC.cons lcl_val LclC.nil)))) (LclC.cons (lcl_nv (lcl_own (LclC.map fun x => (LclC.cons lcl_val (LclC.cons lcl_val (LclC.cons (lcl_own (LclC.map fun x => (LclC.cons lcl_val (LclC.cons lcl_val (LclC.cons lcl_val LclC.nil))))) (LclC.cons (lcl_own (LclC.map fun x => (LclC.cons lcl_val LclC.nil))) (LclC.cons lcl_val (LclC.cons (lcl_own (LclC.map fun x => (LclC.cons lcl_val LclC.nil))) (LclC.cons lcl_val (LclC.cons lcl_val (LclC.cons lcl_val (LclC.cons (lcl_own (LclC.map fun x => (LclC.cons lcl_val (LclC.cons (lcl_own (LclC.map fun x => (LclC.cons lcl_val LclC.nil))) LclC.nil)))) LclC.nil))))))))))))) (LclC.cons (lcl_nv (lcl_own (LclC.map fun x => (LclC.cons lcl_val (LclC.cons lcl_val (LclC.cons (lcl_own (LclC.map fun x => (LclC.cons lcl_val (LclC.cons lcl_val (LclC.cons lcl_val LclC.nil))))) (LclC.cons (lcl_own (LclC.map fun x => (LclC.cons lcl_val LclC.nil))) (LclC.cons lcl_val (LclC.cons lcl_val (LclC.cons (lcl_own (LclC.map fun x => (LclC.cons lcl_val (LclC.cons (lcl_own (LclC.map fun x => (LclC.cons lcl_val LclC.nil))) LclC.nil)))) LclC.nil)))))))))) (LclC.cons (lcl_nv (lcl_own (LclC.map fun x => (LclC.cons lcl_val (LclC.cons lcl_val (LclC.cons (lcl_own (LclC.map fun x => (LclC.cons lcl_val LclC.nil))) (LclC.cons (lcl_own (LclC.map fun x => (LclC.cons lcl_val LclC.nil))) (LclC.cons (lcl_own (LclC.map fun x => (LclC.cons lcl_val LclC.nil))) LclC.nil)))))))) (LclC.cons (lcl_nv lcl_val) LclC.nil))))))))) (aI (.inl rfl) tI))))) (by exact LclC.nil) (by exact LclC.nil) rfl ?_
 refine swl_step (by exact ⟨rfl, ⟨⟩⟩) (by exact ⟨⟩) (LocG.of rfl (loc_copy (.inr rfl) (by decide) (by exact Cp.sc))) nofree ?_
 refine swl_nil ?_
 refine sS [1, 2, 3, 4, 5, 6, 7, 8] [1, 4, 5, 6] ?_
 refine rK ?_
 refine sS [1, 2, 3, 4, 5, 6, 7, 8, 9] [1, 4, 5, 6] ?_
 refine zof ?_
 refine zja ?_
 refine sS [1, 2, 3, 4, 5, 6, 7, 8, 9] [1, 4, 5, 6] ?_
 refine zi2 ?_
 refine sc (fun hbe => ?_) (fun hbe => ?_)
 ·first | exact absurd rfl hbe | (simp [deq_self] at hbe; done) | omega
 refine zew ?_
 refine sS [1, 2, 3, 4, 5, 6, 7, 8, 9] [1, 4, 5, 6] ?_
 refine zfh ?_
 refine rA ?_ (x := B_neq)
 refine sc (fun hbf => ?_) (fun hbf => ?_)
 ·first | exact absurd rfl hbf | (simp [deq_self] at hbf; done) | omega
 refine sw_skip ?_
 refine sS [1, 2, 3, 4, 5, 6, 7, 8, 9] [1, 4, 5, 6] ?_
 refine zob ?_
 refine zod ?_
 refine zi8 ?_
 refine sO [(1, _), (2, _), (3, _), (4, _), (5, _), (6, _), (7, _), (8, _), (9, _), (10, _)] [(1, _), (4, _), (5, _), (6, _), (10, (40, [sl _ _, val _, val _, sl _ _, sl _ _, sl _ _, sl _ _, val _]))] ?_
 refine zoc ?_
 refine zoe ?_
 refine rA ?_ (x := nT)
 refine sc (fun hbg => ?_) (fun hbg => ?_)
 ·first | exact absurd rfl hbg | (simp [deq_self] at hbg; done) | omega
 refine sw_skip ?_
 refine sS [1, 2, 3, 4, 5, 6, 7, 8, 9, 10] [1, 4, 5, 6, 10] ?_
 refine rK ?_
 refine sS [1, 2, 3, 4, 5, 6, 7, 8, 9, 10] [1, 4, 5, 6, 10] ?_
 refine zof ?_
 refine zja ?_
 refine sS [1, 2, 3, 4, 5, 6, 7, 8, 9, 10] [1, 4, 5, 6, 10] ?_
 refine zi2 ?_
 refine sc (fun hbh => ?_) (fun hbh => ?_)
 ·first | exact absurd rfl hbh | (simp [deq_self] at hbh; done) | omega
 refine zew ?_
 refine sS [1, 2, 3, 4, 5, 6, 7, 8, 9, 10] [1, 4, 5, 6, 10] ?_
 refine zfh ?_
 refine rA ?_ (x := B_neq)
 refine sc (fun hbi => ?_) (fun hbi => ?_)
 ·first | exact absurd rfl hbi | (simp [deq_self] at hbi; done) | omega
 refine sw_skip ?_
 refine sS [1, 2, 3, 4, 5, 6, 7, 8, 9, 10] [1, 4, 5, 6, 10] ?_
 refine rK ?_
 exact zfk
end Go.Proofs.YteflgldonmgejaaGreat
