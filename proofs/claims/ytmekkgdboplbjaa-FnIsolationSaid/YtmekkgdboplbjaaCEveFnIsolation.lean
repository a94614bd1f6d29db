/- What functions of the program compute. No condition. -/
import Derived.Test.YtmekkgdboplbjaaCZMFnIsolation
import Derived.Test.YtmekkgdboplbjaaCFcFnIsolation
import Derived.Test.YtmekkgdboplbjaaCAdmFnIsolation
import Derived.Test.YtmekkgdboplbjaaCCanFnIsolation
import Derived.Test.YtmekkgdboplbjaaCUpdFnIsolation
import Derived.Test.YtmekkgdboplbjaaCStbFnIsolation
import Derived.Test.YtmekkgdboplbjaaCEvtFnIsolation
import Derived.Test.YtmekkgdboplbjaaCDev
import Derived.KernelRfl
set_option linter.unusedVariables false
set_option linter.unusedSimpArgs false
namespace Go.Proofs.Ytmekkgdboplbjaa
open Go Go.RowKit M PV
set_option maxRecDepth 10000
attribute [local irreducible] PV.Lcl PV.LclR RV.Lcl
set_option maxHeartbeats 8000000
theorem impl_RunEngine {p1 p2 p5 p6 p7 p8 p9 p11 p12 p13 p14 p16 p17 p18 : Fl} {e : Engine} {n : Int}  (hb : wtEngine e ≤ 68718000000) : SCall Try.prog 31 [(true, [sl .v (e.Store.Segments.map (cVersionS p1 p2)), val (vI e.Store.Now), val (vI e.Cursor), sl .v (e.Order.map cInt), sl .v (e.Active.map (cActive p5 p6 p7 p8 p9)), sl .v (e.Done.map (cFinished p11 p12 p13 p14)), sl .v (e.Ledger.map (cCharge p16 p17 p18)), val (vI e.Steps)]), (false, [val (vI n)])] (resRV [(true, [sl (.own 71 1) ((runEngine e n).Store.Segments.map (cVersionS (.own 107 4) (.own 3 1))), val (vI (runEngine e n).Store.Now), val (vI (runEngine e n).Cursor), sl (.own 3 1) ((runEngine e n).Order.map cInt), sl (.own 70 10) ((runEngine e n).Active.map (cActive (.own 41 3) (.own 3 1) (.own 3 1) (.own 45 2) (.own 3 1))), sl (.own 54 7) ((runEngine e n).Done.map (cFinished (.own 41 3) (.own 3 1) (.own 45 2) (.own 3 1))), sl (.own 73 5) ((runEngine e n).Ledger.map (cCharge (.own 3 1) (.own 3 1) (.own 3 1))), val (vI (runEngine e n).Steps)])]) := by
 refine sF Try.func31 fun h0 w0 Fz0 => ?_
 refine sn 0 0 fun hl0_0 => ?_
 refine sn 0 3 fun hl0_3 => ?_
 refine sn 0 4 fun hl0_4 => ?_
 refine sn 0 5 fun hl0_5 => ?_
 refine sn 0 6 fun hl0_6 => ?_
 have hbu := hb
 simp only [wtEngine, wtActiveS, wtFinishedS, wtChargeS] at hbu
 refine zfi ?_
 refine sT [1, 2, 4] [2, 4] ?_
 refine zgb ?_
 refine zgc ?_
 refine sO [(1, _), (2, _), (4, _), (5, _)] [(2, _), (4, _), (5, (32, [sl _ _, val _, val _, sl _ _, sl _ _, sl _ _, sl _ _, val _]))] ?_
 refine sw_reg ?_
 refine zao ?_
 refine sP [1, 2, 4, 5, 6] [2, 4, 5] ?_
 refine sL [1, 2, 4, 5] [2, 4] (fun k : Nat => k ≤ rounds n) (fun k : Nat => [(6, RV.int (k : Int))]) (fun k : Nat => [(5, (32, [sl (.own 71 1) ((runE e k).Store.Segments.map (cVersionS (.own 107 4) (.own 3 1))), val (vI (runE e k).Store.Now), val (vI (runE e k).Cursor), sl (.own 3 1) ((runE e k).Order.map cInt), sl (.own 70 10) ((runE e k).Active.map (cActive (.own 41 3) (.own 3 1) (.own 3 1) (.own 45 2) (.own 3 1))), sl (.own 54 7) ((runE e k).Done.map (cFinished (.own 41 3) (.own 3 1) (.own 45 2) (.own 3 1))), sl (.own 73 5) ((runE e k).Ledger.map (cCharge (.own 3 1) (.own 3 1) (.own 3 1))), val (vI (runE e k).Steps)]))]) (fun k : Nat => rounds n - k) 0 (by omega) (by exact aI (by exact rfl) (tI)) (by exact aI (by exact rfl) (tI)) ?_
 rintro k hk
 have hrw := runE_wt e k
 have hrl := rounds_le n
 refine zap ?_
 refine rM ?_
 refine rA ?_ (x := B_lss)
 refine rM ?_
 refine cx 12 (fun ga sga => ?_) (fun ga sga => ?_)
 refine zgw ?_
 refine rA ?_ (x := pkT ga)
 refine sc (fun hba => ?_) (fun hba => ?_)
 have hlt : k < rounds n := by unfold rounds; first | omega | (simp_all; omega)
 refine za6 ?_
 refine sH [1, 2, 4, 5, 6] [2, 4, 5] ?_
 refine rA ?_ (x := lD [sl .v _, val _, val _, sl .v _, sl .v _, sl .v _, sl .v _, val _] ty_32)
 refine rA ?_ (x := cL [(true, [sl _ _, val _, val _, sl _ _, sl _ _, sl _ _, sl _ _, val _])] [(true, [sl .v _, val _, val _, sl .v _, sl .v _, sl .v _, sl .v _, val _])] c_8 (hs := by exact (impl_StepEngine (e := runE e k) (by omega))))
 refine rA ?_ (x := tM)
 refine zji ?_
 refine sO [(1, _), (2, _), (4, _), (5, _), (6, _)] [(2, _), (4, _), (5, (32, [sl _ _, val _, val _, sl _ _, sl _ _, sl _ _, sl _ _, val _]))] ?_
 refine sw_reg ?_
 refine zie ?_
 exact zjj
 exact zjk
 refine zc2 ?_
 exact zjk
theorem impl_UpdateEngine {p1 p2 p5 p6 p7 p8 p9 p11 p12 p13 p14 p16 p17 p18 : Fl} {e : Engine} {u : Update}  (hb : wtEngine e ≤ 68718000000) (hbu0 : wtUpdate u ≤ 68718000000) : SCall Try.prog 30 [(true, [sl .v (e.Store.Segments.map (cVersionS p1 p2)), val (vI e.Store.Now), val (vI e.Cursor), sl .v (e.Order.map cInt), sl .v (e.Active.map (cActive p5 p6 p7 p8 p9)), sl .v (e.Done.map (cFinished p11 p12 p13 p14)), sl .v (e.Ledger.map (cCharge p16 p17 p18)), val (vI e.Steps)]), (true, [val (vI u.Kind), val (vI u.Row.Id), sl .v (u.Row.Values.map cInt), val (vI u.Field), val (vI u.Value)])] (resRV [(true, [sl (.own 71 1) ((updE e u).1.Store.Segments.map (cVersionS (.own 107 4) (.own 3 1))), val (vI (updE e u).1.Store.Now), val (vI (updE e u).1.Cursor), sl (.own 3 1) ((updE e u).1.Order.map cInt), sl (.own 70 10) ((updE e u).1.Active.map (cActive (.own 41 3) (.own 3 1) (.own 3 1) (.own 45 2) (.own 3 1))), sl (.own 54 7) ((updE e u).1.Done.map (cFinished (.own 41 3) (.own 3 1) (.own 45 2) (.own 3 1))), sl (.own 73 5) ((updE e u).1.Ledger.map (cCharge (.own 3 1) (.own 3 1) (.own 3 1))), val (vI (updE e u).1.Steps)]), (false, [val (.bool (updE e u).2)])]) := by
 refine scall_lo (largs := fun L => [(true, [sl (.lo L) (e.Store.Segments.map (cVersionS (.lo L) (.lo L))), val (vI e.Store.Now), val (vI e.Cursor), sl (.lo L) (e.Order.map cInt), sl (.lo L) (e.Active.map (cActive (.lo L) (.lo L) (.lo L) (.lo L) (.lo L))), sl (.lo L) (e.Done.map (cFinished (.lo L) (.lo L) (.lo L) (.lo L))), sl (.lo L) (e.Ledger.map (cCharge (.lo L) (.lo L) (.lo L))), val (vI e.Steps)]), (true, [val (vI u.Kind), val (vI u.Row.Id), sl (.lo L) (u.Row.Values.map cInt), val (vI u.Field), val (vI u.Value)])]) (rs := [(true, [sl (.own 71 1) ((updE e u).1.Store.Segments.map (cVersionS (.own 107 4) (.own 3 1))), val (vI (updE e u).1.Store.Now), val (vI (updE e u).1.Cursor), sl (.own 3 1) ((updE e u).1.Order.map cInt), sl (.own 70 10) ((updE e u).1.Active.map (cActive (.own 41 3) (.own 3 1) (.own 3 1) (.own 45 2) (.own 3 1))), sl (.own 54 7) ((updE e u).1.Done.map (cFinished (.own 41 3) (.own 3 1) (.own 45 2) (.own 3 1))), sl (.own 73 5) ((updE e u).1.Ledger.map (cCharge (.own 3 1) (.own 3 1) (.own 3 1))), val (vI (updE e u).1.Steps)]), (false, [val (.bool (updE e u).2)])]) Try.func30 rfl (nl rfl) (fun L => by exact (aI (aI rfl (ToBL.cons (PV.tob_map (fun _ => nl rfl) (fun _ => (ToBL.cons (PV.tob_map (fun _ => nl rfl) (fun _ => (ToBL.cons PV.tob_refl (ToBL.cons (PV.tob_map (fun _ => nl rfl) (fun _ => (ToBL.cons PV.tob_refl ToBL.nil))) (ToBL.cons PV.tob_refl (ToBL.cons PV.tob_refl ToBL.nil)))))) ToBL.nil))) (ToBL.cons PV.tob_refl (ToBL.cons PV.tob_refl (ToBL.cons (PV.tob_map (fun _ => nl rfl) (fun _ => (ToBL.cons PV.tob_refl ToBL.nil))) (ToBL.cons (PV.tob_map (fun _ => nl rfl) (fun _ => (ToBL.cons PV.tob_refl (ToBL.cons PV.tob_refl (ToBL.cons (PV.tob_map (fun _ => nl rfl) (fun _ => (ToBL.cons PV.tob_refl (ToBL.cons PV.tob_refl (ToBL.cons PV.tob_refl ToBL.nil))))) (ToBL.cons (PV.tob_map (fun _ => nl rfl) (fun _ => (ToBL.cons PV.tob_refl ToBL.nil))) (ToBL.cons PV.tob_refl (ToBL.cons (PV.tob_map (fun _ => nl rfl) (fun _ => (ToBL.cons PV.tob_refl ToBL.nil))) (ToBL.cons PV.tob_refl (ToBL.cons PV.tob_refl (ToBL.cons PV.tob_refl (ToBL.cons (PV.tob_map (fun _ => nl rfl) (fun _ => (ToBL.cons PV.tob_refl (ToBL.cons (PV.tob_map (fun _ => nl rfl) (fun _ => (ToBL.cons PV.tob_refl ToBL.nil))) ToBL.nil)))) ToBL.nil)))))))))))) (ToBL.cons (PV.tob_map (fun _ => nl rfl) (fun _ => (ToBL.cons PV.tob_refl (ToBL.cons PV.tob_refl (ToBL.cons (PV.tob_map (fun _ => nl rfl) (fun _ => (ToBL.cons PV.tob_refl (ToBL.cons PV.tob_refl (ToBL.cons PV.tob_refl ToBL.nil))))) (ToBL.cons (PV.tob_map (fun _ => nl rfl) (fun _ => (ToBL.cons PV.tob_refl ToBL.nil))) (ToBL.cons PV.tob_refl (ToBL.cons PV.tob_refl (ToBL.cons (PV.tob_map (fun _ => nl rfl) (fun _ => (ToBL.cons PV.tob_refl (ToBL.cons (PV.tob_map (fun _ => nl rfl) (fun _ => (ToBL.cons PV.tob_refl ToBL.nil))) ToBL.nil)))) ToBL.nil))))))))) (ToBL.cons (PV.tob_map (fun _ => nl rfl) (fun _ => (ToBL.cons PV.tob_refl (ToBL.cons PV.tob_refl (ToBL.cons (PV.tob_map (fun _ => nl rfl) (fun _ => (ToBL.cons PV.tob_refl ToBL.nil))) (ToBL.cons (PV.tob_map (fun _ => nl rfl) (fun _ => (ToBL.cons PV.tob_refl ToBL.nil))) (ToBL.cons (PV.tob_map (fun _ => nl rfl) (fun _ => (ToBL.cons PV.tob_refl ToBL.nil))) ToBL.nil))))))) (ToBL.cons PV.tob_refl ToBL.nil))))))))) (aI (aI rfl (ToBL.cons PV.tob_refl (ToBL.cons PV.tob_refl (ToBL.cons (PV.tob_map (fun _ => nl rfl) (fun _ => (ToBL.cons PV.tob_refl ToBL.nil))) (ToBL.cons PV.tob_refl (ToBL.cons PV.tob_refl ToBL.nil)))))) tI))) (fun L => by exact lq) ?_
 intro w0 Fz0
 refine sn 0 0 fun hl0_0 => ?_
 refine sn 0 3 fun hl0_3 => ?_
 refine sn 0 4 fun hl0_4 => ?_
 refine sn 0 5 fun hl0_5 => ?_
 refine sn 0 6 fun hl0_6 => ?_
 refine sn 1 2 fun hl1_2 => ?_
 have hbu := hb
 simp only [wtEngine, wtActiveS, wtFinishedS, wtChargeS] at hbu
 have haw := apply_wt4 e.Store u
 have hww := withS_wt e u
 refine zgo ?_
 refine rX ?_ (x := (loc_box (ag := true) (cs := [val _, val _, sl (.lo _) _, val _, val _]) (by decide) (by exact ⟨⟩)))
 refine zgp ?_
 refine sO [(2, _), (3, _), (4, _), (5, _)] [(2, (32, [sl (.lo _) _, val _, val _, sl (.lo _) _, sl (.lo _) _, sl (.lo _) _, sl (.lo _) _, val _])), (3, (47, [val _, val _, sl (.lo _) _, val _, val _])), (4, (32, [sl _ _, val _, val _, sl _ _, sl _ _, sl _ _, sl _ _, val _]))] ?_
 refine zgq ?_
 refine zgr ?_
 refine sw_seq ?_
 refine sO [(2, _), (3, _), (4, _), (5, _), (6, _)] [(2, _), (3, _), (4, _), (6, (32, [sl _ _, val _, val _, sl _ _, sl _ _, sl _ _, sl _ _, val _]))] ?_
 refine sw_reg ?_
 refine rA ?_ (x := lF fd_32_0)
 refine rA ?_ (x := lD [sl (.lo _) _, val _] ty_26)
 refine rA ?_ (x := lD [val _, val _, sl (.lo _) _, val _, val _] ty_47)
 refine rA ?_ (x := cL [(true, [sl (.lo _) _, val _]), (true, [val _, val _, sl (.lo _) _, val _, val _])] [(true, [sl .v _, val _]), (true, [val _, val _, sl .v _, val _, val _])] c_63 (hs := by exact (impl_ApplyUpdate (by omega) (by omega))))
 refine rA ?_ (x := tM)
 refine zg9 ?_
 refine zjl ?_
 refine rS ?_
 refine zdk ?_
 refine sO [(2, _), (3, _), (4, _), (5, _), (6, _), (7, _), (8, _)] [(2, _), (3, _), (4, _), (6, _), (7, (26, [sl _ _, val _]))] ?_
 refine zgs ?_
 refine zgu ?_
 refine rM ?_
 refine cx 21 (fun ga sga => ?_) (fun ga sga => ?_)
 refine zc4 ?_
 refine scT ?_
 exact zjm
 refine rB ga ?_ (x := sM)
 refine zc6 ?_
 refine sc (fun hba => ?_) (fun hba => ?_)
 exact zjm
 have hok : (okEngine e && (applyU e.Store u).2) = true := by first | (simp_all; done) | (cases h1_ : okEngine e <;> cases h2_ : (applyU e.Store u).2 <;> simp_all)
 refine sw_skip ?_
 refine sS [2, 3, 4, 5, 6, 7, 8] [2, 3, 4, 6, 7] ?_
 refine rA ?_ (x := loc_ltake (ms := [sl _ _, val _]) (qs := [any, val _]) (by decide) ty_26 (fun h => nomatch h) (by exact nl rfl) (by exact rfl) (by exact (ToL.cons PV.to_any (ToL.cons (PV.To.refl _) ToL.nil))) (by exact (BorL.cons (bor_any) (BorL.cons (bor_val _) BorL.nil))))
 refine zga ?_
 refine sw_seq ?_
 refine sO [(2, _), (3, _), (4, _), (5, _), (6, _), (7, _), (8, _)] [(2, _), (3, _), (4, _), (6, (32, [sl _ _, val _, val _, sl _ _, sl _ _, sl _ _, sl _ _, val _])), (7, (26, [any, val _]))] ?_
 refine sw_regL ?_
 refine wA ?_ (x := loc_ltake (ms := [sl _ _, val _, val _, sl _ _, sl _ _, sl _ _, sl _ _, val _]) (qs := [any, val _, val _, any, any, any, any, val _]) (by decide) ty_32 (fun h => nomatch h) (by exact nl rfl) (by exact rfl) (by exact (ToL.cons PV.to_any (ToL.cons (PV.To.refl _) (ToL.cons (PV.To.refl _) (ToL.cons PV.to_any (ToL.cons PV.to_any (ToL.cons PV.to_any (ToL.cons PV.to_any (ToL.cons (PV.To.refl _) ToL.nil))))))))) (by exact lq))
 refine wO [(2, _), (3, _), (4, _), (5, _), (6, _), (7, _), (8, _), (28, _)] [(2, _), (3, _), (4, _), (6, (32, [any, val _, val _, any, any, any, any, val _])), (7, _)] ?_
 refine swl_ocall (L := (Lw w0.heap.size)) (qs := [(true, [sl _ _, val _, val _, sl _ _, sl _ _, sl _ _, sl _ _, val _])]) (as_ := [(true, [sl _ _, val _, val _, sl _ _, sl _ _, sl _ _, sl _ _, val _])]) (by decide) c_27 (by exact ⟨rfl, ⟨⟩⟩) (by exact (aI (by exact ⟨⟩) tI)) (by decide) (by exact lq) (by exact (impl_reclaimed (e := withS e (applyU e.Store u).1) (by omega))) (fun x hx => hx) (by exact lq) (by exact lq) ?_
 refine wA ?_ (x := loc_store (ag := true) (vs := [sl _ _, val _, val _, sl _ _, sl _ _, sl _ _, sl _ _, val _]) ty_32 (by exact ⟨⟩) (by exact rfl) (by exact nl rfl))
 refine wA ?_ (x := kA)
 refine swl_nil ?_
 refine sw_ret ?_
 exact (Exists.intro 4 (Exists.intro _ (aI (by exact rfl) (aI (by refine box_eq ?_; rw [upd_yes hok]; exact rfl) (aI ty_32 (aI (fun h => nomatch h) (aI (by refine bool_eq ?_; rw [upd_yes hok]) tI)))))))
theorem impl_ApplyEvent {p1 p2 p5 p6 p7 p8 p9 p11 p12 p13 p14 p16 p17 p18 : Fl} {e : Engine} {x : Event}  (hb : wtEngine e ≤ 68710000000) (hx : wtEvent x ≤ 68710000000) : SCall Try.prog 9 [(true, [sl .v (e.Store.Segments.map (cVersionS p1 p2)), val (vI e.Store.Now), val (vI e.Cursor), sl .v (e.Order.map cInt), sl .v (e.Active.map (cActive p5 p6 p7 p8 p9)), sl .v (e.Done.map (cFinished p11 p12 p13 p14)), sl .v (e.Ledger.map (cCharge p16 p17 p18)), val (vI e.Steps)]), (true, [val (vI x.Kind), val (vI x.Query.Id), val (vI x.Query.Tenant), sl .v (x.Query.Conds.map cCond), sl .v (x.Query.Out.map cInt), val (vI x.Limit), val (vI x.Id), val (vI x.Update.Kind), val (vI x.Update.Row.Id), sl .v (x.Update.Row.Values.map cInt), val (vI x.Update.Field), val (vI x.Update.Value), val (vI x.Steps)])] (resRV [(true, [sl (.own 71 1) ((evE e x).1.Store.Segments.map (cVersionS (.own 107 4) (.own 3 1))), val (vI (evE e x).1.Store.Now), val (vI (evE e x).1.Cursor), sl (.own 3 1) ((evE e x).1.Order.map cInt), sl (.own 70 10) ((evE e x).1.Active.map (cActive (.own 41 3) (.own 3 1) (.own 3 1) (.own 45 2) (.own 3 1))), sl (.own 54 7) ((evE e x).1.Done.map (cFinished (.own 41 3) (.own 3 1) (.own 45 2) (.own 3 1))), sl (.own 73 5) ((evE e x).1.Ledger.map (cCharge (.own 3 1) (.own 3 1) (.own 3 1))), val (vI (evE e x).1.Steps)]), (false, [val (.bool (evE e x).2)])]) := by
 refine sF Try.func9 fun h0 w0 Fz0 => ?_
 refine sn 0 0 fun hl0_0 => ?_
 refine sn 0 3 fun hl0_3 => ?_
 refine sn 0 4 fun hl0_4 => ?_
 refine sn 0 5 fun hl0_5 => ?_
 refine sn 0 6 fun hl0_6 => ?_
 refine sn 1 3 fun hl1_3 => ?_
 refine sn 1 4 fun hl1_4 => ?_
 refine sn 1 9 fun hl1_9 => ?_
 have hbu := hb
 simp only [wtEngine, wtActiveS, wtFinishedS, wtChargeS] at hbu
 have hbx := hx
 simp only [wtEvent, wtInt] at hbx
 refine zem ?_
 refine rX ?_ (x := (loc_box (ag := true) (cs := [val _, val _, val _, sl _ _, sl _ _, val _, val _, val _, val _, sl _ _, val _, val _, val _]) (by decide) (by exact ⟨⟩)))
 refine zgp ?_
 refine sT [2, 3, 4, 5] [2, 3, 4] ?_
 refine zfp ?_
 refine zbj ?_
 refine cx 9 (fun ga sga => ?_) (fun ga sga => ?_)
 refine zc4 ?_
 refine scT ?_
 exact zjn
 refine rB ga ?_ (x := lD [val _, val _, val _, sl .v _, sl .v _, val _, val _, val _, val _, sl .v _, val _, val _, val _] ty_49)
 refine rB ga ?_ (x := cL [(true, [val _, val _, val _, sl _ _, sl _ _, val _, val _, val _, val _, sl _ _, val _, val _, val _])] [(true, [val _, val _, val _, sl .v _, sl .v _, val _, val _, val _, val _, sl .v _, val _, val _, val _])] c_28 (hs := by exact impl_IsEvent))
 refine zc6 ?_
 refine sc (fun hba => ?_) (fun hba => ?_)
 exact zjn
 have hok : (okEngine e && okEvent x) = true := by first | (simp_all; done) | (cases h1_ : okEngine e <;> cases h2_ : okEvent x <;> simp_all)
 refine zbr ?_
 refine sS [2, 3, 4, 5] [2, 3, 4] ?_
 refine zj8 ?_
 refine sw_block ?_
 refine zjo ?_
 refine sc (fun hbb => ?_) (fun hbb => ?_)
 have hk1 : x.Kind = 1 := by first | exact hbb | simpa using hbb
 refine zjp ?_
 refine zj5 ?_
 refine rA ?_ (x := lF fd_49_2)
 refine rA ?_ (x := lD [val _] ty_3)
 refine rA ?_ (x := cL [(true, [sl _ _, val _, val _, sl _ _, sl _ _, sl _ _, sl _ _, val _]), (true, [val _, val _, sl _ _, sl _ _]), (false, [val _])] [(true, [sl .v _, val _, val _, sl .v _, sl .v _, sl .v _, sl .v _, val _]), (true, [val _, val _, sl .v _, sl .v _]), (false, [val _])] c_7 (hs := by exact (impl_AdmitQuery (by omega) (by omega))))
 exact zjq
 have hk1n : ¬ x.Kind = 1 := by first | exact hbb | simpa using hbb
 refine zjo ?_
 refine sc (fun hbc => ?_) (fun hbc => ?_)
 have hk2 : x.Kind = 2 := by first | exact hbc | simpa using hbc
 refine zjp ?_
 refine rA ?_ (x := lF fd_49_3)
 refine rA ?_ (x := lD [val _] ty_3)
 refine rA ?_ (x := cL [(true, [sl _ _, val _, val _, sl _ _, sl _ _, sl _ _, sl _ _, val _]), (false, [val _])] [(true, [sl .v _, val _, val _, sl .v _, sl .v _, sl .v _, sl .v _, val _]), (false, [val _])] c_29 (hs := by exact (impl_CancelQuery (by omega))))
 exact zjq
 have hk2n : ¬ x.Kind = 2 := by first | exact hbc | simpa using hbc
 refine zjo ?_
 refine sc (fun hbd => ?_) (fun hbd => ?_)
 have hk3 : x.Kind = 3 := by first | exact hbd | simpa using hbd
 refine zjp ?_
 refine zj6 ?_
 refine rA ?_ (x := cL [(true, [sl _ _, val _, val _, sl _ _, sl _ _, sl _ _, sl _ _, val _]), (true, [val _, val _, sl _ _, val _, val _])] [(true, [sl .v _, val _, val _, sl .v _, sl .v _, sl .v _, sl .v _, val _]), (true, [val _, val _, sl .v _, val _, val _])] c_30 (hs := by exact (impl_UpdateEngine (by omega) (by omega))))
 exact zjq
 have hk3n : ¬ x.Kind = 3 := by first | exact hbd | simpa using hbd
 refine sw_skip ?_
 refine zjp ?_
 refine rA ?_ (x := lF fd_49_5)
 refine rA ?_ (x := lD [val _] ty_3)
 refine rA ?_ (x := cL [(true, [sl _ _, val _, val _, sl _ _, sl _ _, sl _ _, sl _ _, val _]), (false, [val _])] [(true, [sl .v _, val _, val _, sl .v _, sl .v _, sl .v _, sl .v _, val _]), (false, [val _])] c_31 (hs := by exact (impl_RunEngine (by omega))))
 refine zjr ?_
 exact zjs
end Go.Proofs.Ytmekkgdboplbjaa
