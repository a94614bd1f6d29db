/- What functions of the program compute. No condition. -/
import Derived.Test.YtmekkgdboplbjaaCZMFnIsolation
import Derived.Test.YtmekkgdboplbjaaCFcFnIsolation
import Derived.Test.YtmekkgdboplbjaaCStaFnIsolation
import Derived.Test.YtmekkgdboplbjaaCPrbFnIsolation
import Derived.Test.YtmekkgdboplbjaaCCpyFnIsolation
import Derived.Test.YtmekkgdboplbjaaCDca
import Derived.Test.YtmekkgdboplbjaaCF2
import Derived.KernelRfl
set_option linter.unusedVariables false
set_option linter.unusedSimpArgs false
namespace Go.Proofs.Ytmekkgdboplbjaa
open Go Go.RowKit M PV
set_option maxRecDepth 10000
attribute [local irreducible] PV.Lcl PV.LclR RV.Lcl
set_option maxHeartbeats 8000000
theorem impl_CancelQuery {p1 p2 p5 p6 p7 p8 p9 p11 p12 p13 p14 p16 p17 p18 : Fl} {e : Engine} {id : Int}  (hb : wtEngine e ≤ 68719000000) : SCall Try.prog 29 [(true, [sl .v (e.Store.Segments.map (cVersionS p1 p2)), val (vI e.Store.Now), val (vI e.Cursor), sl .v (e.Order.map cInt), sl .v (e.Active.map (cActive p5 p6 p7 p8 p9)), sl .v (e.Done.map (cFinished p11 p12 p13 p14)), sl .v (e.Ledger.map (cCharge p16 p17 p18)), val (vI e.Steps)]), (false, [val (vI id)])] (resRV [(true, [sl (.own 71 1) ((cancelE e id).1.Store.Segments.map (cVersionS (.own 107 4) (.own 3 1))), val (vI (cancelE e id).1.Store.Now), val (vI (cancelE e id).1.Cursor), sl (.own 3 1) ((cancelE e id).1.Order.map cInt), sl (.own 70 10) ((cancelE e id).1.Active.map (cActive (.own 41 3) (.own 3 1) (.own 3 1) (.own 45 2) (.own 3 1))), sl (.own 54 7) ((cancelE e id).1.Done.map (cFinished (.own 41 3) (.own 3 1) (.own 45 2) (.own 3 1))), sl (.own 73 5) ((cancelE e id).1.Ledger.map (cCharge (.own 3 1) (.own 3 1) (.own 3 1))), val (vI (cancelE e id).1.Steps)]), (false, [val (.bool (cancelE e id).2)])]) := by
 refine scall_lo (largs := fun L => [(true, [sl (.lo L) (e.Store.Segments.map (cVersionS (.lo L) (.lo L))), val (vI e.Store.Now), val (vI e.Cursor), sl (.lo L) (e.Order.map cInt), sl (.lo L) (e.Active.map (cActive (.lo L) (.lo L) (.lo L) (.lo L) (.lo L))), sl (.lo L) (e.Done.map (cFinished (.lo L) (.lo L) (.lo L) (.lo L))), sl (.lo L) (e.Ledger.map (cCharge (.lo L) (.lo L) (.lo L))), val (vI e.Steps)]), (false, [val (vI id)])]) (rs := [(true, [sl (.own 71 1) ((cancelE e id).1.Store.Segments.map (cVersionS (.own 107 4) (.own 3 1))), val (vI (cancelE e id).1.Store.Now), val (vI (cancelE e id).1.Cursor), sl (.own 3 1) ((cancelE e id).1.Order.map cInt), sl (.own 70 10) ((cancelE e id).1.Active.map (cActive (.own 41 3) (.own 3 1) (.own 3 1) (.own 45 2) (.own 3 1))), sl (.own 54 7) ((cancelE e id).1.Done.map (cFinished (.own 41 3) (.own 3 1) (.own 45 2) (.own 3 1))), sl (.own 73 5) ((cancelE e id).1.Ledger.map (cCharge (.own 3 1) (.own 3 1) (.own 3 1))), val (vI (cancelE e id).1.Steps)]), (false, [val (.bool (cancelE e id).2)])]) Try.func29 rfl (nl rfl) (fun L => by exact (aI (aI rfl (ToBL.cons (PV.tob_map (fun _ => nl rfl) (fun _ => (ToBL.cons (PV.tob_map (fun _ => nl rfl) (fun _ => (ToBL.cons PV.tob_refl (ToBL.cons (PV.tob_map (fun _ => nl rfl) (fun _ => (ToBL.cons PV.tob_refl ToBL.nil))) (ToBL.cons PV.tob_refl (ToBL.cons PV.tob_refl ToBL.nil)))))) ToBL.nil))) (ToBL.cons PV.tob_refl (ToBL.cons PV.tob_refl (ToBL.cons (PV.tob_map (fun _ => nl rfl) (fun _ => (ToBL.cons PV.tob_refl ToBL.nil))) (ToBL.cons (PV.tob_map (fun _ => nl rfl) (fun _ => (ToBL.cons PV.tob_refl (ToBL.cons PV.tob_refl (ToBL.cons (PV.tob_map (fun _ => nl rfl) (fun _ => (ToBL.cons PV.tob_refl (ToBL.cons PV.tob_refl (ToBL.cons PV.tob_refl ToBL.nil))))) (ToBL.cons (PV.tob_map (fun _ => nl rfl) (fun _ => (ToBL.cons PV.tob_refl ToBL.nil))) (ToBL.cons PV.tob_refl (ToBL.cons (PV.tob_map (fun _ => nl rfl) (fun _ => (ToBL.cons PV.tob_refl ToBL.nil))) (ToBL.cons PV.tob_refl (ToBL.cons PV.tob_refl (ToBL.cons PV.tob_refl (ToBL.cons (PV.tob_map (fun _ => nl rfl) (fun _ => (ToBL.cons PV.tob_refl (ToBL.cons (PV.tob_map (fun _ => nl rfl) (fun _ => (ToBL.cons PV.tob_refl ToBL.nil))) ToBL.nil)))) ToBL.nil)))))))))))) (ToBL.cons (PV.tob_map (fun _ => nl rfl) (fun _ => (ToBL.cons PV.tob_refl (ToBL.cons PV.tob_refl (ToBL.cons (PV.tob_map (fun _ => nl rfl) (fun _ => (ToBL.cons PV.tob_refl (ToBL.cons PV.tob_refl (ToBL.cons PV.tob_refl ToBL.nil))))) (ToBL.cons (PV.tob_map (fun _ => nl rfl) (fun _ => (ToBL.cons PV.tob_refl ToBL.nil))) (ToBL.cons PV.tob_refl (ToBL.cons PV.tob_refl (ToBL.cons (PV.tob_map (fun _ => nl rfl) (fun _ => (ToBL.cons PV.tob_refl (ToBL.cons (PV.tob_map (fun _ => nl rfl) (fun _ => (ToBL.cons PV.tob_refl ToBL.nil))) ToBL.nil)))) ToBL.nil))))))))) (ToBL.cons (PV.tob_map (fun _ => nl rfl) (fun _ => (ToBL.cons PV.tob_refl (ToBL.cons PV.tob_refl (ToBL.cons (PV.tob_map (fun _ => nl rfl) (fun _ => (ToBL.cons PV.tob_refl ToBL.nil))) (ToBL.cons (PV.tob_map (fun _ => nl rfl) (fun _ => (ToBL.cons PV.tob_refl ToBL.nil))) (ToBL.cons (PV.tob_map (fun _ => nl rfl) (fun _ => (ToBL.cons PV.tob_refl ToBL.nil))) ToBL.nil))))))) (ToBL.cons PV.tob_refl ToBL.nil))))))))) (aI (aI rfl (ToBL.cons PV.tob_refl ToBL.nil)) tI))) (fun L => by exact lq) ?_
 intro w0 Fz0
 refine sn 0 0 fun hl0_0 => ?_
 refine sn 0 3 fun hl0_3 => ?_
 refine sn 0 4 fun hl0_4 => ?_
 refine sn 0 5 fun hl0_5 => ?_
 refine sn 0 6 fun hl0_6 => ?_
 have hbu := hb
 simp only [wtEngine, wtActiveS, wtFinishedS, wtChargeS] at hbu
 refine zgo ?_
 refine zgp ?_
 refine sO [(1, _), (2, _), (4, _), (5, _)] [(2, (32, [sl (.lo _) _, val _, val _, sl (.lo _) _, sl (.lo _) _, sl (.lo _) _, sl (.lo _) _, val _])), (4, (32, [sl _ _, val _, val _, sl _ _, sl _ _, sl _ _, sl _ _, val _]))] ?_
 refine zgq ?_
 refine zgr ?_
 refine sw_seq ?_
 refine sO [(1, _), (2, _), (4, _), (5, _), (6, _)] [(2, _), (4, _), (6, (32, [sl _ _, val _, val _, sl _ _, sl _ _, sl _ _, sl _ _, val _]))] ?_
 refine zgs ?_
 refine rM ?_
 refine zgt ?_
 refine sS [1, 2, 4, 5, 6, 7] [2, 4, 6] ?_
 refine rA ?_ (x := lD [sl (.lo _) _, val _, val _, sl (.lo _) _, sl (.lo _) _, sl (.lo _) _, sl (.lo _) _, val _] ty_32)
 refine zgu ?_
 refine rM ?_
 refine cx 16 (fun ga sga => ?_) (fun ga sga => ?_)
 refine zc4 ?_
 refine scT ?_
 exact zgv
 refine zgw ?_
 refine rA ?_ (x := pkF ga)
 refine sc (fun hba => ?_) (fun hba => ?_)
 exact zgv
 have hoe : okEngine e = true := by simp_all
 have hge : 0 ≤ findA e.Active id := by first | omega | (simp_all; omega)
 have hok : cancelOk e id = true := by unfold cancelOk; rw [hoe, decide_eq_true hge]; rfl
 obtain ⟨i, hi, hf⟩ := findA_ge hge
 have hef := eng_facts hoe
 have hdw := delE_wt hi
 have hdl := delZ_len hi
 refine zbr ?_
 refine sP [1, 2, 4, 5, 6, 7] [2, 4, 6] ?_
 refine sw_thawB (d := 6) (t := 32) (D := 900) (G := 2900) (E := 70) (e := 10) (L := (Lw w0.heap.size)) (A := [sl _ _, val _, val _, sl _ _]) (B := [sl _ _, sl _ _, val _]) (es := (e.Active).map (cActive (.own 41 3) (.own 3 1) (.own 3 1) (.own 45 2) (.own 3 1))) (by exact rfl) (map_ne hi) (by exact rfl) (by exact rfl) rfl (by exact rfl) (fun x hx => hx) (by exact lq) (by exact lq) (by exact lq) (by exact lq) (LclC.map fun x => (LclC.cons lcl_val (LclC.cons lcl_val (LclC.cons (lcl_own (LclC.map fun x => (LclC.cons lcl_val (LclC.cons lcl_val (LclC.cons lcl_val LclC.nil))))) (LclC.cons (lcl_own (LclC.map fun x => (LclC.cons lcl_val LclC.nil))) (LclC.cons lcl_val (LclC.cons (lcl_own (LclC.map fun x => (LclC.cons lcl_val LclC.nil))) (LclC.cons lcl_val (LclC.cons lcl_val (LclC.cons lcl_val (LclC.cons (lcl_own (LclC.map fun x => (LclC.cons lcl_val (LclC.cons (lcl_own (LclC.map fun x => (LclC.cons lcl_val LclC.nil))) LclC.nil)))) LclC.nil))))))))))) fun uu900 cp900 jk900 hlD900 hcp900 hjk900 => ?_
 rw [List.length_map] at hlD900 hcp900 hjk900
 refine sw_boxEq (d := 900) (by exact rfl) (show _ = arr (cActive (.own 41 3) (.own 3 1) (.own 3 1) (.own 45 2) (.own 3 1)) (e.Active) jk900 from rfl) ?_
 refine sO [(1, _), (2, _), (4, _), (5, _), (6, _), (7, _), (2900, _)] [(2, _), (4, _), (6, (32, [sl _ _, val _, val _, sl _ _, val _, sl _ _, sl _ _, val _])), (900, (70, arr (cActive (.own 41 3) (.own 3 1) (.own 3 1) (.own 45 2) (.own 3 1)) _ _))] ?_
 refine sw_lendA (d := 900) (G := 4900) (e := 10) (f := (cActive (.own 41 3) (.own 3 1) (.own 3 1) (.own 45 2) (.own 3 1))) (g := (fun z : Active => [val (vI z.Query.Id), val (vI z.Query.Tenant), sl .v (z.Query.Conds.map cCond), sl .v (z.Query.Out.map cInt), val (vI z.Time), sl .v (z.Todo.map cInt), val (vI z.Age), val (vI z.Sent), val (vI z.Cap), sl .v (z.Rows.map (cRow (.own 3 1)))])) (fN := nAct) (by exact rfl) (by exact rfl) (fun _ _ => rfl) (fun _ => rfl) (fun _ => (ToL.cons (PV.To.refl _) (ToL.cons (PV.To.refl _) (ToL.cons PV.to_none (ToL.cons PV.to_none (ToL.cons (PV.To.refl _) (ToL.cons PV.to_none (ToL.cons (PV.To.refl _) (ToL.cons (PV.To.refl _) (ToL.cons (PV.To.refl _) (ToL.cons PV.to_none ToL.nil))))))))))) (fun _ => (by exact lq)) fun zs900 hz900 => ?_
 refine sO [(1, _), (2, _), (4, _), (5, _), (6, _), (7, _), (2900, _), (4900, _)] [(2, _), (4, _), (6, _), (900, (70, arr nAct _ _))] ?_
 refine sw_draw hm_ ?_
 refine dA 0 ?_ (x := lF fd_32_3)
 refine dA 1 ?_ (x := lD [val _] ty_28)
 refine dA 0 ?_ (x := sM)
 refine dA 7 ?_ (x := loc_gsl (G := 2900) (i := 0) (j := i) (q := (0 : Int)) (by decide) sl_28 (by exact rfl) (by exact ⟨⟩) (by rfl) (by omega) (by omega) (by rw [List.length_map]; omega))
 refine dA 0 ?_ (x := lF fd_32_3)
 refine dA 16 ?_ (x := lD [val _] ty_28)
 refine dA 0 ?_ (x := sM)
 refine dA 64 ?_ (x := B_add)
 refine dA 240 ?_ (x := loc_gsl (G := 2900) (i := (i + 1)) (j := (e.Active.map (cActive (.own 41 3) (.own 3 1) (.own 3 1) (.own 45 2) (.own 3 1))).length) (r := (((e.Active.map (cActive (.own 41 3) (.own 3 1) (.own 3 1) (.own 45 2) (.own 3 1))).length : Nat) : Int)) (by decide) sl_28 (by exact ⟨⟩) (by exact rfl) (by omega) (by rfl) (by rw [List.length_map]; omega) (by omega))
 refine dA 511 ?_ (x := loc_gdel (G := 2900) (D := 900) (i := i) (g := (fun z : Active => [val (vI z.Query.Id), val (vI z.Query.Tenant), sl .v (z.Query.Conds.map cCond), sl .v (z.Query.Out.map cInt), val (vI z.Time), sl .v (z.Todo.map cInt), val (vI z.Age), val (vI z.Sent), val (vI z.Cap), sl .v (z.Rows.map (cRow (.own 3 1)))])) (fN := nAct) (by decide) sl_28 (by decide) (fun _ _ => rfl) (fun _ => rfl) (fun _ => (by exact lq)) (by rw [List.length_map, ← hz900, List.length_map]) (by rw [List.length_map]; exact hi) (by rw [List.length_map]; exact hjk900) (by exact rfl))
 refine dA 1023 ?_ (x := lF fd_32_3)
 refine dA 2047 ?_ (x := loc_store (ag := false) (vs := [val _]) ty_28 (by exact ⟨⟩) (by exact rfl) (by exact nl rfl))
 refine sw_backAp (d := 900) (G := 4900) (e := 10) (f := (cActive (.own 41 3) (.own 3 1) (.own 3 1) (.own 45 2) (.own 3 1))) (g := (fun z : Active => [val (vI z.Query.Id), val (vI z.Query.Tenant), sl .v (z.Query.Conds.map cCond), sl .v (z.Query.Out.map cInt), val (vI z.Time), sl .v (z.Todo.map cInt), val (vI z.Age), val (vI z.Sent), val (vI z.Cap), sl .v (z.Rows.map (cRow (.own 3 1)))])) (fN := nAct) [zs900[i]'(by rw [← hz900, List.length_map] at hi; exact hi)] (delZ e.Active i) (by exact rfl) (by exact rfl) (fun _ _ => rfl) (fun _ => rfl) (fun _ => rfl) (by exact delZ_perm (by rw [← hz900, List.length_map] at hi; exact hi)) (by exact delZ_map hz900) ?_
 refine sw_frzIn (d := 6) (D := 900) (G := 2900) (e := 10) (A := [sl _ _, val _, val _, sl _ _]) (B := [sl _ _, sl _ _, val _]) (es := ((delZ e.Active i)).map (cActive (.own 41 3) (.own 3 1) (.own 3 1) (.own 45 2) (.own 3 1))) (by exact rfl) (by exact rfl) (by exact rfl) rfl (by rw [List.length_map, hdl, List.length_map]) (by intro c hc; obtain ⟨y, _, rfl⟩ := List.mem_map.1 hc; exact rfl) (by exact delJ_len (by rw [List.length_map, ← hz900, List.length_map]) (by rw [List.length_map]; omega) (by rw [List.length_map]; exact hjk900)) ?_
 refine sw_seq ?_
 refine sO [(1, _), (2, _), (4, _), (5, _), (6, _), (7, _)] [(2, _), (4, _), (6, (32, [sl _ _, val _, val _, sl _ _, sl _ _, sl _ _, sl _ _, val _]))] ?_
 refine sw_regL ?_
 refine wA ?_ (x := loc_ltake (ms := [sl _ _, val _, val _, sl _ _, sl _ _, sl _ _, sl _ _, val _]) (qs := [any, val _, val _, any, any, any, any, val _]) (by decide) ty_32 (fun h => nomatch h) (by exact nl rfl) (by exact rfl) (by exact (ToL.cons PV.to_any (ToL.cons (PV.To.refl _) (ToL.cons (PV.To.refl _) (ToL.cons PV.to_any (ToL.cons PV.to_any (ToL.cons PV.to_any (ToL.cons PV.to_any (ToL.cons (PV.To.refl _) ToL.nil))))))))) (by exact lq))
 refine wO [(1, _), (2, _), (4, _), (5, _), (6, _), (7, _), (32, _)] [(2, _), (4, _), (6, (32, [any, val _, val _, any, any, any, any, val _]))] ?_
 refine swl_ocall (L := (Lw w0.heap.size)) (qs := [(true, [sl _ _, val _, val _, sl _ _, sl _ _, sl _ _, sl _ _, val _])]) (as_ := [(true, [sl _ _, val _, val _, sl _ _, sl _ _, sl _ _, sl _ _, val _])]) (by decide) c_27 (by exact ⟨rfl, ⟨⟩⟩) (by exact (aI (by exact ⟨⟩) tI)) (by decide) (by exact lq) (by exact (impl_reclaimed (e := delE e i) (by omega))) (fun x hx => hx) (by exact lq) (by exact lq) ?_
 refine wA ?_ (x := loc_store (ag := true) (vs := [sl _ _, val _, val _, sl _ _, sl _ _, sl _ _, sl _ _, val _]) ty_32 (by exact ⟨⟩) (by exact rfl) (by exact nl rfl))
 refine wA ?_ (x := kA)
 refine swl_nil ?_
 refine sw_ret ?_
 exact (Exists.intro 4 (Exists.intro _ (aI (by exact rfl) (aI (by refine box_eq ?_; rw [cancel_at hok hf]; exact rfl) (aI ty_32 (aI (fun h => nomatch h) (aI (by refine bool_eq ?_; rw [cancel_at hok hf]) tI)))))))
end Go.Proofs.Ytmekkgdboplbjaa
