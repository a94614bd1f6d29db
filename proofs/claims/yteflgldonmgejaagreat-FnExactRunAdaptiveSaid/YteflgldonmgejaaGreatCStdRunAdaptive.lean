/- What functions of the program compute. No condition. -/
import Derived.Test.YteflgldonmgejaaGreatCZMRunAdaptive
import Derived.Test.YteflgldonmgejaaGreatCFcRunAdaptive
import Derived.Test.YteflgldonmgejaaGreatCStcRunAdaptive
import Derived.KernelRfl
set_option linter.unusedVariables false
set_option linter.unusedSimpArgs false
namespace Go.Proofs.YteflgldonmgejaaGreat
open Go Go.RowKit M PV
set_option maxRecDepth 10000
attribute [local irreducible] PV.Lcl PV.LclR RV.Lcl
set_option maxHeartbeats 8000000
theorem FStd_pl_144 : placesI Tryz.prog 144 = some [(0, 4), (4, 1), (5, 1), (6, 1)] := by kernel_rfl
theorem spec_l11Step {e : Engine}  (hoe : okEngine e = true) (hst : e.Steps < 100000) (hld : (e.Ledger.length : Int) < 1000) (hda : (e.Done.length : Int) + (e.Active.length : Int) ≤ 1000) (hb : wtEngine e ≤ 68719000000) : XCall Tryz.prog 142 40 [sl (.own 149 1) (e.Store.Segments.map (cVersionS (.own 151 4) (.own 3 1))), val (vI e.Store.Now), val (vI e.Cursor), sl (.own 3 1) (e.Order.map cInt), sl (.own 142 10) (e.Active.map (cActive (.own 193 3) (.own 3 1) (.own 3 1) (.own 66 2) (.own 3 1))), sl (.own 144 7) (e.Done.map (cFinished (.own 193 3) (.own 3 1) (.own 66 2) (.own 3 1))), sl (.own 148 5) (e.Ledger.map (cCharge (.own 3 1) (.own 3 1) (.own 3 1))), val (vI e.Steps)] [sl (.own 149 1) ((reclaimE (stepE e)).Store.Segments.map (cVersionS (.own 151 4) (.own 3 1))), val (vI (reclaimE (stepE e)).Store.Now), val (vI (reclaimE (stepE e)).Cursor), sl (.own 3 1) ((reclaimE (stepE e)).Order.map cInt), sl (.own 142 10) ((reclaimE (stepE e)).Active.map (cActive (.own 193 3) (.own 3 1) (.own 3 1) (.own 66 2) (.own 3 1))), sl (.own 144 7) ((reclaimE (stepE e)).Done.map (cFinished (.own 193 3) (.own 3 1) (.own 66 2) (.own 3 1))), sl (.own 148 5) ((reclaimE (stepE e)).Ledger.map (cCharge (.own 3 1) (.own 3 1) (.own 3 1))), val (vI (reclaimE (stepE e)).Steps)] [] (resRV []) := by
 refine xcall_of (rs := []) Tryz.func142 rfl (nl rfl) (nl rfl) ?_
 intro g_ h0 w0 Fz0
 have hef := eng_facts hoe
 have hcl : e.Cursor.toNat < e.Store.Segments.length := hef.2.2.2.1
 have hpl := parts_len (e := e)
 have hswt := step_wt hoe
 obtain ⟨hs8, hs1, _, _, _, _⟩ := sto_facts hef.1
 have hbu := hb
 simp only [wtEngine, wtActiveS, wtFinishedS, wtChargeS] at hbu
 refine sR ?_
 refine zod ?_
 refine zoy ?_
 refine zi5 ?_
 refine sT [0, 2, 5000] [0] ?_
 refine zb0 ?_
 refine rA ?_ (x := B_gtr)
 refine sc (fun hba => ?_) (fun hba => ?_)
 have hled : ledTo e (parts e).length = e.Ledger ++ [scgTo e (parts e).length] := by unfold ledTo; rw [if_neg (by omega)]
 refine sP [0, 2, 5000] [0] ?_
 refine sw_regL ?_
 refine wA ?_ (x := cM Cp.ptr)
 refine wA ?_ (x := tM)
 refine wO [(0, _), (14, _), (15, _), (5000, _)] [(0, _)] ?_
 refine swl_xcall (bx := 0) (L := L0w) (qs := [(false, [sl _ _])]) (as_ := [(false, [sl _ _])]) (by decide) c_207 rfl (by exact rfl) (by exact rfl) (by exact ⟨rfl, ⟨⟩⟩) (by exact (aI (by exact ⟨⟩) tI)) (by decide) (by exact (aI (aI rfl (OwnTo.cons OTo.refl OwnTo.nil)) tI)) (by exact (spec_l11Scan (e := e) rfl hoe (by omega))) (fun x hx => hx.elim) (by exact lq) (by exact (aI (.inl rfl) tI)) ?_
 refine swl_nil ?_
 refine sT [0, 5000] [0] ?_
 refine zod ?_
 refine rA ?_ (x := lF fd_40_0)
 refine zhy ?_
 refine rS ?_
 refine sS [0, 3, 5000] [0] ?_
 refine zpu ?_
 refine sw_seq ?_
 refine sS [0, 3, 4, 5000] [0] ?_
 refine zhx ?_
 refine sP [0, 3, 4, 5, 5000] [0] ?_
 refine sw_boxEq (d := 0) (by exact rfl) (show _ = [sl (.own 149 1) (e.Store.Segments.map (cVersionS (.own 151 4) (.own 3 1))), val (vI e.Store.Now), val (vI e.Cursor), sl (.own 3 1) (e.Order.map cInt), sl (.own 142 10) ((servedTo e (parts e).length).map (cActive (.own 193 3) (.own 3 1) (.own 3 1) (.own 66 2) (.own 3 1))), sl (.own 144 7) (e.Done.map (cFinished (.own 193 3) (.own 3 1) (.own 66 2) (.own 3 1))), sl (.own 148 5) ((ledTo e (parts e).length).map (cCharge (.own 3 1) (.own 3 1) (.own 3 1))), val (vI e.Steps)] from by first | (rw [hled]; done) | (rw [hled]; exact rfl) | (rw [hled, hsv]; done) | (rw [hled, hsv]; exact rfl)) ?_
 refine sP [0, 3, 4, 5, 5000] [0] ?_
 refine sw_lendEB (d := 0) (t := 142) (e := 10) (G := 6200) (A := [sl _ _, val _, val _, sl _ _]) (B := [sl _ _, sl _ _, val _]) (f := (cActive (.own 193 3) (.own 3 1) (.own 3 1) (.own 66 2) (.own 3 1))) (g := (fun z : Active => [val (vI z.Query.Id), val (vI z.Query.Tenant), sl .v (z.Query.Conds.map cCond), sl .v (z.Query.Out.map cInt), val (vI z.Time), sl .v (z.Todo.map cInt), val (vI z.Age), val (vI z.Sent), val (vI z.Cap), sl .v (z.Rows.map (cRow (.own 3 1)))])) (fN := nAct) (xs := (servedTo e (parts e).length)) (by exact rfl) (by exact rfl) (fun _ _ => rfl) (fun _ => rfl) (fun _ => (ToL.cons (PV.To.refl _) (ToL.cons (PV.To.refl _) (ToL.cons PV.to_none (ToL.cons PV.to_none (ToL.cons (PV.To.refl _) (ToL.cons PV.to_none (ToL.cons (PV.To.refl _) (ToL.cons (PV.To.refl _) (ToL.cons (PV.To.refl _) (ToL.cons PV.to_none ToL.nil))))))))))) (fun _ => (by exact lq)) fun za hza => ?_
 have hzal : za.length = e.Active.length := by rw [← List.length_map (f := Prod.fst), hza, servedTo_len]
 refine sQ [0, 3, 4, 5, 5000, 6200] [0] ?_
 refine sL [0, 3, 5000] [] (fun m : Nat => m ≤ e.Active.length) (fun m : Nat => [(4, RV.slc (.own 142 10) ((restTo e (parts e).length m).map (cActive (.own 193 3) (.own 3 1) (.own 3 1) (.own 66 2) (.own 3 1)))), (5, RV.int (m : Int)), (6200, RV.gh (valsE 10 (za.drop m)) (flatM (cActive (.own 193 3) (.own 3 1) (.own 3 1) (.own 66 2) (.own 3 1)) (za.drop m)))]) (fun m : Nat => [(0, (40, [sl (.own 149 1) (e.Store.Segments.map (cVersionS (.own 151 4) (.own 3 1))), val (vI e.Store.Now), val (vI e.Cursor), sl (.own 3 1) (e.Order.map cInt), sl .v (za.map nAct), sl (.own 144 7) ((e.Done ++ doneTo e (parts e).length m).map (cFinished (.own 193 3) (.own 3 1) (.own 66 2) (.own 3 1))), sl (.own 148 5) ((ledTo e (parts e).length).map (cCharge (.own 3 1) (.own 3 1) (.own 3 1))), val (vI e.Steps)]))]) (fun m : Nat => e.Active.length - m) 0 (by omega) (by exact aI (by exact rfl) (aI (by exact rfl) (aI (by exact rfl) (tI)))) (by exact aI (by show _ = some (40, [sl (.own 149 1) (e.Store.Segments.map (cVersionS (.own 151 4) (.own 3 1))), val (vI e.Store.Now), val (vI e.Cursor), sl (.own 3 1) (e.Order.map cInt), sl .v (za.map nAct), sl (.own 144 7) ((e.Done ++ doneTo e (parts e).length 0).map (cFinished (.own 193 3) (.own 3 1) (.own 66 2) (.own 3 1))), sl (.own 148 5) ((ledTo e (parts e).length).map (cCharge (.own 3 1) (.own 3 1) (.own 3 1))), val (vI e.Steps)]); rw [show doneTo e (parts e).length 0 = [] from rfl, List.append_nil]; exact rfl) (tI)) ?_
 rintro m hm
 have hrl2 := rest_le (e := e) (k := (parts e).length) (m := m)
 have hdl2 := done_le (e := e) (k := (parts e).length) (m := m)
 refine zg2 ?_
 refine zod ?_
 refine zmf ?_
 refine sc (fun hbb => ?_) (fun hbb => ?_)
 have hltm : m < e.Active.length := by omega
 have hltz : m < za.length := by omega
 have hm2 : m < (servedTo e (parts e).length).length := by rw [servedTo_len]; exact hltm
 have hm1 : m < (agedL e (parts e).length).length := by rw [agedL_len]; exact hltm
 have hz3 : za[m].1 = (servedTo e (parts e).length)[m] := by simp [← hza]
 have hab := served_b hoe hltm hm2
 rw [← hz3] at hab
 refine zed ?_
 refine sT [0, 3, 4, 5, 5000, 6200] [0] ?_
 refine zod ?_
 refine zdo ?_
 refine rM ?_
 refine zq9 ?_
 refine zqa ?_
 refine sO [(0, _), (3, _), (4, _), (5, _), (6, _), (5000, _), (6200, _)] [(0, _), (6, (142, [nv _ (val _), nv _ (val _), nv _ (sl _ _), nv _ (sl _ _), nv _ (val _), nv _ (sl _ _), nv _ (val _), nv _ (val _), nv _ (val _), nv _ (sl _ _)]))] ?_
 refine zqb ?_
 refine zqc ?_
 refine zdg ?_
 refine rA ?_ (x := B_add)
 refine zbv ?_
 refine sw_seq ?_
 refine zqc ?_
 refine zdg ?_
 refine rM ?_
 refine zqd ?_
 refine sc (fun hbc => ?_) (fun hbc => ?_)
 have hga : (agedL e (parts e).length)[m] = (⟨za[m].1.Query, za[m].1.Time, za[m].1.Todo, za[m].1.Age + 1, 0, za[m].1.Cap, za[m].1.Rows⟩ : Active) := by rw [agedL_get hm1 hm2, ← hz3]; exact aged_yes hbc
 refine sG [0, 3, 4, 5, 6, 5000, 6200] [0, 6] ?_
 refine zqe ?_
 refine sw_seq ?_
 refine zqc ?_
 exact zqf
 have hga : (agedL e (parts e).length)[m] = (⟨za[m].1.Query, za[m].1.Time, za[m].1.Todo, za[m].1.Age + 1, za[m].1.Sent, za[m].1.Cap, za[m].1.Rows⟩ : Active) := by rw [agedL_get hm1 hm2, ← hz3]; exact aged_no hbc
 refine sw_skip ?_
 refine sS [0, 3, 4, 5, 6, 5000, 6200] [0, 6] ?_
 exact zqf
 have hend2 : m = e.Active.length := by omega
 subst hend2
 refine sw_exit ?_
 refine sT [0, 3, 4, 5, 5000, 6200] [0] ?_
 refine rA ?_ (x := cM Cp.ptr)
 refine rA ?_ (x := tM)
 refine rA ?_ (x := loc_nilchk (by decide))
 refine zc9 ?_
 refine sT [0, 3, 5, 5000, 6200] [0] ?_
 refine zqg ?_
 refine zdn ?_
 refine zfp ?_
 refine zqh ?_
 refine zqi ?_
 refine sT [0, 3, 5, 5000, 6200] [0] ?_
 refine zqg ?_
 refine zdr ?_
 refine rA ?_ (x := B_add)
 refine rA ?_ (x := loc_nilchk (by decide))
 refine zqj ?_
 refine sQ [0, 3, 5, 5000] [0] ?_
 refine sw_regL ?_
 refine wA ?_ (x := cM Cp.ptr)
 refine wO [(0, _), (3, _), (5, _), (98, _), (5000, _)] [(0, _)] ?_
 exact zqk
 have hled : ledTo e (parts e).length = e.Ledger := by unfold ledTo; rw [if_pos (by omega)]
 have hsv : (servedTo e (parts e).length) = e.Active := by rw [show (parts e).length = 0 by omega]; exact servedTo_zero
 refine sw_skip ?_
 refine sS [0, 2, 5000] [0] ?_
 refine zod ?_
 refine rA ?_ (x := lF fd_40_0)
 refine zhy ?_
 refine rS ?_
 refine sS [0, 2, 3, 5000] [0] ?_
 refine zpu ?_
 refine sw_seq ?_
 refine sS [0, 2, 3, 4, 5000] [0] ?_
 refine zhx ?_
 refine sP [0, 2, 3, 4, 5, 5000] [0] ?_
 refine sw_boxEq (d := 0) (by exact rfl) (show _ = [sl (.own 149 1) (e.Store.Segments.map (cVersionS (.own 151 4) (.own 3 1))), val (vI e.Store.Now), val (vI e.Cursor), sl (.own 3 1) (e.Order.map cInt), sl (.own 142 10) ((servedTo e (parts e).length).map (cActive (.own 193 3) (.own 3 1) (.own 3 1) (.own 66 2) (.own 3 1))), sl (.own 144 7) (e.Done.map (cFinished (.own 193 3) (.own 3 1) (.own 66 2) (.own 3 1))), sl (.own 148 5) ((ledTo e (parts e).length).map (cCharge (.own 3 1) (.own 3 1) (.own 3 1))), val (vI e.Steps)] from by first | (rw [hled]; done) | (rw [hled]; exact rfl) | (rw [hled, hsv]; done) | (rw [hled, hsv]; exact rfl)) ?_
 refine sP [0, 2, 3, 4, 5, 5000] [0] ?_
 refine sw_lendEB (d := 0) (t := 142) (e := 10) (G := 6200) (A := [sl _ _, val _, val _, sl _ _]) (B := [sl _ _, sl _ _, val _]) (f := (cActive (.own 193 3) (.own 3 1) (.own 3 1) (.own 66 2) (.own 3 1))) (g := (fun z : Active => [val (vI z.Query.Id), val (vI z.Query.Tenant), sl .v (z.Query.Conds.map cCond), sl .v (z.Query.Out.map cInt), val (vI z.Time), sl .v (z.Todo.map cInt), val (vI z.Age), val (vI z.Sent), val (vI z.Cap), sl .v (z.Rows.map (cRow (.own 3 1)))])) (fN := nAct) (xs := (servedTo e (parts e).length)) (by exact rfl) (by exact rfl) (fun _ _ => rfl) (fun _ => rfl) (fun _ => (ToL.cons (PV.To.refl _) (ToL.cons (PV.To.refl _) (ToL.cons PV.to_none (ToL.cons PV.to_none (ToL.cons (PV.To.refl _) (ToL.cons PV.to_none (ToL.cons (PV.To.refl _) (ToL.cons (PV.To.refl _) (ToL.cons (PV.To.refl _) (ToL.cons PV.to_none ToL.nil))))))))))) (fun _ => (by exact lq)) fun za hza => ?_
 have hzal : za.length = e.Active.length := by rw [← List.length_map (f := Prod.fst), hza, servedTo_len]
 refine sQ [0, 2, 3, 4, 5, 5000, 6200] [0] ?_
 refine sL [0, 2, 3, 5000] [] (fun m : Nat => m ≤ e.Active.length) (fun m : Nat => [(4, RV.slc (.own 142 10) ((restTo e (parts e).length m).map (cActive (.own 193 3) (.own 3 1) (.own 3 1) (.own 66 2) (.own 3 1)))), (5, RV.int (m : Int)), (6200, RV.gh (valsE 10 (za.drop m)) (flatM (cActive (.own 193 3) (.own 3 1) (.own 3 1) (.own 66 2) (.own 3 1)) (za.drop m)))]) (fun m : Nat => [(0, (40, [sl (.own 149 1) (e.Store.Segments.map (cVersionS (.own 151 4) (.own 3 1))), val (vI e.Store.Now), val (vI e.Cursor), sl (.own 3 1) (e.Order.map cInt), sl .v (za.map nAct), sl (.own 144 7) ((e.Done ++ doneTo e (parts e).length m).map (cFinished (.own 193 3) (.own 3 1) (.own 66 2) (.own 3 1))), sl (.own 148 5) ((ledTo e (parts e).length).map (cCharge (.own 3 1) (.own 3 1) (.own 3 1))), val (vI e.Steps)]))]) (fun m : Nat => e.Active.length - m) 0 (by omega) (by exact aI (by exact rfl) (aI (by exact rfl) (aI (by exact rfl) (tI)))) (by exact aI (by show _ = some (40, [sl (.own 149 1) (e.Store.Segments.map (cVersionS (.own 151 4) (.own 3 1))), val (vI e.Store.Now), val (vI e.Cursor), sl (.own 3 1) (e.Order.map cInt), sl .v (za.map nAct), sl (.own 144 7) ((e.Done ++ doneTo e (parts e).length 0).map (cFinished (.own 193 3) (.own 3 1) (.own 66 2) (.own 3 1))), sl (.own 148 5) ((ledTo e (parts e).length).map (cCharge (.own 3 1) (.own 3 1) (.own 3 1))), val (vI e.Steps)]); rw [show doneTo e (parts e).length 0 = [] from rfl, List.append_nil]; exact rfl) (tI)) ?_
 rintro m hm
 have hrl2 := rest_le (e := e) (k := (parts e).length) (m := m)
 have hdl2 := done_le (e := e) (k := (parts e).length) (m := m)
 refine zg2 ?_
 refine zod ?_
 refine zmf ?_
 refine sc (fun hbb => ?_) (fun hbb => ?_)
 have hltm : m < e.Active.length := by omega
 have hltz : m < za.length := by omega
 have hm2 : m < (servedTo e (parts e).length).length := by rw [servedTo_len]; exact hltm
 have hm1 : m < (agedL e (parts e).length).length := by rw [agedL_len]; exact hltm
 have hz3 : za[m].1 = (servedTo e (parts e).length)[m] := by simp [← hza]
 have hab := served_b hoe hltm hm2
 rw [← hz3] at hab
 refine zed ?_
 refine sT [0, 2, 3, 4, 5, 5000, 6200] [0] ?_
 refine zod ?_
 refine zdo ?_
 refine rM ?_
 refine zq9 ?_
 refine zqa ?_
 refine sO [(0, _), (2, _), (3, _), (4, _), (5, _), (6, _), (5000, _), (6200, _)] [(0, _), (6, (142, [nv _ (val _), nv _ (val _), nv _ (sl _ _), nv _ (sl _ _), nv _ (val _), nv _ (sl _ _), nv _ (val _), nv _ (val _), nv _ (val _), nv _ (sl _ _)]))] ?_
 refine zqb ?_
 refine zql ?_
 refine zdg ?_
 refine rA ?_ (x := B_add)
 refine zbv ?_
 refine sw_seq ?_
 refine zql ?_
 refine zdg ?_
 refine rM ?_
 refine zqd ?_
 refine sc (fun hbc => ?_) (fun hbc => ?_)
 have hga : (agedL e (parts e).length)[m] = (⟨za[m].1.Query, za[m].1.Time, za[m].1.Todo, za[m].1.Age + 1, 0, za[m].1.Cap, za[m].1.Rows⟩ : Active) := by rw [agedL_get hm1 hm2, ← hz3]; exact aged_yes hbc
 refine sG [0, 2, 3, 4, 5, 6, 5000, 6200] [0, 6] ?_
 refine zqe ?_
 refine sw_seq ?_
 refine zql ?_
 exact zqm
 have hga : (agedL e (parts e).length)[m] = (⟨za[m].1.Query, za[m].1.Time, za[m].1.Todo, za[m].1.Age + 1, za[m].1.Sent, za[m].1.Cap, za[m].1.Rows⟩ : Active) := by rw [agedL_get hm1 hm2, ← hz3]; exact aged_no hbc
 refine sw_skip ?_
 refine sS [0, 2, 3, 4, 5, 6, 5000, 6200] [0, 6] ?_
 exact zqm
 have hend2 : m = e.Active.length := by omega
 subst hend2
 refine sw_exit ?_
 refine sT [0, 2, 3, 4, 5, 5000, 6200] [0] ?_
 refine rA ?_ (x := cM Cp.ptr)
 refine rA ?_ (x := tM)
 refine rA ?_ (x := loc_nilchk (by decide))
 refine zc9 ?_
 refine sT [0, 2, 3, 5, 5000, 6200] [0] ?_
 refine zqg ?_
 refine zdn ?_
 refine zfp ?_
 refine zqh ?_
 refine zqi ?_
 refine sT [0, 2, 3, 5, 5000, 6200] [0] ?_
 refine zqg ?_
 refine zdr ?_
 refine rA ?_ (x := B_add)
 refine rA ?_ (x := loc_nilchk (by decide))
 refine zqj ?_
 refine sQ [0, 2, 3, 5, 5000] [0] ?_
 refine sw_regL ?_
 refine wA ?_ (x := cM Cp.ptr)
 refine wO [(0, _), (2, _), (3, _), (5, _), (98, _), (5000, _)] [(0, _)] ?_
 exact zqk
theorem spec_StepEngine {p1 p2 p5 p6 p7 p8 p9 p11 p12 p13 p14 p16 p17 p18 : Fl} {e : Engine}  (hb : wtEngine e ≤ 68719000000) : SCall Tryz.prog 70 [(true, [sl .v (e.Store.Segments.map (cVersionS p1 p2)), val (vI e.Store.Now), val (vI e.Cursor), sl .v (e.Order.map cInt), sl .v (e.Active.map (cActive p5 p6 p7 p8 p9)), sl .v (e.Done.map (cFinished p11 p12 p13 p14)), sl .v (e.Ledger.map (cCharge p16 p17 p18)), val (vI e.Steps)])] (resRV [(true, [sl (.own 149 1) ((stepEng e).Store.Segments.map (cVersionS (.own 151 4) (.own 3 1))), val (vI (stepEng e).Store.Now), val (vI (stepEng e).Cursor), sl (.own 3 1) ((stepEng e).Order.map cInt), sl (.own 142 10) ((stepEng e).Active.map (cActive (.own 193 3) (.own 3 1) (.own 3 1) (.own 66 2) (.own 3 1))), sl (.own 144 7) ((stepEng e).Done.map (cFinished (.own 193 3) (.own 3 1) (.own 66 2) (.own 3 1))), sl (.own 148 5) ((stepEng e).Ledger.map (cCharge (.own 3 1) (.own 3 1) (.own 3 1))), val (vI (stepEng e).Steps)]), (false, [val (.bool (stepOk e))])]) := by
 refine scall_lo (largs := fun L => [(true, [sl (.lo L) (e.Store.Segments.map (cVersionS (.lo L) (.lo L))), val (vI e.Store.Now), val (vI e.Cursor), sl (.lo L) (e.Order.map cInt), sl (.lo L) (e.Active.map (cActive (.lo L) (.lo L) (.lo L) (.lo L) (.lo L))), sl (.lo L) (e.Done.map (cFinished (.lo L) (.lo L) (.lo L) (.lo L))), sl (.lo L) (e.Ledger.map (cCharge (.lo L) (.lo L) (.lo L))), val (vI e.Steps)])]) (rs := [(true, [sl (.own 149 1) ((stepEng e).Store.Segments.map (cVersionS (.own 151 4) (.own 3 1))), val (vI (stepEng e).Store.Now), val (vI (stepEng e).Cursor), sl (.own 3 1) ((stepEng e).Order.map cInt), sl (.own 142 10) ((stepEng e).Active.map (cActive (.own 193 3) (.own 3 1) (.own 3 1) (.own 66 2) (.own 3 1))), sl (.own 144 7) ((stepEng e).Done.map (cFinished (.own 193 3) (.own 3 1) (.own 66 2) (.own 3 1))), sl (.own 148 5) ((stepEng e).Ledger.map (cCharge (.own 3 1) (.own 3 1) (.own 3 1))), val (vI (stepEng e).Steps)]), (false, [val (.bool (stepOk e))])]) Tryz.func70 rfl (nl rfl) (fun L => by exact (aI (aI rfl (ToBL.cons (PV.tob_map (fun _ => nl rfl) (fun _ => (ToBL.cons (PV.tob_map (fun _ => nl rfl) (fun _ => (ToBL.cons PV.tob_refl (ToBL.cons (PV.tob_map (fun _ => nl rfl) (fun _ => (ToBL.cons PV.tob_refl ToBL.nil))) (ToBL.cons PV.tob_refl (ToBL.cons PV.tob_refl ToBL.nil)))))) ToBL.nil))) (ToBL.cons PV.tob_refl (ToBL.cons PV.tob_refl (ToBL.cons (PV.tob_map (fun _ => nl rfl) (fun _ => (ToBL.cons PV.tob_refl ToBL.nil))) (ToBL.cons (PV.tob_map (fun _ => nl rfl) (fun _ => (ToBL.cons PV.tob_refl (ToBL.cons PV.tob_refl (ToBL.cons (PV.tob_map (fun _ => nl rfl) (fun _ => (ToBL.cons PV.tob_refl (ToBL.cons PV.tob_refl (ToBL.cons PV.tob_refl ToBL.nil))))) (ToBL.cons (PV.tob_map (fun _ => nl rfl) (fun _ => (ToBL.cons PV.tob_refl ToBL.nil))) (ToBL.cons PV.tob_refl (ToBL.cons (PV.tob_map (fun _ => nl rfl) (fun _ => (ToBL.cons PV.tob_refl ToBL.nil))) (ToBL.cons PV.tob_refl (ToBL.cons PV.tob_refl (ToBL.cons PV.tob_refl (ToBL.cons (PV.tob_map (fun _ => nl rfl) (fun _ => (ToBL.cons PV.tob_refl (ToBL.cons (PV.tob_map (fun _ => nl rfl) (fun _ => (ToBL.cons PV.tob_refl ToBL.nil))) ToBL.nil)))) ToBL.nil)))))))))))) (ToBL.cons (PV.tob_map (fun _ => nl rfl) (fun _ => (ToBL.cons PV.tob_refl (ToBL.cons PV.tob_refl (ToBL.cons (PV.tob_map (fun _ => nl rfl) (fun _ => (ToBL.cons PV.tob_refl (ToBL.cons PV.tob_refl (ToBL.cons PV.tob_refl ToBL.nil))))) (ToBL.cons (PV.tob_map (fun _ => nl rfl) (fun _ => (ToBL.cons PV.tob_refl ToBL.nil))) (ToBL.cons PV.tob_refl (ToBL.cons PV.tob_refl (ToBL.cons (PV.tob_map (fun _ => nl rfl) (fun _ => (ToBL.cons PV.tob_refl (ToBL.cons (PV.tob_map (fun _ => nl rfl) (fun _ => (ToBL.cons PV.tob_refl ToBL.nil))) ToBL.nil)))) ToBL.nil))))))))) (ToBL.cons (PV.tob_map (fun _ => nl rfl) (fun _ => (ToBL.cons PV.tob_refl (ToBL.cons PV.tob_refl (ToBL.cons (PV.tob_map (fun _ => nl rfl) (fun _ => (ToBL.cons PV.tob_refl ToBL.nil))) (ToBL.cons (PV.tob_map (fun _ => nl rfl) (fun _ => (ToBL.cons PV.tob_refl ToBL.nil))) (ToBL.cons (PV.tob_map (fun _ => nl rfl) (fun _ => (ToBL.cons PV.tob_refl ToBL.nil))) ToBL.nil))))))) (ToBL.cons PV.tob_refl ToBL.nil))))))))) tI)) (fun L => by exact lq) ?_
 intro w0 Fz0
 refine sn 0 0 fun hl0_0 => ?_
 refine sn 0 3 fun hl0_3 => ?_
 refine sn 0 4 fun hl0_4 => ?_
 refine sn 0 5 fun hl0_5 => ?_
 refine sn 0 6 fun hl0_6 => ?_
 have hbu := hb
 simp only [wtEngine, wtActiveS, wtFinishedS, wtChargeS] at hbu
 refine zpc ?_
 refine rX ?_ (x := (loc_alloc (by decide) z_40 zo_40))
 refine zpd ?_
 refine zpe ?_
 refine rA ?_ (x := cL [(true, [sl (.lo _) _, val _, val _, sl (.lo _) _, sl (.lo _) _, sl (.lo _) _, sl (.lo _) _, val _])] [(true, [sl .v _, val _, val _, sl .v _, sl .v _, sl .v _, sl .v _, val _])] c_69 (hs := by exact (spec_l9Copy (by omega))))
 refine zpf ?_
 refine zpg ?_
 refine zpe ?_
 refine rA ?_ (x := cL [(true, [sl (.lo _) _, val _, val _, sl (.lo _) _, sl (.lo _) _, sl (.lo _) _, sl (.lo _) _, val _])] [(true, [sl .v _, val _, val _, sl .v _, sl .v _, sl .v _, sl .v _, val _])] c_42 (hs := by exact (spec_IsEngine (by omega))))
 refine zha ?_
 refine cx 10 (fun ga sga => ?_) (fun ga sga => ?_)
 refine zhb ?_
 refine RunS.cases (s := 15) rfl (fun g2 => ?_) (fun g2 => nomatch g2)
 refine zhc ?_
 refine rM ?_
 refine RunS.cases (s := 21) rfl (fun g3 => ?_) (fun g3 => nomatch g3)
 exact zph
 refine rB ga ?_ (x := lF fd_40_6)
 refine rB ga ?_ (x := lD [val _] ty_3)
 refine rB ga ?_ (x := B_geq)
 refine zhf ?_
 refine cx 15 (fun gb sgb => ?_) (fun gb sgb => ?_)
 refine zig ?_
 refine RunS.cases (s := 21) rfl (fun g6 => ?_) (fun g6 => nomatch g6)
 exact zpi
 refine rB gb ?_ (x := lF fd_40_5)
 refine rB gb ?_ (x := lD [sl (.lo _) _] ty_38)
 refine rB gb ?_ (x := lN sl_38)
 refine rB gb ?_ (x := B_geq)
 refine zij ?_
 refine cx 21 (fun gc sgc => ?_) (fun gc sgc => ?_)
 exact zpj
 refine rB gc ?_ (x := lF fd_40_4)
 refine rB gc ?_ (x := lD [sl (.lo _) _] ty_37)
 refine rB gc ?_ (x := lN sl_37)
 refine rB gc ?_ (x := lF fd_40_3)
 refine rB gc ?_ (x := lD [sl (.lo _) _] ty_36)
 refine rB gc ?_ (x := lN sl_36)
 refine rB gc ?_ (x := B_add)
 refine zme ?_
 refine sc (fun hba => ?_) (fun hba => ?_)
 exact zpk
 have hok : stepOk e = true := by
  have ho_ : okEngine e = true := by simp_all
  have hef_ := eng_facts ho_
  unfold stepOk
  rw [ho_]
  simp only [Bool.true_and, Bool.and_eq_true, decide_eq_true_eq]
  exact ⟨by omega, by omega, by omega⟩
 obtain ⟨hoe, hst, hld, hda⟩ := stepOk_f hok
 refine zf2 ?_
 refine sP [1, 2, 3, 4] [1, 2, 4] ?_
 refine sw_regL ?_
 refine wO [(1, _), (2, _), (3, _), (4, _)] [(1, _), (2, _), (4, _)] ?_
 refine swl_xcall (bx := 4) (L := (Lw w0.heap.size)) (qs := []) (as_ := []) (by decide) c_142 rfl (by exact rfl) (by exact rfl) (by exact ⟨⟩) (by exact ⟨⟩) (by decide) (by exact ⟨⟩) (by exact (spec_l11Step (by assumption) (by omega) (by omega) (by omega) (by omega))) (fun x hx => hx) (by exact lq) (by exact lq) ?_
 refine swl_nil ?_
 refine sw_seq ?_
 refine sO [(1, _), (2, _), (3, _), (4, _)] [(1, _), (2, _), (4, (40, [sl _ _, val _, val _, sl _ _, sl _ _, sl _ _, sl _ _, val _]))] ?_
 refine sw_reg ?_
 refine zqn ?_
 refine rK ?_
 exact zqo
end Go.Proofs.YteflgldonmgejaaGreat
