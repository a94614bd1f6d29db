/- What functions of the program compute. No condition. -/
import Derived.Test.YtmekkgdboplbjaaGreatCV0
import Derived.Test.YtmekkgdboplbjaaGreatCU0
set_option linter.unusedVariables false
set_option linter.unusedSimpArgs false
namespace Go.Proofs.YtmekkgdboplbjaaGreat
open Go Go.RowKit M PV
set_option maxRecDepth 10000
attribute [local irreducible] PV.Lcl PV.LclR RV.Lcl
set_option maxHeartbeats 8000000
theorem S2 : wE Tryz.prog 32 3 = some (4, 28) := by kernel_rfl
theorem S3 : cU Tryz.prog 108 = some [(0, 4), (4, 1), (5, 1), (6, 1), (7, 1), (8, 1), (9, 1)] := by kernel_rfl
theorem Ly {p1 p2 p5 p6 p7 p8 p9 p11 p12 p13 p14 p16 p17 p18 : Fl} {e : am} {q : Query} {l : Int}  (hb : aO e ≤ 68719000000) (hbq : d9 q ≤ 68719000000) : aw Tryz.prog 87 [(true, [sl .v (e.Store.Segments.map (ax p1 p2)), val (vI e.Store.Now), val (vI e.Cursor), sl .v (e.Order.map ai), sl .v (e.Active.map (aG p5 p6 p7 p8 p9)), sl .v (e.Done.map (aP p11 p12 p13 p14)), sl .v (e.Ledger.map (aR p16 p17 p18)), val (vI e.Steps)]), (true, [val (vI q.Id), val (vI q.Tenant), sl .v (q.Conds.map bR), sl .v (q.Out.map ai)]), (false, [val (vI l)])] (av [(true, [sl (.own 139 1) ((gz e q l).1.Store.Segments.map (ax (.own 184 4) (.own 3 1))), val (vI (gz e q l).1.Store.Now), val (vI (gz e q l).1.Cursor), sl (.own 3 1) ((gz e q l).1.Order.map ai), sl (.own 108 10) ((gz e q l).1.Active.map (aG (.own 178 3) (.own 3 1) (.own 3 1) (.own 54 2) (.own 3 1))), sl (.own 63 7) ((gz e q l).1.Done.map (aP (.own 178 3) (.own 3 1) (.own 54 2) (.own 3 1))), sl (.own 70 5) ((gz e q l).1.Ledger.map (aR (.own 3 1) (.own 3 1) (.own 3 1))), val (vI (gz e q l).1.Steps)]), (false, [val (.bool (gz e q l).2)])]) := by
 refine sF Tryz.func87 fun h0 w0 Fz0 => ?_
 refine sn 0 0 fun hl0_0 => ?_
 refine sn 0 3 fun hl0_3 => ?_
 refine sn 0 4 fun hl0_4 => ?_
 refine sn 0 5 fun hl0_5 => ?_
 refine sn 0 6 fun hl0_6 => ?_
 refine sn 1 2 fun hl1_2 => ?_
 refine sn 1 3 fun hl1_3 => ?_
 have hbu := hb
 simp only [aO, fp, gK, f4] at hbu
 refine fY ?_
 refine rX ?_ (x := (db (ag := true) (cs := [val _, val _, sl _ _, sl _ _]) (by decide) (by exact ⟨⟩)))
 refine rX ?_ (x := (bB (by decide) jf jg))
 refine rK ?_
 refine sT [2, 3, 4, 6, 7] [3, 4, 6] ?_
 refine to ?_
 refine jH ?_
 refine sO [(2, _), (3, _), (4, _), (6, _), (7, _), (8, _)] [(3, _), (4, _), (6, _), (8, (32, [sl _ _, val _, val _, sl _ _, sl _ _, sl _ _, sl _ _, val _]))] ?_
 refine aM ?_
 refine qv ?_
 refine dI ?_
 refine cx 19 (fun ga sga => ?_) (fun ga sga => ?_)
 refine ij ?_
 refine an.cases (s := 24) rfl (fun g2 => ?_) (fun g2 => nomatch g2)
 refine ln ?_
 refine an.cases (s := 29) rfl (fun g3 => ?_) (fun g3 => nomatch g3)
 refine lj ?_
 refine rM ?_
 refine an.cases (s := 36) rfl (fun g4 => ?_) (fun g4 => nomatch g4)
 refine uo ?_
 refine bC ?_
 exact qo
 refine rB ga ?_ (x := lD [val _, val _, sl .v _, sl .v _] dp)
 refine rB ga ?_ (x := cL [(true, [val _, val _, sl _ _, sl _ _])] [(true, [val _, val _, sl .v _, sl .v _])] uC (hs := by exact u7))
 refine rB ga ?_ (x := nT)
 refine gJ ?_
 refine cx 24 (fun gb sgb => ?_) (fun gb sgb => ?_)
 refine kr ?_
 refine an.cases (s := 29) rfl (fun g7 => ?_) (fun g7 => nomatch g7)
 refine zt g7 ?_
 refine rA ?_ (x := aA g7)
 refine rM ?_
 refine an.cases (s := 36) rfl (fun g8 => ?_) (fun g8 => nomatch g8)
 refine zt g8 ?_
 refine rA ?_ (x := aA g8)
 refine bC ?_
 exact qo
 refine G3 ?_
 refine ri ?_
 refine cx 29 (fun gc sgc => ?_) (fun gc sgc => ?_)
 refine jF ?_
 refine rM ?_
 refine an.cases (s := 36) rfl (fun g11 => ?_) (fun g11 => nomatch g11)
 refine ui ?_
 refine bC ?_
 exact qo
 refine rB gc ?_ (x := lD [sl .v _, val _, val _, sl .v _, sl .v _, sl .v _, sl .v _, val _] a7)
 refine rB gc ?_ (x := lF gu)
 refine rB gc ?_ (x := lD [val _] aq)
 refine rB gc ?_ (x := cL [(true, [sl _ _, val _, val _, sl _ _, sl _ _, sl _ _, sl _ _, val _]), (false, [val _])] [(true, [sl .v _, val _, val _, sl .v _, sl .v _, sl .v _, sl .v _, val _]), (false, [val _])] rL (hs := by exact r9))
 refine rB gc ?_ (x := gH)
 refine rA ?_ (x := ay gc)
 refine rM ?_
 refine cx 36 (fun gd sgd => ?_) (fun gd sgd => ?_)
 refine zt gd ?_
 refine rA ?_ (x := aA gd)
 refine bC ?_
 exact qo
 refine rB gd ?_ (x := lF dJ)
 refine rB gd ?_ (x := lD [sl .v _] dm)
 refine rB gd ?_ (x := lN bJ)
 refine rB gd ?_ (x := gH)
 refine rA ?_ (x := ay gd)
 refine sc (fun hba => ?_) (fun hba => ?_)
 exact qo
 have hok : jW e q l = true := by
  have ho_ : aH e = true := by simp_all
  have hq_ : bI q = true := by simp_all
  have hl_ : aB l 0 32 = true := by simp_all
  have hef_ := fg ho_
  unfold jW
  rw [ho_, hq_, hl_]
  simp only [Bool.true_and, Bool.and_eq_true, decide_eq_true_eq]
  exact ⟨by omega, by omega⟩
 obtain ⟨hoe, hoq, hol, hfn, ha8⟩ := vp hok
 have hef := fg hoe
 obtain ⟨hs8, hs1, _, _, _, _⟩ := jj hef.1
 have hcl := RC (e := e) (x := q.Id)
 refine dE ?_
 refine sP [2, 3, 4, 6, 7, 8] [3, 4, 6, 8] ?_
 refine b9 bP ?_
 refine dA 0 ?_ (x := lD [val _, val _, sl .v _, sl .v _] dp)
 refine dA 1 ?_ (x := cL [(true, [val _, val _, sl _ _, sl _ _])] [(true, [val _, val _, sl .v _, sl .v _])] uW (hs := by exact va (by omega)))
 refine dA 0 ?_ (x := lF ee)
 refine dA 4 ?_ (x := lF fc)
 refine dA 12 ?_ (x := lD [val _] aq)
 refine dA 0 ?_ (x := sM)
 refine dA 63 ?_ (x := cv (qs := [(true, [val _, val _, sl _ _, sl _ _]), (false, [val _]), (false, [val _])]) (cs := [val _, val _, sl _ _, sl _ _, val _, sl _ _, val _, val _, val _, sl _ _]) (by decide) fe nH S3 (by exact rfl) (by exact (aI (by exact ⟨⟩) (aI (by exact ⟨⟩) (aI (by exact ⟨⟩) tI)))) rfl (by exact rfl))
 refine a4.step 0 (by exact ⟨⟩) (by exact ⟨⟩) (be.of rfl (bB (by decide) fe nH)) (kW (bO.of_ rfl)) (by kernel_rfl) ?_
 refine dA 255 ?_ (x := aQ (ag := true) (vs := [val _, val _, sl _ _, sl _ _, val _, sl _ _, val _, val _, val _, sl _ _]) eK (by exact ⟨⟩) (by exact rfl) (by exact nl rfl))
 refine dH ?_
 refine sO [(2, _), (3, _), (4, _), (6, _), (7, _), (8, _), (9, _)] [(3, _), (4, _), (6, _), (8, _), (9, (108, [val _, val _, sl _ _, sl _ _, val _, sl _ _, val _, val _, val _, sl _ _]))] ?_
 refine oX ?_
 refine sP [2, 3, 4, 6, 7, 8, 9, 10] [3, 4, 6, 8, 9] ?_
 refine sL [2, 3, 4, 6, 7, 8, 9] [3, 4, 6, 8] (fun k : Nat => k ≤ e.Store.Segments.length) (fun k : Nat => [(10, RV.int (k : Int))]) (fun k : Nat => [(9, (108, [val (vI (d5 e q l).Query.Id), val (vI (d5 e q l).Query.Tenant), sl (.own 178 3) ((d5 e q l).Query.Conds.map bR), sl (.own 3 1) ((d5 e q l).Query.Out.map ai), val (vI (d5 e q l).Time), sl (.own 3 1) ((kJ k).map ai), val (vI (d5 e q l).Age), val (vI (d5 e q l).Sent), val (vI (d5 e q l).Cap), sl (.own 54 2) ((d5 e q l).Rows.map (bn (.own 3 1)))]))]) (fun k : Nat => e.Store.Segments.length - k) 0 (by omega) (by exact aI (by exact rfl) (tI)) (by exact aI (by exact rfl) (tI)) ?_
 rintro k hk
 have htl := zO k
 refine bu ?_
 refine rA ?_ (x := lF ee)
 refine i5 ?_
 refine rA ?_ (x := cb)
 refine sc (fun hbb => ?_) (fun hbb => ?_)
 have hlt : k < e.Store.Segments.length := by omega
 refine aT ?_
 refine sH [2, 3, 4, 6, 7, 8, 9, 10] [3, 4, 6, 8, 9] ?_
 refine rA ?_ (x := lF gO)
 refine pc ?_
 refine rA ?_ (x := lF gO)
 refine rA ?_ (x := aQ (ag := false) (vs := [sl _ _]) aZ (by exact ⟨⟩) (by exact rfl) (by exact nl rfl))
 refine sO [(2, _), (3, _), (4, _), (6, _), (7, _), (8, _), (9, _), (10, _)] [(3, _), (4, _), (6, _), (8, _), (9, (108, [val _, val _, sl _ _, sl _ _, val _, sl _ _, val _, val _, val _, sl _ _]))] ?_
 refine nr ?_
 refine nx (k + 1) (by omega) (f := (by exact aI (by rw [Ry, List.map_append]; exact rfl) (tI)))
 have hend : k = e.Store.Segments.length := by omega
 subst hend
 refine aX ?_
 refine sT [2, 3, 4, 6, 7, 8, 9, 10] [3, 4, 6, 8, 9] ?_
 refine rA ?_ (x := bd (qs := []) (by decide) bJ fe (by decide) rfl rfl rfl rfl rfl (by exact nl rfl) (by exact ⟨⟩) rfl)
 refine m4 ?_
 refine aJ ?_
 refine sO [(2, _), (3, _), (4, _), (6, _), (7, _), (8, _), (9, _), (10, _)] [(3, _), (4, _), (6, _), (8, (32, [sl _ _, val _, val _, sl _ _, sl _ _, sl _ _, sl _ _, val _])), (9, _)] ?_
 refine aM ?_
 refine rK ?_
 refine sS [2, 3, 4, 6, 7, 8, 9, 10, 11] [3, 4, 6, 8, 9] ?_
 refine to ?_
 refine rA ?_ (x := Nx (ag := false) (qs := [sl _ _]) (by decide) S2 dm (fun _ => rfl) (by exact nl rfl) (by exact rfl))
 refine i6 ?_
 refine sS [2, 3, 4, 6, 7, 8, 9, 10, 11, 12] [3, 4, 6, 8, 9] ?_
 refine bw ?_
 refine sP [2, 3, 4, 6, 7, 8, 9, 10, 11, 12, 13] [3, 4, 6, 8, 9] ?_
 refine BB (s := 12) (t := 108) (e := 10) (G := 6200) (f := (aG (.own 178 3) (.own 3 1) (.own 3 1) (.own 54 2) (.own 3 1))) (g := (fun z : Active => [val (vI z.Query.Id), val (vI z.Query.Tenant), sl .v (z.Query.Conds.map bR), sl .v (z.Query.Out.map ai), val (vI z.Time), sl .v (z.Todo.map ai), val (vI z.Age), val (vI z.Sent), val (vI z.Cap), sl .v (z.Rows.map (bn (.own 3 1)))])) (fN := fx) (xs := e.Active) (by exact rfl) (by exact rfl) (by exact rfl) (fun _ _ => rfl) (fun _ => rfl) (fun _ => (ab.cons (PV.To.refl _) (ab.cons (PV.To.refl _) (ab.cons PV.to_none (ab.cons PV.to_none (ab.cons (PV.To.refl _) (ab.cons PV.to_none (ab.cons (PV.To.refl _) (ab.cons (PV.To.refl _) (ab.cons (PV.To.refl _) (ab.cons PV.to_none ab.nil))))))))))) (fun _ => (by exact lq)) fun za hza => ?_
 have hzal : za.length = e.Active.length := by rw [← List.length_map (f := Prod.fst), hza]
 refine sP [2, 3, 4, 6, 7, 8, 9, 10, 11, 12, 13, 6200] [3, 4, 6, 8, 9] ?_
 refine Nw (d := 9) (e := 10) (G := 6300) (f := (aG (.own 178 3) (.own 3 1) (.own 3 1) (.own 54 2) (.own 3 1))) (g := (fun z : Active => [val (vI z.Query.Id), val (vI z.Query.Tenant), sl .v (z.Query.Conds.map bR), sl .v (z.Query.Out.map ai), val (vI z.Time), sl .v (z.Todo.map ai), val (vI z.Age), val (vI z.Sent), val (vI z.Cap), sl .v (z.Rows.map (bn (.own 3 1)))])) (fN := fx) (d5 e q l) (by exact rfl) (by exact rfl) (fun _ _ => rfl) (fun _ => rfl) (ab.cons (PV.To.refl _) (ab.cons (PV.To.refl _) (ab.cons PV.to_none (ab.cons PV.to_none (ab.cons (PV.To.refl _) (ab.cons PV.to_none (ab.cons (PV.To.refl _) (ab.cons (PV.To.refl _) (ab.cons (PV.To.refl _) (ab.cons PV.to_none ab.nil)))))))))) (by exact lq) fun kNew => ?_
 refine sO [(2, _), (3, _), (4, _), (6, _), (7, _), (8, _), (9, _), (10, _), (11, _), (12, _), (13, _), (6200, _), (6300, _)] [(3, _), (4, _), (6, _), (8, _), (9, (108, [nv _ (val _), nv _ (val _), nv _ (sl _ _), nv _ (sl _ _), nv _ (val _), nv _ (sl _ _), nv _ (val _), nv _ (val _), nv _ (val _), nv _ (sl _ _)]))] ?_
 refine sL [2, 3, 4, 6, 7, 8, 9, 10, 12, 6200, 6300] [3, 4, 6, 9] (fun m : Nat => m ≤ za.length) (fun m : Nat => [(11, RV.bool (decide ((cT e.Active q.Id) < m))), (13, RV.int (m : Int))]) (fun m : Nat => [(8, (32, [sl (.own 139 1) (e.Store.Segments.map (ax (.own 184 4) (.own 3 1))), val (vI e.Store.Now), val (vI e.Cursor), sl (.own 3 1) (e.Order.map ai), sl (.own 108 10) ((hE za (d5 e q l, kNew) (cT e.Active q.Id) m).map fx), sl (.own 63 7) (e.Done.map (aP (.own 178 3) (.own 3 1) (.own 54 2) (.own 3 1))), sl (.own 70 5) (e.Ledger.map (aR (.own 3 1) (.own 3 1) (.own 3 1))), val (vI e.Steps)]))]) (fun m : Nat => za.length - m) 0 (by omega) (by exact aI (by exact fD (by simp)) (aI (by exact rfl) (tI))) (by exact aI (by show _ = some (32, [sl (.own 139 1) (e.Store.Segments.map (ax (.own 184 4) (.own 3 1))), val (vI e.Store.Now), val (vI e.Cursor), sl (.own 3 1) (e.Order.map ai), sl (.own 108 10) ((hE za (d5 e q l, kNew) (cT e.Active q.Id) 0).map fx), sl (.own 63 7) (e.Done.map (aP (.own 178 3) (.own 3 1) (.own 54 2) (.own 3 1))), sl (.own 70 5) (e.Ledger.map (aR (.own 3 1) (.own 3 1) (.own 3 1))), val (vI e.Steps)]); unfold hE; rw [if_neg (by omega)]; exact rfl) (tI)) ?_
 rintro m hm
 have hazl := RD (zn := (d5 e q l, kNew)) (p := (cT e.Active q.Id)) hm
 refine bu ?_
 refine rA ?_ (x := vM false [sl .v _])
 refine rA ?_ (x := lN bJ)
 refine rA ?_ (x := cb)
 refine sc (fun hbc => ?_) (fun hbc => ?_)
 have hmz : m < za.length := by omega
 have hcl2 := KR (x := q.Id) hoe (show m < e.Active.length by omega)
 have hni := KS (x := q.Id) hfn (show m < e.Active.length by omega)
 have hzm : za[m].1 = e.Active[m] := by simp [← hza]
 refine aT ?_
 refine Fj ?_
 refine uc ?_
 refine dA 1 ?_ (x := nT)
 refine dA 3 ?_ (x := sM)
 refine dx 77 (fun ge sge => ?_) (fun ge sge => ?_)
 refine dB 7 ge ?_ (x := vM false [sl .v _])
 refine dB 7 ge ?_ (x := sM)
 refine dB 31 ge ?_ (x := aD (by decide) bJ (by exact ⟨⟩) (by exact rfl) (by exact aE (by omega) rfl) (by exact rfl))
 refine dB 63 ge ?_ (x := bl (by decide) eU (by exact nl rfl))
 refine dB 127 ge ?_ (x := bl (by decide) gu (by exact nl rfl))
 refine dB 255 ge ?_ (x := kc (qs := [val _]) (by decide) aq (fun _ => rfl) (by exact nl rfl) (by exact (ab.cons (PV.nv_to (PV.To.refl _)) ab.nil)) (by exact (ae.cons (bor_val _) ae.nil)))
 refine dB 7 ge ?_ (x := lF gu)
 refine dB 519 ge ?_ (x := lD [val _] aq)
 refine dB 2047 ge ?_ (x := dD)
 refine dA 4095 ?_ (x := aA ge)
 refine sc (fun hbd => ?_) (fun hbd => ?_)
 have hpm : m = (cT e.Active q.Id) := by rw [hzm] at hbd; first | omega | (simp_all; omega)
 refine sS [2, 3, 4, 6, 7, 8, 9, 10, 11, 12, 13, 6200, 6300] [3, 4, 6, 8, 9] ?_
 refine xo ?_
 refine F9 ?_
 refine m4 ?_
 refine Gj ?_
 refine rK ?_
 exact w8
 have hpm : m ≠ (cT e.Active q.Id) := by first | (rw [hzm] at hbd; omega) | omega | (simp_all; omega)
 refine aN ?_
 exact w8
 refine dF 7 ge ?_
 refine dF 7 ge ?_
 refine dF 31 ge ?_
 refine dF 63 ge ?_
 refine dF 127 ge ?_
 refine dF 255 ge ?_
 refine dF 7 ge ?_
 refine dF 519 ge ?_
 refine dF 2047 ge ?_
 refine dA 4095 ?_ (x := ay ge)
 refine dk ?_
 have hpm : m ≠ (cT e.Active q.Id) := by first | (rw [hzm] at hb_; omega) | omega | (simp_all; omega)
 refine aN ?_
 exact w8
 have hend2 : m = za.length := by omega
 subst hend2
 refine aX ?_
 refine Fj ?_
 refine iL ?_
 refine rA ?_ (x := nT)
 refine sc (fun hbd => ?_) (fun hbd => ?_)
 have hpl : (cT e.Active q.Id) = za.length := by first | omega | (simp_all; omega)
 refine sG [2, 3, 4, 6, 7, 8, 9, 10, 11, 12, 13, 6200, 6300] [3, 4, 6, 8, 9] ?_
 refine xo ?_
 refine F9 ?_
 refine m4 ?_
 refine aJ ?_
 refine sO [(2, _), (3, _), (4, _), (6, _), (7, _), (8, _), (9, _), (10, _), (11, _), (12, _), (13, _), (6200, _), (6300, _)] [(3, _), (4, _), (6, _), (8, (32, [sl _ _, val _, val _, sl _ _, sl _ _, sl _ _, sl _ _, val _])), (9, _)] ?_
 exact Eo
 have hpl : (cT e.Active q.Id) < za.length := by first | omega | (simp_all; omega)
 refine dE ?_
 refine sP [2, 3, 4, 6, 7, 8, 9, 10, 11, 12, 13, 6200, 6300] [3, 4, 6, 8, 9] ?_
 exact Eo
end Go.Proofs.YtmekkgdboplbjaaGreat
