/- What functions of the program compute. No condition. -/
import Derived.Test.YtmekkgdboplbjaaGreatCU0
import Derived.Test.YtmekkgdboplbjaaGreatCV0
set_option linter.unusedVariables false
set_option linter.unusedSimpArgs false
namespace Go.Proofs.YtmekkgdboplbjaaGreat
open Go Go.RowKit M PV
set_option maxRecDepth 10000
attribute [local irreducible] PV.Lcl PV.LclR RV.Lcl
set_option maxHeartbeats 8000000
theorem SM : cU Tryz.prog 63 = some [(0, 4), (4, 1), (5, 1), (6, 1)] := by kernel_rfl
theorem SN : cU Tryz.prog 70 = some [(0, 1), (1, 1), (2, 1), (3, 1), (4, 1)] := by kernel_rfl
theorem SO {q : Query} {r : Row}  : aw Tryz.prog 151 [(true, [val (vI q.Id), val (vI q.Tenant), sl .v (q.Conds.map bR), sl .v (q.Out.map ai)]), (true, [val (vI r.Id), sl .v (r.Values.map ai)])] (av [(false, [val (.bool (eb q r))])]) := by
 refine sF Tryz.func151 fun h0 w0 Fz0 => ?_
 refine sn 0 2 fun hl0_2 => ?_
 refine sn 0 3 fun hl0_3 => ?_
 refine sn 1 1 fun hl1_1 => ?_
 refine l7 ?_
 refine rX ?_ (x := (db (ag := true) (cs := [val _, sl _ _]) (by decide) (by exact ⟨⟩)))
 refine qW ?_
 refine rA ?_ (x := lD [val _, val _, sl .v _, sl .v _] dp)
 refine Hw ?_
 refine cx 10 (fun ga sga => ?_) (fun ga sga => ?_)
 refine jI ?_
 exact DW
 refine rB ga ?_ (x := lD [val _, sl .v _] ew)
 refine rB ga ?_ (x := cL [(true, [val _, sl _ _])] [(true, [val _, sl .v _])] yL (hs := by exact zo))
 refine oO ?_
 refine sc (fun hba => ?_) (fun hba => ?_)
 exact DW
 have hok : bI q = true ∧ bm r = true := by simp_all
 refine uk ?_
 refine rA ?_ (x := lF ip)
 refine m8 ?_
 refine cj ?_
 refine sP [2, 3, 4, 16, 17, 18] [2, 3] ?_
 refine sL [2, 3, 16, 17] [2, 3] (fun k : Nat => k ≤ r.Values.length ∧ (∀ i : Nat, i < k → f6 q (i : Int) (r.Values.getD i 0) = true)) (fun k : Nat => [(18, RV.int (k : Int))]) (fun k : Nat => []) (fun k : Nat => r.Values.length - k) 0 (by exact ⟨by omega, fun i hi => absurd hi (Nat.not_lt_zero _)⟩) (by exact aI (by exact rfl) (tI)) (by exact ⟨⟩) ?_
 rintro k ⟨hk, ha⟩
 refine bG ?_
 refine sc (fun hbb => ?_) (fun hbb => ?_)
 have hlt : k < r.Values.length := by omega
 refine aT ?_
 refine sT [2, 3, 16, 17, 18] [2, 3] ?_
 refine rM ?_
 refine kt ?_
 refine rS ?_
 refine sS [2, 3, 5, 6, 16, 17, 18] [2, 3] ?_
 refine rA ?_ (x := lD [val _, val _, sl .v _, sl .v _] dp)
 refine rM ?_
 refine GA ?_
 refine rA ?_ (x := nT)
 refine sc (fun hbc => ?_) (fun hbc => ?_)
 have hno : eb q r = false := NP (i := k) (by rw [← Iz hlt]; simpa using hbc)
 refine sS [2, 3, 5, 6, 16, 17, 18] [2, 3] ?_
 refine bD ?_
 exact rb (hno.symm)
 have hyes : f6 q (k : Int) (r.Values.getD k 0) = true := by rw [← Iz hlt]; simpa using hbc
 refine aN ?_
 refine sG [2, 3, 5, 6, 16, 17, 18] [2, 3] ?_
 refine b5 ?_
 refine nx (k + 1) (by exact ⟨by omega, fun i hi => by by_cases e : i = k; (· subst e; exact hyes); (· exact ha i (by omega))⟩)
 have hall := NO hok.1 hok.2 (fun i hi => ha i (by omega))
 refine aX ?_
 refine sT [2, 3, 16, 17, 18] [2, 3] ?_
 refine bD ?_
 exact rb (hall.symm)
theorem Ls {p1 p2 p5 p6 p7 p8 p9 p11 p12 p13 p14 p16 p17 p18 : Fl} {e : am}  (hb : aO e ≤ 68719000000) : aw Tryz.prog 54 [(true, [sl .v (e.Store.Segments.map (ax p1 p2)), val (vI e.Store.Now), val (vI e.Cursor), sl .v (e.Order.map ai), sl .v (e.Active.map (aG p5 p6 p7 p8 p9)), sl .v (e.Done.map (aP p11 p12 p13 p14)), sl .v (e.Ledger.map (aR p16 p17 p18)), val (vI e.Steps)])] (av [(true, [sl (.own 139 1) ((bU e).Store.Segments.map (ax (.own 184 4) (.own 3 1))), val (vI (bU e).Store.Now), val (vI (bU e).Cursor), sl (.own 3 1) ((bU e).Order.map ai), sl (.own 108 10) ((bU e).Active.map (aG (.own 178 3) (.own 3 1) (.own 3 1) (.own 54 2) (.own 3 1))), sl (.own 63 7) ((bU e).Done.map (aP (.own 178 3) (.own 3 1) (.own 54 2) (.own 3 1))), sl (.own 70 5) ((bU e).Ledger.map (aR (.own 3 1) (.own 3 1) (.own 3 1))), val (vI (bU e).Steps)]), (false, [val (.bool (eC e))])]) := by
 refine kX (largs := fun L => [(true, [sl (.lo L) (e.Store.Segments.map (ax (.lo L) (.lo L))), val (vI e.Store.Now), val (vI e.Cursor), sl (.lo L) (e.Order.map ai), sl (.lo L) (e.Active.map (aG (.lo L) (.lo L) (.lo L) (.lo L) (.lo L))), sl (.lo L) (e.Done.map (aP (.lo L) (.lo L) (.lo L) (.lo L))), sl (.lo L) (e.Ledger.map (aR (.lo L) (.lo L) (.lo L))), val (vI e.Steps)])]) (rs := [(true, [sl (.own 139 1) ((bU e).Store.Segments.map (ax (.own 184 4) (.own 3 1))), val (vI (bU e).Store.Now), val (vI (bU e).Cursor), sl (.own 3 1) ((bU e).Order.map ai), sl (.own 108 10) ((bU e).Active.map (aG (.own 178 3) (.own 3 1) (.own 3 1) (.own 54 2) (.own 3 1))), sl (.own 63 7) ((bU e).Done.map (aP (.own 178 3) (.own 3 1) (.own 54 2) (.own 3 1))), sl (.own 70 5) ((bU e).Ledger.map (aR (.own 3 1) (.own 3 1) (.own 3 1))), val (vI (bU e).Steps)]), (false, [val (.bool (eC e))])]) Tryz.func54 rfl (nl rfl) (fun L => by exact (aI (aI rfl (ah.cons (PV.tob_map (fun _ => nl rfl) (fun _ => (ah.cons (PV.tob_map (fun _ => nl rfl) (fun _ => (ah.cons PV.tob_refl (ah.cons (PV.tob_map (fun _ => nl rfl) (fun _ => (ah.cons PV.tob_refl ah.nil))) (ah.cons PV.tob_refl (ah.cons PV.tob_refl ah.nil)))))) ah.nil))) (ah.cons PV.tob_refl (ah.cons PV.tob_refl (ah.cons (PV.tob_map (fun _ => nl rfl) (fun _ => (ah.cons PV.tob_refl ah.nil))) (ah.cons (PV.tob_map (fun _ => nl rfl) (fun _ => (ah.cons PV.tob_refl (ah.cons PV.tob_refl (ah.cons (PV.tob_map (fun _ => nl rfl) (fun _ => (ah.cons PV.tob_refl (ah.cons PV.tob_refl (ah.cons PV.tob_refl ah.nil))))) (ah.cons (PV.tob_map (fun _ => nl rfl) (fun _ => (ah.cons PV.tob_refl ah.nil))) (ah.cons PV.tob_refl (ah.cons (PV.tob_map (fun _ => nl rfl) (fun _ => (ah.cons PV.tob_refl ah.nil))) (ah.cons PV.tob_refl (ah.cons PV.tob_refl (ah.cons PV.tob_refl (ah.cons (PV.tob_map (fun _ => nl rfl) (fun _ => (ah.cons PV.tob_refl (ah.cons (PV.tob_map (fun _ => nl rfl) (fun _ => (ah.cons PV.tob_refl ah.nil))) ah.nil)))) ah.nil)))))))))))) (ah.cons (PV.tob_map (fun _ => nl rfl) (fun _ => (ah.cons PV.tob_refl (ah.cons PV.tob_refl (ah.cons (PV.tob_map (fun _ => nl rfl) (fun _ => (ah.cons PV.tob_refl (ah.cons PV.tob_refl (ah.cons PV.tob_refl ah.nil))))) (ah.cons (PV.tob_map (fun _ => nl rfl) (fun _ => (ah.cons PV.tob_refl ah.nil))) (ah.cons PV.tob_refl (ah.cons PV.tob_refl (ah.cons (PV.tob_map (fun _ => nl rfl) (fun _ => (ah.cons PV.tob_refl (ah.cons (PV.tob_map (fun _ => nl rfl) (fun _ => (ah.cons PV.tob_refl ah.nil))) ah.nil)))) ah.nil))))))))) (ah.cons (PV.tob_map (fun _ => nl rfl) (fun _ => (ah.cons PV.tob_refl (ah.cons PV.tob_refl (ah.cons (PV.tob_map (fun _ => nl rfl) (fun _ => (ah.cons PV.tob_refl ah.nil))) (ah.cons (PV.tob_map (fun _ => nl rfl) (fun _ => (ah.cons PV.tob_refl ah.nil))) (ah.cons (PV.tob_map (fun _ => nl rfl) (fun _ => (ah.cons PV.tob_refl ah.nil))) ah.nil))))))) (ah.cons PV.tob_refl ah.nil))))))))) tI)) (fun L => by exact lq) ?_
 intro w0 Fz0
 refine sn 0 0 fun hl0_0 => ?_
 refine sn 0 3 fun hl0_3 => ?_
 refine sn 0 4 fun hl0_4 => ?_
 refine sn 0 5 fun hl0_5 => ?_
 refine sn 0 6 fun hl0_6 => ?_
 have hbu := hb
 simp only [aO, fp, gK, f4] at hbu
 refine tB ?_
 refine Gx ?_
 refine oF ?_
 refine rA ?_ (x := cL [(true, [sl (.lo _) _, val _, val _, sl (.lo _) _, sl (.lo _) _, sl (.lo _) _, sl (.lo _) _, val _])] [(true, [sl .v _, val _, val _, sl .v _, sl .v _, sl .v _, sl .v _, val _])] JV (hs := by exact (KA (by omega))))
 refine HC ?_
 refine oF ?_
 refine rA ?_ (x := cL [(true, [sl (.lo _) _, val _, val _, sl (.lo _) _, sl (.lo _) _, sl (.lo _) _, sl (.lo _) _, val _])] [(true, [sl .v _, val _, val _, sl .v _, sl .v _, sl .v _, sl .v _, val _])] JU (hs := by exact (Kt (by omega))))
 refine dI ?_
 refine cx 22 (fun ga sga => ?_) (fun ga sga => ?_)
 refine ij ?_
 refine an.cases (s := 27) rfl (fun g2 => ?_) (fun g2 => nomatch g2)
 refine ln ?_
 refine an.cases (s := 33) rfl (fun g3 => ?_) (fun g3 => nomatch g3)
 exact DX
 refine rB ga ?_ (x := lF io)
 refine rB ga ?_ (x := lD [val _] aq)
 refine rB ga ?_ (x := dY)
 refine gJ ?_
 refine cx 27 (fun gb sgb => ?_) (fun gb sgb => ?_)
 refine kr ?_
 refine an.cases (s := 33) rfl (fun g6 => ?_) (fun g6 => nomatch g6)
 exact DY
 refine rB gb ?_ (x := lF gt)
 refine rB gb ?_ (x := lD [sl (.lo _) _] gw)
 refine rB gb ?_ (x := lN fq)
 refine rB gb ?_ (x := dY)
 refine m9 ?_
 refine cx 33 (fun gc sgc => ?_) (fun gc sgc => ?_)
 exact DZ
 refine rB gc ?_ (x := lF jO)
 refine rB gc ?_ (x := lD [sl (.lo _) _] jR)
 refine rB gc ?_ (x := lN iq)
 refine rB gc ?_ (x := lF dJ)
 refine rB gc ?_ (x := lD [sl (.lo _) _] dm)
 refine rB gc ?_ (x := lN bJ)
 refine rB gc ?_ (x := gI)
 refine yu ?_
 refine sc (fun hba => ?_) (fun hba => ?_)
 exact qn
 have hok : eC e = true := by
  have ho_ : aH e = true := by simp_all
  have hef_ := fg ho_
  unfold eC
  rw [ho_]
  simp only [Bool.true_and, Bool.and_eq_true, decide_eq_true_eq]
  exact ⟨by omega, by omega, by omega⟩
 obtain ⟨hoe, hst, hld, hda⟩ := rP hok
 have hef := fg hoe
 have hcl : e.Cursor.toNat < e.Store.Segments.length := hef.2.2.2.1
 have hpl := nN (e := e)
 have hs4 := vf hoe
 have hswt := zL hoe
 refine aN ?_
 refine sS [1, 2, 3, 4] [1, 2, 4] ?_
 refine rA ?_ (x := lF ee)
 refine tW ?_
 refine rA ?_ (x := lF gR)
 refine xp ?_
 refine rA ?_ (x := lE [sl (.lo _) _] f7)
 refine rA ?_ (x := vA false [sl (.lo _) _])
 refine sS [1, 2, 3, 4, 5] [1, 2, 4] ?_
 refine qT ?_
 refine rA ?_ (x := vM false [sl (.lo _) _])
 refine rA ?_ (x := lN bT)
 refine rA ?_ (x := cv (qs := [(false, [val _]), (false, [val _])]) (cs := [val _, val _, sl _ _, sl _ _, sl _ _]) (by decide) gT nJ SN (by exact rfl) (by exact (aI (by exact ⟨⟩) (aI (by exact ⟨⟩) tI))) rfl (by exact rfl))
 refine xu ?_
 refine dH ?_
 refine sO [(1, _), (2, _), (3, _), (4, _), (5, _), (6, _)] [(1, _), (2, _), (4, _), (6, (70, [val _, val _, sl _ _, sl _ _, sl _ _]))] ?_
 refine oF ?_
 refine rA ?_ (x := cL [(true, [sl (.lo _) _, val _, val _, sl (.lo _) _, sl (.lo _) _, sl (.lo _) _, sl (.lo _) _, val _])] [(true, [sl .v _, val _, val _, sl .v _, sl .v _, sl .v _, sl .v _, val _])] JE (hs := by exact (Lp (by omega))))
 refine rA ?_ (x := lN a3)
 refine cj ?_
 refine sP [1, 2, 3, 4, 5, 6, 57, 58, 59] [1, 2, 4, 6] ?_
 refine sL [1, 2, 3, 4, 5, 6, 57, 58] [1, 2] (fun k : Nat => k ≤ (parts e).length) (fun k : Nat => [(59, RV.int (k : Int))]) (fun k : Nat => [(4, (32, [sl (.own 139 1) (e.Store.Segments.map (ax (.own 184 4) (.own 3 1))), val (vI e.Store.Now), val (vI e.Cursor), sl (.own 3 1) (e.Order.map ai), sl (.own 108 10) ((bj e k).map (aG (.own 178 3) (.own 3 1) (.own 3 1) (.own 54 2) (.own 3 1))), sl (.own 63 7) (e.Done.map (aP (.own 178 3) (.own 3 1) (.own 54 2) (.own 3 1))), sl (.own 70 5) (e.Ledger.map (aR (.own 3 1) (.own 3 1) (.own 3 1))), val (vI e.Steps)])), (6, (70, [val (vI (cz e k).Segment), val (vI (cz e k).Base), sl (.own 3 1) ((cz e k).Ids.map ai), sl (.own 3 1) ((cz e k).Tenants.map ai), sl (.own 3 1) ((cz e k).Rows.map ai)]))]) (fun k : Nat => (parts e).length - k) 0 (by omega) (by exact aI (by exact rfl) (tI)) (by exact aI (by rw [zB]; exact rfl) (aI (by exact rfl) (tI))) ?_
 rintro k hk
 have hcg := ve (e := e) hk
 have hsl := iz (e := e) (k := k)
 refine bG ?_
 refine sc (fun hbb => ?_) (fun hbb => ?_)
 have hlt : k < (parts e).length := by omega
 obtain ⟨i, hi, hf, hid, hpp⟩ := zA hoe hlt
 have hil : i < (bj e k).length := by omega
 have hoa := vi (hef.2.2.2.2.2.2.2.2.2.1 _ (List.getElem_mem hi))
 have hwa := cR (f := ca) hi
 have hwq : ca e.Active[i] = d9 e.Active[i].Query + e.Active[i].Todo.length + eJ e.Active[i].Rows := by simp only [ca, cu, aV]; omega
 have hga4 := vk hoe e.Active[i]
 have hvl := rR (bp e) e.Active[i].Time
 refine cE ?_
 refine FI ?_
 refine kt ?_
 refine sS [1, 2, 3, 4, 5, 6, 8, 57, 58, 59] [1, 2, 4, 6] ?_
 refine rA ?_ (x := lD [sl (.lo _) _, val _, val _, sl (.lo _) _, sl (.lo _) _, sl (.lo _) _, sl (.lo _) _, val _] a7)
 refine rM ?_
 refine rA ?_ (x := cL [(true, [sl (.lo _) _, val _, val _, sl (.lo _) _, sl (.lo _) _, sl (.lo _) _, sl (.lo _) _, val _]), (false, [val _])] [(true, [sl .v _, val _, val _, sl .v _, sl .v _, sl .v _, sl .v _, val _]), (false, [val _])] JF (hs := by exact Lq))
 refine ig ?_
 refine sP [1, 2, 3, 4, 5, 6, 8, 9, 57, 58, 59] [1, 2, 4, 6] ?_
 refine jz (d := 4) (t := 32) (D := 900) (G := 2900) (E := 108) (e := 10) (L := (Lw w0.heap.size)) (A := [sl _ _, val _, val _, sl _ _]) (B := [sl _ _, sl _ _, val _]) (es := ((bj e k)).map (aG (.own 178 3) (.own 3 1) (.own 3 1) (.own 54 2) (.own 3 1))) (by exact rfl) (hZ hil) (by exact rfl) (by exact rfl) rfl (by exact rfl) (fun x hx => hx) (by exact lq) (by exact lq) (by exact lq) (by exact lq) (ak.map fun x => (ak.cons lcl_val (ak.cons lcl_val (ak.cons (lcl_own (ak.map fun x => (ak.cons lcl_val (ak.cons lcl_val (ak.cons lcl_val ak.nil))))) (ak.cons (lcl_own (ak.map fun x => (ak.cons lcl_val ak.nil))) (ak.cons lcl_val (ak.cons (lcl_own (ak.map fun x => (ak.cons lcl_val ak.nil))) (ak.cons lcl_val (ak.cons lcl_val (ak.cons lcl_val (ak.cons (lcl_own (ak.map fun x => (ak.cons lcl_val (ak.cons (lcl_own (ak.map fun x => (ak.cons lcl_val ak.nil))) ak.nil)))) ak.nil))))))))))) fun uu900 cp900 jk900 hlD900 hcp900 hjk900 => ?_
 rw [List.length_map] at hlD900 hcp900 hjk900
 refine cD (d := 900) (by exact rfl) (hY (k := i) hil) ?_
 have hA900 := ia (f := (aG (.own 178 3) (.own 3 1) (.own 3 1) (.own 54 2) (.own 3 1))) (e := 10) (xs := (bj e k)) (k := i) (fun _ => rfl) (Nat.le_of_lt hil)
 refine cD (d := 900) (by exact rfl) (congrArg (fun z_ => ((((bj e k)).take i).map (aG (.own 178 3) (.own 3 1) (.own 3 1) (.own 54 2) (.own 3 1))).flatten ++ ((aG (.own 178 3) (.own 3 1) (.own 3 1) (.own 54 2) (.own 3 1)) z_ ++ (((((bj e k)).drop (i + 1)).map (aG (.own 178 3) (.own 3 1) (.own 3 1) (.own 54 2) (.own 3 1))).flatten ++ jk900.map val))) (KD hoe hlt hi hid hil)) ?_
 refine sO [(1, _), (2, _), (3, _), (4, _), (5, _), (6, _), (8, _), (9, _), (57, _), (58, _), (59, _), (2900, _)] [(1, _), (2, _), (4, (32, [sl _ _, val _, val _, sl _ _, val _, sl _ _, sl _ _, val _])), (6, _), (900, (108, _ ++ ([val _, val _, sl _ _, sl _ _, val _, sl _ _, val _, val _, val _, sl _ _] ++ _)))] ?_
 refine aM ?_
 refine rA ?_ (x := lF dJ)
 refine rA ?_ (x := lD [val _] dm)
 refine rM ?_
 refine rA ?_ (x := fT (k := i) (G := 2900) (by decide) bJ (by exact ⟨⟩) (by omega) (by first | (rw [List.length_map]; exact hil) | exact hil))
 refine rA ?_ (x := wl (o := 0) (ms := [val _, val _, sl _ _, sl _ _, val _, sl _ _, val _, val _, val _, sl _ _]) (qs := [val _, val _, sl .v _, sl .v _, val _, sl .v _, val _, val _, val _, sl .v _]) (by omega) (by decide) eK (fun h => nomatch h) (by exact nl rfl) (by exact rfl) (by exact (ab.cons (PV.To.refl _) (ab.cons (PV.To.refl _) (ab.cons PV.to_none (ab.cons PV.to_none (ab.cons (PV.To.refl _) (ab.cons PV.to_none (ab.cons (PV.To.refl _) (ab.cons (PV.To.refl _) (ab.cons (PV.To.refl _) (ab.cons PV.to_none ab.nil))))))))))) (by exact lq))
 refine oD ?_
 refine aJ ?_
 refine sO [(1, _), (2, _), (3, _), (4, _), (5, _), (6, _), (8, _), (9, _), (10, _), (57, _), (58, _), (59, _), (2900, _)] [(1, _), (2, _), (4, _), (6, _), (10, (108, [val _, val _, sl _ _, sl _ _, val _, sl _ _, val _, val _, val _, sl _ _])), (900, (108, _ ++ ([val _, val _, sl _ _, sl _ _, val _, sl _ _, val _, val _, val _, sl _ _] ++ _)))] ?_
 refine aM ?_
 refine eS ?_
 refine sS [1, 2, 3, 4, 5, 6, 8, 9, 10, 11, 57, 58, 59, 2900] [1, 2, 4, 6, 10, 900] ?_
 refine rA ?_ (x := lF ee)
 refine rA ?_ (x := lD [sl (.lo _) _, val _] cq)
 refine qT ?_
 refine yj ?_
 refine rA ?_ (x := cL [(true, [sl (.lo _) _, val _]), (false, [val _]), (false, [val _])] [(true, [sl .v _, val _]), (false, [val _]), (false, [val _])] O2 (hs := by exact (SD (by omega) (by omega) (by omega))))
 refine rA ?_ (x := lN fu)
 refine cj ?_
 refine sP [1, 2, 3, 4, 5, 6, 8, 9, 10, 11, 57, 58, 59, 77, 78, 79, 2900] [1, 2, 4, 6, 10, 900] ?_
 refine BB (s := 77) (t := 54) (e := 2) (G := 6100) (f := (bn (.own 3 1))) (g := (fun z : Row => [val (vI z.Id), sl .v (z.Values.map ai)])) (fN := Ro) (xs := (cG (bp e) e.Active[i].Time)) (by exact rfl) (by exact rfl) (by exact rfl) (fun _ _ => rfl) (fun _ => rfl) (fun _ => (ab.cons (PV.To.refl _) (ab.cons PV.to_none ab.nil))) (fun _ => (ae.cons (bor_val _) (ae.cons (bor_sl _) ae.nil))) fun zr hzr => ?_
 have hzl : zr.length = (cG (bp e) e.Active[i].Time).length := by rw [← hzr, List.length_map]
 have hve : (cG (e.Store.Segments.getD e.Cursor.toNat []) e.Active[i].Time).length = (cG (bp e) e.Active[i].Time).length := rfl
 refine sP [1, 2, 3, 4, 5, 6, 8, 9, 10, 11, 57, 58, 59, 77, 78, 79, 2900, 6100] [1, 2, 4, 6, 10, 900] ?_
 refine sL [1, 2, 3, 4, 5, 6, 8, 9, 10, 57, 58, 59, 77, 78, 2900] [1, 2, 4, 6, 900] (fun j : Nat => j ≤ zr.length) (fun j : Nat => [(11, RV.int ((fJ e e.Active[i] j).length : Int)), (79, RV.int (j : Int)), (6100, RV.gh (bo 2 (zr.drop j)) (br (bn (.own 3 1)) (zr.drop j)))]) (fun j : Nat => [(10, (108, [val (vI e.Active[i].Query.Id), val (vI e.Active[i].Query.Tenant), sl (.own 178 3) (e.Active[i].Query.Conds.map bR), sl (.own 3 1) (e.Active[i].Query.Out.map ai), val (vI e.Active[i].Time), sl (.own 3 1) (e.Active[i].Todo.map ai), val (vI e.Active[i].Age), val (vI e.Active[i].Sent), val (vI e.Active[i].Cap), sl (.own 54 2) ((e.Active[i].Rows ++ fJ e e.Active[i] j).map (bn (.own 3 1)))]))]) (fun j : Nat => zr.length - j) 0 (by omega) (by exact aI (by exact rfl) (aI (by exact rfl) (aI (by exact rfl) (tI)))) (by exact aI (by show _ = some (108, [val (vI e.Active[i].Query.Id), val (vI e.Active[i].Query.Tenant), sl (.own 178 3) (e.Active[i].Query.Conds.map bR), sl (.own 3 1) (e.Active[i].Query.Out.map ai), val (vI e.Active[i].Time), sl (.own 3 1) (e.Active[i].Todo.map ai), val (vI e.Active[i].Age), val (vI e.Active[i].Sent), val (vI e.Active[i].Cap), sl (.own 54 2) ((e.Active[i].Rows ++ fJ e e.Active[i] 0).map (bn (.own 3 1)))]); rw [show fJ e e.Active[i] 0 = [] from rfl, List.append_nil]; exact rfl) (tI)) ?_
 rintro j hj
 have hgl := zJ hoe e.Active[i] j
 refine bG ?_
 refine sc (fun hbc => ?_) (fun hbc => ?_)
 have hltz : j < zr.length := by omega
 have hjv : j < (cG (bp e) e.Active[i].Time).length := by omega
 have hz3 : zr[j].1 = (cG (bp e) e.Active[i].Time)[j] := by simp [← hzr]
 refine cE ?_
 refine Ff ?_
 refine rA ?_ (x := aD (by decide) fu (by exact ⟨⟩) (by exact rfl) (by exact aE (by omega) rfl) (by exact rfl))
 refine rA ?_ (x := kc (qs := [nv _ (val _), nv _ (sl .v _)]) (by decide) ew (fun h => nomatch h) (by exact nl rfl) (by exact (ab.cons (PV.To.refl _) (ab.cons (PV.To.refl _) ab.nil))) (by exact (ae.cons (bor_nv (bor_val _)) (ae.cons (bor_nv (bor_sl _)) ae.nil))))
 refine rX ?_ (x := (bB (by decide) ff iQ))
 refine rA ?_ (x := aQ (ag := true) (vs := [nv _ (val _), nv _ (sl _ _)]) ew (by exact ⟨⟩) (by exact rfl) (by exact nl rfl))
 refine sO [(1, _), (2, _), (3, _), (4, _), (5, _), (6, _), (8, _), (9, _), (10, _), (11, _), (13, _), (57, _), (58, _), (59, _), (77, _), (78, _), (79, _), (2900, _), (6100, _)] [(1, _), (2, _), (4, _), (6, _), (10, _), (13, (54, [nv _ (val _), nv _ (sl _ _)])), (900, _)] ?_
 refine wC (d := 13) (G := 6100) (e := 2) (f := (bn (.own 3 1))) (z := zr[j]) (zs := (zr.drop (j + 1))) (by exact rfl) (by exact (Nm.nv (Nm.nv Nm.nil))) (fun _ => rfl) (by rw [← List.drop_eq_getElem_cons hltz]; exact rfl) ?_
 refine aJ ?_
 refine sO [(1, _), (2, _), (3, _), (4, _), (5, _), (6, _), (8, _), (9, _), (10, _), (11, _), (13, _), (57, _), (58, _), (59, _), (77, _), (78, _), (79, _), (2900, _), (6100, _)] [(1, _), (2, _), (4, _), (6, _), (10, _), (13, (54, [val _, sl _ _])), (900, _)] ?_
 refine aM ?_
 refine qJ ?_
 refine rA ?_ (x := lD [val _, sl .v _] ew)
 refine rA ?_ (x := cL [(true, [val _, val _, sl _ _, sl _ _]), (true, [val _, sl _ _])] [(true, [val _, val _, sl .v _, sl .v _]), (true, [val _, sl .v _])] O3 (hs := by exact SO))
 refine sc (fun hbd => ?_) (fun hbd => ?_)
 have hm : eb e.Active[i].Query (cG (bp e) e.Active[i].Time)[j] = true := by rw [← hz3]; simpa using hbd
 refine sS [1, 2, 3, 4, 5, 6, 8, 9, 10, 11, 13, 57, 58, 59, 77, 78, 79, 2900, 6100] [1, 2, 4, 6, 10, 13, 900] ?_
 refine Gn ?_
 refine rA ?_ (x := b8 (ms := [val _, sl _ _]) (qs := [val _, sl .v _]) (by decide) ew (fun h => nomatch h) (by exact nl rfl) (by exact rfl) (by exact (ab.cons (PV.To.refl _) (ab.cons PV.to_none ab.nil))) (by exact (ae.cons (bor_val _) (ae.cons (bor_sl _) ae.nil))))
 refine oB ?_
 refine HF ?_
 refine sO [(1, _), (2, _), (3, _), (4, _), (5, _), (6, _), (8, _), (9, _), (10, _), (11, _), (13, _), (57, _), (58, _), (59, _), (77, _), (78, _), (79, _), (2900, _), (6100, _)] [(1, _), (2, _), (4, _), (6, _), (10, (108, [val _, val _, sl _ _, sl _ _, val _, sl _ _, val _, val _, val _, sl _ _])), (13, (54, [val _, sl _ _])), (900, _)] ?_
 refine nr ?_
 exact D0
 have hm : eb e.Active[i].Query (cG (bp e) e.Active[i].Time)[j] = false := by rw [← hz3]; simpa using hbd
 refine aN ?_
 exact D0
 have hjend : j = (cG (bp e) e.Active[i].Time).length := by omega
 have hgt : fJ e e.Active[i] j = gk e e.Active[i] := by rw [hjend]; exact zD
 rw [hgt]
 refine et ?_
 refine Ff ?_
 refine rA ?_ (x := lF jN)
 refine rA ?_ (x := lD [val _] aq)
 refine rM ?_
 refine rA ?_ (x := gI)
 refine rA ?_ (x := lF jN)
 refine kh ?_
 refine FZ ?_
 refine rA ?_ (x := lF gO)
 refine rA ?_ (x := lD [sl .v _] aZ)
 refine qT ?_
 refine rA ?_ (x := cL [(false, [sl _ _]), (false, [val _])] [(false, [sl .v _]), (false, [val _])] O4 (hs := by exact (SB (by omega))))
 refine rA ?_ (x := lF gO)
 refine oJ ?_
 refine FZ ?_
 refine rA ?_ (x := lF dJ)
 refine rA ?_ (x := lD [val _] dm)
 refine rM ?_
 refine rA ?_ (x := b8 (ms := [val _, val _, sl _ _, sl _ _, val _, sl _ _, val _, val _, val _, sl _ _]) (qs := [val _, val _, sl .v _, sl .v _, val _, sl .v _, val _, val _, val _, sl .v _]) (by decide) eK (fun h => nomatch h) (by exact nl rfl) (by exact rfl) (by exact (ab.cons (PV.To.refl _) (ab.cons (PV.To.refl _) (ab.cons PV.to_none (ab.cons PV.to_none (ab.cons (PV.To.refl _) (ab.cons PV.to_none (ab.cons (PV.To.refl _) (ab.cons (PV.To.refl _) (ab.cons (PV.To.refl _) (ab.cons PV.to_none ab.nil))))))))))) (by exact lq))
 refine rA ?_ (x := fT (k := i) (G := 2900) (by decide) bJ (by exact ⟨⟩) (by omega) (by first | (rw [List.length_map]; exact hil) | exact hil))
 refine rA ?_ (x := kd (o := 0) (ag := true) (vs := [val _, val _, sl _ _, sl _ _, val _, sl _ _, val _, val _, val _, sl _ _]) (by omega) eK (by exact ⟨⟩) (by exact rfl) (by exact nl rfl))
 refine cD (d := 900) (by exact rfl) (kZ (iW e e.Active[i]) hil (by exact rfl)) ?_
 refine mM (d := 4) (D := 900) (G := 2900) (e := 10) (A := [sl _ _, val _, val _, sl _ _]) (B := [sl _ _, sl _ _, val _]) (es := (((bj e k)).set i (iW e e.Active[i])).map (aG (.own 178 3) (.own 3 1) (.own 3 1) (.own 54 2) (.own 3 1))) (by exact rfl) (by exact rfl) (by exact rfl) rfl (by rw [List.length_map, List.length_set, List.length_map]) (by intro c hc; obtain ⟨y, _, rfl⟩ := List.mem_map.1 hc; exact rfl) (by rw [List.length_map]; exact hjk900) ?_
 refine aJ ?_
 refine sO [(1, _), (2, _), (3, _), (4, _), (5, _), (6, _), (8, _), (9, _), (10, _), (11, _), (57, _), (58, _), (59, _), (77, _), (78, _), (79, _), (6100, _)] [(1, _), (2, _), (4, (32, [sl _ _, val _, val _, sl _ _, sl _ _, sl _ _, sl _ _, val _])), (6, _), (10, (108, [val _, val _, sl _ _, sl _ _, val _, sl _ _, val _, val _, val _, sl _ _]))] ?_
 refine aM ?_
 refine rA ?_ (x := lF kE)
 refine pc ?_
 refine rA ?_ (x := lF kE)
 refine oJ ?_
 refine Fr ?_
 refine rA ?_ (x := lF jP)
 refine rA ?_ (x := b8 (ms := [sl _ _]) (qs := [sl .v _]) (by decide) aZ (fun _ => rfl) (by exact nl rfl) (by exact rfl) (by exact (ab.cons PV.to_none ab.nil)) (by exact (ae.cons (bor_sl _) ae.nil)))
 refine rA ?_ (x := lF eU)
 refine rA ?_ (x := lF uD)
 refine rA ?_ (x := lD [val _] aq)
 refine xf ?_
 refine rA ?_ (x := lF jP)
 refine H0 ?_
 refine rA ?_ (x := lF jQ)
 refine pc ?_
 refine rA ?_ (x := lF jQ)
 refine H0 ?_
 refine b5 ?_
 refine nx (k + 1) (by omega) (f := (by exact aI (by rw [← KE hoe hlt hi hid]; exact rfl) (aI (by rw [Ra hlt hi hf]; simp only [List.map_append]; exact rfl) (tI))))
 have hend : k = (parts e).length := by omega
 subst hend
 refine aX ?_
 refine dH ?_
 refine FI ?_
 refine ud ?_
 refine rA ?_ (x := dD)
 refine sc (fun hbc => ?_) (fun hbc => ?_)
 have hled : d4 e (parts e).length = e.Ledger ++ [cz e (parts e).length] := by unfold d4; rw [if_neg (by omega)]
 refine sG [1, 2, 3, 4, 5, 6, 57, 58, 59] [1, 2, 4, 6] ?_
 refine rA ?_ (x := lF gt)
 refine rA ?_ (x := b8 (ms := [sl _ _]) (qs := [sl .v _]) (by decide) gw (fun _ => rfl) (by exact nl rfl) (by exact rfl) (by exact (ab.cons PV.to_none ab.nil)) (by exact (ae.cons (bor_sl _) ae.nil)))
 refine rA ?_ (x := b8 (ms := [val _, val _, sl _ _, sl _ _, sl _ _]) (qs := [val _, val _, any, any, any]) (by decide) it (fun h => nomatch h) (by exact nl rfl) (by exact rfl) (by exact (ab.cons (PV.To.refl _) (ab.cons (PV.To.refl _) (ab.cons PV.to_any (ab.cons PV.to_any (ab.cons PV.to_any ab.nil)))))) (by exact lq))
 refine rA ?_ (x := bd (qs := [(true, [val _, val _, sl _ _, sl _ _, sl _ _])]) (by decide) fq gT (by decide) rfl rfl rfl rfl rfl (by exact nl rfl) (by exact (aI (by exact ⟨⟩) tI)) rfl)
 refine rA ?_ (x := c8 (by decide) fq gT rfl rfl (by decide) rfl (by simp only [List.length_map, List.length_append, List.length_cons, List.length_nil]; omega) (by simp only [List.length_map, List.length_append, List.length_cons, List.length_nil]; omega))
 refine rA ?_ (x := lF gt)
 refine rA ?_ (x := aQ (ag := false) (vs := [sl _ _]) gw (by exact ⟨⟩) (by exact rfl) (by exact nl rfl))
 refine aJ ?_
 refine sO [(1, _), (2, _), (3, _), (4, _), (5, _), (6, _), (57, _), (58, _), (59, _)] [(1, _), (2, _), (4, (32, [sl _ _, val _, val _, sl _ _, sl _ _, sl _ _, sl _ _, val _])), (6, (70, [val _, val _, any, any, any]))] ?_
 refine aM ?_
 refine tH ?_
 refine dH ?_
 refine sP [1, 2, 3, 4, 5, 6, 14, 57, 58, 59] [1, 2, 4, 6] ?_
 refine qh (d := 4) (t := 108) (e := 10) (G := 6200) (A := [sl _ _, val _, val _, sl _ _]) (B := [sl _ _, sl _ _, val _]) (f := (aG (.own 178 3) (.own 3 1) (.own 3 1) (.own 54 2) (.own 3 1))) (g := (fun z : Active => [val (vI z.Query.Id), val (vI z.Query.Tenant), sl .v (z.Query.Conds.map bR), sl .v (z.Query.Out.map ai), val (vI z.Time), sl .v (z.Todo.map ai), val (vI z.Age), val (vI z.Sent), val (vI z.Cap), sl .v (z.Rows.map (bn (.own 3 1)))])) (fN := fx) (xs := (bj e (parts e).length)) (by exact rfl) (by exact rfl) (fun _ _ => rfl) (fun _ => rfl) (fun _ => (ab.cons (PV.To.refl _) (ab.cons (PV.To.refl _) (ab.cons PV.to_none (ab.cons PV.to_none (ab.cons (PV.To.refl _) (ab.cons PV.to_none (ab.cons (PV.To.refl _) (ab.cons (PV.To.refl _) (ab.cons (PV.To.refl _) (ab.cons PV.to_none ab.nil))))))))))) (fun _ => (by exact lq)) fun za hza => ?_
 have hzal : za.length = e.Active.length := by rw [← List.length_map (f := Prod.fst), hza, iz]
 refine GB ?_
 refine nt ?_
 refine E5 ?_
 rintro m hm
 have hrl2 := vg (e := e) (k := (parts e).length) (m := m)
 have hdl2 := vh (e := e) (k := (parts e).length) (m := m)
 refine bG ?_
 refine sc (fun hbd => ?_) (fun hbd => ?_)
 have hltm : m < e.Active.length := by omega
 have hltz : m < za.length := by omega
 have hm2 : m < (bj e (parts e).length).length := by rw [iz]; exact hltm
 have hm1 : m < (bL e (parts e).length).length := by rw [pB]; exact hltm
 have hz3 : za[m].1 = (bj e (parts e).length)[m] := by simp [← hza]
 have hab := vj hoe hltm hm2
 rw [← hz3] at hab
 refine cE ?_
 refine sO [(1, _), (2, _), (3, _), (4, _), (5, _), (6, _), (14, _), (57, _), (58, _), (59, _), (145, _), (146, _), (147, _), (6200, _)] [(1, (32, [sl (.lo _) _, val _, val _, sl (.lo _) _, sl (.lo _) _, sl (.lo _) _, sl (.lo _) _, val _])), (2, (32, [sl _ _, val _, val _, sl _ _, sl _ _, sl _ _, sl _ _, val _])), (4, (32, [sl _ _, val _, val _, sl _ _, sl _ _, sl _ _, sl _ _, val _])), (6, (70, [val _, val _, any, any, any]))] ?_
 exact D4
 have hend2 : m = e.Active.length := by omega
 subst hend2
 refine et ?_
 refine sO [(1, _), (2, _), (3, _), (4, _), (5, _), (6, _), (14, _), (57, _), (58, _), (59, _), (145, _), (146, _), (147, _), (6200, _)] [(1, (32, [sl (.lo _) _, val _, val _, sl (.lo _) _, sl (.lo _) _, sl (.lo _) _, sl (.lo _) _, val _])), (2, (32, [sl _ _, val _, val _, sl _ _, sl _ _, sl _ _, sl _ _, val _])), (4, (32, [sl _ _, val _, val _, sl _ _, sl _ _, sl _ _, sl _ _, val _])), (6, (70, [val _, val _, any, any, any]))] ?_
 exact D6
 have hled : d4 e (parts e).length = e.Ledger := by unfold d4; rw [if_pos (by omega)]
 refine aN ?_
 refine sS [1, 2, 3, 4, 5, 6, 57, 58, 59] [1, 2, 4, 6] ?_
 refine tH ?_
 refine dH ?_
 refine sP [1, 2, 3, 4, 5, 6, 14, 57, 58, 59] [1, 2, 4, 6] ?_
 refine qh (d := 4) (t := 108) (e := 10) (G := 6200) (A := [sl _ _, val _, val _, sl _ _]) (B := [sl _ _, sl _ _, val _]) (f := (aG (.own 178 3) (.own 3 1) (.own 3 1) (.own 54 2) (.own 3 1))) (g := (fun z : Active => [val (vI z.Query.Id), val (vI z.Query.Tenant), sl .v (z.Query.Conds.map bR), sl .v (z.Query.Out.map ai), val (vI z.Time), sl .v (z.Todo.map ai), val (vI z.Age), val (vI z.Sent), val (vI z.Cap), sl .v (z.Rows.map (bn (.own 3 1)))])) (fN := fx) (xs := (bj e (parts e).length)) (by exact rfl) (by exact rfl) (fun _ _ => rfl) (fun _ => rfl) (fun _ => (ab.cons (PV.To.refl _) (ab.cons (PV.To.refl _) (ab.cons PV.to_none (ab.cons PV.to_none (ab.cons (PV.To.refl _) (ab.cons PV.to_none (ab.cons (PV.To.refl _) (ab.cons (PV.To.refl _) (ab.cons (PV.To.refl _) (ab.cons PV.to_none ab.nil))))))))))) (fun _ => (by exact lq)) fun za hza => ?_
 have hzal : za.length = e.Active.length := by rw [← List.length_map (f := Prod.fst), hza, iz]
 refine GB ?_
 refine nt ?_
 refine E5 ?_
 rintro m hm
 have hrl2 := vg (e := e) (k := (parts e).length) (m := m)
 have hdl2 := vh (e := e) (k := (parts e).length) (m := m)
 refine bG ?_
 refine sc (fun hbd => ?_) (fun hbd => ?_)
 have hltm : m < e.Active.length := by omega
 have hltz : m < za.length := by omega
 have hm2 : m < (bj e (parts e).length).length := by rw [iz]; exact hltm
 have hm1 : m < (bL e (parts e).length).length := by rw [pB]; exact hltm
 have hz3 : za[m].1 = (bj e (parts e).length)[m] := by simp [← hza]
 have hab := vj hoe hltm hm2
 rw [← hz3] at hab
 refine cE ?_
 refine sO [(1, _), (2, _), (3, _), (4, _), (5, _), (6, _), (14, _), (57, _), (58, _), (59, _), (145, _), (146, _), (147, _), (6200, _)] [(1, (32, [sl (.lo _) _, val _, val _, sl (.lo _) _, sl (.lo _) _, sl (.lo _) _, sl (.lo _) _, val _])), (2, (32, [sl _ _, val _, val _, sl _ _, sl _ _, sl _ _, sl _ _, val _])), (4, (32, [sl _ _, val _, val _, sl _ _, sl _ _, sl _ _, sl _ _, val _])), (6, (70, [val _, val _, sl _ _, sl _ _, sl _ _]))] ?_
 exact D4
 have hend2 : m = e.Active.length := by omega
 subst hend2
 refine et ?_
 refine sO [(1, _), (2, _), (3, _), (4, _), (5, _), (6, _), (14, _), (57, _), (58, _), (59, _), (145, _), (146, _), (147, _), (6200, _)] [(1, (32, [sl (.lo _) _, val _, val _, sl (.lo _) _, sl (.lo _) _, sl (.lo _) _, sl (.lo _) _, val _])), (2, (32, [sl _ _, val _, val _, sl _ _, sl _ _, sl _ _, sl _ _, val _])), (4, (32, [sl _ _, val _, val _, sl _ _, sl _ _, sl _ _, sl _ _, val _])), (6, (70, [val _, val _, sl _ _, sl _ _, sl _ _]))] ?_
 exact D6
end Go.Proofs.YtmekkgdboplbjaaGreat
