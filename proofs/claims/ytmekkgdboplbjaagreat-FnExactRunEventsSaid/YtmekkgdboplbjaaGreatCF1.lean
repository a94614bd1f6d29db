/- What functions of the program compute. No condition. -/
import Derived.Test.YtmekkgdboplbjaaGreatCB1
import Derived.Test.YtmekkgdboplbjaaGreatCX0
set_option linter.all false
namespace Go.Proofs.YtmekkgdboplbjaaGreat
open Go Go.RowKit M PV Tryz
set_option maxRecDepth 10000
attribute [local irreducible] PV.Lcl PV.LclR RV.Lcl
set_option maxHeartbeats 8000000
def abJ : gE prog 63 = some [(0, 4), (4, 1), (5, 1), (6, 1)] := by kernel_rfl
def abK : gE prog 70 = some [(0, 1), (1, 1), (2, 1), (3, 1), (4, 1)] := by kernel_rfl
def abL {q : acv} {r : Row}  : aB prog 151 [(true, [val (vI q.Id), val (vI q.acz), sl .v (q.acw.map bj), sl .v (q.Out.map ak)]), (true, [val (vI r.Id), sl .v (r.Values.map ak)])] (aA [(false, [val (.bool (fH q r))])]) := by
 refine sF func151 fun h0 w0 Fz0 => ?_
 refine sn 0 2 fun hl0_2 => ?_
 refine sn 0 3 fun hl0_3 => ?_
 refine sn 1 1 fun hl1_1 => ?_
 refine oe ?_
 refine rX ?_ (x := (dG (ag := true) (cs := [val _, sl _ _]) (by decide) (by exact tI)))
 refine kX ?_
 refine rA ?_ (x := lD [val _, val _, sl .v _, sl .v _] fy)
 refine Lo ?_
 refine cx 10 (fun ga sga => ?_) (fun ga sga => ?_)
 refine oH ?_
 exact IA
 refine rB ga ?_ (x := lD [val _, sl .v _] fI)
 refine rB ga ?_ (x := cL [(true, [val _, sl _ _])] [(true, [val _, sl .v _])] CG (hs := by exact Dg))
 refine mP ?_
 refine sc (fun hba => ?_) (fun hba => ?_)
 exact IA
 have hok : cJ q = true ∧ dR r = true := by simp_all
 refine de ?_
 refine rA ?_ (x := lF iw)
 refine qD ?_
 refine dZ ?_
 refine sP [2, 3, 4, 16, 17, 18] [2, 3] ?_
 refine sL [2, 3, 16, 17] [2, 3] (fun k : Nat => k ≤ r.Values.length ∧ (∀ i : Nat, i < k → iI q (i : Int) (r.Values.getD i 0) = true)) (fun k : Nat => [(18, RV.int (k : Int))]) (fun k : Nat => []) (fun k : Nat => r.Values.length - k) 0 (by exact ⟨by omega, fun i hi => absurd hi (Nat.not_lt_zero _)⟩) (by exact aI (by exact rfl) tI) (by exact tI) ?_
 rintro k ⟨hk, ha⟩
 refine cF ?_
 refine sc (fun hbb => ?_) (fun hbb => ?_)
 have hlt : k < r.Values.length := by omega
 refine bB ?_
 refine sT [2, 3, 16, 17, 18] [2, 3] ?_
 refine rM ?_
 refine oJ ?_
 refine rS ?_
 refine sS [2, 3, 5, 6, 16, 17, 18] [2, 3] ?_
 refine rA ?_ (x := lD [val _, val _, sl .v _, sl .v _] fy)
 refine la ?_
 refine rA ?_ (x := cL [(true, [val _, val _, sl _ _, sl _ _]), (false, [val _]), (false, [val _])] [(true, [val _, val _, sl .v _, sl .v _]), (false, [val _]), (false, [val _])] WW (hs := by exact ZU))
 refine rA ?_ (x := nT)
 refine sc (fun hbc => ?_) (fun hbc => ?_)
 have hno : fH q r = false := Tn (i := k) (by rw [← MW hlt]; simpa using hbc)
 refine sS [2, 3, 5, 6, 16, 17, 18] [2, 3] ?_
 refine cB ?_
 exact rb (hno.symm)
 have hyes : iI q (k : Int) (r.Values.getD k 0) = true := by rw [← MW hlt]; simpa using hbc
 refine bm ?_
 refine sG [2, 3, 5, 6, 16, 17, 18] [2, 3] ?_
 refine df ?_
 refine nx (k + 1) (by exact ⟨by omega, fun i hi => by by_cases e : i = k; (· subst e; exact hyes); (· exact ha i (by omega))⟩)
 have hall := Tm hok.1 hok.2 (fun i hi => ha i (by omega))
 refine bG ?_
 refine sT [2, 3, 16, 17, 18] [2, 3] ?_
 refine cB ?_
 exact rb (hall.symm)
def abM {p1 p2 p5 p6 p7 p8 p9 p11 p12 p13 p14 p16 p17 p18 : Fl} {e : aD}  (hb : bi e ≤ 68719000000) : aB prog 54 [(true, [sl .v (e.Store.act.map (aC p1 p2)), val (vI e.Store.Now), val (vI e.acy), sl .v (e.Order.map ak), sl .v (e.acu.map (aQ p5 p6 p7 p8 p9)), sl .v (e.Done.map (aX p11 p12 p13 p14)), sl .v (e.acG.map (aZ p16 p17 p18)), val (vI e.Steps)])] (aA [(true, [sl bo ((dn e).Store.act.map (aC aS aa)), val (vI (dn e).Store.Now), val (vI (dn e).acy), sl aa ((dn e).Order.map ak), sl bS ((dn e).acu.map (aQ aw aa aa az aa)), sl bJ ((dn e).Done.map (aX aw aa az aa)), sl bP ((dn e).acG.map (aZ aa aa aa)), val (vI (dn e).Steps)]), (false, [val (.bool (je e))])]) := by
 refine kU (largs := fun L => [(true, [sl (.lo L) (e.Store.act.map (aC (.lo L) (.lo L))), val (vI e.Store.Now), val (vI e.acy), sl (.lo L) (e.Order.map ak), sl (.lo L) (e.acu.map (aQ (.lo L) (.lo L) (.lo L) (.lo L) (.lo L))), sl (.lo L) (e.Done.map (aX (.lo L) (.lo L) (.lo L) (.lo L))), sl (.lo L) (e.acG.map (aZ (.lo L) (.lo L) (.lo L))), val (vI e.Steps)])]) (rs := [(true, [sl bo ((dn e).Store.act.map (aC aS aa)), val (vI (dn e).Store.Now), val (vI (dn e).acy), sl aa ((dn e).Order.map ak), sl bS ((dn e).acu.map (aQ aw aa aa az aa)), sl bJ ((dn e).Done.map (aX aw aa az aa)), sl bP ((dn e).acG.map (aZ aa aa aa)), val (vI (dn e).Steps)]), (false, [val (.bool (je e))])]) func54 rfl (nl rfl) (fun L => by exact (aI (aI rfl (ab.cons (aM (fun _ => nl rfl) (fun _ => (ab.cons (aM (fun _ => nl rfl) (fun _ => (ab.cons ao (ab.cons (aM (fun _ => nl rfl) (fun _ => (ab.cons ao ab.nil))) (ab.cons ao (ab.cons ao ab.nil)))))) ab.nil))) (ab.cons ao (ab.cons ao (ab.cons (aM (fun _ => nl rfl) (fun _ => (ab.cons ao ab.nil))) (ab.cons (aM (fun _ => nl rfl) (fun _ => (ab.cons ao (ab.cons ao (ab.cons (aM (fun _ => nl rfl) (fun _ => (ab.cons ao (ab.cons ao (ab.cons ao ab.nil))))) (ab.cons (aM (fun _ => nl rfl) (fun _ => (ab.cons ao ab.nil))) (ab.cons ao (ab.cons (aM (fun _ => nl rfl) (fun _ => (ab.cons ao ab.nil))) (ab.cons ao (ab.cons ao (ab.cons ao (ab.cons (aM (fun _ => nl rfl) (fun _ => (ab.cons ao (ab.cons (aM (fun _ => nl rfl) (fun _ => (ab.cons ao ab.nil))) ab.nil)))) ab.nil)))))))))))) (ab.cons (aM (fun _ => nl rfl) (fun _ => (ab.cons ao (ab.cons ao (ab.cons (aM (fun _ => nl rfl) (fun _ => (ab.cons ao (ab.cons ao (ab.cons ao ab.nil))))) (ab.cons (aM (fun _ => nl rfl) (fun _ => (ab.cons ao ab.nil))) (ab.cons ao (ab.cons ao (ab.cons (aM (fun _ => nl rfl) (fun _ => (ab.cons ao (ab.cons (aM (fun _ => nl rfl) (fun _ => (ab.cons ao ab.nil))) ab.nil)))) ab.nil))))))))) (ab.cons (aM (fun _ => nl rfl) (fun _ => (ab.cons ao (ab.cons ao (ab.cons (aM (fun _ => nl rfl) (fun _ => (ab.cons ao ab.nil))) (ab.cons (aM (fun _ => nl rfl) (fun _ => (ab.cons ao ab.nil))) (ab.cons (aM (fun _ => nl rfl) (fun _ => (ab.cons ao ab.nil))) ab.nil))))))) (ab.cons ao ab.nil))))))))) tI)) (fun L => by exact lq) ?_
 intro w0 Fz0
 refine sn 0 0 fun hl0_0 => ?_
 refine sn 0 3 fun hl0_3 => ?_
 refine sn 0 4 fun hl0_4 => ?_
 refine sn 0 5 fun hl0_5 => ?_
 refine sn 0 6 fun hl0_6 => ?_
 have hbu := hb
 simp only [bi, da, dQ, dP] at hbu
 refine sa ?_
 refine Kk ?_
 refine AE ?_
 refine jU ?_
 refine LG ?_
 refine ob ?_
 refine AF ?_
 refine cx 22 (fun ga sga => ?_) (fun ga sga => ?_)
 refine kG ?_
 refine ar.cases (s := 27) rfl (fun g2 => ?_) (fun g2 => nomatch g2)
 refine pM ?_
 refine ar.cases (s := 33) rfl (fun g3 => ?_) (fun g3 => nomatch g3)
 exact IB
 refine rB ga ?_ (x := lF kh)
 refine pv ?_
 refine ou ?_
 refine cx 27 (fun gb sgb => ?_) (fun gb sgb => ?_)
 refine ox ?_
 refine ar.cases (s := 33) rfl (fun g6 => ?_) (fun g6 => nomatch g6)
 exact IC
 refine rB gb ?_ (x := lF kg)
 refine rB gb ?_ (x := lD [sl (.lo _) _] kp)
 refine rB gb ?_ (x := lN eB)
 refine rB gb ?_ (x := eG)
 refine qy ?_
 refine cx 33 (fun gc sgc => ?_) (fun gc sgc => ?_)
 exact ID
 refine rB gc ?_ (x := lF lh)
 refine rB gc ?_ (x := lD [sl (.lo _) _] lm)
 refine rB gc ?_ (x := lN fb)
 refine rB gc ?_ (x := lF el)
 refine rB gc ?_ (x := lD [sl (.lo _) _] ea)
 refine rB gc ?_ (x := lN bL)
 refine rB gc ?_ (x := kV)
 refine rB gc ?_ (x := eN)
 refine rA ?_ (x := aK gc)
 refine sc (fun hba => ?_) (fun hba => ?_)
 exact tS
 have hok : je e = true := by
  have ho_ : bk e = true := by simp_all
  have hef_ := ie ho_
  unfold je
  rw [ho_]
  simp only [Bool.true_and, bq, decide_eq_true_eq]
  exact ⟨by omega, by omega, by omega⟩
 obtain ⟨hoe, hst, hld, hda⟩ := yA hok
 have hef := ie hoe
 have hcl : e.acy.toNat < e.Store.act.length := hef.2.2.2.1
 have hpl := yg (e := e)
 have hs4 := Dw hoe
 have hswt := DC hoe
 refine bm ?_
 refine sS [1, 2, 3, 4] [1, 2, 4] ?_
 refine rA ?_ (x := lF hY)
 refine ur ?_
 refine qK ?_
 refine rA ?_ (x := aY (k := e.acy.toNat) (by decide) di (by exact tI) (by omega) (by exact bc hcl (by rw [iH (d := ([] : List aU)) hcl])) (by exact rfl))
 refine rA ?_ (x := lE [sl (.lo _) _] gx)
 refine rA ?_ (x := vA false [sl (.lo _) _])
 refine sS [1, 2, 3, 4, 5] [1, 2, 4] ?_
 refine qK ?_
 refine rA ?_ (x := vM false [sl (.lo _) _])
 refine rA ?_ (x := lN cv)
 refine rA ?_ (x := fB (qs := [(false, [val _]), (false, [val _])]) (cs := [val _, val _, sl _ _, sl _ _, sl _ _]) (by decide) jb pT abK (by exact rfl) (by exact (aI (by exact tI) (aI (by exact tI) tI))) rfl (by exact rfl))
 refine AR ?_
 refine fF ?_
 refine sO [(1, _), (2, _), (3, _), (4, _), (5, _), (6, _)] [(1, _), (2, _), (4, _), (6, (70, [val _, val _, sl _ _, sl _ _, sl _ _]))] ?_
 refine ob ?_
 refine rA ?_ (x := cL [(true, [sl (.lo _) _, val _, val _, sl (.lo _) _, sl (.lo _) _, sl (.lo _) _, sl (.lo _) _, val _])] [(true, [sl .v _, val _, val _, sl .v _, sl .v _, sl .v _, sl .v _, val _])] WD (hs := by exact (aag (by omega))))
 refine rA ?_ (x := lN bF)
 refine dZ ?_
 refine sP [1, 2, 3, 4, 5, 6, 57, 58, 59] [1, 2, 4, 6] ?_
 refine sL [1, 2, 3, 4, 5, 6, 57, 58] [1, 2] (fun k : Nat => k ≤ (parts e).length) (fun k : Nat => [(59, RV.int (k : Int))]) (fun k : Nat => [(4, (32, [sl bo (e.Store.act.map (aC aS aa)), val (vI e.Store.Now), val (vI e.acy), sl aa (e.Order.map ak), sl bS ((ca e k).map (aQ aw aa aa az aa)), sl bJ (e.Done.map (aX aw aa az aa)), sl bP (e.acG.map (aZ aa aa aa)), val (vI e.Steps)])), (6, (70, [val (vI (gK e k).Segment), val (vI (gK e k).Base), sl aa ((gK e k).Ids.map ak), sl aa ((gK e k).acA.map ak), sl aa ((gK e k).Rows.map ak)]))]) (fun k : Nat => (parts e).length - k) 0 (by omega) (by exact aI (by exact rfl) tI) (by exact aI (by rw [Ds]; exact rfl) (aI (by exact rfl) tI)) ?_
 rintro k hk
 have hcg := Dt (e := e) hk
 have hsl := kv (e := e) (k := k)
 refine cF ?_
 refine sc (fun hbb => ?_) (fun hbb => ?_)
 have hlt : k < (parts e).length := by omega
 obtain ⟨i, hi, hf, hid, hpp⟩ := PI hoe hlt
 have hil : i < (ca e k).length := by omega
 have hoa := yG (hef.2.2.2.2.2.2.2.2.2.1 _ (List.getElem_mem hi))
 have hwa := cT (f := bZ) hi
 have hwq : bZ e.acu[i] = cr e.acu[i].acv + e.acu[i].acD.length + dH e.acu[i].Rows := by simp only [bZ, ek, bd]; omega
 have hga4 := PT hoe e.acu[i]
 have hvl := yD (ce e) e.acu[i].Time
 refine cO ?_
 refine JC ?_
 refine oJ ?_
 refine sS [1, 2, 3, 4, 5, 6, 8, 57, 58, 59] [1, 2, 4, 6] ?_
 refine rA ?_ (x := lD [sl (.lo _) _, val _, val _, sl (.lo _) _, sl (.lo _) _, sl (.lo _) _, sl (.lo _) _, val _] bU)
 refine rM ?_
 refine JP ?_
 refine sP [1, 2, 3, 4, 5, 6, 8, 9, 57, 58, 59] [1, 2, 4, 6] ?_
 refine ju (d := 4) (t := 32) (D := 900) (G := 2900) (E := 108) (e := 10) (L := (Lw w0.heap.size)) (A := [sl _ _, val _, val _, sl _ _]) (B := [sl _ _, sl _ _, val _]) (es := ((ca e k)).map (aQ aw aa aa az aa)) (by exact rfl) (iC hil) (by exact rfl) (by exact rfl) rfl (by exact rfl) (fun x hx => hx) (by exact lq) (by exact lq) (by exact lq) (by exact lq) (ai.map fun x => (ai.cons lcl_val (ai.cons lcl_val (ai.cons (lcl_own (ai.map fun x => (ai.cons lcl_val (ai.cons lcl_val (ai.cons lcl_val ai.nil))))) (ai.cons (lcl_own (ai.map fun x => (ai.cons lcl_val ai.nil))) (ai.cons lcl_val (ai.cons (lcl_own (ai.map fun x => (ai.cons lcl_val ai.nil))) (ai.cons lcl_val (ai.cons lcl_val (ai.cons lcl_val (ai.cons (lcl_own (ai.map fun x => (ai.cons lcl_val (ai.cons (lcl_own (ai.map fun x => (ai.cons lcl_val ai.nil))) ai.nil)))) ai.nil))))))))))) fun uu900 cp900 jk900 hlD900 hcp900 hjk900 => ?_
 rw [aq] at hlD900 hcp900 hjk900
 refine bV (d := 900) (by exact rfl) (iB (k := i) hil) ?_
 have hA900 := iQ (f := (aQ aw aa aa az aa)) (e := 10) (xs := (ca e k)) (k := i) (fun _ => rfl) (Nat.le_of_lt hil)
 refine bV (d := 900) (by exact rfl) (congrArg (fun z_ => ((((ca e k)).take i).map (aQ aw aa aa az aa)).flatten ++ ((aQ aw aa aa az aa) z_ ++ (((((ca e k)).drop (i + 1)).map (aQ aw aa aa az aa)).flatten ++ jk900.map val))) (PJ hoe hlt hi hid hil)) ?_
 refine sO [(1, _), (2, _), (3, _), (4, _), (5, _), (6, _), (8, _), (9, _), (57, _), (58, _), (59, _), (2900, _)] [(1, _), (2, _), (4, (32, [sl _ _, val _, val _, sl _ _, val _, sl _ _, sl _ _, val _])), (6, _), (900, (108, _ ++ ([val _, val _, sl _ _, sl _ _, val _, sl _ _, val _, val _, val _, sl _ _] ++ _)))] ?_
 refine bf ?_
 refine rA ?_ (x := lF el)
 refine rA ?_ (x := lD [val _] ea)
 refine rM ?_
 refine rA ?_ (x := io (k := i) (G := 2900) (by decide) bL (by exact tI) (by omega) (by first | (rw [aq]; exact hil) | exact hil))
 refine rA ?_ (x := zu (o := 0) (ms := [val _, val _, sl _ _, sl _ _, val _, sl _ _, val _, val _, val _, sl _ _]) (qs := [val _, val _, sl .v _, sl .v _, val _, sl .v _, val _, val _, val _, sl .v _]) (by omega) (by decide) fW (fun h => nomatch h) (by exact nl rfl) (by exact rfl) (by exact (ap (ap (aH (aH (ap (aH (ap (ap (ap (aH am.nil))))))))))) (by exact lq))
 refine rW ?_
 refine aP ?_
 refine sO [(1, _), (2, _), (3, _), (4, _), (5, _), (6, _), (8, _), (9, _), (10, _), (57, _), (58, _), (59, _), (2900, _)] [(1, _), (2, _), (4, _), (6, _), (10, (108, [val _, val _, sl _ _, sl _ _, val _, sl _ _, val _, val _, val _, sl _ _])), (900, (108, _ ++ ([val _, val _, sl _ _, sl _ _, val _, sl _ _, val _, val _, val _, sl _ _] ++ _)))] ?_
 refine bf ?_
 refine fh ?_
 refine sS [1, 2, 3, 4, 5, 6, 8, 9, 10, 11, 57, 58, 59, 2900] [1, 2, 4, 6, 10, 900] ?_
 refine BA ?_
 refine qK ?_
 refine xm ?_
 refine rA ?_ (x := cL [(true, [sl (.lo _) _, val _]), (false, [val _]), (false, [val _])] [(true, [sl .v _, val _]), (false, [val _]), (false, [val _])] WE (hs := by exact (abx (by omega) (by omega) (by omega))))
 refine rA ?_ (x := lN gw)
 refine dZ ?_
 refine sP [1, 2, 3, 4, 5, 6, 8, 9, 10, 11, 57, 58, 59, 77, 78, 79, 2900] [1, 2, 4, 6, 10, 900] ?_
 refine FC (s := 77) (t := 54) (e := 2) (G := 6100) (f := (bC aa)) (g := (fun z : Row => [val (vI z.Id), sl .v (z.Values.map ak)])) (fN := aaX) (xs := (dK (ce e) e.acu[i].Time)) (by exact rfl) (by exact rfl) (by exact rfl) (fun _ _ => rfl) (fun _ => rfl) (fun _ => (ap (aH am.nil))) (fun _ => (an.cons (bor_val _) (an.cons (bor_sl _) an.nil))) fun zr hzr => ?_
 have hzl : zr.length = (dK (ce e) e.acu[i].Time).length := by rw [← hzr, aq]
 have hve : (dK (e.Store.act.getD e.acy.toNat []) e.acu[i].Time).length = (dK (ce e) e.acu[i].Time).length := rfl
 refine sP [1, 2, 3, 4, 5, 6, 8, 9, 10, 11, 57, 58, 59, 77, 78, 79, 2900, 6100] [1, 2, 4, 6, 10, 900] ?_
 refine sL [1, 2, 3, 4, 5, 6, 8, 9, 10, 57, 58, 59, 77, 78, 2900] [1, 2, 4, 6, 900] (fun j : Nat => j ≤ zr.length) (fun j : Nat => [(11, RV.int ((ix e e.acu[i] j).length : Int)), (79, RV.int (j : Int)), (6100, RV.gh (bl 2 (zr.drop j)) (bK (bC aa) (zr.drop j)))]) (fun j : Nat => [(10, (108, [val (vI e.acu[i].acv.Id), val (vI e.acu[i].acv.acz), sl aw (e.acu[i].acv.acw.map bj), sl aa (e.acu[i].acv.Out.map ak), val (vI e.acu[i].Time), sl aa (e.acu[i].acD.map ak), val (vI e.acu[i].Age), val (vI e.acu[i].Sent), val (vI e.acu[i].Cap), sl az ((e.acu[i].Rows ++ ix e e.acu[i] j).map (bC aa))]))]) (fun j : Nat => zr.length - j) 0 (by omega) (by exact aI (by exact rfl) (aI (by exact rfl) (aI (by exact rfl) tI))) (by exact aI (by show _ = some (108, [val (vI e.acu[i].acv.Id), val (vI e.acu[i].acv.acz), sl aw (e.acu[i].acv.acw.map bj), sl aa (e.acu[i].acv.Out.map ak), val (vI e.acu[i].Time), sl aa (e.acu[i].acD.map ak), val (vI e.acu[i].Age), val (vI e.acu[i].Sent), val (vI e.acu[i].Cap), sl az ((e.acu[i].Rows ++ ix e e.acu[i] 0).map (bC aa))]); rw [show ix e e.acu[i] 0 = [] from rfl, eg]; exact rfl) tI) ?_
 rintro j hj
 have hgl := DB hoe e.acu[i] j
 refine cF ?_
 refine sc (fun hbc => ?_) (fun hbc => ?_)
 have hltz : j < zr.length := by omega
 have hjv : j < (dK (ce e) e.acu[i].Time).length := by omega
 have hz3 : zr[j].1 = (dK (ce e) e.acu[i].Time)[j] := by simp [← hzr]
 refine cO ?_
 refine Jp ?_
 refine rA ?_ (x := aY (by decide) gw (by exact tI) (by exact rfl) (by exact bc (by omega) rfl) (by exact rfl))
 refine rA ?_ (x := nA (qs := [nv _ (val _), nv _ (sl .v _)]) (by decide) fI (fun h => nomatch h) (by exact nl rfl) (by exact (ap (ap am.nil))) (by exact (an.cons (bor_nv (bor_val _)) (an.cons (bor_nv (bor_sl _)) an.nil))))
 refine rX ?_ (x := (bY (by decide) ja mp))
 refine rA ?_ (x := bg (ag := true) (vs := [nv _ (val _), nv _ (sl _ _)]) fI (by exact tI) (by exact rfl) (by exact nl rfl))
 refine sO [(1, _), (2, _), (3, _), (4, _), (5, _), (6, _), (8, _), (9, _), (10, _), (11, _), (13, _), (57, _), (58, _), (59, _), (77, _), (78, _), (79, _), (2900, _), (6100, _)] [(1, _), (2, _), (4, _), (6, _), (10, _), (13, (54, [nv _ (val _), nv _ (sl _ _)])), (900, _)] ?_
 refine zG (d := 13) (G := 6100) (e := 2) (f := (bC aa)) (z := zr[j]) (zs := (zr.drop (j + 1))) (by exact rfl) (by exact (Nm.nv (Nm.nv Nm.nil))) (fun _ => rfl) (by rw [← List.drop_eq_getElem_cons hltz]; exact rfl) ?_
 refine aP ?_
 refine sO [(1, _), (2, _), (3, _), (4, _), (5, _), (6, _), (8, _), (9, _), (10, _), (11, _), (13, _), (57, _), (58, _), (59, _), (77, _), (78, _), (79, _), (2900, _), (6100, _)] [(1, _), (2, _), (4, _), (6, _), (10, _), (13, (54, [val _, sl _ _])), (900, _)] ?_
 refine bf ?_
 refine un ?_
 refine rA ?_ (x := lD [val _, sl .v _] fI)
 refine rA ?_ (x := cL [(true, [val _, val _, sl _ _, sl _ _]), (true, [val _, sl _ _])] [(true, [val _, val _, sl .v _, sl .v _]), (true, [val _, sl .v _])] WF (hs := by exact abL))
 refine sc (fun hbd => ?_) (fun hbd => ?_)
 have hm : fH e.acu[i].acv (dK (ce e) e.acu[i].Time)[j] = true := by rw [← hz3]; simpa using hbd
 refine sS [1, 2, 3, 4, 5, 6, 8, 9, 10, 11, 13, 57, 58, 59, 77, 78, 79, 2900, 6100] [1, 2, 4, 6, 10, 13, 900] ?_
 refine Ka ?_
 refine rA ?_ (x := cz (ms := [val _, sl _ _]) (qs := [val _, sl .v _]) (by decide) fI (fun h => nomatch h) (by exact nl rfl) (by exact rfl) (by exact (ap (aH am.nil))) (by exact (an.cons (bor_val _) (an.cons (bor_sl _) an.nil))))
 refine wt ?_
 refine Bf ?_
 refine sO [(1, _), (2, _), (3, _), (4, _), (5, _), (6, _), (8, _), (9, _), (10, _), (11, _), (13, _), (57, _), (58, _), (59, _), (77, _), (78, _), (79, _), (2900, _), (6100, _)] [(1, _), (2, _), (4, _), (6, _), (10, (108, [val _, val _, sl _ _, sl _ _, val _, sl _ _, val _, val _, val _, sl _ _])), (13, (54, [val _, sl _ _])), (900, _)] ?_
 refine fU ?_
 exact IE
 have hm : fH e.acu[i].acv (dK (ce e) e.acu[i].Time)[j] = false := by rw [← hz3]; simpa using hbd
 refine bm ?_
 exact IE
 have hjend : j = (dK (ce e) e.acu[i].Time).length := by omega
 have hgt : ix e e.acu[i] j = ly e e.acu[i] := by rw [hjend]; exact Du
 rw [hgt]
 refine it ?_
 refine Jp ?_
 refine rA ?_ (x := lF kc)
 refine rA ?_ (x := lD [val _] au)
 refine rM ?_
 refine rA ?_ (x := kV)
 refine rA ?_ (x := lF kc)
 refine er ?_
 refine JJ ?_
 refine BM ?_
 refine qK ?_
 refine rA ?_ (x := cL [(false, [sl _ _]), (false, [val _])] [(false, [sl .v _]), (false, [val _])] WG (hs := by exact (abv (by omega))))
 refine rA ?_ (x := lF hR)
 refine kF ?_
 refine JJ ?_
 refine rA ?_ (x := lF el)
 refine rA ?_ (x := lD [val _] ea)
 refine rM ?_
 refine rA ?_ (x := cz (ms := [val _, val _, sl _ _, sl _ _, val _, sl _ _, val _, val _, val _, sl _ _]) (qs := [val _, val _, sl .v _, sl .v _, val _, sl .v _, val _, val _, val _, sl .v _]) (by decide) fW (fun h => nomatch h) (by exact nl rfl) (by exact rfl) (by exact (ap (ap (aH (aH (ap (aH (ap (ap (ap (aH am.nil))))))))))) (by exact lq))
 refine rA ?_ (x := io (k := i) (G := 2900) (by decide) bL (by exact tI) (by omega) (by first | (rw [aq]; exact hil) | exact hil))
 refine rA ?_ (x := fD (o := 0) (ag := true) (vs := [val _, val _, sl _ _, sl _ _, val _, sl _ _, val _, val _, val _, sl _ _]) (by omega) fW (by exact tI) (by exact rfl) (by exact nl rfl))
 refine bV (d := 900) (by exact rfl) (mI (pY e e.acu[i]) hil (by exact rfl)) ?_
 refine nS (d := 4) (D := 900) (G := 2900) (e := 10) (A := [sl _ _, val _, val _, sl _ _]) (B := [sl _ _, sl _ _, val _]) (es := (((ca e k)).set i (pY e e.acu[i])).map (aQ aw aa aa az aa)) (by exact rfl) (by exact rfl) (by exact rfl) rfl (by rw [aq, List.length_set, aq]) (by intro c hc; obtain ⟨y, _, rfl⟩ := List.mem_map.1 hc; exact rfl) (by rw [aq]; exact hjk900) ?_
 refine aP ?_
 refine sO [(1, _), (2, _), (3, _), (4, _), (5, _), (6, _), (8, _), (9, _), (10, _), (11, _), (57, _), (58, _), (59, _), (77, _), (78, _), (79, _), (6100, _)] [(1, _), (2, _), (4, (32, [sl _ _, val _, val _, sl _ _, sl _ _, sl _ _, sl _ _, val _])), (6, _), (10, (108, [val _, val _, sl _ _, sl _ _, val _, sl _ _, val _, val _, val _, sl _ _]))] ?_
 refine bf ?_
 refine rA ?_ (x := lF mn)
 refine tW ?_
 refine qt ?_
 refine rA ?_ (x := lF mn)
 refine kF ?_
 refine Jv ?_
 refine rA ?_ (x := lF kl)
 refine rA ?_ (x := cz (ms := [sl _ _]) (qs := [sl .v _]) (by decide) bv (fun _ => rfl) (by exact nl rfl) (by exact rfl) (by exact (aH am.nil)) (by exact (an.cons (bor_sl _) an.nil)))
 refine rA ?_ (x := lF fw)
 refine rA ?_ (x := lF iY)
 refine rA ?_ (x := lD [val _] au)
 refine qt ?_
 refine rA ?_ (x := lF kl)
 refine Mf ?_
 refine rA ?_ (x := lF iZ)
 refine tW ?_
 refine qt ?_
 refine rA ?_ (x := lF iZ)
 refine Mf ?_
 refine df ?_
 refine nx (k + 1) (by omega) (f := (by exact aI (by rw [← PK hoe hlt hi hid]; exact rfl) (aI (by rw [aaH hlt hi hf]; simp only [bT]; exact rfl) tI)))
 have hend : k = (parts e).length := by omega
 subst hend
 refine bG ?_
 refine fF ?_
 refine JC ?_
 refine xC ?_
 refine rA ?_ (x := eN)
 refine sc (fun hbc => ?_) (fun hbc => ?_)
 have hled : ij e (parts e).length = e.acG ++ [gK e (parts e).length] := by unfold ij; rw [if_neg (by omega)]
 refine sG [1, 2, 3, 4, 5, 6, 57, 58, 59] [1, 2, 4, 6] ?_
 refine rA ?_ (x := lF kg)
 refine rA ?_ (x := cz (ms := [sl _ _]) (qs := [sl .v _]) (by decide) kp (fun _ => rfl) (by exact nl rfl) (by exact rfl) (by exact (aH am.nil)) (by exact (an.cons (bor_sl _) an.nil)))
 refine rA ?_ (x := cz (ms := [val _, val _, sl _ _, sl _ _, sl _ _]) (qs := [val _, val _, any, any, any]) (by decide) jJ (fun h => nomatch h) (by exact nl rfl) (by exact rfl) (by exact (ap (ap (am.cons PV.to_any (am.cons PV.to_any (am.cons PV.to_any am.nil)))))) (by exact lq))
 refine rA ?_ (x := cj (qs := [(true, [val _, val _, sl _ _, sl _ _, sl _ _])]) (by decide) eB jb (by decide) rfl rfl rfl rfl rfl (by exact nl rfl) (by exact (aI (by exact tI) tI)) rfl)
 refine rA ?_ (x := fe (by decide) eB jb rfl rfl (by decide) rfl (by simp only [aq, aV, List.length_cons, List.length_nil]; omega) (by simp only [aq, aV, List.length_cons, List.length_nil]; omega))
 refine LM ?_
 refine aP ?_
 refine sO [(1, _), (2, _), (3, _), (4, _), (5, _), (6, _), (57, _), (58, _), (59, _)] [(1, _), (2, _), (4, (32, [sl _ _, val _, val _, sl _ _, sl _ _, sl _ _, sl _ _, val _])), (6, (70, [val _, val _, any, any, any]))] ?_
 refine bf ?_
 refine ue ?_
 refine fF ?_
 refine sP [1, 2, 3, 4, 5, 6, 14, 57, 58, 59] [1, 2, 4, 6] ?_
 refine rN (d := 4) (t := 108) (e := 10) (G := 6200) (A := [sl _ _, val _, val _, sl _ _]) (B := [sl _ _, sl _ _, val _]) (f := (aQ aw aa aa az aa)) (g := (fun z : acu => [val (vI z.acv.Id), val (vI z.acv.acz), sl .v (z.acv.acw.map bj), sl .v (z.acv.Out.map ak), val (vI z.Time), sl .v (z.acD.map ak), val (vI z.Age), val (vI z.Sent), val (vI z.Cap), sl .v (z.Rows.map (bC aa))])) (fN := eS) (xs := (ca e (parts e).length)) (by exact rfl) (by exact rfl) (fun _ _ => rfl) (fun _ => rfl) (fun _ => (ap (ap (aH (aH (ap (aH (ap (ap (ap (aH am.nil))))))))))) (fun _ => (by exact lq)) fun za hza => ?_
 have hzal : za.length = e.acu.length := by rw [← aq (f := Prod.fst), hza, kv]
 refine Kl ?_
 refine pK ?_
 refine Jj ?_
 rintro m hm
 have hrl2 := yE (e := e) (k := (parts e).length) (m := m)
 have hdl2 := yF (e := e) (k := (parts e).length) (m := m)
 refine cF ?_
 refine sc (fun hbd => ?_) (fun hbd => ?_)
 have hltm : m < e.acu.length := by omega
 have hltz : m < za.length := by omega
 have hm2 : m < (ca e (parts e).length).length := by rw [kv]; exact hltm
 have hm1 : m < (cY e (parts e).length).length := by rw [vc]; exact hltm
 have hz3 : za[m].1 = (ca e (parts e).length)[m] := by simp [← hza]
 have hab := yH hoe hltm hm2
 rw [← hz3] at hab
 refine cO ?_
 refine sO [(1, _), (2, _), (3, _), (4, _), (5, _), (6, _), (14, _), (57, _), (58, _), (59, _), (145, _), (146, _), (147, _), (6200, _)] [(1, (32, [sl (.lo _) _, val _, val _, sl (.lo _) _, sl (.lo _) _, sl (.lo _) _, sl (.lo _) _, val _])), (2, (32, [sl _ _, val _, val _, sl _ _, sl _ _, sl _ _, sl _ _, val _])), (4, (32, [sl _ _, val _, val _, sl _ _, sl _ _, sl _ _, sl _ _, val _])), (6, (70, [val _, val _, any, any, any]))] ?_
 exact II
 have hend2 : m = e.acu.length := by omega
 subst hend2
 refine it ?_
 refine sO [(1, _), (2, _), (3, _), (4, _), (5, _), (6, _), (14, _), (57, _), (58, _), (59, _), (145, _), (146, _), (147, _), (6200, _)] [(1, (32, [sl (.lo _) _, val _, val _, sl (.lo _) _, sl (.lo _) _, sl (.lo _) _, sl (.lo _) _, val _])), (2, (32, [sl _ _, val _, val _, sl _ _, sl _ _, sl _ _, sl _ _, val _])), (4, (32, [sl _ _, val _, val _, sl _ _, sl _ _, sl _ _, sl _ _, val _])), (6, (70, [val _, val _, any, any, any]))] ?_
 exact IK
 have hled : ij e (parts e).length = e.acG := by unfold ij; rw [if_pos (by omega)]
 refine bm ?_
 refine sS [1, 2, 3, 4, 5, 6, 57, 58, 59] [1, 2, 4, 6] ?_
 refine ue ?_
 refine fF ?_
 refine sP [1, 2, 3, 4, 5, 6, 14, 57, 58, 59] [1, 2, 4, 6] ?_
 refine rN (d := 4) (t := 108) (e := 10) (G := 6200) (A := [sl _ _, val _, val _, sl _ _]) (B := [sl _ _, sl _ _, val _]) (f := (aQ aw aa aa az aa)) (g := (fun z : acu => [val (vI z.acv.Id), val (vI z.acv.acz), sl .v (z.acv.acw.map bj), sl .v (z.acv.Out.map ak), val (vI z.Time), sl .v (z.acD.map ak), val (vI z.Age), val (vI z.Sent), val (vI z.Cap), sl .v (z.Rows.map (bC aa))])) (fN := eS) (xs := (ca e (parts e).length)) (by exact rfl) (by exact rfl) (fun _ _ => rfl) (fun _ => rfl) (fun _ => (ap (ap (aH (aH (ap (aH (ap (ap (ap (aH am.nil))))))))))) (fun _ => (by exact lq)) fun za hza => ?_
 have hzal : za.length = e.acu.length := by rw [← aq (f := Prod.fst), hza, kv]
 refine Kl ?_
 refine pK ?_
 refine Jj ?_
 rintro m hm
 have hrl2 := yE (e := e) (k := (parts e).length) (m := m)
 have hdl2 := yF (e := e) (k := (parts e).length) (m := m)
 refine cF ?_
 refine sc (fun hbd => ?_) (fun hbd => ?_)
 have hltm : m < e.acu.length := by omega
 have hltz : m < za.length := by omega
 have hm2 : m < (ca e (parts e).length).length := by rw [kv]; exact hltm
 have hm1 : m < (cY e (parts e).length).length := by rw [vc]; exact hltm
 have hz3 : za[m].1 = (ca e (parts e).length)[m] := by simp [← hza]
 have hab := yH hoe hltm hm2
 rw [← hz3] at hab
 refine cO ?_
 refine sO [(1, _), (2, _), (3, _), (4, _), (5, _), (6, _), (14, _), (57, _), (58, _), (59, _), (145, _), (146, _), (147, _), (6200, _)] [(1, (32, [sl (.lo _) _, val _, val _, sl (.lo _) _, sl (.lo _) _, sl (.lo _) _, sl (.lo _) _, val _])), (2, (32, [sl _ _, val _, val _, sl _ _, sl _ _, sl _ _, sl _ _, val _])), (4, (32, [sl _ _, val _, val _, sl _ _, sl _ _, sl _ _, sl _ _, val _])), (6, (70, [val _, val _, sl _ _, sl _ _, sl _ _]))] ?_
 exact II
 have hend2 : m = e.acu.length := by omega
 subst hend2
 refine it ?_
 refine sO [(1, _), (2, _), (3, _), (4, _), (5, _), (6, _), (14, _), (57, _), (58, _), (59, _), (145, _), (146, _), (147, _), (6200, _)] [(1, (32, [sl (.lo _) _, val _, val _, sl (.lo _) _, sl (.lo _) _, sl (.lo _) _, sl (.lo _) _, val _])), (2, (32, [sl _ _, val _, val _, sl _ _, sl _ _, sl _ _, sl _ _, val _])), (4, (32, [sl _ _, val _, val _, sl _ _, sl _ _, sl _ _, sl _ _, val _])), (6, (70, [val _, val _, sl _ _, sl _ _, sl _ _]))] ?_
 exact IK
end Go.Proofs.YtmekkgdboplbjaaGreat
