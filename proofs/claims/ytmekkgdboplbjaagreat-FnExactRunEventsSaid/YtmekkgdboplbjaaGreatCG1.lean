/- What functions of the program compute. No condition. -/
import Derived.Test.YtmekkgdboplbjaaGreatCB1
import Derived.Test.YtmekkgdboplbjaaGreatCX0
set_option linter.all false
namespace Go.Proofs.YtmekkgdboplbjaaGreat
open Go Go.RowKit M PV
set_option maxRecDepth 10000
attribute [local irreducible] PV.Lcl PV.LclR RV.Lcl
set_option maxHeartbeats 8000000
def abN : gE Tryz.prog 54 = some [(0, 1), (1, 1)] := by kernel_rfl
def abO : gE Tryz.prog 70 = some [(0, 1), (1, 1), (2, 1), (3, 1), (4, 1)] := by kernel_rfl
def abP {e : aD} {ids : List Int}  (hids : ids = parts e) (hoe : bk e = true) (hb : bi e ≤ 68719000000) : tF Tryz.prog 233 32 [sl bo (e.Store.act.map (aC aS aa)), val (vI e.Store.Now), val (vI e.acy), sl aa (e.Order.map ak), sl bS (e.acu.map (aQ aw aa aa az aa)), sl bJ (e.Done.map (aX aw aa az aa)), sl bP (e.acG.map (aZ aa aa aa)), val (vI e.Steps)] [sl bo (e.Store.act.map (aC aS aa)), val (vI e.Store.Now), val (vI e.acy), sl aa (e.Order.map ak), sl bS ((ca e (parts e).length).map (aQ aw aa aa az aa)), sl bJ (e.Done.map (aX aw aa az aa)), sl bP ((e.acG ++ [gK e (parts e).length]).map (aZ aa aa aa)), val (vI e.Steps)] [(false, [sl aa (ids.map ak)])] (aA []) := by
 refine zA (rs := []) Tryz.func233 rfl (nl rfl) (nl rfl) ?_
 intro g_ h0 w0 Fz0
 refine sj 1 fun hl1 => ?_
 subst hids
 have hef := ie hoe
 have hcl : e.acy.toNat < e.Store.act.length := hef.2.2.2.1
 have hpl := yg (e := e)
 have hs4 := Dw hoe
 have hql2 := aaZ hoe
 have hxo := VT hql2
 have hbu := hb
 simp only [bi, da, dQ, dP] at hbu
 refine sR ?_
 refine LD ?_
 refine sT [0, 1, 4, 5000] [0] ?_
 refine cH ?_
 refine sP [0, 1, 4, 5, 5000] [0] ?_
 refine sL [0, 1, 5000] [0] (fun k : Nat => k ≤ (parts e).length) (fun k : Nat => [(4, RV.slc qc ((oR e.acu ((parts e).take k)).map (jZ .v .v))), (5, RV.int (k : Int))]) (fun k : Nat => []) (fun k : Nat => (parts e).length - k) 0 (by omega) (by exact aI (by exact rfl) (aI (by exact rfl) tI)) (by exact tI) ?_
 rintro k hk
 refine jX ?_
 refine sc (fun hba => ?_) (fun hba => ?_)
 have hlt : k < (parts e).length := by omega
 have hpk : (parts e)[k] ∈ gX e e.acu := by rw [← tg hoe]; exact List.getElem_mem hlt
 have hfp := Wk hpk
 have hql : (oR e.acu ((parts e).take k)).length = k := by unfold oR; rw [aq, br]; omega
 refine bB ?_
 refine sQ [0, 1, 4, 5, 5000] [0] ?_
 refine dw dl ?_
 refine dA 0 ?_ (x := tM)
 refine xh ?_
 refine dA 6 ?_ (x := lF el)
 refine dA 14 ?_ (x := lD [sl .v _] ea)
 refine up ?_
 refine dA 96 ?_ (x := lD [sl .v _, val _, val _, sl .v _, sl .v _, sl .v _, sl .v _, val _] bU)
 refine eY ?_
 refine dA 768 ?_ (x := aY (by decide) bF (by exact tI) (by exact rfl) (by exact bc (by omega) rfl) (by exact rfl))
 refine dA 1792 ?_ (x := lE [val _] au)
 refine dA 4064 ?_ (x := cL [(true, [sl _ _, val _, val _, sl _ _, sl _ _, sl _ _, sl _ _, val _]), (false, [val _])] [(true, [sl .v _, val _, val _, sl .v _, sl .v _, sl .v _, sl .v _, val _]), (false, [val _])] ym (hs := by exact yw))
 refine dA 8190 ?_ (x := aY (k := (dJ e.acu (parts e)[k]).toNat) (by decide) bL (by exact tI) (by omega) (by exact bc hfp.2 (by rw [iH (d := ic) hfp.2])) (by exact rfl))
 refine dA 16382 ?_ (x := bI (by decide) fw (by exact nl rfl))
 refine dA 32766 ?_ (x := lE [val _, val _, sl .v _, sl .v _] fy)
 refine dA 65534 ?_ (x := cj (qs := [(true, [val _, val _, sl _ _, sl _ _])]) (by decide) mx nj (by decide) rfl rfl rfl rfl rfl (by exact nl rfl) (by exact (aI (by exact tI) tI)) rfl)
 refine dA 131071 ?_ (x := fe (by decide) mx nj rfl rfl (by decide) rfl (by simp only [aq, aV, List.length_cons, List.length_nil]; omega) (by simp only [aq, aV, List.length_cons, List.length_nil]; omega))
 refine dA 262143 ?_ (x := tA)
 refine sG [0, 1, 4, 5, 5000] [0] ?_
 refine cW ?_
 refine nx (k + 1) (by omega) (e := (by exact aI (by exact cG (by unfold oR; rw [xT hlt, bT]; rfl)) (aI (by exact rfl) tI)))
 have hend : k = (parts e).length := by omega
 rw [hend, cn]
 refine bG ?_
 refine sT [0, 1, 4, 5, 5000] [0] ?_
 refine rA ?_ (x := vM false [sl .v _])
 refine rA ?_ (x := cL [(false, [sl _ _])] [(false, [sl .v _])] WP (hs := by exact ZK))
 refine KQ ?_
 refine aP ?_
 refine sO [(0, _), (1, _), (4, _), (5, _), (6, _), (5000, _)] [(0, _), (6, (124, [sl _ _, sl _ _]))] ?_
 refine Sf (d := 0) (t := 139) (A := []) (B := [val _, val _, sl _ _, sl _ _, sl _ _, sl _ _, val _]) (f := (fun l : List aU => sl aS (l.map (cX aa)))) (xs := e.Store.act) (by exact rfl) fun zsS hzsS => ?_
 obtain ⟨zP, hzP, hzP1⟩ := Se hzsS hcl
 have hzP2 : zP.1 = ce e := hzP1.trans (Dv hcl)
 have hzl : zP.1.length = (ce e).length := by rw [hzP2]
 refine sO [(0, _), (1, _), (4, _), (5, _), (6, _), (5000, _)] [(0, (32, [sl _ _, val _, val _, sl _ _, sl _ _, sl _ _, sl _ _, val _])), (6, _)] ?_
 refine sk ?_
 refine dA 3 ?_ (x := lF hY)
 refine dA 7 ?_ (x := lF kf)
 refine dA 15 ?_ (x := lD [sl .v _] ko)
 refine up ?_
 refine dA 96 ?_ (x := lF jG)
 refine dA 224 ?_ (x := lD [val _] au)
 refine dA 511 ?_ (x := aY (k := e.acy.toNat) (by decide) di (by exact tI) (by omega) (by rw [List.getElem?_map, hzP]; exact rfl) (by exact rfl))
 refine dA 1023 ?_ (x := nA (qs := [nv _ (sl .v _)]) (by decide) gx (fun _ => rfl) (by exact nl rfl) (by exact (ap am.nil)) (by exact (an.cons (bor_nv (bor_sl _)) an.nil)))
 refine dA 2047 ?_ (x := be (r' := RV.sv false [nv _ (sl .v _)]) (.inr rfl) (by decide) (by exact Cp.sv (ap am.nil) (an.cons (bor_nv (bor_sl _)) an.nil)))
 refine aP ?_
 refine sP [0, 1, 4, 5, 6, 7, 5000] [0, 6] ?_
 refine sk ?_
 refine dA 3 ?_ (x := lF jG)
 refine dA 7 ?_ (x := lD [val _] au)
 refine dA 0 ?_ (x := be (r' := RV.sv false [sl .v _]) (.inl rfl) (by decide) (by exact Cp.sv (am.cons (PV.nv_to jt) am.nil) (an.cons (bor_sl _) an.nil)))
 refine dA 16 ?_ (x := lN cv)
 refine dA 0 ?_ (x := cj (qs := []) (by decide) bF eP (by decide) rfl rfl rfl rfl rfl (by exact nl rfl) (by exact tI) rfl)
 refine dA 0 ?_ (x := vM false [sl .v _])
 refine dA 192 ?_ (x := iN (by decide) bF eP rfl rfl (by decide) (by first | (intro cs hcs; obtain ⟨x, _, rfl⟩ := List.mem_map.1 hcs; exact rfl) | simp) (by first | (intro cs hcs; obtain ⟨x, _, rfl⟩ := List.mem_map.1 hcs; exact (an.cons (bor_val _) an.nil)) | simp) (by simp only [aq, aV, List.length_cons, List.length_nil]; omega) (by simp only [aq, aV, List.length_cons, List.length_nil]; omega))
 refine dA 511 ?_ (x := fB (qs := [(false, [val _]), (false, [val _]), (false, [sl _ _])]) (cs := [val _, val _, sl _ _, sl _ _, sl _ _]) (by decide) jb pT abO (by exact rfl) (by exact (aI (by exact tI) (aI (by exact tI) (aI (by exact tI) tI)))) rfl (by exact rfl))
 refine cb.step 0 (by exact tI) (by exact tI) (ay.of rfl (bY (by decide) jb pT)) (pd (cS.of_ rfl)) (by kernel_rfl) ?_
 refine dA 2047 ?_ (x := bg (ag := true) (vs := [val _, val _, sl _ _, sl _ _, sl _ _]) jJ (by exact tI) (by exact rfl) (by exact nl rfl))
 refine fF ?_
 refine sO [(0, _), (1, _), (4, _), (5, _), (6, _), (7, _), (8, _), (5000, _)] [(0, _), (6, _), (8, (70, [val _, val _, sl _ _, sl _ _, sl _ _]))] ?_
 refine bf ?_
 refine cH ?_
 refine sP [0, 1, 5, 6, 7, 8, 9, 5000] [0, 6, 8] ?_
 refine zF (s := 7) [val zP.2] (by exact rfl) (by exact (am.cons cN am.nil)) (by exact (an.cons (bor_val _) an.nil)) ?_
 refine sP [0, 1, 5, 6, 7, 8, 9, 5000] [0, 6, 8] ?_
 refine sL [0, 1, 5, 6, 7, 8, 5000] [6] (fun k : Nat => k ≤ (parts e).length) (fun k : Nat => [(9, RV.int (k : Int))]) (fun k : Nat => [(0, (32, [sl bo (zsS.map (jT (fun l : List aU => sl aS (l.map (cX aa))))), val (vI e.Store.Now), val (vI e.acy), sl aa (e.Order.map ak), sl bS ((ca e k).map (aQ aw aa aa az aa)), sl bJ (e.Done.map (aX aw aa az aa)), sl bP (e.acG.map (aZ aa aa aa)), val (vI e.Steps)])), (8, (70, [val (vI (jN e k).Segment), val (vI (jN e k).Base), sl aa ((jN e k).Ids.map ak), sl aa ((jN e k).acA.map ak), sl aa ((jN e k).Rows.map ak)]))]) (fun k : Nat => (parts e).length - k) 0 (by omega) (by exact aI (by exact rfl) tI) (by exact aI (by rw [Ds]; exact rfl) (aI (by rw [show (jN e 0).Base = ((zP.1.length : Nat) : Int) by rw [hzl]; rfl]; exact rfl) tI)) ?_
 rintro k hk
 have hcg := aa5 (e := e) hk
 have hsl := kv (e := e) (k := k)
 refine jX ?_
 refine sc (fun hbb => ?_) (fun hbb => ?_)
 have hlt : k < (parts e).length := by omega
 obtain ⟨i, hi, hf, hid, hpp⟩ := PI hoe hlt
 have hf2 : dJ (ca e k) (parts e)[k] = (i : Int) := (aaW _).trans hf
 have hil : i < (ca e k).length := by omega
 have hoa := yG (hef.2.2.2.2.2.2.2.2.2.1 _ (List.getElem_mem hi))
 have hwa := cT (f := bZ) hi
 have hwq : bZ e.acu[i] = cr e.acu[i].acv + e.acu[i].acD.length + dH e.acu[i].Rows := by simp only [bZ, ek, bd]; omega
 have hga4 := PT hoe e.acu[i]
 have hqm := aa0 hoe hi hpp
 refine cO ?_
 refine sQ [0, 1, 5, 6, 7, 8, 9, 5000] [0, 6, 8] ?_
 refine sk ?_
 refine dA 3 ?_ (x := lD [sl .v _, val _, val _, sl .v _, sl .v _, sl .v _, sl .v _, val _] bU)
 refine eY ?_
 refine dA 24 ?_ (x := aY (by decide) bF (by exact tI) (by exact rfl) (by exact bc (by omega) rfl) (by exact rfl))
 refine dA 56 ?_ (x := lE [val _] au)
 refine dA 127 ?_ (x := tt (qs := [(true, [sl _ _, val _, val _, sl _ _, sl _ _, sl _ _, sl _ _, val _]), (false, [val _])]) (as_ := [(true, [sl .v (e.Store.act.map (aC .v aa)), val _, val _, sl .v _, sl .v _, sl .v _, sl .v _, val _]), (false, [val _])]) (by decide) ym (by exact (aI (by exact tI) (aI (by exact tI) tI))) (by exact (aI (aI rfl (am.cons (q := sl .v (e.Store.act.map (aC .v aa))) (Sd (g := aC .v aa) hzsS (fun x => aH am.nil)) (ap (ap (aH (aH (aH (aH (ap am.nil))))))))) (aI (aI rfl (ap am.nil)) tI))) (by exact (yw (e := aa6 e k) (id := (parts e)[k]))))
 refine dA 255 ?_ (x := sA)
 refine aP ?_
 refine sP [0, 1, 5, 6, 7, 8, 9, 10, 5000] [0, 6, 8] ?_
 refine ju (d := 0) (t := 32) (D := 900) (G := 2900) (E := 108) (e := 10) (L := dD) (A := [sl _ _, val _, val _, sl _ _]) (B := [sl _ _, sl _ _, val _]) (es := ((ca e k)).map (aQ aw aa aa az aa)) (by exact rfl) (iC hil) (by exact rfl) (by exact rfl) rfl (by exact rfl) (fun x hx => hx.elim) (by exact lq) (by exact lq) (by exact lq) (by exact lq) (ai.map fun x => (ai.cons lcl_val (ai.cons lcl_val (ai.cons (lcl_own (ai.map fun x => (ai.cons lcl_val (ai.cons lcl_val (ai.cons lcl_val ai.nil))))) (ai.cons (lcl_own (ai.map fun x => (ai.cons lcl_val ai.nil))) (ai.cons lcl_val (ai.cons (lcl_own (ai.map fun x => (ai.cons lcl_val ai.nil))) (ai.cons lcl_val (ai.cons lcl_val (ai.cons lcl_val (ai.cons (lcl_own (ai.map fun x => (ai.cons lcl_val (ai.cons (lcl_own (ai.map fun x => (ai.cons lcl_val ai.nil))) ai.nil)))) ai.nil))))))))))) fun uu900 cp900 jk900 hlD900 hcp900 hjk900 => ?_
 rw [aq] at hlD900 hcp900 hjk900
 refine bV (d := 900) (by exact rfl) (iB (k := i) hil) ?_
 have hA900 := iQ (f := (aQ aw aa aa az aa)) (e := 10) (xs := (ca e k)) (k := i) (fun _ => rfl) (Nat.le_of_lt hil)
 refine bV (d := 900) (by exact rfl) (congrArg (fun z_ => ((((ca e k)).take i).map (aQ aw aa aa az aa)).flatten ++ ((aQ aw aa aa az aa) z_ ++ (((((ca e k)).drop (i + 1)).map (aQ aw aa aa az aa)).flatten ++ jk900.map val))) (PJ hoe hlt hi hid hil)) ?_
 refine sO [(0, _), (1, _), (5, _), (6, _), (7, _), (8, _), (9, _), (10, _), (2900, _), (5000, _)] [(0, (32, [sl _ _, val _, val _, sl _ _, val _, sl _ _, sl _ _, val _])), (6, _), (8, _), (900, (108, _ ++ ([val _, val _, sl _ _, sl _ _, val _, sl _ _, val _, val _, val _, sl _ _] ++ _)))] ?_
 refine Ch ?_
 refine dA 1 ?_ (x := cz (ms := [sl _ _]) (qs := [sl .v _]) (by decide) bv (fun _ => rfl) (by exact nl rfl) (by exact rfl) (by exact (aH am.nil)) (by exact (an.cons (bor_sl _) an.nil)))
 refine dA 0 ?_ (x := cM Cp.ptr)
 refine dA 4 ?_ (x := iT (by decide))
 refine dA 12 ?_ (x := lF el)
 refine dA 28 ?_ (x := lD [val _] ea)
 refine dA 0 ?_ (x := sM)
 refine dA 124 ?_ (x := io (k := i) (G := 2900) (by decide) bL (by exact tI) (by first | exact hf2 | omega) (by first | (rw [aq]; exact hil) | exact hil))
 refine dA 252 ?_ (x := lF fw)
 refine dA 508 ?_ (x := lF iY)
 refine dA 1020 ?_ (x := fR (o := 1) (qs := [val _]) (by omega) (by decide) au (fun _ => rfl) (by exact nl rfl) (by exact (ap am.nil)) (by exact (an.cons (bor_val _) an.nil)))
 refine dA 2044 ?_ (x := cj (qs := [(false, [val _])]) (by decide) bF eP (by decide) rfl rfl rfl rfl rfl (by exact nl rfl) (by exact (aI (by exact tI) tI)) rfl)
 refine dA 4095 ?_ (x := fe (by decide) bF eP rfl rfl (by decide) rfl (by simp only [aq, aV, List.length_cons, List.length_nil]; omega) (by simp only [aq, aV, List.length_cons, List.length_nil]; omega))
 refine dA 8191 ?_ (x := lF kl)
 refine LZ ?_
 refine sO [(0, _), (1, _), (5, _), (6, _), (7, _), (8, _), (9, _), (10, _), (2900, _), (5000, _)] [(0, _), (6, _), (8, (70, [val _, val _, sl _ _, sl _ _, sl _ _])), (900, _)] ?_
 refine bf ?_
 refine fh ?_
 refine aP ?_
 refine sP [0, 1, 5, 6, 7, 8, 9, 10, 11, 2900, 5000] [0, 6, 8, 900] ?_
 refine Sh (s := 7) (d := 0) (t := 139) (k := e.acy.toNat) (A := []) (B := [val _, val _, sl _ _, val _, sl _ _, sl _ _, val _]) (f := (fun l : List aU => sl aS (l.map (cX aa)))) (q := (fun l : List aU => sl .v (l.map (cX aa)))) (by exact rfl) (by exact rfl) hzP jt (by exact bor_sl _) ?_
 refine sG [0, 1, 5, 6, 7, 8, 9, 10, 11, 2900, 5000] [0, 6, 8, 900] ?_
 refine cH ?_
 refine sP [0, 1, 5, 6, 7, 8, 9, 10, 11, 12, 2900, 5000] [0, 6, 8, 900] ?_
 refine sL [0, 1, 5, 6, 7, 8, 9, 10, 2900, 5000] [0, 6, 8] (fun j : Nat => j ≤ (ce e).length) (fun j : Nat => [(11, RV.int ((jM e e.acu[i] j).length : Int)), (12, RV.int (j : Int))]) (fun j : Nat => [(900, (108, (((ca e k).take i).map (aQ aw aa aa az aa)).flatten ++ ([val (vI e.acu[i].acv.Id), val (vI e.acu[i].acv.acz), sl aw (e.acu[i].acv.acw.map bj), sl aa (e.acu[i].acv.Out.map ak), val (vI e.acu[i].Time), sl aa (e.acu[i].acD.map ak), val (vI e.acu[i].Age), val (vI e.acu[i].Sent), val (vI e.acu[i].Cap), sl az ((e.acu[i].Rows ++ jM e e.acu[i] j).map (bC aa))] ++ ((((ca e k).drop (i + 1)).map (aQ aw aa aa az aa)).flatten ++ jk900.map val))))]) (fun j : Nat => (ce e).length - j) 0 (by omega) (by exact aI (by exact rfl) (aI (by exact rfl) tI)) (by exact aI (by show _ = some (108, (((ca e k).take i).map (aQ aw aa aa az aa)).flatten ++ ([val (vI e.acu[i].acv.Id), val (vI e.acu[i].acv.acz), sl aw (e.acu[i].acv.acw.map bj), sl aa (e.acu[i].acv.Out.map ak), val (vI e.acu[i].Time), sl aa (e.acu[i].acD.map ak), val (vI e.acu[i].Age), val (vI e.acu[i].Sent), val (vI e.acu[i].Cap), sl az ((e.acu[i].Rows ++ jM e e.acu[i] 0).map (bC aa))] ++ ((((ca e k).drop (i + 1)).map (aQ aw aa aa az aa)).flatten ++ jk900.map val))); rw [show jM e e.acu[i] 0 = [] from rfl, eg]; exact rfl) tI) ?_
 rintro j hj
 have hgl := aa2 (e := e) (a := e.acu[i]) (j := j)
 refine mU ?_
 refine oj ?_
 refine sc (fun hbc => ?_) (fun hbc => ?_)
 have hj2 : j < (ce e).length := by omega
 have hjz : j < zP.1.length := by omega
 have hz4 : fX zP.1[j] = fX (ce e)[j] := by simp [hzP2]
 have hz5 : eK zP.1[j] e.acu[i].Time = eK (ce e)[j] e.acu[i].Time := by simp [hzP2]
 have hro : dR (fX zP.1[j]) = true := by rw [hz4]; exact PP hoe _ (List.getElem_mem hj2)
 have hrv := sZ hro
 have hrv : zP.1[j].Values.length = 3 := hrv
 have hph := aaC (q := e.acu[i].acv) hql2 hro hef.2.1 hqm
 rw [hid, hz4] at hph
 have hwr : dv (fX zP.1[j]) = 3 := by simp only [fX, dv, ek, bd]; omega
 refine cO ?_
 refine sO [(0, _), (1, _), (5, _), (6, _), (7, _), (8, _), (9, _), (10, _), (11, _), (12, _), (2900, _), (5000, _)] [(0, (32, [sl _ _, val _, val _, sl _ _, val _, sl _ _, sl _ _, val _])), (6, (124, [sl _ _, sl _ _])), (8, (70, [val _, val _, sl _ _, sl _ _, sl _ _])), (900, (108, _ ++ ([val _, val _, sl _ _, sl _ _, val _, sl _ _, val _, val _, val _, sl _ _] ++ _)))] ?_
 refine dw dl ?_
 refine KE ?_
 refine dA 3 ?_ (x := aY (by decide) cv (by exact tI) (by exact rfl) (by exact bc (by omega) rfl) (by exact rfl))
 refine dA 7 ?_ (x := bI (by decide) na (by exact nl rfl))
 refine dA 15 ?_ (x := lE [val _] au)
 refine KE ?_
 refine dA 96 ?_ (x := aY (by decide) cv (by exact tI) (by exact rfl) (by exact bc (by omega) rfl) (by exact rfl))
 refine dA 224 ?_ (x := bI (by decide) jE (by exact nl rfl))
 refine dA 480 ?_ (x := lE [sl .v _] bv)
 refine dA 1023 ?_ (x := fB (qs := [(false, [val _]), (false, [sl _ _])]) (cs := [val _, sl _ _]) (by decide) ja mp abN (by exact rfl) (by exact (aI (by exact tI) (aI (by exact tI) tI))) rfl (by exact rfl))
 refine cb.step 0 (by exact tI) (by exact tI) (ay.of rfl (bY (by decide) ja mp)) (pd (cS.of_ rfl)) (by kernel_rfl) ?_
 refine dA 4095 ?_ (x := bg (ag := true) (vs := [val _, sl _ _]) fI (by exact tI) (by exact rfl) (by exact nl rfl))
 refine aP ?_
 refine sO [(0, _), (1, _), (5, _), (6, _), (7, _), (8, _), (9, _), (10, _), (11, _), (12, _), (13, _), (2900, _), (5000, _)] [(0, _), (6, _), (8, _), (13, (54, [val _, sl _ _])), (900, _)] ?_
 refine ES (c := 6) (AI := []) dl rfl rfl rfl rfl (by kernel_rfl) (fun j L h => nomatch h) (fun j L h => nomatch h) ?_
 refine dX 0 ?_ (x := (eW (qs := [sl .v _, sl .v _]) (by decide) th (fun h => nomatch h) (by exact nl rfl) (by exact (aH (aH am.nil))) (by exact (an.cons (bor_sl _) (an.cons (bor_sl _) an.nil)))))
 refine dX 0 ?_ (x := (eW (qs := [val _, sl .v _]) (by decide) fI (fun h => nomatch h) (by exact nl rfl) (by exact (ap (aH am.nil))) (by exact (an.cons (bor_val _) (an.cons (bor_sl _) an.nil)))))
 refine dX 0 ?_ (x := (be (.inl rfl) (by decide) (by exact Cp.ptr)))
 refine dX 4 ?_ (x := (iT (by decide)))
 refine dX 12 ?_ (x := (eh (by decide) nb))
 refine dX 28 ?_ (x := (eW (qs := [sl .v _]) (by decide) bv (fun _ => rfl) (by exact nl rfl) (by exact (aH am.nil)) (by exact (an.cons (bor_sl _) an.nil))))
 refine EW (G := 2000) (qs := [(true, [sl _ _, sl _ _]), (true, [val _, sl _ _]), (false, [sl _ _])]) (as_ := [(true, [sl .v _, sl .v _]), (true, [val _, sl .v _]), (false, [sl .v _])]) (by decide) WQ (by exact ⟨rfl, rfl, rfl, ⟨⟩⟩) (by exact (aI (by exact tI) (aI (by exact tI) (aI (by exact tI) tI)))) (by exact (aI (aI rfl (aH (aH am.nil))) (aI (aI rfl (ap (aH am.nil))) (aI (aI rfl (aH am.nil)) tI)))) (by exact (ZN (x := mr (oR e.acu (parts e))) (r := fX zP.1[j]) (o := e.Order) hxo hro hef.2.1)) (by kernel_rfl) (by kernel_rfl) fun uss hU0 => ?_
 obtain ⟨us0, r0, rfl, hl0, hR0, hU1⟩ := jr.cons hU0
 obtain ⟨u4_0_0, rfl⟩ := uL hl0
 obtain ⟨us1, r1, rfl, hl1, hR1, hU2⟩ := jr.cons hU1
 obtain ⟨u4_1_0, rfl⟩ := uL hl1
 obtain rfl := tx hR1 (j := 0) rfl rfl
 obtain rfl := jr.nil hU2
 clear hR0 hU0 hR1 hU1 hU2
 refine cb.stepC 127 (by exact ⟨rfl, ⟨⟩⟩) (by exact tI) (ay.of rfl (vo (.inl rfl) (by decide))) aG (by kernel_rfl) (by intro L' h; exact nomatch (show (none : Option aF) = some L' from h)) ?_
 refine cb.stepC 255 (by exact ⟨rfl, ⟨⟩⟩) (by exact tI) (ay.of rfl (pk (cs := [val _]) (by decide) (by exact rfl) (by exact (an.cons (bor_val _) an.nil)))) aG (by kernel_rfl) (by intro L' h; exact nomatch (show (none : Option aF) = some L' from h)) ?_
 refine cb.stepC 255 (by exact ⟨rfl, ⟨⟩⟩) (by exact tI) (ay.of rfl (pk (cs := [val _]) (by decide) (by exact rfl) (by exact (an.cons (bor_val _) an.nil)))) aG (by kernel_rfl) (by intro L' h; exact nomatch (show (none : Option aF) = some L' from h)) ?_
 refine cb.stepC 511 (by exact ⟨rfl, ⟨⟩⟩) (by exact tI) (ay.of rfl (be (.inr rfl) (by decide) (by exact Cp.sc))) aG (by kernel_rfl) (by intro L' h; exact nomatch (show (none : Option aF) = some L' from h)) ?_
 refine cb.stepC 2047 (by exact ⟨rfl, ⟨⟩⟩) (by exact tI) (ay.of rfl (be (.inr rfl) (by decide) (by exact Cp.sc))) aG (by kernel_rfl) (by intro L' h; exact nomatch (show (none : Option aF) = some L' from h)) ?_
 refine vE (s := 14) (G := 2000) (by exact rfl) (by exact (Nm.val Nm.nil)) rfl (by decide) (by exact rfl) ?_
 refine vE (s := 15) (G := 2001) (by exact rfl) (by exact (Nm.val Nm.nil)) rfl (by decide) (by exact rfl) ?_
 refine Mp ?_
 refine dw dl ?_
 refine dA 0 ?_ (x := vM false [sl .v _])
 refine eY ?_
 refine dA 6 ?_ (x := aY (by decide) bF (by exact tI) (by exact rfl) (by exact bc (by omega) rfl) (by exact rfl))
 refine dA 14 ?_ (x := lE [val _] au)
 refine dA 31 ?_ (x := cL [(false, [sl _ _]), (false, [val _])] [(false, [sl .v _]), (false, [val _])] xY (hs := by exact yr))
 refine dA 63 ?_ (x := sM)
 refine dx 125 (fun ga sga => ?_) (fun ga sga => ?_)
 have hmm : fH e.acu[i].acv (fX (ce e)[j]) = true := by rw [← hph, ← hz4]; simpa using ga
 have sga := ga
 try simp only [qq] at sga
 refine dB 127 ga ?_ (x := be (r' := RV.sv false [sl .v _]) (.inl rfl) (by decide) (by exact Cp.sv (am.cons (PV.nv_to jt) am.nil) (an.cons (bor_sl _) an.nil)))
 refine dB 127 ga ?_ (x := sM)
 refine dB 511 ga ?_ (x := aY (by decide) cv (by exact tI) (by exact rfl) (by exact bc (by omega) rfl) (by exact rfl))
 refine dB 1023 ga ?_ (x := lE [val _, sl .v _, val _, val _] en)
 refine dB 127 ga ?_ (x := cM Cp.ptr)
 refine dB 2175 ga ?_ (x := iT (by decide))
 refine dB 6271 ga ?_ (x := lF el)
 refine dB 14463 ga ?_ (x := lD [val _] ea)
 refine dB 127 ga ?_ (x := sM)
 refine dB 63615 ga ?_ (x := io (k := i) (G := 2900) (by decide) bL (by exact tI) (by first | exact hf2 | omega) (by first | (rw [aq]; exact hil) | exact hil))
 refine dB 129151 ga ?_ (x := lF mZ)
 refine dB 260223 ga ?_ (x := fR (o := 4) (qs := [val _]) (by omega) (by decide) au (fun _ => rfl) (by exact nl rfl) (by exact (ap am.nil)) (by exact (an.cons (bor_val _) an.nil)))
 refine dB 524287 ga ?_ (x := cL [(true, [val _, sl _ _, val _, val _]), (false, [val _])] [(true, [val _, sl .v _, val _, val _]), (false, [val _])] OD (hs := by exact Pg))
 refine dA 1048575 ?_ (x := aT ga)
 refine sc (fun hbd => ?_) (fun hbd => ?_)
 have hvv : eK (ce e)[j] e.acu[i].Time = true := by rw [← hz5]; simpa using hbd
 refine Mp ?_
 refine sk ?_
 refine BL ?_
 refine dA 0 ?_ (x := sM)
 refine up ?_
 refine BF ?_
 refine zss ?_
 refine dA 2016 ?_ (x := lF kd)
 refine dA 4064 ?_ (x := zu (o := 9) (ms := [sl _ _]) (qs := [sl .v _]) (by omega) (by decide) gy (fun _ => rfl) (by exact nl rfl) (by exact rfl) (by exact (aH am.nil)) (by exact (an.cons (bor_sl _) an.nil)))
 refine dA 0 ?_ (x := lD [val _, sl .v _] fI)
 refine dA 8192 ?_ (x := cL [(true, [val _, sl _ _])] [(true, [val _, sl .v _])] Ng (hs := by exact (Pb (x := fX zP.1[j]) (by omega))))
 refine dA 24576 ?_ (x := cj (qs := [(true, [val _, sl _ _])]) (by decide) gw ja (by decide) rfl rfl rfl rfl rfl (by exact nl rfl) (by exact (aI (by exact tI) tI)) rfl)
 refine dA 65504 ?_ (x := fe (by decide) gw ja rfl rfl (by decide) rfl (by simp only [aq, aV, List.length_cons, List.length_nil]; omega) (by simp only [aq, aV, List.length_cons, List.length_nil]; omega))
 refine dA 131071 ?_ (x := io (k := i) (G := 2900) (by decide) bL (by exact tI) (by first | exact hf2 | omega) (by first | (rw [aq]; exact hil) | exact hil))
 refine dA 262143 ?_ (x := lF kd)
 refine dA 524287 ?_ (x := fD (o := 9) (ag := false) (vs := [sl _ _]) (by omega) gy (by exact tI) (by exact rfl) (by exact nl rfl))
 refine sO [(0, _), (1, _), (5, _), (6, _), (7, _), (8, _), (9, _), (10, _), (11, _), (12, _), (13, _), (14, _), (15, _), (2900, _), (5000, _)] [(0, _), (6, _), (8, _), (13, _), (900, (108, _ ++ ([val _, val _, sl _ _, sl _ _, val _, sl _ _, val _, val _, val _, sl _ _] ++ _)))] ?_
 refine fU ?_
 exact Aj
 have hvv : eK (ce e)[j] e.acu[i].Time = false := by rw [← hz5]; simpa using hbd
 refine bm ?_
 exact Aj
 have hmm : fH e.acu[i].acv (fX (ce e)[j]) = false := by rw [← hph, ← hz4]; simpa using ga
 have sga := ga
 try simp only [qq] at sga
 refine dF 127 ga ?_
 refine dF 127 ga ?_
 refine dF 511 ga ?_
 refine dF 1023 ga ?_
 refine dF 127 ga ?_
 refine dF 2175 ga ?_
 refine dF 6271 ga ?_
 refine dF 14463 ga ?_
 refine dF 127 ga ?_
 refine dF 63615 ga ?_
 refine dF 129151 ga ?_
 refine dF 260223 ga ?_
 refine dF 524287 ga ?_
 refine dA 1048575 ?_ (x := aK ga)
 refine fT ?_
 refine bm ?_
 exact Aj
 have hjend : j = (ce e).length := by omega
 have hgt : jM e e.acu[i] j = ly e e.acu[i] := by rw [hjend]; exact aa1
 rw [hgt]
 refine it ?_
 refine sO [(0, _), (1, _), (5, _), (6, _), (7, _), (8, _), (9, _), (10, _), (11, _), (12, _), (2900, _), (5000, _)] [(0, (32, [sl _ _, val _, val _, sl _ _, val _, sl _ _, sl _ _, val _])), (6, (124, [sl _ _, sl _ _])), (8, (70, [val _, val _, sl _ _, sl _ _, sl _ _])), (900, (108, _ ++ ([val _, val _, sl _ _, sl _ _, val _, sl _ _, val _, val _, val _, sl _ _] ++ _)))] ?_
 refine bf ?_
 refine rA ?_ (x := lF iZ)
 refine tW ?_
 refine qt ?_
 refine rA ?_ (x := lF iZ)
 refine kF ?_
 refine sO [(0, _), (1, _), (5, _), (6, _), (7, _), (8, _), (9, _), (10, _), (11, _), (12, _), (2900, _), (5000, _)] [(0, _), (6, _), (8, (70, [val _, val _, sl _ _, sl _ _, sl _ _])), (900, _)] ?_
 refine sk ?_
 refine BL ?_
 refine dA 0 ?_ (x := sM)
 refine up ?_
 refine BF ?_
 refine zss ?_
 refine dA 2016 ?_ (x := lF kc)
 refine dA 4064 ?_ (x := fR (o := 7) (qs := [val _]) (by omega) (by decide) au (fun _ => rfl) (by exact nl rfl) (by exact (ap am.nil)) (by exact (an.cons (bor_val _) an.nil)))
 refine dA 0 ?_ (x := sM)
 refine dA 16352 ?_ (x := kV)
 refine dA 32767 ?_ (x := io (k := i) (G := 2900) (by decide) bL (by exact tI) (by first | exact hf2 | omega) (by first | (rw [aq]; exact hil) | exact hil))
 refine dA 65535 ?_ (x := lF kc)
 refine dA 131071 ?_ (x := fD (o := 7) (ag := false) (vs := [val _]) (by omega) au (by exact tI) (by exact rfl) (by exact nl rfl))
 refine sO [(0, _), (1, _), (5, _), (6, _), (7, _), (8, _), (9, _), (10, _), (11, _), (12, _), (2900, _), (5000, _)] [(0, _), (6, _), (8, _), (900, (108, _ ++ ([val _, val _, sl _ _, sl _ _, val _, sl _ _, val _, val _, val _, sl _ _] ++ _)))] ?_
 refine sk ?_
 refine BL ?_
 refine dA 0 ?_ (x := sM)
 refine up ?_
 refine BF ?_
 refine zss ?_
 refine dA 2016 ?_ (x := lF hR)
 refine dA 4064 ?_ (x := fR (o := 5) (qs := [sl .v _]) (by omega) (by decide) bv (fun _ => rfl) (by exact nl rfl) (by exact (aH am.nil)) (by exact (an.cons (bor_sl _) an.nil)))
 refine dA 0 ?_ (x := cM Cp.ptr)
 refine dA 8192 ?_ (x := iT (by decide))
 refine dA 24576 ?_ (x := lF jG)
 refine dA 57344 ?_ (x := lD [val _] au)
 refine dA 131040 ?_ (x := cL [(false, [sl _ _]), (false, [val _])] [(false, [sl .v _]), (false, [val _])] Xn (hs := by exact (abw (by omega))))
 refine dA 262143 ?_ (x := io (k := i) (G := 2900) (by decide) bL (by exact tI) (by first | exact hf2 | omega) (by first | (rw [aq]; exact hil) | exact hil))
 refine dA 524287 ?_ (x := lF hR)
 refine dA 1048575 ?_ (x := fD (o := 5) (ag := false) (vs := [sl _ _]) (by omega) bv (by exact tI) (by exact rfl) (by exact nl rfl))
 refine bV (d := 900) (by exact rfl) (mI (pY e e.acu[i]) hil (by exact rfl)) ?_
 refine nS (d := 0) (D := 900) (G := 2900) (e := 10) (A := [sl _ _, val _, val _, sl _ _]) (B := [sl _ _, sl _ _, val _]) (es := (((ca e k)).set i (pY e e.acu[i])).map (aQ aw aa aa az aa)) (by exact rfl) (by exact rfl) (by exact rfl) rfl (by rw [aq, List.length_set, aq]) (by intro c hc; obtain ⟨y, _, rfl⟩ := List.mem_map.1 hc; exact rfl) (by rw [aq]; exact hjk900) ?_
 refine sO [(0, _), (1, _), (5, _), (6, _), (7, _), (8, _), (9, _), (10, _), (11, _), (12, _), (5000, _)] [(0, (32, [sl _ _, val _, val _, sl _ _, sl _ _, sl _ _, sl _ _, val _])), (6, _), (8, _)] ?_
 refine zF (s := 7) [val zP.2] (by exact rfl) (by exact (am.cons cN am.nil)) (by exact (an.cons (bor_val _) an.nil)) ?_
 refine sG [0, 1, 5, 6, 7, 8, 9, 10, 11, 12, 5000] [0, 6, 8] ?_
 refine cW ?_
 refine nx (k + 1) (by omega) (f := (by exact aI (by rw [← PK hoe hlt hi hid]; exact rfl) (aI (by rw [aa3 hlt hi hf]; simp only [bT]; exact rfl) tI)))
 have hend : k = (parts e).length := by omega
 subst hend
 rw [aa4]
 have hcg2 := Dt (e := e) (Nat.le_refl _)
 refine bG ?_
 refine sQ [0, 1, 5, 6, 7, 8, 9, 5000] [0, 6, 8] ?_
 refine Sg (d := 0) (t := 139) (A := []) (B := [val _, val _, sl _ _, sl _ _, sl _ _, sl _ _, val _]) (f := (fun l : List aU => sl aS (l.map (cX aa)))) hzsS (by exact rfl) ?_
 refine sO [(0, _), (1, _), (5, _), (6, _), (7, _), (8, _), (9, _), (5000, _)] [(0, (32, [sl _ _, val _, val _, sl _ _, sl _ _, sl _ _, sl _ _, val _])), (6, _), (8, _)] ?_
 refine wW ?_
 refine xh ?_
 refine dA 6 ?_ (x := lF kg)
 refine dA 14 ?_ (x := cz (ms := [sl _ _]) (qs := [sl .v _]) (by decide) kp (fun _ => rfl) (by exact nl rfl) (by exact rfl) (by exact (aH am.nil)) (by exact (an.cons (bor_sl _) an.nil)))
 refine dA 0 ?_ (x := cz (ms := [val _, val _, sl _ _, sl _ _, sl _ _]) (qs := [val _, val _, any, any, any]) (by decide) jJ (fun h => nomatch h) (by exact nl rfl) (by exact rfl) (by exact (ap (ap (am.cons PV.to_any (am.cons PV.to_any (am.cons PV.to_any am.nil)))))) (by exact lq))
 refine dA 32 ?_ (x := cj (qs := [(true, [val _, val _, sl _ _, sl _ _, sl _ _])]) (by decide) eB jb (by decide) rfl rfl rfl rfl rfl (by exact nl rfl) (by exact (aI (by exact tI) tI)) rfl)
 refine dA 126 ?_ (x := fe (by decide) eB jb rfl rfl (by decide) rfl (by simp only [aq, aV, List.length_cons, List.length_nil]; omega) (by simp only [aq, aV, List.length_cons, List.length_nil]; omega))
 refine dA 255 ?_ (x := iT (by decide))
 refine dA 511 ?_ (x := lF kg)
 refine dA 1023 ?_ (x := bg (ag := false) (vs := [sl _ _]) kp (by exact tI) (by exact rfl) (by exact nl rfl))
 exact ⟨(by simp only [bT]; exact rfl), rfl, tI⟩
end Go.Proofs.YtmekkgdboplbjaaGreat
