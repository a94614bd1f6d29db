/- What functions of the program compute. No condition. -/
import Derived.Test.YtmekkgdboplbjaaGreatCA1
import Derived.Test.YtmekkgdboplbjaaGreatCX0
set_option linter.all false
namespace Go.Proofs.YtmekkgdboplbjaaGreat
open Go Go.RowKit M PV
set_option maxRecDepth 10000
attribute [local irreducible] PV.Lcl PV.LclR RV.Lcl
set_option maxHeartbeats 8000000
def VQ : fO Tryz.prog 54 = some [(0, 1), (1, 1)] := by kernel_rfl
def VR : fO Tryz.prog 70 = some [(0, 1), (1, 1), (2, 1), (3, 1), (4, 1)] := by kernel_rfl
def VS {e : aL} {ids : List Int}  (hids : ids = parts e) (hoe : bh e = true) (hb : bp e ≤ 68719000000) : rY Tryz.prog 233 32 [sl bo (e.Store.Wr.map (aD aS aa)), val (vI e.Store.Now), val (vI e.Ww), sl aa (e.Order.map ak), sl bS (e.Ws.map (aO ay aa aa aB aa)), sl bM (e.Done.map (aZ ay aa aB aa)), sl bP (e.WE.map (a7 aa aa aa)), val (vI e.Steps)] [sl bo (e.Store.Wr.map (aD aS aa)), val (vI e.Store.Now), val (vI e.Ww), sl aa (e.Order.map ak), sl bS ((bX e (parts e).length).map (aO ay aa aa aB aa)), sl bM (e.Done.map (aZ ay aa aB aa)), sl bP ((e.WE ++ [fV e (parts e).length]).map (a7 aa aa aa)), val (vI e.Steps)] [(false, [sl aa (ids.map ak)])] (az []) := by
 refine xE (rs := []) Tryz.func233 rfl (nl rfl) (nl rfl) ?_
 intro g_ h0 w0 Fz0
 refine sj 1 fun hl1 => ?_
 subst hids
 have hef := gI hoe
 have hcl : e.Ww.toNat < e.Store.Wr.length := hef.2.2.2.1
 have hpl := wo (e := e)
 have hs4 := Bq hoe
 have hql2 := U4 hoe
 have hxo := QV hql2
 have hbu := hb
 simp only [bp, c6, dK, dJ] at hbu
 refine sR ?_
 refine Ik ?_
 refine sT [0, 1, 4, 5000] [0] ?_
 refine cz ?_
 refine sP [0, 1, 4, 5, 5000] [0] ?_
 refine sL [0, 1, 5000] [0] (fun k : Nat => k ≤ (parts e).length) (fun k : Nat => [(4, RV.slc oK ((mV e.Ws ((parts e).take k)).map (iz .v .v))), (5, RV.int (k : Int))]) (fun k : Nat => []) (fun k : Nat => (parts e).length - k) 0 (by omega) (by exact aI (by exact rfl) (aI (by exact rfl) tI)) (by exact tI) ?_
 rintro k hk
 refine jl ?_
 refine sc (fun hba => ?_) (fun hba => ?_)
 have hlt : k < (parts e).length := by omega
 have hpk : (parts e)[k] ∈ gq e e.Ws := by rw [← ry hoe]; exact List.getElem_mem hlt
 have hfp := Rc hpk
 have hql : (mV e.Ws ((parts e).take k)).length = k := by unfold mV; rw [ar, bv]; omega
 refine bB ?_
 refine sQ [0, 1, 4, 5, 5000] [0] ?_
 refine db cJ ?_
 refine dA 0 ?_ (x := tM)
 refine vh ?_
 refine dA 6 ?_ (x := lF dN)
 refine dA 14 ?_ (x := lD [sl .v _] dC)
 refine sK ?_
 refine dA 96 ?_ (x := lD [sl .v _, val _, val _, sl .v _, sl .v _, sl .v _, sl .v _, val _] bZ)
 refine eE ?_
 refine dA 768 ?_ (x := aY (by decide) bC (by exact tI) (by exact rfl) (by exact be (by omega) rfl) (by exact rfl))
 refine dA 1792 ?_ (x := lE [val _] au)
 refine dA 4064 ?_ (x := cL [(true, [sl _ _, val _, val _, sl _ _, sl _ _, sl _ _, sl _ _, val _]), (false, [val _])] [(true, [sl .v _, val _, val _, sl .v _, sl .v _, sl .v _, sl .v _, val _]), (false, [val _])] wx (hs := by exact wG))
 refine dA 8190 ?_ (x := aY (k := (dn e.Ws (parts e)[k]).toNat) (by decide) bI (by exact tI) (by omega) (by exact be hfp.2 (by rw [ic (d := gH) hfp.2])) (by exact rfl))
 refine dA 16382 ?_ (x := bE (by decide) eR (by exact nl rfl))
 refine dA 32766 ?_ (x := lE [val _, val _, sl .v _, sl .v _] eK)
 refine dA 65534 ?_ (x := b9 (qs := [(true, [val _, val _, sl _ _, sl _ _])]) (by decide) la lZ (by decide) rfl rfl rfl rfl rfl (by exact nl rfl) (by exact (aI (by exact tI) tI)) rfl)
 refine dA 131071 ?_ (x := eC (by decide) la lZ rfl rfl (by decide) rfl (by simp only [ar, aU, List.length_cons, List.length_nil]; omega) (by simp only [ar, aU, List.length_cons, List.length_nil]; omega))
 refine dA 262143 ?_ (x := tA)
 refine sG [0, 1, 4, 5, 5000] [0] ?_
 refine cZ ?_
 refine nx (k + 1) (by omega) (e := (by exact aI (by exact cr (by unfold mV; rw [wc hlt, bN]; rfl)) (aI (by exact rfl) tI)))
 have hend : k = (parts e).length := by omega
 rw [hend, cb]
 refine bF ?_
 refine sT [0, 1, 4, 5, 5000] [0] ?_
 refine rA ?_ (x := vM false [sl .v _])
 refine rA ?_ (x := cL [(false, [sl _ _])] [(false, [sl .v _])] RH (hs := by exact T7))
 refine HL ?_
 refine aP ?_
 refine sO [(0, _), (1, _), (4, _), (5, _), (6, _), (5000, _)] [(0, _), (6, (124, [sl _ _, sl _ _]))] ?_
 refine ND (d := 0) (t := 139) (A := []) (B := [val _, val _, sl _ _, sl _ _, sl _ _, sl _ _, val _]) (f := (fun l : List aT => sl aS (l.map (cG aa)))) (xs := e.Store.Wr) (by exact rfl) fun zsS hzsS => ?_
 obtain ⟨zP, hzP, hzP1⟩ := NC hzsS hcl
 have hzP2 : zP.1 = b5 e := hzP1.trans (Bp hcl)
 have hzl : zP.1.length = (b5 e).length := by rw [hzP2]
 refine sO [(0, _), (1, _), (4, _), (5, _), (6, _), (5000, _)] [(0, (32, [sl _ _, val _, val _, sl _ _, sl _ _, sl _ _, sl _ _, val _])), (6, _)] ?_
 refine qM ?_
 refine dA 3 ?_ (x := lF gE)
 refine dA 7 ?_ (x := lF jr)
 refine dA 15 ?_ (x := lD [sl .v _] jy)
 refine sK ?_
 refine dA 96 ?_ (x := lF i4)
 refine dA 224 ?_ (x := lD [val _] au)
 refine dA 511 ?_ (x := aY (k := e.Ww.toNat) (by decide) cV (by exact tI) (by omega) (by rw [List.getElem?_map, hzP]; exact rfl) (by exact rfl))
 refine dA 1023 ?_ (x := nb (qs := [nv _ (sl .v _)]) (by decide) fH (fun _ => rfl) (by exact nl rfl) (by exact (an am.nil)) (by exact (ao.cons (bor_nv (bor_sl _)) ao.nil)))
 refine dA 2047 ?_ (x := bc (r' := RV.sv false [nv _ (sl .v _)]) (.inr rfl) (by decide) (by exact Cp.sv (an am.nil) (ao.cons (bor_nv (bor_sl _)) ao.nil)))
 refine aP ?_
 refine sP [0, 1, 4, 5, 6, 7, 5000] [0, 6] ?_
 refine qM ?_
 refine dA 3 ?_ (x := lF i4)
 refine dA 7 ?_ (x := lD [val _] au)
 refine dA 0 ?_ (x := bc (r' := RV.sv false [sl .v _]) (.inl rfl) (by decide) (by exact Cp.sv (am.cons (PV.nv_to iQ) am.nil) (ao.cons (bor_sl _) ao.nil)))
 refine dA 16 ?_ (x := lN ck)
 refine dA 0 ?_ (x := b9 (qs := []) (by decide) bC ej (by decide) rfl rfl rfl rfl rfl (by exact nl rfl) (by exact tI) rfl)
 refine dA 0 ?_ (x := vM false [sl .v _])
 refine dA 192 ?_ (x := il (by decide) bC ej rfl rfl (by decide) (by first | (intro cs hcs; obtain ⟨x, _, rfl⟩ := List.mem_map.1 hcs; exact rfl) | simp) (by first | (intro cs hcs; obtain ⟨x, _, rfl⟩ := List.mem_map.1 hcs; exact (ao.cons (bor_val _) ao.nil)) | simp) (by simp only [ar, aU, List.length_cons, List.length_nil]; omega) (by simp only [ar, aU, List.length_cons, List.length_nil]; omega))
 refine dA 511 ?_ (x := eV (qs := [(false, [val _]), (false, [val _]), (false, [sl _ _])]) (cs := [val _, val _, sl _ _, sl _ _, sl _ _]) (by decide) iC oq VR (by exact rfl) (by exact (aI (by exact tI) (aI (by exact tI) (aI (by exact tI) tI)))) rfl (by exact rfl))
 refine bY.step 0 (by exact tI) (by exact tI) (ax.of rfl (bR (by decide) iC oq)) (nf (cD.of_ rfl)) (by kernel_rfl) ?_
 refine dA 2047 ?_ (x := bd (ag := true) (vs := [val _, val _, sl _ _, sl _ _, sl _ _]) i8 (by exact tI) (by exact rfl) (by exact nl rfl))
 refine eO ?_
 refine sO [(0, _), (1, _), (4, _), (5, _), (6, _), (7, _), (8, _), (5000, _)] [(0, _), (6, _), (8, (70, [val _, val _, sl _ _, sl _ _, sl _ _]))] ?_
 refine ba ?_
 refine cz ?_
 refine sP [0, 1, 5, 6, 7, 8, 9, 5000] [0, 6, 8] ?_
 refine xJ (s := 7) [val zP.2] (by exact rfl) (by exact (am.cons bH am.nil)) (by exact (ao.cons (bor_val _) ao.nil)) ?_
 refine sP [0, 1, 5, 6, 7, 8, 9, 5000] [0, 6, 8] ?_
 refine sL [0, 1, 5, 6, 7, 8, 5000] [6] (fun k : Nat => k ≤ (parts e).length) (fun k : Nat => [(9, RV.int (k : Int))]) (fun k : Nat => [(0, (32, [sl bo (zsS.map (jh (fun l : List aT => sl aS (l.map (cG aa))))), val (vI e.Store.Now), val (vI e.Ww), sl aa (e.Order.map ak), sl bS ((bX e k).map (aO ay aa aa aB aa)), sl bM (e.Done.map (aZ ay aa aB aa)), sl bP (e.WE.map (a7 aa aa aa)), val (vI e.Steps)])), (8, (70, [val (vI (jc e k).Segment), val (vI (jc e k).Base), sl aa ((jc e k).Ids.map ak), sl aa ((jc e k).Wy.map ak), sl aa ((jc e k).Rows.map ak)]))]) (fun k : Nat => (parts e).length - k) 0 (by omega) (by exact aI (by exact rfl) tI) (by exact aI (by rw [Bm]; exact rfl) (aI (by rw [show (jc e 0).Base = ((zP.1.length : Nat) : Int) by rw [hzl]; rfl]; exact rfl) tI)) ?_
 rintro k hk
 have hcg := Va (e := e) hk
 have hsl := jE (e := e) (k := k)
 refine jl ?_
 refine sc (fun hbb => ?_) (fun hbb => ?_)
 have hlt : k < (parts e).length := by omega
 obtain ⟨i, hi, hf, hid, hpp⟩ := LB hoe hlt
 have hf2 : dn (bX e k) (parts e)[k] = (i : Int) := (U1 _).trans hf
 have hil : i < (bX e k).length := by omega
 have hoa := wR (hef.2.2.2.2.2.2.2.2.2.1 _ (List.getElem_mem hi))
 have hwa := cR (f := bW) hi
 have hwq : bW e.Ws[i] = ce e.Ws[i].Wt + e.Ws[i].WB.length + dl e.Ws[i].Rows := by simp only [bW, dM, a9]; omega
 have hga4 := LN hoe e.Ws[i]
 have hqm := U5 hoe hi hpp
 refine cF ?_
 refine sQ [0, 1, 5, 6, 7, 8, 9, 5000] [0, 6, 8] ?_
 refine qM ?_
 refine dA 3 ?_ (x := lD [sl .v _, val _, val _, sl .v _, sl .v _, sl .v _, sl .v _, val _] bZ)
 refine eE ?_
 refine dA 24 ?_ (x := aY (by decide) bC (by exact tI) (by exact rfl) (by exact be (by omega) rfl) (by exact rfl))
 refine dA 56 ?_ (x := lE [val _] au)
 refine dA 127 ?_ (x := oB (qs := [(true, [sl _ _, val _, val _, sl _ _, sl _ _, sl _ _, sl _ _, val _]), (false, [val _])]) (as_ := [(true, [sl .v (e.Store.Wr.map (aD .v aa)), val _, val _, sl .v _, sl .v _, sl .v _, sl .v _, val _]), (false, [val _])]) (by decide) wx (by exact (aI (by exact tI) (aI (by exact tI) tI))) (by exact (aI (aI rfl (am.cons (q := sl .v (e.Store.Wr.map (aD .v aa))) (NB (g := aD .v aa) hzsS (fun x => aF am.nil)) (an (an (aF (aF (aF (aF (an am.nil))))))))) (aI (aI rfl (an am.nil)) tI))) (by exact (wG (e := Vb e k) (id := (parts e)[k]))))
 refine dA 255 ?_ (x := sA)
 refine aP ?_
 refine sP [0, 1, 5, 6, 7, 8, 9, 10, 5000] [0, 6, 8] ?_
 refine iO (d := 0) (t := 32) (D := 900) (G := 2900) (E := 108) (e := 10) (L := da) (A := [sl _ _, val _, val _, sl _ _]) (B := [sl _ _, sl _ _, val _]) (es := ((bX e k)).map (aO ay aa aa aB aa)) (by exact rfl) (hP hil) (by exact rfl) (by exact rfl) rfl (by exact rfl) (fun x hx => hx.elim) (by exact lq) (by exact lq) (by exact lq) (by exact lq) (ai.map fun x => (ai.cons lcl_val (ai.cons lcl_val (ai.cons (lcl_own (ai.map fun x => (ai.cons lcl_val (ai.cons lcl_val (ai.cons lcl_val ai.nil))))) (ai.cons (lcl_own (ai.map fun x => (ai.cons lcl_val ai.nil))) (ai.cons lcl_val (ai.cons (lcl_own (ai.map fun x => (ai.cons lcl_val ai.nil))) (ai.cons lcl_val (ai.cons lcl_val (ai.cons lcl_val (ai.cons (lcl_own (ai.map fun x => (ai.cons lcl_val (ai.cons (lcl_own (ai.map fun x => (ai.cons lcl_val ai.nil))) ai.nil)))) ai.nil))))))))))) fun uu900 cp900 jk900 hlD900 hcp900 hjk900 => ?_
 rw [ar] at hlD900 hcp900 hjk900
 refine bV (d := 900) (by exact rfl) (hO (k := i) hil) ?_
 have hA900 := iq (f := (aO ay aa aa aB aa)) (e := 10) (xs := (bX e k)) (k := i) (fun _ => rfl) (Nat.le_of_lt hil)
 refine bV (d := 900) (by exact rfl) (congrArg (fun z_ => ((((bX e k)).take i).map (aO ay aa aa aB aa)).flatten ++ ((aO ay aa aa aB aa) z_ ++ (((((bX e k)).drop (i + 1)).map (aO ay aa aa aB aa)).flatten ++ jk900.map val))) (LC hoe hlt hi hid hil)) ?_
 refine sO [(0, _), (1, _), (5, _), (6, _), (7, _), (8, _), (9, _), (10, _), (2900, _), (5000, _)] [(0, (32, [sl _ _, val _, val _, sl _ _, val _, sl _ _, sl _ _, val _])), (6, _), (8, _), (900, (108, _ ++ ([val _, val _, sl _ _, sl _ _, val _, sl _ _, val _, val _, val _, sl _ _] ++ _)))] ?_
 refine Ag ?_
 refine dA 1 ?_ (x := cl (ms := [sl _ _]) (qs := [sl .v _]) (by decide) bq (fun _ => rfl) (by exact nl rfl) (by exact rfl) (by exact (aF am.nil)) (by exact (ao.cons (bor_sl _) ao.nil)))
 refine dA 0 ?_ (x := cM Cp.ptr)
 refine dA 4 ?_ (x := iu (by decide))
 refine dA 12 ?_ (x := lF dN)
 refine dA 28 ?_ (x := lD [val _] dC)
 refine dA 0 ?_ (x := sM)
 refine dA 124 ?_ (x := gR (k := i) (G := 2900) (by decide) bI (by exact tI) (by first | exact hf2 | omega) (by first | (rw [ar]; exact hil) | exact hil))
 refine dA 252 ?_ (x := lF eR)
 refine dA 508 ?_ (x := lF i5)
 refine dA 1020 ?_ (x := fZ (o := 1) (qs := [val _]) (by omega) (by decide) au (fun _ => rfl) (by exact nl rfl) (by exact (an am.nil)) (by exact (ao.cons (bor_val _) ao.nil)))
 refine dA 2044 ?_ (x := b9 (qs := [(false, [val _])]) (by decide) bC ej (by decide) rfl rfl rfl rfl rfl (by exact nl rfl) (by exact (aI (by exact tI) tI)) rfl)
 refine dA 4095 ?_ (x := eC (by decide) bC ej rfl rfl (by decide) rfl (by simp only [ar, aU, List.length_cons, List.length_nil]; omega) (by simp only [ar, aU, List.length_cons, List.length_nil]; omega))
 refine dA 8191 ?_ (x := lF jx)
 refine IE ?_
 refine sO [(0, _), (1, _), (5, _), (6, _), (7, _), (8, _), (9, _), (10, _), (2900, _), (5000, _)] [(0, _), (6, _), (8, (70, [val _, val _, sl _ _, sl _ _, sl _ _])), (900, _)] ?_
 refine ba ?_
 refine dz ?_
 refine aP ?_
 refine sP [0, 1, 5, 6, 7, 8, 9, 10, 11, 2900, 5000] [0, 6, 8, 900] ?_
 refine NF (s := 7) (d := 0) (t := 139) (k := e.Ww.toNat) (A := []) (B := [val _, val _, sl _ _, val _, sl _ _, sl _ _, val _]) (f := (fun l : List aT => sl aS (l.map (cG aa)))) (q := (fun l : List aT => sl .v (l.map (cG aa)))) (by exact rfl) (by exact rfl) hzP iQ (by exact bor_sl _) ?_
 refine sG [0, 1, 5, 6, 7, 8, 9, 10, 11, 2900, 5000] [0, 6, 8, 900] ?_
 refine cz ?_
 refine sP [0, 1, 5, 6, 7, 8, 9, 10, 11, 12, 2900, 5000] [0, 6, 8, 900] ?_
 refine sL [0, 1, 5, 6, 7, 8, 9, 10, 2900, 5000] [0, 6, 8] (fun j : Nat => j ≤ (b5 e).length) (fun j : Nat => [(11, RV.int ((jb e e.Ws[i] j).length : Int)), (12, RV.int (j : Int))]) (fun j : Nat => [(900, (108, (((bX e k).take i).map (aO ay aa aa aB aa)).flatten ++ ([val (vI e.Ws[i].Wt.Id), val (vI e.Ws[i].Wt.Wx), sl ay (e.Ws[i].Wt.Wu.map bf), sl aa (e.Ws[i].Wt.Out.map ak), val (vI e.Ws[i].Time), sl aa (e.Ws[i].WB.map ak), val (vI e.Ws[i].Age), val (vI e.Ws[i].Sent), val (vI e.Ws[i].Cap), sl aB ((e.Ws[i].Rows ++ jb e e.Ws[i] j).map (bu aa))] ++ ((((bX e k).drop (i + 1)).map (aO ay aa aa aB aa)).flatten ++ jk900.map val))))]) (fun j : Nat => (b5 e).length - j) 0 (by omega) (by exact aI (by exact rfl) (aI (by exact rfl) tI)) (by exact aI (by show _ = some (108, (((bX e k).take i).map (aO ay aa aa aB aa)).flatten ++ ([val (vI e.Ws[i].Wt.Id), val (vI e.Ws[i].Wt.Wx), sl ay (e.Ws[i].Wt.Wu.map bf), sl aa (e.Ws[i].Wt.Out.map ak), val (vI e.Ws[i].Time), sl aa (e.Ws[i].WB.map ak), val (vI e.Ws[i].Age), val (vI e.Ws[i].Sent), val (vI e.Ws[i].Cap), sl aB ((e.Ws[i].Rows ++ jb e e.Ws[i] 0).map (bu aa))] ++ ((((bX e k).drop (i + 1)).map (aO ay aa aa aB aa)).flatten ++ jk900.map val))); rw [show jb e e.Ws[i] 0 = [] from rfl, dH]; exact rfl) tI) ?_
 rintro j hj
 have hgl := U7 (e := e) (a := e.Ws[i]) (j := j)
 refine mG ?_
 refine mA ?_
 refine sc (fun hbc => ?_) (fun hbc => ?_)
 have hj2 : j < (b5 e).length := by omega
 have hjz : j < zP.1.length := by omega
 have hz4 : fk zP.1[j] = fk (b5 e)[j] := by simp [hzP2]
 have hz5 : ea zP.1[j] e.Ws[i].Time = ea (b5 e)[j] e.Ws[i].Time := by simp [hzP2]
 have hro : dt (fk zP.1[j]) = true := by rw [hz4]; exact LJ hoe _ (List.getElem_mem hj2)
 have hrv := rp hro
 have hrv : zP.1[j].Values.length = 3 := hrv
 have hph := UH (q := e.Ws[i].Wt) hql2 hro hef.2.1 hqm
 rw [hid, hz4] at hph
 have hwr : de (fk zP.1[j]) = 3 := by simp only [fk, de, dM, a9]; omega
 refine cF ?_
 refine sO [(0, _), (1, _), (5, _), (6, _), (7, _), (8, _), (9, _), (10, _), (11, _), (12, _), (2900, _), (5000, _)] [(0, (32, [sl _ _, val _, val _, sl _ _, val _, sl _ _, sl _ _, val _])), (6, (124, [sl _ _, sl _ _])), (8, (70, [val _, val _, sl _ _, sl _ _, sl _ _])), (900, (108, _ ++ ([val _, val _, sl _ _, sl _ _, val _, sl _ _, val _, val _, val _, sl _ _] ++ _)))] ?_
 refine db cJ ?_
 refine Hz ?_
 refine dA 3 ?_ (x := aY (by decide) ck (by exact tI) (by exact rfl) (by exact be (by omega) rfl) (by exact rfl))
 refine dA 7 ?_ (x := bE (by decide) lQ (by exact nl rfl))
 refine dA 15 ?_ (x := lE [val _] au)
 refine Hz ?_
 refine dA 96 ?_ (x := aY (by decide) ck (by exact tI) (by exact rfl) (by exact be (by omega) rfl) (by exact rfl))
 refine dA 224 ?_ (x := bE (by decide) i2 (by exact nl rfl))
 refine dA 480 ?_ (x := lE [sl .v _] bq)
 refine dA 1023 ?_ (x := eV (qs := [(false, [val _]), (false, [sl _ _])]) (cs := [val _, sl _ _]) (by decide) iB kV VQ (by exact rfl) (by exact (aI (by exact tI) (aI (by exact tI) tI))) rfl (by exact rfl))
 refine bY.step 0 (by exact tI) (by exact tI) (ax.of rfl (bR (by decide) iB kV)) (nf (cD.of_ rfl)) (by kernel_rfl) ?_
 refine dA 4095 ?_ (x := bd (ag := true) (vs := [val _, sl _ _]) eS (by exact tI) (by exact rfl) (by exact nl rfl))
 refine aP ?_
 refine sO [(0, _), (1, _), (5, _), (6, _), (7, _), (8, _), (9, _), (10, _), (11, _), (12, _), (13, _), (2900, _), (5000, _)] [(0, _), (6, _), (8, _), (13, (54, [val _, sl _ _])), (900, _)] ?_
 refine xv (c := 6) (AI := []) cJ rfl rfl rfl rfl (by kernel_rfl) (fun j L h => nomatch h) (fun j L h => nomatch h) ?_
 refine dX 0 ?_ (x := (df (qs := [sl .v _, sl .v _]) (by decide) rz (fun h => nomatch h) (by exact nl rfl) (by exact (aF (aF am.nil))) (by exact (ao.cons (bor_sl _) (ao.cons (bor_sl _) ao.nil)))))
 refine dX 0 ?_ (x := (df (qs := [val _, sl .v _]) (by decide) eS (fun h => nomatch h) (by exact nl rfl) (by exact (an (aF am.nil))) (by exact (ao.cons (bor_val _) (ao.cons (bor_sl _) ao.nil)))))
 refine dX 0 ?_ (x := (bc (.inl rfl) (by decide) (by exact Cp.ptr)))
 refine dX 4 ?_ (x := (iu (by decide)))
 refine dX 12 ?_ (x := (dQ (by decide) lR))
 refine dX 28 ?_ (x := (df (qs := [sl .v _]) (by decide) bq (fun _ => rfl) (by exact nl rfl) (by exact (aF am.nil)) (by exact (ao.cons (bor_sl _) ao.nil))))
 refine xw (G := 2000) (qs := [(true, [sl _ _, sl _ _]), (true, [val _, sl _ _]), (false, [sl _ _])]) (as_ := [(true, [sl .v _, sl .v _]), (true, [val _, sl .v _]), (false, [sl .v _])]) (by decide) RI (by exact ⟨rfl, rfl, rfl, ⟨⟩⟩) (by exact (aI (by exact tI) (aI (by exact tI) (aI (by exact tI) tI)))) (by exact (aI (aI rfl (aF (aF am.nil))) (aI (aI rfl (an (aF am.nil))) (aI (aI rfl (aF am.nil)) tI)))) (by exact (Ua (x := kX (mV e.Ws (parts e))) (r := fk zP.1[j]) (o := e.Order) hxo hro hef.2.1)) (by kernel_rfl) (by kernel_rfl) fun uss hU0 => ?_
 obtain ⟨us0, r0, rfl, hl0, hR0, hU1⟩ := gQ.cons hU0
 obtain ⟨u4_0_0, rfl⟩ := tg hl0
 obtain ⟨us1, r1, rfl, hl1, hR1, hU2⟩ := gQ.cons hU1
 obtain ⟨u4_1_0, rfl⟩ := tg hl1
 obtain rfl := mg hR1 (j := 0) rfl rfl
 obtain rfl := gQ.nil hU2
 clear hR0 hU0 hR1 hU1 hU2
 refine bY.stepC 127 (by exact ⟨rfl, ⟨⟩⟩) (by exact tI) (ax.of rfl (tP (.inl rfl) (by decide))) aH (by kernel_rfl) (by intro L' h; exact nomatch (show (none : Option aG) = some L' from h)) ?_
 refine bY.stepC 255 (by exact ⟨rfl, ⟨⟩⟩) (by exact tI) (ax.of rfl (nB (cs := [val _]) (by decide) (by exact rfl) (by exact (ao.cons (bor_val _) ao.nil)))) aH (by kernel_rfl) (by intro L' h; exact nomatch (show (none : Option aG) = some L' from h)) ?_
 refine bY.stepC 255 (by exact ⟨rfl, ⟨⟩⟩) (by exact tI) (ax.of rfl (nB (cs := [val _]) (by decide) (by exact rfl) (by exact (ao.cons (bor_val _) ao.nil)))) aH (by kernel_rfl) (by intro L' h; exact nomatch (show (none : Option aG) = some L' from h)) ?_
 refine bY.stepC 511 (by exact ⟨rfl, ⟨⟩⟩) (by exact tI) (ax.of rfl (bc (.inr rfl) (by decide) (by exact Cp.sc))) aH (by kernel_rfl) (by intro L' h; exact nomatch (show (none : Option aG) = some L' from h)) ?_
 refine bY.stepC 2047 (by exact ⟨rfl, ⟨⟩⟩) (by exact tI) (ax.of rfl (bc (.inr rfl) (by decide) (by exact Cp.sc))) aH (by kernel_rfl) (by intro L' h; exact nomatch (show (none : Option aG) = some L' from h)) ?_
 refine rR (s := 14) (G := 2000) (by exact rfl) (by exact (Nm.val Nm.nil)) rfl (by decide) (by exact rfl) ?_
 refine rR (s := 15) (G := 2001) (by exact rfl) (by exact (Nm.val Nm.nil)) rfl (by decide) (by exact rfl) ?_
 refine IU ?_
 refine db cJ ?_
 refine dA 0 ?_ (x := vM false [sl .v _])
 refine eE ?_
 refine dA 6 ?_ (x := aY (by decide) bC (by exact tI) (by exact rfl) (by exact be (by omega) rfl) (by exact rfl))
 refine dA 14 ?_ (x := lE [val _] au)
 refine dA 31 ?_ (x := cL [(false, [sl _ _]), (false, [val _])] [(false, [sl .v _]), (false, [val _])] wh (hs := by exact wC))
 refine dA 63 ?_ (x := sM)
 refine dx 125 (fun ga sga => ?_) (fun ga sga => ?_)
 have hmm : e7 e.Ws[i].Wt (fk (b5 e)[j]) = true := by rw [← hph, ← hz4]; simpa using ga
 have sga := ga
 try simp only [qq] at sga
 refine dB 127 ga ?_ (x := bc (r' := RV.sv false [sl .v _]) (.inl rfl) (by decide) (by exact Cp.sv (am.cons (PV.nv_to iQ) am.nil) (ao.cons (bor_sl _) ao.nil)))
 refine dB 127 ga ?_ (x := sM)
 refine dB 511 ga ?_ (x := aY (by decide) ck (by exact tI) (by exact rfl) (by exact be (by omega) rfl) (by exact rfl))
 refine dB 1023 ga ?_ (x := lE [val _, sl .v _, val _, val _] dO)
 refine dB 127 ga ?_ (x := cM Cp.ptr)
 refine dB 2175 ga ?_ (x := iu (by decide))
 refine dB 6271 ga ?_ (x := lF dN)
 refine dB 14463 ga ?_ (x := lD [val _] dC)
 refine dB 127 ga ?_ (x := sM)
 refine dB 63615 ga ?_ (x := gR (k := i) (G := 2900) (by decide) bI (by exact tI) (by first | exact hf2 | omega) (by first | (rw [ar]; exact hil) | exact hil))
 refine dB 129151 ga ?_ (x := lF lP)
 refine dB 260223 ga ?_ (x := fZ (o := 4) (qs := [val _]) (by omega) (by decide) au (fun _ => rfl) (by exact nl rfl) (by exact (an am.nil)) (by exact (ao.cons (bor_val _) ao.nil)))
 refine dB 524287 ga ?_ (x := cL [(true, [val _, sl _ _, val _, val _]), (false, [val _])] [(true, [val _, sl .v _, val _, val _]), (false, [val _])] KK (hs := by exact Le))
 refine dA 1048575 ?_ (x := aR ga)
 refine sc (fun hbd => ?_) (fun hbd => ?_)
 have hvv : ea (b5 e)[j] e.Ws[i].Time = true := by rw [← hz5]; simpa using hbd
 refine IU ?_
 refine qM ?_
 refine zN ?_
 refine dA 0 ?_ (x := sM)
 refine sK ?_
 refine zH ?_
 refine yP ?_
 refine dA 2016 ?_ (x := lF jq)
 refine dA 4064 ?_ (x := xy (o := 9) (ms := [sl _ _]) (qs := [sl .v _]) (by omega) (by decide) fI (fun _ => rfl) (by exact nl rfl) (by exact rfl) (by exact (aF am.nil)) (by exact (ao.cons (bor_sl _) ao.nil)))
 refine dA 0 ?_ (x := lD [val _, sl .v _] eS)
 refine dA 8192 ?_ (x := cL [(true, [val _, sl _ _])] [(true, [val _, sl .v _])] JB (hs := by exact (K9 (x := fk zP.1[j]) (by omega))))
 refine dA 24576 ?_ (x := b9 (qs := [(true, [val _, sl _ _])]) (by decide) fG iB (by decide) rfl rfl rfl rfl rfl (by exact nl rfl) (by exact (aI (by exact tI) tI)) rfl)
 refine dA 65504 ?_ (x := eC (by decide) fG iB rfl rfl (by decide) rfl (by simp only [ar, aU, List.length_cons, List.length_nil]; omega) (by simp only [ar, aU, List.length_cons, List.length_nil]; omega))
 refine dA 131071 ?_ (x := gR (k := i) (G := 2900) (by decide) bI (by exact tI) (by first | exact hf2 | omega) (by first | (rw [ar]; exact hil) | exact hil))
 refine dA 262143 ?_ (x := lF jq)
 refine dA 524287 ?_ (x := fP (o := 9) (ag := false) (vs := [sl _ _]) (by omega) fI (by exact tI) (by exact rfl) (by exact nl rfl))
 refine sO [(0, _), (1, _), (5, _), (6, _), (7, _), (8, _), (9, _), (10, _), (11, _), (12, _), (13, _), (14, _), (15, _), (2900, _), (5000, _)] [(0, _), (6, _), (8, _), (13, _), (900, (108, _ ++ ([val _, val _, sl _ _, sl _ _, val _, sl _ _, val _, val _, val _, sl _ _] ++ _)))] ?_
 refine eP ?_
 exact yi
 have hvv : ea (b5 e)[j] e.Ws[i].Time = false := by rw [← hz5]; simpa using hbd
 refine bl ?_
 exact yi
 have hmm : e7 e.Ws[i].Wt (fk (b5 e)[j]) = false := by rw [← hph, ← hz4]; simpa using ga
 have sga := ga
 try simp only [qq] at sga
 refine dF 127 ga ?_
 refine dF 127 ga ?_
 refine dF 511 ga ?_
 refine dF 1023 ga ?_
 refine dF 127 ga ?_
 refine dF 2175 ga ?_
 refine dF 6271 ga ?_
 refine dF 14463 ga ?_
 refine dF 127 ga ?_
 refine dF 63615 ga ?_
 refine dF 129151 ga ?_
 refine dF 260223 ga ?_
 refine dF 524287 ga ?_
 refine dA 1048575 ?_ (x := aK ga)
 refine fh ?_
 refine bl ?_
 exact yi
 have hjend : j = (b5 e).length := by omega
 have hgt : jb e e.Ws[i] j = ko e e.Ws[i] := by rw [hjend]; exact U6
 rw [hgt]
 refine gV ?_
 refine sO [(0, _), (1, _), (5, _), (6, _), (7, _), (8, _), (9, _), (10, _), (11, _), (12, _), (2900, _), (5000, _)] [(0, (32, [sl _ _, val _, val _, sl _ _, val _, sl _ _, sl _ _, val _])), (6, (124, [sl _ _, sl _ _])), (8, (70, [val _, val _, sl _ _, sl _ _, sl _ _])), (900, (108, _ ++ ([val _, val _, sl _ _, sl _ _, val _, sl _ _, val _, val _, val _, sl _ _] ++ _)))] ?_
 refine ba ?_
 refine rA ?_ (x := lF iA)
 refine sh ?_
 refine oS ?_
 refine rA ?_ (x := lF iA)
 refine jM ?_
 refine sO [(0, _), (1, _), (5, _), (6, _), (7, _), (8, _), (9, _), (10, _), (11, _), (12, _), (2900, _), (5000, _)] [(0, _), (6, _), (8, (70, [val _, val _, sl _ _, sl _ _, sl _ _])), (900, _)] ?_
 refine qM ?_
 refine zN ?_
 refine dA 0 ?_ (x := sM)
 refine sK ?_
 refine zH ?_
 refine yP ?_
 refine dA 2016 ?_ (x := lF jp)
 refine dA 4064 ?_ (x := fZ (o := 7) (qs := [val _]) (by omega) (by decide) au (fun _ => rfl) (by exact nl rfl) (by exact (an am.nil)) (by exact (ao.cons (bor_val _) ao.nil)))
 refine dA 0 ?_ (x := sM)
 refine dA 16352 ?_ (x := j4)
 refine dA 32767 ?_ (x := gR (k := i) (G := 2900) (by decide) bI (by exact tI) (by first | exact hf2 | omega) (by first | (rw [ar]; exact hil) | exact hil))
 refine dA 65535 ?_ (x := lF jp)
 refine dA 131071 ?_ (x := fP (o := 7) (ag := false) (vs := [val _]) (by omega) au (by exact tI) (by exact rfl) (by exact nl rfl))
 refine sO [(0, _), (1, _), (5, _), (6, _), (7, _), (8, _), (9, _), (10, _), (11, _), (12, _), (2900, _), (5000, _)] [(0, _), (6, _), (8, _), (900, (108, _ ++ ([val _, val _, sl _ _, sl _ _, val _, sl _ _, val _, val _, val _, sl _ _] ++ _)))] ?_
 refine qM ?_
 refine zN ?_
 refine dA 0 ?_ (x := sM)
 refine sK ?_
 refine zH ?_
 refine yP ?_
 refine dA 2016 ?_ (x := lF gD)
 refine dA 4064 ?_ (x := fZ (o := 5) (qs := [sl .v _]) (by omega) (by decide) bq (fun _ => rfl) (by exact nl rfl) (by exact (aF am.nil)) (by exact (ao.cons (bor_sl _) ao.nil)))
 refine dA 0 ?_ (x := cM Cp.ptr)
 refine dA 8192 ?_ (x := iu (by decide))
 refine dA 24576 ?_ (x := lF i4)
 refine dA 57344 ?_ (x := lD [val _] au)
 refine dA 131040 ?_ (x := cL [(false, [sl _ _]), (false, [val _])] [(false, [sl .v _]), (false, [val _])] R6 (hs := by exact (Vz (by omega))))
 refine dA 262143 ?_ (x := gR (k := i) (G := 2900) (by decide) bI (by exact tI) (by first | exact hf2 | omega) (by first | (rw [ar]; exact hil) | exact hil))
 refine dA 524287 ?_ (x := lF gD)
 refine dA 1048575 ?_ (x := fP (o := 5) (ag := false) (vs := [sl _ _]) (by omega) bq (by exact tI) (by exact rfl) (by exact nl rfl))
 refine bV (d := 900) (by exact rfl) (lr (ox e e.Ws[i]) hil (by exact rfl)) ?_
 refine mi (d := 0) (D := 900) (G := 2900) (e := 10) (A := [sl _ _, val _, val _, sl _ _]) (B := [sl _ _, sl _ _, val _]) (es := (((bX e k)).set i (ox e e.Ws[i])).map (aO ay aa aa aB aa)) (by exact rfl) (by exact rfl) (by exact rfl) rfl (by rw [ar, List.length_set, ar]) (by intro c hc; obtain ⟨y, _, rfl⟩ := List.mem_map.1 hc; exact rfl) (by rw [ar]; exact hjk900) ?_
 refine sO [(0, _), (1, _), (5, _), (6, _), (7, _), (8, _), (9, _), (10, _), (11, _), (12, _), (5000, _)] [(0, (32, [sl _ _, val _, val _, sl _ _, sl _ _, sl _ _, sl _ _, val _])), (6, _), (8, _)] ?_
 refine xJ (s := 7) [val zP.2] (by exact rfl) (by exact (am.cons bH am.nil)) (by exact (ao.cons (bor_val _) ao.nil)) ?_
 refine sG [0, 1, 5, 6, 7, 8, 9, 10, 11, 12, 5000] [0, 6, 8] ?_
 refine cZ ?_
 refine nx (k + 1) (by omega) (f := (by exact aI (by rw [← LD hoe hlt hi hid]; exact rfl) (aI (by rw [U8 hlt hi hf]; simp only [bN]; exact rfl) tI)))
 have hend : k = (parts e).length := by omega
 subst hend
 rw [U9]
 have hcg2 := Bn (e := e) (Nat.le_refl _)
 refine bF ?_
 refine sQ [0, 1, 5, 6, 7, 8, 9, 5000] [0, 6, 8] ?_
 refine NE (d := 0) (t := 139) (A := []) (B := [val _, val _, sl _ _, sl _ _, sl _ _, sl _ _, val _]) (f := (fun l : List aT => sl aS (l.map (cG aa)))) hzsS (by exact rfl) ?_
 refine sO [(0, _), (1, _), (5, _), (6, _), (7, _), (8, _), (9, _), (5000, _)] [(0, (32, [sl _ _, val _, val _, sl _ _, sl _ _, sl _ _, sl _ _, val _])), (6, _), (8, _)] ?_
 refine u7 ?_
 refine vh ?_
 refine dA 6 ?_ (x := lF jt)
 refine dA 14 ?_ (x := cl (ms := [sl _ _]) (qs := [sl .v _]) (by decide) jz (fun _ => rfl) (by exact nl rfl) (by exact rfl) (by exact (aF am.nil)) (by exact (ao.cons (bor_sl _) ao.nil)))
 refine dA 0 ?_ (x := cl (ms := [val _, val _, sl _ _, sl _ _, sl _ _]) (qs := [val _, val _, any, any, any]) (by decide) i8 (fun h => nomatch h) (by exact nl rfl) (by exact rfl) (by exact (an (an (am.cons PV.to_any (am.cons PV.to_any (am.cons PV.to_any am.nil)))))) (by exact lq))
 refine dA 32 ?_ (x := b9 (qs := [(true, [val _, val _, sl _ _, sl _ _, sl _ _])]) (by decide) dY iC (by decide) rfl rfl rfl rfl rfl (by exact nl rfl) (by exact (aI (by exact tI) tI)) rfl)
 refine dA 126 ?_ (x := eC (by decide) dY iC rfl rfl (by decide) rfl (by simp only [ar, aU, List.length_cons, List.length_nil]; omega) (by simp only [ar, aU, List.length_cons, List.length_nil]; omega))
 refine dA 255 ?_ (x := iu (by decide))
 refine dA 511 ?_ (x := lF jt)
 refine dA 1023 ?_ (x := bd (ag := false) (vs := [sl _ _]) jz (by exact tI) (by exact rfl) (by exact nl rfl))
 exact ⟨(by simp only [bN]; exact rfl), rfl, tI⟩
end Go.Proofs.YtmekkgdboplbjaaGreat
