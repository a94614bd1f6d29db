/- What functions of the program compute. No condition. -/
import Derived.Test.YtmekkgdboplbjaaGreatDoorCF1
import Derived.Test.YtmekkgdboplbjaaGreatDoorCD1
set_option linter.all false
namespace Go.Proofs.YtmekkgdboplbjaaGreatDoor
open Go Go.RowKit M PV
set_option maxRecDepth 10000
attribute [local irreducible] PV.Lcl PV.LclR RV.Lcl
set_option maxHeartbeats 8000000
def XJ : dL Tryz.prog 149 = some [(0, 1), (1, 1), (2, 1), (3, 1), (4, 1)] := by kernel_rfl
def XK : dL Tryz.prog 27 = some [(0, 1), (1, 1)] := by kernel_rfl
def XL {e : ay} {ids : List Int}  (hids : ids = parts e) (hoe : aT e = true) (hb : bB e ≤ 68719000000) : fa Tryz.prog 299 46 [sl bQ (e.Store.ZE.map (aO be ae)), val (vI e.Store.Now), val (vI e.ZJ), sl ae (e.Order.map an), sl dr (e.ZF.map (bq aP ae ae aR ae)), sl cQ (e.Done.map (bN aP ae aR ae)), sl cH (e.ZR.map (bF ae ae ae)), val (vI e.Steps)] [sl bQ (e.Store.ZE.map (aO be ae)), val (vI e.Store.Now), val (vI e.ZJ), sl ae (e.Order.map an), sl dr ((ck e (parts e).length).map (bq aP ae ae aR ae)), sl cQ (e.Done.map (bN aP ae aR ae)), sl cH ((e.ZR ++ [fW e (parts e).length]).map (bF ae ae ae)), val (vI e.Steps)] [(false, [sl ae (ids.map an)])] (aF []) := by
 refine fO (rs := []) Tryz.func299 rfl (nl rfl) (nl rfl) ?_
 intro g_ h0 w0 Fz0
 refine sj 1 fun hl1 => ?_
 subst hids
 have hef := gU hoe
 have hcl : e.ZJ.toNat < e.Store.ZE.length := hef.2.2.2.1
 have hpl := wZ (e := e)
 have hs4 := BT hoe
 have hql2 := VE hoe
 have hxo := QM hql2
 have hbu := hb
 simp only [bB, ix, mC, hZ] at hbu
 refine sR ?_
 refine Jh ?_
 refine sT [0, 1, 4, 5000] [0] ?_
 refine de ?_
 refine sP [0, 1, 4, 5, 5000] [0] ?_
 refine sL [0, 1, 5000] [0] (fun k : Nat => k ≤ (parts e).length) (fun k : Nat => [(4, RV.slc pz ((nR e.ZF ((parts e).take k)).map (kz .v .v))), (5, RV.int (k : Int))]) (fun k : Nat => []) (fun k : Nat => (parts e).length - k) 0 (by omega) (by exact aI (by exact rfl) (aI (by exact rfl) tI)) (by exact tI) ?_
 rintro k hk
 refine kw ?_
 refine sc (fun hba => ?_) (fun hba => ?_)
 have hlt : k < (parts e).length := by omega
 have hpk : (parts e)[k] ∈ gp e e.ZF := by rw [← qt hoe]; exact List.getElem_mem hlt
 have hfp := Rr hpk
 have hql : (nR e.ZF ((parts e).take k)).length = k := by unfold nR; rw [am, bg]; omega
 refine bw ?_
 refine sQ [0, 1, 4, 5, 5000] [0] ?_
 refine tw ?_
 refine tj ?_
 refine dA 6 ?_ (x := lF eQ)
 refine dA 14 ?_ (x := lD [sl .v _] eG)
 refine pP ?_
 refine dA 96 ?_ (x := lD [sl .v _, val _, val _, sl .v _, sl .v _, sl .v _, sl .v _, val _] co)
 refine gy ?_
 refine dA 768 ?_ (x := aU (by decide) aW (by exact tI) (by exact rfl) (by exact aV (by omega) rfl) (by exact rfl))
 refine dA 1792 ?_ (x := lE [val _] aw)
 refine dA 4064 ?_ (x := cL [(true, [sl _ _, val _, val _, sl _ _, sl _ _, sl _ _, sl _ _, val _]), (false, [val _])] [(true, [sl .v _, val _, val _, sl .v _, sl .v _, sl .v _, sl .v _, val _]), (false, [val _])] xf (hs := by exact xN))
 refine dA 8190 ?_ (x := aU (k := (dv e.ZF (parts e)[k]).toNat) (by decide) ct (by exact tI) (by omega) (by exact aV hfp.2 (by rw [cU (d := go) hfp.2])) (by exact rfl))
 refine dA 16382 ?_ (x := cB (by decide) iN (by exact nl rfl))
 refine dA 32766 ?_ (x := lE [val _, val _, sl .v _, sl .v _] fh)
 refine dA 65534 ?_ (x := bm (qs := [(true, [val _, val _, sl _ _, sl _ _])]) (by decide) ma lS (by decide) rfl rfl rfl rfl rfl (by exact nl rfl) (by exact (aI (by exact tI) tI)) rfl)
 refine dA 131071 ?_ (x := dy (by decide) ma lS rfl rfl (by decide) rfl (by simp only [am, aD, List.length_cons, List.length_nil]; omega) (by simp only [am, aD, List.length_cons, List.length_nil]; omega))
 refine dA 262143 ?_ (x := tA)
 refine sG [0, 1, 4, 5, 5000] [0] ?_
 refine ca ?_
 refine nx (k + 1) (by omega) (e := (by exact aI (by exact bI (by unfold nR; rw [kC hlt, bb]; rfl)) (aI (by exact rfl) tI)))
 have hend : k = (parts e).length := by omega
 rw [hend, bY]
 refine bE ?_
 refine sT [0, 1, 4, 5, 5000] [0] ?_
 refine rA ?_ (x := vM false [sl .v _])
 refine rA ?_ (x := cL [(false, [sl _ _])] [(false, [sl .v _])] Th (hs := by exact Uz))
 refine II ?_
 refine ba ?_
 refine sO [(0, _), (1, _), (4, _), (5, _), (6, _), (5000, _)] [(0, _), (6, (260, [sl _ _, sl _ _]))] ?_
 refine Pu (d := 0) (t := 114) (A := []) (B := [val _, val _, sl _ _, sl _ _, sl _ _, sl _ _, val _]) (f := (fun l : List aM => sl be (l.map (ff ae)))) (xs := e.Store.ZE) (by exact rfl) fun zsS hzsS => ?_
 obtain ⟨zP, hzP, hzP1⟩ := Pt hzsS hcl
 have hzP2 : zP.1 = cG e := hzP1.trans (BS hcl)
 have hzl : zP.1.length = (cG e).length := by rw [hzP2]
 refine sO [(0, _), (1, _), (4, _), (5, _), (6, _), (5000, _)] [(0, (46, [sl _ _, val _, val _, sl _ _, sl _ _, sl _ _, sl _ _, val _])), (6, _)] ?_
 refine oK ?_
 refine dA 3 ?_ (x := lF fB)
 refine dA 7 ?_ (x := lF jW)
 refine dA 15 ?_ (x := lD [sl .v _] jX)
 refine pP ?_
 refine dA 96 ?_ (x := lF kN)
 refine dA 224 ?_ (x := lD [val _] aw)
 refine dA 511 ?_ (x := aU (k := e.ZJ.toNat) (by decide) fj (by exact tI) (by omega) (by rw [List.getElem?_map, hzP]; exact rfl) (by exact rfl))
 refine dA 1023 ?_ (x := px (qs := [nv _ (sl .v _)]) (by decide) iP (fun _ => rfl) (by exact nl rfl) (by exact (aq ao.nil)) (by exact (ab.cons (bor_nv (bor_sl _)) ab.nil)))
 refine dA 2047 ?_ (x := gY (r' := RV.sv false [nv _ (sl .v _)]) (.inr rfl) (by decide) (by exact Cp.sv (aq ao.nil) (ab.cons (bor_nv (bor_sl _)) ab.nil)))
 refine ba ?_
 refine sP [0, 1, 4, 5, 6, 7, 5000] [0, 6] ?_
 refine oK ?_
 refine dA 3 ?_ (x := lF kN)
 refine dA 7 ?_ (x := lD [val _] aw)
 refine dA 0 ?_ (x := gY (r' := RV.sv false [sl .v _]) (.inl rfl) (by decide) (by exact Cp.sv (ao.cons (PV.nv_to oC) ao.nil) (ab.cons (bor_sl _) ab.nil)))
 refine dA 16 ?_ (x := lN cX)
 refine dA 0 ?_ (x := bm (qs := []) (by decide) aW bX (by decide) rfl rfl rfl rfl rfl (by exact nl rfl) (by exact tI) rfl)
 refine dA 0 ?_ (x := vM false [sl .v _])
 refine dA 192 ?_ (x := iW (by decide) aW bX rfl rfl (by decide) (by first | (intro cs hcs; obtain ⟨x, _, rfl⟩ := List.mem_map.1 hcs; exact rfl) | simp) (by first | (intro cs hcs; obtain ⟨x, _, rfl⟩ := List.mem_map.1 hcs; exact (ab.cons (bor_val _) ab.nil)) | simp) (by simp only [am, aD, List.length_cons, List.length_nil]; omega) (by simp only [am, aD, List.length_cons, List.length_nil]; omega))
 refine dA 511 ?_ (x := dM (qs := [(false, [val _]), (false, [val _]), (false, [sl _ _])]) (cs := [val _, val _, sl _ _, sl _ _, sl _ _]) (by decide) jY qy XJ (by exact rfl) (by exact (aI (by exact tI) (aI (by exact tI) (aI (by exact tI) tI)))) rfl (by exact rfl))
 refine bv.step 0 (by exact tI) (by exact tI) (bK.of rfl (db (by decide) jY qy)) (pB (cJ.of_ rfl)) (by kernel_rfl) ?_
 refine dA 2047 ?_ (x := bf (ag := true) (vs := [val _, val _, sl _ _, sl _ _, sl _ _]) jj (by exact tI) (by exact rfl) (by exact nl rfl))
 refine dO ?_
 refine sO [(0, _), (1, _), (4, _), (5, _), (6, _), (7, _), (8, _), (5000, _)] [(0, _), (6, _), (8, (149, [val _, val _, sl _ _, sl _ _, sl _ _]))] ?_
 refine rq ?_
 refine sP [0, 1, 5, 6, 7, 8, 9, 5000] [0, 6, 8] ?_
 refine DN (s := 7) [val zP.2] (by exact rfl) (by exact (ao.cons PV.nv_val ao.nil)) (by exact (ab.cons (bor_val _) ab.nil)) ?_
 refine sP [0, 1, 5, 6, 7, 8, 9, 5000] [0, 6, 8] ?_
 refine sL [0, 1, 5, 6, 7, 8, 5000] [6] (fun k : Nat => k ≤ (parts e).length) (fun k : Nat => [(9, RV.int (k : Int))]) (fun k : Nat => [(0, (46, [sl bQ (zsS.map (jF (fun l : List aM => sl be (l.map (ff ae))))), val (vI e.Store.Now), val (vI e.ZJ), sl ae (e.Order.map an), sl dr ((ck e k).map (bq aP ae ae aR ae)), sl cQ (e.Done.map (bN aP ae aR ae)), sl cH (e.ZR.map (bF ae ae ae)), val (vI e.Steps)])), (8, (149, [val (vI (jt e k).Segment), val (vI (jt e k).Base), sl ae ((jt e k).Ids.map an), sl ae ((jt e k).ZL.map an), sl ae ((jt e k).Rows.map an)]))]) (fun k : Nat => (parts e).length - k) 0 (by omega) (by exact aI (by exact rfl) tI) (by exact aI (by rw [LP]; exact rfl) (aI (by rw [show (jt e 0).Base = ((zP.1.length : Nat) : Int) by rw [hzl]; rfl]; exact rfl) tI)) ?_
 rintro k hk
 have hcg := VK (e := e) hk
 have hsl := om (e := e) (k := k)
 refine kw ?_
 refine sc (fun hbb => ?_) (fun hbb => ?_)
 have hlt : k < (parts e).length := by omega
 obtain ⟨i, hi, hf, hid, hpp⟩ := LO hoe hlt
 have hf2 : dv (ck e k) (parts e)[k] = (i : Int) := (VD _).trans hf
 have hil : i < (ck e k).length := by omega
 have hoa := BW (hef.2.2.2.2.2.2.2.2.2.1 _ (List.getElem_mem hi))
 have hwa := fe (f := cS) hi
 have hwq : cS e.ZF[i] = eM e.ZF[i].ZG + e.ZF[i].ZO.length + gm e.ZF[i].Rows := by simp only [cS, dP, bh]; omega
 have hga4 := BX hoe e.ZF[i]
 have hqm := VF hoe hi hpp
 refine er ?_
 refine sQ [0, 1, 5, 6, 7, 8, 9, 5000] [0, 6, 8] ?_
 refine oK ?_
 refine dA 3 ?_ (x := lD [sl .v _, val _, val _, sl .v _, sl .v _, sl .v _, sl .v _, val _] co)
 refine gy ?_
 refine dA 24 ?_ (x := aU (by decide) aW (by exact tI) (by exact rfl) (by exact aV (by omega) rfl) (by exact rfl))
 refine dA 56 ?_ (x := lE [val _] aw)
 refine dA 127 ?_ (x := uL (qs := [(true, [sl _ _, val _, val _, sl _ _, sl _ _, sl _ _, sl _ _, val _]), (false, [val _])]) (as_ := [(true, [sl .v (e.Store.ZE.map (aO .v ae)), val _, val _, sl .v _, sl .v _, sl .v _, sl .v _, val _]), (false, [val _])]) (by decide) xf (by exact (aI (by exact tI) (aI (by exact tI) tI))) (by exact (aI (aI rfl (ao.cons (q := sl .v (e.Store.ZE.map (aO .v ae))) (Ps (g := aO .v ae) hzsS (fun x => aA ao.nil)) (aq (aq (aA (aA (aA (aA (aq ao.nil))))))))) (aI (aI rfl (aq ao.nil)) tI))) (by exact (xN (e := VL e k) (id := (parts e)[k]))))
 refine dA 255 ?_ (x := sA)
 refine ba ?_
 refine sP [0, 1, 5, 6, 7, 8, 9, 10, 5000] [0, 6, 8] ?_
 refine jC (d := 0) (t := 46) (D := 900) (G := 2900) (E := 102) (e := 10) (L := xT) (A := [sl _ _, val _, val _, sl _ _]) (B := [sl _ _, sl _ _, val _]) (es := ((ck e k)).map (bq aP ae ae aR ae)) (by exact rfl) (iq hil) (by exact rfl) (by exact rfl) rfl (by exact rfl) (fun x hx => hx.elim) (by exact lq) (by exact lq) (by exact lq) (by exact lq) (ar.map fun x => (ar.cons lcl_val (ar.cons lcl_val (ar.cons (lcl_own (ar.map fun x => (ar.cons lcl_val (ar.cons lcl_val (ar.cons lcl_val ar.nil))))) (ar.cons (lcl_own (ar.map fun x => (ar.cons lcl_val ar.nil))) (ar.cons lcl_val (ar.cons (lcl_own (ar.map fun x => (ar.cons lcl_val ar.nil))) (ar.cons lcl_val (ar.cons lcl_val (ar.cons lcl_val (ar.cons (lcl_own (ar.map fun x => (ar.cons lcl_val (ar.cons (lcl_own (ar.map fun x => (ar.cons lcl_val ar.nil))) ar.nil)))) ar.nil))))))))))) fun uu900 cp900 jk900 hlD900 hcp900 hjk900 => ?_
 rw [am] at hlD900 hcp900 hjk900
 refine cK (d := 900) (by exact rfl) (hI (k := i) hil) ?_
 have hA900 := hJ (f := (bq aP ae ae aR ae)) (e := 10) (xs := (ck e k)) (k := i) (fun _ => rfl) (Nat.le_of_lt hil)
 refine cK (d := 900) (by exact rfl) (congrArg (fun z_ => ((((ck e k)).take i).map (bq aP ae ae aR ae)).flatten ++ ((bq aP ae ae aR ae) z_ ++ (((((ck e k)).drop (i + 1)).map (bq aP ae ae aR ae)).flatten ++ jk900.map val))) (Vn hoe hlt hi hid hil)) ?_
 refine sO [(0, _), (1, _), (5, _), (6, _), (7, _), (8, _), (9, _), (10, _), (2900, _), (5000, _)] [(0, (46, [sl _ _, val _, val _, sl _ _, val _, sl _ _, sl _ _, val _])), (6, _), (8, _), (900, (102, _ ++ ([val _, val _, sl _ _, sl _ _, val _, sl _ _, val _, val _, val _, sl _ _] ++ _)))] ?_
 refine cv cd ?_
 refine Ie ?_
 refine dA 0 ?_ (x := cM Cp.ptr)
 refine dA 4 ?_ (x := hP (by decide))
 refine dA 12 ?_ (x := lF eQ)
 refine dA 28 ?_ (x := lD [val _] eG)
 refine dA 0 ?_ (x := sM)
 refine dA 124 ?_ (x := gj (k := i) (G := 2900) (by decide) ct (by exact tI) (by first | exact hf2 | omega) (by first | (rw [am]; exact hil) | exact hil))
 refine dA 252 ?_ (x := lF iN)
 refine dA 508 ?_ (x := lF tT)
 refine dA 1020 ?_ (x := pC (o := 1) (qs := [val _]) (by omega) (by decide) aw (fun _ => rfl) (by exact nl rfl) (by exact (aq ao.nil)) (by exact (ab.cons (bor_val _) ab.nil)))
 refine dA 2044 ?_ (x := bm (qs := [(false, [val _])]) (by decide) aW bX (by decide) rfl rfl rfl rfl rfl (by exact nl rfl) (by exact (aI (by exact tI) tI)) rfl)
 refine dA 4095 ?_ (x := dy (by decide) aW bX rfl rfl (by decide) rfl (by simp only [am, aD, List.length_cons, List.length_nil]; omega) (by simp only [am, aD, List.length_cons, List.length_nil]; omega))
 refine dA 8191 ?_ (x := lF oa)
 refine dA 16383 ?_ (x := bf (ag := false) (vs := [sl _ _]) bz (by exact tI) (by exact rfl) (by exact nl rfl))
 refine ba ?_
 refine sO [(0, _), (1, _), (5, _), (6, _), (7, _), (8, _), (9, _), (10, _), (2900, _), (5000, _)] [(0, _), (6, _), (8, (149, [val _, val _, sl _ _, sl _ _, sl _ _])), (900, _)] ?_
 refine bi ?_
 refine eD ?_
 refine ba ?_
 refine sP [0, 1, 5, 6, 7, 8, 9, 10, 11, 2900, 5000] [0, 6, 8, 900] ?_
 refine Pw (s := 7) (d := 0) (t := 114) (k := e.ZJ.toNat) (A := []) (B := [val _, val _, sl _ _, val _, sl _ _, sl _ _, val _]) (f := (fun l : List aM => sl be (l.map (ff ae)))) (q := (fun l : List aM => sl .v (l.map (ff ae)))) (by exact rfl) (by exact rfl) hzP oC (by exact bor_sl _) ?_
 refine sG [0, 1, 5, 6, 7, 8, 9, 10, 11, 2900, 5000] [0, 6, 8, 900] ?_
 refine de ?_
 refine sP [0, 1, 5, 6, 7, 8, 9, 10, 11, 12, 2900, 5000] [0, 6, 8, 900] ?_
 refine sL [0, 1, 5, 6, 7, 8, 9, 10, 2900, 5000] [0, 6, 8] (fun j : Nat => j ≤ (cG e).length) (fun j : Nat => [(11, RV.int ((js e e.ZF[i] j).length : Int)), (12, RV.int (j : Int))]) (fun j : Nat => [(900, (102, (((ck e k).take i).map (bq aP ae ae aR ae)).flatten ++ ([val (vI e.ZF[i].ZG.Id), val (vI e.ZF[i].ZG.ZK), sl aP (e.ZF[i].ZG.ZH.map dj), sl ae (e.ZF[i].ZG.Out.map an), val (vI e.ZF[i].Time), sl ae (e.ZF[i].ZO.map an), val (vI e.ZF[i].Age), val (vI e.ZF[i].Sent), val (vI e.ZF[i].Cap), sl aR ((e.ZF[i].Rows ++ js e e.ZF[i] j).map (dt ae))] ++ ((((ck e k).drop (i + 1)).map (bq aP ae ae aR ae)).flatten ++ jk900.map val))))]) (fun j : Nat => (cG e).length - j) 0 (by omega) (by exact aI (by exact rfl) (aI (by exact rfl) tI)) (by exact aI (by show _ = some (102, (((ck e k).take i).map (bq aP ae ae aR ae)).flatten ++ ([val (vI e.ZF[i].ZG.Id), val (vI e.ZF[i].ZG.ZK), sl aP (e.ZF[i].ZG.ZH.map dj), sl ae (e.ZF[i].ZG.Out.map an), val (vI e.ZF[i].Time), sl ae (e.ZF[i].ZO.map an), val (vI e.ZF[i].Age), val (vI e.ZF[i].Sent), val (vI e.ZF[i].Cap), sl aR ((e.ZF[i].Rows ++ js e e.ZF[i] 0).map (dt ae))] ++ ((((ck e k).drop (i + 1)).map (bq aP ae ae aR ae)).flatten ++ jk900.map val))); rw [show js e e.ZF[i] 0 = [] from rfl, eH]; exact rfl) tI) ?_
 rintro j hj
 have hgl := VH (e := e) (a := e.ZF[i]) (j := j)
 refine cI ?_
 refine rA ?_ (x := gY (r' := RV.sv false [sl .v _]) (.inl rfl) (by decide) (by exact Cp.sv (ao.cons (PV.nv_to oC) ao.nil) (ab.cons (bor_sl _) ab.nil)))
 refine pV ?_
 refine sc (fun hbc => ?_) (fun hbc => ?_)
 have hj2 : j < (cG e).length := by omega
 have hjz : j < zP.1.length := by omega
 have hz4 : ee zP.1[j] = ee (cG e)[j] := by simp [hzP2]
 have hz5 : fE zP.1[j] e.ZF[i].Time = fE (cG e)[j] e.ZF[i].Time := by simp [hzP2]
 have hro : bp (ee zP.1[j]) = true := by rw [hz4]; exact LZ hoe _ (List.getElem_mem hj2)
 have hrv := tQ hro
 have hrv : zP.1[j].Values.length = 3 := hrv
 have hph := Se (q := e.ZF[i].ZG) hql2 hro hef.2.1 hqm
 rw [hid, hz4] at hph
 have hwr : iZ (ee zP.1[j]) = 3 := by simp only [ee, iZ, dP, bh]; omega
 refine er ?_
 refine sO [(0, _), (1, _), (5, _), (6, _), (7, _), (8, _), (9, _), (10, _), (11, _), (12, _), (2900, _), (5000, _)] [(0, (46, [sl _ _, val _, val _, sl _ _, val _, sl _ _, sl _ _, val _])), (6, (260, [sl _ _, sl _ _])), (8, (149, [val _, val _, sl _ _, sl _ _, sl _ _])), (900, (102, _ ++ ([val _, val _, sl _ _, sl _ _, val _, sl _ _, val _, val _, val _, sl _ _] ++ _)))] ?_
 refine cv cd ?_
 refine Iz ?_
 refine dA 3 ?_ (x := aU (by decide) cX (by exact tI) (by exact rfl) (by exact aV (by omega) rfl) (by exact rfl))
 refine dA 7 ?_ (x := cB (by decide) rT (by exact nl rfl))
 refine dA 15 ?_ (x := lE [val _] aw)
 refine Iz ?_
 refine dA 96 ?_ (x := aU (by decide) cX (by exact tI) (by exact rfl) (by exact aV (by omega) rfl) (by exact rfl))
 refine dA 224 ?_ (x := cB (by decide) mL (by exact nl rfl))
 refine dA 480 ?_ (x := lE [sl .v _] bz)
 refine dA 1023 ?_ (x := dM (qs := [(false, [val _]), (false, [sl _ _])]) (cs := [val _, sl _ _]) (by decide) iC mG XK (by exact rfl) (by exact (aI (by exact tI) (aI (by exact tI) tI))) rfl (by exact rfl))
 refine bv.step 0 (by exact tI) (by exact tI) (bK.of rfl (db (by decide) iC mG)) (pB (cJ.of_ rfl)) (by kernel_rfl) ?_
 refine dA 4095 ?_ (x := bf (ag := true) (vs := [val _, sl _ _]) gB (by exact tI) (by exact rfl) (by exact nl rfl))
 refine ba ?_
 refine sO [(0, _), (1, _), (5, _), (6, _), (7, _), (8, _), (9, _), (10, _), (11, _), (12, _), (13, _), (2900, _), (5000, _)] [(0, _), (6, _), (8, _), (13, (27, [val _, sl _ _])), (900, _)] ?_
 refine sB (c := 6) (AI := []) cd rfl rfl rfl rfl (by kernel_rfl) (fun j L h => nomatch h) (fun j L h => nomatch h) ?_
 refine dX 0 ?_ (x := (gH (qs := [sl .v _, sl .v _]) (by decide) rV (fun h => nomatch h) (by exact nl rfl) (by exact (aA (aA ao.nil))) (by exact (ab.cons (bor_sl _) (ab.cons (bor_sl _) ab.nil)))))
 refine dX 0 ?_ (x := (gH (qs := [val _, sl .v _]) (by decide) gB (fun h => nomatch h) (by exact nl rfl) (by exact (aq (aA ao.nil))) (by exact (ab.cons (bor_val _) (ab.cons (bor_sl _) ab.nil)))))
 refine dX 0 ?_ (x := (gY (.inl rfl) (by decide) (by exact Cp.ptr)))
 refine dX 4 ?_ (x := (hP (by decide)))
 refine dX 12 ?_ (x := (uG (by decide) uj))
 refine dX 28 ?_ (x := (gH (qs := [sl .v _]) (by decide) bz (fun _ => rfl) (by exact nl rfl) (by exact (aA ao.nil)) (by exact (ab.cons (bor_sl _) ab.nil))))
 refine oB (G := 2000) (qs := [(true, [sl _ _, sl _ _]), (true, [val _, sl _ _]), (false, [sl _ _])]) (as_ := [(true, [sl .v _, sl .v _]), (true, [val _, sl .v _]), (false, [sl .v _])]) (by decide) Ti (by exact ⟨rfl, rfl, rfl, ⟨⟩⟩) (by exact (aI (by exact tI) (aI (by exact tI) (aI (by exact tI) tI)))) (by exact (aI (aI rfl (aA (aA ao.nil))) (aI (aI rfl (aq (aA ao.nil))) (aI (aI rfl (aA ao.nil)) tI)))) (by exact (UC (x := lV (nR e.ZF (parts e))) (r := ee zP.1[j]) (o := e.Order) hxo hro hef.2.1)) (by kernel_rfl) (by kernel_rfl) fun uss hU0 => ?_
 obtain ⟨us0, r0, rfl, hl0, hR0, hU1⟩ := dY.cons hU0
 obtain ⟨u4_0_0, rfl⟩ := nG hl0
 obtain ⟨us1, r1, rfl, hl1, hR1, hU2⟩ := dY.cons hU1
 obtain ⟨u4_1_0, rfl⟩ := nG hl1
 obtain rfl := eZ hR1 (j := 0) rfl rfl
 obtain rfl := dY.nil hU2
 clear hR0 hU0 hR1 hU1 hU2
 refine bv.stepC 127 (by exact ⟨rfl, ⟨⟩⟩) (by exact tI) (bK.of rfl (pv (.inl rfl) (by decide))) eo (by kernel_rfl) (by intro L' h; exact nomatch (show (none : Option ax) = some L' from h)) ?_
 refine bv.stepC 255 (by exact ⟨rfl, ⟨⟩⟩) (by exact tI) (bK.of rfl (jB (cs := [val _]) (by decide) (by exact rfl) (by exact (ab.cons (bor_val _) ab.nil)))) eo (by kernel_rfl) (by intro L' h; exact nomatch (show (none : Option ax) = some L' from h)) ?_
 refine bv.stepC 255 (by exact ⟨rfl, ⟨⟩⟩) (by exact tI) (bK.of rfl (jB (cs := [val _]) (by decide) (by exact rfl) (by exact (ab.cons (bor_val _) ab.nil)))) eo (by kernel_rfl) (by intro L' h; exact nomatch (show (none : Option ax) = some L' from h)) ?_
 refine bv.stepC 511 (by exact ⟨rfl, ⟨⟩⟩) (by exact tI) (bK.of rfl (gY (.inr rfl) (by decide) (by exact Cp.sc))) eo (by kernel_rfl) (by intro L' h; exact nomatch (show (none : Option ax) = some L' from h)) ?_
 refine bv.stepC 2047 (by exact ⟨rfl, ⟨⟩⟩) (by exact tI) (bK.of rfl (gY (.inr rfl) (by decide) (by exact Cp.sc))) eo (by kernel_rfl) (by intro L' h; exact nomatch (show (none : Option ax) = some L' from h)) ?_
 refine yl (s := 14) (G := 2000) (by exact rfl) (by exact (Nm.val Nm.nil)) rfl (by decide) (by exact rfl) ?_
 refine yl (s := 15) (G := 2001) (by exact rfl) (by exact (Nm.val Nm.nil)) rfl (by decide) (by exact rfl) ?_
 refine JB ?_
 refine cv cd ?_
 refine dA 0 ?_ (x := vM false [sl .v _])
 refine gy ?_
 refine dA 6 ?_ (x := aU (by decide) aW (by exact tI) (by exact rfl) (by exact aV (by omega) rfl) (by exact rfl))
 refine dA 14 ?_ (x := lE [val _] aw)
 refine dA 31 ?_ (x := cL [(false, [sl _ _]), (false, [val _])] [(false, [sl .v _]), (false, [val _])] wL (hs := by exact xq))
 refine dA 63 ?_ (x := sM)
 refine dx 125 (fun ga sga => ?_) (fun ga sga => ?_)
 have hmm : lj e.ZF[i].ZG (ee (cG e)[j]) = true := by rw [← hph, ← hz4]; simpa using ga
 have sga := ga
 try simp only [qq] at sga
 refine dB 127 ga ?_ (x := gY (r' := RV.sv false [sl .v _]) (.inl rfl) (by decide) (by exact Cp.sv (ao.cons (PV.nv_to oC) ao.nil) (ab.cons (bor_sl _) ab.nil)))
 refine dB 127 ga ?_ (x := sM)
 refine dB 511 ga ?_ (x := aU (by decide) cX (by exact tI) (by exact rfl) (by exact aV (by omega) rfl) (by exact rfl))
 refine dB 1023 ga ?_ (x := lE [val _, sl .v _, val _, val _] fC)
 refine dB 127 ga ?_ (x := cM Cp.ptr)
 refine dB 2175 ga ?_ (x := hP (by decide))
 refine dB 6271 ga ?_ (x := lF eQ)
 refine dB 14463 ga ?_ (x := lD [val _] eG)
 refine dB 127 ga ?_ (x := sM)
 refine dB 63615 ga ?_ (x := gj (k := i) (G := 2900) (by decide) ct (by exact tI) (by first | exact hf2 | omega) (by first | (rw [am]; exact hil) | exact hil))
 refine dB 129151 ga ?_ (x := lF qv)
 refine dB 260223 ga ?_ (x := pC (o := 4) (qs := [val _]) (by omega) (by decide) aw (fun _ => rfl) (by exact nl rfl) (by exact (aq ao.nil)) (by exact (ab.cons (bor_val _) ab.nil)))
 refine dB 524287 ga ?_ (x := cL [(true, [val _, sl _ _, val _, val _]), (false, [val _])] [(true, [val _, sl .v _, val _, val _]), (false, [val _])] Ld (hs := by exact LC))
 refine dA 1048575 ?_ (x := aK ga)
 refine sc (fun hbd => ?_) (fun hbd => ?_)
 have hvv : fE (cG e)[j] e.ZF[i].Time = true := by rw [← hz5]; simpa using hbd
 refine JB ?_
 refine oK ?_
 refine Ac ?_
 refine dA 0 ?_ (x := sM)
 refine pP ?_
 refine zW ?_
 refine zE ?_
 refine dA 2016 ?_ (x := lF nY)
 refine dA 4064 ?_ (x := yu (o := 9) (ms := [sl _ _]) (qs := [sl .v _]) (by omega) (by decide) gV (fun _ => rfl) (by exact nl rfl) (by exact rfl) (by exact (aA ao.nil)) (by exact (ab.cons (bor_sl _) ab.nil)))
 refine dA 0 ?_ (x := lD [val _, sl .v _] gB)
 refine dA 8192 ?_ (x := cL [(true, [val _, sl _ _])] [(true, [val _, sl .v _])] JR (hs := by exact (Ly (x := ee zP.1[j]) (by omega))))
 refine dA 24576 ?_ (x := bm (qs := [(true, [val _, sl _ _])]) (by decide) fQ iC (by decide) rfl rfl rfl rfl rfl (by exact nl rfl) (by exact (aI (by exact tI) tI)) rfl)
 refine dA 65504 ?_ (x := dy (by decide) fQ iC rfl rfl (by decide) rfl (by simp only [am, aD, List.length_cons, List.length_nil]; omega) (by simp only [am, aD, List.length_cons, List.length_nil]; omega))
 refine dA 131071 ?_ (x := gj (k := i) (G := 2900) (by decide) ct (by exact tI) (by first | exact hf2 | omega) (by first | (rw [am]; exact hil) | exact hil))
 refine dA 262143 ?_ (x := lF nY)
 refine dA 524287 ?_ (x := kX (o := 9) (ag := false) (vs := [sl _ _]) (by omega) gV (by exact tI) (by exact rfl) (by exact nl rfl))
 refine sO [(0, _), (1, _), (5, _), (6, _), (7, _), (8, _), (9, _), (10, _), (11, _), (12, _), (13, _), (14, _), (15, _), (2900, _), (5000, _)] [(0, _), (6, _), (8, _), (13, _), (900, (102, _ ++ ([val _, val _, sl _ _, sl _ _, val _, sl _ _, val _, val _, val _, sl _ _] ++ _)))] ?_
 refine rp ?_
 exact ze
 have hvv : fE (cG e)[j] e.ZF[i].Time = false := by rw [← hz5]; simpa using hbd
 refine bc ?_
 exact ze
 have hmm : lj e.ZF[i].ZG (ee (cG e)[j]) = false := by rw [← hph, ← hz4]; simpa using ga
 have sga := ga
 try simp only [qq] at sga
 refine dF 127 ga ?_
 refine dF 127 ga ?_
 refine dF 511 ga ?_
 refine dF 1023 ga ?_
 refine dF 127 ga ?_
 refine dF 2175 ga ?_
 refine dF 6271 ga ?_
 refine dF 14463 ga ?_
 refine dF 127 ga ?_
 refine dF 63615 ga ?_
 refine dF 129151 ga ?_
 refine dF 260223 ga ?_
 refine dF 524287 ga ?_
 refine dA 1048575 ?_ (x := aH ga)
 refine eJ ?_
 refine bc ?_
 exact ze
 have hjend : j = (cG e).length := by omega
 have hgt : js e e.ZF[i] j = jn e e.ZF[i] := by rw [hjend]; exact VG
 rw [hgt]
 refine gM ?_
 refine sO [(0, _), (1, _), (5, _), (6, _), (7, _), (8, _), (9, _), (10, _), (11, _), (12, _), (2900, _), (5000, _)] [(0, (46, [sl _ _, val _, val _, sl _ _, val _, sl _ _, sl _ _, val _])), (6, (260, [sl _ _, sl _ _])), (8, (149, [val _, val _, sl _ _, sl _ _, sl _ _])), (900, (102, _ ++ ([val _, val _, sl _ _, sl _ _, val _, sl _ _, val _, val _, val _, sl _ _] ++ _)))] ?_
 refine bi ?_
 refine rA ?_ (x := lF iO)
 refine sX ?_
 refine qT ?_
 refine rA ?_ (x := lF iO)
 refine zQ ?_
 refine sO [(0, _), (1, _), (5, _), (6, _), (7, _), (8, _), (9, _), (10, _), (11, _), (12, _), (2900, _), (5000, _)] [(0, _), (6, _), (8, (149, [val _, val _, sl _ _, sl _ _, sl _ _])), (900, _)] ?_
 refine oK ?_
 refine Ac ?_
 refine dA 0 ?_ (x := sM)
 refine pP ?_
 refine zW ?_
 refine zE ?_
 refine dA 2016 ?_ (x := lF qw)
 refine dA 4064 ?_ (x := pC (o := 7) (qs := [val _]) (by omega) (by decide) aw (fun _ => rfl) (by exact nl rfl) (by exact (aq ao.nil)) (by exact (ab.cons (bor_val _) ab.nil)))
 refine dA 0 ?_ (x := sM)
 refine dA 16352 ?_ (x := iX)
 refine dA 32767 ?_ (x := gj (k := i) (G := 2900) (by decide) ct (by exact tI) (by first | exact hf2 | omega) (by first | (rw [am]; exact hil) | exact hil))
 refine dA 65535 ?_ (x := lF qw)
 refine dA 131071 ?_ (x := kX (o := 7) (ag := false) (vs := [val _]) (by omega) aw (by exact tI) (by exact rfl) (by exact nl rfl))
 refine sO [(0, _), (1, _), (5, _), (6, _), (7, _), (8, _), (9, _), (10, _), (11, _), (12, _), (2900, _), (5000, _)] [(0, _), (6, _), (8, _), (900, (102, _ ++ ([val _, val _, sl _ _, sl _ _, val _, sl _ _, val _, val _, val _, sl _ _] ++ _)))] ?_
 refine oK ?_
 refine Ac ?_
 refine dA 0 ?_ (x := sM)
 refine pP ?_
 refine zW ?_
 refine zE ?_
 refine dA 2016 ?_ (x := lF ls)
 refine dA 4064 ?_ (x := pC (o := 5) (qs := [sl .v _]) (by omega) (by decide) bz (fun _ => rfl) (by exact nl rfl) (by exact (aA ao.nil)) (by exact (ab.cons (bor_sl _) ab.nil)))
 refine dA 0 ?_ (x := cM Cp.ptr)
 refine dA 8192 ?_ (x := hP (by decide))
 refine dA 24576 ?_ (x := lF kN)
 refine dA 57344 ?_ (x := lD [val _] aw)
 refine dA 131040 ?_ (x := cL [(false, [sl _ _]), (false, [val _])] [(false, [sl .v _]), (false, [val _])] Tj (hs := by exact (XI (by omega))))
 refine dA 262143 ?_ (x := gj (k := i) (G := 2900) (by decide) ct (by exact tI) (by first | exact hf2 | omega) (by first | (rw [am]; exact hil) | exact hil))
 refine dA 524287 ?_ (x := lF ls)
 refine dA 1048575 ?_ (x := kX (o := 5) (ag := false) (vs := [sl _ _]) (by omega) bz (by exact tI) (by exact rfl) (by exact nl rfl))
 refine cK (d := 900) (by exact rfl) (kq (mc e e.ZF[i]) hil (by exact rfl)) ?_
 refine lI (d := 0) (D := 900) (G := 2900) (e := 10) (A := [sl _ _, val _, val _, sl _ _]) (B := [sl _ _, sl _ _, val _]) (es := (((ck e k)).set i (mc e e.ZF[i])).map (bq aP ae ae aR ae)) (by exact rfl) (by exact rfl) (by exact rfl) rfl (by rw [am, List.length_set, am]) (by intro c hc; obtain ⟨y, _, rfl⟩ := List.mem_map.1 hc; exact rfl) (by rw [am]; exact hjk900) ?_
 refine sO [(0, _), (1, _), (5, _), (6, _), (7, _), (8, _), (9, _), (10, _), (11, _), (12, _), (5000, _)] [(0, (46, [sl _ _, val _, val _, sl _ _, sl _ _, sl _ _, sl _ _, val _])), (6, _), (8, _)] ?_
 refine DN (s := 7) [val zP.2] (by exact rfl) (by exact (ao.cons PV.nv_val ao.nil)) (by exact (ab.cons (bor_val _) ab.nil)) ?_
 refine sG [0, 1, 5, 6, 7, 8, 9, 10, 11, 12, 5000] [0, 6, 8] ?_
 refine ca ?_
 refine nx (k + 1) (by omega) (f := (by exact aI (by rw [← Vo hoe hlt hi hid]; exact rfl) (aI (by rw [VI hlt hi hf]; simp only [bb]; exact rfl) tI)))
 have hend : k = (parts e).length := by omega
 subst hend
 rw [VJ]
 have hcg2 := BQ (e := e) (Nat.le_refl _)
 refine bE ?_
 refine sQ [0, 1, 5, 6, 7, 8, 9, 5000] [0, 6, 8] ?_
 refine Pv (d := 0) (t := 114) (A := []) (B := [val _, val _, sl _ _, sl _ _, sl _ _, sl _ _, val _]) (f := (fun l : List aM => sl be (l.map (ff ae)))) hzsS (by exact rfl) ?_
 refine sO [(0, _), (1, _), (5, _), (6, _), (7, _), (8, _), (9, _), (5000, _)] [(0, (46, [sl _ _, val _, val _, sl _ _, sl _ _, sl _ _, sl _ _, val _])), (6, _), (8, _)] ?_
 refine Az ?_
 refine tj ?_
 refine dA 6 ?_ (x := lF ob)
 refine dA 14 ?_ (x := dH (ms := [sl _ _]) (qs := [sl .v _]) (by decide) oe (fun _ => rfl) (by exact nl rfl) (by exact rfl) (by exact (aA ao.nil)) (by exact (ab.cons (bor_sl _) ab.nil)))
 refine dA 0 ?_ (x := dH (ms := [val _, val _, sl _ _, sl _ _, sl _ _]) (qs := [val _, val _, any, any, any]) (by decide) jj (fun h => nomatch h) (by exact nl rfl) (by exact rfl) (by exact (aq (aq (ao.cons PV.to_any (ao.cons PV.to_any (ao.cons PV.to_any ao.nil)))))) (by exact lq))
 refine dA 32 ?_ (x := bm (qs := [(true, [val _, val _, sl _ _, sl _ _, sl _ _])]) (by decide) ij jY (by decide) rfl rfl rfl rfl rfl (by exact nl rfl) (by exact (aI (by exact tI) tI)) rfl)
 refine dA 126 ?_ (x := dy (by decide) ij jY rfl rfl (by decide) rfl (by simp only [am, aD, List.length_cons, List.length_nil]; omega) (by simp only [am, aD, List.length_cons, List.length_nil]; omega))
 refine dA 255 ?_ (x := hP (by decide))
 refine dA 511 ?_ (x := lF ob)
 refine dA 1023 ?_ (x := bf (ag := false) (vs := [sl _ _]) oe (by exact tI) (by exact rfl) (by exact nl rfl))
 exact ⟨(by simp only [bb]; exact rfl), rfl, tI⟩
end Go.Proofs.YtmekkgdboplbjaaGreatDoor
