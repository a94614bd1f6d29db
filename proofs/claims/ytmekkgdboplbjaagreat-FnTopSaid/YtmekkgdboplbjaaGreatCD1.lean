/- What functions of the program compute. No condition. -/
import Derived.Test.YtmekkgdboplbjaaGreatCW0
import Derived.Test.YtmekkgdboplbjaaGreatCX0
set_option linter.all false
namespace Go.Proofs.YtmekkgdboplbjaaGreat
open Go Go.RowKit M PV
set_option maxRecDepth 10000
attribute [local irreducible] PV.Lcl PV.LclR RV.Lcl
set_option maxHeartbeats 8000000
def adH : dY Tryz.prog 54 = some [(0, 1), (1, 1)] := by kernel_rfl
def adI : dY Tryz.prog 70 = some [(0, 1), (1, 1), (2, 1), (3, 1), (4, 1)] := by kernel_rfl
def adJ {e : aA} {ids : List Int}  (hids : ids = parts e) (hoe : aX e = true) (hb : bp e ≤ 68719000000) : iO Tryz.prog 233 32 [sl bz (e.Store.aey.map (aG aV ab)), val (vI e.Store.Now), val (vI e.aeD), sl ab (e.Order.map am), sl ce (e.aez.map (aT aD ab ab aE ab)), sl bT (e.Done.map (bn aD ab aE ab)), sl bY (e.aeL.map (bl ab ab ab)), val (vI e.Steps)] [sl bz (e.Store.aey.map (aG aV ab)), val (vI e.Store.Now), val (vI e.aeD), sl ab (e.Order.map am), sl ce ((bW e (parts e).length).map (aT aD ab ab aE ab)), sl bT (e.Done.map (bn aD ab aE ab)), sl bY ((e.aeL ++ [ej e (parts e).length]).map (bl ab ab ab)), val (vI e.Steps)] [(false, [sl ab (ids.map am)])] (aJ []) := by
 refine kC (rs := []) Tryz.func233 rfl (nl rfl) (nl rfl) ?_
 intro g_ h0 w0 Fz0
 refine sj 1 fun hl1 => ?_
 subst hids
 have hef := gW hoe
 have hcl : e.aeD.toNat < e.Store.aey.length := hef.2.2.2.1
 have hpl := wD (e := e)
 have hs4 := Ap hoe
 have hql2 := aaj hoe
 have hxo := WX hql2
 have hbu := hb
 simp only [bp, fB, fC, fV] at hbu
 refine sR ?_
 refine Pa ?_
 refine sT [0, 1, 4, 5000] [0] ?_
 refine ca ?_
 refine sP [0, 1, 4, 5, 5000] [0] ?_
 refine sL [0, 1, 5000] [0] (fun k : Nat => k ≤ (parts e).length) (fun k : Nat => [(4, RV.slc qi ((oO e.aez ((parts e).take k)).map (ln .v .v))), (5, RV.int (k : Int))]) (fun k : Nat => []) (fun k : Nat => (parts e).length - k) 0 (by omega) (by exact aI (by exact rfl) (aI (by exact rfl) tI)) (by exact tI) ?_
 rintro k hk
 refine jR ?_
 refine sc ?_ ?_ <;> intro hba
 have hlt : k < (parts e).length := by omega
 have hpk : (parts e)[k] ∈ gM e e.aez := by rw [← pU hoe]; exact List.getElem_mem hlt
 have hfp := Xo hpk
 have hql : (oO e.aez ((parts e).take k)).length = k := by unfold oO; rw [aw, bv]; omega
 refine bi ?_
 refine sQ [0, 1, 4, 5, 5000] [0] ?_
 refine ta ?_
 refine vw ?_
 refine dA 6 ?_ (x := lF ee)
 refine dA 14 ?_ (x := lD [sl .v _] dR)
 refine qD ?_
 refine dA 96 ?_ (x := lD [sl .v _, val _, val _, sl .v _, sl .v _, sl .v _, sl .v _, val _] bU)
 refine eY ?_
 refine dA 768 ?_ (x := aU (by decide) bC (by exact tI) (by exact rfl) (by exact aW (by omega) rfl) (by exact rfl))
 refine dA 1792 ?_ (x := lE [val _] az)
 refine dA 4064 ?_ (x := cL [(true, [sl _ _, val _, val _, sl _ _, sl _ _, sl _ _, sl _ _, val _]), (false, [val _])] [(true, [sl .v _, val _, val _, sl .v _, sl .v _, sl .v _, sl .v _, val _]), (false, [val _])] Ad (hs := by exact AS))
 refine dA 8190 ?_ (x := aU (k := (dy e.aez (parts e)[k]).toNat) (by decide) cg (by exact tI) (by omega) (by exact aW hfp.2 (by rw [df (d := ii) hfp.2])) (by exact rfl))
 refine dA 16382 ?_ (x := cd (by decide) gV (by exact nl rfl))
 refine dA 32766 ?_ (x := lE [val _, val _, sl .v _, sl .v _] eQ)
 refine dA 65534 ?_ (x := bP (qs := [(true, [val _, val _, sl _ _, sl _ _])]) (by decide) mP kJ (by decide) rfl rfl rfl rfl rfl (by exact nl rfl) (by exact (aI (by exact tI) tI)) rfl)
 refine dA 131071 ?_ (x := en (by decide) mP kJ rfl rfl (by decide) rfl (by simp only [aw, aM, List.length_cons, List.length_nil]; omega) (by simp only [aw, aM, List.length_cons, List.length_nil]; omega))
 refine dA 262143 ?_ (x := tA)
 refine sG [0, 1, 4, 5, 5000] [0] ?_
 refine cb ?_
 refine nx (k + 1) (by omega) (e := (by exact aI (by exact bG (by unfold oO; rw [zA hlt, bj]; rfl)) (aI (by exact rfl) tI)))
 have hend : k = (parts e).length := by omega
 rw [hend, cj]
 refine bq ?_
 refine sT [0, 1, 4, 5, 5000] [0] ?_
 refine rA ?_ (x := vM false [sl .v _])
 refine rA ?_ (x := cL [(false, [sl _ _])] [(false, [sl .v _])] Yp (hs := by exact acL))
 refine Oy ?_
 refine be ?_
 refine sO [(0, _), (1, _), (4, _), (5, _), (6, _), (5000, _)] [(0, _), (6, (124, [sl _ _, sl _ _]))] ?_
 refine VN (d := 0) (t := 139) (A := []) (B := [val _, val _, sl _ _, sl _ _, sl _ _, sl _ _, val _]) (f := (fun l : List aR => sl aV (l.map (eN ab)))) (xs := e.Store.aey) (by exact rfl) fun zsS hzsS => ?_
 obtain ⟨zP, hzP, hzP1⟩ := VM hzsS hcl
 have hzP2 : zP.1 = cc e := hzP1.trans (Fy hcl)
 have hzl : zP.1.length = (cc e).length := by rw [hzP2]
 refine sO [(0, _), (1, _), (4, _), (5, _), (6, _), (5000, _)] [(0, (32, [sl _ _, val _, val _, sl _ _, sl _ _, sl _ _, sl _ _, val _])), (6, _)] ?_
 refine pD ?_
 refine dA 3 ?_ (x := lF gG)
 refine dA 7 ?_ (x := lF jX)
 refine dA 15 ?_ (x := lD [sl .v _] kc)
 refine qD ?_
 refine dA 96 ?_ (x := lF mJ)
 refine dA 224 ?_ (x := lD [val _] az)
 refine dA 511 ?_ (x := aU (k := e.aeD.toNat) (by decide) eP (by exact tI) (by omega) (by rw [List.getElem?_map, hzP]; exact rfl) (by exact rfl))
 refine dA 1023 ?_ (x := nS (qs := [nv _ (sl .v _)]) (by decide) ie (fun _ => rfl) (by exact nl rfl) (by exact (ak ao.nil)) (by exact (aj.cons (bor_nv (bor_sl _)) aj.nil)))
 refine dA 2047 ?_ (x := iL (r' := RV.sv false [nv _ (sl .v _)]) (.inr rfl) (by decide) (by exact Cp.sv (ak ao.nil) (aj.cons (bor_nv (bor_sl _)) aj.nil)))
 refine be ?_
 refine sP [0, 1, 4, 5, 6, 7, 5000] [0, 6] ?_
 refine pD ?_
 refine dA 3 ?_ (x := lF mJ)
 refine dA 7 ?_ (x := lD [val _] az)
 refine dA 0 ?_ (x := iL (r' := RV.sv false [sl .v _]) (.inl rfl) (by decide) (by exact Cp.sv (ao.cons (PV.nv_to nh) ao.nil) (aj.cons (bor_sl _) aj.nil)))
 refine dA 16 ?_ (x := lN cy)
 refine dA 0 ?_ (x := bP (qs := []) (by decide) bC eg (by decide) rfl rfl rfl rfl rfl (by exact nl rfl) (by exact tI) rfl)
 refine dA 0 ?_ (x := vM false [sl .v _])
 refine dA 192 ?_ (x := it (by decide) bC eg rfl rfl (by decide) (by first | (intro cs hcs; obtain ⟨x, _, rfl⟩ := List.mem_map.1 hcs; exact rfl) | simp) (by first | (intro cs hcs; obtain ⟨x, _, rfl⟩ := List.mem_map.1 hcs; exact (aj.cons (bor_val _) aj.nil)) | simp) (by simp only [aw, aM, List.length_cons, List.length_nil]; omega) (by simp only [aw, aM, List.length_cons, List.length_nil]; omega))
 refine dA 511 ?_ (x := dp (qs := [(false, [val _]), (false, [val _]), (false, [sl _ _])]) (cs := [val _, val _, sl _ _, sl _ _, sl _ _]) (by decide) kf rr adI (by exact rfl) (by exact (aI (by exact tI) (aI (by exact tI) (aI (by exact tI) tI)))) rfl (by exact rfl))
 refine bJ.step 0 (by exact tI) (by exact tI) (bX.of rfl (cr (by decide) kf rr)) (nV (cu.of_ rfl)) (by kernel_rfl) ?_
 refine dA 2047 ?_ (x := bh (ag := true) (vs := [val _, val _, sl _ _, sl _ _, sl _ _]) iX (by exact tI) (by exact rfl) (by exact nl rfl))
 refine dJ ?_
 refine sO [(0, _), (1, _), (4, _), (5, _), (6, _), (7, _), (8, _), (5000, _)] [(0, _), (6, _), (8, (70, [val _, val _, sl _ _, sl _ _, sl _ _]))] ?_
 refine bd ?_
 refine ca ?_
 refine sP [0, 1, 5, 6, 7, 8, 9, 5000] [0, 6, 8] ?_
 refine BB (s := 7) [val zP.2] (by exact rfl) (by exact (ao.cons PV.nv_val ao.nil)) (by exact (aj.cons (bor_val _) aj.nil)) ?_
 refine sP [0, 1, 5, 6, 7, 8, 9, 5000] [0, 6, 8] ?_
 refine sL [0, 1, 5, 6, 7, 8, 5000] [6] (fun k : Nat => k ≤ (parts e).length) (fun k : Nat => [(9, RV.int (k : Int))]) (fun k : Nat => [(0, (32, [sl bz (zsS.map (kD (fun l : List aR => sl aV (l.map (eN ab))))), val (vI e.Store.Now), val (vI e.aeD), sl ab (e.Order.map am), sl ce ((bW e k).map (aT aD ab ab aE ab)), sl bT (e.Done.map (bn aD ab aE ab)), sl bY (e.aeL.map (bl ab ab ab)), val (vI e.Steps)])), (8, (70, [val (vI (kq e k).Segment), val (vI (kq e k).Base), sl ab ((kq e k).Ids.map am), sl ab ((kq e k).aeF.map am), sl ab ((kq e k).Rows.map am)]))]) (fun k : Nat => (parts e).length - k) 0 (by omega) (by exact aI (by exact rfl) tI) (by exact aI (by rw [Fu]; exact rfl) (aI (by rw [show (kq e 0).Base = ((zP.1.length : Nat) : Int) by rw [hzl]; rfl]; exact rfl) tI)) ?_
 rintro k hk
 have hcg := aap (e := e) hk
 have hsl := kU (e := e) (k := k)
 refine jR ?_
 refine sc ?_ ?_ <;> intro hbb
 have hlt : k < (parts e).length := by omega
 obtain ⟨i, hi, hf, hid, hpp⟩ := Ft hoe hlt
 have hf2 : dy (bW e k) (parts e)[k] = (i : Int) := (aah _).trans hf
 have hil : i < (bW e k).length := by omega
 have hoa := At (hef.2.2.2.2.2.2.2.2.2.1 _ (List.getElem_mem hi))
 have hwa := di (f := dc) hi
 have hwq : dc e.aez[i] = eZ e.aez[i].aeA + e.aez[i].aeI.length + dj e.aez[i].Rows := by simp only [dc, dE, bf]; omega
 have hga4 := Av hoe e.aez[i]
 have hqm := aak hoe hi hpp
 refine dh ?_
 refine sQ [0, 1, 5, 6, 7, 8, 9, 5000] [0, 6, 8] ?_
 refine pD ?_
 refine dA 3 ?_ (x := lD [sl .v _, val _, val _, sl .v _, sl .v _, sl .v _, sl .v _, val _] bU)
 refine eY ?_
 refine dA 24 ?_ (x := aU (by decide) bC (by exact tI) (by exact rfl) (by exact aW (by omega) rfl) (by exact rfl))
 refine dA 56 ?_ (x := lE [val _] az)
 refine dA 127 ?_ (x := uB (qs := [(true, [sl _ _, val _, val _, sl _ _, sl _ _, sl _ _, sl _ _, val _]), (false, [val _])]) (as_ := [(true, [sl .v (e.Store.aey.map (aG .v ab)), val _, val _, sl .v _, sl .v _, sl .v _, sl .v _, val _]), (false, [val _])]) (by decide) Ad (by exact (aI (by exact tI) (aI (by exact tI) tI))) (by exact (aI (aI rfl (ao.cons (q := sl .v (e.Store.aey.map (aG .v ab))) (VL (g := aG .v ab) hzsS (fun x => aB ao.nil)) (ak (ak (aB (aB (aB (aB (ak ao.nil))))))))) (aI (aI rfl (ak ao.nil)) tI))) (by exact (AS (e := aaq e k) (id := (parts e)[k]))))
 refine dA 255 ?_ (x := sA)
 refine be ?_
 refine sP [0, 1, 5, 6, 7, 8, 9, 10, 5000] [0, 6, 8] ?_
 refine jL (d := 0) (t := 32) (D := 900) (G := 2900) (E := 108) (e := 10) (L := AU) (A := [sl _ _, val _, val _, sl _ _]) (B := [sl _ _, sl _ _, val _]) (es := ((bW e k)).map (aT aD ab ab aE ab)) (by exact rfl) (iN hil) (by exact rfl) (by exact rfl) rfl (by exact rfl) (fun x hx => hx.elim) (by exact lq) (by exact lq) (by exact lq) (by exact lq) (ar.map fun x => (ar.cons lcl_val (ar.cons lcl_val (ar.cons (lcl_own (ar.map fun x => (ar.cons lcl_val (ar.cons lcl_val (ar.cons lcl_val ar.nil))))) (ar.cons (lcl_own (ar.map fun x => (ar.cons lcl_val ar.nil))) (ar.cons lcl_val (ar.cons (lcl_own (ar.map fun x => (ar.cons lcl_val ar.nil))) (ar.cons lcl_val (ar.cons lcl_val (ar.cons lcl_val (ar.cons (lcl_own (ar.map fun x => (ar.cons lcl_val (ar.cons (lcl_own (ar.map fun x => (ar.cons lcl_val ar.nil))) ar.nil)))) ar.nil))))))))))) fun uu900 cp900 jk900 hlD900 hcp900 hjk900 => ?_
 rw [aw] at hlD900 hcp900 hjk900
 refine cV (d := 900) (by exact rfl) (iM (k := i) hil) ?_
 have hA900 := jl (f := (aT aD ab ab aE ab)) (e := 10) (xs := (bW e k)) (k := i) (fun _ => rfl) (Nat.le_of_lt hil)
 refine cV (d := 900) (by exact rfl) (congrArg (fun z_ => ((((bW e k)).take i).map (aT aD ab ab aE ab)).flatten ++ ((aT aD ab ab aE ab) z_ ++ (((((bW e k)).drop (i + 1)).map (aT aD ab ab aE ab)).flatten ++ jk900.map val))) (RW hoe hlt hi hid hil)) ?_
 refine sO [(0, _), (1, _), (5, _), (6, _), (7, _), (8, _), (9, _), (10, _), (2900, _), (5000, _)] [(0, (32, [sl _ _, val _, val _, sl _ _, val _, sl _ _, sl _ _, val _])), (6, _), (8, _), (900, (108, _ ++ ([val _, val _, sl _ _, sl _ _, val _, sl _ _, val _, val _, val _, sl _ _] ++ _)))] ?_
 refine Ee ?_
 refine dA 1 ?_ (x := cP (ms := [sl _ _]) (qs := [sl .v _]) (by decide) bF (fun _ => rfl) (by exact nl rfl) (by exact rfl) (by exact (aB ao.nil)) (by exact (aj.cons (bor_sl _) aj.nil)))
 refine dA 0 ?_ (x := cM Cp.ptr)
 refine dA 4 ?_ (x := iP (by decide))
 refine dA 12 ?_ (x := lF ee)
 refine dA 28 ?_ (x := lD [val _] dR)
 refine dA 0 ?_ (x := sM)
 refine dA 124 ?_ (x := iw (k := i) (G := 2900) (by decide) cg (by exact tI) (by first | exact hf2 | omega) (by first | (rw [aw]; exact hil) | exact hil))
 refine dA 252 ?_ (x := lF gV)
 refine dA 508 ?_ (x := lF rm)
 refine dA 1020 ?_ (x := qk (o := 1) (qs := [val _]) (by omega) (by decide) az (fun _ => rfl) (by exact nl rfl) (by exact (ak ao.nil)) (by exact (aj.cons (bor_val _) aj.nil)))
 refine dA 2044 ?_ (x := bP (qs := [(false, [val _])]) (by decide) bC eg (by decide) rfl rfl rfl rfl rfl (by exact nl rfl) (by exact (aI (by exact tI) tI)) rfl)
 refine dA 4095 ?_ (x := en (by decide) bC eg rfl rfl (by decide) rfl (by simp only [aw, aM, List.length_cons, List.length_nil]; omega) (by simp only [aw, aM, List.length_cons, List.length_nil]; omega))
 refine dA 8191 ?_ (x := lF lY)
 refine Pv ?_
 refine sO [(0, _), (1, _), (5, _), (6, _), (7, _), (8, _), (9, _), (10, _), (2900, _), (5000, _)] [(0, _), (6, _), (8, (70, [val _, val _, sl _ _, sl _ _, sl _ _])), (900, _)] ?_
 refine bd ?_
 refine eH ?_
 refine be ?_
 refine sP [0, 1, 5, 6, 7, 8, 9, 10, 11, 2900, 5000] [0, 6, 8, 900] ?_
 refine VP (s := 7) (d := 0) (t := 139) (k := e.aeD.toNat) (A := []) (B := [val _, val _, sl _ _, val _, sl _ _, sl _ _, val _]) (f := (fun l : List aR => sl aV (l.map (eN ab)))) (q := (fun l : List aR => sl .v (l.map (eN ab)))) (by exact rfl) (by exact rfl) hzP nh (by exact bor_sl _) ?_
 refine sG [0, 1, 5, 6, 7, 8, 9, 10, 11, 2900, 5000] [0, 6, 8, 900] ?_
 refine ca ?_
 refine sP [0, 1, 5, 6, 7, 8, 9, 10, 11, 12, 2900, 5000] [0, 6, 8, 900] ?_
 refine sL [0, 1, 5, 6, 7, 8, 9, 10, 2900, 5000] [0, 6, 8] (fun j : Nat => j ≤ (cc e).length) (fun j : Nat => [(11, RV.int ((kp e e.aez[i] j).length : Int)), (12, RV.int (j : Int))]) (fun j : Nat => [(900, (108, (((bW e k).take i).map (aT aD ab ab aE ab)).flatten ++ ([val (vI e.aez[i].aeA.Id), val (vI e.aez[i].aeA.aeE), sl aD (e.aez[i].aeA.aeB.map bH), sl ab (e.aez[i].aeA.Out.map am), val (vI e.aez[i].Time), sl ab (e.aez[i].aeI.map am), val (vI e.aez[i].Age), val (vI e.aez[i].Sent), val (vI e.aez[i].Cap), sl aE ((e.aez[i].Rows ++ kp e e.aez[i] j).map (bI ab))] ++ ((((bW e k).drop (i + 1)).map (aT aD ab ab aE ab)).flatten ++ jk900.map val))))]) (fun j : Nat => (cc e).length - j) 0 (by omega) (by exact aI (by exact rfl) (aI (by exact rfl) tI)) (by exact aI (by show _ = some (108, (((bW e k).take i).map (aT aD ab ab aE ab)).flatten ++ ([val (vI e.aez[i].aeA.Id), val (vI e.aez[i].aeA.aeE), sl aD (e.aez[i].aeA.aeB.map bH), sl ab (e.aez[i].aeA.Out.map am), val (vI e.aez[i].Time), sl ab (e.aez[i].aeI.map am), val (vI e.aez[i].Age), val (vI e.aez[i].Sent), val (vI e.aez[i].Cap), sl aE ((e.aez[i].Rows ++ kp e e.aez[i] 0).map (bI ab))] ++ ((((bW e k).drop (i + 1)).map (aT aD ab ab aE ab)).flatten ++ jk900.map val))); rw [show kp e e.aez[i] 0 = [] from rfl, dP]; exact rfl) tI) ?_
 rintro j hj
 have hgl := aam (e := e) (a := e.aez[i]) (j := j)
 refine de ?_
 refine Oj ?_
 refine rA ?_ (x := dq)
 refine sc ?_ ?_ <;> intro hbc
 have hj2 : j < (cc e).length := by omega
 have hjz : j < zP.1.length := by omega
 have hz4 : fF zP.1[j] = fF (cc e)[j] := by simp [hzP2]
 have hz5 : dL zP.1[j] e.aez[i].Time = dL (cc e)[j] e.aez[i].Time := by simp [hzP2]
 have hro : cf (fF zP.1[j]) = true := by rw [hz4]; exact Sa hoe _ (List.getElem_mem hj2)
 have hrv := rg hro
 have hrv : zP.1[j].Values.length = 3 := hrv
 have hph := XM (q := e.aez[i].aeA) hql2 hro hef.2.1 hqm
 rw [hid, hz4] at hph
 have hwr : fJ (fF zP.1[j]) = 3 := by simp only [fF, fJ, dE, bf]; omega
 refine dh ?_
 refine sO [(0, _), (1, _), (5, _), (6, _), (7, _), (8, _), (9, _), (10, _), (11, _), (12, _), (2900, _), (5000, _)] [(0, (32, [sl _ _, val _, val _, sl _ _, val _, sl _ _, sl _ _, val _])), (6, (124, [sl _ _, sl _ _])), (8, (70, [val _, val _, sl _ _, sl _ _, sl _ _])), (900, (108, _ ++ ([val _, val _, sl _ _, sl _ _, val _, sl _ _, val _, val _, val _, sl _ _] ++ _)))] ?_
 refine da cG ?_
 refine Ol ?_
 refine Oi ?_
 refine dA 15 ?_ (x := lE [val _] az)
 refine Ol ?_
 refine dA 96 ?_ (x := aU (by decide) cy (by exact tI) (by exact rfl) (by exact aW (by omega) rfl) (by exact rfl))
 refine dA 224 ?_ (x := cd (by decide) lu (by exact nl rfl))
 refine dA 480 ?_ (x := lE [sl .v _] bF)
 refine dA 1023 ?_ (x := dp (qs := [(false, [val _]), (false, [sl _ _])]) (cs := [val _, sl _ _]) (by decide) gJ mb adH (by exact rfl) (by exact (aI (by exact tI) (aI (by exact tI) tI))) rfl (by exact rfl))
 refine bJ.step 0 (by exact tI) (by exact tI) (bX.of rfl (cr (by decide) gJ mb)) (nV (cu.of_ rfl)) (by kernel_rfl) ?_
 refine dA 4095 ?_ (x := bh (ag := true) (vs := [val _, sl _ _]) fj (by exact tI) (by exact rfl) (by exact nl rfl))
 refine be ?_
 refine sO [(0, _), (1, _), (5, _), (6, _), (7, _), (8, _), (9, _), (10, _), (11, _), (12, _), (13, _), (2900, _), (5000, _)] [(0, _), (6, _), (8, _), (13, (54, [val _, sl _ _])), (900, _)] ?_
 refine xz (c := 6) (AI := []) cG rfl rfl rfl rfl (by kernel_rfl) (fun j L h => nomatch h) (fun j L h => nomatch h) ?_
 refine dX 0 ?_ (x := (gp (qs := [sl .v _, sl .v _]) (by decide) tZ (fun h => nomatch h) (by exact nl rfl) (by exact (aB (aB ao.nil))) (by exact (aj.cons (bor_sl _) (aj.cons (bor_sl _) aj.nil)))))
 refine dX 0 ?_ (x := (gp (qs := [val _, sl .v _]) (by decide) fj (fun h => nomatch h) (by exact nl rfl) (by exact (ak (aB ao.nil))) (by exact (aj.cons (bor_val _) (aj.cons (bor_sl _) aj.nil)))))
 refine dX 0 ?_ (x := (iL (.inl rfl) (by decide) (by exact Cp.ptr)))
 refine dX 4 ?_ (x := (iP (by decide)))
 refine dX 12 ?_ (x := (Hf (by decide) wv))
 refine dX 28 ?_ (x := (gp (qs := [sl .v _]) (by decide) bF (fun _ => rfl) (by exact nl rfl) (by exact (aB ao.nil)) (by exact (aj.cons (bor_sl _) aj.nil))))
 refine xA (G := 2000) (qs := [(true, [sl _ _, sl _ _]), (true, [val _, sl _ _]), (false, [sl _ _])]) (as_ := [(true, [sl .v _, sl .v _]), (true, [val _, sl .v _]), (false, [sl .v _])]) (by decide) Yq (by exact ⟨rfl, rfl, rfl, ⟨⟩⟩) (by exact (aI (by exact tI) (aI (by exact tI) (aI (by exact tI) tI)))) (by exact (aI (aI rfl (aB (aB ao.nil))) (aI (aI rfl (ak (aB ao.nil))) (aI (aI rfl (aB ao.nil)) tI)))) (by exact (acO (x := mL (oO e.aez (parts e))) (r := fF zP.1[j]) (o := e.Order) hxo hro hef.2.1)) (by kernel_rfl) (by kernel_rfl) fun uss hU0 => ?_
 obtain ⟨us0, r0, rfl, hl0, hR0, hU1⟩ := gE.cons hU0
 obtain ⟨u4_0_0, rfl⟩ := wm hl0
 obtain ⟨us1, r1, rfl, hl1, hR1, hU2⟩ := gE.cons hU1
 obtain ⟨u4_1_0, rfl⟩ := wm hl1
 obtain rfl := mr hR1 (j := 0) rfl rfl
 obtain rfl := gE.nil hU2
 clear hR0 hU0 hR1 hU1 hU2
 refine bJ.stepC 127 (by exact ⟨rfl, ⟨⟩⟩) (by exact tI) (bX.of rfl (uy (.inl rfl) (by decide))) gq (by kernel_rfl) (by intro L' h; exact nomatch (show (none : Option aC) = some L' from h)) ?_
 refine bJ.stepC 255 (by exact ⟨rfl, ⟨⟩⟩) (by exact tI) (bX.of rfl (nf (cs := [val _]) (by decide) (by exact rfl) (by exact (aj.cons (bor_val _) aj.nil)))) gq (by kernel_rfl) (by intro L' h; exact nomatch (show (none : Option aC) = some L' from h)) ?_
 refine bJ.stepC 255 (by exact ⟨rfl, ⟨⟩⟩) (by exact tI) (bX.of rfl (nf (cs := [val _]) (by decide) (by exact rfl) (by exact (aj.cons (bor_val _) aj.nil)))) gq (by kernel_rfl) (by intro L' h; exact nomatch (show (none : Option aC) = some L' from h)) ?_
 refine bJ.stepC 511 (by exact ⟨rfl, ⟨⟩⟩) (by exact tI) (bX.of rfl (iL (.inr rfl) (by decide) (by exact Cp.sc))) gq (by kernel_rfl) (by intro L' h; exact nomatch (show (none : Option aC) = some L' from h)) ?_
 refine bJ.stepC 2047 (by exact ⟨rfl, ⟨⟩⟩) (by exact tI) (bX.of rfl (iL (.inr rfl) (by decide) (by exact Cp.sc))) gq (by kernel_rfl) (by intro L' h; exact nomatch (show (none : Option aC) = some L' from h)) ?_
 refine sd (s := 14) (G := 2000) (by exact rfl) (by exact (Nm.val Nm.nil)) rfl (by decide) (by exact rfl) ?_
 refine sd (s := 15) (G := 2001) (by exact rfl) (by exact (Nm.val Nm.nil)) rfl (by decide) (by exact rfl) ?_
 refine PR ?_
 refine da cG ?_
 refine dA 0 ?_ (x := vM false [sl .v _])
 refine eY ?_
 refine dA 6 ?_ (x := aU (by decide) bC (by exact tI) (by exact rfl) (by exact aW (by omega) rfl) (by exact rfl))
 refine dA 14 ?_ (x := lE [val _] az)
 refine dA 31 ?_ (x := cL [(false, [sl _ _]), (false, [val _])] [(false, [sl .v _]), (false, [val _])] zF (hs := by exact Ak))
 refine dA 63 ?_ (x := sM)
 refine dx 125 (fun ga sga => ?_) (fun ga sga => ?_)
 have hmm : dN e.aez[i].aeA (fF (cc e)[j]) = true := by rw [← hph, ← hz4]; simpa using ga
 have sga := ga
 try simp only [qq] at sga
 refine dB 127 ga ?_ (x := iL (r' := RV.sv false [sl .v _]) (.inl rfl) (by decide) (by exact Cp.sv (ao.cons (PV.nv_to nh) ao.nil) (aj.cons (bor_sl _) aj.nil)))
 refine dB 127 ga ?_ (x := sM)
 refine dB 511 ga ?_ (x := aU (by decide) cy (by exact tI) (by exact rfl) (by exact aW (by omega) rfl) (by exact rfl))
 refine dB 1023 ga ?_ (x := lE [val _, sl .v _, val _, val _] fq)
 refine dB 127 ga ?_ (x := cM Cp.ptr)
 refine dB 2175 ga ?_ (x := iP (by decide))
 refine dB 6271 ga ?_ (x := lF ee)
 refine dB 14463 ga ?_ (x := lD [val _] dR)
 refine dB 127 ga ?_ (x := sM)
 refine dB 63615 ga ?_ (x := iw (k := i) (G := 2900) (by decide) cg (by exact tI) (by first | exact hf2 | omega) (by first | (rw [aw]; exact hil) | exact hil))
 refine dB 129151 ga ?_ (x := lF pI)
 refine dB 260223 ga ?_ (x := qk (o := 4) (qs := [val _]) (by omega) (by decide) az (fun _ => rfl) (by exact nl rfl) (by exact (ak ao.nil)) (by exact (aj.cons (bor_val _) aj.nil)))
 refine dB 524287 ga ?_ (x := cL [(true, [val _, sl _ _, val _, val _]), (false, [val _])] [(true, [val _, sl .v _, val _, val _]), (false, [val _])] EV (hs := by exact GK))
 refine dA 1048575 ?_ (x := aO ga)
 refine sc ?_ ?_ <;> intro hbd
 have hvv : dL (cc e)[j] e.aez[i].Time = true := by rw [← hz5]; simpa using hbd
 refine PR ?_
 refine pD ?_
 refine DL ?_
 refine dA 0 ?_ (x := sM)
 refine qD ?_
 refine DA ?_
 refine CO ?_
 refine dA 2016 ?_ (x := lF oE)
 refine dA 4064 ?_ (x := Bp (o := 9) (ms := [sl _ _]) (qs := [sl .v _]) (by omega) (by decide) jx (fun _ => rfl) (by exact nl rfl) (by exact rfl) (by exact (aB ao.nil)) (by exact (aj.cons (bor_sl _) aj.nil)))
 refine dA 0 ?_ (x := lD [val _, sl .v _] fj)
 refine dA 8192 ?_ (x := cL [(true, [val _, sl _ _])] [(true, [val _, sl .v _])] Ex (hs := by exact (Fm (x := fF zP.1[j]) (by omega))))
 refine dA 24576 ?_ (x := bP (qs := [(true, [val _, sl _ _])]) (by decide) fD gJ (by decide) rfl rfl rfl rfl rfl (by exact nl rfl) (by exact (aI (by exact tI) tI)) rfl)
 refine dA 65504 ?_ (x := en (by decide) fD gJ rfl rfl (by decide) rfl (by simp only [aw, aM, List.length_cons, List.length_nil]; omega) (by simp only [aw, aM, List.length_cons, List.length_nil]; omega))
 refine dA 131071 ?_ (x := iw (k := i) (G := 2900) (by decide) cg (by exact tI) (by first | exact hf2 | omega) (by first | (rw [aw]; exact hil) | exact hil))
 refine dA 262143 ?_ (x := lF oE)
 refine dA 524287 ?_ (x := nd (o := 9) (ag := false) (vs := [sl _ _]) (by omega) jx (by exact tI) (by exact rfl) (by exact nl rfl))
 refine sO [(0, _), (1, _), (5, _), (6, _), (7, _), (8, _), (9, _), (10, _), (11, _), (12, _), (13, _), (14, _), (15, _), (2900, _), (5000, _)] [(0, _), (6, _), (8, _), (13, _), (900, (108, _ ++ ([val _, val _, sl _ _, sl _ _, val _, sl _ _, val _, val _, val _, sl _ _] ++ _)))] ?_
 refine pE ?_
 exact Ci
 have hvv : dL (cc e)[j] e.aez[i].Time = false := by rw [← hz5]; simpa using hbd
 refine bb ?_
 exact Ci
 have hmm : dN e.aez[i].aeA (fF (cc e)[j]) = false := by rw [← hph, ← hz4]; simpa using ga
 have sga := ga
 try simp only [qq] at sga
 refine dF 127 ga ?_
 refine dF 127 ga ?_
 refine dF 511 ga ?_
 refine dF 1023 ga ?_
 refine dF 127 ga ?_
 refine dF 2175 ga ?_
 refine dF 6271 ga ?_
 refine dF 14463 ga ?_
 refine dF 127 ga ?_
 refine dF 63615 ga ?_
 refine dF 129151 ga ?_
 refine dF 260223 ga ?_
 refine dF 524287 ga ?_
 refine dA 1048575 ?_ (x := aF ga)
 refine eX ?_
 refine bb ?_
 exact Ci
 have hjend : j = (cc e).length := by omega
 have hgt : kp e e.aez[i] j = iC e e.aez[i] := by rw [hjend]; exact aal
 rw [hgt]
 refine er ?_
 refine sO [(0, _), (1, _), (5, _), (6, _), (7, _), (8, _), (9, _), (10, _), (11, _), (12, _), (2900, _), (5000, _)] [(0, (32, [sl _ _, val _, val _, sl _ _, val _, sl _ _, sl _ _, val _])), (6, (124, [sl _ _, sl _ _])), (8, (70, [val _, val _, sl _ _, sl _ _, sl _ _])), (900, (108, _ ++ ([val _, val _, sl _ _, sl _ _, val _, sl _ _, val _, val _, val _, sl _ _] ++ _)))] ?_
 refine bd ?_
 refine rA ?_ (x := lF kb)
 refine qW ?_
 refine rA ?_ (x := lF kb)
 refine vl ?_
 refine sO [(0, _), (1, _), (5, _), (6, _), (7, _), (8, _), (9, _), (10, _), (11, _), (12, _), (2900, _), (5000, _)] [(0, _), (6, _), (8, (70, [val _, val _, sl _ _, sl _ _, sl _ _])), (900, _)] ?_
 refine pD ?_
 refine DL ?_
 refine dA 0 ?_ (x := sM)
 refine qD ?_
 refine DA ?_
 refine CO ?_
 refine dA 2016 ?_ (x := lF mI)
 refine dA 4064 ?_ (x := qk (o := 7) (qs := [val _]) (by omega) (by decide) az (fun _ => rfl) (by exact nl rfl) (by exact (ak ao.nil)) (by exact (aj.cons (bor_val _) aj.nil)))
 refine dA 0 ?_ (x := sM)
 refine dA 16352 ?_ (x := jm)
 refine dA 32767 ?_ (x := iw (k := i) (G := 2900) (by decide) cg (by exact tI) (by first | exact hf2 | omega) (by first | (rw [aw]; exact hil) | exact hil))
 refine dA 65535 ?_ (x := lF mI)
 refine dA 131071 ?_ (x := nd (o := 7) (ag := false) (vs := [val _]) (by omega) az (by exact tI) (by exact rfl) (by exact nl rfl))
 refine sO [(0, _), (1, _), (5, _), (6, _), (7, _), (8, _), (9, _), (10, _), (11, _), (12, _), (2900, _), (5000, _)] [(0, _), (6, _), (8, _), (900, (108, _ ++ ([val _, val _, sl _ _, sl _ _, val _, sl _ _, val _, val _, val _, sl _ _] ++ _)))] ?_
 refine pD ?_
 refine DL ?_
 refine dA 0 ?_ (x := sM)
 refine qD ?_
 refine DA ?_
 refine CO ?_
 refine dA 2016 ?_ (x := lF jt)
 refine dA 4064 ?_ (x := qk (o := 5) (qs := [sl .v _]) (by omega) (by decide) bF (fun _ => rfl) (by exact nl rfl) (by exact (aB ao.nil)) (by exact (aj.cons (bor_sl _) aj.nil)))
 refine dA 0 ?_ (x := cM Cp.ptr)
 refine dA 8192 ?_ (x := iP (by decide))
 refine dA 24576 ?_ (x := lF mJ)
 refine dA 57344 ?_ (x := lD [val _] az)
 refine dA 131040 ?_ (x := cL [(false, [sl _ _]), (false, [val _])] [(false, [sl .v _]), (false, [val _])] YW (hs := by exact (adc (by omega))))
 refine dA 262143 ?_ (x := iw (k := i) (G := 2900) (by decide) cg (by exact tI) (by first | exact hf2 | omega) (by first | (rw [aw]; exact hil) | exact hil))
 refine dA 524287 ?_ (x := lF jt)
 refine dA 1048575 ?_ (x := nd (o := 5) (ag := false) (vs := [sl _ _]) (by omega) bF (by exact tI) (by exact rfl) (by exact nl rfl))
 refine cV (d := 900) (by exact rfl) (ng (lB e e.aez[i]) hil (by exact rfl)) ?_
 refine nX (d := 0) (D := 900) (G := 2900) (e := 10) (A := [sl _ _, val _, val _, sl _ _]) (B := [sl _ _, sl _ _, val _]) (es := (((bW e k)).set i (lB e e.aez[i])).map (aT aD ab ab aE ab)) (by exact rfl) (by exact rfl) (by exact rfl) rfl (by rw [aw, List.length_set, aw]) (by intro c hc; obtain ⟨y, _, rfl⟩ := List.mem_map.1 hc; exact rfl) (by rw [aw]; exact hjk900) ?_
 refine sO [(0, _), (1, _), (5, _), (6, _), (7, _), (8, _), (9, _), (10, _), (11, _), (12, _), (5000, _)] [(0, (32, [sl _ _, val _, val _, sl _ _, sl _ _, sl _ _, sl _ _, val _])), (6, _), (8, _)] ?_
 refine BB (s := 7) [val zP.2] (by exact rfl) (by exact (ao.cons PV.nv_val ao.nil)) (by exact (aj.cons (bor_val _) aj.nil)) ?_
 refine sG [0, 1, 5, 6, 7, 8, 9, 10, 11, 12, 5000] [0, 6, 8] ?_
 refine cb ?_
 refine nx (k + 1) (by omega) (f := (by exact aI (by rw [← RX hoe hlt hi hid]; exact rfl) (aI (by rw [aan hlt hi hf]; simp only [bj]; exact rfl) tI)))
 have hend : k = (parts e).length := by omega
 subst hend
 rw [aao]
 have hcg2 := Ao (e := e) (Nat.le_refl _)
 refine bq ?_
 refine sQ [0, 1, 5, 6, 7, 8, 9, 5000] [0, 6, 8] ?_
 refine VO (d := 0) (t := 139) (A := []) (B := [val _, val _, sl _ _, sl _ _, sl _ _, sl _ _, val _]) (f := (fun l : List aR => sl aV (l.map (eN ab)))) hzsS (by exact rfl) ?_
 refine sO [(0, _), (1, _), (5, _), (6, _), (7, _), (8, _), (9, _), (5000, _)] [(0, (32, [sl _ _, val _, val _, sl _ _, sl _ _, sl _ _, sl _ _, val _])), (6, _), (8, _)] ?_
 refine Ei ?_
 refine vw ?_
 refine dA 6 ?_ (x := lF iV)
 refine dA 14 ?_ (x := cP (ms := [sl _ _]) (qs := [sl .v _]) (by decide) iW (fun _ => rfl) (by exact nl rfl) (by exact rfl) (by exact (aB ao.nil)) (by exact (aj.cons (bor_sl _) aj.nil)))
 refine dA 0 ?_ (x := cP (ms := [val _, val _, sl _ _, sl _ _, sl _ _]) (qs := [val _, val _, any, any, any]) (by decide) iX (fun h => nomatch h) (by exact nl rfl) (by exact rfl) (by exact (ak (ak (ao.cons PV.to_any (ao.cons PV.to_any (ao.cons PV.to_any ao.nil)))))) (by exact lq))
 refine dA 32 ?_ (x := bP (qs := [(true, [val _, val _, sl _ _, sl _ _, sl _ _])]) (by decide) fL kf (by decide) rfl rfl rfl rfl rfl (by exact nl rfl) (by exact (aI (by exact tI) tI)) rfl)
 refine dA 126 ?_ (x := en (by decide) fL kf rfl rfl (by decide) rfl (by simp only [aw, aM, List.length_cons, List.length_nil]; omega) (by simp only [aw, aM, List.length_cons, List.length_nil]; omega))
 refine dA 255 ?_ (x := iP (by decide))
 refine dA 511 ?_ (x := lF iV)
 refine dA 1023 ?_ (x := bh (ag := false) (vs := [sl _ _]) iW (by exact tI) (by exact rfl) (by exact nl rfl))
 exact ⟨(by simp only [bj]; exact rfl), rfl, tI⟩
end Go.Proofs.YtmekkgdboplbjaaGreat
