/- What functions of the program compute. No condition. -/
import Derived.Test.YtmekkgdboplbjaaGreatCU0
import Derived.Test.YtmekkgdboplbjaaGreatCV0
set_option linter.unusedVariables false
set_option linter.unusedSimpArgs false
namespace Go.Proofs.YtmekkgdboplbjaaGreat
open Go Go.RowKit M PV
set_option maxRecDepth 10000
attribute [local irreducible] PV.Lcl PV.LclR RV.Lcl
set_option maxHeartbeats 8000000
theorem SP : cU Tryz.prog 54 = some [(0, 1), (1, 1)] := by kernel_rfl
theorem SQ : cU Tryz.prog 70 = some [(0, 1), (1, 1), (2, 1), (3, 1), (4, 1)] := by kernel_rfl
theorem SR {e : am} {ids : List Int}  (hids : ids = parts e) (hoe : aH e = true) (hb : aO e ≤ 68719000000) : fE Tryz.prog 233 32 [sl (.own 139 1) (e.Store.Segments.map (ax (.own 184 4) (.own 3 1))), val (vI e.Store.Now), val (vI e.Cursor), sl (.own 3 1) (e.Order.map ai), sl (.own 108 10) (e.Active.map (aG (.own 178 3) (.own 3 1) (.own 3 1) (.own 54 2) (.own 3 1))), sl (.own 63 7) (e.Done.map (aP (.own 178 3) (.own 3 1) (.own 54 2) (.own 3 1))), sl (.own 70 5) (e.Ledger.map (aR (.own 3 1) (.own 3 1) (.own 3 1))), val (vI e.Steps)] [sl (.own 139 1) (e.Store.Segments.map (ax (.own 184 4) (.own 3 1))), val (vI e.Store.Now), val (vI e.Cursor), sl (.own 3 1) (e.Order.map ai), sl (.own 108 10) ((bj e (parts e).length).map (aG (.own 178 3) (.own 3 1) (.own 3 1) (.own 54 2) (.own 3 1))), sl (.own 63 7) (e.Done.map (aP (.own 178 3) (.own 3 1) (.own 54 2) (.own 3 1))), sl (.own 70 5) ((e.Ledger ++ [cz e (parts e).length]).map (aR (.own 3 1) (.own 3 1) (.own 3 1))), val (vI e.Steps)] [(false, [sl (.own 3 1) (ids.map ai)])] (av []) := by
 refine gG (rs := []) Tryz.func233 rfl (nl rfl) (nl rfl) ?_
 intro g_ h0 w0 Fz0
 refine sj 1 fun hl1 => ?_
 subst hids
 have hef := fg hoe
 have hcl : e.Cursor.toNat < e.Store.Segments.length := hef.2.2.2.1
 have hpl := nN (e := e)
 have hs4 := vf hoe
 have hql2 := KN hoe
 have hxo := I0 hql2
 have hbu := hb
 simp only [aO, fp, gK, f4] at hbu
 refine sR ?_
 refine qC ?_
 refine aJ ?_
 refine sT [0, 1, 4, 5000] [0] ?_
 refine bw ?_
 refine sP [0, 1, 4, 5, 5000] [0] ?_
 refine sL [0, 1, 5000] [0] (fun k : Nat => k ≤ (parts e).length) (fun k : Nat => [(4, RV.slc (.own 52 4) ((eB e.Active ((parts e).take k)).map (cN .v .v))), (5, RV.int (k : Int))]) (fun k : Nat => []) (fun k : Nat => (parts e).length - k) 0 (by omega) (by exact aI (by exact rfl) (aI (by exact rfl) (tI))) (by exact ⟨⟩) ?_
 rintro k hk
 refine iK ?_
 refine sc (fun hba => ?_) (fun hba => ?_)
 have hlt : k < (parts e).length := by omega
 have hpk : (parts e)[k] ∈ eA e e.Active := by rw [← jp hoe]; exact List.getElem_mem hlt
 have hfp := yY hpk
 have hql : (eB e.Active ((parts e).take k)).length = k := by unfold eB; rw [List.length_map, List.length_take]; omega
 refine aT ?_
 refine sQ [0, 1, 4, 5, 5000] [0] ?_
 refine nc ?_
 refine qL ?_
 refine dA 6 ?_ (x := lF dJ)
 refine dA 14 ?_ (x := lD [sl .v _] dm)
 refine na ?_
 refine dA 96 ?_ (x := lD [sl .v _, val _, val _, sl .v _, sl .v _, sl .v _, sl .v _, val _] a7)
 refine dG ?_
 refine dA 768 ?_ (x := aD (by decide) a3 (by exact ⟨⟩) (by exact rfl) (by exact aE (by omega) rfl) (by exact rfl))
 refine dA 1792 ?_ (x := lE [val _] aq)
 refine dA 4064 ?_ (x := cL [(true, [sl _ _, val _, val _, sl _ _, sl _ _, sl _ _, sl _ _, val _]), (false, [val _])] [(true, [sl .v _, val _, val _, sl .v _, sl .v _, sl .v _, sl .v _, val _]), (false, [val _])] rL (hs := by exact r9))
 refine dA 8190 ?_ (x := aD (k := (cm e.Active (parts e)[k]).toNat) (by decide) bJ (by exact ⟨⟩) (by omega) (by exact aE hfp.2 (by rw [cX (d := eX) hfp.2])) (by exact rfl))
 refine dA 16382 ?_ (x := bl (by decide) eU (by exact nl rfl))
 refine dA 32766 ?_ (x := lE [val _, val _, sl .v _, sl .v _] dp)
 refine dA 65534 ?_ (x := bd (qs := [(true, [val _, val _, sl _ _, sl _ _])]) (by decide) gj gx (by decide) rfl rfl rfl rfl rfl (by exact nl rfl) (by exact (aI (by exact ⟨⟩) tI)) rfl)
 refine dA 131071 ?_ (x := c8 (by decide) gj gx rfl rfl (by decide) rfl (by simp only [List.length_map, List.length_append, List.length_cons, List.length_nil]; omega) (by simp only [List.length_map, List.length_append, List.length_cons, List.length_nil]; omega))
 refine dA 262143 ?_ (x := tA)
 refine sG [0, 1, 4, 5, 5000] [0] ?_
 exact DQ
 have hend : k = (parts e).length := by omega
 rw [hend, List.take_length]
 refine aX ?_
 refine sT [0, 1, 4, 5, 5000] [0] ?_
 refine HV ?_
 refine mX ?_
 refine aJ ?_
 refine sO [(0, _), (1, _), (4, _), (5, _), (6, _), (5000, _)] [(0, _), (6, (124, [sl _ _, sl _ _]))] ?_
 refine Nr (d := 0) (t := 139) (A := []) (B := [val _, val _, sl _ _, sl _ _, sl _ _, sl _ _, val _]) (f := (fun l : List aF => sl (.own 184 4) (l.map (dO (.own 3 1))))) (xs := e.Store.Segments) (by exact rfl) fun zsS hzsS => ?_
 obtain ⟨zP, hzP, hzP1⟩ := Nq hzsS hcl
 have hzP2 : zP.1 = bp e := hzP1.trans (zE hcl)
 have hzl : zP.1.length = (bp e).length := by rw [hzP2]
 refine sO [(0, _), (1, _), (4, _), (5, _), (6, _), (5000, _)] [(0, (32, [sl _ _, val _, val _, sl _ _, sl _ _, sl _ _, sl _ _, val _])), (6, _)] ?_
 refine mf ?_
 refine dA 3 ?_ (x := lF ee)
 refine dA 7 ?_ (x := lF gQ)
 refine dA 15 ?_ (x := lD [sl .v _] gS)
 refine na ?_
 refine dA 96 ?_ (x := lF gR)
 refine dA 224 ?_ (x := lD [val _] aq)
 refine dA 511 ?_ (x := aD (k := e.Cursor.toNat) (by decide) dK (by exact ⟨⟩) (by omega) (by rw [List.getElem?_map, hzP]; exact rfl) (by exact rfl))
 refine dA 1023 ?_ (x := kc (qs := [nv _ (sl .v _)]) (by decide) f7 (fun _ => rfl) (by exact nl rfl) (by exact (ab.cons (PV.To.refl _) ab.nil)) (by exact (ae.cons (bor_nv (bor_sl _)) ae.nil)))
 refine dA 2047 ?_ (x := eG (r' := RV.sv false [nv _ (sl .v _)]) (.inr rfl) (by decide) (by exact Cp.sv (ab.cons (PV.To.refl _) ab.nil) (ae.cons (bor_nv (bor_sl _)) ae.nil)))
 refine aJ ?_
 refine sP [0, 1, 4, 5, 6, 7, 5000] [0, 6] ?_
 refine mf ?_
 refine dA 3 ?_ (x := lF gR)
 refine dA 7 ?_ (x := lD [val _] aq)
 refine dA 0 ?_ (x := eG (r' := RV.sv false [sl .v _]) (.inl rfl) (by decide) (by exact Cp.sv (ab.cons (PV.nv_to PV.to_none) ab.nil) (ae.cons (bor_sl _) ae.nil)))
 refine dA 16 ?_ (x := lN bT)
 refine dA 0 ?_ (x := bd (qs := []) (by decide) a3 ce (by decide) rfl rfl rfl rfl rfl (by exact nl rfl) (by exact ⟨⟩) rfl)
 refine dA 0 ?_ (x := vM false [sl .v _])
 refine dA 192 ?_ (x := gp (by decide) a3 ce rfl rfl (by decide) (by first | (intro cs hcs; obtain ⟨x, _, rfl⟩ := List.mem_map.1 hcs; exact rfl) | simp) (by first | (intro cs hcs; obtain ⟨x, _, rfl⟩ := List.mem_map.1 hcs; exact (ae.cons (bor_val _) ae.nil)) | simp) (by simp only [List.length_map, List.length_append, List.length_cons, List.length_nil]; omega) (by simp only [List.length_map, List.length_append, List.length_cons, List.length_nil]; omega))
 refine dA 511 ?_ (x := cv (qs := [(false, [val _]), (false, [val _]), (false, [sl _ _])]) (cs := [val _, val _, sl _ _, sl _ _, sl _ _]) (by decide) gT nJ SQ (by exact rfl) (by exact (aI (by exact ⟨⟩) (aI (by exact ⟨⟩) (aI (by exact ⟨⟩) tI)))) rfl (by exact rfl))
 refine a4.step 0 (by exact ⟨⟩) (by exact ⟨⟩) (be.of rfl (bB (by decide) gT nJ)) (kW (bO.of_ rfl)) (by kernel_rfl) ?_
 refine dA 2047 ?_ (x := aQ (ag := true) (vs := [val _, val _, sl _ _, sl _ _, sl _ _]) it (by exact ⟨⟩) (by exact rfl) (by exact nl rfl))
 refine dH ?_
 refine sO [(0, _), (1, _), (4, _), (5, _), (6, _), (7, _), (8, _), (5000, _)] [(0, _), (6, _), (8, (70, [val _, val _, sl _ _, sl _ _, sl _ _]))] ?_
 refine oX ?_
 refine sP [0, 1, 5, 6, 7, 8, 9, 5000] [0, 6, 8] ?_
 refine mP (s := 7) [val zP.2] (by exact rfl) (by exact (ab.cons PV.nv_val ab.nil)) (by exact (ae.cons (bor_val _) ae.nil)) ?_
 refine sP [0, 1, 5, 6, 7, 8, 9, 5000] [0, 6, 8] ?_
 refine sL [0, 1, 5, 6, 7, 8, 5000] [6] (fun k : Nat => k ≤ (parts e).length) (fun k : Nat => [(9, RV.int (k : Int))]) (fun k : Nat => [(0, (32, [sl (.own 139 1) (zsS.map (ib (fun l : List aF => sl (.own 184 4) (l.map (dO (.own 3 1)))))), val (vI e.Store.Now), val (vI e.Cursor), sl (.own 3 1) (e.Order.map ai), sl (.own 108 10) ((bj e k).map (aG (.own 178 3) (.own 3 1) (.own 3 1) (.own 54 2) (.own 3 1))), sl (.own 63 7) (e.Done.map (aP (.own 178 3) (.own 3 1) (.own 54 2) (.own 3 1))), sl (.own 70 5) (e.Ledger.map (aR (.own 3 1) (.own 3 1) (.own 3 1))), val (vI e.Steps)])), (8, (70, [val (vI (gZ e k).Segment), val (vI (gZ e k).Base), sl (.own 3 1) ((gZ e k).Ids.map ai), sl (.own 3 1) ((gZ e k).Tenants.map ai), sl (.own 3 1) ((gZ e k).Rows.map ai)]))]) (fun k : Nat => (parts e).length - k) 0 (by omega) (by exact aI (by exact rfl) (tI)) (by exact aI (by rw [zB]; exact rfl) (aI (by rw [show (gZ e 0).Base = ((zP.1.length : Nat) : Int) by rw [hzl]; rfl]; exact rfl) (tI))) ?_
 rintro k hk
 have hcg := Ru (e := e) hk
 have hsl := iz (e := e) (k := k)
 refine iK ?_
 refine sc (fun hbb => ?_) (fun hbb => ?_)
 have hlt : k < (parts e).length := by omega
 obtain ⟨i, hi, hf, hid, hpp⟩ := zA hoe hlt
 have hf2 : cm (bj e k) (parts e)[k] = (i : Int) := (Rn _).trans hf
 have hil : i < (bj e k).length := by omega
 have hoa := vi (hef.2.2.2.2.2.2.2.2.2.1 _ (List.getElem_mem hi))
 have hwa := cR (f := ca) hi
 have hwq : ca e.Active[i] = d9 e.Active[i].Query + e.Active[i].Todo.length + eJ e.Active[i].Rows := by simp only [ca, cu, aV]; omega
 have hga4 := vk hoe e.Active[i]
 have hqm := Rp hoe hi hpp
 refine cE ?_
 refine sQ [0, 1, 5, 6, 7, 8, 9, 5000] [0, 6, 8] ?_
 refine mf ?_
 refine dA 3 ?_ (x := lD [sl .v _, val _, val _, sl .v _, sl .v _, sl .v _, sl .v _, val _] a7)
 refine dG ?_
 refine dA 24 ?_ (x := aD (by decide) a3 (by exact ⟨⟩) (by exact rfl) (by exact aE (by omega) rfl) (by exact rfl))
 refine dA 56 ?_ (x := lE [val _] aq)
 refine dA 127 ?_ (x := mJ (qs := [(true, [sl _ _, val _, val _, sl _ _, sl _ _, sl _ _, sl _ _, val _]), (false, [val _])]) (as_ := [(true, [sl .v (e.Store.Segments.map (ax .v (.own 3 1))), val _, val _, sl .v _, sl .v _, sl .v _, sl .v _, val _]), (false, [val _])]) (by decide) rL (by exact (aI (by exact ⟨⟩) (aI (by exact ⟨⟩) tI))) (by exact (aI (aI rfl (ab.cons (q := sl .v (e.Store.Segments.map (ax .v (.own 3 1)))) (Np (g := ax .v (.own 3 1)) hzsS (fun x => ab.cons PV.to_none ab.nil)) (ab.cons (PV.To.refl _) (ab.cons (PV.To.refl _) (ab.cons PV.to_none (ab.cons PV.to_none (ab.cons PV.to_none (ab.cons PV.to_none (ab.cons (PV.To.refl _) ab.nil))))))))) (aI (aI rfl (ab.cons (PV.To.refl _) ab.nil)) tI))) (by exact (r9 (e := Rv e k) (id := (parts e)[k]))))
 refine dA 255 ?_ (x := sA)
 refine aJ ?_
 refine sP [0, 1, 5, 6, 7, 8, 9, 10, 5000] [0, 6, 8] ?_
 refine jz (d := 0) (t := 32) (D := 900) (G := 2900) (E := 108) (e := 10) (L := vK) (A := [sl _ _, val _, val _, sl _ _]) (B := [sl _ _, sl _ _, val _]) (es := ((bj e k)).map (aG (.own 178 3) (.own 3 1) (.own 3 1) (.own 54 2) (.own 3 1))) (by exact rfl) (hZ hil) (by exact rfl) (by exact rfl) rfl (by exact rfl) (fun x hx => hx.elim) (by exact lq) (by exact lq) (by exact lq) (by exact lq) (ak.map fun x => (ak.cons lcl_val (ak.cons lcl_val (ak.cons (lcl_own (ak.map fun x => (ak.cons lcl_val (ak.cons lcl_val (ak.cons lcl_val ak.nil))))) (ak.cons (lcl_own (ak.map fun x => (ak.cons lcl_val ak.nil))) (ak.cons lcl_val (ak.cons (lcl_own (ak.map fun x => (ak.cons lcl_val ak.nil))) (ak.cons lcl_val (ak.cons lcl_val (ak.cons lcl_val (ak.cons (lcl_own (ak.map fun x => (ak.cons lcl_val (ak.cons (lcl_own (ak.map fun x => (ak.cons lcl_val ak.nil))) ak.nil)))) ak.nil))))))))))) fun uu900 cp900 jk900 hlD900 hcp900 hjk900 => ?_
 rw [List.length_map] at hlD900 hcp900 hjk900
 refine cD (d := 900) (by exact rfl) (hY (k := i) hil) ?_
 have hA900 := ia (f := (aG (.own 178 3) (.own 3 1) (.own 3 1) (.own 54 2) (.own 3 1))) (e := 10) (xs := (bj e k)) (k := i) (fun _ => rfl) (Nat.le_of_lt hil)
 refine cD (d := 900) (by exact rfl) (congrArg (fun z_ => ((((bj e k)).take i).map (aG (.own 178 3) (.own 3 1) (.own 3 1) (.own 54 2) (.own 3 1))).flatten ++ ((aG (.own 178 3) (.own 3 1) (.own 3 1) (.own 54 2) (.own 3 1)) z_ ++ (((((bj e k)).drop (i + 1)).map (aG (.own 178 3) (.own 3 1) (.own 3 1) (.own 54 2) (.own 3 1))).flatten ++ jk900.map val))) (KD hoe hlt hi hid hil)) ?_
 refine sO [(0, _), (1, _), (5, _), (6, _), (7, _), (8, _), (9, _), (10, _), (2900, _), (5000, _)] [(0, (32, [sl _ _, val _, val _, sl _ _, val _, sl _ _, sl _ _, val _])), (6, _), (8, _), (900, (108, _ ++ ([val _, val _, sl _ _, sl _ _, val _, sl _ _, val _, val _, val _, sl _ _] ++ _)))] ?_
 refine yy ?_
 refine dA 1 ?_ (x := b8 (ms := [sl _ _]) (qs := [sl .v _]) (by decide) aZ (fun _ => rfl) (by exact nl rfl) (by exact rfl) (by exact (ab.cons PV.to_none ab.nil)) (by exact (ae.cons (bor_sl _) ae.nil)))
 refine dA 0 ?_ (x := cM Cp.ptr)
 refine dA 4 ?_ (x := fU (by decide))
 refine dA 12 ?_ (x := lF dJ)
 refine dA 28 ?_ (x := lD [val _] dm)
 refine dA 0 ?_ (x := sM)
 refine dA 124 ?_ (x := fT (k := i) (G := 2900) (by decide) bJ (by exact ⟨⟩) (by first | exact hf2 | omega) (by first | (rw [List.length_map]; exact hil) | exact hil))
 refine dA 252 ?_ (x := lF eU)
 refine dA 508 ?_ (x := lF uD)
 refine dA 1020 ?_ (x := oi (o := 1) (qs := [val _]) (by omega) (by decide) aq (fun _ => rfl) (by exact nl rfl) (by exact (ab.cons (PV.To.refl _) ab.nil)) (by exact (ae.cons (bor_val _) ae.nil)))
 refine dA 2044 ?_ (x := bd (qs := [(false, [val _])]) (by decide) a3 ce (by decide) rfl rfl rfl rfl rfl (by exact nl rfl) (by exact (aI (by exact ⟨⟩) tI)) rfl)
 refine dA 4095 ?_ (x := c8 (by decide) a3 ce rfl rfl (by decide) rfl (by simp only [List.length_map, List.length_append, List.length_cons, List.length_nil]; omega) (by simp only [List.length_map, List.length_append, List.length_cons, List.length_nil]; omega))
 refine dA 8191 ?_ (x := lF jP)
 refine HW ?_
 refine sO [(0, _), (1, _), (5, _), (6, _), (7, _), (8, _), (9, _), (10, _), (2900, _), (5000, _)] [(0, _), (6, _), (8, (70, [val _, val _, sl _ _, sl _ _, sl _ _])), (900, _)] ?_
 refine aM ?_
 refine eS ?_
 refine aJ ?_
 refine sP [0, 1, 5, 6, 7, 8, 9, 10, 11, 2900, 5000] [0, 6, 8, 900] ?_
 refine Nt (s := 7) (d := 0) (t := 139) (k := e.Cursor.toNat) (A := []) (B := [val _, val _, sl _ _, val _, sl _ _, sl _ _, val _]) (f := (fun l : List aF => sl (.own 184 4) (l.map (dO (.own 3 1))))) (q := (fun l : List aF => sl .v (l.map (dO (.own 3 1))))) (by exact rfl) (by exact rfl) hzP PV.to_none (by exact bor_sl _) ?_
 refine sG [0, 1, 5, 6, 7, 8, 9, 10, 11, 2900, 5000] [0, 6, 8, 900] ?_
 refine bw ?_
 refine sP [0, 1, 5, 6, 7, 8, 9, 10, 11, 12, 2900, 5000] [0, 6, 8, 900] ?_
 refine sL [0, 1, 5, 6, 7, 8, 9, 10, 2900, 5000] [0, 6, 8] (fun j : Nat => j ≤ (bp e).length) (fun j : Nat => [(11, RV.int ((gY e e.Active[i] j).length : Int)), (12, RV.int (j : Int))]) (fun j : Nat => [(900, (108, (((bj e k).take i).map (aG (.own 178 3) (.own 3 1) (.own 3 1) (.own 54 2) (.own 3 1))).flatten ++ ([val (vI e.Active[i].Query.Id), val (vI e.Active[i].Query.Tenant), sl (.own 178 3) (e.Active[i].Query.Conds.map bR), sl (.own 3 1) (e.Active[i].Query.Out.map ai), val (vI e.Active[i].Time), sl (.own 3 1) (e.Active[i].Todo.map ai), val (vI e.Active[i].Age), val (vI e.Active[i].Sent), val (vI e.Active[i].Cap), sl (.own 54 2) ((e.Active[i].Rows ++ gY e e.Active[i] j).map (bn (.own 3 1)))] ++ ((((bj e k).drop (i + 1)).map (aG (.own 178 3) (.own 3 1) (.own 3 1) (.own 54 2) (.own 3 1))).flatten ++ jk900.map val))))]) (fun j : Nat => (bp e).length - j) 0 (by omega) (by exact aI (by exact rfl) (aI (by exact rfl) (tI))) (by exact aI (by show _ = some (108, (((bj e k).take i).map (aG (.own 178 3) (.own 3 1) (.own 3 1) (.own 54 2) (.own 3 1))).flatten ++ ([val (vI e.Active[i].Query.Id), val (vI e.Active[i].Query.Tenant), sl (.own 178 3) (e.Active[i].Query.Conds.map bR), sl (.own 3 1) (e.Active[i].Query.Out.map ai), val (vI e.Active[i].Time), sl (.own 3 1) (e.Active[i].Todo.map ai), val (vI e.Active[i].Age), val (vI e.Active[i].Sent), val (vI e.Active[i].Cap), sl (.own 54 2) ((e.Active[i].Rows ++ gY e e.Active[i] 0).map (bn (.own 3 1)))] ++ ((((bj e k).drop (i + 1)).map (aG (.own 178 3) (.own 3 1) (.own 3 1) (.own 54 2) (.own 3 1))).flatten ++ jk900.map val))); rw [show gY e e.Active[i] 0 = [] from rfl, List.append_nil]; exact rfl) (tI)) ?_
 rintro j hj
 have hgl := Rr (e := e) (a := e.Active[i]) (j := j)
 refine bu ?_
 refine rA ?_ (x := eG (r' := RV.sv false [sl .v _]) (.inl rfl) (by decide) (by exact Cp.sv (ab.cons (PV.nv_to PV.to_none) ab.nil) (ae.cons (bor_sl _) ae.nil)))
 refine t7 ?_
 refine sc (fun hbc => ?_) (fun hbc => ?_)
 have hj2 : j < (bp e).length := by omega
 have hjz : j < zP.1.length := by omega
 have hz4 : dr zP.1[j] = dr (bp e)[j] := by simp [hzP2]
 have hz5 : de zP.1[j] e.Active[i].Time = de (bp e)[j] e.Active[i].Time := by simp [hzP2]
 have hro : bm (dr zP.1[j]) = true := by rw [hz4]; exact KI hoe _ (List.getElem_mem hj2)
 have hrv := nC hro
 have hrv : zP.1[j].Values.length = 3 := hrv
 have hph := OT (q := e.Active[i].Query) hql2 hro hef.2.1 hqm
 rw [hid, hz4] at hph
 have hwr : fG (dr zP.1[j]) = 3 := by simp only [dr, fG, cu, aV]; omega
 refine cE ?_
 refine sO [(0, _), (1, _), (5, _), (6, _), (7, _), (8, _), (9, _), (10, _), (11, _), (12, _), (2900, _), (5000, _)] [(0, (32, [sl _ _, val _, val _, sl _ _, val _, sl _ _, sl _ _, val _])), (6, (124, [sl _ _, sl _ _])), (8, (70, [val _, val _, sl _ _, sl _ _, sl _ _])), (900, (108, _ ++ ([val _, val _, sl _ _, sl _ _, val _, sl _ _, val _, val _, val _, sl _ _] ++ _)))] ?_
 refine b9 bP ?_
 refine GV ?_
 refine GT ?_
 refine dA 15 ?_ (x := lE [val _] aq)
 refine GV ?_
 refine dA 96 ?_ (x := aD (by decide) bT (by exact ⟨⟩) (by exact rfl) (by exact aE (by omega) rfl) (by exact rfl))
 refine dA 224 ?_ (x := bl (by decide) jd (by exact nl rfl))
 refine dA 480 ?_ (x := lE [sl .v _] aZ)
 refine dA 1023 ?_ (x := cv (qs := [(false, [val _]), (false, [sl _ _])]) (cs := [val _, sl _ _]) (by decide) ff iQ SP (by exact rfl) (by exact (aI (by exact ⟨⟩) (aI (by exact ⟨⟩) tI))) rfl (by exact rfl))
 refine a4.step 0 (by exact ⟨⟩) (by exact ⟨⟩) (be.of rfl (bB (by decide) ff iQ)) (kW (bO.of_ rfl)) (by kernel_rfl) ?_
 refine dA 4095 ?_ (x := aQ (ag := true) (vs := [val _, sl _ _]) ew (by exact ⟨⟩) (by exact rfl) (by exact nl rfl))
 refine aJ ?_
 refine sO [(0, _), (1, _), (5, _), (6, _), (7, _), (8, _), (9, _), (10, _), (11, _), (12, _), (13, _), (2900, _), (5000, _)] [(0, _), (6, _), (8, _), (13, (54, [val _, sl _ _])), (900, _)] ?_
 refine FN ?_
 refine dX 0 ?_ (x := (eH (qs := [val _, sl .v _]) (by decide) ew (fun h => nomatch h) (by exact nl rfl) (by exact (ab.cons (PV.To.refl _) (ab.cons PV.to_none ab.nil))) (by exact (ae.cons (bor_val _) (ae.cons (bor_sl _) ae.nil)))))
 refine dX 0 ?_ (x := (eG (.inl rfl) (by decide) (by exact Cp.ptr)))
 refine dX 4 ?_ (x := (fU (by decide)))
 refine dX 12 ?_ (x := (ss (by decide) mn))
 refine dX 28 ?_ (x := (eH (qs := [sl .v _]) (by decide) aZ (fun _ => rfl) (by exact nl rfl) (by exact (ab.cons PV.to_none ab.nil)) (by exact (ae.cons (bor_sl _) ae.nil))))
 refine jy (G := 2000) (qs := [(true, [sl _ _, sl _ _]), (true, [val _, sl _ _]), (false, [sl _ _])]) (as_ := [(true, [sl .v _, sl .v _]), (true, [val _, sl .v _]), (false, [sl .v _])]) (by decide) JH (by exact ⟨rfl, rfl, rfl, ⟨⟩⟩) (by exact (aI (by exact ⟨⟩) (aI (by exact ⟨⟩) (aI (by exact ⟨⟩) tI)))) (by exact (aI (aI rfl (ab.cons PV.to_none (ab.cons PV.to_none ab.nil))) (aI (aI rfl (ab.cons (PV.To.refl _) (ab.cons PV.to_none ab.nil))) (aI (aI rfl (ab.cons PV.to_none ab.nil)) tI)))) (by exact (Kr (x := eW (eB e.Active (parts e))) (r := dr zP.1[j]) (o := e.Order) hxo hro hef.2.1)) (by kernel_rfl) (by kernel_rfl) fun uss hU0 => ?_
 obtain ⟨us0, r0, rfl, hl0, hR0, hU1⟩ := ct.cons hU0
 obtain ⟨u4_0_0, rfl⟩ := i9 hl0
 obtain ⟨us1, r1, rfl, hl1, hR1, hU2⟩ := ct.cons hU1
 obtain ⟨u4_1_0, rfl⟩ := i9 hl1
 obtain rfl := dc hR1 (j := 0) rfl rfl
 obtain rfl := ct.nil hU2
 clear hR0 hU0 hR1 hU1 hU2
 refine Gu ?_
 refine Fv ?_
 refine oj (s := 14) (G := 2000) (by exact rfl) (by exact (Nm.val Nm.nil)) rfl (by decide) (by exact rfl) ?_
 refine oj (s := 15) (G := 2001) (by exact rfl) (by exact (Nm.val Nm.nil)) rfl (by decide) (by exact rfl) ?_
 refine Ib ?_
 refine b9 bP ?_
 refine dA 0 ?_ (x := vM false [sl .v _])
 refine dG ?_
 refine dA 6 ?_ (x := aD (by decide) a3 (by exact ⟨⟩) (by exact rfl) (by exact aE (by omega) rfl) (by exact rfl))
 refine dA 14 ?_ (x := lE [val _] aq)
 refine dA 31 ?_ (x := cL [(false, [sl _ _]), (false, [val _])] [(false, [sl .v _]), (false, [val _])] uA (hs := by exact u5))
 refine dA 63 ?_ (x := sM)
 refine dx 125 (fun ga sga => ?_) (fun ga sga => ?_)
 have hmm : eb e.Active[i].Query (dr (bp e)[j]) = true := by rw [← hph, ← hz4]; simpa using ga
 have sga := ga
 try simp only [qq] at sga
 refine dB 127 ga ?_ (x := eG (r' := RV.sv false [sl .v _]) (.inl rfl) (by decide) (by exact Cp.sv (ab.cons (PV.nv_to PV.to_none) ab.nil) (ae.cons (bor_sl _) ae.nil)))
 refine dB 127 ga ?_ (x := sM)
 refine dB 511 ga ?_ (x := aD (by decide) bT (by exact ⟨⟩) (by exact rfl) (by exact aE (by omega) rfl) (by exact rfl))
 refine dB 1023 ga ?_ (x := lE [val _, sl .v _, val _, val _] d2)
 refine dB 127 ga ?_ (x := cM Cp.ptr)
 refine dB 2175 ga ?_ (x := fU (by decide))
 refine dB 6271 ga ?_ (x := lF dJ)
 refine dB 14463 ga ?_ (x := lD [val _] dm)
 refine dB 127 ga ?_ (x := sM)
 refine dB 63615 ga ?_ (x := fT (k := i) (G := 2900) (by decide) bJ (by exact ⟨⟩) (by first | exact hf2 | omega) (by first | (rw [List.length_map]; exact hil) | exact hil))
 refine dB 129151 ga ?_ (x := lF ph)
 refine dB 260223 ga ?_ (x := oi (o := 4) (qs := [val _]) (by omega) (by decide) aq (fun _ => rfl) (by exact nl rfl) (by exact (ab.cons (PV.To.refl _) ab.nil)) (by exact (ae.cons (bor_val _) ae.nil)))
 refine dB 524287 ga ?_ (x := cL [(true, [val _, sl _ _, val _, val _]), (false, [val _])] [(true, [val _, sl .v _, val _, val _]), (false, [val _])] JN (hs := by exact Kk))
 refine dA 1048575 ?_ (x := aA ga)
 refine sc (fun hbd => ?_) (fun hbd => ?_)
 have hvv : de (bp e)[j] e.Active[i].Time = true := by rw [← hz5]; simpa using hbd
 refine Ib ?_
 refine mf ?_
 refine yd ?_
 refine dA 0 ?_ (x := sM)
 refine na ?_
 refine x0 ?_
 refine xt ?_
 refine dA 2016 ?_ (x := lF lv)
 refine dA 4064 ?_ (x := wl (o := 9) (ms := [sl _ _]) (qs := [sl .v _]) (by omega) (by decide) ir (fun _ => rfl) (by exact nl rfl) (by exact rfl) (by exact (ab.cons PV.to_none ab.nil)) (by exact (ae.cons (bor_sl _) ae.nil)))
 refine dA 0 ?_ (x := lD [val _, sl .v _] ew)
 refine dA 8192 ?_ (x := cL [(true, [val _, sl _ _])] [(true, [val _, sl .v _])] IF (hs := by exact (Kh (x := dr zP.1[j]) (by omega))))
 refine dA 24576 ?_ (x := bd (qs := [(true, [val _, sl _ _])]) (by decide) fu ff (by decide) rfl rfl rfl rfl rfl (by exact nl rfl) (by exact (aI (by exact ⟨⟩) tI)) rfl)
 refine dA 65504 ?_ (x := c8 (by decide) fu ff rfl rfl (by decide) rfl (by simp only [List.length_map, List.length_append, List.length_cons, List.length_nil]; omega) (by simp only [List.length_map, List.length_append, List.length_cons, List.length_nil]; omega))
 refine dA 131071 ?_ (x := fT (k := i) (G := 2900) (by decide) bJ (by exact ⟨⟩) (by first | exact hf2 | omega) (by first | (rw [List.length_map]; exact hil) | exact hil))
 refine dA 262143 ?_ (x := lF lv)
 refine dA 524287 ?_ (x := kd (o := 9) (ag := false) (vs := [sl _ _]) (by omega) ir (by exact ⟨⟩) (by exact rfl) (by exact nl rfl))
 refine sO [(0, _), (1, _), (5, _), (6, _), (7, _), (8, _), (9, _), (10, _), (11, _), (12, _), (13, _), (14, _), (15, _), (2900, _), (5000, _)] [(0, _), (6, _), (8, _), (13, _), (900, (108, _ ++ ([val _, val _, sl _ _, sl _ _, val _, sl _ _, val _, val _, val _, sl _ _] ++ _)))] ?_
 refine nr ?_
 exact w5
 have hvv : de (bp e)[j] e.Active[i].Time = false := by rw [← hz5]; simpa using hbd
 refine aN ?_
 exact w5
 have hmm : eb e.Active[i].Query (dr (bp e)[j]) = false := by rw [← hph, ← hz4]; simpa using ga
 have sga := ga
 try simp only [qq] at sga
 refine dF 127 ga ?_
 refine dF 127 ga ?_
 refine dF 511 ga ?_
 refine dF 1023 ga ?_
 refine dF 127 ga ?_
 refine dF 2175 ga ?_
 refine dF 6271 ga ?_
 refine dF 14463 ga ?_
 refine dF 127 ga ?_
 refine dF 63615 ga ?_
 refine dF 129151 ga ?_
 refine dF 260223 ga ?_
 refine dF 524287 ga ?_
 refine dA 1048575 ?_ (x := ay ga)
 refine dk ?_
 refine aN ?_
 exact w5
 have hjend : j = (bp e).length := by omega
 have hgt : gY e e.Active[i] j = gk e e.Active[i] := by rw [hjend]; exact Rq
 rw [hgt]
 refine et ?_
 refine sO [(0, _), (1, _), (5, _), (6, _), (7, _), (8, _), (9, _), (10, _), (11, _), (12, _), (2900, _), (5000, _)] [(0, (32, [sl _ _, val _, val _, sl _ _, val _, sl _ _, sl _ _, val _])), (6, (124, [sl _ _, sl _ _])), (8, (70, [val _, val _, sl _ _, sl _ _, sl _ _])), (900, (108, _ ++ ([val _, val _, sl _ _, sl _ _, val _, sl _ _, val _, val _, val _, sl _ _] ++ _)))] ?_
 refine aM ?_
 refine rA ?_ (x := lF jQ)
 refine pc ?_
 refine rA ?_ (x := lF jQ)
 refine oJ ?_
 refine sO [(0, _), (1, _), (5, _), (6, _), (7, _), (8, _), (9, _), (10, _), (11, _), (12, _), (2900, _), (5000, _)] [(0, _), (6, _), (8, (70, [val _, val _, sl _ _, sl _ _, sl _ _])), (900, _)] ?_
 refine mf ?_
 refine yd ?_
 refine dA 0 ?_ (x := sM)
 refine na ?_
 refine x0 ?_
 refine xt ?_
 refine dA 2016 ?_ (x := lF jN)
 refine dA 4064 ?_ (x := oi (o := 7) (qs := [val _]) (by omega) (by decide) aq (fun _ => rfl) (by exact nl rfl) (by exact (ab.cons (PV.To.refl _) ab.nil)) (by exact (ae.cons (bor_val _) ae.nil)))
 refine dA 0 ?_ (x := sM)
 refine dA 16352 ?_ (x := gI)
 refine dA 32767 ?_ (x := fT (k := i) (G := 2900) (by decide) bJ (by exact ⟨⟩) (by first | exact hf2 | omega) (by first | (rw [List.length_map]; exact hil) | exact hil))
 refine dA 65535 ?_ (x := lF jN)
 refine dA 131071 ?_ (x := kd (o := 7) (ag := false) (vs := [val _]) (by omega) aq (by exact ⟨⟩) (by exact rfl) (by exact nl rfl))
 refine sO [(0, _), (1, _), (5, _), (6, _), (7, _), (8, _), (9, _), (10, _), (11, _), (12, _), (2900, _), (5000, _)] [(0, _), (6, _), (8, _), (900, (108, _ ++ ([val _, val _, sl _ _, sl _ _, val _, sl _ _, val _, val _, val _, sl _ _] ++ _)))] ?_
 refine mf ?_
 refine yd ?_
 refine dA 0 ?_ (x := sM)
 refine na ?_
 refine x0 ?_
 refine xt ?_
 refine dA 2016 ?_ (x := lF gO)
 refine dA 4064 ?_ (x := oi (o := 5) (qs := [sl .v _]) (by omega) (by decide) aZ (fun _ => rfl) (by exact nl rfl) (by exact (ab.cons PV.to_none ab.nil)) (by exact (ae.cons (bor_sl _) ae.nil)))
 refine dA 0 ?_ (x := cM Cp.ptr)
 refine dA 8192 ?_ (x := fU (by decide))
 refine dA 24576 ?_ (x := lF gR)
 refine dA 57344 ?_ (x := lD [val _] aq)
 refine dA 131040 ?_ (x := cL [(false, [sl _ _]), (false, [val _])] [(false, [sl .v _]), (false, [val _])] PO (hs := by exact (SC (by omega))))
 refine dA 262143 ?_ (x := fT (k := i) (G := 2900) (by decide) bJ (by exact ⟨⟩) (by first | exact hf2 | omega) (by first | (rw [List.length_map]; exact hil) | exact hil))
 refine dA 524287 ?_ (x := lF gO)
 refine dA 1048575 ?_ (x := kd (o := 5) (ag := false) (vs := [sl _ _]) (by omega) aZ (by exact ⟨⟩) (by exact rfl) (by exact nl rfl))
 refine cD (d := 900) (by exact rfl) (kZ (iW e e.Active[i]) hil (by exact rfl)) ?_
 refine mM (d := 0) (D := 900) (G := 2900) (e := 10) (A := [sl _ _, val _, val _, sl _ _]) (B := [sl _ _, sl _ _, val _]) (es := (((bj e k)).set i (iW e e.Active[i])).map (aG (.own 178 3) (.own 3 1) (.own 3 1) (.own 54 2) (.own 3 1))) (by exact rfl) (by exact rfl) (by exact rfl) rfl (by rw [List.length_map, List.length_set, List.length_map]) (by intro c hc; obtain ⟨y, _, rfl⟩ := List.mem_map.1 hc; exact rfl) (by rw [List.length_map]; exact hjk900) ?_
 refine sO [(0, _), (1, _), (5, _), (6, _), (7, _), (8, _), (9, _), (10, _), (11, _), (12, _), (5000, _)] [(0, (32, [sl _ _, val _, val _, sl _ _, sl _ _, sl _ _, sl _ _, val _])), (6, _), (8, _)] ?_
 refine mP (s := 7) [val zP.2] (by exact rfl) (by exact (ab.cons PV.nv_val ab.nil)) (by exact (ae.cons (bor_val _) ae.nil)) ?_
 refine sG [0, 1, 5, 6, 7, 8, 9, 10, 11, 12, 5000] [0, 6, 8] ?_
 refine bF ?_
 refine nx (k + 1) (by omega) (f := (by exact aI (by rw [← KE hoe hlt hi hid]; exact rfl) (aI (by rw [Rs hlt hi hf]; simp only [List.map_append]; exact rfl) (tI))))
 have hend : k = (parts e).length := by omega
 subst hend
 rw [Rt]
 have hcg2 := ve (e := e) (Nat.le_refl _)
 refine aX ?_
 refine sQ [0, 1, 5, 6, 7, 8, 9, 5000] [0, 6, 8] ?_
 refine Ns (d := 0) (t := 139) (A := []) (B := [val _, val _, sl _ _, sl _ _, sl _ _, sl _ _, val _]) (f := (fun l : List aF => sl (.own 184 4) (l.map (dO (.own 3 1))))) hzsS (by exact rfl) ?_
 refine sO [(0, _), (1, _), (5, _), (6, _), (7, _), (8, _), (9, _), (5000, _)] [(0, (32, [sl _ _, val _, val _, sl _ _, sl _ _, sl _ _, sl _ _, val _])), (6, _), (8, _)] ?_
 refine yA ?_
 refine qL ?_
 refine dA 6 ?_ (x := lF gt)
 refine dA 14 ?_ (x := b8 (ms := [sl _ _]) (qs := [sl .v _]) (by decide) gw (fun _ => rfl) (by exact nl rfl) (by exact rfl) (by exact (ab.cons PV.to_none ab.nil)) (by exact (ae.cons (bor_sl _) ae.nil)))
 refine dA 0 ?_ (x := b8 (ms := [val _, val _, sl _ _, sl _ _, sl _ _]) (qs := [val _, val _, any, any, any]) (by decide) it (fun h => nomatch h) (by exact nl rfl) (by exact rfl) (by exact (ab.cons (PV.To.refl _) (ab.cons (PV.To.refl _) (ab.cons PV.to_any (ab.cons PV.to_any (ab.cons PV.to_any ab.nil)))))) (by exact lq))
 refine dA 32 ?_ (x := bd (qs := [(true, [val _, val _, sl _ _, sl _ _, sl _ _])]) (by decide) fq gT (by decide) rfl rfl rfl rfl rfl (by exact nl rfl) (by exact (aI (by exact ⟨⟩) tI)) rfl)
 refine dA 126 ?_ (x := c8 (by decide) fq gT rfl rfl (by decide) rfl (by simp only [List.length_map, List.length_append, List.length_cons, List.length_nil]; omega) (by simp only [List.length_map, List.length_append, List.length_cons, List.length_nil]; omega))
 refine dA 255 ?_ (x := fU (by decide))
 refine dA 511 ?_ (x := lF gt)
 refine dA 1023 ?_ (x := aQ (ag := false) (vs := [sl _ _]) gw (by exact ⟨⟩) (by exact rfl) (by exact nl rfl))
 exact ⟨(by simp only [List.map_append]; exact rfl), rfl, tI⟩
end Go.Proofs.YtmekkgdboplbjaaGreat
