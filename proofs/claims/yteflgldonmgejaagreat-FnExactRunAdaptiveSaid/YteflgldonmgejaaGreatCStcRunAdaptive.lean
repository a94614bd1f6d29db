/- What functions of the program compute. No condition. -/
import Derived.Test.YteflgldonmgejaaGreatCZMRunAdaptive
import Derived.Test.YteflgldonmgejaaGreatCFcRunAdaptive
import Derived.Test.YteflgldonmgejaaGreatCStaRunAdaptive
import Derived.Test.YteflgldonmgejaaGreatCPrbRunAdaptive
import Derived.Test.YteflgldonmgejaaGreatCCpyRunAdaptive
import Derived.KernelRfl
set_option linter.unusedVariables false
set_option linter.unusedSimpArgs false
namespace Go.Proofs.YteflgldonmgejaaGreat
open Go Go.RowKit M PV
set_option maxRecDepth 10000
attribute [local irreducible] PV.Lcl PV.LclR RV.Lcl
set_option maxHeartbeats 8000000
theorem FStc_pl_148 : placesI Tryz.prog 148 = some [(0, 1), (1, 1), (2, 1), (3, 1), (4, 1)] := by kernel_rfl
theorem FStc_pl_66 : placesI Tryz.prog 66 = some [(0, 1), (1, 1)] := by kernel_rfl
theorem spec_l11Scan {e : Engine} {ids : List Int}  (hids : ids = parts e) (hoe : okEngine e = true) (hb : wtEngine e ≤ 68719000000) : XCall Tryz.prog 207 40 [sl (.own 149 1) (e.Store.Segments.map (cVersionS (.own 151 4) (.own 3 1))), val (vI e.Store.Now), val (vI e.Cursor), sl (.own 3 1) (e.Order.map cInt), sl (.own 142 10) (e.Active.map (cActive (.own 193 3) (.own 3 1) (.own 3 1) (.own 66 2) (.own 3 1))), sl (.own 144 7) (e.Done.map (cFinished (.own 193 3) (.own 3 1) (.own 66 2) (.own 3 1))), sl (.own 148 5) (e.Ledger.map (cCharge (.own 3 1) (.own 3 1) (.own 3 1))), val (vI e.Steps)] [sl (.own 149 1) (e.Store.Segments.map (cVersionS (.own 151 4) (.own 3 1))), val (vI e.Store.Now), val (vI e.Cursor), sl (.own 3 1) (e.Order.map cInt), sl (.own 142 10) ((servedTo e (parts e).length).map (cActive (.own 193 3) (.own 3 1) (.own 3 1) (.own 66 2) (.own 3 1))), sl (.own 144 7) (e.Done.map (cFinished (.own 193 3) (.own 3 1) (.own 66 2) (.own 3 1))), sl (.own 148 5) ((e.Ledger ++ [scgTo e (parts e).length]).map (cCharge (.own 3 1) (.own 3 1) (.own 3 1))), val (vI e.Steps)] [(false, [sl (.own 3 1) (ids.map cInt)])] (resRV []) := by
 refine xcall_of (rs := []) Tryz.func207 rfl (nl rfl) (nl rfl) ?_
 intro g_ h0 w0 Fz0
 refine sj 1 fun hl1 => ?_
 subst hids
 have hef := eng_facts hoe
 have hcl : e.Cursor.toNat < e.Store.Segments.length := hef.2.2.2.1
 have hpl := parts_len (e := e)
 have hs4 := segV_le hoe
 have hql2 := partQ_ok hoe
 have hxo := buildIdx_ok hql2
 have hbu := hb
 simp only [wtEngine, wtActiveS, wtFinishedS, wtChargeS] at hbu
 refine sR ?_
 refine zko ?_
 refine sw_seq ?_
 refine sT [0, 1, 4, 5000] [0] ?_
 refine zhx ?_
 refine sP [0, 1, 4, 5, 5000] [0] ?_
 refine sL [0, 1, 5000] [0] (fun k : Nat => k ≤ (parts e).length) (fun k : Nat => [(4, RV.slc (.own 65 4) ((partQ e.Active ((parts e).take k)).map (cQuery .v .v))), (5, RV.int (k : Int))]) (fun k : Nat => []) (fun k : Nat => (parts e).length - k) 0 (by omega) (by exact aI (by exact rfl) (aI (by exact rfl) (tI))) (by exact ⟨⟩) ?_
 rintro k hk
 refine zb2 ?_
 refine sc (fun hba => ?_) (fun hba => ?_)
 have hlt : k < (parts e).length := by omega
 have hpk : (parts e)[k] ∈ partsOf e e.Active := by rw [← parts_yes hoe]; exact List.getElem_mem hlt
 have hfp := findA_part hpk
 have hql : (partQ e.Active ((parts e).take k)).length = k := by unfold partQ; rw [List.length_map, List.length_take]; omega
 refine zed ?_
 refine sQ [0, 1, 4, 5, 5000] [0] ?_
 refine zn4 ?_
 refine zpz ?_
 refine dA 6 ?_ (x := lF fd_40_3)
 refine dA 14 ?_ (x := lD [sl .v _] ty_36)
 refine zq0 ?_
 refine dA 96 ?_ (x := lD [sl .v _, val _, val _, sl .v _, sl .v _, sl .v _, sl .v _, val _] ty_40)
 refine zck ?_
 refine dA 768 ?_ (x := loc_index (by decide) sl_25 (by exact ⟨⟩) (by exact rfl) (by exact getm2 (by omega) rfl) (by exact rfl))
 refine dA 1792 ?_ (x := lE [val _] ty_3)
 refine dA 4064 ?_ (x := cL [(true, [sl _ _, val _, val _, sl _ _, sl _ _, sl _ _, sl _ _, val _]), (false, [val _])] [(true, [sl .v _, val _, val _, sl .v _, sl .v _, sl .v _, sl .v _, val _]), (false, [val _])] c_104 (hs := by exact spec_FindActive))
 refine dA 8190 ?_ (x := loc_index (k := (findA e.Active (parts e)[k]).toNat) (by decide) sl_36 (by exact ⟨⟩) (by omega) (by exact getm2 hfp.2 (by rw [gDt_ (d := a0_) hfp.2])) (by exact rfl))
 refine dA 16382 ?_ (x := loc_efield (by decide) fd_142_0 (by exact nl rfl))
 refine dA 32766 ?_ (x := lE [val _, val _, sl .v _, sl .v _] ty_65)
 refine dA 65534 ?_ (x := loc_bslice (qs := [(true, [val _, val _, sl _ _, sl _ _])]) (by decide) sl_89 z_65 (by decide) rfl rfl rfl rfl rfl (by exact nl rfl) (by exact (aI (by exact ⟨⟩) tI)) rfl)
 refine dA 131071 ?_ (x := loc_append (by decide) sl_89 z_65 rfl rfl (by decide) rfl (by simp only [List.length_map, List.length_append, List.length_cons, List.length_nil]; omega) (by simp only [List.length_map, List.length_append, List.length_cons, List.length_nil]; omega))
 refine dA 262143 ?_ (x := tA)
 refine sG [0, 1, 4, 5, 5000] [0] ?_
 exact zoz
 have hend : k = (parts e).length := by omega
 rw [hend, List.take_length]
 refine sw_exit ?_
 refine sT [0, 1, 4, 5, 5000] [0] ?_
 refine zp0 ?_
 refine zks ?_
 refine sw_seq ?_
 refine sO [(0, _), (1, _), (4, _), (5, _), (6, _), (5000, _)] [(0, _), (6, (92, [sl _ _, sl _ _]))] ?_
 refine sw_nameB (d := 0) (t := 149) (A := []) (B := [val _, val _, sl _ _, sl _ _, sl _ _, sl _ _, val _]) (f := (fun l : List Version => sl (.own 151 4) (l.map (cVersion (.own 3 1))))) (xs := e.Store.Segments) (by exact rfl) fun zsS hzsS => ?_
 obtain ⟨zP, hzP, hzP1⟩ := nm_at hzsS hcl
 have hzP2 : zP.1 = segV e := hzP1.trans (segV_eq hcl)
 have hzl : zP.1.length = (segV e).length := by rw [hzP2]
 refine sO [(0, _), (1, _), (4, _), (5, _), (6, _), (5000, _)] [(0, (40, [sl _ _, val _, val _, sl _ _, sl _ _, sl _ _, sl _ _, val _])), (6, _)] ?_
 refine zq1 ?_
 refine dA 3 ?_ (x := lF fd_40_0)
 refine dA 7 ?_ (x := lF fd_35_0)
 refine dA 15 ?_ (x := lD [sl .v _] ty_33)
 refine zq0 ?_
 refine dA 96 ?_ (x := lF fd_40_1)
 refine dA 224 ?_ (x := lD [val _] ty_3)
 refine dA 511 ?_ (x := loc_index (k := e.Cursor.toNat) (by decide) sl_33 (by exact ⟨⟩) (by omega) (by rw [List.getElem?_map, hzP]; exact rfl) (by exact rfl))
 refine dA 1023 ?_ (x := loc_eload (qs := [nv _ (sl .v _)]) (by decide) ty_149 (fun _ => rfl) (by exact nl rfl) (by exact (ToL.cons (PV.To.refl _) ToL.nil)) (by exact (BorL.cons (bor_nv (bor_sl _)) BorL.nil)))
 refine dA 2047 ?_ (x := loc_copy (r' := RV.sv false [nv _ (sl .v _)]) (.inr rfl) (by decide) (by exact Cp.sv (ToL.cons (PV.To.refl _) ToL.nil) (BorL.cons (bor_nv (bor_sl _)) BorL.nil)))
 refine sw_seq ?_
 refine sP [0, 1, 4, 5, 6, 7, 5000] [0, 6] ?_
 refine zq1 ?_
 refine dA 3 ?_ (x := lF fd_40_1)
 refine dA 7 ?_ (x := lD [val _] ty_3)
 refine dA 0 ?_ (x := loc_copy (r' := RV.sv false [sl .v _]) (.inl rfl) (by decide) (by exact Cp.sv (ToL.cons (PV.nv_to PV.to_none) ToL.nil) (BorL.cons (bor_sl _) BorL.nil)))
 refine dA 16 ?_ (x := lN sl_149)
 refine dA 0 ?_ (x := loc_bslice (qs := []) (by decide) sl_25 z_3 (by decide) rfl rfl rfl rfl rfl (by exact nl rfl) (by exact ⟨⟩) rfl)
 refine dA 0 ?_ (x := vM false [sl .v _])
 refine dA 192 ?_ (x := loc_appendb (by decide) sl_25 z_3 rfl rfl (by decide) (by first | (intro cs hcs; obtain ⟨x, _, rfl⟩ := List.mem_map.1 hcs; exact rfl) | simp) (by first | (intro cs hcs; obtain ⟨x, _, rfl⟩ := List.mem_map.1 hcs; exact (BorL.cons (bor_val _) BorL.nil)) | simp) (by simp only [List.length_map, List.length_append, List.length_cons, List.length_nil]; omega) (by simp only [List.length_map, List.length_append, List.length_cons, List.length_nil]; omega))
 refine dA 511 ?_ (x := loc_build (qs := [(false, [val _]), (false, [val _]), (false, [sl _ _])]) (cs := [val _, val _, sl _ _, sl _ _, sl _ _]) (by decide) z_148 zo_148 FStc_pl_148 (by exact rfl) (by exact (aI (by exact ⟨⟩) (aI (by exact ⟨⟩) (aI (by exact ⟨⟩) tI)))) rfl (by exact rfl))
 refine Run.step 0 (by exact ⟨⟩) (by exact ⟨⟩) (LocG.of rfl (loc_alloc (by decide) z_148 zo_148)) (free1 (Free.of_ rfl)) (by kernel_rfl) ?_
 refine dA 2047 ?_ (x := loc_store (ag := true) (vs := [val _, val _, sl _ _, sl _ _, sl _ _]) ty_148 (by exact ⟨⟩) (by exact rfl) (by exact nl rfl))
 refine zie ?_
 refine sO [(0, _), (1, _), (4, _), (5, _), (6, _), (7, _), (8, _), (5000, _)] [(0, _), (6, _), (8, (148, [val _, val _, sl _ _, sl _ _, sl _ _]))] ?_
 refine sw_reg ?_
 refine zhx ?_
 refine sP [0, 1, 5, 6, 7, 8, 9, 5000] [0, 6, 8] ?_
 refine sw_weak (s := 7) [val zP.2] (by exact rfl) (by exact (ToL.cons PV.nv_val ToL.nil)) (by exact (BorL.cons (bor_val _) BorL.nil)) ?_
 refine sP [0, 1, 5, 6, 7, 8, 9, 5000] [0, 6, 8] ?_
 refine sL [0, 1, 5, 6, 7, 8, 5000] [6] (fun k : Nat => k ≤ (parts e).length) (fun k : Nat => [(9, RV.int (k : Int))]) (fun k : Nat => [(0, (40, [sl (.own 149 1) (zsS.map (nmv (fun l : List Version => sl (.own 151 4) (l.map (cVersion (.own 3 1)))))), val (vI e.Store.Now), val (vI e.Cursor), sl (.own 3 1) (e.Order.map cInt), sl (.own 142 10) ((servedTo e k).map (cActive (.own 193 3) (.own 3 1) (.own 3 1) (.own 66 2) (.own 3 1))), sl (.own 144 7) (e.Done.map (cFinished (.own 193 3) (.own 3 1) (.own 66 2) (.own 3 1))), sl (.own 148 5) (e.Ledger.map (cCharge (.own 3 1) (.own 3 1) (.own 3 1))), val (vI e.Steps)])), (8, (148, [val (vI (scgS e k).Segment), val (vI (scgS e k).Base), sl (.own 3 1) ((scgS e k).Ids.map cInt), sl (.own 3 1) ((scgS e k).Tenants.map cInt), sl (.own 3 1) ((scgS e k).Rows.map cInt)]))]) (fun k : Nat => (parts e).length - k) 0 (by omega) (by exact aI (by exact rfl) (tI)) (by exact aI (by rw [servedTo_zero]; exact rfl) (aI (by rw [show (scgS e 0).Base = ((zP.1.length : Nat) : Int) by rw [hzl]; rfl]; exact rfl) (tI))) ?_
 rintro k hk
 have hcg := scgS_len (e := e) hk
 have hsl := servedTo_len (e := e) (k := k)
 refine zb2 ?_
 refine sc (fun hbb => ?_) (fun hbb => ?_)
 have hlt : k < (parts e).length := by omega
 obtain ⟨i, hi, hf, hid, hpp⟩ := part_at hoe hlt
 have hf2 : findA (servedTo e k) (parts e)[k] = (i : Int) := (findA_served _).trans hf
 have hil : i < (servedTo e k).length := by omega
 have hoa := act_b (hef.2.2.2.2.2.2.2.2.2.1 _ (List.getElem_mem hi))
 have hwa := wt_mem (f := wtActive) hi
 have hwq : wtActive e.Active[i] = wtQuery e.Active[i].Query + e.Active[i].Todo.length + wtRowS e.Active[i].Rows := by simp only [wtActive, wtIntS_len, wtInt]; omega
 have hga4 := gotA_len hoe e.Active[i]
 have hqm := partQ_mem hoe hi hpp
 refine zdx ?_
 refine sQ [0, 1, 5, 6, 7, 8, 9, 5000] [0, 6, 8] ?_
 refine zq1 ?_
 refine dA 3 ?_ (x := lD [sl .v _, val _, val _, sl .v _, sl .v _, sl .v _, sl .v _, val _] ty_40)
 refine zck ?_
 refine dA 24 ?_ (x := loc_index (by decide) sl_25 (by exact ⟨⟩) (by exact rfl) (by exact getm2 (by omega) rfl) (by exact rfl))
 refine dA 56 ?_ (x := lE [val _] ty_3)
 refine dA 127 ?_ (x := loc_call (qs := [(true, [sl _ _, val _, val _, sl _ _, sl _ _, sl _ _, sl _ _, val _]), (false, [val _])]) (as_ := [(true, [sl .v (e.Store.Segments.map (cVersionS .v (.own 3 1))), val _, val _, sl .v _, sl .v _, sl .v _, sl .v _, val _]), (false, [val _])]) (by decide) c_104 (by exact (aI (by exact ⟨⟩) (aI (by exact ⟨⟩) tI))) (by exact (aI (aI rfl (ToL.cons (q := sl .v (e.Store.Segments.map (cVersionS .v (.own 3 1)))) (nm_to (g := cVersionS .v (.own 3 1)) hzsS (fun x => ToL.cons PV.to_none ToL.nil)) (ToL.cons (PV.To.refl _) (ToL.cons (PV.To.refl _) (ToL.cons PV.to_none (ToL.cons PV.to_none (ToL.cons PV.to_none (ToL.cons PV.to_none (ToL.cons (PV.To.refl _) ToL.nil))))))))) (aI (aI rfl (ToL.cons (PV.To.refl _) ToL.nil)) tI))) (by exact (spec_FindActive (e := engAt e k) (id := (parts e)[k]))))
 refine dA 255 ?_ (x := sA)
 refine sw_seq ?_
 refine sP [0, 1, 5, 6, 7, 8, 9, 10, 5000] [0, 6, 8] ?_
 refine sw_thawB (d := 0) (t := 40) (D := 900) (G := 2900) (E := 142) (e := 10) (L := L0w) (A := [sl _ _, val _, val _, sl _ _]) (B := [sl _ _, sl _ _, val _]) (es := ((servedTo e k)).map (cActive (.own 193 3) (.own 3 1) (.own 3 1) (.own 66 2) (.own 3 1))) (by exact rfl) (map_ne hil) (by exact rfl) (by exact rfl) rfl (by exact rfl) (fun x hx => hx.elim) (by exact lq) (by exact lq) (by exact lq) (by exact lq) (LclC.map fun x => (LclC.cons lcl_val (LclC.cons lcl_val (LclC.cons (lcl_own (LclC.map fun x => (LclC.cons lcl_val (LclC.cons lcl_val (LclC.cons lcl_val LclC.nil))))) (LclC.cons (lcl_own (LclC.map fun x => (LclC.cons lcl_val LclC.nil))) (LclC.cons lcl_val (LclC.cons (lcl_own (LclC.map fun x => (LclC.cons lcl_val LclC.nil))) (LclC.cons lcl_val (LclC.cons lcl_val (LclC.cons lcl_val (LclC.cons (lcl_own (LclC.map fun x => (LclC.cons lcl_val (LclC.cons (lcl_own (LclC.map fun x => (LclC.cons lcl_val LclC.nil))) LclC.nil)))) LclC.nil))))))))))) fun uu900 cp900 jk900 hlD900 hcp900 hjk900 => ?_
 rw [List.length_map] at hlD900 hcp900 hjk900
 refine sw_boxEq (d := 900) (by exact rfl) (at_split (k := i) hil) ?_
 have hA900 := at_len (f := (cActive (.own 193 3) (.own 3 1) (.own 3 1) (.own 66 2) (.own 3 1))) (e := 10) (xs := (servedTo e k)) (k := i) (fun _ => rfl) (Nat.le_of_lt hil)
 refine sw_boxEq (d := 900) (by exact rfl) (congrArg (fun z_ => ((((servedTo e k)).take i).map (cActive (.own 193 3) (.own 3 1) (.own 3 1) (.own 66 2) (.own 3 1))).flatten ++ ((cActive (.own 193 3) (.own 3 1) (.own 3 1) (.own 66 2) (.own 3 1)) z_ ++ (((((servedTo e k)).drop (i + 1)).map (cActive (.own 193 3) (.own 3 1) (.own 3 1) (.own 66 2) (.own 3 1))).flatten ++ jk900.map val))) (servedTo_at hoe hlt hi hid hil)) ?_
 refine sO [(0, _), (1, _), (5, _), (6, _), (7, _), (8, _), (9, _), (10, _), (2900, _), (5000, _)] [(0, (40, [sl _ _, val _, val _, sl _ _, val _, sl _ _, sl _ _, val _])), (6, _), (8, _), (900, (142, _ ++ ([val _, val _, sl _ _, sl _ _, val _, sl _ _, val _, val _, val _, sl _ _] ++ _)))] ?_
 refine zle ?_
 refine dA 1 ?_ (x := loc_ltake (ms := [sl _ _]) (qs := [sl .v _]) (by decide) ty_25 (fun _ => rfl) (by exact nl rfl) (by exact rfl) (by exact (ToL.cons PV.to_none ToL.nil)) (by exact (BorL.cons (bor_sl _) BorL.nil)))
 refine dA 0 ?_ (x := cM Cp.ptr)
 refine dA 4 ?_ (x := loc_nilchk (by decide))
 refine dA 12 ?_ (x := lF fd_40_3)
 refine dA 28 ?_ (x := lD [val _] ty_36)
 refine dA 0 ?_ (x := sM)
 refine dA 124 ?_ (x := loc_gidx (k := i) (G := 2900) (by decide) sl_36 (by exact ⟨⟩) (by first | exact hf2 | omega) (by first | (rw [List.length_map]; exact hil) | exact hil))
 refine dA 252 ?_ (x := lF fd_142_0)
 refine dA 508 ?_ (x := lF fd_65_1)
 refine dA 1020 ?_ (x := loc_loadM (o := 1) (qs := [val _]) (by omega) (by decide) ty_3 (fun _ => rfl) (by exact nl rfl) (by exact (ToL.cons (PV.To.refl _) ToL.nil)) (by exact (BorL.cons (bor_val _) BorL.nil)))
 refine dA 2044 ?_ (x := loc_bslice (qs := [(false, [val _])]) (by decide) sl_25 z_3 (by decide) rfl rfl rfl rfl rfl (by exact nl rfl) (by exact (aI (by exact ⟨⟩) tI)) rfl)
 refine dA 4095 ?_ (x := loc_append (by decide) sl_25 z_3 rfl rfl (by decide) rfl (by simp only [List.length_map, List.length_append, List.length_cons, List.length_nil]; omega) (by simp only [List.length_map, List.length_append, List.length_cons, List.length_nil]; omega))
 refine dA 8191 ?_ (x := lF fd_148_3)
 refine zn1 ?_
 refine sO [(0, _), (1, _), (5, _), (6, _), (7, _), (8, _), (9, _), (10, _), (2900, _), (5000, _)] [(0, _), (6, _), (8, (148, [val _, val _, sl _ _, sl _ _, sl _ _])), (900, _)] ?_
 refine sw_reg ?_
 refine zee ?_
 refine sw_seq ?_
 refine sP [0, 1, 5, 6, 7, 8, 9, 10, 11, 2900, 5000] [0, 6, 8, 900] ?_
 refine sw_again (s := 7) (d := 0) (t := 149) (k := e.Cursor.toNat) (A := []) (B := [val _, val _, sl _ _, val _, sl _ _, sl _ _, val _]) (f := (fun l : List Version => sl (.own 151 4) (l.map (cVersion (.own 3 1))))) (q := (fun l : List Version => sl .v (l.map (cVersion (.own 3 1))))) (by exact rfl) (by exact rfl) hzP PV.to_none (by exact bor_sl _) ?_
 refine sG [0, 1, 5, 6, 7, 8, 9, 10, 11, 2900, 5000] [0, 6, 8, 900] ?_
 refine zhx ?_
 refine sP [0, 1, 5, 6, 7, 8, 9, 10, 11, 12, 2900, 5000] [0, 6, 8, 900] ?_
 refine sL [0, 1, 5, 6, 7, 8, 9, 10, 2900, 5000] [0, 6, 8] (fun j : Nat => j ≤ (segV e).length) (fun j : Nat => [(11, RV.int ((gotV e e.Active[i] j).length : Int)), (12, RV.int (j : Int))]) (fun j : Nat => [(900, (142, (((servedTo e k).take i).map (cActive (.own 193 3) (.own 3 1) (.own 3 1) (.own 66 2) (.own 3 1))).flatten ++ ([val (vI e.Active[i].Query.Id), val (vI e.Active[i].Query.Tenant), sl (.own 193 3) (e.Active[i].Query.Conds.map cCond), sl (.own 3 1) (e.Active[i].Query.Out.map cInt), val (vI e.Active[i].Time), sl (.own 3 1) (e.Active[i].Todo.map cInt), val (vI e.Active[i].Age), val (vI e.Active[i].Sent), val (vI e.Active[i].Cap), sl (.own 66 2) ((e.Active[i].Rows ++ gotV e e.Active[i] j).map (cRow (.own 3 1)))] ++ ((((servedTo e k).drop (i + 1)).map (cActive (.own 193 3) (.own 3 1) (.own 3 1) (.own 66 2) (.own 3 1))).flatten ++ jk900.map val))))]) (fun j : Nat => (segV e).length - j) 0 (by omega) (by exact aI (by exact rfl) (aI (by exact rfl) (tI))) (by exact aI (by show _ = some (142, (((servedTo e k).take i).map (cActive (.own 193 3) (.own 3 1) (.own 3 1) (.own 66 2) (.own 3 1))).flatten ++ ([val (vI e.Active[i].Query.Id), val (vI e.Active[i].Query.Tenant), sl (.own 193 3) (e.Active[i].Query.Conds.map cCond), sl (.own 3 1) (e.Active[i].Query.Out.map cInt), val (vI e.Active[i].Time), sl (.own 3 1) (e.Active[i].Todo.map cInt), val (vI e.Active[i].Age), val (vI e.Active[i].Sent), val (vI e.Active[i].Cap), sl (.own 66 2) ((e.Active[i].Rows ++ gotV e e.Active[i] 0).map (cRow (.own 3 1)))] ++ ((((servedTo e k).drop (i + 1)).map (cActive (.own 193 3) (.own 3 1) (.own 3 1) (.own 66 2) (.own 3 1))).flatten ++ jk900.map val))); rw [show gotV e e.Active[i] 0 = [] from rfl, List.append_nil]; exact rfl) (tI)) ?_
 rintro j hj
 have hgl := gotV_le (e := e) (a := e.Active[i]) (j := j)
 refine zdt ?_
 refine zd7 ?_
 refine sc (fun hbc => ?_) (fun hbc => ?_)
 have hj2 : j < (segV e).length := by omega
 have hjz : j < zP.1.length := by omega
 have hz4 : rowOfV zP.1[j] = rowOfV (segV e)[j] := by simp [hzP2]
 have hz5 : visV zP.1[j] e.Active[i].Time = visV (segV e)[j] e.Active[i].Time := by simp [hzP2]
 have hro : okRow (rowOfV zP.1[j]) = true := by rw [hz4]; exact seg_ok hoe _ (List.getElem_mem hj2)
 have hrv := rowLen hro
 have hrv : zP.1[j].Values.length = 3 := hrv
 have hph := probe_has (q := e.Active[i].Query) hql2 hro hef.2.1 hqm
 rw [hid, hz4] at hph
 have hwr : wtRow (rowOfV zP.1[j]) = 3 := by simp only [rowOfV, wtRow, wtIntS_len, wtInt]; omega
 refine zdx ?_
 refine sO [(0, _), (1, _), (5, _), (6, _), (7, _), (8, _), (9, _), (10, _), (11, _), (12, _), (2900, _), (5000, _)] [(0, (40, [sl _ _, val _, val _, sl _ _, val _, sl _ _, sl _ _, val _])), (6, (92, [sl _ _, sl _ _])), (8, (148, [val _, val _, sl _ _, sl _ _, sl _ _])), (900, (142, _ ++ ([val _, val _, sl _ _, sl _ _, val _, sl _ _, val _, val _, val _, sl _ _] ++ _)))] ?_
 refine sw_draw hm_ ?_
 refine zq2 ?_
 refine dA 3 ?_ (x := loc_index (by decide) sl_149 (by exact ⟨⟩) (by exact rfl) (by exact getm2 (by omega) rfl) (by exact rfl))
 refine dA 7 ?_ (x := loc_efield (by decide) fd_151_0 (by exact nl rfl))
 refine dA 15 ?_ (x := lE [val _] ty_3)
 refine zq2 ?_
 refine dA 96 ?_ (x := loc_index (by decide) sl_149 (by exact ⟨⟩) (by exact rfl) (by exact getm2 (by omega) rfl) (by exact rfl))
 refine dA 224 ?_ (x := loc_efield (by decide) fd_151_1 (by exact nl rfl))
 refine dA 480 ?_ (x := lE [sl .v _] ty_25)
 refine dA 1023 ?_ (x := loc_build (qs := [(false, [val _]), (false, [sl _ _])]) (cs := [val _, sl _ _]) (by decide) z_66 zo_66 FStc_pl_66 (by exact rfl) (by exact (aI (by exact ⟨⟩) (aI (by exact ⟨⟩) tI))) rfl (by exact rfl))
 refine Run.step 0 (by exact ⟨⟩) (by exact ⟨⟩) (LocG.of rfl (loc_alloc (by decide) z_66 zo_66)) (free1 (Free.of_ rfl)) (by kernel_rfl) ?_
 refine dA 4095 ?_ (x := loc_store (ag := true) (vs := [val _, sl _ _]) ty_66 (by exact ⟨⟩) (by exact rfl) (by exact nl rfl))
 refine sw_seq ?_
 refine sO [(0, _), (1, _), (5, _), (6, _), (7, _), (8, _), (9, _), (10, _), (11, _), (12, _), (13, _), (2900, _), (5000, _)] [(0, _), (6, _), (8, _), (13, (66, [val _, sl _ _])), (900, _)] ?_
 refine zp6 ?_
 refine dX 0 ?_ (x := (loc_load (qs := [val _, sl .v _]) (by decide) ty_66 (fun h => nomatch h) (by exact nl rfl) (by exact (ToL.cons (PV.To.refl _) (ToL.cons PV.to_none ToL.nil))) (by exact (BorL.cons (bor_val _) (BorL.cons (bor_sl _) BorL.nil)))))
 refine dX 0 ?_ (x := (loc_copy (.inl rfl) (by decide) (by exact Cp.ptr)))
 refine dX 4 ?_ (x := (loc_nilchk (by decide)))
 refine dX 12 ?_ (x := (loc_field (by decide) fd_40_2))
 refine dX 28 ?_ (x := (loc_load (qs := [sl .v _]) (by decide) ty_25 (fun _ => rfl) (by exact nl rfl) (by exact (ToL.cons PV.to_none ToL.nil)) (by exact (BorL.cons (bor_sl _) BorL.nil))))
 refine mid_call (G := 2000) (qs := [(true, [sl _ _, sl _ _]), (true, [val _, sl _ _]), (false, [sl _ _])]) (as_ := [(true, [sl .v _, sl .v _]), (true, [val _, sl .v _]), (false, [sl .v _])]) (by decide) c_108 (by exact ⟨rfl, rfl, rfl, ⟨⟩⟩) (by exact (aI (by exact ⟨⟩) (aI (by exact ⟨⟩) (aI (by exact ⟨⟩) tI)))) (by exact (aI (aI rfl (ToL.cons PV.to_none (ToL.cons PV.to_none ToL.nil))) (aI (aI rfl (ToL.cons (PV.To.refl _) (ToL.cons PV.to_none ToL.nil))) (aI (aI rfl (ToL.cons PV.to_none ToL.nil)) tI)))) (by exact (spec_l6Probe (x := buildIdx (partQ e.Active (parts e))) (r := rowOfV zP.1[j]) (o := e.Order) hxo hro hef.2.1)) (by kernel_rfl) (by kernel_rfl) fun uss hU0 => ?_
 obtain ⟨us0, r0, rfl, hl0, hR0, hU1⟩ := RelU.cons hU0
 obtain ⟨u4_0_0, rfl⟩ := us_1 hl0
 obtain ⟨us1, r1, rfl, hl1, hR1, hU2⟩ := RelU.cons hU1
 obtain ⟨u4_1_0, rfl⟩ := us_1 hl1
 obtain rfl := relval hR1 (j := 0) rfl rfl
 obtain rfl := RelU.nil hU2
 clear hR0 hU0 hR1 hU1 hU2
 refine zp7 ?_
 refine zp8 ?_
 refine sw_backS (s := 14) (G := 2000) (by exact rfl) (by exact (Nm.val Nm.nil)) rfl (by decide) (by exact rfl) ?_
 refine sw_backS (s := 15) (G := 2001) (by exact rfl) (by exact (Nm.val Nm.nil)) rfl (by decide) (by exact rfl) ?_
 refine zq3 ?_
 refine sw_draw hm_ ?_
 refine dA 0 ?_ (x := vM false [sl .v _])
 refine zck ?_
 refine dA 6 ?_ (x := loc_index (by decide) sl_25 (by exact ⟨⟩) (by exact rfl) (by exact getm2 (by omega) rfl) (by exact rfl))
 refine dA 14 ?_ (x := lE [val _] ty_3)
 refine dA 31 ?_ (x := cL [(false, [sl _ _]), (false, [val _])] [(false, [sl .v _]), (false, [val _])] c_173 (hs := by exact spec_HasMember))
 refine dA 63 ?_ (x := sM)
 refine dx 125 (fun ga sga => ?_) (fun ga sga => ?_)
 have hmm : matchRow e.Active[i].Query (rowOfV (segV e)[j]) = true := by rw [← hph, ← hz4]; simpa using ga
 have sga := ga
 try simp only [qq] at sga
 refine dB 127 ga ?_ (x := loc_copy (r' := RV.sv false [sl .v _]) (.inl rfl) (by decide) (by exact Cp.sv (ToL.cons (PV.nv_to PV.to_none) ToL.nil) (BorL.cons (bor_sl _) BorL.nil)))
 refine dB 127 ga ?_ (x := sM)
 refine dB 511 ga ?_ (x := loc_index (by decide) sl_149 (by exact ⟨⟩) (by exact rfl) (by exact getm2 (by omega) rfl) (by exact rfl))
 refine dB 1023 ga ?_ (x := lE [val _, sl .v _, val _, val _] ty_151)
 refine dB 127 ga ?_ (x := cM Cp.ptr)
 refine dB 2175 ga ?_ (x := loc_nilchk (by decide))
 refine dB 6271 ga ?_ (x := lF fd_40_3)
 refine dB 14463 ga ?_ (x := lD [val _] ty_36)
 refine dB 127 ga ?_ (x := sM)
 refine dB 63615 ga ?_ (x := loc_gidx (k := i) (G := 2900) (by decide) sl_36 (by exact ⟨⟩) (by first | exact hf2 | omega) (by first | (rw [List.length_map]; exact hil) | exact hil))
 refine dB 129151 ga ?_ (x := lF fd_142_1)
 refine dB 260223 ga ?_ (x := loc_loadM (o := 4) (qs := [val _]) (by omega) (by decide) ty_3 (fun _ => rfl) (by exact nl rfl) (by exact (ToL.cons (PV.To.refl _) ToL.nil)) (by exact (BorL.cons (bor_val _) BorL.nil)))
 refine dB 524287 ga ?_ (x := cL [(true, [val _, sl _ _, val _, val _]), (false, [val _])] [(true, [val _, sl .v _, val _, val _]), (false, [val _])] c_231 (hs := by exact spec_IsVisible))
 refine dA 1048575 ?_ (x := pkT ga)
 refine sc (fun hbd => ?_) (fun hbd => ?_)
 have hvv : visV (segV e)[j] e.Active[i].Time = true := by rw [← hz5]; simpa using hbd
 refine zq3 ?_
 refine zq1 ?_
 refine zq4 ?_
 refine dA 0 ?_ (x := sM)
 refine zq0 ?_
 refine zq5 ?_
 refine zq6 ?_
 refine dA 2016 ?_ (x := lF fd_142_6)
 refine dA 4064 ?_ (x := loc_ltakeM (o := 9) (ms := [sl _ _]) (qs := [sl .v _]) (by omega) (by decide) ty_93 (fun _ => rfl) (by exact nl rfl) (by exact rfl) (by exact (ToL.cons PV.to_none ToL.nil)) (by exact (BorL.cons (bor_sl _) BorL.nil)))
 refine dA 0 ?_ (x := lD [val _, sl .v _] ty_66)
 refine dA 8192 ?_ (x := cL [(true, [val _, sl _ _])] [(true, [val _, sl .v _])] c_206 (hs := by exact (spec_l3Copy (x := rowOfV zP.1[j]) (by omega))))
 refine dA 24576 ?_ (x := loc_bslice (qs := [(true, [val _, sl _ _])]) (by decide) sl_93 z_66 (by decide) rfl rfl rfl rfl rfl (by exact nl rfl) (by exact (aI (by exact ⟨⟩) tI)) rfl)
 refine dA 65504 ?_ (x := loc_append (by decide) sl_93 z_66 rfl rfl (by decide) rfl (by simp only [List.length_map, List.length_append, List.length_cons, List.length_nil]; omega) (by simp only [List.length_map, List.length_append, List.length_cons, List.length_nil]; omega))
 refine dA 131071 ?_ (x := loc_gidx (k := i) (G := 2900) (by decide) sl_36 (by exact ⟨⟩) (by first | exact hf2 | omega) (by first | (rw [List.length_map]; exact hil) | exact hil))
 refine dA 262143 ?_ (x := lF fd_142_6)
 refine dA 524287 ?_ (x := loc_storeM (o := 9) (ag := false) (vs := [sl _ _]) (by omega) ty_93 (by exact ⟨⟩) (by exact rfl) (by exact nl rfl))
 refine sO [(0, _), (1, _), (5, _), (6, _), (7, _), (8, _), (9, _), (10, _), (11, _), (12, _), (13, _), (14, _), (15, _), (2900, _), (5000, _)] [(0, _), (6, _), (8, _), (13, _), (900, (142, _ ++ ([val _, val _, sl _ _, sl _ _, val _, sl _ _, val _, val _, val _, sl _ _] ++ _)))] ?_
 refine zdz ?_
 exact zq7
 have hvv : visV (segV e)[j] e.Active[i].Time = false := by rw [← hz5]; simpa using hbd
 refine sw_skip ?_
 exact zq7
 have hmm : matchRow e.Active[i].Query (rowOfV (segV e)[j]) = false := by rw [← hph, ← hz4]; simpa using ga
 have sga := ga
 try simp only [qq] at sga
 refine dF 127 ga ?_
 refine dF 127 ga ?_
 refine dF 511 ga ?_
 refine dF 1023 ga ?_
 refine dF 127 ga ?_
 refine dF 2175 ga ?_
 refine dF 6271 ga ?_
 refine dF 14463 ga ?_
 refine dF 127 ga ?_
 refine dF 63615 ga ?_
 refine dF 129151 ga ?_
 refine dF 260223 ga ?_
 refine dF 524287 ga ?_
 refine dA 1048575 ?_ (x := pkF ga)
 refine scF ?_
 refine sw_skip ?_
 exact zq7
 have hjend : j = (segV e).length := by omega
 have hgt : gotV e e.Active[i] j = gotA e e.Active[i] := by rw [hjend]; exact gotV_end
 rw [hgt]
 refine zhm ?_
 refine sO [(0, _), (1, _), (5, _), (6, _), (7, _), (8, _), (9, _), (10, _), (11, _), (12, _), (2900, _), (5000, _)] [(0, (40, [sl _ _, val _, val _, sl _ _, val _, sl _ _, sl _ _, val _])), (6, (92, [sl _ _, sl _ _])), (8, (148, [val _, val _, sl _ _, sl _ _, sl _ _])), (900, (142, _ ++ ([val _, val _, sl _ _, sl _ _, val _, sl _ _, val _, val _, val _, sl _ _] ++ _)))] ?_
 refine sw_reg ?_
 refine rA ?_ (x := lF fd_148_4)
 refine zpq ?_
 refine zpr ?_
 refine rA ?_ (x := lF fd_148_4)
 refine zbe ?_
 refine sO [(0, _), (1, _), (5, _), (6, _), (7, _), (8, _), (9, _), (10, _), (11, _), (12, _), (2900, _), (5000, _)] [(0, _), (6, _), (8, (148, [val _, val _, sl _ _, sl _ _, sl _ _])), (900, _)] ?_
 refine zq1 ?_
 refine zq4 ?_
 refine dA 0 ?_ (x := sM)
 refine zq0 ?_
 refine zq5 ?_
 refine zq6 ?_
 refine dA 2016 ?_ (x := lF fd_142_4)
 refine dA 4064 ?_ (x := loc_loadM (o := 7) (qs := [val _]) (by omega) (by decide) ty_3 (fun _ => rfl) (by exact nl rfl) (by exact (ToL.cons (PV.To.refl _) ToL.nil)) (by exact (BorL.cons (bor_val _) BorL.nil)))
 refine dA 0 ?_ (x := sM)
 refine dA 16352 ?_ (x := B_add)
 refine dA 32767 ?_ (x := loc_gidx (k := i) (G := 2900) (by decide) sl_36 (by exact ⟨⟩) (by first | exact hf2 | omega) (by first | (rw [List.length_map]; exact hil) | exact hil))
 refine dA 65535 ?_ (x := lF fd_142_4)
 refine dA 131071 ?_ (x := loc_storeM (o := 7) (ag := false) (vs := [val _]) (by omega) ty_3 (by exact ⟨⟩) (by exact rfl) (by exact nl rfl))
 refine sO [(0, _), (1, _), (5, _), (6, _), (7, _), (8, _), (9, _), (10, _), (11, _), (12, _), (2900, _), (5000, _)] [(0, _), (6, _), (8, _), (900, (142, _ ++ ([val _, val _, sl _ _, sl _ _, val _, sl _ _, val _, val _, val _, sl _ _] ++ _)))] ?_
 refine zq1 ?_
 refine zq4 ?_
 refine dA 0 ?_ (x := sM)
 refine zq0 ?_
 refine zq5 ?_
 refine zq6 ?_
 refine dA 2016 ?_ (x := lF fd_142_2)
 refine dA 4064 ?_ (x := loc_loadM (o := 5) (qs := [sl .v _]) (by omega) (by decide) ty_25 (fun _ => rfl) (by exact nl rfl) (by exact (ToL.cons PV.to_none ToL.nil)) (by exact (BorL.cons (bor_sl _) BorL.nil)))
 refine dA 0 ?_ (x := cM Cp.ptr)
 refine dA 8192 ?_ (x := loc_nilchk (by decide))
 refine dA 24576 ?_ (x := lF fd_40_1)
 refine dA 57344 ?_ (x := lD [val _] ty_3)
 refine dA 131040 ?_ (x := cL [(false, [sl _ _]), (false, [val _])] [(false, [sl .v _]), (false, [val _])] c_232 (hs := by exact (spec_l11Without (by omega))))
 refine dA 262143 ?_ (x := loc_gidx (k := i) (G := 2900) (by decide) sl_36 (by exact ⟨⟩) (by first | exact hf2 | omega) (by first | (rw [List.length_map]; exact hil) | exact hil))
 refine dA 524287 ?_ (x := lF fd_142_2)
 refine dA 1048575 ?_ (x := loc_storeM (o := 5) (ag := false) (vs := [sl _ _]) (by omega) ty_25 (by exact ⟨⟩) (by exact rfl) (by exact nl rfl))
 refine sw_boxEq (d := 900) (by exact rfl) (at_join (serve e e.Active[i]) hil (by exact rfl)) ?_
 refine sw_frzIn (d := 0) (D := 900) (G := 2900) (e := 10) (A := [sl _ _, val _, val _, sl _ _]) (B := [sl _ _, sl _ _, val _]) (es := (((servedTo e k)).set i (serve e e.Active[i])).map (cActive (.own 193 3) (.own 3 1) (.own 3 1) (.own 66 2) (.own 3 1))) (by exact rfl) (by exact rfl) (by exact rfl) rfl (by rw [List.length_map, List.length_set, List.length_map]) (by intro c hc; obtain ⟨y, _, rfl⟩ := List.mem_map.1 hc; exact rfl) (by rw [List.length_map]; exact hjk900) ?_
 refine sO [(0, _), (1, _), (5, _), (6, _), (7, _), (8, _), (9, _), (10, _), (11, _), (12, _), (5000, _)] [(0, (40, [sl _ _, val _, val _, sl _ _, sl _ _, sl _ _, sl _ _, val _])), (6, _), (8, _)] ?_
 refine sw_weak (s := 7) [val zP.2] (by exact rfl) (by exact (ToL.cons PV.nv_val ToL.nil)) (by exact (BorL.cons (bor_val _) BorL.nil)) ?_
 refine sG [0, 1, 5, 6, 7, 8, 9, 10, 11, 12, 5000] [0, 6, 8] ?_
 refine ze0 ?_
 refine nx (k + 1) (by omega) (f := (by exact aI (by rw [← served_set hoe hlt hi hid]; exact rfl) (aI (by rw [scgS_succ hlt hi hf]; simp only [List.map_append]; exact rfl) (tI))))
 have hend : k = (parts e).length := by omega
 subst hend
 rw [scgS_end]
 have hcg2 := chg_len (e := e) (Nat.le_refl _)
 refine sw_exit ?_
 refine sQ [0, 1, 5, 6, 7, 8, 9, 5000] [0, 6, 8] ?_
 refine sw_unnameB (d := 0) (t := 149) (A := []) (B := [val _, val _, sl _ _, sl _ _, sl _ _, sl _ _, val _]) (f := (fun l : List Version => sl (.own 151 4) (l.map (cVersion (.own 3 1))))) hzsS (by exact rfl) ?_
 refine sO [(0, _), (1, _), (5, _), (6, _), (7, _), (8, _), (9, _), (5000, _)] [(0, (40, [sl _ _, val _, val _, sl _ _, sl _ _, sl _ _, sl _ _, val _])), (6, _), (8, _)] ?_
 refine zq8 ?_
 refine zpz ?_
 refine dA 6 ?_ (x := lF fd_40_5)
 refine dA 14 ?_ (x := loc_ltake (ms := [sl _ _]) (qs := [sl .v _]) (by decide) ty_38 (fun _ => rfl) (by exact nl rfl) (by exact rfl) (by exact (ToL.cons PV.to_none ToL.nil)) (by exact (BorL.cons (bor_sl _) BorL.nil)))
 refine dA 0 ?_ (x := loc_ltake (ms := [val _, val _, sl _ _, sl _ _, sl _ _]) (qs := [val _, val _, any, any, any]) (by decide) ty_148 (fun h => nomatch h) (by exact nl rfl) (by exact rfl) (by exact (ToL.cons (PV.To.refl _) (ToL.cons (PV.To.refl _) (ToL.cons PV.to_any (ToL.cons PV.to_any (ToL.cons PV.to_any ToL.nil)))))) (by exact lq))
 refine dA 32 ?_ (x := loc_bslice (qs := [(true, [val _, val _, sl _ _, sl _ _, sl _ _])]) (by decide) sl_38 z_148 (by decide) rfl rfl rfl rfl rfl (by exact nl rfl) (by exact (aI (by exact ⟨⟩) tI)) rfl)
 refine dA 126 ?_ (x := loc_append (by decide) sl_38 z_148 rfl rfl (by decide) rfl (by simp only [List.length_map, List.length_append, List.length_cons, List.length_nil]; omega) (by simp only [List.length_map, List.length_append, List.length_cons, List.length_nil]; omega))
 refine dA 255 ?_ (x := loc_nilchk (by decide))
 refine dA 511 ?_ (x := lF fd_40_5)
 refine dA 1023 ?_ (x := loc_store (ag := false) (vs := [sl _ _]) ty_38 (by exact ⟨⟩) (by exact rfl) (by exact nl rfl))
 exact ⟨(by simp only [List.map_append]; exact rfl), rfl, tI⟩
end Go.Proofs.YteflgldonmgejaaGreat
