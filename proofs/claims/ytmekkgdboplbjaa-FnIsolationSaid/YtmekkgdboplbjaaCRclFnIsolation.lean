/- What functions of the program compute. No condition. -/
import Derived.Test.YtmekkgdboplbjaaCZMFnIsolation
import Derived.Test.YtmekkgdboplbjaaCFcFnIsolation
import Derived.Test.YtmekkgdboplbjaaCCpyFnIsolation
import Derived.Test.YtmekkgdboplbjaaCDrl
import Derived.Test.YtmekkgdboplbjaaCF2
import Derived.KernelRfl
set_option linter.unusedVariables false
set_option linter.unusedSimpArgs false
namespace Go.Proofs.Ytmekkgdboplbjaa
open Go Go.RowKit M PV
set_option maxRecDepth 10000
attribute [local irreducible] PV.Lcl PV.LclR RV.Lcl
theorem impl_isNeeded {v : Version} {keep : List Int}  : SCall Try.prog 83 [(true, [val (vI v.Id), sl .v (v.Values.map cInt), val (vI v.Born), val (vI v.Died)]), (false, [sl .v (keep.map cInt)])] (resRV [(false, [val (.bool (needV v keep))])]) := by
 refine sF Try.func83 fun h0 w0 Fz0 => ?_
 refine sn 0 1 fun hl0_1 => ?_
 refine sj 1 fun hl1 => ?_
 refine zcs ?_
 refine zbz ?_
 refine sT [1, 2, 4] [2] ?_
 refine za3 ?_
 refine za4 ?_
 refine sP [1, 2, 4, 7, 8, 9] [2] ?_
 refine sL [1, 2, 7, 8] [2] (fun k : Nat => k ≤ keep.length ∧ (keep.take k).any (visV v) = false) (fun k : Nat => [(9, RV.int (k : Int))]) (fun k : Nat => []) (fun k : Nat => keep.length - k) 0 (by exact ⟨by omega, by simp⟩) (by exact aI (by exact rfl) (tI)) (by exact ⟨⟩) ?_
 rintro k ⟨hk, ha⟩
 refine za5 ?_
 refine sc (fun hba => ?_) (fun hba => ?_)
 have hlt : k < keep.length := by omega
 refine za6 ?_
 refine sT [1, 2, 7, 8, 9] [2] ?_
 refine za7 ?_
 refine sS [1, 2, 6, 7, 8, 9] [2] ?_
 refine rA ?_ (x := lD [val _, sl .v _, val _, val _] ty_107)
 refine zfv ?_
 refine sc (fun hbb => ?_) (fun hbb => ?_)
 have hv : visV v keep[k] = true := by simpa using hbb
 refine sS [1, 2, 6, 7, 8, 9] [2] ?_
 refine za9 ?_
 exact rb ((need_yes hlt hv).symm)
 have hvf : visV v keep[k] = false := by simpa using hbb
 refine sw_skip ?_
 refine sG [1, 2, 6, 7, 8, 9] [2] ?_
 refine zaa ?_
 refine nx (k + 1) (by exact ⟨by omega, any_succ ha hlt hvf⟩)
 refine sw_exit ?_
 refine sT [1, 2, 7, 8, 9] [2] ?_
 refine rA ?_ (x := lF fd_107_3)
 refine rA ?_ (x := lD [val _] ty_3)
 refine zco ?_
 refine sw_ret ?_
 exact rb (by (have hn := need_end (v := v) (any_end (by rw [show keep.length = k by omega]; exact ha)); rw [hn]; first | rfl | simp))
theorem impl_CountVersions {p1 p2 : Fl} {s : Store}  (hb : wtStore s ≤ 68719476736) : SCall Try.prog 84 [(true, [sl .v (s.Segments.map (cVersionS p1 p2)), val (vI s.Now)])] (resRV [(false, [val (vI ((cntV s : Nat) : Int))])]) := by
 refine sF Try.func84 fun h0 w0 Fz0 => ?_
 refine sn 0 0 fun hl0_0 => ?_
 refine zd7 ?_
 refine zb8 ?_
 refine zbz ?_
 refine sS [1, 2, 3] [1] ?_
 refine zdd ?_
 refine za4 ?_
 refine sP [1, 2, 3, 7, 8, 9] [1] ?_
 refine sL [1, 2, 7, 8] [1] (fun k : Nat => k ≤ s.Segments.length) (fun k : Nat => [(3, RV.int (cntTo s k : Nat)), (9, RV.int (k : Int))]) (fun k : Nat => []) (fun k : Nat => s.Segments.length - k) 0 (by omega) (by exact aI (by exact rfl) (aI (by exact rfl) (tI))) (by exact ⟨⟩) ?_
 rintro k hk
 refine za5 ?_
 refine sc (fun hba => ?_) (fun hba => ?_)
 have hlt : k < s.Segments.length := by omega
 have hcl := cntTo_le (s := s) (k + 1) hlt
 rw [cntTo_succ hlt] at hcl
 have hal : cntV s ≤ wtStore s := allV_len s
 refine za6 ?_
 refine sT [1, 2, 3, 7, 8, 9] [1] ?_
 refine zdq ?_
 refine sG [1, 2, 3, 5, 7, 8, 9] [1] ?_
 refine rM ?_
 refine zdj ?_
 refine rA ?_ (x := B_add)
 refine rS ?_
 refine sG [1, 2, 3, 5, 7, 8, 9] [1] ?_
 refine zaa ?_
 refine nx (k + 1) (by omega) (e := (by exact aI (by exact int_eq (by rw [cntTo_succ hlt]; omega)) (aI (by exact rfl) (tI))))
 have hend : k = s.Segments.length := by omega
 refine sw_exit ?_
 refine sT [1, 2, 3, 7, 8, 9] [1] ?_
 refine rM ?_
 refine zfu ?_
 exact (aI (by refine int_eq ?_; unfold cntTo; rw [hend, allV_end]; rfl) tI)
theorem impl_ReclaimStore {p1 p2 : Fl} {s : Store} {keep : List Int}  (hb : wtStore s ≤ 68719476736) (hk0 : keep.length ≤ 68719476736) : SCall Try.prog 59 [(true, [sl .v (s.Segments.map (cVersionS p1 p2)), val (vI s.Now)]), (false, [sl .v (keep.map cInt)])] (resRV [(true, [sl (.own 71 1) ((reclaimS s keep).Segments.map (cVersionS (.own 107 4) (.own 3 1))), val (vI (reclaimS s keep).Now)]), (false, [val (vI (cntR s keep))])]) := by
 refine scall_lo (largs := fun L => [(true, [sl (.lo L) (s.Segments.map (cVersionS (.lo L) (.lo L))), val (vI s.Now)]), (false, [sl (.lo L) (keep.map cInt)])]) (rs := [(true, [sl (.own 71 1) ((reclaimS s keep).Segments.map (cVersionS (.own 107 4) (.own 3 1))), val (vI (reclaimS s keep).Now)]), (false, [val (vI (cntR s keep))])]) Try.func59 rfl (nl rfl) (fun L => by exact (aI (aI rfl (ToBL.cons (PV.tob_map (fun _ => nl rfl) (fun _ => (ToBL.cons (PV.tob_map (fun _ => nl rfl) (fun _ => (ToBL.cons PV.tob_refl (ToBL.cons (PV.tob_map (fun _ => nl rfl) (fun _ => (ToBL.cons PV.tob_refl ToBL.nil))) (ToBL.cons PV.tob_refl (ToBL.cons PV.tob_refl ToBL.nil)))))) ToBL.nil))) (ToBL.cons PV.tob_refl ToBL.nil))) (aI (aI rfl (ToBL.cons (PV.tob_map (fun _ => nl rfl) (fun _ => (ToBL.cons PV.tob_refl ToBL.nil))) ToBL.nil)) tI))) (fun L => by exact lq) ?_
 intro w0 Fz0
 refine sn 0 0 fun hl0_0 => ?_
 refine sj 1 fun hl1 => ?_
 have hrw := reclaim_wt s keep
 have hal := allV_len s
 have hal2 := allV_len (reclaimS s keep)
 have hcv : cntV s = (allV s).length := rfl
 have hcv2 : cntV (reclaimS s keep) = (allV (reclaimS s keep)).length := rfl
 refine sR ?_
 refine rX ?_ (x := (loc_box (ag := true) (cs := [sl (.lo _) _, val _]) (by decide) (by exact ⟨⟩)))
 refine zfw ?_
 refine sO [(1, _), (2, _), (4, _), (5, _)] [(2, (26, [sl (.lo _) _, val _])), (4, (26, [sl _ _, val _]))] ?_
 refine sw_reg ?_
 refine zfx ?_
 refine zfa ?_
 refine sO [(1, _), (2, _), (4, _), (5, _), (6, _)] [(2, _), (4, _), (6, (26, [sl _ _, val _]))] ?_
 refine sw_reg ?_
 refine zfy ?_
 refine rA ?_ (x := nT)
 refine sc (fun hba => ?_) (fun hba => ?_)
 have hok : okStore s = false := by simpa using hba
 have hr := reclaim_no (keep := keep) hok
 refine sS [1, 2, 4, 5, 6] [2, 4, 6] ?_
 refine zfz ?_
 refine za9 ?_
 exact (Exists.intro 4 (Exists.intro _ (aI (by exact rfl) (aI (by refine box_eq ?_; rw [hr]; exact rfl) (aI ty_26 (aI (fun h => nomatch h) (aI (by refine int_eq ?_; unfold cntR; rw [hok]; exact rfl) tI)))))))
 have hok : okStore s = true := by simpa using hba
 have hst := reclaim_yes (keep := keep) hok
 obtain ⟨hs8, hs1, hn0, hn1, hs4, hver⟩ := sto_facts hok
 refine zbr ?_
 refine sw_seq ?_
 refine sP [1, 2, 4, 5, 6] [2, 4, 6] ?_
 refine sw_thawB (d := 6) (t := 26) (D := 900) (G := 2900) (E := 71) (e := 1) (L := (Lw w0.heap.size)) (A := []) (B := [val _]) (es := (s.Segments).map (cVersionS (.own 107 4) (.own 3 1))) (by exact rfl) (map_ne (show 0 < s.Segments.length by omega)) (by exact rfl) (by exact rfl) rfl (by exact rfl) (fun x hx => hx) (by exact lq) (by exact lq) (by exact LclC.nil) (by exact lc) (LclC.map fun x => (LclC.cons (lcl_own (LclC.map fun x => (LclC.cons lcl_val (LclC.cons (lcl_own (LclC.map fun x => (LclC.cons lcl_val LclC.nil))) (LclC.cons lcl_val (LclC.cons lcl_val LclC.nil)))))) LclC.nil)) fun uu900 cp900 jk900 hlD900 hcp900 hjk900 => ?_
 rw [List.length_map] at hlD900 hcp900 hjk900
 refine sw_boxEq (d := 900) (by exact rfl) (show _ = arr (cVersionS (.own 107 4) (.own 3 1)) (s.Segments) jk900 from rfl) ?_
 refine sO [(1, _), (2, _), (4, _), (5, _), (6, _), (2900, _)] [(2, _), (4, _), (6, (26, [val _, val _])), (900, (71, arr (cVersionS (.own 107 4) (.own 3 1)) _ _))] ?_
 refine sw_lendAE (d := 900) (t := 107) (e := 4) (G := 6000) (f := (cVersion (.own 3 1))) (g := (fun v : Version => [val (vI v.Id), sl .v (v.Values.map cInt), val (vI v.Born), val (vI v.Died)])) (fN := nVer) (xss := s.Segments) (by exact rfl) (by exact rfl) (fun _ _ => rfl) (fun _ => rfl) (fun _ => (ToL.cons (PV.To.refl _) (ToL.cons PV.to_none (ToL.cons (PV.To.refl _) (ToL.cons (PV.To.refl _) ToL.nil))))) (fun _ => (by exact lq)) fun zss hzss => ?_
 have hzl := zss_len hzss
 refine sO [(1, _), (2, _), (4, _), (5, _), (6, _), (2900, _), (6000, _)] [(2, _), (4, _), (6, _), (900, (71, arr nVerS _ _))] ?_
 refine sw_reg ?_
 refine zg0 ?_
 refine rA ?_ (x := loc_glen (G := 2900) (by decide) sl_24)
 refine za4 ?_
 refine sP [1, 2, 4, 5, 6, 19, 20, 21, 2900, 6000] [2, 4, 6, 900] ?_
 refine sL [1, 2, 4, 5, 6, 19, 20, 2900, 6000] [2, 4, 6] (fun i : Nat => i ≤ zss.length) (fun i : Nat => [(21, RV.int (i : Int))]) (fun i : Nat => [(900, (71, arr nVerS (fzTo zss keep i) jk900))]) (fun i : Nat => zss.length - i) 0 (by omega) (by exact aI (by exact rfl) (tI)) (by exact aI (by exact rfl) (tI)) ?_
 rintro i hi
 have hfl0 := fz_len (zss := zss) (keep := keep) (k := i)
 refine za5 ?_
 refine sc (fun hbb => ?_) (fun hbb => ?_)
 try simp only [List.length_map] at hbb
 have hlz : i < zss.length := by omega
 have hls : i < s.Segments.length := by omega
 have hz2 := zss_at2 hzss hlz hls
 have hs4i := hs4 _ (List.getElem_mem hls)
 have hfl : i < (fzTo zss keep i).length := by rw [fz_len]; omega
 have hfg := fz_get (keep := keep) hlz hfl
 refine za6 ?_
 refine zg1 ?_
 refine zg2 ?_
 refine rA ?_ (x := loc_gidx (k := i) (G := 2900) (by decide) sl_24 (by exact ⟨⟩) (by first | rfl | omega) (by simp only [List.length_map]; omega))
 refine rA ?_ (x := loc_aload (f := nVerS) (e := 1) (k := i) (qs := [sl .v _]) (fun _ => rfl) rfl (by omega) (by decide) ty_71 (fun _ => rfl) (by exact (ToL.cons PV.to_none ToL.nil)) (by exact (BorL.cons (bor_sl _) BorL.nil)))
 refine rS ?_
 refine rA ?_ (x := vA false [sl .v _])
 refine sS [1, 2, 4, 5, 6, 7, 8, 19, 20, 21, 2900, 6000] [2, 4, 6, 900] ?_
 refine zd8 ?_
 refine zdk ?_
 refine sP [1, 2, 4, 5, 6, 7, 8, 9, 19, 20, 21, 2900, 6000] [2, 4, 6, 900] ?_
 refine sw_weak (s := 8) [sl .v (zss[i].map nVer)] (by exact rfl) (by exact (by rw [hfg]; exact (ToL.cons (PV.To.refl _) ToL.nil))) (by exact (BorL.cons (bor_sl _) BorL.nil)) ?_
 refine sG [1, 2, 4, 5, 6, 7, 8, 9, 19, 20, 21, 2900, 6000] [2, 4, 6, 900] ?_
 refine zdr ?_
 refine sP [1, 2, 4, 5, 6, 7, 8, 9, 19, 20, 21, 27, 28, 29, 2900, 6000] [2, 4, 6, 900] ?_
 refine sL [1, 2, 4, 5, 6, 7, 8, 19, 20, 21, 27, 28, 2900, 6000] [2, 4, 6, 900] (fun j : Nat => j ≤ zss[i].length) (fun j : Nat => [(9, RV.slc (.own 107 4) ((filtZ keep (zss[i].take j)).map nVer)), (29, RV.int (j : Int))]) (fun j : Nat => []) (fun j : Nat => zss[i].length - j) 0 (by omega) (by exact aI (by exact rfl) (aI (by exact rfl) (tI))) (by exact ⟨⟩) ?_
 rintro j hj
 refine za5 ?_
 refine sc (fun hbc => ?_) (fun hbc => ?_)
 have hlj : j < zss[i].length := by omega
 have hlj2 : j < s.Segments[i].length := by omega
 have hz3 := zss_at3 hzss hlz hls hlj hlj2
 have hfle := filtZ_le (keep := keep) (zs := zss[i]) (j := j)
 refine zdn ?_
 refine zg3 ?_
 refine rA ?_ (x := loc_index (by decide) sl_71 (by exact ⟨⟩) (by exact rfl) (by exact getm2 (by omega) rfl) (by exact rfl))
 refine rA ?_ (x := loc_eload (qs := [nv _ (val _), nv _ (sl .v _), nv _ (val _), nv _ (val _)]) (by decide) ty_107 (fun h => nomatch h) (by exact nl rfl) (by exact (ToL.cons (PV.To.refl _) (ToL.cons (PV.To.refl _) (ToL.cons (PV.To.refl _) (ToL.cons (PV.To.refl _) ToL.nil))))) (by exact lq))
 refine rX ?_ (x := (loc_alloc (by decide) z_107 zo_107))
 refine rA ?_ (x := loc_store (ag := true) (vs := [nv _ (val _), nv _ (sl _ _), nv _ (val _), nv _ (val _)]) ty_107 (by exact ⟨⟩) (by exact rfl) (by exact nl rfl))
 refine sw_seq ?_
 refine sO [(1, _), (2, _), (4, _), (5, _), (6, _), (7, _), (8, _), (9, _), (11, _), (19, _), (20, _), (21, _), (27, _), (28, _), (29, _), (2900, _), (6000, _)] [(2, _), (4, _), (6, _), (11, (107, [nv _ (val _), nv _ (sl _ _), nv _ (val _), nv _ (val _)])), (900, _)] ?_
 refine sw_reg ?_
 refine rA ?_ (x := loc_load (qs := [nv _ (val _), nv _ (sl .v _), nv _ (val _), nv _ (val _)]) (by decide) ty_107 (fun h => nomatch h) (by exact nl rfl) (by exact (ToL.cons (PV.To.refl _) (ToL.cons (PV.To.refl _) (ToL.cons (PV.To.refl _) (ToL.cons (PV.To.refl _) ToL.nil))))) (by exact lq))
 refine rA ?_ (x := vM false [sl (.lo _) _])
 refine rA ?_ (x := loc_call (qs := [(true, [nv _ (val _), nv _ (sl _ _), nv _ (val _), nv _ (val _)]), (false, [sl (.lo _) _])]) (as_ := [(true, [val _, sl .v _, val _, val _]), (false, [sl .v _])]) (by decide) c_83 (by exact (aI (by exact ⟨⟩) (aI (by exact ⟨⟩) tI))) (by exact (aI (aI rfl (ToL.cons (PV.nv_to (PV.To.refl _)) (ToL.cons (PV.nv_to PV.to_none) (ToL.cons (PV.nv_to (PV.To.refl _)) (ToL.cons (PV.nv_to (PV.To.refl _)) ToL.nil))))) (aI (aI rfl (ToL.cons PV.to_none ToL.nil)) tI))) (by exact impl_isNeeded))
 refine sc (fun hbd => ?_) (fun hbd => ?_)
 have hnd : needV s.Segments[i][j] keep = true := by rw [← hz3]; simpa using hbd
 refine sG [1, 2, 4, 5, 6, 7, 8, 9, 11, 19, 20, 21, 27, 28, 29, 2900, 6000] [2, 4, 6, 11, 900] ?_
 refine rA ?_ (x := tM)
 refine rA ?_ (x := loc_load (qs := [nv _ (val _), nv _ (sl .v _), nv _ (val _), nv _ (val _)]) (by decide) ty_107 (fun h => nomatch h) (by exact nl rfl) (by exact (ToL.cons (PV.To.refl _) (ToL.cons (PV.To.refl _) (ToL.cons (PV.To.refl _) (ToL.cons (PV.To.refl _) ToL.nil))))) (by exact lq))
 refine rA ?_ (x := loc_bslice (qs := [(true, [nv _ (val _), nv _ (sl _ _), nv _ (val _), nv _ (val _)])]) (by decide) sl_71 z_107 (by decide) rfl rfl rfl rfl rfl (by exact nl rfl) (by exact (aI (by exact ⟨⟩) tI)) rfl)
 refine zg4 ?_
 exact zg5
 have hnd : needV s.Segments[i][j] keep = false := by rw [← hz3]; simpa using hbd
 refine sw_skip ?_
 exact zg5
 refine sw_exit ?_
 refine zg3 ?_
 refine zg0 ?_
 refine rM ?_
 refine rA ?_ (x := tM)
 refine rA ?_ (x := loc_gidx (k := i) (G := 2900) (by decide) sl_24 (by exact ⟨⟩) (by first | rfl | omega) (by simp only [List.length_map]; omega))
 refine rA ?_ (x := loc_astore (f := nVerS) (e := 1) (k := i) (ag := false) (vs := [sl _ _]) _ (fun _ => rfl) rfl (by first | omega | (simp only [List.length_set]; omega)) ty_71 (by exact ⟨⟩) (by exact rfl))
 refine sG [1, 2, 4, 5, 6, 7, 8, 19, 20, 21, 27, 28, 29, 2900, 6000] [2, 4, 6, 900] ?_
 refine zaa ?_
 refine nx (i + 1) (by omega) (f := (by exact aI (by rw [show j = zss[i].length by omega, List.take_length, fz_set hlz]; exact rfl) (tI)))
 try simp only [List.length_map] at hbb
 have hend : i = zss.length := by omega
 refine sw_exit ?_
 refine zg1 ?_
 refine sw_backAE (d := 900) (t := 107) (e := 4) (G := 6000) (f := (cVersion (.own 3 1))) (g := (fun v : Version => [val (vI v.Id), sl .v (v.Values.map cInt), val (vI v.Born), val (vI v.Died)])) (fN := nVer) (zss := (fzTo zss keep i)) (by exact rfl) (by exact rfl) (fun _ _ => rfl) (fun _ => rfl) (fun _ => rfl) (by rw [hend, fz_end]; exact fz_sub) ?_
 refine sO [(1, _), (2, _), (4, _), (5, _), (6, _), (19, _), (20, _), (21, _), (2900, _)] [(2, _), (4, _), (6, _), (900, (71, arr (cVersionS (.own 107 4) (.own 3 1)) _ _))] ?_
 refine sw_boxEq (d := 900) (by exact rfl) (congrArg (fun z_ => arr (cVersionS (.own 107 4) (.own 3 1)) z_ jk900) (show (fzTo zss keep i).map (List.map Prod.fst) = s.Segments.map (keptL keep) from by rw [hend, fz_end]; exact fz_fst hzss)) ?_
 refine sw_frzIn (d := 6) (D := 900) (G := 2900) (e := 1) (A := []) (B := [val _]) (es := ((s.Segments.map (keptL keep))).map (cVersionS (.own 107 4) (.own 3 1))) (by exact rfl) (by exact rfl) (by exact rfl) rfl (by simp) (by intro c hc; obtain ⟨y, _, rfl⟩ := List.mem_map.1 hc; exact rfl) (by rw [List.length_map]; exact hjk900) ?_
 refine sO [(1, _), (2, _), (4, _), (5, _), (6, _), (19, _), (20, _), (21, _)] [(2, _), (4, _), (6, (26, [sl _ _, val _]))] ?_
 refine sw_boxEq (d := 6) (by exact rfl) (show _ = [sl (.own 71 1) ((reclaimS s keep).Segments.map (cVersionS (.own 107 4) (.own 3 1))), val (vI (reclaimS s keep).Now)] from by first | (rw [hst]; done) | (rw [hst]; exact rfl)) ?_
 refine sO [(1, _), (2, _), (4, _), (5, _), (6, _), (19, _), (20, _), (21, _)] [(2, _), (4, _), (6, (26, [sl _ _, val _]))] ?_
 refine sw_lendN (d := 6) (G := 1006) (by exact rfl) (by exact rfl) (ToL.cons PV.to_none (ToL.cons (PV.To.refl _) ToL.nil)) (BorL.cons (bor_sl _) (BorL.cons (bor_val _) BorL.nil)) fun us hRN => ?_
 obtain ⟨_, _, hRN⟩ := hRN
 obtain ⟨u5_0, u5_1, rfl⟩ := us_2 hRN.len
 clear hRN
 refine sO [(1, _), (2, _), (4, _), (5, _), (6, _), (19, _), (20, _), (21, _), (1006, _)] [(2, _), (4, _), (6, (26, [nv _ (sl _ _), nv _ (val _)]))] ?_
 refine sw_draw hm_ ?_
 refine dA 0 ?_ (x := loc_load (qs := [nv _ (sl .v _), nv _ (val _)]) (by decide) ty_26 (fun h => nomatch h) (by exact nl rfl) (by exact (ToL.cons (PV.To.refl _) (ToL.cons (PV.To.refl _) ToL.nil))) (by exact (BorL.cons (bor_nv (bor_sl _)) (BorL.cons (bor_nv (bor_val _)) BorL.nil))))
 refine dA 0 ?_ (x := lD [sl (.lo _) _, val _] ty_26)
 refine dA 2 ?_ (x := cL [(true, [sl (.lo _) _, val _])] [(true, [sl .v _, val _])] c_84 (hs := by exact (impl_CountVersions (by omega))))
 refine dA 0 ?_ (x := loc_load (qs := [nv _ (sl .v _), nv _ (val _)]) (by decide) ty_26 (fun h => nomatch h) (by exact nl rfl) (by exact (ToL.cons (PV.To.refl _) (ToL.cons (PV.To.refl _) ToL.nil))) (by exact (BorL.cons (bor_nv (bor_sl _)) (BorL.cons (bor_nv (bor_val _)) BorL.nil))))
 refine dA 14 ?_ (x := loc_call (qs := [(true, [nv _ (sl _ _), nv _ (val _)])]) (as_ := [(true, [sl .v _, val _])]) (by decide) c_84 (by exact (aI (by exact ⟨⟩) tI)) (by exact (aI (aI rfl (ToL.cons (PV.nv_to PV.to_none) (ToL.cons (PV.nv_to (PV.To.refl _)) ToL.nil))) tI)) (by exact (impl_CountVersions (by omega))))
 refine dA 30 ?_ (x := B_sub)
 refine dA 31 ?_ (x := loc_store (ag := true) (vs := [nv _ (sl _ _), nv _ (val _)]) ty_26 (by exact ⟨⟩) (by exact rfl) (by exact nl rfl))
 refine dA 127 ?_ (x := sA)
 refine sw_backB (d := 4) (G := 1006) (by exact rfl) (by exact (Nm.nv (Nm.nv Nm.nil))) (by exact rfl) ?_
 refine sw_ret ?_
 exact (Exists.intro 4 (Exists.intro _ (aI (by exact rfl) (aI (by refine box_eq ?_; exact rfl) (aI ty_26 (aI (fun h => nomatch h) (aI (by refine int_eq ?_; unfold cntR; rw [if_pos hok]) tI)))))))
end Go.Proofs.Ytmekkgdboplbjaa
