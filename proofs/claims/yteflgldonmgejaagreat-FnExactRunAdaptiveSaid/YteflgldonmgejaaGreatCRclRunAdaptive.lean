/- What functions of the program compute. No condition. -/
import Derived.Test.YteflgldonmgejaaGreatCZMRunAdaptive
import Derived.Test.YteflgldonmgejaaGreatCFcRunAdaptive
import Derived.Test.YteflgldonmgejaaGreatCCpyRunAdaptive
import Derived.Test.YteflgldonmgejaaGreatCDrl
import Derived.Test.YteflgldonmgejaaGreatCF2
import Derived.KernelRfl
set_option linter.unusedVariables false
set_option linter.unusedSimpArgs false
namespace Go.Proofs.YteflgldonmgejaaGreat
open Go Go.RowKit M PV
set_option maxRecDepth 10000
attribute [local irreducible] PV.Lcl PV.LclR RV.Lcl
theorem impl_isNeeded {v : Version} {keep : List Int}  : SCall Tryz.prog 234 [(true, [val (vI v.Id), sl .v (v.Values.map cInt), val (vI v.Born), val (vI v.Died)]), (false, [sl .v (keep.map cInt)])] (resRV [(false, [val (.bool (needV v keep))])]) := by
 refine sF Tryz.func234 fun h0 w0 Fz0 => ?_
 refine sn 0 1 fun hl0_1 => ?_
 refine sj 1 fun hl1 => ?_
 refine zac ?_
 refine znl ?_
 refine zb0 ?_
 refine zfl ?_
 refine sP [1, 2, 4, 7, 8, 9] [2] ?_
 refine sL [1, 2, 7, 8] [2] (fun k : Nat => k ≤ keep.length ∧ (keep.take k).any (visV v) = false) (fun k : Nat => [(9, RV.int (k : Int))]) (fun k : Nat => []) (fun k : Nat => keep.length - k) 0 (by exact ⟨by omega, by simp⟩) (by exact aI (by exact rfl) (tI)) (by exact ⟨⟩) ?_
 rintro k ⟨hk, ha⟩
 refine zfm ?_
 refine sc (fun hba => ?_) (fun hba => ?_)
 have hlt : k < keep.length := by omega
 refine zed ?_
 refine sT [1, 2, 7, 8, 9] [2] ?_
 refine zfn ?_
 refine sS [1, 2, 6, 7, 8, 9] [2] ?_
 refine rA ?_ (x := lD [val _, sl .v _, val _, val _] ty_151)
 refine znm ?_
 refine sc (fun hbb => ?_) (fun hbb => ?_)
 have hv : visV v keep[k] = true := by simpa using hbb
 refine sS [1, 2, 6, 7, 8, 9] [2] ?_
 refine zgb ?_
 exact rb ((need_yes hlt hv).symm)
 have hvf : visV v keep[k] = false := by simpa using hbb
 refine sw_skip ?_
 refine sG [1, 2, 6, 7, 8, 9] [2] ?_
 refine zfp ?_
 refine nx (k + 1) (by exact ⟨by omega, any_succ ha hlt hvf⟩)
 refine sw_exit ?_
 refine sT [1, 2, 7, 8, 9] [2] ?_
 refine rA ?_ (x := lF fd_151_3)
 refine rA ?_ (x := lD [val _] ty_3)
 refine rA ?_ (x := B_eql)
 refine zgj ?_
 exact rb (by (have hn := need_end (v := v) (any_end (by rw [show keep.length = k by omega]; exact ha)); rw [hn]; first | rfl | simp))
theorem impl_CountVersions {p1 p2 : Fl} {s : Store}  (hb : wtStore s ≤ 68719476736) : SCall Tryz.prog 235 [(true, [sl .v (s.Segments.map (cVersionS p1 p2)), val (vI s.Now)])] (resRV [(false, [val (vI ((cntV s : Nat) : Int))])]) := by
 refine sF Tryz.func235 fun h0 w0 Fz0 => ?_
 refine sn 0 0 fun hl0_0 => ?_
 refine zav ?_
 refine zgw ?_
 refine zee ?_
 refine sS [1, 2, 3] [1] ?_
 refine zhy ?_
 refine zfl ?_
 refine sP [1, 2, 3, 7, 8, 9] [1] ?_
 refine sL [1, 2, 7, 8] [1] (fun k : Nat => k ≤ s.Segments.length) (fun k : Nat => [(3, RV.int (cntTo s k : Nat)), (9, RV.int (k : Int))]) (fun k : Nat => []) (fun k : Nat => s.Segments.length - k) 0 (by omega) (by exact aI (by exact rfl) (aI (by exact rfl) (tI))) (by exact ⟨⟩) ?_
 rintro k hk
 refine zfm ?_
 refine sc (fun hba => ?_) (fun hba => ?_)
 have hlt : k < s.Segments.length := by omega
 have hcl := cntTo_le (s := s) (k + 1) hlt
 rw [cntTo_succ hlt] at hcl
 have hal : cntV s ≤ wtStore s := allV_len s
 refine zed ?_
 refine sT [1, 2, 3, 7, 8, 9] [1] ?_
 refine zi3 ?_
 refine rA ?_ (x := vA false [sl .v _])
 refine sG [1, 2, 3, 5, 7, 8, 9] [1] ?_
 refine zmz ?_
 refine rA ?_ (x := lN sl_149)
 refine rA ?_ (x := B_add)
 refine rS ?_
 refine sG [1, 2, 3, 5, 7, 8, 9] [1] ?_
 refine zfp ?_
 refine nx (k + 1) (by omega) (e := (by exact aI (by exact int_eq (by rw [cntTo_succ hlt]; omega)) (aI (by exact rfl) (tI))))
 have hend : k = s.Segments.length := by omega
 refine sw_exit ?_
 refine sT [1, 2, 3, 7, 8, 9] [1] ?_
 refine za3 ?_
 exact (aI (by refine int_eq ?_; unfold cntTo; rw [hend, allV_end]; rfl) tI)
theorem impl_ReclaimStore {p1 p2 : Fl} {s : Store} {keep : List Int}  (hb : wtStore s ≤ 68719476736) (hk0 : keep.length ≤ 68719476736) : SCall Tryz.prog 211 [(true, [sl .v (s.Segments.map (cVersionS p1 p2)), val (vI s.Now)]), (false, [sl .v (keep.map cInt)])] (resRV [(true, [sl (.own 149 1) ((reclaimS s keep).Segments.map (cVersionS (.own 151 4) (.own 3 1))), val (vI (reclaimS s keep).Now)]), (false, [val (vI (cntR s keep))])]) := by
 refine scall_lo (largs := fun L => [(true, [sl (.lo L) (s.Segments.map (cVersionS (.lo L) (.lo L))), val (vI s.Now)]), (false, [sl (.lo L) (keep.map cInt)])]) (rs := [(true, [sl (.own 149 1) ((reclaimS s keep).Segments.map (cVersionS (.own 151 4) (.own 3 1))), val (vI (reclaimS s keep).Now)]), (false, [val (vI (cntR s keep))])]) Tryz.func211 rfl (nl rfl) (fun L => by exact (aI (aI rfl (ToBL.cons (PV.tob_map (fun _ => nl rfl) (fun _ => (ToBL.cons (PV.tob_map (fun _ => nl rfl) (fun _ => (ToBL.cons PV.tob_refl (ToBL.cons (PV.tob_map (fun _ => nl rfl) (fun _ => (ToBL.cons PV.tob_refl ToBL.nil))) (ToBL.cons PV.tob_refl (ToBL.cons PV.tob_refl ToBL.nil)))))) ToBL.nil))) (ToBL.cons PV.tob_refl ToBL.nil))) (aI (aI rfl (ToBL.cons (PV.tob_map (fun _ => nl rfl) (fun _ => (ToBL.cons PV.tob_refl ToBL.nil))) ToBL.nil)) tI))) (fun L => by exact lq) ?_
 intro w0 Fz0
 refine sn 0 0 fun hl0_0 => ?_
 refine sj 1 fun hl1 => ?_
 have hrw := reclaim_wt s keep
 have hal := allV_len s
 have hal2 := allV_len (reclaimS s keep)
 have hcv : cntV s = (allV s).length := rfl
 have hcv2 : cntV (reclaimS s keep) = (allV (reclaimS s keep)).length := rfl
 refine sR ?_
 refine znn ?_
 refine zno ?_
 refine znp ?_
 refine rA ?_ (x := cL [(true, [sl (.lo _) _, val _])] [(true, [sl .v _, val _])] c_143 (hs := by exact (impl_copyStore (by omega))))
 refine zn8 ?_
 refine znq ?_
 refine znp ?_
 refine rA ?_ (x := cL [(true, [sl (.lo _) _, val _])] [(true, [sl .v _, val _])] c_113 (hs := by exact impl_IsStore (by omega)))
 refine rA ?_ (x := nT)
 refine sc (fun hba => ?_) (fun hba => ?_)
 have hok : okStore s = false := by simpa using hba
 have hr := reclaim_no (keep := keep) hok
 refine sS [1, 2, 4, 5, 6] [2, 4, 6] ?_
 refine zc5 ?_
 refine zgb ?_
 exact (Exists.intro 4 (Exists.intro _ (aI (by exact rfl) (aI (by refine box_eq ?_; rw [hr]; exact rfl) (aI ty_35 (aI (fun h => nomatch h) (aI (by refine int_eq ?_; unfold cntR; rw [hok]; exact rfl) tI)))))))
 have hok : okStore s = true := by simpa using hba
 have hst := reclaim_yes (keep := keep) hok
 obtain ⟨hs8, hs1, hn0, hn1, hs4, hver⟩ := sto_facts hok
 refine zf2 ?_
 refine sw_seq ?_
 refine sP [1, 2, 4, 5, 6] [2, 4, 6] ?_
 refine sw_thawB (d := 6) (t := 35) (D := 900) (G := 2900) (E := 149) (e := 1) (L := (Lw w0.heap.size)) (A := []) (B := [val _]) (es := (s.Segments).map (cVersionS (.own 151 4) (.own 3 1))) (by exact rfl) (map_ne (show 0 < s.Segments.length by omega)) (by exact rfl) (by exact rfl) rfl (by exact rfl) (fun x hx => hx) (by exact lq) (by exact lq) (by exact LclC.nil) (by exact lc) (LclC.map fun x => (LclC.cons (lcl_own (LclC.map fun x => (LclC.cons lcl_val (LclC.cons (lcl_own (LclC.map fun x => (LclC.cons lcl_val LclC.nil))) (LclC.cons lcl_val (LclC.cons lcl_val LclC.nil)))))) LclC.nil)) fun uu900 cp900 jk900 hlD900 hcp900 hjk900 => ?_
 rw [List.length_map] at hlD900 hcp900 hjk900
 refine znr ?_
 refine sw_lendAE (d := 900) (t := 151) (e := 4) (G := 6000) (f := (cVersion (.own 3 1))) (g := (fun v : Version => [val (vI v.Id), sl .v (v.Values.map cInt), val (vI v.Born), val (vI v.Died)])) (fN := nVer) (xss := s.Segments) (by exact rfl) (by exact rfl) (fun _ _ => rfl) (fun _ => rfl) (fun _ => (ToL.cons (PV.To.refl _) (ToL.cons PV.to_none (ToL.cons (PV.To.refl _) (ToL.cons (PV.To.refl _) ToL.nil))))) (fun _ => (by exact lq)) fun zss hzss => ?_
 have hzl := zss_len hzss
 refine zns ?_
 refine znt ?_
 refine rA ?_ (x := loc_glen (G := 2900) (by decide) sl_33)
 refine zfl ?_
 refine sP [1, 2, 4, 5, 6, 19, 20, 21, 2900, 6000] [2, 4, 6, 900] ?_
 refine sL [1, 2, 4, 5, 6, 19, 20, 2900, 6000] [2, 4, 6] (fun i : Nat => i ≤ zss.length) (fun i : Nat => [(21, RV.int (i : Int))]) (fun i : Nat => [(900, (149, arr nVerS (fzTo zss keep i) jk900))]) (fun i : Nat => zss.length - i) 0 (by omega) (by exact aI (by exact rfl) (tI)) (by exact aI (by exact rfl) (tI)) ?_
 rintro i hi
 have hfl0 := fz_len (zss := zss) (keep := keep) (k := i)
 refine zfm ?_
 refine sc (fun hbb => ?_) (fun hbb => ?_)
 try simp only [List.length_map] at hbb
 have hlz : i < zss.length := by omega
 have hls : i < s.Segments.length := by omega
 have hz2 := zss_at2 hzss hlz hls
 have hs4i := hs4 _ (List.getElem_mem hls)
 have hfl : i < (fzTo zss keep i).length := by rw [fz_len]; omega
 have hfg := fz_get (keep := keep) hlz hfl
 refine zdx ?_
 refine sO [(1, _), (2, _), (4, _), (5, _), (6, _), (19, _), (20, _), (21, _), (2900, _), (6000, _)] [(2, (35, [sl (.lo _) _, val _])), (4, (35, [sl _ _, val _])), (6, (35, [val _, val _])), (900, (149, arr nVerS _ _))] ?_
 refine sw_reg ?_
 refine rM ?_
 refine znu ?_
 refine rS ?_
 refine rA ?_ (x := vA false [sl .v _])
 refine sS [1, 2, 4, 5, 6, 7, 8, 19, 20, 21, 2900, 6000] [2, 4, 6, 900] ?_
 refine zhw ?_
 refine zie ?_
 refine sP [1, 2, 4, 5, 6, 7, 8, 9, 19, 20, 21, 2900, 6000] [2, 4, 6, 900] ?_
 refine sw_weak (s := 8) [sl .v (zss[i].map nVer)] (by exact rfl) (by exact (by rw [hfg]; exact (ToL.cons (PV.To.refl _) ToL.nil))) (by exact (BorL.cons (bor_sl _) BorL.nil)) ?_
 refine sG [1, 2, 4, 5, 6, 7, 8, 9, 19, 20, 21, 2900, 6000] [2, 4, 6, 900] ?_
 refine zd6 ?_
 refine zfl ?_
 refine sP [1, 2, 4, 5, 6, 7, 8, 9, 19, 20, 21, 27, 28, 29, 2900, 6000] [2, 4, 6, 900] ?_
 refine sL [1, 2, 4, 5, 6, 7, 8, 19, 20, 21, 27, 28, 2900, 6000] [2, 4, 6, 900] (fun j : Nat => j ≤ zss[i].length) (fun j : Nat => [(9, RV.slc (.own 151 4) ((filtZ keep (zss[i].take j)).map nVer)), (29, RV.int (j : Int))]) (fun j : Nat => []) (fun j : Nat => zss[i].length - j) 0 (by omega) (by exact aI (by exact rfl) (aI (by exact rfl) (tI))) (by exact ⟨⟩) ?_
 rintro j hj
 refine zfm ?_
 refine sc (fun hbc => ?_) (fun hbc => ?_)
 have hlj : j < zss[i].length := by omega
 have hlj2 : j < s.Segments[i].length := by omega
 have hz3 := zss_at3 hzss hlz hls hlj hlj2
 have hfle := filtZ_le (keep := keep) (zs := zss[i]) (j := j)
 refine zdx ?_
 refine znv ?_
 refine rA ?_ (x := loc_index (by decide) sl_149 (by exact ⟨⟩) (by exact rfl) (by exact getm2 (by omega) rfl) (by exact rfl))
 refine znw ?_
 refine znx ?_
 refine sO [(1, _), (2, _), (4, _), (5, _), (6, _), (7, _), (8, _), (9, _), (11, _), (19, _), (20, _), (21, _), (27, _), (28, _), (29, _), (2900, _), (6000, _)] [(2, _), (4, _), (6, _), (11, (151, [nv _ (val _), nv _ (sl _ _), nv _ (val _), nv _ (val _)])), (900, _)] ?_
 refine sw_reg ?_
 refine rA ?_ (x := loc_load (qs := [nv _ (val _), nv _ (sl .v _), nv _ (val _), nv _ (val _)]) (by decide) ty_151 (fun h => nomatch h) (by exact nl rfl) (by exact (ToL.cons (PV.To.refl _) (ToL.cons (PV.To.refl _) (ToL.cons (PV.To.refl _) (ToL.cons (PV.To.refl _) ToL.nil))))) (by exact lq))
 refine rA ?_ (x := vM false [sl (.lo _) _])
 refine rA ?_ (x := loc_call (qs := [(true, [nv _ (val _), nv _ (sl _ _), nv _ (val _), nv _ (val _)]), (false, [sl (.lo _) _])]) (as_ := [(true, [val _, sl .v _, val _, val _]), (false, [sl .v _])]) (by decide) c_234 (by exact (aI (by exact ⟨⟩) (aI (by exact ⟨⟩) tI))) (by exact (aI (aI rfl (ToL.cons (PV.nv_to (PV.To.refl _)) (ToL.cons (PV.nv_to PV.to_none) (ToL.cons (PV.nv_to (PV.To.refl _)) (ToL.cons (PV.nv_to (PV.To.refl _)) ToL.nil))))) (aI (aI rfl (ToL.cons PV.to_none ToL.nil)) tI))) (by exact impl_isNeeded))
 refine sc (fun hbd => ?_) (fun hbd => ?_)
 have hnd : needV s.Segments[i][j] keep = true := by rw [← hz3]; simpa using hbd
 refine sG [1, 2, 4, 5, 6, 7, 8, 9, 11, 19, 20, 21, 27, 28, 29, 2900, 6000] [2, 4, 6, 11, 900] ?_
 refine rA ?_ (x := tM)
 refine zny ?_
 refine znz ?_
 exact zo0
 have hnd : needV s.Segments[i][j] keep = false := by rw [← hz3]; simpa using hbd
 refine sw_skip ?_
 exact zo0
 refine sw_exit ?_
 refine znv ?_
 refine znt ?_
 refine rM ?_
 refine rA ?_ (x := tM)
 refine zo1 ?_
 refine sG [1, 2, 4, 5, 6, 7, 8, 19, 20, 21, 27, 28, 29, 2900, 6000] [2, 4, 6, 900] ?_
 refine zfp ?_
 refine nx (i + 1) (by omega) (f := (by exact aI (by rw [show j = zss[i].length by omega, List.take_length, fz_set hlz]; exact rfl) (tI)))
 try simp only [List.length_map] at hbb
 have hend : i = zss.length := by omega
 refine zhm ?_
 refine sO [(1, _), (2, _), (4, _), (5, _), (6, _), (19, _), (20, _), (21, _), (2900, _), (6000, _)] [(2, (35, [sl (.lo _) _, val _])), (4, (35, [sl _ _, val _])), (6, (35, [val _, val _])), (900, (149, arr nVerS _ _))] ?_
 refine sw_backAE (d := 900) (t := 151) (e := 4) (G := 6000) (f := (cVersion (.own 3 1))) (g := (fun v : Version => [val (vI v.Id), sl .v (v.Values.map cInt), val (vI v.Born), val (vI v.Died)])) (fN := nVer) (zss := (fzTo zss keep i)) (by exact rfl) (by exact rfl) (fun _ _ => rfl) (fun _ => rfl) (fun _ => rfl) (by rw [hend, fz_end]; exact fz_sub) ?_
 refine sO [(1, _), (2, _), (4, _), (5, _), (6, _), (19, _), (20, _), (21, _), (2900, _)] [(2, _), (4, _), (6, _), (900, (149, arr (cVersionS (.own 151 4) (.own 3 1)) _ _))] ?_
 refine zo2 ?_
 refine sO [(1, _), (2, _), (4, _), (5, _), (6, _), (19, _), (20, _), (21, _)] [(2, _), (4, _), (6, (35, [sl _ _, val _]))] ?_
 refine sw_boxEq (d := 6) (by exact rfl) (show _ = [sl (.own 149 1) ((reclaimS s keep).Segments.map (cVersionS (.own 151 4) (.own 3 1))), val (vI (reclaimS s keep).Now)] from by first | (rw [hst]; done) | (rw [hst]; exact rfl)) ?_
 refine sO [(1, _), (2, _), (4, _), (5, _), (6, _), (19, _), (20, _), (21, _)] [(2, _), (4, _), (6, (35, [sl _ _, val _]))] ?_
 refine sw_lendN (d := 6) (G := 1006) (by exact rfl) (by exact rfl) (ToL.cons PV.to_none (ToL.cons (PV.To.refl _) ToL.nil)) (BorL.cons (bor_sl _) (BorL.cons (bor_val _) BorL.nil)) fun us hRN => ?_
 obtain ⟨_, _, hRN⟩ := hRN
 obtain ⟨u5_0, u5_1, rfl⟩ := us_2 hRN.len
 clear hRN
 refine sO [(1, _), (2, _), (4, _), (5, _), (6, _), (19, _), (20, _), (21, _), (1006, _)] [(2, _), (4, _), (6, (35, [nv _ (sl _ _), nv _ (val _)]))] ?_
 refine sw_draw hm_ ?_
 refine dA 0 ?_ (x := loc_load (qs := [nv _ (sl .v _), nv _ (val _)]) (by decide) ty_35 (fun h => nomatch h) (by exact nl rfl) (by exact (ToL.cons (PV.To.refl _) (ToL.cons (PV.To.refl _) ToL.nil))) (by exact (BorL.cons (bor_nv (bor_sl _)) (BorL.cons (bor_nv (bor_val _)) BorL.nil))))
 refine dA 0 ?_ (x := lD [sl (.lo _) _, val _] ty_35)
 refine dA 2 ?_ (x := cL [(true, [sl (.lo _) _, val _])] [(true, [sl .v _, val _])] c_235 (hs := by exact (impl_CountVersions (by omega))))
 refine dA 0 ?_ (x := loc_load (qs := [nv _ (sl .v _), nv _ (val _)]) (by decide) ty_35 (fun h => nomatch h) (by exact nl rfl) (by exact (ToL.cons (PV.To.refl _) (ToL.cons (PV.To.refl _) ToL.nil))) (by exact (BorL.cons (bor_nv (bor_sl _)) (BorL.cons (bor_nv (bor_val _)) BorL.nil))))
 refine dA 14 ?_ (x := loc_call (qs := [(true, [nv _ (sl _ _), nv _ (val _)])]) (as_ := [(true, [sl .v _, val _])]) (by decide) c_235 (by exact (aI (by exact ⟨⟩) tI)) (by exact (aI (aI rfl (ToL.cons (PV.nv_to PV.to_none) (ToL.cons (PV.nv_to (PV.To.refl _)) ToL.nil))) tI)) (by exact (impl_CountVersions (by omega))))
 refine dA 30 ?_ (x := B_sub)
 refine dA 31 ?_ (x := loc_store (ag := true) (vs := [nv _ (sl _ _), nv _ (val _)]) ty_35 (by exact ⟨⟩) (by exact rfl) (by exact nl rfl))
 refine dA 127 ?_ (x := sA)
 refine sw_backB (d := 4) (G := 1006) (by exact rfl) (by exact (Nm.nv (Nm.nv Nm.nil))) (by exact rfl) ?_
 refine sw_ret ?_
 exact (Exists.intro 4 (Exists.intro _ (aI (by exact rfl) (aI (by refine box_eq ?_; exact rfl) (aI ty_35 (aI (fun h => nomatch h) (aI (by refine int_eq ?_; unfold cntR; rw [if_pos hok]) tI)))))))
theorem spec_ReclaimStore {p1 p2 : Fl} {s : Store} {keep : List Int}  (hb : wtStore s ≤ 68719476736) (hk0 : keep.length ≤ 68719476736) : SCall Tryz.prog 212 [(true, [sl .v (s.Segments.map (cVersionS p1 p2)), val (vI s.Now)]), (false, [sl .v (keep.map cInt)])] (resRV [(true, [sl (.own 149 1) ((reclaimS s keep).Segments.map (cVersionS (.own 151 4) (.own 3 1))), val (vI (reclaimS s keep).Now)]), (false, [val (vI (cntX s keep))])]) := by
 refine scall_lo (largs := fun L => [(true, [sl (.lo L) (s.Segments.map (cVersionS (.lo L) (.lo L))), val (vI s.Now)]), (false, [sl (.lo L) (keep.map cInt)])]) (rs := [(true, [sl (.own 149 1) ((reclaimS s keep).Segments.map (cVersionS (.own 151 4) (.own 3 1))), val (vI (reclaimS s keep).Now)]), (false, [val (vI (cntX s keep))])]) Tryz.func212 rfl (nl rfl) (fun L => by exact (aI (aI rfl (ToBL.cons (PV.tob_map (fun _ => nl rfl) (fun _ => (ToBL.cons (PV.tob_map (fun _ => nl rfl) (fun _ => (ToBL.cons PV.tob_refl (ToBL.cons (PV.tob_map (fun _ => nl rfl) (fun _ => (ToBL.cons PV.tob_refl ToBL.nil))) (ToBL.cons PV.tob_refl (ToBL.cons PV.tob_refl ToBL.nil)))))) ToBL.nil))) (ToBL.cons PV.tob_refl ToBL.nil))) (aI (aI rfl (ToBL.cons (PV.tob_map (fun _ => nl rfl) (fun _ => (ToBL.cons PV.tob_refl ToBL.nil))) ToBL.nil)) tI))) (fun L => by exact lq) ?_
 intro w0 Fz0
 refine sn 0 0 fun hl0_0 => ?_
 refine sj 1 fun hl1 => ?_
 have hrw := reclaim_wt s keep
 have hal := allV_len s
 refine sR ?_
 refine znn ?_
 refine zno ?_
 refine znp ?_
 refine rA ?_ (x := cL [(true, [sl (.lo _) _, val _])] [(true, [sl .v _, val _])] c_138 (hs := by exact (spec_l7Copy (by omega))))
 refine zn8 ?_
 refine znq ?_
 refine znp ?_
 refine rA ?_ (x := cL [(true, [sl (.lo _) _, val _])] [(true, [sl .v _, val _])] c_96 (hs := by exact spec_IsStore (by omega)))
 refine rA ?_ (x := nT)
 refine sc (fun hba => ?_) (fun hba => ?_)
 have hok : okStore s = false := by simpa using hba
 have hr := reclaim_no (keep := keep) hok
 refine sS [1, 2, 4, 5, 6] [2, 4, 6] ?_
 refine zc5 ?_
 refine zgb ?_
 exact (Exists.intro 4 (Exists.intro _ (aI (by exact rfl) (aI (by refine box_eq ?_; rw [hr]; exact rfl) (aI ty_35 (aI (fun h => nomatch h) (aI (by refine int_eq ?_; unfold cntX; rw [hok]; exact rfl) tI)))))))
 have hok : okStore s = true := by simpa using hba
 have hst := reclaim_yes (keep := keep) hok
 obtain ⟨hs8, hs1, hn0, hn1, hs4, hver⟩ := sto_facts hok
 refine zf2 ?_
 refine sP [1, 2, 4, 5, 6] [2, 4, 6] ?_
 refine sw_thawB (d := 6) (t := 35) (D := 900) (G := 2900) (E := 149) (e := 1) (L := (Lw w0.heap.size)) (A := []) (B := [val _]) (es := (s.Segments).map (cVersionS (.own 151 4) (.own 3 1))) (by exact rfl) (map_ne (show 0 < s.Segments.length by omega)) (by exact rfl) (by exact rfl) rfl (by exact rfl) (fun x hx => hx) (by exact lq) (by exact lq) (by exact LclC.nil) (by exact lc) (LclC.map fun x => (LclC.cons (lcl_own (LclC.map fun x => (LclC.cons lcl_val (LclC.cons (lcl_own (LclC.map fun x => (LclC.cons lcl_val LclC.nil))) (LclC.cons lcl_val (LclC.cons lcl_val LclC.nil)))))) LclC.nil)) fun uu900 cp900 jk900 hlD900 hcp900 hjk900 => ?_
 rw [List.length_map] at hlD900 hcp900 hjk900
 refine znr ?_
 refine sw_lendAE (d := 900) (t := 151) (e := 4) (G := 6000) (f := (cVersion (.own 3 1))) (g := (fun v : Version => [val (vI v.Id), sl .v (v.Values.map cInt), val (vI v.Born), val (vI v.Died)])) (fN := nVer) (xss := s.Segments) (by exact rfl) (by exact rfl) (fun _ _ => rfl) (fun _ => rfl) (fun _ => (ToL.cons (PV.To.refl _) (ToL.cons PV.to_none (ToL.cons (PV.To.refl _) (ToL.cons (PV.To.refl _) ToL.nil))))) (fun _ => (by exact lq)) fun zss hzss => ?_
 have hzl := zss_len hzss
 refine zns ?_
 refine zee ?_
 refine sS [1, 2, 4, 5, 6, 7, 2900, 6000] [2, 4, 6, 900] ?_
 refine zhx ?_
 refine sP [1, 2, 4, 5, 6, 7, 8, 2900, 6000] [2, 4, 6, 900] ?_
 refine sL [1, 2, 4, 5, 6, 2900, 6000] [2, 4, 6] (fun i : Nat => i ≤ zss.length) (fun i : Nat => [(7, RV.int (cntD s keep i 0 : Nat)), (8, RV.int (i : Int))]) (fun i : Nat => [(900, (149, arr nVerS (fzTo zss keep i) jk900))]) (fun i : Nat => zss.length - i) 0 (by omega) (by exact aI (by exact int_eq (by rw [cntD_zero]; rfl)) (aI (by exact rfl) (tI))) (by exact aI (by exact rfl) (tI)) ?_
 rintro i hi
 have hfl0 := fz_len (zss := zss) (keep := keep) (k := i)
 refine zg2 ?_
 refine zo3 ?_
 refine zda ?_
 refine sc (fun hbb => ?_) (fun hbb => ?_)
 try simp only [List.length_map] at hbb
 have hlz : i < zss.length := by omega
 have hls : i < s.Segments.length := by omega
 have hz2 := zss_at2 hzss hlz hls
 have hs4i := hs4 _ (List.getElem_mem hls)
 have hfl : i < (fzTo zss keep i).length := by rw [fz_len]; omega
 have hfg := fz_get (keep := keep) hlz hfl
 refine zdx ?_
 refine sO [(1, _), (2, _), (4, _), (5, _), (6, _), (7, _), (8, _), (2900, _), (6000, _)] [(2, (35, [sl (.lo _) _, val _])), (4, (35, [sl _ _, val _])), (6, (35, [val _, val _])), (900, (149, arr nVerS _ _))] ?_
 refine sw_reg ?_
 refine zhw ?_
 refine sw_seq ?_
 refine sS [1, 2, 4, 5, 6, 7, 8, 9, 2900, 6000] [2, 4, 6, 900] ?_
 refine zhx ?_
 refine sP [1, 2, 4, 5, 6, 7, 8, 9, 10, 2900, 6000] [2, 4, 6, 900] ?_
 refine sL [1, 2, 4, 5, 6, 8, 2900, 6000] [2, 4, 6, 900] (fun j : Nat => j ≤ zss[i].length) (fun j : Nat => [(7, RV.int (cntD s keep i j : Nat)), (9, RV.slc (.own 151 4) ((filtZ keep (zss[i].take j)).map nVer)), (10, RV.int (j : Int))]) (fun j : Nat => []) (fun j : Nat => zss[i].length - j) 0 (by omega) (by exact aI (by exact rfl) (aI (by exact rfl) (aI (by exact rfl) (tI)))) (by exact ⟨⟩) ?_
 rintro j hj
 have hcd := cntD_le (keep := keep) (j := j) hls
 refine zg2 ?_
 refine znt ?_
 refine rM ?_
 refine znu ?_
 refine zd7 ?_
 refine sc (fun hbc => ?_) (fun hbc => ?_)
 try rw [hfg] at hbc
 have hlj : j < zss[i].length := by omega
 have hlj2 : j < s.Segments[i].length := by omega
 have hz3 := zss_at3 hzss hlz hls hlj hlj2
 have hfle := filtZ_le (keep := keep) (zs := zss[i]) (j := j)
 have hvz := List.getElem_of_eq hfg (show j < ((fzTo zss keep i)[i]'hfl).length by rw [hfg]; exact hlj)
 refine zdx ?_
 refine zo4 ?_
 refine znt ?_
 refine rM ?_
 refine znu ?_
 refine rM ?_
 refine rA ?_ (x := loc_index (by decide) sl_149 (by exact ⟨⟩) (by exact rfl) (by exact getm2 (by rw [hfg]; omega) rfl) (by exact rfl))
 refine znw ?_
 refine znx ?_
 refine sO [(1, _), (2, _), (4, _), (5, _), (6, _), (7, _), (8, _), (9, _), (10, _), (11, _), (2900, _), (6000, _)] [(2, _), (4, _), (6, _), (11, (151, [nv _ (val _), nv _ (sl _ _), nv _ (val _), nv _ (val _)])), (900, _)] ?_
 refine sw_boxEq (d := 11) (by exact rfl) (congrArg nVer hvz) ?_
 refine sG [1, 2, 4, 5, 6, 7, 8, 9, 10, 11, 2900, 6000] [2, 4, 6, 11, 900] ?_
 refine rA ?_ (x := lF fd_151_3)
 refine rA ?_ (x := loc_load (qs := [val _]) (by decide) ty_3 (fun _ => rfl) (by exact nl rfl) (by exact (ToL.cons (PV.nv_to (PV.To.refl _)) ToL.nil)) (by exact (BorL.cons (bor_val _) BorL.nil)))
 refine rA ?_ (x := B_eql)
 refine zjk ?_
 refine sS [1, 2, 4, 5, 6, 7, 8, 9, 10, 11, 12, 2900, 6000] [2, 4, 6, 11, 900] ?_
 refine zhx ?_
 refine sP [1, 2, 4, 5, 6, 7, 8, 9, 10, 11, 12, 13, 2900, 6000] [2, 4, 6, 11, 900] ?_
 refine sL [1, 2, 4, 5, 6, 7, 8, 9, 10, 11, 2900, 6000] [2, 4, 6, 11, 900] (fun m : Nat => m ≤ keep.length) (fun m : Nat => [(12, RV.bool (needTo zss[i][j].1 keep m)), (13, RV.int (m : Int))]) (fun m : Nat => []) (fun m : Nat => keep.length - m) 0 (by omega) (by exact aI (by first | exact rfl | exact bool_eq (by unfold needTo; simp; rfl)) (aI (by exact rfl) (tI))) (by exact ⟨⟩) ?_
 rintro m hm
 refine zg2 ?_
 refine rA ?_ (x := vM false [sl (.lo _) _])
 refine rA ?_ (x := lN sl_25)
 refine rA ?_ (x := B_lss)
 refine sc (fun hbd => ?_) (fun hbd => ?_)
 have hlm : m < keep.length := by omega
 refine zed ?_
 refine sO [(1, _), (2, _), (4, _), (5, _), (6, _), (7, _), (8, _), (9, _), (10, _), (11, _), (12, _), (13, _), (2900, _), (6000, _)] [(2, (35, [sl (.lo _) _, val _])), (4, (35, [sl _ _, val _])), (6, (35, [val _, val _])), (11, (151, [nv _ (val _), nv _ (sl _ _), nv _ (val _), nv _ (val _)])), (900, (149, arr nVerS _ _))] ?_
 refine sw_draw hm_ ?_
 refine dA 0 ?_ (x := sM)
 refine dA 1 ?_ (x := sM)
 refine dx 56 (fun ga sga => ?_) (fun ga sga => ?_)
 have hg : needTo zss[i][j].1 keep m = true := by simpa using ga
 have sga := ga
 try simp only [qq] at sga
 refine dT 3 ga ?_
 refine dT 3 ga ?_
 refine dT 3 ga ?_
 refine dT 27 ga ?_
 refine dT 59 ga ?_
 refine dT 127 ga ?_
 refine dA 255 ?_ (x := pkT ga)
 exact zo5
 have hg : needTo zss[i][j].1 keep m = false := by simpa using ga
 have sga := ga
 try simp only [qq] at sga
 refine dB 3 ga ?_ (x := loc_load (qs := [nv _ (val _), nv _ (sl .v _), nv _ (val _), nv _ (val _)]) (by decide) ty_151 (fun h => nomatch h) (by exact nl rfl) (by exact (ToL.cons (PV.To.refl _) (ToL.cons (PV.To.refl _) (ToL.cons (PV.To.refl _) (ToL.cons (PV.To.refl _) ToL.nil))))) (by exact lq))
 refine dB 3 ga ?_ (x := vM false [sl (.lo _) _])
 refine dB 3 ga ?_ (x := sM)
 refine dB 27 ga ?_ (x := loc_index (by decide) sl_25 (by exact ⟨⟩) (by exact rfl) (by exact getm2 (by omega) rfl) (by exact rfl))
 refine dB 59 ga ?_ (x := lE [val _] ty_3)
 refine dB 127 ga ?_ (x := loc_call (qs := [(true, [nv _ (val _), nv _ (sl _ _), nv _ (val _), nv _ (val _)]), (false, [val _])]) (as_ := [(true, [val _, sl .v _, val _, val _]), (false, [val _])]) (by decide) c_231 (by exact (aI (by exact ⟨⟩) (aI (by exact ⟨⟩) tI))) (by exact (aI (aI rfl (ToL.cons (PV.nv_to (PV.To.refl _)) (ToL.cons (PV.nv_to PV.to_none) (ToL.cons (PV.nv_to (PV.To.refl _)) (ToL.cons (PV.nv_to (PV.To.refl _)) ToL.nil))))) (aI (aI rfl (ToL.cons (PV.To.refl _) ToL.nil)) tI))) (by exact spec_IsVisible))
 refine dA 255 ?_ (x := pkF ga)
 exact zo5
 have hme : m = keep.length := by omega
 refine zhm ?_
 refine sO [(1, _), (2, _), (4, _), (5, _), (6, _), (7, _), (8, _), (9, _), (10, _), (11, _), (12, _), (13, _), (2900, _), (6000, _)] [(2, (35, [sl (.lo _) _, val _])), (4, (35, [sl _ _, val _])), (6, (35, [val _, val _])), (11, (151, [nv _ (val _), nv _ (sl _ _), nv _ (val _), nv _ (val _)])), (900, (149, arr nVerS _ _))] ?_
 refine sw_reg ?_
 refine rM ?_
 refine sc (fun hbe => ?_) (fun hbe => ?_)
 have hnd : needV s.Segments[i][j] keep = true := by rw [← hz3, ← needTo_end, ← hme]; simpa using hbe
 refine sG [1, 2, 4, 5, 6, 7, 8, 9, 10, 11, 12, 13, 2900, 6000] [2, 4, 6, 11, 900] ?_
 refine rA ?_ (x := tM)
 refine zny ?_
 refine znz ?_
 exact zo6
 have hnd : needV s.Segments[i][j] keep = false := by rw [← hz3, ← needTo_end, ← hme]; simpa using hbe
 refine zo7 ?_
 exact zo6
 try rw [hfg] at hbc
 refine sw_exit ?_
 refine zo4 ?_
 refine znt ?_
 refine rM ?_
 refine rA ?_ (x := tM)
 refine zo1 ?_
 refine sG [1, 2, 4, 5, 6, 7, 8, 10, 2900, 6000] [2, 4, 6, 900] ?_
 refine ze0 ?_
 refine nx (i + 1) (by omega) (e := (by exact aI (by exact int_eq (by rw [show j = s.Segments[i].length by omega, cntD_next hls])) (aI (by exact int_eq (by omega)) (tI)))) (f := (by exact aI (by rw [show j = zss[i].length by omega, List.take_length, fz_set hlz]; exact rfl) (tI)))
 try simp only [List.length_map] at hbb
 have hend : i = zss.length := by omega
 refine zhm ?_
 refine sO [(1, _), (2, _), (4, _), (5, _), (6, _), (7, _), (8, _), (2900, _), (6000, _)] [(2, (35, [sl (.lo _) _, val _])), (4, (35, [sl _ _, val _])), (6, (35, [val _, val _])), (900, (149, arr nVerS _ _))] ?_
 refine sw_backAE (d := 900) (t := 151) (e := 4) (G := 6000) (f := (cVersion (.own 3 1))) (g := (fun v : Version => [val (vI v.Id), sl .v (v.Values.map cInt), val (vI v.Born), val (vI v.Died)])) (fN := nVer) (zss := (fzTo zss keep i)) (by exact rfl) (by exact rfl) (fun _ _ => rfl) (fun _ => rfl) (fun _ => rfl) (by rw [hend, fz_end]; exact fz_sub) ?_
 refine sO [(1, _), (2, _), (4, _), (5, _), (6, _), (7, _), (8, _), (2900, _)] [(2, _), (4, _), (6, _), (900, (149, arr (cVersionS (.own 151 4) (.own 3 1)) _ _))] ?_
 refine zo2 ?_
 refine sO [(1, _), (2, _), (4, _), (5, _), (6, _), (7, _), (8, _)] [(2, _), (4, _), (6, (35, [sl _ _, val _]))] ?_
 refine sw_boxEq (d := 6) (by exact rfl) (show _ = [sl (.own 149 1) ((reclaimS s keep).Segments.map (cVersionS (.own 151 4) (.own 3 1))), val (vI (reclaimS s keep).Now)] from by first | (rw [hst]; done) | (rw [hst]; exact rfl)) ?_
 refine sO [(1, _), (2, _), (4, _), (5, _), (6, _), (7, _), (8, _)] [(2, _), (4, _), (6, (35, [sl _ _, val _]))] ?_
 refine sw_reg ?_
 refine rA ?_ (x := loc_ltake (ms := [sl _ _, val _]) (qs := [sl .v _, val _]) (by decide) ty_35 (fun h => nomatch h) (by exact nl rfl) (by exact rfl) (by exact (ToL.cons PV.to_none (ToL.cons (PV.To.refl _) ToL.nil))) (by exact (BorL.cons (bor_sl _) (BorL.cons (bor_val _) BorL.nil))))
 refine rM ?_
 refine rA ?_ (x := loc_store (ag := true) (vs := [sl _ _, val _]) ty_35 (by exact ⟨⟩) (by exact rfl) (by exact nl rfl))
 refine zgj ?_
 exact (Exists.intro 4 (Exists.intro _ (aI (by exact rfl) (aI (by refine box_eq ?_; exact rfl) (aI ty_35 (aI (fun h => nomatch h) (aI (by refine int_eq ?_; unfold cntX; rw [if_pos hok, ← hzl, ← hend]) tI)))))))
end Go.Proofs.YteflgldonmgejaaGreat
