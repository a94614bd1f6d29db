/- What functions of the program compute. No condition. -/
import Derived.Test.YtmekkgdboplbjaaGreatCR0
set_option linter.unusedVariables false
set_option linter.unusedSimpArgs false
namespace Go.Proofs.YtmekkgdboplbjaaGreat
open Go Go.RowKit M PV
set_option maxRecDepth 10000
attribute [local irreducible] PV.Lcl PV.LclR RV.Lcl
theorem Q5 {v : aF} {keep : List Int}  : aw Tryz.prog 271 [(true, [val (vI v.Id), sl .v (v.Values.map ai), val (vI v.Born), val (vI v.Died)]), (false, [sl .v (keep.map ai)])] (av [(false, [val (.bool (fi v keep))])]) := by
 refine sF Tryz.func271 fun h0 w0 Fz0 => ?_
 refine sn 0 1 fun hl0_1 => ?_
 refine sj 1 fun hl1 => ?_
 refine qD ?_
 refine ur ?_
 refine oZ ?_
 refine sP [1, 2, 4, 7, 8, 9] [2] ?_
 refine sL [1, 2, 7, 8] [2] (fun k : Nat => k ≤ keep.length ∧ (keep.take k).any (de v) = false) (fun k : Nat => [(9, RV.int (k : Int))]) (fun k : Nat => []) (fun k : Nat => keep.length - k) 0 (by exact ⟨by omega, by simp⟩) (by exact aI (by exact rfl) (tI)) (by exact ⟨⟩) ?_
 rintro k ⟨hk, ha⟩
 refine bG ?_
 refine sc (fun hba => ?_) (fun hba => ?_)
 have hlt : k < keep.length := by omega
 refine aT ?_
 refine sT [1, 2, 7, 8, 9] [2] ?_
 refine kt ?_
 refine sS [1, 2, 6, 7, 8, 9] [2] ?_
 refine rA ?_ (x := lD [val _, sl .v _, val _, val _] d2)
 refine G4 ?_
 refine sc (fun hbb => ?_) (fun hbb => ?_)
 have hv : de v keep[k] = true := by simpa using hbb
 refine sS [1, 2, 6, 7, 8, 9] [2] ?_
 refine bD ?_
 exact rb ((Oy hlt hv).symm)
 have hvf : de v keep[k] = false := by simpa using hbb
 refine aN ?_
 refine sG [1, 2, 6, 7, 8, 9] [2] ?_
 refine b5 ?_
 refine nx (k + 1) (by exact ⟨by omega, pd ha hlt hvf⟩)
 refine aX ?_
 refine sT [1, 2, 7, 8, 9] [2] ?_
 refine rA ?_ (x := lF gP)
 refine tJ ?_
 refine cK ?_
 exact rb (by (have hn := Oz (v := v) (Im (by rw [show keep.length = k by omega]; exact ha)); rw [hn]; first | rfl | simp))
theorem KC {p1 p2 : Fl} {s : Store}  (hb : cc s ≤ 68719476736) : aw Tryz.prog 272 [(true, [sl .v (s.Segments.map (ax p1 p2)), val (vI s.Now)])] (av [(false, [val (vI ((mx s : Nat) : Int))])]) := by
 refine sF Tryz.func272 fun h0 w0 Fz0 => ?_
 refine sn 0 0 fun hl0_0 => ?_
 refine iJ ?_
 refine rp ?_
 refine eS ?_
 refine sS [1, 2, 3] [1] ?_
 refine i5 ?_
 refine cj ?_
 refine sP [1, 2, 3, 7, 8, 9] [1] ?_
 refine sL [1, 2, 7, 8] [1] (fun k : Nat => k ≤ s.Segments.length) (fun k : Nat => [(3, RV.int (nP s k : Nat)), (9, RV.int (k : Int))]) (fun k : Nat => []) (fun k : Nat => s.Segments.length - k) 0 (by omega) (by exact aI (by exact rfl) (aI (by exact rfl) (tI))) (by exact ⟨⟩) ?_
 rintro k hk
 refine bG ?_
 refine sc (fun hba => ?_) (fun hba => ?_)
 have hlt : k < s.Segments.length := by omega
 have hcl := Ox (s := s) (k + 1) hlt
 rw [Jh hlt] at hcl
 have hal : mx s ≤ cc s := mq s
 refine aT ?_
 refine sT [1, 2, 3, 7, 8, 9] [1] ?_
 refine mY ?_
 refine rA ?_ (x := vA false [sl .v _])
 refine sG [1, 2, 3, 5, 7, 8, 9] [1] ?_
 refine rM ?_
 refine i3 ?_
 refine mW ?_
 refine sG [1, 2, 3, 5, 7, 8, 9] [1] ?_
 refine b5 ?_
 refine nx (k + 1) (by omega) (e := (by exact aI (by exact bf (by rw [Jh hlt]; omega)) (aI (by exact rfl) (tI))))
 have hend : k = s.Segments.length := by omega
 refine aX ?_
 refine sT [1, 2, 3, 7, 8, 9] [1] ?_
 refine nw ?_
 exact (aI (by refine bf ?_; unfold nP; rw [hend, yS]; rfl) tI)
theorem Q6 {p1 p2 : Fl} {s : Store} {keep : List Int}  (hb : cc s ≤ 68719476736) (hk0 : keep.length ≤ 68719476736) : aw Tryz.prog 231 [(true, [sl .v (s.Segments.map (ax p1 p2)), val (vI s.Now)]), (false, [sl .v (keep.map ai)])] (av [(true, [sl (.own 139 1) ((dM s keep).Segments.map (ax (.own 184 4) (.own 3 1))), val (vI (dM s keep).Now)]), (false, [val (vI (uU s keep))])]) := by
 refine kX (largs := fun L => [(true, [sl (.lo L) (s.Segments.map (ax (.lo L) (.lo L))), val (vI s.Now)]), (false, [sl (.lo L) (keep.map ai)])]) (rs := [(true, [sl (.own 139 1) ((dM s keep).Segments.map (ax (.own 184 4) (.own 3 1))), val (vI (dM s keep).Now)]), (false, [val (vI (uU s keep))])]) Tryz.func231 rfl (nl rfl) (fun L => by exact (aI (aI rfl (ah.cons (PV.tob_map (fun _ => nl rfl) (fun _ => (ah.cons (PV.tob_map (fun _ => nl rfl) (fun _ => (ah.cons PV.tob_refl (ah.cons (PV.tob_map (fun _ => nl rfl) (fun _ => (ah.cons PV.tob_refl ah.nil))) (ah.cons PV.tob_refl (ah.cons PV.tob_refl ah.nil)))))) ah.nil))) (ah.cons PV.tob_refl ah.nil))) (aI (aI rfl (ah.cons (PV.tob_map (fun _ => nl rfl) (fun _ => (ah.cons PV.tob_refl ah.nil))) ah.nil)) tI))) (fun L => by exact lq) ?_
 intro w0 Fz0
 refine sn 0 0 fun hl0_0 => ?_
 refine sj 1 fun hl1 => ?_
 have hrw := y5 s keep
 have hal := mq s
 have hal2 := mq (dM s keep)
 have hcv : mx s = (aS s).length := rfl
 have hcv2 : mx (dM s keep) = (aS (dM s keep)).length := rfl
 refine xI ?_
 refine H5 ?_
 refine tN ?_
 refine rA ?_ (x := cL [(true, [sl (.lo _) _, val _])] [(true, [sl .v _, val _])] JD (hs := by exact (Kz (by omega))))
 refine lf ?_
 refine H8 ?_
 refine tN ?_
 refine rA ?_ (x := cL [(true, [sl (.lo _) _, val _])] [(true, [sl .v _, val _])] J6 (hs := by exact Kl (by omega)))
 refine rA ?_ (x := nT)
 refine sc (fun hba => ?_) (fun hba => ?_)
 have hok : bA s = false := by simpa using hba
 have hr := Ju (keep := keep) hok
 refine sS [1, 2, 4, 5, 6] [2, 4, 6] ?_
 refine l5 ?_
 refine bD ?_
 exact (Exists.intro 4 (Exists.intro _ (aI (by exact rfl) (aI (by refine cW ?_; rw [hr]; exact rfl) (aI cq (aI (fun h => nomatch h) (aI (by refine bf ?_; unfold uU; rw [hok]; exact rfl) tI)))))))
 have hok : bA s = true := by simpa using hba
 have hst := uT (keep := keep) hok
 obtain ⟨hs8, hs1, hn0, hn1, hs4, hver⟩ := jj hok
 refine dE ?_
 refine aJ ?_
 refine sP [1, 2, 4, 5, 6] [2, 4, 6] ?_
 refine jz (d := 6) (t := 26) (D := 900) (G := 2900) (E := 139) (e := 1) (L := (Lw w0.heap.size)) (A := []) (B := [val _]) (es := (s.Segments).map (ax (.own 184 4) (.own 3 1))) (by exact rfl) (hZ (show 0 < s.Segments.length by omega)) (by exact rfl) (by exact rfl) rfl (by exact rfl) (fun x hx => hx) (by exact lq) (by exact lq) (by exact ak.nil) (by exact lc) (ak.map fun x => (ak.cons (lcl_own (ak.map fun x => (ak.cons lcl_val (ak.cons (lcl_own (ak.map fun x => (ak.cons lcl_val ak.nil))) (ak.cons lcl_val (ak.cons lcl_val ak.nil)))))) ak.nil)) fun uu900 cp900 jk900 hlD900 hcp900 hjk900 => ?_
 rw [List.length_map] at hlD900 hcp900 hjk900
 refine F5 ?_
 refine BM (d := 900) (t := 184) (e := 4) (G := 6000) (f := (dO (.own 3 1))) (g := (fun v : aF => [val (vI v.Id), sl .v (v.Values.map ai), val (vI v.Born), val (vI v.Died)])) (fN := lL) (xss := s.Segments) (by exact rfl) (by exact rfl) (fun _ _ => rfl) (fun _ => rfl) (fun _ => (ab.cons (PV.To.refl _) (ab.cons PV.to_none (ab.cons (PV.To.refl _) (ab.cons (PV.To.refl _) ab.nil))))) (fun _ => (by exact lq)) fun zss hzss => ?_
 have hzl := Jm hzss
 refine HM ?_
 refine qR ?_
 refine rA ?_ (x := MX (G := 2900) (by decide) dK)
 refine cj ?_
 refine sP [1, 2, 4, 5, 6, 19, 20, 21, 2900, 6000] [2, 4, 6, 900] ?_
 refine sL [1, 2, 4, 5, 6, 19, 20, 2900, 6000] [2, 4, 6] (fun i : Nat => i ≤ zss.length) (fun i : Nat => [(21, RV.int (i : Int))]) (fun i : Nat => [(900, (139, bX iS (fv zss keep i) jk900))]) (fun i : Nat => zss.length - i) 0 (by omega) (by exact aI (by exact rfl) (tI)) (by exact aI (by exact rfl) (tI)) ?_
 rintro i hi
 have hfl0 := uS (zss := zss) (keep := keep) (k := i)
 refine bG ?_
 refine sc (fun hbb => ?_) (fun hbb => ?_)
 try simp only [List.length_map] at hbb
 have hlz : i < zss.length := by omega
 have hls : i < s.Segments.length := by omega
 have hz2 := Jn hzss hlz hls
 have hs4i := hs4 _ (List.getElem_mem hls)
 have hfl : i < (fv zss keep i).length := by rw [uS]; omega
 have hfg := Jj (keep := keep) hlz hfl
 refine cE ?_
 refine sO [(1, _), (2, _), (4, _), (5, _), (6, _), (19, _), (20, _), (21, _), (2900, _), (6000, _)] [(2, (26, [sl (.lo _) _, val _])), (4, (26, [sl _ _, val _])), (6, (26, [val _, val _])), (900, (139, bX iS _ _))] ?_
 refine iL ?_
 refine xi ?_
 refine rS ?_
 refine rA ?_ (x := vA false [sl .v _])
 refine sS [1, 2, 4, 5, 6, 7, 8, 19, 20, 21, 2900, 6000] [2, 4, 6, 900] ?_
 refine mZ ?_
 refine dH ?_
 refine sP [1, 2, 4, 5, 6, 7, 8, 9, 19, 20, 21, 2900, 6000] [2, 4, 6, 900] ?_
 refine mP (s := 8) [sl .v (zss[i].map lL)] (by exact rfl) (by exact (by rw [hfg]; exact (ab.cons (PV.To.refl _) ab.nil))) (by exact (ae.cons (bor_sl _) ae.nil)) ?_
 refine sG [1, 2, 4, 5, 6, 7, 8, 9, 19, 20, 21, 2900, 6000] [2, 4, 6, 900] ?_
 refine i3 ?_
 refine cj ?_
 refine sP [1, 2, 4, 5, 6, 7, 8, 9, 19, 20, 21, 27, 28, 29, 2900, 6000] [2, 4, 6, 900] ?_
 refine sL [1, 2, 4, 5, 6, 7, 8, 19, 20, 21, 27, 28, 2900, 6000] [2, 4, 6, 900] (fun j : Nat => j ≤ zss[i].length) (fun j : Nat => [(9, RV.slc (.own 184 4) ((f9 keep (zss[i].take j)).map lL)), (29, RV.int (j : Int))]) (fun j : Nat => []) (fun j : Nat => zss[i].length - j) 0 (by omega) (by exact aI (by exact rfl) (aI (by exact rfl) (tI))) (by exact ⟨⟩) ?_
 rintro j hj
 refine bG ?_
 refine sc (fun hbc => ?_) (fun hbc => ?_)
 have hlj : j < zss[i].length := by omega
 have hlj2 : j < s.Segments[i].length := by omega
 have hz3 := Jo hzss hlz hls hlj hlj2
 have hfle := Jr (keep := keep) (zs := zss[i]) (j := j)
 refine cE ?_
 refine F6 ?_
 refine rA ?_ (x := aD (by decide) bT (by exact ⟨⟩) (by exact rfl) (by exact aE (by omega) rfl) (by exact rfl))
 refine FU ?_
 refine G7 ?_
 refine sO [(1, _), (2, _), (4, _), (5, _), (6, _), (7, _), (8, _), (9, _), (11, _), (19, _), (20, _), (21, _), (27, _), (28, _), (29, _), (2900, _), (6000, _)] [(2, _), (4, _), (6, _), (11, (184, [nv _ (val _), nv _ (sl _ _), nv _ (val _), nv _ (val _)])), (900, _)] ?_
 refine aM ?_
 refine rA ?_ (x := eH (qs := [nv _ (val _), nv _ (sl .v _), nv _ (val _), nv _ (val _)]) (by decide) d2 (fun h => nomatch h) (by exact nl rfl) (by exact (ab.cons (PV.To.refl _) (ab.cons (PV.To.refl _) (ab.cons (PV.To.refl _) (ab.cons (PV.To.refl _) ab.nil))))) (by exact lq))
 refine rA ?_ (x := vM false [sl (.lo _) _])
 refine rA ?_ (x := mJ (qs := [(true, [nv _ (val _), nv _ (sl _ _), nv _ (val _), nv _ (val _)]), (false, [sl (.lo _) _])]) (as_ := [(true, [val _, sl .v _, val _, val _]), (false, [sl .v _])]) (by decide) PM (by exact (aI (by exact ⟨⟩) (aI (by exact ⟨⟩) tI))) (by exact (aI (aI rfl (ab.cons (PV.nv_to (PV.To.refl _)) (ab.cons (PV.nv_to PV.to_none) (ab.cons (PV.nv_to (PV.To.refl _)) (ab.cons (PV.nv_to (PV.To.refl _)) ab.nil))))) (aI (aI rfl (ab.cons PV.to_none ab.nil)) tI))) (by exact Q5))
 refine sc (fun hbd => ?_) (fun hbd => ?_)
 have hnd : fi s.Segments[i][j] keep = true := by rw [← hz3]; simpa using hbd
 refine sG [1, 2, 4, 5, 6, 7, 8, 9, 11, 19, 20, 21, 27, 28, 29, 2900, 6000] [2, 4, 6, 11, 900] ?_
 refine rA ?_ (x := tM)
 refine Fq ?_
 refine xl ?_
 exact Dt
 have hnd : fi s.Segments[i][j] keep = false := by rw [← hz3]; simpa using hbd
 refine aN ?_
 exact Dt
 refine aX ?_
 refine F6 ?_
 refine qR ?_
 refine rM ?_
 refine rA ?_ (x := tM)
 refine FR ?_
 refine sG [1, 2, 4, 5, 6, 7, 8, 19, 20, 21, 27, 28, 29, 2900, 6000] [2, 4, 6, 900] ?_
 refine b5 ?_
 refine nx (i + 1) (by omega) (f := (by exact aI (by rw [show j = zss[i].length by omega, List.take_length, Jk hlz]; exact rfl) (tI)))
 try simp only [List.length_map] at hbb
 have hend : i = zss.length := by omega
 refine et ?_
 refine sO [(1, _), (2, _), (4, _), (5, _), (6, _), (19, _), (20, _), (21, _), (2900, _), (6000, _)] [(2, (26, [sl (.lo _) _, val _])), (4, (26, [sl _ _, val _])), (6, (26, [val _, val _])), (900, (139, bX iS _ _))] ?_
 refine BN (d := 900) (t := 184) (e := 4) (G := 6000) (f := (dO (.own 3 1))) (g := (fun v : aF => [val (vI v.Id), sl .v (v.Values.map ai), val (vI v.Born), val (vI v.Died)])) (fN := lL) (zss := (fv zss keep i)) (by exact rfl) (by exact rfl) (fun _ _ => rfl) (fun _ => rfl) (fun _ => rfl) (by rw [hend, y4]; exact Jl) ?_
 refine sO [(1, _), (2, _), (4, _), (5, _), (6, _), (19, _), (20, _), (21, _), (2900, _)] [(2, _), (4, _), (6, _), (900, (139, bX (ax (.own 184 4) (.own 3 1)) _ _))] ?_
 refine Fh ?_
 refine sO [(1, _), (2, _), (4, _), (5, _), (6, _), (19, _), (20, _), (21, _)] [(2, _), (4, _), (6, (26, [sl _ _, val _]))] ?_
 refine cD (d := 6) (by exact rfl) (show _ = [sl (.own 139 1) ((dM s keep).Segments.map (ax (.own 184 4) (.own 3 1))), val (vI (dM s keep).Now)] from by first | (rw [hst]; done) | (rw [hst]; exact rfl)) ?_
 refine sO [(1, _), (2, _), (4, _), (5, _), (6, _), (19, _), (20, _), (21, _)] [(2, _), (4, _), (6, (26, [sl _ _, val _]))] ?_
 refine ww (d := 6) (G := 1006) (by exact rfl) (by exact rfl) (ab.cons PV.to_none (ab.cons (PV.To.refl _) ab.nil)) (ae.cons (bor_sl _) (ae.cons (bor_val _) ae.nil)) fun us hRN => ?_
 obtain ⟨_, _, hRN⟩ := hRN
 obtain ⟨u5_0, u5_1, rfl⟩ := Io hRN.len
 clear hRN
 refine sO [(1, _), (2, _), (4, _), (5, _), (6, _), (19, _), (20, _), (21, _), (1006, _)] [(2, _), (4, _), (6, (26, [nv _ (sl _ _), nv _ (val _)]))] ?_
 refine b9 bP ?_
 refine dA 0 ?_ (x := eH (qs := [nv _ (sl .v _), nv _ (val _)]) (by decide) cq (fun h => nomatch h) (by exact nl rfl) (by exact (ab.cons (PV.To.refl _) (ab.cons (PV.To.refl _) ab.nil))) (by exact (ae.cons (bor_nv (bor_sl _)) (ae.cons (bor_nv (bor_val _)) ae.nil))))
 refine dA 0 ?_ (x := lD [sl (.lo _) _, val _] cq)
 refine dA 2 ?_ (x := cL [(true, [sl (.lo _) _, val _])] [(true, [sl .v _, val _])] JT (hs := by exact (KC (by omega))))
 refine dA 0 ?_ (x := eH (qs := [nv _ (sl .v _), nv _ (val _)]) (by decide) cq (fun h => nomatch h) (by exact nl rfl) (by exact (ab.cons (PV.To.refl _) (ab.cons (PV.To.refl _) ab.nil))) (by exact (ae.cons (bor_nv (bor_sl _)) (ae.cons (bor_nv (bor_val _)) ae.nil))))
 refine dA 14 ?_ (x := mJ (qs := [(true, [nv _ (sl _ _), nv _ (val _)])]) (as_ := [(true, [sl .v _, val _])]) (by decide) JT (by exact (aI (by exact ⟨⟩) tI)) (by exact (aI (aI rfl (ab.cons (PV.nv_to PV.to_none) (ab.cons (PV.nv_to (PV.To.refl _)) ab.nil))) tI)) (by exact (KC (by omega))))
 refine dA 30 ?_ (x := er)
 refine dA 31 ?_ (x := aQ (ag := true) (vs := [nv _ (sl _ _), nv _ (val _)]) cq (by exact ⟨⟩) (by exact rfl) (by exact nl rfl))
 refine dA 127 ?_ (x := sA)
 refine sE (d := 4) (G := 1006) (by exact rfl) (by exact (Nm.nv (Nm.nv Nm.nil))) (by exact rfl) ?_
 refine bY ?_
 exact (Exists.intro 4 (Exists.intro _ (aI (by exact rfl) (aI (by refine cW ?_; exact rfl) (aI cq (aI (fun h => nomatch h) (aI (by refine bf ?_; unfold uU; rw [if_pos hok]) tI)))))))
theorem Q7 {p1 p2 : Fl} {s : Store} {keep : List Int}  (hb : cc s ≤ 68719476736) (hk0 : keep.length ≤ 68719476736) : aw Tryz.prog 259 [(true, [sl .v (s.Segments.map (ax p1 p2)), val (vI s.Now)]), (false, [sl .v (keep.map ai)])] (av [(true, [sl (.own 139 1) ((dM s keep).Segments.map (ax (.own 184 4) (.own 3 1))), val (vI (dM s keep).Now)]), (false, [val (vI (uV s keep))])]) := by
 refine kX (largs := fun L => [(true, [sl (.lo L) (s.Segments.map (ax (.lo L) (.lo L))), val (vI s.Now)]), (false, [sl (.lo L) (keep.map ai)])]) (rs := [(true, [sl (.own 139 1) ((dM s keep).Segments.map (ax (.own 184 4) (.own 3 1))), val (vI (dM s keep).Now)]), (false, [val (vI (uV s keep))])]) Tryz.func259 rfl (nl rfl) (fun L => by exact (aI (aI rfl (ah.cons (PV.tob_map (fun _ => nl rfl) (fun _ => (ah.cons (PV.tob_map (fun _ => nl rfl) (fun _ => (ah.cons PV.tob_refl (ah.cons (PV.tob_map (fun _ => nl rfl) (fun _ => (ah.cons PV.tob_refl ah.nil))) (ah.cons PV.tob_refl (ah.cons PV.tob_refl ah.nil)))))) ah.nil))) (ah.cons PV.tob_refl ah.nil))) (aI (aI rfl (ah.cons (PV.tob_map (fun _ => nl rfl) (fun _ => (ah.cons PV.tob_refl ah.nil))) ah.nil)) tI))) (fun L => by exact lq) ?_
 intro w0 Fz0
 refine sn 0 0 fun hl0_0 => ?_
 refine sj 1 fun hl1 => ?_
 have hrw := y5 s keep
 have hal := mq s
 refine xI ?_
 refine H5 ?_
 refine HQ ?_
 refine lf ?_
 refine H8 ?_
 refine HT ?_
 refine rA ?_ (x := nT)
 refine sc (fun hba => ?_) (fun hba => ?_)
 have hok : bA s = false := by simpa using hba
 have hr := Ju (keep := keep) hok
 refine sS [1, 2, 4, 5, 6] [2, 4, 6] ?_
 refine l5 ?_
 refine bD ?_
 exact (Exists.intro 4 (Exists.intro _ (aI (by exact rfl) (aI (by refine cW ?_; rw [hr]; exact rfl) (aI cq (aI (fun h => nomatch h) (aI (by refine bf ?_; unfold uV; rw [hok]; exact rfl) tI)))))))
 have hok : bA s = true := by simpa using hba
 have hst := uT (keep := keep) hok
 obtain ⟨hs8, hs1, hn0, hn1, hs4, hver⟩ := jj hok
 refine dE ?_
 refine sP [1, 2, 4, 5, 6] [2, 4, 6] ?_
 refine jz (d := 6) (t := 26) (D := 900) (G := 2900) (E := 139) (e := 1) (L := (Lw w0.heap.size)) (A := []) (B := [val _]) (es := (s.Segments).map (ax (.own 184 4) (.own 3 1))) (by exact rfl) (hZ (show 0 < s.Segments.length by omega)) (by exact rfl) (by exact rfl) rfl (by exact rfl) (fun x hx => hx) (by exact lq) (by exact lq) (by exact ak.nil) (by exact lc) (ak.map fun x => (ak.cons (lcl_own (ak.map fun x => (ak.cons lcl_val (ak.cons (lcl_own (ak.map fun x => (ak.cons lcl_val ak.nil))) (ak.cons lcl_val (ak.cons lcl_val ak.nil)))))) ak.nil)) fun uu900 cp900 jk900 hlD900 hcp900 hjk900 => ?_
 rw [List.length_map] at hlD900 hcp900 hjk900
 refine F5 ?_
 refine BM (d := 900) (t := 184) (e := 4) (G := 6000) (f := (dO (.own 3 1))) (g := (fun v : aF => [val (vI v.Id), sl .v (v.Values.map ai), val (vI v.Born), val (vI v.Died)])) (fN := lL) (xss := s.Segments) (by exact rfl) (by exact rfl) (fun _ _ => rfl) (fun _ => rfl) (fun _ => (ab.cons (PV.To.refl _) (ab.cons PV.to_none (ab.cons (PV.To.refl _) (ab.cons (PV.To.refl _) ab.nil))))) (fun _ => (by exact lq)) fun zss hzss => ?_
 have hzl := Jm hzss
 refine HM ?_
 refine eS ?_
 refine sS [1, 2, 4, 5, 6, 7, 2900, 6000] [2, 4, 6, 900] ?_
 refine bw ?_
 refine sP [1, 2, 4, 5, 6, 7, 8, 2900, 6000] [2, 4, 6, 900] ?_
 refine sL [1, 2, 4, 5, 6, 2900, 6000] [2, 4, 6] (fun i : Nat => i ≤ zss.length) (fun i : Nat => [(7, RV.int (gy s keep i 0 : Nat)), (8, RV.int (i : Int))]) (fun i : Nat => [(900, (139, bX iS (fv zss keep i) jk900))]) (fun i : Nat => zss.length - i) 0 (by omega) (by exact aI (by exact bf (by rw [OH]; rfl)) (aI (by exact rfl) (tI))) (by exact aI (by exact rfl) (tI)) ?_
 rintro i hi
 have hfl0 := uS (zss := zss) (keep := keep) (k := i)
 refine bu ?_
 refine tW ?_
 refine rA ?_ (x := lN dK)
 refine rA ?_ (x := cb)
 refine sc (fun hbb => ?_) (fun hbb => ?_)
 try simp only [List.length_map] at hbb
 have hlz : i < zss.length := by omega
 have hls : i < s.Segments.length := by omega
 have hz2 := Jn hzss hlz hls
 have hs4i := hs4 _ (List.getElem_mem hls)
 have hfl : i < (fv zss keep i).length := by rw [uS]; omega
 have hfg := Jj (keep := keep) hlz hfl
 refine cE ?_
 refine sO [(1, _), (2, _), (4, _), (5, _), (6, _), (7, _), (8, _), (2900, _), (6000, _)] [(2, (26, [sl (.lo _) _, val _])), (4, (26, [sl _ _, val _])), (6, (26, [val _, val _])), (900, (139, bX iS _ _))] ?_
 refine aM ?_
 refine mZ ?_
 refine aJ ?_
 refine sS [1, 2, 4, 5, 6, 7, 8, 9, 2900, 6000] [2, 4, 6, 900] ?_
 refine bw ?_
 refine sP [1, 2, 4, 5, 6, 7, 8, 9, 10, 2900, 6000] [2, 4, 6, 900] ?_
 refine sL [1, 2, 4, 5, 6, 8, 2900, 6000] [2, 4, 6, 900] (fun j : Nat => j ≤ zss[i].length) (fun j : Nat => [(7, RV.int (gy s keep i j : Nat)), (9, RV.slc (.own 184 4) ((f9 keep (zss[i].take j)).map lL)), (10, RV.int (j : Int))]) (fun j : Nat => []) (fun j : Nat => zss[i].length - j) 0 (by omega) (by exact aI (by exact rfl) (aI (by exact rfl) (aI (by exact rfl) (tI)))) (by exact ⟨⟩) ?_
 rintro j hj
 have hcd := OI (keep := keep) (j := j) hls
 refine bu ?_
 refine qR ?_
 refine rM ?_
 refine xi ?_
 refine t7 ?_
 refine sc (fun hbc => ?_) (fun hbc => ?_)
 try rw [hfg] at hbc
 have hlj : j < zss[i].length := by omega
 have hlj2 : j < s.Segments[i].length := by omega
 have hz3 := Jo hzss hlz hls hlj hlj2
 have hfle := Jr (keep := keep) (zs := zss[i]) (j := j)
 have hvz := List.getElem_of_eq hfg (show j < ((fv zss keep i)[i]'hfl).length by rw [hfg]; exact hlj)
 refine cE ?_
 refine Gs ?_
 refine qR ?_
 refine rM ?_
 refine xi ?_
 refine rM ?_
 refine rA ?_ (x := aD (by decide) bT (by exact ⟨⟩) (by exact rfl) (by exact aE (by rw [hfg]; omega) rfl) (by exact rfl))
 refine FU ?_
 refine G7 ?_
 refine sO [(1, _), (2, _), (4, _), (5, _), (6, _), (7, _), (8, _), (9, _), (10, _), (11, _), (2900, _), (6000, _)] [(2, _), (4, _), (6, _), (11, (184, [nv _ (val _), nv _ (sl _ _), nv _ (val _), nv _ (val _)])), (900, _)] ?_
 refine cD (d := 11) (by exact rfl) (congrArg lL hvz) ?_
 refine sG [1, 2, 4, 5, 6, 7, 8, 9, 10, 11, 2900, 6000] [2, 4, 6, 11, 900] ?_
 refine rA ?_ (x := lF gP)
 refine rA ?_ (x := eH (qs := [val _]) (by decide) aq (fun _ => rfl) (by exact nl rfl) (by exact (ab.cons (PV.nv_to (PV.To.refl _)) ab.nil)) (by exact (ae.cons (bor_val _) ae.nil)))
 refine mb ?_
 refine aJ ?_
 refine sS [1, 2, 4, 5, 6, 7, 8, 9, 10, 11, 12, 2900, 6000] [2, 4, 6, 11, 900] ?_
 refine bw ?_
 refine sP [1, 2, 4, 5, 6, 7, 8, 9, 10, 11, 12, 13, 2900, 6000] [2, 4, 6, 11, 900] ?_
 refine sL [1, 2, 4, 5, 6, 7, 8, 9, 10, 11, 2900, 6000] [2, 4, 6, 11, 900] (fun m : Nat => m ≤ keep.length) (fun m : Nat => [(12, RV.bool (lI zss[i][j].1 keep m)), (13, RV.int (m : Int))]) (fun m : Nat => []) (fun m : Nat => keep.length - m) 0 (by omega) (by exact aI (by first | exact rfl | exact fD (by unfold lI; simp; rfl)) (aI (by exact rfl) (tI))) (by exact ⟨⟩) ?_
 rintro m hm
 refine bu ?_
 refine rA ?_ (x := vM false [sl (.lo _) _])
 refine rA ?_ (x := lN a3)
 refine rA ?_ (x := cb)
 refine sc (fun hbd => ?_) (fun hbd => ?_)
 have hlm : m < keep.length := by omega
 refine aT ?_
 refine sO [(1, _), (2, _), (4, _), (5, _), (6, _), (7, _), (8, _), (9, _), (10, _), (11, _), (12, _), (13, _), (2900, _), (6000, _)] [(2, (26, [sl (.lo _) _, val _])), (4, (26, [sl _ _, val _])), (6, (26, [val _, val _])), (11, (184, [nv _ (val _), nv _ (sl _ _), nv _ (val _), nv _ (val _)])), (900, (139, bX iS _ _))] ?_
 refine uc ?_
 refine dA 1 ?_ (x := sM)
 refine dx 56 (fun ga sga => ?_) (fun ga sga => ?_)
 have hg : lI zss[i][j].1 keep m = true := by simpa using ga
 have sga := ga
 try simp only [qq] at sga
 refine dT 3 ga ?_
 refine dT 3 ga ?_
 refine dT 3 ga ?_
 refine dT 27 ga ?_
 refine dT 59 ga ?_
 refine dT 127 ga ?_
 refine dA 255 ?_ (x := aA ga)
 exact Du
 have hg : lI zss[i][j].1 keep m = false := by simpa using ga
 have sga := ga
 try simp only [qq] at sga
 refine dB 3 ga ?_ (x := eH (qs := [nv _ (val _), nv _ (sl .v _), nv _ (val _), nv _ (val _)]) (by decide) d2 (fun h => nomatch h) (by exact nl rfl) (by exact (ab.cons (PV.To.refl _) (ab.cons (PV.To.refl _) (ab.cons (PV.To.refl _) (ab.cons (PV.To.refl _) ab.nil))))) (by exact lq))
 refine dB 3 ga ?_ (x := vM false [sl (.lo _) _])
 refine dB 3 ga ?_ (x := sM)
 refine dB 27 ga ?_ (x := aD (by decide) a3 (by exact ⟨⟩) (by exact rfl) (by exact aE (by omega) rfl) (by exact rfl))
 refine dB 59 ga ?_ (x := lE [val _] aq)
 refine dB 127 ga ?_ (x := mJ (qs := [(true, [nv _ (val _), nv _ (sl _ _), nv _ (val _), nv _ (val _)]), (false, [val _])]) (as_ := [(true, [val _, sl .v _, val _, val _]), (false, [val _])]) (by decide) JN (by exact (aI (by exact ⟨⟩) (aI (by exact ⟨⟩) tI))) (by exact (aI (aI rfl (ab.cons (PV.nv_to (PV.To.refl _)) (ab.cons (PV.nv_to PV.to_none) (ab.cons (PV.nv_to (PV.To.refl _)) (ab.cons (PV.nv_to (PV.To.refl _)) ab.nil))))) (aI (aI rfl (ab.cons (PV.To.refl _) ab.nil)) tI))) (by exact Kk))
 refine dA 255 ?_ (x := ay ga)
 exact Du
 have hme : m = keep.length := by omega
 refine et ?_
 refine sO [(1, _), (2, _), (4, _), (5, _), (6, _), (7, _), (8, _), (9, _), (10, _), (11, _), (12, _), (13, _), (2900, _), (6000, _)] [(2, (26, [sl (.lo _) _, val _])), (4, (26, [sl _ _, val _])), (6, (26, [val _, val _])), (11, (184, [nv _ (val _), nv _ (sl _ _), nv _ (val _), nv _ (val _)])), (900, (139, bX iS _ _))] ?_
 refine iL ?_
 refine sc (fun hbe => ?_) (fun hbe => ?_)
 have hnd : fi s.Segments[i][j] keep = true := by rw [← hz3, ← Ji, ← hme]; simpa using hbe
 refine sG [1, 2, 4, 5, 6, 7, 8, 9, 10, 11, 12, 13, 2900, 6000] [2, 4, 6, 11, 900] ?_
 refine rA ?_ (x := tM)
 refine Fq ?_
 refine xl ?_
 exact Dv
 have hnd : fi s.Segments[i][j] keep = false := by rw [← hz3, ← Ji, ← hme]; simpa using hbe
 refine xK ?_
 exact Dv
 try rw [hfg] at hbc
 refine aX ?_
 refine Gs ?_
 refine qR ?_
 refine rM ?_
 refine rA ?_ (x := tM)
 refine FR ?_
 refine sG [1, 2, 4, 5, 6, 7, 8, 10, 2900, 6000] [2, 4, 6, 900] ?_
 refine bF ?_
 refine nx (i + 1) (by omega) (e := (by exact aI (by exact bf (by rw [show j = s.Segments[i].length by omega, OG hls])) (aI (by exact bf (by omega)) (tI)))) (f := (by exact aI (by rw [show j = zss[i].length by omega, List.take_length, Jk hlz]; exact rfl) (tI)))
 try simp only [List.length_map] at hbb
 have hend : i = zss.length := by omega
 refine et ?_
 refine sO [(1, _), (2, _), (4, _), (5, _), (6, _), (7, _), (8, _), (2900, _), (6000, _)] [(2, (26, [sl (.lo _) _, val _])), (4, (26, [sl _ _, val _])), (6, (26, [val _, val _])), (900, (139, bX iS _ _))] ?_
 refine BN (d := 900) (t := 184) (e := 4) (G := 6000) (f := (dO (.own 3 1))) (g := (fun v : aF => [val (vI v.Id), sl .v (v.Values.map ai), val (vI v.Born), val (vI v.Died)])) (fN := lL) (zss := (fv zss keep i)) (by exact rfl) (by exact rfl) (fun _ _ => rfl) (fun _ => rfl) (fun _ => rfl) (by rw [hend, y4]; exact Jl) ?_
 refine sO [(1, _), (2, _), (4, _), (5, _), (6, _), (7, _), (8, _), (2900, _)] [(2, _), (4, _), (6, _), (900, (139, bX (ax (.own 184 4) (.own 3 1)) _ _))] ?_
 refine Fh ?_
 refine sO [(1, _), (2, _), (4, _), (5, _), (6, _), (7, _), (8, _)] [(2, _), (4, _), (6, (26, [sl _ _, val _]))] ?_
 refine cD (d := 6) (by exact rfl) (show _ = [sl (.own 139 1) ((dM s keep).Segments.map (ax (.own 184 4) (.own 3 1))), val (vI (dM s keep).Now)] from by first | (rw [hst]; done) | (rw [hst]; exact rfl)) ?_
 refine sO [(1, _), (2, _), (4, _), (5, _), (6, _), (7, _), (8, _)] [(2, _), (4, _), (6, (26, [sl _ _, val _]))] ?_
 refine aM ?_
 refine rA ?_ (x := b8 (ms := [sl _ _, val _]) (qs := [sl .v _, val _]) (by decide) cq (fun h => nomatch h) (by exact nl rfl) (by exact rfl) (by exact (ab.cons PV.to_none (ab.cons (PV.To.refl _) ab.nil))) (by exact (ae.cons (bor_sl _) (ae.cons (bor_val _) ae.nil))))
 refine rM ?_
 refine rA ?_ (x := aQ (ag := true) (vs := [sl _ _, val _]) cq (by exact ⟨⟩) (by exact rfl) (by exact nl rfl))
 refine cK ?_
 exact (Exists.intro 4 (Exists.intro _ (aI (by exact rfl) (aI (by refine cW ?_; exact rfl) (aI cq (aI (fun h => nomatch h) (aI (by refine bf ?_; unfold uV; rw [if_pos hok, ← hzl, ← hend]) tI)))))))
end Go.Proofs.YtmekkgdboplbjaaGreat
