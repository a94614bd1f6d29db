/- What functions of the program compute. No condition. -/
import Derived.Test.YtmekkgdboplbjaaGreatDoorCV0
import Derived.Test.YtmekkgdboplbjaaGreatDoorCW0
set_option linter.all false
namespace Go.Proofs.YtmekkgdboplbjaaGreatDoor
open Go Go.RowKit M PV
set_option maxRecDepth 10000
attribute [local irreducible] PV.Lcl PV.LclR RV.Lcl
def Vg {p1 p2 : Fl} {s : Store} {keep : List Int}  (hb : cq s ≤ 68719476736) (hk0 : keep.length ≤ 68719476736) : aN Tryz.prog 297 [(true, [sl .v (s.ZE.map (aO p1 p2)), val (vI s.Now)]), (false, [sl .v (keep.map an)])] (aF [(true, [sl bQ ((ig s keep).ZE.map (aO be ae)), val (vI (ig s keep).Now)]), (false, [val (vI (xb s keep))])]) := by
 refine qN (largs := fun L => [(true, [sl (.lo L) (s.ZE.map (aO (.lo L) (.lo L))), val (vI s.Now)]), (false, [sl (.lo L) (keep.map an)])]) (rs := [(true, [sl bQ ((ig s keep).ZE.map (aO be ae)), val (vI (ig s keep).Now)]), (false, [val (vI (xb s keep))])]) Tryz.func297 rfl (nl rfl) (fun L => by exact (aI (aI rfl (aj.cons (bn (fun _ => nl rfl) (fun _ => (aj.cons (bn (fun _ => nl rfl) (fun _ => (aj.cons aC (aj.cons (bn (fun _ => nl rfl) (fun _ => (aj.cons aC aj.nil))) (aj.cons aC (aj.cons aC aj.nil)))))) aj.nil))) (aj.cons aC aj.nil))) (aI (aI rfl (aj.cons (bn (fun _ => nl rfl) (fun _ => (aj.cons aC aj.nil))) aj.nil)) tI))) (fun L => by exact lq) ?_
 intro w0 Fz0
 refine sn 0 0 fun hl0_0 => ?_
 refine sj 1 fun hl1 => ?_
 have hrw := KI s keep
 have hal := nM s
 refine JA ?_
 refine rX ?_ (x := (db (by decide) og oi))
 refine eD ?_
 refine sO [(1, _), (2, _), (4, _), (5, _)] [(2, (41, [sl (.lo _) _, val _])), (4, (41, [sl _ _, val _]))] ?_
 refine bi ?_
 refine IM ?_
 refine mx ?_
 refine dO ?_
 refine sO [(1, _), (2, _), (4, _), (5, _), (6, _)] [(2, _), (4, _), (6, (41, [sl _ _, val _]))] ?_
 refine bi ?_
 refine IP ?_
 refine rA ?_ (x := nT)
 refine sc (fun hba => ?_) (fun hba => ?_)
 have hok : bL s = false := by simpa using hba
 have hr := RM (keep := keep) hok
 refine sS [1, 2, 4, 5, 6] [2, 4, 6] ?_
 refine oD ?_
 refine cC ?_
 exact (bj 4 (bj _ (aI (by exact rfl) (aI (by refine dW ?_; rw [hr]; exact rfl) (aI cF (aI (fun h => nomatch h) (aI (by refine bA ?_; unfold xb; rw [hok]; exact rfl) tI)))))))
 have hok : bL s = true := by simpa using hba
 have hst := Be (keep := keep) hok
 obtain ⟨hs8, hs1, hn0, hn1, hs4, hver⟩ := jd hok
 refine eA ?_
 refine sP [1, 2, 4, 5, 6] [2, 4, 6] ?_
 refine jC (d := 6) (t := 41) (D := 900) (G := 2900) (E := 114) (e := 1) (L := (Lw w0.heap.size)) (A := []) (B := [val _]) (es := (s.ZE).map (aO be ae)) (by exact rfl) (iq (show 0 < s.ZE.length by omega)) (by exact rfl) (by exact rfl) rfl (by exact rfl) (fun x hx => hx) (by exact lq) (by exact lq) (by exact ar.nil) (by exact lc) (ar.map fun x => (ar.cons (lcl_own (ar.map fun x => (ar.cons lcl_val (ar.cons (lcl_own (ar.map fun x => (ar.cons lcl_val ar.nil))) (ar.cons lcl_val (ar.cons lcl_val ar.nil)))))) ar.nil)) fun uu900 cp900 jk900 hlD900 hcp900 hjk900 => ?_
 rw [am] at hlD900 hcp900 hjk900
 refine cK (d := 900) (by exact rfl) (show _ = cN (aO be ae) (s.ZE) jk900 from rfl) ?_
 refine sO [(1, _), (2, _), (4, _), (5, _), (6, _), (2900, _)] [(2, _), (4, _), (6, (41, [val _, val _])), (900, (114, cN (aO be ae) _ _))] ?_
 refine Po (d := 900) (t := 116) (e := 4) (G := 6000) (f := (ff ae)) (g := (fun v : aM => [val (vI v.Id), sl .v (v.Values.map an), val (vI v.ZT), val (vI v.ZP)])) (fN := ue) (xss := s.ZE) (by exact rfl) (by exact rfl) (fun _ _ => rfl) (fun _ => rfl) (fun _ => (aq (aA (aq (aq ao.nil))))) (fun _ => (by exact lq)) fun zss hzss => ?_
 have hzl := Rz hzss
 refine sO [(1, _), (2, _), (4, _), (5, _), (6, _), (2900, _), (6000, _)] [(2, _), (4, _), (6, _), (900, (114, cN nX _ _))] ?_
 refine bi ?_
 refine eD ?_
 refine sS [1, 2, 4, 5, 6, 7, 2900, 6000] [2, 4, 6, 900] ?_
 refine de ?_
 refine sP [1, 2, 4, 5, 6, 7, 8, 2900, 6000] [2, 4, 6, 900] ?_
 refine sL [1, 2, 4, 5, 6, 2900, 6000] [2, 4, 6] (fun i : Nat => i ≤ zss.length) (fun i : Nat => [(7, RV.int (iI s keep i 0 : Nat)), (8, RV.int (i : Int))]) (fun i : Nat => [(900, (114, cN nX (iH zss keep i) jk900))]) (fun i : Nat => zss.length - i) 0 (by omega) (by exact aI (by exact bA (by rw [RK]; rfl)) (aI (by exact rfl) tI)) (by exact aI (by exact rfl) tI) ?_
 rintro i hi
 have hfl0 := KE (zss := zss) (keep := keep) (k := i)
 refine cI ?_
 refine rA ?_ (x := lF jW)
 refine rA ?_ (x := lD [sl (.lo _) _] jX)
 refine rA ?_ (x := lN fj)
 refine rA ?_ (x := dZ)
 refine sc (fun hbb => ?_) (fun hbb => ?_)
 try simp only [am] at hbb
 have hlz : i < zss.length := by omega
 have hls : i < s.ZE.length := by omega
 have hz2 := RB hzss hlz hls
 have hs4i := hs4 _ (List.getElem_mem hls)
 have hfl : i < (iH zss keep i).length := by rw [KE]; omega
 have hfg := Rv (keep := keep) hlz hfl
 refine er ?_
 refine sO [(1, _), (2, _), (4, _), (5, _), (6, _), (7, _), (8, _), (2900, _), (6000, _)] [(2, (41, [sl (.lo _) _, val _])), (4, (41, [sl _ _, val _])), (6, (41, [val _, val _])), (900, (114, cN nX _ _))] ?_
 refine bi ?_
 refine td ?_
 refine sS [1, 2, 4, 5, 6, 7, 8, 9, 2900, 6000] [2, 4, 6, 900] ?_
 refine de ?_
 refine sP [1, 2, 4, 5, 6, 7, 8, 9, 10, 2900, 6000] [2, 4, 6, 900] ?_
 refine sL [1, 2, 4, 5, 6, 8, 2900, 6000] [2, 4, 6, 900] (fun j : Nat => j ≤ zss[i].length) (fun j : Nat => [(7, RV.int (iI s keep i j : Nat)), (9, RV.slc be ((iG keep (zss[i].take j)).map ue)), (10, RV.int (j : Int))]) (fun j : Nat => []) (fun j : Nat => zss[i].length - j) 0 (by omega) (by exact aI (by exact rfl) (aI (by exact rfl) (aI (by exact rfl) tI))) (by exact tI) ?_
 rintro j hj
 have hcd := RL (keep := keep) (j := j) hls
 refine cI ?_
 refine Ag ?_
 refine rM ?_
 refine HJ ?_
 refine pV ?_
 refine sc (fun hbc => ?_) (fun hbc => ?_)
 try rw [hfg] at hbc
 have hlj : j < zss[i].length := by omega
 have hlj2 : j < s.ZE[i].length := by omega
 have hz3 := RC hzss hlz hls hlj hlj2
 have hfle := RF (keep := keep) (zs := zss[i]) (j := j)
 have hvz := List.getElem_of_eq hfg (show j < ((iH zss keep i)[i]'hfl).length by rw [hfg]; exact hlj)
 refine er ?_
 refine Ig ?_
 refine Ag ?_
 refine rM ?_
 refine HJ ?_
 refine rM ?_
 refine rA ?_ (x := aU (by decide) cX (by exact tI) (by exact rfl) (by exact aV (by rw [hfg]; omega) rfl) (by exact rfl))
 refine rA ?_ (x := px (qs := [nv _ (val _), nv _ (sl .v _), nv _ (val _), nv _ (val _)]) (by decide) fC (fun h => nomatch h) (by exact nl rfl) (by exact (aq (aq (aq (aq ao.nil))))) (by exact lq))
 refine rX ?_ (x := (db (by decide) fU pm))
 refine rA ?_ (x := bf (ag := true) (vs := [nv _ (val _), nv _ (sl _ _), nv _ (val _), nv _ (val _)]) fC (by exact tI) (by exact rfl) (by exact nl rfl))
 refine ba ?_
 refine sO [(1, _), (2, _), (4, _), (5, _), (6, _), (7, _), (8, _), (9, _), (10, _), (11, _), (2900, _), (6000, _)] [(2, _), (4, _), (6, _), (11, (116, [nv _ (val _), nv _ (sl _ _), nv _ (val _), nv _ (val _)])), (900, _)] ?_
 refine cK (d := 11) (by exact rfl) (congrArg ue hvz) ?_
 refine sG [1, 2, 4, 5, 6, 7, 8, 9, 10, 11, 2900, 6000] [2, 4, 6, 11, 900] ?_
 refine rA ?_ (x := lF kL)
 refine rA ?_ (x := gH (qs := [val _]) (by decide) aw (fun _ => rfl) (by exact nl rfl) (by exact (ao.cons (PV.nv_to (py _)) ao.nil)) (by exact (ab.cons (bor_val _) ab.nil)))
 refine lb ?_
 refine ba ?_
 refine sS [1, 2, 4, 5, 6, 7, 8, 9, 10, 11, 12, 2900, 6000] [2, 4, 6, 11, 900] ?_
 refine de ?_
 refine sP [1, 2, 4, 5, 6, 7, 8, 9, 10, 11, 12, 13, 2900, 6000] [2, 4, 6, 11, 900] ?_
 refine sL [1, 2, 4, 5, 6, 7, 8, 9, 10, 11, 2900, 6000] [2, 4, 6, 11, 900] (fun m : Nat => m ≤ keep.length) (fun m : Nat => [(12, RV.bool (nU zss[i][j].1 keep m)), (13, RV.int (m : Int))]) (fun m : Nat => []) (fun m : Nat => keep.length - m) 0 (by omega) (by exact aI (by first | exact rfl | exact gZ (by unfold nU; simp; rfl)) (aI (by exact rfl) tI)) (by exact tI) ?_
 rintro m hm
 refine cI ?_
 refine rA ?_ (x := vM false [sl (.lo _) _])
 refine rA ?_ (x := lN aW)
 refine rA ?_ (x := dZ)
 refine sc (fun hbd => ?_) (fun hbd => ?_)
 have hlm : m < keep.length := by omega
 refine bw ?_
 refine sO [(1, _), (2, _), (4, _), (5, _), (6, _), (7, _), (8, _), (9, _), (10, _), (11, _), (12, _), (13, _), (2900, _), (6000, _)] [(2, (41, [sl (.lo _) _, val _])), (4, (41, [sl _ _, val _])), (6, (41, [val _, val _])), (11, (116, [nv _ (val _), nv _ (sl _ _), nv _ (val _), nv _ (val _)])), (900, (114, cN nX _ _))] ?_
 refine rc ?_
 refine dA 1 ?_ (x := sM)
 refine dx 56 (fun ga sga => ?_) (fun ga sga => ?_)
 have hg : nU zss[i][j].1 keep m = true := by simpa using ga
 have sga := ga
 try simp only [qq] at sga
 refine dT 3 ga ?_
 refine dT 3 ga ?_
 refine dT 3 ga ?_
 refine dT 27 ga ?_
 refine dT 59 ga ?_
 refine dT 127 ga ?_
 refine dA 255 ?_ (x := aK ga)
 exact Gb
 have hg : nU zss[i][j].1 keep m = false := by simpa using ga
 have sga := ga
 try simp only [qq] at sga
 refine dB 3 ga ?_ (x := gH (qs := [nv _ (val _), nv _ (sl .v _), nv _ (val _), nv _ (val _)]) (by decide) fC (fun h => nomatch h) (by exact nl rfl) (by exact (aq (aq (aq (aq ao.nil))))) (by exact lq))
 refine dB 3 ga ?_ (x := vM false [sl (.lo _) _])
 refine dB 3 ga ?_ (x := sM)
 refine dB 27 ga ?_ (x := aU (by decide) aW (by exact tI) (by exact rfl) (by exact aV (by omega) rfl) (by exact rfl))
 refine dB 59 ga ?_ (x := lE [val _] aw)
 refine dB 127 ga ?_ (x := uL (qs := [(true, [nv _ (val _), nv _ (sl _ _), nv _ (val _), nv _ (val _)]), (false, [val _])]) (as_ := [(true, [val _, sl .v _, val _, val _]), (false, [val _])]) (by decide) Ld (by exact (aI (by exact tI) (aI (by exact tI) tI))) (by exact (aI (aI rfl (ao.cons (PV.nv_to (py _)) (ao.cons (PV.nv_to oC) (ao.cons (PV.nv_to (py _)) (ao.cons (PV.nv_to (py _)) ao.nil))))) (aI (aI rfl (aq ao.nil)) tI))) (by exact LC))
 refine dA 255 ?_ (x := aH ga)
 exact Gb
 have hme : m = keep.length := by omega
 refine gM ?_
 refine sO [(1, _), (2, _), (4, _), (5, _), (6, _), (7, _), (8, _), (9, _), (10, _), (11, _), (12, _), (13, _), (2900, _), (6000, _)] [(2, (41, [sl (.lo _) _, val _])), (4, (41, [sl _ _, val _])), (6, (41, [val _, val _])), (11, (116, [nv _ (val _), nv _ (sl _ _), nv _ (val _), nv _ (val _)])), (900, (114, cN nX _ _))] ?_
 refine ku ?_
 refine sc (fun hbe => ?_) (fun hbe => ?_)
 have hnd : kI s.ZE[i][j] keep = true := by rw [← hz3, ← KD, ← hme]; simpa using hbe
 refine sG [1, 2, 4, 5, 6, 7, 8, 9, 10, 11, 12, 13, 2900, 6000] [2, 4, 6, 11, 900] ?_
 refine rA ?_ (x := tM)
 refine rA ?_ (x := gH (qs := [nv _ (val _), nv _ (sl .v _), nv _ (val _), nv _ (val _)]) (by decide) fC (fun h => nomatch h) (by exact nl rfl) (by exact (aq (aq (aq (aq ao.nil))))) (by exact lq))
 refine rA ?_ (x := bm (qs := [(true, [nv _ (val _), nv _ (sl _ _), nv _ (val _), nv _ (val _)])]) (by decide) cX fU (by decide) rfl rfl rfl rfl rfl (by exact nl rfl) (by exact (aI (by exact tI) tI)) rfl)
 refine HT ?_
 exact Gc
 have hnd : kI s.ZE[i][j] keep = false := by rw [← hz3, ← KD, ← hme]; simpa using hbe
 refine zS ?_
 exact Gc
 try rw [hfg] at hbc
 refine bE ?_
 refine Ig ?_
 refine Ag ?_
 refine rM ?_
 refine rA ?_ (x := tM)
 refine rA ?_ (x := gj (k := i) (G := 2900) (by decide) fj (by exact tI) (by first | rfl | omega) (by simp only [am]; omega))
 refine rA ?_ (x := OJ (f := nX) (e := 1) (k := i) (ag := false) (vs := [sl _ _]) _ (fun _ => rfl) rfl (by first | omega | (simp only [List.length_set]; omega)) iP (by exact tI) (by exact rfl))
 refine sG [1, 2, 4, 5, 6, 7, 8, 10, 2900, 6000] [2, 4, 6, 900] ?_
 refine ca ?_
 refine nx (i + 1) (by omega) (e := (by exact aI (by exact bA (by rw [show j = s.ZE[i].length by omega, RJ hls])) (aI (by exact bA (by omega)) tI))) (f := (by exact aI (by rw [show j = zss[i].length by omega, bY, Rw hlz]; exact rfl) tI))
 try simp only [am] at hbb
 have hend : i = zss.length := by omega
 refine gM ?_
 refine sO [(1, _), (2, _), (4, _), (5, _), (6, _), (7, _), (8, _), (2900, _), (6000, _)] [(2, (41, [sl (.lo _) _, val _])), (4, (41, [sl _ _, val _])), (6, (41, [val _, val _])), (900, (114, cN nX _ _))] ?_
 refine Pp (d := 900) (t := 116) (e := 4) (G := 6000) (f := (ff ae)) (g := (fun v : aM => [val (vI v.Id), sl .v (v.Values.map an), val (vI v.ZT), val (vI v.ZP)])) (fN := ue) (zss := (iH zss keep i)) (by exact rfl) (by exact rfl) (fun _ _ => rfl) (fun _ => rfl) (fun _ => rfl) (by rw [hend, KF]; exact Rx) ?_
 refine sO [(1, _), (2, _), (4, _), (5, _), (6, _), (7, _), (8, _), (2900, _)] [(2, _), (4, _), (6, _), (900, (114, cN (aO be ae) _ _))] ?_
 refine cK (d := 900) (by exact rfl) (congrArg (fun z_ => cN (aO be ae) z_ jk900) (show (iH zss keep i).map (List.map Prod.fst) = s.ZE.map (nV keep) from by rw [hend, KF]; exact Ry hzss)) ?_
 refine lI (d := 6) (D := 900) (G := 2900) (e := 1) (A := []) (B := [val _]) (es := ((s.ZE.map (nV keep))).map (aO be ae)) (by exact rfl) (by exact rfl) (by exact rfl) rfl (by simp) (by intro c hc; obtain ⟨y, _, rfl⟩ := List.mem_map.1 hc; exact rfl) (by rw [am]; exact hjk900) ?_
 refine sO [(1, _), (2, _), (4, _), (5, _), (6, _), (7, _), (8, _)] [(2, _), (4, _), (6, (41, [sl _ _, val _]))] ?_
 refine cK (d := 6) (by exact rfl) (show _ = [sl bQ ((ig s keep).ZE.map (aO be ae)), val (vI (ig s keep).Now)] from by first | (rw [hst]; done) | (rw [hst]; exact rfl)) ?_
 refine sO [(1, _), (2, _), (4, _), (5, _), (6, _), (7, _), (8, _)] [(2, _), (4, _), (6, (41, [sl _ _, val _]))] ?_
 refine bi ?_
 refine rA ?_ (x := dH (ms := [sl _ _, val _]) (qs := [sl .v _, val _]) (by decide) cF (fun h => nomatch h) (by exact nl rfl) (by exact rfl) (by exact (aA (aq ao.nil))) (by exact (ab.cons (bor_sl _) (ab.cons (bor_val _) ab.nil))))
 refine rM ?_
 refine rA ?_ (x := bf (ag := true) (vs := [sl _ _, val _]) cF (by exact tI) (by exact rfl) (by exact nl rfl))
 refine df ?_
 exact (bj 4 (bj _ (aI (by exact rfl) (aI (by refine dW ?_; exact rfl) (aI cF (aI (fun h => nomatch h) (aI (by refine bA ?_; unfold xb; rw [if_pos hok, ← hzl, ← hend]) tI)))))))
end Go.Proofs.YtmekkgdboplbjaaGreatDoor
