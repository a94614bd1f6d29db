/- What functions of the program compute. No condition. -/
import Derived.Test.YtmekkgdboplbjaaGreatCU0
set_option linter.all false
namespace Go.Proofs.YtmekkgdboplbjaaGreat
open Go Go.RowKit M PV Tryz
set_option maxRecDepth 10000
attribute [local irreducible] PV.Lcl PV.LclR RV.Lcl
def ac8 {v : aR} {keep : List Int}  : aN prog 271 [(true, [val (vI v.Id), sl .v (v.Values.map am), val (vI v.aeN), val (vI v.aeJ)]), (false, [sl .v (keep.map am)])] (aJ [(false, [val (.bool (gy v keep))])]) := by
 refine sF func271 fun h0 w0 Fz0 => ?_
 refine sn 0 1 fun hl0_1 => ?_
 refine sj 1 fun hl1 => ?_
 refine vk ?_
 refine wc ?_
 refine gS ?_
 refine eo ?_
 refine sP [1, 2, 4, 7, 8, 9] [2] ?_
 refine sL [1, 2, 7, 8] [2] (fun k : Nat => k ≤ keep.length ∧ (keep.take k).any (dL v) = false) (fun k : Nat => [(9, RV.int (k : Int))]) (fun k : Nat => []) (fun k : Nat => keep.length - k) 0 (by exact ⟨by omega, by simp⟩) (by exact aI (by exact rfl) tI) (by exact tI) ?_
 rintro k ⟨hk, ha⟩
 refine cn ?_
 refine sc ?_ ?_ <;> intro hba
 have hlt : k < keep.length := by omega
 refine bi ?_
 refine sT [1, 2, 7, 8, 9] [2] ?_
 refine mF ?_
 refine sS [1, 2, 6, 7, 8, 9] [2] ?_
 refine rA ?_ (x := lD [val _, sl .v _, val _, val _] fq)
 refine Ot ?_
 refine sc ?_ ?_ <;> intro hbb
 have hv : dL v keep[k] = true := by simpa using hbb
 refine sS [1, 2, 6, 7, 8, 9] [2] ?_
 refine cm ?_
 exact rb ((Xq hlt hv).symm)
 have hvf : dL v keep[k] = false := by simpa using hbb
 refine bb ?_
 refine sG [1, 2, 6, 7, 8, 9] [2] ?_
 refine cF ?_
 refine nx (k + 1) (by exact ⟨by omega, qY ha hlt hvf⟩)
 refine bq ?_
 refine sT [1, 2, 7, 8, 9] [2] ?_
 refine rA ?_ (x := lF iB)
 refine rA ?_ (x := lD [val _] az)
 refine lK ?_
 refine cT ?_
 exact rb (by (have hn := Xr (v := v) (PY (by rw [show keep.length = k by omega]; exact ha)); rw [hn]; first | rfl | simp))
def TX {p1 p2 : Fl} {s : Store}  (hb : cB s ≤ 68719476736) : aN prog 272 [(true, [sl .v (s.aey.map (aG p1 p2)), val (vI s.Now)])] (aJ [(false, [val (vI ((pV s : Nat) : Int))])]) := by
 refine sF func272 fun h0 w0 Fz0 => ?_
 refine sn 0 0 fun hl0_0 => ?_
 refine jo ?_
 refine pB ?_
 refine eH ?_
 refine sS [1, 2, 3] [1] ?_
 refine lM ?_
 refine eo ?_
 refine sP [1, 2, 3, 7, 8, 9] [1] ?_
 refine sL [1, 2, 7, 8] [1] (fun k : Nat => k ≤ s.aey.length) (fun k : Nat => [(3, RV.int (rC s k : Nat)), (9, RV.int (k : Int))]) (fun k : Nat => []) (fun k : Nat => s.aey.length - k) 0 (by omega) (by exact aI (by exact rfl) (aI (by exact rfl) tI)) (by exact tI) ?_
 rintro k hk
 refine cn ?_
 refine sc ?_ ?_ <;> intro hba
 have hlt : k < s.aey.length := by omega
 have hcl := Xp (s := s) (k + 1) hlt
 rw [QP hlt] at hcl
 have hal : pV s ≤ cB s := pS s
 refine bi ?_
 refine sT [1, 2, 3, 7, 8, 9] [1] ?_
 refine Eg ?_
 refine sG [1, 2, 3, 5, 7, 8, 9] [1] ?_
 refine rM ?_
 refine pp ?_
 refine lh ?_
 refine sG [1, 2, 3, 5, 7, 8, 9] [1] ?_
 refine cF ?_
 refine nx (k + 1) (by omega) (e := (by exact aI (by exact bk (by rw [QP hlt]; omega)) (aI (by exact rfl) tI)))
 have hend : k = s.aey.length := by omega
 refine bq ?_
 refine sT [1, 2, 3, 7, 8, 9] [1] ?_
 refine rM ?_
 refine db ?_
 exact (aI (by refine bk ?_; unfold rC; rw [hend, ED]; rfl) tI)
def ac9 {p1 p2 : Fl} {s : Store} {keep : List Int}  (hb : cB s ≤ 68719476736) (hk0 : keep.length ≤ 68719476736) : aN prog 231 [(true, [sl .v (s.aey.map (aG p1 p2)), val (vI s.Now)]), (false, [sl .v (keep.map am)])] (aJ [(true, [sl bz ((eJ s keep).aey.map (aG aV ab)), val (vI (eJ s keep).Now)]), (false, [val (vI (zT s keep))])]) := by
 refine mq (largs := fun L => [(true, [sl (.lo L) (s.aey.map (aG (.lo L) (.lo L))), val (vI s.Now)]), (false, [sl (.lo L) (keep.map am)])]) (rs := [(true, [sl bz ((eJ s keep).aey.map (aG aV ab)), val (vI (eJ s keep).Now)]), (false, [val (vI (zT s keep))])]) func231 rfl (nl rfl) (fun L => by exact (aI (aI rfl (ae.cons (aP (fun _ => nl rfl) (fun _ => (ae.cons (aP (fun _ => nl rfl) (fun _ => (ae.cons av (ae.cons (aP (fun _ => nl rfl) (fun _ => (ae.cons av ae.nil))) (ae.cons av (ae.cons av ae.nil)))))) ae.nil))) (ae.cons av ae.nil))) (aI (aI rfl (ae.cons (aP (fun _ => nl rfl) (fun _ => (ae.cons av ae.nil))) ae.nil)) tI))) (fun L => by exact lq) ?_
 intro w0 Fz0
 refine sn 0 0 fun hl0_0 => ?_
 refine sj 1 fun hl1 => ?_
 have hrw := EM s keep
 have hal := pS s
 have hal2 := pS (eJ s keep)
 have hcv : pV s = (bg s).length := rfl
 have hcv2 : pV (eJ s keep) = (bg (eJ s keep)).length := rfl
 refine CZ ?_
 refine PH ?_
 refine Dg ?_
 refine mw ?_
 refine PM ?_
 refine Pt ?_
 refine rA ?_ (x := nT)
 refine sc ?_ ?_ <;> intro hba
 have hok : bQ s = false := by simpa using hba
 have hr := Rd (keep := keep) hok
 refine sS [1, 2, 4, 5, 6] [2, 4, 6] ?_
 refine tJ ?_
 exact (bw 4 (bw _ (aI (by exact rfl) (aI (by refine dZ ?_; rw [hr]; exact rfl) (aI cW (aI (fun h => nomatch h) (aI (by refine bk ?_; unfold zT; rw [hok]; exact rfl) tI)))))))
 have hok : bQ s = true := by simpa using hba
 have hst := wE (keep := keep) hok
 obtain ⟨hs8, hs1, hn0, hn1, hs4, hver⟩ := mN hok
 refine eG ?_
 refine be ?_
 refine sP [1, 2, 4, 5, 6] [2, 4, 6] ?_
 refine jL (d := 6) (t := 26) (D := 900) (G := 2900) (E := 139) (e := 1) (L := (Lw w0.heap.size)) (A := []) (B := [val _]) (es := (s.aey).map (aG aV ab)) (by exact rfl) (iN (show 0 < s.aey.length by omega)) (by exact rfl) (by exact rfl) rfl (by exact rfl) (fun x hx => hx) (by exact lq) (by exact lq) (by exact ar.nil) (by exact lc) (ar.map fun x => (ar.cons (lcl_own (ar.map fun x => (ar.cons lcl_val (ar.cons (lcl_own (ar.map fun x => (ar.cons lcl_val ar.nil))) (ar.cons lcl_val (ar.cons lcl_val ar.nil)))))) ar.nil)) fun uu900 cp900 jk900 hlD900 hcp900 hjk900 => ?_
 rw [aw] at hlD900 hcp900 hjk900
 refine Nk ?_
 refine Iq (d := 900) (t := 184) (e := 4) (G := 6000) (f := (eN ab)) (g := (fun v : aR => [val (vI v.Id), sl .v (v.Values.map am), val (vI v.aeN), val (vI v.aeJ)])) (fN := oR) (xss := s.aey) (by exact rfl) (by exact rfl) (fun _ _ => rfl) (fun _ => rfl) (fun _ => (ak (aB (ak (ak ao.nil))))) (fun _ => (by exact lq)) fun zss hzss => ?_
 have hzl := QV hzss
 refine Pm ?_
 refine sX ?_
 refine rA ?_ (x := HK (G := 2900) (by decide) eP)
 refine eo ?_
 refine sP [1, 2, 4, 5, 6, 19, 20, 21, 2900, 6000] [2, 4, 6, 900] ?_
 refine sL [1, 2, 4, 5, 6, 19, 20, 2900, 6000] [2, 4, 6] (fun i : Nat => i ≤ zss.length) (fun i : Nat => [(21, RV.int (i : Int))]) (fun i : Nat => [(900, (139, bE lA (ij zss keep i) jk900))]) (fun i : Nat => zss.length - i) 0 (by omega) (by exact aI (by exact rfl) tI) (by exact aI (by exact rfl) tI) ?_
 rintro i hi
 have hfl0 := zS (zss := zss) (keep := keep) (k := i)
 refine cn ?_
 refine sc ?_ ?_ <;> intro hbb
 try simp only [aw] at hbb
 have hlz : i < zss.length := by omega
 have hls : i < s.aey.length := by omega
 have hz2 := QW hzss hlz hls
 have hs4i := hs4 _ (List.getElem_mem hls)
 have hfl : i < (ij zss keep i).length := by rw [zS]; omega
 have hfg := QR (keep := keep) hlz hfl
 refine dh ?_
 refine sO [(1, _), (2, _), (4, _), (5, _), (6, _), (19, _), (20, _), (21, _), (2900, _), (6000, _)] [(2, (26, [sl (.lo _) _, val _])), (4, (26, [sl _ _, val _])), (6, (26, [val _, val _])), (900, (139, bE lA _ _))] ?_
 refine lP ?_
 refine Cx ?_
 refine rS ?_
 refine rA ?_ (x := vA false [sl .v _])
 refine sS [1, 2, 4, 5, 6, 7, 8, 19, 20, 21, 2900, 6000] [2, 4, 6, 900] ?_
 refine Mw ?_
 refine dJ ?_
 refine sP [1, 2, 4, 5, 6, 7, 8, 9, 19, 20, 21, 2900, 6000] [2, 4, 6, 900] ?_
 refine BB (s := 8) [sl .v (zss[i].map oR)] (by exact rfl) (by exact (by rw [hfg]; exact (ak ao.nil))) (by exact (aj.cons (bor_sl _) aj.nil)) ?_
 refine sG [1, 2, 4, 5, 6, 7, 8, 9, 19, 20, 21, 2900, 6000] [2, 4, 6, 900] ?_
 refine tH ?_
 refine sP [1, 2, 4, 5, 6, 7, 8, 9, 19, 20, 21, 27, 28, 29, 2900, 6000] [2, 4, 6, 900] ?_
 refine sL [1, 2, 4, 5, 6, 7, 8, 19, 20, 21, 27, 28, 2900, 6000] [2, 4, 6, 900] (fun j : Nat => j ≤ zss[i].length) (fun j : Nat => [(9, RV.slc aV ((iZ keep (zss[i].take j)).map oR)), (29, RV.int (j : Int))]) (fun j : Nat => []) (fun j : Nat => zss[i].length - j) 0 (by omega) (by exact aI (by exact rfl) (aI (by exact rfl) tI)) (by exact tI) ?_
 rintro j hj
 refine cn ?_
 refine sc ?_ ?_ <;> intro hbc
 have hlj : j < zss[i].length := by omega
 have hlj2 : j < s.aey[i].length := by omega
 have hz3 := QX hzss hlz hls hlj hlj2
 have hfle := Ra (keep := keep) (zs := zss[i]) (j := j)
 refine dh ?_
 refine Nn ?_
 refine rA ?_ (x := aU (by decide) cy (by exact tI) (by exact rfl) (by exact aW (by omega) rfl) (by exact rfl))
 refine Na ?_
 refine Ox ?_
 refine sO [(1, _), (2, _), (4, _), (5, _), (6, _), (7, _), (8, _), (9, _), (11, _), (19, _), (20, _), (21, _), (27, _), (28, _), (29, _), (2900, _), (6000, _)] [(2, _), (4, _), (6, _), (11, (184, [nv _ (val _), nv _ (sl _ _), nv _ (val _), nv _ (val _)])), (900, _)] ?_
 refine bd ?_
 refine rA ?_ (x := gp (qs := [nv _ (val _), nv _ (sl .v _), nv _ (val _), nv _ (val _)]) (by decide) fq (fun h => nomatch h) (by exact nl rfl) (by exact (ak (ak (ak (ak ao.nil))))) (by exact lq))
 refine rA ?_ (x := vM false [sl (.lo _) _])
 refine rA ?_ (x := uB (qs := [(true, [nv _ (val _), nv _ (sl _ _), nv _ (val _), nv _ (val _)]), (false, [sl (.lo _) _])]) (as_ := [(true, [val _, sl .v _, val _, val _]), (false, [sl .v _])]) (by decide) YU (by exact (aI (by exact tI) (aI (by exact tI) tI))) (by exact (aI (aI rfl (ao.cons (PV.nv_to (la _)) (ao.cons (PV.nv_to nh) (ao.cons (PV.nv_to (la _)) (ao.cons (PV.nv_to (la _)) ao.nil))))) (aI (aI rfl (aB ao.nil)) tI))) (by exact ac8))
 refine sc ?_ ?_ <;> intro hbd
 have hnd : gy s.aey[i][j] keep = true := by rw [← hz3]; simpa using hbd
 refine sG [1, 2, 4, 5, 6, 7, 8, 9, 11, 19, 20, 21, 27, 28, 29, 2900, 6000] [2, 4, 6, 11, 900] ?_
 refine rA ?_ (x := tM)
 refine MM ?_
 refine CC ?_
 exact Kg
 have hnd : gy s.aey[i][j] keep = false := by rw [← hz3]; simpa using hbd
 refine bb ?_
 exact Kg
 refine bq ?_
 refine Nn ?_
 refine sX ?_
 refine rM ?_
 refine rA ?_ (x := tM)
 refine MZ ?_
 refine sG [1, 2, 4, 5, 6, 7, 8, 19, 20, 21, 27, 28, 29, 2900, 6000] [2, 4, 6, 900] ?_
 refine cF ?_
 refine nx (i + 1) (by omega) (f := (by exact aI (by rw [show j = zss[i].length by omega, cj, QT hlz]; exact rfl) tI))
 try simp only [aw] at hbb
 have hend : i = zss.length := by omega
 refine er ?_
 refine sO [(1, _), (2, _), (4, _), (5, _), (6, _), (19, _), (20, _), (21, _), (2900, _), (6000, _)] [(2, (26, [sl (.lo _) _, val _])), (4, (26, [sl _ _, val _])), (6, (26, [val _, val _])), (900, (139, bE lA _ _))] ?_
 refine Ir (d := 900) (t := 184) (e := 4) (G := 6000) (f := (eN ab)) (g := (fun v : aR => [val (vI v.Id), sl .v (v.Values.map am), val (vI v.aeN), val (vI v.aeJ)])) (fN := oR) (zss := (ij zss keep i)) (by exact rfl) (by exact rfl) (fun _ _ => rfl) (fun _ => rfl) (fun _ => rfl) (by rw [hend, EL]; exact QU) ?_
 refine sO [(1, _), (2, _), (4, _), (5, _), (6, _), (19, _), (20, _), (21, _), (2900, _)] [(2, _), (4, _), (6, _), (900, (139, bE (aG aV ab) _ _))] ?_
 refine MF ?_
 refine sO [(1, _), (2, _), (4, _), (5, _), (6, _), (19, _), (20, _), (21, _)] [(2, _), (4, _), (6, (26, [sl _ _, val _]))] ?_
 refine cV (d := 6) (by exact rfl) (show _ = [sl bz ((eJ s keep).aey.map (aG aV ab)), val (vI (eJ s keep).Now)] from by first | (rw [hst]; done) | (rw [hst]; exact rfl)) ?_
 refine sO [(1, _), (2, _), (4, _), (5, _), (6, _), (19, _), (20, _), (21, _)] [(2, _), (4, _), (6, (26, [sl _ _, val _]))] ?_
 refine uN (d := 6) (G := 1006) (by exact rfl) (by exact rfl) (aB (ak ao.nil)) (aj.cons (bor_sl _) (aj.cons (bor_val _) aj.nil)) fun us hRN => ?_
 obtain ⟨_, _, hRN⟩ := hRN
 obtain ⟨u5_0, u5_1, rfl⟩ := PZ hRN.len
 clear hRN
 refine sO [(1, _), (2, _), (4, _), (5, _), (6, _), (19, _), (20, _), (21, _), (1006, _)] [(2, _), (4, _), (6, (26, [nv _ (sl _ _), nv _ (val _)]))] ?_
 refine da cG ?_
 refine dA 0 ?_ (x := gp (qs := [nv _ (sl .v _), nv _ (val _)]) (by decide) cW (fun h => nomatch h) (by exact nl rfl) (by exact (ak (ak ao.nil))) (by exact (aj.cons (bor_nv (bor_sl _)) (aj.cons (bor_nv (bor_val _)) aj.nil))))
 refine dA 0 ?_ (x := lD [sl (.lo _) _, val _] cW)
 refine dA 2 ?_ (x := cL [(true, [sl (.lo _) _, val _])] [(true, [sl .v _, val _])] RA (hs := by exact (TX (by omega))))
 refine dA 0 ?_ (x := gp (qs := [nv _ (sl .v _), nv _ (val _)]) (by decide) cW (fun h => nomatch h) (by exact nl rfl) (by exact (ak (ak ao.nil))) (by exact (aj.cons (bor_nv (bor_sl _)) (aj.cons (bor_nv (bor_val _)) aj.nil))))
 refine dA 14 ?_ (x := uB (qs := [(true, [nv _ (sl _ _), nv _ (val _)])]) (as_ := [(true, [sl .v _, val _])]) (by decide) RA (by exact (aI (by exact tI) tI)) (by exact (aI (aI rfl (ao.cons (PV.nv_to nh) (ao.cons (PV.nv_to (la _)) ao.nil))) tI)) (by exact (TX (by omega))))
 refine dA 30 ?_ (x := fI)
 refine dA 31 ?_ (x := bh (ag := true) (vs := [nv _ (sl _ _), nv _ (val _)]) cW (by exact tI) (by exact rfl) (by exact nl rfl))
 refine dA 127 ?_ (x := sA)
 refine uG (d := 4) (G := 1006) (by exact rfl) (by exact (Nm.nv (Nm.nv Nm.nil))) (by exact rfl) ?_
 refine cT ?_
 exact (bw 4 (bw _ (aI (by exact rfl) (aI (by refine dZ ?_; exact rfl) (aI cW (aI (fun h => nomatch h) (aI (by refine bk ?_; unfold zT; rw [if_pos hok]) tI)))))))
def ada {p1 p2 : Fl} {s : Store} {keep : List Int}  (hb : cB s ≤ 68719476736) (hk0 : keep.length ≤ 68719476736) : aN prog 259 [(true, [sl .v (s.aey.map (aG p1 p2)), val (vI s.Now)]), (false, [sl .v (keep.map am)])] (aJ [(true, [sl bz ((eJ s keep).aey.map (aG aV ab)), val (vI (eJ s keep).Now)]), (false, [val (vI (zU s keep))])]) := by
 refine mq (largs := fun L => [(true, [sl (.lo L) (s.aey.map (aG (.lo L) (.lo L))), val (vI s.Now)]), (false, [sl (.lo L) (keep.map am)])]) (rs := [(true, [sl bz ((eJ s keep).aey.map (aG aV ab)), val (vI (eJ s keep).Now)]), (false, [val (vI (zU s keep))])]) func259 rfl (nl rfl) (fun L => by exact (aI (aI rfl (ae.cons (aP (fun _ => nl rfl) (fun _ => (ae.cons (aP (fun _ => nl rfl) (fun _ => (ae.cons av (ae.cons (aP (fun _ => nl rfl) (fun _ => (ae.cons av ae.nil))) (ae.cons av (ae.cons av ae.nil)))))) ae.nil))) (ae.cons av ae.nil))) (aI (aI rfl (ae.cons (aP (fun _ => nl rfl) (fun _ => (ae.cons av ae.nil))) ae.nil)) tI))) (fun L => by exact lq) ?_
 intro w0 Fz0
 refine sn 0 0 fun hl0_0 => ?_
 refine sj 1 fun hl1 => ?_
 have hrw := EM s keep
 have hal := pS s
 refine CZ ?_
 refine PH ?_
 refine Pr ?_
 refine mw ?_
 refine PM ?_
 refine Pu ?_
 refine rA ?_ (x := nT)
 refine sc ?_ ?_ <;> intro hba
 have hok : bQ s = false := by simpa using hba
 have hr := Rd (keep := keep) hok
 refine sS [1, 2, 4, 5, 6] [2, 4, 6] ?_
 refine tJ ?_
 exact (bw 4 (bw _ (aI (by exact rfl) (aI (by refine dZ ?_; rw [hr]; exact rfl) (aI cW (aI (fun h => nomatch h) (aI (by refine bk ?_; unfold zU; rw [hok]; exact rfl) tI)))))))
 have hok : bQ s = true := by simpa using hba
 have hst := wE (keep := keep) hok
 obtain ⟨hs8, hs1, hn0, hn1, hs4, hver⟩ := mN hok
 refine eG ?_
 refine sP [1, 2, 4, 5, 6] [2, 4, 6] ?_
 refine jL (d := 6) (t := 26) (D := 900) (G := 2900) (E := 139) (e := 1) (L := (Lw w0.heap.size)) (A := []) (B := [val _]) (es := (s.aey).map (aG aV ab)) (by exact rfl) (iN (show 0 < s.aey.length by omega)) (by exact rfl) (by exact rfl) rfl (by exact rfl) (fun x hx => hx) (by exact lq) (by exact lq) (by exact ar.nil) (by exact lc) (ar.map fun x => (ar.cons (lcl_own (ar.map fun x => (ar.cons lcl_val (ar.cons (lcl_own (ar.map fun x => (ar.cons lcl_val ar.nil))) (ar.cons lcl_val (ar.cons lcl_val ar.nil)))))) ar.nil)) fun uu900 cp900 jk900 hlD900 hcp900 hjk900 => ?_
 rw [aw] at hlD900 hcp900 hjk900
 refine Nk ?_
 refine Iq (d := 900) (t := 184) (e := 4) (G := 6000) (f := (eN ab)) (g := (fun v : aR => [val (vI v.Id), sl .v (v.Values.map am), val (vI v.aeN), val (vI v.aeJ)])) (fN := oR) (xss := s.aey) (by exact rfl) (by exact rfl) (fun _ _ => rfl) (fun _ => rfl) (fun _ => (ak (aB (ak (ak ao.nil))))) (fun _ => (by exact lq)) fun zss hzss => ?_
 have hzl := QV hzss
 refine Pm ?_
 refine eH ?_
 refine sS [1, 2, 4, 5, 6, 7, 2900, 6000] [2, 4, 6, 900] ?_
 refine ca ?_
 refine sP [1, 2, 4, 5, 6, 7, 8, 2900, 6000] [2, 4, 6, 900] ?_
 refine sL [1, 2, 4, 5, 6, 2900, 6000] [2, 4, 6] (fun i : Nat => i ≤ zss.length) (fun i : Nat => [(7, RV.int (jA s keep i 0 : Nat)), (8, RV.int (i : Int))]) (fun i : Nat => [(900, (139, bE lA (ij zss keep i) jk900))]) (fun i : Nat => zss.length - i) 0 (by omega) (by exact aI (by exact bk (by rw [Xz]; rfl)) (aI (by exact rfl) tI)) (by exact aI (by exact rfl) tI) ?_
 rintro i hi
 have hfl0 := zS (zss := zss) (keep := keep) (k := i)
 refine de ?_
 refine vz ?_
 refine rA ?_ (x := lN eP)
 refine rA ?_ (x := dq)
 refine sc ?_ ?_ <;> intro hbb
 try simp only [aw] at hbb
 have hlz : i < zss.length := by omega
 have hls : i < s.aey.length := by omega
 have hz2 := QW hzss hlz hls
 have hs4i := hs4 _ (List.getElem_mem hls)
 have hfl : i < (ij zss keep i).length := by rw [zS]; omega
 have hfg := QR (keep := keep) hlz hfl
 refine dh ?_
 refine sO [(1, _), (2, _), (4, _), (5, _), (6, _), (7, _), (8, _), (2900, _), (6000, _)] [(2, (26, [sl (.lo _) _, val _])), (4, (26, [sl _ _, val _])), (6, (26, [val _, val _])), (900, (139, bE lA _ _))] ?_
 refine bd ?_
 refine tx ?_
 refine sS [1, 2, 4, 5, 6, 7, 8, 9, 2900, 6000] [2, 4, 6, 900] ?_
 refine ca ?_
 refine sP [1, 2, 4, 5, 6, 7, 8, 9, 10, 2900, 6000] [2, 4, 6, 900] ?_
 refine sL [1, 2, 4, 5, 6, 8, 2900, 6000] [2, 4, 6, 900] (fun j : Nat => j ≤ zss[i].length) (fun j : Nat => [(7, RV.int (jA s keep i j : Nat)), (9, RV.slc aV ((iZ keep (zss[i].take j)).map oR)), (10, RV.int (j : Int))]) (fun j : Nat => []) (fun j : Nat => zss[i].length - j) 0 (by omega) (by exact aI (by exact rfl) (aI (by exact rfl) (aI (by exact rfl) tI))) (by exact tI) ?_
 rintro j hj
 have hcd := XA (keep := keep) (j := j) hls
 refine de ?_
 refine sX ?_
 refine rM ?_
 refine Cx ?_
 refine Eb ?_
 refine sc ?_ ?_ <;> intro hbc
 try rw [hfg] at hbc
 have hlj : j < zss[i].length := by omega
 have hlj2 : j < s.aey[i].length := by omega
 have hz3 := QX hzss hlz hls hlj hlj2
 have hfle := Ra (keep := keep) (zs := zss[i]) (j := j)
 have hvz := List.getElem_of_eq hfg (show j < ((ij zss keep i)[i]'hfl).length by rw [hfg]; exact hlj)
 refine dh ?_
 refine ND ?_
 refine sX ?_
 refine rM ?_
 refine Cx ?_
 refine rM ?_
 refine rA ?_ (x := aU (by decide) cy (by exact tI) (by exact rfl) (by exact aW (by rw [hfg]; omega) rfl) (by exact rfl))
 refine Na ?_
 refine Ox ?_
 refine sO [(1, _), (2, _), (4, _), (5, _), (6, _), (7, _), (8, _), (9, _), (10, _), (11, _), (2900, _), (6000, _)] [(2, _), (4, _), (6, _), (11, (184, [nv _ (val _), nv _ (sl _ _), nv _ (val _), nv _ (val _)])), (900, _)] ?_
 refine cV (d := 11) (by exact rfl) (congrArg oR hvz) ?_
 refine sG [1, 2, 4, 5, 6, 7, 8, 9, 10, 11, 2900, 6000] [2, 4, 6, 11, 900] ?_
 refine rA ?_ (x := lF iB)
 refine rA ?_ (x := gp (qs := [val _]) (by decide) az (fun _ => rfl) (by exact nl rfl) (by exact (ao.cons (PV.nv_to (la _)) ao.nil)) (by exact (aj.cons (bor_val _) aj.nil)))
 refine lK ?_
 refine be ?_
 refine sS [1, 2, 4, 5, 6, 7, 8, 9, 10, 11, 12, 2900, 6000] [2, 4, 6, 11, 900] ?_
 refine ca ?_
 refine sP [1, 2, 4, 5, 6, 7, 8, 9, 10, 11, 12, 13, 2900, 6000] [2, 4, 6, 11, 900] ?_
 refine sL [1, 2, 4, 5, 6, 7, 8, 9, 10, 11, 2900, 6000] [2, 4, 6, 11, 900] (fun m : Nat => m ≤ keep.length) (fun m : Nat => [(12, RV.bool (oP zss[i][j].1 keep m)), (13, RV.int (m : Int))]) (fun m : Nat => []) (fun m : Nat => keep.length - m) 0 (by omega) (by exact aI (by first | exact rfl | exact fS (by unfold oP; simp; rfl)) (aI (by exact rfl) tI)) (by exact tI) ?_
 rintro m hm
 refine de ?_
 refine rA ?_ (x := vM false [sl (.lo _) _])
 refine rA ?_ (x := lN bC)
 refine rA ?_ (x := dq)
 refine sc ?_ ?_ <;> intro hbd
 have hlm : m < keep.length := by omega
 refine bi ?_
 refine sO [(1, _), (2, _), (4, _), (5, _), (6, _), (7, _), (8, _), (9, _), (10, _), (11, _), (12, _), (13, _), (2900, _), (6000, _)] [(2, (26, [sl (.lo _) _, val _])), (4, (26, [sl _ _, val _])), (6, (26, [val _, val _])), (11, (184, [nv _ (val _), nv _ (sl _ _), nv _ (val _), nv _ (val _)])), (900, (139, bE lA _ _))] ?_
 refine qE ?_
 refine dA 1 ?_ (x := sM)
 refine dx 56 (fun ga sga => ?_) (fun ga sga => ?_)
 have hg : oP zss[i][j].1 keep m = true := by simpa using ga
 have sga := ga
 try simp only [qq] at sga
 refine dT 3 ga ?_
 refine dT 3 ga ?_
 refine dT 3 ga ?_
 refine dT 27 ga ?_
 refine dT 59 ga ?_
 refine dT 127 ga ?_
 refine dA 255 ?_ (x := aO ga)
 exact Kh
 have hg : oP zss[i][j].1 keep m = false := by simpa using ga
 have sga := ga
 try simp only [qq] at sga
 refine dB 3 ga ?_ (x := gp (qs := [nv _ (val _), nv _ (sl .v _), nv _ (val _), nv _ (val _)]) (by decide) fq (fun h => nomatch h) (by exact nl rfl) (by exact (ak (ak (ak (ak ao.nil))))) (by exact lq))
 refine dB 3 ga ?_ (x := vM false [sl (.lo _) _])
 refine dB 3 ga ?_ (x := sM)
 refine dB 27 ga ?_ (x := aU (by decide) bC (by exact tI) (by exact rfl) (by exact aW (by omega) rfl) (by exact rfl))
 refine dB 59 ga ?_ (x := lE [val _] az)
 refine dB 127 ga ?_ (x := uB (qs := [(true, [nv _ (val _), nv _ (sl _ _), nv _ (val _), nv _ (val _)]), (false, [val _])]) (as_ := [(true, [val _, sl .v _, val _, val _]), (false, [val _])]) (by decide) EV (by exact (aI (by exact tI) (aI (by exact tI) tI))) (by exact (aI (aI rfl (ao.cons (PV.nv_to (la _)) (ao.cons (PV.nv_to nh) (ao.cons (PV.nv_to (la _)) (ao.cons (PV.nv_to (la _)) ao.nil))))) (aI (aI rfl (ak ao.nil)) tI))) (by exact GK))
 refine dA 255 ?_ (x := aF ga)
 exact Kh
 have hme : m = keep.length := by omega
 refine er ?_
 refine sO [(1, _), (2, _), (4, _), (5, _), (6, _), (7, _), (8, _), (9, _), (10, _), (11, _), (12, _), (13, _), (2900, _), (6000, _)] [(2, (26, [sl (.lo _) _, val _])), (4, (26, [sl _ _, val _])), (6, (26, [val _, val _])), (11, (184, [nv _ (val _), nv _ (sl _ _), nv _ (val _), nv _ (val _)])), (900, (139, bE lA _ _))] ?_
 refine lP ?_
 refine sc ?_ ?_ <;> intro hbe
 have hnd : gy s.aey[i][j] keep = true := by rw [← hz3, ← QQ, ← hme]; simpa using hbe
 refine sG [1, 2, 4, 5, 6, 7, 8, 9, 10, 11, 12, 13, 2900, 6000] [2, 4, 6, 11, 900] ?_
 refine rA ?_ (x := tM)
 refine MM ?_
 refine CC ?_
 exact Ki
 have hnd : gy s.aey[i][j] keep = false := by rw [← hz3, ← QQ, ← hme]; simpa using hbe
 refine Dm ?_
 exact Ki
 try rw [hfg] at hbc
 refine bq ?_
 refine ND ?_
 refine sX ?_
 refine rM ?_
 refine rA ?_ (x := tM)
 refine MZ ?_
 refine sG [1, 2, 4, 5, 6, 7, 8, 10, 2900, 6000] [2, 4, 6, 900] ?_
 refine cb ?_
 refine nx (i + 1) (by omega) (e := (by exact aI (by exact bk (by rw [show j = s.aey[i].length by omega, Xy hls])) (aI (by exact bk (by omega)) tI))) (f := (by exact aI (by rw [show j = zss[i].length by omega, cj, QT hlz]; exact rfl) tI))
 try simp only [aw] at hbb
 have hend : i = zss.length := by omega
 refine er ?_
 refine sO [(1, _), (2, _), (4, _), (5, _), (6, _), (7, _), (8, _), (2900, _), (6000, _)] [(2, (26, [sl (.lo _) _, val _])), (4, (26, [sl _ _, val _])), (6, (26, [val _, val _])), (900, (139, bE lA _ _))] ?_
 refine Ir (d := 900) (t := 184) (e := 4) (G := 6000) (f := (eN ab)) (g := (fun v : aR => [val (vI v.Id), sl .v (v.Values.map am), val (vI v.aeN), val (vI v.aeJ)])) (fN := oR) (zss := (ij zss keep i)) (by exact rfl) (by exact rfl) (fun _ _ => rfl) (fun _ => rfl) (fun _ => rfl) (by rw [hend, EL]; exact QU) ?_
 refine sO [(1, _), (2, _), (4, _), (5, _), (6, _), (7, _), (8, _), (2900, _)] [(2, _), (4, _), (6, _), (900, (139, bE (aG aV ab) _ _))] ?_
 refine MF ?_
 refine sO [(1, _), (2, _), (4, _), (5, _), (6, _), (7, _), (8, _)] [(2, _), (4, _), (6, (26, [sl _ _, val _]))] ?_
 refine cV (d := 6) (by exact rfl) (show _ = [sl bz ((eJ s keep).aey.map (aG aV ab)), val (vI (eJ s keep).Now)] from by first | (rw [hst]; done) | (rw [hst]; exact rfl)) ?_
 refine sO [(1, _), (2, _), (4, _), (5, _), (6, _), (7, _), (8, _)] [(2, _), (4, _), (6, (26, [sl _ _, val _]))] ?_
 refine bd ?_
 refine rA ?_ (x := cP (ms := [sl _ _, val _]) (qs := [sl .v _, val _]) (by decide) cW (fun h => nomatch h) (by exact nl rfl) (by exact rfl) (by exact (aB (ak ao.nil))) (by exact (aj.cons (bor_sl _) (aj.cons (bor_val _) aj.nil))))
 refine rM ?_
 refine rA ?_ (x := bh (ag := true) (vs := [sl _ _, val _]) cW (by exact tI) (by exact rfl) (by exact nl rfl))
 refine db ?_
 exact (bw 4 (bw _ (aI (by exact rfl) (aI (by refine dZ ?_; exact rfl) (aI cW (aI (fun h => nomatch h) (aI (by refine bk ?_; unfold zU; rw [if_pos hok, ← hzl, ← hend]) tI)))))))
end Go.Proofs.YtmekkgdboplbjaaGreat
