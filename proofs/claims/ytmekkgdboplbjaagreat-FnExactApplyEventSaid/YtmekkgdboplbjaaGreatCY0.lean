/- What functions of the program compute. No condition. -/
import Derived.Test.YtmekkgdboplbjaaGreatCW0
set_option linter.all false
namespace Go.Proofs.YtmekkgdboplbjaaGreat
open Go Go.RowKit M PV Tryz
set_option maxRecDepth 10000
attribute [local irreducible] PV.Lcl PV.LclR RV.Lcl
def Uu {v : aT} {keep : List Int}  : aC prog 271 [(true, [val (vI v.Id), sl .v (v.Values.map ak), val (vI v.WG), val (vI v.WC)]), (false, [sl .v (keep.map ak)])] (az [(false, [val (.bool (gJ v keep))])]) := by
 refine sF func271 fun h0 w0 Fz0 => ?_
 refine sn 0 1 fun hl0_1 => ?_
 refine sj 1 fun hl1 => ?_
 refine oX ?_
 refine vV ?_
 refine iV ?_
 refine dI ?_
 refine sP [1, 2, 4, 7, 8, 9] [2] ?_
 refine sL [1, 2, 7, 8] [2] (fun k : Nat => k ≤ keep.length ∧ (keep.take k).any (ea v) = false) (fun k : Nat => [(9, RV.int (k : Int))]) (fun k : Nat => []) (fun k : Nat => keep.length - k) 0 (by exact ⟨by omega, by simp⟩) (by exact aI (by exact rfl) tI) (by exact tI) ?_
 rintro k ⟨hk, ha⟩
 refine ct ?_
 refine sc (fun hba => ?_) (fun hba => ?_)
 have hlt : k < keep.length := by omega
 refine bB ?_
 refine sT [1, 2, 7, 8, 9] [2] ?_
 refine mI ?_
 refine sS [1, 2, 6, 7, 8, 9] [2] ?_
 refine rA ?_ (x := lD [val _, sl .v _, val _, val _] dO)
 refine HD ?_
 refine sc (fun hbb => ?_) (fun hbb => ?_)
 have hv : ea v keep[k] = true := by simpa using hbb
 refine sS [1, 2, 6, 7, 8, 9] [2] ?_
 refine cm ?_
 exact rb ((Re hlt hv).symm)
 have hvf : ea v keep[k] = false := by simpa using hbb
 refine bl ?_
 refine sG [1, 2, 6, 7, 8, 9] [2] ?_
 refine c0 ?_
 refine nx (k + 1) (by exact ⟨by omega, pC ha hlt hvf⟩)
 refine bF ?_
 refine sT [1, 2, 7, 8, 9] [2] ?_
 refine rA ?_ (x := lF fR)
 refine yu ?_
 refine d5 ?_
 exact rb (by (have hn := Rf (v := v) (IZ (by rw [show keep.length = k by omega]; exact ha)); rw [hn]; first | rfl | simp))
def Ls {p1 p2 : Fl} {s : Store}  (hb : b4 s ≤ 68719476736) : aC prog 272 [(true, [sl .v (s.Wr.map (aD p1 p2)), val (vI s.Now)])] (az [(false, [val (vI ((ow s : Nat) : Int))])]) := by
 refine sF func272 fun h0 w0 Fz0 => ?_
 refine sn 0 0 fun hl0_0 => ?_
 refine iU ?_
 refine lH ?_
 refine dz ?_
 refine sS [1, 2, 3] [1] ?_
 refine kC ?_
 refine dI ?_
 refine sP [1, 2, 3, 7, 8, 9] [1] ?_
 refine sL [1, 2, 7, 8] [1] (fun k : Nat => k ≤ s.Wr.length) (fun k : Nat => [(3, RV.int (pY s k : Nat)), (9, RV.int (k : Int))]) (fun k : Nat => []) (fun k : Nat => s.Wr.length - k) 0 (by omega) (by exact aI (by exact rfl) (aI (by exact rfl) tI)) (by exact tI) ?_
 rintro k hk
 refine ct ?_
 refine sc (fun hba => ?_) (fun hba => ?_)
 have hlt : k < s.Wr.length := by omega
 have hcl := Rd (s := s) (k + 1) hlt
 rw [Kq hlt] at hcl
 have hal : ow s ≤ b4 s := pS s
 refine bB ?_
 refine sT [1, 2, 3, 7, 8, 9] [1] ?_
 refine Aj ?_
 refine sG [1, 2, 3, 5, 7, 8, 9] [1] ?_
 refine uy ?_
 refine rA ?_ (x := lN ck)
 refine rA ?_ (x := j4)
 refine rS ?_
 refine sG [1, 2, 3, 5, 7, 8, 9] [1] ?_
 refine c0 ?_
 refine nx (k + 1) (by omega) (e := (by exact aI (by exact bg (by rw [Kq hlt]; omega)) (aI (by exact rfl) tI)))
 have hend : k = s.Wr.length := by omega
 refine bF ?_
 refine sT [1, 2, 3, 7, 8, 9] [1] ?_
 refine lz ?_
 exact (aI (by refine bg ?_; unfold pY; rw [hend, AR]; rfl) tI)
def Uv {p1 p2 : Fl} {s : Store} {keep : List Int}  (hb : b4 s ≤ 68719476736) (hk0 : keep.length ≤ 68719476736) : aC prog 231 [(true, [sl .v (s.Wr.map (aD p1 p2)), val (vI s.Now)]), (false, [sl .v (keep.map ak)])] (az [(true, [sl bo ((fU s keep).Wr.map (aD aS aa)), val (vI (fU s keep).Now)]), (false, [val (vI (wt s keep))])]) := by
 refine j3 (largs := fun L => [(true, [sl (.lo L) (s.Wr.map (aD (.lo L) (.lo L))), val (vI s.Now)]), (false, [sl (.lo L) (keep.map ak)])]) (rs := [(true, [sl bo ((fU s keep).Wr.map (aD aS aa)), val (vI (fU s keep).Now)]), (false, [val (vI (wt s keep))])]) func231 rfl (nl rfl) (fun L => by exact (aI (aI rfl (ab.cons (aM (fun _ => nl rfl) (fun _ => (ab.cons (aM (fun _ => nl rfl) (fun _ => (ab.cons ap (ab.cons (aM (fun _ => nl rfl) (fun _ => (ab.cons ap ab.nil))) (ab.cons ap (ab.cons ap ab.nil)))))) ab.nil))) (ab.cons ap ab.nil))) (aI (aI rfl (ab.cons (aM (fun _ => nl rfl) (fun _ => (ab.cons ap ab.nil))) ab.nil)) tI))) (fun L => by exact lq) ?_
 intro w0 Fz0
 refine sn 0 0 fun hl0_0 => ?_
 refine sj 1 fun hl1 => ?_
 have hrw := AX s keep
 have hal := pS s
 have hal2 := pS (fU s keep)
 have hcv : ow s = (cf s).length := rfl
 have hcv2 : ow (fU s keep) = (cf (fU s keep)).length := rfl
 refine yZ ?_
 refine IM ?_
 refine zg ?_
 refine mu ?_
 refine IP ?_
 refine IC ?_
 refine rA ?_ (x := nT)
 refine sc (fun hba => ?_) (fun hba => ?_)
 have hok : dm s = false := by simpa using hba
 have hr := KE (keep := keep) hok
 refine sS [1, 2, 4, 5, 6] [2, 4, 6] ?_
 refine oT ?_
 refine cm ?_
 exact (bj 4 (bj _ (aI (by exact rfl) (aI (by refine ff ?_; rw [hr]; exact rfl) (aI dv (aI (fun h => nomatch h) (aI (by refine bg ?_; unfold wt; rw [hok]; exact rfl) tI)))))))
 have hok : dm s = true := by simpa using hba
 have hst := KD (keep := keep) hok
 obtain ⟨hs8, hs1, hn0, hn1, hs4, hver⟩ := l6 hok
 refine cO ?_
 refine aP ?_
 refine sP [1, 2, 4, 5, 6] [2, 4, 6] ?_
 refine iO (d := 6) (t := 26) (D := 900) (G := 2900) (E := 139) (e := 1) (L := (Lw w0.heap.size)) (A := []) (B := [val _]) (es := (s.Wr).map (aD aS aa)) (by exact rfl) (hP (show 0 < s.Wr.length by omega)) (by exact rfl) (by exact rfl) rfl (by exact rfl) (fun x hx => hx) (by exact lq) (by exact lq) (by exact ai.nil) (by exact lc) (ai.map fun x => (ai.cons (lcl_own (ai.map fun x => (ai.cons lcl_val (ai.cons (lcl_own (ai.map fun x => (ai.cons lcl_val ai.nil))) (ai.cons lcl_val (ai.cons lcl_val ai.nil)))))) ai.nil)) fun uu900 cp900 jk900 hlD900 hcp900 hjk900 => ?_
 rw [ar] at hlD900 hcp900 hjk900
 refine GP ?_
 refine Db (d := 900) (t := 184) (e := 4) (G := 6000) (f := (cG aa)) (g := (fun v : aT => [val (vI v.Id), sl .v (v.Values.map ak), val (vI v.WG), val (vI v.WC)])) (fN := mZ) (xss := s.Wr) (by exact rfl) (by exact rfl) (fun _ _ => rfl) (fun _ => rfl) (fun _ => (an (aF (an (an am.nil))))) (fun _ => (by exact lq)) fun zss hzss => ?_
 have hzl := Kv hzss
 refine Iw ?_
 refine qL ?_
 refine rA ?_ (x := CJ (G := 2900) (by decide) cV)
 refine dI ?_
 refine sP [1, 2, 4, 5, 6, 19, 20, 21, 2900, 6000] [2, 4, 6, 900] ?_
 refine sL [1, 2, 4, 5, 6, 19, 20, 2900, 6000] [2, 4, 6] (fun i : Nat => i ≤ zss.length) (fun i : Nat => [(21, RV.int (i : Int))]) (fun i : Nat => [(900, (139, bA jU (gK zss keep i) jk900))]) (fun i : Nat => zss.length - i) 0 (by omega) (by exact aI (by exact rfl) tI) (by exact aI (by exact rfl) tI) ?_
 rintro i hi
 have hfl0 := wq (zss := zss) (keep := keep) (k := i)
 refine ct ?_
 refine sc (fun hbb => ?_) (fun hbb => ?_)
 try simp only [ar] at hbb
 have hlz : i < zss.length := by omega
 have hls : i < s.Wr.length := by omega
 have hz2 := Kw hzss hlz hls
 have hs4i := hs4 _ (List.getElem_mem hls)
 have hfl : i < (gK zss keep i).length := by rw [wq]; omega
 have hfg := Ks (keep := keep) hlz hfl
 refine cF ?_
 refine sO [(1, _), (2, _), (4, _), (5, _), (6, _), (19, _), (20, _), (21, _), (2900, _), (6000, _)] [(2, (26, [sl (.lo _) _, val _])), (4, (26, [sl _ _, val _])), (6, (26, [val _, val _])), (900, (139, bA jU _ _))] ?_
 refine px ?_
 refine yt ?_
 refine rS ?_
 refine rA ?_ (x := vA false [sl .v _])
 refine sS [1, 2, 4, 5, 6, 7, 8, 19, 20, 21, 2900, 6000] [2, 4, 6, 900] ?_
 refine qF ?_
 refine eO ?_
 refine sP [1, 2, 4, 5, 6, 7, 8, 9, 19, 20, 21, 2900, 6000] [2, 4, 6, 900] ?_
 refine xJ (s := 8) [sl .v (zss[i].map mZ)] (by exact rfl) (by exact (by rw [hfg]; exact (an am.nil))) (by exact (ao.cons (bor_sl _) ao.nil)) ?_
 refine sG [1, 2, 4, 5, 6, 7, 8, 9, 19, 20, 21, 2900, 6000] [2, 4, 6, 900] ?_
 refine rk ?_
 refine sP [1, 2, 4, 5, 6, 7, 8, 9, 19, 20, 21, 27, 28, 29, 2900, 6000] [2, 4, 6, 900] ?_
 refine sL [1, 2, 4, 5, 6, 7, 8, 19, 20, 21, 27, 28, 2900, 6000] [2, 4, 6, 900] (fun j : Nat => j ≤ zss[i].length) (fun j : Nat => [(9, RV.slc aS ((ig keep (zss[i].take j)).map mZ)), (29, RV.int (j : Int))]) (fun j : Nat => []) (fun j : Nat => zss[i].length - j) 0 (by omega) (by exact aI (by exact rfl) (aI (by exact rfl) tI)) (by exact tI) ?_
 rintro j hj
 refine ct ?_
 refine sc (fun hbc => ?_) (fun hbc => ?_)
 have hlj : j < zss[i].length := by omega
 have hlj2 : j < s.Wr[i].length := by omega
 have hz3 := Kx hzss hlz hls hlj hlj2
 have hfle := KA (keep := keep) (zs := zss[i]) (j := j)
 refine cF ?_
 refine GR ?_
 refine rA ?_ (x := aY (by decide) ck (by exact tI) (by exact rfl) (by exact be (by omega) rfl) (by exact rfl))
 refine GH ?_
 refine HK ?_
 refine sO [(1, _), (2, _), (4, _), (5, _), (6, _), (7, _), (8, _), (9, _), (11, _), (19, _), (20, _), (21, _), (27, _), (28, _), (29, _), (2900, _), (6000, _)] [(2, _), (4, _), (6, _), (11, (184, [nv _ (val _), nv _ (sl _ _), nv _ (val _), nv _ (val _)])), (900, _)] ?_
 refine ba ?_
 refine rA ?_ (x := df (qs := [nv _ (val _), nv _ (sl .v _), nv _ (val _), nv _ (val _)]) (by decide) dO (fun h => nomatch h) (by exact nl rfl) (by exact (an (an (an (an am.nil))))) (by exact lq))
 refine rA ?_ (x := vM false [sl (.lo _) _])
 refine rA ?_ (x := oB (qs := [(true, [nv _ (val _), nv _ (sl _ _), nv _ (val _), nv _ (val _)]), (false, [sl (.lo _) _])]) (as_ := [(true, [val _, sl .v _, val _, val _]), (false, [sl .v _])]) (by decide) R4 (by exact (aI (by exact tI) (aI (by exact tI) tI))) (by exact (aI (aI rfl (am.cons (PV.nv_to (iP _)) (am.cons (PV.nv_to iQ) (am.cons (PV.nv_to (iP _)) (am.cons (PV.nv_to (iP _)) am.nil))))) (aI (aI rfl (aF am.nil)) tI))) (by exact Uu))
 refine sc (fun hbd => ?_) (fun hbd => ?_)
 have hnd : gJ s.Wr[i][j] keep = true := by rw [← hz3]; simpa using hbd
 refine sG [1, 2, 4, 5, 6, 7, 8, 9, 11, 19, 20, 21, 27, 28, 29, 2900, 6000] [2, 4, 6, 11, 900] ?_
 refine rA ?_ (x := tM)
 refine Gw ?_
 refine yA ?_
 exact EU
 have hnd : gJ s.Wr[i][j] keep = false := by rw [← hz3]; simpa using hbd
 refine bl ?_
 exact EU
 refine bF ?_
 refine GR ?_
 refine qL ?_
 refine rM ?_
 refine rA ?_ (x := tM)
 refine GG ?_
 refine sG [1, 2, 4, 5, 6, 7, 8, 19, 20, 21, 27, 28, 29, 2900, 6000] [2, 4, 6, 900] ?_
 refine c0 ?_
 refine nx (i + 1) (by omega) (f := (by exact aI (by rw [show j = zss[i].length by omega, cb, Kt hlz]; exact rfl) tI))
 try simp only [ar] at hbb
 have hend : i = zss.length := by omega
 refine gV ?_
 refine sO [(1, _), (2, _), (4, _), (5, _), (6, _), (19, _), (20, _), (21, _), (2900, _), (6000, _)] [(2, (26, [sl (.lo _) _, val _])), (4, (26, [sl _ _, val _])), (6, (26, [val _, val _])), (900, (139, bA jU _ _))] ?_
 refine Dc (d := 900) (t := 184) (e := 4) (G := 6000) (f := (cG aa)) (g := (fun v : aT => [val (vI v.Id), sl .v (v.Values.map ak), val (vI v.WG), val (vI v.WC)])) (fN := mZ) (zss := (gK zss keep i)) (by exact rfl) (by exact rfl) (fun _ _ => rfl) (fun _ => rfl) (fun _ => rfl) (by rw [hend, AW]; exact Ku) ?_
 refine sO [(1, _), (2, _), (4, _), (5, _), (6, _), (19, _), (20, _), (21, _), (2900, _)] [(2, _), (4, _), (6, _), (900, (139, bA (aD aS aa) _ _))] ?_
 refine Gt ?_
 refine sO [(1, _), (2, _), (4, _), (5, _), (6, _), (19, _), (20, _), (21, _)] [(2, _), (4, _), (6, (26, [sl _ _, val _]))] ?_
 refine bV (d := 6) (by exact rfl) (show _ = [sl bo ((fU s keep).Wr.map (aD aS aa)), val (vI (fU s keep).Now)] from by first | (rw [hst]; done) | (rw [hst]; exact rfl)) ?_
 refine sO [(1, _), (2, _), (4, _), (5, _), (6, _), (19, _), (20, _), (21, _)] [(2, _), (4, _), (6, (26, [sl _ _, val _]))] ?_
 refine uc (d := 6) (G := 1006) (by exact rfl) (by exact rfl) (aF (an am.nil)) (ao.cons (bor_sl _) (ao.cons (bor_val _) ao.nil)) fun us hRN => ?_
 obtain ⟨_, _, hRN⟩ := hRN
 obtain ⟨u5_0, u5_1, rfl⟩ := vY hRN.len
 clear hRN
 refine sO [(1, _), (2, _), (4, _), (5, _), (6, _), (19, _), (20, _), (21, _), (1006, _)] [(2, _), (4, _), (6, (26, [nv _ (sl _ _), nv _ (val _)]))] ?_
 refine db cJ ?_
 refine dA 0 ?_ (x := df (qs := [nv _ (sl .v _), nv _ (val _)]) (by decide) dv (fun h => nomatch h) (by exact nl rfl) (by exact (an (an am.nil))) (by exact (ao.cons (bor_nv (bor_sl _)) (ao.cons (bor_nv (bor_val _)) ao.nil))))
 refine dA 0 ?_ (x := lD [sl (.lo _) _, val _] dv)
 refine dA 2 ?_ (x := cL [(true, [sl (.lo _) _, val _])] [(true, [sl .v _, val _])] KN (hs := by exact (Ls (by omega))))
 refine dA 0 ?_ (x := df (qs := [nv _ (sl .v _), nv _ (val _)]) (by decide) dv (fun h => nomatch h) (by exact nl rfl) (by exact (an (an am.nil))) (by exact (ao.cons (bor_nv (bor_sl _)) (ao.cons (bor_nv (bor_val _)) ao.nil))))
 refine dA 14 ?_ (x := oB (qs := [(true, [nv _ (sl _ _), nv _ (val _)])]) (as_ := [(true, [sl .v _, val _])]) (by decide) KN (by exact (aI (by exact tI) tI)) (by exact (aI (aI rfl (am.cons (PV.nv_to iQ) (am.cons (PV.nv_to (iP _)) am.nil))) tI)) (by exact (Ls (by omega))))
 refine dA 30 ?_ (x := gS)
 refine dA 31 ?_ (x := bd (ag := true) (vs := [nv _ (sl _ _), nv _ (val _)]) dv (by exact tI) (by exact rfl) (by exact nl rfl))
 refine dA 127 ?_ (x := sA)
 refine xn (d := 4) (G := 1006) (by exact rfl) (by exact (Nm.nv (Nm.nv Nm.nil))) (by exact rfl) ?_
 refine dR ?_
 exact (bj 4 (bj _ (aI (by exact rfl) (aI (by refine ff ?_; exact rfl) (aI dv (aI (fun h => nomatch h) (aI (by refine bg ?_; unfold wt; rw [if_pos hok]) tI)))))))
def Uw {p1 p2 : Fl} {s : Store} {keep : List Int}  (hb : b4 s ≤ 68719476736) (hk0 : keep.length ≤ 68719476736) : aC prog 259 [(true, [sl .v (s.Wr.map (aD p1 p2)), val (vI s.Now)]), (false, [sl .v (keep.map ak)])] (az [(true, [sl bo ((fU s keep).Wr.map (aD aS aa)), val (vI (fU s keep).Now)]), (false, [val (vI (wu s keep))])]) := by
 refine j3 (largs := fun L => [(true, [sl (.lo L) (s.Wr.map (aD (.lo L) (.lo L))), val (vI s.Now)]), (false, [sl (.lo L) (keep.map ak)])]) (rs := [(true, [sl bo ((fU s keep).Wr.map (aD aS aa)), val (vI (fU s keep).Now)]), (false, [val (vI (wu s keep))])]) func259 rfl (nl rfl) (fun L => by exact (aI (aI rfl (ab.cons (aM (fun _ => nl rfl) (fun _ => (ab.cons (aM (fun _ => nl rfl) (fun _ => (ab.cons ap (ab.cons (aM (fun _ => nl rfl) (fun _ => (ab.cons ap ab.nil))) (ab.cons ap (ab.cons ap ab.nil)))))) ab.nil))) (ab.cons ap ab.nil))) (aI (aI rfl (ab.cons (aM (fun _ => nl rfl) (fun _ => (ab.cons ap ab.nil))) ab.nil)) tI))) (fun L => by exact lq) ?_
 intro w0 Fz0
 refine sn 0 0 fun hl0_0 => ?_
 refine sj 1 fun hl1 => ?_
 have hrw := AX s keep
 have hal := pS s
 refine yZ ?_
 refine IM ?_
 refine IA ?_
 refine mu ?_
 refine IP ?_
 refine ID ?_
 refine rA ?_ (x := nT)
 refine sc (fun hba => ?_) (fun hba => ?_)
 have hok : dm s = false := by simpa using hba
 have hr := KE (keep := keep) hok
 refine sS [1, 2, 4, 5, 6] [2, 4, 6] ?_
 refine oT ?_
 refine cm ?_
 exact (bj 4 (bj _ (aI (by exact rfl) (aI (by refine ff ?_; rw [hr]; exact rfl) (aI dv (aI (fun h => nomatch h) (aI (by refine bg ?_; unfold wu; rw [hok]; exact rfl) tI)))))))
 have hok : dm s = true := by simpa using hba
 have hst := KD (keep := keep) hok
 obtain ⟨hs8, hs1, hn0, hn1, hs4, hver⟩ := l6 hok
 refine cO ?_
 refine sP [1, 2, 4, 5, 6] [2, 4, 6] ?_
 refine iO (d := 6) (t := 26) (D := 900) (G := 2900) (E := 139) (e := 1) (L := (Lw w0.heap.size)) (A := []) (B := [val _]) (es := (s.Wr).map (aD aS aa)) (by exact rfl) (hP (show 0 < s.Wr.length by omega)) (by exact rfl) (by exact rfl) rfl (by exact rfl) (fun x hx => hx) (by exact lq) (by exact lq) (by exact ai.nil) (by exact lc) (ai.map fun x => (ai.cons (lcl_own (ai.map fun x => (ai.cons lcl_val (ai.cons (lcl_own (ai.map fun x => (ai.cons lcl_val ai.nil))) (ai.cons lcl_val (ai.cons lcl_val ai.nil)))))) ai.nil)) fun uu900 cp900 jk900 hlD900 hcp900 hjk900 => ?_
 rw [ar] at hlD900 hcp900 hjk900
 refine GP ?_
 refine Db (d := 900) (t := 184) (e := 4) (G := 6000) (f := (cG aa)) (g := (fun v : aT => [val (vI v.Id), sl .v (v.Values.map ak), val (vI v.WG), val (vI v.WC)])) (fN := mZ) (xss := s.Wr) (by exact rfl) (by exact rfl) (fun _ _ => rfl) (fun _ => rfl) (fun _ => (an (aF (an (an am.nil))))) (fun _ => (by exact lq)) fun zss hzss => ?_
 have hzl := Kv hzss
 refine Iw ?_
 refine dz ?_
 refine sS [1, 2, 4, 5, 6, 7, 2900, 6000] [2, 4, 6, 900] ?_
 refine cz ?_
 refine sP [1, 2, 4, 5, 6, 7, 8, 2900, 6000] [2, 4, 6, 900] ?_
 refine sL [1, 2, 4, 5, 6, 2900, 6000] [2, 4, 6] (fun i : Nat => i ≤ zss.length) (fun i : Nat => [(7, RV.int (iE s keep i 0 : Nat)), (8, RV.int (i : Int))]) (fun i : Nat => [(900, (139, bA jU (gK zss keep i) jk900))]) (fun i : Nat => zss.length - i) 0 (by omega) (by exact aI (by exact bg (by rw [Rn]; rfl)) (aI (by exact rfl) tI)) (by exact aI (by exact rfl) tI) ?_
 rintro i hi
 have hfl0 := wq (zss := zss) (keep := keep) (k := i)
 refine d6 ?_
 refine sU ?_
 refine Ac ?_
 refine sc (fun hbb => ?_) (fun hbb => ?_)
 try simp only [ar] at hbb
 have hlz : i < zss.length := by omega
 have hls : i < s.Wr.length := by omega
 have hz2 := Kw hzss hlz hls
 have hs4i := hs4 _ (List.getElem_mem hls)
 have hfl : i < (gK zss keep i).length := by rw [wq]; omega
 have hfg := Ks (keep := keep) hlz hfl
 refine cF ?_
 refine sO [(1, _), (2, _), (4, _), (5, _), (6, _), (7, _), (8, _), (2900, _), (6000, _)] [(2, (26, [sl (.lo _) _, val _])), (4, (26, [sl _ _, val _])), (6, (26, [val _, val _])), (900, (139, bA jU _ _))] ?_
 refine ba ?_
 refine qF ?_
 refine aP ?_
 refine sS [1, 2, 4, 5, 6, 7, 8, 9, 2900, 6000] [2, 4, 6, 900] ?_
 refine cz ?_
 refine sP [1, 2, 4, 5, 6, 7, 8, 9, 10, 2900, 6000] [2, 4, 6, 900] ?_
 refine sL [1, 2, 4, 5, 6, 8, 2900, 6000] [2, 4, 6, 900] (fun j : Nat => j ≤ zss[i].length) (fun j : Nat => [(7, RV.int (iE s keep i j : Nat)), (9, RV.slc aS ((ig keep (zss[i].take j)).map mZ)), (10, RV.int (j : Int))]) (fun j : Nat => []) (fun j : Nat => zss[i].length - j) 0 (by omega) (by exact aI (by exact rfl) (aI (by exact rfl) (aI (by exact rfl) tI))) (by exact tI) ?_
 rintro j hj
 have hcd := Ro (keep := keep) (j := j) hls
 refine d6 ?_
 refine qL ?_
 refine rM ?_
 refine yt ?_
 refine mA ?_
 refine sc (fun hbc => ?_) (fun hbc => ?_)
 try rw [hfg] at hbc
 have hlj : j < zss[i].length := by omega
 have hlj2 : j < s.Wr[i].length := by omega
 have hz3 := Kx hzss hlz hls hlj hlj2
 have hfle := KA (keep := keep) (zs := zss[i]) (j := j)
 have hvz := List.getElem_of_eq hfg (show j < ((gK zss keep i)[i]'hfl).length by rw [hfg]; exact hlj)
 refine cF ?_
 refine G6 ?_
 refine qL ?_
 refine rM ?_
 refine yt ?_
 refine rM ?_
 refine rA ?_ (x := aY (by decide) ck (by exact tI) (by exact rfl) (by exact be (by rw [hfg]; omega) rfl) (by exact rfl))
 refine GH ?_
 refine HK ?_
 refine sO [(1, _), (2, _), (4, _), (5, _), (6, _), (7, _), (8, _), (9, _), (10, _), (11, _), (2900, _), (6000, _)] [(2, _), (4, _), (6, _), (11, (184, [nv _ (val _), nv _ (sl _ _), nv _ (val _), nv _ (val _)])), (900, _)] ?_
 refine bV (d := 11) (by exact rfl) (congrArg mZ hvz) ?_
 refine sG [1, 2, 4, 5, 6, 7, 8, 9, 10, 11, 2900, 6000] [2, 4, 6, 11, 900] ?_
 refine rA ?_ (x := lF fR)
 refine rA ?_ (x := df (qs := [val _]) (by decide) au (fun _ => rfl) (by exact nl rfl) (by exact (am.cons (PV.nv_to (iP _)) am.nil)) (by exact (ao.cons (bor_val _) ao.nil)))
 refine rA ?_ (x := d4)
 refine fA ?_
 refine sS [1, 2, 4, 5, 6, 7, 8, 9, 10, 11, 12, 2900, 6000] [2, 4, 6, 11, 900] ?_
 refine cz ?_
 refine sP [1, 2, 4, 5, 6, 7, 8, 9, 10, 11, 12, 13, 2900, 6000] [2, 4, 6, 11, 900] ?_
 refine sL [1, 2, 4, 5, 6, 7, 8, 9, 10, 11, 2900, 6000] [2, 4, 6, 11, 900] (fun m : Nat => m ≤ keep.length) (fun m : Nat => [(12, RV.bool (mW zss[i][j].1 keep m)), (13, RV.int (m : Int))]) (fun m : Nat => []) (fun m : Nat => keep.length - m) 0 (by omega) (by exact aI (by first | exact rfl | exact gu (by unfold mW; simp; rfl)) (aI (by exact rfl) tI)) (by exact tI) ?_
 rintro m hm
 refine d6 ?_
 refine rA ?_ (x := vM false [sl (.lo _) _])
 refine rA ?_ (x := lN bC)
 refine rA ?_ (x := cy)
 refine sc (fun hbd => ?_) (fun hbd => ?_)
 have hlm : m < keep.length := by omega
 refine bB ?_
 refine sO [(1, _), (2, _), (4, _), (5, _), (6, _), (7, _), (8, _), (9, _), (10, _), (11, _), (12, _), (13, _), (2900, _), (6000, _)] [(2, (26, [sl (.lo _) _, val _])), (4, (26, [sl _ _, val _])), (6, (26, [val _, val _])), (11, (184, [nv _ (val _), nv _ (sl _ _), nv _ (val _), nv _ (val _)])), (900, (139, bA jU _ _))] ?_
 refine db cJ ?_
 refine dA 0 ?_ (x := sM)
 refine dA 1 ?_ (x := sM)
 refine dx 56 (fun ga sga => ?_) (fun ga sga => ?_)
 have hg : mW zss[i][j].1 keep m = true := by simpa using ga
 have sga := ga
 try simp only [qq] at sga
 refine dT 3 ga ?_
 refine dT 3 ga ?_
 refine dT 3 ga ?_
 refine dT 27 ga ?_
 refine dT 59 ga ?_
 refine dT 127 ga ?_
 refine dA 255 ?_ (x := aR ga)
 exact EV
 have hg : mW zss[i][j].1 keep m = false := by simpa using ga
 have sga := ga
 try simp only [qq] at sga
 refine dB 3 ga ?_ (x := df (qs := [nv _ (val _), nv _ (sl .v _), nv _ (val _), nv _ (val _)]) (by decide) dO (fun h => nomatch h) (by exact nl rfl) (by exact (an (an (an (an am.nil))))) (by exact lq))
 refine dB 3 ga ?_ (x := vM false [sl (.lo _) _])
 refine dB 3 ga ?_ (x := sM)
 refine dB 27 ga ?_ (x := aY (by decide) bC (by exact tI) (by exact rfl) (by exact be (by omega) rfl) (by exact rfl))
 refine dB 59 ga ?_ (x := lE [val _] au)
 refine dB 127 ga ?_ (x := oB (qs := [(true, [nv _ (val _), nv _ (sl _ _), nv _ (val _), nv _ (val _)]), (false, [val _])]) (as_ := [(true, [val _, sl .v _, val _, val _]), (false, [val _])]) (by decide) KK (by exact (aI (by exact tI) (aI (by exact tI) tI))) (by exact (aI (aI rfl (am.cons (PV.nv_to (iP _)) (am.cons (PV.nv_to iQ) (am.cons (PV.nv_to (iP _)) (am.cons (PV.nv_to (iP _)) am.nil))))) (aI (aI rfl (an am.nil)) tI))) (by exact Le))
 refine dA 255 ?_ (x := aK ga)
 exact EV
 have hme : m = keep.length := by omega
 refine gV ?_
 refine sO [(1, _), (2, _), (4, _), (5, _), (6, _), (7, _), (8, _), (9, _), (10, _), (11, _), (12, _), (13, _), (2900, _), (6000, _)] [(2, (26, [sl (.lo _) _, val _])), (4, (26, [sl _ _, val _])), (6, (26, [val _, val _])), (11, (184, [nv _ (val _), nv _ (sl _ _), nv _ (val _), nv _ (val _)])), (900, (139, bA jU _ _))] ?_
 refine px ?_
 refine sc (fun hbe => ?_) (fun hbe => ?_)
 have hnd : gJ s.Wr[i][j] keep = true := by rw [← hz3, ← Kr, ← hme]; simpa using hbe
 refine sG [1, 2, 4, 5, 6, 7, 8, 9, 10, 11, 12, 13, 2900, 6000] [2, 4, 6, 11, 900] ?_
 refine rA ?_ (x := tM)
 refine Gw ?_
 refine yA ?_
 exact EW
 have hnd : gJ s.Wr[i][j] keep = false := by rw [← hz3, ← Kr, ← hme]; simpa using hbe
 refine zy ?_
 exact EW
 try rw [hfg] at hbc
 refine bF ?_
 refine G6 ?_
 refine qL ?_
 refine rM ?_
 refine rA ?_ (x := tM)
 refine GG ?_
 refine sG [1, 2, 4, 5, 6, 7, 8, 10, 2900, 6000] [2, 4, 6, 900] ?_
 refine cZ ?_
 refine nx (i + 1) (by omega) (e := (by exact aI (by exact bg (by rw [show j = s.Wr[i].length by omega, Rm hls])) (aI (by exact bg (by omega)) tI))) (f := (by exact aI (by rw [show j = zss[i].length by omega, cb, Kt hlz]; exact rfl) tI))
 try simp only [ar] at hbb
 have hend : i = zss.length := by omega
 refine gV ?_
 refine sO [(1, _), (2, _), (4, _), (5, _), (6, _), (7, _), (8, _), (2900, _), (6000, _)] [(2, (26, [sl (.lo _) _, val _])), (4, (26, [sl _ _, val _])), (6, (26, [val _, val _])), (900, (139, bA jU _ _))] ?_
 refine Dc (d := 900) (t := 184) (e := 4) (G := 6000) (f := (cG aa)) (g := (fun v : aT => [val (vI v.Id), sl .v (v.Values.map ak), val (vI v.WG), val (vI v.WC)])) (fN := mZ) (zss := (gK zss keep i)) (by exact rfl) (by exact rfl) (fun _ _ => rfl) (fun _ => rfl) (fun _ => rfl) (by rw [hend, AW]; exact Ku) ?_
 refine sO [(1, _), (2, _), (4, _), (5, _), (6, _), (7, _), (8, _), (2900, _)] [(2, _), (4, _), (6, _), (900, (139, bA (aD aS aa) _ _))] ?_
 refine Gt ?_
 refine sO [(1, _), (2, _), (4, _), (5, _), (6, _), (7, _), (8, _)] [(2, _), (4, _), (6, (26, [sl _ _, val _]))] ?_
 refine bV (d := 6) (by exact rfl) (show _ = [sl bo ((fU s keep).Wr.map (aD aS aa)), val (vI (fU s keep).Now)] from by first | (rw [hst]; done) | (rw [hst]; exact rfl)) ?_
 refine sO [(1, _), (2, _), (4, _), (5, _), (6, _), (7, _), (8, _)] [(2, _), (4, _), (6, (26, [sl _ _, val _]))] ?_
 refine ba ?_
 refine rA ?_ (x := cl (ms := [sl _ _, val _]) (qs := [sl .v _, val _]) (by decide) dv (fun h => nomatch h) (by exact nl rfl) (by exact rfl) (by exact (aF (an am.nil))) (by exact (ao.cons (bor_sl _) (ao.cons (bor_val _) ao.nil))))
 refine rM ?_
 refine rA ?_ (x := bd (ag := true) (vs := [sl _ _, val _]) dv (by exact tI) (by exact rfl) (by exact nl rfl))
 refine d5 ?_
 exact (bj 4 (bj _ (aI (by exact rfl) (aI (by refine ff ?_; exact rfl) (aI dv (aI (fun h => nomatch h) (aI (by refine bg ?_; unfold wu; rw [if_pos hok, ← hzl, ← hend]) tI)))))))
end Go.Proofs.YtmekkgdboplbjaaGreat
