/- What functions of the program compute. No condition. -/
import Derived.Test.YtmekkgdboplbjaaGreatCW0
set_option linter.all false
namespace Go.Proofs.YtmekkgdboplbjaaGreat
open Go Go.RowKit M PV Tryz
set_option maxRecDepth 10000
attribute [local irreducible] PV.Lcl PV.LclR RV.Lcl
def aah {v : aU} {keep : List Int}  : aB prog 271 [(true, [val (vI v.Id), sl .v (v.Values.map ak), val (vI v.acI), val (vI v.acE)]), (false, [sl .v (keep.map ak)])] (aA [(false, [val (.bool (ig v keep))])]) := by
 refine sF func271 fun h0 w0 Fz0 => ?_
 refine sn 0 1 fun hl0_1 => ?_
 refine sj 1 fun hl1 => ?_
 refine qz ?_
 refine xN ?_
 refine lP ?_
 refine dZ ?_
 refine sP [1, 2, 4, 7, 8, 9] [2] ?_
 refine sL [1, 2, 7, 8] [2] (fun k : Nat => k ≤ keep.length ∧ (keep.take k).any (eK v) = false) (fun k : Nat => [(9, RV.int (k : Int))]) (fun k : Nat => []) (fun k : Nat => keep.length - k) 0 (by exact ⟨by omega, by simp⟩) (by exact aI (by exact rfl) tI) (by exact tI) ?_
 rintro k ⟨hk, ha⟩
 refine cF ?_
 refine sc (fun hba => ?_) (fun hba => ?_)
 have hlt : k < keep.length := by omega
 refine bB ?_
 refine sT [1, 2, 7, 8, 9] [2] ?_
 refine oJ ?_
 refine sS [1, 2, 6, 7, 8, 9] [2] ?_
 refine rA ?_ (x := lD [val _, sl .v _, val _, val _] en)
 refine KI ?_
 refine sc (fun hbb => ?_) (fun hbb => ?_)
 have hv : eK v keep[k] = true := by simpa using hbb
 refine sS [1, 2, 6, 7, 8, 9] [2] ?_
 refine cB ?_
 exact rb ((Wm hlt hv).symm)
 have hvf : eK v keep[k] = false := by simpa using hbb
 refine bm ?_
 refine sG [1, 2, 6, 7, 8, 9] [2] ?_
 refine df ?_
 refine nx (k + 1) (by exact ⟨by omega, qY ha hlt hvf⟩)
 refine bG ?_
 refine sT [1, 2, 7, 8, 9] [2] ?_
 refine rA ?_ (x := lF gG)
 refine Au ?_
 refine ew ?_
 exact rb (by (have hn := Wn (v := v) (Mv (by rw [show keep.length = k by omega]; exact ha)); rw [hn]; first | rfl | simp))
def Pv {p1 p2 : Fl} {s : Store}  (hb : cd s ≤ 68719476736) : aB prog 272 [(true, [sl .v (s.act.map (aC p1 p2)), val (vI s.Now)])] (aA [(false, [val (vI ((pX s : Nat) : Int))])]) := by
 refine sF func272 fun h0 w0 Fz0 => ?_
 refine sn 0 0 fun hl0_0 => ?_
 refine jy ?_
 refine mR ?_
 refine fh ?_
 refine sS [1, 2, 3] [1] ?_
 refine lR ?_
 refine dZ ?_
 refine sP [1, 2, 3, 7, 8, 9] [1] ?_
 refine sL [1, 2, 7, 8] [1] (fun k : Nat => k ≤ s.act.length) (fun k : Nat => [(3, RV.int (rt s k : Nat)), (9, RV.int (k : Int))]) (fun k : Nat => []) (fun k : Nat => s.act.length - k) 0 (by omega) (by exact aI (by exact rfl) (aI (by exact rfl) tI)) (by exact tI) ?_
 rintro k hk
 refine cF ?_
 refine sc (fun hba => ?_) (fun hba => ?_)
 have hlt : k < s.act.length := by omega
 have hcl := Wl (s := s) (k + 1) hlt
 rw [Og hlt] at hcl
 have hal : pX s ≤ cd s := rm s
 refine bB ?_
 refine sT [1, 2, 3, 7, 8, 9] [1] ?_
 refine Ck ?_
 refine sG [1, 2, 3, 5, 7, 8, 9] [1] ?_
 refine wm ?_
 refine rA ?_ (x := lN cv)
 refine rA ?_ (x := kV)
 refine rS ?_
 refine sG [1, 2, 3, 5, 7, 8, 9] [1] ?_
 refine df ?_
 refine nx (k + 1) (by omega) (e := (by exact aI (by exact bh (by rw [Og hlt]; omega)) (aI (by exact rfl) tI)))
 have hend : k = s.act.length := by omega
 refine bG ?_
 refine sT [1, 2, 3, 7, 8, 9] [1] ?_
 refine lS ?_
 exact (aI (by refine bh ?_; unfold rt; rw [hend, CO]; rfl) tI)
def aai {p1 p2 : Fl} {s : Store} {keep : List Int}  (hb : cd s ≤ 68719476736) (hk0 : keep.length ≤ 68719476736) : aB prog 231 [(true, [sl .v (s.act.map (aC p1 p2)), val (vI s.Now)]), (false, [sl .v (keep.map ak)])] (aA [(true, [sl bo ((gJ s keep).act.map (aC aS aa)), val (vI (gJ s keep).Now)]), (false, [val (vI (yi s keep))])]) := by
 refine kU (largs := fun L => [(true, [sl (.lo L) (s.act.map (aC (.lo L) (.lo L))), val (vI s.Now)]), (false, [sl (.lo L) (keep.map ak)])]) (rs := [(true, [sl bo ((gJ s keep).act.map (aC aS aa)), val (vI (gJ s keep).Now)]), (false, [val (vI (yi s keep))])]) func231 rfl (nl rfl) (fun L => by exact (aI (aI rfl (ab.cons (aM (fun _ => nl rfl) (fun _ => (ab.cons (aM (fun _ => nl rfl) (fun _ => (ab.cons ao (ab.cons (aM (fun _ => nl rfl) (fun _ => (ab.cons ao ab.nil))) (ab.cons ao (ab.cons ao ab.nil)))))) ab.nil))) (ab.cons ao ab.nil))) (aI (aI rfl (ab.cons (aM (fun _ => nl rfl) (fun _ => (ab.cons ao ab.nil))) ab.nil)) tI))) (fun L => by exact lq) ?_
 intro w0 Fz0
 refine sn 0 0 fun hl0_0 => ?_
 refine sj 1 fun hl1 => ?_
 have hrw := CU s keep
 have hal := rm s
 have hal2 := rm (gJ s keep)
 have hcv : pX s = (ct s).length := rfl
 have hcv2 : pX (gJ s keep) = (ct (gJ s keep)).length := rfl
 refine Ba ?_
 refine Mi ?_
 refine Bi ?_
 refine od ?_
 refine Mk ?_
 refine LX ?_
 refine rA ?_ (x := nT)
 refine sc (fun hba => ?_) (fun hba => ?_)
 have hok : dI s = false := by simpa using hba
 have hr := Ox (keep := keep) hok
 refine sS [1, 2, 4, 5, 6] [2, 4, 6] ?_
 refine qv ?_
 refine cB ?_
 exact (bu 4 (bu _ (aI (by exact rfl) (aI (by refine fE ?_; rw [hr]; exact rfl) (aI dV (aI (fun h => nomatch h) (aI (by refine bh ?_; unfold yi; rw [hok]; exact rfl) tI)))))))
 have hok : dI s = true := by simpa using hba
 have hst := Ow (keep := keep) hok
 obtain ⟨hs8, hs1, hn0, hn1, hs4, hver⟩ := nq hok
 refine dt ?_
 refine aP ?_
 refine sP [1, 2, 4, 5, 6] [2, 4, 6] ?_
 refine ju (d := 6) (t := 26) (D := 900) (G := 2900) (E := 139) (e := 1) (L := (Lw w0.heap.size)) (A := []) (B := [val _]) (es := (s.act).map (aC aS aa)) (by exact rfl) (iC (show 0 < s.act.length by omega)) (by exact rfl) (by exact rfl) rfl (by exact rfl) (fun x hx => hx) (by exact lq) (by exact lq) (by exact ai.nil) (by exact lc) (ai.map fun x => (ai.cons (lcl_own (ai.map fun x => (ai.cons lcl_val (ai.cons (lcl_own (ai.map fun x => (ai.cons lcl_val ai.nil))) (ai.cons lcl_val (ai.cons lcl_val ai.nil)))))) ai.nil)) fun uu900 cp900 jk900 hlD900 hcp900 hjk900 => ?_
 rw [aq] at hlD900 hcp900 hjk900
 refine JO ?_
 refine FP (d := 900) (t := 184) (e := 4) (G := 6000) (f := (cX aa)) (g := (fun v : aU => [val (vI v.Id), sl .v (v.Values.map ak), val (vI v.acI), val (vI v.acE)])) (fN := oV) (xss := s.act) (by exact rfl) (by exact rfl) (fun _ _ => rfl) (fun _ => rfl) (fun _ => (ap (aH (ap (ap am.nil))))) (fun _ => (by exact lq)) fun zss hzss => ?_
 have hzl := Ol hzss
 refine LQ ?_
 refine sh ?_
 refine rA ?_ (x := Fe (G := 2900) (by decide) di)
 refine dZ ?_
 refine sP [1, 2, 4, 5, 6, 19, 20, 21, 2900, 6000] [2, 4, 6, 900] ?_
 refine sL [1, 2, 4, 5, 6, 19, 20, 2900, 6000] [2, 4, 6] (fun i : Nat => i ≤ zss.length) (fun i : Nat => [(21, RV.int (i : Int))]) (fun i : Nat => [(900, (139, bE kL (ii zss keep i) jk900))]) (fun i : Nat => zss.length - i) 0 (by omega) (by exact aI (by exact rfl) tI) (by exact aI (by exact rfl) tI) ?_
 rintro i hi
 have hfl0 := yh (zss := zss) (keep := keep) (k := i)
 refine cF ?_
 refine sc (fun hbb => ?_) (fun hbb => ?_)
 try simp only [aq] at hbb
 have hlz : i < zss.length := by omega
 have hls : i < s.act.length := by omega
 have hz2 := Om hzss hlz hls
 have hs4i := hs4 _ (List.getElem_mem hls)
 have hfl : i < (ii zss keep i).length := by rw [yh]; omega
 have hfg := Oi (keep := keep) hlz hfl
 refine cO ?_
 refine sO [(1, _), (2, _), (4, _), (5, _), (6, _), (19, _), (20, _), (21, _), (2900, _), (6000, _)] [(2, (26, [sl (.lo _) _, val _])), (4, (26, [sl _ _, val _])), (6, (26, [val _, val _])), (900, (139, bE kL _ _))] ?_
 refine oG ?_
 refine At ?_
 refine rS ?_
 refine rA ?_ (x := vA false [sl .v _])
 refine sS [1, 2, 4, 5, 6, 7, 8, 19, 20, 21, 2900, 6000] [2, 4, 6, 900] ?_
 refine sd ?_
 refine fF ?_
 refine sP [1, 2, 4, 5, 6, 7, 8, 9, 19, 20, 21, 2900, 6000] [2, 4, 6, 900] ?_
 refine zF (s := 8) [sl .v (zss[i].map oV)] (by exact rfl) (by exact (by rw [hfg]; exact (ap am.nil))) (by exact (an.cons (bor_sl _) an.nil)) ?_
 refine sG [1, 2, 4, 5, 6, 7, 8, 9, 19, 20, 21, 2900, 6000] [2, 4, 6, 900] ?_
 refine sV ?_
 refine sP [1, 2, 4, 5, 6, 7, 8, 9, 19, 20, 21, 27, 28, 29, 2900, 6000] [2, 4, 6, 900] ?_
 refine sL [1, 2, 4, 5, 6, 7, 8, 19, 20, 21, 27, 28, 2900, 6000] [2, 4, 6, 900] (fun j : Nat => j ≤ zss[i].length) (fun j : Nat => [(9, RV.slc aS ((iJ keep (zss[i].take j)).map oV)), (29, RV.int (j : Int))]) (fun j : Nat => []) (fun j : Nat => zss[i].length - j) 0 (by omega) (by exact aI (by exact rfl) (aI (by exact rfl) tI)) (by exact tI) ?_
 rintro j hj
 refine cF ?_
 refine sc (fun hbc => ?_) (fun hbc => ?_)
 have hlj : j < zss[i].length := by omega
 have hlj2 : j < s.act[i].length := by omega
 have hz3 := On hzss hlz hls hlj hlj2
 have hfle := Ot (keep := keep) (zs := zss[i]) (j := j)
 refine cO ?_
 refine JQ ?_
 refine rA ?_ (x := aY (by decide) cv (by exact tI) (by exact rfl) (by exact bc (by omega) rfl) (by exact rfl))
 refine JF ?_
 refine KP ?_
 refine sO [(1, _), (2, _), (4, _), (5, _), (6, _), (7, _), (8, _), (9, _), (11, _), (19, _), (20, _), (21, _), (27, _), (28, _), (29, _), (2900, _), (6000, _)] [(2, _), (4, _), (6, _), (11, (184, [nv _ (val _), nv _ (sl _ _), nv _ (val _), nv _ (val _)])), (900, _)] ?_
 refine bf ?_
 refine rA ?_ (x := eW (qs := [nv _ (val _), nv _ (sl .v _), nv _ (val _), nv _ (val _)]) (by decide) en (fun h => nomatch h) (by exact nl rfl) (by exact (ap (ap (ap (ap am.nil))))) (by exact lq))
 refine rA ?_ (x := vM false [sl (.lo _) _])
 refine rA ?_ (x := tt (qs := [(true, [nv _ (val _), nv _ (sl _ _), nv _ (val _), nv _ (val _)]), (false, [sl (.lo _) _])]) (as_ := [(true, [val _, sl .v _, val _, val _]), (false, [sl .v _])]) (by decide) Xl (by exact (aI (by exact tI) (aI (by exact tI) tI))) (by exact (aI (aI rfl (am.cons (PV.nv_to (jn _)) (am.cons (PV.nv_to jt) (am.cons (PV.nv_to (jn _)) (am.cons (PV.nv_to (jn _)) am.nil))))) (aI (aI rfl (aH am.nil)) tI))) (by exact aah))
 refine sc (fun hbd => ?_) (fun hbd => ?_)
 have hnd : ig s.act[i][j] keep = true := by rw [← hz3]; simpa using hbd
 refine sG [1, 2, 4, 5, 6, 7, 8, 9, 11, 19, 20, 21, 27, 28, 29, 2900, 6000] [2, 4, 6, 11, 900] ?_
 refine rA ?_ (x := tM)
 refine Ju ?_
 refine AA ?_
 exact HO
 have hnd : ig s.act[i][j] keep = false := by rw [← hz3]; simpa using hbd
 refine bm ?_
 exact HO
 refine bG ?_
 refine JQ ?_
 refine sh ?_
 refine rM ?_
 refine rA ?_ (x := tM)
 refine JE ?_
 refine sG [1, 2, 4, 5, 6, 7, 8, 19, 20, 21, 27, 28, 29, 2900, 6000] [2, 4, 6, 900] ?_
 refine df ?_
 refine nx (i + 1) (by omega) (f := (by exact aI (by rw [show j = zss[i].length by omega, cn, Oj hlz]; exact rfl) tI))
 try simp only [aq] at hbb
 have hend : i = zss.length := by omega
 refine it ?_
 refine sO [(1, _), (2, _), (4, _), (5, _), (6, _), (19, _), (20, _), (21, _), (2900, _), (6000, _)] [(2, (26, [sl (.lo _) _, val _])), (4, (26, [sl _ _, val _])), (6, (26, [val _, val _])), (900, (139, bE kL _ _))] ?_
 refine FQ (d := 900) (t := 184) (e := 4) (G := 6000) (f := (cX aa)) (g := (fun v : aU => [val (vI v.Id), sl .v (v.Values.map ak), val (vI v.acI), val (vI v.acE)])) (fN := oV) (zss := (ii zss keep i)) (by exact rfl) (by exact rfl) (fun _ _ => rfl) (fun _ => rfl) (fun _ => rfl) (by rw [hend, CT]; exact Ok) ?_
 refine sO [(1, _), (2, _), (4, _), (5, _), (6, _), (19, _), (20, _), (21, _), (2900, _)] [(2, _), (4, _), (6, _), (900, (139, bE (aC aS aa) _ _))] ?_
 refine Jr ?_
 refine sO [(1, _), (2, _), (4, _), (5, _), (6, _), (19, _), (20, _), (21, _)] [(2, _), (4, _), (6, (26, [sl _ _, val _]))] ?_
 refine bV (d := 6) (by exact rfl) (show _ = [sl bo ((gJ s keep).act.map (aC aS aa)), val (vI (gJ s keep).Now)] from by first | (rw [hst]; done) | (rw [hst]; exact rfl)) ?_
 refine sO [(1, _), (2, _), (4, _), (5, _), (6, _), (19, _), (20, _), (21, _)] [(2, _), (4, _), (6, (26, [sl _ _, val _]))] ?_
 refine vR (d := 6) (G := 1006) (by exact rfl) (by exact rfl) (aH (ap am.nil)) (an.cons (bor_sl _) (an.cons (bor_val _) an.nil)) fun us hRN => ?_
 obtain ⟨_, _, hRN⟩ := hRN
 obtain ⟨u5_0, u5_1, rfl⟩ := Cn hRN.len
 clear hRN
 refine sO [(1, _), (2, _), (4, _), (5, _), (6, _), (19, _), (20, _), (21, _), (1006, _)] [(2, _), (4, _), (6, (26, [nv _ (sl _ _), nv _ (val _)]))] ?_
 refine dw dl ?_
 refine dA 0 ?_ (x := eW (qs := [nv _ (sl .v _), nv _ (val _)]) (by decide) dV (fun h => nomatch h) (by exact nl rfl) (by exact (ap (ap am.nil))) (by exact (an.cons (bor_nv (bor_sl _)) (an.cons (bor_nv (bor_val _)) an.nil))))
 refine dA 0 ?_ (x := lD [sl (.lo _) _, val _] dV)
 refine dA 2 ?_ (x := cL [(true, [sl (.lo _) _, val _])] [(true, [sl .v _, val _])] OF (hs := by exact (Pv (by omega))))
 refine dA 0 ?_ (x := eW (qs := [nv _ (sl .v _), nv _ (val _)]) (by decide) dV (fun h => nomatch h) (by exact nl rfl) (by exact (ap (ap am.nil))) (by exact (an.cons (bor_nv (bor_sl _)) (an.cons (bor_nv (bor_val _)) an.nil))))
 refine dA 14 ?_ (x := tt (qs := [(true, [nv _ (sl _ _), nv _ (val _)])]) (as_ := [(true, [sl .v _, val _])]) (by decide) OF (by exact (aI (by exact tI) tI)) (by exact (aI (aI rfl (am.cons (PV.nv_to jt) (am.cons (PV.nv_to (jn _)) am.nil))) tI)) (by exact (Pv (by omega))))
 refine dA 30 ?_ (x := ip)
 refine dA 31 ?_ (x := bg (ag := true) (vs := [nv _ (sl _ _), nv _ (val _)]) dV (by exact tI) (by exact rfl) (by exact nl rfl))
 refine dA 127 ?_ (x := sA)
 refine EJ (d := 4) (G := 1006) (by exact rfl) (by exact (Nm.nv (Nm.nv Nm.nil))) (by exact rfl) ?_
 refine eo ?_
 exact (bu 4 (bu _ (aI (by exact rfl) (aI (by refine fE ?_; exact rfl) (aI dV (aI (fun h => nomatch h) (aI (by refine bh ?_; unfold yi; rw [if_pos hok]) tI)))))))
def aaj {p1 p2 : Fl} {s : Store} {keep : List Int}  (hb : cd s ≤ 68719476736) (hk0 : keep.length ≤ 68719476736) : aB prog 259 [(true, [sl .v (s.act.map (aC p1 p2)), val (vI s.Now)]), (false, [sl .v (keep.map ak)])] (aA [(true, [sl bo ((gJ s keep).act.map (aC aS aa)), val (vI (gJ s keep).Now)]), (false, [val (vI (yj s keep))])]) := by
 refine kU (largs := fun L => [(true, [sl (.lo L) (s.act.map (aC (.lo L) (.lo L))), val (vI s.Now)]), (false, [sl (.lo L) (keep.map ak)])]) (rs := [(true, [sl bo ((gJ s keep).act.map (aC aS aa)), val (vI (gJ s keep).Now)]), (false, [val (vI (yj s keep))])]) func259 rfl (nl rfl) (fun L => by exact (aI (aI rfl (ab.cons (aM (fun _ => nl rfl) (fun _ => (ab.cons (aM (fun _ => nl rfl) (fun _ => (ab.cons ao (ab.cons (aM (fun _ => nl rfl) (fun _ => (ab.cons ao ab.nil))) (ab.cons ao (ab.cons ao ab.nil)))))) ab.nil))) (ab.cons ao ab.nil))) (aI (aI rfl (ab.cons (aM (fun _ => nl rfl) (fun _ => (ab.cons ao ab.nil))) ab.nil)) tI))) (fun L => by exact lq) ?_
 intro w0 Fz0
 refine sn 0 0 fun hl0_0 => ?_
 refine sj 1 fun hl1 => ?_
 have hrw := CU s keep
 have hal := rm s
 refine Ba ?_
 refine Mi ?_
 refine LV ?_
 refine od ?_
 refine Mk ?_
 refine LY ?_
 refine rA ?_ (x := nT)
 refine sc (fun hba => ?_) (fun hba => ?_)
 have hok : dI s = false := by simpa using hba
 have hr := Ox (keep := keep) hok
 refine sS [1, 2, 4, 5, 6] [2, 4, 6] ?_
 refine qv ?_
 refine cB ?_
 exact (bu 4 (bu _ (aI (by exact rfl) (aI (by refine fE ?_; rw [hr]; exact rfl) (aI dV (aI (fun h => nomatch h) (aI (by refine bh ?_; unfold yj; rw [hok]; exact rfl) tI)))))))
 have hok : dI s = true := by simpa using hba
 have hst := Ow (keep := keep) hok
 obtain ⟨hs8, hs1, hn0, hn1, hs4, hver⟩ := nq hok
 refine dt ?_
 refine sP [1, 2, 4, 5, 6] [2, 4, 6] ?_
 refine ju (d := 6) (t := 26) (D := 900) (G := 2900) (E := 139) (e := 1) (L := (Lw w0.heap.size)) (A := []) (B := [val _]) (es := (s.act).map (aC aS aa)) (by exact rfl) (iC (show 0 < s.act.length by omega)) (by exact rfl) (by exact rfl) rfl (by exact rfl) (fun x hx => hx) (by exact lq) (by exact lq) (by exact ai.nil) (by exact lc) (ai.map fun x => (ai.cons (lcl_own (ai.map fun x => (ai.cons lcl_val (ai.cons (lcl_own (ai.map fun x => (ai.cons lcl_val ai.nil))) (ai.cons lcl_val (ai.cons lcl_val ai.nil)))))) ai.nil)) fun uu900 cp900 jk900 hlD900 hcp900 hjk900 => ?_
 rw [aq] at hlD900 hcp900 hjk900
 refine JO ?_
 refine FP (d := 900) (t := 184) (e := 4) (G := 6000) (f := (cX aa)) (g := (fun v : aU => [val (vI v.Id), sl .v (v.Values.map ak), val (vI v.acI), val (vI v.acE)])) (fN := oV) (xss := s.act) (by exact rfl) (by exact rfl) (fun _ _ => rfl) (fun _ => rfl) (fun _ => (ap (aH (ap (ap am.nil))))) (fun _ => (by exact lq)) fun zss hzss => ?_
 have hzl := Ol hzss
 refine LQ ?_
 refine fh ?_
 refine sS [1, 2, 4, 5, 6, 7, 2900, 6000] [2, 4, 6, 900] ?_
 refine cH ?_
 refine sP [1, 2, 4, 5, 6, 7, 8, 2900, 6000] [2, 4, 6, 900] ?_
 refine sL [1, 2, 4, 5, 6, 2900, 6000] [2, 4, 6] (fun i : Nat => i ≤ zss.length) (fun i : Nat => [(7, RV.int (jd s keep i 0 : Nat)), (8, RV.int (i : Int))]) (fun i : Nat => [(900, (139, bE kL (ii zss keep i) jk900))]) (fun i : Nat => zss.length - i) 0 (by omega) (by exact aI (by exact bh (by rw [Wv]; rfl)) (aI (by exact rfl) tI)) (by exact aI (by exact rfl) tI) ?_
 rintro i hi
 have hfl0 := yh (zss := zss) (keep := keep) (k := i)
 refine eH ?_
 refine ur ?_
 refine Cc ?_
 refine sc (fun hbb => ?_) (fun hbb => ?_)
 try simp only [aq] at hbb
 have hlz : i < zss.length := by omega
 have hls : i < s.act.length := by omega
 have hz2 := Om hzss hlz hls
 have hs4i := hs4 _ (List.getElem_mem hls)
 have hfl : i < (ii zss keep i).length := by rw [yh]; omega
 have hfg := Oi (keep := keep) hlz hfl
 refine cO ?_
 refine sO [(1, _), (2, _), (4, _), (5, _), (6, _), (7, _), (8, _), (2900, _), (6000, _)] [(2, (26, [sl (.lo _) _, val _])), (4, (26, [sl _ _, val _])), (6, (26, [val _, val _])), (900, (139, bE kL _ _))] ?_
 refine bf ?_
 refine sd ?_
 refine aP ?_
 refine sS [1, 2, 4, 5, 6, 7, 8, 9, 2900, 6000] [2, 4, 6, 900] ?_
 refine cH ?_
 refine sP [1, 2, 4, 5, 6, 7, 8, 9, 10, 2900, 6000] [2, 4, 6, 900] ?_
 refine sL [1, 2, 4, 5, 6, 8, 2900, 6000] [2, 4, 6, 900] (fun j : Nat => j ≤ zss[i].length) (fun j : Nat => [(7, RV.int (jd s keep i j : Nat)), (9, RV.slc aS ((iJ keep (zss[i].take j)).map oV)), (10, RV.int (j : Int))]) (fun j : Nat => []) (fun j : Nat => zss[i].length - j) 0 (by omega) (by exact aI (by exact rfl) (aI (by exact rfl) (aI (by exact rfl) tI))) (by exact tI) ?_
 rintro j hj
 have hcd := Ww (keep := keep) (j := j) hls
 refine eH ?_
 refine sh ?_
 refine rM ?_
 refine At ?_
 refine oj ?_
 refine sc (fun hbc => ?_) (fun hbc => ?_)
 try rw [hfg] at hbc
 have hlj : j < zss[i].length := by omega
 have hlj2 : j < s.act[i].length := by omega
 have hz3 := On hzss hlz hls hlj hlj2
 have hfle := Ot (keep := keep) (zs := zss[i]) (j := j)
 have hvz := List.getElem_of_eq hfg (show j < ((ii zss keep i)[i]'hfl).length by rw [hfg]; exact hlj)
 refine cO ?_
 refine Kd ?_
 refine sh ?_
 refine rM ?_
 refine At ?_
 refine rM ?_
 refine rA ?_ (x := aY (by decide) cv (by exact tI) (by exact rfl) (by exact bc (by rw [hfg]; omega) rfl) (by exact rfl))
 refine JF ?_
 refine KP ?_
 refine sO [(1, _), (2, _), (4, _), (5, _), (6, _), (7, _), (8, _), (9, _), (10, _), (11, _), (2900, _), (6000, _)] [(2, _), (4, _), (6, _), (11, (184, [nv _ (val _), nv _ (sl _ _), nv _ (val _), nv _ (val _)])), (900, _)] ?_
 refine bV (d := 11) (by exact rfl) (congrArg oV hvz) ?_
 refine sG [1, 2, 4, 5, 6, 7, 8, 9, 10, 11, 2900, 6000] [2, 4, 6, 11, 900] ?_
 refine rA ?_ (x := lF gG)
 refine rA ?_ (x := eW (qs := [val _]) (by decide) au (fun _ => rfl) (by exact nl rfl) (by exact (am.cons (PV.nv_to (jn _)) am.nil)) (by exact (an.cons (bor_val _) an.nil)))
 refine rA ?_ (x := eG)
 refine eZ ?_
 refine sS [1, 2, 4, 5, 6, 7, 8, 9, 10, 11, 12, 2900, 6000] [2, 4, 6, 11, 900] ?_
 refine cH ?_
 refine sP [1, 2, 4, 5, 6, 7, 8, 9, 10, 11, 12, 13, 2900, 6000] [2, 4, 6, 11, 900] ?_
 refine sL [1, 2, 4, 5, 6, 7, 8, 9, 10, 11, 2900, 6000] [2, 4, 6, 11, 900] (fun m : Nat => m ≤ keep.length) (fun m : Nat => [(12, RV.bool (oS zss[i][j].1 keep m)), (13, RV.int (m : Int))]) (fun m : Nat => []) (fun m : Nat => keep.length - m) 0 (by omega) (by exact aI (by first | exact rfl | exact gZ (by unfold oS; simp; rfl)) (aI (by exact rfl) tI)) (by exact tI) ?_
 rintro m hm
 refine eH ?_
 refine rA ?_ (x := vM false [sl (.lo _) _])
 refine rA ?_ (x := lN bF)
 refine rA ?_ (x := cu)
 refine sc (fun hbd => ?_) (fun hbd => ?_)
 have hlm : m < keep.length := by omega
 refine bB ?_
 refine sO [(1, _), (2, _), (4, _), (5, _), (6, _), (7, _), (8, _), (9, _), (10, _), (11, _), (12, _), (13, _), (2900, _), (6000, _)] [(2, (26, [sl (.lo _) _, val _])), (4, (26, [sl _ _, val _])), (6, (26, [val _, val _])), (11, (184, [nv _ (val _), nv _ (sl _ _), nv _ (val _), nv _ (val _)])), (900, (139, bE kL _ _))] ?_
 refine dw dl ?_
 refine dA 0 ?_ (x := sM)
 refine dA 1 ?_ (x := sM)
 refine dx 56 (fun ga sga => ?_) (fun ga sga => ?_)
 have hg : oS zss[i][j].1 keep m = true := by simpa using ga
 have sga := ga
 try simp only [qq] at sga
 refine dT 3 ga ?_
 refine dT 3 ga ?_
 refine dT 3 ga ?_
 refine dT 27 ga ?_
 refine dT 59 ga ?_
 refine dT 127 ga ?_
 refine dA 255 ?_ (x := aT ga)
 exact HP
 have hg : oS zss[i][j].1 keep m = false := by simpa using ga
 have sga := ga
 try simp only [qq] at sga
 refine dB 3 ga ?_ (x := eW (qs := [nv _ (val _), nv _ (sl .v _), nv _ (val _), nv _ (val _)]) (by decide) en (fun h => nomatch h) (by exact nl rfl) (by exact (ap (ap (ap (ap am.nil))))) (by exact lq))
 refine dB 3 ga ?_ (x := vM false [sl (.lo _) _])
 refine dB 3 ga ?_ (x := sM)
 refine dB 27 ga ?_ (x := aY (by decide) bF (by exact tI) (by exact rfl) (by exact bc (by omega) rfl) (by exact rfl))
 refine dB 59 ga ?_ (x := lE [val _] au)
 refine dB 127 ga ?_ (x := tt (qs := [(true, [nv _ (val _), nv _ (sl _ _), nv _ (val _), nv _ (val _)]), (false, [val _])]) (as_ := [(true, [val _, sl .v _, val _, val _]), (false, [val _])]) (by decide) OD (by exact (aI (by exact tI) (aI (by exact tI) tI))) (by exact (aI (aI rfl (am.cons (PV.nv_to (jn _)) (am.cons (PV.nv_to jt) (am.cons (PV.nv_to (jn _)) (am.cons (PV.nv_to (jn _)) am.nil))))) (aI (aI rfl (ap am.nil)) tI))) (by exact Pg))
 refine dA 255 ?_ (x := aK ga)
 exact HP
 have hme : m = keep.length := by omega
 refine it ?_
 refine sO [(1, _), (2, _), (4, _), (5, _), (6, _), (7, _), (8, _), (9, _), (10, _), (11, _), (12, _), (13, _), (2900, _), (6000, _)] [(2, (26, [sl (.lo _) _, val _])), (4, (26, [sl _ _, val _])), (6, (26, [val _, val _])), (11, (184, [nv _ (val _), nv _ (sl _ _), nv _ (val _), nv _ (val _)])), (900, (139, bE kL _ _))] ?_
 refine oG ?_
 refine sc (fun hbe => ?_) (fun hbe => ?_)
 have hnd : ig s.act[i][j] keep = true := by rw [← hz3, ← Oh, ← hme]; simpa using hbe
 refine sG [1, 2, 4, 5, 6, 7, 8, 9, 10, 11, 12, 13, 2900, 6000] [2, 4, 6, 11, 900] ?_
 refine rA ?_ (x := tM)
 refine Ju ?_
 refine AA ?_
 exact HQ
 have hnd : ig s.act[i][j] keep = false := by rw [← hz3, ← Oh, ← hme]; simpa using hbe
 refine Bw ?_
 exact HQ
 try rw [hfg] at hbc
 refine bG ?_
 refine Kd ?_
 refine sh ?_
 refine rM ?_
 refine rA ?_ (x := tM)
 refine JE ?_
 refine sG [1, 2, 4, 5, 6, 7, 8, 10, 2900, 6000] [2, 4, 6, 900] ?_
 refine cW ?_
 refine nx (i + 1) (by omega) (e := (by exact aI (by exact bh (by rw [show j = s.act[i].length by omega, Wu hls])) (aI (by exact bh (by omega)) tI))) (f := (by exact aI (by rw [show j = zss[i].length by omega, cn, Oj hlz]; exact rfl) tI))
 try simp only [aq] at hbb
 have hend : i = zss.length := by omega
 refine it ?_
 refine sO [(1, _), (2, _), (4, _), (5, _), (6, _), (7, _), (8, _), (2900, _), (6000, _)] [(2, (26, [sl (.lo _) _, val _])), (4, (26, [sl _ _, val _])), (6, (26, [val _, val _])), (900, (139, bE kL _ _))] ?_
 refine FQ (d := 900) (t := 184) (e := 4) (G := 6000) (f := (cX aa)) (g := (fun v : aU => [val (vI v.Id), sl .v (v.Values.map ak), val (vI v.acI), val (vI v.acE)])) (fN := oV) (zss := (ii zss keep i)) (by exact rfl) (by exact rfl) (fun _ _ => rfl) (fun _ => rfl) (fun _ => rfl) (by rw [hend, CT]; exact Ok) ?_
 refine sO [(1, _), (2, _), (4, _), (5, _), (6, _), (7, _), (8, _), (2900, _)] [(2, _), (4, _), (6, _), (900, (139, bE (aC aS aa) _ _))] ?_
 refine Jr ?_
 refine sO [(1, _), (2, _), (4, _), (5, _), (6, _), (7, _), (8, _)] [(2, _), (4, _), (6, (26, [sl _ _, val _]))] ?_
 refine bV (d := 6) (by exact rfl) (show _ = [sl bo ((gJ s keep).act.map (aC aS aa)), val (vI (gJ s keep).Now)] from by first | (rw [hst]; done) | (rw [hst]; exact rfl)) ?_
 refine sO [(1, _), (2, _), (4, _), (5, _), (6, _), (7, _), (8, _)] [(2, _), (4, _), (6, (26, [sl _ _, val _]))] ?_
 refine bf ?_
 refine rA ?_ (x := cz (ms := [sl _ _, val _]) (qs := [sl .v _, val _]) (by decide) dV (fun h => nomatch h) (by exact nl rfl) (by exact rfl) (by exact (aH (ap am.nil))) (by exact (an.cons (bor_sl _) (an.cons (bor_val _) an.nil))))
 refine rM ?_
 refine rA ?_ (x := bg (ag := true) (vs := [sl _ _, val _]) dV (by exact tI) (by exact rfl) (by exact nl rfl))
 refine ew ?_
 exact (bu 4 (bu _ (aI (by exact rfl) (aI (by refine fE ?_; exact rfl) (aI dV (aI (fun h => nomatch h) (aI (by refine bh ?_; unfold yj; rw [if_pos hok, ← hzl, ← hend]) tI)))))))
end Go.Proofs.YtmekkgdboplbjaaGreat
