/- What functions of the program compute. No condition. -/
import Derived.Test.YtmekkgdboplbjaaGreatCS0
import Derived.Test.YtmekkgdboplbjaaGreatCT0
set_option linter.unusedVariables false
set_option linter.unusedSimpArgs false
namespace Go.Proofs.YtmekkgdboplbjaaGreat
open Go Go.RowKit M PV
set_option maxRecDepth 10000
attribute [local irreducible] PV.Lcl PV.LclR RV.Lcl
set_option maxHeartbeats 8000000
theorem S4 : cU Tryz.prog 184 = some [(0, 1), (1, 1), (2, 1), (3, 1)] := by kernel_rfl
theorem S5 : Tryz.prog.underlying 4 = some .bool := by kernel_rfl
theorem S6 {p1 p2 : Fl} {s : Store} {id : Int}  (hb : cc s ≤ 68719476736) : aw Tryz.prog 253 [(true, [sl .v (s.Segments.map (ax p1 p2)), val (vI s.Now)]), (false, [val (vI id)])] (av [(false, [val (vI (bM s id))]), (false, [val (vI (jX s id))])]) := by
 refine sF Tryz.func253 fun h0 w0 Fz0 => ?_
 refine sn 0 0 fun hl0_0 => ?_
 have hbu := hb
 simp only [cc, fa, aV] at hbu
 refine iJ ?_
 refine rK ?_
 refine eS ?_
 refine sT [1, 2, 4, 5] [2] ?_
 refine bw ?_
 refine sP [1, 2, 4, 5, 6] [2] ?_
 refine sL [1, 2] [2] (fun i : Nat => i ≤ s.Segments.length ∧ (s.Segments.take i).any (gl id) = false) (fun i : Nat => [(6, RV.int (i : Int))]) (fun i : Nat => []) (fun i : Nat => s.Segments.length - i) 0 (by exact ⟨by omega, rfl⟩) (by exact aI (by exact rfl) (tI)) (by exact ⟨⟩) ?_
 rintro i ⟨hi, ha⟩
 refine o8 ?_
 refine sc (fun hba => ?_) (fun hba => ?_)
 have hlt : i < s.Segments.length := by omega
 have hwm := cR (f := b3) hlt
 have hws : b3 s.Segments[i] = s.Segments[i].length + (s.Segments[i].map bZ).sum := rfl
 refine aT ?_
 refine sT [1, 2, 6] [2] ?_
 refine bw ?_
 refine sP [1, 2, 6, 7] [2] ?_
 refine sL [1, 2, 6] [2] (fun j : Nat => j ≤ s.Segments[i].length ∧ (s.Segments[i].take j).any (gA id) = false) (fun j : Nat => [(7, RV.int (j : Int))]) (fun j : Nat => []) (fun j : Nat => s.Segments[i].length - j) 0 (by exact ⟨by omega, rfl⟩) (by exact aI (by exact rfl) (tI)) (by exact ⟨⟩) ?_
 rintro j ⟨hj, hc⟩
 refine bu ?_
 refine mh ?_
 refine mY ?_
 refine t7 ?_
 refine sc (fun hbb => ?_) (fun hbb => ?_)
 have hlt2 : j < s.Segments[i].length := by omega
 refine aT ?_
 refine sT [1, 2, 6, 7] [2] ?_
 refine mh ?_
 refine mY ?_
 refine rM ?_
 refine rA ?_ (x := aD (by decide) bT (by exact ⟨⟩) (by exact rfl) (by exact aE (by omega) rfl) (by exact rfl))
 refine Ic ?_
 refine oV ?_
 refine rM ?_
 refine cx 36 (fun ga sga => ?_) (fun ga sga => ?_)
 refine xT ?_
 refine rB ga ?_ (x := sM)
 refine rB ga ?_ (x := aD (by decide) dK (by exact ⟨⟩) (by exact rfl) (by exact aE (by omega) rfl) (by exact rfl))
 refine rB ga ?_ (x := lE [sl .v _] f7)
 refine rB ga ?_ (x := sM)
 refine rB ga ?_ (x := aD (by decide) bT (by exact ⟨⟩) (by exact rfl) (by exact aE (by omega) rfl) (by exact rfl))
 refine rB ga ?_ (x := bl (by decide) gP (by exact nl rfl))
 refine rB ga ?_ (x := lE [val _] aq)
 refine nb ?_
 refine sc (fun hbc => ?_) (fun hbc => ?_)
 have hyy : gA id s.Segments[i][j] = true := by first | (simp_all [gA]; done) | (unfold gA; simp_all)
 have hfa := RO hlt ha hlt2 hc hyy
 refine sS [1, 2, 6, 7] [2] ?_
 refine ku ?_
 refine rS ?_
 refine cK ?_
 exact (aI (by refine bf ?_; rw [hfa.1]) (aI (by refine bf ?_; rw [hfa.2]) tI))
 exact Er
 refine jJ ?_
 exact Er
 have hno1 : gl id s.Segments[i] = false := by unfold gl; rw [show j = s.Segments[i].length by omega, List.take_length] at hc; exact hc
 refine aX ?_
 refine sH [1, 2, 6, 7] [2] ?_
 refine bF ?_
 refine nx (i + 1) (by exact ⟨by omega, pd ha hlt hno1⟩) (e := (by exact aI (by exact bf (by omega)) (tI)))
 have hend : i = s.Segments.length := by omega
 have hfn := RP (s := s) (id := id) (by rw [hend, List.take_length] at ha; exact ha)
 refine aX ?_
 refine sT [1, 2, 6] [2] ?_
 refine rK ?_
 refine bD ?_
 exact (aI (by refine bf ?_; rw [hfn.1]) (aI (by refine bf ?_; rw [hfn.2]) tI))
theorem S7 {p1 p2 : Fl} {s : Store}  (hb : cc s ≤ 68719476736) : aw Tryz.prog 254 [(true, [sl .v (s.Segments.map (ax p1 p2)), val (vI s.Now)])] (av [(false, [val (vI (fy s.Segments))])]) := by
 refine sF Tryz.func254 fun h0 w0 Fz0 => ?_
 refine sn 0 0 fun hl0_0 => ?_
 have hbu := hb
 simp only [cc, fa, aV] at hbu
 refine iJ ?_
 refine ie ?_
 refine oR ?_
 refine sL [1] [1] (fun k : Nat => k ≤ s.Segments.length ∧ (s.Segments.take k).any hI = false) (fun k : Nat => [(3, RV.int (k : Int))]) (fun k : Nat => []) (fun k : Nat => s.Segments.length - k) 0 (by exact ⟨by omega, rfl⟩) (by exact aI (by exact rfl) (tI)) (by exact ⟨⟩) ?_
 rintro k ⟨hk, ha⟩
 refine o8 ?_
 refine sc (fun hba => ?_) (fun hba => ?_)
 have hlt : k < s.Segments.length := by omega
 have hwm := cR (f := b3) hlt
 have hws : b3 s.Segments[k] = s.Segments[k].length + (s.Segments[k].map bZ).sum := rfl
 refine aT ?_
 refine sT [1, 3] [1] ?_
 refine mh ?_
 refine mY ?_
 refine t7 ?_
 refine sc (fun hbb => ?_) (fun hbb => ?_)
 have hy : hI s.Segments[k] = true := by unfold hI; simpa using hbb
 have hra := RQ hlt ha hy
 refine sS [1, 3] [1] ?_
 refine nw ?_
 exact (aI (by refine bf ?_; rw [hra]) tI)
 have hno1 : hI s.Segments[k] = false := by unfold hI; simpa using hbb
 refine oS ?_
 refine bF ?_
 refine nx (k + 1) (by exact ⟨by omega, pd ha hlt hno1⟩)
 have hend : k = s.Segments.length := by omega
 have hrn := RR (by rw [hend, List.take_length] at ha; exact ha)
 refine rg ?_
 refine bD ?_
 exact (aI (by refine bf ?_; rw [hrn]) tI)
theorem LA {p1 p2 : Fl} {s : Store} {u : Update}  (hb : cc s ≤ 68719000000) (hbu0 : mj u ≤ 68719000000) : aw Tryz.prog 184 [(true, [sl .v (s.Segments.map (ax p1 p2)), val (vI s.Now)]), (true, [val (vI u.Kind), val (vI u.Row.Id), sl .v (u.Row.Values.map ai), val (vI u.Field), val (vI u.Value)])] (av [(true, [sl (.own 139 1) ((da s u).1.Segments.map (ax (.own 184 4) (.own 3 1))), val (vI (da s u).1.Now)]), (false, [val (.bool (da s u).2)])]) := by
 refine kX (largs := fun L => [(true, [sl (.lo L) (s.Segments.map (ax (.lo L) (.lo L))), val (vI s.Now)]), (true, [val (vI u.Kind), val (vI u.Row.Id), sl (.lo L) (u.Row.Values.map ai), val (vI u.Field), val (vI u.Value)])]) (rs := [(true, [sl (.own 139 1) ((da s u).1.Segments.map (ax (.own 184 4) (.own 3 1))), val (vI (da s u).1.Now)]), (false, [val (.bool (da s u).2)])]) Tryz.func184 rfl (nl rfl) (fun L => by exact (aI (aI rfl (ah.cons (PV.tob_map (fun _ => nl rfl) (fun _ => (ah.cons (PV.tob_map (fun _ => nl rfl) (fun _ => (ah.cons PV.tob_refl (ah.cons (PV.tob_map (fun _ => nl rfl) (fun _ => (ah.cons PV.tob_refl ah.nil))) (ah.cons PV.tob_refl (ah.cons PV.tob_refl ah.nil)))))) ah.nil))) (ah.cons PV.tob_refl ah.nil))) (aI (aI rfl (ah.cons PV.tob_refl (ah.cons PV.tob_refl (ah.cons (PV.tob_map (fun _ => nl rfl) (fun _ => (ah.cons PV.tob_refl ah.nil))) (ah.cons PV.tob_refl (ah.cons PV.tob_refl ah.nil)))))) tI))) (fun L => by exact lq) ?_
 intro w0 Fz0
 refine sn 0 0 fun hl0_0 => ?_
 refine sn 1 2 fun hl1_2 => ?_
 have hbu := hb
 simp only [cc, fa, aV] at hbu
 have hbv := hbu0
 simp only [mj, fG, cu, aV] at hbv
 have hvl2 := RT s u
 have hul := r5 s u
 refine xI ?_
 refine rX ?_ (x := (db (ag := true) (cs := [val _, val _, sl (.lo _) _, val _, val _]) (by decide) (by exact ⟨⟩)))
 refine xL ?_
 refine sO [(2, _), (3, _), (4, _), (5, _)] [(2, (26, [sl (.lo _) _, val _])), (3, (56, [val _, val _, sl (.lo _) _, val _, val _])), (4, (26, [sl _ _, val _]))] ?_
 refine HQ ?_
 refine lf ?_
 refine dH ?_
 refine sO [(2, _), (3, _), (4, _), (5, _), (6, _)] [(2, _), (3, _), (4, _), (6, (26, [sl _ _, val _]))] ?_
 refine HT ?_
 refine dI ?_
 refine cx 16 (fun ga sga => ?_) (fun ga sga => ?_)
 refine ij ?_
 refine an.cases (s := 21) rfl (fun g2 => ?_) (fun g2 => nomatch g2)
 refine qI ?_
 refine bC ?_
 exact w9
 refine rB ga ?_ (x := lD [val _, val _, sl (.lo _) _, val _, val _] nF)
 refine rB ga ?_ (x := cL [(true, [val _, val _, sl (.lo _) _, val _, val _])] [(true, [val _, val _, sl .v _, val _, val _])] NZ (hs := by exact Qn))
 refine rB ga ?_ (x := nT)
 refine gJ ?_
 refine cx 21 (fun gb sgb => ?_) (fun gb sgb => ?_)
 refine oQ ?_
 refine bC ?_
 exact w9
 refine rB gb ?_ (x := lF fc)
 refine rB gb ?_ (x := lD [val _] aq)
 refine rB gb ?_ (x := gH)
 refine rA ?_ (x := ay gb)
 refine sc (fun hba => ?_) (fun hba => ?_)
 exact w9
 have hos : bA s = true := by simp_all
 have hou : fH u = true := by simp_all
 obtain ⟨hs8, hs1, hn0, hn1, hs4, hver⟩ := jj hos
 have hnw : s.Now < 100000 := by first | omega | (simp_all; omega)
 refine aN ?_
 refine sS [2, 3, 4, 5, 6] [2, 3, 4, 6] ?_
 refine rA ?_ (x := lD [sl (.lo _) _, val _] cq)
 refine yn ?_
 refine rA ?_ (x := lD [val _] aq)
 refine rA ?_ (x := cL [(true, [sl (.lo _) _, val _]), (false, [val _])] [(true, [sl .v _, val _]), (false, [val _])] PJ (hs := by exact (S6 (by omega))))
 refine rA ?_ (x := tM)
 refine rA ?_ (x := gF (cs := [val _]) (by decide) (by exact rfl) (by exact (ae.cons (bor_val _) ae.nil)))
 refine rA ?_ (x := gF (cs := [val _]) (by decide) (by exact rfl) (by exact (ae.cons (bor_val _) ae.nil)))
 refine rS ?_
 refine rS ?_
 refine sS [2, 3, 4, 5, 6, 7, 8] [2, 3, 4, 6] ?_
 refine rA ?_ (x := lD [sl (.lo _) _, val _] cq)
 refine rA ?_ (x := cL [(true, [sl (.lo _) _, val _])] [(true, [sl .v _, val _])] PK (hs := by exact (S7 (by omega))))
 refine ig ?_
 refine sS [2, 3, 4, 5, 6, 7, 8, 9] [2, 3, 4, 6] ?_
 refine rA ?_ (x := lF rC)
 refine nu ?_
 refine rA ?_ (x := cb)
 refine rA ?_ (x := MM (by decide) S5 (by exact ⟨⟩) (by exact ⟨⟩))
 refine rM ?_
 refine cx 43 (fun gc sgc => ?_) (fun gc sgc => ?_)
 refine jF ?_
 refine bC ?_
 exact Et
 refine rB gc ?_ (x := lF rC)
 refine rB gc ?_ (x := lD [val _] aq)
 refine yv ?_
 refine cx 47 (fun gd sgd => ?_) (fun gd sgd => ?_)
 refine rB gd ?_ (x := sM)
 refine rB gd ?_ (x := cb)
 refine yp ?_
 refine sc (fun hbb => ?_) (fun hbb => ?_)
 exact Et
 have hkr : (0 ≤ bM s u.Row.Id ↔ ¬ u.Kind = 1) ∧ (u.Kind = 2 ∨ 0 ≤ fy s.Segments) := by by_cases h1 : 0 ≤ bM s u.Row.Id <;> by_cases h2 : u.Kind = 1 <;> by_cases h3 : u.Kind = 2 <;> by_cases h4 : 0 ≤ fy s.Segments <;> by_cases h6 : bM s u.Row.Id < 0 <;> (first | omega | (simp_all; done) | (simp_all; omega))
 obtain ⟨hkd, hrr⟩ := hkr
 have hok := K0 hos hou hnw hkd hrr
 refine aN ?_
 refine sS [2, 3, 4, 5, 6, 7, 8, 9] [2, 3, 4, 6] ?_
 refine rA ?_ (x := lF fc)
 refine ma ?_
 refine rA ?_ (x := lF fc)
 refine kh ?_
 refine HA ?_
 refine dA 0 ?_ (x := lF mo)
 refine dA 1 ?_ (x := lF je)
 refine Hl ?_
 refine dA 0 ?_ (x := lF mo)
 refine dA 16 ?_ (x := lF ip)
 refine Fm ?_
 refine dA 0 ?_ (x := lF fc)
 refine dA 256 ?_ (x := lD [val _] aq)
 refine Hv ?_
 refine tE ?_
 refine iL ?_
 refine rA ?_ (x := gH)
 refine sc (fun hbc => ?_) (fun hbc => ?_)
 have hge : 0 ≤ bM s u.Row.Id := by omega
 obtain ⟨i, k, hi, hk, hfi, hfk, hal⟩ := mC hge
 obtain ⟨hu1, hu2⟩ := kL hi hk hfi hfk
 have hwm := cR (f := b3) hi
 have hws : b3 s.Segments[i] = s.Segments[i].length + (s.Segments[i].map bZ).sum := rfl
 have hwm2 := cR (f := bZ) hk
 have hwv : bZ s.Segments[i][k] = s.Segments[i][k].Values.length := by simp only [bZ, cu, aV]; omega
 refine GZ ?_
 refine mh ?_
 refine Hr ?_
 refine rM ?_
 refine GY ?_
 refine tj ?_
 refine rA ?_ (x := lF jd)
 refine Ga ?_
 refine jz (d := 6) (t := 26) (D := 920) (G := 2920) (E := 139) (e := 1) (L := (Lw w0.heap.size)) (A := []) (B := [val _]) (es := (s.Segments).map (ax (.own 184 4) (.own 3 1))) (by exact rfl) (hZ hi) (by exact rfl) (by exact rfl) rfl (by exact rfl) (fun x hx => hx) (by exact lq) (by exact lq) (by exact ak.nil) (by exact lc) (ak.map fun x => (ak.cons (lcl_own (ak.map fun x => (ak.cons lcl_val (ak.cons (lcl_own (ak.map fun x => (ak.cons lcl_val ak.nil))) (ak.cons lcl_val (ak.cons lcl_val ak.nil)))))) ak.nil)) fun uu920 cp920 jk920 hlD920 hcp920 hjk920 => ?_
 rw [List.length_map] at hlD920 hcp920 hjk920
 refine cD (d := 920) (by exact rfl) (hY (k := i) hi) ?_
 have hA920 := ia (f := (ax (.own 184 4) (.own 3 1))) (e := 1) (xs := s.Segments) (k := i) (fun _ => rfl) (Nat.le_of_lt hi)
 refine sO [(2, _), (3, _), (4, _), (5, _), (6, _), (7, _), (8, _), (9, _), (10, _), (2920, _)] [(2, _), (3, _), (4, _), (6, (26, [val _, val _])), (10, _), (920, (139, _ ++ ([sl _ _] ++ _)))] ?_
 refine jz (d := 920) (t := 139) (D := 921) (G := 2921) (E := 184) (e := 4) (L := (Lw w0.heap.size)) (A := _) (B := [] ++ _) (es := (s.Segments[i]).map (dO (.own 3 1))) (by exact rfl) (hZ hk) (by exact rfl) (by exact rfl) rfl (by exact rfl) (fun x hx => hx) (by exact lq) (by exact lq) (by exact lc) (by exact lc) (ak.map fun x => (ak.cons lcl_val (ak.cons (lcl_own (ak.map fun x => (ak.cons lcl_val ak.nil))) (ak.cons lcl_val (ak.cons lcl_val ak.nil))))) fun uu921 cp921 jk921 hlD921 hcp921 hjk921 => ?_
 rw [List.length_map] at hlD921 hcp921 hjk921
 refine cD (d := 921) (by exact rfl) (hY (k := k) hk) ?_
 have hA921 := ia (f := (dO (.own 3 1))) (e := 4) (xs := s.Segments[i]) (k := k) (fun _ => rfl) (Nat.le_of_lt hk)
 refine Gf ?_
 refine ye ?_
 refine dA 0 ?_ (x := sM)
 refine FO ?_
 refine dA 0 ?_ (x := sM)
 refine dA 0 ?_ (x := lF fc)
 refine GX ?_
 refine Hj ?_
 refine Ft ?_
 refine Fk ?_
 refine Ht ?_
 exact Ey
 have hge : ¬ 0 ≤ bM s u.Row.Id := by omega
 obtain ⟨hu1, hu2⟩ := mD hge
 refine dE ?_
 refine tV ?_
 exact Ey
 refine zf gd ?_
 refine yq ?_
 refine dk ?_
 have hkr : (0 ≤ bM s u.Row.Id ↔ ¬ u.Kind = 1) ∧ (u.Kind = 2 ∨ 0 ≤ fy s.Segments) := by by_cases h1 : 0 ≤ bM s u.Row.Id <;> by_cases h2 : u.Kind = 1 <;> by_cases h3 : u.Kind = 2 <;> by_cases h4 : 0 ≤ fy s.Segments <;> by_cases h6 : bM s u.Row.Id < 0 <;> (first | omega | (simp_all; done) | (simp_all; omega))
 obtain ⟨hkd, hrr⟩ := hkr
 have hok := K0 hos hou hnw hkd hrr
 refine aN ?_
 refine sS [2, 3, 4, 5, 6, 7, 8, 9] [2, 3, 4, 6] ?_
 refine rA ?_ (x := lF fc)
 refine ma ?_
 refine rA ?_ (x := lF fc)
 refine kh ?_
 refine HA ?_
 refine dA 0 ?_ (x := lF mo)
 refine dA 1 ?_ (x := lF je)
 refine Hl ?_
 refine dA 0 ?_ (x := lF mo)
 refine dA 16 ?_ (x := lF ip)
 refine Fm ?_
 refine dA 0 ?_ (x := lF fc)
 refine dA 256 ?_ (x := lD [val _] aq)
 refine Hv ?_
 refine tE ?_
 refine iL ?_
 refine rA ?_ (x := gH)
 refine sc (fun hbb => ?_) (fun hbb => ?_)
 have hge : 0 ≤ bM s u.Row.Id := by omega
 obtain ⟨i, k, hi, hk, hfi, hfk, hal⟩ := mC hge
 obtain ⟨hu1, hu2⟩ := kL hi hk hfi hfk
 have hwm := cR (f := b3) hi
 have hws : b3 s.Segments[i] = s.Segments[i].length + (s.Segments[i].map bZ).sum := rfl
 have hwm2 := cR (f := bZ) hk
 have hwv : bZ s.Segments[i][k] = s.Segments[i][k].Values.length := by simp only [bZ, cu, aV]; omega
 refine GZ ?_
 refine mh ?_
 refine Hr ?_
 refine rM ?_
 refine GY ?_
 refine tj ?_
 refine rA ?_ (x := lF jd)
 refine Ga ?_
 refine jz (d := 6) (t := 26) (D := 920) (G := 2920) (E := 139) (e := 1) (L := (Lw w0.heap.size)) (A := []) (B := [val _]) (es := (s.Segments).map (ax (.own 184 4) (.own 3 1))) (by exact rfl) (hZ hi) (by exact rfl) (by exact rfl) rfl (by exact rfl) (fun x hx => hx) (by exact lq) (by exact lq) (by exact ak.nil) (by exact lc) (ak.map fun x => (ak.cons (lcl_own (ak.map fun x => (ak.cons lcl_val (ak.cons (lcl_own (ak.map fun x => (ak.cons lcl_val ak.nil))) (ak.cons lcl_val (ak.cons lcl_val ak.nil)))))) ak.nil)) fun uu920 cp920 jk920 hlD920 hcp920 hjk920 => ?_
 rw [List.length_map] at hlD920 hcp920 hjk920
 refine cD (d := 920) (by exact rfl) (hY (k := i) hi) ?_
 have hA920 := ia (f := (ax (.own 184 4) (.own 3 1))) (e := 1) (xs := s.Segments) (k := i) (fun _ => rfl) (Nat.le_of_lt hi)
 refine sO [(2, _), (3, _), (4, _), (5, _), (6, _), (7, _), (8, _), (9, _), (10, _), (2920, _)] [(2, _), (3, _), (4, _), (6, (26, [val _, val _])), (10, _), (920, (139, _ ++ ([sl _ _] ++ _)))] ?_
 refine jz (d := 920) (t := 139) (D := 921) (G := 2921) (E := 184) (e := 4) (L := (Lw w0.heap.size)) (A := _) (B := [] ++ _) (es := (s.Segments[i]).map (dO (.own 3 1))) (by exact rfl) (hZ hk) (by exact rfl) (by exact rfl) rfl (by exact rfl) (fun x hx => hx) (by exact lq) (by exact lq) (by exact lc) (by exact lc) (ak.map fun x => (ak.cons lcl_val (ak.cons (lcl_own (ak.map fun x => (ak.cons lcl_val ak.nil))) (ak.cons lcl_val (ak.cons lcl_val ak.nil))))) fun uu921 cp921 jk921 hlD921 hcp921 hjk921 => ?_
 rw [List.length_map] at hlD921 hcp921 hjk921
 refine cD (d := 921) (by exact rfl) (hY (k := k) hk) ?_
 have hA921 := ia (f := (dO (.own 3 1))) (e := 4) (xs := s.Segments[i]) (k := k) (fun _ => rfl) (Nat.le_of_lt hk)
 refine Gf ?_
 refine ye ?_
 refine dA 0 ?_ (x := sM)
 refine FO ?_
 refine dA 0 ?_ (x := sM)
 refine dA 0 ?_ (x := lF fc)
 refine GX ?_
 refine Hj ?_
 refine Ft ?_
 refine Fk ?_
 refine Ht ?_
 exact EA
 have hge : ¬ 0 ≤ bM s u.Row.Id := by omega
 obtain ⟨hu1, hu2⟩ := mD hge
 refine dE ?_
 refine tV ?_
 exact EA
end Go.Proofs.YtmekkgdboplbjaaGreat
