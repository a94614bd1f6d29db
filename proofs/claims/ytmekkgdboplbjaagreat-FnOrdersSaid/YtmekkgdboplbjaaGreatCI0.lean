/- What functions of the program compute. No condition. -/
import Derived.Test.YtmekkgdboplbjaaGreatCG0
set_option linter.unusedVariables false
set_option linter.unusedSimpArgs false
namespace Go.Proofs.YtmekkgdboplbjaaGreat
open Go Go.RowKit M PV
set_option maxRecDepth 10000
attribute [local irreducible] PV.Lcl PV.LclR RV.Lcl
theorem Kj : cU Tryz.prog 54 = some [(0, 1), (1, 1)] := by kernel_rfl
theorem zq {v : aF} {t : Int}  : aw Tryz.prog 229 [(true, [val (vI v.Id), sl .v (v.Values.map ai), val (vI v.Born), val (vI v.Died)]), (false, [val (vI t)])] (av [(false, [val (.bool (de v t))])]) := by
 refine sF Tryz.func229 fun h0 w0 Fz0 => ?_
 exact Cj
theorem Kk {v : aF} {t : Int}  : aw Tryz.prog 196 [(true, [val (vI v.Id), sl .v (v.Values.map ai), val (vI v.Born), val (vI v.Died)]), (false, [val (vI t)])] (av [(false, [val (.bool (de v t))])]) := by
 refine sF Tryz.func196 fun h0 w0 Fz0 => ?_
 exact Cj
theorem Qo {v : aF}  (hb : bZ v ≤ 68719476736) : aw Tryz.prog 171 [(true, [val (vI v.Id), sl .v (v.Values.map ai), val (vI v.Born), val (vI v.Died)])] (av [(true, [val (vI (dr v).Id), sl (.own 3 1) ((dr v).Values.map ai)])]) := by
 refine sF Tryz.func171 fun h0 w0 Fz0 => ?_
 refine sn 0 1 fun hl0_1 => ?_
 have hbu := hb
 simp only [bZ, cu, aV] at hbu
 refine qD ?_
 refine yg ?_
 refine dA 0 ?_ (x := lF lx)
 refine dA 1 ?_ (x := lD [val _] aq)
 refine dA 0 ?_ (x := lF jd)
 refine Hy ?_
 refine dA 31 ?_ (x := cv (qs := [(false, [val _]), (false, [sl _ _])]) (cs := [val _, sl _ _]) (by decide) ff iQ Kj (by exact rfl) (by exact (aI (by exact ⟨⟩) (aI (by exact ⟨⟩) tI))) rfl (by exact rfl))
 exact B8
theorem Qp {v : aF} {w : aF}  : aw Tryz.prog 198 [(true, [val (vI v.Id), sl .v (v.Values.map ai), val (vI v.Born), val (vI v.Died)]), (true, [val (vI w.Id), sl .v (w.Values.map ai), val (vI w.Born), val (vI w.Died)])] (av [(false, [val (.bool (nK v w))])]) := by
 refine sF Tryz.func198 fun h0 w0 Fz0 => ?_
 refine sn 0 1 fun hl0_1 => ?_
 refine sn 1 1 fun hl1_1 => ?_
 refine H3 ?_
 refine un ?_
 refine rA ?_ (x := lD [val _, sl .v _, val _, val _] d2)
 refine rA ?_ (x := lF im)
 refine rA ?_ (x := lD [val _] aq)
 refine rA ?_ (x := cL [(true, [val _, sl _ _, val _, val _]), (false, [val _])] [(true, [val _, sl .v _, val _, val _]), (false, [val _])] zd (hs := by exact zq))
 refine rM ?_
 refine cx 9 (fun ga sga => ?_) (fun ga sga => ?_)
 refine tt ?_
 exact Ck
 refine rB ga ?_ (x := lD [val _, sl .v _, val _, val _] d2)
 refine rB ga ?_ (x := lF im)
 refine rB ga ?_ (x := lD [val _] aq)
 refine rB ga ?_ (x := cL [(true, [val _, sl _ _, val _, val _]), (false, [val _])] [(true, [val _, sl .v _, val _, val _]), (false, [val _])] zd (hs := by exact zq))
 refine rA ?_ (x := ay ga)
 exact Ck
theorem Qq {a : aF} {b : aF}  : aw Tryz.prog 162 [(true, [val (vI a.Id), sl .v (a.Values.map ai), val (vI a.Born), val (vI a.Died)]), (true, [val (vI b.Id), sl .v (b.Values.map ai), val (vI b.Born), val (vI b.Died)])] (av [(false, [val (.bool (dq a b))])]) := by
 refine sF Tryz.func162 fun h0 w0 Fz0 => ?_
 refine sn 0 1 fun hl0_1 => ?_
 refine sn 1 1 fun hl1_1 => ?_
 refine H3 ?_
 refine un ?_
 refine qQ ?_
 refine qQ ?_
 refine rA ?_ (x := co)
 refine rM ?_
 refine cx 10 (fun ga sga => ?_) (fun ga sga => ?_)
 refine ij ?_
 refine an.cases (s := 22) rfl (fun g2 => ?_) (fun g2 => nomatch g2)
 refine qI ?_
 exact ow
 refine rB ga ?_ (x := lF gP)
 refine rB ga ?_ (x := lD [val _] aq)
 refine rB ga ?_ (x := co)
 refine rB ga ?_ (x := sM)
 refine cx 14 (fun gb sgb => ?_) (fun gb sgb => ?_)
 refine x6 ?_
 refine rB gb ?_ (x := lF im)
 refine yi ?_
 refine rB ga ?_ (x := aA gb)
 refine gJ ?_
 refine cx 22 (fun gc sgc => ?_) (fun gc sgc => ?_)
 refine jF ?_
 exact ow
 refine tX ?_
 refine yv ?_
 refine cx 26 (fun gd sgd => ?_) (fun gd sgd => ?_)
 refine rB gd ?_ (x := lF gP)
 refine rB gd ?_ (x := lD [val _] aq)
 refine rB gd ?_ (x := lF im)
 refine rB gd ?_ (x := lD [val _] aq)
 refine rB gd ?_ (x := eR)
 refine yp ?_
 exact ow
 refine zf gd ?_
 refine yq ?_
 exact ow
 refine zf gb ?_
 refine rB ga ?_ (x := ay gb)
 refine gJ ?_
 refine an.cases (s := 22) rfl (fun g6 => nomatch g6) (fun g6 => ?_)
 refine rB g6 ?_ (x := lF gP)
 refine rB g6 ?_ (x := lD [val _] aq)
 refine rB g6 ?_ (x := co)
 refine rB g6 ?_ (x := sM)
 refine cx 26 (fun gc sgc => ?_) (fun gc sgc => ?_)
 refine tX ?_
 refine rB gc ?_ (x := lF im)
 refine rB gc ?_ (x := lD [val _] aq)
 refine rB gc ?_ (x := eR)
 refine rB g6 ?_ (x := aA gc)
 refine rA ?_ (x := ay g6)
 exact ow
 refine zf gc ?_
 refine rB g6 ?_ (x := ay gc)
 refine rA ?_ (x := ay g6)
 exact ow
theorem Qr {v : aF} {now : Int}  (hn : now ≤ 100000) : aw Tryz.prog 161 [(true, [val (vI v.Id), sl .v (v.Values.map ai), val (vI v.Born), val (vI v.Died)]), (false, [val (vI now)])] (av [(false, [val (.bool (ck now v))])]) := by
 refine sF Tryz.func161 fun h0 w0 Fz0 => ?_
 refine sn 0 1 fun hl0_1 => ?_
 refine qD ?_
 refine rK ?_
 refine sT [1, 2, 4] [2] ?_
 refine qQ ?_
 refine rA ?_ (x := lF jd)
 refine rA ?_ (x := lD [sl .v _] aZ)
 refine rA ?_ (x := cv (qs := [(false, [val _]), (false, [sl _ _])]) (cs := [val _, sl _ _]) (by decide) ff iQ Kj (by exact rfl) (by exact (aI (by exact ⟨⟩) (aI (by exact ⟨⟩) tI))) rfl (by exact rfl))
 refine rA ?_ (x := cL [(true, [val _, sl _ _])] [(true, [val _, sl .v _])] uB (hs := by exact (u6 (x := ⟨v.Id, v.Values⟩))))
 refine rM ?_
 refine cx 11 (fun ga sga => ?_) (fun ga sga => ?_)
 refine rB ga ?_ (x := lF im)
 refine rB ga ?_ (x := lD [val _] aq)
 refine rB ga ?_ (x := sM)
 refine tw ?_
 refine rM ?_
 refine cx 17 (fun gb sgb => ?_) (fun gb sgb => ?_)
 refine x6 ?_
 refine rB gb ?_ (x := dY)
 refine rB gb ?_ (x := sM)
 refine cx 21 (fun gc sgc => ?_) (fun gc sgc => ?_)
 refine zt gc ?_
 refine rB gb ?_ (x := aA gc)
 refine rA ?_ (x := aA gb)
 exact s7
 refine tX ?_
 refine rB gc ?_ (x := lF im)
 refine rB gc ?_ (x := lD [val _] aq)
 refine rB gc ?_ (x := vS (by decide) (by exact ⟨⟩) (aY rfl) (by simp only [aB, Bool.and_eq_true, decide_eq_true_eq] at *; unfold kb; omega))
 refine rB gc ?_ (x := sM)
 refine rB gc ?_ (x := cL [(false, [val _]), (false, [val _]), (false, [val _])] [(false, [val _]), (false, [val _]), (false, [val _])] eT (hs := by exact eZ))
 refine rB gb ?_ (x := ay gc)
 refine rA ?_ (x := aA gb)
 exact s7
 refine nd ?_
 exact s7
 refine ii ?_
 refine an.cases (s := 17) rfl (fun g4 => nomatch g4) (fun g4 => ?_)
 refine zf g4 ?_
 refine rA ?_ (x := ay g4)
 exact s7
theorem Qs {p1 p2 : Fl} {s : Store}  (hb : cc s ≤ 68719476736) : aw Tryz.prog 94 [(true, [sl .v (s.Segments.map (ax p1 p2)), val (vI s.Now)])] (av [(false, [sl (.own 184 4) ((aS s).map (dO .v))])]) := by
 refine sF Tryz.func94 fun h0 w0 Fz0 => ?_
 refine sn 0 0 fun hl0_0 => ?_
 refine iJ ?_
 refine rA ?_ (x := fj (.inr rfl) (by decide) (fR (t := 184) (e := 4)))
 refine sT [1, 2] [1] ?_
 refine mZ ?_
 refine aJ ?_
 refine sS [1, 2, 3] [1] ?_
 refine bw ?_
 refine sP [1, 2, 3, 4] [1] ?_
 refine sL [1, 2] [1] (fun k : Nat => k ≤ s.Segments.length) (fun k : Nat => [(3, RV.slc (.own 184 4) ((cl s k).map (dO .v))), (4, RV.int (k : Int))]) (fun k : Nat => []) (fun k : Nat => s.Segments.length - k) 0 (by omega) (by exact aI (by exact rfl) (aI (by exact rfl) (tI))) (by exact ⟨⟩) ?_
 rintro k hk
 refine o8 ?_
 refine sc (fun hba => ?_) (fun hba => ?_)
 have hlt : k < s.Segments.length := by omega
 have hal := mq s
 have hsp := congrArg List.length (uJ hlt)
 simp only [List.length_append] at hsp
 refine aT ?_
 refine sH [1, 2, 3, 4] [1] ?_
 refine rA ?_ (x := tM)
 refine mh ?_
 refine rA ?_ (x := aD (by decide) dK (by exact ⟨⟩) (by exact rfl) (by exact aE (by omega) rfl) (by exact rfl))
 refine rA ?_ (x := kc (qs := [sl .v _]) (by decide) f7 (fun _ => rfl) (by exact nl rfl) (by exact (ab.cons (PV.to_map (fun _ => (ab.cons (PV.To.refl _) (ab.cons (PV.to_map (fun _ => (ab.cons (PV.To.refl _) ab.nil))) (ab.cons (PV.To.refl _) (ab.cons (PV.To.refl _) ab.nil)))))) ab.nil)) (by exact (ae.cons (bor_sl _) ae.nil)))
 refine rA ?_ (x := gp (by decide) bT eV rfl rfl (by decide) (by first | (intro cs hcs; obtain ⟨x, _, rfl⟩ := List.mem_map.1 hcs; exact rfl) | simp) (by first | (intro cs hcs; obtain ⟨x, _, rfl⟩ := List.mem_map.1 hcs; exact (by exact lq)) | simp) (by simp only [List.length_map, List.length_append, List.length_cons, List.length_nil]; omega) (by simp only [List.length_map, List.length_append, List.length_cons, List.length_nil]; omega))
 refine rA ?_ (x := tA)
 refine sG [1, 2, 3, 4] [1] ?_
 refine bF ?_
 refine nx (k + 1) (by omega) (e := (by exact aI (by exact bg (by rw [rG hlt, List.map_append]; rfl)) (aI (by exact rfl) (tI))))
 have hend : k = s.Segments.length := by omega
 refine aX ?_
 refine sT [1, 2, 3, 4] [1] ?_
 refine jG ?_
 exact (aI (by refine bg ?_; rw [hend, yS]) tI)
theorem zu {p1 p2 : Fl} {s : Store}  (hb : cc s ≤ 68719476736) : aw Tryz.prog 64 [(true, [sl .v (s.Segments.map (ax p1 p2)), val (vI s.Now)])] (av [(false, [val (.bool (bA s))])]) := by
 refine sF Tryz.func64 fun h0 w0 Fz0 => ?_
 refine sn 0 0 fun hl0_0 => ?_
 refine iJ ?_
 refine ie ?_
 refine i5 ?_
 refine rA ?_ (x := cL [(false, [val _]), (false, [val _]), (false, [val _])] [(false, [val _]), (false, [val _]), (false, [val _])] eT (hs := by exact eZ))
 refine dI ?_
 refine cx 12 (fun ga sga => ?_) (fun ga sga => ?_)
 exact Cl
 refine qN ?_
 refine qA ?_
 refine rA ?_ (x := ay ga)
 refine sc (fun hba => ?_) (fun hba => ?_)
 exact wL
 have hpr : jS s = true := by simp_all [jS]
 have hnow : 0 ≤ s.Now ∧ s.Now ≤ 100000 := by have h_ := hpr; simp [jS, aB] at h_; omega
 refine nq ?_
 refine oR ?_
 refine sL [1] [1] (fun k : Nat => k ≤ s.Segments.length ∧ (s.Segments.take k).all iu = true) (fun k : Nat => [(3, RV.int (k : Int))]) (fun k : Nat => []) (fun k : Nat => s.Segments.length - k) 0 (by exact ⟨by omega, by simp⟩) (by exact aI (by exact rfl) (tI)) (by exact ⟨⟩) ?_
 rintro k ⟨hk, ha⟩
 refine o8 ?_
 refine sc (fun hbb => ?_) (fun hbb => ?_)
 have hlt : k < s.Segments.length := by omega
 refine aT ?_
 refine sT [1, 3] [1] ?_
 refine mh ?_
 refine mY ?_
 refine rA ?_ (x := lN bT)
 refine rA ?_ (x := dD)
 refine sc (fun hbc => ?_) (fun hbc => ?_)
 have hbad : bA s = false := IN hlt (by omega)
 refine sS [1, 3] [1] ?_
 exact jC
 have hyes : iu s.Segments[k] = true := by simp [iu]; omega
 refine oS ?_
 exact mR
 have hsm : s.Segments.all iu = true := ik (by rw [show s.Segments.length = k by omega]; exact ha)
 have hal := mq s
 refine rg ?_
 refine Hq ?_
 refine i6 ?_
 refine sS [1, 3, 4] [1] ?_
 refine bw ?_
 refine sP [1, 3, 4, 5] [1] ?_
 refine sL [1, 3, 4] [1] (fun i : Nat => i ≤ (aS s).length ∧ ji s.Now (aS s) i = true) (fun i : Nat => [(5, RV.int (i : Int))]) (fun i : Nat => []) (fun i : Nat => (aS s).length - i) 0 (by exact ⟨by omega, rfl⟩) (by exact aI (by exact rfl) (tI)) (by exact ⟨⟩) ?_
 rintro i ⟨hi, hg⟩
 refine bu ?_
 refine uu ?_
 refine sc (fun hbc => ?_) (fun hbc => ?_)
 have hlt2 : i < (aS s).length := by omega
 refine aT ?_
 refine dH ?_
 refine sQ [1, 3, 4, 5] [1] ?_
 refine md ?_
 refine GH ?_
 refine dA 0 ?_ (x := lF fc)
 refine dA 16 ?_ (x := lD [val _] aq)
 refine dA 63 ?_ (x := cL [(true, [val _, sl _ _, val _, val _]), (false, [val _])] [(true, [val _, sl .v _, val _, val _]), (false, [val _])] Pa (hs := by exact (Qr (by omega))))
 refine dA 127 ?_ (x := nT)
 refine sc (fun hbd => ?_) (fun hbd => ?_)
 have hvo : ck s.Now ((aS s).getD i v0) = false := by simp_all
 have hbad := uI hlt2 (IL hvo)
 refine sS [1, 3, 4, 5] [1] ?_
 exact jC
 have hvo : ck s.Now ((aS s).getD i v0) = true := by simp_all
 refine aN ?_
 refine sS [1, 3, 4, 5] [1] ?_
 refine bw ?_
 refine sP [1, 3, 4, 5, 6] [1] ?_
 refine sL [1, 3, 4, 5] [1] (fun m : Nat => m ≤ i ∧ ek (aS s) i m = true) (fun m : Nat => [(6, RV.int (m : Int))]) (fun m : Nat => []) (fun m : Nat => i - m) 0 (by exact ⟨by omega, rfl⟩) (by exact aI (by exact rfl) (tI)) (by exact ⟨⟩) ?_
 rintro m ⟨hm, hfr⟩
 refine bu ?_
 refine rM ?_
 refine rA ?_ (x := cb)
 refine sc (fun hbe => ?_) (fun hbe => ?_)
 have hlt3 : m < i := by omega
 have hlt4 : m < (aS s).length := by omega
 refine cE ?_
 refine sQ [1, 3, 4, 5, 6] [1] ?_
 refine md ?_
 refine GH ?_
 refine dG ?_
 refine dA 48 ?_ (x := aD (k := m) (by decide) bT (by exact ⟨⟩) (by rfl) (by exact aE hlt4 (by rw [cX (d := v0) hlt4])) (by exact rfl))
 refine dA 112 ?_ (x := lE [val _, sl .v _, val _, val _] d2)
 refine dA 255 ?_ (x := cL [(true, [val _, sl _ _, val _, val _]), (true, [val _, sl _ _, val _, val _])] [(true, [val _, sl .v _, val _, val _]), (true, [val _, sl .v _, val _, val _])] Pb (hs := by exact Qq))
 refine dA 511 ?_ (x := nT)
 refine sc (fun hbf => ?_) (fun hbf => ?_)
 have hap : dq ((aS s).getD i v0) ((aS s).getD m v0) = false := by simp_all
 have hbad := uI hlt2 (IM hlt3 hap)
 refine sS [1, 3, 4, 5, 6] [1] ?_
 exact jC
 have hap : dq ((aS s).getD i v0) ((aS s).getD m v0) = true := by simp_all
 refine aN ?_
 refine sG [1, 3, 4, 5, 6] [1] ?_
 refine bF ?_
 exact Cm
 have hend2 : m = i := by omega
 refine aX ?_
 refine sH [1, 3, 4, 5, 6] [1] ?_
 refine bF ?_
 refine nx (i + 1) (by refine ⟨by omega, ?_⟩; rw [IK, hg, Bool.true_and]; unfold jh; rw [hvo, Bool.true_and, ← hend2]; rw [hend2] at hfr ⊢; exact hfr)
 have hend1 : i = (aS s).length := by omega
 rw [hend1] at hg
 refine aX ?_
 refine sT [1, 3, 4, 5] [1] ?_
 refine bD ?_
 exact rb (by unfold bA; rw [hpr, hsm, hg]; rfl)
theorem Kl {p1 p2 : Fl} {s : Store}  (hb : cc s ≤ 68719476736) : aw Tryz.prog 97 [(true, [sl .v (s.Segments.map (ax p1 p2)), val (vI s.Now)])] (av [(false, [val (.bool (bA s))])]) := by
 refine sF Tryz.func97 fun h0 w0 Fz0 => ?_
 refine sn 0 0 fun hl0_0 => ?_
 have hbu := hb
 simp only [cc, fa, aV] at hbu
 refine iJ ?_
 refine ie ?_
 refine i5 ?_
 refine Hc ?_
 refine cx 15 (fun ga sga => ?_) (fun ga sga => ?_)
 exact Cl
 refine qN ?_
 refine qz ?_
 refine rA ?_ (x := ay ga)
 refine sc (fun hba => ?_) (fun hba => ?_)
 exact wL
 have hpr : jS s = true := by simp_all [jS]
 have hnow : 0 ≤ s.Now ∧ s.Now ≤ 100000 := by have h_ := hpr; simp [jS, aB] at h_; omega
 have hal := mq s
 refine aN ?_
 refine sS [1, 2] [1] ?_
 refine mZ ?_
 refine aJ ?_
 refine sS [1, 2, 3] [1] ?_
 refine i5 ?_
 refine cj ?_
 refine sP [1, 2, 3, 23, 24, 25] [1] ?_
 refine sL [1, 23, 24] [1] (fun k : Nat => k ≤ s.Segments.length ∧ ((s.Segments.take k).all iu = true ∧ ji s.Now (aS s) (cl s k).length = true)) (fun k : Nat => [(3, RV.slc (.own 184 4) ((cl s k).map (dO .v))), (25, RV.int (k : Int))]) (fun k : Nat => []) (fun k : Nat => s.Segments.length - k) 0 (by exact ⟨by omega, ⟨by simp, rfl⟩⟩) (by exact aI (by exact rfl) (aI (by exact rfl) (tI))) (by exact ⟨⟩) ?_
 rintro k ⟨hk, ha⟩
 refine bG ?_
 refine sc (fun hbb => ?_) (fun hbb => ?_)
 have hlt : k < s.Segments.length := by omega
 have hwm := cR (f := b3) hlt
 have hws : b3 s.Segments[k] = s.Segments[k].length + (s.Segments[k].map bZ).sum := rfl
 refine aT ?_
 refine sT [1, 3, 23, 24, 25] [1] ?_
 refine mY ?_
 refine t6 ?_
 refine sS [1, 3, 5, 23, 24, 25] [1] ?_
 refine i3 ?_
 refine rA ?_ (x := dD)
 refine sc (fun hbc => ?_) (fun hbc => ?_)
 have hbad : bA s = false := IN hlt (by omega)
 refine sS [1, 3, 5, 23, 24, 25] [1] ?_
 exact jC
 have hyes : iu s.Segments[k] = true := by simp [iu]; omega
 refine aN ?_
 refine sS [1, 3, 5, 23, 24, 25] [1] ?_
 refine i3 ?_
 refine cj ?_
 refine sP [1, 3, 5, 23, 24, 25, 32, 33, 34] [1] ?_
 refine sL [1, 5, 23, 24, 25, 32, 33] [1] (fun j : Nat => j ≤ s.Segments[k].length ∧ ji s.Now (aS s) ((cl s k).length + j) = true) (fun j : Nat => [(3, RV.slc (.own 184 4) ((cl s k ++ s.Segments[k].take j).map (dO .v))), (34, RV.int (j : Int))]) (fun j : Nat => []) (fun j : Nat => s.Segments[k].length - j) 0 (by exact ⟨by omega, ha.2⟩) (by exact aI (by exact bg (by simp)) (aI (by exact rfl) (tI))) (by exact ⟨⟩) ?_
 rintro j ⟨hj, hg⟩
 refine bG ?_
 refine sc (fun hbd => ?_) (fun hbd => ?_)
 have hlt2 : j < s.Segments[k].length := by omega
 have hwm2 := cR (f := bZ) hlt2
 have hag := IP hlt hlt2
 have hat := N8 hlt (Nat.le_of_lt hlt2)
 have hln : (cl s k ++ s.Segments[k].take j).length = (cl s k).length + j := by rw [List.length_append, List.length_take]; omega
 have hlm : (s.Segments[k].take j).length = j := by rw [List.length_take]; omega
 refine aT ?_
 refine sT [1, 3, 5, 23, 24, 25, 32, 33, 34] [1] ?_
 refine tx ?_
 refine oG ?_
 refine dH ?_
 refine sO [(1, _), (3, _), (5, _), (7, _), (23, _), (24, _), (25, _), (32, _), (33, _), (34, _)] [(1, _), (7, (184, [val _, sl _ _, val _, val _]))] ?_
 refine aM ?_
 refine xq ?_
 refine rA ?_ (x := cL [(true, [val _, sl _ _])] [(true, [val _, sl .v _])] yL (hs := by exact zo))
 refine dI ?_
 refine cx 42 (fun gb sgb => ?_) (fun gb sgb => ?_)
 refine kr ?_
 refine an.cases (s := 50) rfl (fun g8 => ?_) (fun g8 => nomatch g8)
 refine zt g8 ?_
 refine rA ?_ (x := aA g8)
 refine bC ?_
 exact wM
 refine rB gb ?_ (x := lF im)
 refine rB gb ?_ (x := lD [val _] aq)
 refine rB gb ?_ (x := lF fc)
 refine GM ?_
 refine ri ?_
 refine cx 50 (fun gc sgc => ?_) (fun gc sgc => ?_)
 refine jF ?_
 refine bC ?_
 exact wM
 refine tX ?_
 refine yv ?_
 refine cx 54 (fun gd sgd => ?_) (fun gd sgd => ?_)
 refine rB gd ?_ (x := lF gP)
 refine rB gd ?_ (x := lD [val _] aq)
 refine rB gd ?_ (x := lF im)
 refine rB gd ?_ (x := lD [val _] aq)
 refine rB gd ?_ (x := vS (by decide) (by exact ⟨⟩) (aY rfl) (by simp only [aB, Bool.and_eq_true, decide_eq_true_eq] at *; unfold kb; omega))
 refine rB gd ?_ (x := lF fc)
 refine xr ?_
 refine rB gd ?_ (x := nT)
 refine yp ?_
 refine sc (fun hbe => ?_) (fun hbe => ?_)
 exact wM
 have hvo : ck s.Now s.Segments[k][j] = true := by first | (simp_all [ck, dr]; done) | (simp_all [ck, dr]; omega)
 refine dE ?_
 refine sS [1, 3, 5, 7, 23, 24, 25, 32, 33, 34] [1, 7] ?_
 refine i3 ?_
 refine cj ?_
 refine FG ?_
 rintro m ⟨hm, hfr⟩
 refine bG ?_
 refine sc (fun hbf => ?_) (fun hbf => ?_)
 have hlt3 : m < (cl s k).length + j := by omega
 have hlt4 : m < (cl s k ++ s.Segments[k].take j).length := by omega
 have hsg : (cl s k ++ s.Segments[k].take j)[m] = (aS s).getD m v0 := by rw [cX (d := v0) hlt4, hat, List.getD_eq_getElem?_getD, List.getElem?_take_of_lt hlt3, ← List.getD_eq_getElem?_getD]
 have hvm := yR hg hlt3
 have hma := IJ hvo hvm
 rw [← hag.2] at hma
 refine aT ?_
 refine GK ?_
 refine rA ?_ (x := lE [val _, sl .v _, val _, val _] d2)
 refine oG ?_
 refine GJ ?_
 refine aM ?_
 refine qQ ?_
 refine rA ?_ (x := lF lx)
 refine nu ?_
 refine cx 77 (fun ge sge => ?_) (fun ge sge => ?_)
 refine rB ge ?_ (x := lD [val _, sl .v _, val _, val _] d2)
 refine F7 ?_
 refine rA ?_ (x := aA ge)
 refine sc (fun hbg => ?_) (fun hbg => ?_)
 exact Cn
 exact wN
 exact Co
 exact Cq
 refine zf gd ?_
 refine yq ?_
 refine dk ?_
 have hvo : ck s.Now s.Segments[k][j] = true := by first | (simp_all [ck, dr]; done) | (simp_all [ck, dr]; omega)
 refine dE ?_
 refine sS [1, 3, 5, 7, 23, 24, 25, 32, 33, 34] [1, 7] ?_
 refine i3 ?_
 refine cj ?_
 refine FG ?_
 rintro m ⟨hm, hfr⟩
 refine bG ?_
 refine sc (fun hbe => ?_) (fun hbe => ?_)
 have hlt3 : m < (cl s k).length + j := by omega
 have hlt4 : m < (cl s k ++ s.Segments[k].take j).length := by omega
 have hsg : (cl s k ++ s.Segments[k].take j)[m] = (aS s).getD m v0 := by rw [cX (d := v0) hlt4, hat, List.getD_eq_getElem?_getD, List.getElem?_take_of_lt hlt3, ← List.getD_eq_getElem?_getD]
 have hvm := yR hg hlt3
 have hma := IJ hvo hvm
 rw [← hag.2] at hma
 refine aT ?_
 refine GK ?_
 refine rA ?_ (x := lE [val _, sl .v _, val _, val _] d2)
 refine oG ?_
 refine GJ ?_
 refine aM ?_
 refine qQ ?_
 refine rA ?_ (x := lF lx)
 refine nu ?_
 refine cx 77 (fun ge sge => ?_) (fun ge sge => ?_)
 refine rB ge ?_ (x := lD [val _, sl .v _, val _, val _] d2)
 refine F7 ?_
 refine rA ?_ (x := aA ge)
 refine sc (fun hbf => ?_) (fun hbf => ?_)
 exact Cn
 exact wN
 exact Co
 exact Cq
 have hend2 : j = s.Segments[k].length := by omega
 refine aX ?_
 refine sH [1, 3, 5, 23, 24, 25, 32, 33, 34] [1] ?_
 refine b5 ?_
 refine nx (k + 1) (by exact ⟨by omega, ⟨yB ha.1 hlt hyes, by rw [rG hlt, List.length_append, ← hend2]; exact hg⟩⟩) (e := (by exact aI (by exact bg (by rw [hend2, List.take_length, rG hlt])) (aI (by exact rfl) (tI))))
 have hend : k = s.Segments.length := by omega
 have hsm : s.Segments.all iu = true := ik (by rw [← hend]; exact ha.1)
 have hgd := ha.2
 rw [hend, yS] at hgd
 refine aX ?_
 refine sT [1, 3, 23, 24, 25] [1] ?_
 refine bD ?_
 exact rb (by unfold bA; rw [hpr, hsm, hgd]; rfl)
end Go.Proofs.YtmekkgdboplbjaaGreat
