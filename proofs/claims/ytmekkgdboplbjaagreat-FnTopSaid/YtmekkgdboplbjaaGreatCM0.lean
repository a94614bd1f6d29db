/- What functions of the program compute. No condition. -/
import Derived.Test.YtmekkgdboplbjaaGreatCG0
set_option linter.all false
namespace Go.Proofs.YtmekkgdboplbjaaGreat
open Go Go.RowKit M PV Tryz
set_option maxRecDepth 10000
attribute [local irreducible] PV.Lcl PV.LclR RV.Lcl
def TL : dY prog 54 = some [(0, 1), (1, 1)] := by kernel_rfl
def GJ {v : aR} {t : Int}  : aN prog 229 [(true, [val (vI v.Id), sl .v (v.Values.map am), val (vI v.aeN), val (vI v.aeJ)]), (false, [val (vI t)])] (aJ [(false, [val (.bool (dL v t))])]) := by
 refine sF func229 fun h0 w0 Fz0 => ?_
 exact Jc
def GK {v : aR} {t : Int}  : aN prog 196 [(true, [val (vI v.Id), sl .v (v.Values.map am), val (vI v.aeN), val (vI v.aeJ)]), (false, [val (vI t)])] (aJ [(false, [val (.bool (dL v t))])]) := by
 refine sF func196 fun h0 w0 Fz0 => ?_
 exact Jc
def acx {v : aR}  (hb : cw v ≤ 68719476736) : aN prog 171 [(true, [val (vI v.Id), sl .v (v.Values.map am), val (vI v.aeN), val (vI v.aeJ)])] (aJ [(true, [val (vI (fF v).Id), sl ab ((fF v).Values.map am)])]) := by
 refine sF func171 fun h0 w0 Fz0 => ?_
 refine sn 0 1 fun hl0_1 => ?_
 have hbu := hb
 simp only [cw, dE, bf] at hbu
 refine vk ?_
 refine yM ?_
 refine yD ?_
 refine dA 0 ?_ (x := lF nt)
 refine dA 1 ?_ (x := lD [val _] az)
 refine dA 0 ?_ (x := lF lu)
 refine OV ?_
 refine dA 31 ?_ (x := dp (qs := [(false, [val _]), (false, [sl _ _])]) (cs := [val _, sl _ _]) (by decide) gJ mb TL (by exact rfl) (by exact (aI (by exact tI) (aI (by exact tI) tI))) rfl (by exact rfl))
 exact IM
def acy {v : aR} {w : aR}  : aN prog 198 [(true, [val (vI v.Id), sl .v (v.Values.map am), val (vI v.aeN), val (vI v.aeJ)]), (true, [val (vI w.Id), sl .v (w.Values.map am), val (vI w.aeN), val (vI w.aeJ)])] (aJ [(false, [val (.bool (rx v w))])]) := by
 refine sF func198 fun h0 w0 Fz0 => ?_
 refine sn 0 1 fun hl0_1 => ?_
 refine sn 1 1 fun hl1_1 => ?_
 refine PG ?_
 refine qJ ?_
 refine rA ?_ (x := lD [val _, sl .v _, val _, val _] fq)
 refine rA ?_ (x := lF kH)
 refine rA ?_ (x := lD [val _] az)
 refine rA ?_ (x := cL [(true, [val _, sl _ _, val _, val _]), (false, [val _])] [(true, [val _, sl .v _, val _, val _]), (false, [val _])] EW (hs := by exact GJ))
 refine rM ?_
 refine cx 9 (fun ga sga => ?_) (fun ga sga => ?_)
 refine zt ga ?_
 refine rA ?_ (x := aO ga)
 exact Jd
 refine rB ga ?_ (x := lD [val _, sl .v _, val _, val _] fq)
 refine rB ga ?_ (x := lF kH)
 refine rB ga ?_ (x := lD [val _] az)
 refine rB ga ?_ (x := cL [(true, [val _, sl _ _, val _, val _]), (false, [val _])] [(true, [val _, sl .v _, val _, val _]), (false, [val _])] EW (hs := by exact GJ))
 refine rA ?_ (x := aF ga)
 exact Jd
def acz {a : aR} {b : aR}  : aN prog 162 [(true, [val (vI a.Id), sl .v (a.Values.map am), val (vI a.aeN), val (vI a.aeJ)]), (true, [val (vI b.Id), sl .v (b.Values.map am), val (vI b.aeN), val (vI b.aeJ)])] (aJ [(false, [val (.bool (fa a b))])]) := by
 refine sF func162 fun h0 w0 Fz0 => ?_
 refine sn 0 1 fun hl0_1 => ?_
 refine sn 1 1 fun hl1_1 => ?_
 refine PG ?_
 refine qJ ?_
 refine vE ?_
 refine vE ?_
 refine rA ?_ (x := dr)
 refine rM ?_
 refine cx 10 (fun ga sga => ?_) (fun ga sga => ?_)
 refine jq ?_
 refine aq.cases (s := 22) rfl (fun g2 => ?_) (fun g2 => nomatch g2)
 refine vq ?_
 exact sw
 refine rB ga ?_ (x := lF iB)
 refine rB ga ?_ (x := lD [val _] az)
 refine rB ga ?_ (x := dr)
 refine rB ga ?_ (x := sM)
 refine cx 14 (fun gb sgb => ?_) (fun gb sgb => ?_)
 refine rB gb ?_ (x := lF iB)
 refine rB gb ?_ (x := lD [val _] az)
 refine rB gb ?_ (x := lF kH)
 refine DN ?_
 refine rB ga ?_ (x := aO gb)
 refine mB ?_
 refine cx 22 (fun gc sgc => ?_) (fun gc sgc => ?_)
 refine qL ?_
 exact sw
 refine yK ?_
 refine Ec ?_
 refine cx 26 (fun gd sgd => ?_) (fun gd sgd => ?_)
 refine rB gd ?_ (x := lF iB)
 refine rB gd ?_ (x := lD [val _] az)
 refine rB gd ?_ (x := lF kH)
 refine rB gd ?_ (x := lD [val _] az)
 refine rB gd ?_ (x := ix)
 refine DY ?_
 exact sw
 refine zf gd ?_
 refine DZ ?_
 exact sw
 refine zf gb ?_
 refine rB ga ?_ (x := aF gb)
 refine mB ?_
 refine aq.cases (s := 22) rfl (fun g6 => nomatch g6) (fun g6 => ?_)
 refine rB g6 ?_ (x := lF iB)
 refine rB g6 ?_ (x := lD [val _] az)
 refine rB g6 ?_ (x := dr)
 refine rB g6 ?_ (x := sM)
 refine cx 26 (fun gc sgc => ?_) (fun gc sgc => ?_)
 refine yK ?_
 refine rB gc ?_ (x := lF kH)
 refine rB gc ?_ (x := lD [val _] az)
 refine rB gc ?_ (x := ix)
 refine rB g6 ?_ (x := aO gc)
 refine rA ?_ (x := aF g6)
 exact sw
 refine zf gc ?_
 refine rB g6 ?_ (x := aF gc)
 refine rA ?_ (x := aF g6)
 exact sw
def acA {v : aR} {now : Int}  (hn : now ≤ 100000) : aN prog 161 [(true, [val (vI v.Id), sl .v (v.Values.map am), val (vI v.aeN), val (vI v.aeJ)]), (false, [val (vI now)])] (aJ [(false, [val (.bool (dv now v))])]) := by
 refine sF func161 fun h0 w0 Fz0 => ?_
 refine sn 0 1 fun hl0_1 => ?_
 refine vk ?_
 refine rK ?_
 refine sT [1, 2, 4] [2] ?_
 refine vE ?_
 refine rA ?_ (x := lF lu)
 refine rA ?_ (x := lD [sl .v _] bF)
 refine rA ?_ (x := dp (qs := [(false, [val _]), (false, [sl _ _])]) (cs := [val _, sl _ _]) (by decide) gJ mb TL (by exact rfl) (by exact (aI (by exact tI) (aI (by exact tI) tI))) rfl (by exact rfl))
 refine rA ?_ (x := cL [(true, [val _, sl _ _])] [(true, [val _, sl .v _])] wu (hs := by exact (wG (x := ⟨v.Id, v.Values⟩))))
 refine rM ?_
 refine cx 11 (fun ga sga => ?_) (fun ga sga => ?_)
 refine rB ga ?_ (x := lF kH)
 refine rB ga ?_ (x := lD [val _] az)
 refine rB ga ?_ (x := sM)
 refine rB ga ?_ (x := cL [(false, [val _]), (false, [val _]), (false, [val _])] [(false, [val _]), (false, [val _]), (false, [val _])] fX (hs := by exact gl))
 refine jP ?_
 refine cx 17 (fun gb sgb => ?_) (fun gb sgb => ?_)
 refine rB gb ?_ (x := lF iB)
 refine qB ?_
 refine rB gb ?_ (x := sM)
 refine cx 21 (fun gc sgc => ?_) (fun gc sgc => ?_)
 refine zt gc ?_
 refine rB gb ?_ (x := aO gc)
 refine rA ?_ (x := aO gb)
 exact xR
 refine yK ?_
 refine rB gc ?_ (x := lF kH)
 refine rB gc ?_ (x := lD [val _] az)
 refine rB gc ?_ (x := Bb (by decide) (by exact tI) (bM rfl) (by simp only [aK, aS, decide_eq_true_eq] at *; unfold jI; omega))
 refine Oo ?_
 refine rB gb ?_ (x := aF gc)
 refine rA ?_ (x := aO gb)
 exact xR
 refine pz ?_
 exact xR
 refine gu ?_
 refine aq.cases (s := 17) rfl (fun g4 => nomatch g4) (fun g4 => ?_)
 refine td ?_
 exact xR
def acB {p1 p2 : Fl} {s : Store}  (hb : cB s ≤ 68719476736) : aN prog 94 [(true, [sl .v (s.aey.map (aG p1 p2)), val (vI s.Now)])] (aJ [(false, [sl aV ((bg s).map (eN .v))])]) := by
 refine sF func94 fun h0 w0 Fz0 => ?_
 refine sn 0 0 fun hl0_0 => ?_
 refine jo ?_
 refine rA ?_ (x := kx (.inr rfl) (by decide) (lG (t := 184) (e := 4)))
 refine sT [1, 2] [1] ?_
 refine tx ?_
 refine sS [1, 2, 3] [1] ?_
 refine ca ?_
 refine sP [1, 2, 3, 4] [1] ?_
 refine sL [1, 2] [1] (fun k : Nat => k ≤ s.aey.length) (fun k : Nat => [(3, RV.slc aV ((dw s k).map (eN .v))), (4, RV.int (k : Int))]) (fun k : Nat => []) (fun k : Nat => s.aey.length - k) 0 (by omega) (by exact aI (by exact rfl) (aI (by exact rfl) tI)) (by exact tI) ?_
 rintro k hk
 refine tF ?_
 refine sc ?_ ?_ <;> intro hba
 have hlt : k < s.aey.length := by omega
 have hal := pS s
 have hsp := congrArg List.length (zO hlt)
 simp only [aM] at hsp
 refine bi ?_
 refine sH [1, 2, 3, 4] [1] ?_
 refine rA ?_ (x := tM)
 refine oe ?_
 refine rM ?_
 refine rA ?_ (x := aU (by decide) eP (by exact tI) (by exact rfl) (by exact aW (by omega) rfl) (by exact rfl))
 refine rA ?_ (x := nS (qs := [sl .v _]) (by decide) ie (fun _ => rfl) (by exact nl rfl) (by exact (ao.cons (PV.to_map (fun _ => (ak (ao.cons (PV.to_map (fun _ => (ak ao.nil))) (ak (ak ao.nil)))))) ao.nil)) (by exact (aj.cons (bor_sl _) aj.nil)))
 refine rA ?_ (x := it (by decide) cy fE rfl rfl (by decide) (by first | (intro cs hcs; obtain ⟨x, _, rfl⟩ := List.mem_map.1 hcs; exact rfl) | simp) (by first | (intro cs hcs; obtain ⟨x, _, rfl⟩ := List.mem_map.1 hcs; exact (by exact lq)) | simp) (by simp only [aw, aM, List.length_cons, List.length_nil]; omega) (by simp only [aw, aM, List.length_cons, List.length_nil]; omega))
 refine rA ?_ (x := tA)
 refine sG [1, 2, 3, 4] [1] ?_
 refine cb ?_
 refine nx (k + 1) (by omega) (e := (by exact aI (by exact bG (by rw [wC hlt, bj]; rfl)) (aI (by exact rfl) tI)))
 have hend : k = s.aey.length := by omega
 refine bq ?_
 refine sT [1, 2, 3, 4] [1] ?_
 refine jQ ?_
 exact (aI (by refine bG ?_; rw [hend, ED]) tI)
def GL {p1 p2 : Fl} {s : Store}  (hb : cB s ≤ 68719476736) : aN prog 64 [(true, [sl .v (s.aey.map (aG p1 p2)), val (vI s.Now)])] (aJ [(false, [val (.bool (bQ s))])]) := by
 refine sF func64 fun h0 w0 Fz0 => ?_
 refine sn 0 0 fun hl0_0 => ?_
 refine jo ?_
 refine lj ?_
 refine lM ?_
 refine rA ?_ (x := cL [(false, [val _]), (false, [val _]), (false, [val _])] [(false, [val _]), (false, [val _]), (false, [val _])] fX (hs := by exact gl))
 refine fz ?_
 refine cx 12 (fun ga sga => ?_) (fun ga sga => ?_)
 exact Je
 refine rB ga ?_ (x := lF fK)
 refine vc ?_
 refine lO ?_
 refine sc ?_ ?_ <;> intro hba
 exact BX
 have hpr : mM s = true := by simp_all [mM]
 have hnow : 0 ≤ s.Now ∧ s.Now ≤ 100000 := by have h_ := hpr; simp [mM, aK] at h_; omega
 refine wg ?_
 refine vZ ?_
 refine sL [1] [1] (fun k : Nat => k ≤ s.aey.length ∧ (s.aey.take k).all kN = true) (fun k : Nat => [(3, RV.int (k : Int))]) (fun k : Nat => []) (fun k : Nat => s.aey.length - k) 0 (by exact ⟨by omega, by simp⟩) (by exact aI (by exact rfl) tI) (by exact tI) ?_
 rintro k ⟨hk, ha⟩
 refine tF ?_
 refine sc ?_ ?_ <;> intro hbb
 have hlt : k < s.aey.length := by omega
 refine bi ?_
 refine sT [1, 3] [1] ?_
 refine oe ?_
 refine rM ?_
 refine sC ?_
 refine rA ?_ (x := lN cy)
 refine rA ?_ (x := dI)
 refine sc ?_ ?_ <;> intro hbc
 have hbad : bQ s = false := QE hlt (by omega)
 refine sS [1, 3] [1] ?_
 exact lJ
 have hyes : kN s.aey[k] = true := by simp [kN]; omega
 refine wa ?_
 exact pj
 have hsm : s.aey.all kN = true := jr (by rw [show s.aey.length = k by omega]; exact ha)
 have hal := pS s
 refine zo ?_
 refine Da ?_
 refine qI ?_
 refine sS [1, 3, 4] [1] ?_
 refine ca ?_
 refine sP [1, 3, 4, 5] [1] ?_
 refine sL [1, 3, 4] [1] (fun i : Nat => i ≤ (bg s).length ∧ md s.Now (bg s) i = true) (fun i : Nat => [(5, RV.int (i : Int))]) (fun i : Nat => []) (fun i : Nat => (bg s).length - i) 0 (by exact ⟨by omega, rfl⟩) (by exact aI (by exact rfl) tI) (by exact tI) ?_
 rintro i ⟨hi, hg⟩
 refine de ?_
 refine zu ?_
 refine sc ?_ ?_ <;> intro hbc
 have hlt2 : i < (bg s).length := by omega
 refine bi ?_
 refine dJ ?_
 refine sQ [1, 3, 4, 5] [1] ?_
 refine pu ?_
 refine NR ?_
 refine dA 0 ?_ (x := lF fK)
 refine dA 16 ?_ (x := lD [val _] az)
 refine dA 63 ?_ (x := cL [(true, [val _, sl _ _, val _, val _]), (false, [val _])] [(true, [val _, sl .v _, val _, val _]), (false, [val _])] Yk (hs := by exact (acA (by omega))))
 refine dA 127 ?_ (x := nT)
 refine sc ?_ ?_ <;> intro hbd
 have hvo : dv s.Now ((bg s).getD i v0) = false := by simp_all
 have hbad := zN hlt2 (QC hvo)
 refine sS [1, 3, 4, 5] [1] ?_
 exact lJ
 have hvo : dv s.Now ((bg s).getD i v0) = true := by simp_all
 refine bb ?_
 refine sS [1, 3, 4, 5] [1] ?_
 refine ca ?_
 refine sP [1, 3, 4, 5, 6] [1] ?_
 refine sL [1, 3, 4, 5] [1] (fun m : Nat => m ≤ i ∧ fR (bg s) i m = true) (fun m : Nat => [(6, RV.int (m : Int))]) (fun m : Nat => []) (fun m : Nat => i - m) 0 (by exact ⟨by omega, rfl⟩) (by exact aI (by exact rfl) tI) (by exact tI) ?_
 rintro m ⟨hm, hfr⟩
 refine tG ?_
 refine sc ?_ ?_ <;> intro hbe
 have hlt3 : m < i := by omega
 have hlt4 : m < (bg s).length := by omega
 refine dh ?_
 refine sQ [1, 3, 4, 5, 6] [1] ?_
 refine pu ?_
 refine NR ?_
 refine eY ?_
 refine dA 48 ?_ (x := aU (k := m) (by decide) cy (by exact tI) (by rfl) (by exact aW hlt4 (by rw [df (d := v0) hlt4])) (by exact rfl))
 refine dA 112 ?_ (x := lE [val _, sl .v _, val _, val _] fq)
 refine dA 255 ?_ (x := cL [(true, [val _, sl _ _, val _, val _]), (true, [val _, sl _ _, val _, val _])] [(true, [val _, sl .v _, val _, val _]), (true, [val _, sl .v _, val _, val _])] Yl (hs := by exact acz))
 refine dA 511 ?_ (x := nT)
 refine sc ?_ ?_ <;> intro hbf
 have hap : fa ((bg s).getD i v0) ((bg s).getD m v0) = false := by simp_all
 have hbad := zN hlt2 (QD hlt3 hap)
 refine sS [1, 3, 4, 5, 6] [1] ?_
 exact lJ
 have hap : fa ((bg s).getD i v0) ((bg s).getD m v0) = true := by simp_all
 refine bb ?_
 refine sG [1, 3, 4, 5, 6] [1] ?_
 refine cb ?_
 exact Jf
 have hend2 : m = i := by omega
 refine bq ?_
 refine sH [1, 3, 4, 5, 6] [1] ?_
 refine cb ?_
 refine nx (i + 1) (by refine ⟨by omega, ?_⟩; rw [QB, hg, Bool.true_and]; unfold mc; rw [hvo, Bool.true_and, ← hend2]; rw [hend2] at hfr ⊢; exact hfr)
 have hend1 : i = (bg s).length := by omega
 rw [hend1] at hg
 refine bq ?_
 refine sT [1, 3, 4, 5] [1] ?_
 refine cm ?_
 exact rb (by unfold bQ; rw [hpr, hsm, hg]; rfl)
def TM {p1 p2 : Fl} {s : Store}  (hb : cB s ≤ 68719476736) : aN prog 97 [(true, [sl .v (s.aey.map (aG p1 p2)), val (vI s.Now)])] (aJ [(false, [val (.bool (bQ s))])]) := by
 refine sF func97 fun h0 w0 Fz0 => ?_
 refine sn 0 0 fun hl0_0 => ?_
 have hbu := hb
 simp only [cB, fW, bf] at hbu
 refine jo ?_
 refine lj ?_
 refine lM ?_
 refine OA ?_
 refine cx 15 (fun ga sga => ?_) (fun ga sga => ?_)
 exact Je
 refine DF ?_
 refine sI ?_
 refine rA ?_ (x := aF ga)
 refine sc ?_ ?_ <;> intro hba
 exact BX
 have hpr : mM s = true := by simp_all [mM]
 have hnow : 0 ≤ s.Now ∧ s.Now ≤ 100000 := by have h_ := hpr; simp [mM, aK] at h_; omega
 have hal := pS s
 refine bb ?_
 refine sS [1, 2] [1] ?_
 refine tx ?_
 refine sS [1, 2, 3] [1] ?_
 refine lM ?_
 refine eo ?_
 refine sP [1, 2, 3, 23, 24, 25] [1] ?_
 refine sL [1, 23, 24] [1] (fun k : Nat => k ≤ s.aey.length ∧ ((s.aey.take k).all kN = true ∧ md s.Now (bg s) (dw s k).length = true)) (fun k : Nat => [(3, RV.slc aV ((dw s k).map (eN .v))), (25, RV.int (k : Int))]) (fun k : Nat => []) (fun k : Nat => s.aey.length - k) 0 (by exact ⟨by omega, ⟨by simp, rfl⟩⟩) (by exact aI (by exact rfl) (aI (by exact rfl) tI)) (by exact tI) ?_
 rintro k ⟨hk, ha⟩
 refine cn ?_
 refine sc ?_ ?_ <;> intro hbb
 have hlt : k < s.aey.length := by omega
 have hwm := di (f := co) hlt
 have hws : co s.aey[k] = s.aey[k].length + (s.aey[k].map cw).sum := rfl
 refine bi ?_
 refine sT [1, 3, 23, 24, 25] [1] ?_
 refine Eg ?_
 refine be ?_
 refine sS [1, 3, 5, 23, 24, 25] [1] ?_
 refine pp ?_
 refine rA ?_ (x := dI)
 refine sc ?_ ?_ <;> intro hbc
 have hbad : bQ s = false := QE hlt (by omega)
 refine sS [1, 3, 5, 23, 24, 25] [1] ?_
 exact lJ
 have hyes : kN s.aey[k] = true := by simp [kN]; omega
 refine bb ?_
 refine sS [1, 3, 5, 23, 24, 25] [1] ?_
 refine tH ?_
 refine sP [1, 3, 5, 23, 24, 25, 32, 33, 34] [1] ?_
 refine sL [1, 5, 23, 24, 25, 32, 33] [1] (fun j : Nat => j ≤ s.aey[k].length ∧ md s.Now (bg s) ((dw s k).length + j) = true) (fun j : Nat => [(3, RV.slc aV ((dw s k ++ s.aey[k].take j).map (eN .v))), (34, RV.int (j : Int))]) (fun j : Nat => []) (fun j : Nat => s.aey[k].length - j) 0 (by exact ⟨by omega, ha.2⟩) (by exact aI (by exact bG (by simp)) (aI (by exact rfl) tI)) (by exact tI) ?_
 rintro j ⟨hj, hg⟩
 refine cn ?_
 refine sc ?_ ?_ <;> intro hbd
 have hlt2 : j < s.aey[k].length := by omega
 have hwm2 := di (f := cw) hlt2
 have hag := QF hlt hlt2
 have hat := Xc hlt (Nat.le_of_lt hlt2)
 have hln : (dw s k ++ s.aey[k].take j).length = (dw s k).length + j := by rw [aM, bv]; omega
 have hlm : (s.aey[k].take j).length = j := by rw [bv]; omega
 refine bi ?_
 refine sT [1, 3, 5, 23, 24, 25, 32, 33, 34] [1] ?_
 refine vg ?_
 refine ve ?_
 refine dJ ?_
 refine sO [(1, _), (3, _), (5, _), (7, _), (23, _), (24, _), (25, _), (32, _), (33, _), (34, _)] [(1, _), (7, (184, [val _, sl _ _, val _, val _]))] ?_
 refine bd ?_
 refine NX ?_
 refine rA ?_ (x := cL [(true, [val _, sl _ _])] [(true, [val _, sl .v _])] Ev (hs := by exact Fk))
 refine fz ?_
 refine cx 42 (fun gb sgb => ?_) (fun gb sgb => ?_)
 refine mC ?_
 refine aq.cases (s := 50) rfl (fun g8 => ?_) (fun g8 => nomatch g8)
 refine zt g8 ?_
 refine rA ?_ (x := aO g8)
 refine cv ?_
 exact BY
 refine rB gb ?_ (x := lF kH)
 refine rB gb ?_ (x := lD [val _] az)
 refine rB gb ?_ (x := lF fK)
 refine yo ?_
 refine ti ?_
 refine cx 50 (fun gc sgc => ?_) (fun gc sgc => ?_)
 refine qL ?_
 refine cv ?_
 exact BY
 refine yK ?_
 refine Ec ?_
 refine cx 54 (fun gd sgd => ?_) (fun gd sgd => ?_)
 refine rB gd ?_ (x := lF iB)
 refine rB gd ?_ (x := lD [val _] az)
 refine rB gd ?_ (x := lF kH)
 refine rB gd ?_ (x := lD [val _] az)
 refine rB gd ?_ (x := Bb (by decide) (by exact tI) (bM rfl) (by simp only [aK, aS, decide_eq_true_eq] at *; unfold jI; omega))
 refine rB gd ?_ (x := lF fK)
 refine CM ?_
 refine rB gd ?_ (x := nT)
 refine DY ?_
 refine sc ?_ ?_ <;> intro hbe
 exact BY
 have hvo : dv s.Now s.aey[k][j] = true := by first | (simp_all [dv, fF]; done) | (simp_all [dv, fF]; omega)
 refine eG ?_
 refine sS [1, 3, 5, 7, 23, 24, 25, 32, 33, 34] [1, 7] ?_
 refine tH ?_
 refine MU ?_
 rintro m ⟨hm, hfr⟩
 refine cn ?_
 refine sc ?_ ?_ <;> intro hbf
 have hlt3 : m < (dw s k).length + j := by omega
 have hlt4 : m < (dw s k ++ s.aey[k].take j).length := by omega
 have hsg : (dw s k ++ s.aey[k].take j)[m] = (bg s).getD m v0 := by rw [df (d := v0) hlt4, hat, List.getD_eq_getElem?_getD, List.getElem?_take_of_lt hlt3, ← List.getD_eq_getElem?_getD]
 have hvm := EC hg hlt3
 have hma := QA hvo hvm
 rw [← hag.2] at hma
 refine bi ?_
 refine NV ?_
 refine rA ?_ (x := lE [val _, sl .v _, val _, val _] fq)
 refine ve ?_
 refine NT ?_
 refine bd ?_
 refine vE ?_
 refine rA ?_ (x := lF nt)
 refine oA ?_
 refine cx 77 (fun ge sge => ?_) (fun ge sge => ?_)
 refine rB ge ?_ (x := lD [val _, sl .v _, val _, val _] fq)
 refine No ?_
 refine rA ?_ (x := aO ge)
 refine sc ?_ ?_ <;> intro hbg
 exact Jg
 exact BZ
 exact Jh
 exact Ji
 refine zf gd ?_
 refine DZ ?_
 refine eX ?_
 have hvo : dv s.Now s.aey[k][j] = true := by first | (simp_all [dv, fF]; done) | (simp_all [dv, fF]; omega)
 refine eG ?_
 refine sS [1, 3, 5, 7, 23, 24, 25, 32, 33, 34] [1, 7] ?_
 refine tH ?_
 refine MU ?_
 rintro m ⟨hm, hfr⟩
 refine cn ?_
 refine sc ?_ ?_ <;> intro hbe
 have hlt3 : m < (dw s k).length + j := by omega
 have hlt4 : m < (dw s k ++ s.aey[k].take j).length := by omega
 have hsg : (dw s k ++ s.aey[k].take j)[m] = (bg s).getD m v0 := by rw [df (d := v0) hlt4, hat, List.getD_eq_getElem?_getD, List.getElem?_take_of_lt hlt3, ← List.getD_eq_getElem?_getD]
 have hvm := EC hg hlt3
 have hma := QA hvo hvm
 rw [← hag.2] at hma
 refine bi ?_
 refine NV ?_
 refine rA ?_ (x := lE [val _, sl .v _, val _, val _] fq)
 refine ve ?_
 refine NT ?_
 refine bd ?_
 refine vE ?_
 refine rA ?_ (x := lF nt)
 refine oA ?_
 refine cx 77 (fun ge sge => ?_) (fun ge sge => ?_)
 refine rB ge ?_ (x := lD [val _, sl .v _, val _, val _] fq)
 refine No ?_
 refine rA ?_ (x := aO ge)
 refine sc ?_ ?_ <;> intro hbf
 exact Jg
 exact BZ
 exact Jh
 exact Ji
 have hend2 : j = s.aey[k].length := by omega
 refine bq ?_
 refine sH [1, 3, 5, 23, 24, 25, 32, 33, 34] [1] ?_
 refine cF ?_
 refine nx (k + 1) (by exact ⟨by omega, ⟨zw ha.1 hlt hyes, by rw [wC hlt, aM, ← hend2]; exact hg⟩⟩) (e := (by exact aI (by exact bG (by rw [hend2, cj, wC hlt])) (aI (by exact rfl) tI)))
 have hend : k = s.aey.length := by omega
 have hsm : s.aey.all kN = true := jr (by rw [← hend]; exact ha.1)
 have hgd := ha.2
 rw [hend, ED] at hgd
 refine bq ?_
 refine sT [1, 3, 23, 24, 25] [1] ?_
 refine cm ?_
 exact rb (by unfold bQ; rw [hpr, hsm, hgd]; rfl)
end Go.Proofs.YtmekkgdboplbjaaGreat
