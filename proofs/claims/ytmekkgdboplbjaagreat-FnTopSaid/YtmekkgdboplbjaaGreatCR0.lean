/- What functions of the program compute. No condition. -/
import Derived.Test.YtmekkgdboplbjaaGreatCN0
set_option linter.all false
namespace Go.Proofs.YtmekkgdboplbjaaGreat
open Go Go.RowKit M PV Tryz
set_option maxRecDepth 10000
attribute [local irreducible] PV.Lcl PV.LclR RV.Lcl
def acP {x : br}  : aN prog 103 [(true, [val (vI x.Segment), val (vI x.Base), sl .v (x.Ids.map am), sl .v (x.aeF.map am), sl .v (x.Rows.map am)])] (aJ [(false, [val (.bool (bZ x))])]) := by
 refine sF func103 fun h0 w0 Fz0 => ?_
 refine sn 0 2 fun hl0_2 => ?_
 refine sn 0 3 fun hl0_3 => ?_
 refine sn 0 4 fun hl0_4 => ?_
 refine po ?_
 refine pB ?_
 refine rA ?_ (x := lF lX)
 refine oh ?_
 refine hZ ?_
 refine vG ?_
 refine rA ?_ (x := lD [sl .v _] bF)
 refine rA ?_ (x := cL [(false, [sl _ _])] [(false, [sl .v _])] WE (hs := by exact acC))
 refine fz ?_
 refine cx 12 (fun ga sga => ?_) (fun ga sga => ?_)
 refine jq ?_
 refine aq.cases (s := 17) rfl (fun g2 => ?_) (fun g2 => nomatch g2)
 refine nq ?_
 refine aq.cases (s := 24) rfl (fun g3 => ?_) (fun g3 => nomatch g3)
 refine nn ?_
 exact nZ
 refine rB ga ?_ (x := sM)
 refine sI ?_
 refine mB ?_
 refine cx 17 (fun gb sgb => ?_) (fun gb sgb => ?_)
 refine mC ?_
 refine aq.cases (s := 24) rfl (fun g6 => ?_) (fun g6 => nomatch g6)
 refine qN ?_
 exact nZ
 refine rB gb ?_ (x := lF lY)
 refine rB gb ?_ (x := lD [sl .v _] bF)
 refine rB gb ?_ (x := lN bC)
 refine rB gb ?_ (x := sM)
 refine rB gb ?_ (x := dr)
 refine pn ?_
 refine cx 24 (fun gc sgc => ?_) (fun gc sgc => ?_)
 refine qL ?_
 exact nZ
 refine rB gc ?_ (x := lF kb)
 refine rB gc ?_ (x := lD [sl .v _] bF)
 refine rB gc ?_ (x := lN bC)
 refine rB gc ?_ (x := sM)
 refine rB gc ?_ (x := dr)
 refine rA ?_ (x := aF gc)
 refine sc ?_ ?_ <;> intro hba
 exact Cb
 have hpr : lx x = true := by
  unfold lx aK
  simp only [aS, decide_eq_true_eq]
  refine ⟨by first | assumption | simp_all, ?_⟩
  first | omega | (simp only [aK, aS, decide_eq_true_eq, Bool.not_eq_true, Bool.not_eq_false] at *; omega)
 have hpl := jy hpr
 refine eG ?_
 refine vG ?_
 refine qU ?_
 refine sP [1, 2, 3, 33, 34] [1] ?_
 refine sL [1, 3, 33] [1] (fun k : Nat => k ≤ x.Ids.length ∧ oM x k = true) (fun k : Nat => [(34, RV.int (k : Int))]) (fun k : Nat => []) (fun k : Nat => x.Ids.length - k) 0 (by exact ⟨by omega, rfl⟩) (by exact aI (by exact rfl) tI) (by exact tI) ?_
 rintro k ⟨hk, ha⟩
 refine cn ?_
 refine sc ?_ ?_ <;> intro hbb
 have hlt : k < x.Ids.length := by omega
 have htl : k < x.aeF.length := by omega
 have hrl : k < x.Rows.length := by omega
 refine bi ?_
 refine sT [1, 3, 33, 34] [1] ?_
 refine rM ?_
 refine hZ ?_
 refine sP [1, 3, 4, 33, 34] [1] ?_
 refine Ee ?_
 refine dA 1 ?_ (x := lD [sl .v _] bF)
 refine dA 0 ?_ (x := sM)
 refine Og ?_
 refine dA 31 ?_ (x := cL [(false, [val _]), (false, [val _]), (false, [val _])] [(false, [val _]), (false, [val _]), (false, [val _])] kG (hs := by exact kT))
 refine dA 63 ?_ (x := nT)
 refine dA 127 ?_ (x := sM)
 refine dx 44 (fun gd sgd => ?_) (fun gd sgd => ?_)
 refine dT 255 gd ?_
 refine dT 511 gd ?_
 refine dT 255 gd ?_
 refine dT 2047 gd ?_
 refine dT 4095 gd ?_
 refine dT 255 gd ?_
 refine dT 8447 gd ?_
 refine dT 32767 gd ?_
 refine dT 65535 gd ?_
 refine dA 131071 ?_ (x := aO gd)
 refine cv ?_
 exact JE
 refine dB 255 gd ?_ (x := lF kb)
 refine dB 511 gd ?_ (x := lD [sl .v _] bF)
 refine dB 255 gd ?_ (x := sM)
 refine dB 2047 gd ?_ (x := aU (k := k) (by decide) bC (by exact tI) (by rfl) (by exact aW (by omega) (by rw [df (d := 0) (by omega)])) (by exact rfl))
 refine dB 4095 gd ?_ (x := lE [val _] az)
 refine dB 255 gd ?_ (x := lF nu)
 refine dB 8447 gd ?_ (x := lD [val _] az)
 refine dB 32767 gd ?_ (x := cL [(false, [val _]), (false, [val _]), (false, [val _])] [(false, [val _]), (false, [val _]), (false, [val _])] kG (hs := by exact kT))
 refine dB 65535 gd ?_ (x := nT)
 refine dA 131071 ?_ (x := aF gd)
 refine sc ?_ ?_ <;> intro hbc
 exact JE
 have hyes : kg x k = true := by simp_all [kg]
 refine bb ?_
 refine sG [1, 3, 4, 33, 34] [1] ?_
 refine cF ?_
 exact JF
 have hend : k = x.Ids.length := by omega
 rw [hend] at ha
 refine bq ?_
 refine sT [1, 3, 33, 34] [1] ?_
 refine rA ?_ (x := lF wz)
 refine qX ?_
 refine cx 59 (fun gd sgd => ?_) (fun gd sgd => ?_)
 refine rB gd ?_ (x := lF nu)
 refine CM ?_
 refine rA ?_ (x := aO gd)
 exact JG
 refine ov ?_
 exact JG
def TO {x : br}  : aN prog 69 [(true, [val (vI x.Segment), val (vI x.Base), sl .v (x.Ids.map am), sl .v (x.aeF.map am), sl .v (x.Rows.map am)])] (aJ [(false, [val (.bool (bZ x))])]) := by
 refine sF func69 fun h0 w0 Fz0 => ?_
 refine sn 0 2 fun hl0_2 => ?_
 refine sn 0 3 fun hl0_3 => ?_
 refine sn 0 4 fun hl0_4 => ?_
 refine po ?_
 refine pB ?_
 refine rA ?_ (x := lF lX)
 refine oh ?_
 refine hZ ?_
 refine vG ?_
 refine rA ?_ (x := lD [sl .v _] bF)
 refine rA ?_ (x := cL [(false, [sl _ _])] [(false, [sl .v _])] Eu (hs := by exact GM))
 refine fz ?_
 refine cx 12 (fun ga sga => ?_) (fun ga sga => ?_)
 refine jq ?_
 refine aq.cases (s := 16) rfl (fun g2 => ?_) (fun g2 => nomatch g2)
 refine nq ?_
 refine aq.cases (s := 20) rfl (fun g3 => ?_) (fun g3 => nomatch g3)
 refine nn ?_
 refine rM ?_
 refine aq.cases (s := 27) rfl (fun g4 => ?_) (fun g4 => nomatch g4)
 refine zl ?_
 refine rM ?_
 refine aq.cases (s := 34) rfl (fun g5 => ?_) (fun g5 => nomatch g5)
 refine zt g5 ?_
 refine rA ?_ (x := aO g5)
 refine rM ?_
 refine aq.cases (s := 40) rfl (fun g6 => ?_) (fun g6 => nomatch g6)
 refine qN ?_
 exact nZ
 refine rB ga ?_ (x := sM)
 refine rB ga ?_ (x := dQ)
 refine mB ?_
 refine cx 16 (fun gb sgb => ?_) (fun gb sgb => ?_)
 refine mC ?_
 refine aq.cases (s := 20) rfl (fun g9 => ?_) (fun g9 => nomatch g9)
 refine zt g9 ?_
 refine rA ?_ (x := aO g9)
 refine rM ?_
 refine aq.cases (s := 27) rfl (fun g10 => ?_) (fun g10 => nomatch g10)
 refine zt g10 ?_
 refine rA ?_ (x := aO g10)
 refine rM ?_
 refine aq.cases (s := 34) rfl (fun g11 => ?_) (fun g11 => nomatch g11)
 refine zc ?_
 refine rM ?_
 refine aq.cases (s := 40) rfl (fun g12 => ?_) (fun g12 => nomatch g12)
 refine zd ?_
 exact nZ
 refine Ed ?_
 refine pn ?_
 refine cx 20 (fun gc sgc => ?_) (fun gc sgc => ?_)
 refine zt gc ?_
 refine hY ?_
 refine aq.cases (s := 27) rfl (fun g15 => ?_) (fun g15 => nomatch g15)
 refine zt g15 ?_
 refine rA ?_ (x := aO g15)
 refine rM ?_
 refine aq.cases (s := 34) rfl (fun g16 => ?_) (fun g16 => nomatch g16)
 refine zt g16 ?_
 refine rA ?_ (x := aO g16)
 refine rM ?_
 refine aq.cases (s := 40) rfl (fun g17 => ?_) (fun g17 => nomatch g17)
 refine zt g17 ?_
 refine rA ?_ (x := aO g17)
 exact nZ
 refine Dr ?_
 refine rB gc ?_ (x := lN bC)
 refine rB gc ?_ (x := sM)
 refine rB gc ?_ (x := dr)
 refine tk ?_
 refine cx 27 (fun gd sgd => ?_) (fun gd sgd => ?_)
 refine zt gd ?_
 refine pC ?_
 refine aq.cases (s := 34) rfl (fun g20 => ?_) (fun g20 => nomatch g20)
 refine zt g20 ?_
 refine rA ?_ (x := aO g20)
 refine rM ?_
 refine aq.cases (s := 40) rfl (fun g21 => ?_) (fun g21 => nomatch g21)
 refine zt g21 ?_
 refine rA ?_ (x := aO g21)
 exact nZ
 refine Ds ?_
 refine rB gd ?_ (x := lN bC)
 refine rB gd ?_ (x := sM)
 refine rB gd ?_ (x := dr)
 refine tl ?_
 refine cx 34 (fun ge sge => ?_) (fun ge sge => ?_)
 refine zt ge ?_
 refine tm ?_
 refine aq.cases (s := 40) rfl (fun g24 => ?_) (fun g24 => nomatch g24)
 refine zt g24 ?_
 refine rA ?_ (x := aO g24)
 exact nZ
 refine rB ge ?_ (x := lF wz)
 refine Oc ?_
 refine rB ge ?_ (x := nT)
 refine tn ?_
 refine cx 40 (fun gf sgf => ?_) (fun gf sgf => ?_)
 refine zm ?_
 exact nZ
 refine rB gf ?_ (x := lF nu)
 refine rB gf ?_ (x := lD [val _] az)
 refine rB gf ?_ (x := cL [(false, [val _]), (false, [val _]), (false, [val _])] [(false, [val _]), (false, [val _]), (false, [val _])] fX (hs := by exact gl))
 refine rB gf ?_ (x := nT)
 refine rA ?_ (x := aF gf)
 refine sc ?_ ?_ <;> intro hba
 exact Cb
 have hpr : lx x = true := by
  unfold lx aK
  simp only [aS, decide_eq_true_eq]
  refine ⟨by first | assumption | simp_all, ?_⟩
  first | omega | (simp only [aK, aS, decide_eq_true_eq, Bool.not_eq_true, Bool.not_eq_false] at *; omega)
 have hpl := jy hpr
 have hsb : (aK x.Segment 0 7 && aK x.Base 0 4) = true := by simp_all
 refine eG ?_
 refine sS [1, 2, 3] [1] ?_
 refine ca ?_
 refine sP [1, 2, 3, 4] [1] ?_
 refine sL [1, 3] [1] (fun k : Nat => k ≤ x.Ids.length ∧ oM x k = true) (fun k : Nat => [(4, RV.int (k : Int))]) (fun k : Nat => []) (fun k : Nat => x.Ids.length - k) 0 (by exact ⟨by omega, rfl⟩) (by exact aI (by exact rfl) tI) (by exact tI) ?_
 rintro k ⟨hk, ha⟩
 refine tG ?_
 refine sc ?_ ?_ <;> intro hbb
 have hlt : k < x.Ids.length := by omega
 have htl : k < x.aeF.length := by omega
 have hrl : k < x.Rows.length := by omega
 refine dh ?_
 refine sQ [1, 3, 4] [1] ?_
 refine Ee ?_
 refine dA 1 ?_ (x := lD [sl .v _] bF)
 refine dA 0 ?_ (x := sM)
 refine Og ?_
 refine dA 31 ?_ (x := cL [(false, [val _]), (false, [val _]), (false, [val _])] [(false, [val _]), (false, [val _]), (false, [val _])] fX (hs := by exact gl))
 refine dA 63 ?_ (x := nT)
 refine dA 127 ?_ (x := sM)
 refine dx 58 (fun gg sgg => ?_) (fun gg sgg => ?_)
 refine dT 255 gg ?_
 refine dT 511 gg ?_
 refine dT 255 gg ?_
 refine dT 2047 gg ?_
 refine dT 4095 gg ?_
 refine dT 255 gg ?_
 refine dT 8447 gg ?_
 refine dT 32767 gg ?_
 refine dT 65535 gg ?_
 refine dA 131071 ?_ (x := aO gg)
 refine cv ?_
 exact JH
 refine dB 255 gg ?_ (x := lF kb)
 refine dB 511 gg ?_ (x := lD [sl .v _] bF)
 refine dB 255 gg ?_ (x := sM)
 refine dB 2047 gg ?_ (x := aU (k := k) (by decide) bC (by exact tI) (by rfl) (by exact aW (by omega) (by rw [df (d := 0) (by omega)])) (by exact rfl))
 refine dB 4095 gg ?_ (x := lE [val _] az)
 refine dB 255 gg ?_ (x := lF nu)
 refine dB 8447 gg ?_ (x := lD [val _] az)
 refine dB 32767 gg ?_ (x := cL [(false, [val _]), (false, [val _]), (false, [val _])] [(false, [val _]), (false, [val _]), (false, [val _])] fX (hs := by exact gl))
 refine dB 65535 gg ?_ (x := nT)
 refine dA 131071 ?_ (x := aF gg)
 refine sc ?_ ?_ <;> intro hbc
 exact JH
 have hyes : kg x k = true := by simp_all [kg]
 refine bb ?_
 refine sG [1, 3, 4] [1] ?_
 refine cb ?_
 exact JF
 have hend : k = x.Ids.length := by omega
 rw [hend] at ha
 refine bq ?_
 refine sT [1, 3, 4] [1] ?_
 refine cm ?_
 exact rb (by simp_all [bZ])
def TP {x : br}  : aN prog 33 [(true, [val (vI x.Segment), val (vI x.Base), sl .v (x.Ids.map am), sl .v (x.aeF.map am), sl .v (x.Rows.map am)])] (aJ [(false, [val (vI (jz x))])]) := by
 refine sF func33 fun h0 w0 Fz0 => ?_
 refine sn 0 2 fun hl0_2 => ?_
 refine sn 0 3 fun hl0_3 => ?_
 refine sn 0 4 fun hl0_4 => ?_
 refine po ?_
 refine lj ?_
 refine zip ?_
 refine rA ?_ (x := nT)
 refine sc ?_ ?_ <;> intro hba
 have hok : bZ x = false := by simpa using hba
 refine sS [1, 2] [1] ?_
 refine cm ?_
 exact (aI (by refine bk ?_; unfold jz; rw [if_neg (by rw [hok]; simp)]) tI)
 have hok : bZ x = true := by simpa using hba
 obtain ⟨hp_, hb0, hb4, hrw⟩ := kh hok
 have hpl := jy hp_
 refine bb ?_
 refine sS [1, 2] [1] ?_
 refine rA ?_ (x := lF nu)
 refine rA ?_ (x := lD [val _] az)
 refine zp ?_
 refine rA ?_ (x := lF kb)
 refine qU ?_
 refine sP [1, 2, 3, 12, 13, 14] [1] ?_
 refine sL [1, 2, 12, 13] [1] (fun k : Nat => k ≤ x.Rows.length) (fun k : Nat => [(3, RV.int (x.Base + ((List.range k).map (pT x)).sum)), (14, RV.int (k : Int))]) (fun k : Nat => []) (fun k : Nat => x.Rows.length - k) 0 (by omega) (by exact aI (by exact bk (by simp)) (aI (by exact rfl) tI)) (by exact tI) ?_
 rintro k hk
 refine cn ?_
 refine sc ?_ ?_ <;> intro hbb
 have hlt : k < x.Rows.length := by omega
 have hsm := mO (f := pT x) (m := 4) (n := x.Ids.length) (fun i hi => hrw i hi) k (by omega)
 have hr1 : 0 ≤ x.Rows[k] ∧ x.Rows[k] ≤ 4 := by have := hrw k (by omega); rwa [← df hlt] at this
 refine bi ?_
 refine sT [1, 2, 3, 12, 13, 14] [1] ?_
 refine mF ?_
 refine sG [1, 2, 3, 5, 12, 13, 14] [1] ?_
 refine rM ?_
 refine cb ?_
 refine sG [1, 2, 3, 5, 12, 13, 14] [1] ?_
 refine cF ?_
 refine nx (k + 1) (by omega) (e := (by exact aI (by exact bk (by rw [ki, ← Int.add_assoc]; unfold pT; rw [← df hlt])) (aI (by exact rfl) tI)))
 have hend : k = x.Rows.length := by omega
 refine bq ?_
 refine sT [1, 2, 3, 12, 13, 14] [1] ?_
 refine rM ?_
 refine db ?_
 exact (aI (by refine bk ?_; unfold jz; rw [if_pos hok, hend]) tI)
def acQ {p1 p2 p3 : Fl} {l : List br}  (hb : l.length ≤ 1048576) : aN prog 32 [(false, [sl .v (l.map (bl p1 p2 p3))])] (aJ [(false, [val (vI (oN l))])]) := by
 refine sF func32 fun h0 w0 Fz0 => ?_
 refine sj 0 fun hl0 => ?_
 refine wi ?_
 refine eH ?_
 refine sS [0, 2, 3] [] ?_
 refine Eh ?_
 refine sP [0, 2, 3, 6, 7, 8] [] ?_
 refine sL [0, 2, 6, 7] [] (fun k : Nat => k ≤ l.length) (fun k : Nat => [(3, RV.int (((l.take k).map jz).sum)), (8, RV.int (k : Int))]) (fun k : Nat => []) (fun k : Nat => l.length - k) 0 (by omega) (by exact aI (by first | exact rfl | simp) (aI (by exact rfl) tI)) (by exact tI) ?_
 rintro k hk
 refine cn ?_
 refine sc ?_ ?_ <;> intro hba
 have hlt : k < l.length := by omega
 have hsm := Xi (l.take k)
 rw [bv] at hsm
 unfold oN at hsm
 have hw1 := QG l[k]
 refine bi ?_
 refine sS [0, 2, 3, 6, 7, 8] [] ?_
 refine qA ?_
 refine sE ?_
 refine sH [0, 2, 3, 5, 6, 7, 8] [5] ?_
 refine rM ?_
 refine rA ?_ (x := lD [val _, val _, sl .v _, sl .v _, sl .v _] iX)
 refine rA ?_ (x := cL [(true, [val _, val _, sl _ _, sl _ _, sl _ _])] [(true, [val _, val _, sl .v _, sl .v _, sl .v _])] RD (hs := by exact TP))
 refine lh ?_
 refine sG [0, 2, 3, 5, 6, 7, 8] [5] ?_
 refine cF ?_
 refine nx (k + 1) (by omega) (e := (by exact aI (by exact bk (by rw [EF hlt])) (aI (by exact rfl) tI)))
 have hend : k = l.length := by omega
 refine bq ?_
 refine sS [0, 2, 3, 6, 7, 8] [] ?_
 exact xU
def acR {x : br}  : aN prog 105 [(true, [val (vI x.Segment), val (vI x.Base), sl .v (x.Ids.map am), sl .v (x.aeF.map am), sl .v (x.Rows.map am)])] (aJ [(false, [sl ab ((fb x).map am)])]) := by
 refine sF func105 fun h0 w0 Fz0 => ?_
 refine sn 0 2 fun hl0_2 => ?_
 refine sn 0 3 fun hl0_3 => ?_
 refine sn 0 4 fun hl0_4 => ?_
 refine po ?_
 refine yF ?_
 refine np ?_
 refine sS [1, 2, 3] [1] ?_
 refine zip ?_
 refine rA ?_ (x := nT)
 refine sc ?_ ?_ <;> intro hba
 have hok : bZ x = false := by simpa using hba
 refine sS [1, 2, 3] [1] ?_
 refine jQ ?_
 exact (aI (by refine bG ?_; unfold fb; rw [if_neg (by rw [hok]; simp)]; rfl) tI)
 have hok : bZ x = true := by simpa using hba
 obtain ⟨hp_, hb0, hb4, hrw⟩ := kh hok
 have hpl := jy hp_
 refine bb ?_
 refine vG ?_
 refine oh ?_
 refine ze ?_
 refine rA ?_ (x := lF kb)
 refine qU ?_
 refine sP [1, 2, 3, 4, 17, 18, 19] [1] ?_
 refine sL [1, 2, 4, 17, 18] [1] (fun k : Nat => k ≤ x.Rows.length) (fun k : Nat => [(3, RV.slc ab (((List.range k).map (fZ x)).map am)), (19, RV.int (k : Int))]) (fun k : Nat => []) (fun k : Nat => x.Rows.length - k) 0 (by omega) (by exact aI (by first | exact rfl | simp) (aI (by exact rfl) tI)) (by exact tI) ?_
 rintro k hk
 refine cn ?_
 refine sc ?_ ?_ <;> intro hbb
 have hlt : k < x.Ids.length := by omega
 have hrl : k < x.Rows.length := by omega
 have hr1 : 0 ≤ x.Rows[k] ∧ x.Rows[k] ≤ 4 := by have := hrw k (by omega); rwa [← df hrl] at this
 have hd1 := Int.tdiv_nonneg hb0 (by omega : (0 : Int) ≤ x.Ids.length)
 have hd2 := Int.tdiv_le_self (x.Ids.length : Int) hb0
 have hsl : ((List.range k).map (fZ x)).length = k := by rw [aw, List.length_range]
 have hrg : (List.range k).length = k := List.length_range
 refine bi ?_
 refine sT [1, 2, 3, 4, 17, 18, 19] [1] ?_
 refine rM ?_
 refine mF ?_
 refine rS ?_
 refine sS [1, 2, 3, 4, 5, 6, 17, 18, 19] [1] ?_
 refine zk ?_
 refine oo ?_
 refine rA ?_ (x := Ia)
 refine lh ?_
 refine be ?_
 refine sS [1, 2, 3, 4, 5, 6, 7, 17, 18, 19] [1] ?_
 refine zk ?_
 refine yH ?_
 refine rA ?_ (x := dq)
 refine sc ?_ ?_ <;> intro hbc
 have hc := hbc
 refine sG [1, 2, 3, 4, 5, 6, 7, 17, 18, 19] [1] ?_
 refine cb ?_
 exact JI
 have hc := hbc
 refine bb ?_
 exact JI
 have hend : k = x.Ids.length := by omega
 refine bq ?_
 refine sT [1, 2, 3, 4, 17, 18, 19] [1] ?_
 refine jQ ?_
 exact (aI (by refine bG ?_; unfold fb; rw [if_pos hok, hend]) tI)
def acS {x : br}  : aN prog 106 [(true, [val (vI x.Segment), val (vI x.Base), sl .v (x.Ids.map am), sl .v (x.aeF.map am), sl .v (x.Rows.map am)])] (aJ [(false, [sl ab ((fb x).map am)])]) := by
 refine sF func106 fun h0 w0 Fz0 => ?_
 refine sn 0 2 fun hl0_2 => ?_
 refine sn 0 3 fun hl0_3 => ?_
 refine sn 0 4 fun hl0_4 => ?_
 refine po ?_
 refine yF ?_
 refine uY ?_
 refine vG ?_
 refine oh ?_
 refine ze ?_
 refine ca ?_
 refine sP [1, 2, 3, 4, 5] [1] ?_
 refine sL [1, 2, 4] [1] (fun k : Nat => k ≤ x.Ids.length ∧ (0 < k → bZ x = true)) (fun k : Nat => [(3, RV.slc ab (((List.range k).map (fZ x)).map am)), (5, RV.int (k : Int))]) (fun k : Nat => []) (fun k : Nat => x.Ids.length - k) 0 (by exact ⟨by omega, fun h => absurd h (Nat.lt_irrefl 0)⟩) (by exact aI (by first | exact rfl | simp) (aI (by exact rfl) tI)) (by exact tI) ?_
 rintro k ⟨hk, ha⟩
 refine tG ?_
 refine rM ?_
 refine cx 14 (fun ga sga => ?_) (fun ga sga => ?_)
 refine rB ga ?_ (x := lD [val _, val _, sl .v _, sl .v _, sl .v _] iX)
 refine rB ga ?_ (x := cL [(true, [val _, val _, sl _ _, sl _ _, sl _ _])] [(true, [val _, val _, sl .v _, sl .v _, sl .v _])] RI (hs := by exact TO))
 refine rA ?_ (x := aO ga)
 refine sc ?_ ?_ <;> intro hba
 have hok : bZ x = true := by simp_all
 obtain ⟨hp_, hb0, hb4, hrw⟩ := kh hok
 have hpl := jy hp_
 have hlt : k < x.Ids.length := by omega
 have hrl : k < x.Rows.length := by omega
 have hr1 : 0 ≤ x.Rows[k] ∧ x.Rows[k] ≤ 4 := by have := hrw k (by omega); rwa [← df hrl] at this
 have hd1 := Int.tdiv_nonneg hb0 (by omega : (0 : Int) ≤ x.Ids.length)
 have hd2 := Int.tdiv_le_self (x.Ids.length : Int) hb0
 have hsl : ((List.range k).map (fZ x)).length = k := by rw [aw, List.length_range]
 have hrg : (List.range k).length = k := List.length_range
 refine dh ?_
 refine sQ [1, 2, 3, 4, 5] [1] ?_
 refine da cG ?_
 refine dA 0 ?_ (x := lF nu)
 refine dA 1 ?_ (x := lD [val _] az)
 refine dA 0 ?_ (x := sM)
 refine dA 7 ?_ (x := Ia)
 refine dA 0 ?_ (x := lF kb)
 refine dA 16 ?_ (x := lD [sl .v _] bF)
 refine dA 0 ?_ (x := sM)
 refine dA 112 ?_ (x := aU (k := k) (by decide) bC (by exact tI) (by rfl) (by exact aW hrl rfl) (by exact rfl))
 refine dA 240 ?_ (x := lE [val _] az)
 refine dA 511 ?_ (x := jm)
 refine dA 1023 ?_ (x := sA)
 refine be ?_
 refine sS [1, 2, 3, 4, 5, 6] [1] ?_
 refine zk ?_
 refine yH ?_
 refine rA ?_ (x := dq)
 refine sc ?_ ?_ <;> intro hbb
 have hc := hbb
 refine sG [1, 2, 3, 4, 5, 6] [1] ?_
 refine cb ?_
 exact JJ
 have hc := hbb
 refine bb ?_
 exact JJ
 exact JK
 refine mD ?_
 exact JK
def acT {p1 p2 p3 : Fl} {l : List br} {t : Int}  (hb : l.length ≤ 1048576) : aN prog 31 [(false, [sl .v (l.map (bl p1 p2 p3))]), (false, [val (vI t)])] (aJ [(false, [val (vI (fk l t))])]) := by
 refine sF func31 fun h0 w0 Fz0 => ?_
 refine sj 0 fun hl0 => ?_
 refine sR ?_
 refine rK ?_
 refine sS [0, 1, 4] [] ?_
 refine eH ?_
 refine sS [0, 1, 4, 5] [] ?_
 refine Eh ?_
 refine sP [0, 1, 4, 5, 10, 11, 12] [] ?_
 refine sL [0, 1, 4, 10, 11] [] (fun k : Nat => k ≤ l.length) (fun k : Nat => [(5, RV.int (((l.take k).map (gx t)).sum)), (12, RV.int (k : Int))]) (fun k : Nat => []) (fun k : Nat => l.length - k) 0 (by omega) (by exact aI (by first | exact rfl | simp) (aI (by exact rfl) tI)) (by exact tI) ?_
 rintro k hk
 refine cn ?_
 refine sc ?_ ?_ <;> intro hba
 have hlt : k < l.length := by omega
 have hsm := tX (l.take k) t
 rw [bv] at hsm
 unfold fk at hsm
 have hsl := (zQ l[k]).1
 refine bi ?_
 refine sS [0, 1, 4, 5, 10, 11, 12] [] ?_
 refine qA ?_
 refine sE ?_
 refine sT [0, 1, 4, 5, 7, 10, 11, 12] [7] ?_
 refine rA ?_ (x := lD [val _, val _, sl .v _, sl .v _, sl .v _] iX)
 refine rA ?_ (x := cL [(true, [val _, val _, sl _ _, sl _ _, sl _ _])] [(true, [val _, val _, sl .v _, sl .v _, sl .v _])] XW (hs := by exact acR))
 refine rA ?_ (x := lN bC)
 refine eo ?_
 refine sP [0, 1, 4, 5, 7, 10, 11, 12, 17, 18, 19] [7] ?_
 refine sL [0, 1, 4, 7, 10, 11, 12, 17, 18] [7] (fun k2 : Nat => k2 ≤ (fb l[k]).length) (fun k2 : Nat => [(5, RV.int (((l.take k).map (gx t)).sum + ((List.range k2).map (kO t l[k])).sum)), (19, RV.int (k2 : Int))]) (fun k2 : Nat => []) (fun k2 : Nat => (fb l[k]).length - k2) 0 (by omega) (by exact aI (by exact bk (by simp)) (aI (by exact rfl) tI)) (by exact tI) ?_
 rintro k2 hk2
 refine cn ?_
 refine sc ?_ ?_ <;> intro hbb
 have hlt2 : k2 < (fb l[k]).length := by omega
 have hso := EH hlt2
 rw [← df hlt2] at hso
 have htl := hso.2.2.1
 have hsm2 := mO (f := kO t l[k]) (m := 9) (fun i hi => EI hi) k2 hk2
 refine bi ?_
 refine sT [0, 1, 4, 5, 7, 10, 11, 12, 17, 18, 19] [7] ?_
 refine rM ?_
 refine sJ ?_
 refine rS ?_
 refine rS ?_
 refine sS [0, 1, 4, 5, 7, 8, 9, 10, 11, 12, 17, 18, 19] [7] ?_
 refine rA ?_ (x := lF lY)
 refine rA ?_ (x := lD [sl .v _] bF)
 refine rM ?_
 refine sJ ?_
 refine to ?_
 refine sc ?_ ?_ <;> intro hbc
 have hc := hbc
 refine sG [0, 1, 4, 5, 7, 8, 9, 10, 11, 12, 17, 18, 19] [7] ?_
 refine rM ?_
 refine cb ?_
 exact JM
 have hc := hbc
 refine bb ?_
 exact JM
 have hend2 : k2 = (fb l[k]).length := by omega
 refine bq ?_
 refine sH [0, 1, 4, 5, 7, 10, 11, 12, 17, 18, 19] [7] ?_
 refine cF ?_
 exact JN
 have hend : k = l.length := by omega
 refine bq ?_
 refine sS [0, 1, 4, 5, 10, 11, 12] [] ?_
 exact xU
def acU {p1 p2 p3 : Fl} {l : List br} {t : Int}  (hb : l.length ≤ 1048576) : aN prog 35 [(false, [sl .v (l.map (bl p1 p2 p3))]), (false, [val (vI t)])] (aJ [(false, [val (vI (fk l t))])]) := by
 refine sF func35 fun h0 w0 Fz0 => ?_
 refine sj 0 fun hl0 => ?_
 refine sR ?_
 refine rK ?_
 refine sS [0, 1, 4] [] ?_
 refine eH ?_
 refine vX ?_
 refine sL [0, 1, 4] [] (fun k : Nat => k ≤ l.length) (fun k : Nat => [(5, RV.int (((l.take k).map (gx t)).sum)), (6, RV.int (k : Int))]) (fun k : Nat => []) (fun k : Nat => l.length - k) 0 (by omega) (by exact aI (by first | exact rfl | simp) (aI (by exact rfl) tI)) (by exact tI) ?_
 rintro k hk
 refine oq ?_
 refine vH ?_
 refine sc ?_ ?_ <;> intro hba
 have hlt : k < l.length := by omega
 have hsm := tX (l.take k) t
 rw [bv] at hsm
 unfold fk at hsm
 have hsl := (zQ l[k]).1
 refine vO ?_
 refine jp ?_
 refine qA ?_
 refine rA ?_ (x := cL [(true, [val _, val _, sl _ _, sl _ _, sl _ _])] [(true, [val _, val _, sl .v _, sl .v _, sl .v _])] XX (hs := by exact acS))
 refine rA ?_ (x := tA)
 refine sS [0, 1, 4, 5, 6, 7] [] ?_
 refine ca ?_
 refine sP [0, 1, 4, 5, 6, 7, 8] [] ?_
 refine sL [0, 1, 4, 6, 7] [] (fun k2 : Nat => k2 ≤ (fb l[k]).length) (fun k2 : Nat => [(5, RV.int (((l.take k).map (gx t)).sum + ((List.range k2).map (kO t l[k])).sum)), (8, RV.int (k2 : Int))]) (fun k2 : Nat => []) (fun k2 : Nat => (fb l[k]).length - k2) 0 (by omega) (by exact aI (by exact bk (by simp)) (aI (by exact rfl) tI)) (by exact tI) ?_
 rintro k2 hk2
 refine jR ?_
 refine sc ?_ ?_ <;> intro hbb
 have hlt2 : k2 < (fb l[k]).length := by omega
 have hso := EH hlt2
 rw [← df hlt2] at hso
 have htl := hso.2.2.1
 have hsm2 := mO (f := kO t l[k]) (m := 9) (fun i hi => EI hi) k2 hk2
 refine bi ?_
 refine sS [0, 1, 4, 5, 6, 7, 8] [] ?_
 refine jp ?_
 refine rA ?_ (x := aU (by decide) fL (by exact tI) (by exact rfl) (by exact aW (by omega) rfl) (by exact rfl))
 refine rA ?_ (x := cd (by decide) lY (by exact nl rfl))
 refine rA ?_ (x := lE [sl .v _] bF)
 refine rM ?_
 refine sJ ?_
 refine to ?_
 refine sc ?_ ?_ <;> intro hbc
 have hc := hbc
 refine sG [0, 1, 4, 5, 6, 7, 8] [] ?_
 refine rM ?_
 refine jp ?_
 refine sJ ?_
 refine lh ?_
 exact JO
 have hc := hbc
 refine bb ?_
 exact JO
 have hend2 : k2 = (fb l[k]).length := by omega
 refine bq ?_
 refine sG [0, 1, 4, 5, 6, 7, 8] [] ?_
 refine cb ?_
 exact JN
 have hend : k = l.length := by omega
 refine vK ?_
 exact xU
end Go.Proofs.YtmekkgdboplbjaaGreat
