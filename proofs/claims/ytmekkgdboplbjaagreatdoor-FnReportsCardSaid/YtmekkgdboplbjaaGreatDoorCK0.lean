/- What functions of the program compute. No condition. -/
import Derived.Test.YtmekkgdboplbjaaGreatDoorCI0
set_option linter.all false
namespace Go.Proofs.YtmekkgdboplbjaaGreatDoor
open Go Go.RowKit M PV Tryz
set_option maxRecDepth 10000
attribute [local irreducible] PV.Lcl PV.LclR RV.Lcl
def LA : dL prog 27 = some [(0, 1), (1, 1)] := by kernel_rfl
def LB {v : aM} {t : Int}  : aN prog 236 [(true, [val (vI v.Id), sl .v (v.Values.map an), val (vI v.ZT), val (vI v.ZP)]), (false, [val (vI t)])] (aF [(false, [val (.bool (fE v t))])]) := by
 refine sF func236 fun h0 w0 Fz0 => ?_
 exact EL
def LC {v : aM} {t : Int}  : aN prog 313 [(true, [val (vI v.Id), sl .v (v.Values.map an), val (vI v.ZT), val (vI v.ZP)]), (false, [val (vI t)])] (aF [(false, [val (.bool (fE v t))])]) := by
 refine sF func313 fun h0 w0 Fz0 => ?_
 exact EL
def LD {v : aM}  (hb : cw v ≤ 68719476736) : aN prog 83 [(true, [val (vI v.Id), sl .v (v.Values.map an), val (vI v.ZT), val (vI v.ZP)])] (aF [(true, [val (vI (ee v).Id), sl ae ((ee v).Values.map an)])]) := by
 refine sF func83 fun h0 w0 Fz0 => ?_
 refine sn 0 1 fun hl0_1 => ?_
 have hbu := hb
 simp only [cw, dP, bh] at hbu
 refine vU ?_
 refine wa ?_
 refine tv ?_
 refine dA 0 ?_ (x := lF rT)
 refine dA 1 ?_ (x := lD [val _] aw)
 refine dA 0 ?_ (x := lF mL)
 refine dA 4 ?_ (x := lD [sl .v _] bz)
 refine dA 12 ?_ (x := cL [(false, [sl _ _])] [(false, [sl .v _])] Qb (hs := by exact Ud (by omega)))
 refine dA 31 ?_ (x := dM (qs := [(false, [val _]), (false, [sl _ _])]) (cs := [val _, sl _ _]) (by decide) iC mG LA (by exact rfl) (by exact (aI (by exact tI) (aI (by exact tI) tI))) rfl (by exact rfl))
 refine dA 63 ?_ (x := bf (ag := true) (vs := [val _, sl _ _]) gB (by exact tI) (by exact rfl) (by exact nl rfl))
 exact EC
def Uk {v : aM} {w : aM}  : aN prog 171 [(true, [val (vI v.Id), sl .v (v.Values.map an), val (vI v.ZT), val (vI v.ZP)]), (true, [val (vI w.Id), sl .v (w.Values.map an), val (vI w.ZT), val (vI w.ZP)])] (aF [(false, [val (.bool (ql v w))])]) := by
 refine sF func171 fun h0 w0 Fz0 => ?_
 refine sn 0 1 fun hl0_1 => ?_
 refine sn 1 1 fun hl1_1 => ?_
 refine Jx ?_
 refine rK ?_
 refine sT [2, 3, 4] [2, 3] ?_
 refine rA ?_ (x := lD [val _, sl .v _, val _, val _] fC)
 refine rA ?_ (x := lF kK)
 refine rA ?_ (x := lD [val _] aw)
 refine rA ?_ (x := cL [(true, [val _, sl _ _, val _, val _]), (false, [val _])] [(true, [val _, sl .v _, val _, val _]), (false, [val _])] Lb (hs := by exact LB))
 refine rM ?_
 refine cx 9 (fun ga sga => ?_) (fun ga sga => ?_)
 refine vD ?_
 exact EM
 refine rB ga ?_ (x := lD [val _, sl .v _, val _, val _] fC)
 refine rB ga ?_ (x := lF kK)
 refine rB ga ?_ (x := lD [val _] aw)
 refine rB ga ?_ (x := cL [(true, [val _, sl _ _, val _, val _]), (false, [val _])] [(true, [val _, sl .v _, val _, val _]), (false, [val _])] Lb (hs := by exact LB))
 refine rA ?_ (x := aH ga)
 exact EM
def Ul {a : aM} {b : aM}  : aN prog 174 [(true, [val (vI a.Id), sl .v (a.Values.map an), val (vI a.ZT), val (vI a.ZP)]), (true, [val (vI b.Id), sl .v (b.Values.map an), val (vI b.ZT), val (vI b.ZP)])] (aF [(false, [val (.bool (eB a b))])]) := by
 refine sF func174 fun h0 w0 Fz0 => ?_
 refine sn 0 1 fun hl0_1 => ?_
 refine sn 1 1 fun hl1_1 => ?_
 refine Jx ?_
 refine rK ?_
 refine sT [2, 3, 4] [2, 3] ?_
 refine pR ?_
 refine pR ?_
 refine rA ?_ (x := gJ)
 refine rM ?_
 refine cx 10 (fun ga sga => ?_) (fun ga sga => ?_)
 refine lO ?_
 refine az.cases (s := 22) rfl (fun g2 => ?_) (fun g2 => nomatch g2)
 refine my ?_
 exact qR
 refine rB ga ?_ (x := lF kL)
 refine rB ga ?_ (x := lD [val _] aw)
 refine rB ga ?_ (x := gJ)
 refine rB ga ?_ (x := sM)
 refine cx 14 (fun gb sgb => ?_) (fun gb sgb => ?_)
 refine zX ?_
 refine rB gb ?_ (x := lF kK)
 refine Af ?_
 refine rB ga ?_ (x := aK gb)
 refine lf ?_
 refine cx 22 (fun gc sgc => ?_) (fun gc sgc => ?_)
 refine ny ?_
 exact qR
 refine vZ ?_
 refine Aw ?_
 refine cx 26 (fun gd sgd => ?_) (fun gd sgd => ?_)
 refine rB gd ?_ (x := lF kL)
 refine rB gd ?_ (x := lD [val _] aw)
 refine rB gd ?_ (x := lF kK)
 refine rB gd ?_ (x := lD [val _] aw)
 refine rB gd ?_ (x := ir)
 refine Aq ?_
 exact qR
 refine zf gd ?_
 refine Ar ?_
 exact qR
 refine zf gb ?_
 refine rB ga ?_ (x := aH gb)
 refine lf ?_
 refine az.cases (s := 22) rfl (fun g6 => nomatch g6) (fun g6 => ?_)
 refine rB g6 ?_ (x := lF kL)
 refine rB g6 ?_ (x := lD [val _] aw)
 refine rB g6 ?_ (x := gJ)
 refine rB g6 ?_ (x := sM)
 refine cx 26 (fun gc sgc => ?_) (fun gc sgc => ?_)
 refine vZ ?_
 refine rB gc ?_ (x := lF kK)
 refine rB gc ?_ (x := lD [val _] aw)
 refine rB gc ?_ (x := ir)
 refine rB g6 ?_ (x := aK gc)
 refine rA ?_ (x := aH g6)
 exact qR
 refine zf gc ?_
 refine rB g6 ?_ (x := aH gc)
 refine rA ?_ (x := aH g6)
 exact qR
def Um {v : aM} {now : Int}  (hn : now ≤ 100000) : aN prog 173 [(true, [val (vI v.Id), sl .v (v.Values.map an), val (vI v.ZT), val (vI v.ZP)]), (false, [val (vI now)])] (aF [(false, [val (.bool (cD now v))])]) := by
 refine sF func173 fun h0 w0 Fz0 => ?_
 refine sn 0 1 fun hl0_1 => ?_
 refine vU ?_
 refine rK ?_
 refine sT [1, 2, 4] [2] ?_
 refine pR ?_
 refine rA ?_ (x := lF mL)
 refine rA ?_ (x := lD [sl .v _] bz)
 refine rA ?_ (x := dM (qs := [(false, [val _]), (false, [sl _ _])]) (cs := [val _, sl _ _]) (by decide) iC mG LA (by exact rfl) (by exact (aI (by exact tI) (aI (by exact tI) tI))) rfl (by exact rfl))
 refine rA ?_ (x := cL [(true, [val _, sl _ _])] [(true, [val _, sl .v _])] tS (hs := by exact (uk (x := ⟨v.Id, v.Values⟩))))
 refine rM ?_
 refine cx 11 (fun ga sga => ?_) (fun ga sga => ?_)
 refine rB ga ?_ (x := lF kK)
 refine rB ga ?_ (x := lD [val _] aw)
 refine rB ga ?_ (x := sM)
 refine vH ?_
 refine rM ?_
 refine cx 17 (fun gb sgb => ?_) (fun gb sgb => ?_)
 refine zX ?_
 refine rB gb ?_ (x := fb)
 refine rB gb ?_ (x := sM)
 refine cx 21 (fun gc sgc => ?_) (fun gc sgc => ?_)
 refine zt gc ?_
 refine rB gb ?_ (x := aK gc)
 refine rA ?_ (x := aK gb)
 exact vj
 refine vZ ?_
 refine rB gc ?_ (x := lF kK)
 refine rB gc ?_ (x := lD [val _] aw)
 refine rB gc ?_ (x := ya (by decide) (by exact tI) (aJ rfl) (by simp only [aB, aL, decide_eq_true_eq] at *; unfold aQ; omega))
 refine rB gc ?_ (x := sM)
 refine rB gc ?_ (x := cL [(false, [val _]), (false, [val _]), (false, [val _])] [(false, [val _]), (false, [val _]), (false, [val _])] fP (hs := by exact fV))
 refine rB gb ?_ (x := aH gc)
 refine rA ?_ (x := aK gb)
 exact vj
 refine oF ?_
 exact vj
 refine kx ?_
 refine az.cases (s := 17) rfl (fun g4 => nomatch g4) (fun g4 => ?_)
 refine zf g4 ?_
 refine rA ?_ (x := aH g4)
 exact vj
def Un {p1 p2 : Fl} {s : Store}  (hb : cq s ≤ 68719476736) : aN prog 164 [(true, [sl .v (s.ZE.map (aO p1 p2)), val (vI s.Now)])] (aF [(false, [sl be ((aY s).map (ff .v))])]) := by
 refine sF func164 fun h0 w0 Fz0 => ?_
 refine sn 0 0 fun hl0_0 => ?_
 refine kt ?_
 refine rA ?_ (x := ki (.inr rfl) (by decide) (lG (t := 116) (e := 4)))
 refine sT [1, 2] [1] ?_
 refine td ?_
 refine re ?_
 refine sL [1, 2] [1] (fun k : Nat => k ≤ s.ZE.length) (fun k : Nat => [(3, RV.slc be ((cV s k).map (ff .v))), (4, RV.int (k : Int))]) (fun k : Nat => []) (fun k : Nat => s.ZE.length - k) 0 (by omega) (by exact aI (by exact rfl) (aI (by exact rfl) tI)) (by exact tI) ?_
 rintro k hk
 refine cI ?_
 refine rj ?_
 refine sc (fun hba => ?_) (fun hba => ?_)
 have hlt : k < s.ZE.length := by omega
 have hal := nM s
 have hsp := congrArg List.length (wU hlt)
 simp only [aD] at hsp
 refine bw ?_
 refine sH [1, 2, 3, 4] [1] ?_
 refine rA ?_ (x := tM)
 refine mA ?_
 refine rA ?_ (x := aU (by decide) fj (by exact tI) (by exact rfl) (by exact aV (by omega) rfl) (by exact rfl))
 refine rA ?_ (x := px (qs := [sl .v _]) (by decide) iP (fun _ => rfl) (by exact nl rfl) (by exact (ao.cons (PV.to_map (fun _ => (aq (ao.cons (PV.to_map (fun _ => (aq ao.nil))) (aq (aq ao.nil)))))) ao.nil)) (by exact (ab.cons (bor_sl _) ab.nil)))
 refine rA ?_ (x := iW (by decide) cX fU rfl rfl (by decide) (by first | (intro cs hcs; obtain ⟨x, _, rfl⟩ := List.mem_map.1 hcs; exact rfl) | simp) (by first | (intro cs hcs; obtain ⟨x, _, rfl⟩ := List.mem_map.1 hcs; exact (by exact lq)) | simp) (by simp only [am, aD, List.length_cons, List.length_nil]; omega) (by simp only [am, aD, List.length_cons, List.length_nil]; omega))
 refine rA ?_ (x := tA)
 refine ww ?_
 refine nx (k + 1) (by omega) (e := (by exact aI (by exact bI (by rw [tY hlt, bb]; rfl)) (aI (by exact rfl) tI)))
 have hend : k = s.ZE.length := by omega
 refine wo ?_
 refine gz ?_
 exact (aI (by refine bI ?_; rw [hend, AV]) tI)
def LF {p1 p2 : Fl} {s : Store}  (hb : cq s ≤ 68719476736) : aN prog 85 [(true, [sl .v (s.ZE.map (aO p1 p2)), val (vI s.Now)])] (aF [(false, [val (.bool (bL s))])]) := by
 refine sF func85 fun h0 w0 Fz0 => ?_
 refine sn 0 0 fun hl0_0 => ?_
 refine kt ?_
 refine iY ?_
 refine oG ?_
 refine rA ?_ (x := cL [(false, [val _]), (false, [val _]), (false, [val _])] [(false, [val _]), (false, [val _]), (false, [val _])] fP (hs := by exact fV))
 refine gk ?_
 refine cx 12 (fun ga sga => ?_) (fun ga sga => ?_)
 exact EN
 refine zY ?_
 refine wD ?_
 refine sc (fun hba => ?_) (fun hba => ?_)
 exact yR
 have hpr : lT s = true := by simp_all [lT]
 have hnow : 0 ≤ s.Now ∧ s.Now ≤ 100000 := by have h_ := hpr; simp [lT, aB] at h_; omega
 refine tK ?_
 refine tF ?_
 refine sL [1] [1] (fun k : Nat => k ≤ s.ZE.length ∧ (s.ZE.take k).all jP = true) (fun k : Nat => [(3, RV.int (k : Int))]) (fun k : Nat => []) (fun k : Nat => s.ZE.length - k) 0 (by exact ⟨by omega, by simp⟩) (by exact aI (by exact rfl) tI) (by exact tI) ?_
 rintro k ⟨hk, ha⟩
 refine cI ?_
 refine rj ?_
 refine sc (fun hbb => ?_) (fun hbb => ?_)
 have hlt : k < s.ZE.length := by omega
 refine bw ?_
 refine sT [1, 3] [1] ?_
 refine mA ?_
 refine qW ?_
 refine rA ?_ (x := lN cX)
 refine rA ?_ (x := dC)
 refine sc (fun hbc => ?_) (fun hbc => ?_)
 have hbad : bL s = false := Kg hlt (by omega)
 refine sS [1, 3] [1] ?_
 exact lK
 have hyes : jP s.ZE[k] = true := by simp [jP]; omega
 refine tG ?_
 exact pI
 have hsm : s.ZE.all jP = true := ky (by rw [show s.ZE.length = k by omega]; exact ha)
 have hal := nM s
 refine wC ?_
 refine zO ?_
 refine jJ ?_
 refine sS [1, 3, 4] [1] ?_
 refine de ?_
 refine sP [1, 3, 4, 5] [1] ?_
 refine sL [1, 3, 4] [1] (fun i : Nat => i ≤ (aY s).length ∧ lm s.Now (aY s) i = true) (fun i : Nat => [(5, RV.int (i : Int))]) (fun i : Nat => []) (fun i : Nat => (aY s).length - i) 0 (by exact ⟨by omega, rfl⟩) (by exact aI (by exact rfl) tI) (by exact tI) ?_
 rintro i ⟨hi, hg⟩
 refine iv ?_
 refine pV ?_
 refine sc (fun hbc => ?_) (fun hbc => ?_)
 have hlt2 : i < (aY s).length := by omega
 refine bw ?_
 refine dO ?_
 refine sQ [1, 3, 4, 5] [1] ?_
 refine nC ?_
 refine Io ?_
 refine dA 0 ?_ (x := lF fG)
 refine dA 16 ?_ (x := lD [val _] aw)
 refine dA 63 ?_ (x := cL [(true, [val _, sl _ _, val _, val _]), (false, [val _])] [(true, [val _, sl .v _, val _, val _]), (false, [val _])] Sx (hs := by exact (Um (by omega))))
 refine dA 127 ?_ (x := nT)
 refine sc (fun hbd => ?_) (fun hbd => ?_)
 have hvo : cD s.Now ((aY s).getD i v0) = false := by simp_all
 have hbad := wT hlt2 (Ke hvo)
 refine sS [1, 3, 4, 5] [1] ?_
 exact lK
 have hvo : cD s.Now ((aY s).getD i v0) = true := by simp_all
 refine bc ?_
 refine sS [1, 3, 4, 5] [1] ?_
 refine de ?_
 refine sP [1, 3, 4, 5, 6] [1] ?_
 refine sL [1, 3, 4, 5] [1] (fun m : Nat => m ≤ i ∧ fv (aY s) i m = true) (fun m : Nat => [(6, RV.int (m : Int))]) (fun m : Nat => []) (fun m : Nat => i - m) 0 (by exact ⟨by omega, rfl⟩) (by exact aI (by exact rfl) tI) (by exact tI) ?_
 rintro m ⟨hm, hfr⟩
 refine cI ?_
 refine oJ ?_
 refine sc (fun hbe => ?_) (fun hbe => ?_)
 have hlt3 : m < i := by omega
 have hlt4 : m < (aY s).length := by omega
 refine er ?_
 refine sQ [1, 3, 4, 5, 6] [1] ?_
 refine nC ?_
 refine Io ?_
 refine gy ?_
 refine dA 48 ?_ (x := aU (k := m) (by decide) cX (by exact tI) (by rfl) (by exact aV hlt4 (by rw [cU (d := v0) hlt4])) (by exact rfl))
 refine dA 112 ?_ (x := lE [val _, sl .v _, val _, val _] fC)
 refine dA 255 ?_ (x := cL [(true, [val _, sl _ _, val _, val _]), (true, [val _, sl _ _, val _, val _])] [(true, [val _, sl .v _, val _, val _]), (true, [val _, sl .v _, val _, val _])] Sy (hs := by exact Ul))
 refine dA 511 ?_ (x := nT)
 refine sc (fun hbf => ?_) (fun hbf => ?_)
 have hap : eB ((aY s).getD i v0) ((aY s).getD m v0) = false := by simp_all
 have hbad := wT hlt2 (Kf hlt3 hap)
 refine sS [1, 3, 4, 5, 6] [1] ?_
 exact lK
 have hap : eB ((aY s).getD i v0) ((aY s).getD m v0) = true := by simp_all
 refine bc ?_
 refine sG [1, 3, 4, 5, 6] [1] ?_
 refine ca ?_
 exact EO
 have hend2 : m = i := by omega
 refine bE ?_
 refine sH [1, 3, 4, 5, 6] [1] ?_
 refine ca ?_
 refine nx (i + 1) (by refine ⟨by omega, ?_⟩; rw [Kd, hg, Bool.true_and]; unfold ll; rw [hvo, Bool.true_and, ← hend2]; rw [hend2] at hfr ⊢; exact hfr)
 have hend1 : i = (aY s).length := by omega
 rw [hend1] at hg
 refine bE ?_
 refine sT [1, 3, 4, 5] [1] ?_
 refine cC ?_
 exact rb (by unfold bL; rw [hpr, hsm, hg]; rfl)
def Uo {p1 p2 : Fl} {s : Store}  (hb : cq s ≤ 68719476736) : aN prog 81 [(true, [sl .v (s.ZE.map (aO p1 p2)), val (vI s.Now)])] (aF [(false, [val (.bool (bL s))])]) := by
 refine sF func81 fun h0 w0 Fz0 => ?_
 refine sn 0 0 fun hl0_0 => ?_
 have hbu := hb
 simp only [cq, gN, bh] at hbu
 refine kt ?_
 refine iY ?_
 refine oG ?_
 refine vK ?_
 refine rM ?_
 refine cx 15 (fun ga sga => ?_) (fun ga sga => ?_)
 exact EN
 refine zY ?_
 refine ta ?_
 refine rA ?_ (x := aH ga)
 refine sc (fun hba => ?_) (fun hba => ?_)
 exact yR
 have hpr : lT s = true := by simp_all [lT]
 have hnow : 0 ≤ s.Now ∧ s.Now ≤ 100000 := by have h_ := hpr; simp [lT, aB] at h_; omega
 have hal := nM s
 refine wE ?_
 refine td ?_
 refine sS [1, 2, 3] [1] ?_
 refine oG ?_
 refine eK ?_
 refine sP [1, 2, 3, 23, 24, 25] [1] ?_
 refine sL [1, 23, 24] [1] (fun k : Nat => k ≤ s.ZE.length ∧ ((s.ZE.take k).all jP = true ∧ lm s.Now (aY s) (cV s k).length = true)) (fun k : Nat => [(3, RV.slc be ((cV s k).map (ff .v))), (25, RV.int (k : Int))]) (fun k : Nat => []) (fun k : Nat => s.ZE.length - k) 0 (by exact ⟨by omega, ⟨by simp, rfl⟩⟩) (by exact aI (by exact rfl) (aI (by exact rfl) tI)) (by exact tI) ?_
 rintro k ⟨hk, ha⟩
 refine eL ?_
 refine sc (fun hbb => ?_) (fun hbb => ?_)
 have hlt : k < s.ZE.length := by omega
 have hwm := fe (f := cb) hlt
 have hws : cb s.ZE[k] = s.ZE[k].length + (s.ZE[k].map cw).sum := rfl
 refine bw ?_
 refine sT [1, 3, 23, 24, 25] [1] ?_
 refine qW ?_
 refine rA ?_ (x := vA false [sl .v _])
 refine ba ?_
 refine sS [1, 3, 5, 23, 24, 25] [1] ?_
 refine pQ ?_
 refine rA ?_ (x := dC)
 refine sc (fun hbc => ?_) (fun hbc => ?_)
 have hbad : bL s = false := Kg hlt (by omega)
 refine sS [1, 3, 5, 23, 24, 25] [1] ?_
 exact lK
 have hyes : jP s.ZE[k] = true := by simp [jP]; omega
 refine bc ?_
 refine sS [1, 3, 5, 23, 24, 25] [1] ?_
 refine pQ ?_
 refine eK ?_
 refine sP [1, 3, 5, 23, 24, 25, 32, 33, 34] [1] ?_
 refine sL [1, 5, 23, 24, 25, 32, 33] [1] (fun j : Nat => j ≤ s.ZE[k].length ∧ lm s.Now (aY s) ((cV s k).length + j) = true) (fun j : Nat => [(3, RV.slc be ((cV s k ++ s.ZE[k].take j).map (ff .v))), (34, RV.int (j : Int))]) (fun j : Nat => []) (fun j : Nat => s.ZE[k].length - j) 0 (by exact ⟨by omega, ha.2⟩) (by exact aI (by exact bI (by simp)) (aI (by exact rfl) tI)) (by exact tI) ?_
 rintro j ⟨hj, hg⟩
 refine eL ?_
 refine sc (fun hbd => ?_) (fun hbd => ?_)
 have hlt2 : j < s.ZE[k].length := by omega
 have hwm2 := fe (f := cw) hlt2
 have hag := Kh hlt hlt2
 have hat := Qz hlt (Nat.le_of_lt hlt2)
 have hln : (cV s k ++ s.ZE[k].take j).length = (cV s k).length + j := by rw [aD, bg]; omega
 have hlm : (s.ZE[k].take j).length = j := by rw [bg]; omega
 refine bw ?_
 refine sT [1, 3, 5, 23, 24, 25, 32, 33, 34] [1] ?_
 refine zI ?_
 refine tb ?_
 refine dO ?_
 refine sO [(1, _), (3, _), (5, _), (7, _), (23, _), (24, _), (25, _), (32, _), (33, _), (34, _)] [(1, _), (7, (116, [val _, sl _ _, val _, val _]))] ?_
 refine bi ?_
 refine rA ?_ (x := lD [val _, sl .v _, val _, val _] fC)
 refine rA ?_ (x := cL [(true, [val _, sl _ _, val _, val _])] [(true, [val _, sl .v _, val _, val _])] Lf (hs := by exact LD (by omega)))
 refine rA ?_ (x := cL [(true, [val _, sl _ _])] [(true, [val _, sl .v _])] AK (hs := by exact BE))
 refine gk ?_
 refine cx 42 (fun gb sgb => ?_) (fun gb sgb => ?_)
 refine qa ?_
 refine az.cases (s := 50) rfl (fun g8 => ?_) (fun g8 => nomatch g8)
 refine zt g8 ?_
 refine rA ?_ (x := aK g8)
 refine cO ?_
 exact yS
 refine rB gb ?_ (x := lF kK)
 refine rB gb ?_ (x := lD [val _] aw)
 refine rB gb ?_ (x := lF fG)
 refine It ?_
 refine wG ?_
 refine cx 50 (fun gc sgc => ?_) (fun gc sgc => ?_)
 refine ny ?_
 refine cO ?_
 exact yS
 refine vZ ?_
 refine Aw ?_
 refine cx 54 (fun gd sgd => ?_) (fun gd sgd => ?_)
 refine rB gd ?_ (x := lF kL)
 refine rB gd ?_ (x := lD [val _] aw)
 refine rB gd ?_ (x := lF kK)
 refine rB gd ?_ (x := lD [val _] aw)
 refine rB gd ?_ (x := ya (by decide) (by exact tI) (aJ rfl) (by simp only [aB, aL, decide_eq_true_eq] at *; unfold aQ; omega))
 refine rB gd ?_ (x := lF fG)
 refine zD ?_
 refine rB gd ?_ (x := nT)
 refine Aq ?_
 refine sc (fun hbe => ?_) (fun hbe => ?_)
 exact yS
 have hvo : cD s.Now s.ZE[k][j] = true := by first | (simp_all [cD, ee]; done) | (simp_all [cD, ee]; omega)
 refine eA ?_
 refine sS [1, 3, 5, 7, 23, 24, 25, 32, 33, 34] [1, 7] ?_
 refine pQ ?_
 refine eK ?_
 refine HF ?_
 rintro m ⟨hm, hfr⟩
 refine eL ?_
 refine sc (fun hbf => ?_) (fun hbf => ?_)
 have hlt3 : m < (cV s k).length + j := by omega
 have hlt4 : m < (cV s k ++ s.ZE[k].take j).length := by omega
 have hsg : (cV s k ++ s.ZE[k].take j)[m] = (aY s).getD m v0 := by rw [cU (d := v0) hlt4, hat, List.getD_eq_getElem?_getD, List.getElem?_take_of_lt hlt3, ← List.getD_eq_getElem?_getD]
 have hvm := AU hg hlt3
 have hma := Kc hvo hvm
 rw [← hag.2] at hma
 refine bw ?_
 refine Is ?_
 refine rA ?_ (x := lE [val _, sl .v _, val _, val _] fC)
 refine tb ?_
 refine Ir ?_
 refine bi ?_
 refine pR ?_
 refine pR ?_
 refine rA ?_ (x := fb)
 refine rM ?_
 refine cx 77 (fun ge sge => ?_) (fun ge sge => ?_)
 refine rB ge ?_ (x := lD [val _, sl .v _, val _, val _] fC)
 refine HV ?_
 refine rA ?_ (x := aK ge)
 refine sc (fun hbg => ?_) (fun hbg => ?_)
 exact EP
 exact yT
 exact EQ
 exact ER
 refine zf gd ?_
 refine Ar ?_
 refine eJ ?_
 have hvo : cD s.Now s.ZE[k][j] = true := by first | (simp_all [cD, ee]; done) | (simp_all [cD, ee]; omega)
 refine eA ?_
 refine sS [1, 3, 5, 7, 23, 24, 25, 32, 33, 34] [1, 7] ?_
 refine pQ ?_
 refine eK ?_
 refine HF ?_
 rintro m ⟨hm, hfr⟩
 refine eL ?_
 refine sc (fun hbe => ?_) (fun hbe => ?_)
 have hlt3 : m < (cV s k).length + j := by omega
 have hlt4 : m < (cV s k ++ s.ZE[k].take j).length := by omega
 have hsg : (cV s k ++ s.ZE[k].take j)[m] = (aY s).getD m v0 := by rw [cU (d := v0) hlt4, hat, List.getD_eq_getElem?_getD, List.getElem?_take_of_lt hlt3, ← List.getD_eq_getElem?_getD]
 have hvm := AU hg hlt3
 have hma := Kc hvo hvm
 rw [← hag.2] at hma
 refine bw ?_
 refine Is ?_
 refine rA ?_ (x := lE [val _, sl .v _, val _, val _] fC)
 refine tb ?_
 refine Ir ?_
 refine bi ?_
 refine pR ?_
 refine pR ?_
 refine rA ?_ (x := fb)
 refine rM ?_
 refine cx 77 (fun ge sge => ?_) (fun ge sge => ?_)
 refine rB ge ?_ (x := lD [val _, sl .v _, val _, val _] fC)
 refine HV ?_
 refine rA ?_ (x := aK ge)
 refine sc (fun hbf => ?_) (fun hbf => ?_)
 exact EP
 exact yT
 exact EQ
 exact ER
 have hend2 : j = s.ZE[k].length := by omega
 refine bE ?_
 refine sH [1, 3, 5, 23, 24, 25, 32, 33, 34] [1] ?_
 refine fc ?_
 refine nx (k + 1) (by exact ⟨by omega, ⟨AA ha.1 hlt hyes, by rw [tY hlt, aD, ← hend2]; exact hg⟩⟩) (e := (by exact aI (by exact bI (by rw [hend2, bY, tY hlt])) (aI (by exact rfl) tI)))
 have hend : k = s.ZE.length := by omega
 have hsm : s.ZE.all jP = true := ky (by rw [← hend]; exact ha.1)
 have hgd := ha.2
 rw [hend, AV] at hgd
 refine bE ?_
 refine sT [1, 3, 23, 24, 25] [1] ?_
 refine cC ?_
 exact rb (by unfold bL; rw [hpr, hsm, hgd]; rfl)
end Go.Proofs.YtmekkgdboplbjaaGreatDoor
