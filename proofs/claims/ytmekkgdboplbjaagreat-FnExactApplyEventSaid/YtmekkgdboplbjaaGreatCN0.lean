/- What functions of the program compute. No condition. -/
import Derived.Test.YtmekkgdboplbjaaGreatCL0
set_option linter.all false
namespace Go.Proofs.YtmekkgdboplbjaaGreat
open Go Go.RowKit M PV Tryz
set_option maxRecDepth 10000
attribute [local irreducible] PV.Lcl PV.LclR RV.Lcl
def Ld : fO prog 54 = some [(0, 1), (1, 1)] := by kernel_rfl
def Bh {v : aT} {t : Int}  : aC prog 229 [(true, [val (vI v.Id), sl .v (v.Values.map ak), val (vI v.WG), val (vI v.WC)]), (false, [val (vI t)])] (az [(false, [val (.bool (ea v t))])]) := by
 refine sF func229 fun h0 w0 Fz0 => ?_
 exact DV
def Le {v : aT} {t : Int}  : aC prog 196 [(true, [val (vI v.Id), sl .v (v.Values.map ak), val (vI v.WG), val (vI v.WC)]), (false, [val (vI t)])] (az [(false, [val (.bool (ea v t))])]) := by
 refine sF func196 fun h0 w0 Fz0 => ?_
 exact DV
def TQ {v : aT}  (hb : bT v ≤ 68719476736) : aC prog 171 [(true, [val (vI v.Id), sl .v (v.Values.map ak), val (vI v.WG), val (vI v.WC)])] (az [(true, [val (vI (fk v).Id), sl aa ((fk v).Values.map ak)])]) := by
 refine sF func171 fun h0 w0 Fz0 => ?_
 refine sn 0 1 fun hl0_1 => ?_
 have hbu := hb
 simp only [bT, dM, a9] at hbu
 refine oX ?_
 refine vl ?_
 refine lC ?_
 refine dA 0 ?_ (x := lF lQ)
 refine dA 1 ?_ (x := lD [val _] au)
 refine dA 0 ?_ (x := lF i2)
 refine Ie ?_
 refine dA 31 ?_ (x := eV (qs := [(false, [val _]), (false, [sl _ _])]) (cs := [val _, sl _ _]) (by decide) iB kV Ld (by exact rfl) (by exact (aI (by exact tI) (aI (by exact tI) tI))) rfl (by exact rfl))
 exact DL
def TR {v : aT} {w : aT}  : aC prog 198 [(true, [val (vI v.Id), sl .v (v.Values.map ak), val (vI v.WG), val (vI v.WC)]), (true, [val (vI w.Id), sl .v (w.Values.map ak), val (vI w.WG), val (vI w.WC)])] (az [(false, [val (.bool (pR v w))])]) := by
 refine sF func198 fun h0 w0 Fz0 => ?_
 refine sn 0 1 fun hl0_1 => ?_
 refine sn 1 1 fun hl1_1 => ?_
 refine zm ?_
 refine qT ?_
 refine rA ?_ (x := lD [val _, sl .v _, val _, val _] dO)
 refine zT ?_
 refine rA ?_ (x := cL [(true, [val _, sl _ _, val _, val _]), (false, [val _])] [(true, [val _, sl .v _, val _, val _]), (false, [val _])] A0 (hs := by exact Bh))
 refine rM ?_
 refine cx 9 (fun ga sga => ?_) (fun ga sga => ?_)
 refine zt ga ?_
 refine rA ?_ (x := aR ga)
 exact DW
 refine rB ga ?_ (x := lD [val _, sl .v _, val _, val _] dO)
 refine rB ga ?_ (x := lF i3)
 refine rB ga ?_ (x := lD [val _] au)
 refine rB ga ?_ (x := cL [(true, [val _, sl _ _, val _, val _]), (false, [val _])] [(true, [val _, sl .v _, val _, val _]), (false, [val _])] A0 (hs := by exact Bh))
 refine rA ?_ (x := aK ga)
 exact DW
def TS {a : aT} {b : aT}  : aC prog 162 [(true, [val (vI a.Id), sl .v (a.Values.map ak), val (vI a.WG), val (vI a.WC)]), (true, [val (vI b.Id), sl .v (b.Values.map ak), val (vI b.WG), val (vI b.WC)])] (az [(false, [val (.bool (jA a b))])]) := by
 refine sF func162 fun h0 w0 Fz0 => ?_
 refine sn 0 1 fun hl0_1 => ?_
 refine sn 1 1 fun hl1_1 => ?_
 refine zm ?_
 refine qT ?_
 refine vF ?_
 refine dV ?_
 refine rM ?_
 refine cx 10 (fun ga sga => ?_) (fun ga sga => ?_)
 refine jN ?_
 refine aq.cases (s := 22) rfl (fun g2 => ?_) (fun g2 => nomatch g2)
 refine va ?_
 exact qv
 refine rB ga ?_ (x := lF fR)
 refine rB ga ?_ (x := lD [val _] au)
 refine rB ga ?_ (x := eM)
 refine rB ga ?_ (x := sM)
 refine cx 14 (fun gb sgb => ?_) (fun gb sgb => ?_)
 refine rB gb ?_ (x := lF fR)
 refine rB gb ?_ (x := lD [val _] au)
 refine rB gb ?_ (x := lF i3)
 refine zV ?_
 refine rB ga ?_ (x := aR gb)
 refine mB ?_
 refine cx 22 (fun gc sgc => ?_) (fun gc sgc => ?_)
 refine qU ?_
 exact qv
 refine vk ?_
 refine Ae ?_
 refine cx 26 (fun gd sgd => ?_) (fun gd sgd => ?_)
 refine rB gd ?_ (x := lF fR)
 refine rB gd ?_ (x := lD [val _] au)
 refine rB gd ?_ (x := lF i3)
 refine rB gd ?_ (x := lD [val _] au)
 refine rB gd ?_ (x := ir)
 refine Aa ?_
 exact qv
 refine zf gd ?_
 refine Ab ?_
 exact qv
 refine zf gb ?_
 refine rB ga ?_ (x := aK gb)
 refine mB ?_
 refine aq.cases (s := 22) rfl (fun g6 => nomatch g6) (fun g6 => ?_)
 refine rB g6 ?_ (x := lF fR)
 refine rB g6 ?_ (x := lD [val _] au)
 refine rB g6 ?_ (x := eM)
 refine rB g6 ?_ (x := sM)
 refine cx 26 (fun gc sgc => ?_) (fun gc sgc => ?_)
 refine vk ?_
 refine rB gc ?_ (x := lF i3)
 refine rB gc ?_ (x := lD [val _] au)
 refine rB gc ?_ (x := ir)
 refine rB g6 ?_ (x := aR gc)
 refine rA ?_ (x := aK g6)
 exact qv
 refine zf gc ?_
 refine rB g6 ?_ (x := aK gc)
 refine rA ?_ (x := aK g6)
 exact qv
def TT {v : aT} {now : Int}  (hn : now ≤ 100000) : aC prog 161 [(true, [val (vI v.Id), sl .v (v.Values.map ak), val (vI v.WG), val (vI v.WC)]), (false, [val (vI now)])] (az [(false, [val (.bool (ek now v))])]) := by
 refine sF func161 fun h0 w0 Fz0 => ?_
 refine sn 0 1 fun hl0_1 => ?_
 refine oX ?_
 refine jj ?_
 refine ze ?_
 refine rA ?_ (x := lF i2)
 refine rA ?_ (x := lD [sl .v _] bq)
 refine rA ?_ (x := eV (qs := [(false, [val _]), (false, [sl _ _])]) (cs := [val _, sl _ _]) (by decide) iB kV Ld (by exact rfl) (by exact (aI (by exact tI) (aI (by exact tI) tI))) rfl (by exact rfl))
 refine rA ?_ (x := cL [(true, [val _, sl _ _])] [(true, [val _, sl .v _])] AC (hs := by exact (Bf (x := ⟨v.Id, v.Values⟩))))
 refine rM ?_
 refine cx 11 (fun ga sga => ?_) (fun ga sga => ?_)
 refine rB ga ?_ (x := lF i3)
 refine rB ga ?_ (x := lD [val _] au)
 refine rB ga ?_ (x := sM)
 refine rB ga ?_ (x := cL [(false, [val _]), (false, [val _]), (false, [val _])] [(false, [val _]), (false, [val _]), (false, [val _])] fF (hs := by exact fJ))
 refine gk ?_
 refine cx 17 (fun gb sgb => ?_) (fun gb sgb => ?_)
 refine rB gb ?_ (x := lF fR)
 refine pe ?_
 refine rB gb ?_ (x := sM)
 refine cx 21 (fun gc sgc => ?_) (fun gc sgc => ?_)
 refine zt gc ?_
 refine rB gb ?_ (x := aR gc)
 refine rA ?_ (x := aR gb)
 exact ul
 refine vk ?_
 refine rB gc ?_ (x := lF i3)
 refine rB gc ?_ (x := lD [val _] au)
 refine rB gc ?_ (x := xe (by decide) (by exact tI) (eB rfl) (by simp only [aV, bn, decide_eq_true_eq] at *; unfold lm; omega))
 refine HB ?_
 refine rB gb ?_ (x := aK gc)
 refine rA ?_ (x := aR gb)
 exact ul
 refine s4 ?_
 exact ul
 refine gA ?_
 refine aq.cases (s := 17) rfl (fun g4 => nomatch g4) (fun g4 => ?_)
 refine qR ?_
 exact ul
def TU {p1 p2 : Fl} {s : Store}  (hb : b4 s ≤ 68719476736) : aC prog 94 [(true, [sl .v (s.Wr.map (aD p1 p2)), val (vI s.Now)])] (az [(false, [sl aS ((cf s).map (cG .v))])]) := by
 refine sF func94 fun h0 w0 Fz0 => ?_
 refine sn 0 0 fun hl0_0 => ?_
 refine iU ?_
 refine rA ?_ (x := ik (.inr rfl) (by decide) (jf (t := 184) (e := 4)))
 refine sT [1, 2] [1] ?_
 refine qF ?_
 refine aP ?_
 refine sS [1, 2, 3] [1] ?_
 refine cz ?_
 refine sP [1, 2, 3, 4] [1] ?_
 refine sL [1, 2] [1] (fun k : Nat => k ≤ s.Wr.length) (fun k : Nat => [(3, RV.slc aS ((c7 s k).map (cG .v))), (4, RV.int (k : Int))]) (fun k : Nat => []) (fun k : Nat => s.Wr.length - k) 0 (by omega) (by exact aI (by exact rfl) (aI (by exact rfl) tI)) (by exact tI) ?_
 rintro k hk
 refine d6 ?_
 refine qY ?_
 refine sc (fun hba => ?_) (fun hba => ?_)
 have hlt : k < s.Wr.length := by omega
 have hal := pS s
 have hsp := congrArg List.length (AQ hlt)
 simp only [aU] at hsp
 refine bB ?_
 refine sH [1, 2, 3, 4] [1] ?_
 refine rA ?_ (x := tM)
 refine pz ?_
 refine rA ?_ (x := aY (by decide) cV (by exact tI) (by exact rfl) (by exact be (by omega) rfl) (by exact rfl))
 refine rA ?_ (x := nb (qs := [sl .v _]) (by decide) fH (fun _ => rfl) (by exact nl rfl) (by exact (am.cons (PV.to_map (fun _ => (an (am.cons (PV.to_map (fun _ => (an am.nil))) (an (an am.nil)))))) am.nil)) (by exact (ao.cons (bor_sl _) ao.nil)))
 refine rA ?_ (x := il (by decide) ck eT rfl rfl (by decide) (by first | (intro cs hcs; obtain ⟨x, _, rfl⟩ := List.mem_map.1 hcs; exact rfl) | simp) (by first | (intro cs hcs; obtain ⟨x, _, rfl⟩ := List.mem_map.1 hcs; exact (by exact lq)) | simp) (by simp only [ar, aU, List.length_cons, List.length_nil]; omega) (by simp only [ar, aU, List.length_cons, List.length_nil]; omega))
 refine rA ?_ (x := tA)
 refine sG [1, 2, 3, 4] [1] ?_
 refine cZ ?_
 refine nx (k + 1) (by omega) (e := (by exact aI (by exact cr (by rw [tw hlt, bN]; rfl)) (aI (by exact rfl) tI)))
 have hend : k = s.Wr.length := by omega
 refine bF ?_
 refine sT [1, 2, 3, 4] [1] ?_
 refine mC ?_
 exact (aI (by refine cr ?_; rw [hend, AR]) tI)
def Lf {p1 p2 : Fl} {s : Store}  (hb : b4 s ≤ 68719476736) : aC prog 64 [(true, [sl .v (s.Wr.map (aD p1 p2)), val (vI s.Now)])] (az [(false, [val (.bool (dm s))])]) := by
 refine sF func64 fun h0 w0 Fz0 => ?_
 refine sn 0 0 fun hl0_0 => ?_
 refine iU ?_
 refine kD ?_
 refine kC ?_
 refine rA ?_ (x := cL [(false, [val _]), (false, [val _]), (false, [val _])] [(false, [val _]), (false, [val _]), (false, [val _])] fF (hs := by exact fJ))
 refine fB ?_
 refine cx 12 (fun ga sga => ?_) (fun ga sga => ?_)
 exact DX
 refine rB ga ?_ (x := lF fi)
 refine si ?_
 refine ly ?_
 refine sc (fun hba => ?_) (fun hba => ?_)
 exact x5
 have hpr : l5 s = true := by simp_all [l5]
 have hnow : 0 ≤ s.Now ∧ s.Now ≤ 100000 := by have h_ := hpr; simp [l5, aV] at h_; omega
 refine te ?_
 refine s8 ?_
 refine sL [1] [1] (fun k : Nat => k ≤ s.Wr.length ∧ (s.Wr.take k).all ki = true) (fun k : Nat => [(3, RV.int (k : Int))]) (fun k : Nat => []) (fun k : Nat => s.Wr.length - k) 0 (by exact ⟨by omega, by simp⟩) (by exact aI (by exact rfl) tI) (by exact tI) ?_
 rintro k ⟨hk, ha⟩
 refine d6 ?_
 refine qY ?_
 refine sc (fun hbb => ?_) (fun hbb => ?_)
 have hlt : k < s.Wr.length := by omega
 refine bB ?_
 refine sT [1, 3] [1] ?_
 refine pz ?_
 refine qC ?_
 refine rA ?_ (x := lN ck)
 refine rA ?_ (x := eg)
 refine sc (fun hbc => ?_) (fun hbc => ?_)
 have hbad : dm s = false := J8 hlt (by omega)
 refine sS [1, 3] [1] ?_
 exact j5
 have hyes : ki s.Wr[k] = true := by simp [ki]; omega
 refine s9 ?_
 exact oN
 have hsm : s.Wr.all ki = true := jm (by rw [show s.Wr.length = k by omega]; exact ha)
 have hal := pS s
 refine vS ?_
 refine rA ?_ (x := lD [sl .v _, val _] dv)
 refine rA ?_ (x := cL [(true, [sl _ _, val _])] [(true, [sl .v _, val _])] Sq (hs := by exact TU (by omega)))
 refine qP ?_
 refine sS [1, 3, 4] [1] ?_
 refine cz ?_
 refine sP [1, 3, 4, 5] [1] ?_
 refine sL [1, 3, 4] [1] (fun i : Nat => i ≤ (cf s).length ∧ mT s.Now (cf s) i = true) (fun i : Nat => [(5, RV.int (i : Int))]) (fun i : Nat => []) (fun i : Nat => (cf s).length - i) 0 (by exact ⟨by omega, rfl⟩) (by exact aI (by exact rfl) tI) (by exact tI) ?_
 rintro i ⟨hi, hg⟩
 refine cQ ?_
 refine mA ?_
 refine sc (fun hbc => ?_) (fun hbc => ?_)
 have hlt2 : i < (cf s).length := by omega
 refine cF ?_
 refine aP ?_
 refine sQ [1, 3, 4, 5] [1] ?_
 refine nN ?_
 refine Hl ?_
 refine dA 0 ?_ (x := lF fi)
 refine dA 16 ?_ (x := lD [val _] au)
 refine dA 63 ?_ (x := cL [(true, [val _, sl _ _, val _, val _]), (false, [val _])] [(true, [val _, sl .v _, val _, val _]), (false, [val _])] RC (hs := by exact (TT (by omega))))
 refine dA 127 ?_ (x := nT)
 refine sc (fun hbd => ?_) (fun hbd => ?_)
 have hvo : ek s.Now ((cf s).getD i v0) = false := by simp_all
 have hbad := wl hlt2 (J6 hvo)
 refine sS [1, 3, 4, 5] [1] ?_
 exact j5
 have hvo : ek s.Now ((cf s).getD i v0) = true := by simp_all
 refine bl ?_
 refine sS [1, 3, 4, 5] [1] ?_
 refine cz ?_
 refine sP [1, 3, 4, 5, 6] [1] ?_
 refine sL [1, 3, 4, 5] [1] (fun m : Nat => m ≤ i ∧ fL (cf s) i m = true) (fun m : Nat => [(6, RV.int (m : Int))]) (fun m : Nat => []) (fun m : Nat => i - m) 0 (by exact ⟨by omega, rfl⟩) (by exact aI (by exact rfl) tI) (by exact tI) ?_
 rintro m ⟨hm, hfr⟩
 refine d6 ?_
 refine iv ?_
 refine sc (fun hbe => ?_) (fun hbe => ?_)
 have hlt3 : m < i := by omega
 have hlt4 : m < (cf s).length := by omega
 refine cF ?_
 refine sQ [1, 3, 4, 5, 6] [1] ?_
 refine nN ?_
 refine Hl ?_
 refine eE ?_
 refine dA 48 ?_ (x := aY (k := m) (by decide) ck (by exact tI) (by rfl) (by exact be hlt4 (by rw [ic (d := v0) hlt4])) (by exact rfl))
 refine dA 112 ?_ (x := lE [val _, sl .v _, val _, val _] dO)
 refine dA 255 ?_ (x := cL [(true, [val _, sl _ _, val _, val _]), (true, [val _, sl _ _, val _, val _])] [(true, [val _, sl .v _, val _, val _]), (true, [val _, sl .v _, val _, val _])] RD (hs := by exact TS))
 refine dA 511 ?_ (x := nT)
 refine sc (fun hbf => ?_) (fun hbf => ?_)
 have hap : jA ((cf s).getD i v0) ((cf s).getD m v0) = false := by simp_all
 have hbad := wl hlt2 (J7 hlt3 hap)
 refine sS [1, 3, 4, 5, 6] [1] ?_
 exact j5
 have hap : jA ((cf s).getD i v0) ((cf s).getD m v0) = true := by simp_all
 refine bl ?_
 refine sG [1, 3, 4, 5, 6] [1] ?_
 refine cZ ?_
 exact DY
 have hend2 : m = i := by omega
 refine bF ?_
 refine sH [1, 3, 4, 5, 6] [1] ?_
 refine cZ ?_
 refine nx (i + 1) (by refine ⟨by omega, ?_⟩; rw [J5, hg, Bool.true_and]; unfold l4; rw [hvo, Bool.true_and, ← hend2]; rw [hend2] at hfr ⊢; exact hfr)
 have hend1 : i = (cf s).length := by omega
 rw [hend1] at hg
 refine bF ?_
 refine sT [1, 3, 4, 5] [1] ?_
 refine cm ?_
 exact rb (by unfold dm; rw [hpr, hsm, hg]; rfl)
def Lg {p1 p2 : Fl} {s : Store}  (hb : b4 s ≤ 68719476736) : aC prog 97 [(true, [sl .v (s.Wr.map (aD p1 p2)), val (vI s.Now)])] (az [(false, [val (.bool (dm s))])]) := by
 refine sF func97 fun h0 w0 Fz0 => ?_
 refine sn 0 0 fun hl0_0 => ?_
 have hbu := hb
 simp only [b4, eh, a9] at hbu
 refine iU ?_
 refine kD ?_
 refine kC ?_
 refine HM ?_
 refine cx 15 (fun ga sga => ?_) (fun ga sga => ?_)
 exact DX
 refine rB ga ?_ (x := lF fi)
 refine Ai ?_
 refine rA ?_ (x := aK ga)
 refine sc (fun hba => ?_) (fun hba => ?_)
 exact x5
 have hpr : l5 s = true := by simp_all [l5]
 have hnow : 0 ≤ s.Now ∧ s.Now ≤ 100000 := by have h_ := hpr; simp [l5, aV] at h_; omega
 have hal := pS s
 refine bl ?_
 refine sS [1, 2] [1] ?_
 refine qF ?_
 refine aP ?_
 refine sS [1, 2, 3] [1] ?_
 refine kC ?_
 refine dI ?_
 refine sP [1, 2, 3, 23, 24, 25] [1] ?_
 refine sL [1, 23, 24] [1] (fun k : Nat => k ≤ s.Wr.length ∧ ((s.Wr.take k).all ki = true ∧ mT s.Now (cf s) (c7 s k).length = true)) (fun k : Nat => [(3, RV.slc aS ((c7 s k).map (cG .v))), (25, RV.int (k : Int))]) (fun k : Nat => []) (fun k : Nat => s.Wr.length - k) 0 (by exact ⟨by omega, ⟨by simp, rfl⟩⟩) (by exact aI (by exact rfl) (aI (by exact rfl) tI)) (by exact tI) ?_
 rintro k ⟨hk, ha⟩
 refine ct ?_
 refine sc (fun hbb => ?_) (fun hbb => ?_)
 have hlt : k < s.Wr.length := by omega
 have hwm := cR (f := bU) hlt
 have hws : bU s.Wr[k] = s.Wr[k].length + (s.Wr[k].map bT).sum := rfl
 refine bB ?_
 refine sT [1, 3, 23, 24, 25] [1] ?_
 refine Aj ?_
 refine aP ?_
 refine sS [1, 3, 5, 23, 24, 25] [1] ?_
 refine uS ?_
 refine rA ?_ (x := eg)
 refine sc (fun hbc => ?_) (fun hbc => ?_)
 have hbad : dm s = false := J8 hlt (by omega)
 refine sS [1, 3, 5, 23, 24, 25] [1] ?_
 exact j5
 have hyes : ki s.Wr[k] = true := by simp [ki]; omega
 refine bl ?_
 refine sS [1, 3, 5, 23, 24, 25] [1] ?_
 refine rk ?_
 refine sP [1, 3, 5, 23, 24, 25, 32, 33, 34] [1] ?_
 refine sL [1, 5, 23, 24, 25, 32, 33] [1] (fun j : Nat => j ≤ s.Wr[k].length ∧ mT s.Now (cf s) ((c7 s k).length + j) = true) (fun j : Nat => [(3, RV.slc aS ((c7 s k ++ s.Wr[k].take j).map (cG .v))), (34, RV.int (j : Int))]) (fun j : Nat => []) (fun j : Nat => s.Wr[k].length - j) 0 (by exact ⟨by omega, ha.2⟩) (by exact aI (by exact cr (by simp)) (aI (by exact rfl) tI)) (by exact tI) ?_
 rintro j ⟨hj, hg⟩
 refine ct ?_
 refine sc (fun hbd => ?_) (fun hbd => ?_)
 have hlt2 : j < s.Wr[k].length := by omega
 have hwm2 := cR (f := bT) hlt2
 have hag := J9 hlt hlt2
 have hat := QH hlt (Nat.le_of_lt hlt2)
 have hln : (c7 s k ++ s.Wr[k].take j).length = (c7 s k).length + j := by rw [aU, bv]; omega
 have hlm : (s.Wr[k].take j).length = j := by rw [bv]; omega
 refine bB ?_
 refine sT [1, 3, 5, 23, 24, 25, 32, 33, 34] [1] ?_
 refine uM ?_
 refine sm ?_
 refine eO ?_
 refine sO [(1, _), (3, _), (5, _), (7, _), (23, _), (24, _), (25, _), (32, _), (33, _), (34, _)] [(1, _), (7, (184, [val _, sl _ _, val _, val _]))] ?_
 refine ba ?_
 refine Hr ?_
 refine rA ?_ (x := cL [(true, [val _, sl _ _])] [(true, [val _, sl .v _])] AE (hs := by exact Be))
 refine fB ?_
 refine cx 42 (fun gb sgb => ?_) (fun gb sgb => ?_)
 refine mE ?_
 refine aq.cases (s := 50) rfl (fun g8 => ?_) (fun g8 => nomatch g8)
 refine zt g8 ?_
 refine rA ?_ (x := aR g8)
 refine dc ?_
 exact x6
 refine rB gb ?_ (x := lF i3)
 refine rB gb ?_ (x := lD [val _] au)
 refine rB gb ?_ (x := lF fi)
 refine uK ?_
 refine qZ ?_
 refine cx 50 (fun gc sgc => ?_) (fun gc sgc => ?_)
 refine qU ?_
 refine dc ?_
 exact x6
 refine vk ?_
 refine Ae ?_
 refine cx 54 (fun gd sgd => ?_) (fun gd sgd => ?_)
 refine rB gd ?_ (x := lF fR)
 refine rB gd ?_ (x := lD [val _] au)
 refine rB gd ?_ (x := lF i3)
 refine rB gd ?_ (x := lD [val _] au)
 refine rB gd ?_ (x := xe (by decide) (by exact tI) (eB rfl) (by simp only [aV, bn, decide_eq_true_eq] at *; unfold lm; omega))
 refine rB gd ?_ (x := lF fi)
 refine yN ?_
 refine rB gd ?_ (x := nT)
 refine Aa ?_
 refine sc (fun hbe => ?_) (fun hbe => ?_)
 exact x6
 have hvo : ek s.Now s.Wr[k][j] = true := by first | (simp_all [ek, fk]; done) | (simp_all [ek, fk]; omega)
 refine cO ?_
 refine sS [1, 3, 5, 7, 23, 24, 25, 32, 33, 34] [1, 7] ?_
 refine rk ?_
 refine GC ?_
 rintro m ⟨hm, hfr⟩
 refine ct ?_
 refine sc (fun hbf => ?_) (fun hbf => ?_)
 have hlt3 : m < (c7 s k).length + j := by omega
 have hlt4 : m < (c7 s k ++ s.Wr[k].take j).length := by omega
 have hsg : (c7 s k ++ s.Wr[k].take j)[m] = (cf s).getD m v0 := by rw [ic (d := v0) hlt4, hat, List.getD_eq_getElem?_getD, List.getElem?_take_of_lt hlt3, ← List.getD_eq_getElem?_getD]
 have hvm := AP hg hlt3
 have hma := J4 hvo hvm
 rw [← hag.2] at hma
 refine bB ?_
 refine Hp ?_
 refine rA ?_ (x := lE [val _, sl .v _, val _, val _] dO)
 refine sm ?_
 refine Hn ?_
 refine ba ?_
 refine vF ?_
 refine pB ?_
 refine cx 77 (fun ge sge => ?_) (fun ge sge => ?_)
 refine rB ge ?_ (x := lD [val _, sl .v _, val _, val _] dO)
 refine GS ?_
 refine rA ?_ (x := aR ge)
 refine sc (fun hbg => ?_) (fun hbg => ?_)
 exact DZ
 exact x7
 exact D0
 exact D1
 refine zf gd ?_
 refine Ab ?_
 refine fh ?_
 have hvo : ek s.Now s.Wr[k][j] = true := by first | (simp_all [ek, fk]; done) | (simp_all [ek, fk]; omega)
 refine cO ?_
 refine sS [1, 3, 5, 7, 23, 24, 25, 32, 33, 34] [1, 7] ?_
 refine rk ?_
 refine GC ?_
 rintro m ⟨hm, hfr⟩
 refine ct ?_
 refine sc (fun hbe => ?_) (fun hbe => ?_)
 have hlt3 : m < (c7 s k).length + j := by omega
 have hlt4 : m < (c7 s k ++ s.Wr[k].take j).length := by omega
 have hsg : (c7 s k ++ s.Wr[k].take j)[m] = (cf s).getD m v0 := by rw [ic (d := v0) hlt4, hat, List.getD_eq_getElem?_getD, List.getElem?_take_of_lt hlt3, ← List.getD_eq_getElem?_getD]
 have hvm := AP hg hlt3
 have hma := J4 hvo hvm
 rw [← hag.2] at hma
 refine bB ?_
 refine Hp ?_
 refine rA ?_ (x := lE [val _, sl .v _, val _, val _] dO)
 refine sm ?_
 refine Hn ?_
 refine ba ?_
 refine vF ?_
 refine pB ?_
 refine cx 77 (fun ge sge => ?_) (fun ge sge => ?_)
 refine rB ge ?_ (x := lD [val _, sl .v _, val _, val _] dO)
 refine GS ?_
 refine rA ?_ (x := aR ge)
 refine sc (fun hbf => ?_) (fun hbf => ?_)
 exact DZ
 exact x7
 exact D0
 exact D1
 have hend2 : j = s.Wr[k].length := by omega
 refine bF ?_
 refine sH [1, 3, 5, 23, 24, 25, 32, 33, 34] [1] ?_
 refine c0 ?_
 refine nx (k + 1) (by exact ⟨by omega, ⟨Ak ha.1 hlt hyes, by rw [tw hlt, aU, ← hend2]; exact hg⟩⟩) (e := (by exact aI (by exact cr (by rw [hend2, cb, tw hlt])) (aI (by exact rfl) tI)))
 have hend : k = s.Wr.length := by omega
 have hsm : s.Wr.all ki = true := jm (by rw [← hend]; exact ha.1)
 have hgd := ha.2
 rw [hend, AR] at hgd
 refine bF ?_
 refine sT [1, 3, 23, 24, 25] [1] ?_
 refine cm ?_
 exact rb (by unfold dm; rw [hpr, hsm, hgd]; rfl)
end Go.Proofs.YtmekkgdboplbjaaGreat
