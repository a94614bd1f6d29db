/- What functions of the program compute. No condition. -/
import Derived.Test.YtmekkgdboplbjaaGreatCU0
import Derived.Test.YtmekkgdboplbjaaGreatCV0
set_option linter.all false
namespace Go.Proofs.YtmekkgdboplbjaaGreat
open Go Go.RowKit M PV Tryz
set_option maxRecDepth 10000
attribute [local irreducible] PV.Lcl PV.LclR RV.Lcl
def Uq {p4 : Fl} {a : Ws}  : aC prog 228 [(true, [val (vI a.Wt.Id), val (vI a.Wt.Wx), sl .v (a.Wt.Wu.map bf), sl .v (a.Wt.Out.map ak), val (vI a.Time), sl .v (a.WB.map ak), val (vI a.Age), val (vI a.Sent), val (vI a.Cap), sl .v (a.Rows.map (bu p4))])] (az [(false, [val (.bool (l9 a))])]) := by
 refine sF func228 fun h0 w0 Fz0 => ?_
 refine sn 0 2 fun hl0_2 => ?_
 refine sn 0 3 fun hl0_3 => ?_
 refine sn 0 5 fun hl0_5 => ?_
 refine sn 0 9 fun hl0_9 => ?_
 refine sr ?_
 refine lH ?_
 refine rA ?_ (x := lF kQ)
 refine pB ?_
 refine cx 6 (fun ga sga => ?_) (fun ga sga => ?_)
 refine zt ga ?_
 refine rA ?_ (x := aR ga)
 exact EK
 refine rB ga ?_ (x := lF kQ)
 refine rB ga ?_ (x := lD [val _] au)
 refine rB ga ?_ (x := lF jp)
 refine rB ga ?_ (x := lD [val _] au)
 refine rB ga ?_ (x := eg)
 refine rA ?_ (x := aK ga)
 exact EK
def Ur {p1 p2 p5 p6 p7 p8 p9 p11 p12 p13 p14 p16 p17 p18 : Fl} {e : aL} {i : Int}  (hb : bp e ≤ 68719476736) : aC prog 243 [(true, [sl .v (e.Store.Wr.map (aD p1 p2)), val (vI e.Store.Now), val (vI e.Ww), sl .v (e.Order.map ak), sl .v (e.Ws.map (aO p5 p6 p7 p8 p9)), sl .v (e.Done.map (aZ p11 p12 p13 p14)), sl .v (e.WE.map (a7 p16 p17 p18)), val (vI e.Steps)]), (false, [val (vI i)])] (az [(false, [val (.bool (pX e i))])]) := by
 refine sF func243 fun h0 w0 Fz0 => ?_
 refine sn 0 0 fun hl0_0 => ?_
 refine sn 0 3 fun hl0_3 => ?_
 refine sn 0 4 fun hl0_4 => ?_
 refine sn 0 5 fun hl0_5 => ?_
 refine sn 0 6 fun hl0_6 => ?_
 refine iT ?_
 refine vV ?_
 refine yx ?_
 refine fB ?_
 refine cx 9 (fun ga sga => ?_) (fun ga sga => ?_)
 refine mH ?_
 exact EL
 refine rB ga ?_ (x := sM)
 refine rB ga ?_ (x := lF dN)
 refine rB ga ?_ (x := lD [sl .v _] dC)
 refine rB ga ?_ (x := lN bI)
 refine rB ga ?_ (x := gS)
 refine yV ?_
 refine sc (fun hba => ?_) (fun hba => ?_)
 exact EL
 have hok : bh e = true ∧ aV i 0 (e.Ws.length - 1) = true := by first | (simp_all; done) | (simp_all; omega)
 have hin := hok.2
 simp only [aV, bn, decide_eq_true_eq] at hin
 have hil : i.toNat < e.Ws.length := by omega
 have hgd := ic (d := gH) hil
 refine gU ?_
 refine ji ?_
 refine rM ?_
 refine rA ?_ (x := aY (k := i.toNat) (by decide) bI (by exact tI) (by first | rfl | omega) (by exact be hil rfl) (by exact rfl))
 refine rA ?_ (x := lE [val _, val _, sl .v _, sl .v _, val _, sl .v _, val _, val _, val _, sl .v _] fj)
 refine qA ?_
 refine aP ?_
 refine sO [(1, _), (2, _), (4, _), (5, _)] [(2, _), (5, (108, [val _, val _, sl _ _, sl _ _, val _, sl _ _, val _, val _, val _, sl _ _]))] ?_
 refine ba ?_
 refine rA ?_ (x := lF kQ)
 refine pB ?_
 refine cx 26 (fun gb sgb => ?_) (fun gb sgb => ?_)
 refine vQ ?_
 exact EM
 refine rB gb ?_ (x := lF jp)
 refine rB gb ?_ (x := lD [val _] au)
 refine rB gb ?_ (x := lF kQ)
 refine rB gb ?_ (x := lD [val _] au)
 refine rB gb ?_ (x := cy)
 refine rA ?_ (x := aK gb)
 exact EM
def Us {p1 p2 p5 p6 p7 p8 p9 p11 p12 p13 p14 p16 p17 p18 : Fl} {e : aL}  (hb : bp e ≤ 68719476736) : aC prog 176 [(true, [sl .v (e.Store.Wr.map (aD p1 p2)), val (vI e.Store.Now), val (vI e.Ww), sl .v (e.Order.map ak), sl .v (e.Ws.map (aO p5 p6 p7 p8 p9)), sl .v (e.Done.map (aZ p11 p12 p13 p14)), sl .v (e.WE.map (a7 p16 p17 p18)), val (vI e.Steps)])] (az [(false, [sl aa ((parts e).map ak)])]) := by
 refine sF func176 fun h0 w0 Fz0 => ?_
 refine sn 0 0 fun hl0_0 => ?_
 refine sn 0 3 fun hl0_3 => ?_
 refine sn 0 4 fun hl0_4 => ?_
 refine sn 0 5 fun hl0_5 => ?_
 refine sn 0 6 fun hl0_6 => ?_
 refine iT ?_
 refine IW ?_
 refine mD ?_
 refine sS [1, 2, 3] [1] ?_
 refine cz ?_
 refine sP [1, 2, 3, 4] [1] ?_
 refine sL [1, 2] [1] (fun k : Nat => k ≤ e.Ws.length ∧ (0 < k → bh e = true)) (fun k : Nat => [(3, RV.slc aa ((gq e (e.Ws.take k)).map ak)), (4, RV.int (k : Int))]) (fun k : Nat => []) (fun k : Nat => e.Ws.length - k) 0 (by exact ⟨by omega, fun h => absurd h (Nat.lt_irrefl 0)⟩) (by exact aI (by exact rfl) (aI (by exact rfl) tI)) (by exact tI) ?_
 rintro k ⟨hk, ha⟩
 refine d6 ?_
 refine pp ?_
 refine rM ?_
 refine cx 11 (fun ga sga => ?_) (fun ga sga => ?_)
 refine rB ga ?_ (x := lD [sl .v _, val _, val _, sl .v _, sl .v _, sl .v _, sl .v _, val _] bZ)
 refine rB ga ?_ (x := cL [(true, [sl _ _, val _, val _, sl _ _, sl _ _, sl _ _, sl _ _, val _])] [(true, [sl .v _, val _, val _, sl .v _, sl .v _, sl .v _, sl .v _, val _])] wv (hs := by exact (wF (by omega))))
 refine rA ?_ (x := aR ga)
 refine sc (fun hba => ?_) (fun hba => ?_)
 have hok : bh e = true := by simp_all
 have hlt : k < e.Ws.length := (by first | omega | (simp_all; done) | (simp_all; omega))
 have haw := Q9 hok hlt
 have hef := gI hok
 have hpl := AU (e := e) (l := e.Ws.take k)
 rw [bv] at hpl
 refine cF ?_
 refine sQ [1, 2, 3, 4] [1] ?_
 refine zo ?_
 refine dA 0 ?_ (x := sM)
 refine dA 3 ?_ (x := cL [(true, [sl _ _, val _, val _, sl _ _, sl _ _, sl _ _, sl _ _, val _]), (false, [val _])] [(true, [sl .v _, val _, val _, sl .v _, sl .v _, sl .v _, sl .v _, val _]), (false, [val _])] RS (hs := by exact (Ur (by omega))))
 refine dA 7 ?_ (x := sM)
 refine dx 20 (fun gb sgb => ?_) (fun gb sgb => ?_)
 refine dB 15 gb ?_ (x := lF dN)
 refine dB 31 gb ?_ (x := lD [sl .v _] dC)
 refine dB 15 gb ?_ (x := sM)
 refine dB 127 gb ?_ (x := aY (by decide) bI (by exact tI) (by exact rfl) (by exact be (by omega) rfl) (by exact rfl))
 refine dB 255 gb ?_ (x := bE (by decide) gD (by exact nl rfl))
 refine dB 511 gb ?_ (x := lE [sl .v _] bq)
 refine dB 15 gb ?_ (x := lF i4)
 refine dB 1039 gb ?_ (x := lD [val _] au)
 refine dB 4095 gb ?_ (x := cL [(false, [sl _ _]), (false, [val _])] [(false, [sl .v _]), (false, [val _])] wh (hs := by exact wC))
 refine dA 8191 ?_ (x := aR gb)
 refine sc (fun hbb => ?_) (fun hbb => ?_)
 have hc : i9 e e.Ws[k] = true := by simp_all [i9]
 refine sG [1, 2, 3, 4] [1] ?_
 refine rA ?_ (x := tM)
 refine ji ?_
 refine zi ?_
 refine zj ?_
 refine vw ?_
 exact EN
 exact EO
 refine dF 15 gb ?_
 refine dF 31 gb ?_
 refine dF 15 gb ?_
 refine dF 127 gb ?_
 refine dF 255 gb ?_
 refine dF 511 gb ?_
 refine dF 15 gb ?_
 refine dF 1039 gb ?_
 refine dF 4095 gb ?_
 refine dA 8191 ?_ (x := aK gb)
 refine fh ?_
 exact EO
 exact EP
 refine py ?_
 exact EP
def Ut {p1 p2 p5 p6 p7 p8 p9 p11 p12 p13 p14 p16 p17 p18 : Fl} {e : aL}  (hb : bp e ≤ 68719476736) : aC prog 148 [(true, [sl .v (e.Store.Wr.map (aD p1 p2)), val (vI e.Store.Now), val (vI e.Ww), sl .v (e.Order.map ak), sl .v (e.Ws.map (aO p5 p6 p7 p8 p9)), sl .v (e.Done.map (aZ p11 p12 p13 p14)), sl .v (e.WE.map (a7 p16 p17 p18)), val (vI e.Steps)])] (az [(false, [sl aa ((parts e).map ak)])]) := by
 refine sF func148 fun h0 w0 Fz0 => ?_
 refine sn 0 0 fun hl0_0 => ?_
 refine sn 0 3 fun hl0_3 => ?_
 refine sn 0 4 fun hl0_4 => ?_
 refine sn 0 5 fun hl0_5 => ?_
 refine sn 0 6 fun hl0_6 => ?_
 refine iT ?_
 refine IW ?_
 refine mD ?_
 refine sS [1, 2, 3] [1] ?_
 refine yy ?_
 refine rA ?_ (x := nT)
 refine sc (fun hba => ?_) (fun hba => ?_)
 have hok : bh e = false := by simpa using hba
 refine sS [1, 2, 3] [1] ?_
 refine mC ?_
 exact (aI (by refine cr ?_; rw [Kp hok]; rfl) tI)
 have hok : bh e = true := by simpa using hba
 have hef := gI hok
 refine cO ?_
 refine sS [1, 2, 3] [1] ?_
 refine oe ?_
 refine sP [1, 2, 3, 12, 13, 14] [1] ?_
 refine sL [1, 2, 12, 13] [1] (fun k : Nat => k ≤ e.Ws.length) (fun k : Nat => [(3, RV.slc aa ((gq e (e.Ws.take k)).map ak)), (14, RV.int (k : Int))]) (fun k : Nat => []) (fun k : Nat => e.Ws.length - k) 0 (by omega) (by exact aI (by exact rfl) (aI (by exact rfl) tI)) (by exact tI) ?_
 rintro k hk
 refine ct ?_
 refine sc (fun hbb => ?_) (fun hbb => ?_)
 have hlt : k < e.Ws.length := by omega
 have hpl := AU (e := e) (l := e.Ws.take k)
 rw [bv] at hpl
 refine bB ?_
 refine sT [1, 2, 3, 12, 13, 14] [1] ?_
 refine qB ?_
 refine qA ?_
 refine aP ?_
 refine sO [(1, _), (2, _), (3, _), (5, _), (12, _), (13, _), (14, _)] [(1, _), (5, (108, [val _, val _, sl _ _, sl _ _, val _, sl _ _, val _, val _, val _, sl _ _]))] ?_
 refine ba ?_
 refine rA ?_ (x := lD [val _, val _, sl .v _, sl .v _, val _, sl .v _, val _, val _, val _, sl .v _] fj)
 refine rA ?_ (x := cL [(true, [val _, val _, sl _ _, sl _ _, val _, sl _ _, val _, val _, val _, sl _ _])] [(true, [val _, val _, sl .v _, sl .v _, val _, sl .v _, val _, val _, val _, sl .v _])] RM (hs := by exact Uq))
 refine rM ?_
 refine cx 20 (fun ga sga => ?_) (fun ga sga => ?_)
 refine rB ga ?_ (x := lF gD)
 refine rB ga ?_ (x := lD [sl .v _] bq)
 refine rB ga ?_ (x := lF i4)
 refine rB ga ?_ (x := lD [val _] au)
 refine rB ga ?_ (x := cL [(false, [sl _ _]), (false, [val _])] [(false, [sl .v _]), (false, [val _])] Ju (hs := by exact K6))
 refine rA ?_ (x := aR ga)
 refine sc (fun hbc => ?_) (fun hbc => ?_)
 have hc : i9 e e.Ws[k] = true := by simp_all [i9]
 refine sG [1, 2, 3, 5, 12, 13, 14] [1, 5] ?_
 refine rA ?_ (x := tM)
 refine rA ?_ (x := lF eR)
 refine sX ?_
 refine qN ?_
 exact EQ
 exact ER
 refine py ?_
 exact ER
 have hend : k = e.Ws.length := by omega
 refine bF ?_
 refine sT [1, 2, 3, 12, 13, 14] [1] ?_
 refine mC ?_
 exact (aI (by refine cr ?_; rw [ry hok, hend, cb]) tI)
def Lr {p1 p2 p5 p6 p7 p8 p9 p11 p12 p13 p14 p16 p17 p18 : Fl} {e : aL} {id : Int}  : aC prog 149 [(true, [sl .v (e.Store.Wr.map (aD p1 p2)), val (vI e.Store.Now), val (vI e.Ww), sl .v (e.Order.map ak), sl .v (e.Ws.map (aO p5 p6 p7 p8 p9)), sl .v (e.Done.map (aZ p11 p12 p13 p14)), sl .v (e.WE.map (a7 p16 p17 p18)), val (vI e.Steps)]), (false, [val (vI id)])] (az [(false, [val (vI (dn e.Ws id))])]) := by
 refine sF func149 fun h0 w0 Fz0 => ?_
 refine sn 0 0 fun hl0_0 => ?_
 refine sn 0 3 fun hl0_3 => ?_
 refine sn 0 4 fun hl0_4 => ?_
 refine sn 0 5 fun hl0_5 => ?_
 refine sn 0 6 fun hl0_6 => ?_
 refine iT ?_
 refine vV ?_
 refine oe ?_
 refine sP [1, 2, 4, 8, 9, 10] [2] ?_
 refine sL [1, 2, 8, 9] [2] (fun k : Nat => k ≤ e.Ws.length ∧ (e.Ws.take k).any (dD id) = false) (fun k : Nat => [(10, RV.int (k : Int))]) (fun k : Nat => []) (fun k : Nat => e.Ws.length - k) 0 (by exact ⟨by omega, by simp⟩) (by exact aI (by exact rfl) tI) (by exact tI) ?_
 rintro k ⟨hk, ha⟩
 refine ct ?_
 refine sc (fun hba => ?_) (fun hba => ?_)
 have hlt : k < e.Ws.length := by omega
 refine bB ?_
 refine sT [1, 2, 8, 9, 10] [2] ?_
 refine rM ?_
 refine qB ?_
 refine rX ?_ (x := (bR (by decide) fa l2))
 refine rS ?_
 refine Hx ?_
 refine sO [(1, _), (2, _), (5, _), (6, _), (8, _), (9, _), (10, _)] [(2, _), (6, (108, [val _, val _, sl _ _, sl _ _, val _, sl _ _, val _, val _, val _, sl _ _]))] ?_
 refine ba ?_
 refine rA ?_ (x := lF eR)
 refine sX ?_
 refine rM ?_
 refine rA ?_ (x := d4)
 refine sc (fun hbb => ?_) (fun hbb => ?_)
 have hy : dD id e.Ws[k] = true := by first | (simp_all [dD]; done) | simpa [dD] using hbb
 refine sS [1, 2, 5, 6, 8, 9, 10] [2, 6] ?_
 exact ES
 have hno : dD id e.Ws[k] = false := by first | (simp_all [dD]; done) | simpa [dD] using hbb
 refine bl ?_
 refine sG [1, 2, 5, 6, 8, 9, 10] [2, 6] ?_
 refine c0 ?_
 exact Ek
 have hend : k = e.Ws.length := by omega
 rw [hend, cb] at ha
 refine bF ?_
 refine sT [1, 2, 8, 9, 10] [2] ?_
 exact ET
def wG {p1 p2 p5 p6 p7 p8 p9 p11 p12 p13 p14 p16 p17 p18 : Fl} {e : aL} {id : Int}  : aC prog 177 [(true, [sl .v (e.Store.Wr.map (aD p1 p2)), val (vI e.Store.Now), val (vI e.Ww), sl .v (e.Order.map ak), sl .v (e.Ws.map (aO p5 p6 p7 p8 p9)), sl .v (e.Done.map (aZ p11 p12 p13 p14)), sl .v (e.WE.map (a7 p16 p17 p18)), val (vI e.Steps)]), (false, [val (vI id)])] (az [(false, [val (vI (dn e.Ws id))])]) := by
 refine sF func177 fun h0 w0 Fz0 => ?_
 refine sn 0 0 fun hl0_0 => ?_
 refine sn 0 3 fun hl0_3 => ?_
 refine sn 0 4 fun hl0_4 => ?_
 refine sn 0 5 fun hl0_5 => ?_
 refine sn 0 6 fun hl0_6 => ?_
 refine iT ?_
 refine vV ?_
 refine cz ?_
 refine sP [1, 2, 4, 5] [2] ?_
 refine sL [1, 2] [2] (fun k : Nat => k ≤ e.Ws.length ∧ (e.Ws.take k).any (dD id) = false) (fun k : Nat => [(5, RV.int (k : Int))]) (fun k : Nat => []) (fun k : Nat => e.Ws.length - k) 0 (by exact ⟨by omega, by simp⟩) (by exact aI (by exact rfl) tI) (by exact tI) ?_
 rintro k ⟨hk, ha⟩
 refine d6 ?_
 refine pp ?_
 refine sc (fun hba => ?_) (fun hba => ?_)
 have hlt : k < e.Ws.length := by omega
 refine bB ?_
 refine sT [1, 2, 5] [2] ?_
 refine ji ?_
 refine zi ?_
 refine zj ?_
 refine rA ?_ (x := lE [val _] au)
 refine rM ?_
 refine rA ?_ (x := d4)
 refine sc (fun hbb => ?_) (fun hbb => ?_)
 have hy : dD id e.Ws[k] = true := by first | (simp_all [dD]; done) | simpa [dD] using hbb
 refine sS [1, 2, 5] [2] ?_
 exact ES
 have hno : dD id e.Ws[k] = false := by first | (simp_all [dD]; done) | simpa [dD] using hbb
 refine bl ?_
 refine sG [1, 2, 5] [2] ?_
 exact El
 have hend : k = e.Ws.length := by omega
 rw [hend, cb] at ha
 refine bF ?_
 refine sT [1, 2, 5] [2] ?_
 exact ET
end Go.Proofs.YtmekkgdboplbjaaGreat
