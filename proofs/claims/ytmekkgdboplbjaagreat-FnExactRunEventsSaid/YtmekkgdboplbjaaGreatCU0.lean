/- What functions of the program compute. No condition. -/
import Derived.Test.YtmekkgdboplbjaaGreatCN0
import Derived.Test.YtmekkgdboplbjaaGreatCS0
import Derived.Test.YtmekkgdboplbjaaGreatCT0
set_option linter.all false
namespace Go.Proofs.YtmekkgdboplbjaaGreat
open Go Go.RowKit M PV Tryz
set_option maxRecDepth 10000
attribute [local irreducible] PV.Lcl PV.LclR RV.Lcl
def ZQ {o : List Int}  : aB prog 99 [(false, [sl .v (o.map ak)])] (aA [(false, [val (.bool (gV o))])]) := by
 refine sF func99 fun h0 w0 Fz0 => ?_
 refine sj 0 fun hl0 => ?_
 refine qR ?_
 refine sz ?_
 refine sL [0] [] (fun k : Nat => k ≤ 3 ∧ rq o k = true) (fun k : Nat => [(3, RV.int (k : Int))]) (fun k : Nat => []) (fun k : Nat => 3 - k) 0 (by exact ⟨by omega, rfl⟩) (by exact aI (by exact rfl) tI) (by exact tI) ?_
 rintro k ⟨hk, ha⟩
 refine rU ?_
 refine iU ?_
 refine sc (fun hba => ?_) (fun hba => ?_)
 have hlt : k < 3 := by omega
 refine bB ?_
 refine sS [0, 3] [] ?_
 refine mM ?_
 refine rA ?_ (x := cL [(false, [sl _ _]), (false, [val _])] [(false, [sl .v _]), (false, [val _])] MY (hs := by exact OY))
 refine rA ?_ (x := nT)
 refine sc (fun hbb => ?_) (fun hbb => ?_)
 have hno : ci o (k : Int) = false := by simpa using hbb
 refine uK ?_
 exact rb ((Wg hlt hno).symm)
 have hyes : ci o (k : Int) = true := by simpa using hbb
 refine sB ?_
 refine cW ?_
 refine nx (k + 1) (by exact ⟨by omega, by rw [yf, ha, hyes]; rfl⟩) (e := (by exact aI (by exact bh (by omega)) tI))
 have hend : k = 3 := by omega
 rw [hend] at ha
 refine sC ?_
 refine lP ?_
 refine rA ?_ (x := eG)
 refine ew ?_
 exact rb (by rw [← Oc, ha, Bool.true_and]; first | rfl | (rw [decide_eq_decide]; omega) | (rw [Bool.eq_iff_iff]; simp; omega) | (rw [Bool.eq_iff_iff]; simp))
def ZR {p1 p2 p7 : Fl} {s : Store} {a : acu}  : aB prog 100 [(true, [sl .v (s.act.map (aC p1 p2)), val (vI s.Now)]), (true, [val (vI a.acv.Id), val (vI a.acv.acz), sl .v (a.acv.acw.map bj), sl .v (a.acv.Out.map ak), val (vI a.Time), sl .v (a.acD.map ak), val (vI a.Age), val (vI a.Sent), val (vI a.Cap), sl .v (a.Rows.map (bC p7))])] (aA [(false, [val (.bool (gj s a))])]) := by
 refine sF func100 fun h0 w0 Fz0 => ?_
 refine sn 0 0 fun hl0_0 => ?_
 refine sn 1 2 fun hl1_2 => ?_
 refine sn 1 3 fun hl1_3 => ?_
 refine sn 1 5 fun hl1_5 => ?_
 refine sn 1 9 fun hl1_9 => ?_
 refine jy ?_
 refine Lb ?_
 refine ux ?_
 refine dZ ?_
 refine sP [2, 3, 4, 8, 9, 10] [2, 3] ?_
 refine sL [2, 3, 8, 9] [2, 3] (fun k : Nat => k ≤ a.acD.length ∧ kJ 0 (nr s.act.length) ns a.acD k = true) (fun k : Nat => [(10, RV.int (k : Int))]) (fun k : Nat => []) (fun k : Nat => a.acD.length - k) 0 (by exact ⟨by omega, rfl⟩) (by exact aI (by exact rfl) tI) (by exact tI) ?_
 rintro k ⟨hk, ha⟩
 refine cF ?_
 refine sc (fun hba => ?_) (fun hba => ?_)
 have hlt : k < a.acD.length := by omega
 have hgk : a.acD.getD k 0 = a.acD[k] := gU hlt
 have hgp : 0 < k → a.acD.getD (k - 1) 0 = a.acD[k - 1] := fun h => gU (by omega)
 refine bB ?_
 refine sT [2, 3, 8, 9, 10] [2, 3] ?_
 refine rM ?_
 refine oJ ?_
 refine rS ?_
 refine sS [2, 3, 5, 6, 8, 9, 10] [2, 3] ?_
 refine rM ?_
 refine lR ?_
 refine rA ?_ (x := ip)
 refine KR ?_
 refine cx 22 (fun ga sga => ?_) (fun ga sga => ?_)
 refine oH ?_
 exact Ho
 refine rB ga ?_ (x := sM)
 refine rB ga ?_ (x := eN)
 refine rB ga ?_ (x := sM)
 refine cx 25 (fun gb sgb => ?_) (fun gb sgb => ?_)
 refine rB gb ?_ (x := lF hR)
 refine rB gb ?_ (x := lD [sl .v _] bv)
 refine rB gb ?_ (x := sM)
 refine rB gb ?_ (x := ip)
 refine rB gb ?_ (x := aY (k := k - 1) (by decide) bF (by exact tI) (by omega) (by exact bc (by omega) rfl) (by exact rfl))
 refine rB gb ?_ (x := lE [val _] au)
 refine rB gb ?_ (x := sM)
 refine rB gb ?_ (x := iD)
 refine rB ga ?_ (x := aT gb)
 refine rA ?_ (x := aK ga)
 refine sc (fun hbb => ?_) (fun hbb => ?_)
 exact Ho
 exact Hq
 refine zf gb ?_
 refine rB ga ?_ (x := aK gb)
 refine rA ?_ (x := aK ga)
 refine fT ?_
 exact Hq
 have hend : k = a.acD.length := by omega
 have hall : fa 0 (nr s.act.length) ns a.acD = true := rh ha hend
 refine bG ?_
 refine sT [2, 3, 8, 9, 10] [2, 3] ?_
 refine ux ?_
 refine rA ?_ (x := eN)
 refine rM ?_
 refine cx 41 (fun ga sga => ?_) (fun ga sga => ?_)
 refine rB ga ?_ (x := lF fw)
 refine Kv ?_
 refine gR ?_
 refine cx 46 (fun gb sgb => ?_) (fun gb sgb => ?_)
 refine rB gb ?_ (x := lF mZ)
 refine rB gb ?_ (x := lD [val _] au)
 refine rB gb ?_ (x := lF fV)
 refine wC ?_
 refine gQ ?_
 refine cx 53 (fun gc sgc => ?_) (fun gc sgc => ?_)
 refine rB gc ?_ (x := lF mf)
 refine AN ?_
 refine iV ?_
 refine cx 58 (fun gd sgd => ?_) (fun gd sgd => ?_)
 refine rB gd ?_ (x := lF kc)
 refine AO ?_
 refine sJ ?_
 refine cx 63 (fun ge sge => ?_) (fun ge sge => ?_)
 refine rB ge ?_ (x := lF mg)
 refine rB ge ?_ (x := lD [val _] au)
 refine rB ge ?_ (x := cL [(false, [val _]), (false, [val _]), (false, [val _])] [(false, [val _]), (false, [val _]), (false, [val _])] kb (hs := by exact kt))
 refine rA ?_ (x := aT ge)
 refine rM ?_
 refine cx 68 (fun gf sgf => ?_) (fun gf sgf => ?_)
 refine rB gf ?_ (x := lF kd)
 refine rB gf ?_ (x := lD [sl .v _] gy)
 refine rB gf ?_ (x := cL [(false, [sl _ _])] [(false, [sl .v _])] Oy (hs := by exact OZ))
 refine rA ?_ (x := aT gf)
 exact qn
 refine zf gf ?_
 refine rA ?_ (x := aK gf)
 exact qn
 refine xJ ?_
 refine rM ?_
 refine ar.cases (s := 68) rfl (fun g13 => nomatch g13) (fun g13 => ?_)
 refine zf g13 ?_
 refine rA ?_ (x := aK g13)
 exact qn
 refine qO ?_
 refine rM ?_
 refine ar.cases (s := 63) rfl (fun g14 => nomatch g14) (fun g14 => ?_)
 refine zf g14 ?_
 refine rA ?_ (x := aK g14)
 refine rM ?_
 refine ar.cases (s := 68) rfl (fun g15 => nomatch g15) (fun g15 => ?_)
 refine zf g15 ?_
 refine rA ?_ (x := aK g15)
 exact qn
 refine lY ?_
 refine ar.cases (s := 58) rfl (fun g16 => nomatch g16) (fun g16 => ?_)
 refine zf g16 ?_
 refine rA ?_ (x := aK g16)
 refine rM ?_
 refine ar.cases (s := 63) rfl (fun g17 => nomatch g17) (fun g17 => ?_)
 refine sr ?_
 refine rM ?_
 refine ar.cases (s := 68) rfl (fun g18 => nomatch g18) (fun g18 => ?_)
 refine xG ?_
 exact qn
 refine gF ?_
 refine ar.cases (s := 53) rfl (fun g19 => nomatch g19) (fun g19 => ?_)
 refine uz ?_
 refine rM ?_
 refine ar.cases (s := 58) rfl (fun g20 => nomatch g20) (fun g20 => ?_)
 refine xF ?_
 refine rM ?_
 refine ar.cases (s := 63) rfl (fun g21 => nomatch g21) (fun g21 => ?_)
 refine zf g21 ?_
 refine rA ?_ (x := aK g21)
 refine rM ?_
 refine ar.cases (s := 68) rfl (fun g22 => nomatch g22) (fun g22 => ?_)
 refine zf g22 ?_
 refine rA ?_ (x := aK g22)
 exact qn
 refine hM ?_
 refine ar.cases (s := 46) rfl (fun g23 => nomatch g23) (fun g23 => ?_)
 refine zf g23 ?_
 refine rA ?_ (x := aK g23)
 refine rM ?_
 refine ar.cases (s := 53) rfl (fun g24 => nomatch g24) (fun g24 => ?_)
 refine zf g24 ?_
 refine rA ?_ (x := aK g24)
 refine rM ?_
 refine ar.cases (s := 58) rfl (fun g25 => nomatch g25) (fun g25 => ?_)
 refine zf g25 ?_
 refine rA ?_ (x := aK g25)
 refine rM ?_
 refine ar.cases (s := 63) rfl (fun g26 => nomatch g26) (fun g26 => ?_)
 refine zf g26 ?_
 refine rA ?_ (x := aK g26)
 refine rM ?_
 refine ar.cases (s := 68) rfl (fun g27 => nomatch g27) (fun g27 => ?_)
 refine zf g27 ?_
 refine rA ?_ (x := aK g27)
 exact qn
def ZS {l : List Int} {n : Int}  (hn : 0 ≤ n ∧ n ≤ 9223372036854775807) : aB prog 163 [(false, [sl .v (l.map ak)]), (false, [val (vI n)])] (aA [(false, [val (.bool (lx l n))])]) := by
 refine sF func163 fun h0 w0 Fz0 => ?_
 refine sj 0 fun hl0 => ?_
 refine mV ?_
 refine sL [0, 1] [] (fun k : Nat => k ≤ l.length ∧ kJ 0 (nr n) ns l k = true) (fun k : Nat => [(5, RV.int (k : Int))]) (fun k : Nat => []) (fun k : Nat => l.length - k) 0 (by exact ⟨by omega, rfl⟩) (by exact aI (by exact rfl) tI) (by exact tI) ?_
 rintro k ⟨hk, ha⟩
 refine jX ?_
 refine sc (fun hba => ?_) (fun hba => ?_)
 have hlt : k < l.length := by omega
 have hgk : l.getD k 0 = l[k] := gU hlt
 have hgp : 0 < k → l.getD (k - 1) 0 = l[k - 1] := fun h => gU (by omega)
 refine lW ?_
 refine sb ?_
 refine dA 0 ?_ (x := sM)
 refine dA 16 ?_ (x := ip)
 refine dA 63 ?_ (x := cL [(false, [val _]), (false, [val _]), (false, [val _])] [(false, [val _]), (false, [val _]), (false, [val _])] gv (hs := by exact gz))
 refine dA 127 ?_ (x := nT)
 refine dA 255 ?_ (x := sM)
 refine dx 20 (fun ga sga => ?_) (fun ga sga => ?_)
 refine dT 511 ga ?_
 refine dT 1023 ga ?_
 refine dT 2047 ga ?_
 refine dU 4095 ?_
 refine dU 4095 ?_
 refine dU 16383 ?_
 refine dU 32767 ?_
 refine dU 4095 ?_
 refine dU 4095 ?_
 refine dU 135167 ?_
 refine dU 462847 ?_
 refine dU 987135 ?_
 refine dU 2097151 ?_
 refine dT 4194303 ga ?_
 refine dA 8388607 ?_ (x := aT ga)
 refine dr ?_
 exact Hr
 refine dB 511 ga ?_ (x := sM)
 refine dB 1023 ga ?_ (x := eN)
 refine dB 2047 ga ?_ (x := sM)
 refine dx 23 (fun gb sgb => ?_) (fun gb sgb => ?_)
 refine dB 4095 gb ?_ (x := vM false [sl .v _])
 refine dB 4095 gb ?_ (x := sM)
 refine dB 16383 gb ?_ (x := aY (by decide) bF (by exact tI) (by exact rfl) (by exact bc (by omega) rfl) (by exact rfl))
 refine dB 32767 gb ?_ (x := lE [val _] au)
 refine dB 4095 gb ?_ (x := vM false [sl .v _])
 refine dB 4095 gb ?_ (x := sM)
 refine dB 135167 gb ?_ (x := ip)
 refine dB 462847 gb ?_ (x := aY (k := k - 1) (by decide) bF (by exact tI) (by omega) (by exact bc (by omega) rfl) (by exact rfl))
 refine dB 987135 gb ?_ (x := lE [val _] au)
 refine dB 2097151 gb ?_ (x := iR)
 refine dB 4194303 ga ?_ (x := aT gb)
 refine dA 8388607 ?_ (x := aK ga)
 refine sc (fun hbb => ?_) (fun hbb => ?_)
 exact Hr
 exact Hs
 refine dF 4095 gb ?_
 refine dF 4095 gb ?_
 refine dF 16383 gb ?_
 refine dF 32767 gb ?_
 refine dF 4095 gb ?_
 refine dF 4095 gb ?_
 refine dF 135167 gb ?_
 refine dF 462847 gb ?_
 refine dF 987135 gb ?_
 refine dF 2097151 gb ?_
 refine dB 4194303 ga ?_ (x := aK gb)
 refine dA 8388607 ?_ (x := aK ga)
 refine fT ?_
 exact Hs
 have hend : k = l.length := by omega
 have hall : fa 0 (nr n) ns l = true := rh ha hend
 refine bG ?_
 refine hJ ?_
 refine rA ?_ (x := lN bF)
 refine rA ?_ (x := eN)
 refine ew ?_
 exact rb (by first | (simp_all [lx]; done) | (simp_all [lx]; rfl) | (simp_all [lx]; omega) | (simp_all [lx]; intros; omega))
def ZT {p1 p2 p5 p6 p7 p8 p9 p11 p12 p13 p14 p16 p17 p18 p23 : Fl} {e : aD} {a : acu}  : aB prog 66 [(true, [sl .v (e.Store.act.map (aC p1 p2)), val (vI e.Store.Now), val (vI e.acy), sl .v (e.Order.map ak), sl .v (e.acu.map (aQ p5 p6 p7 p8 p9)), sl .v (e.Done.map (aX p11 p12 p13 p14)), sl .v (e.acG.map (aZ p16 p17 p18)), val (vI e.Steps)]), (true, [val (vI a.acv.Id), val (vI a.acv.acz), sl .v (a.acv.acw.map bj), sl .v (a.acv.Out.map ak), val (vI a.Time), sl .v (a.acD.map ak), val (vI a.Age), val (vI a.Sent), val (vI a.Cap), sl .v (a.Rows.map (bC p23))])] (aA [(false, [val (.bool (gj e.Store a))])]) := by
 refine sF func66 fun h0 w0 Fz0 => ?_
 refine sn 0 0 fun hl0_0 => ?_
 refine sn 0 3 fun hl0_3 => ?_
 refine sn 0 4 fun hl0_4 => ?_
 refine sn 0 5 fun hl0_5 => ?_
 refine sn 0 6 fun hl0_6 => ?_
 refine sn 1 2 fun hl1_2 => ?_
 refine sn 1 3 fun hl1_3 => ?_
 refine sn 1 5 fun hl1_5 => ?_
 refine sn 1 9 fun hl1_9 => ?_
 refine jx ?_
 refine rX ?_ (x := (dG (ag := true) (cs := [val _, val _, sl _ _, sl _ _, val _, sl _ _, val _, val _, val _, sl _ _]) (by decide) (by exact tI)))
 refine sx ?_
 refine un ?_
 refine Lu ?_
 refine cx 8 (fun ga sga => ?_) (fun ga sga => ?_)
 refine rB ga ?_ (x := lF mZ)
 refine BI ?_
 refine rB ga ?_ (x := lF fV)
 refine tX ?_
 refine gR ?_
 refine cx 16 (fun gb sgb => ?_) (fun gb sgb => ?_)
 refine rB gb ?_ (x := lF hR)
 refine rB gb ?_ (x := lD [sl .v _] bv)
 refine rB gb ?_ (x := lF hY)
 refine rB gb ?_ (x := lF kf)
 refine rB gb ?_ (x := lD [sl .v _] ko)
 refine rB gb ?_ (x := lN di)
 refine rB gb ?_ (x := cL [(false, [sl _ _]), (false, [val _])] [(false, [sl .v _]), (false, [val _])] WM (hs := by exact (ZS (by omega))))
 refine gQ ?_
 refine cx 25 (fun gc sgc => ?_) (fun gc sgc => ?_)
 refine rB gc ?_ (x := lF mf)
 refine Ky ?_
 refine iV ?_
 refine cx 30 (fun gd sgd => ?_) (fun gd sgd => ?_)
 refine rB gd ?_ (x := lF kc)
 refine AP ?_
 refine sJ ?_
 refine cx 35 (fun ge sge => ?_) (fun ge sge => ?_)
 refine rB ge ?_ (x := lF mg)
 refine Kz ?_
 refine rA ?_ (x := aT ge)
 refine rM ?_
 refine cx 40 (fun gf sgf => ?_) (fun gf sgf => ?_)
 refine rB gf ?_ (x := lF kd)
 refine rB gf ?_ (x := lD [sl .v _] gy)
 refine rB gf ?_ (x := cL [(false, [sl _ _])] [(false, [sl .v _])] OM (hs := by exact Pa))
 refine rA ?_ (x := aT gf)
 exact qo
 refine zf gf ?_
 refine rA ?_ (x := aK gf)
 exact qo
 refine xJ ?_
 refine rM ?_
 refine ar.cases (s := 40) rfl (fun g7 => nomatch g7) (fun g7 => ?_)
 refine uB ?_
 exact qo
 refine qO ?_
 refine rM ?_
 refine ar.cases (s := 35) rfl (fun g8 => nomatch g8) (fun g8 => ?_)
 refine zf g8 ?_
 refine rA ?_ (x := aK g8)
 refine rM ?_
 refine ar.cases (s := 40) rfl (fun g9 => nomatch g9) (fun g9 => ?_)
 refine qN ?_
 exact qo
 refine lY ?_
 refine ar.cases (s := 30) rfl (fun g10 => nomatch g10) (fun g10 => ?_)
 refine qL ?_
 refine rM ?_
 refine ar.cases (s := 35) rfl (fun g11 => nomatch g11) (fun g11 => ?_)
 refine xE ?_
 refine rM ?_
 refine ar.cases (s := 40) rfl (fun g12 => nomatch g12) (fun g12 => ?_)
 refine zf g12 ?_
 refine rA ?_ (x := aK g12)
 exact qo
 refine gF ?_
 refine ar.cases (s := 25) rfl (fun g13 => nomatch g13) (fun g13 => ?_)
 refine zf g13 ?_
 refine rA ?_ (x := aK g13)
 refine rM ?_
 refine ar.cases (s := 30) rfl (fun g14 => nomatch g14) (fun g14 => ?_)
 refine zf g14 ?_
 refine rA ?_ (x := aK g14)
 refine rM ?_
 refine ar.cases (s := 35) rfl (fun g15 => nomatch g15) (fun g15 => ?_)
 refine zf g15 ?_
 refine rA ?_ (x := aK g15)
 refine rM ?_
 refine ar.cases (s := 40) rfl (fun g16 => nomatch g16) (fun g16 => ?_)
 refine zf g16 ?_
 refine rA ?_ (x := aK g16)
 exact qo
 refine hM ?_
 refine ar.cases (s := 16) rfl (fun g17 => nomatch g17) (fun g17 => ?_)
 refine sr ?_
 refine rM ?_
 refine ar.cases (s := 25) rfl (fun g18 => nomatch g18) (fun g18 => ?_)
 refine xG ?_
 refine rM ?_
 refine ar.cases (s := 30) rfl (fun g19 => nomatch g19) (fun g19 => ?_)
 refine uz ?_
 refine rM ?_
 refine ar.cases (s := 35) rfl (fun g20 => nomatch g20) (fun g20 => ?_)
 refine xF ?_
 refine rM ?_
 refine ar.cases (s := 40) rfl (fun g21 => nomatch g21) (fun g21 => ?_)
 refine zf g21 ?_
 refine rA ?_ (x := aK g21)
 exact qo
def Pm {p1 p2 p5 p6 p7 p8 p9 p11 p12 p13 p14 p16 p17 p18 : Fl} {e : aD}  (hb : bi e ≤ 68719476736) : aB prog 29 [(true, [sl .v (e.Store.act.map (aC p1 p2)), val (vI e.Store.Now), val (vI e.acy), sl .v (e.Order.map ak), sl .v (e.acu.map (aQ p5 p6 p7 p8 p9)), sl .v (e.Done.map (aX p11 p12 p13 p14)), sl .v (e.acG.map (aZ p16 p17 p18)), val (vI e.Steps)])] (aA [(false, [val (.bool (bk e))])]) := by
 refine sF func29 fun h0 w0 Fz0 => ?_
 refine sn 0 0 fun hl0_0 => ?_
 refine sn 0 3 fun hl0_3 => ?_
 refine sn 0 4 fun hl0_4 => ?_
 refine sn 0 5 fun hl0_5 => ?_
 refine sn 0 6 fun hl0_6 => ?_
 have hbu := hb
 simp only [bi] at hbu
 refine jx ?_
 refine lU ?_
 refine qI ?_
 refine rA ?_ (x := cL [(true, [sl _ _, val _])] [(true, [sl .v _, val _])] ON (hs := by exact Pi (by omega)))
 refine gp ?_
 refine cx 13 (fun ga sga => ?_) (fun ga sga => ?_)
 refine kG ?_
 refine ar.cases (s := 24) rfl (fun g2 => ?_) (fun g2 => nomatch g2)
 refine pM ?_
 refine ar.cases (s := 30) rfl (fun g3 => ?_) (fun g3 => nomatch g3)
 refine pD ?_
 exact nZ
 refine rB ga ?_ (x := lF jG)
 refine BI ?_
 refine BD ?_
 refine rB ga ?_ (x := lN di)
 refine rB ga ?_ (x := ip)
 refine As ?_
 refine ou ?_
 refine cx 24 (fun gb sgb => ?_) (fun gb sgb => ?_)
 refine ox ?_
 refine ar.cases (s := 30) rfl (fun g6 => ?_) (fun g6 => nomatch g6)
 refine uC ?_
 exact nZ
 refine rB gb ?_ (x := lF nb)
 refine rB gb ?_ (x := lD [sl .v _] bv)
 refine rB gb ?_ (x := cL [(false, [sl _ _])] [(false, [sl .v _])] XN (hs := by exact ZQ))
 refine sE ?_
 refine cx 30 (fun gc sgc => ?_) (fun gc sgc => ?_)
 refine sy ?_
 exact nZ
 refine rB gc ?_ (x := lF kh)
 refine AN ?_
 refine rB gc ?_ (x := nT)
 refine rA ?_ (x := aK gc)
 refine sc (fun hba => ?_) (fun hba => ?_)
 exact Ad
 have hp1 : (dI e.Store && (aW e.acy 0 (e.Store.act.length - 1) && (gV e.Order && aW e.Steps 0 100000))) = true := by first | (simp_all; done) | (simp_all; omega)
 refine uJ ?_
 refine jV ?_
 refine rA ?_ (x := lN bL)
 refine rA ?_ (x := eN)
 refine rM ?_
 refine cx 40 (fun gd sgd => ?_) (fun gd sgd => ?_)
 refine zt gd ?_
 refine sJ ?_
 refine ar.cases (s := 46) rfl (fun g12 => ?_) (fun g12 => nomatch g12)
 refine zt g12 ?_
 refine rA ?_ (x := aT g12)
 refine dr ?_
 exact Ae
 refine rB gd ?_ (x := lF lh)
 refine rB gd ?_ (x := lD [sl .v _] lm)
 refine rB gd ?_ (x := lN fb)
 refine rB gd ?_ (x := eN)
 refine uH ?_
 refine cx 46 (fun ge sge => ?_) (fun ge sge => ?_)
 refine zt ge ?_
 refine rA ?_ (x := aT ge)
 refine dr ?_
 exact Ae
 refine rB ge ?_ (x := lF kg)
 refine rB ge ?_ (x := lD [sl .v _] kp)
 refine rB ge ?_ (x := lN eB)
 refine rB ge ?_ (x := eN)
 refine rA ?_ (x := aK ge)
 refine sc (fun hbb => ?_) (fun hbb => ?_)
 exact Ae
 have hpr : jc e = true := by unfold jc; rw [hp1]; first | (simp_all; done) | (simp_all; omega)
 refine uJ ?_
 refine pK ?_
 refine sP [1, 2, 53, 54, 55] [1] ?_
 refine sL [1, 53, 54] [1] (fun k : Nat => k ≤ e.acu.length ∧ kJ ic (gj e.Store) lv e.acu k = true) (fun k : Nat => [(55, RV.int (k : Int))]) (fun k : Nat => []) (fun k : Nat => e.acu.length - k) 0 (by exact ⟨by omega, rfl⟩) (by exact aI (by exact rfl) tI) (by exact tI) ?_
 rintro k ⟨hk, ha⟩
 refine cF ?_
 refine sc (fun hbc => ?_) (fun hbc => ?_)
 have hlt : k < e.acu.length := by omega
 have hgk : e.acu.getD k ic = e.acu[k] := gU hlt
 have hgp : 0 < k → e.acu.getD (k - 1) ic = e.acu[k - 1] := fun h => gU (by omega)
 refine bB ?_
 refine sT [1, 53, 54, 55] [1] ?_
 refine rM ?_
 refine rY ?_
 refine rX ?_ (x := (bY (by decide) fJ nk))
 refine rS ?_
 refine KC ?_
 refine sO [(1, _), (3, _), (4, _), (53, _), (54, _), (55, _)] [(1, _), (4, (108, [val _, val _, sl _ _, sl _ _, val _, sl _ _, val _, val _, val _, sl _ _]))] ?_
 refine dw dl ?_
 refine BB ?_
 refine dA 0 ?_ (x := lD [val _, val _, sl .v _, sl .v _, val _, sl .v _, val _, val _, val _, sl .v _] fW)
 refine dA 7 ?_ (x := cL [(true, [sl _ _, val _]), (true, [val _, val _, sl _ _, sl _ _, val _, sl _ _, val _, val _, val _, sl _ _])] [(true, [sl .v _, val _]), (true, [val _, val _, sl .v _, sl .v _, val _, sl .v _, val _, val _, val _, sl .v _])] Wx (hs := by exact ZR))
 refine dA 15 ?_ (x := nT)
 refine dA 31 ?_ (x := sM)
 refine dx 65 (fun gf sgf => ?_) (fun gf sgf => ?_)
 refine dT 63 gf ?_
 refine dT 127 gf ?_
 refine dT 255 gf ?_
 refine dU 511 ?_
 refine dU 1023 ?_
 refine dU 511 ?_
 refine dU 2559 ?_
 refine dU 8191 ?_
 refine dU 16383 ?_
 refine dU 32767 ?_
 refine dU 65535 ?_
 refine dU 511 ?_
 refine dU 131583 ?_
 refine dU 393727 ?_
 refine dU 1048575 ?_
 refine dT 2097151 gf ?_
 refine dA 4194303 ?_ (x := aT gf)
 refine dr ?_
 exact Hu
 refine dB 63 gf ?_ (x := sM)
 refine dB 127 gf ?_ (x := eN)
 refine dB 255 gf ?_ (x := sM)
 refine dx 68 (fun gg sgg => ?_) (fun gg sgg => ?_)
 refine dB 511 gg ?_ (x := lF el)
 refine dB 1023 gg ?_ (x := lD [sl .v _] ea)
 refine dB 511 gg ?_ (x := sM)
 refine dB 2559 gg ?_ (x := ip)
 refine dB 8191 gg ?_ (x := aY (k := k - 1) (by decide) bL (by exact tI) (by omega) (by exact bc (by omega) rfl) (by exact rfl))
 refine dB 16383 gg ?_ (x := bI (by decide) fw (by exact nl rfl))
 refine dB 32767 gg ?_ (x := bI (by decide) fx (by exact nl rfl))
 refine dB 65535 gg ?_ (x := lE [val _] au)
 refine dB 511 gg ?_ (x := lF fw)
 refine dB 131583 gg ?_ (x := lF fx)
 refine dB 393727 gg ?_ (x := lD [val _] au)
 refine dB 1048575 gg ?_ (x := iD)
 refine dB 2097151 gf ?_ (x := aT gg)
 refine dA 4194303 ?_ (x := aK gf)
 refine sc (fun hbd => ?_) (fun hbd => ?_)
 exact Hu
 exact Hw
 refine dF 511 gg ?_
 refine dF 1023 gg ?_
 refine dF 511 gg ?_
 refine dF 2559 gg ?_
 refine dF 8191 gg ?_
 refine dF 16383 gg ?_
 refine dF 32767 gg ?_
 refine dF 65535 gg ?_
 refine dF 511 gg ?_
 refine dF 131583 gg ?_
 refine dF 393727 gg ?_
 refine dF 1048575 gg ?_
 refine dB 2097151 gf ?_ (x := aK gg)
 refine dA 4194303 ?_ (x := aK gf)
 refine fT ?_
 exact Hw
 have hend : k = e.acu.length := by omega
 have hall : fa ic (gj e.Store) lv e.acu = true := rh ha hend
 refine it ?_
 refine sT [1, 53, 54, 55] [1] ?_
 refine oi ?_
 refine rA ?_ (x := lN fb)
 refine dZ ?_
 refine sP [1, 53, 54, 55, 85, 86, 87] [1] ?_
 refine sL [1, 53, 54, 55, 85, 86] [1] (fun k : Nat => k ≤ e.Done.length ∧ (List.take k e.Done).all (gW e.Store.Now) = true) (fun k : Nat => [(87, RV.int (k : Int))]) (fun k : Nat => []) (fun k : Nat => e.Done.length - k) 0 (by exact ⟨by omega, rfl⟩) (by exact aI (by exact rfl) tI) (by exact tI) ?_
 rintro k ⟨hk, ha⟩
 refine cF ?_
 refine sc (fun hbd => ?_) (fun hbd => ?_)
 have hlt : k < e.Done.length := by omega
 refine bB ?_
 refine sT [1, 53, 54, 55, 85, 86, 87] [1] ?_
 refine wB ?_
 refine wz ?_
 refine aP ?_
 refine sO [(1, _), (6, _), (53, _), (54, _), (55, _), (85, _), (86, _), (87, _)] [(1, _), (6, (63, [val _, val _, sl _ _, sl _ _, val _, val _, sl _ _]))] ?_
 refine bf ?_
 refine uo ?_
 refine Lo ?_
 refine cx 95 (fun gf sgf => ?_) (fun gf sgf => ?_)
 refine zt gf ?_
 refine rA ?_ (x := aT gf)
 refine rM ?_
 refine ar.cases (s := 104) rfl (fun g25 => ?_) (fun g25 => nomatch g25)
 refine zt g25 ?_
 refine rA ?_ (x := aT g25)
 refine rM ?_
 refine ar.cases (s := 110) rfl (fun g26 => ?_) (fun g26 => nomatch g26)
 refine zt g26 ?_
 refine rA ?_ (x := aT g26)
 refine dr ?_
 exact wd
 refine rB gf ?_ (x := lF ri)
 refine rB gf ?_ (x := lD [val _] au)
 refine rB gf ?_ (x := lF hY)
 refine rB gf ?_ (x := lF fV)
 refine rB gf ?_ (x := lD [val _] au)
 refine rB gf ?_ (x := cL [(false, [val _]), (false, [val _]), (false, [val _])] [(false, [val _]), (false, [val _]), (false, [val _])] kb (hs := by exact kt))
 refine rB gf ?_ (x := nT)
 refine rA ?_ (x := aK gf)
 refine rM ?_
 refine cx 104 (fun gg sgg => ?_) (fun gg sgg => ?_)
 refine zt gg ?_
 refine rA ?_ (x := aT gg)
 refine rM ?_
 refine ar.cases (s := 110) rfl (fun g29 => ?_) (fun g29 => nomatch g29)
 refine zt g29 ?_
 refine rA ?_ (x := aT g29)
 refine dr ?_
 exact wd
 refine rB gg ?_ (x := lF rj)
 refine rB gg ?_ (x := lD [val _] au)
 refine rB gg ?_ (x := cL [(false, [val _]), (false, [val _]), (false, [val _])] [(false, [val _]), (false, [val _]), (false, [val _])] kb (hs := by exact kt))
 refine rB gg ?_ (x := nT)
 refine rA ?_ (x := aK gg)
 refine rM ?_
 refine cx 110 (fun gh sgh => ?_) (fun gh sgh => ?_)
 refine zt gh ?_
 refine rA ?_ (x := aT gh)
 refine dr ?_
 exact wd
 refine rB gh ?_ (x := lF nf)
 refine rB gh ?_ (x := lD [sl .v _] gy)
 refine rB gh ?_ (x := cL [(false, [sl _ _])] [(false, [sl .v _])] Oy (hs := by exact OZ))
 refine rB gh ?_ (x := nT)
 refine rA ?_ (x := aK gh)
 refine sc (fun hbe => ?_) (fun hbe => ?_)
 exact wd
 have hyes : (gW e.Store.Now) e.Done[k] = true := by first | (simp_all [gW]; done) | (simp_all [gW]; omega)
 refine bm ?_
 refine sG [1, 6, 53, 54, 55, 85, 86, 87] [1, 6] ?_
 exact tP
 have hfa : e.Done.all (gW e.Store.Now) = true := jY (by rw [show e.Done.length = k by omega]; exact ha)
 refine it ?_
 refine sT [1, 53, 54, 55, 85, 86, 87] [1] ?_
 refine pz ?_
 refine rA ?_ (x := lN eB)
 refine dZ ?_
 refine sP [1, 53, 54, 55, 85, 86, 87, 118, 119, 120] [1] ?_
 refine sL [1, 53, 54, 55, 85, 86, 87, 118, 119] [1] (fun k : Nat => k ≤ e.acG.length ∧ (List.take k e.acG).all fZ = true) (fun k : Nat => [(120, RV.int (k : Int))]) (fun k : Nat => []) (fun k : Nat => e.acG.length - k) 0 (by exact ⟨by omega, rfl⟩) (by exact aI (by exact rfl) tI) (by exact tI) ?_
 rintro k ⟨hk, ha⟩
 refine cF ?_
 refine sc (fun hbe => ?_) (fun hbe => ?_)
 have hlt : k < e.acG.length := by omega
 refine bB ?_
 refine sT [1, 53, 54, 55, 85, 86, 87, 118, 119, 120] [1] ?_
 refine AS ?_
 refine AR ?_
 refine aP ?_
 refine sO [(1, _), (8, _), (53, _), (54, _), (55, _), (85, _), (86, _), (87, _), (118, _), (119, _), (120, _)] [(1, _), (8, (70, [val _, val _, sl _ _, sl _ _, sl _ _]))] ?_
 refine bf ?_
 refine rA ?_ (x := lD [val _, val _, sl .v _, sl .v _, sl .v _] jJ)
 refine rA ?_ (x := cL [(true, [val _, val _, sl _ _, sl _ _, sl _ _])] [(true, [val _, val _, sl .v _, sl .v _, sl .v _])] Wy (hs := by exact ZO))
 refine rA ?_ (x := nT)
 refine sc (fun hbf => ?_) (fun hbf => ?_)
 have hno : fZ e.acG[k] = false := by simpa using hbf
 have hbad2 := Ob (lZ hlt hno)
 refine sS [1, 8, 53, 54, 55, 85, 86, 87, 118, 119, 120] [1, 8] ?_
 exact rR
 have hyes : fZ e.acG[k] = true := by simpa using hbf
 refine bm ?_
 refine sG [1, 8, 53, 54, 55, 85, 86, 87, 118, 119, 120] [1, 8] ?_
 exact tP
 have hla : e.acG.all fZ = true := jY (by rw [show e.acG.length = k by omega]; exact ha)
 refine bG ?_
 refine sT [1, 53, 54, 55, 85, 86, 87, 118, 119, 120] [1] ?_
 exact Hx
def yv {p1 p2 p5 p6 p7 p8 p9 p11 p12 p13 p14 p16 p17 p18 : Fl} {e : aD}  (hb : bi e ≤ 68719476736) : aB prog 14 [(true, [sl .v (e.Store.act.map (aC p1 p2)), val (vI e.Store.Now), val (vI e.acy), sl .v (e.Order.map ak), sl .v (e.acu.map (aQ p5 p6 p7 p8 p9)), sl .v (e.Done.map (aX p11 p12 p13 p14)), sl .v (e.acG.map (aZ p16 p17 p18)), val (vI e.Steps)])] (aA [(false, [val (.bool (bk e))])]) := by
 refine sF func14 fun h0 w0 Fz0 => ?_
 refine sn 0 0 fun hl0_0 => ?_
 refine sn 0 3 fun hl0_3 => ?_
 refine sn 0 4 fun hl0_4 => ?_
 refine sn 0 5 fun hl0_5 => ?_
 refine sn 0 6 fun hl0_6 => ?_
 have hbu := hb
 simp only [bi] at hbu
 refine jx ?_
 refine lU ?_
 refine qI ?_
 refine rA ?_ (x := cL [(true, [sl _ _, val _])] [(true, [sl .v _, val _])] OL (hs := by exact Ph (by omega)))
 refine gp ?_
 refine cx 11 (fun ga sga => ?_) (fun ga sga => ?_)
 refine kG ?_
 refine ar.cases (s := 22) rfl (fun g2 => ?_) (fun g2 => nomatch g2)
 refine pM ?_
 refine ar.cases (s := 28) rfl (fun g3 => ?_) (fun g3 => nomatch g3)
 refine pD ?_
 refine rM ?_
 refine ar.cases (s := 34) rfl (fun g4 => ?_) (fun g4 => nomatch g4)
 refine zt g4 ?_
 refine rA ?_ (x := aT g4)
 refine rM ?_
 refine ar.cases (s := 40) rfl (fun g5 => ?_) (fun g5 => nomatch g5)
 refine zt g5 ?_
 refine rA ?_ (x := aT g5)
 refine rM ?_
 refine ar.cases (s := 46) rfl (fun g6 => ?_) (fun g6 => nomatch g6)
 refine uC ?_
 exact nZ
 refine rB ga ?_ (x := lF jG)
 refine BI ?_
 refine BD ?_
 refine rB ga ?_ (x := lN di)
 refine rB ga ?_ (x := ip)
 refine AW ?_
 refine rM ?_
 refine cx 22 (fun gb sgb => ?_) (fun gb sgb => ?_)
 refine ox ?_
 refine ar.cases (s := 28) rfl (fun g9 => ?_) (fun g9 => nomatch g9)
 refine zt g9 ?_
 refine rA ?_ (x := aT g9)
 refine rM ?_
 refine ar.cases (s := 34) rfl (fun g10 => ?_) (fun g10 => nomatch g10)
 refine zt g10 ?_
 refine rA ?_ (x := aT g10)
 refine rM ?_
 refine ar.cases (s := 40) rfl (fun g11 => ?_) (fun g11 => nomatch g11)
 refine zt g11 ?_
 refine rA ?_ (x := aT g11)
 refine rM ?_
 refine ar.cases (s := 46) rfl (fun g12 => ?_) (fun g12 => nomatch g12)
 refine zt g12 ?_
 refine rA ?_ (x := aT g12)
 exact nZ
 refine rB gb ?_ (x := lF nb)
 refine rB gb ?_ (x := lD [sl .v _] bv)
 refine rB gb ?_ (x := cL [(false, [sl _ _])] [(false, [sl .v _])] XA (hs := by exact ZM))
 refine sE ?_
 refine cx 28 (fun gc sgc => ?_) (fun gc sgc => ?_)
 refine zt gc ?_
 refine iV ?_
 refine ar.cases (s := 34) rfl (fun g15 => ?_) (fun g15 => nomatch g15)
 refine zt g15 ?_
 refine rA ?_ (x := aT g15)
 refine rM ?_
 refine ar.cases (s := 40) rfl (fun g16 => ?_) (fun g16 => nomatch g16)
 refine zt g16 ?_
 refine rA ?_ (x := aT g16)
 refine rM ?_
 refine ar.cases (s := 46) rfl (fun g17 => ?_) (fun g17 => nomatch g17)
 refine zt g17 ?_
 refine rA ?_ (x := aT g17)
 exact nZ
 refine rB gc ?_ (x := lF el)
 refine rB gc ?_ (x := lD [sl .v _] ea)
 refine rB gc ?_ (x := lN bL)
 refine rB gc ?_ (x := eN)
 refine uG ?_
 refine cx 34 (fun gd sgd => ?_) (fun gd sgd => ?_)
 refine zt gd ?_
 refine sJ ?_
 refine ar.cases (s := 40) rfl (fun g20 => ?_) (fun g20 => nomatch g20)
 refine zt g20 ?_
 refine rA ?_ (x := aT g20)
 refine rM ?_
 refine ar.cases (s := 46) rfl (fun g21 => ?_) (fun g21 => nomatch g21)
 refine zt g21 ?_
 refine rA ?_ (x := aT g21)
 exact nZ
 refine rB gd ?_ (x := lF kh)
 refine AP ?_
 refine rB gd ?_ (x := nT)
 refine uH ?_
 refine cx 40 (fun ge sge => ?_) (fun ge sge => ?_)
 refine zt ge ?_
 refine rA ?_ (x := aT ge)
 refine rM ?_
 refine ar.cases (s := 46) rfl (fun g24 => ?_) (fun g24 => nomatch g24)
 refine zt g24 ?_
 refine rA ?_ (x := aT g24)
 exact nZ
 refine rB ge ?_ (x := lF lh)
 refine rB ge ?_ (x := lD [sl .v _] lm)
 refine rB ge ?_ (x := lN fb)
 refine rB ge ?_ (x := eN)
 refine rA ?_ (x := aK ge)
 refine rM ?_
 refine cx 46 (fun gf sgf => ?_) (fun gf sgf => ?_)
 refine zt gf ?_
 refine rA ?_ (x := aT gf)
 exact nZ
 refine rB gf ?_ (x := lF kg)
 refine rB gf ?_ (x := lD [sl .v _] kp)
 refine rB gf ?_ (x := lN eB)
 refine rB gf ?_ (x := eN)
 refine rA ?_ (x := aK gf)
 refine sc (fun hba => ?_) (fun hba => ?_)
 exact Ad
 have hpr : jc e = true := by first | (simp_all [jc]; done) | (simp_all [jc]; omega)
 refine uJ ?_
 refine uD ?_
 refine sL [1] [1] (fun k : Nat => k ≤ e.acu.length ∧ kJ ic (gj e.Store) lv e.acu k = true) (fun k : Nat => [(3, RV.int (k : Int))]) (fun k : Nat => []) (fun k : Nat => e.acu.length - k) 0 (by exact ⟨by omega, rfl⟩) (by exact aI (by exact rfl) tI) (by exact tI) ?_
 rintro k ⟨hk, ha⟩
 refine eH ?_
 refine qQ ?_
 refine sc (fun hbb => ?_) (fun hbb => ?_)
 have hlt : k < e.acu.length := by omega
 have hgk : e.acu.getD k ic = e.acu[k] := gU hlt
 have hgp : 0 < k → e.acu.getD (k - 1) ic = e.acu[k - 1] := fun h => gU (by omega)
 refine cO ?_
 refine sQ [1, 3] [1] ?_
 refine Bp ?_
 refine dA 0 ?_ (x := lF el)
 refine dA 2 ?_ (x := lD [sl .v _] ea)
 refine dA 0 ?_ (x := sM)
 refine dA 14 ?_ (x := aY (by decide) bL (by exact tI) (by exact rfl) (by exact bc (by omega) rfl) (by exact rfl))
 refine dA 30 ?_ (x := lE [val _, val _, sl .v _, sl .v _, val _, sl .v _, val _, val _, val _, sl .v _] fW)
 refine dA 63 ?_ (x := cL [(true, [sl _ _, val _, val _, sl _ _, sl _ _, sl _ _, sl _ _, val _]), (true, [val _, val _, sl _ _, sl _ _, val _, sl _ _, val _, val _, val _, sl _ _])] [(true, [sl .v _, val _, val _, sl .v _, sl .v _, sl .v _, sl .v _, val _]), (true, [val _, val _, sl .v _, sl .v _, val _, sl .v _, val _, val _, val _, sl .v _])] XB (hs := by exact ZT))
 refine dA 127 ?_ (x := nT)
 refine dA 255 ?_ (x := sM)
 refine dx 67 (fun gg sgg => ?_) (fun gg sgg => ?_)
 refine dT 511 gg ?_
 refine dT 1023 gg ?_
 refine dT 2047 gg ?_
 refine dU 4095 ?_
 refine dU 8191 ?_
 refine dU 4095 ?_
 refine dU 32767 ?_
 refine dU 65535 ?_
 refine dU 131071 ?_
 refine dU 262143 ?_
 refine dU 4095 ?_
 refine dU 528383 ?_
 refine dU 4095 ?_
 refine dU 2101247 ?_
 refine dU 7868415 ?_
 refine dU 16257023 ?_
 refine dU 33034239 ?_
 refine dU 66588671 ?_
 refine dU 134217727 ?_
 refine dT 268435455 gg ?_
 refine dA 536870911 ?_ (x := aT gg)
 refine dr ?_
 exact Hy
 refine dB 511 gg ?_ (x := sM)
 refine dB 1023 gg ?_ (x := eN)
 refine dB 2047 gg ?_ (x := sM)
 refine dx 70 (fun gh sgh => ?_) (fun gh sgh => ?_)
 refine dB 4095 gh ?_ (x := lF el)
 refine dB 8191 gh ?_ (x := lD [sl .v _] ea)
 refine dB 4095 gh ?_ (x := sM)
 refine dB 32767 gh ?_ (x := aY (by decide) bL (by exact tI) (by exact rfl) (by exact bc (by omega) rfl) (by exact rfl))
 refine dB 65535 gh ?_ (x := bI (by decide) fw (by exact nl rfl))
 refine dB 131071 gh ?_ (x := bI (by decide) fx (by exact nl rfl))
 refine dB 262143 gh ?_ (x := lE [val _] au)
 refine dB 4095 gh ?_ (x := lF el)
 refine dB 528383 gh ?_ (x := lD [sl .v _] ea)
 refine dB 4095 gh ?_ (x := sM)
 refine dB 2101247 gh ?_ (x := ip)
 refine dB 7868415 gh ?_ (x := aY (k := k - 1) (by decide) bL (by exact tI) (by omega) (by exact bc (by omega) rfl) (by exact rfl))
 refine dB 16257023 gh ?_ (x := bI (by decide) fw (by exact nl rfl))
 refine dB 33034239 gh ?_ (x := bI (by decide) fx (by exact nl rfl))
 refine dB 66588671 gh ?_ (x := lE [val _] au)
 refine dB 134217727 gh ?_ (x := iR)
 refine dB 268435455 gg ?_ (x := aT gh)
 refine dA 536870911 ?_ (x := aK gg)
 refine sc (fun hbc => ?_) (fun hbc => ?_)
 exact Hy
 exact Hz
 refine dF 4095 gh ?_
 refine dF 8191 gh ?_
 refine dF 4095 gh ?_
 refine dF 32767 gh ?_
 refine dF 65535 gh ?_
 refine dF 131071 gh ?_
 refine dF 262143 gh ?_
 refine dF 4095 gh ?_
 refine dF 528383 gh ?_
 refine dF 4095 gh ?_
 refine dF 2101247 gh ?_
 refine dF 7868415 gh ?_
 refine dF 16257023 gh ?_
 refine dF 33034239 gh ?_
 refine dF 66588671 gh ?_
 refine dF 134217727 gh ?_
 refine dB 268435455 gg ?_ (x := aK gh)
 refine dA 536870911 ?_ (x := aK gg)
 refine fT ?_
 exact Hz
 have hend : k = e.acu.length := by omega
 have hall : fa ic (gj e.Store) lv e.acu = true := rh ha hend
 refine it ?_
 refine sT [1, 3] [1] ?_
 refine cH ?_
 refine sP [1, 3, 4] [1] ?_
 refine sL [1, 3] [1] (fun k : Nat => k ≤ e.Done.length ∧ (List.take k e.Done).all (gW e.Store.Now) = true) (fun k : Nat => [(4, RV.int (k : Int))]) (fun k : Nat => []) (fun k : Nat => e.Done.length - k) 0 (by exact ⟨by omega, rfl⟩) (by exact aI (by exact rfl) tI) (by exact tI) ?_
 rintro k ⟨hk, ha⟩
 refine eH ?_
 refine oi ?_
 refine xt ?_
 refine sc (fun hbc => ?_) (fun hbc => ?_)
 have hlt : k < e.Done.length := by omega
 refine bB ?_
 refine sT [1, 3, 4] [1] ?_
 refine oi ?_
 refine rM ?_
 refine wB ?_
 refine wz ?_
 refine aP ?_
 refine sO [(1, _), (3, _), (4, _), (5, _)] [(1, _), (5, (63, [val _, val _, sl _ _, sl _ _, val _, val _, sl _ _]))] ?_
 refine bf ?_
 refine uo ?_
 refine rA ?_ (x := cL [(true, [val _, val _, sl _ _, sl _ _])] [(true, [val _, val _, sl .v _, sl .v _])] xZ (hs := by exact yt))
 refine gp ?_
 refine cx 105 (fun gg sgg => ?_) (fun gg sgg => ?_)
 refine zt gg ?_
 refine rA ?_ (x := aT gg)
 refine rM ?_
 refine ar.cases (s := 114) rfl (fun g37 => ?_) (fun g37 => nomatch g37)
 refine zt g37 ?_
 refine rA ?_ (x := aT g37)
 refine rM ?_
 refine ar.cases (s := 120) rfl (fun g38 => ?_) (fun g38 => nomatch g38)
 refine zt g38 ?_
 refine rA ?_ (x := aT g38)
 refine dr ?_
 exact we
 refine rB gg ?_ (x := lF ri)
 refine rB gg ?_ (x := lD [val _] au)
 refine rB gg ?_ (x := lF hY)
 refine rB gg ?_ (x := lF fV)
 refine rB gg ?_ (x := lD [val _] au)
 refine rB gg ?_ (x := cL [(false, [val _]), (false, [val _]), (false, [val _])] [(false, [val _]), (false, [val _]), (false, [val _])] gv (hs := by exact gz))
 refine rB gg ?_ (x := nT)
 refine rA ?_ (x := aK gg)
 refine rM ?_
 refine cx 114 (fun gh sgh => ?_) (fun gh sgh => ?_)
 refine zt gh ?_
 refine rA ?_ (x := aT gh)
 refine rM ?_
 refine ar.cases (s := 120) rfl (fun g41 => ?_) (fun g41 => nomatch g41)
 refine zt g41 ?_
 refine rA ?_ (x := aT g41)
 refine dr ?_
 exact we
 refine rB gh ?_ (x := lF rj)
 refine rB gh ?_ (x := lD [val _] au)
 refine rB gh ?_ (x := cL [(false, [val _]), (false, [val _]), (false, [val _])] [(false, [val _]), (false, [val _]), (false, [val _])] gv (hs := by exact gz))
 refine rB gh ?_ (x := nT)
 refine rA ?_ (x := aK gh)
 refine rM ?_
 refine cx 120 (fun gi sgi => ?_) (fun gi sgi => ?_)
 refine zt gi ?_
 refine rA ?_ (x := aT gi)
 refine dr ?_
 exact we
 refine rB gi ?_ (x := lF nf)
 refine rB gi ?_ (x := lD [sl .v _] gy)
 refine rB gi ?_ (x := cL [(false, [sl _ _])] [(false, [sl .v _])] OM (hs := by exact Pa))
 refine rB gi ?_ (x := nT)
 refine rA ?_ (x := aK gi)
 refine sc (fun hbd => ?_) (fun hbd => ?_)
 exact we
 have hyes : (gW e.Store.Now) e.Done[k] = true := by first | (simp_all [gW]; done) | (simp_all [gW]; omega)
 refine bm ?_
 refine sG [1, 3, 4, 5] [1, 5] ?_
 exact ql
 have hfa : e.Done.all (gW e.Store.Now) = true := jY (by rw [show e.Done.length = k by omega]; exact ha)
 refine it ?_
 refine sT [1, 3, 4] [1] ?_
 refine cH ?_
 refine sP [1, 3, 4, 6] [1] ?_
 refine sL [1, 3, 4] [1] (fun k : Nat => k ≤ e.acG.length ∧ (List.take k e.acG).all fZ = true) (fun k : Nat => [(6, RV.int (k : Int))]) (fun k : Nat => []) (fun k : Nat => e.acG.length - k) 0 (by exact ⟨by omega, rfl⟩) (by exact aI (by exact rfl) tI) (by exact tI) ?_
 rintro k ⟨hk, ha⟩
 refine eH ?_
 refine pz ?_
 refine xq ?_
 refine sc (fun hbd => ?_) (fun hbd => ?_)
 have hlt : k < e.acG.length := by omega
 refine bB ?_
 refine sT [1, 3, 4, 6] [1] ?_
 refine pz ?_
 refine rM ?_
 refine AS ?_
 refine rA ?_ (x := cL [(true, [val _, val _, sl _ _, sl _ _, sl _ _])] [(true, [val _, val _, sl .v _, sl .v _, sl .v _])] XC (hs := by exact ZP))
 refine rA ?_ (x := nT)
 refine sc (fun hbe => ?_) (fun hbe => ?_)
 have hno : fZ e.acG[k] = false := by simpa using hbe
 have hbad2 := Ob (lZ hlt hno)
 refine sS [1, 3, 4, 6] [1] ?_
 exact rR
 have hyes : fZ e.acG[k] = true := by simpa using hbe
 refine bm ?_
 refine sG [1, 3, 4, 6] [1] ?_
 exact ql
 have hla : e.acG.all fZ = true := jY (by rw [show e.acG.length = k by omega]; exact ha)
 refine bG ?_
 refine sT [1, 3, 4, 6] [1] ?_
 exact Hx
end Go.Proofs.YtmekkgdboplbjaaGreat
