/- What functions of the program compute. No condition. -/
import Derived.Test.YtmekkgdboplbjaaGreatCN0
import Derived.Test.YtmekkgdboplbjaaGreatCS0
import Derived.Test.YtmekkgdboplbjaaGreatCT0
set_option linter.all false
namespace Go.Proofs.YtmekkgdboplbjaaGreat
open Go Go.RowKit M PV Tryz
set_option maxRecDepth 10000
attribute [local irreducible] PV.Lcl PV.LclR RV.Lcl
def Ud {o : List Int}  : aC prog 99 [(false, [sl .v (o.map ak)])] (az [(false, [val (.bool (go o))])]) := by
 refine sF func99 fun h0 w0 Fz0 => ?_
 refine sj 0 fun hl0 => ?_
 refine pq ?_
 refine qV ?_
 refine sL [0] [] (fun k : Nat => k ≤ 3 ∧ pW o k = true) (fun k : Nat => [(3, RV.int (k : Int))]) (fun k : Nat => []) (fun k : Nat => 3 - k) 0 (by exact ⟨by omega, rfl⟩) (by exact aI (by exact rfl) tI) (by exact tI) ?_
 rintro k ⟨hk, ha⟩
 refine qy ?_
 refine iv ?_
 refine sc (fun hba => ?_) (fun hba => ?_)
 have hlt : k < 3 := by omega
 refine bB ?_
 refine sS [0, 3] [] ?_
 refine lv ?_
 refine rA ?_ (x := cL [(false, [sl _ _]), (false, [val _])] [(false, [sl .v _]), (false, [val _])] Ju (hs := by exact K6))
 refine rA ?_ (x := nT)
 refine sc (fun hbb => ?_) (fun hbb => ?_)
 have hno : b8 o (k : Int) = false := by simpa using hbb
 refine tf ?_
 exact rb ((Q8 hlt hno).symm)
 have hyes : b8 o (k : Int) = true := by simpa using hbb
 refine qW ?_
 refine cZ ?_
 refine nx (k + 1) (by exact ⟨by omega, by rw [wn, ha, hyes]; rfl⟩) (e := (by exact aI (by exact bg (by omega)) tI))
 have hend : k = 3 := by omega
 rw [hend] at ha
 refine qX ?_
 refine iV ?_
 refine rA ?_ (x := d4)
 refine d5 ?_
 exact rb (by rw [← Km, ha, Bool.true_and]; first | rfl | (rw [decide_eq_decide]; omega) | (rw [Bool.eq_iff_iff]; simp; omega) | (rw [Bool.eq_iff_iff]; simp))
def Ue {p1 p2 p7 : Fl} {s : Store} {a : Ws}  : aC prog 100 [(true, [sl .v (s.Wr.map (aD p1 p2)), val (vI s.Now)]), (true, [val (vI a.Wt.Id), val (vI a.Wt.Wx), sl .v (a.Wt.Wu.map bf), sl .v (a.Wt.Out.map ak), val (vI a.Time), sl .v (a.WB.map ak), val (vI a.Age), val (vI a.Sent), val (vI a.Cap), sl .v (a.Rows.map (bu p7))])] (az [(false, [val (.bool (fq s a))])]) := by
 refine sF func100 fun h0 w0 Fz0 => ?_
 refine sn 0 0 fun hl0_0 => ?_
 refine sn 1 2 fun hl1_2 => ?_
 refine sn 1 3 fun hl1_3 => ?_
 refine sn 1 5 fun hl1_5 => ?_
 refine sn 1 9 fun hl1_9 => ?_
 refine iU ?_
 refine HW ?_
 refine sZ ?_
 refine dI ?_
 refine sP [2, 3, 4, 8, 9, 10] [2, 3] ?_
 refine sL [2, 3, 8, 9] [2, 3] (fun k : Nat => k ≤ a.WB.length ∧ jQ 0 (l7 s.Wr.length) l8 a.WB k = true) (fun k : Nat => [(10, RV.int (k : Int))]) (fun k : Nat => []) (fun k : Nat => a.WB.length - k) 0 (by exact ⟨by omega, rfl⟩) (by exact aI (by exact rfl) tI) (by exact tI) ?_
 rintro k ⟨hk, ha⟩
 refine ct ?_
 refine sc (fun hba => ?_) (fun hba => ?_)
 have hlt : k < a.WB.length := by omega
 have hgk : a.WB.getD k 0 = a.WB[k] := gn hlt
 have hgp : 0 < k → a.WB.getD (k - 1) 0 = a.WB[k - 1] := fun h => gn (by omega)
 refine bB ?_
 refine sT [2, 3, 8, 9, 10] [2, 3] ?_
 refine rM ?_
 refine mI ?_
 refine rS ?_
 refine sS [2, 3, 5, 6, 8, 9, 10] [2, 3] ?_
 refine rM ?_
 refine kC ?_
 refine rA ?_ (x := gS)
 refine HM ?_
 refine cx 22 (fun ga sga => ?_) (fun ga sga => ?_)
 refine mH ?_
 exact Eu
 refine rB ga ?_ (x := sM)
 refine rB ga ?_ (x := eg)
 refine rB ga ?_ (x := sM)
 refine cx 25 (fun gb sgb => ?_) (fun gb sgb => ?_)
 refine rB gb ?_ (x := lF gD)
 refine rB gb ?_ (x := lD [sl .v _] bq)
 refine rB gb ?_ (x := sM)
 refine rB gb ?_ (x := gS)
 refine rB gb ?_ (x := aY (k := k - 1) (by decide) bC (by exact tI) (by omega) (by exact be (by omega) rfl) (by exact rfl))
 refine rB gb ?_ (x := lE [val _] au)
 refine rB gb ?_ (x := sM)
 refine rB gb ?_ (x := hR)
 refine rB ga ?_ (x := aR gb)
 refine rA ?_ (x := aK ga)
 refine sc (fun hbb => ?_) (fun hbb => ?_)
 exact Eu
 exact Ew
 refine zf gb ?_
 refine rB ga ?_ (x := aK gb)
 refine rA ?_ (x := aK ga)
 refine fh ?_
 exact Ew
 have hend : k = a.WB.length := by omega
 have hall : ew 0 (l7 s.Wr.length) l8 a.WB = true := pL ha hend
 refine bF ?_
 refine sT [2, 3, 8, 9, 10] [2, 3] ?_
 refine sZ ?_
 refine rA ?_ (x := eg)
 refine rM ?_
 refine cx 41 (fun ga sga => ?_) (fun ga sga => ?_)
 refine rB ga ?_ (x := lF eR)
 refine Hq ?_
 refine gk ?_
 refine cx 46 (fun gb sgb => ?_) (fun gb sgb => ?_)
 refine rB gb ?_ (x := lF lP)
 refine rB gb ?_ (x := lD [val _] au)
 refine rB gb ?_ (x := lF fi)
 refine uK ?_
 refine gj ?_
 refine cx 53 (fun gc sgc => ?_) (fun gc sgc => ?_)
 refine rB gc ?_ (x := lF kP)
 refine yM ?_
 refine iw ?_
 refine cx 58 (fun gd sgd => ?_) (fun gd sgd => ?_)
 refine rB gd ?_ (x := lF jp)
 refine yN ?_
 refine rc ?_
 refine cx 63 (fun ge sge => ?_) (fun ge sge => ?_)
 refine rB ge ?_ (x := lF kQ)
 refine rB ge ?_ (x := lD [val _] au)
 refine rB ge ?_ (x := cL [(false, [val _]), (false, [val _]), (false, [val _])] [(false, [val _]), (false, [val _]), (false, [val _])] jo (hs := by exact jC))
 refine rA ?_ (x := aR ge)
 refine rM ?_
 refine cx 68 (fun gf sgf => ?_) (fun gf sgf => ?_)
 refine rB gf ?_ (x := lF jq)
 refine rB gf ?_ (x := lD [sl .v _] fI)
 refine rB gf ?_ (x := cL [(false, [sl _ _])] [(false, [sl .v _])] KF (hs := by exact K7))
 refine rA ?_ (x := aR gf)
 exact oP
 refine zf gf ?_
 refine rA ?_ (x := aK gf)
 exact oP
 refine vR ?_
 refine rM ?_
 refine aq.cases (s := 68) rfl (fun g13 => nomatch g13) (fun g13 => ?_)
 refine zf g13 ?_
 refine rA ?_ (x := aK g13)
 exact oP
 refine pn ?_
 refine rM ?_
 refine aq.cases (s := 63) rfl (fun g14 => nomatch g14) (fun g14 => ?_)
 refine zf g14 ?_
 refine rA ?_ (x := aK g14)
 refine rM ?_
 refine aq.cases (s := 68) rfl (fun g15 => nomatch g15) (fun g15 => ?_)
 refine zf g15 ?_
 refine rA ?_ (x := aK g15)
 exact oP
 refine kH ?_
 refine aq.cases (s := 58) rfl (fun g16 => nomatch g16) (fun g16 => ?_)
 refine zf g16 ?_
 refine rA ?_ (x := aK g16)
 refine rM ?_
 refine aq.cases (s := 63) rfl (fun g17 => nomatch g17) (fun g17 => ?_)
 refine qQ ?_
 refine rM ?_
 refine aq.cases (s := 68) rfl (fun g18 => nomatch g18) (fun g18 => ?_)
 refine vO ?_
 exact oP
 refine fQ ?_
 refine aq.cases (s := 53) rfl (fun g19 => nomatch g19) (fun g19 => ?_)
 refine s3 ?_
 refine rM ?_
 refine aq.cases (s := 58) rfl (fun g20 => nomatch g20) (fun g20 => ?_)
 refine vL ?_
 refine rM ?_
 refine aq.cases (s := 63) rfl (fun g21 => nomatch g21) (fun g21 => ?_)
 refine zf g21 ?_
 refine rA ?_ (x := aK g21)
 refine rM ?_
 refine aq.cases (s := 68) rfl (fun g22 => nomatch g22) (fun g22 => ?_)
 refine zf g22 ?_
 refine rA ?_ (x := aK g22)
 exact oP
 refine gA ?_
 refine aq.cases (s := 46) rfl (fun g23 => nomatch g23) (fun g23 => ?_)
 refine zf g23 ?_
 refine rA ?_ (x := aK g23)
 refine rM ?_
 refine aq.cases (s := 53) rfl (fun g24 => nomatch g24) (fun g24 => ?_)
 refine zf g24 ?_
 refine rA ?_ (x := aK g24)
 refine rM ?_
 refine aq.cases (s := 58) rfl (fun g25 => nomatch g25) (fun g25 => ?_)
 refine zf g25 ?_
 refine rA ?_ (x := aK g25)
 refine rM ?_
 refine aq.cases (s := 63) rfl (fun g26 => nomatch g26) (fun g26 => ?_)
 refine zf g26 ?_
 refine rA ?_ (x := aK g26)
 refine rM ?_
 refine aq.cases (s := 68) rfl (fun g27 => nomatch g27) (fun g27 => ?_)
 refine zf g27 ?_
 refine rA ?_ (x := aK g27)
 exact oP
def Uf {l : List Int} {n : Int}  (hn : 0 ≤ n ∧ n ≤ 9223372036854775807) : aC prog 163 [(false, [sl .v (l.map ak)]), (false, [val (vI n)])] (az [(false, [val (.bool (kl l n))])]) := by
 refine sF func163 fun h0 w0 Fz0 => ?_
 refine sj 0 fun hl0 => ?_
 refine lK ?_
 refine sL [0, 1] [] (fun k : Nat => k ≤ l.length ∧ jQ 0 (l7 n) l8 l k = true) (fun k : Nat => [(5, RV.int (k : Int))]) (fun k : Nat => []) (fun k : Nat => l.length - k) 0 (by exact ⟨by omega, rfl⟩) (by exact aI (by exact rfl) tI) (by exact tI) ?_
 rintro k ⟨hk, ha⟩
 refine jl ?_
 refine sc (fun hba => ?_) (fun hba => ?_)
 have hlt : k < l.length := by omega
 have hgk : l.getD k 0 = l[k] := gn hlt
 have hgp : 0 < k → l.getD (k - 1) 0 = l[k - 1] := fun h => gn (by omega)
 refine lJ ?_
 refine qE ?_
 refine dA 0 ?_ (x := sM)
 refine dA 16 ?_ (x := gS)
 refine dA 63 ?_ (x := cL [(false, [val _]), (false, [val _]), (false, [val _])] [(false, [val _]), (false, [val _]), (false, [val _])] fF (hs := by exact fJ))
 refine dA 127 ?_ (x := nT)
 refine dA 255 ?_ (x := sM)
 refine dx 20 (fun ga sga => ?_) (fun ga sga => ?_)
 refine dT 511 ga ?_
 refine dT 1023 ga ?_
 refine dT 2047 ga ?_
 refine dU 4095 ?_
 refine dU 4095 ?_
 refine dU 16383 ?_
 refine dU 32767 ?_
 refine dU 4095 ?_
 refine dU 4095 ?_
 refine dU 135167 ?_
 refine dU 462847 ?_
 refine dU 987135 ?_
 refine dU 2097151 ?_
 refine dT 4194303 ga ?_
 refine dA 8388607 ?_ (x := aR ga)
 refine dc ?_
 exact Ex
 refine dB 511 ga ?_ (x := sM)
 refine dB 1023 ga ?_ (x := eg)
 refine dB 2047 ga ?_ (x := sM)
 refine dx 23 (fun gb sgb => ?_) (fun gb sgb => ?_)
 refine dB 4095 gb ?_ (x := vM false [sl .v _])
 refine dB 4095 gb ?_ (x := sM)
 refine dB 16383 gb ?_ (x := aY (by decide) bC (by exact tI) (by exact rfl) (by exact be (by omega) rfl) (by exact rfl))
 refine dB 32767 gb ?_ (x := lE [val _] au)
 refine dB 4095 gb ?_ (x := vM false [sl .v _])
 refine dB 4095 gb ?_ (x := sM)
 refine dB 135167 gb ?_ (x := gS)
 refine dB 462847 gb ?_ (x := aY (k := k - 1) (by decide) bC (by exact tI) (by omega) (by exact be (by omega) rfl) (by exact rfl))
 refine dB 987135 gb ?_ (x := lE [val _] au)
 refine dB 2097151 gb ?_ (x := ir)
 refine dB 4194303 ga ?_ (x := aR gb)
 refine dA 8388607 ?_ (x := aK ga)
 refine sc (fun hbb => ?_) (fun hbb => ?_)
 exact Ex
 exact Ey
 refine dF 4095 gb ?_
 refine dF 4095 gb ?_
 refine dF 16383 gb ?_
 refine dF 32767 gb ?_
 refine dF 4095 gb ?_
 refine dF 4095 gb ?_
 refine dF 135167 gb ?_
 refine dF 462847 gb ?_
 refine dF 987135 gb ?_
 refine dF 2097151 gb ?_
 refine dB 4194303 ga ?_ (x := aK gb)
 refine dA 8388607 ?_ (x := aK ga)
 refine fh ?_
 exact Ey
 have hend : k = l.length := by omega
 have hall : ew 0 (l7 n) l8 l = true := pL ha hend
 refine bF ?_
 refine gz ?_
 refine rA ?_ (x := lN bC)
 refine rA ?_ (x := eg)
 refine d5 ?_
 exact rb (by first | (simp_all [kl]; done) | (simp_all [kl]; rfl) | (simp_all [kl]; omega) | (simp_all [kl]; intros; omega))
def Ug {p1 p2 p5 p6 p7 p8 p9 p11 p12 p13 p14 p16 p17 p18 p23 : Fl} {e : aL} {a : Ws}  : aC prog 66 [(true, [sl .v (e.Store.Wr.map (aD p1 p2)), val (vI e.Store.Now), val (vI e.Ww), sl .v (e.Order.map ak), sl .v (e.Ws.map (aO p5 p6 p7 p8 p9)), sl .v (e.Done.map (aZ p11 p12 p13 p14)), sl .v (e.WE.map (a7 p16 p17 p18)), val (vI e.Steps)]), (true, [val (vI a.Wt.Id), val (vI a.Wt.Wx), sl .v (a.Wt.Wu.map bf), sl .v (a.Wt.Out.map ak), val (vI a.Time), sl .v (a.WB.map ak), val (vI a.Age), val (vI a.Sent), val (vI a.Cap), sl .v (a.Rows.map (bu p23))])] (az [(false, [val (.bool (fq e.Store a))])]) := by
 refine sF func66 fun h0 w0 Fz0 => ?_
 refine sn 0 0 fun hl0_0 => ?_
 refine sn 0 3 fun hl0_3 => ?_
 refine sn 0 4 fun hl0_4 => ?_
 refine sn 0 5 fun hl0_5 => ?_
 refine sn 0 6 fun hl0_6 => ?_
 refine sn 1 2 fun hl1_2 => ?_
 refine sn 1 3 fun hl1_3 => ?_
 refine sn 1 5 fun hl1_5 => ?_
 refine sn 1 9 fun hl1_9 => ?_
 refine iT ?_
 refine rX ?_ (x := (cI (ag := true) (cs := [val _, val _, sl _ _, sl _ _, val _, sl _ _, val _, val _, val _, sl _ _]) (by decide) (by exact tI)))
 refine qT ?_
 refine sI ?_
 refine Ih ?_
 refine cx 8 (fun ga sga => ?_) (fun ga sga => ?_)
 refine rB ga ?_ (x := lF lP)
 refine zK ?_
 refine rB ga ?_ (x := lF fi)
 refine si ?_
 refine gk ?_
 refine cx 16 (fun gb sgb => ?_) (fun gb sgb => ?_)
 refine rB gb ?_ (x := lF gD)
 refine rB gb ?_ (x := lD [sl .v _] bq)
 refine rB gb ?_ (x := lF gE)
 refine rB gb ?_ (x := lF jr)
 refine rB gb ?_ (x := lD [sl .v _] jy)
 refine rB gb ?_ (x := lN cV)
 refine rB gb ?_ (x := cL [(false, [sl _ _]), (false, [val _])] [(false, [sl .v _]), (false, [val _])] RE (hs := by exact (Uf (by omega))))
 refine gj ?_
 refine cx 25 (fun gc sgc => ?_) (fun gc sgc => ?_)
 refine rB gc ?_ (x := lF kP)
 refine Ht ?_
 refine iw ?_
 refine cx 30 (fun gd sgd => ?_) (fun gd sgd => ?_)
 refine rB gd ?_ (x := lF jp)
 refine yO ?_
 refine rc ?_
 refine cx 35 (fun ge sge => ?_) (fun ge sge => ?_)
 refine rB ge ?_ (x := lF kQ)
 refine Hu ?_
 refine rA ?_ (x := aR ge)
 refine rM ?_
 refine cx 40 (fun gf sgf => ?_) (fun gf sgf => ?_)
 refine rB gf ?_ (x := lF jq)
 refine rB gf ?_ (x := lD [sl .v _] fI)
 refine rB gf ?_ (x := cL [(false, [sl _ _])] [(false, [sl .v _])] KT (hs := by exact K8))
 refine rA ?_ (x := aR gf)
 exact oQ
 refine zf gf ?_
 refine rA ?_ (x := aK gf)
 exact oQ
 refine vR ?_
 refine rM ?_
 refine aq.cases (s := 40) rfl (fun g7 => nomatch g7) (fun g7 => ?_)
 refine s5 ?_
 exact oQ
 refine pn ?_
 refine rM ?_
 refine aq.cases (s := 35) rfl (fun g8 => nomatch g8) (fun g8 => ?_)
 refine zf g8 ?_
 refine rA ?_ (x := aK g8)
 refine rM ?_
 refine aq.cases (s := 40) rfl (fun g9 => nomatch g9) (fun g9 => ?_)
 refine pm ?_
 exact oQ
 refine kH ?_
 refine aq.cases (s := 30) rfl (fun g10 => nomatch g10) (fun g10 => ?_)
 refine pj ?_
 refine rM ?_
 refine aq.cases (s := 35) rfl (fun g11 => nomatch g11) (fun g11 => ?_)
 refine vK ?_
 refine rM ?_
 refine aq.cases (s := 40) rfl (fun g12 => nomatch g12) (fun g12 => ?_)
 refine zf g12 ?_
 refine rA ?_ (x := aK g12)
 exact oQ
 refine fQ ?_
 refine aq.cases (s := 25) rfl (fun g13 => nomatch g13) (fun g13 => ?_)
 refine zf g13 ?_
 refine rA ?_ (x := aK g13)
 refine rM ?_
 refine aq.cases (s := 30) rfl (fun g14 => nomatch g14) (fun g14 => ?_)
 refine zf g14 ?_
 refine rA ?_ (x := aK g14)
 refine rM ?_
 refine aq.cases (s := 35) rfl (fun g15 => nomatch g15) (fun g15 => ?_)
 refine zf g15 ?_
 refine rA ?_ (x := aK g15)
 refine rM ?_
 refine aq.cases (s := 40) rfl (fun g16 => nomatch g16) (fun g16 => ?_)
 refine zf g16 ?_
 refine rA ?_ (x := aK g16)
 exact oQ
 refine gA ?_
 refine aq.cases (s := 16) rfl (fun g17 => nomatch g17) (fun g17 => ?_)
 refine qQ ?_
 refine rM ?_
 refine aq.cases (s := 25) rfl (fun g18 => nomatch g18) (fun g18 => ?_)
 refine vO ?_
 refine rM ?_
 refine aq.cases (s := 30) rfl (fun g19 => nomatch g19) (fun g19 => ?_)
 refine s3 ?_
 refine rM ?_
 refine aq.cases (s := 35) rfl (fun g20 => nomatch g20) (fun g20 => ?_)
 refine vL ?_
 refine rM ?_
 refine aq.cases (s := 40) rfl (fun g21 => nomatch g21) (fun g21 => ?_)
 refine zf g21 ?_
 refine rA ?_ (x := aK g21)
 exact oQ
def Lj {p1 p2 p5 p6 p7 p8 p9 p11 p12 p13 p14 p16 p17 p18 : Fl} {e : aL}  (hb : bp e ≤ 68719476736) : aC prog 29 [(true, [sl .v (e.Store.Wr.map (aD p1 p2)), val (vI e.Store.Now), val (vI e.Ww), sl .v (e.Order.map ak), sl .v (e.Ws.map (aO p5 p6 p7 p8 p9)), sl .v (e.Done.map (aZ p11 p12 p13 p14)), sl .v (e.WE.map (a7 p16 p17 p18)), val (vI e.Steps)])] (az [(false, [val (.bool (bh e))])]) := by
 refine sF func29 fun h0 w0 Fz0 => ?_
 refine sn 0 0 fun hl0_0 => ?_
 refine sn 0 3 fun hl0_3 => ?_
 refine sn 0 4 fun hl0_4 => ?_
 refine sn 0 5 fun hl0_5 => ?_
 refine sn 0 6 fun hl0_6 => ?_
 have hbu := hb
 simp only [bp] at hbu
 refine iT ?_
 refine kD ?_
 refine pg ?_
 refine rA ?_ (x := cL [(true, [sl _ _, val _])] [(true, [sl .v _, val _])] KU (hs := by exact Lg (by omega)))
 refine fB ?_
 refine cx 13 (fun ga sga => ?_) (fun ga sga => ?_)
 refine jN ?_
 refine aq.cases (s := 24) rfl (fun g2 => ?_) (fun g2 => nomatch g2)
 refine oh ?_
 refine aq.cases (s := 30) rfl (fun g3 => ?_) (fun g3 => nomatch g3)
 refine nS ?_
 exact mo
 refine rB ga ?_ (x := lF i4)
 refine zK ?_
 refine zF ?_
 refine rB ga ?_ (x := lN cV)
 refine rB ga ?_ (x := gS)
 refine yr ?_
 refine mB ?_
 refine cx 24 (fun gb sgb => ?_) (fun gb sgb => ?_)
 refine mE ?_
 refine aq.cases (s := 30) rfl (fun g6 => ?_) (fun g6 => nomatch g6)
 refine s6 ?_
 exact mo
 refine rB gb ?_ (x := lF lR)
 refine rB gb ?_ (x := lD [sl .v _] bq)
 refine rB gb ?_ (x := cL [(false, [sl _ _])] [(false, [sl .v _])] Sr (hs := by exact Ud))
 refine qZ ?_
 refine cx 30 (fun gc sgc => ?_) (fun gc sgc => ?_)
 refine qU ?_
 exact mo
 refine rB gc ?_ (x := lF ju)
 refine yM ?_
 refine rB gc ?_ (x := nT)
 refine rA ?_ (x := aK gc)
 refine sc (fun hba => ?_) (fun hba => ?_)
 exact yc
 have hp1 : (dm e.Store && (aV e.Ww 0 (e.Store.Wr.length - 1) && (go e.Order && aV e.Steps 0 100000))) = true := by first | (simp_all; done) | (simp_all; omega)
 refine te ?_
 refine ji ?_
 refine rA ?_ (x := lN bI)
 refine rA ?_ (x := eg)
 refine rM ?_
 refine cx 40 (fun gd sgd => ?_) (fun gd sgd => ?_)
 refine zt gd ?_
 refine rc ?_
 refine aq.cases (s := 46) rfl (fun g12 => ?_) (fun g12 => nomatch g12)
 refine zt g12 ?_
 refine rA ?_ (x := aR g12)
 refine dc ?_
 exact yd
 refine rB gd ?_ (x := lF kd)
 refine rB gd ?_ (x := lD [sl .v _] kf)
 refine rB gd ?_ (x := lN ez)
 refine rB gd ?_ (x := eg)
 refine tc ?_
 refine cx 46 (fun ge sge => ?_) (fun ge sge => ?_)
 refine zt ge ?_
 refine rA ?_ (x := aR ge)
 refine dc ?_
 exact yd
 refine rB ge ?_ (x := lF jt)
 refine rB ge ?_ (x := lD [sl .v _] jz)
 refine rB ge ?_ (x := lN dY)
 refine rB ge ?_ (x := eg)
 refine rA ?_ (x := aK ge)
 refine sc (fun hbb => ?_) (fun hbb => ?_)
 exact yd
 have hpr : iD e = true := by unfold iD; rw [hp1]; first | (simp_all; done) | (simp_all; omega)
 refine te ?_
 refine oe ?_
 refine sP [1, 2, 53, 54, 55] [1] ?_
 refine sL [1, 53, 54] [1] (fun k : Nat => k ≤ e.Ws.length ∧ jQ gH (fq e.Store) kk e.Ws k = true) (fun k : Nat => [(55, RV.int (k : Int))]) (fun k : Nat => []) (fun k : Nat => e.Ws.length - k) 0 (by exact ⟨by omega, rfl⟩) (by exact aI (by exact rfl) tI) (by exact tI) ?_
 rintro k ⟨hk, ha⟩
 refine ct ?_
 refine sc (fun hbc => ?_) (fun hbc => ?_)
 have hlt : k < e.Ws.length := by omega
 have hgk : e.Ws.getD k gH = e.Ws[k] := gn hlt
 have hgp : 0 < k → e.Ws.getD (k - 1) gH = e.Ws[k - 1] := fun h => gn (by omega)
 refine bB ?_
 refine sT [1, 53, 54, 55] [1] ?_
 refine rM ?_
 refine qB ?_
 refine rX ?_ (x := (bR (by decide) fa l2))
 refine rS ?_
 refine Hx ?_
 refine sO [(1, _), (3, _), (4, _), (53, _), (54, _), (55, _)] [(1, _), (4, (108, [val _, val _, sl _ _, sl _ _, val _, sl _ _, val _, val _, val _, sl _ _]))] ?_
 refine db cJ ?_
 refine zD ?_
 refine dA 0 ?_ (x := lD [val _, val _, sl .v _, sl .v _, val _, sl .v _, val _, val _, val _, sl .v _] fj)
 refine dA 7 ?_ (x := cL [(true, [sl _ _, val _]), (true, [val _, val _, sl _ _, sl _ _, val _, sl _ _, val _, val _, val _, sl _ _])] [(true, [sl .v _, val _]), (true, [val _, val _, sl .v _, sl .v _, val _, sl .v _, val _, val _, val _, sl .v _])] Rp (hs := by exact Ue))
 refine dA 15 ?_ (x := nT)
 refine dA 31 ?_ (x := sM)
 refine dx 65 (fun gf sgf => ?_) (fun gf sgf => ?_)
 refine dT 63 gf ?_
 refine dT 127 gf ?_
 refine dT 255 gf ?_
 refine dU 511 ?_
 refine dU 1023 ?_
 refine dU 511 ?_
 refine dU 2559 ?_
 refine dU 8191 ?_
 refine dU 16383 ?_
 refine dU 32767 ?_
 refine dU 65535 ?_
 refine dU 511 ?_
 refine dU 131583 ?_
 refine dU 393727 ?_
 refine dU 1048575 ?_
 refine dT 2097151 gf ?_
 refine dA 4194303 ?_ (x := aR gf)
 refine dc ?_
 exact EA
 refine dB 63 gf ?_ (x := sM)
 refine dB 127 gf ?_ (x := eg)
 refine dB 255 gf ?_ (x := sM)
 refine dx 68 (fun gg sgg => ?_) (fun gg sgg => ?_)
 refine dB 511 gg ?_ (x := lF dN)
 refine dB 1023 gg ?_ (x := lD [sl .v _] dC)
 refine dB 511 gg ?_ (x := sM)
 refine dB 2559 gg ?_ (x := gS)
 refine dB 8191 gg ?_ (x := aY (k := k - 1) (by decide) bI (by exact tI) (by omega) (by exact be (by omega) rfl) (by exact rfl))
 refine dB 16383 gg ?_ (x := bE (by decide) eR (by exact nl rfl))
 refine dB 32767 gg ?_ (x := bE (by decide) e8 (by exact nl rfl))
 refine dB 65535 gg ?_ (x := lE [val _] au)
 refine dB 511 gg ?_ (x := lF eR)
 refine dB 131583 gg ?_ (x := lF e8)
 refine dB 393727 gg ?_ (x := lD [val _] au)
 refine dB 1048575 gg ?_ (x := hR)
 refine dB 2097151 gf ?_ (x := aR gg)
 refine dA 4194303 ?_ (x := aK gf)
 refine sc (fun hbd => ?_) (fun hbd => ?_)
 exact EA
 exact EC
 refine dF 511 gg ?_
 refine dF 1023 gg ?_
 refine dF 511 gg ?_
 refine dF 2559 gg ?_
 refine dF 8191 gg ?_
 refine dF 16383 gg ?_
 refine dF 32767 gg ?_
 refine dF 65535 gg ?_
 refine dF 511 gg ?_
 refine dF 131583 gg ?_
 refine dF 393727 gg ?_
 refine dF 1048575 gg ?_
 refine dB 2097151 gf ?_ (x := aK gg)
 refine dA 4194303 ?_ (x := aK gf)
 refine fh ?_
 exact EC
 have hend : k = e.Ws.length := by omega
 have hall : ew gH (fq e.Store) kk e.Ws = true := pL ha hend
 refine gV ?_
 refine sT [1, 53, 54, 55] [1] ?_
 refine my ?_
 refine rA ?_ (x := lN ez)
 refine dI ?_
 refine sP [1, 53, 54, 55, 85, 86, 87] [1] ?_
 refine sL [1, 53, 54, 55, 85, 86] [1] (fun k : Nat => k ≤ e.Done.length ∧ (List.take k e.Done).all (gp e.Store.Now) = true) (fun k : Nat => [(87, RV.int (k : Int))]) (fun k : Nat => []) (fun k : Nat => e.Done.length - k) 0 (by exact ⟨by omega, rfl⟩) (by exact aI (by exact rfl) tI) (by exact tI) ?_
 rintro k ⟨hk, ha⟩
 refine ct ?_
 refine sc (fun hbd => ?_) (fun hbd => ?_)
 have hlt : k < e.Done.length := by omega
 refine bB ?_
 refine sT [1, 53, 54, 55, 85, 86, 87] [1] ?_
 refine uJ ?_
 refine uI ?_
 refine aP ?_
 refine sO [(1, _), (6, _), (53, _), (54, _), (55, _), (85, _), (86, _), (87, _)] [(1, _), (6, (63, [val _, val _, sl _ _, sl _ _, val _, val _, sl _ _]))] ?_
 refine ba ?_
 refine sJ ?_
 refine Ia ?_
 refine cx 95 (fun gf sgf => ?_) (fun gf sgf => ?_)
 refine zt gf ?_
 refine rA ?_ (x := aR gf)
 refine rM ?_
 refine aq.cases (s := 104) rfl (fun g25 => ?_) (fun g25 => nomatch g25)
 refine zt g25 ?_
 refine rA ?_ (x := aR g25)
 refine rM ?_
 refine aq.cases (s := 110) rfl (fun g26 => ?_) (fun g26 => nomatch g26)
 refine zt g26 ?_
 refine rA ?_ (x := aR g26)
 refine dc ?_
 exact uo
 refine rB gf ?_ (x := lF pO)
 refine rB gf ?_ (x := lD [val _] au)
 refine rB gf ?_ (x := lF gE)
 refine rB gf ?_ (x := lF fi)
 refine rB gf ?_ (x := lD [val _] au)
 refine rB gf ?_ (x := cL [(false, [val _]), (false, [val _]), (false, [val _])] [(false, [val _]), (false, [val _]), (false, [val _])] jo (hs := by exact jC))
 refine rB gf ?_ (x := nT)
 refine rA ?_ (x := aK gf)
 refine rM ?_
 refine cx 104 (fun gg sgg => ?_) (fun gg sgg => ?_)
 refine zt gg ?_
 refine rA ?_ (x := aR gg)
 refine rM ?_
 refine aq.cases (s := 110) rfl (fun g29 => ?_) (fun g29 => nomatch g29)
 refine zt g29 ?_
 refine rA ?_ (x := aR g29)
 refine dc ?_
 exact uo
 refine rB gg ?_ (x := lF pP)
 refine rB gg ?_ (x := lD [val _] au)
 refine rB gg ?_ (x := cL [(false, [val _]), (false, [val _]), (false, [val _])] [(false, [val _]), (false, [val _]), (false, [val _])] jo (hs := by exact jC))
 refine rB gg ?_ (x := nT)
 refine rA ?_ (x := aK gg)
 refine rM ?_
 refine cx 110 (fun gh sgh => ?_) (fun gh sgh => ?_)
 refine zt gh ?_
 refine rA ?_ (x := aR gh)
 refine dc ?_
 exact uo
 refine rB gh ?_ (x := lF lV)
 refine rB gh ?_ (x := lD [sl .v _] fI)
 refine rB gh ?_ (x := cL [(false, [sl _ _])] [(false, [sl .v _])] KF (hs := by exact K7))
 refine rB gh ?_ (x := nT)
 refine rA ?_ (x := aK gh)
 refine sc (fun hbe => ?_) (fun hbe => ?_)
 exact uo
 have hyes : (gp e.Store.Now) e.Done[k] = true := by first | (simp_all [gp]; done) | (simp_all [gp]; omega)
 refine bl ?_
 refine sG [1, 6, 53, 54, 55, 85, 86, 87] [1, 6] ?_
 exact sa
 have hfa : e.Done.all (gp e.Store.Now) = true := jm (by rw [show e.Done.length = k by omega]; exact ha)
 refine gV ?_
 refine sT [1, 53, 54, 55, 85, 86, 87] [1] ?_
 refine nM ?_
 refine rA ?_ (x := lN dY)
 refine dI ?_
 refine sP [1, 53, 54, 55, 85, 86, 87, 118, 119, 120] [1] ?_
 refine sL [1, 53, 54, 55, 85, 86, 87, 118, 119] [1] (fun k : Nat => k ≤ e.WE.length ∧ (List.take k e.WE).all fp = true) (fun k : Nat => [(120, RV.int (k : Int))]) (fun k : Nat => []) (fun k : Nat => e.WE.length - k) 0 (by exact ⟨by omega, rfl⟩) (by exact aI (by exact rfl) tI) (by exact tI) ?_
 rintro k ⟨hk, ha⟩
 refine ct ?_
 refine sc (fun hbe => ?_) (fun hbe => ?_)
 have hlt : k < e.WE.length := by omega
 refine bB ?_
 refine sT [1, 53, 54, 55, 85, 86, 87, 118, 119, 120] [1] ?_
 refine yR ?_
 refine yQ ?_
 refine aP ?_
 refine sO [(1, _), (8, _), (53, _), (54, _), (55, _), (85, _), (86, _), (87, _), (118, _), (119, _), (120, _)] [(1, _), (8, (70, [val _, val _, sl _ _, sl _ _, sl _ _]))] ?_
 refine ba ?_
 refine rA ?_ (x := lD [val _, val _, sl .v _, sl .v _, sl .v _] i8)
 refine rA ?_ (x := cL [(true, [val _, val _, sl _ _, sl _ _, sl _ _])] [(true, [val _, val _, sl .v _, sl .v _, sl .v _])] Rq (hs := by exact Ub))
 refine rA ?_ (x := nT)
 refine sc (fun hbf => ?_) (fun hbf => ?_)
 have hno : fp e.WE[k] = false := by simpa using hbf
 have hbad2 := Kl (kI hlt hno)
 refine sS [1, 8, 53, 54, 55, 85, 86, 87, 118, 119, 120] [1, 8] ?_
 exact qw
 have hyes : fp e.WE[k] = true := by simpa using hbf
 refine bl ?_
 refine sG [1, 8, 53, 54, 55, 85, 86, 87, 118, 119, 120] [1, 8] ?_
 exact sa
 have hla : e.WE.all fp = true := jm (by rw [show e.WE.length = k by omega]; exact ha)
 refine bF ?_
 refine sT [1, 53, 54, 55, 85, 86, 87, 118, 119, 120] [1] ?_
 exact ED
def wF {p1 p2 p5 p6 p7 p8 p9 p11 p12 p13 p14 p16 p17 p18 : Fl} {e : aL}  (hb : bp e ≤ 68719476736) : aC prog 14 [(true, [sl .v (e.Store.Wr.map (aD p1 p2)), val (vI e.Store.Now), val (vI e.Ww), sl .v (e.Order.map ak), sl .v (e.Ws.map (aO p5 p6 p7 p8 p9)), sl .v (e.Done.map (aZ p11 p12 p13 p14)), sl .v (e.WE.map (a7 p16 p17 p18)), val (vI e.Steps)])] (az [(false, [val (.bool (bh e))])]) := by
 refine sF func14 fun h0 w0 Fz0 => ?_
 refine sn 0 0 fun hl0_0 => ?_
 refine sn 0 3 fun hl0_3 => ?_
 refine sn 0 4 fun hl0_4 => ?_
 refine sn 0 5 fun hl0_5 => ?_
 refine sn 0 6 fun hl0_6 => ?_
 have hbu := hb
 simp only [bp] at hbu
 refine iT ?_
 refine kD ?_
 refine pg ?_
 refine rA ?_ (x := cL [(true, [sl _ _, val _])] [(true, [sl .v _, val _])] KS (hs := by exact Lf (by omega)))
 refine fB ?_
 refine cx 11 (fun ga sga => ?_) (fun ga sga => ?_)
 refine jN ?_
 refine aq.cases (s := 22) rfl (fun g2 => ?_) (fun g2 => nomatch g2)
 refine oh ?_
 refine aq.cases (s := 28) rfl (fun g3 => ?_) (fun g3 => nomatch g3)
 refine nS ?_
 refine rM ?_
 refine aq.cases (s := 34) rfl (fun g4 => ?_) (fun g4 => nomatch g4)
 refine zt g4 ?_
 refine rA ?_ (x := aR g4)
 refine rM ?_
 refine aq.cases (s := 40) rfl (fun g5 => ?_) (fun g5 => nomatch g5)
 refine zt g5 ?_
 refine rA ?_ (x := aR g5)
 refine rM ?_
 refine aq.cases (s := 46) rfl (fun g6 => ?_) (fun g6 => nomatch g6)
 refine s6 ?_
 exact mo
 refine rB ga ?_ (x := lF i4)
 refine zK ?_
 refine zF ?_
 refine rB ga ?_ (x := lN cV)
 refine rB ga ?_ (x := gS)
 refine yV ?_
 refine rM ?_
 refine cx 22 (fun gb sgb => ?_) (fun gb sgb => ?_)
 refine mE ?_
 refine aq.cases (s := 28) rfl (fun g9 => ?_) (fun g9 => nomatch g9)
 refine zt g9 ?_
 refine rA ?_ (x := aR g9)
 refine rM ?_
 refine aq.cases (s := 34) rfl (fun g10 => ?_) (fun g10 => nomatch g10)
 refine zt g10 ?_
 refine rA ?_ (x := aR g10)
 refine rM ?_
 refine aq.cases (s := 40) rfl (fun g11 => ?_) (fun g11 => nomatch g11)
 refine zt g11 ?_
 refine rA ?_ (x := aR g11)
 refine rM ?_
 refine aq.cases (s := 46) rfl (fun g12 => ?_) (fun g12 => nomatch g12)
 refine zt g12 ?_
 refine rA ?_ (x := aR g12)
 exact mo
 refine rB gb ?_ (x := lF lR)
 refine rB gb ?_ (x := lD [sl .v _] bq)
 refine rB gb ?_ (x := cL [(false, [sl _ _])] [(false, [sl .v _])] Se (hs := by exact T9))
 refine qZ ?_
 refine cx 28 (fun gc sgc => ?_) (fun gc sgc => ?_)
 refine zt gc ?_
 refine iw ?_
 refine aq.cases (s := 34) rfl (fun g15 => ?_) (fun g15 => nomatch g15)
 refine zt g15 ?_
 refine rA ?_ (x := aR g15)
 refine rM ?_
 refine aq.cases (s := 40) rfl (fun g16 => ?_) (fun g16 => nomatch g16)
 refine zt g16 ?_
 refine rA ?_ (x := aR g16)
 refine rM ?_
 refine aq.cases (s := 46) rfl (fun g17 => ?_) (fun g17 => nomatch g17)
 refine zt g17 ?_
 refine rA ?_ (x := aR g17)
 exact mo
 refine rB gc ?_ (x := lF dN)
 refine rB gc ?_ (x := lD [sl .v _] dC)
 refine rB gc ?_ (x := lN bI)
 refine rB gc ?_ (x := eg)
 refine tb ?_
 refine cx 34 (fun gd sgd => ?_) (fun gd sgd => ?_)
 refine zt gd ?_
 refine rc ?_
 refine aq.cases (s := 40) rfl (fun g20 => ?_) (fun g20 => nomatch g20)
 refine zt g20 ?_
 refine rA ?_ (x := aR g20)
 refine rM ?_
 refine aq.cases (s := 46) rfl (fun g21 => ?_) (fun g21 => nomatch g21)
 refine zt g21 ?_
 refine rA ?_ (x := aR g21)
 exact mo
 refine rB gd ?_ (x := lF ju)
 refine yO ?_
 refine rB gd ?_ (x := nT)
 refine tc ?_
 refine cx 40 (fun ge sge => ?_) (fun ge sge => ?_)
 refine zt ge ?_
 refine rA ?_ (x := aR ge)
 refine rM ?_
 refine aq.cases (s := 46) rfl (fun g24 => ?_) (fun g24 => nomatch g24)
 refine zt g24 ?_
 refine rA ?_ (x := aR g24)
 exact mo
 refine rB ge ?_ (x := lF kd)
 refine rB ge ?_ (x := lD [sl .v _] kf)
 refine rB ge ?_ (x := lN ez)
 refine rB ge ?_ (x := eg)
 refine rA ?_ (x := aK ge)
 refine rM ?_
 refine cx 46 (fun gf sgf => ?_) (fun gf sgf => ?_)
 refine zt gf ?_
 refine rA ?_ (x := aR gf)
 exact mo
 refine rB gf ?_ (x := lF jt)
 refine rB gf ?_ (x := lD [sl .v _] jz)
 refine rB gf ?_ (x := lN dY)
 refine rB gf ?_ (x := eg)
 refine rA ?_ (x := aK gf)
 refine sc (fun hba => ?_) (fun hba => ?_)
 exact yc
 have hpr : iD e = true := by first | (simp_all [iD]; done) | (simp_all [iD]; omega)
 refine te ?_
 refine s8 ?_
 refine sL [1] [1] (fun k : Nat => k ≤ e.Ws.length ∧ jQ gH (fq e.Store) kk e.Ws k = true) (fun k : Nat => [(3, RV.int (k : Int))]) (fun k : Nat => []) (fun k : Nat => e.Ws.length - k) 0 (by exact ⟨by omega, rfl⟩) (by exact aI (by exact rfl) tI) (by exact tI) ?_
 rintro k ⟨hk, ha⟩
 refine d6 ?_
 refine pp ?_
 refine sc (fun hbb => ?_) (fun hbb => ?_)
 have hlt : k < e.Ws.length := by omega
 have hgk : e.Ws.getD k gH = e.Ws[k] := gn hlt
 have hgp : 0 < k → e.Ws.getD (k - 1) gH = e.Ws[k - 1] := fun h => gn (by omega)
 refine cF ?_
 refine sQ [1, 3] [1] ?_
 refine zo ?_
 refine dA 0 ?_ (x := lF dN)
 refine dA 2 ?_ (x := lD [sl .v _] dC)
 refine dA 0 ?_ (x := sM)
 refine dA 14 ?_ (x := aY (by decide) bI (by exact tI) (by exact rfl) (by exact be (by omega) rfl) (by exact rfl))
 refine dA 30 ?_ (x := lE [val _, val _, sl .v _, sl .v _, val _, sl .v _, val _, val _, val _, sl .v _] fj)
 refine dA 63 ?_ (x := cL [(true, [sl _ _, val _, val _, sl _ _, sl _ _, sl _ _, sl _ _, val _]), (true, [val _, val _, sl _ _, sl _ _, val _, sl _ _, val _, val _, val _, sl _ _])] [(true, [sl .v _, val _, val _, sl .v _, sl .v _, sl .v _, sl .v _, val _]), (true, [val _, val _, sl .v _, sl .v _, val _, sl .v _, val _, val _, val _, sl .v _])] Sf (hs := by exact Ug))
 refine dA 127 ?_ (x := nT)
 refine dA 255 ?_ (x := sM)
 refine dx 67 (fun gg sgg => ?_) (fun gg sgg => ?_)
 refine dT 511 gg ?_
 refine dT 1023 gg ?_
 refine dT 2047 gg ?_
 refine dU 4095 ?_
 refine dU 8191 ?_
 refine dU 4095 ?_
 refine dU 32767 ?_
 refine dU 65535 ?_
 refine dU 131071 ?_
 refine dU 262143 ?_
 refine dU 4095 ?_
 refine dU 528383 ?_
 refine dU 4095 ?_
 refine dU 2101247 ?_
 refine dU 7868415 ?_
 refine dU 16257023 ?_
 refine dU 33034239 ?_
 refine dU 66588671 ?_
 refine dU 134217727 ?_
 refine dT 268435455 gg ?_
 refine dA 536870911 ?_ (x := aR gg)
 refine dc ?_
 exact EE
 refine dB 511 gg ?_ (x := sM)
 refine dB 1023 gg ?_ (x := eg)
 refine dB 2047 gg ?_ (x := sM)
 refine dx 70 (fun gh sgh => ?_) (fun gh sgh => ?_)
 refine dB 4095 gh ?_ (x := lF dN)
 refine dB 8191 gh ?_ (x := lD [sl .v _] dC)
 refine dB 4095 gh ?_ (x := sM)
 refine dB 32767 gh ?_ (x := aY (by decide) bI (by exact tI) (by exact rfl) (by exact be (by omega) rfl) (by exact rfl))
 refine dB 65535 gh ?_ (x := bE (by decide) eR (by exact nl rfl))
 refine dB 131071 gh ?_ (x := bE (by decide) e8 (by exact nl rfl))
 refine dB 262143 gh ?_ (x := lE [val _] au)
 refine dB 4095 gh ?_ (x := lF dN)
 refine dB 528383 gh ?_ (x := lD [sl .v _] dC)
 refine dB 4095 gh ?_ (x := sM)
 refine dB 2101247 gh ?_ (x := gS)
 refine dB 7868415 gh ?_ (x := aY (k := k - 1) (by decide) bI (by exact tI) (by omega) (by exact be (by omega) rfl) (by exact rfl))
 refine dB 16257023 gh ?_ (x := bE (by decide) eR (by exact nl rfl))
 refine dB 33034239 gh ?_ (x := bE (by decide) e8 (by exact nl rfl))
 refine dB 66588671 gh ?_ (x := lE [val _] au)
 refine dB 134217727 gh ?_ (x := ir)
 refine dB 268435455 gg ?_ (x := aR gh)
 refine dA 536870911 ?_ (x := aK gg)
 refine sc (fun hbc => ?_) (fun hbc => ?_)
 exact EE
 exact EF
 refine dF 4095 gh ?_
 refine dF 8191 gh ?_
 refine dF 4095 gh ?_
 refine dF 32767 gh ?_
 refine dF 65535 gh ?_
 refine dF 131071 gh ?_
 refine dF 262143 gh ?_
 refine dF 4095 gh ?_
 refine dF 528383 gh ?_
 refine dF 4095 gh ?_
 refine dF 2101247 gh ?_
 refine dF 7868415 gh ?_
 refine dF 16257023 gh ?_
 refine dF 33034239 gh ?_
 refine dF 66588671 gh ?_
 refine dF 134217727 gh ?_
 refine dB 268435455 gg ?_ (x := aK gh)
 refine dA 536870911 ?_ (x := aK gg)
 refine fh ?_
 exact EF
 have hend : k = e.Ws.length := by omega
 have hall : ew gH (fq e.Store) kk e.Ws = true := pL ha hend
 refine gV ?_
 refine sT [1, 3] [1] ?_
 refine cz ?_
 refine sP [1, 3, 4] [1] ?_
 refine sL [1, 3] [1] (fun k : Nat => k ≤ e.Done.length ∧ (List.take k e.Done).all (gp e.Store.Now) = true) (fun k : Nat => [(4, RV.int (k : Int))]) (fun k : Nat => []) (fun k : Nat => e.Done.length - k) 0 (by exact ⟨by omega, rfl⟩) (by exact aI (by exact rfl) tI) (by exact tI) ?_
 rintro k ⟨hk, ha⟩
 refine d6 ?_
 refine my ?_
 refine vu ?_
 refine sc (fun hbc => ?_) (fun hbc => ?_)
 have hlt : k < e.Done.length := by omega
 refine bB ?_
 refine sT [1, 3, 4] [1] ?_
 refine my ?_
 refine rM ?_
 refine uJ ?_
 refine uI ?_
 refine aP ?_
 refine sO [(1, _), (3, _), (4, _), (5, _)] [(1, _), (5, (63, [val _, val _, sl _ _, sl _ _, val _, val _, sl _ _]))] ?_
 refine ba ?_
 refine sJ ?_
 refine rA ?_ (x := cL [(true, [val _, val _, sl _ _, sl _ _])] [(true, [val _, val _, sl .v _, sl .v _])] wi (hs := by exact wD))
 refine fB ?_
 refine cx 105 (fun gg sgg => ?_) (fun gg sgg => ?_)
 refine zt gg ?_
 refine rA ?_ (x := aR gg)
 refine rM ?_
 refine aq.cases (s := 114) rfl (fun g37 => ?_) (fun g37 => nomatch g37)
 refine zt g37 ?_
 refine rA ?_ (x := aR g37)
 refine rM ?_
 refine aq.cases (s := 120) rfl (fun g38 => ?_) (fun g38 => nomatch g38)
 refine zt g38 ?_
 refine rA ?_ (x := aR g38)
 refine dc ?_
 exact up
 refine rB gg ?_ (x := lF pO)
 refine rB gg ?_ (x := lD [val _] au)
 refine rB gg ?_ (x := lF gE)
 refine rB gg ?_ (x := lF fi)
 refine rB gg ?_ (x := lD [val _] au)
 refine rB gg ?_ (x := cL [(false, [val _]), (false, [val _]), (false, [val _])] [(false, [val _]), (false, [val _]), (false, [val _])] fF (hs := by exact fJ))
 refine rB gg ?_ (x := nT)
 refine rA ?_ (x := aK gg)
 refine rM ?_
 refine cx 114 (fun gh sgh => ?_) (fun gh sgh => ?_)
 refine zt gh ?_
 refine rA ?_ (x := aR gh)
 refine rM ?_
 refine aq.cases (s := 120) rfl (fun g41 => ?_) (fun g41 => nomatch g41)
 refine zt g41 ?_
 refine rA ?_ (x := aR g41)
 refine dc ?_
 exact up
 refine rB gh ?_ (x := lF pP)
 refine rB gh ?_ (x := lD [val _] au)
 refine rB gh ?_ (x := cL [(false, [val _]), (false, [val _]), (false, [val _])] [(false, [val _]), (false, [val _]), (false, [val _])] fF (hs := by exact fJ))
 refine rB gh ?_ (x := nT)
 refine rA ?_ (x := aK gh)
 refine rM ?_
 refine cx 120 (fun gi sgi => ?_) (fun gi sgi => ?_)
 refine zt gi ?_
 refine rA ?_ (x := aR gi)
 refine dc ?_
 exact up
 refine rB gi ?_ (x := lF lV)
 refine rB gi ?_ (x := lD [sl .v _] fI)
 refine rB gi ?_ (x := cL [(false, [sl _ _])] [(false, [sl .v _])] KT (hs := by exact K8))
 refine rB gi ?_ (x := nT)
 refine rA ?_ (x := aK gi)
 refine sc (fun hbd => ?_) (fun hbd => ?_)
 exact up
 have hyes : (gp e.Store.Now) e.Done[k] = true := by first | (simp_all [gp]; done) | (simp_all [gp]; omega)
 refine bl ?_
 refine sG [1, 3, 4, 5] [1, 5] ?_
 exact oN
 have hfa : e.Done.all (gp e.Store.Now) = true := jm (by rw [show e.Done.length = k by omega]; exact ha)
 refine gV ?_
 refine sT [1, 3, 4] [1] ?_
 refine cz ?_
 refine sP [1, 3, 4, 6] [1] ?_
 refine sL [1, 3, 4] [1] (fun k : Nat => k ≤ e.WE.length ∧ (List.take k e.WE).all fp = true) (fun k : Nat => [(6, RV.int (k : Int))]) (fun k : Nat => []) (fun k : Nat => e.WE.length - k) 0 (by exact ⟨by omega, rfl⟩) (by exact aI (by exact rfl) tI) (by exact tI) ?_
 rintro k ⟨hk, ha⟩
 refine d6 ?_
 refine nM ?_
 refine vr ?_
 refine sc (fun hbd => ?_) (fun hbd => ?_)
 have hlt : k < e.WE.length := by omega
 refine bB ?_
 refine sT [1, 3, 4, 6] [1] ?_
 refine nM ?_
 refine rM ?_
 refine yR ?_
 refine rA ?_ (x := cL [(true, [val _, val _, sl _ _, sl _ _, sl _ _])] [(true, [val _, val _, sl .v _, sl .v _, sl .v _])] Sg (hs := by exact Uc))
 refine rA ?_ (x := nT)
 refine sc (fun hbe => ?_) (fun hbe => ?_)
 have hno : fp e.WE[k] = false := by simpa using hbe
 have hbad2 := Kl (kI hlt hno)
 refine sS [1, 3, 4, 6] [1] ?_
 exact qw
 have hyes : fp e.WE[k] = true := by simpa using hbe
 refine bl ?_
 refine sG [1, 3, 4, 6] [1] ?_
 exact oN
 have hla : e.WE.all fp = true := jm (by rw [show e.WE.length = k by omega]; exact ha)
 refine bF ?_
 refine sT [1, 3, 4, 6] [1] ?_
 exact ED
end Go.Proofs.YtmekkgdboplbjaaGreat
