/- What functions of the program compute. No condition. -/
import Derived.Test.YtmekkgdboplbjaaGreatDoorCK0
import Derived.Test.YtmekkgdboplbjaaGreatDoorCP0
import Derived.Test.YtmekkgdboplbjaaGreatDoorCS0
set_option linter.all false
namespace Go.Proofs.YtmekkgdboplbjaaGreatDoor
open Go Go.RowKit M PV Tryz
set_option maxRecDepth 10000
attribute [local irreducible] PV.Lcl PV.LclR RV.Lcl
def UQ {o : List Int}  : aN prog 154 [(false, [sl .v (o.map an)])] (aF [(false, [val (.bool (fF o))])]) := by
 refine sF func154 fun h0 w0 Fz0 => ?_
 refine sj 0 fun hl0 => ?_
 refine rr ?_
 refine sL [0] [] (fun k : Nat => k ≤ 3 ∧ qr o k = true) (fun k : Nat => [(3, RV.int (k : Int))]) (fun k : Nat => []) (fun k : Nat => 3 - k) 0 (by exact ⟨by omega, rfl⟩) (by exact aI (by exact rfl) tI) (by exact tI) ?_
 rintro k ⟨hk, ha⟩
 refine rh ?_
 refine sc (fun hba => ?_) (fun hba => ?_)
 have hlt : k < 3 := by omega
 refine bw ?_
 refine sS [0, 3] [] ?_
 refine jI ?_
 refine rA ?_ (x := cL [(false, [sl _ _]), (false, [val _])] [(false, [sl .v _]), (false, [val _])] Qg (hs := by exact Uc))
 refine rA ?_ (x := nT)
 refine sc (fun hbb => ?_) (fun hbb => ?_)
 have hno : bP o (k : Int) = false := by simpa using hbb
 refine rn ?_
 exact rb ((Rl hlt hno).symm)
 have hyes : bP o (k : Int) = true := by simpa using hbb
 refine pY ?_
 refine ca ?_
 refine nx (k + 1) (by exact ⟨by omega, by rw [wY, ha, hyes]; rfl⟩) (e := (by exact aI (by exact bA (by omega)) tI))
 have hend : k = 3 := by omega
 rw [hend] at ha
 refine tu ?_
 refine jH ?_
 refine lb ?_
 refine dc ?_
 exact rb (by rw [← Ky, ha, Bool.true_and]; first | rfl | (rw [decide_eq_decide]; omega) | (rw [Bool.eq_iff_iff]; simp; omega) | (rw [Bool.eq_iff_iff]; simp))
def UR {p1 p2 p7 : Fl} {s : Store} {a : ZF}  : aN prog 155 [(true, [sl .v (s.ZE.map (aO p1 p2)), val (vI s.Now)]), (true, [val (vI a.ZG.Id), val (vI a.ZG.ZK), sl .v (a.ZG.ZH.map dj), sl .v (a.ZG.Out.map an), val (vI a.Time), sl .v (a.ZO.map an), val (vI a.Age), val (vI a.Sent), val (vI a.Cap), sl .v (a.Rows.map (dt p7))])] (aF [(false, [val (.bool (eg s a))])]) := by
 refine sF func155 fun h0 w0 Fz0 => ?_
 refine sn 0 0 fun hl0_0 => ?_
 refine sn 1 2 fun hl1_2 => ?_
 refine sn 1 3 fun hl1_3 => ?_
 refine sn 1 5 fun hl1_5 => ?_
 refine sn 1 9 fun hl1_9 => ?_
 refine kt ?_
 refine rX ?_ (x := (fY (ag := true) (cs := [val _, val _, sl _ _, sl _ _, val _, sl _ _, val _, val _, val _, sl _ _]) (by decide) (by exact tI)))
 refine eD ?_
 refine sT [2, 3, 4] [2, 3] ?_
 refine wt ?_
 refine eK ?_
 refine sP [2, 3, 4, 8, 9, 10] [2, 3] ?_
 refine sL [2, 3, 8, 9] [2, 3] (fun k : Nat => k ≤ a.ZO.length ∧ jM 0 (jR s.ZE.length) jS a.ZO k = true) (fun k : Nat => [(10, RV.int (k : Int))]) (fun k : Nat => []) (fun k : Nat => a.ZO.length - k) 0 (by exact ⟨by omega, rfl⟩) (by exact aI (by exact rfl) tI) (by exact tI) ?_
 rintro k ⟨hk, ha⟩
 refine eL ?_
 refine sc (fun hba => ?_) (fun hba => ?_)
 have hlt : k < a.ZO.length := by omega
 have hgk : a.ZO.getD k 0 = a.ZO[k] := et hlt
 have hgp : 0 < k → a.ZO.getD (k - 1) 0 = a.ZO[k - 1] := fun h => et (by omega)
 refine bw ?_
 refine sT [2, 3, 8, 9, 10] [2, 3] ?_
 refine rM ?_
 refine nF ?_
 refine rS ?_
 refine sS [2, 3, 5, 6, 8, 9, 10] [2, 3] ?_
 refine rM ?_
 refine oG ?_
 refine rA ?_ (x := gw)
 refine vK ?_
 refine rM ?_
 refine cx 22 (fun ga sga => ?_) (fun ga sga => ?_)
 refine mz ?_
 exact FN
 refine rB ga ?_ (x := sM)
 refine rB ga ?_ (x := dC)
 refine rB ga ?_ (x := sM)
 refine cx 25 (fun gb sgb => ?_) (fun gb sgb => ?_)
 refine rB gb ?_ (x := lF ls)
 refine rB gb ?_ (x := lD [sl .v _] bz)
 refine rB gb ?_ (x := sM)
 refine rB gb ?_ (x := gw)
 refine rB gb ?_ (x := aU (k := k - 1) (by decide) aW (by exact tI) (by omega) (by exact aV (by omega) rfl) (by exact rfl))
 refine rB gb ?_ (x := lE [val _] aw)
 refine rB gb ?_ (x := sM)
 refine rB gb ?_ (x := jD)
 refine rB ga ?_ (x := aK gb)
 refine rA ?_ (x := aH ga)
 refine sc (fun hbb => ?_) (fun hbb => ?_)
 exact FN
 exact FP
 refine zf gb ?_
 refine rB ga ?_ (x := aH gb)
 refine rA ?_ (x := aH ga)
 refine eJ ?_
 exact FP
 have hend : k = a.ZO.length := by omega
 have hall : dE 0 (jR s.ZE.length) jS a.ZO = true := oS ha hend
 refine bE ?_
 refine sT [2, 3, 8, 9, 10] [2, 3] ?_
 refine wt ?_
 refine rA ?_ (x := dC)
 refine rM ?_
 refine cx 41 (fun ga sga => ?_) (fun ga sga => ?_)
 refine rB ga ?_ (x := lF iN)
 refine rB ga ?_ (x := lD [val _, val _, sl .v _, sl .v _] fh)
 refine rB ga ?_ (x := cL [(true, [val _, val _, sl _ _, sl _ _])] [(true, [val _, val _, sl .v _, sl .v _])] JT (hs := by exact Lz))
 refine nA ?_
 refine cx 46 (fun gb sgb => ?_) (fun gb sgb => ?_)
 refine rB gb ?_ (x := lF qv)
 refine rB gb ?_ (x := lD [val _] aw)
 refine rB gb ?_ (x := lF fG)
 refine It ?_
 refine oH ?_
 refine cx 53 (fun gc sgc => ?_) (fun gc sgc => ?_)
 refine rB gc ?_ (x := lF ph)
 refine Iu ?_
 refine rA ?_ (x := aK gc)
 refine rM ?_
 refine cx 58 (fun gd sgd => ?_) (fun gd sgd => ?_)
 refine rB gd ?_ (x := lF qw)
 refine zD ?_
 refine tH ?_
 refine cx 63 (fun ge sge => ?_) (fun ge sge => ?_)
 refine rB ge ?_ (x := lF rR)
 refine rB ge ?_ (x := lD [val _] aw)
 refine rB ge ?_ (x := cL [(false, [val _]), (false, [val _]), (false, [val _])] [(false, [val _]), (false, [val _]), (false, [val _])] jN (hs := by exact kb))
 refine rA ?_ (x := aK ge)
 refine rM ?_
 refine cx 68 (fun gf sgf => ?_) (fun gf sgf => ?_)
 refine rB gf ?_ (x := lF nY)
 refine rB gf ?_ (x := lD [sl .v _] gV)
 refine rB gf ?_ (x := cL [(false, [sl _ _])] [(false, [sl .v _])] Bw (hs := by exact BF))
 refine rA ?_ (x := aK gf)
 exact pK
 refine zf gf ?_
 refine rA ?_ (x := aH gf)
 exact pK
 refine zf ge ?_
 refine rA ?_ (x := aH ge)
 refine rM ?_
 refine az.cases (s := 68) rfl (fun g13 => nomatch g13) (fun g13 => ?_)
 refine zf g13 ?_
 refine rA ?_ (x := aH g13)
 exact pK
 refine zf gd ?_
 refine tJ ?_
 refine az.cases (s := 63) rfl (fun g14 => nomatch g14) (fun g14 => ?_)
 refine zf g14 ?_
 refine rA ?_ (x := aH g14)
 refine rM ?_
 refine az.cases (s := 68) rfl (fun g15 => nomatch g15) (fun g15 => ?_)
 refine zf g15 ?_
 refine rA ?_ (x := aH g15)
 exact pK
 refine pW ?_
 refine rM ?_
 refine az.cases (s := 58) rfl (fun g16 => nomatch g16) (fun g16 => ?_)
 refine zf g16 ?_
 refine rA ?_ (x := aH g16)
 refine rM ?_
 refine az.cases (s := 63) rfl (fun g17 => nomatch g17) (fun g17 => ?_)
 refine zf g17 ?_
 refine rA ?_ (x := aH g17)
 refine rM ?_
 refine az.cases (s := 68) rfl (fun g18 => nomatch g18) (fun g18 => ?_)
 refine zf g18 ?_
 refine rA ?_ (x := aH g18)
 exact pK
 refine qe ?_
 refine az.cases (s := 53) rfl (fun g19 => nomatch g19) (fun g19 => ?_)
 refine zf g19 ?_
 refine rA ?_ (x := aH g19)
 refine rM ?_
 refine az.cases (s := 58) rfl (fun g20 => nomatch g20) (fun g20 => ?_)
 refine zf g20 ?_
 refine rA ?_ (x := aH g20)
 refine rM ?_
 refine az.cases (s := 63) rfl (fun g21 => nomatch g21) (fun g21 => ?_)
 refine zf g21 ?_
 refine rA ?_ (x := aH g21)
 refine rM ?_
 refine az.cases (s := 68) rfl (fun g22 => nomatch g22) (fun g22 => ?_)
 refine zf g22 ?_
 refine rA ?_ (x := aH g22)
 exact pK
 refine kx ?_
 refine az.cases (s := 46) rfl (fun g23 => nomatch g23) (fun g23 => ?_)
 refine zf g23 ?_
 refine rA ?_ (x := aH g23)
 refine rM ?_
 refine az.cases (s := 53) rfl (fun g24 => nomatch g24) (fun g24 => ?_)
 refine zf g24 ?_
 refine rA ?_ (x := aH g24)
 refine rM ?_
 refine az.cases (s := 58) rfl (fun g25 => nomatch g25) (fun g25 => ?_)
 refine zf g25 ?_
 refine rA ?_ (x := aH g25)
 refine rM ?_
 refine az.cases (s := 63) rfl (fun g26 => nomatch g26) (fun g26 => ?_)
 refine zf g26 ?_
 refine rA ?_ (x := aH g26)
 refine rM ?_
 refine az.cases (s := 68) rfl (fun g27 => nomatch g27) (fun g27 => ?_)
 refine zf g27 ?_
 refine rA ?_ (x := aH g27)
 exact pK
def US {l : List Int} {n : Int}  (hn : 0 ≤ n ∧ n ≤ 9223372036854775807) : aN prog 231 [(false, [sl .v (l.map an)]), (false, [val (vI n)])] (aF [(false, [val (.bool (jT l n))])]) := by
 refine sF func231 fun h0 w0 Fz0 => ?_
 refine sj 0 fun hl0 => ?_
 refine wF ?_
 refine wx ?_
 refine sL [0, 1] [] (fun k : Nat => k ≤ l.length ∧ jM 0 (jR n) jS l k = true) (fun k : Nat => [(5, RV.int (k : Int))]) (fun k : Nat => []) (fun k : Nat => l.length - k) 0 (by exact ⟨by omega, rfl⟩) (by exact aI (by exact rfl) tI) (by exact tI) ?_
 rintro k ⟨hk, ha⟩
 refine kw ?_
 refine sc (fun hba => ?_) (fun hba => ?_)
 have hlt : k < l.length := by omega
 have hgk : l.getD k 0 = l[k] := et hlt
 have hgp : 0 < k → l.getD (k - 1) 0 = l[k - 1] := fun h => et (by omega)
 refine er ?_
 refine sP [0, 1, 5] [] ?_
 refine nC ?_
 refine vR ?_
 refine dA 0 ?_ (x := sM)
 refine dA 16 ?_ (x := gw)
 refine dA 63 ?_ (x := cL [(false, [val _]), (false, [val _]), (false, [val _])] [(false, [val _]), (false, [val _]), (false, [val _])] fP (hs := by exact fV))
 refine dA 127 ?_ (x := nT)
 refine dA 255 ?_ (x := sM)
 refine dx 20 (fun ga sga => ?_) (fun ga sga => ?_)
 refine dT 511 ga ?_
 refine dT 1023 ga ?_
 refine dT 2047 ga ?_
 refine dU 4095 ?_
 refine dU 4095 ?_
 refine dU 16383 ?_
 refine dU 32767 ?_
 refine dU 4095 ?_
 refine dU 4095 ?_
 refine dU 135167 ?_
 refine dU 462847 ?_
 refine dU 987135 ?_
 refine dU 2097151 ?_
 refine An ?_
 refine cO ?_
 exact FQ
 refine dB 511 ga ?_ (x := sM)
 refine dB 1023 ga ?_ (x := dC)
 refine dB 2047 ga ?_ (x := sM)
 refine dx 23 (fun gb sgb => ?_) (fun gb sgb => ?_)
 refine dB 4095 gb ?_ (x := vM false [sl .v _])
 refine dB 4095 gb ?_ (x := sM)
 refine dB 16383 gb ?_ (x := aU (by decide) aW (by exact tI) (by exact rfl) (by exact aV (by omega) rfl) (by exact rfl))
 refine dB 32767 gb ?_ (x := lE [val _] aw)
 refine dB 4095 gb ?_ (x := vM false [sl .v _])
 refine dB 4095 gb ?_ (x := sM)
 refine dB 135167 gb ?_ (x := gw)
 refine dB 462847 gb ?_ (x := aU (k := k - 1) (by decide) aW (by exact tI) (by omega) (by exact aV (by omega) rfl) (by exact rfl))
 refine dB 987135 gb ?_ (x := lE [val _] aw)
 refine zV ?_
 refine dA 8388607 ?_ (x := aH ga)
 refine sc (fun hbb => ?_) (fun hbb => ?_)
 exact FQ
 exact FR
 refine dF 4095 gb ?_
 refine dF 4095 gb ?_
 refine dF 16383 gb ?_
 refine dF 32767 gb ?_
 refine dF 4095 gb ?_
 refine dF 4095 gb ?_
 refine dF 135167 gb ?_
 refine dF 462847 gb ?_
 refine dF 987135 gb ?_
 refine dF 2097151 gb ?_
 refine zZ ?_
 refine eJ ?_
 exact FR
 have hend : k = l.length := by omega
 have hall : dE 0 (jR n) jS l = true := oS ha hend
 refine wz ?_
 refine jH ?_
 refine rA ?_ (x := dC)
 refine df ?_
 exact rb (by first | (simp_all [jT]; done) | (simp_all [jT]; rfl) | (simp_all [jT]; omega) | (simp_all [jT]; intros; omega))
def UT {p1 p2 p5 p6 p7 p8 p9 p11 p12 p13 p14 p16 p17 p18 p23 : Fl} {e : ay} {a : ZF}  : aN prog 159 [(true, [sl .v (e.Store.ZE.map (aO p1 p2)), val (vI e.Store.Now), val (vI e.ZJ), sl .v (e.Order.map an), sl .v (e.ZF.map (bq p5 p6 p7 p8 p9)), sl .v (e.Done.map (bN p11 p12 p13 p14)), sl .v (e.ZR.map (bF p16 p17 p18)), val (vI e.Steps)]), (true, [val (vI a.ZG.Id), val (vI a.ZG.ZK), sl .v (a.ZG.ZH.map dj), sl .v (a.ZG.Out.map an), val (vI a.Time), sl .v (a.ZO.map an), val (vI a.Age), val (vI a.Sent), val (vI a.Cap), sl .v (a.Rows.map (dt p23))])] (aF [(false, [val (.bool (eg e.Store a))])]) := by
 refine sF func159 fun h0 w0 Fz0 => ?_
 refine sn 0 0 fun hl0_0 => ?_
 refine sn 0 3 fun hl0_3 => ?_
 refine sn 0 4 fun hl0_4 => ?_
 refine sn 0 5 fun hl0_5 => ?_
 refine sn 0 6 fun hl0_6 => ?_
 refine sn 1 2 fun hl1_2 => ?_
 refine sn 1 3 fun hl1_3 => ?_
 refine sn 1 5 fun hl1_5 => ?_
 refine sn 1 9 fun hl1_9 => ?_
 refine zip ?_
 refine IS ?_
 refine sT [2, 3, 4] [2, 3] ?_
 refine rA ?_ (x := lF iN)
 refine zF ?_
 refine rM ?_
 refine cx 8 (fun ga sga => ?_) (fun ga sga => ?_)
 refine rB ga ?_ (x := lF qv)
 refine Aa ?_
 refine zY ?_
 refine vH ?_
 refine rM ?_
 refine cx 16 (fun gb sgb => ?_) (fun gb sgb => ?_)
 refine rB gb ?_ (x := lF ls)
 refine rB gb ?_ (x := lD [sl .v _] bz)
 refine rB gb ?_ (x := lF fB)
 refine rB gb ?_ (x := lF jW)
 refine rB gb ?_ (x := lD [sl .v _] jX)
 refine rB gb ?_ (x := lN fj)
 refine rB gb ?_ (x := cL [(false, [sl _ _]), (false, [val _])] [(false, [sl .v _]), (false, [val _])] SM (hs := by exact (US (by omega))))
 refine oH ?_
 refine cx 25 (fun gc sgc => ?_) (fun gc sgc => ?_)
 refine rB gc ?_ (x := lF ph)
 refine rB gc ?_ (x := lD [val _] aw)
 refine zH ?_
 refine rM ?_
 refine cx 30 (fun gd sgd => ?_) (fun gd sgd => ?_)
 refine rB gd ?_ (x := lF qw)
 refine Iw ?_
 refine tH ?_
 refine cx 35 (fun ge sge => ?_) (fun ge sge => ?_)
 refine rB ge ?_ (x := lF rR)
 refine Iv ?_
 refine rA ?_ (x := aK ge)
 refine rM ?_
 refine cx 40 (fun gf sgf => ?_) (fun gf sgf => ?_)
 refine rB gf ?_ (x := lF nY)
 refine rB gf ?_ (x := lD [sl .v _] gV)
 refine rB gf ?_ (x := cL [(false, [sl _ _])] [(false, [sl .v _])] Bx (hs := by exact BG))
 refine rA ?_ (x := aK gf)
 exact pL
 refine zf gf ?_
 refine rA ?_ (x := aH gf)
 exact pL
 refine zf ge ?_
 refine rA ?_ (x := aH ge)
 refine rM ?_
 refine az.cases (s := 40) rfl (fun g7 => nomatch g7) (fun g7 => ?_)
 refine zf g7 ?_
 refine rA ?_ (x := aH g7)
 exact pL
 refine zf gd ?_
 refine tJ ?_
 refine az.cases (s := 35) rfl (fun g8 => nomatch g8) (fun g8 => ?_)
 refine zf g8 ?_
 refine rA ?_ (x := aH g8)
 refine rM ?_
 refine az.cases (s := 40) rfl (fun g9 => nomatch g9) (fun g9 => ?_)
 refine zf g9 ?_
 refine rA ?_ (x := aH g9)
 exact pL
 refine pW ?_
 refine rM ?_
 refine az.cases (s := 30) rfl (fun g10 => nomatch g10) (fun g10 => ?_)
 refine wv ?_
 refine rM ?_
 refine az.cases (s := 35) rfl (fun g11 => nomatch g11) (fun g11 => ?_)
 refine zf g11 ?_
 refine rA ?_ (x := aH g11)
 refine rM ?_
 refine az.cases (s := 40) rfl (fun g12 => nomatch g12) (fun g12 => ?_)
 refine zf g12 ?_
 refine rA ?_ (x := aH g12)
 exact pL
 refine qe ?_
 refine az.cases (s := 25) rfl (fun g13 => nomatch g13) (fun g13 => ?_)
 refine zf g13 ?_
 refine rA ?_ (x := aH g13)
 refine rM ?_
 refine az.cases (s := 30) rfl (fun g14 => nomatch g14) (fun g14 => ?_)
 refine zf g14 ?_
 refine rA ?_ (x := aH g14)
 refine rM ?_
 refine az.cases (s := 35) rfl (fun g15 => nomatch g15) (fun g15 => ?_)
 refine zf g15 ?_
 refine rA ?_ (x := aH g15)
 refine rM ?_
 refine az.cases (s := 40) rfl (fun g16 => nomatch g16) (fun g16 => ?_)
 refine zf g16 ?_
 refine rA ?_ (x := aH g16)
 exact pL
 refine kx ?_
 refine az.cases (s := 16) rfl (fun g17 => nomatch g17) (fun g17 => ?_)
 refine zf g17 ?_
 refine rA ?_ (x := aH g17)
 refine rM ?_
 refine az.cases (s := 25) rfl (fun g18 => nomatch g18) (fun g18 => ?_)
 refine zf g18 ?_
 refine rA ?_ (x := aH g18)
 refine rM ?_
 refine az.cases (s := 30) rfl (fun g19 => nomatch g19) (fun g19 => ?_)
 refine zf g19 ?_
 refine rA ?_ (x := aH g19)
 refine rM ?_
 refine az.cases (s := 35) rfl (fun g20 => nomatch g20) (fun g20 => ?_)
 refine zf g20 ?_
 refine rA ?_ (x := aH g20)
 refine rM ?_
 refine az.cases (s := 40) rfl (fun g21 => nomatch g21) (fun g21 => ?_)
 refine zf g21 ?_
 refine rA ?_ (x := aH g21)
 exact pL
def UU {p1 p2 p5 p6 p7 p8 p9 p11 p12 p13 p14 p16 p17 p18 : Fl} {e : ay}  (hb : bB e ≤ 68719476736) : aN prog 66 [(true, [sl .v (e.Store.ZE.map (aO p1 p2)), val (vI e.Store.Now), val (vI e.ZJ), sl .v (e.Order.map an), sl .v (e.ZF.map (bq p5 p6 p7 p8 p9)), sl .v (e.Done.map (bN p11 p12 p13 p14)), sl .v (e.ZR.map (bF p16 p17 p18)), val (vI e.Steps)])] (aF [(false, [val (.bool (aT e))])]) := by
 refine sF func66 fun h0 w0 Fz0 => ?_
 refine sn 0 0 fun hl0_0 => ?_
 refine sn 0 3 fun hl0_3 => ?_
 refine sn 0 4 fun hl0_4 => ?_
 refine sn 0 5 fun hl0_5 => ?_
 refine sn 0 6 fun hl0_6 => ?_
 have hbu := hb
 simp only [bB] at hbu
 refine zip ?_
 refine iY ?_
 refine rA ?_ (x := lF fB)
 refine IT ?_
 refine gk ?_
 refine cx 13 (fun ga sga => ?_) (fun ga sga => ?_)
 refine lO ?_
 refine az.cases (s := 24) rfl (fun g2 => ?_) (fun g2 => nomatch g2)
 refine my ?_
 refine rM ?_
 refine az.cases (s := 30) rfl (fun g3 => ?_) (fun g3 => nomatch g3)
 refine pX ?_
 exact nw
 refine rB ga ?_ (x := lF kN)
 refine Aa ?_
 refine tk ?_
 refine wj ?_
 refine ta ?_
 refine lf ?_
 refine cx 24 (fun gb sgb => ?_) (fun gb sgb => ?_)
 refine qa ?_
 refine az.cases (s := 30) rfl (fun g6 => ?_) (fun g6 => nomatch g6)
 refine tD ?_
 exact nw
 refine rB gb ?_ (x := lF uj)
 refine rB gb ?_ (x := lD [sl .v _] bz)
 refine rB gb ?_ (x := cL [(false, [sl _ _])] [(false, [sl .v _])] Sj (hs := by exact UQ))
 refine wG ?_
 refine cx 30 (fun gc sgc => ?_) (fun gc sgc => ?_)
 refine ny ?_
 exact nw
 refine rB gc ?_ (x := lF mN)
 refine Iu ?_
 refine rB gc ?_ (x := nT)
 refine rA ?_ (x := aH gc)
 refine sc (fun hba => ?_) (fun hba => ?_)
 exact yW
 have hp1 : (bL e.Store && (aB e.ZJ 0 (e.Store.ZE.length - 1) && (fF e.Order && aB e.Steps 0 100000))) = true := by first | (simp_all; done) | (simp_all; omega)
 refine tK ?_
 refine qU ?_
 refine rA ?_ (x := lN ct)
 refine rA ?_ (x := dC)
 refine rM ?_
 refine cx 40 (fun gd sgd => ?_) (fun gd sgd => ?_)
 refine zt gd ?_
 refine tH ?_
 refine az.cases (s := 46) rfl (fun g12 => ?_) (fun g12 => nomatch g12)
 refine zt g12 ?_
 refine rA ?_ (x := aK g12)
 refine cO ?_
 exact yX
 refine rB gd ?_ (x := lF mM)
 refine rB gd ?_ (x := lD [sl .v _] mQ)
 refine rB gd ?_ (x := lN kO)
 refine rB gd ?_ (x := dC)
 refine tJ ?_
 refine cx 46 (fun ge sge => ?_) (fun ge sge => ?_)
 refine zt ge ?_
 refine rA ?_ (x := aK ge)
 refine cO ?_
 exact yX
 refine rB ge ?_ (x := lF ob)
 refine rB ge ?_ (x := lD [sl .v _] oe)
 refine rB ge ?_ (x := lN ij)
 refine rB ge ?_ (x := dC)
 refine rA ?_ (x := aH ge)
 refine sc (fun hbb => ?_) (fun hbb => ?_)
 exact yX
 have hpr : ic e = true := by unfold ic; rw [hp1]; first | (simp_all; done) | (simp_all; omega)
 refine tK ?_
 refine qU ?_
 refine rA ?_ (x := lN ct)
 refine eK ?_
 refine sP [1, 2, 53, 54, 55] [1] ?_
 refine sL [1, 53, 54] [1] (fun k : Nat => k ≤ e.ZF.length ∧ jM go (eg e.Store) kH e.ZF k = true) (fun k : Nat => [(55, RV.int (k : Int))]) (fun k : Nat => []) (fun k : Nat => e.ZF.length - k) 0 (by exact ⟨by omega, rfl⟩) (by exact aI (by exact rfl) tI) (by exact tI) ?_
 rintro k ⟨hk, ha⟩
 refine eL ?_
 refine sc (fun hbc => ?_) (fun hbc => ?_)
 have hlt : k < e.ZF.length := by omega
 have hgk : e.ZF.getD k go = e.ZF[k] := et hlt
 have hgp : 0 < k → e.ZF.getD (k - 1) go = e.ZF[k - 1] := fun h => et (by omega)
 refine bw ?_
 refine sT [1, 53, 54, 55] [1] ?_
 refine Hp ?_
 refine tc ?_
 refine rS ?_
 refine sZ ?_
 refine sO [(1, _), (3, _), (4, _), (53, _), (54, _), (55, _)] [(1, _), (4, (102, [val _, val _, sl _ _, sl _ _, val _, sl _ _, val _, val _, val _, sl _ _]))] ?_
 refine cv cd ?_
 refine dA 0 ?_ (x := lF fB)
 refine dA 1 ?_ (x := lD [sl .v _, val _] cF)
 refine dA 0 ?_ (x := lD [val _, val _, sl .v _, sl .v _, val _, sl .v _, val _, val _, val _, sl .v _] lu)
 refine dA 7 ?_ (x := cL [(true, [sl _ _, val _]), (true, [val _, val _, sl _ _, sl _ _, val _, sl _ _, val _, val _, val _, sl _ _])] [(true, [sl .v _, val _]), (true, [val _, val _, sl .v _, sl .v _, val _, sl .v _, val _, val _, val _, sl .v _])] Sk (hs := by exact UR))
 refine dA 15 ?_ (x := nT)
 refine dA 31 ?_ (x := sM)
 refine dx 65 (fun gf sgf => ?_) (fun gf sgf => ?_)
 refine dT 63 gf ?_
 refine dT 127 gf ?_
 refine dT 255 gf ?_
 refine dU 511 ?_
 refine dU 1023 ?_
 refine dU 511 ?_
 refine dU 2559 ?_
 refine dU 8191 ?_
 refine dU 16383 ?_
 refine dU 32767 ?_
 refine dU 65535 ?_
 refine dU 511 ?_
 refine dU 131583 ?_
 refine dU 393727 ?_
 refine dU 1048575 ?_
 refine dT 2097151 gf ?_
 refine dA 4194303 ?_ (x := aK gf)
 refine cO ?_
 exact FT
 refine dB 63 gf ?_ (x := sM)
 refine dB 127 gf ?_ (x := dC)
 refine dB 255 gf ?_ (x := sM)
 refine dx 68 (fun gg sgg => ?_) (fun gg sgg => ?_)
 refine dB 511 gg ?_ (x := lF eQ)
 refine dB 1023 gg ?_ (x := lD [sl .v _] eG)
 refine dB 511 gg ?_ (x := sM)
 refine dB 2559 gg ?_ (x := gw)
 refine dB 8191 gg ?_ (x := aU (k := k - 1) (by decide) ct (by exact tI) (by omega) (by exact aV (by omega) rfl) (by exact rfl))
 refine dB 16383 gg ?_ (x := cB (by decide) iN (by exact nl rfl))
 refine dB 32767 gg ?_ (x := cB (by decide) iB (by exact nl rfl))
 refine dB 65535 gg ?_ (x := lE [val _] aw)
 refine dB 511 gg ?_ (x := lF iN)
 refine dB 131583 gg ?_ (x := lF iB)
 refine dB 393727 gg ?_ (x := lD [val _] aw)
 refine dB 1048575 gg ?_ (x := jD)
 refine dB 2097151 gf ?_ (x := aK gg)
 refine dA 4194303 ?_ (x := aH gf)
 refine sc (fun hbd => ?_) (fun hbd => ?_)
 exact FT
 exact FV
 refine dF 511 gg ?_
 refine dF 1023 gg ?_
 refine dF 511 gg ?_
 refine dF 2559 gg ?_
 refine dF 8191 gg ?_
 refine dF 16383 gg ?_
 refine dF 32767 gg ?_
 refine dF 65535 gg ?_
 refine dF 511 gg ?_
 refine dF 131583 gg ?_
 refine dF 393727 gg ?_
 refine dF 1048575 gg ?_
 refine dB 2097151 gf ?_ (x := aH gg)
 refine dA 4194303 ?_ (x := aH gf)
 refine eJ ?_
 exact FV
 have hend : k = e.ZF.length := by omega
 have hall : dE go (eg e.Store) kH e.ZF = true := oS ha hend
 refine gM ?_
 refine sT [1, 53, 54, 55] [1] ?_
 refine tn ?_
 refine rA ?_ (x := lN kO)
 refine eK ?_
 refine sP [1, 53, 54, 55, 85, 86, 87] [1] ?_
 refine sL [1, 53, 54, 55, 85, 86] [1] (fun k : Nat => k ≤ e.Done.length ∧ (List.take k e.Done).all (fz e.Store.Now) = true) (fun k : Nat => [(87, RV.int (k : Int))]) (fun k : Nat => []) (fun k : Nat => e.Done.length - k) 0 (by exact ⟨by omega, rfl⟩) (by exact aI (by exact rfl) tI) (by exact tI) ?_
 rintro k ⟨hk, ha⟩
 refine eL ?_
 refine sc (fun hbd => ?_) (fun hbd => ?_)
 have hlt : k < e.Done.length := by omega
 refine bw ?_
 refine sT [1, 53, 54, 55, 85, 86, 87] [1] ?_
 refine zC ?_
 refine vE ?_
 refine ba ?_
 refine sO [(1, _), (6, _), (53, _), (54, _), (55, _), (85, _), (86, _), (87, _)] [(1, _), (6, (56, [val _, val _, sl _ _, sl _ _, val _, val _, sl _ _]))] ?_
 refine bi ?_
 refine rA ?_ (x := lF pi)
 refine zG ?_
 refine gk ?_
 refine cx 95 (fun gf sgf => ?_) (fun gf sgf => ?_)
 refine zt gf ?_
 refine rA ?_ (x := aK gf)
 refine rM ?_
 refine az.cases (s := 104) rfl (fun g25 => ?_) (fun g25 => nomatch g25)
 refine zt g25 ?_
 refine rA ?_ (x := aK g25)
 refine rM ?_
 refine az.cases (s := 110) rfl (fun g26 => ?_) (fun g26 => nomatch g26)
 refine zt g26 ?_
 refine rA ?_ (x := aK g26)
 refine cO ?_
 exact vn
 refine rB gf ?_ (x := lF Lm)
 refine rB gf ?_ (x := lD [val _] aw)
 refine rB gf ?_ (x := lF fB)
 refine rB gf ?_ (x := lF fG)
 refine rB gf ?_ (x := lD [val _] aw)
 refine rB gf ?_ (x := cL [(false, [val _]), (false, [val _]), (false, [val _])] [(false, [val _]), (false, [val _]), (false, [val _])] jN (hs := by exact kb))
 refine rB gf ?_ (x := nT)
 refine rA ?_ (x := aH gf)
 refine rM ?_
 refine cx 104 (fun gg sgg => ?_) (fun gg sgg => ?_)
 refine zt gg ?_
 refine rA ?_ (x := aK gg)
 refine rM ?_
 refine az.cases (s := 110) rfl (fun g29 => ?_) (fun g29 => nomatch g29)
 refine zt g29 ?_
 refine rA ?_ (x := aK g29)
 refine cO ?_
 exact vn
 refine rB gg ?_ (x := lF Ln)
 refine rB gg ?_ (x := lD [val _] aw)
 refine rB gg ?_ (x := cL [(false, [val _]), (false, [val _]), (false, [val _])] [(false, [val _]), (false, [val _]), (false, [val _])] jN (hs := by exact kb))
 refine rB gg ?_ (x := nT)
 refine rA ?_ (x := aH gg)
 refine rM ?_
 refine cx 110 (fun gh sgh => ?_) (fun gh sgh => ?_)
 refine zt gh ?_
 refine rA ?_ (x := aK gh)
 refine cO ?_
 exact vn
 refine rB gh ?_ (x := lF mO)
 refine rB gh ?_ (x := lD [sl .v _] gV)
 refine rB gh ?_ (x := cL [(false, [sl _ _])] [(false, [sl .v _])] Bw (hs := by exact BF))
 refine rB gh ?_ (x := nT)
 refine rA ?_ (x := aH gh)
 refine sc (fun hbe => ?_) (fun hbe => ?_)
 exact vn
 have hyes : (fz e.Store.Now) e.Done[k] = true := by first | (simp_all [fz]; done) | (simp_all [fz]; omega)
 refine bc ?_
 refine sG [1, 6, 53, 54, 55, 85, 86, 87] [1, 6] ?_
 exact vg
 have hfa : e.Done.all (fz e.Store.Now) = true := ky (by rw [show e.Done.length = k by omega]; exact ha)
 refine gM ?_
 refine sT [1, 53, 54, 55, 85, 86, 87] [1] ?_
 refine wc ?_
 refine rA ?_ (x := lN ij)
 refine eK ?_
 refine sP [1, 53, 54, 55, 85, 86, 87, 118, 119, 120] [1] ?_
 refine sL [1, 53, 54, 55, 85, 86, 87, 118, 119] [1] (fun k : Nat => k ≤ e.ZR.length ∧ (List.take k e.ZR).all cj = true) (fun k : Nat => [(120, RV.int (k : Int))]) (fun k : Nat => []) (fun k : Nat => e.ZR.length - k) 0 (by exact ⟨by omega, rfl⟩) (by exact aI (by exact rfl) tI) (by exact tI) ?_
 rintro k ⟨hk, ha⟩
 refine eL ?_
 refine sc (fun hbe => ?_) (fun hbe => ?_)
 have hlt : k < e.ZR.length := by omega
 refine bw ?_
 refine sT [1, 53, 54, 55, 85, 86, 87, 118, 119, 120] [1] ?_
 refine qV ?_
 refine vF ?_
 refine ba ?_
 refine sO [(1, _), (8, _), (53, _), (54, _), (55, _), (85, _), (86, _), (87, _), (118, _), (119, _), (120, _)] [(1, _), (8, (149, [val _, val _, sl _ _, sl _ _, sl _ _]))] ?_
 refine bi ?_
 refine zB ?_
 refine rA ?_ (x := nT)
 refine sc (fun hbf => ?_) (fun hbf => ?_)
 have hno : cj e.ZR[k] = false := by simpa using hbf
 have hbad2 := Kw (lP hlt hno)
 refine sS [1, 8, 53, 54, 55, 85, 86, 87, 118, 119, 120] [1, 8] ?_
 exact qS
 have hyes : cj e.ZR[k] = true := by simpa using hbf
 refine bc ?_
 refine sG [1, 8, 53, 54, 55, 85, 86, 87, 118, 119, 120] [1, 8] ?_
 exact vg
 have hla : e.ZR.all cj = true := ky (by rw [show e.ZR.length = k by omega]; exact ha)
 refine bE ?_
 refine sT [1, 53, 54, 55, 85, 86, 87, 118, 119, 120] [1] ?_
 exact FW
def BL {p1 p2 p5 p6 p7 p8 p9 p11 p12 p13 p14 p16 p17 p18 : Fl} {e : ay}  (hb : bB e ≤ 68719476736) : aN prog 69 [(true, [sl .v (e.Store.ZE.map (aO p1 p2)), val (vI e.Store.Now), val (vI e.ZJ), sl .v (e.Order.map an), sl .v (e.ZF.map (bq p5 p6 p7 p8 p9)), sl .v (e.Done.map (bN p11 p12 p13 p14)), sl .v (e.ZR.map (bF p16 p17 p18)), val (vI e.Steps)])] (aF [(false, [val (.bool (aT e))])]) := by
 refine sF func69 fun h0 w0 Fz0 => ?_
 refine sn 0 0 fun hl0_0 => ?_
 refine sn 0 3 fun hl0_3 => ?_
 refine sn 0 4 fun hl0_4 => ?_
 refine sn 0 5 fun hl0_5 => ?_
 refine sn 0 6 fun hl0_6 => ?_
 have hbu := hb
 simp only [bB] at hbu
 refine zip ?_
 refine iY ?_
 refine rA ?_ (x := lF fB)
 refine zN ?_
 refine gk ?_
 refine cx 11 (fun ga sga => ?_) (fun ga sga => ?_)
 refine lO ?_
 refine az.cases (s := 22) rfl (fun g2 => ?_) (fun g2 => nomatch g2)
 refine my ?_
 refine rM ?_
 refine az.cases (s := 28) rfl (fun g3 => ?_) (fun g3 => nomatch g3)
 refine pX ?_
 refine rM ?_
 refine az.cases (s := 34) rfl (fun g4 => ?_) (fun g4 => nomatch g4)
 refine zt g4 ?_
 refine rA ?_ (x := aK g4)
 refine rM ?_
 refine az.cases (s := 40) rfl (fun g5 => ?_) (fun g5 => nomatch g5)
 refine zt g5 ?_
 refine rA ?_ (x := aK g5)
 refine rM ?_
 refine az.cases (s := 46) rfl (fun g6 => ?_) (fun g6 => nomatch g6)
 refine tD ?_
 exact nw
 refine rB ga ?_ (x := lF kN)
 refine Aa ?_
 refine tk ?_
 refine wj ?_
 refine zq ?_
 refine lf ?_
 refine cx 22 (fun gb sgb => ?_) (fun gb sgb => ?_)
 refine qa ?_
 refine az.cases (s := 28) rfl (fun g9 => ?_) (fun g9 => nomatch g9)
 refine zt g9 ?_
 refine rA ?_ (x := aK g9)
 refine rM ?_
 refine az.cases (s := 34) rfl (fun g10 => ?_) (fun g10 => nomatch g10)
 refine zt g10 ?_
 refine rA ?_ (x := aK g10)
 refine rM ?_
 refine az.cases (s := 40) rfl (fun g11 => ?_) (fun g11 => nomatch g11)
 refine zt g11 ?_
 refine rA ?_ (x := aK g11)
 refine rM ?_
 refine az.cases (s := 46) rfl (fun g12 => ?_) (fun g12 => nomatch g12)
 refine zt g12 ?_
 refine rA ?_ (x := aK g12)
 exact nw
 refine rB gb ?_ (x := lF uj)
 refine rB gb ?_ (x := lD [sl .v _] bz)
 refine rB gb ?_ (x := cL [(false, [sl _ _])] [(false, [sl .v _])] Sn (hs := by exact UB))
 refine wG ?_
 refine cx 28 (fun gc sgc => ?_) (fun gc sgc => ?_)
 refine ny ?_
 refine rM ?_
 refine az.cases (s := 34) rfl (fun g15 => ?_) (fun g15 => nomatch g15)
 refine zt g15 ?_
 refine rA ?_ (x := aK g15)
 refine rM ?_
 refine az.cases (s := 40) rfl (fun g16 => ?_) (fun g16 => nomatch g16)
 refine zt g16 ?_
 refine rA ?_ (x := aK g16)
 refine rM ?_
 refine az.cases (s := 46) rfl (fun g17 => ?_) (fun g17 => nomatch g17)
 refine zt g17 ?_
 refine rA ?_ (x := aK g17)
 exact nw
 refine rB gc ?_ (x := lF eQ)
 refine rB gc ?_ (x := lD [sl .v _] eG)
 refine rB gc ?_ (x := lN ct)
 refine rB gc ?_ (x := dC)
 refine rA ?_ (x := aH gc)
 refine rM ?_
 refine cx 34 (fun gd sgd => ?_) (fun gd sgd => ?_)
 refine zt gd ?_
 refine tH ?_
 refine az.cases (s := 40) rfl (fun g20 => ?_) (fun g20 => nomatch g20)
 refine zt g20 ?_
 refine rA ?_ (x := aK g20)
 refine rM ?_
 refine az.cases (s := 46) rfl (fun g21 => ?_) (fun g21 => nomatch g21)
 refine zt g21 ?_
 refine rA ?_ (x := aK g21)
 exact nw
 refine rB gd ?_ (x := lF mN)
 refine Iw ?_
 refine rB gd ?_ (x := nT)
 refine tJ ?_
 refine cx 40 (fun ge sge => ?_) (fun ge sge => ?_)
 refine zt ge ?_
 refine rA ?_ (x := aK ge)
 refine rM ?_
 refine az.cases (s := 46) rfl (fun g24 => ?_) (fun g24 => nomatch g24)
 refine zt g24 ?_
 refine rA ?_ (x := aK g24)
 exact nw
 refine rB ge ?_ (x := lF mM)
 refine rB ge ?_ (x := lD [sl .v _] mQ)
 refine rB ge ?_ (x := lN kO)
 refine rB ge ?_ (x := dC)
 refine rA ?_ (x := aH ge)
 refine rM ?_
 refine cx 46 (fun gf sgf => ?_) (fun gf sgf => ?_)
 refine zt gf ?_
 refine rA ?_ (x := aK gf)
 exact nw
 refine rB gf ?_ (x := lF ob)
 refine rB gf ?_ (x := lD [sl .v _] oe)
 refine rB gf ?_ (x := lN ij)
 refine rB gf ?_ (x := dC)
 refine rA ?_ (x := aH gf)
 refine sc (fun hba => ?_) (fun hba => ?_)
 exact yW
 have hpr : ic e = true := by first | (simp_all [ic]; done) | (simp_all [ic]; omega)
 refine tK ?_
 refine tF ?_
 refine sL [1] [1] (fun k : Nat => k ≤ e.ZF.length ∧ jM go (eg e.Store) kH e.ZF k = true) (fun k : Nat => [(3, RV.int (k : Int))]) (fun k : Nat => []) (fun k : Nat => e.ZF.length - k) 0 (by exact ⟨by omega, rfl⟩) (by exact aI (by exact rfl) tI) (by exact tI) ?_
 rintro k ⟨hk, ha⟩
 refine cI ?_
 refine oL ?_
 refine sc (fun hbb => ?_) (fun hbb => ?_)
 have hlt : k < e.ZF.length := by omega
 have hgk : e.ZF.getD k go = e.ZF[k] := et hlt
 have hgp : 0 < k → e.ZF.getD (k - 1) go = e.ZF[k - 1] := fun h => et (by omega)
 refine er ?_
 refine sQ [1, 3] [1] ?_
 refine Jy ?_
 refine dA 0 ?_ (x := lF eQ)
 refine dA 2 ?_ (x := lD [sl .v _] eG)
 refine dA 0 ?_ (x := sM)
 refine dA 14 ?_ (x := aU (by decide) ct (by exact tI) (by exact rfl) (by exact aV (by omega) rfl) (by exact rfl))
 refine dA 30 ?_ (x := lE [val _, val _, sl .v _, sl .v _, val _, sl .v _, val _, val _, val _, sl .v _] lu)
 refine dA 63 ?_ (x := cL [(true, [sl _ _, val _, val _, sl _ _, sl _ _, sl _ _, sl _ _, val _]), (true, [val _, val _, sl _ _, sl _ _, val _, sl _ _, val _, val _, val _, sl _ _])] [(true, [sl .v _, val _, val _, sl .v _, sl .v _, sl .v _, sl .v _, val _]), (true, [val _, val _, sl .v _, sl .v _, val _, sl .v _, val _, val _, val _, sl .v _])] So (hs := by exact UT))
 refine dA 127 ?_ (x := nT)
 refine dA 255 ?_ (x := sM)
 refine dx 67 (fun gg sgg => ?_) (fun gg sgg => ?_)
 refine dT 511 gg ?_
 refine dT 1023 gg ?_
 refine dT 2047 gg ?_
 refine tL ?_
 refine dU 4095 ?_
 refine dU 32767 ?_
 refine dU 65535 ?_
 refine dU 131071 ?_
 refine dU 262143 ?_
 refine dU 4095 ?_
 refine dU 528383 ?_
 refine dU 4095 ?_
 refine dU 2101247 ?_
 refine dU 7868415 ?_
 refine dU 16257023 ?_
 refine dU 33034239 ?_
 refine dU 66588671 ?_
 refine dU 134217727 ?_
 refine dT 268435455 gg ?_
 refine dA 536870911 ?_ (x := aK gg)
 refine cO ?_
 exact FX
 refine dB 511 gg ?_ (x := sM)
 refine dB 1023 gg ?_ (x := dC)
 refine dB 2047 gg ?_ (x := sM)
 refine dx 70 (fun gh sgh => ?_) (fun gh sgh => ?_)
 refine dB 4095 gh ?_ (x := lF eQ)
 refine dB 8191 gh ?_ (x := lD [sl .v _] eG)
 refine dB 4095 gh ?_ (x := sM)
 refine dB 32767 gh ?_ (x := aU (by decide) ct (by exact tI) (by exact rfl) (by exact aV (by omega) rfl) (by exact rfl))
 refine dB 65535 gh ?_ (x := cB (by decide) iN (by exact nl rfl))
 refine dB 131071 gh ?_ (x := cB (by decide) iB (by exact nl rfl))
 refine dB 262143 gh ?_ (x := lE [val _] aw)
 refine dB 4095 gh ?_ (x := lF eQ)
 refine dB 528383 gh ?_ (x := lD [sl .v _] eG)
 refine dB 4095 gh ?_ (x := sM)
 refine dB 2101247 gh ?_ (x := gw)
 refine dB 7868415 gh ?_ (x := aU (k := k - 1) (by decide) ct (by exact tI) (by omega) (by exact aV (by omega) rfl) (by exact rfl))
 refine dB 16257023 gh ?_ (x := cB (by decide) iN (by exact nl rfl))
 refine dB 33034239 gh ?_ (x := cB (by decide) iB (by exact nl rfl))
 refine dB 66588671 gh ?_ (x := lE [val _] aw)
 refine dB 134217727 gh ?_ (x := ir)
 refine dB 268435455 gg ?_ (x := aK gh)
 refine dA 536870911 ?_ (x := aH gg)
 refine sc (fun hbc => ?_) (fun hbc => ?_)
 exact FX
 exact FY
 refine dF 4095 gh ?_
 refine dF 8191 gh ?_
 refine dF 4095 gh ?_
 refine dF 32767 gh ?_
 refine dF 65535 gh ?_
 refine dF 131071 gh ?_
 refine dF 262143 gh ?_
 refine dF 4095 gh ?_
 refine dF 528383 gh ?_
 refine dF 4095 gh ?_
 refine dF 2101247 gh ?_
 refine dF 7868415 gh ?_
 refine dF 16257023 gh ?_
 refine dF 33034239 gh ?_
 refine dF 66588671 gh ?_
 refine dF 134217727 gh ?_
 refine dB 268435455 gg ?_ (x := aH gh)
 refine dA 536870911 ?_ (x := aH gg)
 refine eJ ?_
 exact FY
 have hend : k = e.ZF.length := by omega
 have hall : dE go (eg e.Store) kH e.ZF = true := oS ha hend
 refine gM ?_
 refine sT [1, 3] [1] ?_
 refine de ?_
 refine sP [1, 3, 4] [1] ?_
 refine sL [1, 3] [1] (fun k : Nat => k ≤ e.Done.length ∧ (List.take k e.Done).all (fz e.Store.Now) = true) (fun k : Nat => [(4, RV.int (k : Int))]) (fun k : Nat => []) (fun k : Nat => e.Done.length - k) 0 (by exact ⟨by omega, rfl⟩) (by exact aI (by exact rfl) tI) (by exact tI) ?_
 rintro k ⟨hk, ha⟩
 refine cI ?_
 refine tn ?_
 refine rA ?_ (x := lN kO)
 refine rA ?_ (x := dZ)
 refine sc (fun hbc => ?_) (fun hbc => ?_)
 have hlt : k < e.Done.length := by omega
 refine bw ?_
 refine sT [1, 3, 4] [1] ?_
 refine tn ?_
 refine rM ?_
 refine zC ?_
 refine vE ?_
 refine ba ?_
 refine sO [(1, _), (3, _), (4, _), (5, _)] [(1, _), (5, (56, [val _, val _, sl _ _, sl _ _, val _, val _, sl _ _]))] ?_
 refine bi ?_
 refine rA ?_ (x := lF pi)
 refine zF ?_
 refine gk ?_
 refine cx 105 (fun gg sgg => ?_) (fun gg sgg => ?_)
 refine zt gg ?_
 refine rA ?_ (x := aK gg)
 refine rM ?_
 refine az.cases (s := 114) rfl (fun g37 => ?_) (fun g37 => nomatch g37)
 refine zt g37 ?_
 refine rA ?_ (x := aK g37)
 refine rM ?_
 refine az.cases (s := 120) rfl (fun g38 => ?_) (fun g38 => nomatch g38)
 refine zt g38 ?_
 refine rA ?_ (x := aK g38)
 refine cO ?_
 exact vo
 refine rB gg ?_ (x := lF Lm)
 refine rB gg ?_ (x := lD [val _] aw)
 refine rB gg ?_ (x := lF fB)
 refine rB gg ?_ (x := lF fG)
 refine rB gg ?_ (x := lD [val _] aw)
 refine rB gg ?_ (x := cL [(false, [val _]), (false, [val _]), (false, [val _])] [(false, [val _]), (false, [val _]), (false, [val _])] fP (hs := by exact fV))
 refine rB gg ?_ (x := nT)
 refine rA ?_ (x := aH gg)
 refine rM ?_
 refine cx 114 (fun gh sgh => ?_) (fun gh sgh => ?_)
 refine zt gh ?_
 refine rA ?_ (x := aK gh)
 refine rM ?_
 refine az.cases (s := 120) rfl (fun g41 => ?_) (fun g41 => nomatch g41)
 refine zt g41 ?_
 refine rA ?_ (x := aK g41)
 refine cO ?_
 exact vo
 refine rB gh ?_ (x := lF Ln)
 refine rB gh ?_ (x := lD [val _] aw)
 refine rB gh ?_ (x := cL [(false, [val _]), (false, [val _]), (false, [val _])] [(false, [val _]), (false, [val _]), (false, [val _])] fP (hs := by exact fV))
 refine rB gh ?_ (x := nT)
 refine rA ?_ (x := aH gh)
 refine rM ?_
 refine cx 120 (fun gi sgi => ?_) (fun gi sgi => ?_)
 refine zt gi ?_
 refine rA ?_ (x := aK gi)
 refine cO ?_
 exact vo
 refine rB gi ?_ (x := lF mO)
 refine rB gi ?_ (x := lD [sl .v _] gV)
 refine rB gi ?_ (x := cL [(false, [sl _ _])] [(false, [sl .v _])] Bx (hs := by exact BG))
 refine rB gi ?_ (x := nT)
 refine rA ?_ (x := aH gi)
 refine sc (fun hbd => ?_) (fun hbd => ?_)
 exact vo
 have hyes : (fz e.Store.Now) e.Done[k] = true := by first | (simp_all [fz]; done) | (simp_all [fz]; omega)
 refine bc ?_
 refine sG [1, 3, 4, 5] [1, 5] ?_
 exact pI
 have hfa : e.Done.all (fz e.Store.Now) = true := ky (by rw [show e.Done.length = k by omega]; exact ha)
 refine gM ?_
 refine sT [1, 3, 4] [1] ?_
 refine de ?_
 refine sP [1, 3, 4, 6] [1] ?_
 refine sL [1, 3, 4] [1] (fun k : Nat => k ≤ e.ZR.length ∧ (List.take k e.ZR).all cj = true) (fun k : Nat => [(6, RV.int (k : Int))]) (fun k : Nat => []) (fun k : Nat => e.ZR.length - k) 0 (by exact ⟨by omega, rfl⟩) (by exact aI (by exact rfl) tI) (by exact tI) ?_
 rintro k ⟨hk, ha⟩
 refine cI ?_
 refine wc ?_
 refine wl ?_
 refine sc (fun hbd => ?_) (fun hbd => ?_)
 have hlt : k < e.ZR.length := by omega
 refine bw ?_
 refine sT [1, 3, 4, 6] [1] ?_
 refine wc ?_
 refine rM ?_
 refine qV ?_
 refine IH ?_
 refine sc (fun hbe => ?_) (fun hbe => ?_)
 have hno : cj e.ZR[k] = false := by simpa using hbe
 have hbad2 := Kw (lP hlt hno)
 refine sS [1, 3, 4, 6] [1] ?_
 exact qS
 have hyes : cj e.ZR[k] = true := by simpa using hbe
 refine bc ?_
 refine sG [1, 3, 4, 6] [1] ?_
 exact pI
 have hla : e.ZR.all cj = true := ky (by rw [show e.ZR.length = k by omega]; exact ha)
 refine bE ?_
 refine sT [1, 3, 4, 6] [1] ?_
 exact FW
end Go.Proofs.YtmekkgdboplbjaaGreatDoor
