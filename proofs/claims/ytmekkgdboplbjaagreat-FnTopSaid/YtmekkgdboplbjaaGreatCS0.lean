/- What functions of the program compute. No condition. -/
import Derived.Test.YtmekkgdboplbjaaGreatCM0
import Derived.Test.YtmekkgdboplbjaaGreatCQ0
import Derived.Test.YtmekkgdboplbjaaGreatCR0
set_option linter.all false
namespace Go.Proofs.YtmekkgdboplbjaaGreat
open Go Go.RowKit M PV Tryz
set_option maxRecDepth 10000
attribute [local irreducible] PV.Lcl PV.LclR RV.Lcl
def acV {o : List Int}  : aN prog 99 [(false, [sl .v (o.map am)])] (aJ [(false, [val (.bool (gw o))])]) := by
 refine sF func99 fun h0 w0 Fz0 => ?_
 refine sj 0 fun hl0 => ?_
 refine tE ?_
 refine sL [0] [] (fun k : Nat => k ≤ 3 ∧ ry o k = true) (fun k : Nat => [(3, RV.int (k : Int))]) (fun k : Nat => []) (fun k : Nat => 3 - k) 0 (by exact ⟨by omega, rfl⟩) (by exact aI (by exact rfl) tI) (by exact tI) ?_
 rintro k ⟨hk, ha⟩
 refine qR ?_
 refine sc ?_ ?_ <;> intro hba
 have hlt : k < 3 := by omega
 refine bi ?_
 refine sS [0, 3] [] ?_
 refine Pe ?_
 refine rA ?_ (x := nT)
 refine sc ?_ ?_ <;> intro hbb
 have hno : bB o (k : Int) = false := by simpa using hbb
 refine tq ?_
 exact rb ((Xk hlt hno).symm)
 have hyes : bB o (k : Int) = true := by simpa using hbb
 refine qP ?_
 refine cb ?_
 refine nx (k + 1) (by exact ⟨by omega, by rw [zR, ha, hyes]; rfl⟩) (e := (by exact aI (by exact bk (by omega)) tI))
 have hend : k = 3 := by omega
 rw [hend] at ha
 refine qQ ?_
 refine gS ?_
 refine lK ?_
 refine cT ?_
 exact rb (by rw [← QL, ha, Bool.true_and]; first | rfl | (rw [decide_eq_decide]; omega) | (rw [Bool.eq_iff_iff]; simp; omega) | (rw [Bool.eq_iff_iff]; simp))
def acW {p1 p2 p7 : Fl} {s : Store} {a : aez}  : aN prog 100 [(true, [sl .v (s.aey.map (aG p1 p2)), val (vI s.Now)]), (true, [val (vI a.aeA.Id), val (vI a.aeA.aeE), sl .v (a.aeA.aeB.map bH), sl .v (a.aeA.Out.map am), val (vI a.Time), sl .v (a.aeI.map am), val (vI a.Age), val (vI a.Sent), val (vI a.Cap), sl .v (a.Rows.map (bI p7))])] (aJ [(false, [val (.bool (fc s a))])]) := by
 refine sF func100 fun h0 w0 Fz0 => ?_
 refine sn 0 0 fun hl0_0 => ?_
 refine sn 1 2 fun hl1_2 => ?_
 refine sn 1 3 fun hl1_3 => ?_
 refine sn 1 5 fun hl1_5 => ?_
 refine sn 1 9 fun hl1_9 => ?_
 refine jo ?_
 refine rX ?_ (x := (eD (ag := true) (cs := [val _, val _, sl _ _, sl _ _, val _, sl _ _, val _, val _, val _, sl _ _]) (by decide) (by exact tI)))
 refine qG ?_
 refine vP ?_
 refine eo ?_
 refine sP [2, 3, 4, 8, 9, 10] [2, 3] ?_
 refine sL [2, 3, 8, 9] [2, 3] (fun k : Nat => k ≤ a.aeI.length ∧ jV 0 (kP s.aey.length) kQ a.aeI k = true) (fun k : Nat => [(10, RV.int (k : Int))]) (fun k : Nat => []) (fun k : Nat => a.aeI.length - k) 0 (by exact ⟨by omega, rfl⟩) (by exact aI (by exact rfl) tI) (by exact tI) ?_
 rintro k ⟨hk, ha⟩
 refine cn ?_
 refine sc ?_ ?_ <;> intro hba
 have hlt : k < a.aeI.length := by omega
 have hgk : a.aeI.getD k 0 = a.aeI[k] := eO hlt
 have hgp : 0 < k → a.aeI.getD (k - 1) 0 = a.aeI[k - 1] := fun h => eO (by omega)
 refine bi ?_
 refine sT [2, 3, 8, 9, 10] [2, 3] ?_
 refine rM ?_
 refine mF ?_
 refine rS ?_
 refine sS [2, 3, 5, 6, 8, 9, 10] [2, 3] ?_
 refine rM ?_
 refine lM ?_
 refine rA ?_ (x := fI)
 refine OA ?_
 refine cx 22 (fun ga sga => ?_) (fun ga sga => ?_)
 refine mE ?_
 exact JP
 refine rB ga ?_ (x := sM)
 refine rB ga ?_ (x := dI)
 refine rB ga ?_ (x := sM)
 refine cx 25 (fun gb sgb => ?_) (fun gb sgb => ?_)
 refine Dq ?_
 refine rB gb ?_ (x := sM)
 refine rB gb ?_ (x := fI)
 refine rB gb ?_ (x := aU (k := k - 1) (by decide) bC (by exact tI) (by omega) (by exact aW (by omega) rfl) (by exact rfl))
 refine rB gb ?_ (x := lE [val _] az)
 refine rB gb ?_ (x := sM)
 refine rB gb ?_ (x := iy)
 refine rB ga ?_ (x := aO gb)
 refine rA ?_ (x := aF ga)
 refine sc ?_ ?_ <;> intro hbb
 exact JP
 exact JR
 refine zf gb ?_
 refine rB ga ?_ (x := aF gb)
 refine rA ?_ (x := aF ga)
 refine eX ?_
 exact JR
 have hend : k = a.aeI.length := by omega
 have hall : dG 0 (kP s.aey.length) kQ a.aeI = true := pH ha hend
 refine bq ?_
 refine sT [2, 3, 8, 9, 10] [2, 3] ?_
 refine vP ?_
 refine rA ?_ (x := dI)
 refine rM ?_
 refine cx 41 (fun ga sga => ?_) (fun ga sga => ?_)
 refine rB ga ?_ (x := lF gV)
 refine NW ?_
 refine jP ?_
 refine cx 46 (fun gb sgb => ?_) (fun gb sgb => ?_)
 refine rB gb ?_ (x := lF pI)
 refine rB gb ?_ (x := lD [val _] az)
 refine rB gb ?_ (x := lF fK)
 refine yo ?_
 refine gt ?_
 refine cx 53 (fun gc sgc => ?_) (fun gc sgc => ?_)
 refine rB gc ?_ (x := lF ju)
 refine CL ?_
 refine hY ?_
 refine cx 58 (fun gd sgd => ?_) (fun gd sgd => ?_)
 refine rB gd ?_ (x := lF mI)
 refine CM ?_
 refine pC ?_
 refine cx 63 (fun ge sge => ?_) (fun ge sge => ?_)
 refine DD ?_
 refine rB ge ?_ (x := cL [(false, [val _]), (false, [val _]), (false, [val _])] [(false, [val _]), (false, [val _]), (false, [val _])] kG (hs := by exact kT))
 refine tm ?_
 refine cx 68 (fun gf sgf => ?_) (fun gf sgf => ?_)
 refine yI ?_
 refine rB gf ?_ (x := cL [(false, [sl _ _])] [(false, [sl .v _])] Rq (hs := by exact RQ))
 refine rA ?_ (x := aO gf)
 exact qu
 refine zf gf ?_
 refine rA ?_ (x := aF gf)
 exact qu
 refine zf ge ?_
 refine tn ?_
 refine aq.cases (s := 68) rfl (fun g13 => nomatch g13) (fun g13 => ?_)
 refine yZ ?_
 exact qu
 refine ov ?_
 refine rM ?_
 refine aq.cases (s := 63) rfl (fun g14 => nomatch g14) (fun g14 => ?_)
 refine zf g14 ?_
 refine rA ?_ (x := aF g14)
 refine rM ?_
 refine aq.cases (s := 68) rfl (fun g15 => nomatch g15) (fun g15 => ?_)
 refine zf g15 ?_
 refine rA ?_ (x := aF g15)
 exact qu
 refine lm ?_
 refine aq.cases (s := 58) rfl (fun g16 => nomatch g16) (fun g16 => ?_)
 refine zb ?_
 refine rM ?_
 refine aq.cases (s := 63) rfl (fun g17 => nomatch g17) (fun g17 => ?_)
 refine qH ?_
 refine rM ?_
 refine aq.cases (s := 68) rfl (fun g18 => nomatch g18) (fun g18 => ?_)
 refine vU ?_
 exact qu
 refine fU ?_
 refine aq.cases (s := 53) rfl (fun g19 => nomatch g19) (fun g19 => ?_)
 refine tc ?_
 refine rM ?_
 refine aq.cases (s := 58) rfl (fun g20 => nomatch g20) (fun g20 => ?_)
 refine vT ?_
 refine rM ?_
 refine aq.cases (s := 63) rfl (fun g21 => nomatch g21) (fun g21 => ?_)
 refine zg ?_
 refine rM ?_
 refine aq.cases (s := 68) rfl (fun g22 => nomatch g22) (fun g22 => ?_)
 refine zf g22 ?_
 refine rA ?_ (x := aF g22)
 exact qu
 refine gu ?_
 refine aq.cases (s := 46) rfl (fun g23 => nomatch g23) (fun g23 => ?_)
 refine zf g23 ?_
 refine rA ?_ (x := aF g23)
 refine rM ?_
 refine aq.cases (s := 53) rfl (fun g24 => nomatch g24) (fun g24 => ?_)
 refine zf g24 ?_
 refine rA ?_ (x := aF g24)
 refine rM ?_
 refine aq.cases (s := 58) rfl (fun g25 => nomatch g25) (fun g25 => ?_)
 refine zf g25 ?_
 refine rA ?_ (x := aF g25)
 refine rM ?_
 refine aq.cases (s := 63) rfl (fun g26 => nomatch g26) (fun g26 => ?_)
 refine zf g26 ?_
 refine rA ?_ (x := aF g26)
 refine rM ?_
 refine aq.cases (s := 68) rfl (fun g27 => nomatch g27) (fun g27 => ?_)
 refine zf g27 ?_
 refine rA ?_ (x := aF g27)
 exact qu
def acX {l : List Int} {n : Int}  (hn : 0 ≤ n ∧ n ≤ 9223372036854775807) : aN prog 163 [(false, [sl .v (l.map am)]), (false, [val (vI n)])] (aJ [(false, [val (.bool (kR l n))])]) := by
 refine sF func163 fun h0 w0 Fz0 => ?_
 refine sj 0 fun hl0 => ?_
 refine ow ?_
 refine zj ?_
 refine sL [0, 1] [] (fun k : Nat => k ≤ l.length ∧ jV 0 (kP n) kQ l k = true) (fun k : Nat => [(5, RV.int (k : Int))]) (fun k : Nat => []) (fun k : Nat => l.length - k) 0 (by exact ⟨by omega, rfl⟩) (by exact aI (by exact rfl) tI) (by exact tI) ?_
 rintro k ⟨hk, ha⟩
 refine jR ?_
 refine sc ?_ ?_ <;> intro hba
 have hlt : k < l.length := by omega
 have hgk : l.getD k 0 = l[k] := eO hlt
 have hgp : 0 < k → l.getD (k - 1) 0 = l[k - 1] := fun h => eO (by omega)
 refine th ?_
 refine ox ?_
 refine dA 0 ?_ (x := sM)
 refine dA 16 ?_ (x := fI)
 refine dA 63 ?_ (x := cL [(false, [val _]), (false, [val _]), (false, [val _])] [(false, [val _]), (false, [val _]), (false, [val _])] fX (hs := by exact gl))
 refine dA 127 ?_ (x := nT)
 refine dA 255 ?_ (x := sM)
 refine dx 20 (fun ga sga => ?_) (fun ga sga => ?_)
 refine dT 511 ga ?_
 refine dT 1023 ga ?_
 refine dT 2047 ga ?_
 refine dU 4095 ?_
 refine dU 4095 ?_
 refine dU 16383 ?_
 refine dU 32767 ?_
 refine dU 4095 ?_
 refine dU 4095 ?_
 refine dU 135167 ?_
 refine dU 462847 ?_
 refine dU 987135 ?_
 refine dU 2097151 ?_
 refine yR ?_
 refine cv ?_
 exact JS
 refine dB 511 ga ?_ (x := sM)
 refine dB 1023 ga ?_ (x := dI)
 refine dB 2047 ga ?_ (x := sM)
 refine dx 23 (fun gb sgb => ?_) (fun gb sgb => ?_)
 refine dB 4095 gb ?_ (x := vM false [sl .v _])
 refine dB 4095 gb ?_ (x := sM)
 refine dB 16383 gb ?_ (x := aU (by decide) bC (by exact tI) (by exact rfl) (by exact aW (by omega) rfl) (by exact rfl))
 refine dB 32767 gb ?_ (x := lE [val _] az)
 refine dB 4095 gb ?_ (x := vM false [sl .v _])
 refine dB 4095 gb ?_ (x := sM)
 refine dB 135167 gb ?_ (x := fI)
 refine dB 462847 gb ?_ (x := aU (k := k - 1) (by decide) bC (by exact tI) (by omega) (by exact aW (by omega) rfl) (by exact rfl))
 refine dB 987135 gb ?_ (x := lE [val _] az)
 refine Dz ?_
 refine dA 8388607 ?_ (x := aF ga)
 refine sc ?_ ?_ <;> intro hbb
 exact JS
 exact JT
 refine dF 4095 gb ?_
 refine dF 4095 gb ?_
 refine dF 16383 gb ?_
 refine dF 32767 gb ?_
 refine dF 4095 gb ?_
 refine dF 4095 gb ?_
 refine dF 135167 gb ?_
 refine dF 462847 gb ?_
 refine dF 987135 gb ?_
 refine dF 2097151 gb ?_
 refine DG ?_
 refine eX ?_
 exact JT
 have hend : k = l.length := by omega
 have hall : dG 0 (kP n) kQ l = true := pH ha hend
 refine vW ?_
 refine gS ?_
 refine rA ?_ (x := dI)
 refine db ?_
 exact rb (by first | (simp_all [kR]; done) | (simp_all [kR]; rfl) | (simp_all [kR]; omega) | (simp_all [kR]; intros; omega))
def acY {p1 p2 p5 p6 p7 p8 p9 p11 p12 p13 p14 p16 p17 p18 p23 : Fl} {e : aA} {a : aez}  : aN prog 66 [(true, [sl .v (e.Store.aey.map (aG p1 p2)), val (vI e.Store.Now), val (vI e.aeD), sl .v (e.Order.map am), sl .v (e.aez.map (aT p5 p6 p7 p8 p9)), sl .v (e.Done.map (bn p11 p12 p13 p14)), sl .v (e.aeL.map (bl p16 p17 p18)), val (vI e.Steps)]), (true, [val (vI a.aeA.Id), val (vI a.aeA.aeE), sl .v (a.aeA.aeB.map bH), sl .v (a.aeA.Out.map am), val (vI a.Time), sl .v (a.aeI.map am), val (vI a.Age), val (vI a.Sent), val (vI a.Cap), sl .v (a.Rows.map (bI p23))])] (aJ [(false, [val (.bool (fc e.Store a))])]) := by
 refine sF func66 fun h0 w0 Fz0 => ?_
 refine sn 0 0 fun hl0_0 => ?_
 refine sn 0 3 fun hl0_3 => ?_
 refine sn 0 4 fun hl0_4 => ?_
 refine sn 0 5 fun hl0_5 => ?_
 refine sn 0 6 fun hl0_6 => ?_
 refine sn 1 2 fun hl1_2 => ?_
 refine sn 1 3 fun hl1_3 => ?_
 refine sn 1 5 fun hl1_5 => ?_
 refine sn 1 9 fun hl1_9 => ?_
 refine jO ?_
 refine CX ?_
 refine sT [2, 3, 4] [2, 3] ?_
 refine vu ?_
 refine OX ?_
 refine cx 8 (fun ga sga => ?_) (fun ga sga => ?_)
 refine rB ga ?_ (x := lF pI)
 refine rB ga ?_ (x := lD [val _] az)
 refine rB ga ?_ (x := lF gG)
 refine rB ga ?_ (x := lF fK)
 refine vc ?_
 refine jP ?_
 refine cx 16 (fun gb sgb => ?_) (fun gb sgb => ?_)
 refine Dq ?_
 refine rB gb ?_ (x := lF gG)
 refine rB gb ?_ (x := lF jX)
 refine rB gb ?_ (x := lD [sl .v _] kc)
 refine rB gb ?_ (x := lN eP)
 refine rB gb ?_ (x := cL [(false, [sl _ _]), (false, [val _])] [(false, [sl .v _]), (false, [val _])] Ym (hs := by exact (acX (by omega))))
 refine gt ?_
 refine cx 25 (fun gc sgc => ?_) (fun gc sgc => ?_)
 refine rB gc ?_ (x := lF ju)
 refine Ob ?_
 refine hY ?_
 refine cx 30 (fun gd sgd => ?_) (fun gd sgd => ?_)
 refine rB gd ?_ (x := lF mI)
 refine CN ?_
 refine pC ?_
 refine cx 35 (fun ge sge => ?_) (fun ge sge => ?_)
 refine rB ge ?_ (x := lF ri)
 refine Oc ?_
 refine tm ?_
 refine cx 40 (fun gf sgf => ?_) (fun gf sgf => ?_)
 refine yI ?_
 refine rB gf ?_ (x := cL [(false, [sl _ _])] [(false, [sl .v _])] RH (hs := by exact RR))
 refine rA ?_ (x := aO gf)
 exact qv
 refine zf gf ?_
 refine rA ?_ (x := aF gf)
 exact qv
 refine zf ge ?_
 refine tn ?_
 refine aq.cases (s := 40) rfl (fun g7 => nomatch g7) (fun g7 => ?_)
 refine qM ?_
 exact qv
 refine ov ?_
 refine rM ?_
 refine aq.cases (s := 35) rfl (fun g8 => nomatch g8) (fun g8 => ?_)
 refine te ?_
 refine rM ?_
 refine aq.cases (s := 40) rfl (fun g9 => nomatch g9) (fun g9 => ?_)
 refine ou ?_
 exact qv
 refine lm ?_
 refine aq.cases (s := 30) rfl (fun g10 => nomatch g10) (fun g10 => ?_)
 refine ot ?_
 refine rM ?_
 refine aq.cases (s := 35) rfl (fun g11 => nomatch g11) (fun g11 => ?_)
 refine vS ?_
 refine rM ?_
 refine aq.cases (s := 40) rfl (fun g12 => nomatch g12) (fun g12 => ?_)
 refine yY ?_
 exact qv
 refine fU ?_
 refine aq.cases (s := 25) rfl (fun g13 => nomatch g13) (fun g13 => ?_)
 refine yZ ?_
 refine rM ?_
 refine aq.cases (s := 30) rfl (fun g14 => nomatch g14) (fun g14 => ?_)
 refine zf g14 ?_
 refine rA ?_ (x := aF g14)
 refine rM ?_
 refine aq.cases (s := 35) rfl (fun g15 => nomatch g15) (fun g15 => ?_)
 refine zf g15 ?_
 refine rA ?_ (x := aF g15)
 refine rM ?_
 refine aq.cases (s := 40) rfl (fun g16 => nomatch g16) (fun g16 => ?_)
 refine zb ?_
 exact qv
 refine gu ?_
 refine aq.cases (s := 16) rfl (fun g17 => nomatch g17) (fun g17 => ?_)
 refine qH ?_
 refine rM ?_
 refine aq.cases (s := 25) rfl (fun g18 => nomatch g18) (fun g18 => ?_)
 refine vU ?_
 refine rM ?_
 refine aq.cases (s := 30) rfl (fun g19 => nomatch g19) (fun g19 => ?_)
 refine tc ?_
 refine rM ?_
 refine aq.cases (s := 35) rfl (fun g20 => nomatch g20) (fun g20 => ?_)
 refine vT ?_
 refine rM ?_
 refine aq.cases (s := 40) rfl (fun g21 => nomatch g21) (fun g21 => ?_)
 refine zg ?_
 exact qv
def TQ {p1 p2 p5 p6 p7 p8 p9 p11 p12 p13 p14 p16 p17 p18 : Fl} {e : aA}  (hb : bp e ≤ 68719476736) : aN prog 29 [(true, [sl .v (e.Store.aey.map (aG p1 p2)), val (vI e.Store.Now), val (vI e.aeD), sl .v (e.Order.map am), sl .v (e.aez.map (aT p5 p6 p7 p8 p9)), sl .v (e.Done.map (bn p11 p12 p13 p14)), sl .v (e.aeL.map (bl p16 p17 p18)), val (vI e.Steps)])] (aJ [(false, [val (.bool (aX e))])]) := by
 refine sF func29 fun h0 w0 Fz0 => ?_
 refine sn 0 0 fun hl0_0 => ?_
 refine sn 0 3 fun hl0_3 => ?_
 refine sn 0 4 fun hl0_4 => ?_
 refine sn 0 5 fun hl0_5 => ?_
 refine sn 0 6 fun hl0_6 => ?_
 have hbu := hb
 simp only [bp] at hbu
 refine jO ?_
 refine lj ?_
 refine sU ?_
 refine rA ?_ (x := cL [(true, [sl _ _, val _])] [(true, [sl .v _, val _])] RJ (hs := by exact TM (by omega)))
 refine fz ?_
 refine cx 13 (fun ga sga => ?_) (fun ga sga => ?_)
 refine jq ?_
 refine aq.cases (s := 24) rfl (fun g2 => ?_) (fun g2 => nomatch g2)
 refine nq ?_
 refine aq.cases (s := 30) rfl (fun g3 => ?_) (fun g3 => nomatch g3)
 refine nn ?_
 exact oa
 refine vC ?_
 refine rB ga ?_ (x := lF gG)
 refine Dt ?_
 refine rB ga ?_ (x := lN eP)
 refine rB ga ?_ (x := fI)
 refine sI ?_
 refine mB ?_
 refine cx 24 (fun gb sgb => ?_) (fun gb sgb => ?_)
 refine mC ?_
 refine aq.cases (s := 30) rfl (fun g6 => ?_) (fun g6 => nomatch g6)
 refine qN ?_
 exact oa
 refine Du ?_
 refine rB gb ?_ (x := cL [(false, [sl _ _])] [(false, [sl .v _])] ZE (hs := by exact acV))
 refine ti ?_
 refine cx 30 (fun gc sgc => ?_) (fun gc sgc => ?_)
 refine qL ?_
 exact oa
 refine rB gc ?_ (x := lF lv)
 refine CL ?_
 refine rB gc ?_ (x := nT)
 refine rA ?_ (x := aF gc)
 refine sc ?_ ?_ <;> intro hba
 exact Cc
 have hp1 : (bQ e.Store && (aK e.aeD 0 (e.Store.aey.length - 1) && (gw e.Order && aK e.Steps 0 100000))) = true := by first | (simp_all; done) | (simp_all; omega)
 refine wg ?_
 refine mx ?_
 refine rA ?_ (x := lN cg)
 refine rA ?_ (x := dI)
 refine rM ?_
 refine cx 40 (fun gd sgd => ?_) (fun gd sgd => ?_)
 refine zt gd ?_
 refine pC ?_
 refine aq.cases (s := 46) rfl (fun g12 => ?_) (fun g12 => nomatch g12)
 refine zd ?_
 refine cv ?_
 exact Cd
 refine Dv ?_
 refine rB gd ?_ (x := lN jw)
 refine rB gd ?_ (x := dI)
 refine tl ?_
 refine cx 46 (fun ge sge => ?_) (fun ge sge => ?_)
 refine zt ge ?_
 refine rA ?_ (x := aO ge)
 refine cv ?_
 exact Cd
 refine Dw ?_
 refine rB ge ?_ (x := lN fL)
 refine rB ge ?_ (x := dI)
 refine rA ?_ (x := aF ge)
 refine sc ?_ ?_ <;> intro hbb
 exact Cd
 have hpr : iY e = true := by unfold iY; rw [hp1]; first | (simp_all; done) | (simp_all; omega)
 refine wg ?_
 refine oz ?_
 refine sP [1, 2, 53, 54, 55] [1] ?_
 refine sL [1, 53, 54] [1] (fun k : Nat => k ≤ e.aez.length ∧ jV ii (fc e.Store) ly e.aez k = true) (fun k : Nat => [(55, RV.int (k : Int))]) (fun k : Nat => []) (fun k : Nat => e.aez.length - k) 0 (by exact ⟨by omega, rfl⟩) (by exact aI (by exact rfl) tI) (by exact tI) ?_
 rintro k ⟨hk, ha⟩
 refine cn ?_
 refine sc ?_ ?_ <;> intro hbc
 have hlt : k < e.aez.length := by omega
 have hgk : e.aez.getD k ii = e.aez[k] := eO hlt
 have hgp : 0 < k → e.aez.getD (k - 1) ii = e.aez[k - 1] := fun h => eO (by omega)
 refine bi ?_
 refine sT [1, 53, 54, 55] [1] ?_
 refine rM ?_
 refine qz ?_
 refine rX ?_ (x := (cr (by decide) gI rq))
 refine rS ?_
 refine Ok ?_
 refine sO [(1, _), (3, _), (4, _), (53, _), (54, _), (55, _)] [(1, _), (4, (108, [val _, val _, sl _ _, sl _ _, val _, sl _ _, val _, val _, val _, sl _ _]))] ?_
 refine da cG ?_
 refine Dp ?_
 refine dA 0 ?_ (x := lD [val _, val _, sl .v _, sl .v _, val _, sl .v _, val _, val _, val _, sl .v _] gv)
 refine dA 7 ?_ (x := cL [(true, [sl _ _, val _]), (true, [val _, val _, sl _ _, sl _ _, val _, sl _ _, val _, val _, val _, sl _ _])] [(true, [sl .v _, val _]), (true, [val _, val _, sl .v _, sl .v _, val _, sl .v _, val _, val _, val _, sl .v _])] XT (hs := by exact acW))
 refine dA 15 ?_ (x := nT)
 refine dA 31 ?_ (x := sM)
 refine dx 65 (fun gf sgf => ?_) (fun gf sgf => ?_)
 refine dT 63 gf ?_
 refine dT 127 gf ?_
 refine dT 255 gf ?_
 refine dU 511 ?_
 refine dU 1023 ?_
 refine dU 511 ?_
 refine dU 2559 ?_
 refine dU 8191 ?_
 refine dU 16383 ?_
 refine dU 32767 ?_
 refine dU 65535 ?_
 refine dU 511 ?_
 refine dU 131583 ?_
 refine dU 393727 ?_
 refine dU 1048575 ?_
 refine dT 2097151 gf ?_
 refine dA 4194303 ?_ (x := aO gf)
 refine cv ?_
 exact JV
 refine dB 63 gf ?_ (x := sM)
 refine dB 127 gf ?_ (x := dI)
 refine dB 255 gf ?_ (x := sM)
 refine dx 68 (fun gg sgg => ?_) (fun gg sgg => ?_)
 refine dB 511 gg ?_ (x := lF ee)
 refine dB 1023 gg ?_ (x := lD [sl .v _] dR)
 refine dB 511 gg ?_ (x := sM)
 refine dB 2559 gg ?_ (x := fI)
 refine dB 8191 gg ?_ (x := aU (k := k - 1) (by decide) cg (by exact tI) (by omega) (by exact aW (by omega) rfl) (by exact rfl))
 refine dB 16383 gg ?_ (x := cd (by decide) gV (by exact nl rfl))
 refine dB 32767 gg ?_ (x := cd (by decide) ib (by exact nl rfl))
 refine dB 65535 gg ?_ (x := lE [val _] az)
 refine dB 511 gg ?_ (x := lF gV)
 refine dB 131583 gg ?_ (x := lF ib)
 refine dB 393727 gg ?_ (x := lD [val _] az)
 refine dB 1048575 gg ?_ (x := iy)
 refine dB 2097151 gf ?_ (x := aO gg)
 refine dA 4194303 ?_ (x := aF gf)
 refine sc ?_ ?_ <;> intro hbd
 exact JV
 exact JX
 refine dF 511 gg ?_
 refine dF 1023 gg ?_
 refine dF 511 gg ?_
 refine dF 2559 gg ?_
 refine dF 8191 gg ?_
 refine dF 16383 gg ?_
 refine dF 32767 gg ?_
 refine dF 65535 gg ?_
 refine dF 511 gg ?_
 refine dF 131583 gg ?_
 refine dF 393727 gg ?_
 refine dF 1048575 gg ?_
 refine dB 2097151 gf ?_ (x := aF gg)
 refine dA 4194303 ?_ (x := aF gf)
 refine eX ?_
 exact JX
 have hend : k = e.aez.length := by omega
 have hall : dG ii (fc e.Store) ly e.aez = true := pH ha hend
 refine er ?_
 refine sT [1, 53, 54, 55] [1] ?_
 refine sW ?_
 refine eo ?_
 refine sP [1, 53, 54, 55, 85, 86, 87] [1] ?_
 refine sL [1, 53, 54, 55, 85, 86] [1] (fun k : Nat => k ≤ e.Done.length ∧ (List.take k e.Done).all (gj e.Store.Now) = true) (fun k : Nat => [(87, RV.int (k : Int))]) (fun k : Nat => []) (fun k : Nat => e.Done.length - k) 0 (by exact ⟨by omega, rfl⟩) (by exact aI (by exact rfl) tI) (by exact tI) ?_
 rintro k ⟨hk, ha⟩
 refine cn ?_
 refine sc ?_ ?_ <;> intro hbd
 have hlt : k < e.Done.length := by omega
 refine bi ?_
 refine sT [1, 53, 54, 55, 85, 86, 87] [1] ?_
 refine tz ?_
 refine sO [(1, _), (6, _), (53, _), (54, _), (55, _), (85, _), (86, _), (87, _)] [(1, _), (6, (63, [val _, val _, sl _ _, sl _ _, val _, val _, sl _ _]))] ?_
 refine bd ?_
 refine vv ?_
 refine OT ?_
 refine cx 95 (fun gf sgf => ?_) (fun gf sgf => ?_)
 refine zm ?_
 refine rM ?_
 refine aq.cases (s := 104) rfl (fun g25 => ?_) (fun g25 => nomatch g25)
 refine zt g25 ?_
 refine rA ?_ (x := aO g25)
 refine rM ?_
 refine aq.cases (s := 110) rfl (fun g26 => ?_) (fun g26 => nomatch g26)
 refine zt g26 ?_
 refine rA ?_ (x := aO g26)
 refine cv ?_
 exact xV
 refine rB gf ?_ (x := lF Qp)
 refine rB gf ?_ (x := lD [val _] az)
 refine rB gf ?_ (x := lF gG)
 refine rB gf ?_ (x := lF fK)
 refine rB gf ?_ (x := lD [val _] az)
 refine rB gf ?_ (x := cL [(false, [val _]), (false, [val _]), (false, [val _])] [(false, [val _]), (false, [val _]), (false, [val _])] kG (hs := by exact kT))
 refine rB gf ?_ (x := nT)
 refine rA ?_ (x := aF gf)
 refine rM ?_
 refine cx 104 (fun gg sgg => ?_) (fun gg sgg => ?_)
 refine zt gg ?_
 refine rA ?_ (x := aO gg)
 refine rM ?_
 refine aq.cases (s := 110) rfl (fun g29 => ?_) (fun g29 => nomatch g29)
 refine zt g29 ?_
 refine rA ?_ (x := aO g29)
 refine cv ?_
 exact xV
 refine rB gg ?_ (x := lF Ez)
 refine rB gg ?_ (x := lD [val _] az)
 refine rB gg ?_ (x := cL [(false, [val _]), (false, [val _]), (false, [val _])] [(false, [val _]), (false, [val _]), (false, [val _])] kG (hs := by exact kT))
 refine rB gg ?_ (x := nT)
 refine rA ?_ (x := aF gg)
 refine rM ?_
 refine cx 110 (fun gh sgh => ?_) (fun gh sgh => ?_)
 refine zt gh ?_
 refine rA ?_ (x := aO gh)
 refine cv ?_
 exact xV
 refine rB gh ?_ (x := lF rn)
 refine rB gh ?_ (x := lD [sl .v _] jx)
 refine rB gh ?_ (x := cL [(false, [sl _ _])] [(false, [sl .v _])] Rq (hs := by exact RQ))
 refine rB gh ?_ (x := nT)
 refine rA ?_ (x := aF gh)
 refine sc ?_ ?_ <;> intro hbe
 exact xV
 have hyes : (gj e.Store.Now) e.Done[k] = true := by first | (simp_all [gj]; done) | (simp_all [gj]; omega)
 refine bb ?_
 refine sG [1, 6, 53, 54, 55, 85, 86, 87] [1, 6] ?_
 exact uQ
 have hfa : e.Done.all (gj e.Store.Now) = true := jr (by rw [show e.Done.length = k by omega]; exact ha)
 refine er ?_
 refine sT [1, 53, 54, 55, 85, 86, 87] [1] ?_
 refine mA ?_
 refine rA ?_ (x := lN fL)
 refine eo ?_
 refine sP [1, 53, 54, 55, 85, 86, 87, 118, 119, 120] [1] ?_
 refine sL [1, 53, 54, 55, 85, 86, 87, 118, 119] [1] (fun k : Nat => k ≤ e.aeL.length ∧ (List.take k e.aeL).all bZ = true) (fun k : Nat => [(120, RV.int (k : Int))]) (fun k : Nat => []) (fun k : Nat => e.aeL.length - k) 0 (by exact ⟨by omega, rfl⟩) (by exact aI (by exact rfl) tI) (by exact tI) ?_
 rintro k ⟨hk, ha⟩
 refine cn ?_
 refine sc ?_ ?_ <;> intro hbe
 have hlt : k < e.aeL.length := by omega
 refine bi ?_
 refine sT [1, 53, 54, 55, 85, 86, 87, 118, 119, 120] [1] ?_
 refine qA ?_
 refine sE ?_
 refine be ?_
 refine sO [(1, _), (8, _), (53, _), (54, _), (55, _), (85, _), (86, _), (87, _), (118, _), (119, _), (120, _)] [(1, _), (8, (70, [val _, val _, sl _ _, sl _ _, sl _ _]))] ?_
 refine bd ?_
 refine zip ?_
 refine rA ?_ (x := nT)
 refine sc ?_ ?_ <;> intro hbf
 have hno : bZ e.aeL[k] = false := by simpa using hbf
 have hbad2 := QJ (kE hlt hno)
 refine sS [1, 8, 53, 54, 55, 85, 86, 87, 118, 119, 120] [1, 8] ?_
 exact sx
 have hyes : bZ e.aeL[k] = true := by simpa using hbf
 refine bb ?_
 refine sG [1, 8, 53, 54, 55, 85, 86, 87, 118, 119, 120] [1, 8] ?_
 exact uQ
 have hla : e.aeL.all bZ = true := jr (by rw [show e.aeL.length = k by omega]; exact ha)
 refine bq ?_
 refine sT [1, 53, 54, 55, 85, 86, 87, 118, 119, 120] [1] ?_
 exact JY
def AR {p1 p2 p5 p6 p7 p8 p9 p11 p12 p13 p14 p16 p17 p18 : Fl} {e : aA}  (hb : bp e ≤ 68719476736) : aN prog 14 [(true, [sl .v (e.Store.aey.map (aG p1 p2)), val (vI e.Store.Now), val (vI e.aeD), sl .v (e.Order.map am), sl .v (e.aez.map (aT p5 p6 p7 p8 p9)), sl .v (e.Done.map (bn p11 p12 p13 p14)), sl .v (e.aeL.map (bl p16 p17 p18)), val (vI e.Steps)])] (aJ [(false, [val (.bool (aX e))])]) := by
 refine sF func14 fun h0 w0 Fz0 => ?_
 refine sn 0 0 fun hl0_0 => ?_
 refine sn 0 3 fun hl0_3 => ?_
 refine sn 0 4 fun hl0_4 => ?_
 refine sn 0 5 fun hl0_5 => ?_
 refine sn 0 6 fun hl0_6 => ?_
 have hbu := hb
 simp only [bp] at hbu
 refine jO ?_
 refine lj ?_
 refine sU ?_
 refine rA ?_ (x := cL [(true, [sl _ _, val _])] [(true, [sl .v _, val _])] EZ (hs := by exact GL (by omega)))
 refine fz ?_
 refine cx 11 (fun ga sga => ?_) (fun ga sga => ?_)
 refine jq ?_
 refine aq.cases (s := 22) rfl (fun g2 => ?_) (fun g2 => nomatch g2)
 refine nq ?_
 refine aq.cases (s := 28) rfl (fun g3 => ?_) (fun g3 => nomatch g3)
 refine nn ?_
 refine rM ?_
 refine aq.cases (s := 34) rfl (fun g4 => ?_) (fun g4 => nomatch g4)
 refine zl ?_
 refine rM ?_
 refine aq.cases (s := 40) rfl (fun g5 => ?_) (fun g5 => nomatch g5)
 refine zt g5 ?_
 refine rA ?_ (x := aO g5)
 refine rM ?_
 refine aq.cases (s := 46) rfl (fun g6 => ?_) (fun g6 => nomatch g6)
 refine qN ?_
 exact oa
 refine vC ?_
 refine rB ga ?_ (x := lF gG)
 refine Dt ?_
 refine rB ga ?_ (x := lN eP)
 refine rB ga ?_ (x := fI)
 refine yt ?_
 refine rM ?_
 refine cx 22 (fun gb sgb => ?_) (fun gb sgb => ?_)
 refine mC ?_
 refine aq.cases (s := 28) rfl (fun g9 => ?_) (fun g9 => nomatch g9)
 refine zt g9 ?_
 refine rA ?_ (x := aO g9)
 refine rM ?_
 refine aq.cases (s := 34) rfl (fun g10 => ?_) (fun g10 => nomatch g10)
 refine zt g10 ?_
 refine rA ?_ (x := aO g10)
 refine rM ?_
 refine aq.cases (s := 40) rfl (fun g11 => ?_) (fun g11 => nomatch g11)
 refine zc ?_
 refine rM ?_
 refine aq.cases (s := 46) rfl (fun g12 => ?_) (fun g12 => nomatch g12)
 refine zd ?_
 exact oa
 refine Du ?_
 refine rB gb ?_ (x := cL [(false, [sl _ _])] [(false, [sl .v _])] Zk (hs := by exact acN))
 refine ti ?_
 refine cx 28 (fun gc sgc => ?_) (fun gc sgc => ?_)
 refine zt gc ?_
 refine hY ?_
 refine aq.cases (s := 34) rfl (fun g15 => ?_) (fun g15 => nomatch g15)
 refine zt g15 ?_
 refine rA ?_ (x := aO g15)
 refine rM ?_
 refine aq.cases (s := 40) rfl (fun g16 => ?_) (fun g16 => nomatch g16)
 refine zt g16 ?_
 refine rA ?_ (x := aO g16)
 refine rM ?_
 refine aq.cases (s := 46) rfl (fun g17 => ?_) (fun g17 => nomatch g17)
 refine zt g17 ?_
 refine rA ?_ (x := aO g17)
 exact oa
 refine Dx ?_
 refine rB gc ?_ (x := lN cg)
 refine rB gc ?_ (x := dI)
 refine tk ?_
 refine cx 34 (fun gd sgd => ?_) (fun gd sgd => ?_)
 refine zt gd ?_
 refine pC ?_
 refine aq.cases (s := 40) rfl (fun g20 => ?_) (fun g20 => nomatch g20)
 refine zt g20 ?_
 refine rA ?_ (x := aO g20)
 refine rM ?_
 refine aq.cases (s := 46) rfl (fun g21 => ?_) (fun g21 => nomatch g21)
 refine zt g21 ?_
 refine rA ?_ (x := aO g21)
 exact oa
 refine rB gd ?_ (x := lF lv)
 refine CN ?_
 refine rB gd ?_ (x := nT)
 refine tl ?_
 refine cx 40 (fun ge sge => ?_) (fun ge sge => ?_)
 refine zt ge ?_
 refine tm ?_
 refine aq.cases (s := 46) rfl (fun g24 => ?_) (fun g24 => nomatch g24)
 refine zt g24 ?_
 refine rA ?_ (x := aO g24)
 exact oa
 refine rB ge ?_ (x := lF jY)
 refine rB ge ?_ (x := lD [sl .v _] kd)
 refine rB ge ?_ (x := lN jw)
 refine rB ge ?_ (x := dI)
 refine tn ?_
 refine cx 46 (fun gf sgf => ?_) (fun gf sgf => ?_)
 refine zm ?_
 exact oa
 refine rB gf ?_ (x := lF iV)
 refine rB gf ?_ (x := lD [sl .v _] iW)
 refine rB gf ?_ (x := lN fL)
 refine rB gf ?_ (x := dI)
 refine rA ?_ (x := aF gf)
 refine sc ?_ ?_ <;> intro hba
 exact Cc
 have hpr : iY e = true := by first | (simp_all [iY]; done) | (simp_all [iY]; omega)
 refine wg ?_
 refine vZ ?_
 refine sL [1] [1] (fun k : Nat => k ≤ e.aez.length ∧ jV ii (fc e.Store) ly e.aez k = true) (fun k : Nat => [(3, RV.int (k : Int))]) (fun k : Nat => []) (fun k : Nat => e.aez.length - k) 0 (by exact ⟨by omega, rfl⟩) (by exact aI (by exact rfl) tI) (by exact tI) ?_
 rintro k ⟨hk, ha⟩
 refine de ?_
 refine pA ?_
 refine sc ?_ ?_ <;> intro hbb
 have hlt : k < e.aez.length := by omega
 have hgk : e.aez.getD k ii = e.aez[k] := eO hlt
 have hgp : 0 < k → e.aez.getD (k - 1) ii = e.aez[k - 1] := fun h => eO (by omega)
 refine dh ?_
 refine sQ [1, 3] [1] ?_
 refine PJ ?_
 refine dA 0 ?_ (x := lF ee)
 refine dA 2 ?_ (x := lD [sl .v _] dR)
 refine dA 0 ?_ (x := sM)
 refine dA 14 ?_ (x := aU (by decide) cg (by exact tI) (by exact rfl) (by exact aW (by omega) rfl) (by exact rfl))
 refine dA 30 ?_ (x := lE [val _, val _, sl .v _, sl .v _, val _, sl .v _, val _, val _, val _, sl .v _] gv)
 refine dA 63 ?_ (x := cL [(true, [sl _ _, val _, val _, sl _ _, sl _ _, sl _ _, sl _ _, val _]), (true, [val _, val _, sl _ _, sl _ _, val _, sl _ _, val _, val _, val _, sl _ _])] [(true, [sl .v _, val _, val _, sl .v _, sl .v _, sl .v _, sl .v _, val _]), (true, [val _, val _, sl .v _, sl .v _, val _, sl .v _, val _, val _, val _, sl .v _])] Zl (hs := by exact acY))
 refine dA 127 ?_ (x := nT)
 refine dA 255 ?_ (x := sM)
 refine dx 67 (fun gg sgg => ?_) (fun gg sgg => ?_)
 refine dT 511 gg ?_
 refine dT 1023 gg ?_
 refine dT 2047 gg ?_
 refine wk ?_
 refine dU 4095 ?_
 refine dU 32767 ?_
 refine dU 65535 ?_
 refine dU 131071 ?_
 refine dU 262143 ?_
 refine dU 4095 ?_
 refine dU 528383 ?_
 refine dU 4095 ?_
 refine dU 2101247 ?_
 refine dU 7868415 ?_
 refine dU 16257023 ?_
 refine dU 33034239 ?_
 refine dU 66588671 ?_
 refine dU 134217727 ?_
 refine dT 268435455 gg ?_
 refine dA 536870911 ?_ (x := aO gg)
 refine cv ?_
 exact JZ
 refine dB 511 gg ?_ (x := sM)
 refine dB 1023 gg ?_ (x := dI)
 refine dB 2047 gg ?_ (x := sM)
 refine dx 70 (fun gh sgh => ?_) (fun gh sgh => ?_)
 refine dB 4095 gh ?_ (x := lF ee)
 refine dB 8191 gh ?_ (x := lD [sl .v _] dR)
 refine dB 4095 gh ?_ (x := sM)
 refine dB 32767 gh ?_ (x := aU (by decide) cg (by exact tI) (by exact rfl) (by exact aW (by omega) rfl) (by exact rfl))
 refine dB 65535 gh ?_ (x := cd (by decide) gV (by exact nl rfl))
 refine dB 131071 gh ?_ (x := cd (by decide) ib (by exact nl rfl))
 refine dB 262143 gh ?_ (x := lE [val _] az)
 refine dB 4095 gh ?_ (x := lF ee)
 refine dB 528383 gh ?_ (x := lD [sl .v _] dR)
 refine dB 4095 gh ?_ (x := sM)
 refine dB 2101247 gh ?_ (x := fI)
 refine dB 7868415 gh ?_ (x := aU (k := k - 1) (by decide) cg (by exact tI) (by omega) (by exact aW (by omega) rfl) (by exact rfl))
 refine dB 16257023 gh ?_ (x := cd (by decide) gV (by exact nl rfl))
 refine dB 33034239 gh ?_ (x := cd (by decide) ib (by exact nl rfl))
 refine dB 66588671 gh ?_ (x := lE [val _] az)
 refine dB 134217727 gh ?_ (x := ix)
 refine dB 268435455 gg ?_ (x := aO gh)
 refine dA 536870911 ?_ (x := aF gg)
 refine sc ?_ ?_ <;> intro hbc
 exact JZ
 exact Ka
 refine dF 4095 gh ?_
 refine dF 8191 gh ?_
 refine dF 4095 gh ?_
 refine dF 32767 gh ?_
 refine dF 65535 gh ?_
 refine dF 131071 gh ?_
 refine dF 262143 gh ?_
 refine dF 4095 gh ?_
 refine dF 528383 gh ?_
 refine dF 4095 gh ?_
 refine dF 2101247 gh ?_
 refine dF 7868415 gh ?_
 refine dF 16257023 gh ?_
 refine dF 33034239 gh ?_
 refine dF 66588671 gh ?_
 refine dF 134217727 gh ?_
 refine dB 268435455 gg ?_ (x := aF gh)
 refine dA 536870911 ?_ (x := aF gg)
 refine eX ?_
 exact Ka
 have hend : k = e.aez.length := by omega
 have hall : dG ii (fc e.Store) ly e.aez = true := pH ha hend
 refine er ?_
 refine sT [1, 3] [1] ?_
 refine ca ?_
 refine sP [1, 3, 4] [1] ?_
 refine sL [1, 3] [1] (fun k : Nat => k ≤ e.Done.length ∧ (List.take k e.Done).all (gj e.Store.Now) = true) (fun k : Nat => [(4, RV.int (k : Int))]) (fun k : Nat => []) (fun k : Nat => e.Done.length - k) 0 (by exact ⟨by omega, rfl⟩) (by exact aI (by exact rfl) tI) (by exact tI) ?_
 rintro k ⟨hk, ha⟩
 refine de ?_
 refine we ?_
 refine sc ?_ ?_ <;> intro hbc
 have hlt : k < e.Done.length := by omega
 refine bi ?_
 refine sT [1, 3, 4] [1] ?_
 refine vf ?_
 refine rM ?_
 refine tz ?_
 refine sO [(1, _), (3, _), (4, _), (5, _)] [(1, _), (5, (63, [val _, val _, sl _ _, sl _ _, val _, val _, sl _ _]))] ?_
 refine bd ?_
 refine vv ?_
 refine rA ?_ (x := cL [(true, [val _, val _, sl _ _, sl _ _])] [(true, [val _, val _, sl .v _, sl .v _])] tQ (hs := by exact ur))
 refine fz ?_
 refine cx 105 (fun gg sgg => ?_) (fun gg sgg => ?_)
 refine zt gg ?_
 refine rA ?_ (x := aO gg)
 refine rM ?_
 refine aq.cases (s := 114) rfl (fun g37 => ?_) (fun g37 => nomatch g37)
 refine zt g37 ?_
 refine rA ?_ (x := aO g37)
 refine rM ?_
 refine aq.cases (s := 120) rfl (fun g38 => ?_) (fun g38 => nomatch g38)
 refine zt g38 ?_
 refine rA ?_ (x := aO g38)
 refine cv ?_
 exact xW
 refine DH ?_
 refine rB gg ?_ (x := lF gG)
 refine rB gg ?_ (x := lF fK)
 refine rB gg ?_ (x := lD [val _] az)
 refine rB gg ?_ (x := cL [(false, [val _]), (false, [val _]), (false, [val _])] [(false, [val _]), (false, [val _]), (false, [val _])] fX (hs := by exact gl))
 refine rB gg ?_ (x := nT)
 refine rA ?_ (x := aF gg)
 refine rM ?_
 refine cx 114 (fun gh sgh => ?_) (fun gh sgh => ?_)
 refine zt gh ?_
 refine rA ?_ (x := aO gh)
 refine rM ?_
 refine aq.cases (s := 120) rfl (fun g41 => ?_) (fun g41 => nomatch g41)
 refine zt g41 ?_
 refine rA ?_ (x := aO g41)
 refine cv ?_
 exact xW
 refine DI ?_
 refine rB gh ?_ (x := cL [(false, [val _]), (false, [val _]), (false, [val _])] [(false, [val _]), (false, [val _]), (false, [val _])] fX (hs := by exact gl))
 refine rB gh ?_ (x := nT)
 refine rA ?_ (x := aF gh)
 refine rM ?_
 refine cx 120 (fun gi sgi => ?_) (fun gi sgi => ?_)
 refine zt gi ?_
 refine rA ?_ (x := aO gi)
 refine cv ?_
 exact xW
 refine Dy ?_
 refine rB gi ?_ (x := cL [(false, [sl _ _])] [(false, [sl .v _])] RH (hs := by exact RR))
 refine rB gi ?_ (x := nT)
 refine rA ?_ (x := aF gi)
 refine sc ?_ ?_ <;> intro hbd
 exact xW
 have hyes : (gj e.Store.Now) e.Done[k] = true := by first | (simp_all [gj]; done) | (simp_all [gj]; omega)
 refine bb ?_
 refine sG [1, 3, 4, 5] [1, 5] ?_
 exact pj
 have hfa : e.Done.all (gj e.Store.Now) = true := jr (by rw [show e.Done.length = k by omega]; exact ha)
 refine er ?_
 refine sT [1, 3, 4] [1] ?_
 refine ca ?_
 refine sP [1, 3, 4, 6] [1] ?_
 refine sL [1, 3, 4] [1] (fun k : Nat => k ≤ e.aeL.length ∧ (List.take k e.aeL).all bZ = true) (fun k : Nat => [(6, RV.int (k : Int))]) (fun k : Nat => []) (fun k : Nat => e.aeL.length - k) 0 (by exact ⟨by omega, rfl⟩) (by exact aI (by exact rfl) tI) (by exact tI) ?_
 rintro k ⟨hk, ha⟩
 refine de ?_
 refine mA ?_
 refine vH ?_
 refine sc ?_ ?_ <;> intro hbd
 have hlt : k < e.aeL.length := by omega
 refine bi ?_
 refine sT [1, 3, 4, 6] [1] ?_
 refine mA ?_
 refine rM ?_
 refine qA ?_
 refine rA ?_ (x := cL [(true, [val _, val _, sl _ _, sl _ _, sl _ _])] [(true, [val _, val _, sl .v _, sl .v _, sl .v _])] RI (hs := by exact TO))
 refine rA ?_ (x := nT)
 refine sc ?_ ?_ <;> intro hbe
 have hno : bZ e.aeL[k] = false := by simpa using hbe
 have hbad2 := QJ (kE hlt hno)
 refine sS [1, 3, 4, 6] [1] ?_
 exact sx
 have hyes : bZ e.aeL[k] = true := by simpa using hbe
 refine bb ?_
 refine sG [1, 3, 4, 6] [1] ?_
 exact pj
 have hla : e.aeL.all bZ = true := jr (by rw [show e.aeL.length = k by omega]; exact ha)
 refine bq ?_
 refine sT [1, 3, 4, 6] [1] ?_
 exact JY
end Go.Proofs.YtmekkgdboplbjaaGreat
