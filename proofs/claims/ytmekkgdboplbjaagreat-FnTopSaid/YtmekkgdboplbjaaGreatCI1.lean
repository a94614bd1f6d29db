/- What functions of the program compute. No condition. -/
import Derived.Test.YtmekkgdboplbjaaGreatCF1
import Derived.Test.YtmekkgdboplbjaaGreatCS0
set_option linter.all false
namespace Go.Proofs.YtmekkgdboplbjaaGreat
open Go Go.RowKit M PV Tryz
set_option maxRecDepth 10000
attribute [local irreducible] PV.Lcl PV.LclR RV.Lcl
set_option maxHeartbeats 8000000
def ad0 {p1 p3 : Fl} {x : List aR} {y : List aR}  : aN prog 154 [(false, [sl .v (x.map (eN p1))]), (false, [sl .v (y.map (eN p3))])] (aJ [(false, [val (.bool (fA x y))])]) := by
 refine sF func154 fun h0 w0 Fz0 => ?_
 refine sj 0 fun hl0 => ?_
 refine sj 1 fun hl1 => ?_
 refine ow ?_
 refine pp ?_
 refine pp ?_
 refine rA ?_ (x := dr)
 refine sc ?_ ?_ <;> intro hba
 exact uS
 have hl : x.length = y.length := by omega
 refine wd ?_
 refine ca ?_
 refine CD ?_
 rintro k ⟨hk, ha⟩
 refine de ?_
 refine zu ?_
 refine sc ?_ ?_ <;> intro hbb
 have hlt : k < x.length := by omega
 have hlt2 : k < y.length := by omega
 refine th ?_
 refine pu ?_
 refine Oi ?_
 refine dA 15 ?_ (x := lE [val _] az)
 refine eY ?_
 refine dA 96 ?_ (x := aU (by decide) cy (by exact tI) (by exact rfl) (by exact aW (by omega) rfl) (by exact rfl))
 refine dA 224 ?_ (x := cd (by decide) nt (by exact nl rfl))
 refine dA 480 ?_ (x := lE [val _] az)
 refine dA 1023 ?_ (x := dr)
 refine dA 2047 ?_ (x := sM)
 refine dx 28 (fun ga sga => ?_) (fun ga sga => ?_)
 refine dT 4095 ga ?_
 refine dT 4095 ga ?_
 refine dT 16383 ga ?_
 refine dT 32767 ga ?_
 refine dT 65535 ga ?_
 refine dT 4095 ga ?_
 refine dT 4095 ga ?_
 refine dT 397311 ga ?_
 refine dT 921599 ga ?_
 refine dT 1970175 ga ?_
 refine yR ?_
 refine dA 16777215 ?_ (x := sM)
 refine bJ.cases (s := 41) rfl (fun g4 => ?_) (fun g4 => nomatch g4)
 refine dT 33554431 g4 ?_
 refine dT 33554431 g4 ?_
 refine dT 134217727 g4 ?_
 refine dT 268435455 g4 ?_
 refine dT 536870911 g4 ?_
 refine dT 33554431 g4 ?_
 refine dT 33554431 g4 ?_
 refine dT 3254779903 g4 ?_
 refine dT 7549747199 g4 ?_
 refine dT 16139681791 g4 ?_
 refine dT 34359738367 g4 ?_
 refine dA 68719476735 ?_ (x := aO g4)
 refine dA 137438953471 ?_ (x := sM)
 refine bJ.cases (s := 54) rfl (fun g5 => ?_) (fun g5 => nomatch g5)
 refine dT 274877906943 g5 ?_
 refine dT 274877906943 g5 ?_
 refine dT 1099511627775 g5 ?_
 refine dT 2199023255551 g5 ?_
 refine dT 4398046511103 g5 ?_
 refine dT 274877906943 g5 ?_
 refine dT 274877906943 g5 ?_
 refine dT 26663156973567 g5 ?_
 refine dT 61847529062399 g5 ?_
 refine dT 132216273240063 g5 ?_
 refine dT 281474976710655 g5 ?_
 refine dT 562949953421311 g5 ?_
 refine dA 1125899906842623 ?_ (x := aO g5)
 refine cv ?_
 exact sr
 refine dB 4095 ga ?_ (x := vM false [sl .v _])
 refine dB 4095 ga ?_ (x := sM)
 refine dB 16383 ga ?_ (x := aU (by decide) cy (by exact tI) (by exact rfl) (by exact aW (by omega) rfl) (by exact rfl))
 refine dB 32767 ga ?_ (x := cd (by decide) kH (by exact nl rfl))
 refine dB 65535 ga ?_ (x := lE [val _] az)
 refine dB 4095 ga ?_ (x := vM false [sl .v _])
 refine dB 4095 ga ?_ (x := sM)
 refine dB 397311 ga ?_ (x := aU (by decide) cy (by exact tI) (by exact rfl) (by exact aW (by omega) rfl) (by exact rfl))
 refine dB 921599 ga ?_ (x := cd (by decide) kH (by exact nl rfl))
 refine dB 1970175 ga ?_ (x := lE [val _] az)
 refine dB 4194303 ga ?_ (x := dr)
 refine dA 8388607 ?_ (x := aF ga)
 refine dA 16777215 ?_ (x := sM)
 refine dx 41 (fun gb sgb => ?_) (fun gb sgb => ?_)
 refine dT 33554431 gb ?_
 refine dT 33554431 gb ?_
 refine dT 134217727 gb ?_
 refine dT 268435455 gb ?_
 refine dT 536870911 gb ?_
 refine dT 33554431 gb ?_
 refine dT 33554431 gb ?_
 refine dT 3254779903 gb ?_
 refine dT 7549747199 gb ?_
 refine dT 16139681791 gb ?_
 refine dT 34359738367 gb ?_
 refine dA 68719476735 ?_ (x := aO gb)
 refine dA 137438953471 ?_ (x := sM)
 refine bJ.cases (s := 54) rfl (fun g8 => ?_) (fun g8 => nomatch g8)
 refine dT 274877906943 g8 ?_
 refine dT 274877906943 g8 ?_
 refine dT 1099511627775 g8 ?_
 refine dT 2199023255551 g8 ?_
 refine dT 4398046511103 g8 ?_
 refine dT 274877906943 g8 ?_
 refine dT 274877906943 g8 ?_
 refine dT 26663156973567 g8 ?_
 refine dT 61847529062399 g8 ?_
 refine dT 132216273240063 g8 ?_
 refine dT 281474976710655 g8 ?_
 refine dT 562949953421311 g8 ?_
 refine dA 1125899906842623 ?_ (x := aO g8)
 refine cv ?_
 exact sr
 refine dB 33554431 gb ?_ (x := vM false [sl .v _])
 refine dB 33554431 gb ?_ (x := sM)
 refine dB 134217727 gb ?_ (x := aU (by decide) cy (by exact tI) (by exact rfl) (by exact aW (by omega) rfl) (by exact rfl))
 refine dB 268435455 gb ?_ (x := cd (by decide) iB (by exact nl rfl))
 refine dB 536870911 gb ?_ (x := lE [val _] az)
 refine dB 33554431 gb ?_ (x := vM false [sl .v _])
 refine dB 33554431 gb ?_ (x := sM)
 refine dB 3254779903 gb ?_ (x := aU (by decide) cy (by exact tI) (by exact rfl) (by exact aW (by omega) rfl) (by exact rfl))
 refine dB 7549747199 gb ?_ (x := cd (by decide) iB (by exact nl rfl))
 refine dB 16139681791 gb ?_ (x := lE [val _] az)
 refine dB 34359738367 gb ?_ (x := dr)
 refine dA 68719476735 ?_ (x := aF gb)
 refine dA 137438953471 ?_ (x := sM)
 refine dx 54 (fun gc sgc => ?_) (fun gc sgc => ?_)
 refine dT 274877906943 gc ?_
 refine dT 274877906943 gc ?_
 refine dT 1099511627775 gc ?_
 refine dT 2199023255551 gc ?_
 refine dT 4398046511103 gc ?_
 refine dT 274877906943 gc ?_
 refine dT 274877906943 gc ?_
 refine dT 26663156973567 gc ?_
 refine dT 61847529062399 gc ?_
 refine dT 132216273240063 gc ?_
 refine dT 281474976710655 gc ?_
 refine dT 562949953421311 gc ?_
 refine dA 1125899906842623 ?_ (x := aO gc)
 refine cv ?_
 exact sr
 refine PX ?_
 refine dB 1099511627775 gc ?_ (x := aU (by decide) cy (by exact tI) (by exact rfl) (by exact aW (by omega) rfl) (by exact rfl))
 refine dB 2199023255551 gc ?_ (x := cd (by decide) lu (by exact nl rfl))
 refine dB 4398046511103 gc ?_ (x := lE [sl .v _] bF)
 refine PX ?_
 refine dB 26663156973567 gc ?_ (x := aU (by decide) cy (by exact tI) (by exact rfl) (by exact aW (by omega) rfl) (by exact rfl))
 refine dB 61847529062399 gc ?_ (x := cd (by decide) lu (by exact nl rfl))
 refine dB 132216273240063 gc ?_ (x := lE [sl .v _] bF)
 refine dB 281474976710655 gc ?_ (x := cL [(false, [sl _ _]), (false, [sl _ _])] [(false, [sl .v _]), (false, [sl .v _])] rh (hs := by exact rG))
 refine dB 562949953421311 gc ?_ (x := nT)
 refine dA 1125899906842623 ?_ (x := aF gc)
 refine sc ?_ ?_ <;> intro hbc
 exact sr
 refine tD ?_
 refine nx (k + 1) (by exact ⟨by omega, ra ha hlt hlt2 (by rw [Wq]; simp_all [fh])⟩)
 exact BR
def ad1 {x : br} {y : br}  : aN prog 59 [(true, [val (vI x.Segment), val (vI x.Base), sl .v (x.Ids.map am), sl .v (x.aeF.map am), sl .v (x.Rows.map am)]), (true, [val (vI y.Segment), val (vI y.Base), sl .v (y.Ids.map am), sl .v (y.aeF.map am), sl .v (y.Rows.map am)])] (aJ [(false, [val (.bool (fA x y))])]) := by
 refine sF func59 fun h0 w0 Fz0 => ?_
 refine sn 0 2 fun hl0_2 => ?_
 refine sn 0 3 fun hl0_3 => ?_
 refine sn 0 4 fun hl0_4 => ?_
 refine sn 1 2 fun hl1_2 => ?_
 refine sn 1 3 fun hl1_3 => ?_
 refine sn 1 4 fun hl1_4 => ?_
 refine po ?_
 refine rX ?_ (x := (eD (ag := true) (cs := [val _, val _, sl _ _, sl _ _, sl _ _]) (by decide) (by exact tI)))
 refine qJ ?_
 refine rA ?_ (x := lF wz)
 refine rA ?_ (x := lD [val _] az)
 refine rA ?_ (x := lF wz)
 refine oA ?_
 refine cx 10 (fun ga sga => ?_) (fun ga sga => ?_)
 refine rB ga ?_ (x := lF nu)
 refine rB ga ?_ (x := lD [val _] az)
 refine rB ga ?_ (x := lF nu)
 refine oy ?_
 refine cx 17 (fun gb sgb => ?_) (fun gb sgb => ?_)
 refine rB gb ?_ (x := lF lX)
 refine rB gb ?_ (x := lD [sl .v _] bF)
 refine rB gb ?_ (x := lF lX)
 refine CT ?_
 refine gt ?_
 refine cx 24 (fun gc sgc => ?_) (fun gc sgc => ?_)
 refine Dr ?_
 refine Dr ?_
 refine rB gc ?_ (x := cL [(false, [sl _ _]), (false, [sl _ _])] [(false, [sl .v _]), (false, [sl .v _])] rh (hs := by exact rG))
 refine hY ?_
 refine cx 31 (fun gd sgd => ?_) (fun gd sgd => ?_)
 refine Ds ?_
 refine Ds ?_
 refine rB gd ?_ (x := cL [(false, [sl _ _]), (false, [sl _ _])] [(false, [sl .v _]), (false, [sl .v _])] rh (hs := by exact rG))
 refine rA ?_ (x := aO gd)
 exact uW
 refine ov ?_
 exact uW
 refine lm ?_
 refine aq.cases (s := 31) rfl (fun g5 => nomatch g5) (fun g5 => ?_)
 refine qK ?_
 exact uW
 refine fU ?_
 refine aq.cases (s := 24) rfl (fun g6 => nomatch g6) (fun g6 => ?_)
 refine py ?_
 refine rM ?_
 refine aq.cases (s := 31) rfl (fun g7 => nomatch g7) (fun g7 => ?_)
 refine qM ?_
 exact uW
 refine gu ?_
 refine aq.cases (s := 17) rfl (fun g8 => nomatch g8) (fun g8 => ?_)
 refine te ?_
 refine rM ?_
 refine aq.cases (s := 24) rfl (fun g9 => nomatch g9) (fun g9 => ?_)
 refine ou ?_
 refine rM ?_
 refine aq.cases (s := 31) rfl (fun g10 => nomatch g10) (fun g10 => ?_)
 refine ot ?_
 exact uW
def ad2 {p4 p9 : Fl} {x : aez} {y : aez}  : aN prog 57 [(true, [val (vI x.aeA.Id), val (vI x.aeA.aeE), sl .v (x.aeA.aeB.map bH), sl .v (x.aeA.Out.map am), val (vI x.Time), sl .v (x.aeI.map am), val (vI x.Age), val (vI x.Sent), val (vI x.Cap), sl .v (x.Rows.map (bI p4))]), (true, [val (vI y.aeA.Id), val (vI y.aeA.aeE), sl .v (y.aeA.aeB.map bH), sl .v (y.aeA.Out.map am), val (vI y.Time), sl .v (y.aeI.map am), val (vI y.Age), val (vI y.Sent), val (vI y.Cap), sl .v (y.Rows.map (bI p9))])] (aJ [(false, [val (.bool (fA x y))])]) := by
 refine sF func57 fun h0 w0 Fz0 => ?_
 refine sn 0 2 fun hl0_2 => ?_
 refine sn 0 3 fun hl0_3 => ?_
 refine sn 0 5 fun hl0_5 => ?_
 refine sn 0 9 fun hl0_9 => ?_
 refine sn 1 2 fun hl1_2 => ?_
 refine sn 1 3 fun hl1_3 => ?_
 refine sn 1 5 fun hl1_5 => ?_
 refine sn 1 9 fun hl1_9 => ?_
 refine OL ?_
 refine CX ?_
 refine sT [2, 3, 4] [2, 3] ?_
 refine vu ?_
 refine vu ?_
 refine rA ?_ (x := cL [(true, [val _, val _, sl _ _, sl _ _]), (true, [val _, val _, sl _ _, sl _ _])] [(true, [val _, val _, sl .v _, sl .v _]), (true, [val _, val _, sl .v _, sl .v _])] RF (hs := by exact Uc))
 refine rM ?_
 refine cx 10 (fun ga sga => ?_) (fun ga sga => ?_)
 refine rB ga ?_ (x := lF pI)
 refine rB ga ?_ (x := lD [val _] az)
 refine rB ga ?_ (x := lF pI)
 refine oy ?_
 refine cx 17 (fun gb sgb => ?_) (fun gb sgb => ?_)
 refine Dq ?_
 refine rB gb ?_ (x := lF jt)
 refine CT ?_
 refine gt ?_
 refine cx 24 (fun gc sgc => ?_) (fun gc sgc => ?_)
 refine rB gc ?_ (x := lF ju)
 refine rB gc ?_ (x := lD [val _] az)
 refine rB gc ?_ (x := lF ju)
 refine vp ?_
 refine hY ?_
 refine cx 31 (fun gd sgd => ?_) (fun gd sgd => ?_)
 refine rB gd ?_ (x := lF mI)
 refine rB gd ?_ (x := lD [val _] az)
 refine rB gd ?_ (x := lF mI)
 refine yN ?_
 refine pC ?_
 refine cx 38 (fun ge sge => ?_) (fun ge sge => ?_)
 refine DD ?_
 refine DD ?_
 refine rB ge ?_ (x := dQ)
 refine tm ?_
 refine cx 45 (fun gf sgf => ?_) (fun gf sgf => ?_)
 refine yI ?_
 refine yI ?_
 refine rB gf ?_ (x := cL [(false, [sl _ _]), (false, [sl _ _])] [(false, [sl .v _]), (false, [sl .v _])] EY (hs := by exact Fo))
 refine rA ?_ (x := aO gf)
 exact qw
 refine zf gf ?_
 refine rA ?_ (x := aF gf)
 exact qw
 refine zf ge ?_
 refine tn ?_
 refine aq.cases (s := 45) rfl (fun g7 => nomatch g7) (fun g7 => ?_)
 refine qM ?_
 exact qw
 refine ov ?_
 refine rM ?_
 refine aq.cases (s := 38) rfl (fun g8 => nomatch g8) (fun g8 => ?_)
 refine te ?_
 refine rM ?_
 refine aq.cases (s := 45) rfl (fun g9 => nomatch g9) (fun g9 => ?_)
 refine ou ?_
 exact qw
 refine lm ?_
 refine aq.cases (s := 31) rfl (fun g10 => nomatch g10) (fun g10 => ?_)
 refine ot ?_
 refine rM ?_
 refine aq.cases (s := 38) rfl (fun g11 => nomatch g11) (fun g11 => ?_)
 refine vS ?_
 refine rM ?_
 refine aq.cases (s := 45) rfl (fun g12 => nomatch g12) (fun g12 => ?_)
 refine yY ?_
 exact qw
 refine fU ?_
 refine aq.cases (s := 24) rfl (fun g13 => nomatch g13) (fun g13 => ?_)
 refine yZ ?_
 refine rM ?_
 refine aq.cases (s := 31) rfl (fun g14 => nomatch g14) (fun g14 => ?_)
 refine zf g14 ?_
 refine rA ?_ (x := aF g14)
 refine rM ?_
 refine aq.cases (s := 38) rfl (fun g15 => nomatch g15) (fun g15 => ?_)
 refine zf g15 ?_
 refine rA ?_ (x := aF g15)
 refine rM ?_
 refine aq.cases (s := 45) rfl (fun g16 => nomatch g16) (fun g16 => ?_)
 refine zb ?_
 exact qw
 refine gu ?_
 refine aq.cases (s := 17) rfl (fun g17 => nomatch g17) (fun g17 => ?_)
 refine qH ?_
 refine rM ?_
 refine aq.cases (s := 24) rfl (fun g18 => nomatch g18) (fun g18 => ?_)
 refine vU ?_
 refine rM ?_
 refine aq.cases (s := 31) rfl (fun g19 => nomatch g19) (fun g19 => ?_)
 refine tc ?_
 refine rM ?_
 refine aq.cases (s := 38) rfl (fun g20 => nomatch g20) (fun g20 => ?_)
 refine vT ?_
 refine rM ?_
 refine aq.cases (s := 45) rfl (fun g21 => nomatch g21) (fun g21 => ?_)
 refine zg ?_
 exact qw
def ad3 {p1 p2 p4 p5 : Fl} {x : Store} {y : Store}  : aN prog 55 [(true, [sl .v (x.aey.map (aG p1 p2)), val (vI x.Now)]), (true, [sl .v (y.aey.map (aG p4 p5)), val (vI y.Now)])] (aJ [(false, [val (.bool (fA x y))])]) := by
 refine sF func55 fun h0 w0 Fz0 => ?_
 refine sn 0 0 fun hl0_0 => ?_
 refine sn 1 0 fun hl1_0 => ?_
 refine jo ?_
 refine rX ?_ (x := (eD (ag := true) (cs := [sl _ _, val _]) (by decide) (by exact tI)))
 refine qG ?_
 refine lM ?_
 refine lM ?_
 refine rA ?_ (x := dr)
 refine rM ?_
 refine cx 13 (fun ga sga => ?_) (fun ga sga => ?_)
 refine mE ?_
 exact LQ
 refine DF ?_
 refine DF ?_
 refine rB ga ?_ (x := dr)
 refine rA ?_ (x := aF ga)
 refine sc ?_ ?_ <;> intro hba
 exact LQ
 have hl0 : x.aey.length = y.aey.length ∧ x.Now = y.Now := by first | (simp_all; done) | (simp_all; omega)
 obtain ⟨hl0, hnw⟩ := hl0
 refine zh ?_
 refine yV ?_
 refine sL [2, 3] [2, 3] (fun k : Nat => k ≤ x.aey.length ∧ List.take k x.aey = List.take k y.aey) (fun k : Nat => [(5, RV.int (k : Int))]) (fun k : Nat => []) (fun k : Nat => x.aey.length - k) 0 (by exact ⟨by omega, by simp⟩) (by exact aI (by exact rfl) tI) (by exact tI) ?_
 rintro k ⟨hk0, ha0⟩
 refine tF ?_
 refine sc ?_ ?_ <;> intro hbb
 have hlt0 : k < x.aey.length := by omega
 have hlu0 : k < y.aey.length := by omega
 refine dh ?_
 refine sQ [2, 3, 5] [2, 3] ?_
 refine da cG ?_
 refine dA 0 ?_ (x := lF jX)
 refine dA 1 ?_ (x := lD [sl .v _] kc)
 refine dA 0 ?_ (x := sM)
 refine dA 7 ?_ (x := aU (by decide) eP (by exact tI) (by exact rfl) (by exact aW (by omega) rfl) (by exact rfl))
 refine dA 15 ?_ (x := lE [sl .v _] ie)
 refine dA 0 ?_ (x := lF jX)
 refine dA 32 ?_ (x := lD [sl .v _] kc)
 refine dA 0 ?_ (x := sM)
 refine dA 224 ?_ (x := aU (by decide) eP (by exact tI) (by exact rfl) (by exact aW (by omega) rfl) (by exact rfl))
 refine dA 480 ?_ (x := lE [sl .v _] ie)
 refine dA 1023 ?_ (x := cL [(false, [sl _ _]), (false, [sl _ _])] [(false, [sl .v _]), (false, [sl .v _])] Yg (hs := by exact ad0))
 refine dA 2047 ?_ (x := nT)
 refine sc ?_ ?_ <;> intro hbc
 exact LR
 have heq : x.aey[k] = y.aey[k] := by exact fh.1 (by simpa using hbc)
 exact LS
 have hend0 : x.aey = y.aey := tL hl0 (by rw [show x.aey.length = k by omega]; exact ha0)
 refine yW ?_
 refine cm ?_
 exact rb ((rc (Wu.2 ⟨hend0, hnw⟩)).symm)
def ad4 {p1 p2 p5 p6 p7 p8 p9 p11 p12 p13 p14 p16 p17 p18 p20 p21 p24 p25 p26 p27 p28 p30 p31 p32 p33 p35 p36 p37 : Fl} {x : aA} {y : aA}  : aN prog 10 [(true, [sl .v (x.Store.aey.map (aG p1 p2)), val (vI x.Store.Now), val (vI x.aeD), sl .v (x.Order.map am), sl .v (x.aez.map (aT p5 p6 p7 p8 p9)), sl .v (x.Done.map (bn p11 p12 p13 p14)), sl .v (x.aeL.map (bl p16 p17 p18)), val (vI x.Steps)]), (true, [sl .v (y.Store.aey.map (aG p20 p21)), val (vI y.Store.Now), val (vI y.aeD), sl .v (y.Order.map am), sl .v (y.aez.map (aT p24 p25 p26 p27 p28)), sl .v (y.Done.map (bn p30 p31 p32 p33)), sl .v (y.aeL.map (bl p35 p36 p37)), val (vI y.Steps)])] (aJ [(false, [val (.bool (fA x y))])]) := by
 refine sF func10 fun h0 w0 Fz0 => ?_
 refine sn 0 0 fun hl0_0 => ?_
 refine sn 0 3 fun hl0_3 => ?_
 refine sn 0 4 fun hl0_4 => ?_
 refine sn 0 5 fun hl0_5 => ?_
 refine sn 0 6 fun hl0_6 => ?_
 refine sn 1 0 fun hl1_0 => ?_
 refine sn 1 3 fun hl1_3 => ?_
 refine sn 1 4 fun hl1_4 => ?_
 refine sn 1 5 fun hl1_5 => ?_
 refine sn 1 6 fun hl1_6 => ?_
 refine jO ?_
 refine rX ?_ (x := (eD (ag := true) (cs := [sl _ _, val _, val _, sl _ _, sl _ _, sl _ _, sl _ _, val _]) (by decide) (by exact tI)))
 refine qG ?_
 refine sU ?_
 refine sU ?_
 refine rA ?_ (x := cL [(true, [sl _ _, val _]), (true, [sl _ _, val _])] [(true, [sl .v _, val _]), (true, [sl .v _, val _])] Zg (hs := by exact ad3))
 refine fz ?_
 refine cx 16 (fun ga sga => ?_) (fun ga sga => ?_)
 refine jq ?_
 refine aq.cases (s := 23) rfl (fun g2 => ?_) (fun g2 => nomatch g2)
 refine nq ?_
 refine aq.cases (s := 31) rfl (fun g3 => ?_) (fun g3 => nomatch g3)
 refine nn ?_
 refine rM ?_
 refine aq.cases (s := 40) rfl (fun g4 => ?_) (fun g4 => nomatch g4)
 refine zl ?_
 refine rM ?_
 refine aq.cases (s := 49) rfl (fun g5 => ?_) (fun g5 => nomatch g5)
 refine zt g5 ?_
 refine rA ?_ (x := aO g5)
 refine rM ?_
 refine aq.cases (s := 58) rfl (fun g6 => ?_) (fun g6 => nomatch g6)
 refine qN ?_
 exact sz
 refine vC ?_
 refine vC ?_
 refine rB ga ?_ (x := dr)
 refine mB ?_
 refine cx 23 (fun gb sgb => ?_) (fun gb sgb => ?_)
 refine mC ?_
 refine aq.cases (s := 31) rfl (fun g9 => ?_) (fun g9 => nomatch g9)
 refine zt g9 ?_
 refine rA ?_ (x := aO g9)
 refine rM ?_
 refine aq.cases (s := 40) rfl (fun g10 => ?_) (fun g10 => nomatch g10)
 refine zt g10 ?_
 refine rA ?_ (x := aO g10)
 refine rM ?_
 refine aq.cases (s := 49) rfl (fun g11 => ?_) (fun g11 => nomatch g11)
 refine zc ?_
 refine rM ?_
 refine aq.cases (s := 58) rfl (fun g12 => ?_) (fun g12 => nomatch g12)
 refine zd ?_
 exact sz
 refine Du ?_
 refine rB gb ?_ (x := lF wv)
 refine CT ?_
 refine ti ?_
 refine cx 31 (fun gc sgc => ?_) (fun gc sgc => ?_)
 refine zt gc ?_
 refine hY ?_
 refine aq.cases (s := 40) rfl (fun g15 => ?_) (fun g15 => nomatch g15)
 refine zt g15 ?_
 refine rA ?_ (x := aO g15)
 refine rM ?_
 refine aq.cases (s := 49) rfl (fun g16 => ?_) (fun g16 => nomatch g16)
 refine zt g16 ?_
 refine rA ?_ (x := aO g16)
 refine rM ?_
 refine aq.cases (s := 58) rfl (fun g17 => ?_) (fun g17 => nomatch g17)
 refine zt g17 ?_
 refine rA ?_ (x := aO g17)
 exact sz
 refine Dx ?_
 refine rB gc ?_ (x := lN cg)
 refine Dx ?_
 refine rB gc ?_ (x := lN cg)
 refine rB gc ?_ (x := dr)
 refine tk ?_
 refine cx 40 (fun gd sgd => ?_) (fun gd sgd => ?_)
 refine zt gd ?_
 refine pC ?_
 refine aq.cases (s := 49) rfl (fun g20 => ?_) (fun g20 => nomatch g20)
 refine zt g20 ?_
 refine rA ?_ (x := aO g20)
 refine rM ?_
 refine aq.cases (s := 58) rfl (fun g21 => ?_) (fun g21 => nomatch g21)
 refine zt g21 ?_
 refine rA ?_ (x := aO g21)
 exact sz
 refine Dv ?_
 refine rB gd ?_ (x := lN jw)
 refine Dv ?_
 refine rB gd ?_ (x := lN jw)
 refine rB gd ?_ (x := dr)
 refine tl ?_
 refine cx 49 (fun ge sge => ?_) (fun ge sge => ?_)
 refine zt ge ?_
 refine tm ?_
 refine aq.cases (s := 58) rfl (fun g24 => ?_) (fun g24 => nomatch g24)
 refine zt g24 ?_
 refine rA ?_ (x := aO g24)
 exact sz
 refine Dw ?_
 refine rB ge ?_ (x := lN fL)
 refine Dw ?_
 refine rB ge ?_ (x := lN fL)
 refine rB ge ?_ (x := dr)
 refine tn ?_
 refine cx 58 (fun gf sgf => ?_) (fun gf sgf => ?_)
 refine zm ?_
 exact sz
 refine rB gf ?_ (x := lF lv)
 refine rB gf ?_ (x := lD [val _] az)
 refine rB gf ?_ (x := lF lv)
 refine rB gf ?_ (x := lD [val _] az)
 refine rB gf ?_ (x := dr)
 refine rA ?_ (x := aF gf)
 refine sc ?_ ?_ <;> intro hba
 exact LU
 have hall : x.Store = y.Store ∧ x.aeD = y.aeD ∧ x.Order = y.Order ∧ x.aez.length = y.aez.length ∧ x.Done.length = y.Done.length ∧ x.aeL.length = y.aeL.length ∧ x.Steps = y.Steps := by refine ⟨?_, ?_, ?_, ?_, ?_, ?_, ?_⟩ <;> first | (simp_all [fh]; done) | (simp_all [fh]; omega)
 obtain ⟨he1, he2, he3, hl0, hl1, hl2, he4⟩ := hall
 refine zh ?_
 refine yV ?_
 refine sL [2, 3] [2, 3] (fun k : Nat => k ≤ x.aez.length ∧ List.take k x.aez = List.take k y.aez) (fun k : Nat => [(5, RV.int (k : Int))]) (fun k : Nat => []) (fun k : Nat => x.aez.length - k) 0 (by exact ⟨by omega, by simp⟩) (by exact aI (by exact rfl) tI) (by exact tI) ?_
 rintro k ⟨hk0, ha0⟩
 refine de ?_
 refine pA ?_
 refine sc ?_ ?_ <;> intro hbb
 have hlt0 : k < x.aez.length := by omega
 have hlu0 : k < y.aez.length := by omega
 refine dh ?_
 refine sQ [2, 3, 5] [2, 3] ?_
 refine da cG ?_
 refine dA 0 ?_ (x := lF ee)
 refine dA 1 ?_ (x := lD [sl .v _] dR)
 refine dA 0 ?_ (x := sM)
 refine dA 7 ?_ (x := aU (by decide) cg (by exact tI) (by exact rfl) (by exact aW (by omega) rfl) (by exact rfl))
 refine dA 15 ?_ (x := lE [val _, val _, sl .v _, sl .v _, val _, sl .v _, val _, val _, val _, sl .v _] gv)
 refine dA 0 ?_ (x := lF ee)
 refine dA 32 ?_ (x := lD [sl .v _] dR)
 refine dA 0 ?_ (x := sM)
 refine dA 224 ?_ (x := aU (by decide) cg (by exact tI) (by exact rfl) (by exact aW (by omega) rfl) (by exact rfl))
 refine dA 480 ?_ (x := lE [val _, val _, sl .v _, sl .v _, val _, sl .v _, val _, val _, val _, sl .v _] gv)
 refine dA 1023 ?_ (x := cL [(true, [val _, val _, sl _ _, sl _ _, val _, sl _ _, val _, val _, val _, sl _ _]), (true, [val _, val _, sl _ _, sl _ _, val _, sl _ _, val _, val _, val _, sl _ _])] [(true, [val _, val _, sl .v _, sl .v _, val _, sl .v _, val _, val _, val _, sl .v _]), (true, [val _, val _, sl .v _, sl .v _, val _, sl .v _, val _, val _, val _, sl .v _])] Zh (hs := by exact ad2))
 refine dA 2047 ?_ (x := nT)
 refine sc ?_ ?_ <;> intro hbc
 exact LR
 have heq : x.aez[k] = y.aez[k] := by exact fh.1 (by simpa using hbc)
 exact LS
 have hend0 : x.aez = y.aez := tL hl0 (by rw [show x.aez.length = k by omega]; exact ha0)
 refine er ?_
 refine sT [2, 3, 5] [2, 3] ?_
 refine ca ?_
 refine sP [2, 3, 5, 6] [2, 3] ?_
 refine sL [2, 3, 5] [2, 3] (fun k : Nat => k ≤ x.Done.length ∧ List.take k x.Done = List.take k y.Done) (fun k : Nat => [(6, RV.int (k : Int))]) (fun k : Nat => []) (fun k : Nat => x.Done.length - k) 0 (by exact ⟨by omega, by simp⟩) (by exact aI (by exact rfl) tI) (by exact tI) ?_
 rintro k ⟨hk1, ha1⟩
 refine de ?_
 refine we ?_
 refine sc ?_ ?_ <;> intro hbc
 have hlt1 : k < x.Done.length := by omega
 have hlu1 : k < y.Done.length := by omega
 refine bi ?_
 refine sT [2, 3, 5, 6] [2, 3] ?_
 refine vf ?_
 refine rM ?_
 refine tz ?_
 refine sO [(2, _), (3, _), (5, _), (6, _), (7, _)] [(2, _), (3, _), (7, (63, [val _, val _, sl _ _, sl _ _, val _, val _, sl _ _]))] ?_
 refine bd ?_
 refine vf ?_
 refine rM ?_
 refine tz ?_
 refine sO [(2, _), (3, _), (5, _), (6, _), (7, _), (8, _)] [(2, _), (3, _), (7, _), (8, (63, [val _, val _, sl _ _, sl _ _, val _, val _, sl _ _]))] ?_
 refine bd ?_
 refine vv ?_
 refine vv ?_
 refine rA ?_ (x := cL [(true, [val _, val _, sl _ _, sl _ _]), (true, [val _, val _, sl _ _, sl _ _])] [(true, [val _, val _, sl .v _, sl .v _]), (true, [val _, val _, sl .v _, sl .v _])] RF (hs := by exact Uc))
 refine fz ?_
 refine cx 107 (fun gg sgg => ?_) (fun gg sgg => ?_)
 refine zt gg ?_
 refine rA ?_ (x := aO gg)
 refine rM ?_
 refine aq.cases (s := 114) rfl (fun g33 => ?_) (fun g33 => nomatch g33)
 refine zt g33 ?_
 refine rA ?_ (x := aO g33)
 refine rM ?_
 refine aq.cases (s := 121) rfl (fun g34 => ?_) (fun g34 => nomatch g34)
 refine zt g34 ?_
 refine rA ?_ (x := aO g34)
 refine cv ?_
 exact yg
 refine DH ?_
 refine DH ?_
 refine rB gg ?_ (x := dr)
 refine rA ?_ (x := aF gg)
 refine rM ?_
 refine cx 114 (fun gh sgh => ?_) (fun gh sgh => ?_)
 refine zt gh ?_
 refine rA ?_ (x := aO gh)
 refine rM ?_
 refine aq.cases (s := 121) rfl (fun g37 => ?_) (fun g37 => nomatch g37)
 refine zt g37 ?_
 refine rA ?_ (x := aO g37)
 refine cv ?_
 exact yg
 refine DI ?_
 refine DI ?_
 refine rB gh ?_ (x := dr)
 refine rA ?_ (x := aF gh)
 refine rM ?_
 refine cx 121 (fun gi sgi => ?_) (fun gi sgi => ?_)
 refine zt gi ?_
 refine rA ?_ (x := aO gi)
 refine cv ?_
 exact yg
 refine Dy ?_
 refine Dy ?_
 refine rB gi ?_ (x := cL [(false, [sl _ _]), (false, [sl _ _])] [(false, [sl .v _]), (false, [sl .v _])] EY (hs := by exact Fo))
 refine rB gi ?_ (x := nT)
 refine rA ?_ (x := aF gi)
 refine sc ?_ ?_ <;> intro hbd
 exact yg
 have heq1 : x.Done[k] = y.Done[k] := by rw [Wt]; simp_all [fh]
 refine bb ?_
 refine sG [2, 3, 5, 6, 7, 8] [2, 3, 7, 8] ?_
 refine cb ?_
 refine nx (k + 1) (by exact ⟨by omega, ra ha1 hlt1 hlu1 heq1⟩)
 have hend1 : x.Done = y.Done := tL hl1 (by rw [show x.Done.length = k by omega]; exact ha1)
 refine er ?_
 refine sT [2, 3, 5, 6] [2, 3] ?_
 refine ca ?_
 refine sP [2, 3, 5, 6, 9] [2, 3] ?_
 refine sL [2, 3, 5, 6] [2, 3] (fun k : Nat => k ≤ x.aeL.length ∧ List.take k x.aeL = List.take k y.aeL) (fun k : Nat => [(9, RV.int (k : Int))]) (fun k : Nat => []) (fun k : Nat => x.aeL.length - k) 0 (by exact ⟨by omega, by simp⟩) (by exact aI (by exact rfl) tI) (by exact tI) ?_
 rintro k ⟨hk2, ha2⟩
 refine de ?_
 refine mA ?_
 refine vH ?_
 refine sc ?_ ?_ <;> intro hbd
 have hlt2 : k < x.aeL.length := by omega
 have hlu2 : k < y.aeL.length := by omega
 refine dh ?_
 refine sQ [2, 3, 5, 6, 9] [2, 3] ?_
 refine da cG ?_
 refine dA 0 ?_ (x := lF iV)
 refine dA 1 ?_ (x := lD [sl .v _] iW)
 refine dA 0 ?_ (x := sM)
 refine Of ?_
 refine dA 0 ?_ (x := lF iV)
 refine dA 32 ?_ (x := lD [sl .v _] iW)
 refine dA 0 ?_ (x := sM)
 refine dA 224 ?_ (x := aU (by decide) fL (by exact tI) (by exact rfl) (by exact aW (by omega) rfl) (by exact rfl))
 refine dA 480 ?_ (x := lE [val _, val _, sl .v _, sl .v _, sl .v _] iX)
 refine dA 1023 ?_ (x := cL [(true, [val _, val _, sl _ _, sl _ _, sl _ _]), (true, [val _, val _, sl _ _, sl _ _, sl _ _])] [(true, [val _, val _, sl .v _, sl .v _, sl .v _]), (true, [val _, val _, sl .v _, sl .v _, sl .v _])] Zi (hs := by exact ad1))
 refine dA 2047 ?_ (x := nT)
 refine sc ?_ ?_ <;> intro hbe
 have hne : ¬ x = y := by intro e_; subst e_; simp_all [lQ]
 refine sS [2, 3, 5, 6, 9] [2, 3] ?_
 exact uX
 have heq2 : x.aeL[k] = y.aeL[k] := by exact fh.1 (by simpa using hbe)
 refine bb ?_
 refine sG [2, 3, 5, 6, 9] [2, 3] ?_
 refine cb ?_
 refine nx (k + 1) (by exact ⟨by omega, ra ha2 hlt2 hlu2 heq2⟩)
 have hend2 : x.aeL = y.aeL := tL hl2 (by rw [show x.aeL.length = k by omega]; exact ha2)
 refine bq ?_
 refine sT [2, 3, 5, 6, 9] [2, 3] ?_
 refine cm ?_
 exact rb ((rc (Wv.2 ⟨he1, he2, he3, hend0, hend1, hend2, he4⟩)).symm)
end Go.Proofs.YtmekkgdboplbjaaGreat
