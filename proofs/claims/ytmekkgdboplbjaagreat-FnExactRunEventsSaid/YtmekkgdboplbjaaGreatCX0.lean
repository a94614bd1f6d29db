/- What functions of the program compute. No condition. -/
import Derived.Test.YtmekkgdboplbjaaGreatCU0
import Derived.Test.YtmekkgdboplbjaaGreatCV0
set_option linter.all false
namespace Go.Proofs.YtmekkgdboplbjaaGreat
open Go Go.RowKit M PV Tryz
set_option maxRecDepth 10000
attribute [local irreducible] PV.Lcl PV.LclR RV.Lcl
def aad {p4 : Fl} {a : acu}  : aB prog 228 [(true, [val (vI a.acv.Id), val (vI a.acv.acz), sl .v (a.acv.acw.map bj), sl .v (a.acv.Out.map ak), val (vI a.Time), sl .v (a.acD.map ak), val (vI a.Age), val (vI a.Sent), val (vI a.Cap), sl .v (a.Rows.map (bC p4))])] (aA [(false, [val (.bool (nt a))])]) := by
 refine sF func228 fun h0 w0 Fz0 => ?_
 refine sn 0 2 fun hl0_2 => ?_
 refine sn 0 3 fun hl0_3 => ?_
 refine sn 0 5 fun hl0_5 => ?_
 refine sn 0 9 fun hl0_9 => ?_
 refine ud ?_
 refine mR ?_
 refine rA ?_ (x := lF mg)
 refine qX ?_
 refine cx 6 (fun ga sga => ?_) (fun ga sga => ?_)
 refine zt ga ?_
 refine rA ?_ (x := aT ga)
 exact HE
 refine rB ga ?_ (x := lF mg)
 refine rB ga ?_ (x := lD [val _] au)
 refine rB ga ?_ (x := lF kc)
 refine rB ga ?_ (x := lD [val _] au)
 refine rB ga ?_ (x := eN)
 refine rA ?_ (x := aK ga)
 exact HE
def aae {p1 p2 p5 p6 p7 p8 p9 p11 p12 p13 p14 p16 p17 p18 : Fl} {e : aD} {i : Int}  (hb : bi e ≤ 68719476736) : aB prog 243 [(true, [sl .v (e.Store.act.map (aC p1 p2)), val (vI e.Store.Now), val (vI e.acy), sl .v (e.Order.map ak), sl .v (e.acu.map (aQ p5 p6 p7 p8 p9)), sl .v (e.Done.map (aX p11 p12 p13 p14)), sl .v (e.acG.map (aZ p16 p17 p18)), val (vI e.Steps)]), (false, [val (vI i)])] (aA [(false, [val (.bool (rr e i))])]) := by
 refine sF func243 fun h0 w0 Fz0 => ?_
 refine sn 0 0 fun hl0_0 => ?_
 refine sn 0 3 fun hl0_3 => ?_
 refine sn 0 4 fun hl0_4 => ?_
 refine sn 0 5 fun hl0_5 => ?_
 refine sn 0 6 fun hl0_6 => ?_
 refine jx ?_
 refine xN ?_
 refine Ax ?_
 refine gp ?_
 refine cx 9 (fun ga sga => ?_) (fun ga sga => ?_)
 refine oH ?_
 exact HF
 refine rB ga ?_ (x := sM)
 refine rB ga ?_ (x := lF el)
 refine rB ga ?_ (x := lD [sl .v _] ea)
 refine rB ga ?_ (x := lN bL)
 refine rB ga ?_ (x := ip)
 refine AW ?_
 refine sc (fun hba => ?_) (fun hba => ?_)
 exact HF
 have hok : bk e = true ∧ aW i 0 (e.acu.length - 1) = true := by first | (simp_all; done) | (simp_all; omega)
 have hin := hok.2
 simp only [aW, bq, decide_eq_true_eq] at hin
 have hil : i.toNat < e.acu.length := by omega
 have hgd := iH (d := ic) hil
 refine ir ?_
 refine jV ?_
 refine rM ?_
 refine rA ?_ (x := aY (k := i.toNat) (by decide) bL (by exact tI) (by first | rfl | omega) (by exact bc hil rfl) (by exact rfl))
 refine rA ?_ (x := lE [val _, val _, sl .v _, sl .v _, val _, sl .v _, val _, val _, val _, sl .v _] fW)
 refine rW ?_
 refine aP ?_
 refine sO [(1, _), (2, _), (4, _), (5, _)] [(2, _), (5, (108, [val _, val _, sl _ _, sl _ _, val _, sl _ _, val _, val _, val _, sl _ _]))] ?_
 refine bf ?_
 refine rA ?_ (x := lF mg)
 refine qX ?_
 refine cx 26 (fun gb sgb => ?_) (fun gb sgb => ?_)
 refine xI ?_
 exact HG
 refine rB gb ?_ (x := lF kc)
 refine rB gb ?_ (x := lD [val _] au)
 refine rB gb ?_ (x := lF mg)
 refine rB gb ?_ (x := lD [val _] au)
 refine rB gb ?_ (x := cu)
 refine rA ?_ (x := aK gb)
 exact HG
def aaf {p1 p2 p5 p6 p7 p8 p9 p11 p12 p13 p14 p16 p17 p18 : Fl} {e : aD}  (hb : bi e ≤ 68719476736) : aB prog 176 [(true, [sl .v (e.Store.act.map (aC p1 p2)), val (vI e.Store.Now), val (vI e.acy), sl .v (e.Order.map ak), sl .v (e.acu.map (aQ p5 p6 p7 p8 p9)), sl .v (e.Done.map (aX p11 p12 p13 p14)), sl .v (e.acG.map (aZ p16 p17 p18)), val (vI e.Steps)])] (aA [(false, [sl aa ((parts e).map ak)])]) := by
 refine sF func176 fun h0 w0 Fz0 => ?_
 refine sn 0 0 fun hl0_0 => ?_
 refine sn 0 3 fun hl0_3 => ?_
 refine sn 0 4 fun hl0_4 => ?_
 refine sn 0 5 fun hl0_5 => ?_
 refine sn 0 6 fun hl0_6 => ?_
 refine jx ?_
 refine Mr ?_
 refine ow ?_
 refine sS [1, 2, 3] [1] ?_
 refine cH ?_
 refine sP [1, 2, 3, 4] [1] ?_
 refine sL [1, 2] [1] (fun k : Nat => k ≤ e.acu.length ∧ (0 < k → bk e = true)) (fun k : Nat => [(3, RV.slc aa ((gX e (e.acu.take k)).map ak)), (4, RV.int (k : Int))]) (fun k : Nat => []) (fun k : Nat => e.acu.length - k) 0 (by exact ⟨by omega, fun h => absurd h (Nat.lt_irrefl 0)⟩) (by exact aI (by exact rfl) (aI (by exact rfl) tI)) (by exact tI) ?_
 rintro k ⟨hk, ha⟩
 refine eH ?_
 refine qQ ?_
 refine rM ?_
 refine cx 11 (fun ga sga => ?_) (fun ga sga => ?_)
 refine rB ga ?_ (x := lD [sl .v _, val _, val _, sl .v _, sl .v _, sl .v _, sl .v _, val _] bU)
 refine rB ga ?_ (x := cL [(true, [sl _ _, val _, val _, sl _ _, sl _ _, sl _ _, sl _ _, val _])] [(true, [sl .v _, val _, val _, sl .v _, sl .v _, sl .v _, sl .v _, val _])] yk (hs := by exact (yv (by omega))))
 refine rA ?_ (x := aT ga)
 refine sc (fun hba => ?_) (fun hba => ?_)
 have hok : bk e = true := by simp_all
 have hlt : k < e.acu.length := (by first | omega | (simp_all; done) | (simp_all; omega))
 have haw := Wh hok hlt
 have hef := ie hok
 have hpl := CR (e := e) (l := e.acu.take k)
 rw [br] at hpl
 refine cO ?_
 refine sQ [1, 2, 3, 4] [1] ?_
 refine Bp ?_
 refine dA 0 ?_ (x := sM)
 refine dA 3 ?_ (x := cL [(true, [sl _ _, val _, val _, sl _ _, sl _ _, sl _ _, sl _ _, val _]), (false, [val _])] [(true, [sl .v _, val _, val _, sl .v _, sl .v _, sl .v _, sl .v _, val _]), (false, [val _])] Xb (hs := by exact (aae (by omega))))
 refine dA 7 ?_ (x := sM)
 refine dx 20 (fun gb sgb => ?_) (fun gb sgb => ?_)
 refine dB 15 gb ?_ (x := lF el)
 refine dB 31 gb ?_ (x := lD [sl .v _] ea)
 refine dB 15 gb ?_ (x := sM)
 refine dB 127 gb ?_ (x := aY (by decide) bL (by exact tI) (by exact rfl) (by exact bc (by omega) rfl) (by exact rfl))
 refine dB 255 gb ?_ (x := bI (by decide) hR (by exact nl rfl))
 refine dB 511 gb ?_ (x := lE [sl .v _] bv)
 refine dB 15 gb ?_ (x := lF jG)
 refine dB 1039 gb ?_ (x := lD [val _] au)
 refine dB 4095 gb ?_ (x := cL [(false, [sl _ _]), (false, [val _])] [(false, [sl .v _]), (false, [val _])] xY (hs := by exact yr))
 refine dA 8191 ?_ (x := aT gb)
 refine sc (fun hbb => ?_) (fun hbb => ?_)
 have hc : jK e e.acu[k] = true := by simp_all [jK]
 refine sG [1, 2, 3, 4] [1] ?_
 refine rA ?_ (x := tM)
 refine jV ?_
 refine Bk ?_
 refine Bl ?_
 refine xu ?_
 exact HH
 exact HI
 refine dF 15 gb ?_
 refine dF 31 gb ?_
 refine dF 15 gb ?_
 refine dF 127 gb ?_
 refine dF 255 gb ?_
 refine dF 511 gb ?_
 refine dF 15 gb ?_
 refine dF 1039 gb ?_
 refine dF 4095 gb ?_
 refine dA 8191 ?_ (x := aK gb)
 refine fT ?_
 exact HI
 exact HJ
 refine pL ?_
 exact HJ
def aag {p1 p2 p5 p6 p7 p8 p9 p11 p12 p13 p14 p16 p17 p18 : Fl} {e : aD}  (hb : bi e ≤ 68719476736) : aB prog 148 [(true, [sl .v (e.Store.act.map (aC p1 p2)), val (vI e.Store.Now), val (vI e.acy), sl .v (e.Order.map ak), sl .v (e.acu.map (aQ p5 p6 p7 p8 p9)), sl .v (e.Done.map (aX p11 p12 p13 p14)), sl .v (e.acG.map (aZ p16 p17 p18)), val (vI e.Steps)])] (aA [(false, [sl aa ((parts e).map ak)])]) := by
 refine sF func148 fun h0 w0 Fz0 => ?_
 refine sn 0 0 fun hl0_0 => ?_
 refine sn 0 3 fun hl0_3 => ?_
 refine sn 0 4 fun hl0_4 => ?_
 refine sn 0 5 fun hl0_5 => ?_
 refine sn 0 6 fun hl0_6 => ?_
 refine jx ?_
 refine Mr ?_
 refine ow ?_
 refine sS [1, 2, 3] [1] ?_
 refine Ay ?_
 refine rA ?_ (x := nT)
 refine sc (fun hba => ?_) (fun hba => ?_)
 have hok : bk e = false := by simpa using hba
 refine sS [1, 2, 3] [1] ?_
 refine ov ?_
 exact (aI (by refine cG ?_; rw [Of hok]; rfl) tI)
 have hok : bk e = true := by simpa using hba
 have hef := ie hok
 refine dt ?_
 refine sS [1, 2, 3] [1] ?_
 refine pK ?_
 refine sP [1, 2, 3, 12, 13, 14] [1] ?_
 refine sL [1, 2, 12, 13] [1] (fun k : Nat => k ≤ e.acu.length) (fun k : Nat => [(3, RV.slc aa ((gX e (e.acu.take k)).map ak)), (14, RV.int (k : Int))]) (fun k : Nat => []) (fun k : Nat => e.acu.length - k) 0 (by omega) (by exact aI (by exact rfl) (aI (by exact rfl) tI)) (by exact tI) ?_
 rintro k hk
 refine cF ?_
 refine sc (fun hbb => ?_) (fun hbb => ?_)
 have hlt : k < e.acu.length := by omega
 have hpl := CR (e := e) (l := e.acu.take k)
 rw [br] at hpl
 refine bB ?_
 refine sT [1, 2, 3, 12, 13, 14] [1] ?_
 refine rY ?_
 refine rW ?_
 refine aP ?_
 refine sO [(1, _), (2, _), (3, _), (5, _), (12, _), (13, _), (14, _)] [(1, _), (5, (108, [val _, val _, sl _ _, sl _ _, val _, sl _ _, val _, val _, val _, sl _ _]))] ?_
 refine bf ?_
 refine rA ?_ (x := lD [val _, val _, sl .v _, sl .v _, val _, sl .v _, val _, val _, val _, sl .v _] fW)
 refine rA ?_ (x := cL [(true, [val _, val _, sl _ _, sl _ _, val _, sl _ _, val _, val _, val _, sl _ _])] [(true, [val _, val _, sl .v _, sl .v _, val _, sl .v _, val _, val _, val _, sl .v _])] WU (hs := by exact aad))
 refine rM ?_
 refine cx 20 (fun ga sga => ?_) (fun ga sga => ?_)
 refine rB ga ?_ (x := lF hR)
 refine rB ga ?_ (x := lD [sl .v _] bv)
 refine rB ga ?_ (x := lF jG)
 refine rB ga ?_ (x := lD [val _] au)
 refine rB ga ?_ (x := cL [(false, [sl _ _]), (false, [val _])] [(false, [sl .v _]), (false, [val _])] MY (hs := by exact OY))
 refine rA ?_ (x := aT ga)
 refine sc (fun hbc => ?_) (fun hbc => ?_)
 have hc : jK e e.acu[k] = true := by simp_all [jK]
 refine sG [1, 2, 3, 5, 12, 13, 14] [1, 5] ?_
 refine rA ?_ (x := tM)
 refine rA ?_ (x := lF fw)
 refine uv ?_
 refine sm ?_
 exact HK
 exact HL
 refine pL ?_
 exact HL
 have hend : k = e.acu.length := by omega
 refine bG ?_
 refine sT [1, 2, 3, 12, 13, 14] [1] ?_
 refine ov ?_
 exact (aI (by refine cG ?_; rw [tg hok, hend, cn]) tI)
def Pu {p1 p2 p5 p6 p7 p8 p9 p11 p12 p13 p14 p16 p17 p18 : Fl} {e : aD} {id : Int}  : aB prog 149 [(true, [sl .v (e.Store.act.map (aC p1 p2)), val (vI e.Store.Now), val (vI e.acy), sl .v (e.Order.map ak), sl .v (e.acu.map (aQ p5 p6 p7 p8 p9)), sl .v (e.Done.map (aX p11 p12 p13 p14)), sl .v (e.acG.map (aZ p16 p17 p18)), val (vI e.Steps)]), (false, [val (vI id)])] (aA [(false, [val (vI (dJ e.acu id))])]) := by
 refine sF func149 fun h0 w0 Fz0 => ?_
 refine sn 0 0 fun hl0_0 => ?_
 refine sn 0 3 fun hl0_3 => ?_
 refine sn 0 4 fun hl0_4 => ?_
 refine sn 0 5 fun hl0_5 => ?_
 refine sn 0 6 fun hl0_6 => ?_
 refine jx ?_
 refine xN ?_
 refine pK ?_
 refine sP [1, 2, 4, 8, 9, 10] [2] ?_
 refine sL [1, 2, 8, 9] [2] (fun k : Nat => k ≤ e.acu.length ∧ (e.acu.take k).any (eb id) = false) (fun k : Nat => [(10, RV.int (k : Int))]) (fun k : Nat => []) (fun k : Nat => e.acu.length - k) 0 (by exact ⟨by omega, by simp⟩) (by exact aI (by exact rfl) tI) (by exact tI) ?_
 rintro k ⟨hk, ha⟩
 refine cF ?_
 refine sc (fun hba => ?_) (fun hba => ?_)
 have hlt : k < e.acu.length := by omega
 refine bB ?_
 refine sT [1, 2, 8, 9, 10] [2] ?_
 refine rM ?_
 refine rY ?_
 refine rX ?_ (x := (bY (by decide) fJ nk))
 refine rS ?_
 refine KC ?_
 refine sO [(1, _), (2, _), (5, _), (6, _), (8, _), (9, _), (10, _)] [(2, _), (6, (108, [val _, val _, sl _ _, sl _ _, val _, sl _ _, val _, val _, val _, sl _ _]))] ?_
 refine bf ?_
 refine rA ?_ (x := lF fw)
 refine uv ?_
 refine rM ?_
 refine rA ?_ (x := eG)
 refine sc (fun hbb => ?_) (fun hbb => ?_)
 have hy : eb id e.acu[k] = true := by first | (simp_all [eb]; done) | simpa [eb] using hbb
 refine sS [1, 2, 5, 6, 8, 9, 10] [2, 6] ?_
 exact HM
 have hno : eb id e.acu[k] = false := by first | (simp_all [eb]; done) | simpa [eb] using hbb
 refine bm ?_
 refine sG [1, 2, 5, 6, 8, 9, 10] [2, 6] ?_
 refine df ?_
 exact Hf
 have hend : k = e.acu.length := by omega
 rw [hend, cn] at ha
 refine bG ?_
 refine sT [1, 2, 8, 9, 10] [2] ?_
 exact HN
def yw {p1 p2 p5 p6 p7 p8 p9 p11 p12 p13 p14 p16 p17 p18 : Fl} {e : aD} {id : Int}  : aB prog 177 [(true, [sl .v (e.Store.act.map (aC p1 p2)), val (vI e.Store.Now), val (vI e.acy), sl .v (e.Order.map ak), sl .v (e.acu.map (aQ p5 p6 p7 p8 p9)), sl .v (e.Done.map (aX p11 p12 p13 p14)), sl .v (e.acG.map (aZ p16 p17 p18)), val (vI e.Steps)]), (false, [val (vI id)])] (aA [(false, [val (vI (dJ e.acu id))])]) := by
 refine sF func177 fun h0 w0 Fz0 => ?_
 refine sn 0 0 fun hl0_0 => ?_
 refine sn 0 3 fun hl0_3 => ?_
 refine sn 0 4 fun hl0_4 => ?_
 refine sn 0 5 fun hl0_5 => ?_
 refine sn 0 6 fun hl0_6 => ?_
 refine jx ?_
 refine xN ?_
 refine cH ?_
 refine sP [1, 2, 4, 5] [2] ?_
 refine sL [1, 2] [2] (fun k : Nat => k ≤ e.acu.length ∧ (e.acu.take k).any (eb id) = false) (fun k : Nat => [(5, RV.int (k : Int))]) (fun k : Nat => []) (fun k : Nat => e.acu.length - k) 0 (by exact ⟨by omega, by simp⟩) (by exact aI (by exact rfl) tI) (by exact tI) ?_
 rintro k ⟨hk, ha⟩
 refine eH ?_
 refine qQ ?_
 refine sc (fun hba => ?_) (fun hba => ?_)
 have hlt : k < e.acu.length := by omega
 refine bB ?_
 refine sT [1, 2, 5] [2] ?_
 refine jV ?_
 refine Bk ?_
 refine Bl ?_
 refine rA ?_ (x := lE [val _] au)
 refine rM ?_
 refine rA ?_ (x := eG)
 refine sc (fun hbb => ?_) (fun hbb => ?_)
 have hy : eb id e.acu[k] = true := by first | (simp_all [eb]; done) | simpa [eb] using hbb
 refine sS [1, 2, 5] [2] ?_
 exact HM
 have hno : eb id e.acu[k] = false := by first | (simp_all [eb]; done) | simpa [eb] using hbb
 refine bm ?_
 refine sG [1, 2, 5] [2] ?_
 exact Hg
 have hend : k = e.acu.length := by omega
 rw [hend, cn] at ha
 refine bG ?_
 refine sT [1, 2, 5] [2] ?_
 exact HN
end Go.Proofs.YtmekkgdboplbjaaGreat
