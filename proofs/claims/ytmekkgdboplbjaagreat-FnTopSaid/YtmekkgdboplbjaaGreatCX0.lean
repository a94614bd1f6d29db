/- What functions of the program compute. No condition. -/
import Derived.Test.YtmekkgdboplbjaaGreatCS0
import Derived.Test.YtmekkgdboplbjaaGreatCT0
set_option linter.all false
namespace Go.Proofs.YtmekkgdboplbjaaGreat
open Go Go.RowKit M PV Tryz
set_option maxRecDepth 10000
attribute [local irreducible] PV.Lcl PV.LclR RV.Lcl
def adf {p4 : Fl} {a : aez}  : aN prog 228 [(true, [val (vI a.aeA.Id), val (vI a.aeA.aeE), sl .v (a.aeA.aeB.map bH), sl .v (a.aeA.Out.map am), val (vI a.Time), sl .v (a.aeI.map am), val (vI a.Age), val (vI a.Sent), val (vI a.Cap), sl .v (a.Rows.map (bI p4))])] (aJ [(false, [val (.bool (lz a))])]) := by
 refine sF func228 fun h0 w0 Fz0 => ?_
 refine sn 0 2 fun hl0_2 => ?_
 refine sn 0 3 fun hl0_3 => ?_
 refine sn 0 5 fun hl0_5 => ?_
 refine sn 0 9 fun hl0_9 => ?_
 refine sR ?_
 refine CX ?_
 refine sT [1, 2] [1] ?_
 refine rA ?_ (x := lF ri)
 refine oA ?_
 refine cx 6 (fun ga sga => ?_) (fun ga sga => ?_)
 refine zt ga ?_
 refine rA ?_ (x := aO ga)
 exact Ko
 refine rB ga ?_ (x := lF ri)
 refine rB ga ?_ (x := lD [val _] az)
 refine rB ga ?_ (x := lF mI)
 refine rB ga ?_ (x := lD [val _] az)
 refine rB ga ?_ (x := dI)
 refine rA ?_ (x := aF ga)
 exact Ko
def adg {p1 p2 p5 p6 p7 p8 p9 p11 p12 p13 p14 p16 p17 p18 : Fl} {e : aA} {i : Int}  (hb : bp e ≤ 68719476736) : aN prog 243 [(true, [sl .v (e.Store.aey.map (aG p1 p2)), val (vI e.Store.Now), val (vI e.aeD), sl .v (e.Order.map am), sl .v (e.aez.map (aT p5 p6 p7 p8 p9)), sl .v (e.Done.map (bn p11 p12 p13 p14)), sl .v (e.aeL.map (bl p16 p17 p18)), val (vI e.Steps)]), (false, [val (vI i)])] (aJ [(false, [val (.bool (rz e i))])]) := by
 refine sF func243 fun h0 w0 Fz0 => ?_
 refine sn 0 0 fun hl0_0 => ?_
 refine sn 0 3 fun hl0_3 => ?_
 refine sn 0 4 fun hl0_4 => ?_
 refine sn 0 5 fun hl0_5 => ?_
 refine sn 0 6 fun hl0_6 => ?_
 refine jO ?_
 refine wc ?_
 refine CA ?_
 refine fz ?_
 refine cx 9 (fun ga sga => ?_) (fun ga sga => ?_)
 refine mE ?_
 exact Kp
 refine rB ga ?_ (x := sM)
 refine rB ga ?_ (x := lF ee)
 refine rB ga ?_ (x := lD [sl .v _] dR)
 refine rB ga ?_ (x := lN cg)
 refine rB ga ?_ (x := fI)
 refine yt ?_
 refine sc ?_ ?_ <;> intro hba
 exact Kp
 have hok : aX e = true ∧ aK i 0 (e.aez.length - 1) = true := by first | (simp_all; done) | (simp_all; omega)
 have hin := hok.2
 simp only [aK, aS, decide_eq_true_eq] at hin
 have hil : i.toNat < e.aez.length := by omega
 have hgd := df (d := ii) hil
 refine bb ?_
 refine sS [1, 2, 4] [2] ?_
 refine mx ?_
 refine rM ?_
 refine rA ?_ (x := aU (k := i.toNat) (by decide) cg (by exact tI) (by first | rfl | omega) (by exact aW hil rfl) (by exact rfl))
 refine rA ?_ (x := lE [val _, val _, sl .v _, sl .v _, val _, sl .v _, val _, val _, val _, sl .v _] gv)
 refine qy ?_
 refine be ?_
 refine sO [(1, _), (2, _), (4, _), (5, _)] [(2, _), (5, (108, [val _, val _, sl _ _, sl _ _, val _, sl _ _, val _, val _, val _, sl _ _]))] ?_
 refine bd ?_
 refine rA ?_ (x := lF ri)
 refine oA ?_
 refine cx 26 (fun gb sgb => ?_) (fun gb sgb => ?_)
 refine vY ?_
 exact Kq
 refine rB gb ?_ (x := lF mI)
 refine rB gb ?_ (x := lD [val _] az)
 refine rB gb ?_ (x := lF ri)
 refine rB gb ?_ (x := lD [val _] az)
 refine rB gb ?_ (x := dq)
 refine rA ?_ (x := aF gb)
 exact Kq
def adh {p1 p2 p5 p6 p7 p8 p9 p11 p12 p13 p14 p16 p17 p18 : Fl} {e : aA}  (hb : bp e ≤ 68719476736) : aN prog 176 [(true, [sl .v (e.Store.aey.map (aG p1 p2)), val (vI e.Store.Now), val (vI e.aeD), sl .v (e.Order.map am), sl .v (e.aez.map (aT p5 p6 p7 p8 p9)), sl .v (e.Done.map (bn p11 p12 p13 p14)), sl .v (e.aeL.map (bl p16 p17 p18)), val (vI e.Steps)])] (aJ [(false, [sl ab ((parts e).map am)])]) := by
 refine sF func176 fun h0 w0 Fz0 => ?_
 refine sn 0 0 fun hl0_0 => ?_
 refine sn 0 3 fun hl0_3 => ?_
 refine sn 0 4 fun hl0_4 => ?_
 refine sn 0 5 fun hl0_5 => ?_
 refine sn 0 6 fun hl0_6 => ?_
 refine jO ?_
 refine yF ?_
 refine np ?_
 refine sS [1, 2, 3] [1] ?_
 refine ca ?_
 refine sP [1, 2, 3, 4] [1] ?_
 refine sL [1, 2] [1] (fun k : Nat => k ≤ e.aez.length ∧ (0 < k → aX e = true)) (fun k : Nat => [(3, RV.slc ab ((gM e (e.aez.take k)).map am)), (4, RV.int (k : Int))]) (fun k : Nat => []) (fun k : Nat => e.aez.length - k) 0 (by exact ⟨by omega, fun h => absurd h (Nat.lt_irrefl 0)⟩) (by exact aI (by exact rfl) (aI (by exact rfl) tI)) (by exact tI) ?_
 rintro k ⟨hk, ha⟩
 refine de ?_
 refine pA ?_
 refine rM ?_
 refine cx 11 (fun ga sga => ?_) (fun ga sga => ?_)
 refine rB ga ?_ (x := lD [sl .v _, val _, val _, sl .v _, sl .v _, sl .v _, sl .v _, val _] bU)
 refine rB ga ?_ (x := cL [(true, [sl _ _, val _, val _, sl _ _, sl _ _, sl _ _, sl _ _, val _])] [(true, [sl .v _, val _, val _, sl .v _, sl .v _, sl .v _, sl .v _, val _])] Ab (hs := by exact (AR (by omega))))
 refine rA ?_ (x := aO ga)
 refine sc ?_ ?_ <;> intro hba
 have hok : aX e = true := by simp_all
 have hlt : k < e.aez.length := (by first | omega | (simp_all; done) | (simp_all; omega))
 have haw := Xl hok hlt
 have hef := gW hok
 have hpl := EJ (e := e) (l := e.aez.take k)
 rw [bv] at hpl
 refine dh ?_
 refine sQ [1, 2, 3, 4] [1] ?_
 refine PJ ?_
 refine dA 0 ?_ (x := sM)
 refine dA 3 ?_ (x := cL [(true, [sl _ _, val _, val _, sl _ _, sl _ _, sl _ _, sl _ _, val _]), (false, [val _])] [(true, [sl .v _, val _, val _, sl .v _, sl .v _, sl .v _, sl .v _, val _]), (false, [val _])] YH (hs := by exact (adg (by omega))))
 refine dA 7 ?_ (x := sM)
 refine dx 20 (fun gb sgb => ?_) (fun gb sgb => ?_)
 refine dB 15 gb ?_ (x := lF ee)
 refine dB 31 gb ?_ (x := lD [sl .v _] dR)
 refine dB 15 gb ?_ (x := sM)
 refine dB 127 gb ?_ (x := aU (by decide) cg (by exact tI) (by exact rfl) (by exact aW (by omega) rfl) (by exact rfl))
 refine dB 255 gb ?_ (x := cd (by decide) jt (by exact nl rfl))
 refine dB 511 gb ?_ (x := lE [sl .v _] bF)
 refine dB 15 gb ?_ (x := lF mJ)
 refine dB 1039 gb ?_ (x := lD [val _] az)
 refine dB 4095 gb ?_ (x := cL [(false, [sl _ _]), (false, [val _])] [(false, [sl .v _]), (false, [val _])] zF (hs := by exact Ak))
 refine dA 8191 ?_ (x := aO gb)
 refine sc ?_ ?_ <;> intro hbb
 have hc : ew e e.aez[k] = true := by simp_all [ew]
 refine sG [1, 2, 3, 4] [1] ?_
 refine rA ?_ (x := tM)
 refine mx ?_
 refine Di ?_
 refine rA ?_ (x := cd (by decide) gV (by exact nl rfl))
 refine vr ?_
 refine ll ?_
 exact Kr
 exact Ks
 refine dF 15 gb ?_
 refine dF 31 gb ?_
 refine dF 15 gb ?_
 refine dF 127 gb ?_
 refine dF 255 gb ?_
 refine dF 511 gb ?_
 refine dF 15 gb ?_
 refine dF 1039 gb ?_
 refine dF 4095 gb ?_
 refine dA 8191 ?_ (x := aF gb)
 refine eX ?_
 exact Ks
 exact Kt
 refine mD ?_
 exact Kt
def adi {p1 p2 p5 p6 p7 p8 p9 p11 p12 p13 p14 p16 p17 p18 : Fl} {e : aA}  (hb : bp e ≤ 68719476736) : aN prog 148 [(true, [sl .v (e.Store.aey.map (aG p1 p2)), val (vI e.Store.Now), val (vI e.aeD), sl .v (e.Order.map am), sl .v (e.aez.map (aT p5 p6 p7 p8 p9)), sl .v (e.Done.map (bn p11 p12 p13 p14)), sl .v (e.aeL.map (bl p16 p17 p18)), val (vI e.Steps)])] (aJ [(false, [sl ab ((parts e).map am)])]) := by
 refine sF func148 fun h0 w0 Fz0 => ?_
 refine sn 0 0 fun hl0_0 => ?_
 refine sn 0 3 fun hl0_3 => ?_
 refine sn 0 4 fun hl0_4 => ?_
 refine sn 0 5 fun hl0_5 => ?_
 refine sn 0 6 fun hl0_6 => ?_
 refine jO ?_
 refine yF ?_
 refine np ?_
 refine sS [1, 2, 3] [1] ?_
 refine sB ?_
 refine rA ?_ (x := nT)
 refine sc ?_ ?_ <;> intro hba
 have hok : aX e = false := by simpa using hba
 refine sS [1, 2, 3] [1] ?_
 refine jQ ?_
 exact (aI (by refine bG ?_; rw [QO hok]; rfl) tI)
 have hok : aX e = true := by simpa using hba
 have hef := gW hok
 refine eG ?_
 refine sS [1, 2, 3] [1] ?_
 refine oz ?_
 refine sP [1, 2, 3, 12, 13, 14] [1] ?_
 refine sL [1, 2, 12, 13] [1] (fun k : Nat => k ≤ e.aez.length) (fun k : Nat => [(3, RV.slc ab ((gM e (e.aez.take k)).map am)), (14, RV.int (k : Int))]) (fun k : Nat => []) (fun k : Nat => e.aez.length - k) 0 (by omega) (by exact aI (by exact rfl) (aI (by exact rfl) tI)) (by exact tI) ?_
 rintro k hk
 refine cn ?_
 refine sc ?_ ?_ <;> intro hbb
 have hlt : k < e.aez.length := by omega
 have hpl := EJ (e := e) (l := e.aez.take k)
 rw [bv] at hpl
 refine bi ?_
 refine sT [1, 2, 3, 12, 13, 14] [1] ?_
 refine qz ?_
 refine qy ?_
 refine be ?_
 refine sO [(1, _), (2, _), (3, _), (5, _), (12, _), (13, _), (14, _)] [(1, _), (5, (108, [val _, val _, sl _ _, sl _ _, val _, sl _ _, val _, val _, val _, sl _ _]))] ?_
 refine bd ?_
 refine rA ?_ (x := lD [val _, val _, sl .v _, sl .v _, val _, sl .v _, val _, val _, val _, sl .v _] gv)
 refine rA ?_ (x := cL [(true, [val _, val _, sl _ _, sl _ _, val _, sl _ _, val _, val _, val _, sl _ _])] [(true, [val _, val _, sl .v _, sl .v _, val _, sl .v _, val _, val _, val _, sl .v _])] Yy (hs := by exact adf))
 refine rM ?_
 refine cx 20 (fun ga sga => ?_) (fun ga sga => ?_)
 refine rB ga ?_ (x := lF jt)
 refine rB ga ?_ (x := lD [sl .v _] bF)
 refine vC ?_
 refine rB ga ?_ (x := cL [(false, [sl _ _]), (false, [val _])] [(false, [sl .v _]), (false, [val _])] Qk (hs := by exact RP))
 refine rA ?_ (x := aO ga)
 refine sc ?_ ?_ <;> intro hbc
 have hc : ew e e.aez[k] = true := by simp_all [ew]
 refine sG [1, 2, 3, 5, 12, 13, 14] [1, 5] ?_
 refine rA ?_ (x := tM)
 refine rA ?_ (x := lF gV)
 refine vF ?_
 refine ll ?_
 exact Ku
 exact Kv
 refine mD ?_
 exact Kv
 have hend : k = e.aez.length := by omega
 refine bq ?_
 refine sT [1, 2, 3, 12, 13, 14] [1] ?_
 refine jQ ?_
 exact (aI (by refine bG ?_; rw [pU hok, hend, cj]) tI)
def TY {p1 p2 p5 p6 p7 p8 p9 p11 p12 p13 p14 p16 p17 p18 : Fl} {e : aA} {id : Int}  : aN prog 149 [(true, [sl .v (e.Store.aey.map (aG p1 p2)), val (vI e.Store.Now), val (vI e.aeD), sl .v (e.Order.map am), sl .v (e.aez.map (aT p5 p6 p7 p8 p9)), sl .v (e.Done.map (bn p11 p12 p13 p14)), sl .v (e.aeL.map (bl p16 p17 p18)), val (vI e.Steps)]), (false, [val (vI id)])] (aJ [(false, [val (vI (dy e.aez id))])]) := by
 refine sF func149 fun h0 w0 Fz0 => ?_
 refine sn 0 0 fun hl0_0 => ?_
 refine sn 0 3 fun hl0_3 => ?_
 refine sn 0 4 fun hl0_4 => ?_
 refine sn 0 5 fun hl0_5 => ?_
 refine sn 0 6 fun hl0_6 => ?_
 refine jO ?_
 refine wc ?_
 refine oz ?_
 refine sP [1, 2, 4, 8, 9, 10] [2] ?_
 refine sL [1, 2, 8, 9] [2] (fun k : Nat => k ≤ e.aez.length ∧ (e.aez.take k).any (eh id) = false) (fun k : Nat => [(10, RV.int (k : Int))]) (fun k : Nat => []) (fun k : Nat => e.aez.length - k) 0 (by exact ⟨by omega, by simp⟩) (by exact aI (by exact rfl) tI) (by exact tI) ?_
 rintro k ⟨hk, ha⟩
 refine cn ?_
 refine sc ?_ ?_ <;> intro hba
 have hlt : k < e.aez.length := by omega
 refine bi ?_
 refine sT [1, 2, 8, 9, 10] [2] ?_
 refine rM ?_
 refine qz ?_
 refine rX ?_ (x := (cr (by decide) gI rq))
 refine rS ?_
 refine Ok ?_
 refine sO [(1, _), (2, _), (5, _), (6, _), (8, _), (9, _), (10, _)] [(2, _), (6, (108, [val _, val _, sl _ _, sl _ _, val _, sl _ _, val _, val _, val _, sl _ _]))] ?_
 refine bd ?_
 refine rA ?_ (x := lF gV)
 refine rA ?_ (x := lF ib)
 refine oo ?_
 refine rA ?_ (x := dQ)
 refine sc ?_ ?_ <;> intro hbb
 have hy : eh id e.aez[k] = true := by first | (simp_all [eh]; done) | simpa [eh] using hbb
 refine sS [1, 2, 5, 6, 8, 9, 10] [2, 6] ?_
 exact Kw
 have hno : eh id e.aez[k] = false := by first | (simp_all [eh]; done) | simpa [eh] using hbb
 refine bb ?_
 refine sG [1, 2, 5, 6, 8, 9, 10] [2, 6] ?_
 refine cF ?_
 exact Jy
 have hend : k = e.aez.length := by omega
 rw [hend, cj] at ha
 refine bq ?_
 refine sT [1, 2, 8, 9, 10] [2] ?_
 exact Kx
def AS {p1 p2 p5 p6 p7 p8 p9 p11 p12 p13 p14 p16 p17 p18 : Fl} {e : aA} {id : Int}  : aN prog 177 [(true, [sl .v (e.Store.aey.map (aG p1 p2)), val (vI e.Store.Now), val (vI e.aeD), sl .v (e.Order.map am), sl .v (e.aez.map (aT p5 p6 p7 p8 p9)), sl .v (e.Done.map (bn p11 p12 p13 p14)), sl .v (e.aeL.map (bl p16 p17 p18)), val (vI e.Steps)]), (false, [val (vI id)])] (aJ [(false, [val (vI (dy e.aez id))])]) := by
 refine sF func177 fun h0 w0 Fz0 => ?_
 refine sn 0 0 fun hl0_0 => ?_
 refine sn 0 3 fun hl0_3 => ?_
 refine sn 0 4 fun hl0_4 => ?_
 refine sn 0 5 fun hl0_5 => ?_
 refine sn 0 6 fun hl0_6 => ?_
 refine jO ?_
 refine wc ?_
 refine ca ?_
 refine sP [1, 2, 4, 5] [2] ?_
 refine sL [1, 2] [2] (fun k : Nat => k ≤ e.aez.length ∧ (e.aez.take k).any (eh id) = false) (fun k : Nat => [(5, RV.int (k : Int))]) (fun k : Nat => []) (fun k : Nat => e.aez.length - k) 0 (by exact ⟨by omega, by simp⟩) (by exact aI (by exact rfl) tI) (by exact tI) ?_
 rintro k ⟨hk, ha⟩
 refine de ?_
 refine pA ?_
 refine sc ?_ ?_ <;> intro hba
 have hlt : k < e.aez.length := by omega
 refine bi ?_
 refine sT [1, 2, 5] [2] ?_
 refine mx ?_
 refine Di ?_
 refine rA ?_ (x := cd (by decide) gV (by exact nl rfl))
 refine vr ?_
 refine to ?_
 refine sc ?_ ?_ <;> intro hbb
 have hy : eh id e.aez[k] = true := by first | (simp_all [eh]; done) | simpa [eh] using hbb
 refine sS [1, 2, 5] [2] ?_
 exact Kw
 have hno : eh id e.aez[k] = false := by first | (simp_all [eh]; done) | simpa [eh] using hbb
 refine bb ?_
 refine sG [1, 2, 5] [2] ?_
 exact Jz
 have hend : k = e.aez.length := by omega
 rw [hend, cj] at ha
 refine bq ?_
 refine sT [1, 2, 5] [2] ?_
 exact Kx
end Go.Proofs.YtmekkgdboplbjaaGreat
