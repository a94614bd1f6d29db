/- What functions of the program compute. No condition. -/
import Derived.Test.YtmekkgdboplbjaaGreatCY0
import Derived.Test.YtmekkgdboplbjaaGreatCA1
set_option linter.all false
namespace Go.Proofs.YtmekkgdboplbjaaGreat
open Go Go.RowKit M PV Tryz
set_option maxRecDepth 10000
attribute [local irreducible] PV.Lcl PV.LclR RV.Lcl
def abv {l : List Int} {x : Int}  (hb : l.length ≤ 68719476736) : aB prog 152 [(false, [sl .v (l.map ak)]), (false, [val (vI x)])] (aA [(false, [sl aa ((lz l x).map ak)])]) := by
 refine sF func152 fun h0 w0 Fz0 => ?_
 refine sj 0 fun hl0 => ?_
 refine pu ?_
 refine sS [0, 1, 4] [] ?_
 refine ow ?_
 refine sS [0, 1, 4, 5] [] ?_
 refine lP ?_
 refine dZ ?_
 refine sP [0, 1, 4, 5, 9, 10, 11] [] ?_
 refine sL [0, 1, 4, 9, 10] [] (fun k : Nat => k ≤ l.length) (fun k : Nat => [(5, RV.slc aa ((lz (l.take k) x).map ak)), (11, RV.int (k : Int))]) (fun k : Nat => []) (fun k : Nat => l.length - k) 0 (by omega) (by exact aI (by exact rfl) (aI (by exact rfl) tI)) (by exact tI) ?_
 rintro k hk
 refine cF ?_
 refine sc (fun hba => ?_) (fun hba => ?_)
 have hlt : k < l.length := by omega
 have hwl := Dz (l.take k) x
 rw [br] at hwl
 refine bB ?_
 refine sS [0, 1, 4, 5, 9, 10, 11] [] ?_
 refine oJ ?_
 refine sS [0, 1, 4, 5, 7, 9, 10, 11] [] ?_
 refine la ?_
 refine rA ?_ (x := eX)
 refine sc (fun hbb => ?_) (fun hbb => ?_)
 have hne : ¬ l[k] = x := hbb
 refine sG [0, 1, 4, 5, 7, 9, 10, 11] [] ?_
 refine rA ?_ (x := tM)
 refine rM ?_
 refine sm ?_
 exact HS
 have hne : l[k] = x := by first | exact hbb | (simp_all; done) | omega
 refine bm ?_
 exact HS
 have hend : k = l.length := by omega
 refine bG ?_
 refine sS [0, 1, 4, 5, 9, 10, 11] [] ?_
 exact tQ
def abw {l : List Int} {x : Int}  (hb : l.length ≤ 68719476736) : aB prog 274 [(false, [sl .v (l.map ak)]), (false, [val (vI x)])] (aA [(false, [sl aa ((lz l x).map ak)])]) := by
 refine sF func274 fun h0 w0 Fz0 => ?_
 refine sj 0 fun hl0 => ?_
 refine pu ?_
 refine sS [0, 1, 4] [] ?_
 refine ow ?_
 refine sS [0, 1, 4, 5] [] ?_
 refine cH ?_
 refine sP [0, 1, 4, 5, 6] [] ?_
 refine sL [0, 1, 4] [] (fun k : Nat => k ≤ l.length) (fun k : Nat => [(5, RV.slc aa ((lz (l.take k) x).map ak)), (6, RV.int (k : Int))]) (fun k : Nat => []) (fun k : Nat => l.length - k) 0 (by omega) (by exact aI (by exact rfl) (aI (by exact rfl) tI)) (by exact tI) ?_
 rintro k hk
 refine jX ?_
 refine sc (fun hba => ?_) (fun hba => ?_)
 have hlt : k < l.length := by omega
 have hwl := Dz (l.take k) x
 rw [br] at hwl
 refine bB ?_
 refine sS [0, 1, 4, 5, 6] [] ?_
 refine mM ?_
 refine oa ?_
 refine rM ?_
 refine rA ?_ (x := eX)
 refine sc (fun hbb => ?_) (fun hbb => ?_)
 have hne : ¬ l[k] = x := hbb
 refine sG [0, 1, 4, 5, 6] [] ?_
 refine rA ?_ (x := tM)
 refine mM ?_
 refine oa ?_
 refine sm ?_
 exact HT
 have hne : l[k] = x := by first | exact hbb | (simp_all; done) | omega
 refine bm ?_
 exact HT
 have hend : k = l.length := by omega
 refine bG ?_
 refine sS [0, 1, 4, 5, 6] [] ?_
 exact tQ
def abx {p1 p2 : Fl} {s : Store} {i : Int} {t : Int}  (hb : cd s ≤ 68719476736) (hi0 : 0 ≤ i) (hi2 : i.toNat < s.act.length) : aB prog 150 [(true, [sl .v (s.act.map (aC p1 p2)), val (vI s.Now)]), (false, [val (vI i)]), (false, [val (vI t)])] (aA [(false, [sl az ((dK (s.act.getD i.toNat []) t).map (bC aa))])]) := by
 refine sF func150 fun h0 w0 Fz0 => ?_
 refine sn 0 0 fun hl0_0 => ?_
 have hgd := iH (d := ([] : List aU)) hi2
 have hws := cT (f := bX) hi2
 rw [hgd] at hws
 have hws2 : bX (s.act.getD i.toNat []) = (s.act.getD i.toNat []).length + ((s.act.getD i.toNat []).map bW).sum := rfl
 have hbu := hb
 simp only [cd, eO, bd] at hbu
 refine jy ?_
 refine rA ?_ (x := iz (.inr rfl) (by decide) (jl (t := 54) (e := 2)))
 refine sT [1, 2, 3, 6] [3] ?_
 refine Bb ?_
 refine aP ?_
 refine sS [1, 2, 3, 6, 7] [3] ?_
 refine qV ?_
 refine rA ?_ (x := aY (k := i.toNat) (by decide) di (by exact tI) (by omega) (by exact bc hi2 (by rw [iH (d := ([] : List aU)) hi2])) (by exact rfl))
 refine rA ?_ (x := lE [sl .v _] gx)
 refine rA ?_ (x := lN cv)
 refine dZ ?_
 refine sP [1, 2, 3, 6, 7, 15, 16, 17] [3] ?_
 refine sL [1, 2, 3, 6, 15, 16] [3] (fun k : Nat => k ≤ (s.act.getD i.toNat []).length) (fun k : Nat => [(7, RV.slc az ((dK ((s.act.getD i.toNat []).take k) t).map (bC aa))), (17, RV.int (k : Int))]) (fun k : Nat => []) (fun k : Nat => (s.act.getD i.toNat []).length - k) 0 (by omega) (by exact aI (by exact rfl) (aI (by exact rfl) tI)) (by exact tI) ?_
 rintro k hk
 refine cF ?_
 refine sc (fun hba => ?_) (fun hba => ?_)
 have hlt : k < (s.act.getD i.toNat []).length := by omega
 have hwm2 := cT (f := bW) hlt
 have hvl := yD ((s.act.getD i.toNat []).take k) t
 rw [br] at hvl
 refine bB ?_
 refine sT [1, 2, 3, 6, 7, 15, 16, 17] [3] ?_
 refine wE ?_
 refine ua ?_
 refine aP ?_
 refine sO [(1, _), (2, _), (3, _), (6, _), (7, _), (9, _), (15, _), (16, _), (17, _)] [(3, _), (9, (184, [val _, sl _ _, val _, val _]))] ?_
 refine bf ?_
 refine rA ?_ (x := lD [val _, sl .v _, val _, val _] en)
 refine KI ?_
 refine sc (fun hbb => ?_) (fun hbb => ?_)
 have hv : eK (s.act.getD i.toNat [])[k] t = true := by simpa using hbb
 refine sG [1, 2, 3, 6, 7, 9, 15, 16, 17] [3, 9] ?_
 refine rA ?_ (x := tM)
 refine Kw ?_
 refine wt ?_
 refine rA ?_ (x := tA)
 exact HU
 have hv : eK (s.act.getD i.toNat [])[k] t = false := by simpa using hbb
 refine bm ?_
 exact HU
 have hend : k = (s.act.getD i.toNat []).length := by omega
 refine bG ?_
 refine sT [1, 2, 3, 6, 7, 15, 16, 17] [3] ?_
 exact tQ
def Eb {e : aD}  (hb : bi e ≤ 68719476736) : zv prog 153 [(true, [sl bo (e.Store.act.map (aC aS aa)), val (vI e.Store.Now), val (vI e.acy), sl aa (e.Order.map ak), sl bS (e.acu.map (aQ aw aa aa az aa)), sl bJ (e.Done.map (aX aw aa az aa)), sl bP (e.acG.map (aZ aa aa aa)), val (vI e.Steps)])] (aA [(true, [sl bo ((dC e).Store.act.map (aC aS aa)), val (vI (dC e).Store.Now), val (vI (dC e).acy), sl aa ((dC e).Order.map ak), sl bS ((dC e).acu.map (aQ aw aa aa az aa)), sl bJ ((dC e).Done.map (aX aw aa az aa)), sl bP ((dC e).acG.map (aZ aa aa aa)), val (vI (dC e).Steps)])]) := by
 refine RI (rs := [(true, [sl bo ((dC e).Store.act.map (aC aS aa)), val (vI (dC e).Store.Now), val (vI (dC e).acy), sl aa ((dC e).Order.map ak), sl bS ((dC e).acu.map (aQ aw aa aa az aa)), sl bJ ((dC e).Done.map (aX aw aa az aa)), sl bP ((dC e).acG.map (aZ aa aa aa)), val (vI (dC e).Steps)])]) func153 rfl (nl rfl) ?_
 intro h0 w0 Fz0
 refine sn 0 0 fun hl0_0 => ?_
 refine sn 0 3 fun hl0_3 => ?_
 refine sn 0 4 fun hl0_4 => ?_
 refine sn 0 5 fun hl0_5 => ?_
 refine sn 0 6 fun hl0_6 => ?_
 have hbu := hb
 simp only [bi, da] at hbu
 refine py ?_
 refine sT [1, 2] [1, 2] ?_
 refine ow ?_
 refine sS [1, 2, 3] [1, 2] ?_
 refine pK ?_
 refine sP [1, 2, 3, 8, 9, 10] [1, 2] ?_
 refine sL [1, 2, 8, 9] [1, 2] (fun k : Nat => k ≤ e.acu.length) (fun k : Nat => [(3, RV.slc aa ((fK (e.acu.take k)).map ak)), (10, RV.int (k : Int))]) (fun k : Nat => []) (fun k : Nat => e.acu.length - k) 0 (by omega) (by exact aI (by exact rfl) (aI (by exact rfl) tI)) (by exact tI) ?_
 rintro k hk
 refine cF ?_
 refine sc (fun hba => ?_) (fun hba => ?_)
 have hlt : k < e.acu.length := by omega
 have htl : (fK (e.acu.take k)).length = k := by unfold fK; rw [aq, br]; omega
 have hts : fK (e.acu.take (k + 1)) = fK (e.acu.take k) ++ [e.acu[k].Time] := by unfold fK; rw [xT hlt]
 refine bB ?_
 refine sT [1, 2, 3, 8, 9, 10] [1, 2] ?_
 refine rY ?_
 refine rW ?_
 refine sO [(1, _), (2, _), (3, _), (5, _), (8, _), (9, _), (10, _)] [(1, _), (2, _), (5, (108, [val _, val _, sl _ _, sl _ _, val _, sl _ _, val _, val _, val _, sl _ _]))] ?_
 refine bf ?_
 refine rA ?_ (x := tM)
 refine xm ?_
 refine sm ?_
 refine sG [1, 2, 3, 5, 8, 9, 10] [1, 2, 5] ?_
 refine df ?_
 exact HV
 have hend : k = e.acu.length := by omega
 have hte : fK (e.acu.take k) = fK e.acu := by rw [hend, cn]
 have htl : (fK e.acu).length = e.acu.length := by unfold fK; rw [aq]
 rw [hte]
 refine bG ?_
 refine sT [1, 2, 3, 8, 9, 10] [1, 2] ?_
 refine qI ?_
 refine rA ?_ (x := vM false [sl .v _])
 refine rA ?_ (x := cL [(true, [sl _ _, val _]), (false, [sl _ _])] [(true, [sl .v _, val _]), (false, [sl .v _])] WX (hs := by exact (aai (s := e.Store) (keep := fK e.acu) (by omega) (by omega))))
 refine rA ?_ (x := tM)
 refine wu ?_
 refine ug ?_
 refine aP ?_
 refine sO [(1, _), (2, _), (3, _), (8, _), (9, _), (10, _)] [(1, (32, [sl _ _, val _, val _, sl _ _, sl _ _, sl _ _, sl _ _, val _])), (2, _)] ?_
 exact Ge
def Ec {e : aD}  (hb : bi e ≤ 68719476736) : tF prog 195 32 [sl bo (e.Store.act.map (aC aS aa)), val (vI e.Store.Now), val (vI e.acy), sl aa (e.Order.map ak), sl bS (e.acu.map (aQ aw aa aa az aa)), sl bJ (e.Done.map (aX aw aa az aa)), sl bP (e.acG.map (aZ aa aa aa)), val (vI e.Steps)] [sl bo ((dC e).Store.act.map (aC aS aa)), val (vI (dC e).Store.Now), val (vI e.acy), sl aa (e.Order.map ak), sl bS (e.acu.map (aQ aw aa aa az aa)), sl bJ (e.Done.map (aX aw aa az aa)), sl bP (e.acG.map (aZ aa aa aa)), val (vI e.Steps)] [] (aA []) := by
 refine zA (rs := []) func195 rfl (nl rfl) (nl rfl) ?_
 intro g_ h0 w0 Fz0
 have hbu := hb
 simp only [bi, da] at hbu
 refine sR ?_
 refine ow ?_
 refine sT [0, 2, 5000] [0] ?_
 refine cH ?_
 refine sP [0, 2, 3, 5000] [0] ?_
 refine sL [0, 5000] [0] (fun k : Nat => k ≤ e.acu.length) (fun k : Nat => [(2, RV.slc aa ((fK (e.acu.take k)).map ak)), (3, RV.int (k : Int))]) (fun k : Nat => []) (fun k : Nat => e.acu.length - k) 0 (by omega) (by exact aI (by exact rfl) (aI (by exact rfl) tI)) (by exact tI) ?_
 rintro k hk
 refine eH ?_
 refine lQ ?_
 refine qQ ?_
 refine sc (fun hba => ?_) (fun hba => ?_)
 have hlt : k < e.acu.length := by omega
 have htl : (fK (e.acu.take k)).length = k := by unfold fK; rw [aq, br]; omega
 have hts : fK (e.acu.take (k + 1)) = fK (e.acu.take k) ++ [e.acu[k].Time] := by unfold fK; rw [xT hlt]
 refine bB ?_
 refine sH [0, 2, 3, 5000] [0] ?_
 refine rA ?_ (x := tM)
 refine lQ ?_
 refine jV ?_
 refine Bk ?_
 refine rA ?_ (x := bI (by decide) mZ (by exact nl rfl))
 refine xu ?_
 refine sG [0, 2, 3, 5000] [0] ?_
 refine cW ?_
 exact HV
 have hend : k = e.acu.length := by omega
 have hte : fK (e.acu.take k) = fK e.acu := by rw [hend, cn]
 have htl : (fK e.acu).length = e.acu.length := by unfold fK; rw [aq]
 rw [hte]
 refine bG ?_
 refine sT [0, 2, 3, 5000] [0] ?_
 refine lQ ?_
 refine qI ?_
 refine rA ?_ (x := vM false [sl .v _])
 refine rA ?_ (x := cL [(true, [sl _ _, val _]), (false, [sl _ _])] [(true, [sl .v _, val _]), (false, [sl .v _])] Xk (hs := by exact (aaj (s := e.Store) (keep := fK e.acu) (by omega) (by omega))))
 refine rA ?_ (x := tM)
 refine wu ?_
 refine od ?_
 refine rS ?_
 refine sO [(0, _), (2, _), (3, _), (4, _), (5, _), (5000, _)] [(0, _), (4, (26, [sl _ _, val _]))] ?_
 refine bf ?_
 refine rA ?_ (x := cM Cp.ptr)
 refine rA ?_ (x := cz (ms := [sl _ _, val _]) (qs := [sl .v _, val _]) (by decide) dV (fun h => nomatch h) (by exact nl rfl) (by exact rfl) (by exact (aH (ap am.nil))) (by exact (an.cons (bor_sl _) (an.cons (bor_val _) an.nil))))
 refine rA ?_ (x := iT (by decide))
 refine ug ?_
 exact ⟨(by exact rfl), rfl, tI⟩
end Go.Proofs.YtmekkgdboplbjaaGreat
