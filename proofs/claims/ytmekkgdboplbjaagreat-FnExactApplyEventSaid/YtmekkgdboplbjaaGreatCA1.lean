/- What functions of the program compute. No condition. -/
import Derived.Test.YtmekkgdboplbjaaGreatCY0
import Derived.Test.YtmekkgdboplbjaaGreatCZ0
set_option linter.all false
namespace Go.Proofs.YtmekkgdboplbjaaGreat
open Go Go.RowKit M PV Tryz
set_option maxRecDepth 10000
attribute [local irreducible] PV.Lcl PV.LclR RV.Lcl
def Vy {l : List Int} {x : Int}  (hb : l.length ≤ 68719476736) : aC prog 152 [(false, [sl .v (l.map ak)]), (false, [val (vI x)])] (az [(false, [sl aa ((kp l x).map ak)])]) := by
 refine sF func152 fun h0 w0 Fz0 => ?_
 refine sj 0 fun hl0 => ?_
 refine nJ ?_
 refine sS [0, 1, 4] [] ?_
 refine mD ?_
 refine sS [0, 1, 4, 5] [] ?_
 refine iV ?_
 refine dI ?_
 refine sP [0, 1, 4, 5, 9, 10, 11] [] ?_
 refine sL [0, 1, 4, 9, 10] [] (fun k : Nat => k ≤ l.length) (fun k : Nat => [(5, RV.slc aa ((kp (l.take k) x).map ak)), (11, RV.int (k : Int))]) (fun k : Nat => []) (fun k : Nat => l.length - k) 0 (by omega) (by exact aI (by exact rfl) (aI (by exact rfl) tI)) (by exact tI) ?_
 rintro k hk
 refine ct ?_
 refine sc (fun hba => ?_) (fun hba => ?_)
 have hlt : k < l.length := by omega
 have hwl := Bu (l.take k) x
 rw [bv] at hwl
 refine bB ?_
 refine sS [0, 1, 4, 5, 9, 10, 11] [] ?_
 refine mI ?_
 refine sS [0, 1, 4, 5, 7, 9, 10, 11] [] ?_
 refine j8 ?_
 refine rA ?_ (x := eM)
 refine sc (fun hbb => ?_) (fun hbb => ?_)
 have hne : ¬ l[k] = x := hbb
 refine sG [0, 1, 4, 5, 7, 9, 10, 11] [] ?_
 refine rA ?_ (x := tM)
 refine rM ?_
 refine qN ?_
 exact EY
 have hne : l[k] = x := by first | exact hbb | (simp_all; done) | omega
 refine bl ?_
 exact EY
 have hend : k = l.length := by omega
 refine bF ?_
 refine sS [0, 1, 4, 5, 9, 10, 11] [] ?_
 exact sb
def Vz {l : List Int} {x : Int}  (hb : l.length ≤ 68719476736) : aC prog 274 [(false, [sl .v (l.map ak)]), (false, [val (vI x)])] (az [(false, [sl aa ((kp l x).map ak)])]) := by
 refine sF func274 fun h0 w0 Fz0 => ?_
 refine sj 0 fun hl0 => ?_
 refine nJ ?_
 refine sS [0, 1, 4] [] ?_
 refine mD ?_
 refine sS [0, 1, 4, 5] [] ?_
 refine cz ?_
 refine sP [0, 1, 4, 5, 6] [] ?_
 refine sL [0, 1, 4] [] (fun k : Nat => k ≤ l.length) (fun k : Nat => [(5, RV.slc aa ((kp (l.take k) x).map ak)), (6, RV.int (k : Int))]) (fun k : Nat => []) (fun k : Nat => l.length - k) 0 (by omega) (by exact aI (by exact rfl) (aI (by exact rfl) tI)) (by exact tI) ?_
 rintro k hk
 refine jl ?_
 refine sc (fun hba => ?_) (fun hba => ?_)
 have hlt : k < l.length := by omega
 have hwl := Bu (l.take k) x
 rw [bv] at hwl
 refine bB ?_
 refine sS [0, 1, 4, 5, 6] [] ?_
 refine lv ?_
 refine mq ?_
 refine rM ?_
 refine rA ?_ (x := eM)
 refine sc (fun hbb => ?_) (fun hbb => ?_)
 have hne : ¬ l[k] = x := hbb
 refine sG [0, 1, 4, 5, 6] [] ?_
 refine rA ?_ (x := tM)
 refine lv ?_
 refine mq ?_
 refine qN ?_
 exact EZ
 have hne : l[k] = x := by first | exact hbb | (simp_all; done) | omega
 refine bl ?_
 exact EZ
 have hend : k = l.length := by omega
 refine bF ?_
 refine sS [0, 1, 4, 5, 6] [] ?_
 exact sb
def VA {p1 p2 : Fl} {s : Store} {i : Int} {t : Int}  (hb : b4 s ≤ 68719476736) (hi0 : 0 ≤ i) (hi2 : i.toNat < s.Wr.length) : aC prog 150 [(true, [sl .v (s.Wr.map (aD p1 p2)), val (vI s.Now)]), (false, [val (vI i)]), (false, [val (vI t)])] (az [(false, [sl aB ((dp (s.Wr.getD i.toNat []) t).map (bu aa))])]) := by
 refine sF func150 fun h0 w0 Fz0 => ?_
 refine sn 0 0 fun hl0_0 => ?_
 have hgd := ic (d := ([] : List aT)) hi2
 have hws := cR (f := bU) hi2
 rw [hgd] at hws
 have hws2 : bU (s.Wr.getD i.toNat []) = (s.Wr.getD i.toNat []).length + ((s.Wr.getD i.toNat []).map bT).sum := rfl
 have hbu := hb
 simp only [b4, eh, a9] at hbu
 refine iU ?_
 refine rA ?_ (x := ik (.inr rfl) (by decide) (jf (t := 54) (e := 2)))
 refine sT [1, 2, 3, 6] [3] ?_
 refine y7 ?_
 refine aP ?_
 refine sS [1, 2, 3, 6, 7] [3] ?_
 refine pz ?_
 refine rA ?_ (x := aY (k := i.toNat) (by decide) cV (by exact tI) (by omega) (by exact be hi2 (by rw [ic (d := ([] : List aT)) hi2])) (by exact rfl))
 refine rA ?_ (x := lE [sl .v _] fH)
 refine rA ?_ (x := lN ck)
 refine dI ?_
 refine sP [1, 2, 3, 6, 7, 15, 16, 17] [3] ?_
 refine sL [1, 2, 3, 6, 15, 16] [3] (fun k : Nat => k ≤ (s.Wr.getD i.toNat []).length) (fun k : Nat => [(7, RV.slc aB ((dp ((s.Wr.getD i.toNat []).take k) t).map (bu aa))), (17, RV.int (k : Int))]) (fun k : Nat => []) (fun k : Nat => (s.Wr.getD i.toNat []).length - k) 0 (by omega) (by exact aI (by exact rfl) (aI (by exact rfl) tI)) (by exact tI) ?_
 rintro k hk
 refine ct ?_
 refine sc (fun hba => ?_) (fun hba => ?_)
 have hlt : k < (s.Wr.getD i.toNat []).length := by omega
 have hwm2 := cR (f := bT) hlt
 have hvl := wN ((s.Wr.getD i.toNat []).take k) t
 rw [bv] at hvl
 refine bB ?_
 refine sT [1, 2, 3, 6, 7, 15, 16, 17] [3] ?_
 refine uM ?_
 refine sm ?_
 refine aP ?_
 refine sO [(1, _), (2, _), (3, _), (6, _), (7, _), (9, _), (15, _), (16, _), (17, _)] [(3, _), (9, (184, [val _, sl _ _, val _, val _]))] ?_
 refine ba ?_
 refine rA ?_ (x := lD [val _, sl .v _, val _, val _] dO)
 refine HD ?_
 refine sc (fun hbb => ?_) (fun hbb => ?_)
 have hv : ea (s.Wr.getD i.toNat [])[k] t = true := by simpa using hbb
 refine sG [1, 2, 3, 6, 7, 9, 15, 16, 17] [3, 9] ?_
 refine rA ?_ (x := tM)
 refine Hr ?_
 refine uD ?_
 refine rA ?_ (x := tA)
 exact E0
 have hv : ea (s.Wr.getD i.toNat [])[k] t = false := by simpa using hbb
 refine bl ?_
 exact E0
 have hend : k = (s.Wr.getD i.toNat []).length := by omega
 refine bF ?_
 refine sT [1, 2, 3, 6, 7, 15, 16, 17] [3] ?_
 exact sb
def BU {e : aL}  (hb : bp e ≤ 68719476736) : xz prog 153 [(true, [sl bo (e.Store.Wr.map (aD aS aa)), val (vI e.Store.Now), val (vI e.Ww), sl aa (e.Order.map ak), sl bS (e.Ws.map (aO ay aa aa aB aa)), sl bM (e.Done.map (aZ ay aa aB aa)), sl bP (e.WE.map (a7 aa aa aa)), val (vI e.Steps)])] (az [(true, [sl bo ((dj e).Store.Wr.map (aD aS aa)), val (vI (dj e).Store.Now), val (vI (dj e).Ww), sl aa ((dj e).Order.map ak), sl bS ((dj e).Ws.map (aO ay aa aa aB aa)), sl bM ((dj e).Done.map (aZ ay aa aB aa)), sl bP ((dj e).WE.map (a7 aa aa aa)), val (vI (dj e).Steps)])]) := by
 refine Ng (rs := [(true, [sl bo ((dj e).Store.Wr.map (aD aS aa)), val (vI (dj e).Store.Now), val (vI (dj e).Ww), sl aa ((dj e).Order.map ak), sl bS ((dj e).Ws.map (aO ay aa aa aB aa)), sl bM ((dj e).Done.map (aZ ay aa aB aa)), sl bP ((dj e).WE.map (a7 aa aa aa)), val (vI (dj e).Steps)])]) func153 rfl (nl rfl) ?_
 intro h0 w0 Fz0
 refine sn 0 0 fun hl0_0 => ?_
 refine sn 0 3 fun hl0_3 => ?_
 refine sn 0 4 fun hl0_4 => ?_
 refine sn 0 5 fun hl0_5 => ?_
 refine sn 0 6 fun hl0_6 => ?_
 have hbu := hb
 simp only [bp, c6] at hbu
 refine qK ?_
 refine sT [1, 2] [1, 2] ?_
 refine mD ?_
 refine sS [1, 2, 3] [1, 2] ?_
 refine oe ?_
 refine sP [1, 2, 3, 8, 9, 10] [1, 2] ?_
 refine sL [1, 2, 8, 9] [1, 2] (fun k : Nat => k ≤ e.Ws.length) (fun k : Nat => [(3, RV.slc aa ((fb (e.Ws.take k)).map ak)), (10, RV.int (k : Int))]) (fun k : Nat => []) (fun k : Nat => e.Ws.length - k) 0 (by omega) (by exact aI (by exact rfl) (aI (by exact rfl) tI)) (by exact tI) ?_
 rintro k hk
 refine ct ?_
 refine sc (fun hba => ?_) (fun hba => ?_)
 have hlt : k < e.Ws.length := by omega
 have htl : (fb (e.Ws.take k)).length = k := by unfold fb; rw [ar, bv]; omega
 have hts : fb (e.Ws.take (k + 1)) = fb (e.Ws.take k) ++ [e.Ws[k].Time] := by unfold fb; rw [wc hlt]
 refine bB ?_
 refine sT [1, 2, 3, 8, 9, 10] [1, 2] ?_
 refine qB ?_
 refine qA ?_
 refine sO [(1, _), (2, _), (3, _), (5, _), (8, _), (9, _), (10, _)] [(1, _), (2, _), (5, (108, [val _, val _, sl _ _, sl _ _, val _, sl _ _, val _, val _, val _, sl _ _]))] ?_
 refine ba ?_
 refine rA ?_ (x := tM)
 refine vm ?_
 refine qN ?_
 refine sG [1, 2, 3, 5, 8, 9, 10] [1, 2, 5] ?_
 refine c0 ?_
 exact E3
 have hend : k = e.Ws.length := by omega
 have hte : fb (e.Ws.take k) = fb e.Ws := by rw [hend, cb]
 have htl : (fb e.Ws).length = e.Ws.length := by unfold fb; rw [ar]
 rw [hte]
 refine bF ?_
 refine sT [1, 2, 3, 8, 9, 10] [1, 2] ?_
 refine pg ?_
 refine rA ?_ (x := vM false [sl .v _])
 refine rA ?_ (x := cL [(true, [sl _ _, val _]), (false, [sl _ _])] [(true, [sl .v _, val _]), (false, [sl .v _])] RO (hs := by exact (Uv (s := e.Store) (keep := fb e.Ws) (by omega) (by omega))))
 refine rA ?_ (x := tM)
 refine uE ?_
 refine sx ?_
 refine aP ?_
 refine sO [(1, _), (2, _), (3, _), (8, _), (9, _), (10, _)] [(1, (32, [sl _ _, val _, val _, sl _ _, sl _ _, sl _ _, sl _ _, val _])), (2, _)] ?_
 exact Dv
def BV {e : aL}  (hb : bp e ≤ 68719476736) : rY prog 195 32 [sl bo (e.Store.Wr.map (aD aS aa)), val (vI e.Store.Now), val (vI e.Ww), sl aa (e.Order.map ak), sl bS (e.Ws.map (aO ay aa aa aB aa)), sl bM (e.Done.map (aZ ay aa aB aa)), sl bP (e.WE.map (a7 aa aa aa)), val (vI e.Steps)] [sl bo ((dj e).Store.Wr.map (aD aS aa)), val (vI (dj e).Store.Now), val (vI e.Ww), sl aa (e.Order.map ak), sl bS (e.Ws.map (aO ay aa aa aB aa)), sl bM (e.Done.map (aZ ay aa aB aa)), sl bP (e.WE.map (a7 aa aa aa)), val (vI e.Steps)] [] (az []) := by
 refine xE (rs := []) func195 rfl (nl rfl) (nl rfl) ?_
 intro g_ h0 w0 Fz0
 have hbu := hb
 simp only [bp, c6] at hbu
 refine sR ?_
 refine mD ?_
 refine sT [0, 2, 5000] [0] ?_
 refine cz ?_
 refine sP [0, 2, 3, 5000] [0] ?_
 refine sL [0, 5000] [0] (fun k : Nat => k ≤ e.Ws.length) (fun k : Nat => [(2, RV.slc aa ((fb (e.Ws.take k)).map ak)), (3, RV.int (k : Int))]) (fun k : Nat => []) (fun k : Nat => e.Ws.length - k) 0 (by omega) (by exact aI (by exact rfl) (aI (by exact rfl) tI)) (by exact tI) ?_
 rintro k hk
 refine d6 ?_
 refine kz ?_
 refine pp ?_
 refine sc (fun hba => ?_) (fun hba => ?_)
 have hlt : k < e.Ws.length := by omega
 have htl : (fb (e.Ws.take k)).length = k := by unfold fb; rw [ar, bv]; omega
 have hts : fb (e.Ws.take (k + 1)) = fb (e.Ws.take k) ++ [e.Ws[k].Time] := by unfold fb; rw [wc hlt]
 refine bB ?_
 refine sH [0, 2, 3, 5000] [0] ?_
 refine rA ?_ (x := tM)
 refine kz ?_
 refine ji ?_
 refine zi ?_
 refine rA ?_ (x := bE (by decide) lP (by exact nl rfl))
 refine vw ?_
 refine sG [0, 2, 3, 5000] [0] ?_
 refine cZ ?_
 exact E3
 have hend : k = e.Ws.length := by omega
 have hte : fb (e.Ws.take k) = fb e.Ws := by rw [hend, cb]
 have htl : (fb e.Ws).length = e.Ws.length := by unfold fb; rw [ar]
 rw [hte]
 refine bF ?_
 refine sT [0, 2, 3, 5000] [0] ?_
 refine kz ?_
 refine pg ?_
 refine rA ?_ (x := vM false [sl .v _])
 refine rA ?_ (x := cL [(true, [sl _ _, val _]), (false, [sl _ _])] [(true, [sl .v _, val _]), (false, [sl .v _])] R3 (hs := by exact (Uw (s := e.Store) (keep := fb e.Ws) (by omega) (by omega))))
 refine rA ?_ (x := tM)
 refine uE ?_
 refine mu ?_
 refine rS ?_
 refine sO [(0, _), (2, _), (3, _), (4, _), (5, _), (5000, _)] [(0, _), (4, (26, [sl _ _, val _]))] ?_
 refine ba ?_
 refine rA ?_ (x := cM Cp.ptr)
 refine rA ?_ (x := cl (ms := [sl _ _, val _]) (qs := [sl .v _, val _]) (by decide) dv (fun h => nomatch h) (by exact nl rfl) (by exact rfl) (by exact (aF (an am.nil))) (by exact (ao.cons (bor_sl _) (ao.cons (bor_val _) ao.nil))))
 refine rA ?_ (x := iu (by decide))
 refine sx ?_
 exact ⟨(by exact rfl), rfl, tI⟩
end Go.Proofs.YtmekkgdboplbjaaGreat
