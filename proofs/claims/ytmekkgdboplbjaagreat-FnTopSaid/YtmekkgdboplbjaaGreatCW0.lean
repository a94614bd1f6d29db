/- What functions of the program compute. No condition. -/
import Derived.Test.YtmekkgdboplbjaaGreatCV0
import Derived.Test.YtmekkgdboplbjaaGreatCI0
set_option linter.all false
namespace Go.Proofs.YtmekkgdboplbjaaGreat
open Go Go.RowKit M PV Tryz
set_option maxRecDepth 10000
attribute [local irreducible] PV.Lcl PV.LclR RV.Lcl
def adb {l : List Int} {x : Int}  (hb : l.length ≤ 68719476736) : aN prog 152 [(false, [sl .v (l.map am)]), (false, [val (vI x)])] (aJ [(false, [sl ab ((fM l x).map am)])]) := by
 refine sF func152 fun h0 w0 Fz0 => ?_
 refine sj 0 fun hl0 => ?_
 refine qC ?_
 refine sS [0, 1, 4] [] ?_
 refine np ?_
 refine sS [0, 1, 4, 5] [] ?_
 refine gS ?_
 refine eo ?_
 refine sP [0, 1, 4, 5, 9, 10, 11] [] ?_
 refine sL [0, 1, 4, 9, 10] [] (fun k : Nat => k ≤ l.length) (fun k : Nat => [(5, RV.slc ab ((fM (l.take k) x).map am)), (11, RV.int (k : Int))]) (fun k : Nat => []) (fun k : Nat => l.length - k) 0 (by omega) (by exact aI (by exact rfl) (aI (by exact rfl) tI)) (by exact tI) ?_
 rintro k hk
 refine cn ?_
 refine sc ?_ ?_ <;> intro hba
 have hlt : k < l.length := by omega
 have hwl := FE (l.take k) x
 rw [bv] at hwl
 refine bi ?_
 refine sS [0, 1, 4, 5, 9, 10, 11] [] ?_
 refine mF ?_
 refine sS [0, 1, 4, 5, 7, 9, 10, 11] [] ?_
 refine jS ?_
 refine rA ?_ (x := dr)
 refine sc ?_ ?_ <;> intro hbb
 have hne : ¬ l[k] = x := hbb
 refine sG [0, 1, 4, 5, 7, 9, 10, 11] [] ?_
 refine wl ?_
 refine ll ?_
 exact Kk
 have hne : l[k] = x := by first | exact hbb | (simp_all; done) | omega
 refine bb ?_
 exact Kk
 have hend : k = l.length := by omega
 refine bq ?_
 refine sS [0, 1, 4, 5, 9, 10, 11] [] ?_
 exact uR
def adc {l : List Int} {x : Int}  (hb : l.length ≤ 68719476736) : aN prog 274 [(false, [sl .v (l.map am)]), (false, [val (vI x)])] (aJ [(false, [sl ab ((fM l x).map am)])]) := by
 refine sF func274 fun h0 w0 Fz0 => ?_
 refine sj 0 fun hl0 => ?_
 refine qC ?_
 refine sS [0, 1, 4] [] ?_
 refine np ?_
 refine vX ?_
 refine sL [0, 1, 4] [] (fun k : Nat => k ≤ l.length) (fun k : Nat => [(5, RV.slc ab ((fM (l.take k) x).map am)), (6, RV.int (k : Int))]) (fun k : Nat => []) (fun k : Nat => l.length - k) 0 (by omega) (by exact aI (by exact rfl) (aI (by exact rfl) tI)) (by exact tI) ?_
 rintro k hk
 refine jR ?_
 refine sc ?_ ?_ <;> intro hba
 have hlt : k < l.length := by omega
 have hwl := FE (l.take k) x
 rw [bv] at hwl
 refine vO ?_
 refine jp ?_
 refine pk ?_
 refine rM ?_
 refine rA ?_ (x := dr)
 refine sc ?_ ?_ <;> intro hbb
 have hne : ¬ l[k] = x := hbb
 refine sG [0, 1, 4, 5, 6] [] ?_
 refine qS ?_
 refine pk ?_
 refine ll ?_
 exact Kl
 have hne : l[k] = x := by first | exact hbb | (simp_all; done) | omega
 refine bb ?_
 exact Kl
 have hend : k = l.length := by omega
 refine vK ?_
 exact uR
def ade {p1 p2 : Fl} {s : Store} {i : Int} {t : Int}  (hb : cB s ≤ 68719476736) (hi0 : 0 ≤ i) (hi2 : i.toNat < s.aey.length) : aN prog 150 [(true, [sl .v (s.aey.map (aG p1 p2)), val (vI s.Now)]), (false, [val (vI i)]), (false, [val (vI t)])] (aJ [(false, [sl aE ((bV (s.aey.getD i.toNat []) t).map (bI ab))])]) := by
 refine sF func150 fun h0 w0 Fz0 => ?_
 refine sn 0 0 fun hl0_0 => ?_
 have hgd := df (d := ([] : List aR)) hi2
 have hws := di (f := co) hi2
 rw [hgd] at hws
 have hws2 : co (s.aey.getD i.toNat []) = (s.aey.getD i.toNat []).length + ((s.aey.getD i.toNat []).map cw).sum := rfl
 have hbu := hb
 simp only [cB, fW, bf] at hbu
 refine PW ?_
 refine sT [1, 2, 3, 6] [3] ?_
 refine tw ?_
 refine sS [1, 2, 3, 6, 7] [3] ?_
 refine oe ?_
 refine rM ?_
 refine rA ?_ (x := aU (k := i.toNat) (by decide) eP (by exact tI) (by omega) (by exact aW hi2 (by rw [df (d := ([] : List aR)) hi2])) (by exact rfl))
 refine rA ?_ (x := lE [sl .v _] ie)
 refine rA ?_ (x := lN cy)
 refine eo ?_
 refine sP [1, 2, 3, 6, 7, 15, 16, 17] [3] ?_
 refine sL [1, 2, 3, 6, 15, 16] [3] (fun k : Nat => k ≤ (s.aey.getD i.toNat []).length) (fun k : Nat => [(7, RV.slc aE ((bV ((s.aey.getD i.toNat []).take k) t).map (bI ab))), (17, RV.int (k : Int))]) (fun k : Nat => []) (fun k : Nat => (s.aey.getD i.toNat []).length - k) 0 (by omega) (by exact aI (by exact rfl) (aI (by exact rfl) tI)) (by exact tI) ?_
 rintro k hk
 refine cn ?_
 refine sc ?_ ?_ <;> intro hba
 have hlt : k < (s.aey.getD i.toNat []).length := by omega
 have hwm2 := di (f := cw) hlt
 have hvl := uc ((s.aey.getD i.toNat []).take k) t
 rw [bv] at hvl
 refine bi ?_
 refine sT [1, 2, 3, 6, 7, 15, 16, 17] [3] ?_
 refine vg ?_
 refine ve ?_
 refine be ?_
 refine sO [(1, _), (2, _), (3, _), (6, _), (7, _), (9, _), (15, _), (16, _), (17, _)] [(3, _), (9, (184, [val _, sl _ _, val _, val _]))] ?_
 refine bd ?_
 refine rA ?_ (x := lD [val _, sl .v _, val _, val _] fq)
 refine Ot ?_
 refine sc ?_ ?_ <;> intro hbb
 have hv : dL (s.aey.getD i.toNat [])[k] t = true := by simpa using hbb
 refine sG [1, 2, 3, 6, 7, 9, 15, 16, 17] [3, 9] ?_
 refine rA ?_ (x := tM)
 refine NX ?_
 refine tt ?_
 exact Km
 have hv : dL (s.aey.getD i.toNat [])[k] t = false := by simpa using hbb
 refine bb ?_
 exact Km
 have hend : k = (s.aey.getD i.toNat []).length := by omega
 refine bq ?_
 refine sT [1, 2, 3, 6, 7, 15, 16, 17] [3] ?_
 exact uR
def GP {e : aA}  (hb : bp e ≤ 68719476736) : Bq prog 153 [(true, [sl bz (e.Store.aey.map (aG aV ab)), val (vI e.Store.Now), val (vI e.aeD), sl ab (e.Order.map am), sl ce (e.aez.map (aT aD ab ab aE ab)), sl bT (e.Done.map (bn aD ab aE ab)), sl bY (e.aeL.map (bl ab ab ab)), val (vI e.Steps)])] (aJ [(true, [sl bz ((dk e).Store.aey.map (aG aV ab)), val (vI (dk e).Store.Now), val (vI (dk e).aeD), sl ab ((dk e).Order.map am), sl ce ((dk e).aez.map (aT aD ab ab aE ab)), sl bT ((dk e).Done.map (bn aD ab aE ab)), sl bY ((dk e).aeL.map (bl ab ab ab)), val (vI (dk e).Steps)])]) := by
 refine Vo (rs := [(true, [sl bz ((dk e).Store.aey.map (aG aV ab)), val (vI (dk e).Store.Now), val (vI (dk e).aeD), sl ab ((dk e).Order.map am), sl ce ((dk e).aez.map (aT aD ab ab aE ab)), sl bT ((dk e).Done.map (bn aD ab aE ab)), sl bY ((dk e).aeL.map (bl ab ab ab)), val (vI (dk e).Steps)])]) func153 rfl (nl rfl) ?_
 intro h0 w0 Fz0
 refine sn 0 0 fun hl0_0 => ?_
 refine sn 0 3 fun hl0_3 => ?_
 refine sn 0 4 fun hl0_4 => ?_
 refine sn 0 5 fun hl0_5 => ?_
 refine sn 0 6 fun hl0_6 => ?_
 have hbu := hb
 simp only [bp, fB] at hbu
 refine vD ?_
 refine sT [1, 2] [1, 2] ?_
 refine np ?_
 refine sS [1, 2, 3] [1, 2] ?_
 refine oz ?_
 refine sP [1, 2, 3, 8, 9, 10] [1, 2] ?_
 refine sL [1, 2, 8, 9] [1, 2] (fun k : Nat => k ≤ e.aez.length) (fun k : Nat => [(3, RV.slc ab ((eK (e.aez.take k)).map am)), (10, RV.int (k : Int))]) (fun k : Nat => []) (fun k : Nat => e.aez.length - k) 0 (by omega) (by exact aI (by exact rfl) (aI (by exact rfl) tI)) (by exact tI) ?_
 rintro k hk
 refine cn ?_
 refine sc ?_ ?_ <;> intro hba
 have hlt : k < e.aez.length := by omega
 have htl : (eK (e.aez.take k)).length = k := by unfold eK; rw [aw, bv]; omega
 have hts : eK (e.aez.take (k + 1)) = eK (e.aez.take k) ++ [e.aez[k].Time] := by unfold eK; rw [zA hlt]
 refine bi ?_
 refine sT [1, 2, 3, 8, 9, 10] [1, 2] ?_
 refine qz ?_
 refine qy ?_
 refine sO [(1, _), (2, _), (3, _), (5, _), (8, _), (9, _), (10, _)] [(1, _), (2, _), (5, (108, [val _, val _, sl _ _, sl _ _, val _, sl _ _, val _, val _, val _, sl _ _]))] ?_
 refine bd ?_
 refine rA ?_ (x := tM)
 refine DO ?_
 refine ll ?_
 refine sG [1, 2, 3, 5, 8, 9, 10] [1, 2, 5] ?_
 refine cF ?_
 exact Kn
 have hend : k = e.aez.length := by omega
 have hte : eK (e.aez.take k) = eK e.aez := by rw [hend, cj]
 have htl : (eK e.aez).length = e.aez.length := by unfold eK; rw [aw]
 rw [hte]
 refine bq ?_
 refine sT [1, 2, 3, 8, 9, 10] [1, 2] ?_
 refine sU ?_
 refine rA ?_ (x := vM false [sl .v _])
 refine rA ?_ (x := cL [(true, [sl _ _, val _]), (false, [sl _ _])] [(true, [sl .v _, val _]), (false, [sl .v _])] YB (hs := by exact (ac9 (s := e.Store) (keep := eK e.aez) (by omega) (by omega))))
 refine wj ?_
 refine yy ?_
 refine be ?_
 refine sO [(1, _), (2, _), (3, _), (8, _), (9, _), (10, _)] [(1, (32, [sl _ _, val _, val _, sl _ _, sl _ _, sl _ _, sl _ _, val _])), (2, _)] ?_
 refine tB ?_
 refine cT ?_
 exact (bw 2 (bw _ (aI (by exact rfl) (aI (by exact rfl) (aI bU (aI (fun h => nomatch h) tI))))))
def GQ {e : aA}  (hb : bp e ≤ 68719476736) : iO prog 195 32 [sl bz (e.Store.aey.map (aG aV ab)), val (vI e.Store.Now), val (vI e.aeD), sl ab (e.Order.map am), sl ce (e.aez.map (aT aD ab ab aE ab)), sl bT (e.Done.map (bn aD ab aE ab)), sl bY (e.aeL.map (bl ab ab ab)), val (vI e.Steps)] [sl bz ((dk e).Store.aey.map (aG aV ab)), val (vI (dk e).Store.Now), val (vI e.aeD), sl ab (e.Order.map am), sl ce (e.aez.map (aT aD ab ab aE ab)), sl bT (e.Done.map (bn aD ab aE ab)), sl bY (e.aeL.map (bl ab ab ab)), val (vI e.Steps)] [] (aJ []) := by
 refine kC (rs := []) func195 rfl (nl rfl) (nl rfl) ?_
 intro g_ h0 w0 Fz0
 have hbu := hb
 simp only [bp, fB] at hbu
 refine sR ?_
 refine np ?_
 refine sT [0, 2, 5000] [0] ?_
 refine ca ?_
 refine sP [0, 2, 3, 5000] [0] ?_
 refine sL [0, 5000] [0] (fun k : Nat => k ≤ e.aez.length) (fun k : Nat => [(2, RV.slc ab ((eK (e.aez.take k)).map am)), (3, RV.int (k : Int))]) (fun k : Nat => []) (fun k : Nat => e.aez.length - k) 0 (by omega) (by exact aI (by exact rfl) (aI (by exact rfl) tI)) (by exact tI) ?_
 rintro k hk
 refine de ?_
 refine lL ?_
 refine pA ?_
 refine sc ?_ ?_ <;> intro hba
 have hlt : k < e.aez.length := by omega
 have htl : (eK (e.aez.take k)).length = k := by unfold eK; rw [aw, bv]; omega
 have hts : eK (e.aez.take (k + 1)) = eK (e.aez.take k) ++ [e.aez[k].Time] := by unfold eK; rw [zA hlt]
 refine bi ?_
 refine sH [0, 2, 3, 5000] [0] ?_
 refine rA ?_ (x := tM)
 refine lL ?_
 refine mx ?_
 refine Di ?_
 refine rA ?_ (x := cd (by decide) pI (by exact nl rfl))
 refine rA ?_ (x := lE [val _] az)
 refine ll ?_
 refine sG [0, 2, 3, 5000] [0] ?_
 refine cb ?_
 exact Kn
 have hend : k = e.aez.length := by omega
 have hte : eK (e.aez.take k) = eK e.aez := by rw [hend, cj]
 have htl : (eK e.aez).length = e.aez.length := by unfold eK; rw [aw]
 rw [hte]
 refine bq ?_
 refine sT [0, 2, 3, 5000] [0] ?_
 refine lL ?_
 refine sU ?_
 refine rA ?_ (x := vM false [sl .v _])
 refine rA ?_ (x := cL [(true, [sl _ _, val _]), (false, [sl _ _])] [(true, [sl .v _, val _]), (false, [sl .v _])] YS (hs := by exact (ada (s := e.Store) (keep := eK e.aez) (by omega) (by omega))))
 refine wj ?_
 refine mw ?_
 refine rS ?_
 refine sO [(0, _), (2, _), (3, _), (4, _), (5, _), (5000, _)] [(0, _), (4, (26, [sl _ _, val _]))] ?_
 refine qF ?_
 refine rA ?_ (x := cP (ms := [sl _ _, val _]) (qs := [sl .v _, val _]) (by decide) cW (fun h => nomatch h) (by exact nl rfl) (by exact rfl) (by exact (aB (ak ao.nil))) (by exact (aj.cons (bor_sl _) (aj.cons (bor_val _) aj.nil))))
 refine rA ?_ (x := iP (by decide))
 refine yy ?_
 exact ⟨(by exact rfl), rfl, tI⟩
end Go.Proofs.YtmekkgdboplbjaaGreat
