/- What functions of the program compute. No condition. -/
import Derived.Test.YtmekkgdboplbjaaGreatCK0
import Derived.Test.YtmekkgdboplbjaaGreatCY0
set_option linter.all false
namespace Go.Proofs.YtmekkgdboplbjaaGreat
open Go Go.RowKit M PV Tryz
set_option maxRecDepth 10000
attribute [local irreducible] PV.Lcl PV.LclR RV.Lcl
def adp : dY prog 54 = some [(0, 1), (1, 1)] := by kernel_rfl
def adq {p3 : Fl} {q : aeA} {l : List Row}  (hb : dj l ≤ 68719476736) : aN prog 25 [(true, [val (vI q.Id), val (vI q.aeE), sl .v (q.aeB.map bH), sl .v (q.Out.map am)]), (false, [sl .v (l.map (bI p3))])] (aJ [(false, [sl aE ((iH (kw q l)).map (bI .v))])]) := by
 refine sF func25 fun h0 w0 Fz0 => ?_
 refine sn 0 2 fun hl0_2 => ?_
 refine sn 0 3 fun hl0_3 => ?_
 refine sj 1 fun hl1 => ?_
 have hbu := hb
 simp only [dj] at hbu
 refine nk ?_
 refine rA ?_ (x := kx (.inr rfl) (by decide) (lG (t := 54) (e := 2)))
 refine sT [1, 2, 4] [2] ?_
 refine tw ?_
 refine sS [1, 2, 4, 5] [2] ?_
 refine ca ?_
 refine sP [1, 2, 4, 5, 6] [2] ?_
 refine sL [1, 2, 4] [2] (fun k : Nat => k ≤ l.length) (fun k : Nat => [(5, RV.slc aE ((kw q (l.take k)).map (bI ab))), (6, RV.int (k : Int))]) (fun k : Nat => []) (fun k : Nat => l.length - k) 0 (by omega) (by exact aI (by first | exact rfl | simp) (aI (by exact rfl) tI)) (by exact tI) ?_
 rintro k hk
 refine qV ?_
 refine sc ?_ ?_ <;> intro hba
 have hlt : k < l.length := by omega
 have hwm := di (f := fJ) hlt
 have hfl := aca (q := q) (l := l) (k := k)
 refine dh ?_
 refine sQ [1, 2, 4, 5, 6] [2] ?_
 refine Dn ?_
 refine eY ?_
 refine dA 6 ?_ (x := aU (by decide) fD (by exact tI) (by exact rfl) (by exact aW (by omega) rfl) (by exact rfl))
 refine dA 14 ?_ (x := lE [val _, sl .v _] fj)
 refine dA 31 ?_ (x := cL [(true, [val _, val _, sl _ _, sl _ _]), (true, [val _, sl _ _])] [(true, [val _, val _, sl .v _, sl .v _]), (true, [val _, sl .v _])] ZA (hs := by exact adn))
 refine sc ?_ ?_ <;> intro hbb
 have hc := hbb
 refine sG [1, 2, 4, 5, 6] [2] ?_
 refine qS ?_
 refine Pz ?_
 refine tt ?_
 exact KK
 have hc := hbb
 refine bb ?_
 exact KK
 have hend : k = l.length := by omega
 have htk : l.take k = l := nP (by omega)
 have hfw : dj (kw q (l.take k)) ≤ 68719476736 := by rw [htk]; have := Tq q l; omega
 refine bq ?_
 refine sT [1, 2, 4, 5, 6] [2] ?_
 refine rA ?_ (x := vM false [sl .v _])
 refine PA ?_
 refine cT ?_
 exact (aI (by refine bG ?_; rw [htk]; rfl) tI)
def adr {p1 : Fl} {l : List aR} {t : Int}  (hb : co l ≤ 68719476736) : aN prog 93 [(false, [sl .v (l.map (eN p1))]), (false, [val (vI t)])] (aJ [(false, [sl aE ((bV l t).map (bI ab))])]) := by
 refine sF func93 fun h0 w0 Fz0 => ?_
 refine sj 0 fun hl0 => ?_
 have hbu := hb
 simp only [co] at hbu
 refine vt ?_
 refine sS [0, 1, 4] [] ?_
 refine tw ?_
 refine vX ?_
 refine sL [0, 1, 4] [] (fun k : Nat => k ≤ l.length) (fun k : Nat => [(5, RV.slc aE ((bV (l.take k) t).map (bI ab))), (6, RV.int (k : Int))]) (fun k : Nat => []) (fun k : Nat => l.length - k) 0 (by omega) (by exact aI (by first | exact rfl | simp) (aI (by exact rfl) tI)) (by exact tI) ?_
 rintro k hk
 refine de ?_
 refine zu ?_
 refine sc ?_ ?_ <;> intro hba
 have hlt : k < l.length := by omega
 have hwm := di (f := cw) hlt
 have hwv : cw l[k] = l[k].Values.length := by simp only [cw, dE, bf]; omega
 have hfl := uc (l.take k) t
 rw [bv] at hfl
 refine vO ?_
 refine jp ?_
 refine vg ?_
 refine rM ?_
 refine rA ?_ (x := cL [(true, [val _, sl _ _, val _, val _]), (false, [val _])] [(true, [val _, sl .v _, val _, val _]), (false, [val _])] EV (hs := by exact GK))
 refine sc ?_ ?_ <;> intro hbb
 have hc := hbb
 refine sP [0, 1, 4, 5, 6] [] ?_
 refine ta ?_
 refine eY ?_
 refine Oe ?_
 refine OG ?_
 refine eY ?_
 refine dA 384 ?_ (x := aU (by decide) cy (by exact tI) (by exact rfl) (by exact aW (by omega) rfl) (by exact rfl))
 refine dA 896 ?_ (x := cd (by decide) lu (by exact nl rfl))
 refine MJ ?_
 refine dA 8190 ?_ (x := dp (qs := [(false, [val _]), (false, [sl _ _])]) (cs := [val _, sl _ _]) (by decide) gJ mb adp (by exact rfl) (by exact (aI (by exact tI) (aI (by exact tI) tI))) rfl (by exact rfl))
 refine dA 16382 ?_ (x := bP (qs := [(true, [val _, sl _ _])]) (by decide) fD gJ (by decide) rfl rfl rfl rfl rfl (by exact nl rfl) (by exact (aI (by exact tI) tI)) rfl)
 refine dA 32767 ?_ (x := en (by decide) fD gJ rfl rfl (by decide) rfl (by simp only [aw, aM, List.length_cons, List.length_nil]; omega) (by simp only [aw, aM, List.length_cons, List.length_nil]; omega))
 refine dA 65535 ?_ (x := tA)
 exact KL
 have hc := hbb
 refine bb ?_
 exact KL
 have hend : k = l.length := by omega
 have htk : l.take k = l := nP (by omega)
 refine vK ?_
 refine jQ ?_
 exact (aI (by refine bG ?_; rw [htk]) tI)
def ads {p1 p2 : Fl} {s : Store} {t : Int}  (hb : cB s ≤ 68719476736) : aN prog 26 [(true, [sl .v (s.aey.map (aG p1 p2)), val (vI s.Now)]), (false, [val (vI t)])] (aJ [(false, [sl aE ((qf s t).map (bI .v))])]) := by
 refine sF func26 fun h0 w0 Fz0 => ?_
 refine sn 0 0 fun hl0_0 => ?_
 refine PW ?_
 refine be ?_
 refine sT [1, 2, 4] [2] ?_
 refine OM ?_
 refine rA ?_ (x := nT)
 refine sc ?_ ?_ <;> intro hba
 have hok : bQ s = false := by simpa using hba
 refine sS [1, 2, 4] [2] ?_
 refine Cu ?_
 refine cT ?_
 exact (aI (by refine bG ?_; unfold qf; rw [if_neg (by rw [hok]; simp)]; rfl) tI)
 have hok : bQ s = true := by simpa using hba
 have hav := TE s
 have hvw := GD (bg s) t
 refine bb ?_
 refine sS [1, 2, 4] [2] ?_
 refine Da ?_
 refine rM ?_
 refine rA ?_ (x := cL [(false, [sl _ _]), (false, [val _])] [(false, [sl .v _]), (false, [val _])] ZB (hs := by exact (adr (by omega))))
 refine PA ?_
 refine cT ?_
 exact (aI (by refine bG ?_; unfold qf; rw [if_pos hok]; rfl) tI)
def adt {n : Int}  : aN prog 34 [(false, [val (vI n)])] (aJ [(false, [val (vI (wV n))])]) := by
 refine sF func34 fun h0 w0 Fz0 => ?_
 refine sZ ?_
 refine CU ?_
 refine rA ?_ (x := nT)
 refine sc ?_ ?_ <;> intro hba
 have hno : aK n 1 8 = false := by simpa using hba
 refine sS [0, 2] [] ?_
 refine cm ?_
 exact (aI (by refine bk ?_; unfold wV; rw [if_neg (by rw [hno]; simp)]) tI)
 have hok : aK n 1 8 = true := by simpa using hba
 have hin := oC.1 hok
 refine bb ?_
 refine sS [0, 2] [] ?_
 refine wh ?_
 refine rA ?_ (x := xj (by decide) (bM rfl) (by exact tI) (by unfold jI; omega))
 refine db ?_
 exact (aI (by refine bk ?_; unfold wV; rw [if_pos hok]) tI)
def adu {p1 p2 p5 p6 p7 p8 p9 p11 p12 p13 p14 p16 p17 p18 : Fl} {e : aA} {l : Int}  (hb : bp e ≤ 68718000000) : aN prog 104 [(true, [sl .v (e.Store.aey.map (aG p1 p2)), val (vI e.Store.Now), val (vI e.aeD), sl .v (e.Order.map am), sl .v (e.aez.map (aT p5 p6 p7 p8 p9)), sl .v (e.Done.map (bn p11 p12 p13 p14)), sl .v (e.aeL.map (bl p16 p17 p18)), val (vI e.Steps)]), (false, [val (vI l)])] (aJ [(false, [val (vI (wZ e l))])]) := by
 refine sF func104 fun h0 w0 Fz0 => ?_
 refine sn 0 0 fun hl0_0 => ?_
 refine sn 0 3 fun hl0_3 => ?_
 refine sn 0 4 fun hl0_4 => ?_
 refine sn 0 5 fun hl0_5 => ?_
 refine sn 0 6 fun hl0_6 => ?_
 have hbu := hb
 simp only [bp, fB, fC, fV] at hbu
 refine jO ?_
 refine wc ?_
 refine sB ?_
 refine fz ?_
 refine cx 9 (fun ga sga => ?_) (fun ga sga => ?_)
 refine mE ?_
 exact KM
 refine rB ga ?_ (x := sM)
 refine sI ?_
 refine rA ?_ (x := aF ga)
 refine sc ?_ ?_ <;> intro hba
 exact KM
 have hok : (aX e && aK l 0 32) = true := by first | (simp_all; done) | (cases h1_ : aX e <;> cases h2_ : aK l 0 32 <;> simp_all)
 have hl8 := (kr.1 (fO.1 (by rw [aS] at hok; exact hok.1)).so).l8
 have hmm : 0 ≤ (e.Store.aey.length : Int) * e.Store.aey.length ∧ (e.Store.aey.length : Int) * e.Store.aey.length ≤ 64 := by rw [← Int.natCast_mul]; have := Nat.mul_le_mul hl8 hl8; omega
 refine bb ?_
 refine sS [1, 2, 4] [2] ?_
 refine vQ ?_
 refine hZ ?_
 refine sS [1, 2, 4, 5] [2] ?_
 refine to ?_
 refine sc ?_ ?_ <;> intro hbb
 have hz := hbb
 refine sS [1, 2, 4, 5] [2] ?_
 refine rM ?_
 exact KN
 have hz := hbb
 refine bb ?_
 refine sS [1, 2, 4, 5] [2] ?_
 refine jS ?_
 refine rA ?_ (x := xj (by decide) (by exact tI) (by exact tI) (by unfold jI; omega))
 exact KN
def adv {p1 p2 p5 p6 p7 p8 p9 p11 p12 p13 p14 p16 p17 p18 : Fl} {e : aA}  (hb : bp e ≤ 68718000000) : aN prog 30 [(true, [sl .v (e.Store.aey.map (aG p1 p2)), val (vI e.Store.Now), val (vI e.aeD), sl .v (e.Order.map am), sl .v (e.aez.map (aT p5 p6 p7 p8 p9)), sl .v (e.Done.map (bn p11 p12 p13 p14)), sl .v (e.aeL.map (bl p16 p17 p18)), val (vI e.Steps)])] (aJ [(false, [val (.bool (rU e))])]) := by
 refine sF func30 fun h0 w0 Fz0 => ?_
 refine sn 0 0 fun hl0_0 => ?_
 refine sn 0 3 fun hl0_3 => ?_
 refine sn 0 4 fun hl0_4 => ?_
 refine sn 0 5 fun hl0_5 => ?_
 refine sn 0 6 fun hl0_6 => ?_
 have hbu := hb
 simp only [bp, fB, fC, fV] at hbu
 refine jO ?_
 refine lj ?_
 refine sB ?_
 refine rA ?_ (x := nT)
 refine sc ?_ ?_ <;> intro hba
 have hno : aX e = false := by simpa using hba
 refine sS [1, 2] [1] ?_
 refine cm ?_
 exact rb (by unfold rU; rw [hno]; rfl)
 have hok : aX e = true := by simpa using hba
 have hl8 := (kr.1 (fO.1 hok).so).l8
 have hmm : 0 ≤ (e.Store.aey.length : Int) * (e.Store.aey.length : Int) ∧ (e.Store.aey.length : Int) * (e.Store.aey.length : Int) ≤ 64 := by rw [← Int.natCast_mul]; have := Nat.mul_le_mul hl8 hl8; omega
 refine bb ?_
 refine sS [1, 2] [1] ?_
 refine vQ ?_
 refine zp ?_
 refine sW ?_
 refine eo ?_
 refine sP [1, 2, 3, 16, 17, 18] [1] ?_
 refine sL [1, 3, 16, 17] [1] (fun k : Nat => k ≤ e.Done.length ∧ (e.Done.take k).all (qg (e.Store.aey.length : Int)) = true) (fun k : Nat => [(18, RV.int (k : Int))]) (fun k : Nat => []) (fun k : Nat => e.Done.length - k) 0 (by exact ⟨by omega, rfl⟩) (by exact aI (by exact rfl) tI) (by exact tI) ?_
 rintro k ⟨hk, ha⟩
 refine cn ?_
 refine sc ?_ ?_ <;> intro hbb
 have hlt : k < e.Done.length := by omega
 have hwm := di (f := ia) hlt
 refine bi ?_
 refine sT [1, 3, 16, 17, 18] [1] ?_
 refine tz ?_
 refine sO [(1, _), (3, _), (5, _), (16, _), (17, _), (18, _)] [(1, _), (5, (63, [val _, val _, sl _ _, sl _ _, val _, val _, sl _ _]))] ?_
 refine bd ?_
 refine rA ?_ (x := lF Ez)
 refine oo ?_
 refine rM ?_
 refine rA ?_ (x := xj (by decide) (by exact tI) (by exact tI) (by unfold jI; omega))
 refine rA ?_ (x := dI)
 refine sc ?_ ?_ <;> intro hbc
 have hno2 : qg (e.Store.aey.length : Int) e.Done[k] = false := by unfold qg; simpa using hbc
 refine sS [1, 3, 5, 16, 17, 18] [1, 5] ?_
 refine cm ?_
 exact rb (by unfold rU; rw [kE hlt hno2, Bool.false_and, Bool.and_false])
 have hys : qg (e.Store.aey.length : Int) e.Done[k] = true := by unfold qg; simpa using hbc
 refine bb ?_
 refine sG [1, 3, 5, 16, 17, 18] [1, 5] ?_
 exact KO
 have hend : k = e.Done.length := by omega
 have hda : e.Done.all (qg (e.Store.aey.length : Int)) = true := by have := ha; rwa [hend, cj] at this
 refine er ?_
 refine sT [1, 3, 16, 17, 18] [1] ?_
 refine oz ?_
 refine sP [1, 3, 16, 17, 18, 30, 31, 32] [1] ?_
 refine sL [1, 3, 16, 17, 18, 30, 31] [1] (fun k : Nat => k ≤ e.aez.length ∧ (e.aez.take k).all (qh e) = true) (fun k : Nat => [(32, RV.int (k : Int))]) (fun k : Nat => []) (fun k : Nat => e.aez.length - k) 0 (by exact ⟨by omega, rfl⟩) (by exact aI (by exact rfl) tI) (by exact tI) ?_
 rintro k ⟨hk, ha⟩
 refine cn ?_
 refine sc ?_ ?_ <;> intro hbc
 have hlt : k < e.aez.length := by omega
 have hwm := di (f := dc) hlt
 refine bi ?_
 refine sT [1, 3, 16, 17, 18, 30, 31, 32] [1] ?_
 refine qz ?_
 refine qy ?_
 refine be ?_
 refine sO [(1, _), (3, _), (7, _), (16, _), (17, _), (18, _), (30, _), (31, _), (32, _)] [(1, _), (7, (108, [val _, val _, sl _ _, sl _ _, val _, sl _ _, val _, val _, val _, sl _ _]))] ?_
 refine da cG ?_
 refine dA 0 ?_ (x := lF ju)
 refine dA 1 ?_ (x := lD [val _] az)
 refine dA 0 ?_ (x := lD [sl .v _, val _, val _, sl .v _, sl .v _, sl .v _, sl .v _, val _] bU)
 refine dA 0 ?_ (x := lF ri)
 refine dA 8 ?_ (x := lD [val _] az)
 refine dA 28 ?_ (x := cL [(true, [sl _ _, val _, val _, sl _ _, sl _ _, sl _ _, sl _ _, val _]), (false, [val _])] [(true, [sl .v _, val _, val _, sl .v _, sl .v _, sl .v _, sl .v _, val _]), (false, [val _])] XV (hs := by exact (adu (by omega))))
 refine dA 63 ?_ (x := iy)
 refine sc ?_ ?_ <;> intro hbd
 have hno3 : qh e e.aez[k] = false := by unfold qh; simpa using hbd
 refine sS [1, 3, 7, 16, 17, 18, 30, 31, 32] [1, 7] ?_
 refine cm ?_
 exact rb (by unfold rU; rw [kE hlt hno3, Bool.and_false, Bool.and_false])
 have hys : qh e e.aez[k] = true := by unfold qh; simpa using hbd
 refine bb ?_
 refine sG [1, 3, 7, 16, 17, 18, 30, 31, 32] [1, 7] ?_
 exact KO
 have hend2 : k = e.aez.length := by omega
 have hdb : e.aez.all (qh e) = true := by have := ha; rwa [hend2, cj] at this
 refine bq ?_
 refine sT [1, 3, 16, 17, 18, 30, 31, 32] [1] ?_
 refine cm ?_
 exact rb (by unfold rU; rw [hok, hda, hdb]; rfl)
def adw {p1 p2 p3 : Fl} {l : List br} {g : List Int}  (hb : l.length ≤ 1048576) : aN prog 36 [(false, [sl .v (l.map (bl p1 p2 p3))]), (false, [sl .v (g.map am)])] (aJ [(false, [val (vI (pc l g))])]) := by
 refine sF func36 fun h0 w0 Fz0 => ?_
 refine sj 0 fun hl0 => ?_
 refine sj 1 fun hl1 => ?_
 refine sR ?_
 refine rK ?_
 refine sS [0, 1, 4] [] ?_
 refine eH ?_
 refine sS [0, 1, 4, 5] [] ?_
 refine Eh ?_
 refine sP [0, 1, 4, 5, 12, 13, 14] [] ?_
 refine sL [0, 1, 4, 12, 13] [] (fun k : Nat => k ≤ l.length) (fun k : Nat => [(5, RV.int (((l.take k).map (jg g)).sum)), (14, RV.int (k : Int))]) (fun k : Nat => []) (fun k : Nat => l.length - k) 0 (by omega) (by exact aI (by first | exact rfl | simp) (aI (by exact rfl) tI)) (by exact tI) ?_
 rintro k hk
 refine cn ?_
 refine sc ?_ ?_ <;> intro hba
 have hlt : k < l.length := by omega
 have hsm := abX (l.take k) g
 rw [bv] at hsm
 unfold pc at hsm
 have hc1 := Tj g l[k]
 have hwm := di (f := ns) hlt
 refine bi ?_
 refine sS [0, 1, 4, 5, 12, 13, 14] [] ?_
 refine qA ?_
 refine sE ?_
 refine be ?_
 refine sT [0, 1, 4, 5, 7, 12, 13, 14] [7] ?_
 refine zip ?_
 refine rA ?_ (x := nT)
 refine sc ?_ ?_ <;> intro hbb
 have hno : bZ l[k] = false := by simpa using hbb
 have hco : jg g l[k] = 0 := by unfold jg; rw [if_neg (by rw [hno]; simp)]
 refine bq ?_
 refine sG [0, 1, 4, 5, 7, 12, 13, 14] [7] ?_
 exact KP
 have hok : bZ l[k] = true := by simpa using hbb
 obtain ⟨hp_, hb0, hb4, hrw⟩ := kh hok
 have hpl := jy hp_
 refine bb ?_
 refine sS [0, 1, 4, 5, 7, 12, 13, 14] [7] ?_
 refine rK ?_
 refine sS [0, 1, 4, 5, 7, 8, 12, 13, 14] [7] ?_
 refine eH ?_
 refine sS [0, 1, 4, 5, 7, 8, 9, 12, 13, 14] [7] ?_
 refine rA ?_ (x := lF lY)
 refine qU ?_
 refine sP [0, 1, 4, 5, 7, 8, 9, 12, 13, 14, 22, 23, 24] [7] ?_
 refine sL [0, 1, 4, 5, 7, 12, 13, 14, 22, 23] [7] (fun k2 : Nat => k2 ≤ l[k].aeF.length) (fun k2 : Nat => [(8, RV.int (nM g l[k] k2)), (9, RV.bool (rR g l[k] k2)), (24, RV.int (k2 : Int))]) (fun k2 : Nat => []) (fun k2 : Nat => l[k].aeF.length - k2) 0 (by omega) (by exact aI (by exact rfl) (aI (by exact rfl) (aI (by exact rfl) tI))) (by exact tI) ?_
 rintro k2 hk2
 refine cn ?_
 refine sc ?_ ?_ <;> intro hbc
 have hlt2 : k2 < l[k].aeF.length := by omega
 have htl := hlt2
 have hrl : k2 < l[k].Rows.length := by omega
 have hct := Gz (g := g) hok k2 (by omega)
 have hr1 : 0 ≤ l[k].Rows[k2] ∧ l[k].Rows[k2] ≤ 4 := by have := hrw k2 (by omega); rwa [← df hrl] at this
 refine bi ?_
 refine sT [0, 1, 4, 5, 7, 8, 9, 12, 13, 14, 22, 23, 24] [7] ?_
 refine rM ?_
 refine sJ ?_
 refine rS ?_
 refine rS ?_
 refine sS [0, 1, 4, 5, 7, 8, 9, 10, 11, 12, 13, 14, 22, 23, 24] [7] ?_
 refine Pe ?_
 refine sc ?_ ?_ <;> intro hbd
 have hc := hbd
 refine sS [0, 1, 4, 5, 7, 8, 9, 10, 11, 12, 13, 14, 22, 23, 24] [7] ?_
 refine rK ?_
 refine sG [0, 1, 4, 5, 7, 8, 9, 10, 11, 12, 13, 14, 22, 23, 24] [7] ?_
 refine rM ?_
 refine rA ?_ (x := lF kb)
 refine rA ?_ (x := lD [sl .v _] bF)
 refine rM ?_
 refine sJ ?_
 refine lh ?_
 exact KQ
 have hc : ¬ bB g l[k].aeF[k2] = true := by simpa using hbd
 refine bb ?_
 exact KQ
 have hend2 : k2 = l[k].aeF.length := by omega
 have hct := Gz (g := g) hok k2 (by omega)
 refine bq ?_
 refine sT [0, 1, 4, 5, 7, 8, 9, 12, 13, 14, 22, 23, 24] [7] ?_
 refine rM ?_
 refine sc ?_ ?_ <;> intro hbd
 have hco : jg g l[k] = l[k].Base + nM g l[k] k2 := by unfold jg; rw [if_pos hok, if_pos (by rw [← hend2]; exact hbd), hend2]
 refine sG [0, 1, 4, 5, 7, 8, 9, 12, 13, 14, 22, 23, 24] [7] ?_
 refine zk ?_
 refine oo ?_
 refine rA ?_ (x := jm)
 refine lh ?_
 exact KR
 have hco : jg g l[k] = 0 := by unfold jg; rw [if_pos hok, if_neg (by rw [← hend2]; simpa using hbd)]
 refine bb ?_
 exact KR
 have hend : k = l.length := by omega
 refine bq ?_
 refine sS [0, 1, 4, 5, 12, 13, 14] [] ?_
 exact xU
end Go.Proofs.YtmekkgdboplbjaaGreat
