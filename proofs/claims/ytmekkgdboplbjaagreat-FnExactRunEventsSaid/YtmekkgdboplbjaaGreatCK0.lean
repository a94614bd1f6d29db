/- What functions of the program compute. No condition. -/
import Derived.Test.YtmekkgdboplbjaaGreatCD0
import Derived.Test.YtmekkgdboplbjaaGreatCF0
set_option linter.all false
namespace Go.Proofs.YtmekkgdboplbjaaGreat
open Go Go.RowKit M PV Tryz
set_option maxRecDepth 10000
attribute [local irreducible] PV.Lcl PV.LclR RV.Lcl
def Ze {x : List Int} {k : Int}  (h0k : 0 ≤ k) (hbk : (aj aR x k).2 ≤ 4611686018427387904): aB prog 137 [(false, [sl .v ((aj aR x k).1.map ak)]), (false, [val (vI k)])] (aA [(false, [val (vI (aj aR x k).2)])]) := by
 refine sF func137 fun h0 w0 Fz0 => ?_
 refine sj 0 fun hl0 => ?_
 have hlm : (aj aR x k).1.length = x.length := gP _ _
 have hmono := iA dy x
 have hmono0 := fun i => bp dy (x.take i) k
 refine mV ?_
 refine sL [0] [] (fun i : Nat => i ≤ x.length) (fun i : Nat => [(1, RV.int (aj aR (x.take i) k).2), (5, RV.int (i : Int))]) (fun i : Nat => []) (fun i : Nat => x.length - i) 0 (by omega) (by exact aI (by exact rfl) (aI (by exact rfl) tI)) (by exact tI) ?_
 rintro i hi
 refine jX ?_
 refine sc (fun hba => ?_) (fun hba => ?_)
 have hlt : i < x.length := by omega
 have hk0 := hmono0 i
 have hk1 := hmono (i + 1) k
 rw [eE hlt] at hk1
 dsimp only at hk1
 simp only [aR] at hk1
 refine cO ?_
 refine hJ ?_
 refine rM ?_
 refine rA ?_ (x := aY (by decide) bF (by exact tI) (by exact rfl) (by exact pi hlt rfl) (by exact rfl))
 refine gS ?_
 refine sc (fun hbb => ?_) (fun hbb => ?_)
 exact po
 exact zK
 exact pp
def Zf {x : List dg} {k : Int}  (h0k : 0 ≤ k) (hbk : (aj bz x k).2 ≤ 4611686018427387904): aB prog 225 [(false, [sl .v ((aj bz x k).1.map bj)]), (false, [val (vI k)])] (aA [(false, [val (vI (aj bz x k).2)])]) := by
 refine sF func225 fun h0 w0 Fz0 => ?_
 refine sj 0 fun hl0 => ?_
 have hlm : (aj bz x k).1.length = x.length := gP _ _
 have hmono := iA lb x
 have hmono0 := fun i => bp lb (x.take i) k
 refine mV ?_
 refine sL [0] [] (fun i : Nat => i ≤ x.length) (fun i : Nat => [(1, RV.int (aj bz (x.take i) k).2), (5, RV.int (i : Int))]) (fun i : Nat => []) (fun i : Nat => x.length - i) 0 (by omega) (by exact aI (by exact rfl) (aI (by exact rfl) tI)) (by exact tI) ?_
 rintro i hi
 refine cP ?_
 refine xp ?_
 refine sc (fun hba => ?_) (fun hba => ?_)
 have hlt : i < x.length := by omega
 have hk0 := hmono0 i
 have hk1 := hmono (i + 1) k
 rw [eE hlt] at hk1
 dsimp only at hk1
 simp only [bz] at hk1
 refine cO ?_
 refine hJ ?_
 refine Bn ?_
 refine rA ?_ (x := bI (by decide) mh (by exact nl rfl))
 refine gS ?_
 refine sc (fun hbb => ?_) (fun hbb => ?_)
 exact po
 refine sN ?_
 refine Bn ?_
 refine rA ?_ (x := bI (by decide) pQ (by exact nl rfl))
 refine gS ?_
 refine sc (fun hbc => ?_) (fun hbc => ?_)
 exact rP
 refine sN ?_
 refine Bn ?_
 refine rA ?_ (x := bI (by decide) mi (by exact nl rfl))
 refine gS ?_
 refine sc (fun hbd => ?_) (fun hbd => ?_)
 exact tN
 exact zK
 exact pp
def Zg {p1 p2 p3 : Fl} {x : List cU} {k : Int}  (h0k : 0 ≤ k) (hbk : (aj fj x k).2 ≤ 4611686018427387904): aB prog 140 [(false, [sl .v ((aj fj x k).1.map (aZ p1 p2 p3))]), (false, [val (vI k)])] (aA [(false, [val (vI (aj fj x k).2)])]) := by
 refine sF func140 fun h0 w0 Fz0 => ?_
 refine sj 0 fun hl0 => ?_
 have hlm : (aj fj x k).1.length = x.length := gP _ _
 have hmono := iA ra x
 have hmono0 := fun i => bp ra (x.take i) k
 refine mV ?_
 refine sL [0] [] (fun i : Nat => i ≤ x.length) (fun i : Nat => [(1, RV.int (aj fj (x.take i) k).2), (5, RV.int (i : Int))]) (fun i : Nat => []) (fun i : Nat => x.length - i) 0 (by omega) (by exact aI (by exact rfl) (aI (by exact rfl) tI)) (by exact tI) ?_
 rintro i hi
 refine cP ?_
 refine xq ?_
 refine sc (fun hba => ?_) (fun hba => ?_)
 have hlt : i < x.length := by omega
 have hk0 := hmono0 i
 have hk1 := hmono (i + 1) k
 rw [eE hlt] at hk1
 dsimp only at hk1
 have hm0 := bp dy x[i].Ids (((aj fj (x.take i) k).2 + 1) + 1)
 have hm1 := bp dy x[i].acA (aj aR x[i].Ids (((aj fj (x.take i) k).2 + 1) + 1)).2
 have hm2 := bp dy x[i].Rows (aj aR x[i].acA (aj aR x[i].Ids (((aj fj (x.take i) k).2 + 1) + 1)).2).2
 simp only [fj] at hk1
 refine cO ?_
 refine hJ ?_
 refine ui ?_
 refine rA ?_ (x := bI (by decide) pS (by exact nl rfl))
 refine gS ?_
 refine sc (fun hbb => ?_) (fun hbb => ?_)
 exact po
 refine sN ?_
 refine ui ?_
 refine rA ?_ (x := bI (by decide) ng (by exact nl rfl))
 refine gS ?_
 refine sc (fun hbc => ?_) (fun hbc => ?_)
 exact rP
 refine kY ?_
 refine hJ ?_
 refine ui ?_
 refine rA ?_ (x := bI (by decide) mn (by exact nl rfl))
 refine sU ?_
 refine sc (fun hbd => ?_) (fun hbd => ?_)
 exact tN
 refine bm ?_
 refine hJ ?_
 refine ui ?_
 refine rA ?_ (x := bI (by decide) kl (by exact nl rfl))
 refine sU ?_
 refine sc (fun hbe => ?_) (fun hbe => ?_)
 exact vW
 refine bm ?_
 refine hJ ?_
 refine ui ?_
 refine rA ?_ (x := bI (by decide) iZ (by exact nl rfl))
 refine Be ?_
 refine lX ?_
 refine sc (fun hbf => ?_) (fun hbf => ?_)
 exact zL
 exact tO
 exact pp
def Zh {p1 : Fl} {x : List Row} {k : Int}  (h0k : 0 ≤ k) (hbk : (aj fk x k).2 ≤ 4611686018427387904): aB prog 226 [(false, [sl .v ((aj fk x k).1.map (bC p1))]), (false, [val (vI k)])] (aA [(false, [val (vI (aj fk x k).2)])]) := by
 refine sF func226 fun h0 w0 Fz0 => ?_
 refine sj 0 fun hl0 => ?_
 have hlm : (aj fk x k).1.length = x.length := gP _ _
 have hmono := iA mX x
 have hmono0 := fun i => bp mX (x.take i) k
 refine mV ?_
 refine sL [0] [] (fun i : Nat => i ≤ x.length) (fun i : Nat => [(1, RV.int (aj fk (x.take i) k).2), (5, RV.int (i : Int))]) (fun i : Nat => []) (fun i : Nat => x.length - i) 0 (by omega) (by exact aI (by exact rfl) (aI (by exact rfl) tI)) (by exact tI) ?_
 rintro i hi
 refine cP ?_
 refine xr ?_
 refine sc (fun hba => ?_) (fun hba => ?_)
 have hlt : i < x.length := by omega
 have hk0 := hmono0 i
 have hk1 := hmono (i + 1) k
 rw [eE hlt] at hk1
 dsimp only at hk1
 have hm0 := bp dy x[i].Values ((aj fk (x.take i) k).2 + 1)
 simp only [fk] at hk1
 refine cO ?_
 refine Ma ?_
 refine rA ?_ (x := bI (by decide) kk (by exact nl rfl))
 refine gS ?_
 refine sc (fun hbb => ?_) (fun hbb => ?_)
 exact po
 refine kY ?_
 refine Ma ?_
 refine rA ?_ (x := bI (by decide) iw (by exact nl rfl))
 refine Be ?_
 refine lX ?_
 refine sc (fun hbc => ?_) (fun hbc => ?_)
 exact rP
 exact tO
 exact pp
def Zi {p1 : Fl} {x : List aU} {k : Int}  (h0k : 0 ≤ k) (hbk : (aj gt x k).2 ≤ 4611686018427387904): aB prog 269 [(false, [sl .v ((aj gt x k).1.map (cX p1))]), (false, [val (vI k)])] (aA [(false, [val (vI (aj gt x k).2)])]) := by
 refine sF func269 fun h0 w0 Fz0 => ?_
 refine sj 0 fun hl0 => ?_
 have hlm : (aj gt x k).1.length = x.length := gP _ _
 have hmono := iA rc x
 have hmono0 := fun i => bp rc (x.take i) k
 refine mV ?_
 refine sL [0] [] (fun i : Nat => i ≤ x.length) (fun i : Nat => [(1, RV.int (aj gt (x.take i) k).2), (5, RV.int (i : Int))]) (fun i : Nat => []) (fun i : Nat => x.length - i) 0 (by omega) (by exact aI (by exact rfl) (aI (by exact rfl) tI)) (by exact tI) ?_
 rintro i hi
 refine cP ?_
 refine oj ?_
 refine sc (fun hba => ?_) (fun hba => ?_)
 have hlt : i < x.length := by omega
 have hk0 := hmono0 i
 have hk1 := hmono (i + 1) k
 rw [eE hlt] at hk1
 dsimp only at hk1
 have hm0 := bp dy x[i].Values ((aj gt (x.take i) k).2 + 1)
 simp only [gt] at hk1
 refine cO ?_
 refine hJ ?_
 refine wR ?_
 refine rA ?_ (x := bI (by decide) na (by exact nl rfl))
 refine gS ?_
 refine sc (fun hbb => ?_) (fun hbb => ?_)
 exact po
 refine kY ?_
 refine hJ ?_
 refine wR ?_
 refine rA ?_ (x := bI (by decide) jE (by exact nl rfl))
 refine sU ?_
 refine sc (fun hbc => ?_) (fun hbc => ?_)
 exact rP
 refine dt ?_
 refine hJ ?_
 refine wR ?_
 refine rA ?_ (x := bI (by decide) jF (by exact nl rfl))
 refine gS ?_
 refine sc (fun hbd => ?_) (fun hbd => ?_)
 exact tN
 refine sN ?_
 refine wR ?_
 refine rA ?_ (x := bI (by decide) gG (by exact nl rfl))
 refine gS ?_
 refine sc (fun hbe => ?_) (fun hbe => ?_)
 exact vW
 exact zK
 exact pp
def Zj {p1 p2 : Fl} {x : List (List aU)} {k : Int}  (h0k : 0 ≤ k) (hbk : (aj cw x k).2 ≤ 4611686018427387904): aB prog 224 [(false, [sl .v ((aj cw x k).1.map (aC p1 p2))]), (false, [val (vI k)])] (aA [(false, [val (vI (aj cw x k).2)])]) := by
 refine sF func224 fun h0 w0 Fz0 => ?_
 refine sj 0 fun hl0 => ?_
 have hlm : (aj cw x k).1.length = x.length := gP _ _
 have hmono := iA oL x
 have hmono0 := fun i => bp oL (x.take i) k
 refine mV ?_
 refine sL [0] [] (fun i : Nat => i ≤ x.length) (fun i : Nat => [(1, RV.int (aj cw (x.take i) k).2), (5, RV.int (i : Int))]) (fun i : Nat => []) (fun i : Nat => x.length - i) 0 (by omega) (by exact aI (by exact rfl) (aI (by exact rfl) tI)) (by exact tI) ?_
 rintro i hi
 refine cP ?_
 refine Cc ?_
 refine sc (fun hba => ?_) (fun hba => ?_)
 have hlt : i < x.length := by omega
 have hk0 := hmono0 i
 have hk1 := hmono (i + 1) k
 rw [eE hlt] at hk1
 dsimp only at hk1
 have hm0 := bp rc x[i] (aj cw (x.take i) k).2
 simp only [cw] at hk1
 refine oA ?_
 refine rA ?_ (x := aY (by decide) di (by exact tI) (by exact rfl) (by exact pi hlt rfl) (by exact rfl))
 refine rA ?_ (x := lE [sl .v _] gx)
 refine rM ?_
 refine rA ?_ (x := cL [(false, [sl _ _]), (false, [val _])] [(false, [sl .v _]), (false, [val _])] UH (hs := by exact Zi (by omega) (by omega)))
 refine lX ?_
 refine sc (fun hbb => ?_) (fun hbb => ?_)
 exact po
 exact tO
 exact pp
def Zk {p1 p2 : Fl} {x : Store} {k : Int}  (h0k : 0 ≤ k) (hbk : (gu x k).2 ≤ 4611686018427387904): aB prog 136 [(true, [sl .v ((gu x k).1.act.map (aC p1 p2)), val (vI (gu x k).1.Now)]), (false, [val (vI k)])] (aA [(false, [val (vI (gu x k).2)])]) := by
 refine sF func136 fun h0 w0 Fz0 => ?_
 refine sn 0 0 fun hl0_0 => ?_
 simp only [gu] at hbk
 have hm0 := bp oL x.act k
 refine jy ?_
 refine jW ?_
 refine qV ?_
 refine rA ?_ (x := cL [(false, [sl _ _]), (false, [val _])] [(false, [sl .v _]), (false, [val _])] Ut (hs := by exact Zj (by omega) (by omega)))
 refine jz ?_
 refine sc (fun hba => ?_) (fun hba => ?_)
 omega
 exact Gk
def Zl {p1 p2 p3 p4 p5 : Fl} {x : List acu} {k : Int}  (h0k : 0 ≤ k) (hbk : (aj dh x k).2 ≤ 4611686018427387904): aB prog 138 [(false, [sl .v ((aj dh x k).1.map (aQ p1 p2 p3 p4 p5))]), (false, [val (vI k)])] (aA [(false, [val (vI (aj dh x k).2)])]) := by
 refine sF func138 fun h0 w0 Fz0 => ?_
 refine sj 0 fun hl0 => ?_
 have hlm : (aj dh x k).1.length = x.length := gP _ _
 have hmono := iA re x
 have hmono0 := fun i => bp re (x.take i) k
 refine mV ?_
 refine sL [0] [] (fun i : Nat => i ≤ x.length) (fun i : Nat => [(1, RV.int (aj dh (x.take i) k).2), (5, RV.int (i : Int))]) (fun i : Nat => []) (fun i : Nat => x.length - i) 0 (by omega) (by exact aI (by exact rfl) (aI (by exact rfl) tI)) (by exact tI) ?_
 rintro i hi
 refine cP ?_
 refine Cd ?_
 refine sc (fun hba => ?_) (fun hba => ?_)
 have hlt : i < x.length := by omega
 have hk0 := hmono0 i
 have hk1 := hmono (i + 1) k
 rw [eE hlt] at hk1
 dsimp only at hk1
 have hm0 := bp lb x[i].acv.acw (((aj dh (x.take i) k).2 + 1) + 1)
 have hm1 := bp dy x[i].acv.Out (aj bz x[i].acv.acw (((aj dh (x.take i) k).2 + 1) + 1)).2
 have hm2 := bp dy x[i].acD ((aj aR x[i].acv.Out (aj bz x[i].acv.acw (((aj dh (x.take i) k).2 + 1) + 1)).2).2 + 1)
 have hm3 := bp mX x[i].Rows ((((aj aR x[i].acD ((aj aR x[i].acv.Out (aj bz x[i].acv.acw (((aj dh (x.take i) k).2 + 1) + 1)).2).2 + 1)).2 + 1) + 1) + 1)
 simp only [dh] at hk1
 refine cO ?_
 refine pF ?_
 refine Bl ?_
 refine gS ?_
 refine sc (fun hbb => ?_) (fun hbb => ?_)
 exact po
 refine kY ?_
 refine aP ?_
 refine By ?_
 refine rA ?_ (x := bI (by decide) iY (by exact nl rfl))
 refine gS ?_
 refine sc (fun hbc => ?_) (fun hbc => ?_)
 exact rP
 refine kY ?_
 refine By ?_
 refine Mo ?_
 refine rM ?_
 refine Lc ?_
 refine wG ?_
 refine sc (fun hbd => ?_) (fun hbd => ?_)
 exact tN
 refine bm ?_
 refine By ?_
 refine rA ?_ (x := bI (by decide) ki (by exact nl rfl))
 refine sU ?_
 refine sc (fun hbe => ?_) (fun hbe => ?_)
 exact vW
 refine dt ?_
 refine pF ?_
 refine rA ?_ (x := bI (by decide) mZ (by exact nl rfl))
 refine gS ?_
 refine sc (fun hbf => ?_) (fun hbf => ?_)
 exact zL
 refine kY ?_
 refine pF ?_
 refine rA ?_ (x := bI (by decide) hR (by exact nl rfl))
 refine sU ?_
 refine sc (fun hbg => ?_) (fun hbg => ?_)
 first | exact absurd rfl hbg | omega
 refine dt ?_
 refine pF ?_
 refine rA ?_ (x := bI (by decide) mf (by exact nl rfl))
 refine gS ?_
 refine sc (fun hbh => ?_) (fun hbh => ?_)
 first | exact absurd rfl hbh | omega
 refine kY ?_
 refine aP ?_
 refine pF ?_
 refine rA ?_ (x := bI (by decide) kc (by exact nl rfl))
 refine gS ?_
 refine sc (fun hbi => ?_) (fun hbi => ?_)
 first | exact absurd rfl hbi | omega
 refine kY ?_
 refine aP ?_
 refine pF ?_
 refine rA ?_ (x := bI (by decide) mg (by exact nl rfl))
 refine gS ?_
 refine sc (fun hbj => ?_) (fun hbj => ?_)
 first | exact absurd rfl hbj | omega
 refine kY ?_
 refine pF ?_
 refine rA ?_ (x := bI (by decide) kd (by exact nl rfl))
 refine rA ?_ (x := lE [sl .v _] gy)
 refine rM ?_
 refine Lg ?_
 refine sc (fun hbk => ?_) (fun hbk => ?_)
 first | exact absurd rfl hbk | omega
 exact tO
 exact pp
def Zm {p1 p2 p3 p4 : Fl} {x : List cI} {k : Int}  (h0k : 0 ≤ k) (hbk : (aj ej x k).2 ≤ 4611686018427387904): aB prog 139 [(false, [sl .v ((aj ej x k).1.map (aX p1 p2 p3 p4))]), (false, [val (vI k)])] (aA [(false, [val (vI (aj ej x k).2)])]) := by
 refine sF func139 fun h0 w0 Fz0 => ?_
 refine sj 0 fun hl0 => ?_
 have hlm : (aj ej x k).1.length = x.length := gP _ _
 have hmono := iA rf x
 have hmono0 := fun i => bp rf (x.take i) k
 refine mV ?_
 refine sL [0] [] (fun i : Nat => i ≤ x.length) (fun i : Nat => [(1, RV.int (aj ej (x.take i) k).2), (5, RV.int (i : Int))]) (fun i : Nat => []) (fun i : Nat => x.length - i) 0 (by omega) (by exact aI (by exact rfl) (aI (by exact rfl) tI)) (by exact tI) ?_
 rintro i hi
 refine cP ?_
 refine xt ?_
 refine sc (fun hba => ?_) (fun hba => ?_)
 have hlt : i < x.length := by omega
 have hk0 := hmono0 i
 have hk1 := hmono (i + 1) k
 rw [eE hlt] at hk1
 dsimp only at hk1
 have hm0 := bp lb x[i].acv.acw (((aj ej (x.take i) k).2 + 1) + 1)
 have hm1 := bp dy x[i].acv.Out (aj bz x[i].acv.acw (((aj ej (x.take i) k).2 + 1) + 1)).2
 have hm2 := bp mX x[i].Rows (((aj aR x[i].acv.Out (aj bz x[i].acv.acw (((aj ej (x.take i) k).2 + 1) + 1)).2).2 + 1) + 1)
 simp only [ej] at hk1
 refine cO ?_
 refine hJ ?_
 refine xf ?_
 refine rA ?_ (x := bI (by decide) fx (by exact nl rfl))
 refine gS ?_
 refine sc (fun hbb => ?_) (fun hbb => ?_)
 exact po
 refine sN ?_
 refine xf ?_
 refine rA ?_ (x := bI (by decide) iY (by exact nl rfl))
 refine gS ?_
 refine sc (fun hbc => ?_) (fun hbc => ?_)
 exact rP
 refine kY ?_
 refine hJ ?_
 refine xf ?_
 refine Mo ?_
 refine rM ?_
 refine Lc ?_
 refine wG ?_
 refine sc (fun hbd => ?_) (fun hbd => ?_)
 exact tN
 refine bm ?_
 refine hJ ?_
 refine xf ?_
 refine rA ?_ (x := bI (by decide) ki (by exact nl rfl))
 refine sU ?_
 refine sc (fun hbe => ?_) (fun hbe => ?_)
 exact vW
 refine dt ?_
 refine hJ ?_
 refine wy ?_
 refine rA ?_ (x := bI (by decide) ri (by exact nl rfl))
 refine gS ?_
 refine sc (fun hbf => ?_) (fun hbf => ?_)
 exact zL
 refine sN ?_
 refine wy ?_
 refine rA ?_ (x := bI (by decide) rj (by exact nl rfl))
 refine gS ?_
 refine sc (fun hbg => ?_) (fun hbg => ?_)
 first | exact absurd rfl hbg | omega
 refine kY ?_
 refine hJ ?_
 refine wy ?_
 refine rA ?_ (x := bI (by decide) nf (by exact nl rfl))
 refine rA ?_ (x := lE [sl .v _] gy)
 refine rM ?_
 refine Lg ?_
 refine sc (fun hbh => ?_) (fun hbh => ?_)
 first | exact absurd rfl hbh | omega
 exact tO
 exact pp
def Zn {p1 p2 p5 p6 p7 p8 p9 p11 p12 p13 p14 p16 p17 p18 : Fl} {x : aD} {k : Int}  (h0k : 0 ≤ k) (hbk : (gT x k).2 ≤ 4611686018427387904): aB prog 45 [(true, [sl .v ((gT x k).1.Store.act.map (aC p1 p2)), val (vI (gT x k).1.Store.Now), val (vI (gT x k).1.acy), sl .v ((gT x k).1.Order.map ak), sl .v ((gT x k).1.acu.map (aQ p5 p6 p7 p8 p9)), sl .v ((gT x k).1.Done.map (aX p11 p12 p13 p14)), sl .v ((gT x k).1.acG.map (aZ p16 p17 p18)), val (vI (gT x k).1.Steps)]), (false, [val (vI k)])] (aA [(false, [val (vI (gT x k).2)])]) := by
 refine sF func45 fun h0 w0 Fz0 => ?_
 refine sn 0 0 fun hl0_0 => ?_
 refine sn 0 3 fun hl0_3 => ?_
 refine sn 0 4 fun hl0_4 => ?_
 refine sn 0 5 fun hl0_5 => ?_
 refine sn 0 6 fun hl0_6 => ?_
 simp only [gT] at hbk
 have hm0 := bp oL x.Store.act k
 have hm1 := bp dy x.Order (aj cw x.Store.act k).2
 have hm2 := bp re x.acu (aj aR x.Order (aj cw x.Store.act k).2).2
 have hm3 := bp rf x.Done (aj dh x.acu (aj aR x.Order (aj cw x.Store.act k).2).2).2
 have hm4 := bp ra x.acG (aj ej x.Done (aj dh x.acu (aj aR x.Order (aj cw x.Store.act k).2).2).2).2
 have hv0 : (gu x.Store k).2 = (aj cw x.Store.act k).2 := rfl
 refine jx ?_
 refine jW ?_
 refine qI ?_
 refine rM ?_
 refine rA ?_ (x := cL [(true, [sl _ _, val _]), (false, [val _])] [(true, [sl .v _, val _]), (false, [val _])] TO (hs := by exact Zk (by omega) (by first | omega | (simp only [gu]; omega))))
 refine jz ?_
 refine sc (fun hba => ?_) (fun hba => ?_)
 omega
 refine ir ?_
 refine rA ?_ (x := lF nb)
 refine rA ?_ (x := lD [sl .v _] bv)
 refine Jm ?_
 refine jz ?_
 refine sc (fun hbb => ?_) (fun hbb => ?_)
 omega
 refine ir ?_
 refine jV ?_
 refine rM ?_
 refine rA ?_ (x := cL [(false, [sl _ _]), (false, [val _])] [(false, [sl .v _]), (false, [val _])] TQ (hs := by exact Zl (by omega) (by omega)))
 refine jz ?_
 refine sc (fun hbc => ?_) (fun hbc => ?_)
 omega
 refine ir ?_
 refine oi ?_
 refine rM ?_
 refine rA ?_ (x := cL [(false, [sl _ _]), (false, [val _])] [(false, [sl .v _]), (false, [val _])] TR (hs := by exact Zm (by omega) (by omega)))
 refine jz ?_
 refine sc (fun hbd => ?_) (fun hbd => ?_)
 omega
 refine ir ?_
 refine pz ?_
 refine rM ?_
 refine rA ?_ (x := cL [(false, [sl _ _]), (false, [val _])] [(false, [sl .v _]), (false, [val _])] TS (hs := by exact Zg (by omega) (by omega)))
 refine jz ?_
 refine sc (fun hbe => ?_) (fun hbe => ?_)
 omega
 exact Gk
end Go.Proofs.YtmekkgdboplbjaaGreat
