/- What functions of the program compute. No condition. -/
import Derived.Test.YtmekkgdboplbjaaGreatCD0
import Derived.Test.YtmekkgdboplbjaaGreatCF0
set_option linter.all false
namespace Go.Proofs.YtmekkgdboplbjaaGreat
open Go Go.RowKit M PV Tryz
set_option maxRecDepth 10000
attribute [local irreducible] PV.Lcl PV.LclR RV.Lcl
def TA {x : List Int} {k : Int}  (h0k : 0 ≤ k) (hbk : (aj aQ x k).2 ≤ 4611686018427387904): aC prog 137 [(false, [sl .v ((aj aQ x k).1.map ak)]), (false, [val (vI k)])] (az [(false, [val (vI (aj aQ x k).2)])]) := by
 refine sF func137 fun h0 w0 Fz0 => ?_
 refine sj 0 fun hl0 => ?_
 have hlm : (aj aQ x k).1.length = x.length := gw _ _
 have hmono := ip cT x
 have hmono0 := fun i => bm cT (x.take i) k
 refine lK ?_
 refine sL [0] [] (fun i : Nat => i ≤ x.length) (fun i : Nat => [(1, RV.int (aj aQ (x.take i) k).2), (5, RV.int (i : Int))]) (fun i : Nat => []) (fun i : Nat => x.length - i) 0 (by omega) (by exact aI (by exact rfl) (aI (by exact rfl) tI)) (by exact tI) ?_
 rintro i hi
 refine jl ?_
 refine sc (fun hba => ?_) (fun hba => ?_)
 have hlt : i < x.length := by omega
 have hk0 := hmono0 i
 have hk1 := hmono (i + 1) k
 rw [et hlt] at hk1
 dsimp only at hk1
 simp only [aQ] at hk1
 refine cF ?_
 refine gz ?_
 refine rM ?_
 refine rA ?_ (x := aY (by decide) bC (by exact tI) (by exact rfl) (by exact nt hlt rfl) (by exact rfl))
 refine gl ?_
 refine sc (fun hbb => ?_) (fun hbb => ?_)
 exact nF
 exact xS
 exact nG
def TB {x : List cS} {k : Int}  (h0k : 0 ≤ k) (hbk : (aj bw x k).2 ≤ 4611686018427387904): aC prog 225 [(false, [sl .v ((aj bw x k).1.map bf)]), (false, [val (vI k)])] (az [(false, [val (vI (aj bw x k).2)])]) := by
 refine sF func225 fun h0 w0 Fz0 => ?_
 refine sj 0 fun hl0 => ?_
 have hlm : (aj bw x k).1.length = x.length := gw _ _
 have hmono := ip jP x
 have hmono0 := fun i => bm jP (x.take i) k
 refine lK ?_
 refine sL [0] [] (fun i : Nat => i ≤ x.length) (fun i : Nat => [(1, RV.int (aj bw (x.take i) k).2), (5, RV.int (i : Int))]) (fun i : Nat => []) (fun i : Nat => x.length - i) 0 (by omega) (by exact aI (by exact rfl) (aI (by exact rfl) tI)) (by exact tI) ?_
 rintro i hi
 refine cQ ?_
 refine vq ?_
 refine sc (fun hba => ?_) (fun hba => ?_)
 have hlt : i < x.length := by omega
 have hk0 := hmono0 i
 have hk1 := hmono (i + 1) k
 rw [et hlt] at hk1
 dsimp only at hk1
 simp only [bw] at hk1
 refine cF ?_
 refine gz ?_
 refine zl ?_
 refine rA ?_ (x := bE (by decide) kR (by exact nl rfl))
 refine gl ?_
 refine sc (fun hbb => ?_) (fun hbb => ?_)
 exact nF
 refine ri ?_
 refine zl ?_
 refine rA ?_ (x := bE (by decide) om (by exact nl rfl))
 refine gl ?_
 refine sc (fun hbc => ?_) (fun hbc => ?_)
 exact qu
 refine ri ?_
 refine zl ?_
 refine rA ?_ (x := bE (by decide) kS (by exact nl rfl))
 refine gl ?_
 refine sc (fun hbd => ?_) (fun hbd => ?_)
 exact r8
 exact xS
 exact nG
def TC {p1 p2 p3 : Fl} {x : List cE} {k : Int}  (h0k : 0 ≤ k) (hbk : (aj eI x k).2 ≤ 4611686018427387904): aC prog 140 [(false, [sl .v ((aj eI x k).1.map (a7 p1 p2 p3))]), (false, [val (vI k)])] (az [(false, [val (vI (aj eI x k).2)])]) := by
 refine sF func140 fun h0 w0 Fz0 => ?_
 refine sj 0 fun hl0 => ?_
 have hlm : (aj eI x k).1.length = x.length := gw _ _
 have hmono := ip pG x
 have hmono0 := fun i => bm pG (x.take i) k
 refine lK ?_
 refine sL [0] [] (fun i : Nat => i ≤ x.length) (fun i : Nat => [(1, RV.int (aj eI (x.take i) k).2), (5, RV.int (i : Int))]) (fun i : Nat => []) (fun i : Nat => x.length - i) 0 (by omega) (by exact aI (by exact rfl) (aI (by exact rfl) tI)) (by exact tI) ?_
 rintro i hi
 refine cQ ?_
 refine vr ?_
 refine sc (fun hba => ?_) (fun hba => ?_)
 have hlt : i < x.length := by omega
 have hk0 := hmono0 i
 have hk1 := hmono (i + 1) k
 rw [et hlt] at hk1
 dsimp only at hk1
 have hm0 := bm cT x[i].Ids (((aj eI (x.take i) k).2 + 1) + 1)
 have hm1 := bm cT x[i].Wy (aj aQ x[i].Ids (((aj eI (x.take i) k).2 + 1) + 1)).2
 have hm2 := bm cT x[i].Rows (aj aQ x[i].Wy (aj aQ x[i].Ids (((aj eI (x.take i) k).2 + 1) + 1)).2).2
 simp only [eI] at hk1
 refine cF ?_
 refine gz ?_
 refine sy ?_
 refine rA ?_ (x := bE (by decide) oo (by exact nl rfl))
 refine gl ?_
 refine sc (fun hbb => ?_) (fun hbb => ?_)
 exact nF
 refine ri ?_
 refine sy ?_
 refine rA ?_ (x := bE (by decide) lW (by exact nl rfl))
 refine gl ?_
 refine sc (fun hbc => ?_) (fun hbc => ?_)
 exact qu
 refine j7 ?_
 refine gz ?_
 refine sy ?_
 refine rA ?_ (x := bE (by decide) kU (by exact nl rfl))
 refine rj ?_
 refine sc (fun hbd => ?_) (fun hbd => ?_)
 exact r8
 refine bl ?_
 refine gz ?_
 refine sy ?_
 refine rA ?_ (x := bE (by decide) jx (by exact nl rfl))
 refine rj ?_
 refine sc (fun hbe => ?_) (fun hbe => ?_)
 exact ui
 refine bl ?_
 refine gz ?_
 refine sy ?_
 refine rA ?_ (x := bE (by decide) iA (by exact nl rfl))
 refine zb ?_
 refine kG ?_
 refine sc (fun hbf => ?_) (fun hbf => ?_)
 exact xT
 exact r9
 exact nG
def TD {p1 : Fl} {x : List Row} {k : Int}  (h0k : 0 ≤ k) (hbk : (aj eJ x k).2 ≤ 4611686018427387904): aC prog 226 [(false, [sl .v ((aj eJ x k).1.map (bu p1))]), (false, [val (vI k)])] (az [(false, [val (vI (aj eJ x k).2)])]) := by
 refine sF func226 fun h0 w0 Fz0 => ?_
 refine sj 0 fun hl0 => ?_
 have hlm : (aj eJ x k).1.length = x.length := gw _ _
 have hmono := ip lM x
 have hmono0 := fun i => bm lM (x.take i) k
 refine lK ?_
 refine sL [0] [] (fun i : Nat => i ≤ x.length) (fun i : Nat => [(1, RV.int (aj eJ (x.take i) k).2), (5, RV.int (i : Int))]) (fun i : Nat => []) (fun i : Nat => x.length - i) 0 (by omega) (by exact aI (by exact rfl) (aI (by exact rfl) tI)) (by exact tI) ?_
 rintro i hi
 refine cQ ?_
 refine vt ?_
 refine sc (fun hba => ?_) (fun hba => ?_)
 have hlt : i < x.length := by omega
 have hk0 := hmono0 i
 have hk1 := hmono (i + 1) k
 rw [et hlt] at hk1
 dsimp only at hk1
 have hm0 := bm cT x[i].Values ((aj eJ (x.take i) k).2 + 1)
 simp only [eJ] at hk1
 refine cF ?_
 refine IF ?_
 refine rA ?_ (x := bE (by decide) jw (by exact nl rfl))
 refine gl ?_
 refine sc (fun hbb => ?_) (fun hbb => ?_)
 exact nF
 refine j7 ?_
 refine IF ?_
 refine rA ?_ (x := bE (by decide) gY (by exact nl rfl))
 refine zb ?_
 refine kG ?_
 refine sc (fun hbc => ?_) (fun hbc => ?_)
 exact qu
 exact r9
 exact nG
def TE {p1 : Fl} {x : List aT} {k : Int}  (h0k : 0 ≤ k) (hbk : (aj fD x k).2 ≤ 4611686018427387904): aC prog 269 [(false, [sl .v ((aj fD x k).1.map (cG p1))]), (false, [val (vI k)])] (az [(false, [val (vI (aj fD x k).2)])]) := by
 refine sF func269 fun h0 w0 Fz0 => ?_
 refine sj 0 fun hl0 => ?_
 have hlm : (aj fD x k).1.length = x.length := gw _ _
 have hmono := ip pH x
 have hmono0 := fun i => bm pH (x.take i) k
 refine lK ?_
 refine sL [0] [] (fun i : Nat => i ≤ x.length) (fun i : Nat => [(1, RV.int (aj fD (x.take i) k).2), (5, RV.int (i : Int))]) (fun i : Nat => []) (fun i : Nat => x.length - i) 0 (by omega) (by exact aI (by exact rfl) (aI (by exact rfl) tI)) (by exact tI) ?_
 rintro i hi
 refine cQ ?_
 refine mA ?_
 refine sc (fun hba => ?_) (fun hba => ?_)
 have hlt : i < x.length := by omega
 have hk0 := hmono0 i
 have hk1 := hmono (i + 1) k
 rw [et hlt] at hk1
 dsimp only at hk1
 have hm0 := bm cT x[i].Values ((aj fD (x.take i) k).2 + 1)
 simp only [fD] at hk1
 refine cF ?_
 refine gz ?_
 refine uY ?_
 refine rA ?_ (x := bE (by decide) lQ (by exact nl rfl))
 refine gl ?_
 refine sc (fun hbb => ?_) (fun hbb => ?_)
 exact nF
 refine j7 ?_
 refine gz ?_
 refine uY ?_
 refine rA ?_ (x := bE (by decide) i2 (by exact nl rfl))
 refine rj ?_
 refine sc (fun hbc => ?_) (fun hbc => ?_)
 exact qu
 refine cO ?_
 refine gz ?_
 refine uY ?_
 refine rA ?_ (x := bE (by decide) i3 (by exact nl rfl))
 refine gl ?_
 refine sc (fun hbd => ?_) (fun hbd => ?_)
 exact r8
 refine ri ?_
 refine uY ?_
 refine rA ?_ (x := bE (by decide) fR (by exact nl rfl))
 refine gl ?_
 refine sc (fun hbe => ?_) (fun hbe => ?_)
 exact ui
 exact xS
 exact nG
def TF {p1 p2 : Fl} {x : List (List aT)} {k : Int}  (h0k : 0 ≤ k) (hbk : (aj cj x k).2 ≤ 4611686018427387904): aC prog 224 [(false, [sl .v ((aj cj x k).1.map (aD p1 p2))]), (false, [val (vI k)])] (az [(false, [val (vI (aj cj x k).2)])]) := by
 refine sF func224 fun h0 w0 Fz0 => ?_
 refine sj 0 fun hl0 => ?_
 have hlm : (aj cj x k).1.length = x.length := gw _ _
 have hmono := ip mM x
 have hmono0 := fun i => bm mM (x.take i) k
 refine lK ?_
 refine sL [0] [] (fun i : Nat => i ≤ x.length) (fun i : Nat => [(1, RV.int (aj cj (x.take i) k).2), (5, RV.int (i : Int))]) (fun i : Nat => []) (fun i : Nat => x.length - i) 0 (by omega) (by exact aI (by exact rfl) (aI (by exact rfl) tI)) (by exact tI) ?_
 rintro i hi
 refine cQ ?_
 refine Ac ?_
 refine sc (fun hba => ?_) (fun hba => ?_)
 have hlt : i < x.length := by omega
 have hk0 := hmono0 i
 have hk1 := hmono (i + 1) k
 rw [et hlt] at hk1
 dsimp only at hk1
 have hm0 := bm pH x[i] (aj cj (x.take i) k).2
 simp only [cj] at hk1
 refine n8 ?_
 refine rA ?_ (x := aY (by decide) cV (by exact tI) (by exact rfl) (by exact nt hlt rfl) (by exact rfl))
 refine rA ?_ (x := lE [sl .v _] fH)
 refine rM ?_
 refine rA ?_ (x := cL [(false, [sl _ _]), (false, [val _])] [(false, [sl .v _]), (false, [val _])] PR (hs := by exact TE (by omega) (by omega)))
 refine kG ?_
 refine sc (fun hbb => ?_) (fun hbb => ?_)
 exact nF
 exact r9
 exact nG
def TG {p1 p2 : Fl} {x : Store} {k : Int}  (h0k : 0 ≤ k) (hbk : (fE x k).2 ≤ 4611686018427387904): aC prog 136 [(true, [sl .v ((fE x k).1.Wr.map (aD p1 p2)), val (vI (fE x k).1.Now)]), (false, [val (vI k)])] (az [(false, [val (vI (fE x k).2)])]) := by
 refine sF func136 fun h0 w0 Fz0 => ?_
 refine sn 0 0 fun hl0_0 => ?_
 simp only [fE] at hbk
 have hm0 := bm mM x.Wr k
 refine iU ?_
 refine jj ?_
 refine pz ?_
 refine rA ?_ (x := cL [(false, [sl _ _]), (false, [val _])] [(false, [sl .v _]), (false, [val _])] PD (hs := by exact TF (by omega) (by omega)))
 refine ib ?_
 refine sc (fun hba => ?_) (fun hba => ?_)
 omega
 exact DC
def TH {p1 p2 p3 p4 p5 : Fl} {x : List Ws} {k : Int}  (h0k : 0 ≤ k) (hbk : (aj cU x k).2 ≤ 4611686018427387904): aC prog 138 [(false, [sl .v ((aj cU x k).1.map (aO p1 p2 p3 p4 p5))]), (false, [val (vI k)])] (az [(false, [val (vI (aj cU x k).2)])]) := by
 refine sF func138 fun h0 w0 Fz0 => ?_
 refine sj 0 fun hl0 => ?_
 have hlm : (aj cU x k).1.length = x.length := gw _ _
 have hmono := ip pI x
 have hmono0 := fun i => bm pI (x.take i) k
 refine lK ?_
 refine sL [0] [] (fun i : Nat => i ≤ x.length) (fun i : Nat => [(1, RV.int (aj cU (x.take i) k).2), (5, RV.int (i : Int))]) (fun i : Nat => []) (fun i : Nat => x.length - i) 0 (by omega) (by exact aI (by exact rfl) (aI (by exact rfl) tI)) (by exact tI) ?_
 rintro i hi
 refine cQ ?_
 refine Ad ?_
 refine sc (fun hba => ?_) (fun hba => ?_)
 have hlt : i < x.length := by omega
 have hk0 := hmono0 i
 have hk1 := hmono (i + 1) k
 rw [et hlt] at hk1
 dsimp only at hk1
 have hm0 := bm jP x[i].Wt.Wu (((aj cU (x.take i) k).2 + 1) + 1)
 have hm1 := bm cT x[i].Wt.Out (aj bw x[i].Wt.Wu (((aj cU (x.take i) k).2 + 1) + 1)).2
 have hm2 := bm cT x[i].WB ((aj aQ x[i].Wt.Out (aj bw x[i].Wt.Wu (((aj cU (x.take i) k).2 + 1) + 1)).2).2 + 1)
 have hm3 := bm lM x[i].Rows ((((aj aQ x[i].WB ((aj aQ x[i].Wt.Out (aj bw x[i].Wt.Wu (((aj cU (x.take i) k).2 + 1) + 1)).2).2 + 1)).2 + 1) + 1) + 1)
 simp only [cU] at hk1
 refine cF ?_
 refine nW ?_
 refine zj ?_
 refine gl ?_
 refine sc (fun hbb => ?_) (fun hbb => ?_)
 exact nF
 refine j7 ?_
 refine aP ?_
 refine zA ?_
 refine rA ?_ (x := bE (by decide) i5 (by exact nl rfl))
 refine gl ?_
 refine sc (fun hbc => ?_) (fun hbc => ?_)
 exact qu
 refine j7 ?_
 refine zA ?_
 refine IS ?_
 refine rM ?_
 refine HX ?_
 refine uQ ?_
 refine sc (fun hbd => ?_) (fun hbd => ?_)
 exact r8
 refine bl ?_
 refine zA ?_
 refine rA ?_ (x := bE (by decide) jv (by exact nl rfl))
 refine rj ?_
 refine sc (fun hbe => ?_) (fun hbe => ?_)
 exact ui
 refine cO ?_
 refine nW ?_
 refine rA ?_ (x := bE (by decide) lP (by exact nl rfl))
 refine gl ?_
 refine sc (fun hbf => ?_) (fun hbf => ?_)
 exact xT
 refine j7 ?_
 refine nW ?_
 refine rA ?_ (x := bE (by decide) gD (by exact nl rfl))
 refine rj ?_
 refine sc (fun hbg => ?_) (fun hbg => ?_)
 first | exact absurd rfl hbg | omega
 refine cO ?_
 refine nW ?_
 refine rA ?_ (x := bE (by decide) kP (by exact nl rfl))
 refine gl ?_
 refine sc (fun hbh => ?_) (fun hbh => ?_)
 first | exact absurd rfl hbh | omega
 refine j7 ?_
 refine aP ?_
 refine nW ?_
 refine rA ?_ (x := bE (by decide) jp (by exact nl rfl))
 refine gl ?_
 refine sc (fun hbi => ?_) (fun hbi => ?_)
 first | exact absurd rfl hbi | omega
 refine j7 ?_
 refine aP ?_
 refine nW ?_
 refine rA ?_ (x := bE (by decide) kQ (by exact nl rfl))
 refine gl ?_
 refine sc (fun hbj => ?_) (fun hbj => ?_)
 first | exact absurd rfl hbj | omega
 refine j7 ?_
 refine nW ?_
 refine rA ?_ (x := bE (by decide) jq (by exact nl rfl))
 refine rA ?_ (x := lE [sl .v _] fI)
 refine H3 ?_
 refine kG ?_
 refine sc (fun hbk => ?_) (fun hbk => ?_)
 first | exact absurd rfl hbk | omega
 exact r9
 exact nG
def TI {p1 p2 p3 p4 : Fl} {x : List cu} {k : Int}  (h0k : 0 ≤ k) (hbk : (aj dL x k).2 ≤ 4611686018427387904): aC prog 139 [(false, [sl .v ((aj dL x k).1.map (aZ p1 p2 p3 p4))]), (false, [val (vI k)])] (az [(false, [val (vI (aj dL x k).2)])]) := by
 refine sF func139 fun h0 w0 Fz0 => ?_
 refine sj 0 fun hl0 => ?_
 have hlm : (aj dL x k).1.length = x.length := gw _ _
 have hmono := ip pJ x
 have hmono0 := fun i => bm pJ (x.take i) k
 refine lK ?_
 refine sL [0] [] (fun i : Nat => i ≤ x.length) (fun i : Nat => [(1, RV.int (aj dL (x.take i) k).2), (5, RV.int (i : Int))]) (fun i : Nat => []) (fun i : Nat => x.length - i) 0 (by omega) (by exact aI (by exact rfl) (aI (by exact rfl) tI)) (by exact tI) ?_
 rintro i hi
 refine cQ ?_
 refine vu ?_
 refine sc (fun hba => ?_) (fun hba => ?_)
 have hlt : i < x.length := by omega
 have hk0 := hmono0 i
 have hk1 := hmono (i + 1) k
 rw [et hlt] at hk1
 dsimp only at hk1
 have hm0 := bm jP x[i].Wt.Wu (((aj dL (x.take i) k).2 + 1) + 1)
 have hm1 := bm cT x[i].Wt.Out (aj bw x[i].Wt.Wu (((aj dL (x.take i) k).2 + 1) + 1)).2
 have hm2 := bm lM x[i].Rows (((aj aQ x[i].Wt.Out (aj bw x[i].Wt.Wu (((aj dL (x.take i) k).2 + 1) + 1)).2).2 + 1) + 1)
 simp only [dL] at hk1
 refine cF ?_
 refine gz ?_
 refine vf ?_
 refine rA ?_ (x := bE (by decide) e8 (by exact nl rfl))
 refine gl ?_
 refine sc (fun hbb => ?_) (fun hbb => ?_)
 exact nF
 refine ri ?_
 refine vf ?_
 refine rA ?_ (x := bE (by decide) i5 (by exact nl rfl))
 refine gl ?_
 refine sc (fun hbc => ?_) (fun hbc => ?_)
 exact qu
 refine j7 ?_
 refine gz ?_
 refine vf ?_
 refine IS ?_
 refine rM ?_
 refine HX ?_
 refine uQ ?_
 refine sc (fun hbd => ?_) (fun hbd => ?_)
 exact r8
 refine bl ?_
 refine gz ?_
 refine vf ?_
 refine rA ?_ (x := bE (by decide) jv (by exact nl rfl))
 refine rj ?_
 refine sc (fun hbe => ?_) (fun hbe => ?_)
 exact ui
 refine cO ?_
 refine gz ?_
 refine uH ?_
 refine rA ?_ (x := bE (by decide) pO (by exact nl rfl))
 refine gl ?_
 refine sc (fun hbf => ?_) (fun hbf => ?_)
 exact xT
 refine ri ?_
 refine uH ?_
 refine rA ?_ (x := bE (by decide) pP (by exact nl rfl))
 refine gl ?_
 refine sc (fun hbg => ?_) (fun hbg => ?_)
 first | exact absurd rfl hbg | omega
 refine j7 ?_
 refine gz ?_
 refine uH ?_
 refine rA ?_ (x := bE (by decide) lV (by exact nl rfl))
 refine rA ?_ (x := lE [sl .v _] fI)
 refine H3 ?_
 refine kG ?_
 refine sc (fun hbh => ?_) (fun hbh => ?_)
 first | exact absurd rfl hbh | omega
 exact r9
 exact nG
def TJ {p1 p2 p5 p6 p7 p8 p9 p11 p12 p13 p14 p16 p17 p18 : Fl} {x : aL} {k : Int}  (h0k : 0 ≤ k) (hbk : (gm x k).2 ≤ 4611686018427387904): aC prog 45 [(true, [sl .v ((gm x k).1.Store.Wr.map (aD p1 p2)), val (vI (gm x k).1.Store.Now), val (vI (gm x k).1.Ww), sl .v ((gm x k).1.Order.map ak), sl .v ((gm x k).1.Ws.map (aO p5 p6 p7 p8 p9)), sl .v ((gm x k).1.Done.map (aZ p11 p12 p13 p14)), sl .v ((gm x k).1.WE.map (a7 p16 p17 p18)), val (vI (gm x k).1.Steps)]), (false, [val (vI k)])] (az [(false, [val (vI (gm x k).2)])]) := by
 refine sF func45 fun h0 w0 Fz0 => ?_
 refine sn 0 0 fun hl0_0 => ?_
 refine sn 0 3 fun hl0_3 => ?_
 refine sn 0 4 fun hl0_4 => ?_
 refine sn 0 5 fun hl0_5 => ?_
 refine sn 0 6 fun hl0_6 => ?_
 simp only [gm] at hbk
 have hm0 := bm mM x.Store.Wr k
 have hm1 := bm cT x.Order (aj cj x.Store.Wr k).2
 have hm2 := bm pI x.Ws (aj aQ x.Order (aj cj x.Store.Wr k).2).2
 have hm3 := bm pJ x.Done (aj cU x.Ws (aj aQ x.Order (aj cj x.Store.Wr k).2).2).2
 have hm4 := bm pG x.WE (aj dL x.Done (aj cU x.Ws (aj aQ x.Order (aj cj x.Store.Wr k).2).2).2).2
 have hv0 : (fE x.Store k).2 = (aj cj x.Store.Wr k).2 := rfl
 refine iT ?_
 refine jj ?_
 refine pg ?_
 refine rM ?_
 refine rA ?_ (x := cL [(true, [sl _ _, val _]), (false, [val _])] [(true, [sl .v _, val _]), (false, [val _])] O6 (hs := by exact TG (by omega) (by first | omega | (simp only [fE]; omega))))
 refine ib ?_
 refine sc (fun hba => ?_) (fun hba => ?_)
 omega
 refine gU ?_
 refine rA ?_ (x := lF lR)
 refine rA ?_ (x := lD [sl .v _] bq)
 refine Gm ?_
 refine ib ?_
 refine sc (fun hbb => ?_) (fun hbb => ?_)
 omega
 refine gU ?_
 refine ji ?_
 refine rM ?_
 refine rA ?_ (x := cL [(false, [sl _ _]), (false, [val _])] [(false, [sl .v _]), (false, [val _])] O8 (hs := by exact TH (by omega) (by omega)))
 refine ib ?_
 refine sc (fun hbc => ?_) (fun hbc => ?_)
 omega
 refine gU ?_
 refine my ?_
 refine rM ?_
 refine rA ?_ (x := cL [(false, [sl _ _]), (false, [val _])] [(false, [sl .v _]), (false, [val _])] O9 (hs := by exact TI (by omega) (by omega)))
 refine ib ?_
 refine sc (fun hbd => ?_) (fun hbd => ?_)
 omega
 refine gU ?_
 refine nM ?_
 refine rM ?_
 refine rA ?_ (x := cL [(false, [sl _ _]), (false, [val _])] [(false, [sl .v _]), (false, [val _])] Pa (hs := by exact TC (by omega) (by omega)))
 refine ib ?_
 refine sc (fun hbe => ?_) (fun hbe => ?_)
 omega
 exact DC
end Go.Proofs.YtmekkgdboplbjaaGreat
