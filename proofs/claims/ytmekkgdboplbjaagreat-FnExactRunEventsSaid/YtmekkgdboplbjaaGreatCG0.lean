/- What functions of the program compute. No condition. -/
import Derived.Test.YtmekkgdboplbjaaGreatCD0
import Derived.Test.YtmekkgdboplbjaaGreatCF0
set_option linter.all false
namespace Go.Proofs.YtmekkgdboplbjaaGreat
open Go Go.RowKit M PV Tryz
set_option maxRecDepth 10000
attribute [local irreducible] PV.Lcl PV.LclR RV.Lcl
def OR (x : List Int) : (cf x : Int) = x.length := by
 have h : ∀ l : List Int, (l.map bd).sum = 0 := by
  intro l
  induction l with
  | nil => rfl
  | cons a l ih => rw [List.map_cons, List.sum_cons, ih]; rfl
 simp [cf, h]
def XU {x : List Int} {l : Int}  (h0l : 0 ≤ l) (h1l : l ≤ 1048576) : aB prog 109 [(false, [sl .v (x.map ak)]), (false, [val (vI l)])] (aA [(false, [val (vI (bN l (cf x)))])]) := by
 refine sF func109 fun h0 w0 Fz0 => ?_
 refine sj 0 fun hl0 => ?_
 refine oy ?_
 refine rA ?_ (x := lN bF)
 refine oz ?_
 refine sc (fun hba => ?_) (fun hba => ?_)
 refine lT ?_
 exact (aI (by refine bh ?_; exact (iG (by have := OR x; omega)).symm) tI)
 refine bm ?_
 refine sS [0, 1, 4] [] ?_
 refine lS ?_
 exact (aI (by refine bh ?_; exact (by have := OR x; rw [ck (by omega), this])) tI)
def XV {x : cU} {l : Int}  (h0l : 0 ≤ l) (h1l : l ≤ 1048576) : aB prog 206 [(true, [val (vI x.Segment), val (vI x.Base), sl .v (x.Ids.map ak), sl .v (x.acA.map ak), sl .v (x.Rows.map ak)]), (false, [val (vI l)])] (aA [(false, [val (vI (bN l (fi x)))])]) := by
 refine sF func206 fun h0 w0 Fz0 => ?_
 refine sn 0 2 fun hl0_2 => ?_
 refine sn 0 3 fun hl0_3 => ?_
 refine sn 0 4 fun hl0_4 => ?_
 have hw : (fi x : Int) = (cf x.Ids : Int) + (cf x.acA : Int) + (cf x.Rows : Int) := by simp [fi, bd]
 refine qC ?_
 refine jW ?_
 refine rA ?_ (x := lF Nn)
 refine pI ?_
 refine sc (fun hba => ?_) (fun hba => ?_)
 have hn0 := fu (w := cf x.Ids) (l := l) (by omega) hba
 exact iq
 have hp0 := ez (w := cf x.Ids) (l := l) hba
 have he0 := ck hp0
 refine ir ?_
 refine rA ?_ (x := lF No)
 refine pI ?_
 refine sc (fun hbb => ?_) (fun hbb => ?_)
 have hn1 := fu (w := cf x.acA) (l := (bN l (cf x.Ids))) (by omega) hbb
 exact iq
 have hp1 := ez (w := cf x.acA) (l := (bN l (cf x.Ids))) hbb
 have he1 := ck hp1
 refine ir ?_
 refine rA ?_ (x := lF Np)
 refine pI ?_
 refine sc (fun hbc => ?_) (fun hbc => ?_)
 have hn2 := fu (w := cf x.Rows) (l := (bN (bN l (cf x.Ids)) (cf x.acA))) (by omega) hbc
 exact iq
 have hp2 := ez (w := cf x.Rows) (l := (bN (bN l (cf x.Ids)) (cf x.acA))) hbc
 have he2 := ck hp2
 refine mS ?_
 exact (aI (by refine bh ?_; (have hz := ck (l := l) (n := (fi x : Int)) (by omega); omega)) tI)
def OS (x : List dg) : (iX x : Int) = x.length := by
 have h : ∀ l : List dg, (l.map mW).sum = 0 := by
  intro l
  induction l with
  | nil => rfl
  | cons a l ih => rw [List.map_cons, List.sum_cons, ih]; rfl
 simp [iX, h]
def XW {x : List dg} {l : Int}  (h0l : 0 ≤ l) (h1l : l ≤ 1048576) : aB prog 207 [(false, [sl .v (x.map bj)]), (false, [val (vI l)])] (aA [(false, [val (vI (bN l (iX x)))])]) := by
 refine sF func207 fun h0 w0 Fz0 => ?_
 refine sj 0 fun hl0 => ?_
 refine oy ?_
 refine rA ?_ (x := lN ya)
 refine oz ?_
 refine sc (fun hba => ?_) (fun hba => ?_)
 refine lT ?_
 exact (aI (by refine bh ?_; exact (iG (by have := OS x; omega)).symm) tI)
 refine bm ?_
 refine sS [0, 1, 4] [] ?_
 refine lS ?_
 exact (aI (by refine bh ?_; exact (by have := OS x; rw [ck (by omega), this])) tI)
def XX {x : Row} {l : Int}  (h0l : 0 ≤ l) (h1l : l ≤ 1048576) : aB prog 208 [(true, [val (vI x.Id), sl .v (x.Values.map ak)]), (false, [val (vI l)])] (aA [(false, [val (vI (bN l (dv x)))])]) := by
 refine sF func208 fun h0 w0 Fz0 => ?_
 refine sn 0 1 fun hl0_1 => ?_
 have hw : (dv x : Int) = (cf x.Values : Int) := by simp [dv, bd]
 refine qF ?_
 refine jW ?_
 refine rA ?_ (x := lF Nz)
 refine pI ?_
 refine sc (fun hba => ?_) (fun hba => ?_)
 exact FX
 have hp0 := ez (w := cf x.Values) (l := l) hba
 have he0 := ck hp0
 refine mS ?_
 exact (aI (by refine bh ?_; (have hz := ck (l := l) (n := (dv x : Int)) (by omega); omega)) tI)
def XY {x : aU} {l : Int}  (h0l : 0 ≤ l) (h1l : l ≤ 1048576) : aB prog 280 [(true, [val (vI x.Id), sl .v (x.Values.map ak), val (vI x.acI), val (vI x.acE)]), (false, [val (vI l)])] (aA [(false, [val (vI (bN l (bW x)))])]) := by
 refine sF func280 fun h0 w0 Fz0 => ?_
 refine sn 0 1 fun hl0_1 => ?_
 have hw : (bW x : Int) = (cf x.Values : Int) := by simp [bW, bd]
 refine qz ?_
 refine jW ?_
 refine rA ?_ (x := lF Nq)
 refine pI ?_
 refine sc (fun hba => ?_) (fun hba => ?_)
 exact FX
 have hp0 := ez (w := cf x.Values) (l := l) hba
 have he0 := ck hp0
 refine mS ?_
 exact (aI (by refine bh ?_; (have hz := ck (l := l) (n := (bW x : Int)) (by omega); omega)) tI)
def XZ {p1 p2 p3 : Fl} {x : List cU} {l : Int}  (h0l : 0 ≤ l) (h1l : l ≤ 1048576) : aB prog 112 [(false, [sl .v (x.map (aZ p1 p2 p3))]), (false, [val (vI l)])] (aA [(false, [val (vI (bN l (dP x)))])]) := by
 refine sF func112 fun h0 w0 Fz0 => ?_
 refine sj 0 fun hl0 => ?_
 refine oy ?_
 refine rA ?_ (x := lN uV)
 refine oz ?_
 refine sc (fun hba => ?_) (fun hba => ?_)
 refine lT ?_
 exact (aI (by refine bh ?_; exact (iG (by simp only [dP]; omega)).symm) tI)
 refine qS ?_
 refine sL [0] [] (fun q : Nat × Int => q.1 ≤ x.length ∧ 0 ≤ q.2 ∧ q.2 + x.length + ((x.take q.1).map fi).sum = l) (fun q : Nat × Int => [(1, RV.int q.2), (5, RV.int (q.1 : Int))]) (fun q : Nat × Int => []) (fun q : Nat × Int => x.length - q.1) (0, l - x.length) (by exact ⟨by simp, by dsimp only; omega, by simp⟩) (by exact aI (by exact rfl) (aI (by exact rfl) tI)) (by exact tI) ?_
 rintro ⟨k, ll⟩ ⟨hk, hll, hw⟩
 dsimp only at hk hll hw
 refine cP ?_
 refine rA ?_ (x := lN uV)
 refine rA ?_ (x := cu)
 refine sc (fun hbb => ?_) (fun hbb => ?_)
 have hlt : k < x.length := by omega
 refine oA ?_
 refine KD ?_
 refine rM ?_
 refine rA ?_ (x := cL [(true, [val _, val _, sl _ _, sl _ _, sl _ _]), (false, [val _])] [(true, [val _, val _, sl .v _, sl .v _, sl .v _]), (false, [val _])] Uf (hs := by exact XV (by omega) (by omega)))
 refine lX ?_
 refine sc (fun hbc => ?_) (fun hbc => ?_)
 have hlt : k < x.length := by omega
 have hneg := fu (w := fi x[k]) (l := ll) (by omega) hbc
 have hwk := gq (f := fi) hlt
 refine ot ?_
 exact (aI (by refine bh ?_; exact (iG (by have := pN (f := fi) x (k + 1); simp only [dP]; omega)).symm) tI)
 have hlt : k < x.length := by omega
 have hpos := ez (w := fi x[k]) (l := ll) hbc
 have hwk := gq (f := fi) hlt
 refine kZ ?_
 refine nx (k + 1, ll - fi x[k]) (by exact ⟨by dsimp only; omega, by dsimp only; omega, by dsimp only; have := gq (f := fi) hlt; omega⟩) (e := (by exact aI (by exact bh (ck hpos)) (aI (by exact rfl) tI)))
 refine pJ ?_
 exact (aI (by refine bh ?_; (rw [ck (by have : (x.take k) = x := gB (by omega); rw [this] at hw; simp only [dP]; omega)]; have : (x.take k) = x := gB (by omega); rw [this] at hw; simp only [dP]; omega)) tI)
def Ya {x : acv} {l : Int}  (h0l : 0 ≤ l) (h1l : l ≤ 1048576) : aB prog 113 [(true, [val (vI x.Id), val (vI x.acz), sl .v (x.acw.map bj), sl .v (x.Out.map ak)]), (false, [val (vI l)])] (aA [(false, [val (vI (bN l (cr x)))])]) := by
 refine sF func113 fun h0 w0 Fz0 => ?_
 refine sn 0 2 fun hl0_2 => ?_
 refine sn 0 3 fun hl0_3 => ?_
 have hw : (cr x : Int) = (iX x.acw : Int) + (cf x.Out : Int) := by simp [cr, bd]
 refine oe ?_
 refine jW ?_
 refine rA ?_ (x := lF Nx)
 refine rA ?_ (x := lD [sl .v _] NI)
 refine rM ?_
 refine rA ?_ (x := cL [(false, [sl _ _]), (false, [val _])] [(false, [sl .v _]), (false, [val _])] Ug (hs := by exact XW (by omega) (by omega)))
 refine jz ?_
 refine sc (fun hba => ?_) (fun hba => ?_)
 have hn0 := fu (w := iX x.acw) (l := l) (by omega) hba
 exact iq
 have hp0 := ez (w := iX x.acw) (l := l) hba
 have he0 := ck hp0
 refine ir ?_
 refine rA ?_ (x := lF Ny)
 refine pI ?_
 refine sc (fun hbb => ?_) (fun hbb => ?_)
 have hn1 := fu (w := cf x.Out) (l := (bN l (iX x.acw))) (by omega) hbb
 exact iq
 have hp1 := ez (w := cf x.Out) (l := (bN l (iX x.acw))) hbb
 have he1 := ck hp1
 refine mS ?_
 exact (aI (by refine bh ?_; (have hz := ck (l := l) (n := (cr x : Int)) (by omega); omega)) tI)
def Yb {x : acx} {l : Int}  (h0l : 0 ≤ l) (h1l : l ≤ 1048576) : aB prog 114 [(true, [val (vI x.Kind), val (vI x.Row.Id), sl .v (x.Row.Values.map ak), val (vI x.Field), val (vI x.Value)]), (false, [val (vI l)])] (aA [(false, [val (vI (bN l (hO x)))])]) := by
 refine sF func114 fun h0 w0 Fz0 => ?_
 refine sn 0 2 fun hl0_2 => ?_
 have hw : (hO x : Int) = (dv x.Row : Int) := by simp [hO, bd]
 refine se ?_
 refine jW ?_
 refine rA ?_ (x := lF NA)
 refine rA ?_ (x := lD [val _, sl .v _] CJ)
 refine KX ?_
 refine jz ?_
 refine sc (fun hba => ?_) (fun hba => ?_)
 have hn0 := fu (w := dv x.Row) (l := l) (by omega) hba
 exact iq
 have hp0 := ez (w := dv x.Row) (l := l) hba
 have he0 := ck hp0
 refine mS ?_
 exact (aI (by refine bh ?_; (have hz := ck (l := l) (n := (hO x : Int)) (by omega); omega)) tI)
def Yc {p1 : Fl} {x : List aU} {l : Int}  (h0l : 0 ≤ l) (h1l : l ≤ 1048576) : aB prog 260 [(false, [sl .v (x.map (cX p1))]), (false, [val (vI l)])] (aA [(false, [val (vI (bN l (bX x)))])]) := by
 refine sF func260 fun h0 w0 Fz0 => ?_
 refine sj 0 fun hl0 => ?_
 refine oy ?_
 refine rA ?_ (x := lN uR)
 refine oz ?_
 refine sc (fun hba => ?_) (fun hba => ?_)
 refine lT ?_
 exact (aI (by refine bh ?_; exact (iG (by simp only [bX]; omega)).symm) tI)
 refine qS ?_
 refine sL [0] [] (fun q : Nat × Int => q.1 ≤ x.length ∧ 0 ≤ q.2 ∧ q.2 + x.length + ((x.take q.1).map bW).sum = l) (fun q : Nat × Int => [(1, RV.int q.2), (5, RV.int (q.1 : Int))]) (fun q : Nat × Int => []) (fun q : Nat × Int => x.length - q.1) (0, l - x.length) (by exact ⟨by simp, by dsimp only; omega, by simp⟩) (by exact aI (by exact rfl) (aI (by exact rfl) tI)) (by exact tI) ?_
 rintro ⟨k, ll⟩ ⟨hk, hll, hw⟩
 dsimp only at hk hll hw
 refine cP ?_
 refine rA ?_ (x := lN uR)
 refine rA ?_ (x := cu)
 refine sc (fun hbb => ?_) (fun hbb => ?_)
 have hlt : k < x.length := by omega
 refine oA ?_
 refine KK ?_
 refine rM ?_
 refine rA ?_ (x := cL [(true, [val _, sl _ _, val _, val _]), (false, [val _])] [(true, [val _, sl .v _, val _, val _]), (false, [val _])] UJ (hs := by exact XY (by omega) (by omega)))
 refine lX ?_
 refine sc (fun hbc => ?_) (fun hbc => ?_)
 have hlt : k < x.length := by omega
 have hneg := fu (w := bW x[k]) (l := ll) (by omega) hbc
 have hwk := gq (f := bW) hlt
 refine ot ?_
 exact (aI (by refine bh ?_; exact (iG (by have := pN (f := bW) x (k + 1); simp only [bX]; omega)).symm) tI)
 have hlt : k < x.length := by omega
 have hpos := ez (w := bW x[k]) (l := ll) hbc
 have hwk := gq (f := bW) hlt
 refine kZ ?_
 refine nx (k + 1, ll - bW x[k]) (by exact ⟨by dsimp only; omega, by dsimp only; omega, by dsimp only; have := gq (f := bW) hlt; omega⟩) (e := (by exact aI (by exact bh (ck hpos)) (aI (by exact rfl) tI)))
 refine pJ ?_
 exact (aI (by refine bh ?_; (rw [ck (by have : (x.take k) = x := gB (by omega); rw [this] at hw; simp only [bX]; omega)]; have : (x.take k) = x := gB (by omega); rw [this] at hw; simp only [bX]; omega)) tI)
def Yd {p1 : Fl} {x : List Row} {l : Int}  (h0l : 0 ≤ l) (h1l : l ≤ 1048576) : aB prog 261 [(false, [sl .v (x.map (bC p1))]), (false, [val (vI l)])] (aA [(false, [val (vI (bN l (dH x)))])]) := by
 refine sF func261 fun h0 w0 Fz0 => ?_
 refine sj 0 fun hl0 => ?_
 refine oy ?_
 refine rA ?_ (x := lN uQ)
 refine oz ?_
 refine sc (fun hba => ?_) (fun hba => ?_)
 refine lT ?_
 exact (aI (by refine bh ?_; exact (iG (by simp only [dH]; omega)).symm) tI)
 refine qS ?_
 refine sL [0] [] (fun q : Nat × Int => q.1 ≤ x.length ∧ 0 ≤ q.2 ∧ q.2 + x.length + ((x.take q.1).map dv).sum = l) (fun q : Nat × Int => [(1, RV.int q.2), (5, RV.int (q.1 : Int))]) (fun q : Nat × Int => []) (fun q : Nat × Int => x.length - q.1) (0, l - x.length) (by exact ⟨by simp, by dsimp only; omega, by simp⟩) (by exact aI (by exact rfl) (aI (by exact rfl) tI)) (by exact tI) ?_
 rintro ⟨k, ll⟩ ⟨hk, hll, hw⟩
 dsimp only at hk hll hw
 refine cP ?_
 refine rA ?_ (x := lN uQ)
 refine rA ?_ (x := cu)
 refine sc (fun hbb => ?_) (fun hbb => ?_)
 have hlt : k < x.length := by omega
 refine oA ?_
 refine KZ ?_
 refine KX ?_
 refine lX ?_
 refine sc (fun hbc => ?_) (fun hbc => ?_)
 have hlt : k < x.length := by omega
 have hneg := fu (w := dv x[k]) (l := ll) (by omega) hbc
 have hwk := gq (f := dv) hlt
 refine ot ?_
 exact (aI (by refine bh ?_; exact (iG (by have := pN (f := dv) x (k + 1); simp only [dH]; omega)).symm) tI)
 have hlt : k < x.length := by omega
 have hpos := ez (w := dv x[k]) (l := ll) hbc
 have hwk := gq (f := dv) hlt
 refine kZ ?_
 refine nx (k + 1, ll - dv x[k]) (by exact ⟨by dsimp only; omega, by dsimp only; omega, by dsimp only; have := gq (f := dv) hlt; omega⟩) (e := (by exact aI (by exact bh (ck hpos)) (aI (by exact rfl) tI)))
 refine pJ ?_
 exact (aI (by refine bh ?_; (rw [ck (by have : (x.take k) = x := gB (by omega); rw [this] at hw; simp only [dH]; omega)]; have : (x.take k) = x := gB (by omega); rw [this] at hw; simp only [dH]; omega)) tI)
def Ye {x : cC} {l : Int}  (h0l : 0 ≤ l) (h1l : l ≤ 1048576) : aB prog 38 [(true, [val (vI x.Kind), val (vI x.acv.Id), val (vI x.acv.acz), sl .v (x.acv.acw.map bj), sl .v (x.acv.Out.map ak), val (vI x.Limit), val (vI x.Id), val (vI x.acx.Kind), val (vI x.acx.Row.Id), sl .v (x.acx.Row.Values.map ak), val (vI x.acx.Field), val (vI x.acx.Value), val (vI x.Steps)]), (false, [val (vI l)])] (aA [(false, [val (vI (bN l (fG x)))])]) := by
 refine sF func38 fun h0 w0 Fz0 => ?_
 refine sn 0 3 fun hl0_3 => ?_
 refine sn 0 4 fun hl0_4 => ?_
 refine sn 0 9 fun hl0_9 => ?_
 have hw : (fG x : Int) = (cr x.acv : Int) + (hO x.acx : Int) := by simp [fG, bd]
 refine ub ?_
 refine jW ?_
 refine rA ?_ (x := lF NB)
 refine BE ?_
 refine AL ?_
 refine tZ ?_
 refine sc (fun hba => ?_) (fun hba => ?_)
 exact zI
 have hp0 := ez (w := cr x.acv) (l := l) hba
 have he0 := ck hp0
 refine ir ?_
 refine Mt ?_
 refine rM ?_
 refine rA ?_ (x := cL [(true, [val _, val _, sl _ _, val _, val _]), (false, [val _])] [(true, [val _, val _, sl .v _, val _, val _]), (false, [val _])] Tv (hs := by exact Yb (by omega) (by omega)))
 refine jz ?_
 refine sc (fun hbb => ?_) (fun hbb => ?_)
 have hn1 := fu (w := hO x.acx) (l := (bN l (cr x.acv))) (by omega) hbb
 exact iq
 have hp1 := ez (w := hO x.acx) (l := (bN l (cr x.acv))) hbb
 have he1 := ck hp1
 refine mS ?_
 exact (aI (by refine bh ?_; (have hz := ck (l := l) (n := (fG x : Int)) (by omega); omega)) tI)
def Yf {p1 p2 : Fl} {x : List (List aU)} {l : Int}  (h0l : 0 ≤ l) (h1l : l ≤ 1048576) : aB prog 203 [(false, [sl .v (x.map (aC p1 p2))]), (false, [val (vI l)])] (aA [(false, [val (vI (bN l (eO x)))])]) := by
 refine sF func203 fun h0 w0 Fz0 => ?_
 refine sj 0 fun hl0 => ?_
 refine oy ?_
 refine rA ?_ (x := lN uS)
 refine oz ?_
 refine sc (fun hba => ?_) (fun hba => ?_)
 refine lT ?_
 exact (aI (by refine bh ?_; exact (iG (by simp only [eO]; omega)).symm) tI)
 refine qS ?_
 refine sL [0] [] (fun q : Nat × Int => q.1 ≤ x.length ∧ 0 ≤ q.2 ∧ q.2 + x.length + ((x.take q.1).map bX).sum = l) (fun q : Nat × Int => [(1, RV.int q.2), (5, RV.int (q.1 : Int))]) (fun q : Nat × Int => []) (fun q : Nat × Int => x.length - q.1) (0, l - x.length) (by exact ⟨by simp, by dsimp only; omega, by simp⟩) (by exact aI (by exact rfl) (aI (by exact rfl) tI)) (by exact tI) ?_
 rintro ⟨k, ll⟩ ⟨hk, hll, hw⟩
 dsimp only at hk hll hw
 refine cP ?_
 refine rA ?_ (x := lN uS)
 refine rA ?_ (x := cu)
 refine sc (fun hbb => ?_) (fun hbb => ?_)
 have hlt : k < x.length := by omega
 refine oA ?_
 refine Lh ?_
 refine rM ?_
 refine rA ?_ (x := cL [(false, [sl _ _]), (false, [val _])] [(false, [sl .v _]), (false, [val _])] Uy (hs := by exact Yc (by omega) (by omega)))
 refine lX ?_
 refine sc (fun hbc => ?_) (fun hbc => ?_)
 have hlt : k < x.length := by omega
 have hneg := fu (w := bX x[k]) (l := ll) (by omega) hbc
 have hwk := gq (f := bX) hlt
 refine ot ?_
 exact (aI (by refine bh ?_; exact (iG (by have := pN (f := bX) x (k + 1); simp only [eO]; omega)).symm) tI)
 have hlt : k < x.length := by omega
 have hpos := ez (w := bX x[k]) (l := ll) hbc
 have hwk := gq (f := bX) hlt
 refine kZ ?_
 refine nx (k + 1, ll - bX x[k]) (by exact ⟨by dsimp only; omega, by dsimp only; omega, by dsimp only; have := gq (f := bX) hlt; omega⟩) (e := (by exact aI (by exact bh (ck hpos)) (aI (by exact rfl) tI)))
 refine pJ ?_
 exact (aI (by refine bh ?_; (rw [ck (by have : (x.take k) = x := gB (by omega); rw [this] at hw; simp only [eO]; omega)]; have : (x.take k) = x := gB (by omega); rw [this] at hw; simp only [eO]; omega)) tI)
def Yg {p4 : Fl} {x : acu} {l : Int}  (h0l : 0 ≤ l) (h1l : l ≤ 1048576) : aB prog 204 [(true, [val (vI x.acv.Id), val (vI x.acv.acz), sl .v (x.acv.acw.map bj), sl .v (x.acv.Out.map ak), val (vI x.Time), sl .v (x.acD.map ak), val (vI x.Age), val (vI x.Sent), val (vI x.Cap), sl .v (x.Rows.map (bC p4))]), (false, [val (vI l)])] (aA [(false, [val (vI (bN l (bZ x)))])]) := by
 refine sF func204 fun h0 w0 Fz0 => ?_
 refine sn 0 2 fun hl0_2 => ?_
 refine sn 0 3 fun hl0_3 => ?_
 refine sn 0 5 fun hl0_5 => ?_
 refine sn 0 9 fun hl0_9 => ?_
 have hw : (bZ x : Int) = (cr x.acv : Int) + (cf x.acD : Int) + (dH x.Rows : Int) := by simp [bZ, bd]
 refine ud ?_
 refine jW ?_
 refine rA ?_ (x := lF Nh)
 refine BE ?_
 refine AL ?_
 refine tZ ?_
 refine sc (fun hba => ?_) (fun hba => ?_)
 exact zI
 have hp0 := ez (w := cr x.acv) (l := l) hba
 have he0 := ck hp0
 refine ir ?_
 refine rA ?_ (x := lF Ni)
 refine pI ?_
 refine sc (fun hbb => ?_) (fun hbb => ?_)
 have hn1 := fu (w := cf x.acD) (l := (bN l (cr x.acv))) (by omega) hbb
 exact iq
 have hp1 := ez (w := cf x.acD) (l := (bN l (cr x.acv))) hbb
 have he1 := ck hp1
 refine ir ?_
 refine rA ?_ (x := lF Nj)
 refine rA ?_ (x := lD [sl .v _] CI)
 refine rM ?_
 refine Li ?_
 refine sc (fun hbc => ?_) (fun hbc => ?_)
 have hn2 := fu (w := dH x.Rows) (l := (bN (bN l (cr x.acv)) (cf x.acD))) (by omega) hbc
 exact iq
 have hp2 := ez (w := dH x.Rows) (l := (bN (bN l (cr x.acv)) (cf x.acD))) hbc
 have he2 := ck hp2
 refine mS ?_
 exact (aI (by refine bh ?_; (have hz := ck (l := l) (n := (bZ x : Int)) (by omega); omega)) tI)
def Yh {p3 : Fl} {x : cI} {l : Int}  (h0l : 0 ≤ l) (h1l : l ≤ 1048576) : aB prog 205 [(true, [val (vI x.acv.Id), val (vI x.acv.acz), sl .v (x.acv.acw.map bj), sl .v (x.acv.Out.map ak), val (vI x.Time), val (vI x.Steps), sl .v (x.Rows.map (bC p3))]), (false, [val (vI l)])] (aA [(false, [val (vI (bN l (eJ x)))])]) := by
 refine sF func205 fun h0 w0 Fz0 => ?_
 refine sn 0 2 fun hl0_2 => ?_
 refine sn 0 3 fun hl0_3 => ?_
 refine sn 0 6 fun hl0_6 => ?_
 have hw : (eJ x : Int) = (cr x.acv : Int) + (dH x.Rows : Int) := by simp [eJ, bd]
 refine wN ?_
 refine jW ?_
 refine rA ?_ (x := lF Nk)
 refine BE ?_
 refine AL ?_
 refine tZ ?_
 refine sc (fun hba => ?_) (fun hba => ?_)
 exact zI
 have hp0 := ez (w := cr x.acv) (l := l) hba
 have he0 := ck hp0
 refine ir ?_
 refine rA ?_ (x := lF Nl)
 refine rA ?_ (x := lD [sl .v _] CI)
 refine rM ?_
 refine Li ?_
 refine sc (fun hbb => ?_) (fun hbb => ?_)
 have hn1 := fu (w := dH x.Rows) (l := (bN l (cr x.acv))) (by omega) hbb
 exact iq
 have hp1 := ez (w := dH x.Rows) (l := (bN l (cr x.acv))) hbb
 have he1 := ck hp1
 refine mS ?_
 exact (aI (by refine bh ?_; (have hz := ck (l := l) (n := (eJ x : Int)) (by omega); omega)) tI)
def Yi {p1 p2 p3 : Fl} {x : List cC} {l : Int}  (h0l : 0 ≤ l) (h1l : l ≤ 1048576) : aB prog 46 [(false, [sl .v (x.map (hP p1 p2 p3))]), (false, [val (vI l)])] (aA [(false, [val (vI (bN l (kH x)))])]) := by
 refine sF func46 fun h0 w0 Fz0 => ?_
 refine sj 0 fun hl0 => ?_
 refine oy ?_
 refine rA ?_ (x := lN uW)
 refine oz ?_
 refine sc (fun hba => ?_) (fun hba => ?_)
 refine lT ?_
 exact (aI (by refine bh ?_; exact (iG (by simp only [kH]; omega)).symm) tI)
 refine qS ?_
 refine sL [0] [] (fun q : Nat × Int => q.1 ≤ x.length ∧ 0 ≤ q.2 ∧ q.2 + x.length + ((x.take q.1).map fG).sum = l) (fun q : Nat × Int => [(1, RV.int q.2), (5, RV.int (q.1 : Int))]) (fun q : Nat × Int => []) (fun q : Nat × Int => x.length - q.1) (0, l - x.length) (by exact ⟨by simp, by dsimp only; omega, by simp⟩) (by exact aI (by exact rfl) (aI (by exact rfl) tI)) (by exact tI) ?_
 rintro ⟨k, ll⟩ ⟨hk, hll, hw⟩
 dsimp only at hk hll hw
 refine cP ?_
 refine rA ?_ (x := lN uW)
 refine rA ?_ (x := cu)
 refine sc (fun hbb => ?_) (fun hbb => ?_)
 have hlt : k < x.length := by omega
 refine oA ?_
 refine JW ?_
 refine rM ?_
 refine rA ?_ (x := cL [(true, [val _, val _, val _, sl _ _, sl _ _, val _, val _, val _, val _, sl _ _, val _, val _, val _]), (false, [val _])] [(true, [val _, val _, val _, sl .v _, sl .v _, val _, val _, val _, val _, sl .v _, val _, val _, val _]), (false, [val _])] UM (hs := by exact Ye (by omega) (by omega)))
 refine lX ?_
 refine sc (fun hbc => ?_) (fun hbc => ?_)
 have hlt : k < x.length := by omega
 have hneg := fu (w := fG x[k]) (l := ll) (by omega) hbc
 have hwk := gq (f := fG) hlt
 refine ot ?_
 exact (aI (by refine bh ?_; exact (iG (by have := pN (f := fG) x (k + 1); simp only [kH]; omega)).symm) tI)
 have hlt : k < x.length := by omega
 have hpos := ez (w := fG x[k]) (l := ll) hbc
 have hwk := gq (f := fG) hlt
 refine kZ ?_
 refine nx (k + 1, ll - fG x[k]) (by exact ⟨by dsimp only; omega, by dsimp only; omega, by dsimp only; have := gq (f := fG) hlt; omega⟩) (e := (by exact aI (by exact bh (ck hpos)) (aI (by exact rfl) tI)))
 refine pJ ?_
 exact (aI (by refine bh ?_; (rw [ck (by have : (x.take k) = x := gB (by omega); rw [this] at hw; simp only [kH]; omega)]; have : (x.take k) = x := gB (by omega); rw [this] at hw; simp only [kH]; omega)) tI)
def Yj {p1 p2 : Fl} {x : Store} {l : Int}  (h0l : 0 ≤ l) (h1l : l ≤ 1048576) : aB prog 108 [(true, [sl .v (x.act.map (aC p1 p2)), val (vI x.Now)]), (false, [val (vI l)])] (aA [(false, [val (vI (bN l (cd x)))])]) := by
 refine sF func108 fun h0 w0 Fz0 => ?_
 refine sn 0 0 fun hl0_0 => ?_
 have hw : (cd x : Int) = (eO x.act : Int) := by simp [cd, bd]
 refine jy ?_
 refine jW ?_
 refine rA ?_ (x := lF Nr)
 refine rA ?_ (x := lD [sl .v _] ND)
 refine rM ?_
 refine rA ?_ (x := cL [(false, [sl _ _]), (false, [val _])] [(false, [sl .v _]), (false, [val _])] Uc (hs := by exact Yf (by omega) (by omega)))
 refine jz ?_
 refine sc (fun hba => ?_) (fun hba => ?_)
 have hn0 := fu (w := eO x.act) (l := l) (by omega) hba
 exact iq
 have hp0 := ez (w := eO x.act) (l := l) hba
 have he0 := ck hp0
 refine mS ?_
 exact (aI (by refine bh ?_; (have hz := ck (l := l) (n := (cd x : Int)) (by omega); omega)) tI)
def Yk {p1 p2 p3 p4 p5 : Fl} {x : List acu} {l : Int}  (h0l : 0 ≤ l) (h1l : l ≤ 1048576) : aB prog 110 [(false, [sl .v (x.map (aQ p1 p2 p3 p4 p5))]), (false, [val (vI l)])] (aA [(false, [val (vI (bN l (da x)))])]) := by
 refine sF func110 fun h0 w0 Fz0 => ?_
 refine sj 0 fun hl0 => ?_
 refine oy ?_
 refine rA ?_ (x := lN uT)
 refine oz ?_
 refine sc (fun hba => ?_) (fun hba => ?_)
 refine lT ?_
 exact (aI (by refine bh ?_; exact (iG (by simp only [da]; omega)).symm) tI)
 refine qS ?_
 refine sL [0] [] (fun q : Nat × Int => q.1 ≤ x.length ∧ 0 ≤ q.2 ∧ q.2 + x.length + ((x.take q.1).map bZ).sum = l) (fun q : Nat × Int => [(1, RV.int q.2), (5, RV.int (q.1 : Int))]) (fun q : Nat × Int => []) (fun q : Nat × Int => x.length - q.1) (0, l - x.length) (by exact ⟨by simp, by dsimp only; omega, by simp⟩) (by exact aI (by exact rfl) (aI (by exact rfl) tI)) (by exact tI) ?_
 rintro ⟨k, ll⟩ ⟨hk, hll, hw⟩
 dsimp only at hk hll hw
 refine cP ?_
 refine rA ?_ (x := lN uT)
 refine rA ?_ (x := cu)
 refine sc (fun hbb => ?_) (fun hbb => ?_)
 have hlt : k < x.length := by omega
 refine oA ?_
 refine Kh ?_
 refine rM ?_
 refine rA ?_ (x := cL [(true, [val _, val _, sl _ _, sl _ _, val _, sl _ _, val _, val _, val _, sl _ _]), (false, [val _])] [(true, [val _, val _, sl .v _, sl .v _, val _, sl .v _, val _, val _, val _, sl .v _]), (false, [val _])] Ud (hs := by exact Yg (by omega) (by omega)))
 refine lX ?_
 refine sc (fun hbc => ?_) (fun hbc => ?_)
 have hlt : k < x.length := by omega
 have hneg := fu (w := bZ x[k]) (l := ll) (by omega) hbc
 have hwk := gq (f := bZ) hlt
 refine ot ?_
 exact (aI (by refine bh ?_; exact (iG (by have := pN (f := bZ) x (k + 1); simp only [da]; omega)).symm) tI)
 have hlt : k < x.length := by omega
 have hpos := ez (w := bZ x[k]) (l := ll) hbc
 have hwk := gq (f := bZ) hlt
 refine kZ ?_
 refine nx (k + 1, ll - bZ x[k]) (by exact ⟨by dsimp only; omega, by dsimp only; omega, by dsimp only; have := gq (f := bZ) hlt; omega⟩) (e := (by exact aI (by exact bh (ck hpos)) (aI (by exact rfl) tI)))
 refine pJ ?_
 exact (aI (by refine bh ?_; (rw [ck (by have : (x.take k) = x := gB (by omega); rw [this] at hw; simp only [da]; omega)]; have : (x.take k) = x := gB (by omega); rw [this] at hw; simp only [da]; omega)) tI)
def Yl {p1 p2 p3 p4 : Fl} {x : List cI} {l : Int}  (h0l : 0 ≤ l) (h1l : l ≤ 1048576) : aB prog 111 [(false, [sl .v (x.map (aX p1 p2 p3 p4))]), (false, [val (vI l)])] (aA [(false, [val (vI (bN l (dQ x)))])]) := by
 refine sF func111 fun h0 w0 Fz0 => ?_
 refine sj 0 fun hl0 => ?_
 refine oy ?_
 refine rA ?_ (x := lN uU)
 refine oz ?_
 refine sc (fun hba => ?_) (fun hba => ?_)
 refine lT ?_
 exact (aI (by refine bh ?_; exact (iG (by simp only [dQ]; omega)).symm) tI)
 refine qS ?_
 refine sL [0] [] (fun q : Nat × Int => q.1 ≤ x.length ∧ 0 ≤ q.2 ∧ q.2 + x.length + ((x.take q.1).map eJ).sum = l) (fun q : Nat × Int => [(1, RV.int q.2), (5, RV.int (q.1 : Int))]) (fun q : Nat × Int => []) (fun q : Nat × Int => x.length - q.1) (0, l - x.length) (by exact ⟨by simp, by dsimp only; omega, by simp⟩) (by exact aI (by exact rfl) (aI (by exact rfl) tI)) (by exact tI) ?_
 rintro ⟨k, ll⟩ ⟨hk, hll, hw⟩
 dsimp only at hk hll hw
 refine cP ?_
 refine rA ?_ (x := lN uU)
 refine rA ?_ (x := cu)
 refine sc (fun hbb => ?_) (fun hbb => ?_)
 have hlt : k < x.length := by omega
 refine oA ?_
 refine Kr ?_
 refine rM ?_
 refine rA ?_ (x := cL [(true, [val _, val _, sl _ _, sl _ _, val _, val _, sl _ _]), (false, [val _])] [(true, [val _, val _, sl .v _, sl .v _, val _, val _, sl .v _]), (false, [val _])] Ue (hs := by exact Yh (by omega) (by omega)))
 refine lX ?_
 refine sc (fun hbc => ?_) (fun hbc => ?_)
 have hlt : k < x.length := by omega
 have hneg := fu (w := eJ x[k]) (l := ll) (by omega) hbc
 have hwk := gq (f := eJ) hlt
 refine ot ?_
 exact (aI (by refine bh ?_; exact (iG (by have := pN (f := eJ) x (k + 1); simp only [dQ]; omega)).symm) tI)
 have hlt : k < x.length := by omega
 have hpos := ez (w := eJ x[k]) (l := ll) hbc
 have hwk := gq (f := eJ) hlt
 refine kZ ?_
 refine nx (k + 1, ll - eJ x[k]) (by exact ⟨by dsimp only; omega, by dsimp only; omega, by dsimp only; have := gq (f := eJ) hlt; omega⟩) (e := (by exact aI (by exact bh (ck hpos)) (aI (by exact rfl) tI)))
 refine pJ ?_
 exact (aI (by refine bh ?_; (rw [ck (by have : (x.take k) = x := gB (by omega); rw [this] at hw; simp only [dQ]; omega)]; have : (x.take k) = x := gB (by omega); rw [this] at hw; simp only [dQ]; omega)) tI)
def Ym {p1 p2 p5 p6 p7 p8 p9 p11 p12 p13 p14 p16 p17 p18 : Fl} {x : aD} {l : Int}  (h0l : 0 ≤ l) (h1l : l ≤ 1048576) : aB prog 37 [(true, [sl .v (x.Store.act.map (aC p1 p2)), val (vI x.Store.Now), val (vI x.acy), sl .v (x.Order.map ak), sl .v (x.acu.map (aQ p5 p6 p7 p8 p9)), sl .v (x.Done.map (aX p11 p12 p13 p14)), sl .v (x.acG.map (aZ p16 p17 p18)), val (vI x.Steps)]), (false, [val (vI l)])] (aA [(false, [val (vI (bN l (bi x)))])]) := by
 refine sF func37 fun h0 w0 Fz0 => ?_
 refine sn 0 0 fun hl0_0 => ?_
 refine sn 0 3 fun hl0_3 => ?_
 refine sn 0 4 fun hl0_4 => ?_
 refine sn 0 5 fun hl0_5 => ?_
 refine sn 0 6 fun hl0_6 => ?_
 have hw : (bi x : Int) = (cd x.Store : Int) + (cf x.Order : Int) + (da x.acu : Int) + (dQ x.Done : Int) + (dP x.acG : Int) := by simp [bi, bd]
 refine jx ?_
 refine jW ?_
 refine rA ?_ (x := lF Ns)
 refine rA ?_ (x := lD [sl .v _, val _] NE)
 refine rM ?_
 refine rA ?_ (x := cL [(true, [sl _ _, val _]), (false, [val _])] [(true, [sl .v _, val _]), (false, [val _])] Tp (hs := by exact Yj (by omega) (by omega)))
 refine jz ?_
 refine sc (fun hba => ?_) (fun hba => ?_)
 have hn0 := fu (w := cd x.Store) (l := l) (by omega) hba
 exact iq
 have hp0 := ez (w := cd x.Store) (l := l) hba
 have he0 := ck hp0
 refine ir ?_
 refine rA ?_ (x := lF Nt)
 refine pI ?_
 refine sc (fun hbb => ?_) (fun hbb => ?_)
 have hn1 := fu (w := cf x.Order) (l := (bN l (cd x.Store))) (by omega) hbb
 exact iq
 have hp1 := ez (w := cf x.Order) (l := (bN l (cd x.Store))) hbb
 have he1 := ck hp1
 refine ir ?_
 refine rA ?_ (x := lF Nu)
 refine rA ?_ (x := lD [sl .v _] NF)
 refine rM ?_
 refine rA ?_ (x := cL [(false, [sl _ _]), (false, [val _])] [(false, [sl .v _]), (false, [val _])] Tr (hs := by exact Yk (by omega) (by omega)))
 refine jz ?_
 refine sc (fun hbc => ?_) (fun hbc => ?_)
 have hn2 := fu (w := da x.acu) (l := (bN (bN l (cd x.Store)) (cf x.Order))) (by omega) hbc
 exact iq
 have hp2 := ez (w := da x.acu) (l := (bN (bN l (cd x.Store)) (cf x.Order))) hbc
 have he2 := ck hp2
 refine ir ?_
 refine rA ?_ (x := lF Nv)
 refine rA ?_ (x := lD [sl .v _] NG)
 refine rM ?_
 refine rA ?_ (x := cL [(false, [sl _ _]), (false, [val _])] [(false, [sl .v _]), (false, [val _])] Ts (hs := by exact Yl (by omega) (by omega)))
 refine jz ?_
 refine sc (fun hbd => ?_) (fun hbd => ?_)
 have hn3 := fu (w := dQ x.Done) (l := (bN (bN (bN l (cd x.Store)) (cf x.Order)) (da x.acu))) (by omega) hbd
 exact iq
 have hp3 := ez (w := dQ x.Done) (l := (bN (bN (bN l (cd x.Store)) (cf x.Order)) (da x.acu))) hbd
 have he3 := ck hp3
 refine ir ?_
 refine rA ?_ (x := lF Nw)
 refine rA ?_ (x := lD [sl .v _] NH)
 refine rM ?_
 refine rA ?_ (x := cL [(false, [sl _ _]), (false, [val _])] [(false, [sl .v _]), (false, [val _])] Tt (hs := by exact XZ (by omega) (by omega)))
 refine jz ?_
 refine sc (fun hbe => ?_) (fun hbe => ?_)
 have hn4 := fu (w := dP x.acG) (l := (bN (bN (bN (bN l (cd x.Store)) (cf x.Order)) (da x.acu)) (dQ x.Done))) (by omega) hbe
 exact iq
 have hp4 := ez (w := dP x.acG) (l := (bN (bN (bN (bN l (cd x.Store)) (cf x.Order)) (da x.acu)) (dQ x.Done))) hbe
 have he4 := ck hp4
 refine mS ?_
 exact (aI (by refine bh ?_; (have hz := ck (l := l) (n := (bi x : Int)) (by omega); omega)) tI)
end Go.Proofs.YtmekkgdboplbjaaGreat
