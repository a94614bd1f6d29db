/- What functions of the program compute. No condition. -/
import Derived.Test.YtmekkgdboplbjaaGreatCD0
import Derived.Test.YtmekkgdboplbjaaGreatCF0
set_option linter.all false
namespace Go.Proofs.YtmekkgdboplbjaaGreat
open Go Go.RowKit M PV Tryz
set_option maxRecDepth 10000
attribute [local irreducible] PV.Lcl PV.LclR RV.Lcl
def KY (x : List Int) : (b6 x : Int) = x.length := by
 have h : ∀ l : List Int, (l.map a9).sum = 0 := by
  intro l
  induction l with
  | nil => rfl
  | cons a l ih => rw [List.map_cons, List.sum_cons, ih]; rfl
 simp [b6, h]
def Sy {x : List Int} {l : Int}  (h0l : 0 ≤ l) (h1l : l ≤ 1048576) : aC prog 109 [(false, [sl .v (x.map ak)]), (false, [val (vI l)])] (az [(false, [val (vI (bL l (b6 x)))])]) := by
 refine sF func109 fun h0 w0 Fz0 => ?_
 refine sj 0 fun hl0 => ?_
 refine nY ?_
 refine rA ?_ (x := lN bC)
 refine nZ ?_
 refine sc (fun hba => ?_) (fun hba => ?_)
 refine lG ?_
 exact (aI (by refine bg ?_; exact (iX (by have := KY x; omega)).symm) tI)
 refine bl ?_
 refine sS [0, 1, 4] [] ?_
 refine lz ?_
 exact (aI (by refine bg ?_; exact (by have := KY x; rw [ci (by omega), this])) tI)
def Sz {x : cE} {l : Int}  (h0l : 0 ≤ l) (h1l : l ≤ 1048576) : aC prog 206 [(true, [val (vI x.Segment), val (vI x.Base), sl .v (x.Ids.map ak), sl .v (x.Wy.map ak), sl .v (x.Rows.map ak)]), (false, [val (vI l)])] (az [(false, [val (vI (bL l (eG x)))])]) := by
 refine sF func206 fun h0 w0 Fz0 => ?_
 refine sn 0 2 fun hl0_2 => ?_
 refine sn 0 3 fun hl0_3 => ?_
 refine sn 0 4 fun hl0_4 => ?_
 have hw : (eG x : Int) = (b6 x.Ids : Int) + (b6 x.Wy : Int) + (b6 x.Rows : Int) := by simp [eG, a9]
 refine oZ ?_
 refine jj ?_
 refine rA ?_ (x := lF JH)
 refine n7 ?_
 refine sc (fun hba => ?_) (fun hba => ?_)
 have hn0 := eZ (w := b6 x.Ids) (l := l) (by omega) hba
 exact gT
 have hp0 := d7 (w := b6 x.Ids) (l := l) hba
 have he0 := ci hp0
 refine gU ?_
 refine rA ?_ (x := lF JI)
 refine n7 ?_
 refine sc (fun hbb => ?_) (fun hbb => ?_)
 have hn1 := eZ (w := b6 x.Wy) (l := (bL l (b6 x.Ids))) (by omega) hbb
 exact gT
 have hp1 := d7 (w := b6 x.Wy) (l := (bL l (b6 x.Ids))) hbb
 have he1 := ci hp1
 refine gU ?_
 refine rA ?_ (x := lF JJ)
 refine n7 ?_
 refine sc (fun hbc => ?_) (fun hbc => ?_)
 have hn2 := eZ (w := b6 x.Rows) (l := (bL (bL l (b6 x.Ids)) (b6 x.Wy))) (by omega) hbc
 exact gT
 have hp2 := d7 (w := b6 x.Rows) (l := (bL (bL l (b6 x.Ids)) (b6 x.Wy))) hbc
 have he2 := ci hp2
 refine lI ?_
 exact (aI (by refine bg ?_; (have hz := ci (l := l) (n := (eG x : Int)) (by omega); omega)) tI)
def KZ (x : List cS) : (iy x : Int) = x.length := by
 have h : ∀ l : List cS, (l.map lL).sum = 0 := by
  intro l
  induction l with
  | nil => rfl
  | cons a l ih => rw [List.map_cons, List.sum_cons, ih]; rfl
 simp [iy, h]
def SA {x : List cS} {l : Int}  (h0l : 0 ≤ l) (h1l : l ≤ 1048576) : aC prog 207 [(false, [sl .v (x.map bf)]), (false, [val (vI l)])] (az [(false, [val (vI (bL l (iy x)))])]) := by
 refine sF func207 fun h0 w0 Fz0 => ?_
 refine sj 0 fun hl0 => ?_
 refine nY ?_
 refine rA ?_ (x := lN wk)
 refine nZ ?_
 refine sc (fun hba => ?_) (fun hba => ?_)
 refine lG ?_
 exact (aI (by refine bg ?_; exact (iX (by have := KZ x; omega)).symm) tI)
 refine bl ?_
 refine sS [0, 1, 4] [] ?_
 refine lz ?_
 exact (aI (by refine bg ?_; exact (by have := KZ x; rw [ci (by omega), this])) tI)
def SB {x : Row} {l : Int}  (h0l : 0 ≤ l) (h1l : l ≤ 1048576) : aC prog 208 [(true, [val (vI x.Id), sl .v (x.Values.map ak)]), (false, [val (vI l)])] (az [(false, [val (vI (bL l (de x)))])]) := by
 refine sF func208 fun h0 w0 Fz0 => ?_
 refine sn 0 1 fun hl0_1 => ?_
 have hw : (de x : Int) = (b6 x.Values : Int) := by simp [de, a9]
 refine pc ?_
 refine jj ?_
 refine rA ?_ (x := lF JT)
 refine n7 ?_
 refine sc (fun hba => ?_) (fun hba => ?_)
 exact Do
 have hp0 := d7 (w := b6 x.Values) (l := l) hba
 have he0 := ci hp0
 refine lI ?_
 exact (aI (by refine bg ?_; (have hz := ci (l := l) (n := (de x : Int)) (by omega); omega)) tI)
def SC {x : aT} {l : Int}  (h0l : 0 ≤ l) (h1l : l ≤ 1048576) : aC prog 280 [(true, [val (vI x.Id), sl .v (x.Values.map ak), val (vI x.WG), val (vI x.WC)]), (false, [val (vI l)])] (az [(false, [val (vI (bL l (bT x)))])]) := by
 refine sF func280 fun h0 w0 Fz0 => ?_
 refine sn 0 1 fun hl0_1 => ?_
 have hw : (bT x : Int) = (b6 x.Values : Int) := by simp [bT, a9]
 refine oX ?_
 refine jj ?_
 refine rA ?_ (x := lF JK)
 refine n7 ?_
 refine sc (fun hba => ?_) (fun hba => ?_)
 exact Do
 have hp0 := d7 (w := b6 x.Values) (l := l) hba
 have he0 := ci hp0
 refine lI ?_
 exact (aI (by refine bg ?_; (have hz := ci (l := l) (n := (bT x : Int)) (by omega); omega)) tI)
def SD {p1 p2 p3 : Fl} {x : List cE} {l : Int}  (h0l : 0 ≤ l) (h1l : l ≤ 1048576) : aC prog 112 [(false, [sl .v (x.map (a7 p1 p2 p3))]), (false, [val (vI l)])] (az [(false, [val (vI (bL l (dJ x)))])]) := by
 refine sF func112 fun h0 w0 Fz0 => ?_
 refine sj 0 fun hl0 => ?_
 refine nY ?_
 refine rA ?_ (x := lN tq)
 refine nZ ?_
 refine sc (fun hba => ?_) (fun hba => ?_)
 refine lG ?_
 exact (aI (by refine bg ?_; exact (iX (by simp only [dJ]; omega)).symm) tI)
 refine rh ?_
 refine sL [0] [] (fun q : Nat × Int => q.1 ≤ x.length ∧ 0 ≤ q.2 ∧ q.2 + x.length + ((x.take q.1).map eG).sum = l) (fun q : Nat × Int => [(1, RV.int q.2), (5, RV.int (q.1 : Int))]) (fun q : Nat × Int => []) (fun q : Nat × Int => x.length - q.1) (0, l - x.length) (by exact ⟨by simp, by dsimp only; omega, by simp⟩) (by exact aI (by exact rfl) (aI (by exact rfl) tI)) (by exact tI) ?_
 rintro ⟨k, ll⟩ ⟨hk, hll, hw⟩
 dsimp only at hk hll hw
 refine cQ ?_
 refine rA ?_ (x := lN tq)
 refine rA ?_ (x := cy)
 refine sc (fun hbb => ?_) (fun hbb => ?_)
 have hlt : k < x.length := by omega
 refine n8 ?_
 refine Hy ?_
 refine rM ?_
 refine rA ?_ (x := cL [(true, [val _, val _, sl _ _, sl _ _, sl _ _]), (false, [val _])] [(true, [val _, val _, sl .v _, sl .v _, sl .v _]), (false, [val _])] Po (hs := by exact Sz (by omega) (by omega)))
 refine kG ?_
 refine sc (fun hbc => ?_) (fun hbc => ?_)
 have hlt : k < x.length := by omega
 have hneg := eZ (w := eG x[k]) (l := ll) (by omega) hbc
 have hwk := gB (f := eG) hlt
 refine nU ?_
 exact (aI (by refine bg ?_; exact (iX (by have := pE (f := eG) x (k + 1); simp only [dJ]; omega)).symm) tI)
 have hlt : k < x.length := by omega
 have hpos := d7 (w := eG x[k]) (l := ll) hbc
 have hwk := gB (f := eG) hlt
 refine kF ?_
 refine nx (k + 1, ll - eG x[k]) (by exact ⟨by dsimp only; omega, by dsimp only; omega, by dsimp only; have := gB (f := eG) hlt; omega⟩) (e := (by exact aI (by exact bg (ci hpos)) (aI (by exact rfl) tI)))
 refine pu ?_
 exact (aI (by refine bg ?_; (rw [ci (by have : (x.take k) = x := gt (by omega); rw [this] at hw; simp only [dJ]; omega)]; have : (x.take k) = x := gt (by omega); rw [this] at hw; simp only [dJ]; omega)) tI)
def SE {x : Wt} {l : Int}  (h0l : 0 ≤ l) (h1l : l ≤ 1048576) : aC prog 113 [(true, [val (vI x.Id), val (vI x.Wx), sl .v (x.Wu.map bf), sl .v (x.Out.map ak)]), (false, [val (vI l)])] (az [(false, [val (vI (bL l (ce x)))])]) := by
 refine sF func113 fun h0 w0 Fz0 => ?_
 refine sn 0 2 fun hl0_2 => ?_
 refine sn 0 3 fun hl0_3 => ?_
 have hw : (ce x : Int) = (iy x.Wu : Int) + (b6 x.Out : Int) := by simp [ce, a9]
 refine mw ?_
 refine jj ?_
 refine rA ?_ (x := lF JR)
 refine rA ?_ (x := lD [sl .v _] J2)
 refine rM ?_
 refine rA ?_ (x := cL [(false, [sl _ _]), (false, [val _])] [(false, [sl .v _]), (false, [val _])] Pp (hs := by exact SA (by omega) (by omega)))
 refine ib ?_
 refine sc (fun hba => ?_) (fun hba => ?_)
 have hn0 := eZ (w := iy x.Wu) (l := l) (by omega) hba
 exact gT
 have hp0 := d7 (w := iy x.Wu) (l := l) hba
 have he0 := ci hp0
 refine gU ?_
 refine rA ?_ (x := lF JS)
 refine n7 ?_
 refine sc (fun hbb => ?_) (fun hbb => ?_)
 have hn1 := eZ (w := b6 x.Out) (l := (bL l (iy x.Wu))) (by omega) hbb
 exact gT
 have hp1 := d7 (w := b6 x.Out) (l := (bL l (iy x.Wu))) hbb
 have he1 := ci hp1
 refine lI ?_
 exact (aI (by refine bg ?_; (have hz := ci (l := l) (n := (ce x : Int)) (by omega); omega)) tI)
def SF {x : Wv} {l : Int}  (h0l : 0 ≤ l) (h1l : l ≤ 1048576) : aC prog 114 [(true, [val (vI x.Kind), val (vI x.Row.Id), sl .v (x.Row.Values.map ak), val (vI x.Field), val (vI x.Value)]), (false, [val (vI l)])] (az [(false, [val (vI (bL l (gC x)))])]) := by
 refine sF func114 fun h0 w0 Fz0 => ?_
 refine sn 0 2 fun hl0_2 => ?_
 have hw : (gC x : Int) = (de x.Row : Int) := by simp [gC, a9]
 refine qG ?_
 refine jj ?_
 refine rA ?_ (x := lF JU)
 refine rA ?_ (x := lD [val _, sl .v _] AK)
 refine HS ?_
 refine ib ?_
 refine sc (fun hba => ?_) (fun hba => ?_)
 have hn0 := eZ (w := de x.Row) (l := l) (by omega) hba
 exact gT
 have hp0 := d7 (w := de x.Row) (l := l) hba
 have he0 := ci hp0
 refine lI ?_
 exact (aI (by refine bg ?_; (have hz := ci (l := l) (n := (gC x : Int)) (by omega); omega)) tI)
def SG {p1 : Fl} {x : List aT} {l : Int}  (h0l : 0 ≤ l) (h1l : l ≤ 1048576) : aC prog 260 [(false, [sl .v (x.map (cG p1))]), (false, [val (vI l)])] (az [(false, [val (vI (bL l (bU x)))])]) := by
 refine sF func260 fun h0 w0 Fz0 => ?_
 refine sj 0 fun hl0 => ?_
 refine nY ?_
 refine rA ?_ (x := lN tm)
 refine nZ ?_
 refine sc (fun hba => ?_) (fun hba => ?_)
 refine lG ?_
 exact (aI (by refine bg ?_; exact (iX (by simp only [bU]; omega)).symm) tI)
 refine rh ?_
 refine sL [0] [] (fun q : Nat × Int => q.1 ≤ x.length ∧ 0 ≤ q.2 ∧ q.2 + x.length + ((x.take q.1).map bT).sum = l) (fun q : Nat × Int => [(1, RV.int q.2), (5, RV.int (q.1 : Int))]) (fun q : Nat × Int => []) (fun q : Nat × Int => x.length - q.1) (0, l - x.length) (by exact ⟨by simp, by dsimp only; omega, by simp⟩) (by exact aI (by exact rfl) (aI (by exact rfl) tI)) (by exact tI) ?_
 rintro ⟨k, ll⟩ ⟨hk, hll, hw⟩
 dsimp only at hk hll hw
 refine cQ ?_
 refine rA ?_ (x := lN tm)
 refine rA ?_ (x := cy)
 refine sc (fun hbb => ?_) (fun hbb => ?_)
 have hlt : k < x.length := by omega
 refine n8 ?_
 refine HF ?_
 refine rM ?_
 refine rA ?_ (x := cL [(true, [val _, sl _ _, val _, val _]), (false, [val _])] [(true, [val _, sl .v _, val _, val _]), (false, [val _])] PT (hs := by exact SC (by omega) (by omega)))
 refine kG ?_
 refine sc (fun hbc => ?_) (fun hbc => ?_)
 have hlt : k < x.length := by omega
 have hneg := eZ (w := bT x[k]) (l := ll) (by omega) hbc
 have hwk := gB (f := bT) hlt
 refine nU ?_
 exact (aI (by refine bg ?_; exact (iX (by have := pE (f := bT) x (k + 1); simp only [bU]; omega)).symm) tI)
 have hlt : k < x.length := by omega
 have hpos := d7 (w := bT x[k]) (l := ll) hbc
 have hwk := gB (f := bT) hlt
 refine kF ?_
 refine nx (k + 1, ll - bT x[k]) (by exact ⟨by dsimp only; omega, by dsimp only; omega, by dsimp only; have := gB (f := bT) hlt; omega⟩) (e := (by exact aI (by exact bg (ci hpos)) (aI (by exact rfl) tI)))
 refine pu ?_
 exact (aI (by refine bg ?_; (rw [ci (by have : (x.take k) = x := gt (by omega); rw [this] at hw; simp only [bU]; omega)]; have : (x.take k) = x := gt (by omega); rw [this] at hw; simp only [bU]; omega)) tI)
def SH {p1 : Fl} {x : List Row} {l : Int}  (h0l : 0 ≤ l) (h1l : l ≤ 1048576) : aC prog 261 [(false, [sl .v (x.map (bu p1))]), (false, [val (vI l)])] (az [(false, [val (vI (bL l (dl x)))])]) := by
 refine sF func261 fun h0 w0 Fz0 => ?_
 refine sj 0 fun hl0 => ?_
 refine nY ?_
 refine rA ?_ (x := lN tl)
 refine nZ ?_
 refine sc (fun hba => ?_) (fun hba => ?_)
 refine lG ?_
 exact (aI (by refine bg ?_; exact (iX (by simp only [dl]; omega)).symm) tI)
 refine rh ?_
 refine sL [0] [] (fun q : Nat × Int => q.1 ≤ x.length ∧ 0 ≤ q.2 ∧ q.2 + x.length + ((x.take q.1).map de).sum = l) (fun q : Nat × Int => [(1, RV.int q.2), (5, RV.int (q.1 : Int))]) (fun q : Nat × Int => []) (fun q : Nat × Int => x.length - q.1) (0, l - x.length) (by exact ⟨by simp, by dsimp only; omega, by simp⟩) (by exact aI (by exact rfl) (aI (by exact rfl) tI)) (by exact tI) ?_
 rintro ⟨k, ll⟩ ⟨hk, hll, hw⟩
 dsimp only at hk hll hw
 refine cQ ?_
 refine rA ?_ (x := lN tl)
 refine rA ?_ (x := cy)
 refine sc (fun hbb => ?_) (fun hbb => ?_)
 have hlt : k < x.length := by omega
 refine n8 ?_
 refine HU ?_
 refine HS ?_
 refine kG ?_
 refine sc (fun hbc => ?_) (fun hbc => ?_)
 have hlt : k < x.length := by omega
 have hneg := eZ (w := de x[k]) (l := ll) (by omega) hbc
 have hwk := gB (f := de) hlt
 refine nU ?_
 exact (aI (by refine bg ?_; exact (iX (by have := pE (f := de) x (k + 1); simp only [dl]; omega)).symm) tI)
 have hlt : k < x.length := by omega
 have hpos := d7 (w := de x[k]) (l := ll) hbc
 have hwk := gB (f := de) hlt
 refine kF ?_
 refine nx (k + 1, ll - de x[k]) (by exact ⟨by dsimp only; omega, by dsimp only; omega, by dsimp only; have := gB (f := de) hlt; omega⟩) (e := (by exact aI (by exact bg (ci hpos)) (aI (by exact rfl) tI)))
 refine pu ?_
 exact (aI (by refine bg ?_; (rw [ci (by have : (x.take k) = x := gt (by omega); rw [this] at hw; simp only [dl]; omega)]; have : (x.take k) = x := gt (by omega); rw [this] at hw; simp only [dl]; omega)) tI)
def SI {x : eH} {l : Int}  (h0l : 0 ≤ l) (h1l : l ≤ 1048576) : aC prog 38 [(true, [val (vI x.Kind), val (vI x.Wt.Id), val (vI x.Wt.Wx), sl .v (x.Wt.Wu.map bf), sl .v (x.Wt.Out.map ak), val (vI x.Limit), val (vI x.Id), val (vI x.Wv.Kind), val (vI x.Wv.Row.Id), sl .v (x.Wv.Row.Values.map ak), val (vI x.Wv.Field), val (vI x.Wv.Value), val (vI x.Steps)]), (false, [val (vI l)])] (az [(false, [val (vI (bL l (jO x)))])]) := by
 refine sF func38 fun h0 w0 Fz0 => ?_
 refine sn 0 3 fun hl0_3 => ?_
 refine sn 0 4 fun hl0_4 => ?_
 refine sn 0 9 fun hl0_9 => ?_
 have hw : (jO x : Int) = (ce x.Wt : Int) + (gC x.Wv : Int) := by simp [jO, a9]
 refine so ?_
 refine jj ?_
 refine rA ?_ (x := lF JV)
 refine zG ?_
 refine yK ?_
 refine sc (fun hba => ?_) (fun hba => ?_)
 exact xQ
 have hp0 := d7 (w := ce x.Wt) (l := l) hba
 have he0 := ci hp0
 refine gU ?_
 refine IX ?_
 refine rM ?_
 refine rA ?_ (x := cL [(true, [val _, val _, sl _ _, val _, val _]), (false, [val _])] [(true, [val _, val _, sl .v _, val _, val _]), (false, [val _])] OL (hs := by exact SF (by omega) (by omega)))
 refine ib ?_
 refine sc (fun hbb => ?_) (fun hbb => ?_)
 have hn1 := eZ (w := gC x.Wv) (l := (bL l (ce x.Wt))) (by omega) hbb
 exact gT
 have hp1 := d7 (w := gC x.Wv) (l := (bL l (ce x.Wt))) hbb
 have he1 := ci hp1
 refine lI ?_
 exact (aI (by refine bg ?_; (have hz := ci (l := l) (n := (jO x : Int)) (by omega); omega)) tI)
def SJ {p1 p2 : Fl} {x : List (List aT)} {l : Int}  (h0l : 0 ≤ l) (h1l : l ≤ 1048576) : aC prog 203 [(false, [sl .v (x.map (aD p1 p2))]), (false, [val (vI l)])] (az [(false, [val (vI (bL l (eh x)))])]) := by
 refine sF func203 fun h0 w0 Fz0 => ?_
 refine sj 0 fun hl0 => ?_
 refine nY ?_
 refine rA ?_ (x := lN tn)
 refine nZ ?_
 refine sc (fun hba => ?_) (fun hba => ?_)
 refine lG ?_
 exact (aI (by refine bg ?_; exact (iX (by simp only [eh]; omega)).symm) tI)
 refine rh ?_
 refine sL [0] [] (fun q : Nat × Int => q.1 ≤ x.length ∧ 0 ≤ q.2 ∧ q.2 + x.length + ((x.take q.1).map bU).sum = l) (fun q : Nat × Int => [(1, RV.int q.2), (5, RV.int (q.1 : Int))]) (fun q : Nat × Int => []) (fun q : Nat × Int => x.length - q.1) (0, l - x.length) (by exact ⟨by simp, by dsimp only; omega, by simp⟩) (by exact aI (by exact rfl) (aI (by exact rfl) tI)) (by exact tI) ?_
 rintro ⟨k, ll⟩ ⟨hk, hll, hw⟩
 dsimp only at hk hll hw
 refine cQ ?_
 refine rA ?_ (x := lN tn)
 refine rA ?_ (x := cy)
 refine sc (fun hbb => ?_) (fun hbb => ?_)
 have hlt : k < x.length := by omega
 refine n8 ?_
 refine H1 ?_
 refine rM ?_
 refine rA ?_ (x := cL [(false, [sl _ _]), (false, [val _])] [(false, [sl .v _]), (false, [val _])] PI (hs := by exact SG (by omega) (by omega)))
 refine kG ?_
 refine sc (fun hbc => ?_) (fun hbc => ?_)
 have hlt : k < x.length := by omega
 have hneg := eZ (w := bU x[k]) (l := ll) (by omega) hbc
 have hwk := gB (f := bU) hlt
 refine nU ?_
 exact (aI (by refine bg ?_; exact (iX (by have := pE (f := bU) x (k + 1); simp only [eh]; omega)).symm) tI)
 have hlt : k < x.length := by omega
 have hpos := d7 (w := bU x[k]) (l := ll) hbc
 have hwk := gB (f := bU) hlt
 refine kF ?_
 refine nx (k + 1, ll - bU x[k]) (by exact ⟨by dsimp only; omega, by dsimp only; omega, by dsimp only; have := gB (f := bU) hlt; omega⟩) (e := (by exact aI (by exact bg (ci hpos)) (aI (by exact rfl) tI)))
 refine pu ?_
 exact (aI (by refine bg ?_; (rw [ci (by have : (x.take k) = x := gt (by omega); rw [this] at hw; simp only [eh]; omega)]; have : (x.take k) = x := gt (by omega); rw [this] at hw; simp only [eh]; omega)) tI)
def SK {p4 : Fl} {x : Ws} {l : Int}  (h0l : 0 ≤ l) (h1l : l ≤ 1048576) : aC prog 204 [(true, [val (vI x.Wt.Id), val (vI x.Wt.Wx), sl .v (x.Wt.Wu.map bf), sl .v (x.Wt.Out.map ak), val (vI x.Time), sl .v (x.WB.map ak), val (vI x.Age), val (vI x.Sent), val (vI x.Cap), sl .v (x.Rows.map (bu p4))]), (false, [val (vI l)])] (az [(false, [val (vI (bL l (bW x)))])]) := by
 refine sF func204 fun h0 w0 Fz0 => ?_
 refine sn 0 2 fun hl0_2 => ?_
 refine sn 0 3 fun hl0_3 => ?_
 refine sn 0 5 fun hl0_5 => ?_
 refine sn 0 9 fun hl0_9 => ?_
 have hw : (bW x : Int) = (ce x.Wt : Int) + (b6 x.WB : Int) + (dl x.Rows : Int) := by simp [bW, a9]
 refine sr ?_
 refine jj ?_
 refine rA ?_ (x := lF JC)
 refine zG ?_
 refine yK ?_
 refine sc (fun hba => ?_) (fun hba => ?_)
 exact xQ
 have hp0 := d7 (w := ce x.Wt) (l := l) hba
 have he0 := ci hp0
 refine gU ?_
 refine rA ?_ (x := lF JD)
 refine n7 ?_
 refine sc (fun hbb => ?_) (fun hbb => ?_)
 have hn1 := eZ (w := b6 x.WB) (l := (bL l (ce x.Wt))) (by omega) hbb
 exact gT
 have hp1 := d7 (w := b6 x.WB) (l := (bL l (ce x.Wt))) hbb
 have he1 := ci hp1
 refine gU ?_
 refine rA ?_ (x := lF JE)
 refine rA ?_ (x := lD [sl .v _] AJ)
 refine rM ?_
 refine H2 ?_
 refine sc (fun hbc => ?_) (fun hbc => ?_)
 have hn2 := eZ (w := dl x.Rows) (l := (bL (bL l (ce x.Wt)) (b6 x.WB))) (by omega) hbc
 exact gT
 have hp2 := d7 (w := dl x.Rows) (l := (bL (bL l (ce x.Wt)) (b6 x.WB))) hbc
 have he2 := ci hp2
 refine lI ?_
 exact (aI (by refine bg ?_; (have hz := ci (l := l) (n := (bW x : Int)) (by omega); omega)) tI)
def SL {p3 : Fl} {x : cu} {l : Int}  (h0l : 0 ≤ l) (h1l : l ≤ 1048576) : aC prog 205 [(true, [val (vI x.Wt.Id), val (vI x.Wt.Wx), sl .v (x.Wt.Wu.map bf), sl .v (x.Wt.Out.map ak), val (vI x.Time), val (vI x.Steps), sl .v (x.Rows.map (bu p3))]), (false, [val (vI l)])] (az [(false, [val (vI (bL l (d9 x)))])]) := by
 refine sF func205 fun h0 w0 Fz0 => ?_
 refine sn 0 2 fun hl0_2 => ?_
 refine sn 0 3 fun hl0_3 => ?_
 refine sn 0 6 fun hl0_6 => ?_
 have hw : (d9 x : Int) = (ce x.Wt : Int) + (dl x.Rows : Int) := by simp [d9, a9]
 refine uV ?_
 refine jj ?_
 refine rA ?_ (x := lF JF)
 refine zG ?_
 refine yK ?_
 refine sc (fun hba => ?_) (fun hba => ?_)
 exact xQ
 have hp0 := d7 (w := ce x.Wt) (l := l) hba
 have he0 := ci hp0
 refine gU ?_
 refine rA ?_ (x := lF JG)
 refine rA ?_ (x := lD [sl .v _] AJ)
 refine rM ?_
 refine H2 ?_
 refine sc (fun hbb => ?_) (fun hbb => ?_)
 have hn1 := eZ (w := dl x.Rows) (l := (bL l (ce x.Wt))) (by omega) hbb
 exact gT
 have hp1 := d7 (w := dl x.Rows) (l := (bL l (ce x.Wt))) hbb
 have he1 := ci hp1
 refine lI ?_
 exact (aI (by refine bg ?_; (have hz := ci (l := l) (n := (d9 x : Int)) (by omega); omega)) tI)
def SM {p1 p2 : Fl} {x : Store} {l : Int}  (h0l : 0 ≤ l) (h1l : l ≤ 1048576) : aC prog 108 [(true, [sl .v (x.Wr.map (aD p1 p2)), val (vI x.Now)]), (false, [val (vI l)])] (az [(false, [val (vI (bL l (b4 x)))])]) := by
 refine sF func108 fun h0 w0 Fz0 => ?_
 refine sn 0 0 fun hl0_0 => ?_
 have hw : (b4 x : Int) = (eh x.Wr : Int) := by simp [b4, a9]
 refine iU ?_
 refine jj ?_
 refine rA ?_ (x := lF JL)
 refine rA ?_ (x := lD [sl .v _] JX)
 refine rM ?_
 refine rA ?_ (x := cL [(false, [sl _ _]), (false, [val _])] [(false, [sl .v _]), (false, [val _])] Pk (hs := by exact SJ (by omega) (by omega)))
 refine ib ?_
 refine sc (fun hba => ?_) (fun hba => ?_)
 have hn0 := eZ (w := eh x.Wr) (l := l) (by omega) hba
 exact gT
 have hp0 := d7 (w := eh x.Wr) (l := l) hba
 have he0 := ci hp0
 refine lI ?_
 exact (aI (by refine bg ?_; (have hz := ci (l := l) (n := (b4 x : Int)) (by omega); omega)) tI)
def SN {p1 p2 p3 p4 p5 : Fl} {x : List Ws} {l : Int}  (h0l : 0 ≤ l) (h1l : l ≤ 1048576) : aC prog 110 [(false, [sl .v (x.map (aO p1 p2 p3 p4 p5))]), (false, [val (vI l)])] (az [(false, [val (vI (bL l (c6 x)))])]) := by
 refine sF func110 fun h0 w0 Fz0 => ?_
 refine sj 0 fun hl0 => ?_
 refine nY ?_
 refine rA ?_ (x := lN to)
 refine nZ ?_
 refine sc (fun hba => ?_) (fun hba => ?_)
 refine lG ?_
 exact (aI (by refine bg ?_; exact (iX (by simp only [c6]; omega)).symm) tI)
 refine rh ?_
 refine sL [0] [] (fun q : Nat × Int => q.1 ≤ x.length ∧ 0 ≤ q.2 ∧ q.2 + x.length + ((x.take q.1).map bW).sum = l) (fun q : Nat × Int => [(1, RV.int q.2), (5, RV.int (q.1 : Int))]) (fun q : Nat × Int => []) (fun q : Nat × Int => x.length - q.1) (0, l - x.length) (by exact ⟨by simp, by dsimp only; omega, by simp⟩) (by exact aI (by exact rfl) (aI (by exact rfl) tI)) (by exact tI) ?_
 rintro ⟨k, ll⟩ ⟨hk, hll, hw⟩
 dsimp only at hk hll hw
 refine cQ ?_
 refine rA ?_ (x := lN to)
 refine rA ?_ (x := cy)
 refine sc (fun hbb => ?_) (fun hbb => ?_)
 have hlt : k < x.length := by omega
 refine n8 ?_
 refine Ha ?_
 refine rM ?_
 refine rA ?_ (x := cL [(true, [val _, val _, sl _ _, sl _ _, val _, sl _ _, val _, val _, val _, sl _ _]), (false, [val _])] [(true, [val _, val _, sl .v _, sl .v _, val _, sl .v _, val _, val _, val _, sl .v _]), (false, [val _])] Pm (hs := by exact SK (by omega) (by omega)))
 refine kG ?_
 refine sc (fun hbc => ?_) (fun hbc => ?_)
 have hlt : k < x.length := by omega
 have hneg := eZ (w := bW x[k]) (l := ll) (by omega) hbc
 have hwk := gB (f := bW) hlt
 refine nU ?_
 exact (aI (by refine bg ?_; exact (iX (by have := pE (f := bW) x (k + 1); simp only [c6]; omega)).symm) tI)
 have hlt : k < x.length := by omega
 have hpos := d7 (w := bW x[k]) (l := ll) hbc
 have hwk := gB (f := bW) hlt
 refine kF ?_
 refine nx (k + 1, ll - bW x[k]) (by exact ⟨by dsimp only; omega, by dsimp only; omega, by dsimp only; have := gB (f := bW) hlt; omega⟩) (e := (by exact aI (by exact bg (ci hpos)) (aI (by exact rfl) tI)))
 refine pu ?_
 exact (aI (by refine bg ?_; (rw [ci (by have : (x.take k) = x := gt (by omega); rw [this] at hw; simp only [c6]; omega)]; have : (x.take k) = x := gt (by omega); rw [this] at hw; simp only [c6]; omega)) tI)
def SO {p1 p2 p3 p4 : Fl} {x : List cu} {l : Int}  (h0l : 0 ≤ l) (h1l : l ≤ 1048576) : aC prog 111 [(false, [sl .v (x.map (aZ p1 p2 p3 p4))]), (false, [val (vI l)])] (az [(false, [val (vI (bL l (dK x)))])]) := by
 refine sF func111 fun h0 w0 Fz0 => ?_
 refine sj 0 fun hl0 => ?_
 refine nY ?_
 refine rA ?_ (x := lN tp)
 refine nZ ?_
 refine sc (fun hba => ?_) (fun hba => ?_)
 refine lG ?_
 exact (aI (by refine bg ?_; exact (iX (by simp only [dK]; omega)).symm) tI)
 refine rh ?_
 refine sL [0] [] (fun q : Nat × Int => q.1 ≤ x.length ∧ 0 ≤ q.2 ∧ q.2 + x.length + ((x.take q.1).map d9).sum = l) (fun q : Nat × Int => [(1, RV.int q.2), (5, RV.int (q.1 : Int))]) (fun q : Nat × Int => []) (fun q : Nat × Int => x.length - q.1) (0, l - x.length) (by exact ⟨by simp, by dsimp only; omega, by simp⟩) (by exact aI (by exact rfl) (aI (by exact rfl) tI)) (by exact tI) ?_
 rintro ⟨k, ll⟩ ⟨hk, hll, hw⟩
 dsimp only at hk hll hw
 refine cQ ?_
 refine rA ?_ (x := lN tp)
 refine rA ?_ (x := cy)
 refine sc (fun hbb => ?_) (fun hbb => ?_)
 have hlt : k < x.length := by omega
 refine n8 ?_
 refine Hm ?_
 refine rM ?_
 refine rA ?_ (x := cL [(true, [val _, val _, sl _ _, sl _ _, val _, val _, sl _ _]), (false, [val _])] [(true, [val _, val _, sl .v _, sl .v _, val _, val _, sl .v _]), (false, [val _])] Pn (hs := by exact SL (by omega) (by omega)))
 refine kG ?_
 refine sc (fun hbc => ?_) (fun hbc => ?_)
 have hlt : k < x.length := by omega
 have hneg := eZ (w := d9 x[k]) (l := ll) (by omega) hbc
 have hwk := gB (f := d9) hlt
 refine nU ?_
 exact (aI (by refine bg ?_; exact (iX (by have := pE (f := d9) x (k + 1); simp only [dK]; omega)).symm) tI)
 have hlt : k < x.length := by omega
 have hpos := d7 (w := d9 x[k]) (l := ll) hbc
 have hwk := gB (f := d9) hlt
 refine kF ?_
 refine nx (k + 1, ll - d9 x[k]) (by exact ⟨by dsimp only; omega, by dsimp only; omega, by dsimp only; have := gB (f := d9) hlt; omega⟩) (e := (by exact aI (by exact bg (ci hpos)) (aI (by exact rfl) tI)))
 refine pu ?_
 exact (aI (by refine bg ?_; (rw [ci (by have : (x.take k) = x := gt (by omega); rw [this] at hw; simp only [dK]; omega)]; have : (x.take k) = x := gt (by omega); rw [this] at hw; simp only [dK]; omega)) tI)
def SP {p1 p2 p5 p6 p7 p8 p9 p11 p12 p13 p14 p16 p17 p18 : Fl} {x : aL} {l : Int}  (h0l : 0 ≤ l) (h1l : l ≤ 1048576) : aC prog 37 [(true, [sl .v (x.Store.Wr.map (aD p1 p2)), val (vI x.Store.Now), val (vI x.Ww), sl .v (x.Order.map ak), sl .v (x.Ws.map (aO p5 p6 p7 p8 p9)), sl .v (x.Done.map (aZ p11 p12 p13 p14)), sl .v (x.WE.map (a7 p16 p17 p18)), val (vI x.Steps)]), (false, [val (vI l)])] (az [(false, [val (vI (bL l (bp x)))])]) := by
 refine sF func37 fun h0 w0 Fz0 => ?_
 refine sn 0 0 fun hl0_0 => ?_
 refine sn 0 3 fun hl0_3 => ?_
 refine sn 0 4 fun hl0_4 => ?_
 refine sn 0 5 fun hl0_5 => ?_
 refine sn 0 6 fun hl0_6 => ?_
 have hw : (bp x : Int) = (b4 x.Store : Int) + (b6 x.Order : Int) + (c6 x.Ws : Int) + (dK x.Done : Int) + (dJ x.WE : Int) := by simp [bp, a9]
 refine iT ?_
 refine jj ?_
 refine rA ?_ (x := lF JM)
 refine rA ?_ (x := lD [sl .v _, val _] JY)
 refine rM ?_
 refine rA ?_ (x := cL [(true, [sl _ _, val _]), (false, [val _])] [(true, [sl .v _, val _]), (false, [val _])] OF (hs := by exact SM (by omega) (by omega)))
 refine ib ?_
 refine sc (fun hba => ?_) (fun hba => ?_)
 have hn0 := eZ (w := b4 x.Store) (l := l) (by omega) hba
 exact gT
 have hp0 := d7 (w := b4 x.Store) (l := l) hba
 have he0 := ci hp0
 refine gU ?_
 refine rA ?_ (x := lF JN)
 refine n7 ?_
 refine sc (fun hbb => ?_) (fun hbb => ?_)
 have hn1 := eZ (w := b6 x.Order) (l := (bL l (b4 x.Store))) (by omega) hbb
 exact gT
 have hp1 := d7 (w := b6 x.Order) (l := (bL l (b4 x.Store))) hbb
 have he1 := ci hp1
 refine gU ?_
 refine rA ?_ (x := lF JO)
 refine rA ?_ (x := lD [sl .v _] JZ)
 refine rM ?_
 refine rA ?_ (x := cL [(false, [sl _ _]), (false, [val _])] [(false, [sl .v _]), (false, [val _])] OH (hs := by exact SN (by omega) (by omega)))
 refine ib ?_
 refine sc (fun hbc => ?_) (fun hbc => ?_)
 have hn2 := eZ (w := c6 x.Ws) (l := (bL (bL l (b4 x.Store)) (b6 x.Order))) (by omega) hbc
 exact gT
 have hp2 := d7 (w := c6 x.Ws) (l := (bL (bL l (b4 x.Store)) (b6 x.Order))) hbc
 have he2 := ci hp2
 refine gU ?_
 refine rA ?_ (x := lF JP)
 refine rA ?_ (x := lD [sl .v _] J0)
 refine rM ?_
 refine rA ?_ (x := cL [(false, [sl _ _]), (false, [val _])] [(false, [sl .v _]), (false, [val _])] OI (hs := by exact SO (by omega) (by omega)))
 refine ib ?_
 refine sc (fun hbd => ?_) (fun hbd => ?_)
 have hn3 := eZ (w := dK x.Done) (l := (bL (bL (bL l (b4 x.Store)) (b6 x.Order)) (c6 x.Ws))) (by omega) hbd
 exact gT
 have hp3 := d7 (w := dK x.Done) (l := (bL (bL (bL l (b4 x.Store)) (b6 x.Order)) (c6 x.Ws))) hbd
 have he3 := ci hp3
 refine gU ?_
 refine rA ?_ (x := lF JQ)
 refine rA ?_ (x := lD [sl .v _] J1)
 refine rM ?_
 refine rA ?_ (x := cL [(false, [sl _ _]), (false, [val _])] [(false, [sl .v _]), (false, [val _])] OJ (hs := by exact SD (by omega) (by omega)))
 refine ib ?_
 refine sc (fun hbe => ?_) (fun hbe => ?_)
 have hn4 := eZ (w := dJ x.WE) (l := (bL (bL (bL (bL l (b4 x.Store)) (b6 x.Order)) (c6 x.Ws)) (dK x.Done))) (by omega) hbe
 exact gT
 have hp4 := d7 (w := dJ x.WE) (l := (bL (bL (bL (bL l (b4 x.Store)) (b6 x.Order)) (c6 x.Ws)) (dK x.Done))) hbe
 have he4 := ci hp4
 refine lI ?_
 exact (aI (by refine bg ?_; (have hz := ci (l := l) (n := (bp x : Int)) (by omega); omega)) tI)
end Go.Proofs.YtmekkgdboplbjaaGreat
