/- What functions of the program compute. No condition. -/
import Derived.Test.YtmekkgdboplbjaaGreatCD0
import Derived.Test.YtmekkgdboplbjaaGreatCF0
set_option linter.all false
namespace Go.Proofs.YtmekkgdboplbjaaGreat
open Go Go.RowKit M PV Tryz
set_option maxRecDepth 10000
attribute [local irreducible] PV.Lcl PV.LclR RV.Lcl
def kt {n : Int} {l : Int} {h : Int}  : aB prog 98 [(false, [val (vI n)]), (false, [val (vI l)]), (false, [val (vI h)])] (aA [(false, [val (.bool (aW n l h))])]) := by
 refine sF func98 fun h0 w0 Fz0 => ?_
 exact Gl
def gz {n : Int} {l : Int} {h : Int}  : aB prog 65 [(false, [val (vI n)]), (false, [val (vI l)]), (false, [val (vI h)])] (aA [(false, [val (.bool (aW n l h))])]) := by
 refine sF func65 fun h0 w0 Fz0 => ?_
 exact Gl
def Df {n : Int}  : aB prog 200 [(false, [val (vI n)])] (aA [(false, [val (.bool (aW n 0 2))])]) := by
 refine sF func200 fun h0 w0 Fz0 => ?_
 refine sR ?_
 refine rK ?_
 refine sS [0, 2] [] ?_
 refine KS ?_
 exact zM
def yr {xs : List Int} {x : Int}  : aB prog 160 [(false, [sl .v (xs.map ak)]), (false, [val (vI x)])] (aA [(false, [val (.bool (ci xs x))])]) := by
 refine sF func160 fun h0 w0 Fz0 => ?_
 refine sj 0 fun hl0 => ?_
 refine mV ?_
 refine sL [0, 1] [] (fun k : Nat => k ≤ xs.length ∧ (xs.take k).any (fun y => y == x) = false) (fun k : Nat => [(5, RV.int (k : Int))]) (fun k : Nat => []) (fun k : Nat => xs.length - k) 0 (by exact ⟨by omega, by simp⟩) (by exact aI (by exact rfl) tI) (by exact tI) ?_
 rintro k ⟨hk, ha⟩
 refine jX ?_
 refine sc (fun hba => ?_) (fun hba => ?_)
 have hlt : k < xs.length := by omega
 refine oA ?_
 refine oa ?_
 refine rM ?_
 refine rA ?_ (x := eG)
 refine sc (fun hbb => ?_) (fun hbb => ?_)
 refine sS [0, 1, 5] [] ?_
 exact Gm
 refine kZ ?_
 exact Gn
 refine wZ ?_
 exact Gp
def OY {xs : List Int} {x : Int}  : aB prog 107 [(false, [sl .v (xs.map ak)]), (false, [val (vI x)])] (aA [(false, [val (.bool (ci xs x))])]) := by
 refine sF func107 fun h0 w0 Fz0 => ?_
 refine sj 0 fun hl0 => ?_
 refine px ?_
 refine uF ?_
 refine dZ ?_
 refine sP [0, 1, 4, 7, 8, 9] [] ?_
 refine sL [0, 1, 7, 8] [] (fun k : Nat => k ≤ xs.length ∧ (xs.take k).any (fun y => y == x) = false) (fun k : Nat => [(9, RV.int (k : Int))]) (fun k : Nat => []) (fun k : Nat => xs.length - k) 0 (by exact ⟨by omega, by simp⟩) (by exact aI (by exact rfl) tI) (by exact tI) ?_
 rintro k ⟨hk, ha⟩
 refine cF ?_
 refine sc (fun hba => ?_) (fun hba => ?_)
 have hlt : k < xs.length := by omega
 refine bB ?_
 refine sS [0, 1, 7, 8, 9] [] ?_
 refine oJ ?_
 refine sS [0, 1, 6, 7, 8, 9] [] ?_
 refine la ?_
 refine rA ?_ (x := eG)
 refine sc (fun hbb => ?_) (fun hbb => ?_)
 refine sS [0, 1, 6, 7, 8, 9] [] ?_
 exact Gm
 refine bm ?_
 refine sG [0, 1, 6, 7, 8, 9] [] ?_
 refine df ?_
 exact Gn
 refine bG ?_
 refine sS [0, 1, 7, 8, 9] [] ?_
 exact Gp
def oW {x : List Int}  (hb : x.length ≤ 68719476736) : aB prog 144 [(false, [sl .v (x.map ak)])] (aA [(false, [sl aa (x.map ak)])]) := by
 refine sF func144 fun h0 w0 Fz0 => ?_
 refine sj 0 fun hl0 => ?_
 refine pu ?_
 refine sS [0, 2] [] ?_
 refine LH ?_
 exact mJ
def Dg {x : Row}  : aB prog 174 [(true, [val (vI x.Id), sl .v (x.Values.map ak)])] (aA [(false, [val (.bool (dR x))])]) := by
 refine sF func174 fun h0 w0 Fz0 => ?_
 refine sn 0 1 fun hl0_1 => ?_
 refine qF ?_
 refine lU ?_
 refine rA ?_ (x := lF iw)
 refine qD ?_
 refine dZ ?_
 refine sP [1, 2, 6, 7, 8] [1] ?_
 refine sL [1, 6, 7] [1] (fun k : Nat => k ≤ x.Values.length ∧ (x.Values.take k).all ka = true) (fun k : Nat => [(8, RV.int (k : Int))]) (fun k : Nat => []) (fun k : Nat => x.Values.length - k) 0 (by exact ⟨by omega, by simp⟩) (by exact aI (by exact rfl) tI) (by exact tI) ?_
 rintro k ⟨hk, ha⟩
 refine cF ?_
 refine sc (fun hba => ?_) (fun hba => ?_)
 have hlt : k < x.Values.length := by omega
 refine bB ?_
 refine sT [1, 6, 7, 8] [1] ?_
 refine oJ ?_
 refine sS [1, 4, 6, 7, 8] [1] ?_
 refine KS ?_
 refine rA ?_ (x := nT)
 refine sc (fun hbb => ?_) (fun hbb => ?_)
 have hno : ka x.Values[k] = false := by simpa [ka] using hbb
 refine sS [1, 4, 6, 7, 8] [1] ?_
 exact Gq
 have hyes : ka x.Values[k] = true := by simpa [ka] using hbb
 refine bm ?_
 refine sG [1, 4, 6, 7, 8] [1] ?_
 exact tP
 have hall : x.Values.all ka = true := jY (by rw [show x.Values.length = k by omega]; exact ha)
 refine bG ?_
 refine sT [1, 6, 7, 8] [1] ?_
 refine rA ?_ (x := lF kk)
 refine qW ?_
 refine cx 19 (fun ga sga => ?_) (fun ga sga => ?_)
 exact Gs
 refine mL ?_
 exact zN
def Dh {x : Row}  : aB prog 166 [(true, [val (vI x.Id), sl .v (x.Values.map ak)])] (aA [(false, [val (.bool (dR x))])]) := by
 refine sF func166 fun h0 w0 Fz0 => ?_
 refine sn 0 1 fun hl0_1 => ?_
 refine qF ?_
 refine lU ?_
 refine uD ?_
 refine sL [1] [1] (fun k : Nat => k ≤ x.Values.length ∧ (x.Values.take k).all ka = true) (fun k : Nat => [(3, RV.int (k : Int))]) (fun k : Nat => []) (fun k : Nat => x.Values.length - k) 0 (by exact ⟨by omega, by simp⟩) (by exact aI (by exact rfl) tI) (by exact tI) ?_
 rintro k ⟨hk, ha⟩
 refine eH ?_
 refine rA ?_ (x := lF iw)
 refine qD ?_
 refine rA ?_ (x := cu)
 refine sc (fun hba => ?_) (fun hba => ?_)
 have hlt : k < x.Values.length := by omega
 refine bB ?_
 refine sT [1, 3] [1] ?_
 refine rA ?_ (x := lF iw)
 refine rA ?_ (x := lD [sl .v _] bv)
 refine rM ?_
 refine oa ?_
 refine KL ?_
 refine sc (fun hbb => ?_) (fun hbb => ?_)
 have hno : ka x.Values[k] = false := by simpa [ka] using hbb
 refine sS [1, 3] [1] ?_
 exact Gq
 have hyes : ka x.Values[k] = true := by simpa [ka] using hbb
 refine uE ?_
 exact ql
 have hall : x.Values.all ka = true := jY (by rw [show x.Values.length = k by omega]; exact ha)
 refine xK ?_
 refine rA ?_ (x := lF kk)
 refine tY ?_
 refine rM ?_
 refine cx 21 (fun ga sga => ?_) (fun ga sga => ?_)
 exact Gs
 refine mL ?_
 exact zN
def Zo {p1 : Fl} {x : List Row}  : aB prog 201 [(false, [sl .v (x.map (bC p1))])] (aA [(false, [val (.bool (x.all dR))])]) := by
 refine sF func201 fun h0 w0 Fz0 => ?_
 refine sj 0 fun hl0 => ?_
 refine px ?_
 refine mN ?_
 refine rA ?_ (x := lN gw)
 refine dZ ?_
 refine sP [0, 2, 5, 6, 7] [] ?_
 refine sL [0, 5, 6] [] (fun k : Nat => k ≤ x.length ∧ (x.take k).all dR = true) (fun k : Nat => [(7, RV.int (k : Int))]) (fun k : Nat => []) (fun k : Nat => x.length - k) 0 (by exact ⟨by omega, by simp⟩) (by exact aI (by exact rfl) tI) (by exact tI) ?_
 rintro k ⟨hk, ha⟩
 refine cF ?_
 refine sc (fun hba => ?_) (fun hba => ?_)
 have hlt : k < x.length := by omega
 refine bB ?_
 refine sS [0, 5, 6, 7] [] ?_
 refine wJ ?_
 refine KU ?_
 refine sT [0, 4, 5, 6, 7] [4] ?_
 refine Bd ?_
 refine rA ?_ (x := nT)
 refine sc (fun hbb => ?_) (fun hbb => ?_)
 have hno : dR x[k] = false := by simpa [] using hbb
 refine sS [0, 4, 5, 6, 7] [4] ?_
 refine cB ?_
 exact rb (by simp [id, lZ (P := dR) hlt hno])
 have hyes : dR x[k] = true := by simpa [] using hbb
 refine bm ?_
 refine sG [0, 4, 5, 6, 7] [4] ?_
 exact tP
 have hall : x.all dR = true := jY (by rw [show x.length = k by omega]; exact ha)
 refine bG ?_
 refine sS [0, 5, 6, 7] [] ?_
 refine cB ?_
 exact rb (by simp [id, hall, *])
def OZ {p1 : Fl} {x : List Row}  : aB prog 102 [(false, [sl .v (x.map (bC p1))])] (aA [(false, [val (.bool (pP x))])]) := by
 refine sF func102 fun h0 w0 Fz0 => ?_
 refine sj 0 fun hl0 => ?_
 refine sR ?_
 refine rK ?_
 refine mN ?_
 refine rA ?_ (x := lN gw)
 refine rA ?_ (x := iR)
 refine rM ?_
 refine cx 6 (fun ga sga => ?_) (fun ga sga => ?_)
 refine rB ga ?_ (x := vM false [sl .v _])
 refine rB ga ?_ (x := cL [(false, [sl _ _])] [(false, [sl .v _])] Ua (hs := by exact Zo))
 refine rA ?_ (x := aT ga)
 exact Gt
 refine mL ?_
 exact Gt
def Pa {p1 : Fl} {x : List Row}  : aB prog 68 [(false, [sl .v (x.map (bC p1))])] (aA [(false, [val (.bool (pP x))])]) := by
 refine sF func68 fun h0 w0 Fz0 => ?_
 refine sj 0 fun hl0 => ?_
 refine qR ?_
 refine sz ?_
 refine sL [0] [] (fun k : Nat => k ≤ x.length ∧ (x.take k).all dR = true) (fun k : Nat => [(3, RV.int (k : Int))]) (fun k : Nat => []) (fun k : Nat => x.length - k) 0 (by exact ⟨by omega, by simp⟩) (by exact aI (by exact rfl) tI) (by exact tI) ?_
 rintro k ⟨hk, ha⟩
 refine cP ?_
 refine xr ?_
 refine sc (fun hba => ?_) (fun hba => ?_)
 have hlt : k < x.length := by omega
 refine bB ?_
 refine sS [0, 3] [] ?_
 refine mM ?_
 refine wJ ?_
 refine rA ?_ (x := cL [(true, [val _, sl _ _])] [(true, [val _, sl .v _])] CE (hs := by exact Dh))
 refine rA ?_ (x := nT)
 refine sc (fun hbb => ?_) (fun hbb => ?_)
 have hno : dR x[k] = false := by simpa [] using hbb
 refine uK ?_
 exact rb (by simp [pP, lZ (P := dR) hlt hno])
 have hyes : dR x[k] = true := by simpa [] using hbb
 refine sB ?_
 exact ql
 have hall : x.all dR = true := jY (by rw [show x.length = k by omega]; exact ha)
 refine sC ?_
 refine BR ?_
 refine rA ?_ (x := iR)
 refine ew ?_
 exact rb (by simp [pP, hall, *])
def Zp {x : Row}  (hb : dv x ≤ 68719476736) : aB prog 270 [(true, [val (vI x.Id), sl .v (x.Values.map ak)])] (aA [(true, [val (vI x.Id), sl aa (x.Values.map ak)])]) := by
 refine sF func270 fun h0 w0 Fz0 => ?_
 refine sn 0 1 fun hl0_1 => ?_
 have hbu := hb
 simp only [dv, ek, bd] at hbu
 refine qF ?_
 refine xl ?_
 refine mQ ?_
 refine dA 0 ?_ (x := lF kk)
 refine dA 1 ?_ (x := lD [val _] au)
 refine dA 0 ?_ (x := lF iw)
 refine Lr ?_
 refine dA 31 ?_ (x := fB (qs := [(false, [val _]), (false, [sl _ _])]) (cs := [val _, sl _ _]) (by decide) ja mp NC (by exact rfl) (by exact (aI (by exact tI) (aI (by exact tI) tI))) rfl (by exact rfl))
 exact Gu
def Pb {x : Row}  (hb : dv x ≤ 68719476736) : aB prog 92 [(true, [val (vI x.Id), sl .v (x.Values.map ak)])] (aA [(true, [val (vI x.Id), sl aa (x.Values.map ak)])]) := by
 refine sF func92 fun h0 w0 Fz0 => ?_
 refine sn 0 1 fun hl0_1 => ?_
 have hbu := hb
 simp only [dv, ek, bd] at hbu
 refine qF ?_
 refine xl ?_
 refine mQ ?_
 refine dA 0 ?_ (x := lF kk)
 refine dA 1 ?_ (x := lD [val _] au)
 refine dA 0 ?_ (x := cj (qs := []) (by decide) bF eP (by decide) rfl rfl rfl rfl rfl (by exact nl rfl) (by exact tI) rfl)
 refine dA 0 ?_ (x := lF iw)
 refine dA 8 ?_ (x := lD [sl .v _] bv)
 refine dA 28 ?_ (x := iN (by decide) bF eP rfl rfl (by decide) (by first | (intro cs hcs; obtain ⟨x, _, rfl⟩ := List.mem_map.1 hcs; exact rfl) | simp) (by first | (intro cs hcs; obtain ⟨x, _, rfl⟩ := List.mem_map.1 hcs; exact (an.cons (bor_val _) an.nil)) | simp) (by simp only [aq, aV, List.length_cons, List.length_nil]; omega) (by simp only [aq, aV, List.length_cons, List.length_nil]; omega))
 refine dA 63 ?_ (x := fB (qs := [(false, [val _]), (false, [sl _ _])]) (cs := [val _, sl _ _]) (by decide) ja mp NC (by exact rfl) (by exact (aI (by exact tI) (aI (by exact tI) tI))) rfl (by exact rfl))
 refine dA 127 ?_ (x := bg (ag := true) (vs := [val _, sl _ _]) fI (by exact tI) (by exact rfl) (by exact nl rfl))
 exact zJ
def Pc {p1 : Fl} {x : List Row}  (hb : dH x ≤ 68719476736) : aB prog 227 [(false, [sl .v (x.map (bC p1))])] (aA [(false, [sl az (x.map (bC aa))])]) := by
 refine sF func227 fun h0 w0 Fz0 => ?_
 refine sj 0 fun hl0 => ?_
 have hbu := hb
 simp only [dH] at hbu
 refine Bx ?_
 refine sS [0, 2] [] ?_
 refine Bb ?_
 refine aP ?_
 refine sS [0, 2, 3] [] ?_
 refine BR ?_
 refine dZ ?_
 refine sP [0, 2, 3, 7, 8, 9] [] ?_
 refine sL [0, 2, 7, 8] [] (fun k : Nat => k ≤ x.length) (fun k : Nat => [(3, RV.slc az ((x.take k).map (bC aa))), (9, RV.int (k : Int))]) (fun k : Nat => []) (fun k : Nat => x.length - k) 0 (by omega) (by exact aI (by first | exact rfl | simp) (aI (by exact rfl) tI)) (by exact tI) ?_
 rintro k hk
 refine cF ?_
 refine sc (fun hba => ?_) (fun hba => ?_)
 have hlt : k < x.length := by omega
 have hwm := cT (f := dv) hlt
 have htl : (x.take k).length = k := by rw [br]; omega
 refine bB ?_
 refine sS [0, 2, 3, 7, 8, 9] [] ?_
 refine wJ ?_
 refine KU ?_
 refine sH [0, 2, 3, 5, 7, 8, 9] [5] ?_
 refine rA ?_ (x := tM)
 refine rA ?_ (x := lD [val _, sl .v _] fI)
 refine rA ?_ (x := cL [(true, [val _, sl _ _])] [(true, [val _, sl .v _])] UI (hs := by exact Zp (by omega)))
 refine wt ?_
 refine rA ?_ (x := tA)
 refine sG [0, 2, 3, 5, 7, 8, 9] [5] ?_
 refine df ?_
 exact Gv
 have hend : k = x.length := by omega
 refine bG ?_
 refine sS [0, 2, 3, 7, 8, 9] [] ?_
 exact tQ
def Zq {p1 : Fl} {x : List Row}  (hb : dH x ≤ 68719476736) : aB prog 157 [(false, [sl .v (x.map (bC p1))])] (aA [(false, [sl az (x.map (bC aa))])]) := by
 refine sF func157 fun h0 w0 Fz0 => ?_
 refine sj 0 fun hl0 => ?_
 have hbu := hb
 simp only [dH] at hbu
 refine Bx ?_
 refine sS [0, 2] [] ?_
 refine Bb ?_
 refine aP ?_
 refine xP ?_
 refine sL [0, 2] [] (fun k : Nat => k ≤ x.length) (fun k : Nat => [(3, RV.slc az ((x.take k).map (bC aa))), (4, RV.int (k : Int))]) (fun k : Nat => []) (fun k : Nat => x.length - k) 0 (by omega) (by exact aI (by first | exact rfl | simp) (aI (by exact rfl) tI)) (by exact tI) ?_
 rintro k hk
 refine cP ?_
 refine xr ?_
 refine sc (fun hba => ?_) (fun hba => ?_)
 have hlt : k < x.length := by omega
 have hwm := cT (f := dv) hlt
 have htl : (x.take k).length = k := by rw [br]; omega
 refine bB ?_
 refine sG [0, 2, 3, 4] [] ?_
 refine rA ?_ (x := tM)
 refine mM ?_
 refine wJ ?_
 refine rA ?_ (x := cL [(true, [val _, sl _ _])] [(true, [val _, sl .v _])] Ng (hs := by exact Pb (by omega)))
 refine wt ?_
 refine rA ?_ (x := tA)
 refine sG [0, 2, 3, 4] [] ?_
 exact zO
 exact zQ
end Go.Proofs.YtmekkgdboplbjaaGreat
