/- What functions of the program compute. No condition. -/
import Derived.Test.YtmekkgdboplbjaaGreatCD0
import Derived.Test.YtmekkgdboplbjaaGreatCF0
set_option linter.all false
namespace Go.Proofs.YtmekkgdboplbjaaGreat
open Go Go.RowKit M PV Tryz
set_option maxRecDepth 10000
attribute [local irreducible] PV.Lcl PV.LclR RV.Lcl
def kT {n : Int} {l : Int} {h : Int}  : aN prog 98 [(false, [val (vI n)]), (false, [val (vI l)]), (false, [val (vI h)])] (aJ [(false, [val (.bool (aK n l h))])]) := by
 refine sF func98 fun h0 w0 Fz0 => ?_
 exact ID
def gl {n : Int} {l : Int} {h : Int}  : aN prog 65 [(false, [val (vI n)]), (false, [val (vI l)]), (false, [val (vI h)])] (aJ [(false, [val (.bool (aK n l h))])]) := by
 refine sF func65 fun h0 w0 Fz0 => ?_
 exact ID
def Fj {n : Int}  : aN prog 200 [(false, [val (vI n)])] (aJ [(false, [val (.bool (aK n 0 2))])]) := by
 refine sF func200 fun h0 w0 Fz0 => ?_
 refine wi ?_
 refine CU ?_
 exact BL
def Ak {xs : List Int} {x : Int}  : aN prog 160 [(false, [sl .v (xs.map am)]), (false, [val (vI x)])] (aJ [(false, [val (.bool (bB xs x))])]) := by
 refine sF func160 fun h0 w0 Fz0 => ?_
 refine sj 0 fun hl0 => ?_
 refine ow ?_
 refine zj ?_
 refine sL [0, 1] [] (fun k : Nat => k ≤ xs.length ∧ (xs.take k).any (fun y => y == x) = false) (fun k : Nat => [(5, RV.int (k : Int))]) (fun k : Nat => []) (fun k : Nat => xs.length - k) 0 (by exact ⟨by omega, by simp⟩) (by exact aI (by exact rfl) tI) (by exact tI) ?_
 rintro k ⟨hk, ha⟩
 refine jR ?_
 refine sc ?_ ?_ <;> intro hba
 have hlt : k < xs.length := by omega
 refine bi ?_
 refine sS [0, 1, 5] [] ?_
 refine jp ?_
 refine pk ?_
 refine to ?_
 refine sc ?_ ?_ <;> intro hbb
 refine sS [0, 1, 5] [] ?_
 exact IE
 refine tD ?_
 exact IF
 refine vW ?_
 exact IG
def RP {xs : List Int} {x : Int}  : aN prog 107 [(false, [sl .v (xs.map am)]), (false, [val (vI x)])] (aJ [(false, [val (.bool (bB xs x))])]) := by
 refine sF func107 fun h0 w0 Fz0 => ?_
 refine sj 0 fun hl0 => ?_
 refine ow ?_
 refine gS ?_
 refine eo ?_
 refine sP [0, 1, 4, 7, 8, 9] [] ?_
 refine sL [0, 1, 7, 8] [] (fun k : Nat => k ≤ xs.length ∧ (xs.take k).any (fun y => y == x) = false) (fun k : Nat => [(9, RV.int (k : Int))]) (fun k : Nat => []) (fun k : Nat => xs.length - k) 0 (by exact ⟨by omega, by simp⟩) (by exact aI (by exact rfl) tI) (by exact tI) ?_
 rintro k ⟨hk, ha⟩
 refine cn ?_
 refine sc ?_ ?_ <;> intro hba
 have hlt : k < xs.length := by omega
 refine bi ?_
 refine sS [0, 1, 7, 8, 9] [] ?_
 refine mF ?_
 refine sS [0, 1, 6, 7, 8, 9] [] ?_
 refine jS ?_
 refine rA ?_ (x := dQ)
 refine sc ?_ ?_ <;> intro hbb
 refine sS [0, 1, 6, 7, 8, 9] [] ?_
 exact IE
 refine bb ?_
 refine sG [0, 1, 6, 7, 8, 9] [] ?_
 refine cF ?_
 exact IF
 refine bq ?_
 refine sS [0, 1, 7, 8, 9] [] ?_
 exact IG
def oV {x : List Int}  (hb : x.length ≤ 68719476736) : aN prog 144 [(false, [sl .v (x.map am)])] (aJ [(false, [sl ab (x.map am)])]) := by
 refine sF func144 fun h0 w0 Fz0 => ?_
 refine sj 0 fun hl0 => ?_
 refine qC ?_
 refine sS [0, 2] [] ?_
 refine Pd ?_
 refine rA ?_ (x := tA)
 exact xN
def Fk {x : Row}  : aN prog 174 [(true, [val (vI x.Id), sl .v (x.Values.map am)])] (aJ [(false, [val (.bool (cf x))])]) := by
 refine sF func174 fun h0 w0 Fz0 => ?_
 refine sn 0 1 fun hl0_1 => ?_
 refine vj ?_
 refine lj ?_
 refine rA ?_ (x := lF jv)
 refine qU ?_
 refine sP [1, 2, 6, 7, 8] [1] ?_
 refine sL [1, 6, 7] [1] (fun k : Nat => k ≤ x.Values.length ∧ (x.Values.take k).all jU = true) (fun k : Nat => [(8, RV.int (k : Int))]) (fun k : Nat => []) (fun k : Nat => x.Values.length - k) 0 (by exact ⟨by omega, by simp⟩) (by exact aI (by exact rfl) tI) (by exact tI) ?_
 rintro k ⟨hk, ha⟩
 refine cn ?_
 refine sc ?_ ?_ <;> intro hba
 have hlt : k < x.Values.length := by omega
 refine bi ?_
 refine sT [1, 6, 7, 8] [1] ?_
 refine mF ?_
 refine sS [1, 4, 6, 7, 8] [1] ?_
 refine CU ?_
 refine rA ?_ (x := nT)
 refine sc ?_ ?_ <;> intro hbb
 have hno : jU x.Values[k] = false := by simpa [jU] using hbb
 refine sS [1, 4, 6, 7, 8] [1] ?_
 exact IH
 have hyes : jU x.Values[k] = true := by simpa [jU] using hbb
 refine bb ?_
 refine sG [1, 4, 6, 7, 8] [1] ?_
 exact uQ
 have hall : x.Values.all jU = true := jr (by rw [show x.Values.length = k by omega]; exact ha)
 refine bq ?_
 refine sT [1, 6, 7, 8] [1] ?_
 refine rA ?_ (x := lF jZ)
 refine qX ?_
 refine cx 19 (fun ga sga => ?_) (fun ga sga => ?_)
 exact IJ
 refine mz ?_
 exact BM
def wG {x : Row}  : aN prog 166 [(true, [val (vI x.Id), sl .v (x.Values.map am)])] (aJ [(false, [val (.bool (cf x))])]) := by
 refine sF func166 fun h0 w0 Fz0 => ?_
 refine sn 0 1 fun hl0_1 => ?_
 refine vj ?_
 refine lj ?_
 refine vZ ?_
 refine sL [1] [1] (fun k : Nat => k ≤ x.Values.length ∧ (x.Values.take k).all jU = true) (fun k : Nat => [(3, RV.int (k : Int))]) (fun k : Nat => []) (fun k : Nat => x.Values.length - k) 0 (by exact ⟨by omega, by simp⟩) (by exact aI (by exact rfl) tI) (by exact tI) ?_
 rintro k ⟨hk, ha⟩
 refine de ?_
 refine rA ?_ (x := lF jv)
 refine oh ?_
 refine rA ?_ (x := dq)
 refine sc ?_ ?_ <;> intro hba
 have hlt : k < x.Values.length := by omega
 refine bi ?_
 refine sT [1, 3] [1] ?_
 refine DM ?_
 refine rM ?_
 refine pk ?_
 refine Ow ?_
 refine sc ?_ ?_ <;> intro hbb
 have hno : jU x.Values[k] = false := by simpa [jU] using hbb
 refine sS [1, 3] [1] ?_
 exact IH
 have hyes : jU x.Values[k] = true := by simpa [jU] using hbb
 refine wa ?_
 exact pj
 have hall : x.Values.all jU = true := jr (by rw [show x.Values.length = k by omega]; exact ha)
 refine zo ?_
 refine rA ?_ (x := lF jZ)
 refine vd ?_
 refine rM ?_
 refine cx 21 (fun ga sga => ?_) (fun ga sga => ?_)
 exact IJ
 refine mz ?_
 exact BM
def ZM {p1 : Fl} {x : List Row}  : aN prog 201 [(false, [sl .v (x.map (bI p1))])] (aJ [(false, [val (.bool (x.all cf))])]) := by
 refine sF func201 fun h0 w0 Fz0 => ?_
 refine sj 0 fun hl0 => ?_
 refine sZ ?_
 refine oi ?_
 refine eo ?_
 refine sP [0, 2, 5, 6, 7] [] ?_
 refine sL [0, 5, 6] [] (fun k : Nat => k ≤ x.length ∧ (x.take k).all cf = true) (fun k : Nat => [(7, RV.int (k : Int))]) (fun k : Nat => []) (fun k : Nat => x.length - k) 0 (by exact ⟨by omega, by simp⟩) (by exact aI (by exact rfl) tI) (by exact tI) ?_
 rintro k ⟨hk, ha⟩
 refine cn ?_
 refine sc ?_ ?_ <;> intro hba
 have hlt : k < x.length := by omega
 refine bi ?_
 refine sS [0, 5, 6, 7] [] ?_
 refine vb ?_
 refine CV ?_
 refine sT [0, 4, 5, 6, 7] [4] ?_
 refine Dc ?_
 refine rA ?_ (x := nT)
 refine sc ?_ ?_ <;> intro hbb
 have hno : cf x[k] = false := by simpa [] using hbb
 refine sS [0, 4, 5, 6, 7] [4] ?_
 refine cm ?_
 exact rb (by simp [id, kE (P := cf) hlt hno])
 have hyes : cf x[k] = true := by simpa [] using hbb
 refine bb ?_
 refine sG [0, 4, 5, 6, 7] [4] ?_
 exact uQ
 have hall : x.all cf = true := jr (by rw [show x.length = k by omega]; exact ha)
 refine bq ?_
 refine sS [0, 5, 6, 7] [] ?_
 refine cm ?_
 exact rb (by simp [id, hall, *])
def RQ {p1 : Fl} {x : List Row}  : aN prog 102 [(false, [sl .v (x.map (bI p1))])] (aJ [(false, [val (.bool (mG x))])]) := by
 refine sF func102 fun h0 w0 Fz0 => ?_
 refine sj 0 fun hl0 => ?_
 refine wi ?_
 refine oi ?_
 refine rA ?_ (x := ix)
 refine rM ?_
 refine cx 6 (fun ga sga => ?_) (fun ga sga => ?_)
 refine rB ga ?_ (x := vM false [sl .v _])
 refine rB ga ?_ (x := cL [(false, [sl _ _])] [(false, [sl .v _])] WD (hs := by exact ZM))
 refine rA ?_ (x := aO ga)
 exact IK
 refine mz ?_
 exact IK
def RR {p1 : Fl} {x : List Row}  : aN prog 68 [(false, [sl .v (x.map (bI p1))])] (aJ [(false, [val (.bool (mG x))])]) := by
 refine sF func68 fun h0 w0 Fz0 => ?_
 refine sj 0 fun hl0 => ?_
 refine tE ?_
 refine sL [0] [] (fun k : Nat => k ≤ x.length ∧ (x.take k).all cf = true) (fun k : Nat => [(3, RV.int (k : Int))]) (fun k : Nat => []) (fun k : Nat => x.length - k) 0 (by exact ⟨by omega, by simp⟩) (by exact aI (by exact rfl) tI) (by exact tI) ?_
 rintro k ⟨hk, ha⟩
 refine qV ?_
 refine sc ?_ ?_ <;> intro hba
 have hlt : k < x.length := by omega
 refine bi ?_
 refine sS [0, 3] [] ?_
 refine jp ?_
 refine vb ?_
 refine rA ?_ (x := cL [(true, [val _, sl _ _])] [(true, [val _, sl .v _])] wu (hs := by exact wG))
 refine rA ?_ (x := nT)
 refine sc ?_ ?_ <;> intro hbb
 have hno : cf x[k] = false := by simpa [] using hbb
 refine tq ?_
 exact rb (by simp [mG, kE (P := cf) hlt hno])
 have hyes : cf x[k] = true := by simpa [] using hbb
 refine qP ?_
 exact pj
 have hall : x.all cf = true := jr (by rw [show x.length = k by omega]; exact ha)
 refine qQ ?_
 refine oi ?_
 refine rA ?_ (x := ix)
 refine db ?_
 exact rb (by simp [mG, hall, *])
def ZN {x : Row}  (hb : fJ x ≤ 68719476736) : aN prog 270 [(true, [val (vI x.Id), sl .v (x.Values.map am)])] (aJ [(true, [val (vI x.Id), sl ab (x.Values.map am)])]) := by
 refine sF func270 fun h0 w0 Fz0 => ?_
 refine sn 0 1 fun hl0_1 => ?_
 have hbu := hb
 simp only [fJ, dE, bf] at hbu
 refine vj ?_
 refine yM ?_
 refine yD ?_
 refine dA 0 ?_ (x := lF jZ)
 refine dA 1 ?_ (x := lD [val _] az)
 refine dA 0 ?_ (x := lF jv)
 refine OV ?_
 refine dA 31 ?_ (x := dp (qs := [(false, [val _]), (false, [sl _ _])]) (cs := [val _, sl _ _]) (by decide) gJ mb Qq (by exact rfl) (by exact (aI (by exact tI) (aI (by exact tI) tI))) rfl (by exact rfl))
 exact IM
def Fm {x : Row}  (hb : fJ x ≤ 68719476736) : aN prog 92 [(true, [val (vI x.Id), sl .v (x.Values.map am)])] (aJ [(true, [val (vI x.Id), sl ab (x.Values.map am)])]) := by
 refine sF func92 fun h0 w0 Fz0 => ?_
 refine sn 0 1 fun hl0_1 => ?_
 have hbu := hb
 simp only [fJ, dE, bf] at hbu
 refine vj ?_
 refine yM ?_
 refine yD ?_
 refine dA 0 ?_ (x := lF jZ)
 refine dA 1 ?_ (x := lD [val _] az)
 refine dA 0 ?_ (x := bP (qs := []) (by decide) bC eg (by decide) rfl rfl rfl rfl rfl (by exact nl rfl) (by exact tI) rfl)
 refine dA 0 ?_ (x := lF jv)
 refine dA 8 ?_ (x := lD [sl .v _] bF)
 refine dA 28 ?_ (x := it (by decide) bC eg rfl rfl (by decide) (by first | (intro cs hcs; obtain ⟨x, _, rfl⟩ := List.mem_map.1 hcs; exact rfl) | simp) (by first | (intro cs hcs; obtain ⟨x, _, rfl⟩ := List.mem_map.1 hcs; exact (aj.cons (bor_val _) aj.nil)) | simp) (by simp only [aw, aM, List.length_cons, List.length_nil]; omega) (by simp only [aw, aM, List.length_cons, List.length_nil]; omega))
 refine dA 63 ?_ (x := dp (qs := [(false, [val _]), (false, [sl _ _])]) (cs := [val _, sl _ _]) (by decide) gJ mb Qq (by exact rfl) (by exact (aI (by exact tI) (aI (by exact tI) tI))) rfl (by exact rfl))
 refine dA 127 ?_ (x := bh (ag := true) (vs := [val _, sl _ _]) fj (by exact tI) (by exact rfl) (by exact nl rfl))
 exact IL
def RS {p1 : Fl} {x : List Row}  (hb : dj x ≤ 68719476736) : aN prog 227 [(false, [sl .v (x.map (bI p1))])] (aJ [(false, [sl aE (x.map (bI ab))])]) := by
 refine sF func227 fun h0 w0 Fz0 => ?_
 refine sj 0 fun hl0 => ?_
 have hbu := hb
 simp only [dj] at hbu
 refine vt ?_
 refine sS [0, 2] [] ?_
 refine tw ?_
 refine sS [0, 2, 3] [] ?_
 refine oi ?_
 refine eo ?_
 refine sP [0, 2, 3, 7, 8, 9] [] ?_
 refine sL [0, 2, 7, 8] [] (fun k : Nat => k ≤ x.length) (fun k : Nat => [(3, RV.slc aE ((x.take k).map (bI ab))), (9, RV.int (k : Int))]) (fun k : Nat => []) (fun k : Nat => x.length - k) 0 (by omega) (by exact aI (by first | exact rfl | simp) (aI (by exact rfl) tI)) (by exact tI) ?_
 rintro k hk
 refine cn ?_
 refine sc ?_ ?_ <;> intro hba
 have hlt : k < x.length := by omega
 have hwm := di (f := fJ) hlt
 have htl : (x.take k).length = k := by rw [bv]; omega
 refine bi ?_
 refine sS [0, 2, 3, 7, 8, 9] [] ?_
 refine vb ?_
 refine CV ?_
 refine sH [0, 2, 3, 5, 7, 8, 9] [5] ?_
 refine rA ?_ (x := tM)
 refine rA ?_ (x := lD [val _, sl .v _] fj)
 refine rA ?_ (x := cL [(true, [val _, sl _ _])] [(true, [val _, sl .v _])] WH (hs := by exact ZN (by omega)))
 refine tt ?_
 refine sG [0, 2, 3, 5, 7, 8, 9] [5] ?_
 refine cF ?_
 exact IN
 have hend : k = x.length := by omega
 refine bq ?_
 refine sS [0, 2, 3, 7, 8, 9] [] ?_
 exact uR
def ZO {p1 : Fl} {x : List Row}  (hb : dj x ≤ 68719476736) : aN prog 157 [(false, [sl .v (x.map (bI p1))])] (aJ [(false, [sl aE (x.map (bI ab))])]) := by
 refine sF func157 fun h0 w0 Fz0 => ?_
 refine sj 0 fun hl0 => ?_
 have hbu := hb
 simp only [dj] at hbu
 refine vt ?_
 refine sS [0, 2] [] ?_
 refine tw ?_
 refine tg ?_
 refine sL [0, 2] [] (fun k : Nat => k ≤ x.length) (fun k : Nat => [(3, RV.slc aE ((x.take k).map (bI ab))), (4, RV.int (k : Int))]) (fun k : Nat => []) (fun k : Nat => x.length - k) 0 (by omega) (by exact aI (by first | exact rfl | simp) (aI (by exact rfl) tI)) (by exact tI) ?_
 rintro k hk
 refine qV ?_
 refine sc ?_ ?_ <;> intro hba
 have hlt : k < x.length := by omega
 have hwm := di (f := fJ) hlt
 have htl : (x.take k).length = k := by rw [bv]; omega
 refine bi ?_
 refine sG [0, 2, 3, 4] [] ?_
 refine qS ?_
 refine Pz ?_
 refine tt ?_
 refine sG [0, 2, 3, 4] [] ?_
 exact BN
 exact BP
end Go.Proofs.YtmekkgdboplbjaaGreat
