/- What functions of the program compute. No condition. -/
import Derived.Test.YtmekkgdboplbjaaGreatCD0
import Derived.Test.YtmekkgdboplbjaaGreatCF0
set_option linter.all false
namespace Go.Proofs.YtmekkgdboplbjaaGreat
open Go Go.RowKit M PV Tryz
set_option maxRecDepth 10000
attribute [local irreducible] PV.Lcl PV.LclR RV.Lcl
def jC {n : Int} {l : Int} {h : Int}  : aC prog 98 [(false, [val (vI n)]), (false, [val (vI l)]), (false, [val (vI h)])] (az [(false, [val (.bool (aV n l h))])]) := by
 refine sF func98 fun h0 w0 Fz0 => ?_
 exact DD
def fJ {n : Int} {l : Int} {h : Int}  : aC prog 65 [(false, [val (vI n)]), (false, [val (vI l)]), (false, [val (vI h)])] (az [(false, [val (.bool (aV n l h))])]) := by
 refine sF func65 fun h0 w0 Fz0 => ?_
 exact DD
def Bd {n : Int}  : aC prog 200 [(false, [val (vI n)])] (az [(false, [val (.bool (aV n 0 2))])]) := by
 refine sF func200 fun h0 w0 Fz0 => ?_
 refine sR ?_
 refine rK ?_
 refine sS [0, 2] [] ?_
 refine HN ?_
 exact xU
def wC {xs : List Int} {x : Int}  : aC prog 160 [(false, [sl .v (xs.map ak)]), (false, [val (vI x)])] (az [(false, [val (.bool (b8 xs x))])]) := by
 refine sF func160 fun h0 w0 Fz0 => ?_
 refine sj 0 fun hl0 => ?_
 refine lK ?_
 refine sL [0, 1] [] (fun k : Nat => k ≤ xs.length ∧ (xs.take k).any (fun y => y == x) = false) (fun k : Nat => [(5, RV.int (k : Int))]) (fun k : Nat => []) (fun k : Nat => xs.length - k) 0 (by exact ⟨by omega, by simp⟩) (by exact aI (by exact rfl) tI) (by exact tI) ?_
 rintro k ⟨hk, ha⟩
 refine jl ?_
 refine sc (fun hba => ?_) (fun hba => ?_)
 have hlt : k < xs.length := by omega
 refine n8 ?_
 refine mq ?_
 refine rM ?_
 refine rA ?_ (x := d4)
 refine sc (fun hbb => ?_) (fun hbb => ?_)
 refine sS [0, 1, 5] [] ?_
 exact DE
 refine kF ?_
 exact DF
 refine ve ?_
 exact DG
def K6 {xs : List Int} {x : Int}  : aC prog 107 [(false, [sl .v (xs.map ak)]), (false, [val (vI x)])] (az [(false, [val (.bool (b8 xs x))])]) := by
 refine sF func107 fun h0 w0 Fz0 => ?_
 refine sj 0 fun hl0 => ?_
 refine ta ?_
 refine iV ?_
 refine dI ?_
 refine sP [0, 1, 4, 7, 8, 9] [] ?_
 refine sL [0, 1, 7, 8] [] (fun k : Nat => k ≤ xs.length ∧ (xs.take k).any (fun y => y == x) = false) (fun k : Nat => [(9, RV.int (k : Int))]) (fun k : Nat => []) (fun k : Nat => xs.length - k) 0 (by exact ⟨by omega, by simp⟩) (by exact aI (by exact rfl) tI) (by exact tI) ?_
 rintro k ⟨hk, ha⟩
 refine ct ?_
 refine sc (fun hba => ?_) (fun hba => ?_)
 have hlt : k < xs.length := by omega
 refine bB ?_
 refine sS [0, 1, 7, 8, 9] [] ?_
 refine mI ?_
 refine sS [0, 1, 6, 7, 8, 9] [] ?_
 refine j8 ?_
 refine rA ?_ (x := d4)
 refine sc (fun hbb => ?_) (fun hbb => ?_)
 refine sS [0, 1, 6, 7, 8, 9] [] ?_
 exact DE
 refine bl ?_
 refine sG [0, 1, 6, 7, 8, 9] [] ?_
 refine c0 ?_
 exact DF
 refine bF ?_
 refine sS [0, 1, 7, 8, 9] [] ?_
 exact DG
def m8 {x : List Int}  (hb : x.length ≤ 68719476736) : aC prog 144 [(false, [sl .v (x.map ak)])] (az [(false, [sl aa (x.map ak)])]) := by
 refine sF func144 fun h0 w0 Fz0 => ?_
 refine sj 0 fun hl0 => ?_
 refine nJ ?_
 refine sS [0, 2] [] ?_
 refine In ?_
 exact ml
def Be {x : Row}  : aC prog 174 [(true, [val (vI x.Id), sl .v (x.Values.map ak)])] (az [(false, [val (.bool (dt x))])]) := by
 refine sF func174 fun h0 w0 Fz0 => ?_
 refine sn 0 1 fun hl0_1 => ?_
 refine pc ?_
 refine kD ?_
 refine rA ?_ (x := lF gY)
 refine pb ?_
 refine dI ?_
 refine sP [1, 2, 6, 7, 8] [1] ?_
 refine sL [1, 6, 7] [1] (fun k : Nat => k ≤ x.Values.length ∧ (x.Values.take k).all jn = true) (fun k : Nat => [(8, RV.int (k : Int))]) (fun k : Nat => []) (fun k : Nat => x.Values.length - k) 0 (by exact ⟨by omega, by simp⟩) (by exact aI (by exact rfl) tI) (by exact tI) ?_
 rintro k ⟨hk, ha⟩
 refine ct ?_
 refine sc (fun hba => ?_) (fun hba => ?_)
 have hlt : k < x.Values.length := by omega
 refine bB ?_
 refine sT [1, 6, 7, 8] [1] ?_
 refine mI ?_
 refine sS [1, 4, 6, 7, 8] [1] ?_
 refine HN ?_
 refine rA ?_ (x := nT)
 refine sc (fun hbb => ?_) (fun hbb => ?_)
 have hno : jn x.Values[k] = false := by simpa [jn] using hbb
 refine sS [1, 4, 6, 7, 8] [1] ?_
 exact DH
 have hyes : jn x.Values[k] = true := by simpa [jn] using hbb
 refine bl ?_
 refine sG [1, 4, 6, 7, 8] [1] ?_
 exact sa
 have hall : x.Values.all jn = true := jm (by rw [show x.Values.length = k by omega]; exact ha)
 refine bF ?_
 refine sT [1, 6, 7, 8] [1] ?_
 refine rA ?_ (x := lF jw)
 refine pA ?_
 refine cx 19 (fun ga sga => ?_) (fun ga sga => ?_)
 exact DJ
 refine lu ?_
 exact xV
def Bf {x : Row}  : aC prog 166 [(true, [val (vI x.Id), sl .v (x.Values.map ak)])] (az [(false, [val (.bool (dt x))])]) := by
 refine sF func166 fun h0 w0 Fz0 => ?_
 refine sn 0 1 fun hl0_1 => ?_
 refine pc ?_
 refine kD ?_
 refine s8 ?_
 refine sL [1] [1] (fun k : Nat => k ≤ x.Values.length ∧ (x.Values.take k).all jn = true) (fun k : Nat => [(3, RV.int (k : Int))]) (fun k : Nat => []) (fun k : Nat => x.Values.length - k) 0 (by exact ⟨by omega, by simp⟩) (by exact aI (by exact rfl) tI) (by exact tI) ?_
 rintro k ⟨hk, ha⟩
 refine d6 ?_
 refine rA ?_ (x := lF gY)
 refine pb ?_
 refine rA ?_ (x := cy)
 refine sc (fun hba => ?_) (fun hba => ?_)
 have hlt : k < x.Values.length := by omega
 refine bB ?_
 refine sT [1, 3] [1] ?_
 refine rA ?_ (x := lF gY)
 refine rA ?_ (x := lD [sl .v _] bq)
 refine rM ?_
 refine mq ?_
 refine HG ?_
 refine sc (fun hbb => ?_) (fun hbb => ?_)
 have hno : jn x.Values[k] = false := by simpa [jn] using hbb
 refine sS [1, 3] [1] ?_
 exact DH
 have hyes : jn x.Values[k] = true := by simpa [jn] using hbb
 refine s9 ?_
 exact oN
 have hall : x.Values.all jn = true := jm (by rw [show x.Values.length = k by omega]; exact ha)
 refine vS ?_
 refine rA ?_ (x := lF jw)
 refine sk ?_
 refine rM ?_
 refine cx 21 (fun ga sga => ?_) (fun ga sga => ?_)
 exact DJ
 refine lu ?_
 exact xV
def TK {p1 : Fl} {x : List Row}  : aC prog 201 [(false, [sl .v (x.map (bu p1))])] (az [(false, [val (.bool (x.all dt))])]) := by
 refine sF func201 fun h0 w0 Fz0 => ?_
 refine sj 0 fun hl0 => ?_
 refine sR ?_
 refine dz ?_
 refine mz ?_
 refine rA ?_ (x := lN fG)
 refine dI ?_
 refine sP [0, 2, 5, 6, 7] [] ?_
 refine sL [0, 5, 6] [] (fun k : Nat => k ≤ x.length ∧ (x.take k).all dt = true) (fun k : Nat => [(7, RV.int (k : Int))]) (fun k : Nat => []) (fun k : Nat => x.length - k) 0 (by exact ⟨by omega, by simp⟩) (by exact aI (by exact rfl) tI) (by exact tI) ?_
 rintro k ⟨hk, ha⟩
 refine ct ?_
 refine sc (fun hba => ?_) (fun hba => ?_)
 have hlt : k < x.length := by omega
 refine bB ?_
 refine sS [0, 5, 6, 7] [] ?_
 refine uR ?_
 refine HP ?_
 refine sT [0, 4, 5, 6, 7] [4] ?_
 refine y9 ?_
 refine rA ?_ (x := nT)
 refine sc (fun hbb => ?_) (fun hbb => ?_)
 have hno : dt x[k] = false := by simpa [] using hbb
 refine sS [0, 4, 5, 6, 7] [4] ?_
 refine cm ?_
 exact rb (by simp [id, kI (P := dt) hlt hno])
 have hyes : dt x[k] = true := by simpa [] using hbb
 refine bl ?_
 refine sG [0, 4, 5, 6, 7] [4] ?_
 exact sa
 have hall : x.all dt = true := jm (by rw [show x.length = k by omega]; exact ha)
 refine bF ?_
 refine sS [0, 5, 6, 7] [] ?_
 refine cm ?_
 exact rb (by simp [id, hall, *])
def K7 {p1 : Fl} {x : List Row}  : aC prog 102 [(false, [sl .v (x.map (bu p1))])] (az [(false, [val (.bool (oj x))])]) := by
 refine sF func102 fun h0 w0 Fz0 => ?_
 refine sj 0 fun hl0 => ?_
 refine sR ?_
 refine rK ?_
 refine mz ?_
 refine rA ?_ (x := lN fG)
 refine rA ?_ (x := ir)
 refine rM ?_
 refine cx 6 (fun ga sga => ?_) (fun ga sga => ?_)
 refine rB ga ?_ (x := vM false [sl .v _])
 refine rB ga ?_ (x := cL [(false, [sl _ _])] [(false, [sl .v _])] Pi (hs := by exact TK))
 refine rA ?_ (x := aR ga)
 exact DK
 refine lu ?_
 exact DK
def K8 {p1 : Fl} {x : List Row}  : aC prog 68 [(false, [sl .v (x.map (bu p1))])] (az [(false, [val (.bool (oj x))])]) := by
 refine sF func68 fun h0 w0 Fz0 => ?_
 refine sj 0 fun hl0 => ?_
 refine pq ?_
 refine qV ?_
 refine sL [0] [] (fun k : Nat => k ≤ x.length ∧ (x.take k).all dt = true) (fun k : Nat => [(3, RV.int (k : Int))]) (fun k : Nat => []) (fun k : Nat => x.length - k) 0 (by exact ⟨by omega, by simp⟩) (by exact aI (by exact rfl) tI) (by exact tI) ?_
 rintro k ⟨hk, ha⟩
 refine cQ ?_
 refine vt ?_
 refine sc (fun hba => ?_) (fun hba => ?_)
 have hlt : k < x.length := by omega
 refine bB ?_
 refine sS [0, 3] [] ?_
 refine lv ?_
 refine uR ?_
 refine rA ?_ (x := cL [(true, [val _, sl _ _])] [(true, [val _, sl .v _])] AC (hs := by exact Bf))
 refine rA ?_ (x := nT)
 refine sc (fun hbb => ?_) (fun hbb => ?_)
 have hno : dt x[k] = false := by simpa [] using hbb
 refine tf ?_
 exact rb (by simp [oj, kI (P := dt) hlt hno])
 have hyes : dt x[k] = true := by simpa [] using hbb
 refine qW ?_
 exact oN
 have hall : x.all dt = true := jm (by rw [show x.length = k by omega]; exact ha)
 refine qX ?_
 refine zU ?_
 refine rA ?_ (x := ir)
 refine d5 ?_
 exact rb (by simp [oj, hall, *])
def TL {x : Row}  (hb : de x ≤ 68719476736) : aC prog 270 [(true, [val (vI x.Id), sl .v (x.Values.map ak)])] (az [(true, [val (vI x.Id), sl aa (x.Values.map ak)])]) := by
 refine sF func270 fun h0 w0 Fz0 => ?_
 refine sn 0 1 fun hl0_1 => ?_
 have hbu := hb
 simp only [de, dM, a9] at hbu
 refine pc ?_
 refine vl ?_
 refine lC ?_
 refine dA 0 ?_ (x := lF jw)
 refine dA 1 ?_ (x := lD [val _] au)
 refine dA 0 ?_ (x := lF gY)
 refine Ie ?_
 refine dA 31 ?_ (x := eV (qs := [(false, [val _]), (false, [sl _ _])]) (cs := [val _, sl _ _]) (by decide) iB kV JW (by exact rfl) (by exact (aI (by exact tI) (aI (by exact tI) tI))) rfl (by exact rfl))
 exact DL
def K9 {x : Row}  (hb : de x ≤ 68719476736) : aC prog 92 [(true, [val (vI x.Id), sl .v (x.Values.map ak)])] (az [(true, [val (vI x.Id), sl aa (x.Values.map ak)])]) := by
 refine sF func92 fun h0 w0 Fz0 => ?_
 refine sn 0 1 fun hl0_1 => ?_
 have hbu := hb
 simp only [de, dM, a9] at hbu
 refine pc ?_
 refine vl ?_
 refine lC ?_
 refine dA 0 ?_ (x := lF jw)
 refine dA 1 ?_ (x := lD [val _] au)
 refine dA 0 ?_ (x := b9 (qs := []) (by decide) bC ej (by decide) rfl rfl rfl rfl rfl (by exact nl rfl) (by exact tI) rfl)
 refine dA 0 ?_ (x := lF gY)
 refine dA 8 ?_ (x := lD [sl .v _] bq)
 refine dA 28 ?_ (x := il (by decide) bC ej rfl rfl (by decide) (by first | (intro cs hcs; obtain ⟨x, _, rfl⟩ := List.mem_map.1 hcs; exact rfl) | simp) (by first | (intro cs hcs; obtain ⟨x, _, rfl⟩ := List.mem_map.1 hcs; exact (ao.cons (bor_val _) ao.nil)) | simp) (by simp only [ar, aU, List.length_cons, List.length_nil]; omega) (by simp only [ar, aU, List.length_cons, List.length_nil]; omega))
 refine dA 63 ?_ (x := eV (qs := [(false, [val _]), (false, [sl _ _])]) (cs := [val _, sl _ _]) (by decide) iB kV JW (by exact rfl) (by exact (aI (by exact tI) (aI (by exact tI) tI))) rfl (by exact rfl))
 refine dA 127 ?_ (x := bd (ag := true) (vs := [val _, sl _ _]) eS (by exact tI) (by exact rfl) (by exact nl rfl))
 exact xR
def La {p1 : Fl} {x : List Row}  (hb : dl x ≤ 68719476736) : aC prog 227 [(false, [sl .v (x.map (bu p1))])] (az [(false, [sl aB (x.map (bu aa))])]) := by
 refine sF func227 fun h0 w0 Fz0 => ?_
 refine sj 0 fun hl0 => ?_
 have hbu := hb
 simp only [dl] at hbu
 refine zz ?_
 refine sS [0, 2] [] ?_
 refine y7 ?_
 refine aP ?_
 refine sS [0, 2, 3] [] ?_
 refine zU ?_
 refine dI ?_
 refine sP [0, 2, 3, 7, 8, 9] [] ?_
 refine sL [0, 2, 7, 8] [] (fun k : Nat => k ≤ x.length) (fun k : Nat => [(3, RV.slc aB ((x.take k).map (bu aa))), (9, RV.int (k : Int))]) (fun k : Nat => []) (fun k : Nat => x.length - k) 0 (by omega) (by exact aI (by first | exact rfl | simp) (aI (by exact rfl) tI)) (by exact tI) ?_
 rintro k hk
 refine ct ?_
 refine sc (fun hba => ?_) (fun hba => ?_)
 have hlt : k < x.length := by omega
 have hwm := cR (f := de) hlt
 have htl : (x.take k).length = k := by rw [bv]; omega
 refine bB ?_
 refine sS [0, 2, 3, 7, 8, 9] [] ?_
 refine uR ?_
 refine HP ?_
 refine sH [0, 2, 3, 5, 7, 8, 9] [5] ?_
 refine rA ?_ (x := tM)
 refine rA ?_ (x := lD [val _, sl .v _] eS)
 refine rA ?_ (x := cL [(true, [val _, sl _ _])] [(true, [val _, sl .v _])] PS (hs := by exact TL (by omega)))
 refine uD ?_
 refine rA ?_ (x := tA)
 refine sG [0, 2, 3, 5, 7, 8, 9] [5] ?_
 refine c0 ?_
 exact DM
 have hend : k = x.length := by omega
 refine bF ?_
 refine sS [0, 2, 3, 7, 8, 9] [] ?_
 exact sb
def TM {p1 : Fl} {x : List Row}  (hb : dl x ≤ 68719476736) : aC prog 157 [(false, [sl .v (x.map (bu p1))])] (az [(false, [sl aB (x.map (bu aa))])]) := by
 refine sF func157 fun h0 w0 Fz0 => ?_
 refine sj 0 fun hl0 => ?_
 have hbu := hb
 simp only [dl] at hbu
 refine zz ?_
 refine sS [0, 2] [] ?_
 refine y7 ?_
 refine aP ?_
 refine vX ?_
 refine sL [0, 2] [] (fun k : Nat => k ≤ x.length) (fun k : Nat => [(3, RV.slc aB ((x.take k).map (bu aa))), (4, RV.int (k : Int))]) (fun k : Nat => []) (fun k : Nat => x.length - k) 0 (by omega) (by exact aI (by first | exact rfl | simp) (aI (by exact rfl) tI)) (by exact tI) ?_
 rintro k hk
 refine cQ ?_
 refine vt ?_
 refine sc (fun hba => ?_) (fun hba => ?_)
 have hlt : k < x.length := by omega
 have hwm := cR (f := de) hlt
 have htl : (x.take k).length = k := by rw [bv]; omega
 refine bB ?_
 refine sG [0, 2, 3, 4] [] ?_
 refine rA ?_ (x := tM)
 refine lv ?_
 refine uR ?_
 refine rA ?_ (x := cL [(true, [val _, sl _ _])] [(true, [val _, sl .v _])] JB (hs := by exact K9 (by omega)))
 refine uD ?_
 refine rA ?_ (x := tA)
 refine sG [0, 2, 3, 4] [] ?_
 exact xW
 exact xX
end Go.Proofs.YtmekkgdboplbjaaGreat
