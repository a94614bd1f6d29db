/- What functions of the program compute. No condition. -/
import Derived.Test.YtmekkgdboplbjaaGreatDoorCD0
import Derived.Test.YtmekkgdboplbjaaGreatDoorCF0
set_option linter.all false
namespace Go.Proofs.YtmekkgdboplbjaaGreatDoor
open Go Go.RowKit M PV Tryz
set_option maxRecDepth 10000
attribute [local irreducible] PV.Lcl PV.LclR RV.Lcl
def kb {n : Int} {l : Int} {h : Int}  : aN prog 74 [(false, [val (vI n)]), (false, [val (vI l)]), (false, [val (vI h)])] (aF [(false, [val (.bool (aB n l h))])]) := by
 refine sF func74 fun h0 w0 Fz0 => ?_
 exact Eu
def fV {n : Int} {l : Int} {h : Int}  : aN prog 75 [(false, [val (vI n)]), (false, [val (vI l)]), (false, [val (vI h)])] (aF [(false, [val (.bool (aB n l h))])]) := by
 refine sF func75 fun h0 w0 Fz0 => ?_
 exact Eu
def Lx {n : Int}  : aN prog 176 [(false, [val (vI n)])] (aF [(false, [val (.bool (aB n 0 2))])]) := by
 refine sF func176 fun h0 w0 Fz0 => ?_
 refine jK ?_
 refine sS [0, 2] [] ?_
 refine rM ?_
 refine rA ?_ (x := cL [(false, [val _]), (false, [val _]), (false, [val _])] [(false, [val _]), (false, [val _]), (false, [val _])] jN (hs := by exact kb))
 exact yK
def xq {xs : List Int} {x : Int}  : aN prog 230 [(false, [sl .v (xs.map an)]), (false, [val (vI x)])] (aF [(false, [val (.bool (bP xs x))])]) := by
 refine sF func230 fun h0 w0 Fz0 => ?_
 refine sj 0 fun hl0 => ?_
 refine wF ?_
 refine wx ?_
 refine sL [0, 1] [] (fun k : Nat => k ≤ xs.length ∧ (xs.take k).any (fun y => y == x) = false) (fun k : Nat => [(5, RV.int (k : Int))]) (fun k : Nat => []) (fun k : Nat => xs.length - k) 0 (by exact ⟨by omega, by simp⟩) (by exact aI (by exact rfl) tI) (by exact tI) ?_
 rintro k ⟨hk, ha⟩
 refine kw ?_
 refine sc (fun hba => ?_) (fun hba => ?_)
 have hlt : k < xs.length := by omega
 refine bw ?_
 refine sS [0, 1, 5] [] ?_
 refine qb ?_
 refine pZ ?_
 refine sc (fun hbb => ?_) (fun hbb => ?_)
 refine sS [0, 1, 5] [] ?_
 exact Ev
 refine wy ?_
 refine ca ?_
 exact Ew
 refine wz ?_
 exact Ex
def Uc {xs : List Int} {x : Int}  : aN prog 227 [(false, [sl .v (xs.map an)]), (false, [val (vI x)])] (aF [(false, [val (.bool (bP xs x))])]) := by
 refine sF func227 fun h0 w0 Fz0 => ?_
 refine sj 0 fun hl0 => ?_
 refine wF ?_
 refine jH ?_
 refine eK ?_
 refine sP [0, 1, 4, 7, 8, 9] [] ?_
 refine sL [0, 1, 7, 8] [] (fun k : Nat => k ≤ xs.length ∧ (xs.take k).any (fun y => y == x) = false) (fun k : Nat => [(9, RV.int (k : Int))]) (fun k : Nat => []) (fun k : Nat => xs.length - k) 0 (by exact ⟨by omega, by simp⟩) (by exact aI (by exact rfl) tI) (by exact tI) ?_
 rintro k ⟨hk, ha⟩
 refine eL ?_
 refine sc (fun hba => ?_) (fun hba => ?_)
 have hlt : k < xs.length := by omega
 refine bw ?_
 refine sS [0, 1, 7, 8, 9] [] ?_
 refine nF ?_
 refine sS [0, 1, 6, 7, 8, 9] [] ?_
 refine rM ?_
 refine pZ ?_
 refine sc (fun hbb => ?_) (fun hbb => ?_)
 refine sS [0, 1, 6, 7, 8, 9] [] ?_
 exact Ev
 refine bc ?_
 refine sG [0, 1, 6, 7, 8, 9] [] ?_
 refine fc ?_
 exact Ew
 refine bE ?_
 refine sS [0, 1, 7, 8, 9] [] ?_
 exact Ex
def Ud {x : List Int}  (hb : x.length ≤ 68719476736) : aN prog 172 [(false, [sl .v (x.map an)])] (aF [(false, [sl ae (x.map an)])]) := by
 refine sF func172 fun h0 w0 Fz0 => ?_
 refine sj 0 fun hl0 => ?_
 refine pO ?_
 refine sS [0, 2] [] ?_
 refine Jl ?_
 exact yL
def BE {x : Row}  : aN prog 170 [(true, [val (vI x.Id), sl .v (x.Values.map an)])] (aF [(false, [val (.bool (bp x))])]) := by
 refine sF func170 fun h0 w0 Fz0 => ?_
 refine sn 0 1 fun hl0_1 => ?_
 refine tg ?_
 refine iY ?_
 refine rA ?_ (x := lF ia)
 refine kZ ?_
 refine eK ?_
 refine sP [1, 2, 6, 7, 8] [1] ?_
 refine sL [1, 6, 7] [1] (fun k : Nat => k ≤ x.Values.length ∧ (x.Values.take k).all iy = true) (fun k : Nat => [(8, RV.int (k : Int))]) (fun k : Nat => []) (fun k : Nat => x.Values.length - k) 0 (by exact ⟨by omega, by simp⟩) (by exact aI (by exact rfl) tI) (by exact tI) ?_
 rintro k ⟨hk, ha⟩
 refine eL ?_
 refine sc (fun hba => ?_) (fun hba => ?_)
 have hlt : k < x.Values.length := by omega
 refine bw ?_
 refine sT [1, 6, 7, 8] [1] ?_
 refine nF ?_
 refine sS [1, 4, 6, 7, 8] [1] ?_
 refine rM ?_
 refine vK ?_
 refine sc (fun hbb => ?_) (fun hbb => ?_)
 have hno : iy x.Values[k] = false := by simpa [iy] using hbb
 refine sS [1, 4, 6, 7, 8] [1] ?_
 exact Ey
 have hyes : iy x.Values[k] = true := by simpa [iy] using hbb
 refine bc ?_
 refine sG [1, 4, 6, 7, 8] [1] ?_
 exact vg
 have hall : x.Values.all iy = true := ky (by rw [show x.Values.length = k by omega]; exact ha)
 refine bE ?_
 refine sT [1, 6, 7, 8] [1] ?_
 refine rA ?_ (x := lF jO)
 refine Ix ?_
 refine rM ?_
 refine cx 19 (fun ga sga => ?_) (fun ga sga => ?_)
 exact EA
 refine pN ?_
 exact yM
def uk {x : Row}  : aN prog 98 [(true, [val (vI x.Id), sl .v (x.Values.map an)])] (aF [(false, [val (.bool (bp x))])]) := by
 refine sF func98 fun h0 w0 Fz0 => ?_
 refine sn 0 1 fun hl0_1 => ?_
 refine tg ?_
 refine iY ?_
 refine tF ?_
 refine sL [1] [1] (fun k : Nat => k ≤ x.Values.length ∧ (x.Values.take k).all iy = true) (fun k : Nat => [(3, RV.int (k : Int))]) (fun k : Nat => []) (fun k : Nat => x.Values.length - k) 0 (by exact ⟨by omega, by simp⟩) (by exact aI (by exact rfl) tI) (by exact tI) ?_
 rintro k ⟨hk, ha⟩
 refine cI ?_
 refine rA ?_ (x := lF ia)
 refine kZ ?_
 refine rA ?_ (x := dZ)
 refine sc (fun hba => ?_) (fun hba => ?_)
 have hlt : k < x.Values.length := by omega
 refine bw ?_
 refine sT [1, 3] [1] ?_
 refine rA ?_ (x := lF ia)
 refine wm ?_
 refine vt ?_
 refine IG ?_
 refine sc (fun hbb => ?_) (fun hbb => ?_)
 have hno : iy x.Values[k] = false := by simpa [iy] using hbb
 refine sS [1, 3] [1] ?_
 exact Ey
 have hyes : iy x.Values[k] = true := by simpa [iy] using hbb
 refine tG ?_
 exact pI
 have hall : x.Values.all iy = true := ky (by rw [show x.Values.length = k by omega]; exact ha)
 refine wC ?_
 refine rA ?_ (x := lF jO)
 refine sY ?_
 refine rM ?_
 refine cx 21 (fun ga sga => ?_) (fun ga sga => ?_)
 exact EA
 refine pN ?_
 exact yM
def Ue {p1 : Fl} {x : List Row}  : aN prog 177 [(false, [sl .v (x.map (dt p1))])] (aF [(false, [val (.bool (x.all bp))])]) := by
 refine sF func177 fun h0 w0 Fz0 => ?_
 refine sj 0 fun hl0 => ?_
 refine lM ?_
 refine pS ?_
 refine rA ?_ (x := lN fQ)
 refine eK ?_
 refine sP [0, 2, 5, 6, 7] [] ?_
 refine sL [0, 5, 6] [] (fun k : Nat => k ≤ x.length ∧ (x.take k).all bp = true) (fun k : Nat => [(7, RV.int (k : Int))]) (fun k : Nat => []) (fun k : Nat => x.length - k) 0 (by exact ⟨by omega, by simp⟩) (by exact aI (by exact rfl) tI) (by exact tI) ?_
 rintro k ⟨hk, ha⟩
 refine eL ?_
 refine sc (fun hba => ?_) (fun hba => ?_)
 have hlt : k < x.length := by omega
 refine bw ?_
 refine sS [0, 5, 6, 7] [] ?_
 refine vQ ?_
 refine vO ?_
 refine sT [0, 4, 5, 6, 7] [4] ?_
 refine Jb ?_
 refine rA ?_ (x := nT)
 refine sc (fun hbb => ?_) (fun hbb => ?_)
 have hno : bp x[k] = false := by simpa [] using hbb
 refine sS [0, 4, 5, 6, 7] [4] ?_
 refine cC ?_
 exact rb (by simp [id, lP (P := bp) hlt hno])
 have hyes : bp x[k] = true := by simpa [] using hbb
 refine bc ?_
 refine sG [0, 4, 5, 6, 7] [4] ?_
 exact vg
 have hall : x.all bp = true := ky (by rw [show x.length = k by omega]; exact ha)
 refine bE ?_
 refine sS [0, 5, 6, 7] [] ?_
 refine cC ?_
 exact rb (by simp [id, hall, *])
def BF {p1 : Fl} {x : List Row}  : aN prog 87 [(false, [sl .v (x.map (dt p1))])] (aF [(false, [val (.bool (fg x))])]) := by
 refine sF func87 fun h0 w0 Fz0 => ?_
 refine sj 0 fun hl0 => ?_
 refine jK ?_
 refine pS ?_
 refine Au ?_
 refine rM ?_
 refine cx 6 (fun ga sga => ?_) (fun ga sga => ?_)
 refine rB ga ?_ (x := vM false [sl .v _])
 refine rB ga ?_ (x := cL [(false, [sl _ _])] [(false, [sl .v _])] Qd (hs := by exact Ue))
 refine rA ?_ (x := aK ga)
 exact EB
 refine pN ?_
 exact EB
def BG {p1 : Fl} {x : List Row}  : aN prog 91 [(false, [sl .v (x.map (dt p1))])] (aF [(false, [val (.bool (fg x))])]) := by
 refine sF func91 fun h0 w0 Fz0 => ?_
 refine sj 0 fun hl0 => ?_
 refine rr ?_
 refine sL [0] [] (fun k : Nat => k ≤ x.length ∧ (x.take k).all bp = true) (fun k : Nat => [(3, RV.int (k : Int))]) (fun k : Nat => []) (fun k : Nat => x.length - k) 0 (by exact ⟨by omega, by simp⟩) (by exact aI (by exact rfl) tI) (by exact tI) ?_
 rintro k ⟨hk, ha⟩
 refine iv ?_
 refine tt ?_
 refine sc (fun hba => ?_) (fun hba => ?_)
 have hlt : k < x.length := by omega
 refine bw ?_
 refine sS [0, 3] [] ?_
 refine jI ?_
 refine vQ ?_
 refine rA ?_ (x := cL [(true, [val _, sl _ _])] [(true, [val _, sl .v _])] tS (hs := by exact uk))
 refine rA ?_ (x := nT)
 refine sc (fun hbb => ?_) (fun hbb => ?_)
 have hno : bp x[k] = false := by simpa [] using hbb
 refine rn ?_
 exact rb (by simp [fg, lP (P := bp) hlt hno])
 have hyes : bp x[k] = true := by simpa [] using hbb
 refine pY ?_
 exact pI
 have hall : x.all bp = true := ky (by rw [show x.length = k by omega]; exact ha)
 refine Ay ?_
 refine Au ?_
 refine df ?_
 exact rb (by simp [fg, hall, *])
def Ly {x : Row}  (hb : iZ x ≤ 68719476736) : aN prog 102 [(true, [val (vI x.Id), sl .v (x.Values.map an)])] (aF [(true, [val (vI x.Id), sl ae (x.Values.map an)])]) := by
 refine sF func102 fun h0 w0 Fz0 => ?_
 refine sn 0 1 fun hl0_1 => ?_
 have hbu := hb
 simp only [iZ, dP, bh] at hbu
 refine tg ?_
 refine wa ?_
 refine tv ?_
 refine dA 0 ?_ (x := lF jO)
 refine dA 1 ?_ (x := lD [val _] aw)
 refine dA 0 ?_ (x := bm (qs := []) (by decide) aW bX (by decide) rfl rfl rfl rfl rfl (by exact nl rfl) (by exact tI) rfl)
 refine dA 0 ?_ (x := lF ia)
 refine dA 8 ?_ (x := lD [sl .v _] bz)
 refine dA 28 ?_ (x := iW (by decide) aW bX rfl rfl (by decide) (by first | (intro cs hcs; obtain ⟨x, _, rfl⟩ := List.mem_map.1 hcs; exact rfl) | simp) (by first | (intro cs hcs; obtain ⟨x, _, rfl⟩ := List.mem_map.1 hcs; exact (ab.cons (bor_val _) ab.nil)) | simp) (by simp only [am, aD, List.length_cons, List.length_nil]; omega) (by simp only [am, aD, List.length_cons, List.length_nil]; omega))
 refine dA 63 ?_ (x := dM (qs := [(false, [val _]), (false, [sl _ _])]) (cs := [val _, sl _ _]) (by decide) iC mG Qi (by exact rfl) (by exact (aI (by exact tI) (aI (by exact tI) tI))) rfl (by exact rfl))
 refine dA 127 ?_ (x := bf (ag := true) (vs := [val _, sl _ _]) gB (by exact tI) (by exact rfl) (by exact nl rfl))
 exact EC
def Uf {p1 : Fl} {x : List Row}  (hb : gm x ≤ 68719476736) : aN prog 287 [(false, [sl .v (x.map (dt p1))])] (aF [(false, [sl aR (x.map (dt ae))])]) := by
 refine sF func287 fun h0 w0 Fz0 => ?_
 refine sj 0 fun hl0 => ?_
 have hbu := hb
 simp only [gm] at hbu
 refine zT ?_
 refine sS [0, 2] [] ?_
 refine rA ?_ (x := bm (qs := []) (by decide) fQ iC (by decide) rfl rfl rfl rfl rfl (by exact nl rfl) (by exact tI) rfl)
 refine jJ ?_
 refine oI ?_
 refine sL [0, 2] [] (fun k : Nat => k ≤ x.length) (fun k : Nat => [(3, RV.slc aR ((x.take k).map (dt ae))), (4, RV.int (k : Int))]) (fun k : Nat => []) (fun k : Nat => x.length - k) 0 (by omega) (by exact aI (by first | exact rfl | simp) (aI (by exact rfl) tI)) (by exact tI) ?_
 rintro k hk
 refine iv ?_
 refine tt ?_
 refine sc (fun hba => ?_) (fun hba => ?_)
 have hlt : k < x.length := by omega
 have hwm := fe (f := iZ) hlt
 have htl : (x.take k).length = k := by rw [bg]; omega
 refine tz ?_
 refine rA ?_ (x := tM)
 refine jI ?_
 refine vQ ?_
 refine rA ?_ (x := cL [(true, [val _, sl _ _])] [(true, [val _, sl .v _])] JR (hs := by exact Ly (by omega)))
 refine zr ?_
 refine rA ?_ (x := tA)
 refine sG [0, 2, 3, 4] [] ?_
 exact yN
 exact yO
end Go.Proofs.YtmekkgdboplbjaaGreatDoor
