/- What functions of the program compute. No condition. -/
import Derived.Test.YtmekkgdboplbjaaCZMFnIsolation
import Derived.Test.YtmekkgdboplbjaaCFcFnIsolation
import Derived.Test.YtmekkgdboplbjaaCDb
import Derived.KernelRfl
set_option linter.unusedVariables false
set_option linter.unusedSimpArgs false
namespace Go.Proofs.Ytmekkgdboplbjaa
open Go Go.RowKit M PV
set_option maxRecDepth 10000
attribute [local irreducible] PV.Lcl PV.LclR RV.Lcl
theorem impl_within {n : Int} {l : Int} {h : Int}  : SCall Try.prog 20 [(false, [val (vI n)]), (false, [val (vI l)]), (false, [val (vI h)])] (resRV [(false, [val (.bool (inB n l h))])]) := by
 refine sF Try.func20 fun h0 w0 Fz0 => ?_
 exact za0
theorem spec_l1In {n : Int} {l : Int} {h : Int}  : SCall Try.prog 66 [(false, [val (vI n)]), (false, [val (vI l)]), (false, [val (vI h)])] (resRV [(false, [val (.bool (inB n l h))])]) := by
 refine sF Try.func66 fun h0 w0 Fz0 => ?_
 exact za0
theorem impl_isField {n : Int}  : SCall Try.prog 52 [(false, [val (vI n)])] (resRV [(false, [val (.bool (inB n 0 2))])]) := by
 refine sF Try.func52 fun h0 w0 Fz0 => ?_
 refine sR ?_
 refine rK ?_
 refine sS [0, 2] [] ?_
 refine rM ?_
 refine rA ?_ (x := cL [(false, [val _]), (false, [val _]), (false, [val _])] [(false, [val _]), (false, [val _]), (false, [val _])] c_20 (hs := by exact impl_within))
 exact za1
theorem impl_hasInt {xs : List Int} {x : Int}  : SCall Try.prog 54 [(false, [sl .v (xs.map cInt)]), (false, [val (vI x)])] (resRV [(false, [val (.bool (hasI xs x))])]) := by
 refine sF Try.func54 fun h0 w0 Fz0 => ?_
 refine sj 0 fun hl0 => ?_
 refine za2 ?_
 refine za3 ?_
 refine za4 ?_
 refine sP [0, 1, 4, 7, 8, 9] [] ?_
 refine sL [0, 1, 7, 8] [] (fun k : Nat => k ≤ xs.length ∧ (xs.take k).any (fun y => y == x) = false) (fun k : Nat => [(9, RV.int (k : Int))]) (fun k : Nat => []) (fun k : Nat => xs.length - k) 0 (by exact ⟨by omega, by simp⟩) (by exact aI (by exact rfl) (tI)) (by exact ⟨⟩) ?_
 rintro k ⟨hk, ha⟩
 refine za5 ?_
 refine sc (fun hba => ?_) (fun hba => ?_)
 have hlt : k < xs.length := by omega
 refine za6 ?_
 refine sS [0, 1, 7, 8, 9] [] ?_
 refine za7 ?_
 refine sS [0, 1, 6, 7, 8, 9] [] ?_
 refine za8 ?_
 refine rA ?_ (x := B_eql)
 refine sc (fun hbb => ?_) (fun hbb => ?_)
 refine sS [0, 1, 6, 7, 8, 9] [] ?_
 refine za9 ?_
 exact rb ((any_yes (P := fun y => y == x) hlt (by simpa using ‹_ = x›)).symm)
 refine sw_skip ?_
 refine sG [0, 1, 6, 7, 8, 9] [] ?_
 refine zaa ?_
 refine nx (k + 1) (by exact ⟨by omega, any_succ ha ‹_› (by simpa using ‹¬ _›)⟩)
 refine sw_exit ?_
 refine sS [0, 1, 7, 8, 9] [] ?_
 refine za9 ?_
 exact rb (by exact (any_end (by rw [show xs.length = k by omega]; exact ha)).symm)
theorem impl_copyInts {x : List Int}  (hb : x.length ≤ 68719476736) : SCall Try.prog 43 [(false, [sl .v (x.map cInt)])] (resRV [(false, [sl (.own 3 1) (x.map cInt)])]) := by
 refine sF Try.func43 fun h0 w0 Fz0 => ?_
 refine sj 0 fun hl0 => ?_
 refine zab ?_
 refine sS [0, 2] [] ?_
 refine zac ?_
 refine rA ?_ (x := tA)
 exact zad
theorem impl_IsRow {x : Row}  : SCall Try.prog 57 [(true, [val (vI x.Id), sl .v (x.Values.map cInt)])] (resRV [(false, [val (.bool (okRow x))])]) := by
 refine sF Try.func57 fun h0 w0 Fz0 => ?_
 refine sn 0 1 fun hl0_1 => ?_
 refine zae ?_
 refine zaf ?_
 refine rA ?_ (x := lF fd_45_1)
 refine zag ?_
 refine za4 ?_
 refine sP [1, 2, 6, 7, 8] [1] ?_
 refine sL [1, 6, 7] [1] (fun k : Nat => k ≤ x.Values.length ∧ (x.Values.take k).all okVal = true) (fun k : Nat => [(8, RV.int (k : Int))]) (fun k : Nat => []) (fun k : Nat => x.Values.length - k) 0 (by exact ⟨by omega, by simp⟩) (by exact aI (by exact rfl) (tI)) (by exact ⟨⟩) ?_
 rintro k ⟨hk, ha⟩
 refine za5 ?_
 refine sc (fun hba => ?_) (fun hba => ?_)
 have hlt : k < x.Values.length := by omega
 refine za6 ?_
 refine sT [1, 6, 7, 8] [1] ?_
 refine za7 ?_
 refine sS [1, 4, 6, 7, 8] [1] ?_
 refine rM ?_
 refine zah ?_
 refine sc (fun hbb => ?_) (fun hbb => ?_)
 have hno : okVal x.Values[k] = false := by simpa [okVal] using hbb
 refine sS [1, 4, 6, 7, 8] [1] ?_
 exact zai
 have hyes : okVal x.Values[k] = true := by simpa [okVal] using hbb
 refine sw_skip ?_
 refine sG [1, 4, 6, 7, 8] [1] ?_
 exact zaj
 have hall : x.Values.all okVal = true := all_end (by rw [show x.Values.length = k by omega]; exact ha)
 refine sw_exit ?_
 refine sT [1, 6, 7, 8] [1] ?_
 refine rA ?_ (x := lF fd_45_0)
 refine zak ?_
 refine cx 19 (fun ga sga => ?_) (fun ga sga => ?_)
 exact zal
 refine zam ?_
 exact zan
theorem spec_IsRow {x : Row}  : SCall Try.prog 90 [(true, [val (vI x.Id), sl .v (x.Values.map cInt)])] (resRV [(false, [val (.bool (okRow x))])]) := by
 refine sF Try.func90 fun h0 w0 Fz0 => ?_
 refine sn 0 1 fun hl0_1 => ?_
 refine zae ?_
 refine zaf ?_
 refine zao ?_
 refine sP [1, 2, 3] [1] ?_
 refine sL [1] [1] (fun k : Nat => k ≤ x.Values.length ∧ (x.Values.take k).all okVal = true) (fun k : Nat => [(3, RV.int (k : Int))]) (fun k : Nat => []) (fun k : Nat => x.Values.length - k) 0 (by exact ⟨by omega, by simp⟩) (by exact aI (by exact rfl) (tI)) (by exact ⟨⟩) ?_
 rintro k ⟨hk, ha⟩
 refine zap ?_
 refine rA ?_ (x := lF fd_45_1)
 refine zag ?_
 refine rA ?_ (x := B_lss)
 refine sc (fun hba => ?_) (fun hba => ?_)
 have hlt : k < x.Values.length := by omega
 refine za6 ?_
 refine sT [1, 3] [1] ?_
 refine rA ?_ (x := lF fd_45_1)
 refine rA ?_ (x := lD [sl .v _] ty_27)
 refine rM ?_
 refine zaq ?_
 refine rA ?_ (x := cL [(false, [val _]), (false, [val _]), (false, [val _])] [(false, [val _]), (false, [val _]), (false, [val _])] c_66 (hs := by exact spec_l1In))
 refine rA ?_ (x := nT)
 refine sc (fun hbb => ?_) (fun hbb => ?_)
 have hno : okVal x.Values[k] = false := by simpa [okVal] using hbb
 refine sS [1, 3] [1] ?_
 exact zai
 have hyes : okVal x.Values[k] = true := by simpa [okVal] using hbb
 exact zar
 have hall : x.Values.all okVal = true := all_end (by rw [show x.Values.length = k by omega]; exact ha)
 refine sw_exit ?_
 refine sT [1, 3] [1] ?_
 refine zas ?_
 refine rM ?_
 refine cx 21 (fun ga sga => ?_) (fun ga sga => ?_)
 exact zal
 refine zam ?_
 exact zan
theorem impl_allRows {p1 : Fl} {x : List Row}  : SCall Try.prog 81 [(false, [sl .v (x.map (cRow p1))])] (resRV [(false, [val (.bool (x.all okRow))])]) := by
 refine sF Try.func81 fun h0 w0 Fz0 => ?_
 refine sj 0 fun hl0 => ?_
 refine zat ?_
 refine zau ?_
 refine za4 ?_
 refine sP [0, 2, 5, 6, 7] [] ?_
 refine sL [0, 5, 6] [] (fun k : Nat => k ≤ x.length ∧ (x.take k).all okRow = true) (fun k : Nat => [(7, RV.int (k : Int))]) (fun k : Nat => []) (fun k : Nat => x.length - k) 0 (by exact ⟨by omega, by simp⟩) (by exact aI (by exact rfl) (tI)) (by exact ⟨⟩) ?_
 rintro k ⟨hk, ha⟩
 refine za5 ?_
 refine sc (fun hba => ?_) (fun hba => ?_)
 have hlt : k < x.length := by omega
 refine za6 ?_
 refine sS [0, 5, 6, 7] [] ?_
 refine zav ?_
 refine zaw ?_
 refine sT [0, 4, 5, 6, 7] [4] ?_
 refine zax ?_
 refine rA ?_ (x := nT)
 refine sc (fun hbb => ?_) (fun hbb => ?_)
 have hno : okRow x[k] = false := by simpa [] using hbb
 refine sS [0, 4, 5, 6, 7] [4] ?_
 refine za9 ?_
 exact rb (by simp [id, all_no (P := okRow) hlt hno])
 have hyes : okRow x[k] = true := by simpa [] using hbb
 refine sw_skip ?_
 refine sG [0, 4, 5, 6, 7] [4] ?_
 exact zaj
 have hall : x.all okRow = true := all_end (by rw [show x.length = k by omega]; exact ha)
 refine sw_exit ?_
 refine sS [0, 5, 6, 7] [] ?_
 refine za9 ?_
 exact rb (by simp [id, hall, *])
theorem impl_resultOk {p1 : Fl} {x : List Row}  : SCall Try.prog 49 [(false, [sl .v (x.map (cRow p1))])] (resRV [(false, [val (.bool (okRows x))])]) := by
 refine sF Try.func49 fun h0 w0 Fz0 => ?_
 refine sj 0 fun hl0 => ?_
 refine sR ?_
 refine rK ?_
 refine sS [0, 2] [] ?_
 refine zau ?_
 refine rA ?_ (x := B_leq)
 refine rM ?_
 refine cx 6 (fun ga sga => ?_) (fun ga sga => ?_)
 refine rB ga ?_ (x := vM false [sl .v _])
 refine rB ga ?_ (x := cL [(false, [sl _ _])] [(false, [sl .v _])] c_81 (hs := by exact impl_allRows))
 refine rA ?_ (x := pkT ga)
 exact zay
 refine zam ?_
 exact zay
theorem impl_copyRow {x : Row}  (hb : wtRow x ≤ 68719476736) : SCall Try.prog 89 [(true, [val (vI x.Id), sl .v (x.Values.map cInt)])] (resRV [(true, [val (vI x.Id), sl (.own 3 1) (x.Values.map cInt)])]) := by
 refine sF Try.func89 fun h0 w0 Fz0 => ?_
 refine sn 0 1 fun hl0_1 => ?_
 have hbu := hb
 simp only [wtRow, wtIntS_len, wtInt] at hbu
 refine zae ?_
 refine zaz ?_
 refine zb0 ?_
 refine dA 0 ?_ (x := lF fd_45_0)
 refine dA 1 ?_ (x := lD [val _] ty_3)
 refine dA 0 ?_ (x := lF fd_45_1)
 refine zb1 ?_
 refine dA 31 ?_ (x := loc_build (qs := [(false, [val _]), (false, [sl _ _])]) (cs := [val _, sl _ _]) (by decide) z_45 zo_45 pl_45 (by exact rfl) (by exact (aI (by exact ⟨⟩) (aI (by exact ⟨⟩) tI))) rfl (by exact rfl))
 exact zb2
theorem impl_copyRows {p1 : Fl} {x : List Row}  (hb : wtRowS x ≤ 68719476736) : SCall Try.prog 64 [(false, [sl .v (x.map (cRow p1))])] (resRV [(false, [sl (.own 45 2) (x.map (cRow (.own 3 1)))])]) := by
 refine sF Try.func64 fun h0 w0 Fz0 => ?_
 refine sj 0 fun hl0 => ?_
 have hbu := hb
 simp only [wtRowS] at hbu
 refine zb3 ?_
 refine sS [0, 2] [] ?_
 refine zb4 ?_
 refine sw_seq ?_
 refine sS [0, 2, 3] [] ?_
 refine zau ?_
 refine za4 ?_
 refine sP [0, 2, 3, 7, 8, 9] [] ?_
 refine sL [0, 2, 7, 8] [] (fun k : Nat => k ≤ x.length) (fun k : Nat => [(3, RV.slc (.own 45 2) ((x.take k).map (cRow (.own 3 1)))), (9, RV.int (k : Int))]) (fun k : Nat => []) (fun k : Nat => x.length - k) 0 (by omega) (by exact aI (by first | exact rfl | simp) (aI (by exact rfl) (tI))) (by exact ⟨⟩) ?_
 rintro k hk
 refine za5 ?_
 refine sc (fun hba => ?_) (fun hba => ?_)
 have hlt : k < x.length := by omega
 have hwm := wt_mem (f := wtRow) hlt
 have htl : (x.take k).length = k := by rw [List.length_take]; omega
 refine za6 ?_
 refine sS [0, 2, 3, 7, 8, 9] [] ?_
 refine zav ?_
 refine zaw ?_
 refine sH [0, 2, 3, 5, 7, 8, 9] [5] ?_
 refine rA ?_ (x := tM)
 refine rA ?_ (x := lD [val _, sl .v _] ty_45)
 refine rA ?_ (x := cL [(true, [val _, sl _ _])] [(true, [val _, sl .v _])] c_89 (hs := by exact impl_copyRow (by omega)))
 refine zb5 ?_
 refine rA ?_ (x := tA)
 refine sG [0, 2, 3, 5, 7, 8, 9] [5] ?_
 refine zaa ?_
 exact zb6
 have hend : k = x.length := by omega
 refine sw_exit ?_
 refine sS [0, 2, 3, 7, 8, 9] [] ?_
 exact zb7
end Go.Proofs.Ytmekkgdboplbjaa
