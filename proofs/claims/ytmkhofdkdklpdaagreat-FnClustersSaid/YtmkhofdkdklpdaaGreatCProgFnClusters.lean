/- What functions of the program compute. No condition. -/
import Derived.Test.YtmkhofdkdklpdaaGreatCZMFnClusters
import Derived.Test.YtmkhofdkdklpdaaGreatCFcFnClusters
import Derived.Test.YtmkhofdkdklpdaaGreatCDb
import Derived.KernelRfl
set_option linter.unusedVariables false
set_option linter.unusedSimpArgs false
namespace Go.Proofs.YtmkhofdkdklpdaaGreat
open Go Go.RowKit M PV
set_option maxRecDepth 10000
attribute [local irreducible] PV.Lcl PV.LclR RV.Lcl
theorem impl_within {n : Int} {l : Int} {h : Int}  : SCall Tryz.prog 40 [(false, [val (vI n)]), (false, [val (vI l)]), (false, [val (vI h)])] (resRV [(false, [val (.bool (inB n l h))])]) := by
 refine sF Tryz.func40 fun h0 w0 Fz0 => ?_
 exact zbh
theorem spec_l1In {n : Int} {l : Int} {h : Int}  : SCall Tryz.prog 47 [(false, [val (vI n)]), (false, [val (vI l)]), (false, [val (vI h)])] (resRV [(false, [val (.bool (inB n l h))])]) := by
 refine sF Tryz.func47 fun h0 w0 Fz0 => ?_
 exact zbh
theorem impl_isField {n : Int}  : SCall Tryz.prog 95 [(false, [val (vI n)])] (resRV [(false, [val (.bool (inB n 0 2))])]) := by
 refine sF Tryz.func95 fun h0 w0 Fz0 => ?_
 refine za0 ?_
 refine sS [0, 2] [] ?_
 refine zbi ?_
 exact zbj
theorem spec_HasMember {xs : List Int} {x : Int}  : SCall Tryz.prog 48 [(false, [sl .v (xs.map cInt)]), (false, [val (vI x)])] (resRV [(false, [val (.bool (hasI xs x))])]) := by
 refine sF Tryz.func48 fun h0 w0 Fz0 => ?_
 exact zbk
theorem impl_hasInt {xs : List Int} {x : Int}  : SCall Tryz.prog 41 [(false, [sl .v (xs.map cInt)]), (false, [val (vI x)])] (resRV [(false, [val (.bool (hasI xs x))])]) := by
 refine sF Tryz.func41 fun h0 w0 Fz0 => ?_
 refine sj 0 fun hl0 => ?_
 refine zbl ?_
 refine zam ?_
 refine zbm ?_
 refine sP [0, 1, 4, 7, 8, 9] [] ?_
 refine sL [0, 1, 7, 8] [] (fun k : Nat => k ≤ xs.length ∧ (xs.take k).any (fun y => y == x) = false) (fun k : Nat => [(9, RV.int (k : Int))]) (fun k : Nat => []) (fun k : Nat => xs.length - k) 0 (by exact ⟨by omega, by simp⟩) (by exact aI (by exact rfl) (tI)) (by exact ⟨⟩) ?_
 rintro k ⟨hk, ha⟩
 refine zbn ?_
 refine sc (fun hba => ?_) (fun hba => ?_)
 have hlt : k < xs.length := by omega
 refine za6 ?_
 refine sS [0, 1, 7, 8, 9] [] ?_
 refine zbo ?_
 refine sS [0, 1, 6, 7, 8, 9] [] ?_
 refine zbp ?_
 refine rA ?_ (x := B_eql)
 refine sc (fun hbb => ?_) (fun hbb => ?_)
 refine sS [0, 1, 6, 7, 8, 9] [] ?_
 exact zbq
 refine sw_skip ?_
 refine sG [0, 1, 6, 7, 8, 9] [] ?_
 refine zbr ?_
 exact zbs
 refine sw_exit ?_
 refine sS [0, 1, 7, 8, 9] [] ?_
 exact zbt
theorem impl_copyInts {x : List Int}  (hb : x.length ≤ 68719476736) : SCall Tryz.prog 71 [(false, [sl .v (x.map cInt)])] (resRV [(false, [sl (.own 3 1) (x.map cInt)])]) := by
 refine sF Tryz.func71 fun h0 w0 Fz0 => ?_
 refine sj 0 fun hl0 => ?_
 refine zbu ?_
 refine sS [0, 2] [] ?_
 refine rA ?_ (x := loc_bslice (qs := []) (by decide) sl_25 z_3 (by decide) rfl rfl rfl rfl rfl (by exact nl rfl) (by exact ⟨⟩) rfl)
 refine rA ?_ (x := vM false [sl .v _])
 refine zbv ?_
 exact zbw
theorem impl_IsRow {x : Row}  : SCall Tryz.prog 85 [(true, [val (vI x.Id), sl .v (x.Values.map cInt)])] (resRV [(false, [val (.bool (okRow x))])]) := by
 refine sF Tryz.func85 fun h0 w0 Fz0 => ?_
 refine sn 0 1 fun hl0_1 => ?_
 refine zbx ?_
 refine zby ?_
 refine sT [1, 2] [1] ?_
 refine zbz ?_
 refine zc0 ?_
 refine sP [1, 2, 6, 7, 8] [1] ?_
 refine sL [1, 6, 7] [1] (fun k : Nat => k ≤ x.Values.length ∧ (x.Values.take k).all okVal = true) (fun k : Nat => [(8, RV.int (k : Int))]) (fun k : Nat => []) (fun k : Nat => x.Values.length - k) 0 (by exact ⟨by omega, by simp⟩) (by exact aI (by exact rfl) (tI)) (by exact ⟨⟩) ?_
 rintro k ⟨hk, ha⟩
 refine zbn ?_
 refine sc (fun hba => ?_) (fun hba => ?_)
 have hlt : k < x.Values.length := by omega
 refine za6 ?_
 refine sT [1, 6, 7, 8] [1] ?_
 refine zbo ?_
 refine sS [1, 4, 6, 7, 8] [1] ?_
 refine rM ?_
 refine zc1 ?_
 refine sc (fun hbb => ?_) (fun hbb => ?_)
 have hno : okVal x.Values[k] = false := by simpa [okVal] using hbb
 refine sS [1, 4, 6, 7, 8] [1] ?_
 exact zc2
 have hyes : okVal x.Values[k] = true := by simpa [okVal] using hbb
 refine sw_skip ?_
 refine sG [1, 4, 6, 7, 8] [1] ?_
 exact zc3
 have hall : x.Values.all okVal = true := all_end (by rw [show x.Values.length = k by omega]; exact ha)
 refine sw_exit ?_
 refine sT [1, 6, 7, 8] [1] ?_
 refine zc4 ?_
 refine rA ?_ (x := cL [(false, [val _]), (false, [val _]), (false, [val _])] [(false, [val _]), (false, [val _]), (false, [val _])] c_40 (hs := by exact impl_within))
 refine rM ?_
 refine cx 19 (fun ga sga => ?_) (fun ga sga => ?_)
 exact zc5
 refine zaa ?_
 exact zc6
theorem spec_IsRow {x : Row}  : SCall Tryz.prog 80 [(true, [val (vI x.Id), sl .v (x.Values.map cInt)])] (resRV [(false, [val (.bool (okRow x))])]) := by
 refine sF Tryz.func80 fun h0 w0 Fz0 => ?_
 refine sn 0 1 fun hl0_1 => ?_
 refine zbx ?_
 refine zby ?_
 refine sT [1, 2] [1] ?_
 refine zas ?_
 refine sP [1, 2, 3] [1] ?_
 refine sL [1] [1] (fun k : Nat => k ≤ x.Values.length ∧ (x.Values.take k).all okVal = true) (fun k : Nat => [(3, RV.int (k : Int))]) (fun k : Nat => []) (fun k : Nat => x.Values.length - k) 0 (by exact ⟨by omega, by simp⟩) (by exact aI (by exact rfl) (tI)) (by exact ⟨⟩) ?_
 rintro k ⟨hk, ha⟩
 refine za4 ?_
 refine zbz ?_
 refine rA ?_ (x := lN sl_25)
 refine rA ?_ (x := B_lss)
 refine sc (fun hba => ?_) (fun hba => ?_)
 have hlt : k < x.Values.length := by omega
 refine za6 ?_
 refine sT [1, 3] [1] ?_
 refine zbz ?_
 refine rM ?_
 refine zc7 ?_
 refine zc8 ?_
 refine sc (fun hbb => ?_) (fun hbb => ?_)
 have hno : okVal x.Values[k] = false := by simpa [okVal] using hbb
 refine sS [1, 3] [1] ?_
 exact zc2
 have hyes : okVal x.Values[k] = true := by simpa [okVal] using hbb
 refine sw_skip ?_
 refine sG [1, 3] [1] ?_
 exact zc9
 have hall : x.Values.all okVal = true := all_end (by rw [show x.Values.length = k by omega]; exact ha)
 refine sw_exit ?_
 refine sT [1, 3] [1] ?_
 refine zc4 ?_
 refine zca ?_
 refine cx 21 (fun ga sga => ?_) (fun ga sga => ?_)
 exact zc5
 refine zaa ?_
 exact zc6
theorem impl_allRows {p1 : Fl} {x : List Row}  : SCall Tryz.prog 75 [(false, [sl .v (x.map (cRow p1))])] (resRV [(false, [val (.bool (x.all okRow))])]) := by
 refine sF Tryz.func75 fun h0 w0 Fz0 => ?_
 refine sj 0 fun hl0 => ?_
 refine zab ?_
 refine sS [0, 2] [] ?_
 refine zcb ?_
 refine zbm ?_
 refine sP [0, 2, 5, 6, 7] [] ?_
 refine sL [0, 5, 6] [] (fun k : Nat => k ≤ x.length ∧ (x.take k).all okRow = true) (fun k : Nat => [(7, RV.int (k : Int))]) (fun k : Nat => []) (fun k : Nat => x.length - k) 0 (by exact ⟨by omega, by simp⟩) (by exact aI (by exact rfl) (tI)) (by exact ⟨⟩) ?_
 rintro k ⟨hk, ha⟩
 refine zbn ?_
 refine sc (fun hba => ?_) (fun hba => ?_)
 have hlt : k < x.length := by omega
 refine za6 ?_
 refine sS [0, 5, 6, 7] [] ?_
 refine zcc ?_
 refine zaq ?_
 refine sT [0, 4, 5, 6, 7] [4] ?_
 refine rA ?_ (x := lD [val _, sl .v _] ty_63)
 refine rA ?_ (x := cL [(true, [val _, sl _ _])] [(true, [val _, sl .v _])] c_85 (hs := by exact impl_IsRow))
 refine rA ?_ (x := nT)
 refine sc (fun hbb => ?_) (fun hbb => ?_)
 have hno : okRow x[k] = false := by simpa [] using hbb
 refine sS [0, 4, 5, 6, 7] [4] ?_
 refine zcd ?_
 exact rb (by simp [id, all_no (P := okRow) hlt hno])
 have hyes : okRow x[k] = true := by simpa [] using hbb
 refine sw_skip ?_
 refine sG [0, 4, 5, 6, 7] [4] ?_
 exact zc3
 have hall : x.all okRow = true := all_end (by rw [show x.length = k by omega]; exact ha)
 refine sw_exit ?_
 refine sS [0, 5, 6, 7] [] ?_
 refine zcd ?_
 exact rb (by simp [id, hall, *])
theorem impl_copyRow {x : Row}  (hb : wtRow x ≤ 68719476736) : SCall Tryz.prog 59 [(true, [val (vI x.Id), sl .v (x.Values.map cInt)])] (resRV [(true, [val (vI x.Id), sl (.own 3 1) (x.Values.map cInt)])]) := by
 refine sF Tryz.func59 fun h0 w0 Fz0 => ?_
 refine sn 0 1 fun hl0_1 => ?_
 have hbu := hb
 simp only [wtRow, wtIntS_len, wtInt] at hbu
 refine zbx ?_
 refine zap ?_
 refine zce ?_
 refine dA 0 ?_ (x := lF fd_63_0)
 refine dA 1 ?_ (x := lD [val _] ty_3)
 refine dA 0 ?_ (x := lF fd_63_1)
 refine dA 4 ?_ (x := lD [sl .v _] ty_25)
 refine dA 12 ?_ (x := cL [(false, [sl _ _])] [(false, [sl .v _])] c_71 (hs := by exact impl_copyInts (by omega)))
 refine dA 31 ?_ (x := loc_build (qs := [(false, [val _]), (false, [sl _ _])]) (cs := [val _, sl _ _]) (by decide) z_63 zo_63 pl_63 (by exact rfl) (by exact (aI (by exact ⟨⟩) (aI (by exact ⟨⟩) tI))) rfl (by exact rfl))
 refine dA 63 ?_ (x := loc_store (ag := true) (vs := [val _, sl _ _]) ty_63 (by exact ⟨⟩) (by exact rfl) (by exact nl rfl))
 exact zcf
theorem spec_l3Copy {x : Row}  (hb : wtRow x ≤ 68719476736) : SCall Tryz.prog 54 [(true, [val (vI x.Id), sl .v (x.Values.map cInt)])] (resRV [(true, [val (vI x.Id), sl (.own 3 1) (x.Values.map cInt)])]) := by
 refine sF Tryz.func54 fun h0 w0 Fz0 => ?_
 refine sn 0 1 fun hl0_1 => ?_
 have hbu := hb
 simp only [wtRow, wtIntS_len, wtInt] at hbu
 refine zbx ?_
 refine zap ?_
 refine zce ?_
 refine dA 0 ?_ (x := lF fd_63_0)
 refine dA 1 ?_ (x := lD [val _] ty_3)
 refine dA 0 ?_ (x := loc_bslice (qs := []) (by decide) sl_25 z_3 (by decide) rfl rfl rfl rfl rfl (by exact nl rfl) (by exact ⟨⟩) rfl)
 refine dA 0 ?_ (x := lF fd_63_1)
 refine dA 8 ?_ (x := lD [sl .v _] ty_25)
 refine dA 28 ?_ (x := loc_appendb (by decide) sl_25 z_3 rfl rfl (by decide) (by first | (intro cs hcs; obtain ⟨x, _, rfl⟩ := List.mem_map.1 hcs; exact rfl) | simp) (by first | (intro cs hcs; obtain ⟨x, _, rfl⟩ := List.mem_map.1 hcs; exact (BorL.cons (bor_val _) BorL.nil)) | simp) (by simp only [List.length_map, List.length_append, List.length_cons, List.length_nil]; omega) (by simp only [List.length_map, List.length_append, List.length_cons, List.length_nil]; omega))
 refine dA 63 ?_ (x := loc_build (qs := [(false, [val _]), (false, [sl _ _])]) (cs := [val _, sl _ _]) (by decide) z_63 zo_63 pl_63 (by exact rfl) (by exact (aI (by exact ⟨⟩) (aI (by exact ⟨⟩) tI))) rfl (by exact rfl))
 refine dA 127 ?_ (x := loc_store (ag := true) (vs := [val _, sl _ _]) ty_63 (by exact ⟨⟩) (by exact rfl) (by exact nl rfl))
 exact zcf
theorem impl_copyRows {p1 : Fl} {x : List Row}  (hb : wtRowS x ≤ 68719476736) : SCall Tryz.prog 60 [(false, [sl .v (x.map (cRow p1))])] (resRV [(false, [sl (.own 63 2) (x.map (cRow (.own 3 1)))])]) := by
 refine sF Tryz.func60 fun h0 w0 Fz0 => ?_
 refine sj 0 fun hl0 => ?_
 have hbu := hb
 simp only [wtRowS] at hbu
 refine sR ?_
 refine zcg ?_
 refine zch ?_
 refine sS [0, 2, 3] [] ?_
 refine zcb ?_
 refine zbm ?_
 refine sP [0, 2, 3, 7, 8, 9] [] ?_
 refine sL [0, 2, 7, 8] [] (fun k : Nat => k ≤ x.length) (fun k : Nat => [(3, RV.slc (.own 63 2) ((x.take k).map (cRow (.own 3 1)))), (9, RV.int (k : Int))]) (fun k : Nat => []) (fun k : Nat => x.length - k) 0 (by omega) (by exact aI (by first | exact rfl | simp) (aI (by exact rfl) (tI))) (by exact ⟨⟩) ?_
 rintro k hk
 refine zbn ?_
 refine sc (fun hba => ?_) (fun hba => ?_)
 have hlt : k < x.length := by omega
 have hwm := wt_mem (f := wtRow) hlt
 have htl : (x.take k).length = k := by rw [List.length_take]; omega
 refine za6 ?_
 refine sS [0, 2, 3, 7, 8, 9] [] ?_
 refine zcc ?_
 refine zaq ?_
 refine sH [0, 2, 3, 5, 7, 8, 9] [5] ?_
 refine rA ?_ (x := tM)
 refine zci ?_
 refine zcj ?_
 refine sG [0, 2, 3, 5, 7, 8, 9] [5] ?_
 refine zbr ?_
 exact zck
 exact zcl
theorem spec_l9Rows {p1 : Fl} {x : List Row}  (hb : wtRowS x ≤ 68719476736) : SCall Tryz.prog 66 [(false, [sl .v (x.map (cRow p1))])] (resRV [(false, [sl (.own 63 2) (x.map (cRow (.own 3 1)))])]) := by
 refine sF Tryz.func66 fun h0 w0 Fz0 => ?_
 refine sj 0 fun hl0 => ?_
 have hbu := hb
 simp only [wtRowS] at hbu
 refine sR ?_
 refine zcg ?_
 refine zch ?_
 refine za3 ?_
 refine sL [0, 2] [] (fun k : Nat => k ≤ x.length) (fun k : Nat => [(3, RV.slc (.own 63 2) ((x.take k).map (cRow (.own 3 1)))), (4, RV.int (k : Int))]) (fun k : Nat => []) (fun k : Nat => x.length - k) 0 (by omega) (by exact aI (by first | exact rfl | simp) (aI (by exact rfl) (tI))) (by exact ⟨⟩) ?_
 rintro k hk
 refine za4 ?_
 refine zcm ?_
 refine sc (fun hba => ?_) (fun hba => ?_)
 have hlt : k < x.length := by omega
 have hwm := wt_mem (f := wtRow) hlt
 have htl : (x.take k).length = k := by rw [List.length_take]; omega
 refine za6 ?_
 refine sG [0, 2, 3, 4] [] ?_
 refine zcn ?_
 refine zco ?_
 refine zcp ?_
 exact zcq
 have hend : k = x.length := by omega
 exact zcr
end Go.Proofs.YtmkhofdkdklpdaaGreat
