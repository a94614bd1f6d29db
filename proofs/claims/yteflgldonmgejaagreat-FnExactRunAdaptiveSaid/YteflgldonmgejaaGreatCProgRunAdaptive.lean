/- What functions of the program compute. No condition. -/
import Derived.Test.YteflgldonmgejaaGreatCZMRunAdaptive
import Derived.Test.YteflgldonmgejaaGreatCFcRunAdaptive
import Derived.Test.YteflgldonmgejaaGreatCDb
import Derived.KernelRfl
set_option linter.unusedVariables false
set_option linter.unusedSimpArgs false
namespace Go.Proofs.YteflgldonmgejaaGreat
open Go Go.RowKit M PV
set_option maxRecDepth 10000
attribute [local irreducible] PV.Lcl PV.LclR RV.Lcl
theorem impl_within {n : Int} {l : Int} {h : Int}  : SCall Tryz.prog 114 [(false, [val (vI n)]), (false, [val (vI l)]), (false, [val (vI h)])] (resRV [(false, [val (.bool (inB n l h))])]) := by
 refine sF Tryz.func114 fun h0 w0 Fz0 => ?_
 exact zfe
theorem spec_l1In {n : Int} {l : Int} {h : Int}  : SCall Tryz.prog 97 [(false, [val (vI n)]), (false, [val (vI l)]), (false, [val (vI h)])] (resRV [(false, [val (.bool (inB n l h))])]) := by
 refine sF Tryz.func97 fun h0 w0 Fz0 => ?_
 exact zfe
theorem impl_isField {n : Int}  : SCall Tryz.prog 191 [(false, [val (vI n)])] (resRV [(false, [val (.bool (inB n 0 2))])]) := by
 refine sF Tryz.func191 fun h0 w0 Fz0 => ?_
 refine sR ?_
 refine rK ?_
 refine sS [0, 2] [] ?_
 refine zff ?_
 exact zfg
theorem spec_HasMember {xs : List Int} {x : Int}  : SCall Tryz.prog 173 [(false, [sl .v (xs.map cInt)]), (false, [val (vI x)])] (resRV [(false, [val (.bool (hasI xs x))])]) := by
 refine sF Tryz.func173 fun h0 w0 Fz0 => ?_
 refine sj 0 fun hl0 => ?_
 refine zej ?_
 refine sL [0, 1] [] (fun k : Nat => k ≤ xs.length ∧ (xs.take k).any (fun y => y == x) = false) (fun k : Nat => [(5, RV.int (k : Int))]) (fun k : Nat => []) (fun k : Nat => xs.length - k) 0 (by exact ⟨by omega, by simp⟩) (by exact aI (by exact rfl) (tI)) (by exact ⟨⟩) ?_
 rintro k ⟨hk, ha⟩
 refine zb2 ?_
 refine sc (fun hba => ?_) (fun hba => ?_)
 have hlt : k < xs.length := by omega
 refine zaf ?_
 refine zb4 ?_
 refine rM ?_
 refine rA ?_ (x := B_eql)
 refine sc (fun hbb => ?_) (fun hbb => ?_)
 refine sS [0, 1, 5] [] ?_
 exact zfh
 refine zaj ?_
 exact zfi
 refine zfj ?_
 exact zfk
theorem impl_hasInt {xs : List Int} {x : Int}  : SCall Tryz.prog 189 [(false, [sl .v (xs.map cInt)]), (false, [val (vI x)])] (resRV [(false, [val (.bool (hasI xs x))])]) := by
 refine sF Tryz.func189 fun h0 w0 Fz0 => ?_
 refine sj 0 fun hl0 => ?_
 refine zcd ?_
 refine zce ?_
 refine zfl ?_
 refine sP [0, 1, 4, 7, 8, 9] [] ?_
 refine sL [0, 1, 7, 8] [] (fun k : Nat => k ≤ xs.length ∧ (xs.take k).any (fun y => y == x) = false) (fun k : Nat => [(9, RV.int (k : Int))]) (fun k : Nat => []) (fun k : Nat => xs.length - k) 0 (by exact ⟨by omega, by simp⟩) (by exact aI (by exact rfl) (tI)) (by exact ⟨⟩) ?_
 rintro k ⟨hk, ha⟩
 refine zfm ?_
 refine sc (fun hba => ?_) (fun hba => ?_)
 have hlt : k < xs.length := by omega
 refine zed ?_
 refine sS [0, 1, 7, 8, 9] [] ?_
 refine zfn ?_
 refine sS [0, 1, 6, 7, 8, 9] [] ?_
 refine zfo ?_
 refine rA ?_ (x := B_eql)
 refine sc (fun hbb => ?_) (fun hbb => ?_)
 refine sS [0, 1, 6, 7, 8, 9] [] ?_
 exact zfh
 refine sw_skip ?_
 refine sG [0, 1, 6, 7, 8, 9] [] ?_
 refine zfp ?_
 exact zfi
 refine sw_exit ?_
 refine sS [0, 1, 7, 8, 9] [] ?_
 exact zfk
theorem impl_HasMember {xs : List Int} {x : Int}  : SCall Tryz.prog 228 [(false, [sl .v (xs.map cInt)]), (false, [val (vI x)])] (resRV [(false, [val (.bool (hasI xs x))])]) := by
 refine sF Tryz.func228 fun h0 w0 Fz0 => ?_
 refine sj 0 fun hl0 => ?_
 refine sR ?_
 refine rK ?_
 refine sS [0, 1, 4] [] ?_
 refine zfq ?_
 refine rS ?_
 exact zfr
theorem impl_copyInts {x : List Int}  (hb : x.length ≤ 68719476736) : SCall Tryz.prog 134 [(false, [sl .v (x.map cInt)])] (resRV [(false, [sl (.own 3 1) (x.map cInt)])]) := by
 refine sF Tryz.func134 fun h0 w0 Fz0 => ?_
 refine sj 0 fun hl0 => ?_
 refine zaz ?_
 refine sS [0, 2] [] ?_
 refine zfs ?_
 exact zb7
theorem impl_IsRow {x : Row}  : SCall Tryz.prog 125 [(true, [val (vI x.Id), sl .v (x.Values.map cInt)])] (resRV [(false, [val (.bool (okRow x))])]) := by
 refine sF Tryz.func125 fun h0 w0 Fz0 => ?_
 refine sn 0 1 fun hl0_1 => ?_
 refine zaa ?_
 refine zft ?_
 refine rA ?_ (x := lF fd_66_1)
 refine zfu ?_
 refine zfl ?_
 refine sP [1, 2, 6, 7, 8] [1] ?_
 refine sL [1, 6, 7] [1] (fun k : Nat => k ≤ x.Values.length ∧ (x.Values.take k).all okVal = true) (fun k : Nat => [(8, RV.int (k : Int))]) (fun k : Nat => []) (fun k : Nat => x.Values.length - k) 0 (by exact ⟨by omega, by simp⟩) (by exact aI (by exact rfl) (tI)) (by exact ⟨⟩) ?_
 rintro k ⟨hk, ha⟩
 refine zfm ?_
 refine sc (fun hba => ?_) (fun hba => ?_)
 have hlt : k < x.Values.length := by omega
 refine zed ?_
 refine sT [1, 6, 7, 8] [1] ?_
 refine zfn ?_
 refine sS [1, 4, 6, 7, 8] [1] ?_
 refine zff ?_
 refine rA ?_ (x := nT)
 refine sc (fun hbb => ?_) (fun hbb => ?_)
 have hno : okVal x.Values[k] = false := by simpa [okVal] using hbb
 refine sS [1, 4, 6, 7, 8] [1] ?_
 exact zfv
 have hyes : okVal x.Values[k] = true := by simpa [okVal] using hbb
 refine sw_skip ?_
 refine sG [1, 4, 6, 7, 8] [1] ?_
 exact zfw
 have hall : x.Values.all okVal = true := all_end (by rw [show x.Values.length = k by omega]; exact ha)
 refine sw_exit ?_
 refine sT [1, 6, 7, 8] [1] ?_
 refine rA ?_ (x := lF fd_66_0)
 refine zfx ?_
 refine rM ?_
 refine cx 19 (fun ga sga => ?_) (fun ga sga => ?_)
 exact zfy
 refine zfz ?_
 exact zg0
theorem spec_IsRow {x : Row}  : SCall Tryz.prog 107 [(true, [val (vI x.Id), sl .v (x.Values.map cInt)])] (resRV [(false, [val (.bool (okRow x))])]) := by
 refine sF Tryz.func107 fun h0 w0 Fz0 => ?_
 refine sn 0 1 fun hl0_1 => ?_
 refine zaa ?_
 refine zft ?_
 refine zg1 ?_
 refine sL [1] [1] (fun k : Nat => k ≤ x.Values.length ∧ (x.Values.take k).all okVal = true) (fun k : Nat => [(3, RV.int (k : Int))]) (fun k : Nat => []) (fun k : Nat => x.Values.length - k) 0 (by exact ⟨by omega, by simp⟩) (by exact aI (by exact rfl) (tI)) (by exact ⟨⟩) ?_
 rintro k ⟨hk, ha⟩
 refine zg2 ?_
 refine rA ?_ (x := lF fd_66_1)
 refine zfu ?_
 refine rA ?_ (x := B_lss)
 refine sc (fun hba => ?_) (fun hba => ?_)
 have hlt : k < x.Values.length := by omega
 refine zed ?_
 refine sT [1, 3] [1] ?_
 refine rA ?_ (x := lF fd_66_1)
 refine rA ?_ (x := lD [sl .v _] ty_25)
 refine rM ?_
 refine zb4 ?_
 refine zg3 ?_
 refine sc (fun hbb => ?_) (fun hbb => ?_)
 have hno : okVal x.Values[k] = false := by simpa [okVal] using hbb
 refine sS [1, 3] [1] ?_
 exact zfv
 have hyes : okVal x.Values[k] = true := by simpa [okVal] using hbb
 refine zg4 ?_
 exact zg5
 have hall : x.Values.all okVal = true := all_end (by rw [show x.Values.length = k by omega]; exact ha)
 refine zg6 ?_
 refine rA ?_ (x := lF fd_66_0)
 refine zg7 ?_
 refine rM ?_
 refine cx 21 (fun ga sga => ?_) (fun ga sga => ?_)
 exact zfy
 refine zfz ?_
 exact zg0
theorem impl_allRows {p1 : Fl} {x : List Row}  : SCall Tryz.prog 192 [(false, [sl .v (x.map (cRow p1))])] (resRV [(false, [val (.bool (x.all okRow))])]) := by
 refine sF Tryz.func192 fun h0 w0 Fz0 => ?_
 refine sj 0 fun hl0 => ?_
 refine zcd ?_
 refine zbg ?_
 refine rA ?_ (x := lN sl_93)
 refine zfl ?_
 refine sP [0, 2, 5, 6, 7] [] ?_
 refine sL [0, 5, 6] [] (fun k : Nat => k ≤ x.length ∧ (x.take k).all okRow = true) (fun k : Nat => [(7, RV.int (k : Int))]) (fun k : Nat => []) (fun k : Nat => x.length - k) 0 (by exact ⟨by omega, by simp⟩) (by exact aI (by exact rfl) (tI)) (by exact ⟨⟩) ?_
 rintro k ⟨hk, ha⟩
 refine zfm ?_
 refine sc (fun hba => ?_) (fun hba => ?_)
 have hlt : k < x.length := by omega
 refine zed ?_
 refine sS [0, 5, 6, 7] [] ?_
 refine zg8 ?_
 refine zg9 ?_
 refine sT [0, 4, 5, 6, 7] [4] ?_
 refine zga ?_
 refine rA ?_ (x := nT)
 refine sc (fun hbb => ?_) (fun hbb => ?_)
 have hno : okRow x[k] = false := by simpa [] using hbb
 refine sS [0, 4, 5, 6, 7] [4] ?_
 refine zgb ?_
 exact rb (by simp [id, all_no (P := okRow) hlt hno])
 have hyes : okRow x[k] = true := by simpa [] using hbb
 refine sw_skip ?_
 refine sG [0, 4, 5, 6, 7] [4] ?_
 exact zfw
 have hall : x.all okRow = true := all_end (by rw [show x.length = k by omega]; exact ha)
 refine sw_exit ?_
 refine sS [0, 5, 6, 7] [] ?_
 refine zgb ?_
 exact rb (by simp [id, hall, *])
theorem impl_resultOk {p1 : Fl} {x : List Row}  : SCall Tryz.prog 118 [(false, [sl .v (x.map (cRow p1))])] (resRV [(false, [val (.bool (okRows x))])]) := by
 refine sF Tryz.func118 fun h0 w0 Fz0 => ?_
 refine sj 0 fun hl0 => ?_
 refine sR ?_
 refine rK ?_
 refine zbg ?_
 refine rA ?_ (x := lN sl_93)
 refine rA ?_ (x := B_leq)
 refine rM ?_
 refine cx 6 (fun ga sga => ?_) (fun ga sga => ?_)
 refine rB ga ?_ (x := vM false [sl .v _])
 refine rB ga ?_ (x := cL [(false, [sl _ _])] [(false, [sl .v _])] c_192 (hs := by exact impl_allRows))
 refine rA ?_ (x := pkT ga)
 exact zgc
 refine zfz ?_
 exact zgc
theorem spec_l9List {p1 : Fl} {x : List Row}  : SCall Tryz.prog 101 [(false, [sl .v (x.map (cRow p1))])] (resRV [(false, [val (.bool (okRows x))])]) := by
 refine sF Tryz.func101 fun h0 w0 Fz0 => ?_
 refine sj 0 fun hl0 => ?_
 refine zgd ?_
 refine zge ?_
 refine sL [0] [] (fun k : Nat => k ≤ x.length ∧ (x.take k).all okRow = true) (fun k : Nat => [(3, RV.int (k : Int))]) (fun k : Nat => []) (fun k : Nat => x.length - k) 0 (by exact ⟨by omega, by simp⟩) (by exact aI (by exact rfl) (tI)) (by exact ⟨⟩) ?_
 rintro k ⟨hk, ha⟩
 refine zae ?_
 refine zd9 ?_
 refine sc (fun hba => ?_) (fun hba => ?_)
 have hlt : k < x.length := by omega
 refine zed ?_
 refine sS [0, 3] [] ?_
 refine zgf ?_
 refine zgg ?_
 refine rA ?_ (x := nT)
 refine sc (fun hbb => ?_) (fun hbb => ?_)
 have hno : okRow x[k] = false := by simpa [] using hbb
 refine sS [0, 3] [] ?_
 refine zgb ?_
 exact rb (by simp [okRows, all_no (P := okRow) hlt hno])
 have hyes : okRow x[k] = true := by simpa [] using hbb
 refine zgh ?_
 exact zg5
 have hall : x.all okRow = true := all_end (by rw [show x.length = k by omega]; exact ha)
 refine zgi ?_
 refine zd8 ?_
 refine rA ?_ (x := B_leq)
 refine zgj ?_
 exact rb (by simp [okRows, hall, *])
theorem impl_copyRow {x : Row}  (hb : wtRow x ≤ 68719476736) : SCall Tryz.prog 233 [(true, [val (vI x.Id), sl .v (x.Values.map cInt)])] (resRV [(true, [val (vI x.Id), sl (.own 3 1) (x.Values.map cInt)])]) := by
 refine sF Tryz.func233 fun h0 w0 Fz0 => ?_
 refine sn 0 1 fun hl0_1 => ?_
 have hbu := hb
 simp only [wtRow, wtIntS_len, wtInt] at hbu
 refine zbh ?_
 refine zgk ?_
 refine dA 0 ?_ (x := lF fd_66_0)
 refine dA 1 ?_ (x := lD [val _] ty_3)
 refine dA 0 ?_ (x := lF fd_66_1)
 refine zgl ?_
 refine dA 31 ?_ (x := loc_build (qs := [(false, [val _]), (false, [sl _ _])]) (cs := [val _, sl _ _]) (by decide) z_66 zo_66 pl_66 (by exact rfl) (by exact (aI (by exact ⟨⟩) (aI (by exact ⟨⟩) tI))) rfl (by exact rfl))
 exact zgm
theorem spec_l3Copy {x : Row}  (hb : wtRow x ≤ 68719476736) : SCall Tryz.prog 206 [(true, [val (vI x.Id), sl .v (x.Values.map cInt)])] (resRV [(true, [val (vI x.Id), sl (.own 3 1) (x.Values.map cInt)])]) := by
 refine sF Tryz.func206 fun h0 w0 Fz0 => ?_
 refine sn 0 1 fun hl0_1 => ?_
 have hbu := hb
 simp only [wtRow, wtIntS_len, wtInt] at hbu
 refine zbh ?_
 refine zgk ?_
 refine dA 0 ?_ (x := lF fd_66_0)
 refine dA 1 ?_ (x := lD [val _] ty_3)
 refine dA 0 ?_ (x := loc_bslice (qs := []) (by decide) sl_25 z_3 (by decide) rfl rfl rfl rfl rfl (by exact nl rfl) (by exact ⟨⟩) rfl)
 refine dA 0 ?_ (x := lF fd_66_1)
 refine dA 8 ?_ (x := lD [sl .v _] ty_25)
 refine dA 28 ?_ (x := loc_appendb (by decide) sl_25 z_3 rfl rfl (by decide) (by first | (intro cs hcs; obtain ⟨x, _, rfl⟩ := List.mem_map.1 hcs; exact rfl) | simp) (by first | (intro cs hcs; obtain ⟨x, _, rfl⟩ := List.mem_map.1 hcs; exact (BorL.cons (bor_val _) BorL.nil)) | simp) (by simp only [List.length_map, List.length_append, List.length_cons, List.length_nil]; omega) (by simp only [List.length_map, List.length_append, List.length_cons, List.length_nil]; omega))
 refine dA 63 ?_ (x := loc_build (qs := [(false, [val _]), (false, [sl _ _])]) (cs := [val _, sl _ _]) (by decide) z_66 zo_66 pl_66 (by exact rfl) (by exact (aI (by exact ⟨⟩) (aI (by exact ⟨⟩) tI))) rfl (by exact rfl))
 refine dA 127 ?_ (x := loc_store (ag := true) (vs := [val _, sl _ _]) ty_66 (by exact ⟨⟩) (by exact rfl) (by exact nl rfl))
 exact zbj
theorem impl_copyRows {p1 : Fl} {x : List Row}  (hb : wtRowS x ≤ 68719476736) : SCall Tryz.prog 208 [(false, [sl .v (x.map (cRow p1))])] (resRV [(false, [sl (.own 66 2) (x.map (cRow (.own 3 1)))])]) := by
 refine sF Tryz.func208 fun h0 w0 Fz0 => ?_
 refine sj 0 fun hl0 => ?_
 have hbu := hb
 simp only [wtRowS] at hbu
 refine zbr ?_
 refine sS [0, 2] [] ?_
 refine zgn ?_
 refine zgo ?_
 refine zd8 ?_
 refine zfl ?_
 refine sP [0, 2, 3, 7, 8, 9] [] ?_
 refine sL [0, 2, 7, 8] [] (fun k : Nat => k ≤ x.length) (fun k : Nat => [(3, RV.slc (.own 66 2) ((x.take k).map (cRow (.own 3 1)))), (9, RV.int (k : Int))]) (fun k : Nat => []) (fun k : Nat => x.length - k) 0 (by omega) (by exact aI (by first | exact rfl | simp) (aI (by exact rfl) (tI))) (by exact ⟨⟩) ?_
 rintro k hk
 refine zfm ?_
 refine sc (fun hba => ?_) (fun hba => ?_)
 have hlt : k < x.length := by omega
 have hwm := wt_mem (f := wtRow) hlt
 have htl : (x.take k).length = k := by rw [List.length_take]; omega
 refine zed ?_
 refine sS [0, 2, 3, 7, 8, 9] [] ?_
 refine zg8 ?_
 refine zg9 ?_
 refine sH [0, 2, 3, 5, 7, 8, 9] [5] ?_
 refine rA ?_ (x := tM)
 refine rA ?_ (x := lD [val _, sl .v _] ty_66)
 refine rA ?_ (x := cL [(true, [val _, sl _ _])] [(true, [val _, sl .v _])] c_233 (hs := by exact impl_copyRow (by omega)))
 refine zgp ?_
 exact zgq
 exact zgr
theorem spec_l9Rows {p1 : Fl} {x : List Row}  (hb : wtRowS x ≤ 68719476736) : SCall Tryz.prog 140 [(false, [sl .v (x.map (cRow p1))])] (resRV [(false, [sl (.own 66 2) (x.map (cRow (.own 3 1)))])]) := by
 refine sF Tryz.func140 fun h0 w0 Fz0 => ?_
 refine sj 0 fun hl0 => ?_
 have hbu := hb
 simp only [wtRowS] at hbu
 refine zbr ?_
 refine sS [0, 2] [] ?_
 refine zgn ?_
 refine zgo ?_
 refine zgs ?_
 refine sL [0, 2] [] (fun k : Nat => k ≤ x.length) (fun k : Nat => [(3, RV.slc (.own 66 2) ((x.take k).map (cRow (.own 3 1)))), (4, RV.int (k : Int))]) (fun k : Nat => []) (fun k : Nat => x.length - k) 0 (by omega) (by exact aI (by first | exact rfl | simp) (aI (by exact rfl) (tI))) (by exact ⟨⟩) ?_
 rintro k hk
 refine zae ?_
 refine zd9 ?_
 refine sc (fun hba => ?_) (fun hba => ?_)
 have hlt : k < x.length := by omega
 have hwm := wt_mem (f := wtRow) hlt
 have htl : (x.take k).length = k := by rw [List.length_take]; omega
 refine zed ?_
 refine sG [0, 2, 3, 4] [] ?_
 refine zgt ?_
 refine zg8 ?_
 refine rA ?_ (x := cL [(true, [val _, sl _ _])] [(true, [val _, sl .v _])] c_206 (hs := by exact spec_l3Copy (by omega)))
 refine zgp ?_
 refine rA ?_ (x := tA)
 refine sG [0, 2, 3, 4] [] ?_
 exact zgu
 exact zgv
end Go.Proofs.YteflgldonmgejaaGreat
