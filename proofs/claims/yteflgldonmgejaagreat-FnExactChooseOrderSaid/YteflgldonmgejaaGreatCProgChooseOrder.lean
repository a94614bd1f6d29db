/- What functions of the program compute. No condition. -/
import Derived.Test.YteflgldonmgejaaGreatCZMChooseOrder
import Derived.Test.YteflgldonmgejaaGreatCFcChooseOrder
import Derived.Test.YteflgldonmgejaaGreatCDb
import Derived.KernelRfl
set_option linter.unusedVariables false
set_option linter.unusedSimpArgs false
namespace Go.Proofs.YteflgldonmgejaaGreat
open Go Go.RowKit M PV
set_option maxRecDepth 10000
attribute [local irreducible] PV.Lcl PV.LclR RV.Lcl
theorem impl_within {n : Int} {l : Int} {h : Int}  : SCall Tryz.prog 114 [(false, [val (vI n)]), (false, [val (vI l)]), (false, [val (vI h)])] (resRV [(false, [val (.bool (inB n l h))])]) := by
 refine sF Tryz.func114 fun h0 w0 Fz0 => ?_
 exact zdt
theorem spec_l1In {n : Int} {l : Int} {h : Int}  : SCall Tryz.prog 97 [(false, [val (vI n)]), (false, [val (vI l)]), (false, [val (vI h)])] (resRV [(false, [val (.bool (inB n l h))])]) := by
 refine sF Tryz.func97 fun h0 w0 Fz0 => ?_
 exact zdt
theorem impl_isField {n : Int}  : SCall Tryz.prog 191 [(false, [val (vI n)])] (resRV [(false, [val (.bool (inB n 0 2))])]) := by
 refine sF Tryz.func191 fun h0 w0 Fz0 => ?_
 refine sR ?_
 refine rK ?_
 refine sS [0, 2] [] ?_
 refine zdu ?_
 exact zdv
theorem spec_HasMember {xs : List Int} {x : Int}  : SCall Tryz.prog 173 [(false, [sl .v (xs.map cInt)]), (false, [val (vI x)])] (resRV [(false, [val (.bool (hasI xs x))])]) := by
 refine sF Tryz.func173 fun h0 w0 Fz0 => ?_
 refine sj 0 fun hl0 => ?_
 refine zbu ?_
 refine zdr ?_
 refine sL [0, 1] [] (fun k : Nat => k ≤ xs.length ∧ (xs.take k).any (fun y => y == x) = false) (fun k : Nat => [(5, RV.int (k : Int))]) (fun k : Nat => []) (fun k : Nat => xs.length - k) 0 (by exact ⟨by omega, by simp⟩) (by exact aI (by exact rfl) (tI)) (by exact ⟨⟩) ?_
 rintro k ⟨hk, ha⟩
 refine zb2 ?_
 refine sc (fun hba => ?_) (fun hba => ?_)
 have hlt : k < xs.length := by omega
 refine zaf ?_
 refine zb4 ?_
 refine rM ?_
 refine rA ?_ (x := B_eql)
 refine sc (fun hbb => ?_) (fun hbb => ?_)
 refine sS [0, 1, 5] [] ?_
 exact zdw
 refine zaj ?_
 exact zdx
 refine zdy ?_
 exact zdz
theorem impl_hasInt {xs : List Int} {x : Int}  : SCall Tryz.prog 189 [(false, [sl .v (xs.map cInt)]), (false, [val (vI x)])] (resRV [(false, [val (.bool (hasI xs x))])]) := by
 refine sF Tryz.func189 fun h0 w0 Fz0 => ?_
 refine sj 0 fun hl0 => ?_
 refine zbu ?_
 refine zbv ?_
 refine ze0 ?_
 refine sP [0, 1, 4, 7, 8, 9] [] ?_
 refine sL [0, 1, 7, 8] [] (fun k : Nat => k ≤ xs.length ∧ (xs.take k).any (fun y => y == x) = false) (fun k : Nat => [(9, RV.int (k : Int))]) (fun k : Nat => []) (fun k : Nat => xs.length - k) 0 (by exact ⟨by omega, by simp⟩) (by exact aI (by exact rfl) (tI)) (by exact ⟨⟩) ?_
 rintro k ⟨hk, ha⟩
 refine ze1 ?_
 refine sc (fun hba => ?_) (fun hba => ?_)
 have hlt : k < xs.length := by omega
 refine zdl ?_
 refine sS [0, 1, 7, 8, 9] [] ?_
 refine zb4 ?_
 refine rS ?_
 refine sS [0, 1, 6, 7, 8, 9] [] ?_
 refine ze2 ?_
 refine rA ?_ (x := B_eql)
 refine sc (fun hbb => ?_) (fun hbb => ?_)
 refine sS [0, 1, 6, 7, 8, 9] [] ?_
 exact zdw
 refine sw_skip ?_
 refine sG [0, 1, 6, 7, 8, 9] [] ?_
 refine ze3 ?_
 exact zdx
 refine sw_exit ?_
 refine sS [0, 1, 7, 8, 9] [] ?_
 exact zdz
theorem impl_HasMember {xs : List Int} {x : Int}  : SCall Tryz.prog 228 [(false, [sl .v (xs.map cInt)]), (false, [val (vI x)])] (resRV [(false, [val (.bool (hasI xs x))])]) := by
 refine sF Tryz.func228 fun h0 w0 Fz0 => ?_
 refine sj 0 fun hl0 => ?_
 refine sR ?_
 refine rK ?_
 refine sS [0, 1, 4] [] ?_
 refine ze4 ?_
 refine rS ?_
 exact ze5
theorem impl_copyInts {x : List Int}  (hb : x.length ≤ 68719476736) : SCall Tryz.prog 134 [(false, [sl .v (x.map cInt)])] (resRV [(false, [sl (.own 3 1) (x.map cInt)])]) := by
 refine sF Tryz.func134 fun h0 w0 Fz0 => ?_
 refine sj 0 fun hl0 => ?_
 refine zaz ?_
 refine sS [0, 2] [] ?_
 refine rA ?_ (x := loc_bslice (qs := []) (by decide) sl_25 z_3 (by decide) rfl rfl rfl rfl rfl (by exact nl rfl) (by exact ⟨⟩) rfl)
 refine rA ?_ (x := vM false [sl .v _])
 refine rA ?_ (x := loc_appendb (by decide) sl_25 z_3 rfl rfl (by decide) (by first | (intro cs hcs; obtain ⟨x, _, rfl⟩ := List.mem_map.1 hcs; exact rfl) | simp) (by first | (intro cs hcs; obtain ⟨x, _, rfl⟩ := List.mem_map.1 hcs; exact (BorL.cons (bor_val _) BorL.nil)) | simp) (by simp only [List.length_map, List.length_append, List.length_cons, List.length_nil]; omega) (by simp only [List.length_map, List.length_append, List.length_cons, List.length_nil]; omega))
 exact zb7
theorem impl_IsRow {x : Row}  : SCall Tryz.prog 125 [(true, [val (vI x.Id), sl .v (x.Values.map cInt)])] (resRV [(false, [val (.bool (okRow x))])]) := by
 refine sF Tryz.func125 fun h0 w0 Fz0 => ?_
 refine sn 0 1 fun hl0_1 => ?_
 refine zaa ?_
 refine ze6 ?_
 refine rA ?_ (x := lF fd_66_1)
 refine ze7 ?_
 refine ze0 ?_
 refine sP [1, 2, 6, 7, 8] [1] ?_
 refine sL [1, 6, 7] [1] (fun k : Nat => k ≤ x.Values.length ∧ (x.Values.take k).all okVal = true) (fun k : Nat => [(8, RV.int (k : Int))]) (fun k : Nat => []) (fun k : Nat => x.Values.length - k) 0 (by exact ⟨by omega, by simp⟩) (by exact aI (by exact rfl) (tI)) (by exact ⟨⟩) ?_
 rintro k ⟨hk, ha⟩
 refine ze1 ?_
 refine sc (fun hba => ?_) (fun hba => ?_)
 have hlt : k < x.Values.length := by omega
 refine zdl ?_
 refine sT [1, 6, 7, 8] [1] ?_
 refine zb4 ?_
 refine rS ?_
 refine sS [1, 4, 6, 7, 8] [1] ?_
 refine zdu ?_
 refine rA ?_ (x := nT)
 refine sc (fun hbb => ?_) (fun hbb => ?_)
 have hno : okVal x.Values[k] = false := by simpa [okVal] using hbb
 refine sS [1, 4, 6, 7, 8] [1] ?_
 exact ze8
 have hyes : okVal x.Values[k] = true := by simpa [okVal] using hbb
 refine sw_skip ?_
 refine sG [1, 4, 6, 7, 8] [1] ?_
 exact ze9
 have hall : x.Values.all okVal = true := all_end (by rw [show x.Values.length = k by omega]; exact ha)
 refine sw_exit ?_
 refine sT [1, 6, 7, 8] [1] ?_
 refine rA ?_ (x := lF fd_66_0)
 refine zea ?_
 refine rM ?_
 refine cx 19 (fun ga sga => ?_) (fun ga sga => ?_)
 exact zeb
 refine zec ?_
 exact zed
theorem spec_IsRow {x : Row}  : SCall Tryz.prog 107 [(true, [val (vI x.Id), sl .v (x.Values.map cInt)])] (resRV [(false, [val (.bool (okRow x))])]) := by
 refine sF Tryz.func107 fun h0 w0 Fz0 => ?_
 refine sn 0 1 fun hl0_1 => ?_
 refine zaa ?_
 refine ze6 ?_
 refine zee ?_
 refine sL [1] [1] (fun k : Nat => k ≤ x.Values.length ∧ (x.Values.take k).all okVal = true) (fun k : Nat => [(3, RV.int (k : Int))]) (fun k : Nat => []) (fun k : Nat => x.Values.length - k) 0 (by exact ⟨by omega, by simp⟩) (by exact aI (by exact rfl) (tI)) (by exact ⟨⟩) ?_
 rintro k ⟨hk, ha⟩
 refine zef ?_
 refine zcf ?_
 refine rA ?_ (x := lN sl_25)
 refine rA ?_ (x := B_lss)
 refine sc (fun hba => ?_) (fun hba => ?_)
 have hlt : k < x.Values.length := by omega
 refine zdl ?_
 refine sT [1, 3] [1] ?_
 refine zcf ?_
 refine rM ?_
 refine zb4 ?_
 refine zeg ?_
 refine sc (fun hbb => ?_) (fun hbb => ?_)
 have hno : okVal x.Values[k] = false := by simpa [okVal] using hbb
 refine sS [1, 3] [1] ?_
 exact ze8
 have hyes : okVal x.Values[k] = true := by simpa [okVal] using hbb
 refine zeh ?_
 exact zei
 have hall : x.Values.all okVal = true := all_end (by rw [show x.Values.length = k by omega]; exact ha)
 refine zej ?_
 refine rA ?_ (x := lF fd_66_0)
 refine zek ?_
 refine rM ?_
 refine cx 21 (fun ga sga => ?_) (fun ga sga => ?_)
 exact zeb
 refine zec ?_
 exact zed
theorem impl_allRows {p1 : Fl} {x : List Row}  : SCall Tryz.prog 192 [(false, [sl .v (x.map (cRow p1))])] (resRV [(false, [val (.bool (x.all okRow))])]) := by
 refine sF Tryz.func192 fun h0 w0 Fz0 => ?_
 refine sj 0 fun hl0 => ?_
 refine zbu ?_
 refine zbe ?_
 refine rA ?_ (x := lN sl_93)
 refine ze0 ?_
 refine sP [0, 2, 5, 6, 7] [] ?_
 refine sL [0, 5, 6] [] (fun k : Nat => k ≤ x.length ∧ (x.take k).all okRow = true) (fun k : Nat => [(7, RV.int (k : Int))]) (fun k : Nat => []) (fun k : Nat => x.length - k) 0 (by exact ⟨by omega, by simp⟩) (by exact aI (by exact rfl) (tI)) (by exact ⟨⟩) ?_
 rintro k ⟨hk, ha⟩
 refine ze1 ?_
 refine sc (fun hba => ?_) (fun hba => ?_)
 have hlt : k < x.length := by omega
 refine zdl ?_
 refine sS [0, 5, 6, 7] [] ?_
 refine zel ?_
 refine zem ?_
 refine sT [0, 4, 5, 6, 7] [4] ?_
 refine zen ?_
 refine rA ?_ (x := nT)
 refine sc (fun hbb => ?_) (fun hbb => ?_)
 have hno : okRow x[k] = false := by simpa [] using hbb
 refine sS [0, 4, 5, 6, 7] [4] ?_
 refine zeo ?_
 exact rb (by simp [id, all_no (P := okRow) hlt hno])
 have hyes : okRow x[k] = true := by simpa [] using hbb
 refine sw_skip ?_
 refine sG [0, 4, 5, 6, 7] [4] ?_
 exact ze9
 have hall : x.all okRow = true := all_end (by rw [show x.length = k by omega]; exact ha)
 refine sw_exit ?_
 refine sS [0, 5, 6, 7] [] ?_
 refine zeo ?_
 exact rb (by simp [id, hall, *])
theorem impl_resultOk {p1 : Fl} {x : List Row}  : SCall Tryz.prog 118 [(false, [sl .v (x.map (cRow p1))])] (resRV [(false, [val (.bool (okRows x))])]) := by
 refine sF Tryz.func118 fun h0 w0 Fz0 => ?_
 refine sj 0 fun hl0 => ?_
 refine sR ?_
 refine rK ?_
 refine zbe ?_
 refine rA ?_ (x := lN sl_93)
 refine rA ?_ (x := B_leq)
 refine rM ?_
 refine cx 6 (fun ga sga => ?_) (fun ga sga => ?_)
 refine rB ga ?_ (x := vM false [sl .v _])
 refine rB ga ?_ (x := cL [(false, [sl _ _])] [(false, [sl .v _])] c_192 (hs := by exact impl_allRows))
 refine rA ?_ (x := pkT ga)
 exact zep
 refine zec ?_
 exact zep
theorem spec_l9List {p1 : Fl} {x : List Row}  : SCall Tryz.prog 101 [(false, [sl .v (x.map (cRow p1))])] (resRV [(false, [val (.bool (okRows x))])]) := by
 refine sF Tryz.func101 fun h0 w0 Fz0 => ?_
 refine sj 0 fun hl0 => ?_
 refine zeq ?_
 refine zer ?_
 refine sL [0] [] (fun k : Nat => k ≤ x.length ∧ (x.take k).all okRow = true) (fun k : Nat => [(3, RV.int (k : Int))]) (fun k : Nat => []) (fun k : Nat => x.length - k) 0 (by exact ⟨by omega, by simp⟩) (by exact aI (by exact rfl) (tI)) (by exact ⟨⟩) ?_
 rintro k ⟨hk, ha⟩
 refine zae ?_
 refine zco ?_
 refine sc (fun hba => ?_) (fun hba => ?_)
 have hlt : k < x.length := by omega
 refine zdl ?_
 refine sS [0, 3] [] ?_
 refine zds ?_
 refine zes ?_
 refine rA ?_ (x := nT)
 refine sc (fun hbb => ?_) (fun hbb => ?_)
 have hno : okRow x[k] = false := by simpa [] using hbb
 refine sS [0, 3] [] ?_
 refine zeo ?_
 exact rb (by simp [okRows, all_no (P := okRow) hlt hno])
 have hyes : okRow x[k] = true := by simpa [] using hbb
 refine zet ?_
 exact zei
 have hall : x.all okRow = true := all_end (by rw [show x.length = k by omega]; exact ha)
 refine zeu ?_
 refine zcn ?_
 refine rA ?_ (x := B_leq)
 refine zev ?_
 exact rb (by simp [okRows, hall, *])
end Go.Proofs.YteflgldonmgejaaGreat
