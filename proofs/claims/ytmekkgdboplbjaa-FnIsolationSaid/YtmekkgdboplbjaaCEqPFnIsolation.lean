/- What functions of the program compute. No condition. -/
import Derived.Test.YtmekkgdboplbjaaCZMFnIsolation
import Derived.Test.YtmekkgdboplbjaaCFcFnIsolation
import Derived.Test.YtmekkgdboplbjaaCProgFnIsolation
import Derived.KernelRfl
set_option linter.unusedVariables false
set_option linter.unusedSimpArgs false
namespace Go.Proofs.Ytmekkgdboplbjaa
open Go Go.RowKit M PV
set_option maxRecDepth 10000
attribute [local irreducible] PV.Lcl PV.LclR RV.Lcl
theorem spec_l2Ints {x : List Int} {y : List Int}  : SCall Try.prog 65 [(false, [sl .v (x.map cInt)]), (false, [sl .v (y.map cInt)])] (resRV [(false, [val (.bool (deq x y))])]) := by
 refine sF Try.func65 fun h0 w0 Fz0 => ?_
 refine sj 0 fun hl0 => ?_
 refine sj 1 fun hl1 => ?_
 refine za2 ?_
 refine za3 ?_
 refine za3 ?_
 refine rA ?_ (x := B_neq)
 refine sc (fun hba => ?_) (fun hba => ?_)
 exact zio
 have hl : x.length = y.length := by omega
 refine zip ?_
 refine zao ?_
 refine ziq ?_
 rintro k ⟨hk, ha⟩
 refine zap ?_
 refine za3 ?_
 refine rA ?_ (x := B_lss)
 refine sc (fun hbb => ?_) (fun hbb => ?_)
 have hlt : k < x.length := by omega
 have hlt2 : k < y.length := by omega
 refine zdn ?_
 refine sP [0, 1, 5] [] ?_
 refine zdl ?_
 refine zir ?_
 refine zdo ?_
 refine zis ?_
 refine dA 255 ?_ (x := B_neq)
 refine sc (fun hbc => ?_) (fun hbc => ?_)
 refine sS [0, 1, 5] [] ?_
 exact zit
 refine sw_skip ?_
 refine sG [0, 1, 5] [] ?_
 refine zdb ?_
 exact ziu
 refine sw_exit ?_
 refine sS [0, 1, 5] [] ?_
 exact ziv
theorem impl_sameInts {x : List Int} {y : List Int}  : SCall Try.prog 86 [(false, [sl .v (x.map cInt)]), (false, [sl .v (y.map cInt)])] (resRV [(false, [val (.bool (deq x y))])]) := by
 refine sF Try.func86 fun h0 w0 Fz0 => ?_
 refine sj 0 fun hl0 => ?_
 refine sj 1 fun hl1 => ?_
 refine za2 ?_
 refine za3 ?_
 refine za3 ?_
 refine rA ?_ (x := B_neq)
 refine sc (fun hba => ?_) (fun hba => ?_)
 exact zio
 have hl : x.length = y.length := by omega
 refine zip ?_
 refine za3 ?_
 refine za4 ?_
 refine ziw ?_
 rintro k ⟨hk, ha⟩
 refine za5 ?_
 refine sc (fun hbb => ?_) (fun hbb => ?_)
 have hlt : k < x.length := by omega
 have hlt2 : k < y.length := by omega
 refine za6 ?_
 refine sS [0, 1, 12, 13] [] ?_
 refine rM ?_
 refine zca ?_
 refine sP [0, 1, 5, 12, 13] [] ?_
 refine zdl ?_
 refine zir ?_
 refine zdo ?_
 refine zis ?_
 refine dA 255 ?_ (x := B_neq)
 refine sc (fun hbc => ?_) (fun hbc => ?_)
 refine sS [0, 1, 5, 12, 13] [] ?_
 exact zit
 refine sw_skip ?_
 refine sG [0, 1, 5, 12, 13] [] ?_
 refine zaa ?_
 exact ziu
 exact zix
theorem impl_equalRow {x : Row} {y : Row}  : SCall Try.prog 87 [(true, [val (vI x.Id), sl .v (x.Values.map cInt)]), (true, [val (vI y.Id), sl .v (y.Values.map cInt)])] (resRV [(false, [val (.bool (deq x y))])]) := by
 refine sF Try.func87 fun h0 w0 Fz0 => ?_
 refine sn 0 1 fun hl0_1 => ?_
 refine sn 1 1 fun hl1_1 => ?_
 refine ziy ?_
 refine zcw ?_
 refine zhb ?_
 refine zhb ?_
 refine zc0 ?_
 refine cx 10 (fun ga sga => ?_) (fun ga sga => ?_)
 refine zc8 ?_
 refine zc8 ?_
 refine rB ga ?_ (x := cL [(false, [sl _ _]), (false, [sl _ _])] [(false, [sl .v _]), (false, [sl .v _])] c_86 (hs := by exact impl_sameInts))
 refine rA ?_ (x := pkT ga)
 exact ziz
 refine zam ?_
 exact ziz
theorem spec_l3Same {x : Row} {y : Row}  : SCall Try.prog 33 [(true, [val (vI x.Id), sl .v (x.Values.map cInt)]), (true, [val (vI y.Id), sl .v (y.Values.map cInt)])] (resRV [(false, [val (.bool (deq x y))])]) := by
 refine sF Try.func33 fun h0 w0 Fz0 => ?_
 refine sn 0 1 fun hl0_1 => ?_
 refine sn 1 1 fun hl1_1 => ?_
 refine ziy ?_
 refine zcw ?_
 refine zhb ?_
 refine zhb ?_
 refine zc0 ?_
 refine cx 10 (fun ga sga => ?_) (fun ga sga => ?_)
 refine zc8 ?_
 refine zc8 ?_
 refine rB ga ?_ (x := cL [(false, [sl _ _]), (false, [sl _ _])] [(false, [sl .v _]), (false, [sl .v _])] c_65 (hs := by exact spec_l2Ints))
 refine rA ?_ (x := pkT ga)
 exact ziz
 refine zam ?_
 exact ziz
theorem spec_EqualRows {p1 p3 : Fl} {x : List Row} {y : List Row}  : SCall Try.prog 12 [(false, [sl .v (x.map (cRow p1))]), (false, [sl .v (y.map (cRow p3))])] (resRV [(false, [val (.bool (deq x y))])]) := by
 refine sF Try.func12 fun h0 w0 Fz0 => ?_
 refine sj 0 fun hl0 => ?_
 refine sj 1 fun hl1 => ?_
 refine za2 ?_
 refine zau ?_
 refine zau ?_
 refine rA ?_ (x := B_neq)
 refine sc (fun hba => ?_) (fun hba => ?_)
 exact zio
 have hl : x.length = y.length := by omega
 refine zip ?_
 refine zao ?_
 refine ziq ?_
 rintro k ⟨hk, ha⟩
 refine zap ?_
 refine zau ?_
 refine rA ?_ (x := B_lss)
 refine sc (fun hbb => ?_) (fun hbb => ?_)
 have hlt : k < x.length := by omega
 have hlt2 : k < y.length := by omega
 refine zdn ?_
 refine sP [0, 1, 5] [] ?_
 refine zdl ?_
 refine zj0 ?_
 refine zdo ?_
 refine dA 48 ?_ (x := loc_index (by decide) sl_52 (by exact ⟨⟩) (by exact rfl) (by exact getm2 (by omega) rfl) (by exact rfl))
 refine dA 112 ?_ (x := lE [val _, sl .v _] ty_45)
 refine dA 255 ?_ (x := cL [(true, [val _, sl _ _]), (true, [val _, sl _ _])] [(true, [val _, sl .v _]), (true, [val _, sl .v _])] c_33 (hs := by exact spec_l3Same))
 refine dA 511 ?_ (x := nT)
 refine sc (fun hbc => ?_) (fun hbc => ?_)
 refine sS [0, 1, 5] [] ?_
 exact zit
 refine sw_skip ?_
 refine sG [0, 1, 5] [] ?_
 refine zdb ?_
 refine nx (k + 1) (by exact ⟨by omega, eq_succ ha hlt hlt2 (by first | (simp_all [deq_iff]; done) | (apply deq_iff.1; simp_all))⟩)
 refine sw_exit ?_
 refine sS [0, 1, 5] [] ?_
 exact ziv
end Go.Proofs.Ytmekkgdboplbjaa
