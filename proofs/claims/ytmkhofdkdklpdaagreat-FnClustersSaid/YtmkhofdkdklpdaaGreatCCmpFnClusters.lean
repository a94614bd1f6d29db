/- What functions of the program compute. No condition. -/
import Derived.Test.YtmkhofdkdklpdaaGreatCZMFnClusters
import Derived.Test.YtmkhofdkdklpdaaGreatCFcFnClusters
import Derived.Test.YtmkhofdkdklpdaaGreatCEqPFnClusters
import Derived.Test.YtmkhofdkdklpdaaGreatCDs
import Derived.Test.YtmkhofdkdklpdaaGreatCSrtFnClusters
import Derived.KernelRfl
set_option linter.unusedVariables false
set_option linter.unusedSimpArgs false
namespace Go.Proofs.YtmkhofdkdklpdaaGreat
open Go Go.RowKit M PV
set_option maxRecDepth 10000
attribute [local irreducible] PV.Lcl PV.LclR RV.Lcl
theorem cmp_Compare {x : Int} {y : Int}  : SCall Tryz.prog 98 [(false, [val (vI x)]), (false, [val (vI y)])] (resRV [(false, [val (vI (cmpI x y))])]) := by
 refine sF Tryz.func98 fun h0 w0 Fz0 => ?_
 refine za0 ?_
 refine sS [0, 1, 4] [] ?_
 refine zig ?_
 refine rS ?_
 refine sS [0, 1, 4, 5] [] ?_
 refine zig ?_
 refine za2 ?_
 refine sS [0, 1, 4, 5, 6] [] ?_
 refine rM ?_
 refine sc (fun hba => ?_) (fun hba => ?_)
 refine sw_seq ?_
 refine sS [0, 1, 4, 5, 6] [] ?_
 refine rM ?_
 refine sc (fun hbb => ?_) (fun hbb => ?_)
 exact zks
 refine sw_skip ?_
 exact zks
 refine zaj ?_
 refine sS [0, 1, 4, 5, 6] [] ?_
 refine rM ?_
 refine sc (fun hbb => ?_) (fun hbb => ?_)
 exact zks
 refine zaj ?_
 refine sS [0, 1, 4, 5, 6] [] ?_
 refine zkq ?_
 refine sc (fun hbc => ?_) (fun hbc => ?_)
 exact zks
 refine zaj ?_
 refine sS [0, 1, 4, 5, 6] [] ?_
 refine zkb ?_
 refine sc (fun hbd => ?_) (fun hbd => ?_)
 exact zks
 refine sw_skip ?_
 exact zks
theorem sl_Compare {x : List Int} {y : List Int}  : SCall Tryz.prog 83 [(false, [sl .v (x.map cInt)]), (false, [sl .v (y.map cInt)])] (resRV [(false, [val (vI (cmpL x y))])]) := by
 refine sF Tryz.func83 fun h0 w0 Fz0 => ?_
 refine sj 0 fun hl0 => ?_
 refine sj 1 fun hl1 => ?_
 refine zbl ?_
 refine zam ?_
 refine zbm ?_
 refine sP [0, 1, 4, 9, 10, 11] [] ?_
 refine sL [0, 1, 9, 10] [] (fun k : Nat => k ≤ x.length ∧ (k ≤ y.length ∧ cmpL x y = cmpL (x.drop k) (y.drop k))) (fun k : Nat => [(11, RV.int (k : Int))]) (fun k : Nat => []) (fun k : Nat => x.length - k) 0 (by exact ⟨by omega, ⟨Nat.zero_le _, rfl⟩⟩) (by exact aI (by exact rfl) (tI)) (by exact ⟨⟩) ?_
 rintro k ⟨hk, ha⟩
 refine zbn ?_
 refine sc (fun hba => ?_) (fun hba => ?_)
 have hlt : k < x.length := by omega
 refine za6 ?_
 refine sS [0, 1, 9, 10, 11] [] ?_
 refine rM ?_
 refine zbo ?_
 refine za2 ?_
 refine sS [0, 1, 5, 6, 9, 10, 11] [] ?_
 refine rM ?_
 refine zam ?_
 refine rA ?_ (x := B_geq)
 refine sc (fun hbb => ?_) (fun hbb => ?_)
 have hy3 : y.length ≤ k := by omega
 refine sS [0, 1, 5, 6, 9, 10, 11] [] ?_
 refine zcd ?_
 exact (aI (by refine int_eq ?_; exact (ha.2.trans (cmpL_long hlt hy3)).symm) tI)
 have hy2 : k + 1 ≤ y.length := by omega
 refine sw_skip ?_
 refine sS [0, 1, 5, 6, 9, 10, 11] [] ?_
 refine za7 ?_
 refine zbo ?_
 refine sS [0, 1, 5, 6, 7, 9, 10, 11] [] ?_
 refine zbp ?_
 refine rA ?_ (x := cL [(false, [val _]), (false, [val _])] [(false, [val _]), (false, [val _])] c_98 (hs := by exact cmp_Compare))
 refine rS ?_
 refine sS [0, 1, 5, 6, 7, 8, 9, 10, 11] [] ?_
 refine rM ?_
 refine rA ?_ (x := B_neq)
 refine sc (fun hbc => ?_) (fun hbc => ?_)
 have hne : ¬ cmpI x[k] y[k] = 0 := by simpa using hbc
 refine sS [0, 1, 5, 6, 7, 8, 9, 10, 11] [] ?_
 refine rM ?_
 refine zan ?_
 exact (aI (by refine int_eq ?_; exact (ha.2.trans (cmpL_ne hlt (by omega) hne)).symm) tI)
 have heq : cmpI x[k] y[k] = 0 := by simpa using hbc
 have hst : cmpL (x.drop k) (y.drop k) = cmpL (x.drop (k + 1)) (y.drop (k + 1)) := cmpL_eq hlt (by omega) (cmpI_eq heq)
 refine sw_skip ?_
 refine sG [0, 1, 5, 6, 7, 8, 9, 10, 11] [] ?_
 refine zbr ?_
 exact zkt
 have hend : k = x.length := by omega
 refine zay ?_
 refine sS [0, 1, 9, 10, 11] [] ?_
 refine zam ?_
 refine zcv ?_
 refine sc (fun hbb => ?_) (fun hbb => ?_)
 have hs3 : k < y.length := by omega
 refine sS [0, 1, 9, 10, 11] [] ?_
 refine zcd ?_
 exact (aI (by refine int_eq ?_; exact (ha.2.trans (cmpL_short (by omega) hs3)).symm) tI)
 have hs4 : y.length ≤ k := by omega
 refine sw_skip ?_
 refine sS [0, 1, 9, 10, 11] [] ?_
 refine zcd ?_
 exact (aI (by refine int_eq ?_; exact (ha.2.trans (cmpL_both (by omega) hs4)).symm) tI)
theorem impl_SortRows_1 {x : Row} {y : Row}  : SCall Tryz.prog 82 [(true, [val (vI x.Id), sl .v (x.Values.map cInt)]), (true, [val (vI y.Id), sl .v (y.Values.map cInt)])] (resRV [(false, [val (vI (cmpRow (x, y)))])]) := by
 refine sF Tryz.func82 fun h0 w0 Fz0 => ?_
 refine sn 0 1 fun hl0_1 => ?_
 refine sn 1 1 fun hl1_1 => ?_
 refine zd6 ?_
 refine zby ?_
 refine sw_block ?_
 refine sT [2, 3, 4] [2, 3] ?_
 refine zd7 ?_
 refine rA ?_ (x := B_lss)
 refine rS ?_
 refine sc (fun hba => ?_) (fun hba => ?_)
 refine sS [2, 3, 4] [2, 3] ?_
 refine rK ?_
 exact zku
 refine sS [2, 3, 4] [2, 3] ?_
 refine zd7 ?_
 refine rA ?_ (x := B_gtr)
 refine rS ?_
 refine sc (fun hbb => ?_) (fun hbb => ?_)
 refine sS [2, 3, 4] [2, 3] ?_
 refine rK ?_
 exact zku
 refine sw_skip ?_
 refine sS [2, 3, 4] [2, 3] ?_
 refine zbz ?_
 refine zbz ?_
 refine rA ?_ (x := cL [(false, [sl _ _]), (false, [sl _ _])] [(false, [sl .v _]), (false, [sl .v _])] c_83 (hs := by exact sl_Compare))
 refine rS ?_
 exact zku
theorem spec_l3LessInts {x : List Int} {y : List Int}  : SCall Tryz.prog 99 [(false, [sl .v (x.map cInt)]), (false, [sl .v (y.map cInt)])] (resRV [(false, [val (.bool (decide (cmpL x y < 0)))])]) := by
 refine sF Tryz.func99 fun h0 w0 Fz0 => ?_
 refine sj 0 fun hl0 => ?_
 refine sj 1 fun hl1 => ?_
 refine zbl ?_
 refine zas ?_
 refine sP [0, 1, 4, 5] [] ?_
 refine sL [0, 1] [] (fun k : Nat => k ≤ x.length ∧ (k ≤ y.length ∧ cmpL x y = cmpL (x.drop k) (y.drop k))) (fun k : Nat => [(5, RV.int (k : Int))]) (fun k : Nat => []) (fun k : Nat => x.length - k) 0 (by exact ⟨by omega, ⟨Nat.zero_le _, rfl⟩⟩) (by exact aI (by exact rfl) (tI)) (by exact ⟨⟩) ?_
 rintro k ⟨hk, ha⟩
 refine za4 ?_
 refine zcv ?_
 refine rM ?_
 refine cx 10 (fun ga sga => ?_) (fun ga sga => ?_)
 refine rB ga ?_ (x := sM)
 refine rB ga ?_ (x := vM false [sl .v _])
 refine rB ga ?_ (x := lN sl_25)
 refine za5 ?_
 refine sc (fun hba => ?_) (fun hba => ?_)
 have hlt : k < x.length := by omega
 have hy2 : k + 1 ≤ y.length := by omega
 refine zau ?_
 refine zcw ?_
 refine zcx ?_
 refine zcy ?_
 refine zcx ?_
 refine zcz ?_
 refine dA 255 ?_ (x := B_neq)
 refine sc (fun hbb => ?_) (fun hbb => ?_)
 have hne : ¬ cmpI x[k] y[k] = 0 := fun h_ => hbb (cmpI_eq h_)
 have hrr := ha.2.trans (cmpL_ne hlt (by omega) hne)
 refine sw_seq ?_
 refine zcw ?_
 refine zcx ?_
 refine zcy ?_
 refine zcx ?_
 refine zcz ?_
 refine dA 255 ?_ (x := B_lss)
 refine dA 511 ?_ (x := sA)
 refine sw_ret ?_
 exact rb (by rw [hrr]; unfold cmpI lexI; rw [decide_eq_decide]; repeat' split; all_goals omega)
 have hst : cmpL (x.drop k) (y.drop k) = cmpL (x.drop (k + 1)) (y.drop (k + 1)) := cmpL_eq hlt (by omega) (by simpa using hbb)
 refine zd1 ?_
 refine za8 ?_
 exact zkt
 exact zkv
 refine zaa ?_
 refine scF ?_
 exact zkv
theorem spec_l3Less {x : Row} {y : Row}  : SCall Tryz.prog 84 [(true, [val (vI x.Id), sl .v (x.Values.map cInt)]), (true, [val (vI y.Id), sl .v (y.Values.map cInt)])] (resRV [(false, [val (.bool (lessQ cmpRow x y))])]) := by
 refine sF Tryz.func84 fun h0 w0 Fz0 => ?_
 refine sn 0 1 fun hl0_1 => ?_
 refine sn 1 1 fun hl1_1 => ?_
 refine zd6 ?_
 refine zeb ?_
 refine zd7 ?_
 refine rA ?_ (x := B_neq)
 refine sc (fun hba => ?_) (fun hba => ?_)
 refine sS [2, 3, 4] [2, 3] ?_
 refine zd7 ?_
 refine rA ?_ (x := B_lss)
 exact zkw
 refine sw_skip ?_
 refine sS [2, 3, 4] [2, 3] ?_
 refine zbz ?_
 refine zbz ?_
 refine rA ?_ (x := cL [(false, [sl _ _]), (false, [sl _ _])] [(false, [sl .v _]), (false, [sl .v _])] c_99 (hs := by exact spec_l3LessInts))
 exact zkw
end Go.Proofs.YtmkhofdkdklpdaaGreat
