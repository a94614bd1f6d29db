/- What functions of the program compute. No condition. -/
import Derived.Test.YteflgldonmgejaaGreatCZMRunAdaptive
import Derived.Test.YteflgldonmgejaaGreatCFcRunAdaptive
import Derived.Test.YteflgldonmgejaaGreatCProgRunAdaptive
import Derived.KernelRfl
set_option linter.unusedVariables false
set_option linter.unusedSimpArgs false
namespace Go.Proofs.YteflgldonmgejaaGreat
open Go Go.RowKit M PV
set_option maxRecDepth 10000
attribute [local irreducible] PV.Lcl PV.LclR RV.Lcl
theorem spec_l2Ints {x : List Int} {y : List Int}  : SCall Tryz.prog 223 [(false, [sl .v (x.map cInt)]), (false, [sl .v (y.map cInt)])] (resRV [(false, [val (.bool (deq x y))])]) := by
 refine sF Tryz.func223 fun h0 w0 Fz0 => ?_
 refine sj 0 fun hl0 => ?_
 refine sj 1 fun hl1 => ?_
 refine zcd ?_
 refine zce ?_
 refine zcf ?_
 refine sc (fun hba => ?_) (fun hba => ?_)
 exact zjh
 have hl : x.length = y.length := by omega
 refine zch ?_
 rintro k ⟨hk, ha⟩
 refine zb2 ?_
 refine sc (fun hbb => ?_) (fun hbb => ?_)
 have hlt : k < x.length := by omega
 have hlt2 : k < y.length := by omega
 refine zci ?_
 refine zcj ?_
 refine zck ?_
 refine zcl ?_
 refine dA 255 ?_ (x := B_neq)
 refine sc (fun hbc => ?_) (fun hbc => ?_)
 exact zji
 refine zaj ?_
 exact zjj
 exact zco
theorem impl_sameInts {x : List Int} {y : List Int}  : SCall Tryz.prog 217 [(false, [sl .v (x.map cInt)]), (false, [sl .v (y.map cInt)])] (resRV [(false, [val (.bool (deq x y))])]) := by
 refine sF Tryz.func217 fun h0 w0 Fz0 => ?_
 refine sj 0 fun hl0 => ?_
 refine sj 1 fun hl1 => ?_
 refine zcd ?_
 refine zce ?_
 refine zcf ?_
 refine sc (fun hba => ?_) (fun hba => ?_)
 exact zjh
 have hl : x.length = y.length := by omega
 refine zf2 ?_
 refine zce ?_
 refine zfl ?_
 refine sP [0, 1, 4, 12, 13] [] ?_
 refine sL [0, 1, 12] [] (fun k : Nat => k ≤ x.length ∧ x.take k = y.take k) (fun k : Nat => [(13, RV.int (k : Int))]) (fun k : Nat => []) (fun k : Nat => x.length - k) 0 (by exact ⟨by omega, by simp⟩) (by exact aI (by exact rfl) (tI)) (by exact ⟨⟩) ?_
 rintro k ⟨hk, ha⟩
 refine zfm ?_
 refine sc (fun hbb => ?_) (fun hbb => ?_)
 have hlt : k < x.length := by omega
 have hlt2 : k < y.length := by omega
 refine zed ?_
 refine sS [0, 1, 12, 13] [] ?_
 refine rM ?_
 refine zjk ?_
 refine sP [0, 1, 5, 12, 13] [] ?_
 refine zi6 ?_
 refine zcj ?_
 refine zck ?_
 refine zcl ?_
 refine dA 255 ?_ (x := B_neq)
 refine sc (fun hbc => ?_) (fun hbc => ?_)
 refine sS [0, 1, 5, 12, 13] [] ?_
 exact zjl
 refine sw_skip ?_
 refine sG [0, 1, 5, 12, 13] [] ?_
 refine zfp ?_
 exact zjj
 refine sw_exit ?_
 refine sS [0, 1, 12, 13] [] ?_
 exact zjm
end Go.Proofs.YteflgldonmgejaaGreat
