/- What functions of the program compute. No condition. -/
import Derived.Test.YtmkhofdkdklpdaaGreatCZMFnFailures
import Derived.Test.YtmkhofdkdklpdaaGreatCFcFnFailures
import Derived.Test.YtmkhofdkdklpdaaGreatCDrcFnFailures
import Derived.KernelRfl
set_option linter.unusedVariables false
set_option linter.unusedSimpArgs false
namespace Go.Proofs.YtmkhofdkdklpdaaGreat
open Go Go.RowKit M PV
set_option maxRecDepth 10000
attribute [local irreducible] PV.Lcl PV.LclR RV.Lcl
theorem laws_big {x : List Int}  : SCall Tryz.prog 5 [(false, [sl .v (x.map cU8)])] (resRV [(false, [val (.bool (decide (1048576 < (x.length : Int))))])]) := by
 refine sF Tryz.func5 fun h0 w0 Fz0 => ?_
 refine sj 0 fun hl0 => ?_
 refine za0 ?_
 refine za1 ?_
 refine rA ?_ (x := lN sl_22)
 refine rA ?_ (x := B_gtr)
 exact zdb
theorem same_Ints {x : List Int} {y : List Int}  : SCall Tryz.prog 27 [(false, [sl .v (x.map cInt)]), (false, [sl .v (y.map cInt)])] (resRV [(false, [val (.bool (deq x y))])]) := by
 refine sF Tryz.func27 fun h0 w0 Fz0 => ?_
 refine sj 0 fun hl0 => ?_
 refine sj 1 fun hl1 => ?_
 refine zbj ?_
 refine zam ?_
 refine zam ?_
 refine rA ?_ (x := B_neq)
 refine sc (fun hba => ?_) (fun hba => ?_)
 refine sS [0, 1, 4] [] ?_
 refine zce ?_
 exact rb (by exact (deq_false (fun e => by subst e; omega)).symm)
 have hl : x.length = y.length := by omega
 refine zct ?_
 refine zas ?_
 refine zcu ?_
 rintro k ⟨hk, ha⟩
 refine zbk ?_
 refine sc (fun hbb => ?_) (fun hbb => ?_)
 have hlt : k < x.length := by omega
 have hlt2 : k < y.length := by omega
 refine zat ?_
 refine zcv ?_
 refine zcw ?_
 refine zcx ?_
 refine zcy ?_
 refine sc (fun hbc => ?_) (fun hbc => ?_)
 have hne : x[k] ≠ y[k] := by simpa using hbc
 refine sS [0, 1, 5] [] ?_
 exact zd9
 have heq : x[k] = y[k] := by simpa using hbc
 refine zbo ?_
 refine za8 ?_
 exact zda
 exact zd1
end Go.Proofs.YtmkhofdkdklpdaaGreat
