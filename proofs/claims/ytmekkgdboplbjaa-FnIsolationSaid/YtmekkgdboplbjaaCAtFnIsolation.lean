/- What functions of the program compute. No condition. -/
import Derived.Test.YtmekkgdboplbjaaCZMFnIsolation
import Derived.Test.YtmekkgdboplbjaaCFcFnIsolation
import Derived.Test.YtmekkgdboplbjaaCDb
import Derived.Test.YtmekkgdboplbjaaCDat
import Derived.KernelRfl
set_option linter.unusedVariables false
set_option linter.unusedSimpArgs false
namespace Go.Proofs.Ytmekkgdboplbjaa
open Go Go.RowKit M PV
set_option maxRecDepth 10000
attribute [local irreducible] PV.Lcl PV.LclR RV.Lcl
theorem FAt_ui_3 : Try.prog.underlying 3 = some (.int .i64) := by kernel_rfl
theorem FAt_ui_5 : Try.prog.underlying 5 = some (.int .u8) := by kernel_rfl
theorem laws_at {code : List Int} {i : Int}  (hi : 0 ≤ i ∧ i ≤ 1000) (hb : code.length ≤ 1048576) : SCall Try.prog 6 [(false, [sl .v (code.map cU8)]), (false, [val (vI i)])] (resRV [(false, [val (vI (atB code i))])]) := by
 refine sF Try.func6 fun h0 w0 Fz0 => ?_
 refine sj 0 fun hl0 => ?_
 refine za2 ?_
 refine rM ?_
 refine zjy ?_
 refine rA ?_ (x := B_lss)
 refine sc (fun hba => ?_) (fun hba => ?_)
 have hlt : i.toNat < code.length := by omega
 have hr := atB_yes (code := code) (i := i) hba
 refine sS [0, 1, 4] [] ?_
 refine zeh ?_
 refine rA ?_ (x := loc_index (k := i.toNat) (by decide) sl_22 (by exact ⟨⟩) (by omega) (by exact getm2 hlt (by rw [gDt_ (d := (0 : Int)) hlt])) (by exact rfl))
 refine rA ?_ (x := lE [val _] ty_5)
 refine rA ?_ (x := loc_conv FAt_ui_5 FAt_ui_3 rfl)
 exact zkv
 have hr := atB_no (code := code) (i := i) hba
 refine sw_skip ?_
 refine sS [0, 1, 4] [] ?_
 refine rM ?_
 refine rA ?_ (x := loc_mul (by decide) (by exact ⟨⟩) (ok_sc rfl) (by unfold I64; omega))
 refine zjy ?_
 refine rA ?_ (x := loc_mul (by decide) (by exact ⟨⟩) (ok_sc rfl) (by unfold I64; omega))
 refine rA ?_ (x := B_add)
 refine rA ?_ (x := loc_rem (by decide) (by exact ⟨⟩) (ok_sc rfl) (by omega))
 exact zkv
end Go.Proofs.Ytmekkgdboplbjaa
