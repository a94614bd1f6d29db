/- What functions of the program compute. No condition. -/
import Derived.Test.YtaomckpfgmhapaaCDrqFnTops
import Derived.KernelRfl
set_option linter.unusedVariables false
set_option linter.unusedSimpArgs false
namespace Go.Proofs.Ytaomckpfgmhapaa
open Go Go.RowKit M
set_option maxRecDepth 10000
attribute [local irreducible] PV.Lcl PV.LclR RV.Lcl
theorem laws_big {x : List Int}  : SCall Try.prog 5 [(false, [PV.sl .v (x.map cU8)])] (resRV [(false, [PV.val (.bool (decide (1048576 < (x.length : Int))))])]) := by
 refine scall_of (rs := [(false, [PV.val (.bool (decide (1048576 < (x.length : Int))))])]) Try.func5 rfl (Nat.le_of_ble_eq_true rfl) (borA_cons (BorL.cons (PV.bor_sl _) BorL.nil) borA_nil) ?_
 intro h0 w0 Fz0
 refine sw_len (s := 0) rfl fun hl0 => ?_
 try rw [List.length_map] at hl0
 refine sw_seq ?_
 refine sw_reg ?_
 refine rA ?_ (x := kA)
 refine sw_seq ?_
 refine sO [(0, _), (2, _)] [] ?_
 refine sw_reg ?_
 refine rA ?_ (x := vM false [PV.sl .v _])
 refine rA ?_ (x := lN sl_22)
 refine rA ?_ (x := B_gtr)
 refine rA ?_ (x := sA)
 refine sw_ret ?_
 exact (And.intro (by exact rfl) True.intro)
end Go.Proofs.Ytaomckpfgmhapaa
