/- What functions of the program compute. No condition. -/
import Derived.Test.YtdoabhihpclliaaCDrwFnDeliveries
import Derived.Test.YtdoabhihpclliaaCDx
import Derived.Test.YtdoabhihpclliaaCSendFnDeliveries
import Derived.KernelRfl
set_option linter.unusedVariables false
set_option linter.unusedSimpArgs false
namespace Go.Proofs.Ytdoabhihpclliaa
open Go Go.RowKit M
set_option maxRecDepth 10000
attribute [local irreducible] PV.Lcl PV.LclR RV.Lcl
attribute [local irreducible] belowC byteC
theorem FDrx_c_19 : callI Try.prog 19 = true := by kernel_rfl
theorem FDrx_c_35 : callI Try.prog 35 = true := by kernel_rfl
theorem FDrx_c_36 : callI Try.prog 36 = true := by kernel_rfl
theorem spec_DrawDeliverAll {code : List Int}  (hb : code.length ≤ 9223372036854775807) (hb2 : code.length ≤ 4611686018427387904) : SCall Try.prog 13 [(false, [PV.sl .v (code.map cU8)])] (resRV [(false, [PV.sl (.own 29 2) ((drDeliver code hb).1.map (cRow (.own 3 1)))]), (false, [PV.sl (.own 3 1) ((drDeliver code hb).2.map cInt)])]) := by
 refine scall_of (rs := [(false, [PV.sl (.own 29 2) ((drDeliver code hb).1.map (cRow (.own 3 1)))]), (false, [PV.sl (.own 3 1) ((drDeliver code hb).2.map cInt)])]) Try.func13 rfl (Nat.le_of_ble_eq_true rfl) (borA_cons (BorL.cons (PV.bor_sl _) BorL.nil) borA_nil) ?_
 intro h0 w0 Fz0
 refine sw_len (s := 0) rfl fun hl0 => ?_
 try rw [List.length_map] at hl0
 have hpw := pairC_wt (curNew code hb)
 have hg3 := belowC_ge (pairC (curNew code hb)).2 3
 have hl3 := belowC_lt (pairC (curNew code hb)).2 (n := 3) (by decide)
 refine sw_seq ?_
 refine sw_reg ?_
 refine rA ?_ (x := loc_const (.inr rfl) (by decide) (ok_nil (t := 29) (e := 2)))
 refine rA ?_ (x := loc_const (.inr rfl) (by decide) (ok_nil (t := 3) (e := 1)))
 refine sw_seq ?_
 refine sO [(0, _), (2, _), (3, _)] [] ?_
 refine sw_reg ?_
 refine rA ?_ (x := vM false [PV.sl .v _])
 refine RunS.step (by exact ⟨rfl, ⟨⟩⟩) (by exact ⟨⟩) (LocG.of rfl (loc_ncall (qs := [(false, [PV.sl _ _])]) (as_ := [(false, [PV.sl .v _])]) (by decide) FDrx_c_19 (by exact (And.intro (by exact ⟨⟩) True.intro)) (by exact (And.intro (And.intro rfl (ToL.cons PV.to_none ToL.nil)) True.intro)) (by exact (n_l1New hb hb2)))) (free1 (Free.app (Free.of_ rfl) rfl)) ?_
 refine rA ?_ (x := cA Cp.ptr)
 refine sw_seq ?_
 refine sO [(0, _), (2, _), (3, _), (4, _)] [(7, (65, [PV.sl _ _, PV.val _, PV.val _]))] ?_
 refine sw_reg ?_
 refine rA ?_ (x := cM Cp.ptr)
 refine rA ?_ (x := loc_xcall0 (bx := 7) (qs := []) (as_ := []) (by decide) FDrx_c_35 rfl (by exact ⟨⟩) (by exact ⟨⟩) (by exact (BorL.cons (PV.bor_sl _) (BorL.cons (PV.bor_val _) (BorL.cons (PV.bor_val _) BorL.nil)))) (by exact borA_nil) (by exact x_l3AnyRows))
 refine rA ?_ (x := tA)
 refine sw_seq ?_
 refine sO [(0, _), (2, _), (3, _), (4, _), (5, _)] [(7, _)] ?_
 refine sw_reg ?_
 refine rA ?_ (x := tM)
 refine rA ?_ (x := cM Cp.ptr)
 refine rA ?_ (x := loc_xcall0 (bx := 7) (qs := []) (as_ := []) (by decide) FDrx_c_36 rfl (by exact ⟨⟩) (by exact ⟨⟩) (by exact (BorL.cons (PV.bor_sl _) (BorL.cons (PV.bor_val _) (BorL.cons (PV.bor_val _) BorL.nil)))) (by exact borA_nil) (by exact x_l17Fates))
 refine rA ?_ (x := tA)
 refine rA ?_ (x := tA)
 refine sw_ret ?_
 exact (And.intro (by exact rfl) (And.intro (by exact rfl) True.intro))
end Go.Proofs.Ytdoabhihpclliaa
