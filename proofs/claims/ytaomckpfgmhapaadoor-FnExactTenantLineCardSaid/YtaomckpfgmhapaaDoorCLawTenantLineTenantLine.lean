/- What functions of the program compute. No condition. -/
import Derived.Test.YtaomckpfgmhapaaDoorCToTenantLine
import Derived.Test.YtaomckpfgmhapaaDoorCEqTenantLine
import Derived.Test.YtaomckpfgmhapaaDoorCTenTenantLine
import Derived.KernelRfl
set_option linter.unusedVariables false
set_option linter.unusedSimpArgs false
namespace Go.Proofs.YtaomckpfgmhapaaDoor
open Go Go.RowKit M
set_option maxRecDepth 10000
attribute [local irreducible] PV.Lcl PV.LclR RV.Lcl
theorem FLawTenantLine_c_10 : callI Tryd.prog 10 = true := by kernel_rfl
theorem FLawTenantLine_c_11 : callI Tryd.prog 11 = true := by kernel_rfl
theorem FLawTenantLine_c_7 : callI Tryd.prog 7 = true := by kernel_rfl
theorem FLawTenantLine_c_8 : callI Tryd.prog 8 = true := by kernel_rfl
theorem FLawTenantLine_c_9 : callI Tryd.prog 9 = true := by kernel_rfl
theorem FLawTenantLine_ty_22 : tyI Tryd.prog 22 = some (false, 1) := by kernel_rfl
theorem law_TenantLine {p1 p2 p3 : Fl} {aL : List Charge}  : GCall Tryd.prog gl 3 [(false, [PV.sl .v (aL.map (cCharge p1 p2 p3))])] (resRV [(false, [PV.val (.bool true)])]) := by
 refine gcall_of (rs := [(false, [PV.val (.bool true)])]) Tryd.func3 rfl (Nat.le_of_ble_eq_true rfl) (borA_cons (BorL.cons (PV.bor_sl _) BorL.nil) borA_nil) ?_
 intro h0 w0 Fz0
 refine sw_len (s := 0) rfl fun hl0 => ?_
 try rw [List.length_map] at hl0
 refine sw_seq ?_
 refine sw_reg ?_
 refine rA ?_ (x := kA)
 refine sw_seq ?_
 refine sO [(0, _), (2, _), (7000, _)] [] ?_
 refine sw_reg ?_
 refine rA ?_ (x := kA)
 refine sw_seq ?_
 refine sO [(0, _), (2, _), (3, _), (7000, _)] [] ?_
 refine sw_reg ?_
 refine rA ?_ (x := vM false [PV.sl .v _])
 refine rA ?_ (x := sM)
 refine rA ?_ (x := cL [(false, [PV.sl _ _]), (false, [PV.val _])] [(false, [PV.sl .v _]), (false, [PV.val _])] FLawTenantLine_c_7 (hs := by exact sz_ChargeS (by omega) (by omega)))
 refine rA ?_ (x := sA)
 refine sw_seq ?_
 refine sw_seq ?_
 refine sO [(0, _), (2, _), (3, _), (7000, _)] [] ?_
 refine sw_reg ?_
 refine rA ?_ (x := sM)
 refine rA ?_ (x := B_lss)
 refine sw_cond (t := 11) rfl (fun hb1 => ?_) (fun hb1 => ?_)
 ·try simp only [q1, q2, q3, q4, q5, q6, q7, q8, q9] at hb1
  refine sw_seq ?_
  refine sO [(0, _), (2, _), (3, _), (7000, _)] [] ?_
  refine sw_reg ?_
  refine rA ?_ (x := kA)
  refine sw_ret ?_
  exact (And.intro (by exact rfl) True.intro)
 ·try simp only [q1, q2, q3, q4, q5, q6, q7, q8, q9] at hb1
  have hp0 := szR_pos (w := wtChargeS aL) (l := 1048576) hb1
  have he0 := szR_yes hp0
  have hcl : aL.length ≤ wtChargeS aL := Nat.le_add_right _ _
  refine sw_skip ?_
  refine sw_seq ?_
  refine sO [(0, _), (2, _), (3, _), (7000, _)] [] ?_
  refine sw_reg ?_
  refine rA ?_ (x := vM false [PV.sl .v _])
  refine rA ?_ (x := cL [(false, [PV.sl _ _])] [(false, [PV.sl .v _])] FLawTenantLine_c_9 (hs := by exact to_ChargeS (by omega)))
  refine rA ?_ (x := cL [(false, [PV.sl _ _])] [(false, [PV.sl .v _])] FLawTenantLine_c_8 (hs := by exact spec_TenantLine (by omega)))
  refine rA ?_ (x := sA)
  refine sw_seq ?_
  refine sO [(0, _), (2, _), (3, _), (4, _), (7000, _)] [] ?_
  refine sw_reg ?_
  refine rA ?_ (x := vM false [PV.sl .v _])
  refine rA ?_ (x := cL [(false, [PV.sl _ _])] [(false, [PV.sl .v _])] FLawTenantLine_c_9 (hs := by exact to_ChargeS (by omega)))
  refine rA ?_ (x := tA)
  refine sw_seq ?_
  refine sO [(0, _), (2, _), (3, _), (4, _), (5, _), (7000, _)] [] ?_
  refine sw_reg ?_
  refine rA ?_ (x := vM false [PV.sl .v _])
  refine rA ?_ (x := gL [(false, [PV.sl _ _])] [(false, [PV.sl .v _])] FLawTenantLine_c_10 (hs := by exact impl_TenantLine (by omega)))
  refine rA ?_ (x := sA)
  refine sw_seq ?_
  refine sw_seq ?_
  refine sO [(0, _), (2, _), (3, _), (4, _), (5, _), (6, _), (7000, _)] [] ?_
  refine sw_reg ?_
  refine rA ?_ (x := sM)
  refine rA ?_ (x := sM)
  refine rA ?_ (x := loc_sneq)
  refine sw_cond (t := 21) rfl (fun hb2 => ?_) (fun hb2 => ?_)
  ·try simp only [q1, q2, q3, q4, q5, q6, q7, q8, q9] at hb2
   first | exact absurd rfl hb2 | (simp [deq_self] at hb2; done) | omega
  ·try simp only [q1, q2, q3, q4, q5, q6, q7, q8, q9] at hb2
   refine sw_skip ?_
   refine sw_seq ?_
   refine sw_seq ?_
   refine sO [(0, _), (2, _), (3, _), (4, _), (5, _), (6, _), (7000, _)] [] ?_
   refine sw_reg ?_
   refine rA ?_ (x := vM false [PV.sl .v _])
   refine rA ?_ (x := vM false [PV.sl .v _])
   refine rA ?_ (x := cL [(false, [PV.sl _ _])] [(false, [PV.sl .v _])] FLawTenantLine_c_9 (hs := by exact to_ChargeS (by omega)))
   refine rA ?_ (x := cL [(false, [PV.sl _ _]), (false, [PV.sl _ _])] [(false, [PV.sl .v _]), (false, [PV.sl .v _])] FLawTenantLine_c_11 (hs := by exact eq_ChargeS))
   refine rA ?_ (x := nT)
   refine sw_cond (t := 26) rfl (fun hb3 => ?_) (fun hb3 => ?_)
   ·try simp only [q1, q2, q3, q4, q5, q6, q7, q8, q9] at hb3
    first | exact absurd rfl hb3 | (simp [deq_self] at hb3; done) | omega
   ·try simp only [q1, q2, q3, q4, q5, q6, q7, q8, q9] at hb3
    refine sw_skip ?_
    refine sw_seq ?_
    refine sO [(0, _), (2, _), (3, _), (4, _), (5, _), (6, _), (7000, _)] [] ?_
    refine sw_reg ?_
    refine rA ?_ (x := kA)
    refine sw_ret ?_
    exact (And.intro (by exact rfl) True.intro)
end Go.Proofs.YtaomckpfgmhapaaDoor
