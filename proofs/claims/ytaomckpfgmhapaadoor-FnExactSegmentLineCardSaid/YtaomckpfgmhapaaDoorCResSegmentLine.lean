/- What functions of the program compute. No condition. -/
import Derived.Test.YtaomckpfgmhapaaDoorCRtxSegmentLine
import Derived.Test.YtaomckpfgmhapaaDoorCQuerSegmentLine
import Derived.Test.YtaomckpfgmhapaaDoorCDh
import Derived.KernelRfl
set_option linter.unusedVariables false
set_option linter.unusedSimpArgs false
namespace Go.Proofs.YtaomckpfgmhapaaDoor
open Go Go.RowKit M
set_option maxRecDepth 10000
attribute [local irreducible] PV.Lcl PV.LclR RV.Lcl
theorem FRes_c_35 : callI Tryd.prog 35 = true := by kernel_rfl
theorem FRes_sl_82 : sliceI Tryd.prog 82 = some (9, 1, 16) := by kernel_rfl
theorem impl_wordsLine {ws : List Bytes}  (hn : ws.length ≤ 1048576) (hl : (joinB ws [32]).length ≤ 140737488355328) : SCall Tryd.prog 46 [(false, [PV.sl .v (ws.map cStr)])] (resRV [(false, [PV.val (.string (B (linesB ws)))])]) := by
 refine scall_of (rs := [(false, [PV.val (.string (B (linesB ws)))])]) Tryd.func46 rfl (Nat.le_of_ble_eq_true rfl) (borA_cons (BorL.cons (PV.bor_sl _) BorL.nil) borA_nil) ?_
 intro h0 w0 Fz0
 refine sw_len (s := 0) rfl fun hl0 => ?_
 try rw [List.length_map] at hl0
 refine sw_seq ?_
 refine sw_reg ?_
 refine rA ?_ (x := kA)
 refine sw_seq ?_
 refine sw_seq ?_
 refine sO [(0, _), (2, _)] [] ?_
 refine sw_reg ?_
 refine rA ?_ (x := vM false [PV.sl .v _])
 refine rA ?_ (x := lN FRes_sl_82)
 refine rA ?_ (x := B_eql)
 refine sw_cond (t := 5) rfl (fun hb1 => ?_) (fun hb1 => ?_)
 ·try simp only [q1, q2, q3, q4, q5, q6, q7, q8, q9] at hb1
  have he : ws = [] := List.eq_nil_of_length_eq_zero (by omega)
  refine sw_seq ?_
  refine sO [(0, _), (2, _)] [] ?_
  refine sw_reg ?_
  refine rA ?_ (x := kA)
  refine sw_ret ?_
  exact (And.intro (by refine sv_eq ?_; exact str_eq (by rw [he]; rfl)) True.intro)
 ·try simp only [q1, q2, q3, q4, q5, q6, q7, q8, q9] at hb1
  have he : ws ≠ [] := by intro e; subst e; simp at hb1
  refine sw_skip ?_
  refine sw_seq ?_
  refine sO [(0, _), (2, _)] [] ?_
  refine sw_reg ?_
  refine rA ?_ (x := vM false [PV.sl .v _])
  refine rA ?_ (x := cL [(false, [PV.sl _ _]), (false, [PV.val _])] [(false, [PV.sl .v _]), (false, [PV.val _])] FRes_c_35 (hs := by exact (lib_Join (by omega) hl)))
  refine rA ?_ (x := sA)
  refine sw_ret ?_
  exact (And.intro (by refine sv_eq ?_; exact str_eq (linesB_cons he).symm) True.intro)
end Go.Proofs.YtaomckpfgmhapaaDoor
