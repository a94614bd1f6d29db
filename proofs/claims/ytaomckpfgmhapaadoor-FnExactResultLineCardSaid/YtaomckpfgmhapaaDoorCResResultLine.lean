/- What functions of the program compute. No condition. -/
import Derived.Test.YtaomckpfgmhapaaDoorCRtxResultLine
import Derived.Test.YtaomckpfgmhapaaDoorCQuerResultLine
import Derived.Test.YtaomckpfgmhapaaDoorCDh
import Derived.KernelRfl
set_option linter.unusedVariables false
set_option linter.unusedSimpArgs false
namespace Go.Proofs.YtaomckpfgmhapaaDoor
open Go Go.RowKit M
set_option maxRecDepth 10000
attribute [local irreducible] PV.Lcl PV.LclR RV.Lcl
theorem FRes_c_28 : callI Tryd.prog 28 = true := by kernel_rfl
theorem FRes_c_32 : callI Tryd.prog 32 = true := by kernel_rfl
theorem FRes_c_35 : callI Tryd.prog 35 = true := by kernel_rfl
theorem FRes_c_46 : callI Tryd.prog 46 = true := by kernel_rfl
theorem FRes_c_50 : callI Tryd.prog 50 = true := by kernel_rfl
theorem FRes_c_51 : callI Tryd.prog 51 = true := by kernel_rfl
theorem FRes_c_52 : callI Tryd.prog 52 = true := by kernel_rfl
theorem FRes_c_53 : callI Tryd.prog 53 = true := by kernel_rfl
theorem FRes_c_56 : callI Tryd.prog 56 = true := by kernel_rfl
theorem FRes_c_57 : callI Tryd.prog 57 = true := by kernel_rfl
theorem FRes_c_58 : callI Tryd.prog 58 = true := by kernel_rfl
theorem FRes_c_59 : callI Tryd.prog 59 = true := by kernel_rfl
theorem FRes_c_86 : callI Tryd.prog 86 = true := by kernel_rfl
theorem FRes_c_88 : callI Tryd.prog 88 = true := by kernel_rfl
theorem FRes_fd_51_3 : fieldI Tryd.prog 51 3 = some 3 := by kernel_rfl
theorem FRes_fd_54_0 : fieldI Tryd.prog 54 0 = some 0 := by kernel_rfl
theorem FRes_fd_54_3 : fieldI Tryd.prog 54 3 = some 6 := by kernel_rfl
theorem FRes_fd_66_0 : fieldI Tryd.prog 66 0 = some 0 := by kernel_rfl
theorem FRes_fd_66_1 : fieldI Tryd.prog 66 1 = some 1 := by kernel_rfl
theorem FRes_sl_41 : sliceI Tryd.prog 41 = some (3, 1, 8) := by kernel_rfl
theorem FRes_sl_52 : sliceI Tryd.prog 52 = some (66, 2, 32) := by kernel_rfl
theorem FRes_sl_82 : sliceI Tryd.prog 82 = some (9, 1, 16) := by kernel_rfl
theorem FRes_ty_3 : tyI Tryd.prog 3 = some (false, 1) := by kernel_rfl
theorem FRes_ty_41 : tyI Tryd.prog 41 = some (false, 1) := by kernel_rfl
theorem FRes_ty_51 : tyI Tryd.prog 51 = some (true, 4) := by kernel_rfl
theorem FRes_ty_52 : tyI Tryd.prog 52 = some (false, 1) := by kernel_rfl
theorem FRes_ty_66 : tyI Tryd.prog 66 = some (true, 2) := by kernel_rfl
theorem FRes_z_3 : zeroI Tryd.prog 3 = some (.int .i64 0) := by kernel_rfl
theorem FRes_z_66 : zeroI Tryd.prog 66 = some (.agg #[.int .i64 0, .slice none 0 0]) := by kernel_rfl
theorem FRes_z_9 : zeroI Tryd.prog 9 = some (.string (B [])) := by kernel_rfl
theorem FRes_zo_66 {Fz : FzT} {w : World} : OwnL [PV.val (.int .i64 0), PV.sl (.own 3 1) []] Fz w (Value.cells (.agg #[.int .i64 0, .slice none 0 0])).toList [] := zo_val rfl (zo_sl (zo_nil))
theorem impl_wordsLine {ws : List Bytes}  (hn : ws.length ≤ 1048576) (hl : (joinB ws [32]).length ≤ 140737488355328) : SCall Tryd.prog 46 [(false, [PV.sl .v (ws.map cStr)])] (resRV [(false, [PV.val (.string (B (linesB ws)))])]) := by
 refine scall_of (rs := [(false, [PV.val (.string (B (linesB ws)))])]) Tryd.func46 rfl (Nat.le_of_ble_eq_true rfl) (borA_cons (BorL.cons (PV.bor_sl _) BorL.nil) borA_nil) ?_
 intro h0 w0 Fz0
 refine sw_len (s := 0) rfl fun hl0 => ?_
 try rw [List.length_map] at hl0
 refine sw_seq ?_
 refine sw_reg ?_
 refine rA ?_ (x := kA)
 refine sw_seq ?_
 refine sw_seq ?_
 refine sO [(0, _), (2, _)] [] ?_
 refine sw_reg ?_
 refine rA ?_ (x := vM false [PV.sl .v _])
 refine rA ?_ (x := lN FRes_sl_82)
 refine rA ?_ (x := B_eql)
 refine sw_cond (t := 5) rfl (fun hb1 => ?_) (fun hb1 => ?_)
 ·try simp only [q1, q2, q3, q4, q5, q6, q7, q8, q9] at hb1
  have he : ws = [] := List.eq_nil_of_length_eq_zero (by omega)
  refine sw_seq ?_
  refine sO [(0, _), (2, _)] [] ?_
  refine sw_reg ?_
  refine rA ?_ (x := kA)
  refine sw_ret ?_
  exact (And.intro (by refine sv_eq ?_; exact str_eq (by rw [he]; rfl)) True.intro)
 ·try simp only [q1, q2, q3, q4, q5, q6, q7, q8, q9] at hb1
  have he : ws ≠ [] := by intro e; subst e; simp at hb1
  refine sw_skip ?_
  refine sw_seq ?_
  refine sO [(0, _), (2, _)] [] ?_
  refine sw_reg ?_
  refine rA ?_ (x := vM false [PV.sl .v _])
  refine rA ?_ (x := cL [(false, [PV.sl _ _]), (false, [PV.val _])] [(false, [PV.sl .v _]), (false, [PV.val _])] FRes_c_35 (hs := by exact (lib_Join (by omega) hl)))
  refine rA ?_ (x := sA)
  refine sw_ret ?_
  exact (And.intro (by refine sv_eq ?_; exact str_eq (linesB_cons he).symm) True.intro)
theorem impl_ProjectRow {q : Query} {r : Row}  : SCall Tryd.prog 59 [(true, [PV.val (vI q.Id), PV.val (vI q.Tenant), PV.sl .v (q.Conds.map cCond), PV.sl .v (q.Out.map cInt)]), (true, [PV.val (vI r.Id), PV.sl .v (r.Values.map cInt)])] (resRV [(false, [PV.sl (.own 3 1) ((projR q r).map cInt)])]) := by
 refine scall_of (rs := [(false, [PV.sl (.own 3 1) ((projR q r).map cInt)])]) Tryd.func59 rfl (Nat.le_of_ble_eq_true rfl) (borA_cons (BorL.cons (PV.bor_val _) (BorL.cons (PV.bor_val _) (BorL.cons (PV.bor_sl _) (BorL.cons (PV.bor_sl _) BorL.nil)))) (borA_cons (BorL.cons (PV.bor_val _) (BorL.cons (PV.bor_sl _) BorL.nil)) borA_nil)) ?_
 intro h0 w0 Fz0
 refine sw_slen (s := 0) (j := 2) rfl rfl fun hl0_2 => ?_
 try rw [List.length_map] at hl0_2
 refine sw_slen (s := 0) (j := 3) rfl rfl fun hl0_3 => ?_
 try rw [List.length_map] at hl0_3
 refine sw_slen (s := 1) (j := 1) rfl rfl fun hl1_1 => ?_
 try rw [List.length_map] at hl1_1
 refine sw_seq ?_
 refine sw_reg ?_
 refine RunS.step (by exact ⟨rfl, ⟨⟩⟩) (by exact ⟨⟩) (LocG.of rfl (loc_box (ag := true) (cs := [PV.val _, PV.val _, PV.sl _ _, PV.sl _ _]) (by decide) (by exact ⟨⟩))) (free1 (Free.of_ rfl)) ?_
 refine RunS.step (by exact ⟨rfl, ⟨⟩⟩) (by exact ⟨⟩) (LocG.of rfl (loc_box (ag := true) (cs := [PV.val _, PV.sl _ _]) (by decide) (by exact ⟨⟩))) (free1 (Free.app (Free.of_ rfl) rfl)) ?_
 refine rA ?_ (x := loc_const (.inr rfl) (by decide) (ok_nil (t := 3) (e := 1)))
 refine sw_seq ?_
 refine sO [(2, _), (3, _), (4, _)] [(2, (51, [PV.val _, PV.val _, PV.sl _ _, PV.sl _ _])), (3, (66, [PV.val _, PV.sl _ _]))] ?_
 refine sw_reg ?_
 refine rA ?_ (x := loc_bslice (qs := []) (by decide) FRes_sl_41 FRes_z_3 (by decide) rfl rfl rfl rfl rfl (by exact Nat.le_of_ble_eq_true rfl) (by exact ⟨⟩) rfl)
 refine rA ?_ (x := tA)
 refine sw_seq ?_
 refine sw_seq ?_
 refine sO [(2, _), (3, _), (4, _), (5, _)] [(2, _), (3, _)] ?_
 refine sw_reg ?_
 refine rA ?_ (x := lD [PV.val _, PV.val _, PV.sl .v _, PV.sl .v _] FRes_ty_51)
 refine rA ?_ (x := cL [(true, [PV.val _, PV.val _, PV.sl _ _, PV.sl _ _])] [(true, [PV.val _, PV.val _, PV.sl .v _, PV.sl .v _])] FRes_c_56 (hs := by exact impl_IsQuery))
 refine rA ?_ (x := nT)
 refine rA ?_ (x := sM)
 refine RunS.cases (s := 12) rfl (fun g1 => ?_) (fun g1 => ?_)
 ·have sg1 := g1
  try simp only [q1, q2, q3, q4, q5, q6, q7, q8, q9] at sg1
  refine RunS.s0t g1 ?_
  refine RunS.s0t g1 ?_
  refine RunS.s0t g1 ?_
  refine rA ?_ (x := pkT g1)
  refine sw_cond (t := 16) rfl (fun hb_ => ?_) (fun hb_ => nomatch hb_)
  have hok : (okRow r && okQuery q) = false := by cases h1 : okRow r <;> cases h2 : okQuery q <;> simp_all
  refine sw_seq ?_
  refine sO [(2, _), (3, _), (4, _), (5, _)] [(2, _), (3, _)] ?_
  refine sw_reg ?_
  refine rA ?_ (x := tM)
  refine rA ?_ (x := tA)
  refine sw_ret ?_
  exact (And.intro (by refine slc_eq ?_; unfold projR; rw [if_neg (by rw [hok]; simp)]; rfl) True.intro)
 ·have sg1 := g1
  try simp only [q1, q2, q3, q4, q5, q6, q7, q8, q9] at sg1
  refine rB g1 ?_ (x := lD [PV.val _, PV.sl .v _] FRes_ty_66)
  refine rB g1 ?_ (x := cL [(true, [PV.val _, PV.sl _ _])] [(true, [PV.val _, PV.sl .v _])] FRes_c_88 (hs := by exact impl_IsRow))
  refine rB g1 ?_ (x := nT)
  refine rA ?_ (x := pkF g1)
  refine sw_cond (t := 16) rfl (fun hb3 => ?_) (fun hb3 => ?_)
  ·try simp only [q1, q2, q3, q4, q5, q6, q7, q8, q9] at hb3
   have hok : (okRow r && okQuery q) = false := by cases h1 : okRow r <;> cases h2 : okQuery q <;> simp_all
   refine sw_seq ?_
   refine sO [(2, _), (3, _), (4, _), (5, _)] [(2, _), (3, _)] ?_
   refine sw_reg ?_
   refine rA ?_ (x := tM)
   refine rA ?_ (x := tA)
   refine sw_ret ?_
   exact (And.intro (by refine slc_eq ?_; unfold projR; rw [if_neg (by rw [hok]; simp)]; rfl) True.intro)
  ·try simp only [q1, q2, q3, q4, q5, q6, q7, q8, q9] at hb3
   have hok : okRow r = true ∧ okQuery q = true := by simp_all
   obtain ⟨hi0, hi1, hvl, hv⟩ := okRow_i64 hok.1
   have hou := out_at hok.2
   refine sw_skip ?_
   refine sw_seq ?_
   refine sw_seq ?_
   refine sO [(2, _), (3, _), (4, _), (5, _)] [(2, _), (3, _)] ?_
   refine sw_reg ?_
   refine rA ?_ (x := lF FRes_fd_51_3)
   refine rA ?_ (x := lD [PV.sl .v _] FRes_ty_41)
   refine rA ?_ (x := lN FRes_sl_41)
   refine rA ?_ (x := kM)
   refine sw_block ?_
   refine sO [(2, _), (3, _), (4, _), (5, _), (19, _), (20, _), (21, _)] [(2, _), (3, _)] ?_
   refine sw_loop (l0 := [(2, RV.ptr 2 0), (3, RV.ptr 3 0), (4, RV.sv false [PV.sl _ _]), (19, RV.sv false [PV.sl _ _]), (20, RV.sv false [PV.val _])]) (b0 := [(2, (51, [PV.val _, PV.val _, PV.sl _ _, PV.sl _ _])), (3, (66, [PV.val _, PV.sl _ _]))]) (fun k : Nat => k ≤ q.Out.length) (fun k : Nat => [(5, RV.slc (.own 3 1) (((q.Out.take k).map fun f => r.Values.getD f.toNat 0).map cInt)), (21, RV.int (k : Int))]) (fun k : Nat => []) (fun k : Nat => q.Out.length - k) 0 (by omega) (by exact ⟨rfl, rfl, rfl, rfl, rfl, ⟨⟩⟩) (by exact ⟨rfl, rfl, ⟨⟩⟩) (by exact And.intro (by first | exact rfl | simp) (And.intro (by exact rfl) (True.intro))) (by exact ⟨⟩) ?_
   rintro k hk
   refine sw_seq ?_
   refine sw_reg ?_
   refine rA ?_ (x := B_lss)
   refine sw_seq ?_
   refine sw_cond (t := 22) rfl (fun hb4 => ?_) (fun hb4 => ?_)
   ·try simp only [q1, q2, q3, q4, q5, q6, q7, q8, q9] at hb4
    have hlt : k < q.Out.length := by first | omega | (simp_all; done) | (simp_all; omega)
    have hof := hou.2 q.Out[k] (List.getElem_mem hlt)
    have hfl : q.Out[k].toNat < r.Values.length := by omega
    have hmt : ((q.Out.take k).map fun f => r.Values.getD f.toNat 0).length = k := by rw [List.length_map, List.length_take]; omega
    have hmt2 : (q.Out.take k).length = k := by rw [List.length_take]; omega
    refine sw_skip ?_
    refine sw_seq ?_
    refine sw_block ?_
    refine sw_seq ?_
    refine sO [(2, _), (3, _), (4, _), (5, _), (19, _), (20, _), (21, _)] [(2, (51, [PV.val _, PV.val _, PV.sl _ _, PV.sl _ _])), (3, (66, [PV.val _, PV.sl _ _]))] ?_
    refine sw_reg ?_
    refine rA ?_ (x := loc_index (by decide) FRes_sl_41 (by exact ⟨⟩) (by exact rfl) (by exact getm2 (by omega) rfl) (by exact rfl))
    refine rA ?_ (x := lE [PV.val _] FRes_ty_3)
    refine rA ?_ (x := sA)
    refine sO [(2, _), (3, _), (4, _), (5, _), (7, _), (19, _), (20, _), (21, _)] [(2, _), (3, _)] ?_
    refine sw_reg ?_
    refine rA ?_ (x := tM)
    refine rA ?_ (x := lF FRes_fd_66_1)
    refine rA ?_ (x := lD [PV.sl .v _] FRes_ty_41)
    refine rA ?_ (x := sM)
    refine rA ?_ (x := loc_index (k := q.Out[k].toNat) (by decide) FRes_sl_41 (by exact ⟨⟩) (by omega) (by exact getm2 hfl rfl) (by exact rfl))
    refine rA ?_ (x := lE [PV.val _] FRes_ty_3)
    refine rA ?_ (x := loc_bslice (qs := [(false, [PV.val _])]) (by decide) FRes_sl_41 FRes_z_3 (by decide) rfl rfl rfl rfl rfl (by exact Nat.le_of_ble_eq_true rfl) (by exact (And.intro (by exact ⟨⟩) True.intro)) rfl)
    refine rA ?_ (x := loc_append (by decide) FRes_sl_41 FRes_z_3 rfl rfl (by decide) rfl (by simp only [List.length_map, List.length_append, List.length_cons, List.length_nil]; omega) (by simp only [List.length_map, List.length_append, List.length_cons, List.length_nil]; omega))
    refine rA ?_ (x := tA)
    refine sO [(2, _), (3, _), (4, _), (5, _), (7, _), (19, _), (20, _), (21, _)] [(2, _), (3, _)] ?_
    refine sw_reg ?_
    refine rA ?_ (x := B_add)
    refine rA ?_ (x := sM)
    refine Exists.intro (k + 1) (And.intro (by omega) (And.intro (by omega) (And.intro (And.intro (by exact ⟨rfl, rfl, rfl, rfl, rfl, ⟨⟩⟩) (by exact ⟨rfl, rfl, ⟨⟩⟩)) (And.intro (by exact And.intro (by exact slc_eq (by rw [map_take_succ hlt, List.map_append]; simp only [List.map_cons, List.map_nil]; rw [← gDt_ hfl]; rfl)) (And.intro (by exact rfl) (True.intro))) (by exact ⟨⟩)))))
   ·try simp only [q1, q2, q3, q4, q5, q6, q7, q8, q9] at hb4
    have hend : k = q.Out.length := by omega
    refine sw_exit ?_
    refine sw_seq ?_
    refine sO [(2, _), (3, _), (4, _), (5, _), (19, _), (20, _), (21, _)] [(2, (51, [PV.val _, PV.val _, PV.sl _ _, PV.sl _ _])), (3, (66, [PV.val _, PV.sl _ _]))] ?_
    refine sw_reg ?_
    refine rA ?_ (x := tM)
    refine rA ?_ (x := tA)
    refine sw_ret ?_
    exact (And.intro (by refine slc_eq ?_; unfold projR; rw [if_pos (by rw [hok.1, hok.2]; rfl), hend, List.take_length]) True.intro)
theorem spec_ProjectRow {q : Query} {r : Row}  : SCall Tryd.prog 53 [(true, [PV.val (vI q.Id), PV.val (vI q.Tenant), PV.sl .v (q.Conds.map cCond), PV.sl .v (q.Out.map cInt)]), (true, [PV.val (vI r.Id), PV.sl .v (r.Values.map cInt)])] (resRV [(false, [PV.sl (.own 3 1) ((projR q r).map cInt)])]) := by
 refine scall_of (rs := [(false, [PV.sl (.own 3 1) ((projR q r).map cInt)])]) Tryd.func53 rfl (Nat.le_of_ble_eq_true rfl) (borA_cons (BorL.cons (PV.bor_val _) (BorL.cons (PV.bor_val _) (BorL.cons (PV.bor_sl _) (BorL.cons (PV.bor_sl _) BorL.nil)))) (borA_cons (BorL.cons (PV.bor_val _) (BorL.cons (PV.bor_sl _) BorL.nil)) borA_nil)) ?_
 intro h0 w0 Fz0
 refine sw_slen (s := 0) (j := 2) rfl rfl fun hl0_2 => ?_
 try rw [List.length_map] at hl0_2
 refine sw_slen (s := 0) (j := 3) rfl rfl fun hl0_3 => ?_
 try rw [List.length_map] at hl0_3
 refine sw_slen (s := 1) (j := 1) rfl rfl fun hl1_1 => ?_
 try rw [List.length_map] at hl1_1
 refine sw_seq ?_
 refine sw_reg ?_
 refine RunS.step (by exact ⟨rfl, ⟨⟩⟩) (by exact ⟨⟩) (LocG.of rfl (loc_box (ag := true) (cs := [PV.val _, PV.val _, PV.sl _ _, PV.sl _ _]) (by decide) (by exact ⟨⟩))) (free1 (Free.of_ rfl)) ?_
 refine RunS.step (by exact ⟨rfl, ⟨⟩⟩) (by exact ⟨⟩) (LocG.of rfl (loc_box (ag := true) (cs := [PV.val _, PV.sl _ _]) (by decide) (by exact ⟨⟩))) (free1 (Free.app (Free.of_ rfl) rfl)) ?_
 refine rA ?_ (x := loc_const (.inr rfl) (by decide) (ok_nil (t := 3) (e := 1)))
 refine sw_seq ?_
 refine sO [(2, _), (3, _), (4, _)] [(2, (51, [PV.val _, PV.val _, PV.sl _ _, PV.sl _ _])), (3, (66, [PV.val _, PV.sl _ _]))] ?_
 refine sw_reg ?_
 refine rA ?_ (x := loc_bslice (qs := []) (by decide) FRes_sl_41 FRes_z_3 (by decide) rfl rfl rfl rfl rfl (by exact Nat.le_of_ble_eq_true rfl) (by exact ⟨⟩) rfl)
 refine rA ?_ (x := tA)
 refine sw_seq ?_
 refine sw_seq ?_
 refine sO [(2, _), (3, _), (4, _), (5, _)] [(2, _), (3, _)] ?_
 refine sw_reg ?_
 refine rA ?_ (x := kA)
 refine sw_block ?_
 refine sO [(2, _), (3, _), (4, _), (5, _), (6, _)] [(2, _), (3, _)] ?_
 refine sw_loop (l0 := [(2, RV.ptr 2 0), (3, RV.ptr 3 0), (4, RV.sv false [PV.sl _ _])]) (b0 := [(2, (51, [PV.val _, PV.val _, PV.sl _ _, PV.sl _ _])), (3, (66, [PV.val _, PV.sl _ _]))]) (fun k : Nat => k ≤ q.Out.length ∧ (0 < k → okRow r = true ∧ okQuery q = true)) (fun k : Nat => [(5, RV.slc (.own 3 1) (((q.Out.take k).map fun f => r.Values.getD f.toNat 0).map cInt)), (6, RV.int (k : Int))]) (fun k : Nat => []) (fun k : Nat => q.Out.length - k) 0 (by exact ⟨by omega, fun h => absurd h (Nat.lt_irrefl 0)⟩) (by exact ⟨rfl, rfl, rfl, ⟨⟩⟩) (by exact ⟨rfl, rfl, ⟨⟩⟩) (by exact And.intro (by first | exact rfl | simp) (And.intro (by exact rfl) (True.intro))) (by exact ⟨⟩) ?_
 rintro k ⟨hk, ha⟩
 refine sw_seq ?_
 refine sw_seq ?_
 refine sw_reg ?_
 refine rA ?_ (x := sM)
 refine rA ?_ (x := lF FRes_fd_51_3)
 refine rA ?_ (x := lD [PV.sl .v _] FRes_ty_41)
 refine rA ?_ (x := lN FRes_sl_41)
 refine rA ?_ (x := B_lss)
 refine rA ?_ (x := sM)
 refine RunS.cases (s := 13) rfl (fun g1 => ?_) (fun g1 => ?_)
 ·have sg1 := g1
  try simp only [q1, q2, q3, q4, q5, q6, q7, q8, q9] at sg1
  refine rB g1 ?_ (x := lD [PV.val _, PV.sl .v _] FRes_ty_66)
  refine rB g1 ?_ (x := cL [(true, [PV.val _, PV.sl _ _])] [(true, [PV.val _, PV.sl .v _])] FRes_c_86 (hs := by exact spec_IsRow))
  refine rA ?_ (x := pkT g1)
  refine rA ?_ (x := sM)
  refine RunS.cases (s := 17) rfl (fun g2 => ?_) (fun g2 => ?_)
  ·have sg2 := g2
   try simp only [q1, q2, q3, q4, q5, q6, q7, q8, q9] at sg2
   refine rB g2 ?_ (x := lD [PV.val _, PV.val _, PV.sl .v _, PV.sl .v _] FRes_ty_51)
   refine rB g2 ?_ (x := cL [(true, [PV.val _, PV.val _, PV.sl _ _, PV.sl _ _])] [(true, [PV.val _, PV.val _, PV.sl .v _, PV.sl .v _])] FRes_c_50 (hs := by exact spec_IsQuery))
   refine rA ?_ (x := pkT g2)
   refine sw_cond (t := 20) rfl (fun hb3 => ?_) (fun hb3 => ?_)
   ·try simp only [q1, q2, q3, q4, q5, q6, q7, q8, q9] at hb3
    have hok : okRow r = true ∧ okQuery q = true := by simp_all
    obtain ⟨hi0, hi1, hvl, hv⟩ := okRow_i64 hok.1
    have hou := out_at hok.2
    have hlt : k < q.Out.length := by first | omega | (simp_all; done) | (simp_all; omega)
    have hof := hou.2 q.Out[k] (List.getElem_mem hlt)
    have hfl : q.Out[k].toNat < r.Values.length := by omega
    have hmt : ((q.Out.take k).map fun f => r.Values.getD f.toNat 0).length = k := by rw [List.length_map, List.length_take]; omega
    have hmt2 : (q.Out.take k).length = k := by rw [List.length_take]; omega
    refine sw_skip ?_
    refine sw_seq ?_
    refine sw_block ?_
    refine sO [(2, _), (3, _), (4, _), (5, _), (6, _)] [(2, (51, [PV.val _, PV.val _, PV.sl _ _, PV.sl _ _])), (3, (66, [PV.val _, PV.sl _ _]))] ?_
    refine sw_draw hm_ ?_
    refine dA 0 ?_ (x := tM)
    refine dA 0 ?_ (x := lF FRes_fd_66_1)
    refine dA 2 ?_ (x := lD [PV.sl .v _] FRes_ty_41)
    refine dA 0 ?_ (x := lF FRes_fd_51_3)
    refine dA 8 ?_ (x := lD [PV.sl .v _] FRes_ty_41)
    refine dA 0 ?_ (x := sM)
    refine dA 56 ?_ (x := loc_index (by decide) FRes_sl_41 (by exact ⟨⟩) (by exact rfl) (by exact getm2 (by omega) rfl) (by exact rfl))
    refine dA 120 ?_ (x := lE [PV.val _] FRes_ty_3)
    refine dA 254 ?_ (x := loc_index (k := q.Out[k].toNat) (by decide) FRes_sl_41 (by exact ⟨⟩) (by omega) (by exact getm2 hfl rfl) (by exact rfl))
    refine dA 510 ?_ (x := lE [PV.val _] FRes_ty_3)
    refine dA 1022 ?_ (x := loc_bslice (qs := [(false, [PV.val _])]) (by decide) FRes_sl_41 FRes_z_3 (by decide) rfl rfl rfl rfl rfl (by exact Nat.le_of_ble_eq_true rfl) (by exact (And.intro (by exact ⟨⟩) True.intro)) rfl)
    refine dA 2047 ?_ (x := loc_append (by decide) FRes_sl_41 FRes_z_3 rfl rfl (by decide) rfl (by simp only [List.length_map, List.length_append, List.length_cons, List.length_nil]; omega) (by simp only [List.length_map, List.length_append, List.length_cons, List.length_nil]; omega))
    refine dA 4095 ?_ (x := tA)
    refine sO [(2, _), (3, _), (4, _), (5, _), (6, _)] [(2, _), (3, _)] ?_
    refine sw_reg ?_
    refine rA ?_ (x := sM)
    refine rA ?_ (x := B_add)
    refine rA ?_ (x := sA)
    refine Exists.intro (k + 1) (And.intro (by exact ⟨by omega, fun _ => hok⟩) (And.intro (by omega) (And.intro (And.intro (by exact ⟨rfl, rfl, rfl, ⟨⟩⟩) (by exact ⟨rfl, rfl, ⟨⟩⟩)) (And.intro (by exact And.intro (by exact slc_eq (by rw [map_take_succ hlt, List.map_append]; simp only [List.map_cons, List.map_nil]; rw [← gDt_ hfl]; rfl)) (And.intro (by exact rfl) (True.intro))) (by exact ⟨⟩)))))
   ·try simp only [q1, q2, q3, q4, q5, q6, q7, q8, q9] at hb3
    have hfin : (k = q.Out.length ∧ (okRow r && okQuery q) = true) ∨ (k = 0 ∧ (q.Out.length = 0 ∨ (okRow r && okQuery q) = false)) := by
     by_cases h0k : 0 < k
     ·left
      have h1 := ha h0k
      refine ⟨?_, by rw [h1.1, h1.2]; rfl⟩
      by_cases hka : k = q.Out.length
      ·exact hka
      ·exfalso
       have : k < q.Out.length := by omega
       simp_all
     ·right
      refine ⟨by omega, ?_⟩
      by_cases hka : q.Out.length = 0
      ·exact .inl hka
      ·right
       have : k < q.Out.length := by omega
       cases h1 : okRow r <;> cases h2 : okQuery q <;> simp_all
    refine sw_exit ?_
    refine sw_seq ?_
    refine sO [(2, _), (3, _), (4, _), (5, _), (6, _)] [(2, (51, [PV.val _, PV.val _, PV.sl _ _, PV.sl _ _])), (3, (66, [PV.val _, PV.sl _ _]))] ?_
    refine sw_reg ?_
    refine rA ?_ (x := tM)
    refine rA ?_ (x := tA)
    refine sw_ret ?_
    exact (And.intro (by refine slc_eq ?_; rw [proj_end hfin]) True.intro)
  ·have sg2 := g2
   try simp only [q1, q2, q3, q4, q5, q6, q7, q8, q9] at sg2
   refine RunS.s0f g2 ?_
   refine RunS.s0f g2 ?_
   refine rA ?_ (x := pkF g2)
   refine sw_cond (t := 20) rfl (fun hb_ => nomatch hb_) (fun hb_ => ?_)
   have hfin : (k = q.Out.length ∧ (okRow r && okQuery q) = true) ∨ (k = 0 ∧ (q.Out.length = 0 ∨ (okRow r && okQuery q) = false)) := by
    by_cases h0k : 0 < k
    ·left
     have h1 := ha h0k
     refine ⟨?_, by rw [h1.1, h1.2]; rfl⟩
     by_cases hka : k = q.Out.length
     ·exact hka
     ·exfalso
      have : k < q.Out.length := by omega
      simp_all
    ·right
     refine ⟨by omega, ?_⟩
     by_cases hka : q.Out.length = 0
     ·exact .inl hka
     ·right
      have : k < q.Out.length := by omega
      cases h1 : okRow r <;> cases h2 : okQuery q <;> simp_all
   refine sw_exit ?_
   refine sw_seq ?_
   refine sO [(2, _), (3, _), (4, _), (5, _), (6, _)] [(2, (51, [PV.val _, PV.val _, PV.sl _ _, PV.sl _ _])), (3, (66, [PV.val _, PV.sl _ _]))] ?_
   refine sw_reg ?_
   refine rA ?_ (x := tM)
   refine rA ?_ (x := tA)
   refine sw_ret ?_
   exact (And.intro (by refine slc_eq ?_; rw [proj_end hfin]) True.intro)
 ·have sg1 := g1
  try simp only [q1, q2, q3, q4, q5, q6, q7, q8, q9] at sg1
  refine RunS.s0f g1 ?_
  refine RunS.s0f g1 ?_
  refine rA ?_ (x := pkF g1)
  refine rA ?_ (x := sM)
  refine RunS.cases (s := 17) rfl (fun g5 => nomatch g5) (fun g5 => ?_)
  refine RunS.s0f g5 ?_
  refine RunS.s0f g5 ?_
  refine rA ?_ (x := pkF g5)
  refine sw_cond (t := 20) rfl (fun hb_ => nomatch hb_) (fun hb_ => ?_)
  have hfin : (k = q.Out.length ∧ (okRow r && okQuery q) = true) ∨ (k = 0 ∧ (q.Out.length = 0 ∨ (okRow r && okQuery q) = false)) := by
   by_cases h0k : 0 < k
   ·left
    have h1 := ha h0k
    refine ⟨?_, by rw [h1.1, h1.2]; rfl⟩
    by_cases hka : k = q.Out.length
    ·exact hka
    ·exfalso
     have : k < q.Out.length := by omega
     simp_all
   ·right
    refine ⟨by omega, ?_⟩
    by_cases hka : q.Out.length = 0
    ·exact .inl hka
    ·right
     have : k < q.Out.length := by omega
     cases h1 : okRow r <;> cases h2 : okQuery q <;> simp_all
  refine sw_exit ?_
  refine sw_seq ?_
  refine sO [(2, _), (3, _), (4, _), (5, _), (6, _)] [(2, (51, [PV.val _, PV.val _, PV.sl _ _, PV.sl _ _])), (3, (66, [PV.val _, PV.sl _ _]))] ?_
  refine sw_reg ?_
  refine rA ?_ (x := tM)
  refine rA ?_ (x := tA)
  refine sw_ret ?_
  exact (And.intro (by refine slc_eq ?_; rw [proj_end hfin]) True.intro)
theorem impl_ResultLine {p3 : Fl} {x : Finished}  : GCall Tryd.prog gl 20 [(true, [PV.val (vI x.Query.Id), PV.val (vI x.Query.Tenant), PV.sl .v (x.Query.Conds.map cCond), PV.sl .v (x.Query.Out.map cInt), PV.val (vI x.Time), PV.val (vI x.Steps), PV.sl .v (x.Rows.map (cRow p3))])] (resRV [(false, [PV.val (.string (B (resLine x)))])]) := by
 refine gcall_of (rs := [(false, [PV.val (.string (B (resLine x)))])]) Tryd.func20 rfl (Nat.le_of_ble_eq_true rfl) (borA_cons (BorL.cons (PV.bor_val _) (BorL.cons (PV.bor_val _) (BorL.cons (PV.bor_sl _) (BorL.cons (PV.bor_sl _) (BorL.cons (PV.bor_val _) (BorL.cons (PV.bor_val _) (BorL.cons (PV.bor_sl _) BorL.nil))))))) borA_nil) ?_
 intro h0 w0 Fz0
 refine sw_slen (s := 0) (j := 2) rfl rfl fun hl0_2 => ?_
 try rw [List.length_map] at hl0_2
 refine sw_slen (s := 0) (j := 3) rfl rfl fun hl0_3 => ?_
 try rw [List.length_map] at hl0_3
 refine sw_slen (s := 0) (j := 6) rfl rfl fun hl0_6 => ?_
 try rw [List.length_map] at hl0_6
 refine sw_seq ?_
 refine sw_reg ?_
 refine RunS.step (by exact ⟨rfl, ⟨⟩⟩) (by exact ⟨⟩) (LocG.of rfl (loc_box (ag := true) (cs := [PV.val _, PV.val _, PV.sl _ _, PV.sl _ _, PV.val _, PV.val _, PV.sl _ _]) (by decide) (by exact ⟨⟩))) (free1 (Free.of_ rfl)) ?_
 refine rA ?_ (x := kA)
 refine sw_seq ?_
 refine sw_seq ?_
 refine sO [(1, _), (2, _), (7000, _)] [(1, (54, [PV.val _, PV.val _, PV.sl _ _, PV.sl _ _, PV.val _, PV.val _, PV.sl _ _]))] ?_
 refine sw_reg ?_
 refine rA ?_ (x := lF FRes_fd_54_0)
 refine rA ?_ (x := lD [PV.val _, PV.val _, PV.sl .v _, PV.sl .v _] FRes_ty_51)
 refine rA ?_ (x := cL [(true, [PV.val _, PV.val _, PV.sl _ _, PV.sl _ _])] [(true, [PV.val _, PV.val _, PV.sl .v _, PV.sl .v _])] FRes_c_56 (hs := by exact impl_IsQuery))
 refine rA ?_ (x := nT)
 refine rA ?_ (x := sM)
 refine RunS.cases (s := 10) rfl (fun g1 => ?_) (fun g1 => ?_)
 ·have sg1 := g1
  try simp only [q1, q2, q3, q4, q5, q6, q7, q8, q9] at sg1
  refine RunS.s0t g1 ?_
  refine RunS.s0t g1 ?_
  refine RunS.s0t g1 ?_
  refine RunS.s0t g1 ?_
  refine rA ?_ (x := pkT g1)
  refine sw_cond (t := 15) rfl (fun hb_ => ?_) (fun hb_ => nomatch hb_)
  have hbad : (okQuery x.Query && okRows x.Rows) = false := by cases h1 : okQuery x.Query <;> cases h2 : okRows x.Rows <;> simp_all
  refine sw_seq ?_
  refine sO [(1, _), (2, _), (7000, _)] [(1, _)] ?_
  refine sw_reg ?_
  refine rA ?_ (x := kA)
  refine sw_ret ?_
  exact (And.intro (by refine sv_eq ?_; exact str_eq (by unfold resLine; rw [if_neg (by rw [hbad]; simp)])) True.intro)
 ·have sg1 := g1
  try simp only [q1, q2, q3, q4, q5, q6, q7, q8, q9] at sg1
  refine rB g1 ?_ (x := lF FRes_fd_54_3)
  refine rB g1 ?_ (x := lD [PV.sl .v _] FRes_ty_52)
  refine rB g1 ?_ (x := cL [(false, [PV.sl _ _])] [(false, [PV.sl .v _])] FRes_c_57 (hs := by exact impl_resultOk))
  refine rB g1 ?_ (x := nT)
  refine rA ?_ (x := pkF g1)
  refine sw_cond (t := 15) rfl (fun hb3 => ?_) (fun hb3 => ?_)
  ·try simp only [q1, q2, q3, q4, q5, q6, q7, q8, q9] at hb3
   have hbad : (okQuery x.Query && okRows x.Rows) = false := by cases h1 : okQuery x.Query <;> cases h2 : okRows x.Rows <;> simp_all
   refine sw_seq ?_
   refine sO [(1, _), (2, _), (7000, _)] [(1, _)] ?_
   refine sw_reg ?_
   refine rA ?_ (x := kA)
   refine sw_ret ?_
   exact (And.intro (by refine sv_eq ?_; exact str_eq (by unfold resLine; rw [if_neg (by rw [hbad]; simp)])) True.intro)
  ·try simp only [q1, q2, q3, q4, q5, q6, q7, q8, q9] at hb3
   have hok : okQuery x.Query = true ∧ okRows x.Rows = true := by simp_all
   have hrl := okRows_len_ hok.2
   refine sw_skip ?_
   refine sw_seq ?_
   refine sO [(1, _), (2, _), (7000, _)] [(1, _)] ?_
   refine sw_reg ?_
   refine rA ?_ (x := loc_bslice (qs := []) (by decide) FRes_sl_82 FRes_z_9 (by decide) rfl rfl rfl rfl rfl (by exact Nat.le_of_ble_eq_true rfl) (by exact ⟨⟩) rfl)
   refine rA ?_ (x := tA)
   refine sw_seq ?_
   refine sw_seq ?_
   refine sO [(1, _), (2, _), (3, _), (7000, _)] [(1, _)] ?_
   refine sw_reg ?_
   refine rA ?_ (x := lF FRes_fd_54_3)
   refine rA ?_ (x := lD [PV.sl .v _] FRes_ty_52)
   refine rA ?_ (x := lN FRes_sl_52)
   refine rA ?_ (x := kM)
   refine sw_block ?_
   refine sO [(1, _), (2, _), (3, _), (18, _), (19, _), (20, _), (7000, _)] [(1, _)] ?_
   refine sw_loop (l0 := [(1, RV.ptr 1 0), (2, RV.sv false [PV.val _]), (18, RV.sv false [PV.sl _ _]), (19, RV.sv false [PV.val _]), (7000, RV.glob _)]) (b0 := [(1, (54, [PV.val _, PV.val _, PV.sl _ _, PV.sl _ _, PV.val _, PV.val _, PV.sl _ _]))]) (fun k : Nat => k ≤ x.Rows.length) (fun k : Nat => [(3, RV.slc (.own 9 1) (((x.Rows.take k).map (resWord x.Query)).map cStr)), (20, RV.int (k : Int))]) (fun k : Nat => []) (fun k : Nat => x.Rows.length - k) 0 (by omega) (by exact ⟨rfl, rfl, rfl, rfl, rfl, ⟨⟩⟩) (by exact ⟨rfl, ⟨⟩⟩) (by exact And.intro (by first | exact rfl | simp) (And.intro (by exact rfl) (True.intro))) (by exact ⟨⟩) ?_
   rintro k hk
   refine sw_seq ?_
   refine sw_reg ?_
   refine rA ?_ (x := B_lss)
   refine sw_seq ?_
   refine sw_cond (t := 21) rfl (fun hb4 => ?_) (fun hb4 => ?_)
   ·try simp only [q1, q2, q3, q4, q5, q6, q7, q8, q9] at hb4
    have hlt : k < x.Rows.length := by omega
    have hrk := okRows_at_ hok.2 (List.getElem_mem hlt)
    obtain ⟨hi0, hi1, hvl, hv⟩ := okRow_i64 hrk
    have hil : (itoa x.Rows[k].Id).length ≤ 21 := itoa_len (by unfold I64; omega)
    have hpj := projR_i64 x.Query x.Rows[k]
    have hpl := listB_len hpj.2
    have hmt : ((x.Rows.take k).map (resWord x.Query)).length = k := by rw [List.length_map, List.length_take]; omega
    have hjl := resJ_len (q := x.Query) hok.2 k
    have htk : (x.Rows.take k).length = k := by rw [List.length_take]; omega
    refine sw_skip ?_
    refine sw_seq ?_
    refine sw_block ?_
    refine sw_seq ?_
    refine sO [(1, _), (2, _), (3, _), (18, _), (19, _), (20, _), (7000, _)] [(1, (54, [PV.val _, PV.val _, PV.sl _ _, PV.sl _ _, PV.val _, PV.val _, PV.sl _ _]))] ?_
    refine sw_reg ?_
    refine rA ?_ (x := loc_index (by decide) FRes_sl_52 (by exact ⟨⟩) (by exact rfl) (by exact getm2 (by omega) rfl) (by exact rfl))
    refine rA ?_ (x := lE [PV.val _, PV.sl .v _] FRes_ty_66)
    refine RunS.step (by exact ⟨⟩) (by exact ⟨⟩) (LocG.of rfl (loc_alloc (by decide) FRes_z_66 FRes_zo_66)) (free1 (Free.app (Free.app (Free.of_ rfl) rfl) rfl)) ?_
    refine rA ?_ (x := loc_store (ag := true) (vs := [PV.val _, PV.sl _ _]) FRes_ty_66 (by exact ⟨⟩) (by exact rfl) (by exact Nat.le_of_ble_eq_true rfl))
    refine sO [(1, _), (2, _), (3, _), (5, _), (18, _), (19, _), (20, _), (7000, _)] [(1, _), (5, (66, [PV.val _, PV.sl _ _]))] ?_
    refine sw_draw hm_ ?_
    refine dA 0 ?_ (x := tM)
    refine dA 0 ?_ (x := lF FRes_fd_66_0)
    refine dA 2 ?_ (x := lD [PV.val _] FRes_ty_3)
    refine dA 6 ?_ (x := gL [(false, [PV.val _])] [(false, [PV.val _])] FRes_c_32 (hs := by exact (impl_FormatInt (by unfold I64; omega))))
    refine dA 14 ?_ (x := loc_sadd)
    refine dA 0 ?_ (x := lF FRes_fd_54_0)
    refine dA 32 ?_ (x := lD [PV.val _, PV.val _, PV.sl .v _, PV.sl .v _] FRes_ty_51)
    refine dA 0 ?_ (x := lD [PV.val _, PV.sl .v _] FRes_ty_66)
    refine dA 238 ?_ (x := cL [(true, [PV.val _, PV.val _, PV.sl _ _, PV.sl _ _]), (true, [PV.val _, PV.sl _ _])] [(true, [PV.val _, PV.val _, PV.sl .v _, PV.sl .v _]), (true, [PV.val _, PV.sl .v _])] FRes_c_59 (hs := by exact impl_ProjectRow))
    refine dA 494 ?_ (x := gL [(false, [PV.sl _ _])] [(false, [PV.sl .v _])] FRes_c_58 (hs := by exact (impl_numbersText hpj.2 (by omega))))
    refine dA 1022 ?_ (x := loc_sadd)
    refine dA 2046 ?_ (x := loc_bslice (qs := [(false, [PV.val _])]) (by decide) FRes_sl_82 FRes_z_9 (by decide) rfl rfl rfl rfl rfl (by exact Nat.le_of_ble_eq_true rfl) (by exact (And.intro (by exact ⟨⟩) True.intro)) rfl)
    refine dA 4095 ?_ (x := loc_append (by decide) FRes_sl_82 FRes_z_9 rfl rfl (by decide) rfl (by simp only [List.length_map, List.length_append, List.length_cons, List.length_nil]; omega) (by simp only [List.length_map, List.length_append, List.length_cons, List.length_nil]; omega))
    refine dA 8191 ?_ (x := tA)
    refine sO [(1, _), (2, _), (3, _), (5, _), (18, _), (19, _), (20, _), (7000, _)] [(1, _), (5, _)] ?_
    refine sw_reg ?_
    refine rA ?_ (x := B_add)
    refine rA ?_ (x := sM)
    refine Exists.intro (k + 1) (And.intro (by omega) (And.intro (by omega) (And.intro (And.intro (by exact ⟨rfl, rfl, rfl, rfl, rfl, ⟨⟩⟩) (by exact ⟨rfl, ⟨⟩⟩)) (And.intro (by exact And.intro (by exact slc_eq (by rw [map_take_succ hlt, List.map_append]; rfl)) (And.intro (by exact rfl) (True.intro))) (by exact ⟨⟩)))))
   ·try simp only [q1, q2, q3, q4, q5, q6, q7, q8, q9] at hb4
    have hend : k = x.Rows.length := by omega
    have hjl := resJ_len (q := x.Query) hok.2 k
    subst hend
    rw [List.take_length] at hjl ⊢
    have hml : (x.Rows.map (resWord x.Query)).length = x.Rows.length := List.length_map _
    refine sw_exit ?_
    refine sw_seq ?_
    refine sO [(1, _), (2, _), (3, _), (18, _), (19, _), (20, _), (7000, _)] [(1, (54, [PV.val _, PV.val _, PV.sl _ _, PV.sl _ _, PV.val _, PV.val _, PV.sl _ _]))] ?_
    refine sw_reg ?_
    refine rA ?_ (x := vM false [PV.sl .v _])
    refine rA ?_ (x := cL [(false, [PV.sl _ _])] [(false, [PV.sl .v _])] FRes_c_46 (hs := by exact (impl_wordsLine (by omega) (by omega))))
    refine rA ?_ (x := sA)
    refine sw_ret ?_
    exact (And.intro (by refine sv_eq ?_; exact str_eq (by unfold resLine; rw [if_pos (by rw [hok.1, hok.2]; rfl)])) True.intro)
theorem spec_ResultLine {p3 : Fl} {x : Finished}  : SCall Tryd.prog 18 [(true, [PV.val (vI x.Query.Id), PV.val (vI x.Query.Tenant), PV.sl .v (x.Query.Conds.map cCond), PV.sl .v (x.Query.Out.map cInt), PV.val (vI x.Time), PV.val (vI x.Steps), PV.sl .v (x.Rows.map (cRow p3))])] (resRV [(false, [PV.val (.string (B (resLine x)))])]) := by
 refine scall_of (rs := [(false, [PV.val (.string (B (resLine x)))])]) Tryd.func18 rfl (Nat.le_of_ble_eq_true rfl) (borA_cons (BorL.cons (PV.bor_val _) (BorL.cons (PV.bor_val _) (BorL.cons (PV.bor_sl _) (BorL.cons (PV.bor_sl _) (BorL.cons (PV.bor_val _) (BorL.cons (PV.bor_val _) (BorL.cons (PV.bor_sl _) BorL.nil))))))) borA_nil) ?_
 intro h0 w0 Fz0
 refine sw_slen (s := 0) (j := 2) rfl rfl fun hl0_2 => ?_
 try rw [List.length_map] at hl0_2
 refine sw_slen (s := 0) (j := 3) rfl rfl fun hl0_3 => ?_
 try rw [List.length_map] at hl0_3
 refine sw_slen (s := 0) (j := 6) rfl rfl fun hl0_6 => ?_
 try rw [List.length_map] at hl0_6
 refine sw_seq ?_
 refine sw_reg ?_
 refine RunS.step (by exact ⟨rfl, ⟨⟩⟩) (by exact ⟨⟩) (LocG.of rfl (loc_box (ag := true) (cs := [PV.val _, PV.val _, PV.sl _ _, PV.sl _ _, PV.val _, PV.val _, PV.sl _ _]) (by decide) (by exact ⟨⟩))) (free1 (Free.of_ rfl)) ?_
 refine rA ?_ (x := kA)
 refine sw_seq ?_
 refine sw_seq ?_
 refine sO [(1, _), (2, _)] [(1, (54, [PV.val _, PV.val _, PV.sl _ _, PV.sl _ _, PV.val _, PV.val _, PV.sl _ _]))] ?_
 refine sw_reg ?_
 refine rA ?_ (x := lF FRes_fd_54_0)
 refine rA ?_ (x := lD [PV.val _, PV.val _, PV.sl .v _, PV.sl .v _] FRes_ty_51)
 refine rA ?_ (x := cL [(true, [PV.val _, PV.val _, PV.sl _ _, PV.sl _ _])] [(true, [PV.val _, PV.val _, PV.sl .v _, PV.sl .v _])] FRes_c_50 (hs := by exact spec_IsQuery))
 refine rA ?_ (x := nT)
 refine rA ?_ (x := sM)
 refine RunS.cases (s := 9) rfl (fun g1 => ?_) (fun g1 => ?_)
 ·have sg1 := g1
  try simp only [q1, q2, q3, q4, q5, q6, q7, q8, q9] at sg1
  refine RunS.s0t g1 ?_
  refine RunS.s0t g1 ?_
  refine RunS.s0t g1 ?_
  refine RunS.s0t g1 ?_
  refine rA ?_ (x := pkT g1)
  refine sw_cond (t := 14) rfl (fun hb_ => ?_) (fun hb_ => nomatch hb_)
  have hbad : (okQuery x.Query && okRows x.Rows) = false := by cases h1 : okQuery x.Query <;> cases h2 : okRows x.Rows <;> simp_all
  refine sw_seq ?_
  refine sO [(1, _), (2, _)] [(1, _)] ?_
  refine sw_reg ?_
  refine rA ?_ (x := kA)
  refine sw_ret ?_
  exact (And.intro (by refine sv_eq ?_; exact str_eq (by unfold resLine; rw [if_neg (by rw [hbad]; simp)])) True.intro)
 ·have sg1 := g1
  try simp only [q1, q2, q3, q4, q5, q6, q7, q8, q9] at sg1
  refine rB g1 ?_ (x := lF FRes_fd_54_3)
  refine rB g1 ?_ (x := lD [PV.sl .v _] FRes_ty_52)
  refine rB g1 ?_ (x := cL [(false, [PV.sl _ _])] [(false, [PV.sl .v _])] FRes_c_51 (hs := by exact spec_l9List))
  refine rB g1 ?_ (x := nT)
  refine rA ?_ (x := pkF g1)
  refine sw_cond (t := 14) rfl (fun hb3 => ?_) (fun hb3 => ?_)
  ·try simp only [q1, q2, q3, q4, q5, q6, q7, q8, q9] at hb3
   have hbad : (okQuery x.Query && okRows x.Rows) = false := by cases h1 : okQuery x.Query <;> cases h2 : okRows x.Rows <;> simp_all
   refine sw_seq ?_
   refine sO [(1, _), (2, _)] [(1, _)] ?_
   refine sw_reg ?_
   refine rA ?_ (x := kA)
   refine sw_ret ?_
   exact (And.intro (by refine sv_eq ?_; exact str_eq (by unfold resLine; rw [if_neg (by rw [hbad]; simp)])) True.intro)
  ·try simp only [q1, q2, q3, q4, q5, q6, q7, q8, q9] at hb3
   have hok : okQuery x.Query = true ∧ okRows x.Rows = true := by simp_all
   have hrl := okRows_len_ hok.2
   refine sw_skip ?_
   refine sw_seq ?_
   refine sO [(1, _), (2, _)] [(1, _)] ?_
   refine sw_reg ?_
   refine rA ?_ (x := kA)
   refine sw_seq ?_
   refine sw_seq ?_
   refine sO [(1, _), (2, _), (3, _)] [(1, _)] ?_
   refine sw_reg ?_
   refine rA ?_ (x := kA)
   refine sw_block ?_
   refine sO [(1, _), (2, _), (3, _), (4, _)] [(1, _)] ?_
   refine sw_loop (l0 := [(1, RV.ptr 1 0), (2, RV.sv false [PV.val _])]) (b0 := [(1, (54, [PV.val _, PV.val _, PV.sl _ _, PV.sl _ _, PV.val _, PV.val _, PV.sl _ _]))]) (fun k : Nat => k ≤ x.Rows.length) (fun k : Nat => [(3, RV.sc (.string (B (joinB ((x.Rows.take k).map (resWord x.Query)) [32])))), (4, RV.int (k : Int))]) (fun k : Nat => []) (fun k : Nat => x.Rows.length - k) 0 (by omega) (by exact ⟨rfl, rfl, ⟨⟩⟩) (by exact ⟨rfl, ⟨⟩⟩) (by exact And.intro (by exact rfl) (And.intro (by exact rfl) (True.intro))) (by exact ⟨⟩) ?_
   rintro k hk
   refine sw_seq ?_
   refine sw_seq ?_
   refine sw_reg ?_
   refine rA ?_ (x := sM)
   refine rA ?_ (x := lF FRes_fd_54_3)
   refine rA ?_ (x := lD [PV.sl .v _] FRes_ty_52)
   refine rA ?_ (x := lN FRes_sl_52)
   refine rA ?_ (x := B_lss)
   refine sw_cond (t := 19) rfl (fun hb4 => ?_) (fun hb4 => ?_)
   ·try simp only [q1, q2, q3, q4, q5, q6, q7, q8, q9] at hb4
    have hlt : k < x.Rows.length := by omega
    have hrk := okRows_at_ hok.2 (List.getElem_mem hlt)
    obtain ⟨hi0, hi1, hvl, hv⟩ := okRow_i64 hrk
    have hil : (itoa x.Rows[k].Id).length ≤ 21 := itoa_len (by unfold I64; omega)
    have hpj := projR_i64 x.Query x.Rows[k]
    have hpl := listB_len hpj.2
    have hmt : ((x.Rows.take k).map (resWord x.Query)).length = k := by rw [List.length_map, List.length_take]; omega
    have hjl := resJ_len (q := x.Query) hok.2 k
    have htk : (x.Rows.take k).length = k := by rw [List.length_take]; omega
    refine sw_skip ?_
    refine sw_seq ?_
    refine sw_block ?_
    refine sw_seq ?_
    refine sw_seq ?_
    refine sO [(1, _), (2, _), (3, _), (4, _)] [(1, (54, [PV.val _, PV.val _, PV.sl _ _, PV.sl _ _, PV.val _, PV.val _, PV.sl _ _]))] ?_
    refine sw_reg ?_
    refine rA ?_ (x := sM)
    refine rA ?_ (x := B_gtr)
    refine sw_cond (t := 23) rfl (fun hb5 => ?_) (fun hb5 => ?_)
    ·try simp only [q1, q2, q3, q4, q5, q6, q7, q8, q9] at hb5
     have hk0 : ¬ k = 0 := by omega
     refine sO [(1, _), (2, _), (3, _), (4, _)] [(1, _)] ?_
     refine sw_reg ?_
     refine rA ?_ (x := sM)
     refine rA ?_ (x := loc_sadd)
     refine rA ?_ (x := sA)
     refine sO [(1, _), (2, _), (3, _), (4, _)] [(1, _)] ?_
     refine sw_draw hm_ ?_
     refine dA 0 ?_ (x := sM)
     refine dA 0 ?_ (x := lF FRes_fd_54_3)
     refine dA 2 ?_ (x := lD [PV.sl .v _] FRes_ty_52)
     refine dA 0 ?_ (x := sM)
     refine dA 14 ?_ (x := loc_index (by decide) FRes_sl_52 (by exact ⟨⟩) (by exact rfl) (by exact getm2 (by omega) rfl) (by exact rfl))
     refine dA 30 ?_ (x := loc_efield (by decide) FRes_fd_66_0 (by exact Nat.le_of_ble_eq_true rfl))
     refine dA 62 ?_ (x := lE [PV.val _] FRes_ty_3)
     refine dA 126 ?_ (x := cL [(false, [PV.val _])] [(false, [PV.val _])] FRes_c_28 (hs := by exact (spec_FormatInt (by unfold I64; omega))))
     refine dA 255 ?_ (x := loc_sadd)
     refine dA 511 ?_ (x := loc_sadd)
     refine dA 0 ?_ (x := lF FRes_fd_54_0)
     refine dA 1024 ?_ (x := lD [PV.val _, PV.val _, PV.sl .v _, PV.sl .v _] FRes_ty_51)
     refine dA 0 ?_ (x := lF FRes_fd_54_3)
     refine dA 4096 ?_ (x := lD [PV.sl .v _] FRes_ty_52)
     refine dA 0 ?_ (x := sM)
     refine dA 28672 ?_ (x := loc_index (by decide) FRes_sl_52 (by exact ⟨⟩) (by exact rfl) (by exact getm2 (by omega) rfl) (by exact rfl))
     refine dA 61440 ?_ (x := lE [PV.val _, PV.sl .v _] FRes_ty_66)
     refine dA 130302 ?_ (x := cL [(true, [PV.val _, PV.val _, PV.sl _ _, PV.sl _ _]), (true, [PV.val _, PV.sl _ _])] [(true, [PV.val _, PV.val _, PV.sl .v _, PV.sl .v _]), (true, [PV.val _, PV.sl .v _])] FRes_c_53 (hs := by exact spec_ProjectRow))
     refine dA 261374 ?_ (x := cL [(false, [PV.sl _ _])] [(false, [PV.sl .v _])] FRes_c_52 (hs := by exact (spec_l3List hpj.2 (by omega))))
     refine dA 524287 ?_ (x := loc_sadd)
     refine dA 1048575 ?_ (x := sA)
     refine sO [(1, _), (2, _), (3, _), (4, _)] [(1, _)] ?_
     refine sw_reg ?_
     refine rA ?_ (x := sM)
     refine rA ?_ (x := B_add)
     refine rA ?_ (x := sA)
     refine Exists.intro (k + 1) (And.intro (by omega) (And.intro (by omega) (And.intro (And.intro (by exact ⟨rfl, rfl, ⟨⟩⟩) (by exact ⟨rfl, ⟨⟩⟩)) (And.intro (by exact And.intro (by first | exact congrArg (fun z => some (RV.sc (.string (B z)))) (by rw [map_take_succ hlt, join_snoc, if_neg (map_take_nil hlt hk0)]; simp [resWord, List.append_assoc]) | exact congrArg (fun z => some (RV.sc (.string (B z)))) (by rw [map_take_succ hlt, join_snoc, if_pos (by subst hk0; rfl)]; subst hk0; simp [resWord, join_nil, List.append_assoc])) (And.intro (by exact rfl) (True.intro))) (by exact ⟨⟩)))))
    ·try simp only [q1, q2, q3, q4, q5, q6, q7, q8, q9] at hb5
     have hk0 : k = 0 := by omega
     refine sw_skip ?_
     refine sO [(1, _), (2, _), (3, _), (4, _)] [(1, _)] ?_
     refine sw_draw hm_ ?_
     refine dA 0 ?_ (x := sM)
     refine dA 0 ?_ (x := lF FRes_fd_54_3)
     refine dA 2 ?_ (x := lD [PV.sl .v _] FRes_ty_52)
     refine dA 0 ?_ (x := sM)
     refine dA 14 ?_ (x := loc_index (by decide) FRes_sl_52 (by exact ⟨⟩) (by exact rfl) (by exact getm2 (by omega) rfl) (by exact rfl))
     refine dA 30 ?_ (x := loc_efield (by decide) FRes_fd_66_0 (by exact Nat.le_of_ble_eq_true rfl))
     refine dA 62 ?_ (x := lE [PV.val _] FRes_ty_3)
     refine dA 126 ?_ (x := cL [(false, [PV.val _])] [(false, [PV.val _])] FRes_c_28 (hs := by exact (spec_FormatInt (by unfold I64; omega))))
     refine dA 255 ?_ (x := loc_sadd)
     refine dA 511 ?_ (x := loc_sadd)
     refine dA 0 ?_ (x := lF FRes_fd_54_0)
     refine dA 1024 ?_ (x := lD [PV.val _, PV.val _, PV.sl .v _, PV.sl .v _] FRes_ty_51)
     refine dA 0 ?_ (x := lF FRes_fd_54_3)
     refine dA 4096 ?_ (x := lD [PV.sl .v _] FRes_ty_52)
     refine dA 0 ?_ (x := sM)
     refine dA 28672 ?_ (x := loc_index (by decide) FRes_sl_52 (by exact ⟨⟩) (by exact rfl) (by exact getm2 (by omega) rfl) (by exact rfl))
     refine dA 61440 ?_ (x := lE [PV.val _, PV.sl .v _] FRes_ty_66)
     refine dA 130302 ?_ (x := cL [(true, [PV.val _, PV.val _, PV.sl _ _, PV.sl _ _]), (true, [PV.val _, PV.sl _ _])] [(true, [PV.val _, PV.val _, PV.sl .v _, PV.sl .v _]), (true, [PV.val _, PV.sl .v _])] FRes_c_53 (hs := by exact spec_ProjectRow))
     refine dA 261374 ?_ (x := cL [(false, [PV.sl _ _])] [(false, [PV.sl .v _])] FRes_c_52 (hs := by exact (spec_l3List hpj.2 (by omega))))
     refine dA 524287 ?_ (x := loc_sadd)
     refine dA 1048575 ?_ (x := sA)
     refine sO [(1, _), (2, _), (3, _), (4, _)] [(1, _)] ?_
     refine sw_reg ?_
     refine rA ?_ (x := sM)
     refine rA ?_ (x := B_add)
     refine rA ?_ (x := sA)
     refine Exists.intro (k + 1) (And.intro (by omega) (And.intro (by omega) (And.intro (And.intro (by exact ⟨rfl, rfl, ⟨⟩⟩) (by exact ⟨rfl, ⟨⟩⟩)) (And.intro (by exact And.intro (by first | exact congrArg (fun z => some (RV.sc (.string (B z)))) (by rw [map_take_succ hlt, join_snoc, if_neg (map_take_nil hlt hk0)]; simp [resWord, List.append_assoc]) | exact congrArg (fun z => some (RV.sc (.string (B z)))) (by rw [map_take_succ hlt, join_snoc, if_pos (by subst hk0; rfl)]; subst hk0; simp [resWord, join_nil, List.append_assoc])) (And.intro (by exact rfl) (True.intro))) (by exact ⟨⟩)))))
   ·try simp only [q1, q2, q3, q4, q5, q6, q7, q8, q9] at hb4
    have hend : k = x.Rows.length := by omega
    subst hend
    rw [List.take_length]
    have hle := lines_end (ws := x.Rows.map (resWord x.Query)) (by intro y hy; obtain ⟨r, hr, rfl⟩ := List.mem_map.1 hy; exact resWord_ne _ _)
    refine sw_exit ?_
    refine sw_seq ?_
    refine sw_seq ?_
    refine sO [(1, _), (2, _), (3, _), (4, _)] [(1, (54, [PV.val _, PV.val _, PV.sl _ _, PV.sl _ _, PV.val _, PV.val _, PV.sl _ _]))] ?_
    refine sw_reg ?_
    refine rA ?_ (x := sM)
    refine rA ?_ (x := loc_seql)
    refine sw_cond (t := 47) rfl (fun hb6 => ?_) (fun hb6 => ?_)
    ·try simp only [q1, q2, q3, q4, q5, q6, q7, q8, q9] at hb6
     have he := hb6
     refine sw_seq ?_
     refine sO [(1, _), (2, _), (3, _), (4, _)] [(1, _)] ?_
     refine sw_reg ?_
     refine rA ?_ (x := kA)
     refine sw_ret ?_
     exact (And.intro (by refine sv_eq ?_; exact str_eq (by unfold resLine; rw [if_pos (by rw [hok.1, hok.2]; rfl), ← hle]; first | rw [if_pos he] | rw [if_neg he])) True.intro)
    ·try simp only [q1, q2, q3, q4, q5, q6, q7, q8, q9] at hb6
     have he := hb6
     refine sw_skip ?_
     refine sw_seq ?_
     refine sO [(1, _), (2, _), (3, _), (4, _)] [(1, _)] ?_
     refine sw_reg ?_
     refine rA ?_ (x := sM)
     refine rA ?_ (x := sA)
     refine sw_ret ?_
     exact (And.intro (by refine sv_eq ?_; exact str_eq (by unfold resLine; rw [if_pos (by rw [hok.1, hok.2]; rfl), ← hle]; first | rw [if_pos he] | rw [if_neg he])) True.intro)
end Go.Proofs.YtaomckpfgmhapaaDoor
