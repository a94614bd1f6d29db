/- What functions of the program compute. No condition. -/
import Derived.Test.YtloipjaiceifbaaCCluEClusterRows
import Derived.Test.YtloipjaiceifbaaCSrtRClusterRows
import Derived.Test.YtloipjaiceifbaaCDi
import Derived.KernelRfl
set_option linter.unusedVariables false
set_option linter.unusedSimpArgs false
namespace Go.Proofs.Ytloipjaiceifbaa
open Go Go.RowKit M
set_option maxRecDepth 10000
attribute [local irreducible] PV.Lcl PV.LclR RV.Lcl
theorem FCluR_c_101 : callI Try.prog 101 = true := by kernel_rfl
theorem FCluR_c_104 : callI Try.prog 104 = true := by kernel_rfl
theorem FCluR_c_105 : callI Try.prog 105 = true := by kernel_rfl
theorem FCluR_c_106 : callI Try.prog 106 = true := by kernel_rfl
theorem FCluR_c_98 : callI Try.prog 98 = true := by kernel_rfl
theorem FCluR_fd_60_7 : fieldI Try.prog 60 7 = some 10 := by kernel_rfl
theorem FCluR_sl_32 : sliceI Try.prog 32 = some (87, 2, 32) := by kernel_rfl
theorem FCluR_sl_57 : sliceI Try.prog 57 = some (32, 1, 24) := by kernel_rfl
theorem FCluR_ty_32 : tyI Try.prog 32 = some (false, 1) := by kernel_rfl
theorem FCluR_ty_57 : tyI Try.prog 57 = some (false, 1) := by kernel_rfl
theorem FCluR_ty_60 : tyI Try.prog 60 = some (true, 11) := by kernel_rfl
theorem FCluR_z_87 : zeroI Try.prog 87 = some (.agg #[.int .i64 0, .slice none 0 0]) := by kernel_rfl
theorem impl_ClusterRows {p3 p4 p9 p10 p13 p14 : Fl} {c : Cluster}  (hb : wtCluster c ≤ 68719476736) : SCall Try.prog 52 [(true, [PV.val (vI c.Query.Id), PV.val (vI c.Query.Tenant), PV.sl .v (c.Query.Conds.map cCond), PV.sl .v (c.Query.Out.map cInt), PV.sl .v (c.Parts.map (cRowS p3 p4)), PV.sl .v (c.Up.map cBool), PV.sl .v (c.At.map cInt), PV.sl .v (c.Pos.map cInt), PV.sl .v (c.Buffer.map (cRowS p9 p10)), PV.sl .v (c.Done.map cInt), PV.sl .v (c.Rows.map (cRowS p13 p14))])] (resRV [(false, [PV.sl (.own 87 2) ((cluRows c).map (cRow (.own 3 1)))])]) := by
 refine scall_of (rs := [(false, [PV.sl (.own 87 2) ((cluRows c).map (cRow (.own 3 1)))])]) Try.func52 rfl (Nat.le_of_ble_eq_true rfl) (borA_cons (BorL.cons (PV.bor_val _) (BorL.cons (PV.bor_val _) (BorL.cons (PV.bor_sl _) (BorL.cons (PV.bor_sl _) (BorL.cons (PV.bor_sl _) (BorL.cons (PV.bor_sl _) (BorL.cons (PV.bor_sl _) (BorL.cons (PV.bor_sl _) (BorL.cons (PV.bor_sl _) (BorL.cons (PV.bor_sl _) (BorL.cons (PV.bor_sl _) BorL.nil))))))))))) borA_nil) ?_
 intro h0 w0 Fz0
 refine sw_slen (s := 0) (j := 2) rfl rfl fun hl0_2 => ?_
 try rw [List.length_map] at hl0_2
 refine sw_slen (s := 0) (j := 3) rfl rfl fun hl0_3 => ?_
 try rw [List.length_map] at hl0_3
 refine sw_slen (s := 0) (j := 4) rfl rfl fun hl0_4 => ?_
 try rw [List.length_map] at hl0_4
 refine sw_slen (s := 0) (j := 5) rfl rfl fun hl0_5 => ?_
 try rw [List.length_map] at hl0_5
 refine sw_slen (s := 0) (j := 6) rfl rfl fun hl0_6 => ?_
 try rw [List.length_map] at hl0_6
 refine sw_slen (s := 0) (j := 7) rfl rfl fun hl0_7 => ?_
 try rw [List.length_map] at hl0_7
 refine sw_slen (s := 0) (j := 8) rfl rfl fun hl0_8 => ?_
 try rw [List.length_map] at hl0_8
 refine sw_slen (s := 0) (j := 9) rfl rfl fun hl0_9 => ?_
 try rw [List.length_map] at hl0_9
 refine sw_slen (s := 0) (j := 10) rfl rfl fun hl0_10 => ?_
 try rw [List.length_map] at hl0_10
 have hbu := hb
 simp only [wtCluster, wtInt] at hbu
 have hfk := flat_twt c.Rows
 have hwR : wtRowSS c.Rows = c.Rows.length + (c.Rows.map wtRowS).sum := rfl
 refine sw_seq ?_
 refine sw_reg ?_
 refine RunS.step (by exact ⟨rfl, ⟨⟩⟩) (by exact ⟨⟩) (LocG.of rfl (loc_box (ag := true) (cs := [PV.val _, PV.val _, PV.sl _ _, PV.sl _ _, PV.sl _ _, PV.sl _ _, PV.sl _ _, PV.sl _ _, PV.sl _ _, PV.sl _ _, PV.sl _ _]) (by decide) (by exact ⟨⟩))) (free1 (Free.of_ rfl)) ?_
 refine rA ?_ (x := loc_const (.inr rfl) (by decide) (ok_nil (t := 87) (e := 2)))
 refine sw_seq ?_
 refine sO [(1, _), (2, _)] [(1, (60, [PV.val _, PV.val _, PV.sl _ _, PV.sl _ _, PV.sl _ _, PV.sl _ _, PV.sl _ _, PV.sl _ _, PV.sl _ _, PV.sl _ _, PV.sl _ _]))] ?_
 refine sw_reg ?_
 refine rA ?_ (x := loc_bslice (qs := []) (by decide) FCluR_sl_32 FCluR_z_87 (by decide) rfl rfl rfl rfl rfl (by exact Nat.le_of_ble_eq_true rfl) (by exact ⟨⟩) rfl)
 refine rA ?_ (x := tA)
 refine sw_seq ?_
 refine sw_seq ?_
 refine sO [(1, _), (2, _), (3, _)] [(1, _)] ?_
 refine sw_reg ?_
 refine rA ?_ (x := lD [PV.val _, PV.val _, PV.sl .v _, PV.sl .v _, PV.sl .v _, PV.sl .v _, PV.sl .v _, PV.sl .v _, PV.sl .v _, PV.sl .v _, PV.sl .v _] FCluR_ty_60)
 refine rA ?_ (x := cL [(true, [PV.val _, PV.val _, PV.sl _ _, PV.sl _ _, PV.sl _ _, PV.sl _ _, PV.sl _ _, PV.sl _ _, PV.sl _ _, PV.sl _ _, PV.sl _ _])] [(true, [PV.val _, PV.val _, PV.sl .v _, PV.sl .v _, PV.sl .v _, PV.sl .v _, PV.sl .v _, PV.sl .v _, PV.sl .v _, PV.sl .v _, PV.sl .v _])] FCluR_c_101 (hs := by exact impl_IsCluster (by omega)))
 refine rA ?_ (x := nT)
 refine sw_cond (t := 9) rfl (fun hb1 => ?_) (fun hb1 => ?_)
 ·try simp only [q1, q2, q3, q4, q5, q6, q7, q8, q9] at hb1
  have hr := cluRows_no (c := c) (by simpa using hb1)
  refine sw_seq ?_
  refine sO [(1, _), (2, _), (3, _)] [(1, _)] ?_
  refine sw_reg ?_
  refine rA ?_ (x := tM)
  refine rA ?_ (x := tA)
  refine sw_ret ?_
  exact (And.intro (by refine slc_eq ?_; rw [hr]; try rfl) True.intro)
 ·try simp only [q1, q2, q3, q4, q5, q6, q7, q8, q9] at hb1
  have hcl : isCl c = true := by simpa using hb1
  have hr := cluRows_ok hcl
  refine sw_skip ?_
  refine sw_seq ?_
  refine sw_seq ?_
  refine sO [(1, _), (2, _), (3, _)] [(1, _)] ?_
  refine sw_reg ?_
  refine rA ?_ (x := lF FCluR_fd_60_7)
  refine rA ?_ (x := lD [PV.sl .v _] FCluR_ty_57)
  refine rA ?_ (x := lN FCluR_sl_57)
  refine rA ?_ (x := kM)
  refine sw_block ?_
  refine sO [(1, _), (2, _), (3, _), (12, _), (13, _), (14, _)] [(1, _)] ?_
  refine sw_loop (l0 := [(1, RV.ptr 1 0), (2, RV.sv false [PV.sl _ _]), (12, RV.sv false [PV.sl _ _]), (13, RV.sv false [PV.val _])]) (b0 := [(1, (60, [PV.val _, PV.val _, PV.sl _ _, PV.sl _ _, PV.sl _ _, PV.sl _ _, PV.sl _ _, PV.sl _ _, PV.sl _ _, PV.sl _ _, PV.sl _ _]))]) (fun k : Nat => k ≤ c.Rows.length) (fun k : Nat => [(3, RV.slc (.own 87 2) (((c.Rows.take k).flatten).map (cRow .v))), (14, RV.int (k : Int))]) (fun k : Nat => []) (fun k : Nat => c.Rows.length - k) 0 (by omega) (by exact ⟨rfl, rfl, rfl, rfl, ⟨⟩⟩) (by exact ⟨rfl, ⟨⟩⟩) (by exact And.intro (by exact rfl) (And.intro (by exact rfl) (True.intro))) (by exact ⟨⟩) ?_
  rintro k hk
  have hfl : (c.Rows.take k).flatten.length ≤ wtRowS (c.Rows.take k).flatten := Nat.le_add_right _ _
  have hfk2 := hfk k
  refine sw_seq ?_
  refine sw_reg ?_
  refine rA ?_ (x := B_lss)
  refine sw_seq ?_
  refine sw_cond (t := 15) rfl (fun hb2 => ?_) (fun hb2 => ?_)
  ·try simp only [q1, q2, q3, q4, q5, q6, q7, q8, q9] at hb2
   have hlt : k < c.Rows.length := by omega
   have hwm := wt_mem (f := wtRowS) hlt
   have hln : (c.Rows[k]).length ≤ wtRowS c.Rows[k] := Nat.le_add_right _ _
   refine sw_skip ?_
   refine sw_seq ?_
   refine sw_block ?_
   refine sw_seq ?_
   refine sO [(1, _), (2, _), (3, _), (12, _), (13, _), (14, _)] [(1, (60, [PV.val _, PV.val _, PV.sl _ _, PV.sl _ _, PV.sl _ _, PV.sl _ _, PV.sl _ _, PV.sl _ _, PV.sl _ _, PV.sl _ _, PV.sl _ _]))] ?_
   refine sw_reg ?_
   refine rA ?_ (x := loc_index (by decide) FCluR_sl_57 (by exact ⟨⟩) (by exact rfl) (by exact getm2 (by omega) rfl) (by exact rfl))
   refine rA ?_ (x := loc_eload (qs := [PV.sl .v _]) (by decide) FCluR_ty_32 (fun _ => rfl) (by exact Nat.le_of_ble_eq_true rfl) (by exact (ToL.cons (PV.to_map (fun _ => (ToL.cons (PV.To.refl _) (ToL.cons (PV.to_map (fun _ => (ToL.cons (PV.To.refl _) ToL.nil))) ToL.nil)))) ToL.nil)) (by exact (BorL.cons (PV.bor_sl _) BorL.nil)))
   refine rA ?_ (x := vA false [PV.sl .v _])
   refine sO [(1, _), (2, _), (3, _), (5, _), (12, _), (13, _), (14, _)] [(1, _)] ?_
   refine sw_reg ?_
   refine rA ?_ (x := tM)
   refine rA ?_ (x := vM false [PV.sl .v _])
   refine rA ?_ (x := loc_appendb (by decide) FCluR_sl_32 FCluR_z_87 rfl rfl (by decide) (by first | (intro cs hcs; obtain ⟨x, _, rfl⟩ := List.mem_map.1 hcs; exact rfl) | simp) (by first | (intro cs hcs; obtain ⟨x, _, rfl⟩ := List.mem_map.1 hcs; exact (BorL.cons (PV.bor_val _) (BorL.cons (PV.bor_sl _) BorL.nil))) | simp) (by simp only [List.length_map, List.length_append, List.length_cons, List.length_nil]; omega) (by simp only [List.length_map, List.length_append, List.length_cons, List.length_nil]; omega))
   refine rA ?_ (x := tA)
   refine sO [(1, _), (2, _), (3, _), (5, _), (12, _), (13, _), (14, _)] [(1, _)] ?_
   refine sw_reg ?_
   refine rA ?_ (x := B_add)
   refine rA ?_ (x := sM)
   refine Exists.intro (k + 1) (And.intro (by omega) (And.intro (by omega) (And.intro (And.intro (by exact ⟨rfl, rfl, rfl, rfl, ⟨⟩⟩) (by exact ⟨rfl, ⟨⟩⟩)) (And.intro (by exact And.intro (by exact slc_eq (by rw [flat_succ hlt, List.map_append]; try rfl)) (And.intro (by exact int_eq (by omega)) (True.intro))) (by exact ⟨⟩)))))
  ·try simp only [q1, q2, q3, q4, q5, q6, q7, q8, q9] at hb2
   have hend : (c.Rows.take k).flatten = c.Rows.flatten := by rw [List.take_of_length_le (by omega)]
   refine sw_exit ?_
   refine sw_seq ?_
   refine sO [(1, _), (2, _), (3, _), (12, _), (13, _), (14, _)] [(1, (60, [PV.val _, PV.val _, PV.sl _ _, PV.sl _ _, PV.sl _ _, PV.sl _ _, PV.sl _ _, PV.sl _ _, PV.sl _ _, PV.sl _ _, PV.sl _ _]))] ?_
   refine sw_reg ?_
   refine rA ?_ (x := vM false [PV.sl .v _])
   refine rA ?_ (x := cL [(false, [PV.sl _ _])] [(false, [PV.sl .v _])] FCluR_c_106 (hs := by exact (impl_SortRows (by omega))))
   refine rA ?_ (x := tA)
   refine sw_ret ?_
   exact (And.intro (by refine slc_eq ?_; rw [hr, hend]) True.intro)
theorem spec_ClusterRows {p3 p4 p9 p10 p13 p14 : Fl} {c : Cluster}  (hb : wtCluster c ≤ 68719476736) : SCall Try.prog 51 [(true, [PV.val (vI c.Query.Id), PV.val (vI c.Query.Tenant), PV.sl .v (c.Query.Conds.map cCond), PV.sl .v (c.Query.Out.map cInt), PV.sl .v (c.Parts.map (cRowS p3 p4)), PV.sl .v (c.Up.map cBool), PV.sl .v (c.At.map cInt), PV.sl .v (c.Pos.map cInt), PV.sl .v (c.Buffer.map (cRowS p9 p10)), PV.sl .v (c.Done.map cInt), PV.sl .v (c.Rows.map (cRowS p13 p14))])] (resRV [(false, [PV.sl (.own 87 2) ((cluRows c).map (cRow .v))])]) := by
 refine scall_of (rs := [(false, [PV.sl (.own 87 2) ((cluRows c).map (cRow .v))])]) Try.func51 rfl (Nat.le_of_ble_eq_true rfl) (borA_cons (BorL.cons (PV.bor_val _) (BorL.cons (PV.bor_val _) (BorL.cons (PV.bor_sl _) (BorL.cons (PV.bor_sl _) (BorL.cons (PV.bor_sl _) (BorL.cons (PV.bor_sl _) (BorL.cons (PV.bor_sl _) (BorL.cons (PV.bor_sl _) (BorL.cons (PV.bor_sl _) (BorL.cons (PV.bor_sl _) (BorL.cons (PV.bor_sl _) BorL.nil))))))))))) borA_nil) ?_
 intro h0 w0 Fz0
 refine sw_slen (s := 0) (j := 2) rfl rfl fun hl0_2 => ?_
 try rw [List.length_map] at hl0_2
 refine sw_slen (s := 0) (j := 3) rfl rfl fun hl0_3 => ?_
 try rw [List.length_map] at hl0_3
 refine sw_slen (s := 0) (j := 4) rfl rfl fun hl0_4 => ?_
 try rw [List.length_map] at hl0_4
 refine sw_slen (s := 0) (j := 5) rfl rfl fun hl0_5 => ?_
 try rw [List.length_map] at hl0_5
 refine sw_slen (s := 0) (j := 6) rfl rfl fun hl0_6 => ?_
 try rw [List.length_map] at hl0_6
 refine sw_slen (s := 0) (j := 7) rfl rfl fun hl0_7 => ?_
 try rw [List.length_map] at hl0_7
 refine sw_slen (s := 0) (j := 8) rfl rfl fun hl0_8 => ?_
 try rw [List.length_map] at hl0_8
 refine sw_slen (s := 0) (j := 9) rfl rfl fun hl0_9 => ?_
 try rw [List.length_map] at hl0_9
 refine sw_slen (s := 0) (j := 10) rfl rfl fun hl0_10 => ?_
 try rw [List.length_map] at hl0_10
 have hbu := hb
 simp only [wtCluster, wtInt] at hbu
 have hfk := flat_twt c.Rows
 have hwR : wtRowSS c.Rows = c.Rows.length + (c.Rows.map wtRowS).sum := rfl
 refine sw_seq ?_
 refine sw_reg ?_
 refine RunS.step (by exact ⟨rfl, ⟨⟩⟩) (by exact ⟨⟩) (LocG.of rfl (loc_box (ag := true) (cs := [PV.val _, PV.val _, PV.sl _ _, PV.sl _ _, PV.sl _ _, PV.sl _ _, PV.sl _ _, PV.sl _ _, PV.sl _ _, PV.sl _ _, PV.sl _ _]) (by decide) (by exact ⟨⟩))) (free1 (Free.of_ rfl)) ?_
 refine rA ?_ (x := loc_const (.inr rfl) (by decide) (ok_nil (t := 87) (e := 2)))
 refine sw_seq ?_
 refine sO [(1, _), (2, _)] [(1, (60, [PV.val _, PV.val _, PV.sl _ _, PV.sl _ _, PV.sl _ _, PV.sl _ _, PV.sl _ _, PV.sl _ _, PV.sl _ _, PV.sl _ _, PV.sl _ _]))] ?_
 refine sw_reg ?_
 refine rA ?_ (x := loc_bslice (qs := []) (by decide) FCluR_sl_32 FCluR_z_87 (by decide) rfl rfl rfl rfl rfl (by exact Nat.le_of_ble_eq_true rfl) (by exact ⟨⟩) rfl)
 refine rA ?_ (x := tA)
 refine sw_seq ?_
 refine sw_seq ?_
 refine sO [(1, _), (2, _), (3, _)] [(1, _)] ?_
 refine sw_reg ?_
 refine rA ?_ (x := kA)
 refine sw_block ?_
 refine sO [(1, _), (2, _), (3, _), (4, _)] [(1, _)] ?_
 refine sw_loop (l0 := [(1, RV.ptr 1 0), (2, RV.sv false [PV.sl _ _])]) (b0 := [(1, (60, [PV.val _, PV.val _, PV.sl _ _, PV.sl _ _, PV.sl _ _, PV.sl _ _, PV.sl _ _, PV.sl _ _, PV.sl _ _, PV.sl _ _, PV.sl _ _]))]) (fun k : Nat => k ≤ c.Rows.length ∧ (0 < k → isCl c = true)) (fun k : Nat => [(3, RV.slc (.own 87 2) (((c.Rows.take k).flatten).map (cRow (.own 3 1)))), (4, RV.int (k : Int))]) (fun k : Nat => []) (fun k : Nat => c.Rows.length - k) 0 (by exact ⟨Nat.zero_le _, fun h => absurd h (Nat.lt_irrefl _)⟩) (by exact ⟨rfl, rfl, ⟨⟩⟩) (by exact ⟨rfl, ⟨⟩⟩) (by exact And.intro (by exact rfl) (And.intro (by exact rfl) (True.intro))) (by exact ⟨⟩) ?_
 rintro k ⟨hk, hkc⟩
 have hfl : (c.Rows.take k).flatten.length ≤ wtRowS (c.Rows.take k).flatten := Nat.le_add_right _ _
 have hfk2 := hfk k
 refine sw_seq ?_
 refine sw_seq ?_
 refine sw_reg ?_
 refine rA ?_ (x := sM)
 refine rA ?_ (x := lF FCluR_fd_60_7)
 refine rA ?_ (x := lD [PV.sl .v _] FCluR_ty_57)
 refine rA ?_ (x := lN FCluR_sl_57)
 refine rA ?_ (x := B_lss)
 refine rA ?_ (x := sM)
 refine RunS.cases (s := 11) rfl (fun g1 => ?_) (fun g1 => ?_)
 ·have sg1 := g1
  try simp only [q1, q2, q3, q4, q5, q6, q7, q8, q9] at sg1
  refine rB g1 ?_ (x := lD [PV.val _, PV.val _, PV.sl .v _, PV.sl .v _, PV.sl .v _, PV.sl .v _, PV.sl .v _, PV.sl .v _, PV.sl .v _, PV.sl .v _, PV.sl .v _] FCluR_ty_60)
  refine rB g1 ?_ (x := cL [(true, [PV.val _, PV.val _, PV.sl _ _, PV.sl _ _, PV.sl _ _, PV.sl _ _, PV.sl _ _, PV.sl _ _, PV.sl _ _, PV.sl _ _, PV.sl _ _])] [(true, [PV.val _, PV.val _, PV.sl .v _, PV.sl .v _, PV.sl .v _, PV.sl .v _, PV.sl .v _, PV.sl .v _, PV.sl .v _, PV.sl .v _, PV.sl .v _])] FCluR_c_98 (hs := by exact spec_IsCluster (by omega)))
  refine rA ?_ (x := pkT g1)
  refine sw_cond (t := 14) rfl (fun hb2 => ?_) (fun hb2 => ?_)
  ·try simp only [q1, q2, q3, q4, q5, q6, q7, q8, q9] at hb2
   have hlt : k < c.Rows.length := by omega
   have hwm := wt_mem (f := wtRowS) hlt
   have hln : (c.Rows[k]).length ≤ wtRowS c.Rows[k] := Nat.le_add_right _ _
   have hcl : isCl c = true := by first | assumption | simpa using hb2
   refine sw_skip ?_
   refine sw_seq ?_
   refine sw_block ?_
   refine sO [(1, _), (2, _), (3, _), (4, _)] [(1, (60, [PV.val _, PV.val _, PV.sl _ _, PV.sl _ _, PV.sl _ _, PV.sl _ _, PV.sl _ _, PV.sl _ _, PV.sl _ _, PV.sl _ _, PV.sl _ _]))] ?_
   refine sw_reg ?_
   refine rA ?_ (x := tM)
   refine rA ?_ (x := lF FCluR_fd_60_7)
   refine rA ?_ (x := lD [PV.sl .v _] FCluR_ty_57)
   refine rA ?_ (x := sM)
   refine rA ?_ (x := loc_index (by decide) FCluR_sl_57 (by exact ⟨⟩) (by exact rfl) (by exact getm2 (by omega) rfl) (by exact rfl))
   refine rA ?_ (x := lE [PV.sl .v _] FCluR_ty_32)
   refine rA ?_ (x := cL [(false, [PV.sl _ _])] [(false, [PV.sl .v _])] FCluR_c_104 (hs := by exact spec_l9Rows (by omega)))
   refine rA ?_ (x := loc_append (by decide) FCluR_sl_32 FCluR_z_87 rfl rfl (by decide) rfl (by simp only [List.length_map, List.length_append, List.length_cons, List.length_nil]; omega) (by simp only [List.length_map, List.length_append, List.length_cons, List.length_nil]; omega))
   refine rA ?_ (x := tA)
   refine sO [(1, _), (2, _), (3, _), (4, _)] [(1, _)] ?_
   refine sw_reg ?_
   refine rA ?_ (x := sM)
   refine rA ?_ (x := B_add)
   refine rA ?_ (x := sA)
   refine Exists.intro (k + 1) (And.intro (by exact ⟨by omega, fun _ => hcl⟩) (And.intro (by omega) (And.intro (And.intro (by exact ⟨rfl, rfl, ⟨⟩⟩) (by exact ⟨rfl, ⟨⟩⟩)) (And.intro (by exact And.intro (by exact slc_eq (by rw [flat_succ hlt, List.map_append]; try rfl)) (And.intro (by exact int_eq (by omega)) (True.intro))) (by exact ⟨⟩)))))
  ·try simp only [q1, q2, q3, q4, q5, q6, q7, q8, q9] at hb2
   have hend := cluRows_fin hkc (by first | exact .inl (by assumption) | exact .inl (by simpa using hb2) | exact .inr (by omega))
   refine sw_exit ?_
   refine sw_seq ?_
   refine sO [(1, _), (2, _), (3, _), (4, _)] [(1, (60, [PV.val _, PV.val _, PV.sl _ _, PV.sl _ _, PV.sl _ _, PV.sl _ _, PV.sl _ _, PV.sl _ _, PV.sl _ _, PV.sl _ _, PV.sl _ _]))] ?_
   refine sw_reg ?_
   refine rA ?_ (x := vM false [PV.sl .v _])
   refine rA ?_ (x := cL [(false, [PV.sl _ _])] [(false, [PV.sl .v _])] FCluR_c_105 (hs := by exact (spec_SortRows (by omega))))
   refine rA ?_ (x := tA)
   refine sw_ret ?_
   exact (And.intro (by refine slc_eq ?_; rw [hend]) True.intro)
 ·have sg1 := g1
  try simp only [q1, q2, q3, q4, q5, q6, q7, q8, q9] at sg1
  refine RunS.s0f g1 ?_
  refine RunS.s0f g1 ?_
  refine rA ?_ (x := pkF g1)
  refine sw_cond (t := 14) rfl (fun hb_ => nomatch hb_) (fun hb_ => ?_)
  have hend := cluRows_fin hkc (by first | exact .inl (by assumption) | exact .inl (by simpa using hb_) | exact .inr (by omega))
  refine sw_exit ?_
  refine sw_seq ?_
  refine sO [(1, _), (2, _), (3, _), (4, _)] [(1, (60, [PV.val _, PV.val _, PV.sl _ _, PV.sl _ _, PV.sl _ _, PV.sl _ _, PV.sl _ _, PV.sl _ _, PV.sl _ _, PV.sl _ _, PV.sl _ _]))] ?_
  refine sw_reg ?_
  refine rA ?_ (x := vM false [PV.sl .v _])
  refine rA ?_ (x := cL [(false, [PV.sl _ _])] [(false, [PV.sl .v _])] FCluR_c_105 (hs := by exact (spec_SortRows (by omega))))
  refine rA ?_ (x := tA)
  refine sw_ret ?_
  exact (And.intro (by refine slc_eq ?_; rw [hend]) True.intro)
end Go.Proofs.Ytloipjaiceifbaa
