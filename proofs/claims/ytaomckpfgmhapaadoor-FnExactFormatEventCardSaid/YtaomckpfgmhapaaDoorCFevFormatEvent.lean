/- What functions of the program compute. No condition. -/
import Derived.Test.YtaomckpfgmhapaaDoorCRtxFormatEvent
import Derived.Test.YtaomckpfgmhapaaDoorCEvtFormatEvent
import Derived.Test.YtaomckpfgmhapaaDoorCDev
import Derived.KernelRfl
set_option linter.unusedVariables false
set_option linter.unusedSimpArgs false
namespace Go.Proofs.YtaomckpfgmhapaaDoor
open Go Go.RowKit M
set_option maxRecDepth 10000
attribute [local irreducible] PV.Lcl PV.LclR RV.Lcl
theorem FFev_c_105 : callI Tryd.prog 105 = true := by kernel_rfl
theorem FFev_c_108 : callI Tryd.prog 108 = true := by kernel_rfl
theorem FFev_c_28 : callI Tryd.prog 28 = true := by kernel_rfl
theorem FFev_c_32 : callI Tryd.prog 32 = true := by kernel_rfl
theorem FFev_c_35 : callI Tryd.prog 35 = true := by kernel_rfl
theorem FFev_c_40 : callI Tryd.prog 40 = true := by kernel_rfl
theorem FFev_c_44 : callI Tryd.prog 44 = true := by kernel_rfl
theorem FFev_c_50 : callI Tryd.prog 50 = true := by kernel_rfl
theorem FFev_c_52 : callI Tryd.prog 52 = true := by kernel_rfl
theorem FFev_c_56 : callI Tryd.prog 56 = true := by kernel_rfl
theorem FFev_c_58 : callI Tryd.prog 58 = true := by kernel_rfl
theorem FFev_c_63 : callI Tryd.prog 63 = true := by kernel_rfl
theorem FFev_c_64 : callI Tryd.prog 64 = true := by kernel_rfl
theorem FFev_c_65 : callI Tryd.prog 65 = true := by kernel_rfl
theorem FFev_c_67 : callI Tryd.prog 67 = true := by kernel_rfl
theorem FFev_c_68 : callI Tryd.prog 68 = true := by kernel_rfl
theorem FFev_c_69 : callI Tryd.prog 69 = true := by kernel_rfl
theorem FFev_fd_139_0 : fieldI Tryd.prog 139 0 = some 0 := by kernel_rfl
theorem FFev_fd_139_1 : fieldI Tryd.prog 139 1 = some 1 := by kernel_rfl
theorem FFev_fd_139_2 : fieldI Tryd.prog 139 2 = some 2 := by kernel_rfl
theorem FFev_fd_51_0 : fieldI Tryd.prog 51 0 = some 0 := by kernel_rfl
theorem FFev_fd_51_1 : fieldI Tryd.prog 51 1 = some 1 := by kernel_rfl
theorem FFev_fd_51_2 : fieldI Tryd.prog 51 2 = some 2 := by kernel_rfl
theorem FFev_fd_51_3 : fieldI Tryd.prog 51 3 = some 3 := by kernel_rfl
theorem FFev_fd_66_0 : fieldI Tryd.prog 66 0 = some 0 := by kernel_rfl
theorem FFev_fd_68_0 : fieldI Tryd.prog 68 0 = some 0 := by kernel_rfl
theorem FFev_fd_68_1 : fieldI Tryd.prog 68 1 = some 1 := by kernel_rfl
theorem FFev_fd_68_2 : fieldI Tryd.prog 68 2 = some 3 := by kernel_rfl
theorem FFev_fd_68_3 : fieldI Tryd.prog 68 3 = some 4 := by kernel_rfl
theorem FFev_fd_70_0 : fieldI Tryd.prog 70 0 = some 0 := by kernel_rfl
theorem FFev_fd_70_1 : fieldI Tryd.prog 70 1 = some 1 := by kernel_rfl
theorem FFev_fd_70_2 : fieldI Tryd.prog 70 2 = some 5 := by kernel_rfl
theorem FFev_fd_70_3 : fieldI Tryd.prog 70 3 = some 6 := by kernel_rfl
theorem FFev_fd_70_4 : fieldI Tryd.prog 70 4 = some 7 := by kernel_rfl
theorem FFev_fd_70_5 : fieldI Tryd.prog 70 5 = some 12 := by kernel_rfl
theorem FFev_sl_49 : sliceI Tryd.prog 49 = some (139, 3, 24) := by kernel_rfl
theorem FFev_sl_82 : sliceI Tryd.prog 82 = some (9, 1, 16) := by kernel_rfl
theorem FFev_ty_139 : tyI Tryd.prog 139 = some (true, 3) := by kernel_rfl
theorem FFev_ty_3 : tyI Tryd.prog 3 = some (false, 1) := by kernel_rfl
theorem FFev_ty_41 : tyI Tryd.prog 41 = some (false, 1) := by kernel_rfl
theorem FFev_ty_49 : tyI Tryd.prog 49 = some (false, 1) := by kernel_rfl
theorem FFev_ty_51 : tyI Tryd.prog 51 = some (true, 4) := by kernel_rfl
theorem FFev_ty_66 : tyI Tryd.prog 66 = some (true, 2) := by kernel_rfl
theorem FFev_ty_68 : tyI Tryd.prog 68 = some (true, 5) := by kernel_rfl
theorem FFev_ty_70 : tyI Tryd.prog 70 = some (true, 13) := by kernel_rfl
theorem FFev_z_139 : zeroI Tryd.prog 139 = some (.agg #[.int .i64 0, .int .i64 0, .int .i64 0]) := by kernel_rfl
theorem FFev_z_9 : zeroI Tryd.prog 9 = some (.string (B [])) := by kernel_rfl
theorem FFev_zo_139 {Fz : FzT} {w : World} : OwnL [PV.val (.int .i64 0), PV.val (.int .i64 0), PV.val (.int .i64 0)] Fz w (Value.cells (.agg #[.int .i64 0, .int .i64 0, .int .i64 0])).toList [] := zo_val rfl (zo_val rfl (zo_val rfl (zo_nil)))
theorem impl_FormatQuery {q : Query}  : GCall Tryd.prog gl 68 [(true, [PV.val (vI q.Id), PV.val (vI q.Tenant), PV.sl .v (q.Conds.map cCond), PV.sl .v (q.Out.map cInt)])] (resRV [(false, [PV.val (.string (B (fmtQuery q)))])]) := by
 refine gcall_of (rs := [(false, [PV.val (.string (B (fmtQuery q)))])]) Tryd.func68 rfl (Nat.le_of_ble_eq_true rfl) (borA_cons (BorL.cons (PV.bor_val _) (BorL.cons (PV.bor_val _) (BorL.cons (PV.bor_sl _) (BorL.cons (PV.bor_sl _) BorL.nil)))) borA_nil) ?_
 intro h0 w0 Fz0
 refine sw_slen (s := 0) (j := 2) rfl rfl fun hl0_2 => ?_
 try rw [List.length_map] at hl0_2
 refine sw_slen (s := 0) (j := 3) rfl rfl fun hl0_3 => ?_
 try rw [List.length_map] at hl0_3
 refine sw_seq ?_
 refine sw_reg ?_
 refine RunS.step (by exact ⟨rfl, ⟨⟩⟩) (by exact ⟨⟩) (LocG.of rfl (loc_box (ag := true) (cs := [PV.val _, PV.val _, PV.sl _ _, PV.sl _ _]) (by decide) (by exact ⟨⟩))) (free1 (Free.of_ rfl)) ?_
 refine rA ?_ (x := kA)
 refine sw_seq ?_
 refine sw_seq ?_
 refine sO [(1, _), (2, _), (7000, _)] [(1, (51, [PV.val _, PV.val _, PV.sl _ _, PV.sl _ _]))] ?_
 refine sw_reg ?_
 refine rA ?_ (x := lD [PV.val _, PV.val _, PV.sl .v _, PV.sl .v _] FFev_ty_51)
 refine rA ?_ (x := cL [(true, [PV.val _, PV.val _, PV.sl _ _, PV.sl _ _])] [(true, [PV.val _, PV.val _, PV.sl .v _, PV.sl .v _])] FFev_c_56 (hs := by exact impl_IsQuery))
 refine rA ?_ (x := nT)
 refine sw_cond (t := 8) rfl (fun hb1 => ?_) (fun hb1 => ?_)
 ·try simp only [q1, q2, q3, q4, q5, q6, q7, q8, q9] at hb1
  have hok : okQuery q = false := by simpa using hb1
  refine sw_seq ?_
  refine sO [(1, _), (2, _), (7000, _)] [(1, _)] ?_
  refine sw_reg ?_
  refine rA ?_ (x := kA)
  refine sw_ret ?_
  exact (And.intro (by refine sv_eq ?_; exact str_eq (by unfold fmtQuery; rw [if_neg (by rw [hok]; simp)])) True.intro)
 ·try simp only [q1, q2, q3, q4, q5, q6, q7, q8, q9] at hb1
  have hok : okQuery q = true := by simpa using hb1
  obtain ⟨a1, a2, a3, a4, a5, a6, a7, a8⟩ := query_i64 hok
  have hil : (itoa q.Id).length ≤ 21 := itoa_len (by unfold I64; omega)
  have hitl : (itoa q.Tenant).length ≤ 21 := itoa_len (by unfold I64; omega)
  have hll := listB_len a7
  refine sw_skip ?_
  refine sw_seq ?_
  refine sO [(1, _), (2, _), (7000, _)] [(1, _)] ?_
  refine sw_draw hm_ ?_
  refine dA 0 ?_ (x := lF FFev_fd_51_0)
  refine dA 1 ?_ (x := lD [PV.val _] FFev_ty_3)
  refine dA 3 ?_ (x := gL [(false, [PV.val _])] [(false, [PV.val _])] FFev_c_32 (hs := by exact (impl_FormatInt (by unfold I64; omega))))
  refine dA 7 ?_ (x := loc_sadd)
  refine dA 0 ?_ (x := lF FFev_fd_51_1)
  refine dA 16 ?_ (x := lD [PV.val _] FFev_ty_3)
  refine dA 55 ?_ (x := gL [(false, [PV.val _])] [(false, [PV.val _])] FFev_c_32 (hs := by exact (impl_FormatInt (by unfold I64; omega))))
  refine dA 119 ?_ (x := loc_sadd)
  refine dA 255 ?_ (x := loc_bslice (qs := [(false, [PV.val _]), (false, [PV.val _])]) (by decide) FFev_sl_82 FFev_z_9 (by decide) rfl rfl rfl rfl rfl (by exact Nat.le_of_ble_eq_true rfl) (by exact (And.intro (by exact ⟨⟩) (And.intro (by exact ⟨⟩) True.intro))) rfl)
  refine dA 511 ?_ (x := tA)
  refine sw_seq ?_
  refine sw_seq ?_
  refine sO [(1, _), (2, _), (3, _), (7000, _)] [(1, _)] ?_
  refine sw_reg ?_
  refine rA ?_ (x := lF FFev_fd_51_2)
  refine rA ?_ (x := lD [PV.sl .v _] FFev_ty_49)
  refine rA ?_ (x := lN FFev_sl_49)
  refine rA ?_ (x := kM)
  refine sw_block ?_
  refine sO [(1, _), (2, _), (3, _), (19, _), (20, _), (21, _), (7000, _)] [(1, _)] ?_
  refine sw_loop (l0 := [(1, RV.ptr 1 0), (2, RV.sv false [PV.val _]), (19, RV.sv false [PV.sl _ _]), (20, RV.sv false [PV.val _]), (7000, RV.glob _)]) (b0 := [(1, (51, [PV.val _, PV.val _, PV.sl _ _, PV.sl _ _]))]) (fun k : Nat => k ≤ q.Conds.length) (fun k : Nat => [(3, RV.slc (.own 9 1) ((qWords q k).map cStr)), (21, RV.int (k : Int))]) (fun k : Nat => []) (fun k : Nat => q.Conds.length - k) 0 (by omega) (by exact ⟨rfl, rfl, rfl, rfl, rfl, ⟨⟩⟩) (by exact ⟨rfl, ⟨⟩⟩) (by exact And.intro (by exact rfl) (And.intro (by exact rfl) (True.intro))) (by exact ⟨⟩) ?_
  rintro k hk
  refine sw_seq ?_
  refine sw_reg ?_
  refine rA ?_ (x := B_lss)
  refine sw_seq ?_
  refine sw_cond (t := 22) rfl (fun hb2 => ?_) (fun hb2 => ?_)
  ·try simp only [q1, q2, q3, q4, q5, q6, q7, q8, q9] at hb2
   have hlt : k < q.Conds.length := by omega
   have hck := a8 k hlt
   have hf1 : (itoa q.Conds[k].Field).length ≤ 21 := itoa_len (by unfold I64; omega)
   have hf2 : (itoa q.Conds[k].Low).length ≤ 21 := itoa_len (by unfold I64; omega)
   have hf3 : (itoa q.Conds[k].High).length ≤ 21 := itoa_len (by unfold I64; omega)
   have hjl := qJ_len hok k
   have hql := qWords_len (q := q) k
   rw [List.length_take] at hql
   refine sw_skip ?_
   refine sw_seq ?_
   refine sw_block ?_
   refine sw_seq ?_
   refine sO [(1, _), (2, _), (3, _), (19, _), (20, _), (21, _), (7000, _)] [(1, (51, [PV.val _, PV.val _, PV.sl _ _, PV.sl _ _]))] ?_
   refine sw_reg ?_
   refine rA ?_ (x := loc_index (by decide) FFev_sl_49 (by exact ⟨⟩) (by exact rfl) (by exact getm2 (by omega) rfl) (by exact rfl))
   refine rA ?_ (x := lE [PV.val _, PV.val _, PV.val _] FFev_ty_139)
   refine RunS.step (by exact ⟨⟩) (by exact ⟨⟩) (LocG.of rfl (loc_alloc (by decide) FFev_z_139 FFev_zo_139)) (free1 (Free.app (Free.app (Free.of_ rfl) rfl) rfl)) ?_
   refine rA ?_ (x := loc_store (ag := true) (vs := [PV.val _, PV.val _, PV.val _]) FFev_ty_139 (by exact ⟨⟩) (by exact rfl) (by exact Nat.le_of_ble_eq_true rfl))
   refine sO [(1, _), (2, _), (3, _), (5, _), (19, _), (20, _), (21, _), (7000, _)] [(1, _), (5, (139, [PV.val _, PV.val _, PV.val _]))] ?_
   refine sw_draw hm_ ?_
   refine dA 0 ?_ (x := tM)
   refine dA 0 ?_ (x := lF FFev_fd_139_0)
   refine dA 2 ?_ (x := lD [PV.val _] FFev_ty_3)
   refine dA 6 ?_ (x := gL [(false, [PV.val _])] [(false, [PV.val _])] FFev_c_32 (hs := by exact (impl_FormatInt (by unfold I64; omega))))
   refine dA 14 ?_ (x := loc_sadd)
   refine dA 0 ?_ (x := lF FFev_fd_139_1)
   refine dA 32 ?_ (x := lD [PV.val _] FFev_ty_3)
   refine dA 110 ?_ (x := gL [(false, [PV.val _])] [(false, [PV.val _])] FFev_c_32 (hs := by exact (impl_FormatInt (by unfold I64; omega))))
   refine dA 238 ?_ (x := loc_sadd)
   refine dA 0 ?_ (x := lF FFev_fd_139_2)
   refine dA 512 ?_ (x := lD [PV.val _] FFev_ty_3)
   refine dA 1774 ?_ (x := gL [(false, [PV.val _])] [(false, [PV.val _])] FFev_c_32 (hs := by exact (impl_FormatInt (by unfold I64; omega))))
   refine dA 4078 ?_ (x := loc_sadd)
   refine dA 8190 ?_ (x := loc_bslice (qs := [(false, [PV.val _]), (false, [PV.val _])]) (by decide) FFev_sl_82 FFev_z_9 (by decide) rfl rfl rfl rfl rfl (by exact Nat.le_of_ble_eq_true rfl) (by exact (And.intro (by exact ⟨⟩) (And.intro (by exact ⟨⟩) True.intro))) rfl)
   refine dA 16383 ?_ (x := loc_append (by decide) FFev_sl_82 FFev_z_9 rfl rfl (by decide) rfl (by simp only [List.length_map, List.length_append, List.length_cons, List.length_nil]; omega) (by simp only [List.length_map, List.length_append, List.length_cons, List.length_nil]; omega))
   refine dA 32767 ?_ (x := tA)
   refine sO [(1, _), (2, _), (3, _), (5, _), (19, _), (20, _), (21, _), (7000, _)] [(1, _), (5, _)] ?_
   refine sw_reg ?_
   refine rA ?_ (x := B_add)
   refine rA ?_ (x := sM)
   refine Exists.intro (k + 1) (And.intro (by omega) (And.intro (by omega) (And.intro (And.intro (by exact ⟨rfl, rfl, rfl, rfl, rfl, ⟨⟩⟩) (by exact ⟨rfl, ⟨⟩⟩)) (And.intro (by exact And.intro (by exact slc_eq (by rw [qWords_succ hlt, List.map_append]; rfl)) (And.intro (by exact rfl) (True.intro))) (by exact ⟨⟩)))))
  ·try simp only [q1, q2, q3, q4, q5, q6, q7, q8, q9] at hb2
   have hend : k = q.Conds.length := by omega
   subst hend
   have hjl := qJ_len hok q.Conds.length
   have hql := qWords_len (q := q) q.Conds.length
   rw [List.length_take] at hql
   have hfe := congrArg List.length (fmtQ_eq (q := q) q.Conds.length)
   simp only [List.length_append, List.length_cons, List.length_nil] at hfe
   refine sw_exit ?_
   refine sw_seq ?_
   refine sO [(1, _), (2, _), (3, _), (19, _), (20, _), (21, _), (7000, _)] [(1, (51, [PV.val _, PV.val _, PV.sl _ _, PV.sl _ _]))] ?_
   refine sw_reg ?_
   refine rA ?_ (x := tM)
   refine rA ?_ (x := lF FFev_fd_51_3)
   refine rA ?_ (x := lD [PV.sl .v _] FFev_ty_41)
   refine rA ?_ (x := gL [(false, [PV.sl _ _])] [(false, [PV.sl .v _])] FFev_c_58 (hs := by exact (impl_numbersText a7 (by omega))))
   refine rA ?_ (x := loc_bslice (qs := [(false, [PV.val _]), (false, [PV.val _])]) (by decide) FFev_sl_82 FFev_z_9 (by decide) rfl rfl rfl rfl rfl (by exact Nat.le_of_ble_eq_true rfl) (by exact (And.intro (ok_sc rfl) (And.intro (by exact ⟨⟩) True.intro))) rfl)
   refine rA ?_ (x := loc_append (by decide) FFev_sl_82 FFev_z_9 rfl rfl (by decide) rfl (by simp only [List.length_map, List.length_append, List.length_cons, List.length_nil]; omega) (by simp only [List.length_map, List.length_append, List.length_cons, List.length_nil]; omega))
   refine rA ?_ (x := loc_call (qs := [(false, [PV.sl _ _]), (false, [PV.val _])]) (as_ := [(false, [PV.sl .v _]), (false, [PV.val _])]) (by decide) FFev_c_35 (by exact (And.intro (by exact ⟨⟩) (And.intro (ok_sc rfl) True.intro))) (by exact (And.intro (And.intro rfl (ToL.cons (PV.to_eqv (ds := (qWords q q.Conds.length ++ [[111, 117, 116], listB q.Out]).map cStr) (by rw [List.map_append]; exact rfl)) ToL.nil)) (And.intro (And.intro rfl (ToL.cons (PV.To.refl _) ToL.nil)) True.intro))) (by exact (lib_Join (xs := qWords q q.Conds.length ++ [[111, 117, 116], listB q.Out]) (sep := [32]) (by rw [List.length_append]; simp only [List.length_cons, List.length_nil]; omega) (by omega))))
   refine rA ?_ (x := sA)
   refine sw_ret ?_
   exact (And.intro (by refine sv_eq ?_; exact str_eq (by unfold fmtQuery; rw [if_pos hok])) True.intro)
theorem spec_FormatQuery {q : Query}  : SCall Tryd.prog 64 [(true, [PV.val (vI q.Id), PV.val (vI q.Tenant), PV.sl .v (q.Conds.map cCond), PV.sl .v (q.Out.map cInt)])] (resRV [(false, [PV.val (.string (B (fmtQuery q)))])]) := by
 refine scall_of (rs := [(false, [PV.val (.string (B (fmtQuery q)))])]) Tryd.func64 rfl (Nat.le_of_ble_eq_true rfl) (borA_cons (BorL.cons (PV.bor_val _) (BorL.cons (PV.bor_val _) (BorL.cons (PV.bor_sl _) (BorL.cons (PV.bor_sl _) BorL.nil)))) borA_nil) ?_
 intro h0 w0 Fz0
 refine sw_slen (s := 0) (j := 2) rfl rfl fun hl0_2 => ?_
 try rw [List.length_map] at hl0_2
 refine sw_slen (s := 0) (j := 3) rfl rfl fun hl0_3 => ?_
 try rw [List.length_map] at hl0_3
 refine sw_seq ?_
 refine sw_reg ?_
 refine RunS.step (by exact ⟨rfl, ⟨⟩⟩) (by exact ⟨⟩) (LocG.of rfl (loc_box (ag := true) (cs := [PV.val _, PV.val _, PV.sl _ _, PV.sl _ _]) (by decide) (by exact ⟨⟩))) (free1 (Free.of_ rfl)) ?_
 refine rA ?_ (x := kA)
 refine sw_seq ?_
 refine sw_seq ?_
 refine sO [(1, _), (2, _)] [(1, (51, [PV.val _, PV.val _, PV.sl _ _, PV.sl _ _]))] ?_
 refine sw_reg ?_
 refine rA ?_ (x := lD [PV.val _, PV.val _, PV.sl .v _, PV.sl .v _] FFev_ty_51)
 refine rA ?_ (x := cL [(true, [PV.val _, PV.val _, PV.sl _ _, PV.sl _ _])] [(true, [PV.val _, PV.val _, PV.sl .v _, PV.sl .v _])] FFev_c_50 (hs := by exact spec_IsQuery))
 refine rA ?_ (x := nT)
 refine sw_cond (t := 7) rfl (fun hb1 => ?_) (fun hb1 => ?_)
 ·try simp only [q1, q2, q3, q4, q5, q6, q7, q8, q9] at hb1
  have hok : okQuery q = false := by simpa using hb1
  refine sw_seq ?_
  refine sO [(1, _), (2, _)] [(1, _)] ?_
  refine sw_reg ?_
  refine rA ?_ (x := kA)
  refine sw_ret ?_
  exact (And.intro (by refine sv_eq ?_; exact str_eq (by unfold fmtQuery; rw [if_neg (by rw [hok]; simp)])) True.intro)
 ·try simp only [q1, q2, q3, q4, q5, q6, q7, q8, q9] at hb1
  have hok : okQuery q = true := by simpa using hb1
  obtain ⟨a1, a2, a3, a4, a5, a6, a7, a8⟩ := query_i64 hok
  have hil : (itoa q.Id).length ≤ 21 := itoa_len (by unfold I64; omega)
  have hitl : (itoa q.Tenant).length ≤ 21 := itoa_len (by unfold I64; omega)
  have hll := listB_len a7
  refine sw_skip ?_
  refine sw_seq ?_
  refine sO [(1, _), (2, _)] [(1, _)] ?_
  refine sw_draw hm_ ?_
  refine dA 0 ?_ (x := lF FFev_fd_51_0)
  refine dA 1 ?_ (x := lD [PV.val _] FFev_ty_3)
  refine dA 3 ?_ (x := cL [(false, [PV.val _])] [(false, [PV.val _])] FFev_c_28 (hs := by exact (spec_FormatInt (by unfold I64; omega))))
  refine dA 7 ?_ (x := loc_sadd)
  refine dA 15 ?_ (x := loc_sadd)
  refine dA 0 ?_ (x := lF FFev_fd_51_1)
  refine dA 32 ?_ (x := lD [PV.val _] FFev_ty_3)
  refine dA 103 ?_ (x := cL [(false, [PV.val _])] [(false, [PV.val _])] FFev_c_28 (hs := by exact (spec_FormatInt (by unfold I64; omega))))
  refine dA 255 ?_ (x := loc_sadd)
  refine dA 511 ?_ (x := sA)
  refine sw_seq ?_
  refine sw_seq ?_
  refine sO [(1, _), (2, _), (3, _)] [(1, _)] ?_
  refine sw_reg ?_
  refine rA ?_ (x := kA)
  refine sw_block ?_
  refine sO [(1, _), (2, _), (3, _), (4, _)] [(1, _)] ?_
  refine sw_loop (l0 := [(1, RV.ptr 1 0), (2, RV.sv false [PV.val _])]) (b0 := [(1, (51, [PV.val _, PV.val _, PV.sl _ _, PV.sl _ _]))]) (fun k : Nat => k ≤ q.Conds.length) (fun k : Nat => [(3, RV.sc (.string (B (joinB (qWords q k) [32])))), (4, RV.int (k : Int))]) (fun k : Nat => []) (fun k : Nat => q.Conds.length - k) 0 (by omega) (by exact ⟨rfl, rfl, ⟨⟩⟩) (by exact ⟨rfl, ⟨⟩⟩) (by exact And.intro (by exact congrArg (fun z => some (RV.sc (.string (B z)))) (by simp [qWords, joinB, Lib.join_cons, Lib.joinTail])) (And.intro (by exact rfl) (True.intro))) (by exact ⟨⟩) ?_
  rintro k hk
  refine sw_seq ?_
  refine sw_seq ?_
  refine sw_reg ?_
  refine rA ?_ (x := sM)
  refine rA ?_ (x := lF FFev_fd_51_2)
  refine rA ?_ (x := lD [PV.sl .v _] FFev_ty_49)
  refine rA ?_ (x := lN FFev_sl_49)
  refine rA ?_ (x := B_lss)
  refine sw_cond (t := 21) rfl (fun hb2 => ?_) (fun hb2 => ?_)
  ·try simp only [q1, q2, q3, q4, q5, q6, q7, q8, q9] at hb2
   have hlt : k < q.Conds.length := by omega
   have hck := a8 k hlt
   have hf1 : (itoa q.Conds[k].Field).length ≤ 21 := itoa_len (by unfold I64; omega)
   have hf2 : (itoa q.Conds[k].Low).length ≤ 21 := itoa_len (by unfold I64; omega)
   have hf3 : (itoa q.Conds[k].High).length ≤ 21 := itoa_len (by unfold I64; omega)
   have hjl := qJ_len hok k
   have hql := qWords_len (q := q) k
   rw [List.length_take] at hql
   refine sw_skip ?_
   refine sw_seq ?_
   refine sw_block ?_
   refine sO [(1, _), (2, _), (3, _), (4, _)] [(1, (51, [PV.val _, PV.val _, PV.sl _ _, PV.sl _ _]))] ?_
   refine sw_draw hm_ ?_
   refine dA 0 ?_ (x := sM)
   refine dA 1 ?_ (x := loc_sadd)
   refine dA 0 ?_ (x := lF FFev_fd_51_2)
   refine dA 4 ?_ (x := lD [PV.sl .v _] FFev_ty_49)
   refine dA 0 ?_ (x := sM)
   refine dA 28 ?_ (x := loc_index (by decide) FFev_sl_49 (by exact ⟨⟩) (by exact rfl) (by exact getm2 (by omega) rfl) (by exact rfl))
   refine dA 60 ?_ (x := loc_efield (by decide) FFev_fd_139_0 (by exact Nat.le_of_ble_eq_true rfl))
   refine dA 124 ?_ (x := lE [PV.val _] FFev_ty_3)
   refine dA 252 ?_ (x := cL [(false, [PV.val _])] [(false, [PV.val _])] FFev_c_28 (hs := by exact (spec_FormatInt (by unfold I64; omega))))
   refine dA 511 ?_ (x := loc_sadd)
   refine dA 1023 ?_ (x := loc_sadd)
   refine dA 0 ?_ (x := lF FFev_fd_51_2)
   refine dA 2048 ?_ (x := lD [PV.sl .v _] FFev_ty_49)
   refine dA 0 ?_ (x := sM)
   refine dA 14336 ?_ (x := loc_index (by decide) FFev_sl_49 (by exact ⟨⟩) (by exact rfl) (by exact getm2 (by omega) rfl) (by exact rfl))
   refine dA 30720 ?_ (x := loc_efield (by decide) FFev_fd_139_1 (by exact Nat.le_of_ble_eq_true rfl))
   refine dA 63488 ?_ (x := lE [PV.val _] FFev_ty_3)
   refine dA 129532 ?_ (x := cL [(false, [PV.val _])] [(false, [PV.val _])] FFev_c_28 (hs := by exact (spec_FormatInt (by unfold I64; omega))))
   refine dA 262143 ?_ (x := loc_sadd)
   refine dA 524287 ?_ (x := loc_sadd)
   refine dA 0 ?_ (x := lF FFev_fd_51_2)
   refine dA 1048576 ?_ (x := lD [PV.sl .v _] FFev_ty_49)
   refine dA 0 ?_ (x := sM)
   refine dA 7340032 ?_ (x := loc_index (by decide) FFev_sl_49 (by exact ⟨⟩) (by exact rfl) (by exact getm2 (by omega) rfl) (by exact rfl))
   refine dA 15728640 ?_ (x := loc_efield (by decide) FFev_fd_139_2 (by exact Nat.le_of_ble_eq_true rfl))
   refine dA 32505856 ?_ (x := lE [PV.val _] FFev_ty_3)
   refine dA 66320892 ?_ (x := cL [(false, [PV.val _])] [(false, [PV.val _])] FFev_c_28 (hs := by exact (spec_FormatInt (by unfold I64; omega))))
   refine dA 134217727 ?_ (x := loc_sadd)
   refine dA 268435455 ?_ (x := sA)
   refine sO [(1, _), (2, _), (3, _), (4, _)] [(1, _)] ?_
   refine sw_reg ?_
   refine rA ?_ (x := sM)
   refine rA ?_ (x := B_add)
   refine rA ?_ (x := sA)
   refine Exists.intro (k + 1) (And.intro (by omega) (And.intro (by omega) (And.intro (And.intro (by exact ⟨rfl, rfl, ⟨⟩⟩) (by exact ⟨rfl, ⟨⟩⟩)) (And.intro (by exact And.intro (by exact congrArg (fun z => some (RV.sc (.string (B z)))) (by rw [qWords_succ hlt]; unfold condW; rw [join_two qWords_ne]; simp [List.append_assoc])) (And.intro (by exact rfl) (True.intro))) (by exact ⟨⟩)))))
  ·try simp only [q1, q2, q3, q4, q5, q6, q7, q8, q9] at hb2
   have hend : k = q.Conds.length := by omega
   subst hend
   have hjl := qJ_len hok q.Conds.length
   refine sw_exit ?_
   refine sw_seq ?_
   refine sO [(1, _), (2, _), (3, _), (4, _)] [(1, (51, [PV.val _, PV.val _, PV.sl _ _, PV.sl _ _]))] ?_
   refine sw_reg ?_
   refine rA ?_ (x := sM)
   refine rA ?_ (x := loc_sadd)
   refine rA ?_ (x := lF FFev_fd_51_3)
   refine rA ?_ (x := lD [PV.sl .v _] FFev_ty_41)
   refine rA ?_ (x := cL [(false, [PV.sl _ _])] [(false, [PV.sl .v _])] FFev_c_52 (hs := by exact (spec_l3List a7 (by omega))))
   refine rA ?_ (x := loc_sadd)
   refine rA ?_ (x := sA)
   refine sw_ret ?_
   exact (And.intro (by refine sv_eq ?_; exact str_eq (by unfold fmtQuery; rw [if_pos hok, fmtQ_eq])) True.intro)
theorem impl_FormatUpdate {u : Update}  : GCall Tryd.prog gl 69 [(true, [PV.val (vI u.Kind), PV.val (vI u.Row.Id), PV.sl .v (u.Row.Values.map cInt), PV.val (vI u.Field), PV.val (vI u.Value)])] (resRV [(false, [PV.val (.string (B (fmtUpdate u)))])]) := by
 refine gcall_of (rs := [(false, [PV.val (.string (B (fmtUpdate u)))])]) Tryd.func69 rfl (Nat.le_of_ble_eq_true rfl) (borA_cons (BorL.cons (PV.bor_val _) (BorL.cons (PV.bor_val _) (BorL.cons (PV.bor_sl _) (BorL.cons (PV.bor_val _) (BorL.cons (PV.bor_val _) BorL.nil))))) borA_nil) ?_
 intro h0 w0 Fz0
 refine sw_slen (s := 0) (j := 2) rfl rfl fun hl0_2 => ?_
 try rw [List.length_map] at hl0_2
 refine sw_seq ?_
 refine sw_reg ?_
 refine RunS.step (by exact ⟨rfl, ⟨⟩⟩) (by exact ⟨⟩) (LocG.of rfl (loc_box (ag := true) (cs := [PV.val _, PV.val _, PV.sl _ _, PV.val _, PV.val _]) (by decide) (by exact ⟨⟩))) (free1 (Free.of_ rfl)) ?_
 refine rA ?_ (x := kA)
 refine sw_seq ?_
 refine sw_seq ?_
 refine sO [(1, _), (2, _), (7000, _)] [(1, (68, [PV.val _, PV.val _, PV.sl _ _, PV.val _, PV.val _]))] ?_
 refine sw_reg ?_
 refine rA ?_ (x := lD [PV.val _, PV.val _, PV.sl .v _, PV.val _, PV.val _] FFev_ty_68)
 refine rA ?_ (x := cL [(true, [PV.val _, PV.val _, PV.sl _ _, PV.val _, PV.val _])] [(true, [PV.val _, PV.val _, PV.sl .v _, PV.val _, PV.val _])] FFev_c_108 (hs := by exact impl_IsUpdate))
 refine rA ?_ (x := nT)
 refine sw_cond (t := 5) rfl (fun hb1 => ?_) (fun hb1 => ?_)
 ·try simp only [q1, q2, q3, q4, q5, q6, q7, q8, q9] at hb1
  have hok : okUpdate u = false := by simpa using hb1
  refine sw_seq ?_
  refine sO [(1, _), (2, _), (7000, _)] [(1, _)] ?_
  refine sw_reg ?_
  refine rA ?_ (x := kA)
  refine sw_ret ?_
  exact (And.intro (by refine sv_eq ?_; exact str_eq (by unfold fmtUpdate; rw [if_neg (by rw [hok]; simp)])) True.intro)
 ·try simp only [q1, q2, q3, q4, q5, q6, q7, q8, q9] at hb1
  have hok : okUpdate u = true := by simpa using hb1
  obtain ⟨a1, a2, a3, a4, a5, a6⟩ := upd_i64 hok
  have hrl := fmtRow_len u.Row
  have h3 : (itoa u.Row.Id).length ≤ 21 := itoa_len (by unfold I64; omega)
  have h4 : (itoa u.Field).length ≤ 21 := itoa_len (by unfold I64; omega)
  have h5 : (itoa u.Value).length ≤ 21 := itoa_len (by unfold I64; omega)
  refine sw_skip ?_
  refine sw_seq ?_
  refine sw_seq ?_
  refine sO [(1, _), (2, _), (7000, _)] [(1, _)] ?_
  refine sw_reg ?_
  refine rA ?_ (x := lF FFev_fd_68_0)
  refine rA ?_ (x := lD [PV.val _] FFev_ty_3)
  refine sw_block ?_
  refine sw_seq ?_
  refine sO [(1, _), (2, _), (7, _), (7000, _)] [(1, _)] ?_
  refine sw_reg ?_
  refine rA ?_ (x := B_eql)
  refine rA ?_ (x := sA)
  refine sw_cond (t := 8) rfl (fun hb2 => ?_) (fun hb2 => ?_)
  ·try simp only [q1, q2, q3, q4, q5, q6, q7, q8, q9] at hb2
   have k1 := hb2
   refine sw_seq ?_
   refine sO [(1, _), (2, _), (7, _), (7000, _)] [(1, _)] ?_
   refine sw_reg ?_
   refine rA ?_ (x := lF FFev_fd_68_1)
   refine rA ?_ (x := lD [PV.val _, PV.sl .v _] FFev_ty_66)
   refine rA ?_ (x := gL [(true, [PV.val _, PV.sl _ _])] [(true, [PV.val _, PV.sl .v _])] FFev_c_44 (hs := by exact impl_FormatRow))
   refine rA ?_ (x := loc_sadd)
   refine rA ?_ (x := sA)
   refine sw_ret ?_
   exact (And.intro (by refine sv_eq ?_; exact str_eq (by unfold fmtUpdate; rw [if_pos hok, if_pos k1])) True.intro)
  ·try simp only [q1, q2, q3, q4, q5, q6, q7, q8, q9] at hb2
   have k1 := hb2
   refine sw_seq ?_
   refine sO [(1, _), (2, _), (7, _), (7000, _)] [(1, _)] ?_
   refine sw_reg ?_
   refine rA ?_ (x := B_eql)
   refine rA ?_ (x := sA)
   refine sw_cond (t := 14) rfl (fun hb3 => ?_) (fun hb3 => ?_)
   ·try simp only [q1, q2, q3, q4, q5, q6, q7, q8, q9] at hb3
    have k2 := hb3
    refine sw_seq ?_
    refine sO [(1, _), (2, _), (7, _), (7000, _)] [(1, _)] ?_
    refine sw_reg ?_
    refine rA ?_ (x := lF FFev_fd_68_1)
    refine rA ?_ (x := lF FFev_fd_66_0)
    refine rA ?_ (x := lD [PV.val _] FFev_ty_3)
    refine rA ?_ (x := gL [(false, [PV.val _])] [(false, [PV.val _])] FFev_c_32 (hs := by exact (impl_FormatInt (by unfold I64; omega))))
    refine rA ?_ (x := loc_sadd)
    refine rA ?_ (x := sA)
    refine sw_ret ?_
    exact (And.intro (by refine sv_eq ?_; exact str_eq (by unfold fmtUpdate; rw [if_pos hok, if_neg k1, if_pos k2])) True.intro)
   ·try simp only [q1, q2, q3, q4, q5, q6, q7, q8, q9] at hb3
    have k2 := hb3
    refine sw_skip ?_
    refine sw_seq ?_
    refine sO [(1, _), (2, _), (7, _), (7000, _)] [(1, _)] ?_
    refine sw_draw hm_ ?_
    refine dA 0 ?_ (x := lF FFev_fd_68_1)
    refine dA 1 ?_ (x := lF FFev_fd_66_0)
    refine dA 3 ?_ (x := lD [PV.val _] FFev_ty_3)
    refine dA 7 ?_ (x := gL [(false, [PV.val _])] [(false, [PV.val _])] FFev_c_32 (hs := by exact (impl_FormatInt (by unfold I64; omega))))
    refine dA 15 ?_ (x := loc_sadd)
    refine dA 31 ?_ (x := loc_sadd)
    refine dA 0 ?_ (x := lF FFev_fd_68_2)
    refine dA 64 ?_ (x := lD [PV.val _] FFev_ty_3)
    refine dA 207 ?_ (x := gL [(false, [PV.val _])] [(false, [PV.val _])] FFev_c_32 (hs := by exact (impl_FormatInt (by unfold I64; omega))))
    refine dA 511 ?_ (x := loc_sadd)
    refine dA 1023 ?_ (x := loc_sadd)
    refine dA 0 ?_ (x := lF FFev_fd_68_3)
    refine dA 2048 ?_ (x := lD [PV.val _] FFev_ty_3)
    refine dA 6607 ?_ (x := gL [(false, [PV.val _])] [(false, [PV.val _])] FFev_c_32 (hs := by exact (impl_FormatInt (by unfold I64; omega))))
    refine dA 16383 ?_ (x := loc_sadd)
    refine dA 32767 ?_ (x := sA)
    refine sw_ret ?_
    exact (And.intro (by refine sv_eq ?_; exact str_eq (by unfold fmtUpdate; rw [if_pos hok, if_neg k1, if_neg k2])) True.intro)
theorem spec_FormatUpdate {u : Update}  : SCall Tryd.prog 65 [(true, [PV.val (vI u.Kind), PV.val (vI u.Row.Id), PV.sl .v (u.Row.Values.map cInt), PV.val (vI u.Field), PV.val (vI u.Value)])] (resRV [(false, [PV.val (.string (B (fmtUpdate u)))])]) := by
 refine scall_of (rs := [(false, [PV.val (.string (B (fmtUpdate u)))])]) Tryd.func65 rfl (Nat.le_of_ble_eq_true rfl) (borA_cons (BorL.cons (PV.bor_val _) (BorL.cons (PV.bor_val _) (BorL.cons (PV.bor_sl _) (BorL.cons (PV.bor_val _) (BorL.cons (PV.bor_val _) BorL.nil))))) borA_nil) ?_
 intro h0 w0 Fz0
 refine sw_slen (s := 0) (j := 2) rfl rfl fun hl0_2 => ?_
 try rw [List.length_map] at hl0_2
 refine sw_seq ?_
 refine sw_reg ?_
 refine RunS.step (by exact ⟨rfl, ⟨⟩⟩) (by exact ⟨⟩) (LocG.of rfl (loc_box (ag := true) (cs := [PV.val _, PV.val _, PV.sl _ _, PV.val _, PV.val _]) (by decide) (by exact ⟨⟩))) (free1 (Free.of_ rfl)) ?_
 refine rA ?_ (x := kA)
 refine sw_seq ?_
 refine sw_seq ?_
 refine sO [(1, _), (2, _)] [(1, (68, [PV.val _, PV.val _, PV.sl _ _, PV.val _, PV.val _]))] ?_
 refine sw_reg ?_
 refine rA ?_ (x := lD [PV.val _, PV.val _, PV.sl .v _, PV.val _, PV.val _] FFev_ty_68)
 refine rA ?_ (x := cL [(true, [PV.val _, PV.val _, PV.sl _ _, PV.val _, PV.val _])] [(true, [PV.val _, PV.val _, PV.sl .v _, PV.val _, PV.val _])] FFev_c_105 (hs := by exact spec_IsUpdate))
 refine rA ?_ (x := nT)
 refine sw_cond (t := 5) rfl (fun hb1 => ?_) (fun hb1 => ?_)
 ·try simp only [q1, q2, q3, q4, q5, q6, q7, q8, q9] at hb1
  have hok : okUpdate u = false := by simpa using hb1
  refine sw_seq ?_
  refine sO [(1, _), (2, _)] [(1, _)] ?_
  refine sw_reg ?_
  refine rA ?_ (x := kA)
  refine sw_ret ?_
  exact (And.intro (by refine sv_eq ?_; exact str_eq (by unfold fmtUpdate; rw [if_neg (by rw [hok]; simp)])) True.intro)
 ·try simp only [q1, q2, q3, q4, q5, q6, q7, q8, q9] at hb1
  have hok : okUpdate u = true := by simpa using hb1
  obtain ⟨a1, a2, a3, a4, a5, a6⟩ := upd_i64 hok
  have hrl := fmtRow_len u.Row
  have h3 : (itoa u.Row.Id).length ≤ 21 := itoa_len (by unfold I64; omega)
  have h4 : (itoa u.Field).length ≤ 21 := itoa_len (by unfold I64; omega)
  have h5 : (itoa u.Value).length ≤ 21 := itoa_len (by unfold I64; omega)
  refine sw_skip ?_
  refine sw_seq ?_
  refine sw_seq ?_
  refine sO [(1, _), (2, _)] [(1, _)] ?_
  refine sw_reg ?_
  refine rA ?_ (x := lF FFev_fd_68_0)
  refine rA ?_ (x := lD [PV.val _] FFev_ty_3)
  refine sw_block ?_
  refine sw_seq ?_
  refine sO [(1, _), (2, _), (7, _)] [(1, _)] ?_
  refine sw_reg ?_
  refine rA ?_ (x := B_eql)
  refine rA ?_ (x := sA)
  refine sw_cond (t := 8) rfl (fun hb2 => ?_) (fun hb2 => ?_)
  ·try simp only [q1, q2, q3, q4, q5, q6, q7, q8, q9] at hb2
   have k1 := hb2
   refine sw_seq ?_
   refine sO [(1, _), (2, _), (7, _)] [(1, _)] ?_
   refine sw_reg ?_
   refine rA ?_ (x := lF FFev_fd_68_1)
   refine rA ?_ (x := lD [PV.val _, PV.sl .v _] FFev_ty_66)
   refine rA ?_ (x := cL [(true, [PV.val _, PV.sl _ _])] [(true, [PV.val _, PV.sl .v _])] FFev_c_40 (hs := by exact spec_FormatRow))
   refine rA ?_ (x := loc_sadd)
   refine rA ?_ (x := sA)
   refine sw_ret ?_
   exact (And.intro (by refine sv_eq ?_; exact str_eq (by unfold fmtUpdate; rw [if_pos hok, if_pos k1])) True.intro)
  ·try simp only [q1, q2, q3, q4, q5, q6, q7, q8, q9] at hb2
   have k1 := hb2
   refine sw_seq ?_
   refine sO [(1, _), (2, _), (7, _)] [(1, _)] ?_
   refine sw_reg ?_
   refine rA ?_ (x := B_eql)
   refine rA ?_ (x := sA)
   refine sw_cond (t := 14) rfl (fun hb3 => ?_) (fun hb3 => ?_)
   ·try simp only [q1, q2, q3, q4, q5, q6, q7, q8, q9] at hb3
    have k2 := hb3
    refine sw_seq ?_
    refine sO [(1, _), (2, _), (7, _)] [(1, _)] ?_
    refine sw_reg ?_
    refine rA ?_ (x := lF FFev_fd_68_1)
    refine rA ?_ (x := lF FFev_fd_66_0)
    refine rA ?_ (x := lD [PV.val _] FFev_ty_3)
    refine rA ?_ (x := cL [(false, [PV.val _])] [(false, [PV.val _])] FFev_c_28 (hs := by exact (spec_FormatInt (by unfold I64; omega))))
    refine rA ?_ (x := loc_sadd)
    refine rA ?_ (x := sA)
    refine sw_ret ?_
    exact (And.intro (by refine sv_eq ?_; exact str_eq (by unfold fmtUpdate; rw [if_pos hok, if_neg k1, if_pos k2])) True.intro)
   ·try simp only [q1, q2, q3, q4, q5, q6, q7, q8, q9] at hb3
    have k2 := hb3
    refine sw_skip ?_
    refine sw_seq ?_
    refine sO [(1, _), (2, _), (7, _)] [(1, _)] ?_
    refine sw_draw hm_ ?_
    refine dA 0 ?_ (x := lF FFev_fd_68_1)
    refine dA 1 ?_ (x := lF FFev_fd_66_0)
    refine dA 3 ?_ (x := lD [PV.val _] FFev_ty_3)
    refine dA 7 ?_ (x := cL [(false, [PV.val _])] [(false, [PV.val _])] FFev_c_28 (hs := by exact (spec_FormatInt (by unfold I64; omega))))
    refine dA 15 ?_ (x := loc_sadd)
    refine dA 31 ?_ (x := loc_sadd)
    refine dA 0 ?_ (x := lF FFev_fd_68_2)
    refine dA 64 ?_ (x := lD [PV.val _] FFev_ty_3)
    refine dA 207 ?_ (x := cL [(false, [PV.val _])] [(false, [PV.val _])] FFev_c_28 (hs := by exact (spec_FormatInt (by unfold I64; omega))))
    refine dA 511 ?_ (x := loc_sadd)
    refine dA 1023 ?_ (x := loc_sadd)
    refine dA 0 ?_ (x := lF FFev_fd_68_3)
    refine dA 2048 ?_ (x := lD [PV.val _] FFev_ty_3)
    refine dA 6607 ?_ (x := cL [(false, [PV.val _])] [(false, [PV.val _])] FFev_c_28 (hs := by exact (spec_FormatInt (by unfold I64; omega))))
    refine dA 16383 ?_ (x := loc_sadd)
    refine dA 32767 ?_ (x := sA)
    refine sw_ret ?_
    exact (And.intro (by refine sv_eq ?_; exact str_eq (by unfold fmtUpdate; rw [if_pos hok, if_neg k1, if_neg k2])) True.intro)
theorem impl_FormatEvent {x : Event}  : GCall Tryd.prog gl 25 [(true, [PV.val (vI x.Kind), PV.val (vI x.Query.Id), PV.val (vI x.Query.Tenant), PV.sl .v (x.Query.Conds.map cCond), PV.sl .v (x.Query.Out.map cInt), PV.val (vI x.Limit), PV.val (vI x.Id), PV.val (vI x.Update.Kind), PV.val (vI x.Update.Row.Id), PV.sl .v (x.Update.Row.Values.map cInt), PV.val (vI x.Update.Field), PV.val (vI x.Update.Value), PV.val (vI x.Steps)])] (resRV [(false, [PV.val (.string (B (fmtEvent x)))])]) := by
 refine gcall_of (rs := [(false, [PV.val (.string (B (fmtEvent x)))])]) Tryd.func25 rfl (Nat.le_of_ble_eq_true rfl) (borA_cons (BorL.cons (PV.bor_val _) (BorL.cons (PV.bor_val _) (BorL.cons (PV.bor_val _) (BorL.cons (PV.bor_sl _) (BorL.cons (PV.bor_sl _) (BorL.cons (PV.bor_val _) (BorL.cons (PV.bor_val _) (BorL.cons (PV.bor_val _) (BorL.cons (PV.bor_val _) (BorL.cons (PV.bor_sl _) (BorL.cons (PV.bor_val _) (BorL.cons (PV.bor_val _) (BorL.cons (PV.bor_val _) BorL.nil))))))))))))) borA_nil) ?_
 intro h0 w0 Fz0
 refine sw_slen (s := 0) (j := 3) rfl rfl fun hl0_3 => ?_
 try rw [List.length_map] at hl0_3
 refine sw_slen (s := 0) (j := 4) rfl rfl fun hl0_4 => ?_
 try rw [List.length_map] at hl0_4
 refine sw_slen (s := 0) (j := 9) rfl rfl fun hl0_9 => ?_
 try rw [List.length_map] at hl0_9
 refine sw_seq ?_
 refine sw_reg ?_
 refine RunS.step (by exact ⟨rfl, ⟨⟩⟩) (by exact ⟨⟩) (LocG.of rfl (loc_box (ag := true) (cs := [PV.val _, PV.val _, PV.val _, PV.sl _ _, PV.sl _ _, PV.val _, PV.val _, PV.val _, PV.val _, PV.sl _ _, PV.val _, PV.val _, PV.val _]) (by decide) (by exact ⟨⟩))) (free1 (Free.of_ rfl)) ?_
 refine rA ?_ (x := kA)
 refine sw_seq ?_
 refine sw_seq ?_
 refine sO [(1, _), (2, _), (7000, _)] [(1, (70, [PV.val _, PV.val _, PV.val _, PV.sl _ _, PV.sl _ _, PV.val _, PV.val _, PV.val _, PV.val _, PV.sl _ _, PV.val _, PV.val _, PV.val _]))] ?_
 refine sw_reg ?_
 refine rA ?_ (x := lD [PV.val _, PV.val _, PV.val _, PV.sl .v _, PV.sl .v _, PV.val _, PV.val _, PV.val _, PV.val _, PV.sl .v _, PV.val _, PV.val _, PV.val _] FFev_ty_70)
 refine rA ?_ (x := cL [(true, [PV.val _, PV.val _, PV.val _, PV.sl _ _, PV.sl _ _, PV.val _, PV.val _, PV.val _, PV.val _, PV.sl _ _, PV.val _, PV.val _, PV.val _])] [(true, [PV.val _, PV.val _, PV.val _, PV.sl .v _, PV.sl .v _, PV.val _, PV.val _, PV.val _, PV.val _, PV.sl .v _, PV.val _, PV.val _, PV.val _])] FFev_c_67 (hs := by exact impl_IsEvent))
 refine rA ?_ (x := nT)
 refine sw_cond (t := 5) rfl (fun hb1 => ?_) (fun hb1 => ?_)
 ·try simp only [q1, q2, q3, q4, q5, q6, q7, q8, q9] at hb1
  have hok : okEvent x = false := by simpa using hb1
  refine sw_seq ?_
  refine sO [(1, _), (2, _), (7000, _)] [(1, _)] ?_
  refine sw_reg ?_
  refine rA ?_ (x := kA)
  refine sw_ret ?_
  exact (And.intro (by refine sv_eq ?_; exact str_eq (by unfold fmtEvent; rw [if_neg (by rw [hok]; simp)])) True.intro)
 ·try simp only [q1, q2, q3, q4, q5, q6, q7, q8, q9] at hb1
  have hok : okEvent x = true := by simpa using hb1
  obtain ⟨a1, a2, a3, a4, a5, a6⟩ := evt_i64 hok
  have hql := fmtQuery_len x.Query
  have h3 : (itoa x.Limit).length ≤ 21 := itoa_len (by unfold I64; omega)
  have h4 : (itoa x.Id).length ≤ 21 := itoa_len (by unfold I64; omega)
  have h5 : (itoa x.Steps).length ≤ 21 := itoa_len (by unfold I64; omega)
  refine sw_skip ?_
  refine sw_seq ?_
  refine sw_seq ?_
  refine sO [(1, _), (2, _), (7000, _)] [(1, _)] ?_
  refine sw_reg ?_
  refine rA ?_ (x := lF FFev_fd_70_0)
  refine rA ?_ (x := lD [PV.val _] FFev_ty_3)
  refine sw_block ?_
  refine sw_seq ?_
  refine sO [(1, _), (2, _), (7, _), (7000, _)] [(1, _)] ?_
  refine sw_reg ?_
  refine rA ?_ (x := B_eql)
  refine rA ?_ (x := sA)
  refine sw_cond (t := 8) rfl (fun hb2 => ?_) (fun hb2 => ?_)
  ·try simp only [q1, q2, q3, q4, q5, q6, q7, q8, q9] at hb2
   have k1 := hb2
   refine sw_seq ?_
   refine sO [(1, _), (2, _), (7, _), (7000, _)] [(1, _)] ?_
   refine sw_draw hm_ ?_
   refine dA 0 ?_ (x := lF FFev_fd_70_2)
   refine dA 1 ?_ (x := lD [PV.val _] FFev_ty_3)
   refine dA 3 ?_ (x := gL [(false, [PV.val _])] [(false, [PV.val _])] FFev_c_32 (hs := by exact (impl_FormatInt (by unfold I64; omega))))
   refine dA 7 ?_ (x := loc_sadd)
   refine dA 15 ?_ (x := loc_sadd)
   refine dA 0 ?_ (x := lF FFev_fd_70_1)
   refine dA 32 ?_ (x := lD [PV.val _, PV.val _, PV.sl .v _, PV.sl .v _] FFev_ty_51)
   refine dA 103 ?_ (x := gL [(true, [PV.val _, PV.val _, PV.sl _ _, PV.sl _ _])] [(true, [PV.val _, PV.val _, PV.sl .v _, PV.sl .v _])] FFev_c_68 (hs := by exact impl_FormatQuery))
   refine dA 255 ?_ (x := loc_sadd)
   refine dA 511 ?_ (x := sA)
   refine sw_ret ?_
   exact (And.intro (by refine sv_eq ?_; exact str_eq (by unfold fmtEvent; rw [if_pos hok, if_pos k1])) True.intro)
  ·try simp only [q1, q2, q3, q4, q5, q6, q7, q8, q9] at hb2
   have k1 := hb2
   refine sw_seq ?_
   refine sO [(1, _), (2, _), (7, _), (7000, _)] [(1, _)] ?_
   refine sw_reg ?_
   refine rA ?_ (x := B_eql)
   refine rA ?_ (x := sA)
   refine sw_cond (t := 19) rfl (fun hb3 => ?_) (fun hb3 => ?_)
   ·try simp only [q1, q2, q3, q4, q5, q6, q7, q8, q9] at hb3
    have k2 := hb3
    refine sw_seq ?_
    refine sO [(1, _), (2, _), (7, _), (7000, _)] [(1, _)] ?_
    refine sw_reg ?_
    refine rA ?_ (x := lF FFev_fd_70_3)
    refine rA ?_ (x := lD [PV.val _] FFev_ty_3)
    refine rA ?_ (x := gL [(false, [PV.val _])] [(false, [PV.val _])] FFev_c_32 (hs := by exact (impl_FormatInt (by unfold I64; omega))))
    refine rA ?_ (x := loc_sadd)
    refine rA ?_ (x := sA)
    refine sw_ret ?_
    exact (And.intro (by refine sv_eq ?_; exact str_eq (by unfold fmtEvent; rw [if_pos hok, if_neg k1, if_pos k2])) True.intro)
   ·try simp only [q1, q2, q3, q4, q5, q6, q7, q8, q9] at hb3
    have k2 := hb3
    refine sw_seq ?_
    refine sO [(1, _), (2, _), (7, _), (7000, _)] [(1, _)] ?_
    refine sw_reg ?_
    refine rA ?_ (x := B_eql)
    refine rA ?_ (x := sA)
    refine sw_cond (t := 25) rfl (fun hb4 => ?_) (fun hb4 => ?_)
    ·try simp only [q1, q2, q3, q4, q5, q6, q7, q8, q9] at hb4
     have k3 := hb4
     refine sw_seq ?_
     refine sO [(1, _), (2, _), (7, _), (7000, _)] [(1, _)] ?_
     refine sw_reg ?_
     refine rA ?_ (x := lF FFev_fd_70_4)
     refine rA ?_ (x := lD [PV.val _, PV.val _, PV.sl .v _, PV.val _, PV.val _] FFev_ty_68)
     refine rA ?_ (x := gL [(true, [PV.val _, PV.val _, PV.sl _ _, PV.val _, PV.val _])] [(true, [PV.val _, PV.val _, PV.sl .v _, PV.val _, PV.val _])] FFev_c_69 (hs := by exact impl_FormatUpdate))
     refine rA ?_ (x := sA)
     refine sw_ret ?_
     exact (And.intro (by refine sv_eq ?_; exact str_eq (by unfold fmtEvent; rw [if_pos hok, if_neg k1, if_neg k2, if_pos k3])) True.intro)
    ·try simp only [q1, q2, q3, q4, q5, q6, q7, q8, q9] at hb4
     have k3 := hb4
     refine sw_skip ?_
     refine sw_seq ?_
     refine sO [(1, _), (2, _), (7, _), (7000, _)] [(1, _)] ?_
     refine sw_reg ?_
     refine rA ?_ (x := lF FFev_fd_70_5)
     refine rA ?_ (x := lD [PV.val _] FFev_ty_3)
     refine rA ?_ (x := gL [(false, [PV.val _])] [(false, [PV.val _])] FFev_c_32 (hs := by exact (impl_FormatInt (by unfold I64; omega))))
     refine rA ?_ (x := loc_sadd)
     refine rA ?_ (x := sA)
     refine sw_ret ?_
     exact (And.intro (by refine sv_eq ?_; exact str_eq (by unfold fmtEvent; rw [if_pos hok, if_neg k1, if_neg k2, if_neg k3])) True.intro)
theorem spec_FormatEvent {x : Event}  : SCall Tryd.prog 23 [(true, [PV.val (vI x.Kind), PV.val (vI x.Query.Id), PV.val (vI x.Query.Tenant), PV.sl .v (x.Query.Conds.map cCond), PV.sl .v (x.Query.Out.map cInt), PV.val (vI x.Limit), PV.val (vI x.Id), PV.val (vI x.Update.Kind), PV.val (vI x.Update.Row.Id), PV.sl .v (x.Update.Row.Values.map cInt), PV.val (vI x.Update.Field), PV.val (vI x.Update.Value), PV.val (vI x.Steps)])] (resRV [(false, [PV.val (.string (B (fmtEvent x)))])]) := by
 refine scall_of (rs := [(false, [PV.val (.string (B (fmtEvent x)))])]) Tryd.func23 rfl (Nat.le_of_ble_eq_true rfl) (borA_cons (BorL.cons (PV.bor_val _) (BorL.cons (PV.bor_val _) (BorL.cons (PV.bor_val _) (BorL.cons (PV.bor_sl _) (BorL.cons (PV.bor_sl _) (BorL.cons (PV.bor_val _) (BorL.cons (PV.bor_val _) (BorL.cons (PV.bor_val _) (BorL.cons (PV.bor_val _) (BorL.cons (PV.bor_sl _) (BorL.cons (PV.bor_val _) (BorL.cons (PV.bor_val _) (BorL.cons (PV.bor_val _) BorL.nil))))))))))))) borA_nil) ?_
 intro h0 w0 Fz0
 refine sw_slen (s := 0) (j := 3) rfl rfl fun hl0_3 => ?_
 try rw [List.length_map] at hl0_3
 refine sw_slen (s := 0) (j := 4) rfl rfl fun hl0_4 => ?_
 try rw [List.length_map] at hl0_4
 refine sw_slen (s := 0) (j := 9) rfl rfl fun hl0_9 => ?_
 try rw [List.length_map] at hl0_9
 refine sw_seq ?_
 refine sw_reg ?_
 refine RunS.step (by exact ⟨rfl, ⟨⟩⟩) (by exact ⟨⟩) (LocG.of rfl (loc_box (ag := true) (cs := [PV.val _, PV.val _, PV.val _, PV.sl _ _, PV.sl _ _, PV.val _, PV.val _, PV.val _, PV.val _, PV.sl _ _, PV.val _, PV.val _, PV.val _]) (by decide) (by exact ⟨⟩))) (free1 (Free.of_ rfl)) ?_
 refine rA ?_ (x := kA)
 refine sw_seq ?_
 refine sw_seq ?_
 refine sO [(1, _), (2, _)] [(1, (70, [PV.val _, PV.val _, PV.val _, PV.sl _ _, PV.sl _ _, PV.val _, PV.val _, PV.val _, PV.val _, PV.sl _ _, PV.val _, PV.val _, PV.val _]))] ?_
 refine sw_reg ?_
 refine rA ?_ (x := lD [PV.val _, PV.val _, PV.val _, PV.sl .v _, PV.sl .v _, PV.val _, PV.val _, PV.val _, PV.val _, PV.sl .v _, PV.val _, PV.val _, PV.val _] FFev_ty_70)
 refine rA ?_ (x := cL [(true, [PV.val _, PV.val _, PV.val _, PV.sl _ _, PV.sl _ _, PV.val _, PV.val _, PV.val _, PV.val _, PV.sl _ _, PV.val _, PV.val _, PV.val _])] [(true, [PV.val _, PV.val _, PV.val _, PV.sl .v _, PV.sl .v _, PV.val _, PV.val _, PV.val _, PV.val _, PV.sl .v _, PV.val _, PV.val _, PV.val _])] FFev_c_63 (hs := by exact spec_IsEvent))
 refine rA ?_ (x := nT)
 refine sw_cond (t := 5) rfl (fun hb1 => ?_) (fun hb1 => ?_)
 ·try simp only [q1, q2, q3, q4, q5, q6, q7, q8, q9] at hb1
  have hok : okEvent x = false := by simpa using hb1
  refine sw_seq ?_
  refine sO [(1, _), (2, _)] [(1, _)] ?_
  refine sw_reg ?_
  refine rA ?_ (x := kA)
  refine sw_ret ?_
  exact (And.intro (by refine sv_eq ?_; exact str_eq (by unfold fmtEvent; rw [if_neg (by rw [hok]; simp)])) True.intro)
 ·try simp only [q1, q2, q3, q4, q5, q6, q7, q8, q9] at hb1
  have hok : okEvent x = true := by simpa using hb1
  obtain ⟨a1, a2, a3, a4, a5, a6⟩ := evt_i64 hok
  have hql := fmtQuery_len x.Query
  have h3 : (itoa x.Limit).length ≤ 21 := itoa_len (by unfold I64; omega)
  have h4 : (itoa x.Id).length ≤ 21 := itoa_len (by unfold I64; omega)
  have h5 : (itoa x.Steps).length ≤ 21 := itoa_len (by unfold I64; omega)
  refine sw_skip ?_
  refine sw_seq ?_
  refine sw_seq ?_
  refine sO [(1, _), (2, _)] [(1, _)] ?_
  refine sw_reg ?_
  refine rA ?_ (x := lF FFev_fd_70_0)
  refine rA ?_ (x := lD [PV.val _] FFev_ty_3)
  refine sw_block ?_
  refine sw_seq ?_
  refine sO [(1, _), (2, _), (7, _)] [(1, _)] ?_
  refine sw_reg ?_
  refine rA ?_ (x := B_eql)
  refine rA ?_ (x := sA)
  refine sw_cond (t := 8) rfl (fun hb2 => ?_) (fun hb2 => ?_)
  ·try simp only [q1, q2, q3, q4, q5, q6, q7, q8, q9] at hb2
   have k1 := hb2
   refine sw_seq ?_
   refine sO [(1, _), (2, _), (7, _)] [(1, _)] ?_
   refine sw_draw hm_ ?_
   refine dA 0 ?_ (x := lF FFev_fd_70_2)
   refine dA 1 ?_ (x := lD [PV.val _] FFev_ty_3)
   refine dA 3 ?_ (x := cL [(false, [PV.val _])] [(false, [PV.val _])] FFev_c_28 (hs := by exact (spec_FormatInt (by unfold I64; omega))))
   refine dA 7 ?_ (x := loc_sadd)
   refine dA 15 ?_ (x := loc_sadd)
   refine dA 0 ?_ (x := lF FFev_fd_70_1)
   refine dA 32 ?_ (x := lD [PV.val _, PV.val _, PV.sl .v _, PV.sl .v _] FFev_ty_51)
   refine dA 103 ?_ (x := cL [(true, [PV.val _, PV.val _, PV.sl _ _, PV.sl _ _])] [(true, [PV.val _, PV.val _, PV.sl .v _, PV.sl .v _])] FFev_c_64 (hs := by exact spec_FormatQuery))
   refine dA 255 ?_ (x := loc_sadd)
   refine dA 511 ?_ (x := sA)
   refine sw_ret ?_
   exact (And.intro (by refine sv_eq ?_; exact str_eq (by unfold fmtEvent; rw [if_pos hok, if_pos k1])) True.intro)
  ·try simp only [q1, q2, q3, q4, q5, q6, q7, q8, q9] at hb2
   have k1 := hb2
   refine sw_seq ?_
   refine sO [(1, _), (2, _), (7, _)] [(1, _)] ?_
   refine sw_reg ?_
   refine rA ?_ (x := B_eql)
   refine rA ?_ (x := sA)
   refine sw_cond (t := 19) rfl (fun hb3 => ?_) (fun hb3 => ?_)
   ·try simp only [q1, q2, q3, q4, q5, q6, q7, q8, q9] at hb3
    have k2 := hb3
    refine sw_seq ?_
    refine sO [(1, _), (2, _), (7, _)] [(1, _)] ?_
    refine sw_reg ?_
    refine rA ?_ (x := lF FFev_fd_70_3)
    refine rA ?_ (x := lD [PV.val _] FFev_ty_3)
    refine rA ?_ (x := cL [(false, [PV.val _])] [(false, [PV.val _])] FFev_c_28 (hs := by exact (spec_FormatInt (by unfold I64; omega))))
    refine rA ?_ (x := loc_sadd)
    refine rA ?_ (x := sA)
    refine sw_ret ?_
    exact (And.intro (by refine sv_eq ?_; exact str_eq (by unfold fmtEvent; rw [if_pos hok, if_neg k1, if_pos k2])) True.intro)
   ·try simp only [q1, q2, q3, q4, q5, q6, q7, q8, q9] at hb3
    have k2 := hb3
    refine sw_seq ?_
    refine sO [(1, _), (2, _), (7, _)] [(1, _)] ?_
    refine sw_reg ?_
    refine rA ?_ (x := B_eql)
    refine rA ?_ (x := sA)
    refine sw_cond (t := 25) rfl (fun hb4 => ?_) (fun hb4 => ?_)
    ·try simp only [q1, q2, q3, q4, q5, q6, q7, q8, q9] at hb4
     have k3 := hb4
     refine sw_seq ?_
     refine sO [(1, _), (2, _), (7, _)] [(1, _)] ?_
     refine sw_reg ?_
     refine rA ?_ (x := lF FFev_fd_70_4)
     refine rA ?_ (x := lD [PV.val _, PV.val _, PV.sl .v _, PV.val _, PV.val _] FFev_ty_68)
     refine rA ?_ (x := cL [(true, [PV.val _, PV.val _, PV.sl _ _, PV.val _, PV.val _])] [(true, [PV.val _, PV.val _, PV.sl .v _, PV.val _, PV.val _])] FFev_c_65 (hs := by exact spec_FormatUpdate))
     refine rA ?_ (x := sA)
     refine sw_ret ?_
     exact (And.intro (by refine sv_eq ?_; exact str_eq (by unfold fmtEvent; rw [if_pos hok, if_neg k1, if_neg k2, if_pos k3])) True.intro)
    ·try simp only [q1, q2, q3, q4, q5, q6, q7, q8, q9] at hb4
     have k3 := hb4
     refine sw_skip ?_
     refine sw_seq ?_
     refine sO [(1, _), (2, _), (7, _)] [(1, _)] ?_
     refine sw_reg ?_
     refine rA ?_ (x := lF FFev_fd_70_5)
     refine rA ?_ (x := lD [PV.val _] FFev_ty_3)
     refine rA ?_ (x := cL [(false, [PV.val _])] [(false, [PV.val _])] FFev_c_28 (hs := by exact (spec_FormatInt (by unfold I64; omega))))
     refine rA ?_ (x := loc_sadd)
     refine rA ?_ (x := sA)
     refine sw_ret ?_
     exact (And.intro (by refine sv_eq ?_; exact str_eq (by unfold fmtEvent; rw [if_pos hok, if_neg k1, if_neg k2, if_neg k3])) True.intro)
end Go.Proofs.YtaomckpfgmhapaaDoor
