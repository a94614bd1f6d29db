/- What functions of the program compute. No condition. -/
import Derived.Test.YtloipjaiceifbaaCCluBNewCluster
import Derived.Test.YtloipjaiceifbaaCCluGNewCluster
import Derived.Test.YtloipjaiceifbaaCDp
import Derived.KernelRfl
set_option linter.unusedVariables false
set_option linter.unusedSimpArgs false
namespace Go.Proofs.Ytloipjaiceifbaa
open Go Go.RowKit M
set_option maxRecDepth 10000
theorem FCluI_c_72 : callI Try.prog 72 = true := by kernel_rfl
theorem FCluI_c_81 : callI Try.prog 81 = true := by kernel_rfl
theorem FCluI_c_82 : callI Try.prog 82 = true := by kernel_rfl
theorem FCluI_c_83 : callI Try.prog 83 = true := by kernel_rfl
theorem FCluI_c_84 : callI Try.prog 84 = true := by kernel_rfl
theorem FCluI_c_86 : callI Try.prog 86 = true := by kernel_rfl
theorem FCluI_c_87 : callI Try.prog 87 = true := by kernel_rfl
theorem FCluI_c_88 : callI Try.prog 88 = true := by kernel_rfl
theorem FCluI_fd_60_2 : fieldI Try.prog 60 2 = some 5 := by kernel_rfl
theorem FCluI_fd_60_3 : fieldI Try.prog 60 3 = some 6 := by kernel_rfl
theorem FCluI_fd_60_4 : fieldI Try.prog 60 4 = some 7 := by kernel_rfl
theorem FCluI_fd_60_5 : fieldI Try.prog 60 5 = some 8 := by kernel_rfl
theorem FCluI_fd_60_7 : fieldI Try.prog 60 7 = some 10 := by kernel_rfl
theorem FCluI_pl_60 : placesI Try.prog 60 = some [(0, 4), (4, 1), (5, 1), (6, 1), (7, 1), (8, 1), (9, 1), (10, 1)] := by kernel_rfl
theorem FCluI_sl_32 : sliceI Try.prog 32 = some (87, 2, 32) := by kernel_rfl
theorem FCluI_sl_38 : sliceI Try.prog 38 = some (3, 1, 8) := by kernel_rfl
theorem FCluI_sl_57 : sliceI Try.prog 57 = some (32, 1, 24) := by kernel_rfl
theorem FCluI_sl_58 : sliceI Try.prog 58 = some (4, 1, 1) := by kernel_rfl
theorem FCluI_ty_38 : tyI Try.prog 38 = some (false, 1) := by kernel_rfl
theorem FCluI_ty_56 : tyI Try.prog 56 = some (true, 4) := by kernel_rfl
theorem FCluI_ty_57 : tyI Try.prog 57 = some (false, 1) := by kernel_rfl
theorem FCluI_ty_58 : tyI Try.prog 58 = some (false, 1) := by kernel_rfl
theorem FCluI_ty_60 : tyI Try.prog 60 = some (true, 11) := by kernel_rfl
theorem FCluI_z_3 : zeroI Try.prog 3 = some (.int .i64 0) := by kernel_rfl
theorem FCluI_z_32 : zeroI Try.prog 32 = some (.slice none 0 0) := by kernel_rfl
theorem FCluI_z_4 : zeroI Try.prog 4 = some (.bool false) := by kernel_rfl
theorem FCluI_z_60 : zeroI Try.prog 60 = some (.agg #[.int .i64 0, .int .i64 0, .slice none 0 0, .slice none 0 0, .slice none 0 0, .slice none 0 0, .slice none 0 0, .slice none 0 0, .slice none 0 0, .slice none 0 0, .slice none 0 0]) := by kernel_rfl
theorem FCluI_z_87 : zeroI Try.prog 87 = some (.agg #[.int .i64 0, .slice none 0 0]) := by kernel_rfl
theorem FCluI_zo_3 {Fz : FzT} {w : World} : OwnL [PV.val (.int .i64 0)] Fz w (Value.cells (.int .i64 0)).toList [] := zo_val rfl (zo_nil)
theorem FCluI_zo_32 {Fz : FzT} {w : World} : OwnL [PV.sl (.own 87 2) []] Fz w (Value.cells (.slice none 0 0)).toList [] := zo_sl (zo_nil)
theorem FCluI_zo_60 {Fz : FzT} {w : World} : OwnL [PV.val (.int .i64 0), PV.val (.int .i64 0), PV.sl (.own 130 3) [], PV.sl (.own 3 1) [], PV.sl (.own 32 1) [], PV.sl (.own 4 1) [], PV.sl (.own 3 1) [], PV.sl (.own 3 1) [], PV.sl (.own 32 1) [], PV.sl (.own 3 1) [], PV.sl (.own 32 1) []] Fz w (Value.cells (.agg #[.int .i64 0, .int .i64 0, .slice none 0 0, .slice none 0 0, .slice none 0 0, .slice none 0 0, .slice none 0 0, .slice none 0 0, .slice none 0 0, .slice none 0 0, .slice none 0 0])).toList [] := zo_val rfl (zo_val rfl (zo_sl (zo_sl (zo_sl (zo_sl (zo_sl (zo_sl (zo_sl (zo_sl (zo_sl (zo_nil)))))))))))
theorem impl_NewCluster {p3 p4 : Fl} {q : Query} {l : List (List Row)} {n : Int}  (hb : wtQuery q ≤ 68719476736) (hb2 : wtRowSS l ≤ 68719476736) : SCall Try.prog 37 [(true, [PV.val (vI q.Id), PV.val (vI q.Tenant), PV.sl .v (q.Conds.map cCond), PV.sl .v (q.Out.map cInt)]), (false, [PV.sl .v (l.map (cRowS p3 p4))]), (false, [PV.val (vI n)])] (resRV [(true, [PV.val (vI (newCluster q l n).1.Query.Id), PV.val (vI (newCluster q l n).1.Query.Tenant), PV.sl (.own 130 3) ((newCluster q l n).1.Query.Conds.map cCond), PV.sl (.own 3 1) ((newCluster q l n).1.Query.Out.map cInt), PV.sl (.own 32 1) ((newCluster q l n).1.Parts.map (cRowS (.own 87 2) (.own 3 1))), PV.sl (.own 4 1) ((newCluster q l n).1.Up.map cBool), PV.sl (.own 3 1) ((newCluster q l n).1.At.map cInt), PV.sl (.own 3 1) ((newCluster q l n).1.Pos.map cInt), PV.sl (.own 32 1) ((newCluster q l n).1.Buffer.map (cRowS (.own 87 2) (.own 3 1))), PV.sl (.own 3 1) ((newCluster q l n).1.Done.map cInt), PV.sl (.own 32 1) ((newCluster q l n).1.Rows.map (cRowS (.own 87 2) (.own 3 1)))]), (false, [PV.val (.bool (newCluster q l n).2)])]) := by
 refine scall_of (rs := [(true, [PV.val (vI (newCluster q l n).1.Query.Id), PV.val (vI (newCluster q l n).1.Query.Tenant), PV.sl (.own 130 3) ((newCluster q l n).1.Query.Conds.map cCond), PV.sl (.own 3 1) ((newCluster q l n).1.Query.Out.map cInt), PV.sl (.own 32 1) ((newCluster q l n).1.Parts.map (cRowS (.own 87 2) (.own 3 1))), PV.sl (.own 4 1) ((newCluster q l n).1.Up.map cBool), PV.sl (.own 3 1) ((newCluster q l n).1.At.map cInt), PV.sl (.own 3 1) ((newCluster q l n).1.Pos.map cInt), PV.sl (.own 32 1) ((newCluster q l n).1.Buffer.map (cRowS (.own 87 2) (.own 3 1))), PV.sl (.own 3 1) ((newCluster q l n).1.Done.map cInt), PV.sl (.own 32 1) ((newCluster q l n).1.Rows.map (cRowS (.own 87 2) (.own 3 1)))]), (false, [PV.val (.bool (newCluster q l n).2)])]) Try.func37 rfl (Nat.le_of_ble_eq_true rfl) (borA_cons (BorL.cons (PV.bor_val _) (BorL.cons (PV.bor_val _) (BorL.cons (PV.bor_sl _) (BorL.cons (PV.bor_sl _) BorL.nil)))) (borA_cons (BorL.cons (PV.bor_sl _) BorL.nil) (borA_cons (BorL.cons (PV.bor_val _) BorL.nil) borA_nil))) ?_
 intro h0 w0 Fz0
 refine sw_slen (s := 0) (j := 2) rfl rfl fun hl0_2 => ?_
 try rw [List.length_map] at hl0_2
 refine sw_slen (s := 0) (j := 3) rfl rfl fun hl0_3 => ?_
 try rw [List.length_map] at hl0_3
 refine sw_len (s := 1) rfl fun hl1 => ?_
 try rw [List.length_map] at hl1
 refine sw_seq ?_
 refine sw_reg ?_
 refine RunS.step (by exact ⟨rfl, ⟨⟩⟩) (by exact ⟨⟩) (LocG.of rfl (loc_box (ag := true) (cs := [PV.val _, PV.val _, PV.sl _ _, PV.sl _ _]) (by decide) (by exact ⟨⟩))) (free1 (Free.of_ rfl)) ?_
 refine RunS.step (by exact ⟨⟩) (by exact ⟨⟩) (LocG.of rfl (loc_alloc (by decide) FCluI_z_60 FCluI_zo_60)) (free1 (Free.app (Free.of_ rfl) rfl)) ?_
 refine rA ?_ (x := kA)
 refine sw_seq ?_
 refine sw_seq ?_
 refine sO [(1, _), (2, _), (3, _), (6, _), (7, _)] [(3, (56, [PV.val _, PV.val _, PV.sl _ _, PV.sl _ _])), (6, (60, [PV.val _, PV.val _, PV.sl _ _, PV.sl _ _, PV.sl _ _, PV.sl _ _, PV.sl _ _, PV.sl _ _, PV.sl _ _, PV.sl _ _, PV.sl _ _]))] ?_
 refine sw_reg ?_
 refine rA ?_ (x := lD [PV.val _, PV.val _, PV.sl .v _, PV.sl .v _] FCluI_ty_56)
 refine rA ?_ (x := vM false [PV.sl .v _])
 refine rA ?_ (x := sM)
 refine rA ?_ (x := cL [(true, [PV.val _, PV.val _, PV.sl _ _, PV.sl _ _]), (false, [PV.sl _ _]), (false, [PV.val _])] [(true, [PV.val _, PV.val _, PV.sl .v _, PV.sl .v _]), (false, [PV.sl .v _]), (false, [PV.val _])] FCluI_c_86 (hs := by exact impl_startOk (by omega)))
 refine rA ?_ (x := nT)
 refine sw_cond (t := 14) rfl (fun hb1 => ?_) (fun hb1 => ?_)
 ·try simp only [q1, q2, q3, q4, q5, q6, q7, q8, q9] at hb1
  have hr := new_no (q := q) (l := l) (n := n) (by simp_all)
  refine sw_seq ?_
  refine sO [(1, _), (2, _), (3, _), (6, _), (7, _)] [(3, _), (6, _)] ?_
  refine sw_reg ?_
  refine rA ?_ (x := loc_build (qs := []) (cs := [PV.val _, PV.val _, PV.sl _ _, PV.sl _ _, PV.sl _ _, PV.sl _ _, PV.sl _ _, PV.sl _ _, PV.sl _ _, PV.sl _ _, PV.sl _ _]) (by decide) FCluI_z_60 FCluI_zo_60 FCluI_pl_60 (by exact rfl) (by exact ⟨⟩) rfl (by exact rfl))
  refine rA ?_ (x := loc_store (ag := true) (vs := [PV.val _, PV.val _, PV.sl _ _, PV.sl _ _, PV.sl _ _, PV.sl _ _, PV.sl _ _, PV.sl _ _, PV.sl _ _, PV.sl _ _, PV.sl _ _]) FCluI_ty_60 (by exact ⟨⟩) (by exact rfl) (by exact Nat.le_of_ble_eq_true rfl))
  refine rA ?_ (x := kA)
  refine sw_ret ?_
  exact (Exists.intro 6 (Exists.intro _ (And.intro (by exact rfl) (And.intro (by refine box_eq ?_; rw [hr]; try first | rfl | (simp only [newCl, List.map_replicate]; rfl)) (And.intro FCluI_ty_60 (And.intro (fun h => nomatch h) (And.intro (by refine bool_eq ?_; rw [hr]; try first | rfl | (simp only [newCl, List.map_replicate]; rfl)) True.intro)))))))
 ·try simp only [q1, q2, q3, q4, q5, q6, q7, q8, q9] at hb1
  have hok : (okQuery q && (okParts l && inB n 2 4)) = true := by simp_all
  have hr := new_yes hok
  have hn := new_in hok
  refine sw_skip ?_
  refine sw_seq ?_
  refine sO [(1, _), (2, _), (3, _), (6, _), (7, _)] [(3, _), (6, _)] ?_
  refine sw_draw hm_ ?_
  refine dA 0 ?_ (x := lD [PV.val _, PV.val _, PV.sl .v _, PV.sl .v _] FCluI_ty_56)
  refine dA 1 ?_ (x := cL [(true, [PV.val _, PV.val _, PV.sl _ _, PV.sl _ _])] [(true, [PV.val _, PV.val _, PV.sl .v _, PV.sl .v _])] FCluI_c_87 (hs := by exact impl_copyQuery (by omega)))
  refine dA 0 ?_ (x := vM false [PV.sl .v _])
  refine dA 7 ?_ (x := cL [(false, [PV.sl _ _])] [(false, [PV.sl .v _])] FCluI_c_88 (hs := by exact impl_copyParts (by omega)))
  refine dA 0 ?_ (x := sM)
  refine Run.step 16 (by exact ⟨rfl, rfl, ⟨⟩⟩) (by exact ⟨⟩) (LocG.of rfl (loc_makez (m := n.toNat) (by decide) FCluI_sl_38 FCluI_z_3 rfl FCluI_zo_3 (by exact ⟨⟩) (by exact ⟨⟩) (by first | exact rfl | omega) (by first | exact rfl | omega) (by omega) (by omega))) (free1 (Free.of_ rfl)) (by kernel_rfl) ?_
  refine dA 0 ?_ (x := sM)
  refine Run.step 64 (by exact ⟨rfl, rfl, ⟨⟩⟩) (by exact ⟨⟩) (LocG.of rfl (loc_makez (m := n.toNat) (by decide) FCluI_sl_57 FCluI_z_32 rfl FCluI_zo_32 (by exact ⟨⟩) (by exact ⟨⟩) (by first | exact rfl | omega) (by first | exact rfl | omega) (by omega) (by omega))) (free1 (Free.of_ rfl)) (by kernel_rfl) ?_
  refine dA 255 ?_ (x := loc_build (qs := [(true, [PV.val _, PV.val _, PV.sl _ _, PV.sl _ _]), (false, [PV.sl _ _]), (false, [PV.sl _ _]), (false, [PV.sl _ _])]) (cs := [PV.val _, PV.val _, PV.sl _ _, PV.sl _ _, PV.sl _ _, PV.sl _ _, PV.sl _ _, PV.sl _ _, PV.sl _ _, PV.sl _ _, PV.sl _ _]) (by decide) FCluI_z_60 FCluI_zo_60 FCluI_pl_60 (by exact rfl) (by exact (And.intro (by exact ⟨⟩) (And.intro (by exact ⟨⟩) (And.intro (by exact ⟨⟩) (And.intro (by exact ⟨⟩) True.intro))))) rfl (by exact rfl))
  refine Run.step 0 (by exact ⟨⟩) (by exact ⟨⟩) (LocG.of rfl (loc_alloc (by decide) FCluI_z_60 FCluI_zo_60)) (free1 (Free.of_ rfl)) (by kernel_rfl) ?_
  refine dA 1023 ?_ (x := loc_store (ag := true) (vs := [PV.val _, PV.val _, PV.sl _ _, PV.sl _ _, PV.sl _ _, PV.sl _ _, PV.sl _ _, PV.sl _ _, PV.sl _ _, PV.sl _ _, PV.sl _ _]) FCluI_ty_60 (by exact ⟨⟩) (by exact rfl) (by exact Nat.le_of_ble_eq_true rfl))
  refine sw_seq ?_
  refine sO [(1, _), (2, _), (3, _), (6, _), (7, _), (8, _)] [(3, _), (6, _), (8, (60, [PV.val _, PV.val _, PV.sl _ _, PV.sl _ _, PV.sl _ _, PV.sl _ _, PV.sl _ _, PV.sl _ _, PV.sl _ _, PV.sl _ _, PV.sl _ _]))] ?_
  refine sw_reg ?_
  refine rA ?_ (x := vM false [PV.sl .v _])
  refine rA ?_ (x := lN FCluI_sl_57)
  refine RunS.step (by exact ⟨rfl, rfl, ⟨⟩⟩) (by exact ⟨⟩) (LocG.of rfl (loc_makez (m := l.length) (by decide) FCluI_sl_57 FCluI_z_32 rfl FCluI_zo_32 (by exact ⟨⟩) (by exact ⟨⟩) (by first | exact rfl | omega) (by first | exact rfl | omega) (by omega) (by omega))) (free1 (Free.app (Free.app (Free.of_ rfl) rfl) rfl)) ?_
  refine rA ?_ (x := lF FCluI_fd_60_7)
  refine rA ?_ (x := loc_store (ag := false) (vs := [PV.sl _ _]) FCluI_ty_57 (by exact ⟨⟩) (by exact rfl) (by exact Nat.le_of_ble_eq_true rfl))
  refine sw_seq ?_
  refine sw_seq ?_
  refine sO [(1, _), (2, _), (3, _), (6, _), (7, _), (8, _)] [(3, _), (6, _), (8, (60, [PV.val _, PV.val _, PV.sl _ _, PV.sl _ _, PV.sl _ _, PV.sl _ _, PV.sl _ _, PV.sl _ _, PV.sl _ _, PV.sl _ _, PV.sl _ _]))] ?_
  refine sw_reg ?_
  refine rA ?_ (x := kA)
  refine sw_block ?_
  refine sO [(1, _), (2, _), (3, _), (6, _), (7, _), (8, _), (9, _)] [(3, _), (6, _), (8, _)] ?_
  refine sw_loop (l0 := [(1, RV.sv false [PV.sl _ _]), (2, RV.sv false [PV.val _]), (3, RV.ptr 3 0), (6, RV.ptr 6 0), (7, RV.sv false [PV.val _]), (8, RV.ptr 8 0)]) (b0 := [(3, (56, [PV.val _, PV.val _, PV.sl _ _, PV.sl _ _])), (6, (60, [PV.val _, PV.val _, PV.sl _ _, PV.sl _ _, PV.sl _ _, PV.sl _ _, PV.sl _ _, PV.sl _ _, PV.sl _ _, PV.sl _ _, PV.sl _ _]))]) (fun k : Nat => k ≤ n.toNat) (fun k : Nat => [(9, RV.int (k : Int))]) (fun k : Nat => [(8, (60, [PV.val (vI q.Id), PV.val (vI q.Tenant), PV.sl (.own 130 3) (q.Conds.map cCond), PV.sl (.own 3 1) (q.Out.map cInt), PV.sl (.own 32 1) (l.map (cRowS (.own 87 2) (.own 3 1))), PV.sl (.own 4 1) (List.replicate k (cBool true)), PV.sl (.own 3 1) (List.replicate k (cInt (-1))), PV.sl (.own 3 1) (List.replicate n.toNat (cInt 0)), PV.sl (.own 32 1) (List.replicate n.toNat [PV.sl (.own 87 2) []]), PV.sl (.own 3 1) [], PV.sl (.own 32 1) (List.replicate l.length [PV.sl (.own 87 2) []])]))]) (fun k : Nat => n.toNat - k) 0 (by omega) (by exact ⟨rfl, rfl, rfl, rfl, rfl, rfl, ⟨⟩⟩) (by exact ⟨rfl, rfl, ⟨⟩⟩) (by exact And.intro (by exact rfl) (True.intro)) (by exact And.intro (by exact rfl) (True.intro)) ?_
  rintro k hk
  refine sw_seq ?_
  refine sw_seq ?_
  refine sw_reg ?_
  refine rA ?_ (x := sM)
  refine rA ?_ (x := sM)
  refine rA ?_ (x := B_lss)
  refine sw_cond (t := 31) rfl (fun hb2 => ?_) (fun hb2 => ?_)
  ·try simp only [q1, q2, q3, q4, q5, q6, q7, q8, q9] at hb2
   have hlt : k < n.toNat := by omega
   refine sw_skip ?_
   refine sw_seq ?_
   refine sw_block ?_
   refine sw_seq ?_
   refine sO [(1, _), (2, _), (3, _), (6, _), (7, _), (8, _), (9, _)] [(3, (56, [PV.val _, PV.val _, PV.sl _ _, PV.sl _ _])), (6, (60, [PV.val _, PV.val _, PV.sl _ _, PV.sl _ _, PV.sl _ _, PV.sl _ _, PV.sl _ _, PV.sl _ _, PV.sl _ _, PV.sl _ _, PV.sl _ _])), (8, (60, [PV.val _, PV.val _, PV.sl _ _, PV.sl _ _, PV.sl _ _, PV.sl _ _, PV.sl _ _, PV.sl _ _, PV.sl _ _, PV.sl _ _, PV.sl _ _]))] ?_
   refine sw_reg ?_
   refine rA ?_ (x := lF FCluI_fd_60_2)
   refine rA ?_ (x := loc_ltake (ms := [PV.sl _ _]) (qs := [PV.sl .v _]) (by decide) FCluI_ty_58 (fun _ => rfl) (by exact Nat.le_of_ble_eq_true rfl) (by exact rfl) (by exact (ToL.cons PV.to_none ToL.nil)) (by exact (BorL.cons (PV.bor_sl _) BorL.nil)))
   refine rA ?_ (x := loc_bslice (qs := [(false, [PV.val _])]) (by decide) FCluI_sl_58 FCluI_z_4 (by decide) rfl rfl rfl rfl rfl (by exact Nat.le_of_ble_eq_true rfl) (by exact (And.intro (ok_sc rfl) True.intro)) rfl)
   refine rA ?_ (x := loc_append (by decide) FCluI_sl_58 FCluI_z_4 rfl rfl (by decide) rfl (by simp only [List.length_map, List.length_replicate, List.length_cons, List.length_nil]; omega) (by simp only [List.length_map, List.length_replicate, List.length_cons, List.length_nil]; omega))
   refine rA ?_ (x := lF FCluI_fd_60_2)
   refine rA ?_ (x := loc_store (ag := false) (vs := [PV.sl _ _]) FCluI_ty_58 (by exact ⟨⟩) (by exact rfl) (by exact Nat.le_of_ble_eq_true rfl))
   refine sO [(1, _), (2, _), (3, _), (6, _), (7, _), (8, _), (9, _)] [(3, _), (6, _), (8, (60, [PV.val _, PV.val _, PV.sl _ _, PV.sl _ _, PV.sl _ _, PV.sl _ _, PV.sl _ _, PV.sl _ _, PV.sl _ _, PV.sl _ _, PV.sl _ _]))] ?_
   refine sw_reg ?_
   refine rA ?_ (x := lF FCluI_fd_60_3)
   refine rA ?_ (x := loc_ltake (ms := [PV.sl _ _]) (qs := [PV.sl .v _]) (by decide) FCluI_ty_38 (fun _ => rfl) (by exact Nat.le_of_ble_eq_true rfl) (by exact rfl) (by exact (ToL.cons PV.to_none ToL.nil)) (by exact (BorL.cons (PV.bor_sl _) BorL.nil)))
   refine rA ?_ (x := loc_bslice (qs := [(false, [PV.val _])]) (by decide) FCluI_sl_38 FCluI_z_3 (by decide) rfl rfl rfl rfl rfl (by exact Nat.le_of_ble_eq_true rfl) (by exact (And.intro (ok_sc rfl) True.intro)) rfl)
   refine rA ?_ (x := loc_append (by decide) FCluI_sl_38 FCluI_z_3 rfl rfl (by decide) rfl (by simp only [List.length_map, List.length_replicate, List.length_cons, List.length_nil]; omega) (by simp only [List.length_map, List.length_replicate, List.length_cons, List.length_nil]; omega))
   refine rA ?_ (x := lF FCluI_fd_60_3)
   refine rA ?_ (x := loc_store (ag := false) (vs := [PV.sl _ _]) FCluI_ty_38 (by exact ⟨⟩) (by exact rfl) (by exact Nat.le_of_ble_eq_true rfl))
   refine sO [(1, _), (2, _), (3, _), (6, _), (7, _), (8, _), (9, _)] [(3, _), (6, _), (8, (60, [PV.val _, PV.val _, PV.sl _ _, PV.sl _ _, PV.sl _ _, PV.sl _ _, PV.sl _ _, PV.sl _ _, PV.sl _ _, PV.sl _ _, PV.sl _ _]))] ?_
   refine sw_reg ?_
   refine rA ?_ (x := sM)
   refine rA ?_ (x := B_add)
   refine rA ?_ (x := sA)
   refine Exists.intro (k + 1) (And.intro (by omega) (And.intro (by omega) (And.intro (And.intro (by exact ⟨rfl, rfl, rfl, rfl, rfl, rfl, ⟨⟩⟩) (by exact ⟨rfl, rfl, ⟨⟩⟩)) (And.intro (by exact And.intro (by exact rfl) (True.intro)) (by exact And.intro (by simp only [List.replicate_succ']; exact rfl) (True.intro))))))
  ·try simp only [q1, q2, q3, q4, q5, q6, q7, q8, q9] at hb2
   have hke : k = n.toNat := by omega
   subst hke
   refine sw_exit ?_
   refine sw_seq ?_
   refine sO [(1, _), (2, _), (3, _), (6, _), (7, _), (8, _), (9, _)] [(3, (56, [PV.val _, PV.val _, PV.sl _ _, PV.sl _ _])), (6, (60, [PV.val _, PV.val _, PV.sl _ _, PV.sl _ _, PV.sl _ _, PV.sl _ _, PV.sl _ _, PV.sl _ _, PV.sl _ _, PV.sl _ _, PV.sl _ _])), (8, (60, [PV.val _, PV.val _, PV.sl _ _, PV.sl _ _, PV.sl _ _, PV.sl _ _, PV.sl _ _, PV.sl _ _, PV.sl _ _, PV.sl _ _, PV.sl _ _]))] ?_
   refine sw_reg ?_
   refine rA ?_ (x := loc_ltake (ms := [PV.val _, PV.val _, PV.sl _ _, PV.sl _ _, PV.sl _ _, PV.sl _ _, PV.sl _ _, PV.sl _ _, PV.sl _ _, PV.sl _ _, PV.sl _ _]) (qs := [PV.val _, PV.val _, PV.sl .v _, PV.sl .v _, PV.sl .v _, PV.sl .v _, PV.sl .v _, PV.sl .v _, PV.sl .v _, PV.sl .v _, PV.sl .v _]) (by decide) FCluI_ty_60 (fun h => nomatch h) (by exact Nat.le_of_ble_eq_true rfl) (by exact rfl) (by exact (ToL.cons (PV.To.refl _) (ToL.cons (PV.To.refl _) (ToL.cons PV.to_none (ToL.cons PV.to_none (ToL.cons PV.to_none (ToL.cons PV.to_none (ToL.cons PV.to_none (ToL.cons PV.to_none (ToL.cons PV.to_none (ToL.cons PV.to_none (ToL.cons PV.to_none ToL.nil)))))))))))) (by exact (BorL.cons (PV.bor_val _) (BorL.cons (PV.bor_val _) (BorL.cons (PV.bor_sl _) (BorL.cons (PV.bor_sl _) (BorL.cons (PV.bor_sl _) (BorL.cons (PV.bor_sl _) (BorL.cons (PV.bor_sl _) (BorL.cons (PV.bor_sl _) (BorL.cons (PV.bor_sl _) (BorL.cons (PV.bor_sl _) (BorL.cons (PV.bor_sl _) BorL.nil)))))))))))))
   refine rA ?_ (x := loc_store (ag := true) (vs := [PV.val _, PV.val _, PV.sl _ _, PV.sl _ _, PV.sl _ _, PV.sl _ _, PV.sl _ _, PV.sl _ _, PV.sl _ _, PV.sl _ _, PV.sl _ _]) FCluI_ty_60 (by exact ⟨⟩) (by exact rfl) (by exact Nat.le_of_ble_eq_true rfl))
   refine rA ?_ (x := kA)
   refine sw_ret ?_
   exact (Exists.intro 6 (Exists.intro _ (And.intro (by exact rfl) (And.intro (by refine box_eq ?_; rw [hr]; try first | rfl | (simp only [newCl, List.map_replicate]; rfl)) (And.intro FCluI_ty_60 (And.intro (fun h => nomatch h) (And.intro (by refine bool_eq ?_; rw [hr]; try first | rfl | (simp only [newCl, List.map_replicate]; rfl)) True.intro)))))))
theorem spec_NewCluster {p3 p4 : Fl} {q : Query} {l : List (List Row)} {n : Int}  (hb : wtQuery q ≤ 68719476736) (hb2 : wtRowSS l ≤ 68719476736) : SCall Try.prog 34 [(true, [PV.val (vI q.Id), PV.val (vI q.Tenant), PV.sl .v (q.Conds.map cCond), PV.sl .v (q.Out.map cInt)]), (false, [PV.sl .v (l.map (cRowS p3 p4))]), (false, [PV.val (vI n)])] (resRV [(true, [PV.val (vI (newCluster q l n).1.Query.Id), PV.val (vI (newCluster q l n).1.Query.Tenant), PV.sl (.own 130 3) ((newCluster q l n).1.Query.Conds.map cCond), PV.sl (.own 3 1) ((newCluster q l n).1.Query.Out.map cInt), PV.sl (.own 32 1) ((newCluster q l n).1.Parts.map (cRowS (.own 87 2) (.own 3 1))), PV.sl (.own 4 1) ((newCluster q l n).1.Up.map cBool), PV.sl (.own 3 1) ((newCluster q l n).1.At.map cInt), PV.sl (.own 3 1) ((newCluster q l n).1.Pos.map cInt), PV.sl (.own 32 1) ((newCluster q l n).1.Buffer.map (cRowS (.own 87 2) (.own 3 1))), PV.sl (.own 3 1) ((newCluster q l n).1.Done.map cInt), PV.sl (.own 32 1) ((newCluster q l n).1.Rows.map (cRowS (.own 87 2) (.own 3 1)))]), (false, [PV.val (.bool (newCluster q l n).2)])]) := by
 refine scall_of (rs := [(true, [PV.val (vI (newCluster q l n).1.Query.Id), PV.val (vI (newCluster q l n).1.Query.Tenant), PV.sl (.own 130 3) ((newCluster q l n).1.Query.Conds.map cCond), PV.sl (.own 3 1) ((newCluster q l n).1.Query.Out.map cInt), PV.sl (.own 32 1) ((newCluster q l n).1.Parts.map (cRowS (.own 87 2) (.own 3 1))), PV.sl (.own 4 1) ((newCluster q l n).1.Up.map cBool), PV.sl (.own 3 1) ((newCluster q l n).1.At.map cInt), PV.sl (.own 3 1) ((newCluster q l n).1.Pos.map cInt), PV.sl (.own 32 1) ((newCluster q l n).1.Buffer.map (cRowS (.own 87 2) (.own 3 1))), PV.sl (.own 3 1) ((newCluster q l n).1.Done.map cInt), PV.sl (.own 32 1) ((newCluster q l n).1.Rows.map (cRowS (.own 87 2) (.own 3 1)))]), (false, [PV.val (.bool (newCluster q l n).2)])]) Try.func34 rfl (Nat.le_of_ble_eq_true rfl) (borA_cons (BorL.cons (PV.bor_val _) (BorL.cons (PV.bor_val _) (BorL.cons (PV.bor_sl _) (BorL.cons (PV.bor_sl _) BorL.nil)))) (borA_cons (BorL.cons (PV.bor_sl _) BorL.nil) (borA_cons (BorL.cons (PV.bor_val _) BorL.nil) borA_nil))) ?_
 intro h0 w0 Fz0
 refine sw_slen (s := 0) (j := 2) rfl rfl fun hl0_2 => ?_
 try rw [List.length_map] at hl0_2
 refine sw_slen (s := 0) (j := 3) rfl rfl fun hl0_3 => ?_
 try rw [List.length_map] at hl0_3
 refine sw_len (s := 1) rfl fun hl1 => ?_
 try rw [List.length_map] at hl1
 refine sw_seq ?_
 refine sw_reg ?_
 refine RunS.step (by exact ⟨rfl, ⟨⟩⟩) (by exact ⟨⟩) (LocG.of rfl (loc_box (ag := true) (cs := [PV.val _, PV.val _, PV.sl _ _, PV.sl _ _]) (by decide) (by exact ⟨⟩))) (free1 (Free.of_ rfl)) ?_
 refine RunS.step (by exact ⟨⟩) (by exact ⟨⟩) (LocG.of rfl (loc_alloc (by decide) FCluI_z_60 FCluI_zo_60)) (free1 (Free.app (Free.of_ rfl) rfl)) ?_
 refine rA ?_ (x := kA)
 refine sw_seq ?_
 refine sw_seq ?_
 refine sO [(1, _), (2, _), (3, _), (6, _), (7, _)] [(3, (56, [PV.val _, PV.val _, PV.sl _ _, PV.sl _ _])), (6, (60, [PV.val _, PV.val _, PV.sl _ _, PV.sl _ _, PV.sl _ _, PV.sl _ _, PV.sl _ _, PV.sl _ _, PV.sl _ _, PV.sl _ _, PV.sl _ _]))] ?_
 refine sw_reg ?_
 refine rA ?_ (x := lD [PV.val _, PV.val _, PV.sl .v _, PV.sl .v _] FCluI_ty_56)
 refine rA ?_ (x := cL [(true, [PV.val _, PV.val _, PV.sl _ _, PV.sl _ _])] [(true, [PV.val _, PV.val _, PV.sl .v _, PV.sl .v _])] FCluI_c_81 (hs := by exact spec_IsQuery))
 refine rA ?_ (x := nT)
 refine rA ?_ (x := sM)
 refine RunS.cases (s := 14) rfl (fun g1 => ?_) (fun g1 => ?_)
 ·have sg1 := g1
  try simp only [q1, q2, q3, q4, q5, q6, q7, q8, q9] at sg1
  refine RunS.s0t g1 ?_
  refine RunS.s0t g1 ?_
  refine RunS.s0t g1 ?_
  refine rA ?_ (x := pkT g1)
  refine rA ?_ (x := sM)
  refine RunS.cases (s := 19) rfl (fun g2 => ?_) (fun g2 => nomatch g2)
  refine RunS.s0t g2 ?_
  refine RunS.s0t g2 ?_
  refine RunS.s0t g2 ?_
  refine rA ?_ (x := pkT g2)
  refine sw_cond (t := 23) rfl (fun hb_ => ?_) (fun hb_ => nomatch hb_)
  have hr := new_no (q := q) (l := l) (n := n) (by simp_all)
  refine sw_seq ?_
  refine sO [(1, _), (2, _), (3, _), (6, _), (7, _)] [(3, _), (6, _)] ?_
  refine sw_reg ?_
  refine rA ?_ (x := loc_build (qs := []) (cs := [PV.val _, PV.val _, PV.sl _ _, PV.sl _ _, PV.sl _ _, PV.sl _ _, PV.sl _ _, PV.sl _ _, PV.sl _ _, PV.sl _ _, PV.sl _ _]) (by decide) FCluI_z_60 FCluI_zo_60 FCluI_pl_60 (by exact rfl) (by exact ⟨⟩) rfl (by exact rfl))
  refine rA ?_ (x := loc_store (ag := true) (vs := [PV.val _, PV.val _, PV.sl _ _, PV.sl _ _, PV.sl _ _, PV.sl _ _, PV.sl _ _, PV.sl _ _, PV.sl _ _, PV.sl _ _, PV.sl _ _]) FCluI_ty_60 (by exact ⟨⟩) (by exact rfl) (by exact Nat.le_of_ble_eq_true rfl))
  refine rA ?_ (x := kA)
  refine sw_ret ?_
  exact (Exists.intro 6 (Exists.intro _ (And.intro (by exact rfl) (And.intro (by refine box_eq ?_; rw [hr]; try first | rfl | (simp only [newCl, List.map_replicate]; rfl)) (And.intro FCluI_ty_60 (And.intro (fun h => nomatch h) (And.intro (by refine bool_eq ?_; rw [hr]; try first | rfl | (simp only [newCl, List.map_replicate]; rfl)) True.intro)))))))
 ·have sg1 := g1
  try simp only [q1, q2, q3, q4, q5, q6, q7, q8, q9] at sg1
  refine rB g1 ?_ (x := vM false [PV.sl .v _])
  refine rB g1 ?_ (x := cL [(false, [PV.sl _ _])] [(false, [PV.sl .v _])] FCluI_c_82 (hs := by exact spec_l18Parts (by omega)))
  refine rB g1 ?_ (x := nT)
  refine rA ?_ (x := pkF g1)
  refine rA ?_ (x := sM)
  refine RunS.cases (s := 19) rfl (fun g4 => ?_) (fun g4 => ?_)
  ·have sg4 := g4
   try simp only [q1, q2, q3, q4, q5, q6, q7, q8, q9] at sg4
   refine RunS.s0t g4 ?_
   refine RunS.s0t g4 ?_
   refine RunS.s0t g4 ?_
   refine rA ?_ (x := pkT g4)
   refine sw_cond (t := 23) rfl (fun hb_ => ?_) (fun hb_ => nomatch hb_)
   have hr := new_no (q := q) (l := l) (n := n) (by simp_all)
   refine sw_seq ?_
   refine sO [(1, _), (2, _), (3, _), (6, _), (7, _)] [(3, _), (6, _)] ?_
   refine sw_reg ?_
   refine rA ?_ (x := loc_build (qs := []) (cs := [PV.val _, PV.val _, PV.sl _ _, PV.sl _ _, PV.sl _ _, PV.sl _ _, PV.sl _ _, PV.sl _ _, PV.sl _ _, PV.sl _ _, PV.sl _ _]) (by decide) FCluI_z_60 FCluI_zo_60 FCluI_pl_60 (by exact rfl) (by exact ⟨⟩) rfl (by exact rfl))
   refine rA ?_ (x := loc_store (ag := true) (vs := [PV.val _, PV.val _, PV.sl _ _, PV.sl _ _, PV.sl _ _, PV.sl _ _, PV.sl _ _, PV.sl _ _, PV.sl _ _, PV.sl _ _, PV.sl _ _]) FCluI_ty_60 (by exact ⟨⟩) (by exact rfl) (by exact Nat.le_of_ble_eq_true rfl))
   refine rA ?_ (x := kA)
   refine sw_ret ?_
   exact (Exists.intro 6 (Exists.intro _ (And.intro (by exact rfl) (And.intro (by refine box_eq ?_; rw [hr]; try first | rfl | (simp only [newCl, List.map_replicate]; rfl)) (And.intro FCluI_ty_60 (And.intro (fun h => nomatch h) (And.intro (by refine bool_eq ?_; rw [hr]; try first | rfl | (simp only [newCl, List.map_replicate]; rfl)) True.intro)))))))
  ·have sg4 := g4
   try simp only [q1, q2, q3, q4, q5, q6, q7, q8, q9] at sg4
   refine rB g4 ?_ (x := sM)
   refine rB g4 ?_ (x := cL [(false, [PV.val _]), (false, [PV.val _]), (false, [PV.val _])] [(false, [PV.val _]), (false, [PV.val _]), (false, [PV.val _])] FCluI_c_72 (hs := by exact spec_l1In))
   refine rB g4 ?_ (x := nT)
   refine rA ?_ (x := pkF g4)
   refine sw_cond (t := 23) rfl (fun hb6 => ?_) (fun hb6 => ?_)
   ·try simp only [q1, q2, q3, q4, q5, q6, q7, q8, q9] at hb6
    have hr := new_no (q := q) (l := l) (n := n) (by simp_all)
    refine sw_seq ?_
    refine sO [(1, _), (2, _), (3, _), (6, _), (7, _)] [(3, _), (6, _)] ?_
    refine sw_reg ?_
    refine rA ?_ (x := loc_build (qs := []) (cs := [PV.val _, PV.val _, PV.sl _ _, PV.sl _ _, PV.sl _ _, PV.sl _ _, PV.sl _ _, PV.sl _ _, PV.sl _ _, PV.sl _ _, PV.sl _ _]) (by decide) FCluI_z_60 FCluI_zo_60 FCluI_pl_60 (by exact rfl) (by exact ⟨⟩) rfl (by exact rfl))
    refine rA ?_ (x := loc_store (ag := true) (vs := [PV.val _, PV.val _, PV.sl _ _, PV.sl _ _, PV.sl _ _, PV.sl _ _, PV.sl _ _, PV.sl _ _, PV.sl _ _, PV.sl _ _, PV.sl _ _]) FCluI_ty_60 (by exact ⟨⟩) (by exact rfl) (by exact Nat.le_of_ble_eq_true rfl))
    refine rA ?_ (x := kA)
    refine sw_ret ?_
    exact (Exists.intro 6 (Exists.intro _ (And.intro (by exact rfl) (And.intro (by refine box_eq ?_; rw [hr]; try first | rfl | (simp only [newCl, List.map_replicate]; rfl)) (And.intro FCluI_ty_60 (And.intro (fun h => nomatch h) (And.intro (by refine bool_eq ?_; rw [hr]; try first | rfl | (simp only [newCl, List.map_replicate]; rfl)) True.intro)))))))
   ·try simp only [q1, q2, q3, q4, q5, q6, q7, q8, q9] at hb6
    have hok : (okQuery q && (okParts l && inB n 2 4)) = true := by simp_all
    have hr := new_yes hok
    have hn := new_in hok
    refine sw_skip ?_
    refine sw_seq ?_
    refine sO [(1, _), (2, _), (3, _), (6, _), (7, _)] [(3, _), (6, _)] ?_
    refine sw_reg ?_
    refine rA ?_ (x := lD [PV.val _, PV.val _, PV.sl .v _, PV.sl .v _] FCluI_ty_56)
    refine rA ?_ (x := cL [(true, [PV.val _, PV.val _, PV.sl _ _, PV.sl _ _])] [(true, [PV.val _, PV.val _, PV.sl .v _, PV.sl .v _])] FCluI_c_83 (hs := by exact spec_l6Query (by omega)))
    refine rA ?_ (x := vM false [PV.sl .v _])
    refine rA ?_ (x := cL [(false, [PV.sl _ _])] [(false, [PV.sl .v _])] FCluI_c_84 (hs := by exact spec_l18CopyParts (by omega)))
    refine rA ?_ (x := loc_build (qs := [(true, [PV.val _, PV.val _, PV.sl _ _, PV.sl _ _]), (false, [PV.sl _ _])]) (cs := [PV.val _, PV.val _, PV.sl _ _, PV.sl _ _, PV.sl _ _, PV.sl _ _, PV.sl _ _, PV.sl _ _, PV.sl _ _, PV.sl _ _, PV.sl _ _]) (by decide) FCluI_z_60 FCluI_zo_60 FCluI_pl_60 (by exact rfl) (by exact (And.intro (by exact ⟨⟩) (And.intro (by exact ⟨⟩) True.intro))) rfl (by exact rfl))
    refine RunS.step (by exact ⟨⟩) (by exact ⟨⟩) (LocG.of rfl (loc_alloc (by decide) FCluI_z_60 FCluI_zo_60)) (free1 (Free.app (Free.app (Free.app (Free.app (Free.app (Free.of_ rfl) rfl) rfl) rfl) rfl) rfl)) ?_
    refine rA ?_ (x := loc_store (ag := true) (vs := [PV.val _, PV.val _, PV.sl _ _, PV.sl _ _, PV.sl _ _, PV.sl _ _, PV.sl _ _, PV.sl _ _, PV.sl _ _, PV.sl _ _, PV.sl _ _]) FCluI_ty_60 (by exact ⟨⟩) (by exact rfl) (by exact Nat.le_of_ble_eq_true rfl))
    refine sw_seq ?_
    refine sw_seq ?_
    refine sO [(1, _), (2, _), (3, _), (6, _), (7, _), (8, _)] [(3, _), (6, _), (8, (60, [PV.val _, PV.val _, PV.sl _ _, PV.sl _ _, PV.sl _ _, PV.sl _ _, PV.sl _ _, PV.sl _ _, PV.sl _ _, PV.sl _ _, PV.sl _ _]))] ?_
    refine sw_reg ?_
    refine rA ?_ (x := kA)
    refine sw_block ?_
    refine sO [(1, _), (2, _), (3, _), (6, _), (7, _), (8, _), (9, _)] [(3, _), (6, _), (8, _)] ?_
    refine sw_loop (l0 := [(1, RV.sv false [PV.sl _ _]), (2, RV.sv false [PV.val _]), (3, RV.ptr 3 0), (6, RV.ptr 6 0), (7, RV.sv false [PV.val _]), (8, RV.ptr 8 0)]) (b0 := [(3, (56, [PV.val _, PV.val _, PV.sl _ _, PV.sl _ _])), (6, (60, [PV.val _, PV.val _, PV.sl _ _, PV.sl _ _, PV.sl _ _, PV.sl _ _, PV.sl _ _, PV.sl _ _, PV.sl _ _, PV.sl _ _, PV.sl _ _]))]) (fun k : Nat => k ≤ n.toNat) (fun k : Nat => [(9, RV.int (k : Int))]) (fun k : Nat => [(8, (60, [PV.val (vI q.Id), PV.val (vI q.Tenant), PV.sl (.own 130 3) (q.Conds.map cCond), PV.sl (.own 3 1) (q.Out.map cInt), PV.sl (.own 32 1) (l.map (cRowS (.own 87 2) (.own 3 1))), PV.sl (.own 4 1) (List.replicate k (cBool true)), PV.sl (.own 3 1) (List.replicate k (cInt (-1))), PV.sl (.own 3 1) (List.replicate k (cInt 0)), PV.sl (.own 32 1) (List.replicate k [PV.sl (.own 87 2) []]), PV.sl (.own 3 1) [], PV.sl (.own 32 1) (List.replicate 0 [PV.sl (.own 87 2) []])]))]) (fun k : Nat => n.toNat - k) 0 (by omega) (by exact ⟨rfl, rfl, rfl, rfl, rfl, rfl, ⟨⟩⟩) (by exact ⟨rfl, rfl, ⟨⟩⟩) (by exact And.intro (by exact rfl) (True.intro)) (by exact And.intro (by exact rfl) (True.intro)) ?_
    rintro k hk
    refine sw_seq ?_
    refine sw_seq ?_
    refine sw_reg ?_
    refine rA ?_ (x := sM)
    refine rA ?_ (x := sM)
    refine rA ?_ (x := B_lss)
    refine sw_cond (t := 32) rfl (fun hb7 => ?_) (fun hb7 => ?_)
    ·try simp only [q1, q2, q3, q4, q5, q6, q7, q8, q9] at hb7
     have hlt : k < n.toNat := by omega
     refine sw_skip ?_
     refine sw_seq ?_
     refine sw_block ?_
     refine sw_seq ?_
     refine sO [(1, _), (2, _), (3, _), (6, _), (7, _), (8, _), (9, _)] [(3, (56, [PV.val _, PV.val _, PV.sl _ _, PV.sl _ _])), (6, (60, [PV.val _, PV.val _, PV.sl _ _, PV.sl _ _, PV.sl _ _, PV.sl _ _, PV.sl _ _, PV.sl _ _, PV.sl _ _, PV.sl _ _, PV.sl _ _])), (8, (60, [PV.val _, PV.val _, PV.sl _ _, PV.sl _ _, PV.sl _ _, PV.sl _ _, PV.sl _ _, PV.sl _ _, PV.sl _ _, PV.sl _ _, PV.sl _ _]))] ?_
     refine sw_reg ?_
     refine rA ?_ (x := lF FCluI_fd_60_2)
     refine rA ?_ (x := loc_ltake (ms := [PV.sl _ _]) (qs := [PV.sl .v _]) (by decide) FCluI_ty_58 (fun _ => rfl) (by exact Nat.le_of_ble_eq_true rfl) (by exact rfl) (by exact (ToL.cons PV.to_none ToL.nil)) (by exact (BorL.cons (PV.bor_sl _) BorL.nil)))
     refine rA ?_ (x := loc_bslice (qs := [(false, [PV.val _])]) (by decide) FCluI_sl_58 FCluI_z_4 (by decide) rfl rfl rfl rfl rfl (by exact Nat.le_of_ble_eq_true rfl) (by exact (And.intro (ok_sc rfl) True.intro)) rfl)
     refine rA ?_ (x := loc_append (by decide) FCluI_sl_58 FCluI_z_4 rfl rfl (by decide) rfl (by simp only [List.length_map, List.length_replicate, List.length_cons, List.length_nil]; omega) (by simp only [List.length_map, List.length_replicate, List.length_cons, List.length_nil]; omega))
     refine rA ?_ (x := lF FCluI_fd_60_2)
     refine rA ?_ (x := loc_store (ag := false) (vs := [PV.sl _ _]) FCluI_ty_58 (by exact ⟨⟩) (by exact rfl) (by exact Nat.le_of_ble_eq_true rfl))
     refine sw_seq ?_
     refine sO [(1, _), (2, _), (3, _), (6, _), (7, _), (8, _), (9, _)] [(3, _), (6, _), (8, (60, [PV.val _, PV.val _, PV.sl _ _, PV.sl _ _, PV.sl _ _, PV.sl _ _, PV.sl _ _, PV.sl _ _, PV.sl _ _, PV.sl _ _, PV.sl _ _]))] ?_
     refine sw_reg ?_
     refine rA ?_ (x := lF FCluI_fd_60_3)
     refine rA ?_ (x := loc_ltake (ms := [PV.sl _ _]) (qs := [PV.sl .v _]) (by decide) FCluI_ty_38 (fun _ => rfl) (by exact Nat.le_of_ble_eq_true rfl) (by exact rfl) (by exact (ToL.cons PV.to_none ToL.nil)) (by exact (BorL.cons (PV.bor_sl _) BorL.nil)))
     refine rA ?_ (x := loc_bslice (qs := [(false, [PV.val _])]) (by decide) FCluI_sl_38 FCluI_z_3 (by decide) rfl rfl rfl rfl rfl (by exact Nat.le_of_ble_eq_true rfl) (by exact (And.intro (ok_sc rfl) True.intro)) rfl)
     refine rA ?_ (x := loc_append (by decide) FCluI_sl_38 FCluI_z_3 rfl rfl (by decide) rfl (by simp only [List.length_map, List.length_replicate, List.length_cons, List.length_nil]; omega) (by simp only [List.length_map, List.length_replicate, List.length_cons, List.length_nil]; omega))
     refine rA ?_ (x := lF FCluI_fd_60_3)
     refine rA ?_ (x := loc_store (ag := false) (vs := [PV.sl _ _]) FCluI_ty_38 (by exact ⟨⟩) (by exact rfl) (by exact Nat.le_of_ble_eq_true rfl))
     refine sw_seq ?_
     refine sO [(1, _), (2, _), (3, _), (6, _), (7, _), (8, _), (9, _)] [(3, _), (6, _), (8, (60, [PV.val _, PV.val _, PV.sl _ _, PV.sl _ _, PV.sl _ _, PV.sl _ _, PV.sl _ _, PV.sl _ _, PV.sl _ _, PV.sl _ _, PV.sl _ _]))] ?_
     refine sw_reg ?_
     refine rA ?_ (x := lF FCluI_fd_60_4)
     refine rA ?_ (x := loc_ltake (ms := [PV.sl _ _]) (qs := [PV.sl .v _]) (by decide) FCluI_ty_38 (fun _ => rfl) (by exact Nat.le_of_ble_eq_true rfl) (by exact rfl) (by exact (ToL.cons PV.to_none ToL.nil)) (by exact (BorL.cons (PV.bor_sl _) BorL.nil)))
     refine rA ?_ (x := loc_bslice (qs := [(false, [PV.val _])]) (by decide) FCluI_sl_38 FCluI_z_3 (by decide) rfl rfl rfl rfl rfl (by exact Nat.le_of_ble_eq_true rfl) (by exact (And.intro (ok_sc rfl) True.intro)) rfl)
     refine rA ?_ (x := loc_append (by decide) FCluI_sl_38 FCluI_z_3 rfl rfl (by decide) rfl (by simp only [List.length_map, List.length_replicate, List.length_cons, List.length_nil]; omega) (by simp only [List.length_map, List.length_replicate, List.length_cons, List.length_nil]; omega))
     refine rA ?_ (x := lF FCluI_fd_60_4)
     refine rA ?_ (x := loc_store (ag := false) (vs := [PV.sl _ _]) FCluI_ty_38 (by exact ⟨⟩) (by exact rfl) (by exact Nat.le_of_ble_eq_true rfl))
     refine sO [(1, _), (2, _), (3, _), (6, _), (7, _), (8, _), (9, _)] [(3, _), (6, _), (8, (60, [PV.val _, PV.val _, PV.sl _ _, PV.sl _ _, PV.sl _ _, PV.sl _ _, PV.sl _ _, PV.sl _ _, PV.sl _ _, PV.sl _ _, PV.sl _ _]))] ?_
     refine sw_reg ?_
     refine rA ?_ (x := lF FCluI_fd_60_5)
     refine rA ?_ (x := loc_ltake (ms := [PV.sl _ _]) (qs := [PV.sl .v _]) (by decide) FCluI_ty_57 (fun _ => rfl) (by exact Nat.le_of_ble_eq_true rfl) (by exact rfl) (by exact (ToL.cons PV.to_none ToL.nil)) (by exact (BorL.cons (PV.bor_sl _) BorL.nil)))
     refine rA ?_ (x := loc_bslice (qs := []) (by decide) FCluI_sl_32 FCluI_z_87 (by decide) rfl rfl rfl rfl rfl (by exact Nat.le_of_ble_eq_true rfl) (by exact ⟨⟩) rfl)
     refine rA ?_ (x := loc_bslice (qs := [(false, [PV.sl _ _])]) (by decide) FCluI_sl_57 FCluI_z_32 (by decide) rfl rfl rfl rfl rfl (by exact Nat.le_of_ble_eq_true rfl) (by exact (And.intro (by exact ⟨⟩) True.intro)) rfl)
     refine rA ?_ (x := loc_append (by decide) FCluI_sl_57 FCluI_z_32 rfl rfl (by decide) rfl (by simp only [List.length_map, List.length_replicate, List.length_cons, List.length_nil]; omega) (by simp only [List.length_map, List.length_replicate, List.length_cons, List.length_nil]; omega))
     refine rA ?_ (x := lF FCluI_fd_60_5)
     refine rA ?_ (x := loc_store (ag := false) (vs := [PV.sl _ _]) FCluI_ty_57 (by exact ⟨⟩) (by exact rfl) (by exact Nat.le_of_ble_eq_true rfl))
     refine sO [(1, _), (2, _), (3, _), (6, _), (7, _), (8, _), (9, _)] [(3, _), (6, _), (8, (60, [PV.val _, PV.val _, PV.sl _ _, PV.sl _ _, PV.sl _ _, PV.sl _ _, PV.sl _ _, PV.sl _ _, PV.sl _ _, PV.sl _ _, PV.sl _ _]))] ?_
     refine sw_reg ?_
     refine rA ?_ (x := sM)
     refine rA ?_ (x := B_add)
     refine rA ?_ (x := sA)
     refine Exists.intro (k + 1) (And.intro (by omega) (And.intro (by omega) (And.intro (And.intro (by exact ⟨rfl, rfl, rfl, rfl, rfl, rfl, ⟨⟩⟩) (by exact ⟨rfl, rfl, ⟨⟩⟩)) (And.intro (by exact And.intro (by exact rfl) (True.intro)) (by exact And.intro (by simp only [List.replicate_succ']; exact rfl) (True.intro))))))
    ·try simp only [q1, q2, q3, q4, q5, q6, q7, q8, q9] at hb7
     have hke : k = n.toNat := by omega
     subst hke
     refine sw_exit ?_
     refine sw_seq ?_
     refine sw_seq ?_
     refine sO [(1, _), (2, _), (3, _), (6, _), (7, _), (8, _), (9, _)] [(3, (56, [PV.val _, PV.val _, PV.sl _ _, PV.sl _ _])), (6, (60, [PV.val _, PV.val _, PV.sl _ _, PV.sl _ _, PV.sl _ _, PV.sl _ _, PV.sl _ _, PV.sl _ _, PV.sl _ _, PV.sl _ _, PV.sl _ _])), (8, (60, [PV.val _, PV.val _, PV.sl _ _, PV.sl _ _, PV.sl _ _, PV.sl _ _, PV.sl _ _, PV.sl _ _, PV.sl _ _, PV.sl _ _, PV.sl _ _]))] ?_
     refine sw_reg ?_
     refine rA ?_ (x := kA)
     refine sw_block ?_
     refine sO [(1, _), (2, _), (3, _), (6, _), (7, _), (8, _), (9, _), (10, _)] [(3, _), (6, _), (8, _)] ?_
     refine sw_loop (l0 := [(1, RV.sv false [PV.sl _ _]), (2, RV.sv false [PV.val _]), (3, RV.ptr 3 0), (6, RV.ptr 6 0), (7, RV.sv false [PV.val _]), (8, RV.ptr 8 0), (9, RV.sv false [PV.val _])]) (b0 := [(3, (56, [PV.val _, PV.val _, PV.sl _ _, PV.sl _ _])), (6, (60, [PV.val _, PV.val _, PV.sl _ _, PV.sl _ _, PV.sl _ _, PV.sl _ _, PV.sl _ _, PV.sl _ _, PV.sl _ _, PV.sl _ _, PV.sl _ _]))]) (fun k : Nat => k ≤ l.length) (fun k : Nat => [(10, RV.int (k : Int))]) (fun k : Nat => [(8, (60, [PV.val (vI q.Id), PV.val (vI q.Tenant), PV.sl (.own 130 3) (q.Conds.map cCond), PV.sl (.own 3 1) (q.Out.map cInt), PV.sl (.own 32 1) (l.map (cRowS (.own 87 2) (.own 3 1))), PV.sl (.own 4 1) (List.replicate n.toNat (cBool true)), PV.sl (.own 3 1) (List.replicate n.toNat (cInt (-1))), PV.sl (.own 3 1) (List.replicate n.toNat (cInt 0)), PV.sl (.own 32 1) (List.replicate n.toNat [PV.sl (.own 87 2) []]), PV.sl (.own 3 1) [], PV.sl (.own 32 1) (List.replicate k [PV.sl (.own 87 2) []])]))]) (fun k : Nat => l.length - k) 0 (by omega) (by exact ⟨rfl, rfl, rfl, rfl, rfl, rfl, rfl, ⟨⟩⟩) (by exact ⟨rfl, rfl, ⟨⟩⟩) (by exact And.intro (by exact rfl) (True.intro)) (by exact And.intro (by exact rfl) (True.intro)) ?_
     rintro k hk
     refine sw_seq ?_
     refine sw_seq ?_
     refine sw_reg ?_
     refine rA ?_ (x := sM)
     refine rA ?_ (x := vM false [PV.sl .v _])
     refine rA ?_ (x := lN FCluI_sl_57)
     refine rA ?_ (x := B_lss)
     refine sw_cond (t := 59) rfl (fun hb8 => ?_) (fun hb8 => ?_)
     ·try simp only [q1, q2, q3, q4, q5, q6, q7, q8, q9] at hb8
      have hlt : k < l.length := by omega
      refine sw_skip ?_
      refine sw_seq ?_
      refine sw_block ?_
      refine sO [(1, _), (2, _), (3, _), (6, _), (7, _), (8, _), (9, _), (10, _)] [(3, (56, [PV.val _, PV.val _, PV.sl _ _, PV.sl _ _])), (6, (60, [PV.val _, PV.val _, PV.sl _ _, PV.sl _ _, PV.sl _ _, PV.sl _ _, PV.sl _ _, PV.sl _ _, PV.sl _ _, PV.sl _ _, PV.sl _ _])), (8, (60, [PV.val _, PV.val _, PV.sl _ _, PV.sl _ _, PV.sl _ _, PV.sl _ _, PV.sl _ _, PV.sl _ _, PV.sl _ _, PV.sl _ _, PV.sl _ _]))] ?_
      refine sw_reg ?_
      refine rA ?_ (x := lF FCluI_fd_60_7)
      refine rA ?_ (x := loc_ltake (ms := [PV.sl _ _]) (qs := [PV.sl .v _]) (by decide) FCluI_ty_57 (fun _ => rfl) (by exact Nat.le_of_ble_eq_true rfl) (by exact rfl) (by exact (ToL.cons PV.to_none ToL.nil)) (by exact (BorL.cons (PV.bor_sl _) BorL.nil)))
      refine rA ?_ (x := loc_bslice (qs := []) (by decide) FCluI_sl_32 FCluI_z_87 (by decide) rfl rfl rfl rfl rfl (by exact Nat.le_of_ble_eq_true rfl) (by exact ⟨⟩) rfl)
      refine rA ?_ (x := loc_bslice (qs := [(false, [PV.sl _ _])]) (by decide) FCluI_sl_57 FCluI_z_32 (by decide) rfl rfl rfl rfl rfl (by exact Nat.le_of_ble_eq_true rfl) (by exact (And.intro (by exact ⟨⟩) True.intro)) rfl)
      refine rA ?_ (x := loc_append (by decide) FCluI_sl_57 FCluI_z_32 rfl rfl (by decide) rfl (by simp only [List.length_map, List.length_replicate, List.length_cons, List.length_nil]; omega) (by simp only [List.length_map, List.length_replicate, List.length_cons, List.length_nil]; omega))
      refine rA ?_ (x := lF FCluI_fd_60_7)
      refine rA ?_ (x := loc_store (ag := false) (vs := [PV.sl _ _]) FCluI_ty_57 (by exact ⟨⟩) (by exact rfl) (by exact Nat.le_of_ble_eq_true rfl))
      refine sO [(1, _), (2, _), (3, _), (6, _), (7, _), (8, _), (9, _), (10, _)] [(3, _), (6, _), (8, (60, [PV.val _, PV.val _, PV.sl _ _, PV.sl _ _, PV.sl _ _, PV.sl _ _, PV.sl _ _, PV.sl _ _, PV.sl _ _, PV.sl _ _, PV.sl _ _]))] ?_
      refine sw_reg ?_
      refine rA ?_ (x := sM)
      refine rA ?_ (x := B_add)
      refine rA ?_ (x := sA)
      refine Exists.intro (k + 1) (And.intro (by omega) (And.intro (by omega) (And.intro (And.intro (by exact ⟨rfl, rfl, rfl, rfl, rfl, rfl, rfl, ⟨⟩⟩) (by exact ⟨rfl, rfl, ⟨⟩⟩)) (And.intro (by exact And.intro (by exact rfl) (True.intro)) (by exact And.intro (by simp only [List.replicate_succ']; exact rfl) (True.intro))))))
     ·try simp only [q1, q2, q3, q4, q5, q6, q7, q8, q9] at hb8
      have hke : k = l.length := by omega
      subst hke
      refine sw_exit ?_
      refine sw_seq ?_
      refine sO [(1, _), (2, _), (3, _), (6, _), (7, _), (8, _), (9, _), (10, _)] [(3, (56, [PV.val _, PV.val _, PV.sl _ _, PV.sl _ _])), (6, (60, [PV.val _, PV.val _, PV.sl _ _, PV.sl _ _, PV.sl _ _, PV.sl _ _, PV.sl _ _, PV.sl _ _, PV.sl _ _, PV.sl _ _, PV.sl _ _])), (8, (60, [PV.val _, PV.val _, PV.sl _ _, PV.sl _ _, PV.sl _ _, PV.sl _ _, PV.sl _ _, PV.sl _ _, PV.sl _ _, PV.sl _ _, PV.sl _ _]))] ?_
      refine sw_reg ?_
      refine rA ?_ (x := loc_ltake (ms := [PV.val _, PV.val _, PV.sl _ _, PV.sl _ _, PV.sl _ _, PV.sl _ _, PV.sl _ _, PV.sl _ _, PV.sl _ _, PV.sl _ _, PV.sl _ _]) (qs := [PV.val _, PV.val _, PV.sl .v _, PV.sl .v _, PV.sl .v _, PV.sl .v _, PV.sl .v _, PV.sl .v _, PV.sl .v _, PV.sl .v _, PV.sl .v _]) (by decide) FCluI_ty_60 (fun h => nomatch h) (by exact Nat.le_of_ble_eq_true rfl) (by exact rfl) (by exact (ToL.cons (PV.To.refl _) (ToL.cons (PV.To.refl _) (ToL.cons PV.to_none (ToL.cons PV.to_none (ToL.cons PV.to_none (ToL.cons PV.to_none (ToL.cons PV.to_none (ToL.cons PV.to_none (ToL.cons PV.to_none (ToL.cons PV.to_none (ToL.cons PV.to_none ToL.nil)))))))))))) (by exact (BorL.cons (PV.bor_val _) (BorL.cons (PV.bor_val _) (BorL.cons (PV.bor_sl _) (BorL.cons (PV.bor_sl _) (BorL.cons (PV.bor_sl _) (BorL.cons (PV.bor_sl _) (BorL.cons (PV.bor_sl _) (BorL.cons (PV.bor_sl _) (BorL.cons (PV.bor_sl _) (BorL.cons (PV.bor_sl _) (BorL.cons (PV.bor_sl _) BorL.nil)))))))))))))
      refine rA ?_ (x := loc_store (ag := true) (vs := [PV.val _, PV.val _, PV.sl _ _, PV.sl _ _, PV.sl _ _, PV.sl _ _, PV.sl _ _, PV.sl _ _, PV.sl _ _, PV.sl _ _, PV.sl _ _]) FCluI_ty_60 (by exact ⟨⟩) (by exact rfl) (by exact Nat.le_of_ble_eq_true rfl))
      refine rA ?_ (x := kA)
      refine sw_ret ?_
      exact (Exists.intro 6 (Exists.intro _ (And.intro (by exact rfl) (And.intro (by refine box_eq ?_; rw [hr]; try first | rfl | (simp only [newCl, List.map_replicate]; rfl)) (And.intro FCluI_ty_60 (And.intro (fun h => nomatch h) (And.intro (by refine bool_eq ?_; rw [hr]; try first | rfl | (simp only [newCl, List.map_replicate]; rfl)) True.intro)))))))
end Go.Proofs.Ytloipjaiceifbaa
