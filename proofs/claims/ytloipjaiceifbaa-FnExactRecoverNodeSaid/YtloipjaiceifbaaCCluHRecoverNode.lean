/- What functions of the program compute. No condition. -/
import Derived.Test.YtloipjaiceifbaaCCluFRecoverNode
import Derived.Test.YtloipjaiceifbaaCCluGRecoverNode
import Derived.Test.YtloipjaiceifbaaCDo
import Derived.KernelRfl
set_option linter.unusedVariables false
set_option linter.unusedSimpArgs false
namespace Go.Proofs.Ytloipjaiceifbaa
open Go Go.RowKit M
set_option maxRecDepth 10000
theorem FCluH_c_100 : callI Try.prog 100 = true := by kernel_rfl
theorem FCluH_c_101 : callI Try.prog 101 = true := by kernel_rfl
theorem FCluH_c_68 : callI Try.prog 68 = true := by kernel_rfl
theorem FCluH_c_72 : callI Try.prog 72 = true := by kernel_rfl
theorem FCluH_c_97 : callI Try.prog 97 = true := by kernel_rfl
theorem FCluH_c_98 : callI Try.prog 98 = true := by kernel_rfl
theorem FCluH_fd_60_2 : fieldI Try.prog 60 2 = some 5 := by kernel_rfl
theorem FCluH_sl_58 : sliceI Try.prog 58 = some (4, 1, 1) := by kernel_rfl
theorem FCluH_ty_4 : tyI Try.prog 4 = some (false, 1) := by kernel_rfl
theorem FCluH_ty_58 : tyI Try.prog 58 = some (false, 1) := by kernel_rfl
theorem FCluH_ty_60 : tyI Try.prog 60 = some (true, 11) := by kernel_rfl
theorem FCluH_z_60 : zeroI Try.prog 60 = some (.agg #[.int .i64 0, .int .i64 0, .slice none 0 0, .slice none 0 0, .slice none 0 0, .slice none 0 0, .slice none 0 0, .slice none 0 0, .slice none 0 0, .slice none 0 0, .slice none 0 0]) := by kernel_rfl
theorem FCluH_zo_60 {Fz : FzT} {w : World} : OwnL [PV.val (.int .i64 0), PV.val (.int .i64 0), PV.sl (.own 130 3) [], PV.sl (.own 3 1) [], PV.sl (.own 32 1) [], PV.sl (.own 4 1) [], PV.sl (.own 3 1) [], PV.sl (.own 3 1) [], PV.sl (.own 32 1) [], PV.sl (.own 3 1) [], PV.sl (.own 32 1) []] Fz w (Value.cells (.agg #[.int .i64 0, .int .i64 0, .slice none 0 0, .slice none 0 0, .slice none 0 0, .slice none 0 0, .slice none 0 0, .slice none 0 0, .slice none 0 0, .slice none 0 0, .slice none 0 0])).toList [] := zo_val rfl (zo_val rfl (zo_sl (zo_sl (zo_sl (zo_sl (zo_sl (zo_sl (zo_sl (zo_sl (zo_sl (zo_nil)))))))))))
theorem impl_RecoverNode {p3 p4 p9 p10 p13 p14 : Fl} {c : Cluster} {n : Int}  (hb : wtCluster c ≤ 68719476736) : SCall Try.prog 48 [(true, [PV.val (vI c.Query.Id), PV.val (vI c.Query.Tenant), PV.sl .v (c.Query.Conds.map cCond), PV.sl .v (c.Query.Out.map cInt), PV.sl .v (c.Parts.map (cRowS p3 p4)), PV.sl .v (c.Up.map cBool), PV.sl .v (c.At.map cInt), PV.sl .v (c.Pos.map cInt), PV.sl .v (c.Buffer.map (cRowS p9 p10)), PV.sl .v (c.Done.map cInt), PV.sl .v (c.Rows.map (cRowS p13 p14))]), (false, [PV.val (vI n)])] (resRV [(true, [PV.val (vI (recNode c n).1.Query.Id), PV.val (vI (recNode c n).1.Query.Tenant), PV.sl (.own 130 3) ((recNode c n).1.Query.Conds.map cCond), PV.sl (.own 3 1) ((recNode c n).1.Query.Out.map cInt), PV.sl (.own 32 1) ((recNode c n).1.Parts.map (cRowS (.own 87 2) (.own 3 1))), PV.sl (.own 4 1) ((recNode c n).1.Up.map cBool), PV.sl (.own 3 1) ((recNode c n).1.At.map cInt), PV.sl (.own 3 1) ((recNode c n).1.Pos.map cInt), PV.sl (.own 32 1) ((recNode c n).1.Buffer.map (cRowS (.own 87 2) (.own 3 1))), PV.sl (.own 3 1) ((recNode c n).1.Done.map cInt), PV.sl (.own 32 1) ((recNode c n).1.Rows.map (cRowS (.own 87 2) (.own 3 1)))]), (false, [PV.val (.bool (recNode c n).2)])]) := by
 refine scall_lo (largs := fun L => [(true, [PV.val (vI c.Query.Id), PV.val (vI c.Query.Tenant), PV.sl (.lo L) (c.Query.Conds.map cCond), PV.sl (.lo L) (c.Query.Out.map cInt), PV.sl (.lo L) (c.Parts.map (cRowS (.lo L) (.lo L))), PV.sl (.lo L) (c.Up.map cBool), PV.sl (.lo L) (c.At.map cInt), PV.sl (.lo L) (c.Pos.map cInt), PV.sl (.lo L) (c.Buffer.map (cRowS (.lo L) (.lo L))), PV.sl (.lo L) (c.Done.map cInt), PV.sl (.lo L) (c.Rows.map (cRowS (.lo L) (.lo L)))]), (false, [PV.val (vI n)])]) (rs := [(true, [PV.val (vI (recNode c n).1.Query.Id), PV.val (vI (recNode c n).1.Query.Tenant), PV.sl (.own 130 3) ((recNode c n).1.Query.Conds.map cCond), PV.sl (.own 3 1) ((recNode c n).1.Query.Out.map cInt), PV.sl (.own 32 1) ((recNode c n).1.Parts.map (cRowS (.own 87 2) (.own 3 1))), PV.sl (.own 4 1) ((recNode c n).1.Up.map cBool), PV.sl (.own 3 1) ((recNode c n).1.At.map cInt), PV.sl (.own 3 1) ((recNode c n).1.Pos.map cInt), PV.sl (.own 32 1) ((recNode c n).1.Buffer.map (cRowS (.own 87 2) (.own 3 1))), PV.sl (.own 3 1) ((recNode c n).1.Done.map cInt), PV.sl (.own 32 1) ((recNode c n).1.Rows.map (cRowS (.own 87 2) (.own 3 1)))]), (false, [PV.val (.bool (recNode c n).2)])]) Try.func48 rfl (Nat.le_of_ble_eq_true rfl) (fun L => by exact (And.intro (And.intro rfl (ToBL.cons PV.tob_refl (ToBL.cons PV.tob_refl (ToBL.cons (PV.tob_map (fun _ => Nat.le_of_ble_eq_true rfl) (fun _ => (ToBL.cons PV.tob_refl (ToBL.cons PV.tob_refl (ToBL.cons PV.tob_refl ToBL.nil))))) (ToBL.cons (PV.tob_map (fun _ => Nat.le_of_ble_eq_true rfl) (fun _ => (ToBL.cons PV.tob_refl ToBL.nil))) (ToBL.cons (PV.tob_map (fun _ => Nat.le_of_ble_eq_true rfl) (fun _ => (ToBL.cons (PV.tob_map (fun _ => Nat.le_of_ble_eq_true rfl) (fun _ => (ToBL.cons PV.tob_refl (ToBL.cons (PV.tob_map (fun _ => Nat.le_of_ble_eq_true rfl) (fun _ => (ToBL.cons PV.tob_refl ToBL.nil))) ToBL.nil)))) ToBL.nil))) (ToBL.cons (PV.tob_map (fun _ => Nat.le_of_ble_eq_true rfl) (fun _ => (ToBL.cons PV.tob_refl ToBL.nil))) (ToBL.cons (PV.tob_map (fun _ => Nat.le_of_ble_eq_true rfl) (fun _ => (ToBL.cons PV.tob_refl ToBL.nil))) (ToBL.cons (PV.tob_map (fun _ => Nat.le_of_ble_eq_true rfl) (fun _ => (ToBL.cons PV.tob_refl ToBL.nil))) (ToBL.cons (PV.tob_map (fun _ => Nat.le_of_ble_eq_true rfl) (fun _ => (ToBL.cons (PV.tob_map (fun _ => Nat.le_of_ble_eq_true rfl) (fun _ => (ToBL.cons PV.tob_refl (ToBL.cons (PV.tob_map (fun _ => Nat.le_of_ble_eq_true rfl) (fun _ => (ToBL.cons PV.tob_refl ToBL.nil))) ToBL.nil)))) ToBL.nil))) (ToBL.cons (PV.tob_map (fun _ => Nat.le_of_ble_eq_true rfl) (fun _ => (ToBL.cons PV.tob_refl ToBL.nil))) (ToBL.cons (PV.tob_map (fun _ => Nat.le_of_ble_eq_true rfl) (fun _ => (ToBL.cons (PV.tob_map (fun _ => Nat.le_of_ble_eq_true rfl) (fun _ => (ToBL.cons PV.tob_refl (ToBL.cons (PV.tob_map (fun _ => Nat.le_of_ble_eq_true rfl) (fun _ => (ToBL.cons PV.tob_refl ToBL.nil))) ToBL.nil)))) ToBL.nil))) ToBL.nil)))))))))))) (And.intro (And.intro rfl (ToBL.cons PV.tob_refl ToBL.nil)) True.intro))) (fun L => by exact (borA_cons (BorL.cons (PV.bor_val _) (BorL.cons (PV.bor_val _) (BorL.cons (PV.bor_lo _ _) (BorL.cons (PV.bor_lo _ _) (BorL.cons (PV.bor_lo _ _) (BorL.cons (PV.bor_lo _ _) (BorL.cons (PV.bor_lo _ _) (BorL.cons (PV.bor_lo _ _) (BorL.cons (PV.bor_lo _ _) (BorL.cons (PV.bor_lo _ _) (BorL.cons (PV.bor_lo _ _) BorL.nil))))))))))) (borA_cons (BorL.cons (PV.bor_val _) BorL.nil) borA_nil))) ?_
 intro w0 Fz0
 refine sw_slen (s := 0) (j := 2) rfl rfl fun hl0_2 => ?_
 try rw [List.length_map] at hl0_2
 refine sw_slen (s := 0) (j := 3) rfl rfl fun hl0_3 => ?_
 try rw [List.length_map] at hl0_3
 refine sw_slen (s := 0) (j := 4) rfl rfl fun hl0_4 => ?_
 try rw [List.length_map] at hl0_4
 refine sw_slen (s := 0) (j := 5) rfl rfl fun hl0_5 => ?_
 try rw [List.length_map] at hl0_5
 refine sw_slen (s := 0) (j := 6) rfl rfl fun hl0_6 => ?_
 try rw [List.length_map] at hl0_6
 refine sw_slen (s := 0) (j := 7) rfl rfl fun hl0_7 => ?_
 try rw [List.length_map] at hl0_7
 refine sw_slen (s := 0) (j := 8) rfl rfl fun hl0_8 => ?_
 try rw [List.length_map] at hl0_8
 refine sw_slen (s := 0) (j := 9) rfl rfl fun hl0_9 => ?_
 try rw [List.length_map] at hl0_9
 refine sw_slen (s := 0) (j := 10) rfl rfl fun hl0_10 => ?_
 try rw [List.length_map] at hl0_10
 have hbu := hb
 simp only [wtCluster, wtInt] at hbu
 refine sw_seq ?_
 refine sw_reg ?_
 refine RunS.step (by exact ⟨rfl, ⟨⟩⟩) (by exact ⟨⟩) (LocG.of rfl (loc_box (ag := true) (cs := [PV.val _, PV.val _, PV.sl (.lo _) _, PV.sl (.lo _) _, PV.sl (.lo _) _, PV.sl (.lo _) _, PV.sl (.lo _) _, PV.sl (.lo _) _, PV.sl (.lo _) _, PV.sl (.lo _) _, PV.sl (.lo _) _]) (by decide) (by exact ⟨⟩))) (free1 (Free.of_ rfl)) ?_
 refine RunS.step (by exact ⟨⟩) (by exact ⟨⟩) (LocG.of rfl (loc_alloc (by decide) FCluH_z_60 FCluH_zo_60)) (free1 (Free.app (Free.of_ rfl) rfl)) ?_
 refine rA ?_ (x := kA)
 refine sw_seq ?_
 refine sO [(1, _), (2, _), (4, _), (5, _)] [(2, (60, [PV.val _, PV.val _, PV.sl (.lo _) _, PV.sl (.lo _) _, PV.sl (.lo _) _, PV.sl (.lo _) _, PV.sl (.lo _) _, PV.sl (.lo _) _, PV.sl (.lo _) _, PV.sl (.lo _) _, PV.sl (.lo _) _])), (4, (60, [PV.val _, PV.val _, PV.sl _ _, PV.sl _ _, PV.sl _ _, PV.sl _ _, PV.sl _ _, PV.sl _ _, PV.sl _ _, PV.sl _ _, PV.sl _ _]))] ?_
 refine sw_reg ?_
 refine rA ?_ (x := lD [PV.val _, PV.val _, PV.sl (.lo _) _, PV.sl (.lo _) _, PV.sl (.lo _) _, PV.sl (.lo _) _, PV.sl (.lo _) _, PV.sl (.lo _) _, PV.sl (.lo _) _, PV.sl (.lo _) _, PV.sl (.lo _) _] FCluH_ty_60)
 refine rA ?_ (x := cL [(true, [PV.val _, PV.val _, PV.sl (.lo _) _, PV.sl (.lo _) _, PV.sl (.lo _) _, PV.sl (.lo _) _, PV.sl (.lo _) _, PV.sl (.lo _) _, PV.sl (.lo _) _, PV.sl (.lo _) _, PV.sl (.lo _) _])] [(true, [PV.val _, PV.val _, PV.sl .v _, PV.sl .v _, PV.sl .v _, PV.sl .v _, PV.sl .v _, PV.sl .v _, PV.sl .v _, PV.sl .v _, PV.sl .v _])] FCluH_c_100 (hs := by exact impl_copyCluster (by omega)))
 refine RunS.step (by exact ⟨⟩) (by exact ⟨⟩) (LocG.of rfl (loc_alloc (by decide) FCluH_z_60 FCluH_zo_60)) (free1 (Free.app (Free.app (Free.of_ rfl) rfl) rfl)) ?_
 refine rA ?_ (x := loc_store (ag := true) (vs := [PV.val _, PV.val _, PV.sl _ _, PV.sl _ _, PV.sl _ _, PV.sl _ _, PV.sl _ _, PV.sl _ _, PV.sl _ _, PV.sl _ _, PV.sl _ _]) FCluH_ty_60 (by exact ⟨⟩) (by exact rfl) (by exact Nat.le_of_ble_eq_true rfl))
 refine sw_seq ?_
 refine sw_seq ?_
 refine sO [(1, _), (2, _), (4, _), (5, _), (6, _)] [(2, _), (4, _), (6, (60, [PV.val _, PV.val _, PV.sl _ _, PV.sl _ _, PV.sl _ _, PV.sl _ _, PV.sl _ _, PV.sl _ _, PV.sl _ _, PV.sl _ _, PV.sl _ _]))] ?_
 refine sw_reg ?_
 refine rA ?_ (x := lD [PV.val _, PV.val _, PV.sl (.lo _) _, PV.sl (.lo _) _, PV.sl (.lo _) _, PV.sl (.lo _) _, PV.sl (.lo _) _, PV.sl (.lo _) _, PV.sl (.lo _) _, PV.sl (.lo _) _, PV.sl (.lo _) _] FCluH_ty_60)
 refine rA ?_ (x := cL [(true, [PV.val _, PV.val _, PV.sl (.lo _) _, PV.sl (.lo _) _, PV.sl (.lo _) _, PV.sl (.lo _) _, PV.sl (.lo _) _, PV.sl (.lo _) _, PV.sl (.lo _) _, PV.sl (.lo _) _, PV.sl (.lo _) _])] [(true, [PV.val _, PV.val _, PV.sl .v _, PV.sl .v _, PV.sl .v _, PV.sl .v _, PV.sl .v _, PV.sl .v _, PV.sl .v _, PV.sl .v _, PV.sl .v _])] FCluH_c_101 (hs := by exact impl_IsCluster (by omega)))
 refine rA ?_ (x := nT)
 refine rA ?_ (x := sM)
 refine RunS.cases (s := 12) rfl (fun g1 => ?_) (fun g1 => ?_)
 ·have sg1 := g1
  try simp only [q1, q2, q3, q4, q5, q6, q7, q8, q9] at sg1
  refine RunS.s0t g1 ?_
  refine RunS.s0t g1 ?_
  refine RunS.s0t g1 ?_
  refine RunS.s0t g1 ?_
  refine RunS.s0t g1 ?_
  refine RunS.s0t g1 ?_
  refine RunS.s0t g1 ?_
  refine rA ?_ (x := pkT g1)
  refine rA ?_ (x := sM)
  refine RunS.cases (s := 21) rfl (fun g2 => ?_) (fun g2 => nomatch g2)
  refine RunS.s0t g2 ?_
  refine RunS.s0t g2 ?_
  refine RunS.s0t g2 ?_
  refine RunS.s0t g2 ?_
  refine RunS.s0t g2 ?_
  refine rA ?_ (x := pkT g2)
  refine sw_cond (t := 27) rfl (fun hb_ => ?_) (fun hb_ => nomatch hb_)
  have hr := rec_no (c := c) (n := n) (by simp_all)
  refine sw_seq ?_
  refine sO [(1, _), (2, _), (4, _), (5, _), (6, _)] [(2, _), (4, _), (6, _)] ?_
  refine sw_reg ?_
  refine rA ?_ (x := loc_ltake (ms := [PV.val _, PV.val _, PV.sl _ _, PV.sl _ _, PV.sl _ _, PV.sl _ _, PV.sl _ _, PV.sl _ _, PV.sl _ _, PV.sl _ _, PV.sl _ _]) (qs := [PV.val _, PV.val _, PV.sl .v _, PV.sl .v _, PV.sl .v _, PV.sl .v _, PV.sl .v _, PV.sl .v _, PV.sl .v _, PV.sl .v _, PV.sl .v _]) (by decide) FCluH_ty_60 (fun h => nomatch h) (by exact Nat.le_of_ble_eq_true rfl) (by exact rfl) (by exact (ToL.cons (PV.To.refl _) (ToL.cons (PV.To.refl _) (ToL.cons PV.to_none (ToL.cons PV.to_none (ToL.cons PV.to_none (ToL.cons PV.to_none (ToL.cons PV.to_none (ToL.cons PV.to_none (ToL.cons PV.to_none (ToL.cons PV.to_none (ToL.cons PV.to_none ToL.nil)))))))))))) (by exact (BorL.cons (PV.bor_val _) (BorL.cons (PV.bor_val _) (BorL.cons (PV.bor_sl _) (BorL.cons (PV.bor_sl _) (BorL.cons (PV.bor_sl _) (BorL.cons (PV.bor_sl _) (BorL.cons (PV.bor_sl _) (BorL.cons (PV.bor_sl _) (BorL.cons (PV.bor_sl _) (BorL.cons (PV.bor_sl _) (BorL.cons (PV.bor_sl _) BorL.nil)))))))))))))
  refine rA ?_ (x := loc_store (ag := true) (vs := [PV.val _, PV.val _, PV.sl _ _, PV.sl _ _, PV.sl _ _, PV.sl _ _, PV.sl _ _, PV.sl _ _, PV.sl _ _, PV.sl _ _, PV.sl _ _]) FCluH_ty_60 (by exact ⟨⟩) (by exact rfl) (by exact Nat.le_of_ble_eq_true rfl))
  refine rA ?_ (x := kA)
  refine sw_ret ?_
  exact (Exists.intro 4 (Exists.intro _ (And.intro (by exact rfl) (And.intro (by refine box_eq ?_; rw [hr]; try rfl) (And.intro FCluH_ty_60 (And.intro (fun h => nomatch h) (And.intro (by refine bool_eq ?_; rw [hr]; try rfl) True.intro)))))))
 ·have sg1 := g1
  try simp only [q1, q2, q3, q4, q5, q6, q7, q8, q9] at sg1
  refine rB g1 ?_ (x := sM)
  refine rB g1 ?_ (x := lF FCluH_fd_60_2)
  refine rB g1 ?_ (x := lD [PV.sl (.lo _) _] FCluH_ty_58)
  refine rB g1 ?_ (x := lN FCluH_sl_58)
  refine rB g1 ?_ (x := B_sub)
  refine rB g1 ?_ (x := cL [(false, [PV.val _]), (false, [PV.val _]), (false, [PV.val _])] [(false, [PV.val _]), (false, [PV.val _]), (false, [PV.val _])] FCluH_c_68 (hs := by exact impl_within))
  refine rB g1 ?_ (x := nT)
  refine rA ?_ (x := pkF g1)
  refine rA ?_ (x := sM)
  refine RunS.cases (s := 21) rfl (fun g4 => ?_) (fun g4 => ?_)
  ·have sg4 := g4
   try simp only [q1, q2, q3, q4, q5, q6, q7, q8, q9] at sg4
   refine RunS.s0t g4 ?_
   refine RunS.s0t g4 ?_
   refine RunS.s0t g4 ?_
   refine RunS.s0t g4 ?_
   refine RunS.s0t g4 ?_
   refine rA ?_ (x := pkT g4)
   refine sw_cond (t := 27) rfl (fun hb_ => ?_) (fun hb_ => nomatch hb_)
   have hr := rec_no (c := c) (n := n) (by simp_all)
   refine sw_seq ?_
   refine sO [(1, _), (2, _), (4, _), (5, _), (6, _)] [(2, _), (4, _), (6, _)] ?_
   refine sw_reg ?_
   refine rA ?_ (x := loc_ltake (ms := [PV.val _, PV.val _, PV.sl _ _, PV.sl _ _, PV.sl _ _, PV.sl _ _, PV.sl _ _, PV.sl _ _, PV.sl _ _, PV.sl _ _, PV.sl _ _]) (qs := [PV.val _, PV.val _, PV.sl .v _, PV.sl .v _, PV.sl .v _, PV.sl .v _, PV.sl .v _, PV.sl .v _, PV.sl .v _, PV.sl .v _, PV.sl .v _]) (by decide) FCluH_ty_60 (fun h => nomatch h) (by exact Nat.le_of_ble_eq_true rfl) (by exact rfl) (by exact (ToL.cons (PV.To.refl _) (ToL.cons (PV.To.refl _) (ToL.cons PV.to_none (ToL.cons PV.to_none (ToL.cons PV.to_none (ToL.cons PV.to_none (ToL.cons PV.to_none (ToL.cons PV.to_none (ToL.cons PV.to_none (ToL.cons PV.to_none (ToL.cons PV.to_none ToL.nil)))))))))))) (by exact (BorL.cons (PV.bor_val _) (BorL.cons (PV.bor_val _) (BorL.cons (PV.bor_sl _) (BorL.cons (PV.bor_sl _) (BorL.cons (PV.bor_sl _) (BorL.cons (PV.bor_sl _) (BorL.cons (PV.bor_sl _) (BorL.cons (PV.bor_sl _) (BorL.cons (PV.bor_sl _) (BorL.cons (PV.bor_sl _) (BorL.cons (PV.bor_sl _) BorL.nil)))))))))))))
   refine rA ?_ (x := loc_store (ag := true) (vs := [PV.val _, PV.val _, PV.sl _ _, PV.sl _ _, PV.sl _ _, PV.sl _ _, PV.sl _ _, PV.sl _ _, PV.sl _ _, PV.sl _ _, PV.sl _ _]) FCluH_ty_60 (by exact ⟨⟩) (by exact rfl) (by exact Nat.le_of_ble_eq_true rfl))
   refine rA ?_ (x := kA)
   refine sw_ret ?_
   exact (Exists.intro 4 (Exists.intro _ (And.intro (by exact rfl) (And.intro (by refine box_eq ?_; rw [hr]; try rfl) (And.intro FCluH_ty_60 (And.intro (fun h => nomatch h) (And.intro (by refine bool_eq ?_; rw [hr]; try rfl) True.intro)))))))
  ·have sg4 := g4
   try simp only [q1, q2, q3, q4, q5, q6, q7, q8, q9] at sg4
   refine rB g4 ?_ (x := lF FCluH_fd_60_2)
   refine rB g4 ?_ (x := lD [PV.sl (.lo _) _] FCluH_ty_58)
   refine rB g4 ?_ (x := sM)
   refine rB g4 ?_ (x := loc_index (k := (n).toNat) (by decide) FCluH_sl_58 (by exact ⟨⟩) (by have hq := inB_iff.1 ‹inB n 0 ((c.Up.length : Int) - 1) = true›; have hl := clLen ‹isCl c = true›; omega) (by exact getm2 (by have hq := inB_iff.1 ‹inB n 0 ((c.Up.length : Int) - 1) = true›; have hl := clLen ‹isCl c = true›; omega) (by rw [upAt_eq (by have hq := inB_iff.1 ‹inB n 0 ((c.Up.length : Int) - 1) = true›; have hl := clLen ‹isCl c = true›; omega)])) (by exact rfl))
   refine rB g4 ?_ (x := lE [PV.val _] FCluH_ty_4)
   refine rA ?_ (x := pkF g4)
   refine sw_cond (t := 27) rfl (fun hb6 => ?_) (fun hb6 => ?_)
   ·try simp only [q1, q2, q3, q4, q5, q6, q7, q8, q9] at hb6
    have hr := rec_no (c := c) (n := n) (by simp_all)
    refine sw_seq ?_
    refine sO [(1, _), (2, _), (4, _), (5, _), (6, _)] [(2, _), (4, _), (6, _)] ?_
    refine sw_reg ?_
    refine rA ?_ (x := loc_ltake (ms := [PV.val _, PV.val _, PV.sl _ _, PV.sl _ _, PV.sl _ _, PV.sl _ _, PV.sl _ _, PV.sl _ _, PV.sl _ _, PV.sl _ _, PV.sl _ _]) (qs := [PV.val _, PV.val _, PV.sl .v _, PV.sl .v _, PV.sl .v _, PV.sl .v _, PV.sl .v _, PV.sl .v _, PV.sl .v _, PV.sl .v _, PV.sl .v _]) (by decide) FCluH_ty_60 (fun h => nomatch h) (by exact Nat.le_of_ble_eq_true rfl) (by exact rfl) (by exact (ToL.cons (PV.To.refl _) (ToL.cons (PV.To.refl _) (ToL.cons PV.to_none (ToL.cons PV.to_none (ToL.cons PV.to_none (ToL.cons PV.to_none (ToL.cons PV.to_none (ToL.cons PV.to_none (ToL.cons PV.to_none (ToL.cons PV.to_none (ToL.cons PV.to_none ToL.nil)))))))))))) (by exact (BorL.cons (PV.bor_val _) (BorL.cons (PV.bor_val _) (BorL.cons (PV.bor_sl _) (BorL.cons (PV.bor_sl _) (BorL.cons (PV.bor_sl _) (BorL.cons (PV.bor_sl _) (BorL.cons (PV.bor_sl _) (BorL.cons (PV.bor_sl _) (BorL.cons (PV.bor_sl _) (BorL.cons (PV.bor_sl _) (BorL.cons (PV.bor_sl _) BorL.nil)))))))))))))
    refine rA ?_ (x := loc_store (ag := true) (vs := [PV.val _, PV.val _, PV.sl _ _, PV.sl _ _, PV.sl _ _, PV.sl _ _, PV.sl _ _, PV.sl _ _, PV.sl _ _, PV.sl _ _, PV.sl _ _]) FCluH_ty_60 (by exact ⟨⟩) (by exact rfl) (by exact Nat.le_of_ble_eq_true rfl))
    refine rA ?_ (x := kA)
    refine sw_ret ?_
    exact (Exists.intro 4 (Exists.intro _ (And.intro (by exact rfl) (And.intro (by refine box_eq ?_; rw [hr]; try rfl) (And.intro FCluH_ty_60 (And.intro (fun h => nomatch h) (And.intro (by refine bool_eq ?_; rw [hr]; try rfl) True.intro)))))))
   ·try simp only [q1, q2, q3, q4, q5, q6, q7, q8, q9] at hb6
    have h3 : isCl c = true ∧ inB n 0 ((c.Up.length : Int) - 1) = true ∧ upAt c n = false := by simp_all
    have hr := rec_yes h3.1 h3.2.1 h3.2.2
    have hn := up_at h3.1 h3.2.1
    refine sw_skip ?_
    refine sw_seq ?_
    refine sO [(1, _), (2, _), (4, _), (5, _), (6, _)] [(2, _), (4, _), (6, _)] ?_
    refine sw_thawB (d := 6) (t := 60) (D := 900) (G := 2900) (E := 4) (e := 1) (L := w0.heap.size) (A := [PV.val _, PV.val _, PV.sl _ _, PV.sl _ _, PV.sl _ _]) (B := [PV.sl _ _, PV.sl _ _, PV.sl _ _, PV.sl _ _, PV.sl _ _]) (es := (c.Up).map cBool) (by exact rfl) (map_ne hn.2.1) (by exact rfl) (by exact rfl) rfl (by exact rfl) (fun x hx => hx) (by exact (And.intro (RV.lcl_sv (LclC.cons PV.lcl_val LclC.nil)) (And.intro RV.lcl_ptr (And.intro RV.lcl_ptr (And.intro (RV.lcl_sv (LclC.cons PV.lcl_val LclC.nil)) (And.intro RV.lcl_ptr True.intro)))))) (by exact (And.intro (.inr (LclC.cons PV.lcl_val (LclC.cons PV.lcl_val (LclC.cons (PV.lcl_lo (LclRC.map fun x => (LclRC.cons PV.lclr_val (LclRC.cons PV.lclr_val (LclRC.cons PV.lclr_val LclRC.nil))))) (LclC.cons (PV.lcl_lo (LclRC.map fun x => (LclRC.cons PV.lclr_val LclRC.nil))) (LclC.cons (PV.lcl_lo (LclRC.map fun x => (LclRC.cons (PV.lclr_lo (LclRC.map fun x => (LclRC.cons PV.lclr_val (LclRC.cons (PV.lclr_lo (LclRC.map fun x => (LclRC.cons PV.lclr_val LclRC.nil))) LclRC.nil)))) LclRC.nil))) (LclC.cons (PV.lcl_lo (LclRC.map fun x => (LclRC.cons PV.lclr_val LclRC.nil))) (LclC.cons (PV.lcl_lo (LclRC.map fun x => (LclRC.cons PV.lclr_val LclRC.nil))) (LclC.cons (PV.lcl_lo (LclRC.map fun x => (LclRC.cons PV.lclr_val LclRC.nil))) (LclC.cons (PV.lcl_lo (LclRC.map fun x => (LclRC.cons (PV.lclr_lo (LclRC.map fun x => (LclRC.cons PV.lclr_val (LclRC.cons (PV.lclr_lo (LclRC.map fun x => (LclRC.cons PV.lclr_val LclRC.nil))) LclRC.nil)))) LclRC.nil))) (LclC.cons (PV.lcl_lo (LclRC.map fun x => (LclRC.cons PV.lclr_val LclRC.nil))) (LclC.cons (PV.lcl_lo (LclRC.map fun x => (LclRC.cons (PV.lclr_lo (LclRC.map fun x => (LclRC.cons PV.lclr_val (LclRC.cons (PV.lclr_lo (LclRC.map fun x => (LclRC.cons PV.lclr_val LclRC.nil))) LclRC.nil)))) LclRC.nil))) LclC.nil)))))))))))) (And.intro (.inr (LclC.cons PV.lcl_val (LclC.cons PV.lcl_val (LclC.cons (PV.lcl_own (by first | exact (LclC.map fun x => (LclC.cons PV.lcl_val (LclC.cons PV.lcl_val (LclC.cons PV.lcl_val LclC.nil)))) | exact (fun cs h => nomatch h))) (LclC.cons (PV.lcl_own (by first | exact (LclC.map fun x => (LclC.cons PV.lcl_val LclC.nil)) | exact (fun cs h => nomatch h))) (LclC.cons (PV.lcl_own (by first | exact (LclC.map fun x => (LclC.cons (PV.lcl_own (LclC.map fun x => (LclC.cons PV.lcl_val (LclC.cons (PV.lcl_own (LclC.map fun x => (LclC.cons PV.lcl_val LclC.nil))) LclC.nil)))) LclC.nil)) | exact (fun cs h => nomatch h))) (LclC.cons (PV.lcl_own (by first | exact (LclC.map fun x => (LclC.cons PV.lcl_val LclC.nil)) | exact (fun cs h => nomatch h))) (LclC.cons (PV.lcl_own (by first | exact (LclC.map fun x => (LclC.cons PV.lcl_val LclC.nil)) | exact (fun cs h => nomatch h))) (LclC.cons (PV.lcl_own (by first | exact (LclC.map fun x => (LclC.cons PV.lcl_val LclC.nil)) | exact (fun cs h => nomatch h))) (LclC.cons (PV.lcl_own (by first | exact (LclC.map fun x => (LclC.cons (PV.lcl_own (LclC.map fun x => (LclC.cons PV.lcl_val (LclC.cons (PV.lcl_own (LclC.map fun x => (LclC.cons PV.lcl_val LclC.nil))) LclC.nil)))) LclC.nil)) | exact (fun cs h => nomatch h))) (LclC.cons (PV.lcl_own (by first | exact (LclC.map fun x => (LclC.cons PV.lcl_val LclC.nil)) | exact (fun cs h => nomatch h))) (LclC.cons (PV.lcl_own (by first | exact (LclC.map fun x => (LclC.cons (PV.lcl_own (LclC.map fun x => (LclC.cons PV.lcl_val (LclC.cons (PV.lcl_own (LclC.map fun x => (LclC.cons PV.lcl_val LclC.nil))) LclC.nil)))) LclC.nil)) | exact (fun cs h => nomatch h))) LclC.nil)))))))))))) (And.intro (.inl rfl) True.intro)))) (by exact (LclC.cons PV.lcl_val (LclC.cons PV.lcl_val (LclC.cons (PV.lcl_own (by first | exact (LclC.map fun x => (LclC.cons PV.lcl_val (LclC.cons PV.lcl_val (LclC.cons PV.lcl_val LclC.nil)))) | exact (fun cs h => nomatch h))) (LclC.cons (PV.lcl_own (by first | exact (LclC.map fun x => (LclC.cons PV.lcl_val LclC.nil)) | exact (fun cs h => nomatch h))) (LclC.cons (PV.lcl_own (by first | exact (LclC.map fun x => (LclC.cons (PV.lcl_own (LclC.map fun x => (LclC.cons PV.lcl_val (LclC.cons (PV.lcl_own (LclC.map fun x => (LclC.cons PV.lcl_val LclC.nil))) LclC.nil)))) LclC.nil)) | exact (fun cs h => nomatch h))) LclC.nil)))))) (by exact (LclC.cons (PV.lcl_own (by first | exact (LclC.map fun x => (LclC.cons PV.lcl_val LclC.nil)) | exact (fun cs h => nomatch h))) (LclC.cons (PV.lcl_own (by first | exact (LclC.map fun x => (LclC.cons PV.lcl_val LclC.nil)) | exact (fun cs h => nomatch h))) (LclC.cons (PV.lcl_own (by first | exact (LclC.map fun x => (LclC.cons (PV.lcl_own (LclC.map fun x => (LclC.cons PV.lcl_val (LclC.cons (PV.lcl_own (LclC.map fun x => (LclC.cons PV.lcl_val LclC.nil))) LclC.nil)))) LclC.nil)) | exact (fun cs h => nomatch h))) (LclC.cons (PV.lcl_own (by first | exact (LclC.map fun x => (LclC.cons PV.lcl_val LclC.nil)) | exact (fun cs h => nomatch h))) (LclC.cons (PV.lcl_own (by first | exact (LclC.map fun x => (LclC.cons (PV.lcl_own (LclC.map fun x => (LclC.cons PV.lcl_val (LclC.cons (PV.lcl_own (LclC.map fun x => (LclC.cons PV.lcl_val LclC.nil))) LclC.nil)))) LclC.nil)) | exact (fun cs h => nomatch h))) LclC.nil)))))) (LclC.map fun x => (LclC.cons PV.lcl_val LclC.nil)) fun uu900 cp900 jk900 hlD900 hcp900 hjk900 => ?_
    rw [List.length_map] at hlD900 hcp900 hjk900
    refine sw_boxEq (d := 900) (by exact rfl) (at_split (k := n.toNat) hn.2.1) ?_
    have hA900 := at_len (f := cBool) (e := 1) (xs := c.Up) (k := n.toNat) (fun _ => rfl) (Nat.le_of_lt hn.2.1)
    refine sO [(1, _), (2, _), (4, _), (5, _), (6, _), (2900, _)] [(2, _), (4, _), (6, (60, [PV.val _, PV.val _, PV.sl _ _, PV.sl _ _, PV.sl _ _, PV.val _, PV.sl _ _, PV.sl _ _, PV.sl _ _, PV.sl _ _, PV.sl _ _])), (900, (4, _ ++ ([PV.val _] ++ _)))] ?_
    refine sw_reg ?_
    refine rA ?_ (x := lF FCluH_fd_60_2)
    refine rA ?_ (x := lD [PV.val _] FCluH_ty_58)
    refine rA ?_ (x := sM)
    refine rA ?_ (x := loc_gidx (k := n.toNat) (G := 2900) (by decide) FCluH_sl_58 (by exact ⟨⟩) (by omega) (by first | (rw [List.length_map]; exact hn.2.1) | exact hn.2.1))
    refine rA ?_ (x := loc_storeM (o := 0) (ag := false) (vs := [PV.val _]) (by omega) FCluH_ty_4 (ok_sc rfl) (by exact rfl) (by exact Nat.le_of_ble_eq_true rfl))
    refine sw_boxEq (d := 900) (by exact rfl) (at_join true hn.2.1 (by exact rfl)) ?_
    refine sw_frzIn (d := 6) (D := 900) (G := 2900) (A := [PV.val _, PV.val _, PV.sl _ _, PV.sl _ _, PV.sl _ _]) (B := [PV.sl _ _, PV.sl _ _, PV.sl _ _, PV.sl _ _, PV.sl _ _]) (es := ((c.Up).set n.toNat true).map cBool) (by exact rfl) (by exact rfl) (by exact rfl) rfl (by rw [List.length_map, List.length_set, List.length_map]) (by intro c hc; obtain ⟨y, _, rfl⟩ := List.mem_map.1 hc; exact rfl) (by rw [List.length_map]; exact hjk900) ?_
    refine sw_seq ?_
    refine sO [(1, _), (2, _), (4, _), (5, _), (6, _)] [(2, _), (4, _), (6, (60, [PV.val _, PV.val _, PV.sl _ _, PV.sl _ _, PV.sl _ _, PV.sl _ _, PV.sl _ _, PV.sl _ _, PV.sl _ _, PV.sl _ _, PV.sl _ _]))] ?_
    refine sw_reg ?_
    refine rA ?_ (x := loc_ltake (ms := [PV.val _, PV.val _, PV.sl _ _, PV.sl _ _, PV.sl _ _, PV.sl _ _, PV.sl _ _, PV.sl _ _, PV.sl _ _, PV.sl _ _, PV.sl _ _]) (qs := [PV.val _, PV.val _, PV.sl .v _, PV.sl .v _, PV.sl .v _, PV.sl .v _, PV.sl .v _, PV.sl .v _, PV.sl .v _, PV.sl .v _, PV.sl .v _]) (by decide) FCluH_ty_60 (fun h => nomatch h) (by exact Nat.le_of_ble_eq_true rfl) (by exact rfl) (by exact (ToL.cons (PV.To.refl _) (ToL.cons (PV.To.refl _) (ToL.cons PV.to_none (ToL.cons PV.to_none (ToL.cons PV.to_none (ToL.cons PV.to_none (ToL.cons PV.to_none (ToL.cons PV.to_none (ToL.cons PV.to_none (ToL.cons PV.to_none (ToL.cons PV.to_none ToL.nil)))))))))))) (by exact (BorL.cons (PV.bor_val _) (BorL.cons (PV.bor_val _) (BorL.cons (PV.bor_sl _) (BorL.cons (PV.bor_sl _) (BorL.cons (PV.bor_sl _) (BorL.cons (PV.bor_sl _) (BorL.cons (PV.bor_sl _) (BorL.cons (PV.bor_sl _) (BorL.cons (PV.bor_sl _) (BorL.cons (PV.bor_sl _) (BorL.cons (PV.bor_sl _) BorL.nil)))))))))))))
    refine rA ?_ (x := loc_store (ag := true) (vs := [PV.val _, PV.val _, PV.sl _ _, PV.sl _ _, PV.sl _ _, PV.sl _ _, PV.sl _ _, PV.sl _ _, PV.sl _ _, PV.sl _ _, PV.sl _ _]) FCluH_ty_60 (by exact ⟨⟩) (by exact rfl) (by exact Nat.le_of_ble_eq_true rfl))
    refine rA ?_ (x := kA)
    refine sw_ret ?_
    exact (Exists.intro 4 (Exists.intro _ (And.intro (by exact rfl) (And.intro (by refine box_eq ?_; rw [hr]; try rfl) (And.intro FCluH_ty_60 (And.intro (fun h => nomatch h) (And.intro (by refine bool_eq ?_; rw [hr]; try rfl) True.intro)))))))
theorem spec_RecoverNode {p3 p4 p9 p10 p13 p14 : Fl} {c : Cluster} {n : Int}  (hb : wtCluster c ≤ 68719476736) : SCall Try.prog 46 [(true, [PV.val (vI c.Query.Id), PV.val (vI c.Query.Tenant), PV.sl .v (c.Query.Conds.map cCond), PV.sl .v (c.Query.Out.map cInt), PV.sl .v (c.Parts.map (cRowS p3 p4)), PV.sl .v (c.Up.map cBool), PV.sl .v (c.At.map cInt), PV.sl .v (c.Pos.map cInt), PV.sl .v (c.Buffer.map (cRowS p9 p10)), PV.sl .v (c.Done.map cInt), PV.sl .v (c.Rows.map (cRowS p13 p14))]), (false, [PV.val (vI n)])] (resRV [(true, [PV.val (vI (recNode c n).1.Query.Id), PV.val (vI (recNode c n).1.Query.Tenant), PV.sl (.own 130 3) ((recNode c n).1.Query.Conds.map cCond), PV.sl (.own 3 1) ((recNode c n).1.Query.Out.map cInt), PV.sl (.own 32 1) ((recNode c n).1.Parts.map (cRowS (.own 87 2) (.own 3 1))), PV.sl (.own 4 1) ((recNode c n).1.Up.map cBool), PV.sl (.own 3 1) ((recNode c n).1.At.map cInt), PV.sl (.own 3 1) ((recNode c n).1.Pos.map cInt), PV.sl (.own 32 1) ((recNode c n).1.Buffer.map (cRowS (.own 87 2) (.own 3 1))), PV.sl (.own 3 1) ((recNode c n).1.Done.map cInt), PV.sl (.own 32 1) ((recNode c n).1.Rows.map (cRowS (.own 87 2) (.own 3 1)))]), (false, [PV.val (.bool (recNode c n).2)])]) := by
 refine scall_lo (largs := fun L => [(true, [PV.val (vI c.Query.Id), PV.val (vI c.Query.Tenant), PV.sl (.lo L) (c.Query.Conds.map cCond), PV.sl (.lo L) (c.Query.Out.map cInt), PV.sl (.lo L) (c.Parts.map (cRowS (.lo L) (.lo L))), PV.sl (.lo L) (c.Up.map cBool), PV.sl (.lo L) (c.At.map cInt), PV.sl (.lo L) (c.Pos.map cInt), PV.sl (.lo L) (c.Buffer.map (cRowS (.lo L) (.lo L))), PV.sl (.lo L) (c.Done.map cInt), PV.sl (.lo L) (c.Rows.map (cRowS (.lo L) (.lo L)))]), (false, [PV.val (vI n)])]) (rs := [(true, [PV.val (vI (recNode c n).1.Query.Id), PV.val (vI (recNode c n).1.Query.Tenant), PV.sl (.own 130 3) ((recNode c n).1.Query.Conds.map cCond), PV.sl (.own 3 1) ((recNode c n).1.Query.Out.map cInt), PV.sl (.own 32 1) ((recNode c n).1.Parts.map (cRowS (.own 87 2) (.own 3 1))), PV.sl (.own 4 1) ((recNode c n).1.Up.map cBool), PV.sl (.own 3 1) ((recNode c n).1.At.map cInt), PV.sl (.own 3 1) ((recNode c n).1.Pos.map cInt), PV.sl (.own 32 1) ((recNode c n).1.Buffer.map (cRowS (.own 87 2) (.own 3 1))), PV.sl (.own 3 1) ((recNode c n).1.Done.map cInt), PV.sl (.own 32 1) ((recNode c n).1.Rows.map (cRowS (.own 87 2) (.own 3 1)))]), (false, [PV.val (.bool (recNode c n).2)])]) Try.func46 rfl (Nat.le_of_ble_eq_true rfl) (fun L => by exact (And.intro (And.intro rfl (ToBL.cons PV.tob_refl (ToBL.cons PV.tob_refl (ToBL.cons (PV.tob_map (fun _ => Nat.le_of_ble_eq_true rfl) (fun _ => (ToBL.cons PV.tob_refl (ToBL.cons PV.tob_refl (ToBL.cons PV.tob_refl ToBL.nil))))) (ToBL.cons (PV.tob_map (fun _ => Nat.le_of_ble_eq_true rfl) (fun _ => (ToBL.cons PV.tob_refl ToBL.nil))) (ToBL.cons (PV.tob_map (fun _ => Nat.le_of_ble_eq_true rfl) (fun _ => (ToBL.cons (PV.tob_map (fun _ => Nat.le_of_ble_eq_true rfl) (fun _ => (ToBL.cons PV.tob_refl (ToBL.cons (PV.tob_map (fun _ => Nat.le_of_ble_eq_true rfl) (fun _ => (ToBL.cons PV.tob_refl ToBL.nil))) ToBL.nil)))) ToBL.nil))) (ToBL.cons (PV.tob_map (fun _ => Nat.le_of_ble_eq_true rfl) (fun _ => (ToBL.cons PV.tob_refl ToBL.nil))) (ToBL.cons (PV.tob_map (fun _ => Nat.le_of_ble_eq_true rfl) (fun _ => (ToBL.cons PV.tob_refl ToBL.nil))) (ToBL.cons (PV.tob_map (fun _ => Nat.le_of_ble_eq_true rfl) (fun _ => (ToBL.cons PV.tob_refl ToBL.nil))) (ToBL.cons (PV.tob_map (fun _ => Nat.le_of_ble_eq_true rfl) (fun _ => (ToBL.cons (PV.tob_map (fun _ => Nat.le_of_ble_eq_true rfl) (fun _ => (ToBL.cons PV.tob_refl (ToBL.cons (PV.tob_map (fun _ => Nat.le_of_ble_eq_true rfl) (fun _ => (ToBL.cons PV.tob_refl ToBL.nil))) ToBL.nil)))) ToBL.nil))) (ToBL.cons (PV.tob_map (fun _ => Nat.le_of_ble_eq_true rfl) (fun _ => (ToBL.cons PV.tob_refl ToBL.nil))) (ToBL.cons (PV.tob_map (fun _ => Nat.le_of_ble_eq_true rfl) (fun _ => (ToBL.cons (PV.tob_map (fun _ => Nat.le_of_ble_eq_true rfl) (fun _ => (ToBL.cons PV.tob_refl (ToBL.cons (PV.tob_map (fun _ => Nat.le_of_ble_eq_true rfl) (fun _ => (ToBL.cons PV.tob_refl ToBL.nil))) ToBL.nil)))) ToBL.nil))) ToBL.nil)))))))))))) (And.intro (And.intro rfl (ToBL.cons PV.tob_refl ToBL.nil)) True.intro))) (fun L => by exact (borA_cons (BorL.cons (PV.bor_val _) (BorL.cons (PV.bor_val _) (BorL.cons (PV.bor_lo _ _) (BorL.cons (PV.bor_lo _ _) (BorL.cons (PV.bor_lo _ _) (BorL.cons (PV.bor_lo _ _) (BorL.cons (PV.bor_lo _ _) (BorL.cons (PV.bor_lo _ _) (BorL.cons (PV.bor_lo _ _) (BorL.cons (PV.bor_lo _ _) (BorL.cons (PV.bor_lo _ _) BorL.nil))))))))))) (borA_cons (BorL.cons (PV.bor_val _) BorL.nil) borA_nil))) ?_
 intro w0 Fz0
 refine sw_slen (s := 0) (j := 2) rfl rfl fun hl0_2 => ?_
 try rw [List.length_map] at hl0_2
 refine sw_slen (s := 0) (j := 3) rfl rfl fun hl0_3 => ?_
 try rw [List.length_map] at hl0_3
 refine sw_slen (s := 0) (j := 4) rfl rfl fun hl0_4 => ?_
 try rw [List.length_map] at hl0_4
 refine sw_slen (s := 0) (j := 5) rfl rfl fun hl0_5 => ?_
 try rw [List.length_map] at hl0_5
 refine sw_slen (s := 0) (j := 6) rfl rfl fun hl0_6 => ?_
 try rw [List.length_map] at hl0_6
 refine sw_slen (s := 0) (j := 7) rfl rfl fun hl0_7 => ?_
 try rw [List.length_map] at hl0_7
 refine sw_slen (s := 0) (j := 8) rfl rfl fun hl0_8 => ?_
 try rw [List.length_map] at hl0_8
 refine sw_slen (s := 0) (j := 9) rfl rfl fun hl0_9 => ?_
 try rw [List.length_map] at hl0_9
 refine sw_slen (s := 0) (j := 10) rfl rfl fun hl0_10 => ?_
 try rw [List.length_map] at hl0_10
 have hbu := hb
 simp only [wtCluster, wtInt] at hbu
 refine sw_seq ?_
 refine sw_reg ?_
 refine RunS.step (by exact ⟨rfl, ⟨⟩⟩) (by exact ⟨⟩) (LocG.of rfl (loc_box (ag := true) (cs := [PV.val _, PV.val _, PV.sl (.lo _) _, PV.sl (.lo _) _, PV.sl (.lo _) _, PV.sl (.lo _) _, PV.sl (.lo _) _, PV.sl (.lo _) _, PV.sl (.lo _) _, PV.sl (.lo _) _, PV.sl (.lo _) _]) (by decide) (by exact ⟨⟩))) (free1 (Free.of_ rfl)) ?_
 refine RunS.step (by exact ⟨⟩) (by exact ⟨⟩) (LocG.of rfl (loc_alloc (by decide) FCluH_z_60 FCluH_zo_60)) (free1 (Free.app (Free.of_ rfl) rfl)) ?_
 refine rA ?_ (x := kA)
 refine sw_seq ?_
 refine sO [(1, _), (2, _), (4, _), (5, _)] [(2, (60, [PV.val _, PV.val _, PV.sl (.lo _) _, PV.sl (.lo _) _, PV.sl (.lo _) _, PV.sl (.lo _) _, PV.sl (.lo _) _, PV.sl (.lo _) _, PV.sl (.lo _) _, PV.sl (.lo _) _, PV.sl (.lo _) _])), (4, (60, [PV.val _, PV.val _, PV.sl _ _, PV.sl _ _, PV.sl _ _, PV.sl _ _, PV.sl _ _, PV.sl _ _, PV.sl _ _, PV.sl _ _, PV.sl _ _]))] ?_
 refine sw_reg ?_
 refine rA ?_ (x := lD [PV.val _, PV.val _, PV.sl (.lo _) _, PV.sl (.lo _) _, PV.sl (.lo _) _, PV.sl (.lo _) _, PV.sl (.lo _) _, PV.sl (.lo _) _, PV.sl (.lo _) _, PV.sl (.lo _) _, PV.sl (.lo _) _] FCluH_ty_60)
 refine rA ?_ (x := cL [(true, [PV.val _, PV.val _, PV.sl (.lo _) _, PV.sl (.lo _) _, PV.sl (.lo _) _, PV.sl (.lo _) _, PV.sl (.lo _) _, PV.sl (.lo _) _, PV.sl (.lo _) _, PV.sl (.lo _) _, PV.sl (.lo _) _])] [(true, [PV.val _, PV.val _, PV.sl .v _, PV.sl .v _, PV.sl .v _, PV.sl .v _, PV.sl .v _, PV.sl .v _, PV.sl .v _, PV.sl .v _, PV.sl .v _])] FCluH_c_97 (hs := by exact spec_l18Copy (by omega)))
 refine RunS.step (by exact ⟨⟩) (by exact ⟨⟩) (LocG.of rfl (loc_alloc (by decide) FCluH_z_60 FCluH_zo_60)) (free1 (Free.app (Free.app (Free.of_ rfl) rfl) rfl)) ?_
 refine rA ?_ (x := loc_store (ag := true) (vs := [PV.val _, PV.val _, PV.sl _ _, PV.sl _ _, PV.sl _ _, PV.sl _ _, PV.sl _ _, PV.sl _ _, PV.sl _ _, PV.sl _ _, PV.sl _ _]) FCluH_ty_60 (by exact ⟨⟩) (by exact rfl) (by exact Nat.le_of_ble_eq_true rfl))
 refine sw_seq ?_
 refine sw_seq ?_
 refine sO [(1, _), (2, _), (4, _), (5, _), (6, _)] [(2, _), (4, _), (6, (60, [PV.val _, PV.val _, PV.sl _ _, PV.sl _ _, PV.sl _ _, PV.sl _ _, PV.sl _ _, PV.sl _ _, PV.sl _ _, PV.sl _ _, PV.sl _ _]))] ?_
 refine sw_reg ?_
 refine rA ?_ (x := lD [PV.val _, PV.val _, PV.sl (.lo _) _, PV.sl (.lo _) _, PV.sl (.lo _) _, PV.sl (.lo _) _, PV.sl (.lo _) _, PV.sl (.lo _) _, PV.sl (.lo _) _, PV.sl (.lo _) _, PV.sl (.lo _) _] FCluH_ty_60)
 refine rA ?_ (x := cL [(true, [PV.val _, PV.val _, PV.sl (.lo _) _, PV.sl (.lo _) _, PV.sl (.lo _) _, PV.sl (.lo _) _, PV.sl (.lo _) _, PV.sl (.lo _) _, PV.sl (.lo _) _, PV.sl (.lo _) _, PV.sl (.lo _) _])] [(true, [PV.val _, PV.val _, PV.sl .v _, PV.sl .v _, PV.sl .v _, PV.sl .v _, PV.sl .v _, PV.sl .v _, PV.sl .v _, PV.sl .v _, PV.sl .v _])] FCluH_c_98 (hs := by exact spec_IsCluster (by omega)))
 refine rA ?_ (x := nT)
 refine rA ?_ (x := sM)
 refine RunS.cases (s := 12) rfl (fun g1 => ?_) (fun g1 => ?_)
 ·have sg1 := g1
  try simp only [q1, q2, q3, q4, q5, q6, q7, q8, q9] at sg1
  refine RunS.s0t g1 ?_
  refine RunS.s0t g1 ?_
  refine RunS.s0t g1 ?_
  refine RunS.s0t g1 ?_
  refine RunS.s0t g1 ?_
  refine RunS.s0t g1 ?_
  refine RunS.s0t g1 ?_
  refine rA ?_ (x := pkT g1)
  refine rA ?_ (x := sM)
  refine RunS.cases (s := 21) rfl (fun g2 => ?_) (fun g2 => nomatch g2)
  refine RunS.s0t g2 ?_
  refine RunS.s0t g2 ?_
  refine RunS.s0t g2 ?_
  refine RunS.s0t g2 ?_
  refine RunS.s0t g2 ?_
  refine rA ?_ (x := pkT g2)
  refine sw_cond (t := 27) rfl (fun hb_ => ?_) (fun hb_ => nomatch hb_)
  have hr := rec_no (c := c) (n := n) (by simp_all)
  refine sw_seq ?_
  refine sO [(1, _), (2, _), (4, _), (5, _), (6, _)] [(2, _), (4, _), (6, _)] ?_
  refine sw_reg ?_
  refine rA ?_ (x := loc_ltake (ms := [PV.val _, PV.val _, PV.sl _ _, PV.sl _ _, PV.sl _ _, PV.sl _ _, PV.sl _ _, PV.sl _ _, PV.sl _ _, PV.sl _ _, PV.sl _ _]) (qs := [PV.val _, PV.val _, PV.sl .v _, PV.sl .v _, PV.sl .v _, PV.sl .v _, PV.sl .v _, PV.sl .v _, PV.sl .v _, PV.sl .v _, PV.sl .v _]) (by decide) FCluH_ty_60 (fun h => nomatch h) (by exact Nat.le_of_ble_eq_true rfl) (by exact rfl) (by exact (ToL.cons (PV.To.refl _) (ToL.cons (PV.To.refl _) (ToL.cons PV.to_none (ToL.cons PV.to_none (ToL.cons PV.to_none (ToL.cons PV.to_none (ToL.cons PV.to_none (ToL.cons PV.to_none (ToL.cons PV.to_none (ToL.cons PV.to_none (ToL.cons PV.to_none ToL.nil)))))))))))) (by exact (BorL.cons (PV.bor_val _) (BorL.cons (PV.bor_val _) (BorL.cons (PV.bor_sl _) (BorL.cons (PV.bor_sl _) (BorL.cons (PV.bor_sl _) (BorL.cons (PV.bor_sl _) (BorL.cons (PV.bor_sl _) (BorL.cons (PV.bor_sl _) (BorL.cons (PV.bor_sl _) (BorL.cons (PV.bor_sl _) (BorL.cons (PV.bor_sl _) BorL.nil)))))))))))))
  refine rA ?_ (x := loc_store (ag := true) (vs := [PV.val _, PV.val _, PV.sl _ _, PV.sl _ _, PV.sl _ _, PV.sl _ _, PV.sl _ _, PV.sl _ _, PV.sl _ _, PV.sl _ _, PV.sl _ _]) FCluH_ty_60 (by exact ⟨⟩) (by exact rfl) (by exact Nat.le_of_ble_eq_true rfl))
  refine rA ?_ (x := kA)
  refine sw_ret ?_
  exact (Exists.intro 4 (Exists.intro _ (And.intro (by exact rfl) (And.intro (by refine box_eq ?_; rw [hr]; try rfl) (And.intro FCluH_ty_60 (And.intro (fun h => nomatch h) (And.intro (by refine bool_eq ?_; rw [hr]; try rfl) True.intro)))))))
 ·have sg1 := g1
  try simp only [q1, q2, q3, q4, q5, q6, q7, q8, q9] at sg1
  refine rB g1 ?_ (x := sM)
  refine rB g1 ?_ (x := lF FCluH_fd_60_2)
  refine rB g1 ?_ (x := lD [PV.sl (.lo _) _] FCluH_ty_58)
  refine rB g1 ?_ (x := lN FCluH_sl_58)
  refine rB g1 ?_ (x := B_sub)
  refine rB g1 ?_ (x := cL [(false, [PV.val _]), (false, [PV.val _]), (false, [PV.val _])] [(false, [PV.val _]), (false, [PV.val _]), (false, [PV.val _])] FCluH_c_72 (hs := by exact spec_l1In))
  refine rB g1 ?_ (x := nT)
  refine rA ?_ (x := pkF g1)
  refine rA ?_ (x := sM)
  refine RunS.cases (s := 21) rfl (fun g4 => ?_) (fun g4 => ?_)
  ·have sg4 := g4
   try simp only [q1, q2, q3, q4, q5, q6, q7, q8, q9] at sg4
   refine RunS.s0t g4 ?_
   refine RunS.s0t g4 ?_
   refine RunS.s0t g4 ?_
   refine RunS.s0t g4 ?_
   refine RunS.s0t g4 ?_
   refine rA ?_ (x := pkT g4)
   refine sw_cond (t := 27) rfl (fun hb_ => ?_) (fun hb_ => nomatch hb_)
   have hr := rec_no (c := c) (n := n) (by simp_all)
   refine sw_seq ?_
   refine sO [(1, _), (2, _), (4, _), (5, _), (6, _)] [(2, _), (4, _), (6, _)] ?_
   refine sw_reg ?_
   refine rA ?_ (x := loc_ltake (ms := [PV.val _, PV.val _, PV.sl _ _, PV.sl _ _, PV.sl _ _, PV.sl _ _, PV.sl _ _, PV.sl _ _, PV.sl _ _, PV.sl _ _, PV.sl _ _]) (qs := [PV.val _, PV.val _, PV.sl .v _, PV.sl .v _, PV.sl .v _, PV.sl .v _, PV.sl .v _, PV.sl .v _, PV.sl .v _, PV.sl .v _, PV.sl .v _]) (by decide) FCluH_ty_60 (fun h => nomatch h) (by exact Nat.le_of_ble_eq_true rfl) (by exact rfl) (by exact (ToL.cons (PV.To.refl _) (ToL.cons (PV.To.refl _) (ToL.cons PV.to_none (ToL.cons PV.to_none (ToL.cons PV.to_none (ToL.cons PV.to_none (ToL.cons PV.to_none (ToL.cons PV.to_none (ToL.cons PV.to_none (ToL.cons PV.to_none (ToL.cons PV.to_none ToL.nil)))))))))))) (by exact (BorL.cons (PV.bor_val _) (BorL.cons (PV.bor_val _) (BorL.cons (PV.bor_sl _) (BorL.cons (PV.bor_sl _) (BorL.cons (PV.bor_sl _) (BorL.cons (PV.bor_sl _) (BorL.cons (PV.bor_sl _) (BorL.cons (PV.bor_sl _) (BorL.cons (PV.bor_sl _) (BorL.cons (PV.bor_sl _) (BorL.cons (PV.bor_sl _) BorL.nil)))))))))))))
   refine rA ?_ (x := loc_store (ag := true) (vs := [PV.val _, PV.val _, PV.sl _ _, PV.sl _ _, PV.sl _ _, PV.sl _ _, PV.sl _ _, PV.sl _ _, PV.sl _ _, PV.sl _ _, PV.sl _ _]) FCluH_ty_60 (by exact ⟨⟩) (by exact rfl) (by exact Nat.le_of_ble_eq_true rfl))
   refine rA ?_ (x := kA)
   refine sw_ret ?_
   exact (Exists.intro 4 (Exists.intro _ (And.intro (by exact rfl) (And.intro (by refine box_eq ?_; rw [hr]; try rfl) (And.intro FCluH_ty_60 (And.intro (fun h => nomatch h) (And.intro (by refine bool_eq ?_; rw [hr]; try rfl) True.intro)))))))
  ·have sg4 := g4
   try simp only [q1, q2, q3, q4, q5, q6, q7, q8, q9] at sg4
   refine rB g4 ?_ (x := lF FCluH_fd_60_2)
   refine rB g4 ?_ (x := lD [PV.sl (.lo _) _] FCluH_ty_58)
   refine rB g4 ?_ (x := sM)
   refine rB g4 ?_ (x := loc_index (k := (n).toNat) (by decide) FCluH_sl_58 (by exact ⟨⟩) (by have hq := inB_iff.1 ‹inB n 0 ((c.Up.length : Int) - 1) = true›; have hl := clLen ‹isCl c = true›; omega) (by exact getm2 (by have hq := inB_iff.1 ‹inB n 0 ((c.Up.length : Int) - 1) = true›; have hl := clLen ‹isCl c = true›; omega) (by rw [upAt_eq (by have hq := inB_iff.1 ‹inB n 0 ((c.Up.length : Int) - 1) = true›; have hl := clLen ‹isCl c = true›; omega)])) (by exact rfl))
   refine rB g4 ?_ (x := lE [PV.val _] FCluH_ty_4)
   refine rA ?_ (x := pkF g4)
   refine sw_cond (t := 27) rfl (fun hb6 => ?_) (fun hb6 => ?_)
   ·try simp only [q1, q2, q3, q4, q5, q6, q7, q8, q9] at hb6
    have hr := rec_no (c := c) (n := n) (by simp_all)
    refine sw_seq ?_
    refine sO [(1, _), (2, _), (4, _), (5, _), (6, _)] [(2, _), (4, _), (6, _)] ?_
    refine sw_reg ?_
    refine rA ?_ (x := loc_ltake (ms := [PV.val _, PV.val _, PV.sl _ _, PV.sl _ _, PV.sl _ _, PV.sl _ _, PV.sl _ _, PV.sl _ _, PV.sl _ _, PV.sl _ _, PV.sl _ _]) (qs := [PV.val _, PV.val _, PV.sl .v _, PV.sl .v _, PV.sl .v _, PV.sl .v _, PV.sl .v _, PV.sl .v _, PV.sl .v _, PV.sl .v _, PV.sl .v _]) (by decide) FCluH_ty_60 (fun h => nomatch h) (by exact Nat.le_of_ble_eq_true rfl) (by exact rfl) (by exact (ToL.cons (PV.To.refl _) (ToL.cons (PV.To.refl _) (ToL.cons PV.to_none (ToL.cons PV.to_none (ToL.cons PV.to_none (ToL.cons PV.to_none (ToL.cons PV.to_none (ToL.cons PV.to_none (ToL.cons PV.to_none (ToL.cons PV.to_none (ToL.cons PV.to_none ToL.nil)))))))))))) (by exact (BorL.cons (PV.bor_val _) (BorL.cons (PV.bor_val _) (BorL.cons (PV.bor_sl _) (BorL.cons (PV.bor_sl _) (BorL.cons (PV.bor_sl _) (BorL.cons (PV.bor_sl _) (BorL.cons (PV.bor_sl _) (BorL.cons (PV.bor_sl _) (BorL.cons (PV.bor_sl _) (BorL.cons (PV.bor_sl _) (BorL.cons (PV.bor_sl _) BorL.nil)))))))))))))
    refine rA ?_ (x := loc_store (ag := true) (vs := [PV.val _, PV.val _, PV.sl _ _, PV.sl _ _, PV.sl _ _, PV.sl _ _, PV.sl _ _, PV.sl _ _, PV.sl _ _, PV.sl _ _, PV.sl _ _]) FCluH_ty_60 (by exact ⟨⟩) (by exact rfl) (by exact Nat.le_of_ble_eq_true rfl))
    refine rA ?_ (x := kA)
    refine sw_ret ?_
    exact (Exists.intro 4 (Exists.intro _ (And.intro (by exact rfl) (And.intro (by refine box_eq ?_; rw [hr]; try rfl) (And.intro FCluH_ty_60 (And.intro (fun h => nomatch h) (And.intro (by refine bool_eq ?_; rw [hr]; try rfl) True.intro)))))))
   ·try simp only [q1, q2, q3, q4, q5, q6, q7, q8, q9] at hb6
    have h3 : isCl c = true ∧ inB n 0 ((c.Up.length : Int) - 1) = true ∧ upAt c n = false := by simp_all
    have hr := rec_yes h3.1 h3.2.1 h3.2.2
    have hn := up_at h3.1 h3.2.1
    refine sw_skip ?_
    refine sw_seq ?_
    refine sO [(1, _), (2, _), (4, _), (5, _), (6, _)] [(2, _), (4, _), (6, _)] ?_
    refine sw_thawB (d := 6) (t := 60) (D := 900) (G := 2900) (E := 4) (e := 1) (L := w0.heap.size) (A := [PV.val _, PV.val _, PV.sl _ _, PV.sl _ _, PV.sl _ _]) (B := [PV.sl _ _, PV.sl _ _, PV.sl _ _, PV.sl _ _, PV.sl _ _]) (es := (c.Up).map cBool) (by exact rfl) (map_ne hn.2.1) (by exact rfl) (by exact rfl) rfl (by exact rfl) (fun x hx => hx) (by exact (And.intro (RV.lcl_sv (LclC.cons PV.lcl_val LclC.nil)) (And.intro RV.lcl_ptr (And.intro RV.lcl_ptr (And.intro (RV.lcl_sv (LclC.cons PV.lcl_val LclC.nil)) (And.intro RV.lcl_ptr True.intro)))))) (by exact (And.intro (.inr (LclC.cons PV.lcl_val (LclC.cons PV.lcl_val (LclC.cons (PV.lcl_lo (LclRC.map fun x => (LclRC.cons PV.lclr_val (LclRC.cons PV.lclr_val (LclRC.cons PV.lclr_val LclRC.nil))))) (LclC.cons (PV.lcl_lo (LclRC.map fun x => (LclRC.cons PV.lclr_val LclRC.nil))) (LclC.cons (PV.lcl_lo (LclRC.map fun x => (LclRC.cons (PV.lclr_lo (LclRC.map fun x => (LclRC.cons PV.lclr_val (LclRC.cons (PV.lclr_lo (LclRC.map fun x => (LclRC.cons PV.lclr_val LclRC.nil))) LclRC.nil)))) LclRC.nil))) (LclC.cons (PV.lcl_lo (LclRC.map fun x => (LclRC.cons PV.lclr_val LclRC.nil))) (LclC.cons (PV.lcl_lo (LclRC.map fun x => (LclRC.cons PV.lclr_val LclRC.nil))) (LclC.cons (PV.lcl_lo (LclRC.map fun x => (LclRC.cons PV.lclr_val LclRC.nil))) (LclC.cons (PV.lcl_lo (LclRC.map fun x => (LclRC.cons (PV.lclr_lo (LclRC.map fun x => (LclRC.cons PV.lclr_val (LclRC.cons (PV.lclr_lo (LclRC.map fun x => (LclRC.cons PV.lclr_val LclRC.nil))) LclRC.nil)))) LclRC.nil))) (LclC.cons (PV.lcl_lo (LclRC.map fun x => (LclRC.cons PV.lclr_val LclRC.nil))) (LclC.cons (PV.lcl_lo (LclRC.map fun x => (LclRC.cons (PV.lclr_lo (LclRC.map fun x => (LclRC.cons PV.lclr_val (LclRC.cons (PV.lclr_lo (LclRC.map fun x => (LclRC.cons PV.lclr_val LclRC.nil))) LclRC.nil)))) LclRC.nil))) LclC.nil)))))))))))) (And.intro (.inr (LclC.cons PV.lcl_val (LclC.cons PV.lcl_val (LclC.cons (PV.lcl_own (by first | exact (LclC.map fun x => (LclC.cons PV.lcl_val (LclC.cons PV.lcl_val (LclC.cons PV.lcl_val LclC.nil)))) | exact (fun cs h => nomatch h))) (LclC.cons (PV.lcl_own (by first | exact (LclC.map fun x => (LclC.cons PV.lcl_val LclC.nil)) | exact (fun cs h => nomatch h))) (LclC.cons (PV.lcl_own (by first | exact (LclC.map fun x => (LclC.cons (PV.lcl_own (LclC.map fun x => (LclC.cons PV.lcl_val (LclC.cons (PV.lcl_own (LclC.map fun x => (LclC.cons PV.lcl_val LclC.nil))) LclC.nil)))) LclC.nil)) | exact (fun cs h => nomatch h))) (LclC.cons (PV.lcl_own (by first | exact (LclC.map fun x => (LclC.cons PV.lcl_val LclC.nil)) | exact (fun cs h => nomatch h))) (LclC.cons (PV.lcl_own (by first | exact (LclC.map fun x => (LclC.cons PV.lcl_val LclC.nil)) | exact (fun cs h => nomatch h))) (LclC.cons (PV.lcl_own (by first | exact (LclC.map fun x => (LclC.cons PV.lcl_val LclC.nil)) | exact (fun cs h => nomatch h))) (LclC.cons (PV.lcl_own (by first | exact (LclC.map fun x => (LclC.cons (PV.lcl_own (LclC.map fun x => (LclC.cons PV.lcl_val (LclC.cons (PV.lcl_own (LclC.map fun x => (LclC.cons PV.lcl_val LclC.nil))) LclC.nil)))) LclC.nil)) | exact (fun cs h => nomatch h))) (LclC.cons (PV.lcl_own (by first | exact (LclC.map fun x => (LclC.cons PV.lcl_val LclC.nil)) | exact (fun cs h => nomatch h))) (LclC.cons (PV.lcl_own (by first | exact (LclC.map fun x => (LclC.cons (PV.lcl_own (LclC.map fun x => (LclC.cons PV.lcl_val (LclC.cons (PV.lcl_own (LclC.map fun x => (LclC.cons PV.lcl_val LclC.nil))) LclC.nil)))) LclC.nil)) | exact (fun cs h => nomatch h))) LclC.nil)))))))))))) (And.intro (.inl rfl) True.intro)))) (by exact (LclC.cons PV.lcl_val (LclC.cons PV.lcl_val (LclC.cons (PV.lcl_own (by first | exact (LclC.map fun x => (LclC.cons PV.lcl_val (LclC.cons PV.lcl_val (LclC.cons PV.lcl_val LclC.nil)))) | exact (fun cs h => nomatch h))) (LclC.cons (PV.lcl_own (by first | exact (LclC.map fun x => (LclC.cons PV.lcl_val LclC.nil)) | exact (fun cs h => nomatch h))) (LclC.cons (PV.lcl_own (by first | exact (LclC.map fun x => (LclC.cons (PV.lcl_own (LclC.map fun x => (LclC.cons PV.lcl_val (LclC.cons (PV.lcl_own (LclC.map fun x => (LclC.cons PV.lcl_val LclC.nil))) LclC.nil)))) LclC.nil)) | exact (fun cs h => nomatch h))) LclC.nil)))))) (by exact (LclC.cons (PV.lcl_own (by first | exact (LclC.map fun x => (LclC.cons PV.lcl_val LclC.nil)) | exact (fun cs h => nomatch h))) (LclC.cons (PV.lcl_own (by first | exact (LclC.map fun x => (LclC.cons PV.lcl_val LclC.nil)) | exact (fun cs h => nomatch h))) (LclC.cons (PV.lcl_own (by first | exact (LclC.map fun x => (LclC.cons (PV.lcl_own (LclC.map fun x => (LclC.cons PV.lcl_val (LclC.cons (PV.lcl_own (LclC.map fun x => (LclC.cons PV.lcl_val LclC.nil))) LclC.nil)))) LclC.nil)) | exact (fun cs h => nomatch h))) (LclC.cons (PV.lcl_own (by first | exact (LclC.map fun x => (LclC.cons PV.lcl_val LclC.nil)) | exact (fun cs h => nomatch h))) (LclC.cons (PV.lcl_own (by first | exact (LclC.map fun x => (LclC.cons (PV.lcl_own (LclC.map fun x => (LclC.cons PV.lcl_val (LclC.cons (PV.lcl_own (LclC.map fun x => (LclC.cons PV.lcl_val LclC.nil))) LclC.nil)))) LclC.nil)) | exact (fun cs h => nomatch h))) LclC.nil)))))) (LclC.map fun x => (LclC.cons PV.lcl_val LclC.nil)) fun uu900 cp900 jk900 hlD900 hcp900 hjk900 => ?_
    rw [List.length_map] at hlD900 hcp900 hjk900
    refine sw_boxEq (d := 900) (by exact rfl) (at_split (k := n.toNat) hn.2.1) ?_
    have hA900 := at_len (f := cBool) (e := 1) (xs := c.Up) (k := n.toNat) (fun _ => rfl) (Nat.le_of_lt hn.2.1)
    refine sO [(1, _), (2, _), (4, _), (5, _), (6, _), (2900, _)] [(2, _), (4, _), (6, (60, [PV.val _, PV.val _, PV.sl _ _, PV.sl _ _, PV.sl _ _, PV.val _, PV.sl _ _, PV.sl _ _, PV.sl _ _, PV.sl _ _, PV.sl _ _])), (900, (4, _ ++ ([PV.val _] ++ _)))] ?_
    refine sw_reg ?_
    refine rA ?_ (x := lF FCluH_fd_60_2)
    refine rA ?_ (x := lD [PV.val _] FCluH_ty_58)
    refine rA ?_ (x := sM)
    refine rA ?_ (x := loc_gidx (k := n.toNat) (G := 2900) (by decide) FCluH_sl_58 (by exact ⟨⟩) (by omega) (by first | (rw [List.length_map]; exact hn.2.1) | exact hn.2.1))
    refine rA ?_ (x := loc_storeM (o := 0) (ag := false) (vs := [PV.val _]) (by omega) FCluH_ty_4 (ok_sc rfl) (by exact rfl) (by exact Nat.le_of_ble_eq_true rfl))
    refine sw_boxEq (d := 900) (by exact rfl) (at_join true hn.2.1 (by exact rfl)) ?_
    refine sw_frzIn (d := 6) (D := 900) (G := 2900) (A := [PV.val _, PV.val _, PV.sl _ _, PV.sl _ _, PV.sl _ _]) (B := [PV.sl _ _, PV.sl _ _, PV.sl _ _, PV.sl _ _, PV.sl _ _]) (es := ((c.Up).set n.toNat true).map cBool) (by exact rfl) (by exact rfl) (by exact rfl) rfl (by rw [List.length_map, List.length_set, List.length_map]) (by intro c hc; obtain ⟨y, _, rfl⟩ := List.mem_map.1 hc; exact rfl) (by rw [List.length_map]; exact hjk900) ?_
    refine sw_seq ?_
    refine sO [(1, _), (2, _), (4, _), (5, _), (6, _)] [(2, _), (4, _), (6, (60, [PV.val _, PV.val _, PV.sl _ _, PV.sl _ _, PV.sl _ _, PV.sl _ _, PV.sl _ _, PV.sl _ _, PV.sl _ _, PV.sl _ _, PV.sl _ _]))] ?_
    refine sw_reg ?_
    refine rA ?_ (x := loc_ltake (ms := [PV.val _, PV.val _, PV.sl _ _, PV.sl _ _, PV.sl _ _, PV.sl _ _, PV.sl _ _, PV.sl _ _, PV.sl _ _, PV.sl _ _, PV.sl _ _]) (qs := [PV.val _, PV.val _, PV.sl .v _, PV.sl .v _, PV.sl .v _, PV.sl .v _, PV.sl .v _, PV.sl .v _, PV.sl .v _, PV.sl .v _, PV.sl .v _]) (by decide) FCluH_ty_60 (fun h => nomatch h) (by exact Nat.le_of_ble_eq_true rfl) (by exact rfl) (by exact (ToL.cons (PV.To.refl _) (ToL.cons (PV.To.refl _) (ToL.cons PV.to_none (ToL.cons PV.to_none (ToL.cons PV.to_none (ToL.cons PV.to_none (ToL.cons PV.to_none (ToL.cons PV.to_none (ToL.cons PV.to_none (ToL.cons PV.to_none (ToL.cons PV.to_none ToL.nil)))))))))))) (by exact (BorL.cons (PV.bor_val _) (BorL.cons (PV.bor_val _) (BorL.cons (PV.bor_sl _) (BorL.cons (PV.bor_sl _) (BorL.cons (PV.bor_sl _) (BorL.cons (PV.bor_sl _) (BorL.cons (PV.bor_sl _) (BorL.cons (PV.bor_sl _) (BorL.cons (PV.bor_sl _) (BorL.cons (PV.bor_sl _) (BorL.cons (PV.bor_sl _) BorL.nil)))))))))))))
    refine rA ?_ (x := loc_store (ag := true) (vs := [PV.val _, PV.val _, PV.sl _ _, PV.sl _ _, PV.sl _ _, PV.sl _ _, PV.sl _ _, PV.sl _ _, PV.sl _ _, PV.sl _ _, PV.sl _ _]) FCluH_ty_60 (by exact ⟨⟩) (by exact rfl) (by exact Nat.le_of_ble_eq_true rfl))
    refine rA ?_ (x := kA)
    refine sw_ret ?_
    exact (Exists.intro 4 (Exists.intro _ (And.intro (by exact rfl) (And.intro (by refine box_eq ?_; rw [hr]; try rfl) (And.intro FCluH_ty_60 (And.intro (fun h => nomatch h) (And.intro (by refine bool_eq ?_; rw [hr]; try rfl) True.intro)))))))
end Go.Proofs.Ytloipjaiceifbaa
