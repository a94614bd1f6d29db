/- What functions of the program compute. No condition. -/
import Derived.Test.YtdoabhihpclliaaCProgFnDeliveries
import Derived.KernelRfl
set_option linter.unusedVariables false
set_option linter.unusedSimpArgs false
namespace Go.Proofs.Ytdoabhihpclliaa
open Go Go.RowKit M
set_option maxRecDepth 10000
attribute [local irreducible] PV.Lcl PV.LclR RV.Lcl
theorem impl_IsOutbox {p1 : Fl} {x : Outbox}  : SCall Try.prog 17 [(true, [PV.sl .v (x.Rows.map (cRow p1)), PV.val (vI x.Acked), PV.val (vI x.Tries)])] (resRV [(false, [PV.val (.bool (okBox x))])]) := by
 refine scall_of (rs := [(false, [PV.val (.bool (okBox x))])]) Try.func17 rfl (Nat.le_of_ble_eq_true rfl) (borA_cons (BorL.cons (PV.bor_sl _) (BorL.cons (PV.bor_val _) (BorL.cons (PV.bor_val _) BorL.nil))) borA_nil) ?_
 intro h0 w0 Fz0
 refine sw_slen (s := 0) (j := 0) rfl rfl fun hl0_0 => ?_
 try rw [List.length_map] at hl0_0
 refine sw_seq ?_
 refine sw_reg ?_
 refine RunS.step (by exact ⟨rfl, ⟨⟩⟩) (by exact ⟨⟩) (LocG.of rfl (loc_box (ag := true) (cs := [PV.sl _ _, PV.val _, PV.val _]) (by decide) (by exact ⟨⟩))) (free1 (Free.of_ rfl)) ?_
 refine rA ?_ (x := kA)
 refine sw_seq ?_
 refine sO [(1, _), (2, _)] [(1, (36, [PV.sl _ _, PV.val _, PV.val _]))] ?_
 refine sw_reg ?_
 refine rA ?_ (x := lF fd_36_0)
 refine rA ?_ (x := lD [PV.sl .v _] ty_24)
 refine rA ?_ (x := cL [(false, [PV.sl _ _])] [(false, [PV.sl .v _])] c_38 (hs := by exact impl_resultOk))
 refine rA ?_ (x := sM)
 refine RunS.cases (s := 6) rfl (fun g1 => ?_) (fun g1 => ?_)
 ·have sg1 := g1
  try simp only [q1, q2, q3, q4, q5, q6, q7, q8, q9] at sg1
  refine rB g1 ?_ (x := lF fd_36_1)
  refine rB g1 ?_ (x := lD [PV.val _] ty_3)
  refine rB g1 ?_ (x := lF fd_36_0)
  refine rB g1 ?_ (x := lD [PV.sl .v _] ty_24)
  refine rB g1 ?_ (x := lN sl_24)
  refine rB g1 ?_ (x := cL [(false, [PV.val _]), (false, [PV.val _]), (false, [PV.val _])] [(false, [PV.val _]), (false, [PV.val _]), (false, [PV.val _])] c_25 (hs := by exact impl_within))
  refine rA ?_ (x := pkT g1)
  refine rA ?_ (x := sM)
  refine RunS.cases (s := 14) rfl (fun g2 => ?_) (fun g2 => ?_)
  ·have sg2 := g2
   try simp only [q1, q2, q3, q4, q5, q6, q7, q8, q9] at sg2
   refine rB g2 ?_ (x := lF fd_36_2)
   refine rB g2 ?_ (x := lD [PV.val _] ty_3)
   refine rB g2 ?_ (x := cL [(false, [PV.val _]), (false, [PV.val _]), (false, [PV.val _])] [(false, [PV.val _]), (false, [PV.val _]), (false, [PV.val _])] c_25 (hs := by exact impl_within))
   refine rA ?_ (x := pkT g2)
   refine rA ?_ (x := sA)
   refine sw_ret ?_
   exact (And.intro (by refine bool_eq ?_; simp_all [okBox]) True.intro)
  ·have sg2 := g2
   try simp only [q1, q2, q3, q4, q5, q6, q7, q8, q9] at sg2
   refine RunS.s0f g2 ?_
   refine RunS.s0f g2 ?_
   refine RunS.s0f g2 ?_
   refine rA ?_ (x := pkF g2)
   refine rA ?_ (x := sA)
   refine sw_ret ?_
   exact (And.intro (by refine bool_eq ?_; simp_all [okBox]) True.intro)
 ·have sg1 := g1
  try simp only [q1, q2, q3, q4, q5, q6, q7, q8, q9] at sg1
  refine RunS.s0f g1 ?_
  refine RunS.s0f g1 ?_
  refine RunS.s0f g1 ?_
  refine RunS.s0f g1 ?_
  refine RunS.s0f g1 ?_
  refine RunS.s0f g1 ?_
  refine rA ?_ (x := pkF g1)
  refine rA ?_ (x := sM)
  refine RunS.cases (s := 14) rfl (fun g3 => nomatch g3) (fun g3 => ?_)
  refine RunS.s0f g3 ?_
  refine RunS.s0f g3 ?_
  refine RunS.s0f g3 ?_
  refine rA ?_ (x := pkF g3)
  refine rA ?_ (x := sA)
  refine sw_ret ?_
  exact (And.intro (by refine bool_eq ?_; simp_all [okBox]) True.intro)
theorem spec_IsOutbox {p1 : Fl} {x : Outbox}  : SCall Try.prog 34 [(true, [PV.sl .v (x.Rows.map (cRow p1)), PV.val (vI x.Acked), PV.val (vI x.Tries)])] (resRV [(false, [PV.val (.bool (okBox x))])]) := by
 refine scall_of (rs := [(false, [PV.val (.bool (okBox x))])]) Try.func34 rfl (Nat.le_of_ble_eq_true rfl) (borA_cons (BorL.cons (PV.bor_sl _) (BorL.cons (PV.bor_val _) (BorL.cons (PV.bor_val _) BorL.nil))) borA_nil) ?_
 intro h0 w0 Fz0
 refine sw_slen (s := 0) (j := 0) rfl rfl fun hl0_0 => ?_
 try rw [List.length_map] at hl0_0
 refine sw_seq ?_
 refine sw_reg ?_
 refine RunS.step (by exact ⟨rfl, ⟨⟩⟩) (by exact ⟨⟩) (LocG.of rfl (loc_box (ag := true) (cs := [PV.sl _ _, PV.val _, PV.val _]) (by decide) (by exact ⟨⟩))) (free1 (Free.of_ rfl)) ?_
 refine rA ?_ (x := kA)
 refine sw_seq ?_
 refine sO [(1, _), (2, _)] [(1, (36, [PV.sl _ _, PV.val _, PV.val _]))] ?_
 refine sw_reg ?_
 refine rA ?_ (x := lF fd_36_0)
 refine rA ?_ (x := lD [PV.sl .v _] ty_24)
 refine rA ?_ (x := cL [(false, [PV.sl _ _])] [(false, [PV.sl .v _])] c_47 (hs := by exact spec_l9List))
 refine rA ?_ (x := sM)
 refine RunS.cases (s := 6) rfl (fun g1 => ?_) (fun g1 => ?_)
 ·have sg1 := g1
  try simp only [q1, q2, q3, q4, q5, q6, q7, q8, q9] at sg1
  refine rB g1 ?_ (x := lF fd_36_1)
  refine rB g1 ?_ (x := lD [PV.val _] ty_3)
  refine rB g1 ?_ (x := lF fd_36_0)
  refine rB g1 ?_ (x := lD [PV.sl .v _] ty_24)
  refine rB g1 ?_ (x := lN sl_24)
  refine rB g1 ?_ (x := cL [(false, [PV.val _]), (false, [PV.val _]), (false, [PV.val _])] [(false, [PV.val _]), (false, [PV.val _]), (false, [PV.val _])] c_29 (hs := by exact spec_l1In))
  refine rA ?_ (x := pkT g1)
  refine rA ?_ (x := sM)
  refine RunS.cases (s := 14) rfl (fun g2 => ?_) (fun g2 => ?_)
  ·have sg2 := g2
   try simp only [q1, q2, q3, q4, q5, q6, q7, q8, q9] at sg2
   refine rB g2 ?_ (x := lF fd_36_2)
   refine rB g2 ?_ (x := lD [PV.val _] ty_3)
   refine rB g2 ?_ (x := cL [(false, [PV.val _]), (false, [PV.val _]), (false, [PV.val _])] [(false, [PV.val _]), (false, [PV.val _]), (false, [PV.val _])] c_29 (hs := by exact spec_l1In))
   refine rA ?_ (x := pkT g2)
   refine rA ?_ (x := sA)
   refine sw_ret ?_
   exact (And.intro (by refine bool_eq ?_; simp_all [okBox]) True.intro)
  ·have sg2 := g2
   try simp only [q1, q2, q3, q4, q5, q6, q7, q8, q9] at sg2
   refine RunS.s0f g2 ?_
   refine RunS.s0f g2 ?_
   refine RunS.s0f g2 ?_
   refine rA ?_ (x := pkF g2)
   refine rA ?_ (x := sA)
   refine sw_ret ?_
   exact (And.intro (by refine bool_eq ?_; simp_all [okBox]) True.intro)
 ·have sg1 := g1
  try simp only [q1, q2, q3, q4, q5, q6, q7, q8, q9] at sg1
  refine RunS.s0f g1 ?_
  refine RunS.s0f g1 ?_
  refine RunS.s0f g1 ?_
  refine RunS.s0f g1 ?_
  refine RunS.s0f g1 ?_
  refine RunS.s0f g1 ?_
  refine rA ?_ (x := pkF g1)
  refine rA ?_ (x := sM)
  refine RunS.cases (s := 14) rfl (fun g3 => nomatch g3) (fun g3 => ?_)
  refine RunS.s0f g3 ?_
  refine RunS.s0f g3 ?_
  refine RunS.s0f g3 ?_
  refine rA ?_ (x := pkF g3)
  refine rA ?_ (x := sA)
  refine sw_ret ?_
  exact (And.intro (by refine bool_eq ?_; simp_all [okBox]) True.intro)
theorem impl_copyOutbox {p1 : Fl} {x : Outbox}  (hb : wtOutbox x ≤ 68719476736) : SCall Try.prog 32 [(true, [PV.sl .v (x.Rows.map (cRow p1)), PV.val (vI x.Acked), PV.val (vI x.Tries)])] (resRV [(true, [PV.sl (.own 29 2) (x.Rows.map (cRow (.own 3 1))), PV.val (vI x.Acked), PV.val (vI x.Tries)])]) := by
 refine scall_of (rs := [(true, [PV.sl (.own 29 2) (x.Rows.map (cRow (.own 3 1))), PV.val (vI x.Acked), PV.val (vI x.Tries)])]) Try.func32 rfl (Nat.le_of_ble_eq_true rfl) (borA_cons (BorL.cons (PV.bor_sl _) (BorL.cons (PV.bor_val _) (BorL.cons (PV.bor_val _) BorL.nil))) borA_nil) ?_
 intro h0 w0 Fz0
 refine sw_slen (s := 0) (j := 0) rfl rfl fun hl0_0 => ?_
 try rw [List.length_map] at hl0_0
 have hbu := hb
 simp only [wtOutbox, wtInt] at hbu
 refine sw_seq ?_
 refine sw_reg ?_
 refine RunS.step (by exact ⟨rfl, ⟨⟩⟩) (by exact ⟨⟩) (LocG.of rfl (loc_box (ag := true) (cs := [PV.sl _ _, PV.val _, PV.val _]) (by decide) (by exact ⟨⟩))) (free1 (Free.of_ rfl)) ?_
 refine RunS.step (by exact ⟨⟩) (by exact ⟨⟩) (LocG.of rfl (loc_alloc (by decide) z_36 zo_36)) (free1 (Free.app (Free.of_ rfl) rfl)) ?_
 refine sw_seq ?_
 refine sO [(1, _), (2, _)] [(1, (36, [PV.sl _ _, PV.val _, PV.val _])), (2, (36, [PV.sl _ _, PV.val _, PV.val _]))] ?_
 refine sw_draw hm_ ?_
 refine dA 0 ?_ (x := lF fd_36_0)
 refine dA 1 ?_ (x := lD [PV.sl .v _] ty_24)
 refine dA 3 ?_ (x := cL [(false, [PV.sl _ _])] [(false, [PV.sl .v _])] c_39 (hs := by exact impl_copyRows (by omega)))
 refine dA 0 ?_ (x := lF fd_36_1)
 refine dA 8 ?_ (x := lD [PV.val _] ty_3)
 refine dA 0 ?_ (x := lF fd_36_2)
 refine dA 32 ?_ (x := lD [PV.val _] ty_3)
 refine dA 127 ?_ (x := loc_build (qs := [(false, [PV.sl _ _]), (false, [PV.val _]), (false, [PV.val _])]) (cs := [PV.sl _ _, PV.val _, PV.val _]) (by decide) z_36 zo_36 pl_36 (by exact rfl) (by exact (And.intro (by exact ⟨⟩) (And.intro (by exact ⟨⟩) (And.intro (by exact ⟨⟩) True.intro)))) rfl (by exact rfl))
 refine dA 255 ?_ (x := loc_store (ag := true) (vs := [PV.sl _ _, PV.val _, PV.val _]) ty_36 (by exact ⟨⟩) (by exact rfl) (by exact Nat.le_of_ble_eq_true rfl))
 refine sw_ret ?_
 exact (Exists.intro 2 (Exists.intro _ (And.intro (by exact rfl) (And.intro (by exact rfl) (And.intro ty_36 (And.intro (fun h => nomatch h) True.intro))))))
theorem spec_l17Outbox {p1 : Fl} {x : Outbox}  (hb : wtOutbox x ≤ 68719476736) : SCall Try.prog 33 [(true, [PV.sl .v (x.Rows.map (cRow p1)), PV.val (vI x.Acked), PV.val (vI x.Tries)])] (resRV [(true, [PV.sl (.own 29 2) (x.Rows.map (cRow (.own 3 1))), PV.val (vI x.Acked), PV.val (vI x.Tries)])]) := by
 refine scall_of (rs := [(true, [PV.sl (.own 29 2) (x.Rows.map (cRow (.own 3 1))), PV.val (vI x.Acked), PV.val (vI x.Tries)])]) Try.func33 rfl (Nat.le_of_ble_eq_true rfl) (borA_cons (BorL.cons (PV.bor_sl _) (BorL.cons (PV.bor_val _) (BorL.cons (PV.bor_val _) BorL.nil))) borA_nil) ?_
 intro h0 w0 Fz0
 refine sw_slen (s := 0) (j := 0) rfl rfl fun hl0_0 => ?_
 try rw [List.length_map] at hl0_0
 have hbu := hb
 simp only [wtOutbox, wtInt] at hbu
 refine sw_seq ?_
 refine sw_reg ?_
 refine RunS.step (by exact ⟨rfl, ⟨⟩⟩) (by exact ⟨⟩) (LocG.of rfl (loc_box (ag := true) (cs := [PV.sl _ _, PV.val _, PV.val _]) (by decide) (by exact ⟨⟩))) (free1 (Free.of_ rfl)) ?_
 refine RunS.step (by exact ⟨⟩) (by exact ⟨⟩) (LocG.of rfl (loc_alloc (by decide) z_36 zo_36)) (free1 (Free.app (Free.of_ rfl) rfl)) ?_
 refine sw_seq ?_
 refine sO [(1, _), (2, _)] [(1, (36, [PV.sl _ _, PV.val _, PV.val _])), (2, (36, [PV.sl _ _, PV.val _, PV.val _]))] ?_
 refine sw_draw hm_ ?_
 refine dA 0 ?_ (x := lF fd_36_0)
 refine dA 1 ?_ (x := lD [PV.sl .v _] ty_24)
 refine dA 3 ?_ (x := cL [(false, [PV.sl _ _])] [(false, [PV.sl .v _])] c_45 (hs := by exact spec_l9Rows (by omega)))
 refine dA 0 ?_ (x := lF fd_36_1)
 refine dA 8 ?_ (x := lD [PV.val _] ty_3)
 refine dA 0 ?_ (x := lF fd_36_2)
 refine dA 32 ?_ (x := lD [PV.val _] ty_3)
 refine dA 127 ?_ (x := loc_build (qs := [(false, [PV.sl _ _]), (false, [PV.val _]), (false, [PV.val _])]) (cs := [PV.sl _ _, PV.val _, PV.val _]) (by decide) z_36 zo_36 pl_36 (by exact rfl) (by exact (And.intro (by exact ⟨⟩) (And.intro (by exact ⟨⟩) (And.intro (by exact ⟨⟩) True.intro)))) rfl (by exact rfl))
 refine dA 255 ?_ (x := loc_store (ag := true) (vs := [PV.sl _ _, PV.val _, PV.val _]) ty_36 (by exact ⟨⟩) (by exact rfl) (by exact Nat.le_of_ble_eq_true rfl))
 refine sw_ret ?_
 exact (Exists.intro 2 (Exists.intro _ (And.intro (by exact rfl) (And.intro (by exact rfl) (And.intro ty_36 (And.intro (fun h => nomatch h) True.intro))))))
theorem impl_NewOutbox {p1 : Fl} {x : List Row}  (hb : wtRowS x ≤ 68719476736) : SCall Try.prog 16 [(false, [PV.sl .v (x.map (cRow p1))])] (resRV [(true, [PV.sl (.own 29 2) ((newBox x).1.Rows.map (cRow (.own 3 1))), PV.val (vI (newBox x).1.Acked), PV.val (vI (newBox x).1.Tries)]), (false, [PV.val (.bool (newBox x).2)])]) := by
 refine scall_of (rs := [(true, [PV.sl (.own 29 2) ((newBox x).1.Rows.map (cRow (.own 3 1))), PV.val (vI (newBox x).1.Acked), PV.val (vI (newBox x).1.Tries)]), (false, [PV.val (.bool (newBox x).2)])]) Try.func16 rfl (Nat.le_of_ble_eq_true rfl) (borA_cons (BorL.cons (PV.bor_sl _) BorL.nil) borA_nil) ?_
 intro h0 w0 Fz0
 refine sw_len (s := 0) rfl fun hl0 => ?_
 try rw [List.length_map] at hl0
 refine sw_seq ?_
 refine sw_reg ?_
 refine RunS.step (by exact ⟨⟩) (by exact ⟨⟩) (LocG.of rfl (loc_alloc (by decide) z_36 zo_36)) (free1 (Free.of_ rfl)) ?_
 refine rA ?_ (x := kA)
 refine sw_seq ?_
 refine sw_seq ?_
 refine sO [(0, _), (2, _), (3, _)] [(2, (36, [PV.sl _ _, PV.val _, PV.val _]))] ?_
 refine sw_reg ?_
 refine rA ?_ (x := vM false [PV.sl .v _])
 refine rA ?_ (x := cL [(false, [PV.sl _ _])] [(false, [PV.sl .v _])] c_38 (hs := by exact impl_resultOk))
 refine rA ?_ (x := nT)
 refine sw_cond (t := 6) rfl (fun hb1 => ?_) (fun hb1 => ?_)
 ·try simp only [q1, q2, q3, q4, q5, q6, q7, q8, q9] at hb1
  refine sw_seq ?_
  refine sO [(0, _), (2, _), (3, _)] [(2, _)] ?_
  refine sw_reg ?_
  refine rA ?_ (x := loc_build (qs := []) (cs := [PV.sl _ _, PV.val _, PV.val _]) (by decide) z_36 zo_36 pl_36 (by exact rfl) (by exact ⟨⟩) rfl (by exact rfl))
  refine rA ?_ (x := loc_store (ag := true) (vs := [PV.sl _ _, PV.val _, PV.val _]) ty_36 (by exact ⟨⟩) (by exact rfl) (by exact Nat.le_of_ble_eq_true rfl))
  refine rA ?_ (x := kA)
  refine sw_ret ?_
  exact (Exists.intro 2 (Exists.intro _ (And.intro (by exact rfl) (And.intro (by refine box_eq ?_; simp [newBox, *]) (And.intro ty_36 (And.intro (fun h => nomatch h) (And.intro (by refine bool_eq ?_; simp [newBox, *]) True.intro)))))))
 ·try simp only [q1, q2, q3, q4, q5, q6, q7, q8, q9] at hb1
  refine sw_skip ?_
  refine sw_seq ?_
  refine sO [(0, _), (2, _), (3, _)] [(2, _)] ?_
  refine sw_reg ?_
  refine rA ?_ (x := vM false [PV.sl .v _])
  refine rA ?_ (x := cL [(false, [PV.sl _ _])] [(false, [PV.sl .v _])] c_39 (hs := by exact impl_copyRows (by omega)))
  refine rA ?_ (x := loc_build (qs := [(false, [PV.sl _ _])]) (cs := [PV.sl _ _, PV.val _, PV.val _]) (by decide) z_36 zo_36 pl_36 (by exact rfl) (by exact (And.intro (by exact ⟨⟩) True.intro)) rfl (by exact rfl))
  refine rA ?_ (x := loc_store (ag := true) (vs := [PV.sl _ _, PV.val _, PV.val _]) ty_36 (by exact ⟨⟩) (by exact rfl) (by exact Nat.le_of_ble_eq_true rfl))
  refine rA ?_ (x := kA)
  refine sw_ret ?_
  exact (Exists.intro 2 (Exists.intro _ (And.intro (by exact rfl) (And.intro (by refine box_eq ?_; simp [newBox, *]) (And.intro ty_36 (And.intro (fun h => nomatch h) (And.intro (by refine bool_eq ?_; simp [newBox, *]) True.intro)))))))
theorem spec_NewOutbox {p1 : Fl} {x : List Row}  (hb : wtRowS x ≤ 68719476736) : SCall Try.prog 37 [(false, [PV.sl .v (x.map (cRow p1))])] (resRV [(true, [PV.sl (.own 29 2) ((newBox x).1.Rows.map (cRow (.own 3 1))), PV.val (vI (newBox x).1.Acked), PV.val (vI (newBox x).1.Tries)]), (false, [PV.val (.bool (newBox x).2)])]) := by
 refine scall_of (rs := [(true, [PV.sl (.own 29 2) ((newBox x).1.Rows.map (cRow (.own 3 1))), PV.val (vI (newBox x).1.Acked), PV.val (vI (newBox x).1.Tries)]), (false, [PV.val (.bool (newBox x).2)])]) Try.func37 rfl (Nat.le_of_ble_eq_true rfl) (borA_cons (BorL.cons (PV.bor_sl _) BorL.nil) borA_nil) ?_
 intro h0 w0 Fz0
 refine sw_len (s := 0) rfl fun hl0 => ?_
 try rw [List.length_map] at hl0
 refine sw_seq ?_
 refine sw_reg ?_
 refine RunS.step (by exact ⟨⟩) (by exact ⟨⟩) (LocG.of rfl (loc_alloc (by decide) z_36 zo_36)) (free1 (Free.of_ rfl)) ?_
 refine rA ?_ (x := kA)
 refine sw_seq ?_
 refine sw_seq ?_
 refine sO [(0, _), (2, _), (3, _)] [(2, (36, [PV.sl _ _, PV.val _, PV.val _]))] ?_
 refine sw_reg ?_
 refine rA ?_ (x := vM false [PV.sl .v _])
 refine rA ?_ (x := cL [(false, [PV.sl _ _])] [(false, [PV.sl .v _])] c_47 (hs := by exact spec_l9List))
 refine rA ?_ (x := nT)
 refine sw_cond (t := 6) rfl (fun hb1 => ?_) (fun hb1 => ?_)
 ·try simp only [q1, q2, q3, q4, q5, q6, q7, q8, q9] at hb1
  refine sw_seq ?_
  refine sO [(0, _), (2, _), (3, _)] [(2, _)] ?_
  refine sw_reg ?_
  refine rA ?_ (x := loc_build (qs := []) (cs := [PV.sl _ _, PV.val _, PV.val _]) (by decide) z_36 zo_36 pl_36 (by exact rfl) (by exact ⟨⟩) rfl (by exact rfl))
  refine rA ?_ (x := loc_store (ag := true) (vs := [PV.sl _ _, PV.val _, PV.val _]) ty_36 (by exact ⟨⟩) (by exact rfl) (by exact Nat.le_of_ble_eq_true rfl))
  refine rA ?_ (x := kA)
  refine sw_ret ?_
  exact (Exists.intro 2 (Exists.intro _ (And.intro (by exact rfl) (And.intro (by refine box_eq ?_; simp [newBox, *]) (And.intro ty_36 (And.intro (fun h => nomatch h) (And.intro (by refine bool_eq ?_; simp [newBox, *]) True.intro)))))))
 ·try simp only [q1, q2, q3, q4, q5, q6, q7, q8, q9] at hb1
  refine sw_skip ?_
  refine sw_seq ?_
  refine sO [(0, _), (2, _), (3, _)] [(2, _)] ?_
  refine sw_reg ?_
  refine rA ?_ (x := vM false [PV.sl .v _])
  refine rA ?_ (x := cL [(false, [PV.sl _ _])] [(false, [PV.sl .v _])] c_45 (hs := by exact spec_l9Rows (by omega)))
  refine rA ?_ (x := loc_build (qs := [(false, [PV.sl _ _])]) (cs := [PV.sl _ _, PV.val _, PV.val _]) (by decide) z_36 zo_36 pl_36 (by exact rfl) (by exact (And.intro (by exact ⟨⟩) True.intro)) rfl (by exact rfl))
  refine rA ?_ (x := loc_store (ag := true) (vs := [PV.sl _ _, PV.val _, PV.val _]) ty_36 (by exact ⟨⟩) (by exact rfl) (by exact Nat.le_of_ble_eq_true rfl))
  refine rA ?_ (x := kA)
  refine sw_ret ?_
  exact (Exists.intro 2 (Exists.intro _ (And.intro (by exact rfl) (And.intro (by refine box_eq ?_; simp [newBox, *]) (And.intro ty_36 (And.intro (fun h => nomatch h) (And.intro (by refine bool_eq ?_; simp [newBox, *]) True.intro)))))))
theorem impl_copyClient {p1 : Fl} {x : Client}  (hb : wtClient x ≤ 68719476736) : SCall Try.prog 23 [(true, [PV.val (vI x.Next), PV.sl .v (x.Rows.map (cRow p1))])] (resRV [(true, [PV.val (vI x.Next), PV.sl (.own 29 2) (x.Rows.map (cRow (.own 3 1)))])]) := by
 refine scall_of (rs := [(true, [PV.val (vI x.Next), PV.sl (.own 29 2) (x.Rows.map (cRow (.own 3 1)))])]) Try.func23 rfl (Nat.le_of_ble_eq_true rfl) (borA_cons (BorL.cons (PV.bor_val _) (BorL.cons (PV.bor_sl _) BorL.nil)) borA_nil) ?_
 intro h0 w0 Fz0
 refine sw_slen (s := 0) (j := 1) rfl rfl fun hl0_1 => ?_
 try rw [List.length_map] at hl0_1
 have hbu := hb
 simp only [wtClient, wtInt] at hbu
 refine sw_seq ?_
 refine sw_reg ?_
 refine RunS.step (by exact ⟨rfl, ⟨⟩⟩) (by exact ⟨⟩) (LocG.of rfl (loc_box (ag := true) (cs := [PV.val _, PV.sl _ _]) (by decide) (by exact ⟨⟩))) (free1 (Free.of_ rfl)) ?_
 refine RunS.step (by exact ⟨⟩) (by exact ⟨⟩) (LocG.of rfl (loc_alloc (by decide) z_26 zo_26)) (free1 (Free.app (Free.of_ rfl) rfl)) ?_
 refine sw_seq ?_
 refine sO [(1, _), (2, _)] [(1, (26, [PV.val _, PV.sl _ _])), (2, (26, [PV.val _, PV.sl _ _]))] ?_
 refine sw_draw hm_ ?_
 refine dA 0 ?_ (x := lF fd_26_0)
 refine dA 1 ?_ (x := lD [PV.val _] ty_3)
 refine dA 0 ?_ (x := lF fd_26_1)
 refine dA 4 ?_ (x := lD [PV.sl .v _] ty_24)
 refine dA 12 ?_ (x := cL [(false, [PV.sl _ _])] [(false, [PV.sl .v _])] c_39 (hs := by exact impl_copyRows (by omega)))
 refine dA 31 ?_ (x := loc_build (qs := [(false, [PV.val _]), (false, [PV.sl _ _])]) (cs := [PV.val _, PV.sl _ _]) (by decide) z_26 zo_26 pl_26 (by exact rfl) (by exact (And.intro (by exact ⟨⟩) (And.intro (by exact ⟨⟩) True.intro))) rfl (by exact rfl))
 refine dA 63 ?_ (x := loc_store (ag := true) (vs := [PV.val _, PV.sl _ _]) ty_26 (by exact ⟨⟩) (by exact rfl) (by exact Nat.le_of_ble_eq_true rfl))
 refine sw_ret ?_
 exact (Exists.intro 2 (Exists.intro _ (And.intro (by exact rfl) (And.intro (by exact rfl) (And.intro ty_26 (And.intro (fun h => nomatch h) True.intro))))))
theorem spec_l17Client {p1 : Fl} {x : Client}  (hb : wtClient x ≤ 68719476736) : SCall Try.prog 27 [(true, [PV.val (vI x.Next), PV.sl .v (x.Rows.map (cRow p1))])] (resRV [(true, [PV.val (vI x.Next), PV.sl (.own 29 2) (x.Rows.map (cRow (.own 3 1)))])]) := by
 refine scall_of (rs := [(true, [PV.val (vI x.Next), PV.sl (.own 29 2) (x.Rows.map (cRow (.own 3 1)))])]) Try.func27 rfl (Nat.le_of_ble_eq_true rfl) (borA_cons (BorL.cons (PV.bor_val _) (BorL.cons (PV.bor_sl _) BorL.nil)) borA_nil) ?_
 intro h0 w0 Fz0
 refine sw_slen (s := 0) (j := 1) rfl rfl fun hl0_1 => ?_
 try rw [List.length_map] at hl0_1
 have hbu := hb
 simp only [wtClient, wtInt] at hbu
 refine sw_seq ?_
 refine sw_reg ?_
 refine RunS.step (by exact ⟨rfl, ⟨⟩⟩) (by exact ⟨⟩) (LocG.of rfl (loc_box (ag := true) (cs := [PV.val _, PV.sl _ _]) (by decide) (by exact ⟨⟩))) (free1 (Free.of_ rfl)) ?_
 refine RunS.step (by exact ⟨⟩) (by exact ⟨⟩) (LocG.of rfl (loc_alloc (by decide) z_26 zo_26)) (free1 (Free.app (Free.of_ rfl) rfl)) ?_
 refine sw_seq ?_
 refine sO [(1, _), (2, _)] [(1, (26, [PV.val _, PV.sl _ _])), (2, (26, [PV.val _, PV.sl _ _]))] ?_
 refine sw_draw hm_ ?_
 refine dA 0 ?_ (x := lF fd_26_0)
 refine dA 1 ?_ (x := lD [PV.val _] ty_3)
 refine dA 0 ?_ (x := lF fd_26_1)
 refine dA 4 ?_ (x := lD [PV.sl .v _] ty_24)
 refine dA 12 ?_ (x := cL [(false, [PV.sl _ _])] [(false, [PV.sl .v _])] c_45 (hs := by exact spec_l9Rows (by omega)))
 refine dA 31 ?_ (x := loc_build (qs := [(false, [PV.val _]), (false, [PV.sl _ _])]) (cs := [PV.val _, PV.sl _ _]) (by decide) z_26 zo_26 pl_26 (by exact rfl) (by exact (And.intro (by exact ⟨⟩) (And.intro (by exact ⟨⟩) True.intro))) rfl (by exact rfl))
 refine dA 63 ?_ (x := loc_store (ag := true) (vs := [PV.val _, PV.sl _ _]) ty_26 (by exact ⟨⟩) (by exact rfl) (by exact Nat.le_of_ble_eq_true rfl))
 refine sw_ret ?_
 exact (Exists.intro 2 (Exists.intro _ (And.intro (by exact rfl) (And.intro (by exact rfl) (And.intro ty_26 (And.intro (fun h => nomatch h) True.intro))))))
theorem impl_Receive {p1 : Fl} {c : Client} {n : Int} {r : Row}  (hb : wtClient c ≤ 68719476736) (hb2 : wtRow r ≤ 68719476736) : SCall Try.prog 7 [(true, [PV.val (vI c.Next), PV.sl .v (c.Rows.map (cRow p1))]), (false, [PV.val (vI n)]), (true, [PV.val (vI r.Id), PV.sl .v (r.Values.map cInt)])] (resRV [(true, [PV.val (vI (recv c n r).1.Next), PV.sl (.own 29 2) ((recv c n r).1.Rows.map (cRow (.own 3 1)))]), (false, [PV.val (vI (recv c n r).2)])]) := by
 refine scall_of (rs := [(true, [PV.val (vI (recv c n r).1.Next), PV.sl (.own 29 2) ((recv c n r).1.Rows.map (cRow (.own 3 1)))]), (false, [PV.val (vI (recv c n r).2)])]) Try.func7 rfl (Nat.le_of_ble_eq_true rfl) (borA_cons (BorL.cons (PV.bor_val _) (BorL.cons (PV.bor_sl _) BorL.nil)) (borA_cons (BorL.cons (PV.bor_val _) BorL.nil) (borA_cons (BorL.cons (PV.bor_val _) (BorL.cons (PV.bor_sl _) BorL.nil)) borA_nil))) ?_
 intro h0 w0 Fz0
 refine sw_slen (s := 0) (j := 1) rfl rfl fun hl0_1 => ?_
 try rw [List.length_map] at hl0_1
 refine sw_slen (s := 2) (j := 1) rfl rfl fun hl2_1 => ?_
 try rw [List.length_map] at hl2_1
 have hbu := hb
 simp only [wtClient, wtInt] at hbu
 have hln : c.Rows.length ≤ wtRowS c.Rows := Nat.le_add_right _ _
 refine sw_seq ?_
 refine sw_reg ?_
 refine RunS.step (by exact ⟨rfl, ⟨⟩⟩) (by exact ⟨⟩) (LocG.of rfl (loc_box (ag := true) (cs := [PV.val _, PV.sl _ _]) (by decide) (by exact ⟨⟩))) (free1 (Free.of_ rfl)) ?_
 refine RunS.step (by exact ⟨rfl, ⟨⟩⟩) (by exact ⟨⟩) (LocG.of rfl (loc_box (ag := true) (cs := [PV.val _, PV.sl _ _]) (by decide) (by exact ⟨⟩))) (free1 (Free.app (Free.of_ rfl) rfl)) ?_
 refine RunS.step (by exact ⟨⟩) (by exact ⟨⟩) (LocG.of rfl (loc_alloc (by decide) z_26 zo_26)) (free1 (Free.app (Free.app (Free.of_ rfl) rfl) rfl)) ?_
 refine rA ?_ (x := kA)
 refine sw_seq ?_
 refine sO [(1, _), (3, _), (5, _), (6, _), (7, _)] [(3, (26, [PV.val _, PV.sl _ _])), (5, (29, [PV.val _, PV.sl _ _])), (6, (26, [PV.val _, PV.sl _ _]))] ?_
 refine sw_reg ?_
 refine rA ?_ (x := lD [PV.val _, PV.sl .v _] ty_26)
 refine rA ?_ (x := cL [(true, [PV.val _, PV.sl _ _])] [(true, [PV.val _, PV.sl .v _])] c_23 (hs := by exact impl_copyClient (by omega)))
 refine RunS.step (by exact ⟨⟩) (by exact ⟨⟩) (LocG.of rfl (loc_alloc (by decide) z_26 zo_26)) (free1 (Free.app (Free.app (Free.of_ rfl) rfl) rfl)) ?_
 refine rA ?_ (x := loc_store (ag := true) (vs := [PV.val _, PV.sl _ _]) ty_26 (by exact ⟨⟩) (by exact rfl) (by exact Nat.le_of_ble_eq_true rfl))
 refine sw_seq ?_
 refine sw_seq ?_
 refine sO [(1, _), (3, _), (5, _), (6, _), (7, _), (8, _)] [(3, _), (5, _), (6, _), (8, (26, [PV.val _, PV.sl _ _]))] ?_
 refine sw_reg ?_
 refine rA ?_ (x := sM)
 refine rA ?_ (x := lF fd_26_0)
 refine rA ?_ (x := lD [PV.val _] ty_3)
 refine rA ?_ (x := B_eql)
 refine rA ?_ (x := sM)
 refine RunS.cases (s := 15) rfl (fun g1 => ?_) (fun g1 => ?_)
 ·have sg1 := g1
  try simp only [q1, q2, q3, q4, q5, q6, q7, q8, q9] at sg1
  refine rB g1 ?_ (x := lD [PV.val _, PV.sl .v _] ty_29)
  refine rB g1 ?_ (x := cL [(true, [PV.val _, PV.sl _ _])] [(true, [PV.val _, PV.sl .v _])] c_24 (hs := by exact impl_IsRow))
  refine rA ?_ (x := pkT g1)
  refine rA ?_ (x := sM)
  refine RunS.cases (s := 19) rfl (fun g2 => ?_) (fun g2 => ?_)
  ·have sg2 := g2
   try simp only [q1, q2, q3, q4, q5, q6, q7, q8, q9] at sg2
   refine rB g2 ?_ (x := lF fd_26_0)
   refine rB g2 ?_ (x := lD [PV.val _] ty_3)
   refine rB g2 ?_ (x := cL [(false, [PV.val _]), (false, [PV.val _]), (false, [PV.val _])] [(false, [PV.val _]), (false, [PV.val _]), (false, [PV.val _])] c_25 (hs := by exact impl_within))
   refine rA ?_ (x := pkT g2)
   refine sw_cond (t := 23) rfl (fun hb3 => ?_) (fun hb3 => ?_)
   ·try simp only [q1, q2, q3, q4, q5, q6, q7, q8, q9] at hb3
    have hin := hb3
    simp only [inB, Bool.and_eq_true, decide_eq_true_eq] at hin
    refine sw_seq ?_
    refine sO [(1, _), (3, _), (5, _), (6, _), (7, _), (8, _)] [(3, _), (5, _), (6, _), (8, _)] ?_
    refine sw_draw hm_ ?_
    refine dA 0 ?_ (x := lF fd_26_1)
    refine dA 1 ?_ (x := loc_ltake (ms := [PV.sl _ _]) (qs := [PV.sl .v _]) (by decide) ty_24 (fun _ => rfl) (by exact Nat.le_of_ble_eq_true rfl) (by exact rfl) (by exact (ToL.cons PV.to_none ToL.nil)) (by exact (BorL.cons (PV.bor_sl _) BorL.nil)))
    refine dA 0 ?_ (x := lD [PV.val _, PV.sl .v _] ty_29)
    refine dA 4 ?_ (x := cL [(true, [PV.val _, PV.sl _ _])] [(true, [PV.val _, PV.sl .v _])] c_26 (hs := by exact impl_copyRow (by omega)))
    refine dA 12 ?_ (x := loc_bslice (qs := [(true, [PV.val _, PV.sl _ _])]) (by decide) sl_24 z_29 (by decide) rfl rfl rfl rfl rfl (by exact Nat.le_of_ble_eq_true rfl) (by exact (And.intro (by exact ⟨⟩) True.intro)) rfl)
    refine dA 31 ?_ (x := loc_append (by decide) sl_24 z_29 rfl rfl (by decide) rfl (by simp only [List.length_map, List.length_append, List.length_cons, List.length_nil]; omega) (by simp only [List.length_map, List.length_append, List.length_cons, List.length_nil]; omega))
    refine dA 63 ?_ (x := lF fd_26_1)
    refine dA 127 ?_ (x := loc_store (ag := false) (vs := [PV.sl _ _]) ty_24 (by exact ⟨⟩) (by exact rfl) (by exact Nat.le_of_ble_eq_true rfl))
    refine sO [(1, _), (3, _), (5, _), (6, _), (7, _), (8, _)] [(3, _), (5, _), (6, _), (8, (26, [PV.val _, PV.sl _ _]))] ?_
    refine sw_reg ?_
    refine rA ?_ (x := lF fd_26_0)
    refine rA ?_ (x := lD [PV.val _] ty_3)
    refine rA ?_ (x := B_add)
    refine rA ?_ (x := lF fd_26_0)
    refine rA ?_ (x := loc_store (ag := false) (vs := [PV.val _]) ty_3 (by exact ⟨⟩) (by exact rfl) (by exact Nat.le_of_ble_eq_true rfl))
    refine sw_seq ?_
    refine sO [(1, _), (3, _), (5, _), (6, _), (7, _), (8, _)] [(3, _), (5, _), (6, _), (8, (26, [PV.val _, PV.sl _ _]))] ?_
    refine sw_lendB (d := 8) (G := 1008) (by exact rfl) (by exact rfl) fun us hus hR => ?_
    obtain ⟨u4_0, u4_1, rfl⟩ := us_2 hus
    obtain rfl := relval hR (j := 0) rfl rfl
    refine sO [(1, _), (3, _), (5, _), (6, _), (7, _), (8, _), (1008, _)] [(3, _), (5, _), (6, _), (8, (26, [PV.val _, PV.val _]))] ?_
    refine sw_draw hm_ ?_
    refine dA 0 ?_ (x := lD [PV.val _, PV.val _] ty_26)
    refine dA 0 ?_ (x := lF fd_26_0)
    refine dA 2 ?_ (x := lD [PV.val _] ty_3)
    refine dA 1 ?_ (x := loc_store (ag := true) (vs := [PV.val _, PV.val _]) ty_26 (by exact ⟨⟩) (by exact rfl) (by exact Nat.le_of_ble_eq_true rfl))
    refine dA 15 ?_ (x := sA)
    refine sw_backB (d := 6) (G := 1008) (by exact rfl) (by exact (Nm.val (Nm.val Nm.nil))) (by exact rfl) ?_
    refine sw_ret ?_
    exact (Exists.intro 6 (Exists.intro _ (And.intro (by exact rfl) (And.intro (by refine box_eq ?_; simp_all [recv, recvOk, cClient, cRow, cInt]) (And.intro ty_26 (And.intro (fun h => nomatch h) (And.intro (by refine int_eq ?_; simp_all [recv, recvOk, cClient, cRow, cInt]) True.intro)))))))
   ·try simp only [q1, q2, q3, q4, q5, q6, q7, q8, q9] at hb3
    refine sw_skip ?_
    refine sw_seq ?_
    refine sO [(1, _), (3, _), (5, _), (6, _), (7, _), (8, _)] [(3, _), (5, _), (6, _), (8, _)] ?_
    refine sw_lendB (d := 8) (G := 1008) (by exact rfl) (by exact rfl) fun us hus hR => ?_
    obtain ⟨u5_0, u5_1, rfl⟩ := us_2 hus
    obtain rfl := relval hR (j := 0) rfl rfl
    refine sO [(1, _), (3, _), (5, _), (6, _), (7, _), (8, _), (1008, _)] [(3, _), (5, _), (6, _), (8, (26, [PV.val _, PV.val _]))] ?_
    refine sw_draw hm_ ?_
    refine dA 0 ?_ (x := lD [PV.val _, PV.val _] ty_26)
    refine dA 0 ?_ (x := lF fd_26_0)
    refine dA 2 ?_ (x := lD [PV.val _] ty_3)
    refine dA 1 ?_ (x := loc_store (ag := true) (vs := [PV.val _, PV.val _]) ty_26 (by exact ⟨⟩) (by exact rfl) (by exact Nat.le_of_ble_eq_true rfl))
    refine dA 15 ?_ (x := sA)
    refine sw_backB (d := 6) (G := 1008) (by exact rfl) (by exact (Nm.val (Nm.val Nm.nil))) (by exact rfl) ?_
    refine sw_ret ?_
    exact (Exists.intro 6 (Exists.intro _ (And.intro (by exact rfl) (And.intro (by refine box_eq ?_; simp_all [recv, recvOk, cClient, cRow, cInt]) (And.intro ty_26 (And.intro (fun h => nomatch h) (And.intro (by refine int_eq ?_; simp_all [recv, recvOk, cClient, cRow, cInt]) True.intro)))))))
  ·have sg2 := g2
   try simp only [q1, q2, q3, q4, q5, q6, q7, q8, q9] at sg2
   refine RunS.s0f g2 ?_
   refine RunS.s0f g2 ?_
   refine RunS.s0f g2 ?_
   refine rA ?_ (x := pkF g2)
   refine sw_cond (t := 23) rfl (fun hb_ => nomatch hb_) (fun hb_ => ?_)
   refine sw_skip ?_
   refine sw_seq ?_
   refine sO [(1, _), (3, _), (5, _), (6, _), (7, _), (8, _)] [(3, _), (5, _), (6, _), (8, _)] ?_
   refine sw_lendB (d := 8) (G := 1008) (by exact rfl) (by exact rfl) fun us hus hR => ?_
   obtain ⟨u7_0, u7_1, rfl⟩ := us_2 hus
   obtain rfl := relval hR (j := 0) rfl rfl
   refine sO [(1, _), (3, _), (5, _), (6, _), (7, _), (8, _), (1008, _)] [(3, _), (5, _), (6, _), (8, (26, [PV.val _, PV.val _]))] ?_
   refine sw_draw hm_ ?_
   refine dA 0 ?_ (x := lD [PV.val _, PV.val _] ty_26)
   refine dA 0 ?_ (x := lF fd_26_0)
   refine dA 2 ?_ (x := lD [PV.val _] ty_3)
   refine dA 1 ?_ (x := loc_store (ag := true) (vs := [PV.val _, PV.val _]) ty_26 (by exact ⟨⟩) (by exact rfl) (by exact Nat.le_of_ble_eq_true rfl))
   refine dA 15 ?_ (x := sA)
   refine sw_backB (d := 6) (G := 1008) (by exact rfl) (by exact (Nm.val (Nm.val Nm.nil))) (by exact rfl) ?_
   refine sw_ret ?_
   exact (Exists.intro 6 (Exists.intro _ (And.intro (by exact rfl) (And.intro (by refine box_eq ?_; simp_all [recv, recvOk, cClient, cRow, cInt]) (And.intro ty_26 (And.intro (fun h => nomatch h) (And.intro (by refine int_eq ?_; simp_all [recv, recvOk, cClient, cRow, cInt]) True.intro)))))))
 ·have sg1 := g1
  try simp only [q1, q2, q3, q4, q5, q6, q7, q8, q9] at sg1
  refine RunS.s0f g1 ?_
  refine RunS.s0f g1 ?_
  refine rA ?_ (x := pkF g1)
  refine rA ?_ (x := sM)
  refine RunS.cases (s := 19) rfl (fun g8 => nomatch g8) (fun g8 => ?_)
  refine RunS.s0f g8 ?_
  refine RunS.s0f g8 ?_
  refine RunS.s0f g8 ?_
  refine rA ?_ (x := pkF g8)
  refine sw_cond (t := 23) rfl (fun hb_ => nomatch hb_) (fun hb_ => ?_)
  refine sw_skip ?_
  refine sw_seq ?_
  refine sO [(1, _), (3, _), (5, _), (6, _), (7, _), (8, _)] [(3, _), (5, _), (6, _), (8, _)] ?_
  refine sw_lendB (d := 8) (G := 1008) (by exact rfl) (by exact rfl) fun us hus hR => ?_
  obtain ⟨u10_0, u10_1, rfl⟩ := us_2 hus
  obtain rfl := relval hR (j := 0) rfl rfl
  refine sO [(1, _), (3, _), (5, _), (6, _), (7, _), (8, _), (1008, _)] [(3, _), (5, _), (6, _), (8, (26, [PV.val _, PV.val _]))] ?_
  refine sw_draw hm_ ?_
  refine dA 0 ?_ (x := lD [PV.val _, PV.val _] ty_26)
  refine dA 0 ?_ (x := lF fd_26_0)
  refine dA 2 ?_ (x := lD [PV.val _] ty_3)
  refine dA 1 ?_ (x := loc_store (ag := true) (vs := [PV.val _, PV.val _]) ty_26 (by exact ⟨⟩) (by exact rfl) (by exact Nat.le_of_ble_eq_true rfl))
  refine dA 15 ?_ (x := sA)
  refine sw_backB (d := 6) (G := 1008) (by exact rfl) (by exact (Nm.val (Nm.val Nm.nil))) (by exact rfl) ?_
  refine sw_ret ?_
  exact (Exists.intro 6 (Exists.intro _ (And.intro (by exact rfl) (And.intro (by refine box_eq ?_; simp_all [recv, recvOk, cClient, cRow, cInt]) (And.intro ty_26 (And.intro (fun h => nomatch h) (And.intro (by refine int_eq ?_; simp_all [recv, recvOk, cClient, cRow, cInt]) True.intro)))))))
theorem spec_Receive {p1 : Fl} {c : Client} {n : Int} {r : Row}  (hb : wtClient c ≤ 68719476736) (hb2 : wtRow r ≤ 68719476736) : SCall Try.prog 8 [(true, [PV.val (vI c.Next), PV.sl .v (c.Rows.map (cRow p1))]), (false, [PV.val (vI n)]), (true, [PV.val (vI r.Id), PV.sl .v (r.Values.map cInt)])] (resRV [(true, [PV.val (vI (recv c n r).1.Next), PV.sl (.own 29 2) ((recv c n r).1.Rows.map (cRow (.own 3 1)))]), (false, [PV.val (vI (recv c n r).2)])]) := by
 refine scall_of (rs := [(true, [PV.val (vI (recv c n r).1.Next), PV.sl (.own 29 2) ((recv c n r).1.Rows.map (cRow (.own 3 1)))]), (false, [PV.val (vI (recv c n r).2)])]) Try.func8 rfl (Nat.le_of_ble_eq_true rfl) (borA_cons (BorL.cons (PV.bor_val _) (BorL.cons (PV.bor_sl _) BorL.nil)) (borA_cons (BorL.cons (PV.bor_val _) BorL.nil) (borA_cons (BorL.cons (PV.bor_val _) (BorL.cons (PV.bor_sl _) BorL.nil)) borA_nil))) ?_
 intro h0 w0 Fz0
 refine sw_slen (s := 0) (j := 1) rfl rfl fun hl0_1 => ?_
 try rw [List.length_map] at hl0_1
 refine sw_slen (s := 2) (j := 1) rfl rfl fun hl2_1 => ?_
 try rw [List.length_map] at hl2_1
 have hbu := hb
 simp only [wtClient, wtInt] at hbu
 have hln : c.Rows.length ≤ wtRowS c.Rows := Nat.le_add_right _ _
 refine sw_seq ?_
 refine sw_reg ?_
 refine RunS.step (by exact ⟨rfl, ⟨⟩⟩) (by exact ⟨⟩) (LocG.of rfl (loc_box (ag := true) (cs := [PV.val _, PV.sl _ _]) (by decide) (by exact ⟨⟩))) (free1 (Free.of_ rfl)) ?_
 refine RunS.step (by exact ⟨rfl, ⟨⟩⟩) (by exact ⟨⟩) (LocG.of rfl (loc_box (ag := true) (cs := [PV.val _, PV.sl _ _]) (by decide) (by exact ⟨⟩))) (free1 (Free.app (Free.of_ rfl) rfl)) ?_
 refine RunS.step (by exact ⟨⟩) (by exact ⟨⟩) (LocG.of rfl (loc_alloc (by decide) z_26 zo_26)) (free1 (Free.app (Free.app (Free.of_ rfl) rfl) rfl)) ?_
 refine rA ?_ (x := kA)
 refine sw_seq ?_
 refine sO [(1, _), (3, _), (5, _), (6, _), (7, _)] [(3, (26, [PV.val _, PV.sl _ _])), (5, (29, [PV.val _, PV.sl _ _])), (6, (26, [PV.val _, PV.sl _ _]))] ?_
 refine sw_reg ?_
 refine rA ?_ (x := lD [PV.val _, PV.sl .v _] ty_26)
 refine rA ?_ (x := cL [(true, [PV.val _, PV.sl _ _])] [(true, [PV.val _, PV.sl .v _])] c_27 (hs := by exact spec_l17Client (by omega)))
 refine RunS.step (by exact ⟨⟩) (by exact ⟨⟩) (LocG.of rfl (loc_alloc (by decide) z_26 zo_26)) (free1 (Free.app (Free.app (Free.of_ rfl) rfl) rfl)) ?_
 refine rA ?_ (x := loc_store (ag := true) (vs := [PV.val _, PV.sl _ _]) ty_26 (by exact ⟨⟩) (by exact rfl) (by exact Nat.le_of_ble_eq_true rfl))
 refine sw_seq ?_
 refine sw_seq ?_
 refine sO [(1, _), (3, _), (5, _), (6, _), (7, _), (8, _)] [(3, _), (5, _), (6, _), (8, (26, [PV.val _, PV.sl _ _]))] ?_
 refine sw_reg ?_
 refine rA ?_ (x := sM)
 refine rA ?_ (x := lF fd_26_0)
 refine rA ?_ (x := lD [PV.val _] ty_3)
 refine rA ?_ (x := B_eql)
 refine rA ?_ (x := sM)
 refine RunS.cases (s := 15) rfl (fun g1 => ?_) (fun g1 => ?_)
 ·have sg1 := g1
  try simp only [q1, q2, q3, q4, q5, q6, q7, q8, q9] at sg1
  refine rB g1 ?_ (x := lD [PV.val _, PV.sl .v _] ty_29)
  refine rB g1 ?_ (x := cL [(true, [PV.val _, PV.sl _ _])] [(true, [PV.val _, PV.sl .v _])] c_28 (hs := by exact spec_IsRow))
  refine rA ?_ (x := pkT g1)
  refine rA ?_ (x := sM)
  refine RunS.cases (s := 19) rfl (fun g2 => ?_) (fun g2 => ?_)
  ·have sg2 := g2
   try simp only [q1, q2, q3, q4, q5, q6, q7, q8, q9] at sg2
   refine rB g2 ?_ (x := lF fd_26_0)
   refine rB g2 ?_ (x := lD [PV.val _] ty_3)
   refine rB g2 ?_ (x := cL [(false, [PV.val _]), (false, [PV.val _]), (false, [PV.val _])] [(false, [PV.val _]), (false, [PV.val _]), (false, [PV.val _])] c_29 (hs := by exact spec_l1In))
   refine rA ?_ (x := pkT g2)
   refine sw_cond (t := 23) rfl (fun hb3 => ?_) (fun hb3 => ?_)
   ·try simp only [q1, q2, q3, q4, q5, q6, q7, q8, q9] at hb3
    have hin := hb3
    simp only [inB, Bool.and_eq_true, decide_eq_true_eq] at hin
    refine sw_seq ?_
    refine sO [(1, _), (3, _), (5, _), (6, _), (7, _), (8, _)] [(3, _), (5, _), (6, _), (8, _)] ?_
    refine sw_draw hm_ ?_
    refine dA 0 ?_ (x := lF fd_26_1)
    refine dA 1 ?_ (x := loc_ltake (ms := [PV.sl _ _]) (qs := [PV.sl .v _]) (by decide) ty_24 (fun _ => rfl) (by exact Nat.le_of_ble_eq_true rfl) (by exact rfl) (by exact (ToL.cons PV.to_none ToL.nil)) (by exact (BorL.cons (PV.bor_sl _) BorL.nil)))
    refine dA 0 ?_ (x := lD [PV.val _, PV.sl .v _] ty_29)
    refine dA 4 ?_ (x := cL [(true, [PV.val _, PV.sl _ _])] [(true, [PV.val _, PV.sl .v _])] c_30 (hs := by exact spec_l3Copy (by omega)))
    refine dA 12 ?_ (x := loc_bslice (qs := [(true, [PV.val _, PV.sl _ _])]) (by decide) sl_24 z_29 (by decide) rfl rfl rfl rfl rfl (by exact Nat.le_of_ble_eq_true rfl) (by exact (And.intro (by exact ⟨⟩) True.intro)) rfl)
    refine dA 31 ?_ (x := loc_append (by decide) sl_24 z_29 rfl rfl (by decide) rfl (by simp only [List.length_map, List.length_append, List.length_cons, List.length_nil]; omega) (by simp only [List.length_map, List.length_append, List.length_cons, List.length_nil]; omega))
    refine dA 63 ?_ (x := lF fd_26_1)
    refine dA 127 ?_ (x := loc_store (ag := false) (vs := [PV.sl _ _]) ty_24 (by exact ⟨⟩) (by exact rfl) (by exact Nat.le_of_ble_eq_true rfl))
    refine sO [(1, _), (3, _), (5, _), (6, _), (7, _), (8, _)] [(3, _), (5, _), (6, _), (8, (26, [PV.val _, PV.sl _ _]))] ?_
    refine sw_reg ?_
    refine rA ?_ (x := lF fd_26_0)
    refine rA ?_ (x := lD [PV.val _] ty_3)
    refine rA ?_ (x := B_add)
    refine rA ?_ (x := lF fd_26_0)
    refine rA ?_ (x := loc_store (ag := false) (vs := [PV.val _]) ty_3 (by exact ⟨⟩) (by exact rfl) (by exact Nat.le_of_ble_eq_true rfl))
    refine sw_seq ?_
    refine sO [(1, _), (3, _), (5, _), (6, _), (7, _), (8, _)] [(3, _), (5, _), (6, _), (8, (26, [PV.val _, PV.sl _ _]))] ?_
    refine sw_lendB (d := 8) (G := 1008) (by exact rfl) (by exact rfl) fun us hus hR => ?_
    obtain ⟨u4_0, u4_1, rfl⟩ := us_2 hus
    obtain rfl := relval hR (j := 0) rfl rfl
    refine sO [(1, _), (3, _), (5, _), (6, _), (7, _), (8, _), (1008, _)] [(3, _), (5, _), (6, _), (8, (26, [PV.val _, PV.val _]))] ?_
    refine sw_draw hm_ ?_
    refine dA 0 ?_ (x := lD [PV.val _, PV.val _] ty_26)
    refine dA 0 ?_ (x := lF fd_26_0)
    refine dA 2 ?_ (x := lD [PV.val _] ty_3)
    refine dA 1 ?_ (x := loc_store (ag := true) (vs := [PV.val _, PV.val _]) ty_26 (by exact ⟨⟩) (by exact rfl) (by exact Nat.le_of_ble_eq_true rfl))
    refine dA 15 ?_ (x := sA)
    refine sw_backB (d := 6) (G := 1008) (by exact rfl) (by exact (Nm.val (Nm.val Nm.nil))) (by exact rfl) ?_
    refine sw_ret ?_
    exact (Exists.intro 6 (Exists.intro _ (And.intro (by exact rfl) (And.intro (by refine box_eq ?_; simp_all [recv, recvOk, cClient, cRow, cInt]) (And.intro ty_26 (And.intro (fun h => nomatch h) (And.intro (by refine int_eq ?_; simp_all [recv, recvOk, cClient, cRow, cInt]) True.intro)))))))
   ·try simp only [q1, q2, q3, q4, q5, q6, q7, q8, q9] at hb3
    refine sw_skip ?_
    refine sw_seq ?_
    refine sO [(1, _), (3, _), (5, _), (6, _), (7, _), (8, _)] [(3, _), (5, _), (6, _), (8, _)] ?_
    refine sw_lendB (d := 8) (G := 1008) (by exact rfl) (by exact rfl) fun us hus hR => ?_
    obtain ⟨u5_0, u5_1, rfl⟩ := us_2 hus
    obtain rfl := relval hR (j := 0) rfl rfl
    refine sO [(1, _), (3, _), (5, _), (6, _), (7, _), (8, _), (1008, _)] [(3, _), (5, _), (6, _), (8, (26, [PV.val _, PV.val _]))] ?_
    refine sw_draw hm_ ?_
    refine dA 0 ?_ (x := lD [PV.val _, PV.val _] ty_26)
    refine dA 0 ?_ (x := lF fd_26_0)
    refine dA 2 ?_ (x := lD [PV.val _] ty_3)
    refine dA 1 ?_ (x := loc_store (ag := true) (vs := [PV.val _, PV.val _]) ty_26 (by exact ⟨⟩) (by exact rfl) (by exact Nat.le_of_ble_eq_true rfl))
    refine dA 15 ?_ (x := sA)
    refine sw_backB (d := 6) (G := 1008) (by exact rfl) (by exact (Nm.val (Nm.val Nm.nil))) (by exact rfl) ?_
    refine sw_ret ?_
    exact (Exists.intro 6 (Exists.intro _ (And.intro (by exact rfl) (And.intro (by refine box_eq ?_; simp_all [recv, recvOk, cClient, cRow, cInt]) (And.intro ty_26 (And.intro (fun h => nomatch h) (And.intro (by refine int_eq ?_; simp_all [recv, recvOk, cClient, cRow, cInt]) True.intro)))))))
  ·have sg2 := g2
   try simp only [q1, q2, q3, q4, q5, q6, q7, q8, q9] at sg2
   refine RunS.s0f g2 ?_
   refine RunS.s0f g2 ?_
   refine RunS.s0f g2 ?_
   refine rA ?_ (x := pkF g2)
   refine sw_cond (t := 23) rfl (fun hb_ => nomatch hb_) (fun hb_ => ?_)
   refine sw_skip ?_
   refine sw_seq ?_
   refine sO [(1, _), (3, _), (5, _), (6, _), (7, _), (8, _)] [(3, _), (5, _), (6, _), (8, _)] ?_
   refine sw_lendB (d := 8) (G := 1008) (by exact rfl) (by exact rfl) fun us hus hR => ?_
   obtain ⟨u7_0, u7_1, rfl⟩ := us_2 hus
   obtain rfl := relval hR (j := 0) rfl rfl
   refine sO [(1, _), (3, _), (5, _), (6, _), (7, _), (8, _), (1008, _)] [(3, _), (5, _), (6, _), (8, (26, [PV.val _, PV.val _]))] ?_
   refine sw_draw hm_ ?_
   refine dA 0 ?_ (x := lD [PV.val _, PV.val _] ty_26)
   refine dA 0 ?_ (x := lF fd_26_0)
   refine dA 2 ?_ (x := lD [PV.val _] ty_3)
   refine dA 1 ?_ (x := loc_store (ag := true) (vs := [PV.val _, PV.val _]) ty_26 (by exact ⟨⟩) (by exact rfl) (by exact Nat.le_of_ble_eq_true rfl))
   refine dA 15 ?_ (x := sA)
   refine sw_backB (d := 6) (G := 1008) (by exact rfl) (by exact (Nm.val (Nm.val Nm.nil))) (by exact rfl) ?_
   refine sw_ret ?_
   exact (Exists.intro 6 (Exists.intro _ (And.intro (by exact rfl) (And.intro (by refine box_eq ?_; simp_all [recv, recvOk, cClient, cRow, cInt]) (And.intro ty_26 (And.intro (fun h => nomatch h) (And.intro (by refine int_eq ?_; simp_all [recv, recvOk, cClient, cRow, cInt]) True.intro)))))))
 ·have sg1 := g1
  try simp only [q1, q2, q3, q4, q5, q6, q7, q8, q9] at sg1
  refine RunS.s0f g1 ?_
  refine RunS.s0f g1 ?_
  refine rA ?_ (x := pkF g1)
  refine rA ?_ (x := sM)
  refine RunS.cases (s := 19) rfl (fun g8 => nomatch g8) (fun g8 => ?_)
  refine RunS.s0f g8 ?_
  refine RunS.s0f g8 ?_
  refine RunS.s0f g8 ?_
  refine rA ?_ (x := pkF g8)
  refine sw_cond (t := 23) rfl (fun hb_ => nomatch hb_) (fun hb_ => ?_)
  refine sw_skip ?_
  refine sw_seq ?_
  refine sO [(1, _), (3, _), (5, _), (6, _), (7, _), (8, _)] [(3, _), (5, _), (6, _), (8, _)] ?_
  refine sw_lendB (d := 8) (G := 1008) (by exact rfl) (by exact rfl) fun us hus hR => ?_
  obtain ⟨u10_0, u10_1, rfl⟩ := us_2 hus
  obtain rfl := relval hR (j := 0) rfl rfl
  refine sO [(1, _), (3, _), (5, _), (6, _), (7, _), (8, _), (1008, _)] [(3, _), (5, _), (6, _), (8, (26, [PV.val _, PV.val _]))] ?_
  refine sw_draw hm_ ?_
  refine dA 0 ?_ (x := lD [PV.val _, PV.val _] ty_26)
  refine dA 0 ?_ (x := lF fd_26_0)
  refine dA 2 ?_ (x := lD [PV.val _] ty_3)
  refine dA 1 ?_ (x := loc_store (ag := true) (vs := [PV.val _, PV.val _]) ty_26 (by exact ⟨⟩) (by exact rfl) (by exact Nat.le_of_ble_eq_true rfl))
  refine dA 15 ?_ (x := sA)
  refine sw_backB (d := 6) (G := 1008) (by exact rfl) (by exact (Nm.val (Nm.val Nm.nil))) (by exact rfl) ?_
  refine sw_ret ?_
  exact (Exists.intro 6 (Exists.intro _ (And.intro (by exact rfl) (And.intro (by refine box_eq ?_; simp_all [recv, recvOk, cClient, cRow, cInt]) (And.intro ty_26 (And.intro (fun h => nomatch h) (And.intro (by refine int_eq ?_; simp_all [recv, recvOk, cClient, cRow, cInt]) True.intro)))))))
theorem impl_ResumeFrom {p1 : Fl} {o : Outbox} {n : Int}  (hb : wtOutbox o ≤ 68719476736) : SCall Try.prog 18 [(true, [PV.sl .v (o.Rows.map (cRow p1)), PV.val (vI o.Acked), PV.val (vI o.Tries)]), (false, [PV.val (vI n)])] (resRV [(false, [PV.sl (.own 29 2) ((resume o n).map (cRow (.own 3 1)))])]) := by
 refine scall_of (rs := [(false, [PV.sl (.own 29 2) ((resume o n).map (cRow (.own 3 1)))])]) Try.func18 rfl (Nat.le_of_ble_eq_true rfl) (borA_cons (BorL.cons (PV.bor_sl _) (BorL.cons (PV.bor_val _) (BorL.cons (PV.bor_val _) BorL.nil))) (borA_cons (BorL.cons (PV.bor_val _) BorL.nil) borA_nil)) ?_
 intro h0 w0 Fz0
 refine sw_slen (s := 0) (j := 0) rfl rfl fun hl0_0 => ?_
 try rw [List.length_map] at hl0_0
 have hbu := hb
 simp only [wtOutbox, wtInt] at hbu
 have hwd : wtRowS (o.Rows.drop n.toNat) ≤ wtRowS o.Rows := wt_drop _ _
 refine sw_seq ?_
 refine sw_reg ?_
 refine RunS.step (by exact ⟨rfl, ⟨⟩⟩) (by exact ⟨⟩) (LocG.of rfl (loc_box (ag := true) (cs := [PV.sl _ _, PV.val _, PV.val _]) (by decide) (by exact ⟨⟩))) (free1 (Free.of_ rfl)) ?_
 refine rA ?_ (x := loc_const (.inr rfl) (by decide) (ok_nil (t := 29) (e := 2)))
 refine sw_seq ?_
 refine sw_seq ?_
 refine sO [(1, _), (2, _), (4, _)] [(2, (36, [PV.sl _ _, PV.val _, PV.val _]))] ?_
 refine sw_reg ?_
 refine rA ?_ (x := lD [PV.sl .v _, PV.val _, PV.val _] ty_36)
 refine rA ?_ (x := cL [(true, [PV.sl _ _, PV.val _, PV.val _])] [(true, [PV.sl .v _, PV.val _, PV.val _])] c_17 (hs := by exact impl_IsOutbox))
 refine rA ?_ (x := nT)
 refine rA ?_ (x := sM)
 refine RunS.cases (s := 8) rfl (fun g1 => ?_) (fun g1 => ?_)
 ·have sg1 := g1
  try simp only [q1, q2, q3, q4, q5, q6, q7, q8, q9] at sg1
  refine RunS.s0t g1 ?_
  refine RunS.s0t g1 ?_
  refine RunS.s0t g1 ?_
  refine RunS.s0t g1 ?_
  refine RunS.s0t g1 ?_
  refine RunS.s0t g1 ?_
  refine rA ?_ (x := pkT g1)
  refine sw_cond (t := 15) rfl (fun hb_ => ?_) (fun hb_ => nomatch hb_)
  refine sw_seq ?_
  refine sO [(1, _), (2, _), (4, _)] [(2, _)] ?_
  refine sw_reg ?_
  refine rA ?_ (x := loc_const (.inr rfl) (by decide) (ok_nil (t := 29) (e := 2)))
  refine sw_ret ?_
  exact (And.intro (by refine slc_eq ?_; simp_all [resume]) True.intro)
 ·have sg1 := g1
  try simp only [q1, q2, q3, q4, q5, q6, q7, q8, q9] at sg1
  refine rB g1 ?_ (x := sM)
  refine rB g1 ?_ (x := lF fd_36_0)
  refine rB g1 ?_ (x := lD [PV.sl .v _] ty_24)
  refine rB g1 ?_ (x := lN sl_24)
  refine rB g1 ?_ (x := cL [(false, [PV.val _]), (false, [PV.val _]), (false, [PV.val _])] [(false, [PV.val _]), (false, [PV.val _]), (false, [PV.val _])] c_25 (hs := by exact impl_within))
  refine rB g1 ?_ (x := nT)
  refine rA ?_ (x := pkF g1)
  refine sw_cond (t := 15) rfl (fun hb3 => ?_) (fun hb3 => ?_)
  ·try simp only [q1, q2, q3, q4, q5, q6, q7, q8, q9] at hb3
   refine sw_seq ?_
   refine sO [(1, _), (2, _), (4, _)] [(2, _)] ?_
   refine sw_reg ?_
   refine rA ?_ (x := loc_const (.inr rfl) (by decide) (ok_nil (t := 29) (e := 2)))
   refine sw_ret ?_
   exact (And.intro (by refine slc_eq ?_; simp_all [resume]) True.intro)
  ·try simp only [q1, q2, q3, q4, q5, q6, q7, q8, q9] at hb3
   have hin := hb3
   simp [inB] at hin
   refine sw_skip ?_
   refine sw_seq ?_
   refine sO [(1, _), (2, _), (4, _)] [(2, _)] ?_
   refine sw_reg ?_
   refine rA ?_ (x := lF fd_36_0)
   refine rA ?_ (x := lD [PV.sl .v _] ty_24)
   refine rA ?_ (x := sM)
   refine rA ?_ (x := loc_sliceM (i := n.toNat) (j := o.Rows.length) (ys := (o.Rows.drop n.toNat)) (r := ((o.Rows.length : Nat) : Int)) (by decide) sl_24 (by exact ⟨⟩) (by exact rfl) (by omega) (by omega) (by omega) (by omega) (fun _ => rfl) (by simp))
   refine rA ?_ (x := cL [(false, [PV.sl _ _])] [(false, [PV.sl .v _])] c_39 (hs := by exact impl_copyRows (by omega)))
   refine rA ?_ (x := tA)
   refine sw_ret ?_
   exact (And.intro (by refine slc_eq ?_; simp_all [resume]) True.intro)
end Go.Proofs.Ytdoabhihpclliaa
