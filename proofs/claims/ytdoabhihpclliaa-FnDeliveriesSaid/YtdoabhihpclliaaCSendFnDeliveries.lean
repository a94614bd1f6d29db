/- What functions of the program compute. No condition. -/
import Derived.Test.YtdoabhihpclliaaCDelivFnDeliveries
import Derived.KernelRfl
set_option linter.unusedVariables false
set_option linter.unusedSimpArgs false
namespace Go.Proofs.Ytdoabhihpclliaa
open Go Go.RowKit M
set_option maxRecDepth 10000
attribute [local irreducible] PV.Lcl PV.LclR RV.Lcl
theorem impl_SendNext {p1 p3 : Fl} {o : Outbox} {c : Client} {fate : Int}  (hb : wtOutbox o ≤ 17179869184) (hb2 : wtClient c ≤ 17179869184) : SCall Try.prog 11 [(true, [PV.sl .v (o.Rows.map (cRow p1)), PV.val (vI o.Acked), PV.val (vI o.Tries)]), (true, [PV.val (vI c.Next), PV.sl .v (c.Rows.map (cRow p3))]), (false, [PV.val (vI fate)])] (resRV [(true, [PV.sl (.own 29 2) ((send o c fate).1.Rows.map (cRow (.own 3 1))), PV.val (vI (send o c fate).1.Acked), PV.val (vI (send o c fate).1.Tries)]), (true, [PV.val (vI (send o c fate).2.1.Next), PV.sl (.own 29 2) ((send o c fate).2.1.Rows.map (cRow (.own 3 1)))]), (false, [PV.val (.bool (send o c fate).2.2)])]) := by
 refine scall_of (rs := [(true, [PV.sl (.own 29 2) ((send o c fate).1.Rows.map (cRow (.own 3 1))), PV.val (vI (send o c fate).1.Acked), PV.val (vI (send o c fate).1.Tries)]), (true, [PV.val (vI (send o c fate).2.1.Next), PV.sl (.own 29 2) ((send o c fate).2.1.Rows.map (cRow (.own 3 1)))]), (false, [PV.val (.bool (send o c fate).2.2)])]) Try.func11 rfl (Nat.le_of_ble_eq_true rfl) (borA_cons (BorL.cons (PV.bor_sl _) (BorL.cons (PV.bor_val _) (BorL.cons (PV.bor_val _) BorL.nil))) (borA_cons (BorL.cons (PV.bor_val _) (BorL.cons (PV.bor_sl _) BorL.nil)) (borA_cons (BorL.cons (PV.bor_val _) BorL.nil) borA_nil))) ?_
 intro h0 w0 Fz0
 refine sw_slen (s := 0) (j := 0) rfl rfl fun hl0_0 => ?_
 try rw [List.length_map] at hl0_0
 refine sw_slen (s := 1) (j := 1) rfl rfl fun hl1_1 => ?_
 try rw [List.length_map] at hl1_1
 have hbu := hb
 simp only [wtOutbox, wtInt] at hbu
 have hbv := hb2
 simp only [wtClient, wtInt] at hbv
 refine sw_seq ?_
 refine sw_reg ?_
 refine RunS.step (by exact ⟨rfl, ⟨⟩⟩) (by exact ⟨⟩) (LocG.of rfl (loc_box (ag := true) (cs := [PV.sl _ _, PV.val _, PV.val _]) (by decide) (by exact ⟨⟩))) (free1 (Free.of_ rfl)) ?_
 refine RunS.step (by exact ⟨rfl, ⟨⟩⟩) (by exact ⟨⟩) (LocG.of rfl (loc_box (ag := true) (cs := [PV.val _, PV.sl _ _]) (by decide) (by exact ⟨⟩))) (free1 (Free.app (Free.of_ rfl) rfl)) ?_
 refine RunS.step (by exact ⟨⟩) (by exact ⟨⟩) (LocG.of rfl (loc_alloc (by decide) z_36 zo_36)) (free1 (Free.app (Free.app (Free.of_ rfl) rfl) rfl)) ?_
 refine RunS.step (by exact ⟨⟩) (by exact ⟨⟩) (LocG.of rfl (loc_alloc (by decide) z_26 zo_26)) (free1 (Free.app (Free.app (Free.app (Free.of_ rfl) rfl) rfl) rfl)) ?_
 refine rA ?_ (x := kA)
 refine sw_seq ?_
 refine sO [(2, _), (3, _), (4, _), (6, _), (7, _), (8, _)] [(3, (36, [PV.sl _ _, PV.val _, PV.val _])), (4, (26, [PV.val _, PV.sl _ _])), (6, (36, [PV.sl _ _, PV.val _, PV.val _])), (7, (26, [PV.val _, PV.sl _ _]))] ?_
 refine sw_draw hm_ ?_
 refine dA 0 ?_ (x := lD [PV.sl .v _, PV.val _, PV.val _] ty_36)
 refine dA 1 ?_ (x := cL [(true, [PV.sl _ _, PV.val _, PV.val _])] [(true, [PV.sl .v _, PV.val _, PV.val _])] c_32 (hs := by exact impl_copyOutbox (by omega)))
 refine dA 0 ?_ (x := lD [PV.val _, PV.sl .v _] ty_26)
 refine dA 7 ?_ (x := cL [(true, [PV.val _, PV.sl _ _])] [(true, [PV.val _, PV.sl .v _])] c_23 (hs := by exact impl_copyClient (by omega)))
 refine Run.step 0 (by exact ⟨⟩) (by exact ⟨⟩) (LocG.of rfl (loc_alloc (by decide) z_36 zo_36)) (free1 (Free.of_ rfl)) (by kernel_rfl) ?_
 refine Run.step 0 (by exact ⟨⟩) (by exact ⟨⟩) (LocG.of rfl (loc_alloc (by decide) z_26 zo_26)) (free1 (Free.of_ rfl)) (by kernel_rfl) ?_
 refine dA 63 ?_ (x := loc_store (ag := true) (vs := [PV.sl _ _, PV.val _, PV.val _]) ty_36 (by exact ⟨⟩) (by exact rfl) (by exact Nat.le_of_ble_eq_true rfl))
 refine dA 127 ?_ (x := loc_store (ag := true) (vs := [PV.val _, PV.sl _ _]) ty_26 (by exact ⟨⟩) (by exact rfl) (by exact Nat.le_of_ble_eq_true rfl))
 refine sw_seq ?_
 refine sw_seq ?_
 refine sO [(2, _), (3, _), (4, _), (6, _), (7, _), (8, _), (9, _), (10, _)] [(3, _), (4, _), (6, _), (7, _), (9, (36, [PV.sl _ _, PV.val _, PV.val _])), (10, (26, [PV.val _, PV.sl _ _]))] ?_
 refine sw_reg ?_
 refine rA ?_ (x := lD [PV.sl .v _, PV.val _, PV.val _] ty_36)
 refine rA ?_ (x := cL [(true, [PV.sl _ _, PV.val _, PV.val _])] [(true, [PV.sl .v _, PV.val _, PV.val _])] c_17 (hs := by exact impl_IsOutbox))
 refine rA ?_ (x := nT)
 refine rA ?_ (x := sM)
 refine RunS.cases (s := 19) rfl (fun g1 => ?_) (fun g1 => ?_)
 ·have sg1 := g1
  try simp only [q1, q2, q3, q4, q5, q6, q7, q8, q9] at sg1
  refine RunS.s0t g1 ?_
  refine RunS.s0t g1 ?_
  refine RunS.s0t g1 ?_
  refine RunS.s0t g1 ?_
  refine RunS.s0t g1 ?_
  refine RunS.s0t g1 ?_
  refine rA ?_ (x := pkT g1)
  refine rA ?_ (x := sM)
  refine RunS.cases (s := 27) rfl (fun g2 => ?_) (fun g2 => nomatch g2)
  refine RunS.s0t g2 ?_
  refine RunS.s0t g2 ?_
  refine RunS.s0t g2 ?_
  refine rA ?_ (x := pkT g2)
  refine sw_cond (t := 31) rfl (fun hb_ => ?_) (fun hb_ => nomatch hb_)
  have hs : sendOk o = false := by
   cases ho : okBox o with
   | false => simp [sendOk, ho]
   | true =>
    have := okBox_facts ho
    simp [sendOk, ho]
    simp_all
    try omega
  refine sw_seq ?_
  refine sO [(2, _), (3, _), (4, _), (6, _), (7, _), (8, _), (9, _), (10, _)] [(3, _), (4, _), (6, _), (7, _), (9, _), (10, _)] ?_
  refine sw_draw hm_ ?_
  refine dA 0 ?_ (x := loc_ltake (ms := [PV.sl _ _, PV.val _, PV.val _]) (qs := [PV.sl .v _, PV.val _, PV.val _]) (by decide) ty_36 (fun h => nomatch h) (by exact Nat.le_of_ble_eq_true rfl) (by exact rfl) (by exact (ToL.cons PV.to_none (ToL.cons (PV.To.refl _) (ToL.cons (PV.To.refl _) ToL.nil)))) (by exact (BorL.cons (PV.bor_sl _) (BorL.cons (PV.bor_val _) (BorL.cons (PV.bor_val _) BorL.nil)))))
  refine dA 0 ?_ (x := loc_ltake (ms := [PV.val _, PV.sl _ _]) (qs := [PV.val _, PV.sl .v _]) (by decide) ty_26 (fun h => nomatch h) (by exact Nat.le_of_ble_eq_true rfl) (by exact rfl) (by exact (ToL.cons (PV.To.refl _) (ToL.cons PV.to_none ToL.nil))) (by exact (BorL.cons (PV.bor_val _) (BorL.cons (PV.bor_sl _) BorL.nil))))
  refine dA 1 ?_ (x := loc_store (ag := true) (vs := [PV.sl _ _, PV.val _, PV.val _]) ty_36 (by exact ⟨⟩) (by exact rfl) (by exact Nat.le_of_ble_eq_true rfl))
  refine dA 7 ?_ (x := loc_store (ag := true) (vs := [PV.val _, PV.sl _ _]) ty_26 (by exact ⟨⟩) (by exact rfl) (by exact Nat.le_of_ble_eq_true rfl))
  refine dA 15 ?_ (x := kA)
  refine sw_ret ?_
  exact (Exists.intro 6 (Exists.intro _ (And.intro (by exact rfl) (And.intro (by refine box_eq ?_; first | (exfalso; omega) | simp [send, sendTo, cOutbox, cClient, *]) (And.intro ty_36 (And.intro (fun h => nomatch h) (Exists.intro 7 (Exists.intro _ (And.intro (by exact rfl) (And.intro (by refine box_eq ?_; first | (exfalso; omega) | simp [send, sendTo, cOutbox, cClient, *]) (And.intro ty_26 (And.intro (fun h => nomatch h) (And.intro (by refine bool_eq ?_; first | (exfalso; omega) | simp [send, sendTo, cOutbox, cClient, *]) True.intro)))))))))))))
 ·have sg1 := g1
  try simp only [q1, q2, q3, q4, q5, q6, q7, q8, q9] at sg1
  refine rB g1 ?_ (x := lF fd_36_1)
  refine rB g1 ?_ (x := lD [PV.val _] ty_3)
  refine rB g1 ?_ (x := lF fd_36_0)
  refine rB g1 ?_ (x := lD [PV.sl .v _] ty_24)
  refine rB g1 ?_ (x := lN sl_24)
  refine rB g1 ?_ (x := B_eql)
  refine rA ?_ (x := pkF g1)
  refine rA ?_ (x := sM)
  refine RunS.cases (s := 27) rfl (fun g4 => ?_) (fun g4 => ?_)
  ·have sg4 := g4
   try simp only [q1, q2, q3, q4, q5, q6, q7, q8, q9] at sg4
   refine RunS.s0t g4 ?_
   refine RunS.s0t g4 ?_
   refine RunS.s0t g4 ?_
   refine rA ?_ (x := pkT g4)
   refine sw_cond (t := 31) rfl (fun hb_ => ?_) (fun hb_ => nomatch hb_)
   have hs : sendOk o = false := by
    cases ho : okBox o with
    | false => simp [sendOk, ho]
    | true =>
     have := okBox_facts ho
     simp [sendOk, ho]
     simp_all
     try omega
   refine sw_seq ?_
   refine sO [(2, _), (3, _), (4, _), (6, _), (7, _), (8, _), (9, _), (10, _)] [(3, _), (4, _), (6, _), (7, _), (9, _), (10, _)] ?_
   refine sw_draw hm_ ?_
   refine dA 0 ?_ (x := loc_ltake (ms := [PV.sl _ _, PV.val _, PV.val _]) (qs := [PV.sl .v _, PV.val _, PV.val _]) (by decide) ty_36 (fun h => nomatch h) (by exact Nat.le_of_ble_eq_true rfl) (by exact rfl) (by exact (ToL.cons PV.to_none (ToL.cons (PV.To.refl _) (ToL.cons (PV.To.refl _) ToL.nil)))) (by exact (BorL.cons (PV.bor_sl _) (BorL.cons (PV.bor_val _) (BorL.cons (PV.bor_val _) BorL.nil)))))
   refine dA 0 ?_ (x := loc_ltake (ms := [PV.val _, PV.sl _ _]) (qs := [PV.val _, PV.sl .v _]) (by decide) ty_26 (fun h => nomatch h) (by exact Nat.le_of_ble_eq_true rfl) (by exact rfl) (by exact (ToL.cons (PV.To.refl _) (ToL.cons PV.to_none ToL.nil))) (by exact (BorL.cons (PV.bor_val _) (BorL.cons (PV.bor_sl _) BorL.nil))))
   refine dA 1 ?_ (x := loc_store (ag := true) (vs := [PV.sl _ _, PV.val _, PV.val _]) ty_36 (by exact ⟨⟩) (by exact rfl) (by exact Nat.le_of_ble_eq_true rfl))
   refine dA 7 ?_ (x := loc_store (ag := true) (vs := [PV.val _, PV.sl _ _]) ty_26 (by exact ⟨⟩) (by exact rfl) (by exact Nat.le_of_ble_eq_true rfl))
   refine dA 15 ?_ (x := kA)
   refine sw_ret ?_
   exact (Exists.intro 6 (Exists.intro _ (And.intro (by exact rfl) (And.intro (by refine box_eq ?_; first | (exfalso; omega) | simp [send, sendTo, cOutbox, cClient, *]) (And.intro ty_36 (And.intro (fun h => nomatch h) (Exists.intro 7 (Exists.intro _ (And.intro (by exact rfl) (And.intro (by refine box_eq ?_; first | (exfalso; omega) | simp [send, sendTo, cOutbox, cClient, *]) (And.intro ty_26 (And.intro (fun h => nomatch h) (And.intro (by refine bool_eq ?_; first | (exfalso; omega) | simp [send, sendTo, cOutbox, cClient, *]) True.intro)))))))))))))
  ·have sg4 := g4
   try simp only [q1, q2, q3, q4, q5, q6, q7, q8, q9] at sg4
   refine rB g4 ?_ (x := lF fd_36_2)
   refine rB g4 ?_ (x := lD [PV.val _] ty_3)
   refine rB g4 ?_ (x := B_eql)
   refine rA ?_ (x := pkF g4)
   refine sw_cond (t := 31) rfl (fun hb6 => ?_) (fun hb6 => ?_)
   ·try simp only [q1, q2, q3, q4, q5, q6, q7, q8, q9] at hb6
    have hs : sendOk o = false := by
     cases ho : okBox o with
     | false => simp [sendOk, ho]
     | true =>
      have := okBox_facts ho
      simp [sendOk, ho]
      simp_all
      try omega
    refine sw_seq ?_
    refine sO [(2, _), (3, _), (4, _), (6, _), (7, _), (8, _), (9, _), (10, _)] [(3, _), (4, _), (6, _), (7, _), (9, _), (10, _)] ?_
    refine sw_draw hm_ ?_
    refine dA 0 ?_ (x := loc_ltake (ms := [PV.sl _ _, PV.val _, PV.val _]) (qs := [PV.sl .v _, PV.val _, PV.val _]) (by decide) ty_36 (fun h => nomatch h) (by exact Nat.le_of_ble_eq_true rfl) (by exact rfl) (by exact (ToL.cons PV.to_none (ToL.cons (PV.To.refl _) (ToL.cons (PV.To.refl _) ToL.nil)))) (by exact (BorL.cons (PV.bor_sl _) (BorL.cons (PV.bor_val _) (BorL.cons (PV.bor_val _) BorL.nil)))))
    refine dA 0 ?_ (x := loc_ltake (ms := [PV.val _, PV.sl _ _]) (qs := [PV.val _, PV.sl .v _]) (by decide) ty_26 (fun h => nomatch h) (by exact Nat.le_of_ble_eq_true rfl) (by exact rfl) (by exact (ToL.cons (PV.To.refl _) (ToL.cons PV.to_none ToL.nil))) (by exact (BorL.cons (PV.bor_val _) (BorL.cons (PV.bor_sl _) BorL.nil))))
    refine dA 1 ?_ (x := loc_store (ag := true) (vs := [PV.sl _ _, PV.val _, PV.val _]) ty_36 (by exact ⟨⟩) (by exact rfl) (by exact Nat.le_of_ble_eq_true rfl))
    refine dA 7 ?_ (x := loc_store (ag := true) (vs := [PV.val _, PV.sl _ _]) ty_26 (by exact ⟨⟩) (by exact rfl) (by exact Nat.le_of_ble_eq_true rfl))
    refine dA 15 ?_ (x := kA)
    refine sw_ret ?_
    exact (Exists.intro 6 (Exists.intro _ (And.intro (by exact rfl) (And.intro (by refine box_eq ?_; first | (exfalso; omega) | simp [send, sendTo, cOutbox, cClient, *]) (And.intro ty_36 (And.intro (fun h => nomatch h) (Exists.intro 7 (Exists.intro _ (And.intro (by exact rfl) (And.intro (by refine box_eq ?_; first | (exfalso; omega) | simp [send, sendTo, cOutbox, cClient, *]) (And.intro ty_26 (And.intro (fun h => nomatch h) (And.intro (by refine bool_eq ?_; first | (exfalso; omega) | simp [send, sendTo, cOutbox, cClient, *]) True.intro)))))))))))))
   ·try simp only [q1, q2, q3, q4, q5, q6, q7, q8, q9] at hb6
    have hs : sendOk o = true := by
     have ho : okBox o = true := by simp_all
     have := okBox_facts ho
     simp [sendOk, ho]
     simp_all
     try omega
    have hf := sendOk_facts hs
    have hwr := wt_rowAt o.Rows o.Acked
    have hrw := recv_wt c o.Acked (rowAt o.Rows o.Acked)
    refine sw_skip ?_
    refine sw_seq ?_
    refine sO [(2, _), (3, _), (4, _), (6, _), (7, _), (8, _), (9, _), (10, _)] [(3, _), (4, _), (6, _), (7, _), (9, _), (10, _)] ?_
    refine sw_reg ?_
    refine rA ?_ (x := lF fd_36_2)
    refine rA ?_ (x := lD [PV.val _] ty_3)
    refine rA ?_ (x := B_add)
    refine rA ?_ (x := lF fd_36_2)
    refine rA ?_ (x := loc_store (ag := false) (vs := [PV.val _]) ty_3 (by exact ⟨⟩) (by exact rfl) (by exact Nat.le_of_ble_eq_true rfl))
    refine sw_seq ?_
    refine sw_seq ?_
    refine sO [(2, _), (3, _), (4, _), (6, _), (7, _), (8, _), (9, _), (10, _)] [(3, _), (4, _), (6, _), (7, _), (9, (36, [PV.sl _ _, PV.val _, PV.val _])), (10, _)] ?_
    refine sw_reg ?_
    refine rA ?_ (x := sM)
    refine rA ?_ (x := B_eql)
    refine sw_cond (t := 39) rfl (fun hb7 => ?_) (fun hb7 => ?_)
    ·try simp only [q1, q2, q3, q4, q5, q6, q7, q8, q9] at hb7
     refine sw_seq ?_
     refine sO [(2, _), (3, _), (4, _), (6, _), (7, _), (8, _), (9, _), (10, _)] [(3, _), (4, _), (6, _), (7, _), (9, _), (10, _)] ?_
     refine sw_draw hm_ ?_
     refine dA 0 ?_ (x := loc_ltake (ms := [PV.sl _ _, PV.val _, PV.val _]) (qs := [PV.sl .v _, PV.val _, PV.val _]) (by decide) ty_36 (fun h => nomatch h) (by exact Nat.le_of_ble_eq_true rfl) (by exact rfl) (by exact (ToL.cons PV.to_none (ToL.cons (PV.To.refl _) (ToL.cons (PV.To.refl _) ToL.nil)))) (by exact (BorL.cons (PV.bor_sl _) (BorL.cons (PV.bor_val _) (BorL.cons (PV.bor_val _) BorL.nil)))))
     refine dA 0 ?_ (x := loc_ltake (ms := [PV.val _, PV.sl _ _]) (qs := [PV.val _, PV.sl .v _]) (by decide) ty_26 (fun h => nomatch h) (by exact Nat.le_of_ble_eq_true rfl) (by exact rfl) (by exact (ToL.cons (PV.To.refl _) (ToL.cons PV.to_none ToL.nil))) (by exact (BorL.cons (PV.bor_val _) (BorL.cons (PV.bor_sl _) BorL.nil))))
     refine dA 1 ?_ (x := loc_store (ag := true) (vs := [PV.sl _ _, PV.val _, PV.val _]) ty_36 (by exact ⟨⟩) (by exact rfl) (by exact Nat.le_of_ble_eq_true rfl))
     refine dA 7 ?_ (x := loc_store (ag := true) (vs := [PV.val _, PV.sl _ _]) ty_26 (by exact ⟨⟩) (by exact rfl) (by exact Nat.le_of_ble_eq_true rfl))
     refine dA 15 ?_ (x := kA)
     refine sw_ret ?_
     exact (Exists.intro 6 (Exists.intro _ (And.intro (by exact rfl) (And.intro (by refine box_eq ?_; first | (exfalso; omega) | simp [send, sendTo, cOutbox, cClient, *]) (And.intro ty_36 (And.intro (fun h => nomatch h) (Exists.intro 7 (Exists.intro _ (And.intro (by exact rfl) (And.intro (by refine box_eq ?_; first | (exfalso; omega) | simp [send, sendTo, cOutbox, cClient, *]) (And.intro ty_26 (And.intro (fun h => nomatch h) (And.intro (by refine bool_eq ?_; first | (exfalso; omega) | simp [send, sendTo, cOutbox, cClient, *]) True.intro)))))))))))))
    ·try simp only [q1, q2, q3, q4, q5, q6, q7, q8, q9] at hb7
     refine sw_skip ?_
     refine sw_seq ?_
     refine sO [(2, _), (3, _), (4, _), (6, _), (7, _), (8, _), (9, _), (10, _)] [(3, _), (4, _), (6, _), (7, _), (9, _), (10, _)] ?_
     refine sw_split (c := 9) (AI := []) hm_ rfl rfl rfl rfl (by kernel_rfl) (fun j L h => nomatch h) (fun j L h => nomatch h) ?_
     refine Run.stepC 0 (by exact ⟨rfl, ⟨⟩⟩) (by exact ⟨rfl, ⟨⟩⟩) (LocG.of rfl (loc_load (qs := [PV.val _, PV.sl .v _]) (by decide) ty_26 (fun h => nomatch h) (by exact Nat.le_of_ble_eq_true rfl) (by exact (ToL.cons (PV.To.refl _) (ToL.cons PV.to_none ToL.nil))) (by exact (BorL.cons (PV.bor_val _) (BorL.cons (PV.bor_sl _) BorL.nil))))) nofree (by kernel_rfl) (by show (List.all _ _) = true; kernel_rfl) ?_
     refine Run.stepC 0 (by exact ⟨rfl, ⟨⟩⟩) (by exact ⟨⟩) (LocG.of rfl (loc_field (by decide) fd_36_1)) nofree (by kernel_rfl) (by show (List.all _ _) = true; kernel_rfl) ?_
     refine Run.stepC 2 (by exact ⟨rfl, ⟨⟩⟩) (by exact ⟨rfl, ⟨⟩⟩) (LocG.of rfl (loc_load (qs := [PV.val _]) (by decide) ty_3 (fun _ => rfl) (by exact Nat.le_of_ble_eq_true rfl) (by exact (ToL.cons (PV.To.refl _) ToL.nil)) (by exact (BorL.cons (PV.bor_val _) BorL.nil)))) nofree (by kernel_rfl) (by show (List.all _ _) = true; kernel_rfl) ?_
     refine Run.stepC 0 (by exact ⟨rfl, ⟨⟩⟩) (by exact ⟨⟩) (LocG.of rfl (loc_field (by decide) fd_36_0)) nofree (by kernel_rfl) (by show (List.all _ _) = true; kernel_rfl) ?_
     refine Run.stepC 8 (by exact ⟨rfl, ⟨⟩⟩) (by exact ⟨rfl, ⟨⟩⟩) (LocG.of rfl (loc_load (qs := [PV.sl .v _]) (by decide) ty_24 (fun _ => rfl) (by exact Nat.le_of_ble_eq_true rfl) (by exact (ToL.cons PV.to_none ToL.nil)) (by exact (BorL.cons (PV.bor_sl _) BorL.nil)))) nofree (by kernel_rfl) (by show (List.all _ _) = true; kernel_rfl) ?_
     refine Run.stepC 0 (by exact ⟨rfl, ⟨⟩⟩) (by exact ⟨⟩) (LocG.of rfl (loc_field (by decide) fd_36_1)) nofree (by kernel_rfl) (by show (List.all _ _) = true; kernel_rfl) ?_
     refine Run.stepC 32 (by exact ⟨rfl, ⟨⟩⟩) (by exact ⟨rfl, ⟨⟩⟩) (LocG.of rfl (loc_load (qs := [PV.val _]) (by decide) ty_3 (fun _ => rfl) (by exact Nat.le_of_ble_eq_true rfl) (by exact (ToL.cons (PV.To.refl _) ToL.nil)) (by exact (BorL.cons (PV.bor_val _) BorL.nil)))) nofree (by kernel_rfl) (by show (List.all _ _) = true; kernel_rfl) ?_
     refine Run.stepC 120 (by exact ⟨rfl, rfl, ⟨⟩⟩) (by exact ⟨⟩) (LocG.of rfl (loc_index (k := o.Acked.toNat) (by decide) sl_24 (by exact ⟨⟩) (by omega) (by exact getm2 hf.2.1 (by rw [rowAt_eq hf.1 hf.2.1])) (by exact rfl))) nofree (by kernel_rfl) (by show (List.all _ _) = true; kernel_rfl) ?_
     refine Run.stepC 248 (by exact ⟨rfl, ⟨⟩⟩) (by exact ⟨⟩) (LocG.of rfl (loc_eload (qs := [PV.val _, PV.sl .v _]) (by decide) ty_29 (fun h => nomatch h) (by exact Nat.le_of_ble_eq_true rfl) (by exact (ToL.cons (PV.To.refl _) (ToL.cons PV.to_none ToL.nil))) (by exact (BorL.cons (PV.bor_val _) (BorL.cons (PV.bor_sl _) BorL.nil))))) nofree (by kernel_rfl) (by show (List.all _ _) = true; kernel_rfl) ?_
     refine mid_call (G := 2000) (qs := [(true, [PV.val _, PV.sl _ _]), (false, [PV.val _]), (true, [PV.val _, PV.sl _ _])]) (as_ := [(true, [PV.val _, PV.sl .v _]), (false, [PV.val _]), (true, [PV.val _, PV.sl .v _])]) (by decide) c_7 (by exact ⟨rfl, rfl, rfl, ⟨⟩⟩) (by exact (And.intro (by exact ⟨⟩) (And.intro (by exact ⟨⟩) (And.intro (by exact ⟨⟩) True.intro)))) (by exact (And.intro (And.intro rfl (ToL.cons (PV.To.refl _) (ToL.cons PV.to_none ToL.nil))) (And.intro (And.intro rfl (ToL.cons (PV.To.refl _) ToL.nil)) (And.intro (And.intro rfl (ToL.cons (PV.To.refl _) (ToL.cons PV.to_none ToL.nil))) True.intro)))) (by exact impl_Receive (by omega) (by omega)) (by kernel_rfl) (by kernel_rfl) fun uss hU0 => ?_
     obtain ⟨us0, r0, rfl, hl0, hR0, hU1⟩ := RelU.cons hU0
     obtain ⟨u8_0_0, u8_0_1, rfl⟩ := us_2 hl0
     obtain rfl := relval hR0 (j := 0) rfl rfl
     obtain ⟨us1, r1, rfl, hl1, hR1, hU2⟩ := RelU.cons hU1
     obtain ⟨u8_1_0, rfl⟩ := us_1 hl1
     obtain rfl := relval hR1 (j := 0) rfl rfl
     obtain rfl := RelU.nil hU2
     clear hR0 hU0 hR1 hU1 hU2
     refine Run.stepC 1023 (by exact ⟨rfl, ⟨⟩⟩) (by exact ⟨⟩) (LocG.of rfl (loc_take (.inl rfl) (by decide))) nofree (by kernel_rfl) (by intro L' h; exact nomatch (show (none : Option Step) = some L' from h)) ?_
     refine Run.stepC 2047 (by exact ⟨rfl, ⟨⟩⟩) (by exact ⟨⟩) (LocG.of rfl (loc_extractb (cs := [PV.val _, PV.val _]) (by decide) (by exact rfl) (by exact (BorL.cons (PV.bor_val _) (BorL.cons (PV.bor_val _) BorL.nil))))) nofree (by kernel_rfl) (by intro L' h; exact nomatch (show (none : Option Step) = some L' from h)) ?_
     refine Run.stepC 2047 (by exact ⟨rfl, ⟨⟩⟩) (by exact ⟨⟩) (LocG.of rfl (loc_extractb (cs := [PV.val _]) (by decide) (by exact rfl) (by exact (BorL.cons (PV.bor_val _) BorL.nil)))) nofree (by kernel_rfl) (by intro L' h; exact nomatch (show (none : Option Step) = some L' from h)) ?_
     refine Run.stepC 4095 (by exact ⟨rfl, rfl, ⟨⟩⟩) (by exact ⟨rfl, ⟨⟩⟩) (LocG.of rfl (loc_store (ag := true) (vs := [PV.val _, PV.val _]) ty_26 (by exact ⟨⟩) (by exact rfl) (by exact Nat.le_of_ble_eq_true rfl))) nofree (by kernel_rfl) (by intro L' h; exact nomatch (show (none : Option Step) = some L' from h)) ?_
     refine Run.stepC 16383 (by exact ⟨rfl, ⟨⟩⟩) (by exact ⟨⟩) (LocG.of rfl (loc_copy (.inr rfl) (by decide) (by exact Cp.sc))) nofree (by kernel_rfl) (by intro L' h; exact nomatch (show (none : Option Step) = some L' from h)) ?_
     refine sw_backB (d := 10) (G := 2000) (by exact rfl) (by exact (Nm.val (Nm.val Nm.nil))) (by exact rfl) ?_
     refine sw_backS (s := 11) (G := 2001) (by exact rfl) (by exact (Nm.val Nm.nil)) rfl (by decide) (by exact rfl) ?_
     refine sw_seq ?_
     refine sw_seq ?_
     refine sO [(2, _), (3, _), (4, _), (6, _), (7, _), (8, _), (9, _), (10, _), (11, _)] [(3, _), (4, _), (6, _), (7, _), (9, _), (10, (26, [PV.val _, PV.sl _ _]))] ?_
     refine sw_reg ?_
     refine rA ?_ (x := sM)
     refine rA ?_ (x := B_eql)
     refine sw_cond (t := 56) rfl (fun hb9 => ?_) (fun hb9 => ?_)
     ·try simp only [q1, q2, q3, q4, q5, q6, q7, q8, q9] at hb9
      refine sO [(2, _), (3, _), (4, _), (6, _), (7, _), (8, _), (9, _), (10, _), (11, _)] [(3, _), (4, _), (6, _), (7, _), (9, _), (10, _)] ?_
      refine sw_split (c := 9) (AI := []) hm_ rfl rfl rfl rfl (by kernel_rfl) (fun j L h => nomatch h) (fun j L h => nomatch h) ?_
      refine Run.stepC 0 (by exact ⟨rfl, ⟨⟩⟩) (by exact ⟨rfl, ⟨⟩⟩) (LocG.of rfl (loc_load (qs := [PV.val _, PV.sl .v _]) (by decide) ty_26 (fun h => nomatch h) (by exact Nat.le_of_ble_eq_true rfl) (by exact (ToL.cons (PV.To.refl _) (ToL.cons PV.to_none ToL.nil))) (by exact (BorL.cons (PV.bor_val _) (BorL.cons (PV.bor_sl _) BorL.nil))))) nofree (by kernel_rfl) (by show (List.all _ _) = true; kernel_rfl) ?_
      refine Run.stepC 0 (by exact ⟨rfl, ⟨⟩⟩) (by exact ⟨⟩) (LocG.of rfl (loc_field (by decide) fd_36_1)) nofree (by kernel_rfl) (by show (List.all _ _) = true; kernel_rfl) ?_
      refine Run.stepC 2 (by exact ⟨rfl, ⟨⟩⟩) (by exact ⟨rfl, ⟨⟩⟩) (LocG.of rfl (loc_load (qs := [PV.val _]) (by decide) ty_3 (fun _ => rfl) (by exact Nat.le_of_ble_eq_true rfl) (by exact (ToL.cons (PV.To.refl _) ToL.nil)) (by exact (BorL.cons (PV.bor_val _) BorL.nil)))) nofree (by kernel_rfl) (by show (List.all _ _) = true; kernel_rfl) ?_
      refine Run.stepC 0 (by exact ⟨rfl, ⟨⟩⟩) (by exact ⟨⟩) (LocG.of rfl (loc_field (by decide) fd_36_0)) nofree (by kernel_rfl) (by show (List.all _ _) = true; kernel_rfl) ?_
      refine Run.stepC 8 (by exact ⟨rfl, ⟨⟩⟩) (by exact ⟨rfl, ⟨⟩⟩) (LocG.of rfl (loc_load (qs := [PV.sl .v _]) (by decide) ty_24 (fun _ => rfl) (by exact Nat.le_of_ble_eq_true rfl) (by exact (ToL.cons PV.to_none ToL.nil)) (by exact (BorL.cons (PV.bor_sl _) BorL.nil)))) nofree (by kernel_rfl) (by show (List.all _ _) = true; kernel_rfl) ?_
      refine Run.stepC 0 (by exact ⟨rfl, ⟨⟩⟩) (by exact ⟨⟩) (LocG.of rfl (loc_field (by decide) fd_36_1)) nofree (by kernel_rfl) (by show (List.all _ _) = true; kernel_rfl) ?_
      refine Run.stepC 32 (by exact ⟨rfl, ⟨⟩⟩) (by exact ⟨rfl, ⟨⟩⟩) (LocG.of rfl (loc_load (qs := [PV.val _]) (by decide) ty_3 (fun _ => rfl) (by exact Nat.le_of_ble_eq_true rfl) (by exact (ToL.cons (PV.To.refl _) ToL.nil)) (by exact (BorL.cons (PV.bor_val _) BorL.nil)))) nofree (by kernel_rfl) (by show (List.all _ _) = true; kernel_rfl) ?_
      refine Run.stepC 120 (by exact ⟨rfl, rfl, ⟨⟩⟩) (by exact ⟨⟩) (LocG.of rfl (loc_index (k := o.Acked.toNat) (by decide) sl_24 (by exact ⟨⟩) (by omega) (by exact getm2 hf.2.1 (by rw [rowAt_eq hf.1 hf.2.1])) (by exact rfl))) nofree (by kernel_rfl) (by show (List.all _ _) = true; kernel_rfl) ?_
      refine Run.stepC 248 (by exact ⟨rfl, ⟨⟩⟩) (by exact ⟨⟩) (LocG.of rfl (loc_eload (qs := [PV.val _, PV.sl .v _]) (by decide) ty_29 (fun h => nomatch h) (by exact Nat.le_of_ble_eq_true rfl) (by exact (ToL.cons (PV.To.refl _) (ToL.cons PV.to_none ToL.nil))) (by exact (BorL.cons (PV.bor_val _) (BorL.cons (PV.bor_sl _) BorL.nil))))) nofree (by kernel_rfl) (by show (List.all _ _) = true; kernel_rfl) ?_
      refine mid_call (G := 2000) (qs := [(true, [PV.val _, PV.sl _ _]), (false, [PV.val _]), (true, [PV.val _, PV.sl _ _])]) (as_ := [(true, [PV.val _, PV.sl .v _]), (false, [PV.val _]), (true, [PV.val _, PV.sl .v _])]) (by decide) c_7 (by exact ⟨rfl, rfl, rfl, ⟨⟩⟩) (by exact (And.intro (by exact ⟨⟩) (And.intro (by exact ⟨⟩) (And.intro (by exact ⟨⟩) True.intro)))) (by exact (And.intro (And.intro rfl (ToL.cons (PV.To.refl _) (ToL.cons PV.to_none ToL.nil))) (And.intro (And.intro rfl (ToL.cons (PV.To.refl _) ToL.nil)) (And.intro (And.intro rfl (ToL.cons (PV.To.refl _) (ToL.cons PV.to_none ToL.nil))) True.intro)))) (by exact impl_Receive (by omega) (by omega)) (by kernel_rfl) (by kernel_rfl) fun uss hU0 => ?_
      obtain ⟨us0, r0, rfl, hl0, hR0, hU1⟩ := RelU.cons hU0
      obtain ⟨u10_0_0, u10_0_1, rfl⟩ := us_2 hl0
      obtain rfl := relval hR0 (j := 0) rfl rfl
      obtain ⟨us1, r1, rfl, hl1, hR1, hU2⟩ := RelU.cons hU1
      obtain ⟨u10_1_0, rfl⟩ := us_1 hl1
      obtain rfl := relval hR1 (j := 0) rfl rfl
      obtain rfl := RelU.nil hU2
      clear hR0 hU0 hR1 hU1 hU2
      refine Run.stepC 1023 (by exact ⟨rfl, ⟨⟩⟩) (by exact ⟨⟩) (LocG.of rfl (loc_take (.inl rfl) (by decide))) nofree (by kernel_rfl) (by intro L' h; exact nomatch (show (none : Option Step) = some L' from h)) ?_
      refine Run.stepC 2047 (by exact ⟨rfl, ⟨⟩⟩) (by exact ⟨⟩) (LocG.of rfl (loc_extractb (cs := [PV.val _, PV.val _]) (by decide) (by exact rfl) (by exact (BorL.cons (PV.bor_val _) (BorL.cons (PV.bor_val _) BorL.nil))))) nofree (by kernel_rfl) (by intro L' h; exact nomatch (show (none : Option Step) = some L' from h)) ?_
      refine Run.stepC 2047 (by exact ⟨rfl, ⟨⟩⟩) (by exact ⟨⟩) (LocG.of rfl (loc_extractb (cs := [PV.val _]) (by decide) (by exact rfl) (by exact (BorL.cons (PV.bor_val _) BorL.nil)))) nofree (by kernel_rfl) (by intro L' h; exact nomatch (show (none : Option Step) = some L' from h)) ?_
      refine Run.stepC 4095 (by exact ⟨rfl, rfl, ⟨⟩⟩) (by exact ⟨rfl, ⟨⟩⟩) (LocG.of rfl (loc_store (ag := true) (vs := [PV.val _, PV.val _]) ty_26 (by exact ⟨⟩) (by exact rfl) (by exact Nat.le_of_ble_eq_true rfl))) nofree (by kernel_rfl) (by intro L' h; exact nomatch (show (none : Option Step) = some L' from h)) ?_
      refine Run.stepC 16383 (by exact ⟨rfl, ⟨⟩⟩) (by exact ⟨⟩) (LocG.of rfl (loc_copy (.inr rfl) (by decide) (by exact Cp.sc))) nofree (by kernel_rfl) (by intro L' h; exact nomatch (show (none : Option Step) = some L' from h)) ?_
      refine sw_backB (d := 10) (G := 2000) (by exact rfl) (by exact (Nm.val (Nm.val Nm.nil))) (by exact rfl) ?_
      refine sw_backS (s := 11) (G := 2001) (by exact rfl) (by exact (Nm.val Nm.nil)) rfl (by decide) (by exact rfl) ?_
      refine sw_seq ?_
      refine sw_seq ?_
      refine sO [(2, _), (3, _), (4, _), (6, _), (7, _), (8, _), (9, _), (10, _), (11, _)] [(3, _), (4, _), (6, _), (7, _), (9, _), (10, (26, [PV.val _, PV.sl _ _]))] ?_
      refine sw_reg ?_
      refine rA ?_ (x := sM)
      refine rA ?_ (x := B_neq)
      refine sw_cond (t := 71) rfl (fun hb11 => ?_) (fun hb11 => ?_)
      ·try simp only [q1, q2, q3, q4, q5, q6, q7, q8, q9] at hb11
       refine sO [(2, _), (3, _), (4, _), (6, _), (7, _), (8, _), (9, _), (10, _), (11, _)] [(3, _), (4, _), (6, _), (7, _), (9, _), (10, _)] ?_
       refine sw_reg ?_
       refine rA ?_ (x := lF fd_36_1)
       refine rA ?_ (x := lD [PV.val _] ty_3)
       refine rA ?_ (x := sM)
       refine rA ?_ (x := lF fd_36_0)
       refine rA ?_ (x := lD [PV.sl .v _] ty_24)
       refine rA ?_ (x := lN sl_24)
       refine rA ?_ (x := loc_min (by decide) (by exact ⟨⟩) (by exact ⟨⟩))
       refine rA ?_ (x := loc_max (by decide) (by exact ⟨⟩) (by exact ⟨⟩))
       refine rA ?_ (x := lF fd_36_1)
       refine rA ?_ (x := loc_store (ag := false) (vs := [PV.val _]) ty_3 (by exact ⟨⟩) (by exact rfl) (by exact Nat.le_of_ble_eq_true rfl))
       refine sw_seq ?_
       refine sO [(2, _), (3, _), (4, _), (6, _), (7, _), (8, _), (9, _), (10, _), (11, _)] [(3, _), (4, _), (6, _), (7, _), (9, (36, [PV.sl _ _, PV.val _, PV.val _])), (10, _)] ?_
       refine sw_draw hm_ ?_
       refine dA 0 ?_ (x := loc_ltake (ms := [PV.sl _ _, PV.val _, PV.val _]) (qs := [PV.sl .v _, PV.val _, PV.val _]) (by decide) ty_36 (fun h => nomatch h) (by exact Nat.le_of_ble_eq_true rfl) (by exact rfl) (by exact (ToL.cons PV.to_none (ToL.cons (PV.To.refl _) (ToL.cons (PV.To.refl _) ToL.nil)))) (by exact (BorL.cons (PV.bor_sl _) (BorL.cons (PV.bor_val _) (BorL.cons (PV.bor_val _) BorL.nil)))))
       refine dA 0 ?_ (x := loc_ltake (ms := [PV.val _, PV.sl _ _]) (qs := [PV.val _, PV.sl .v _]) (by decide) ty_26 (fun h => nomatch h) (by exact Nat.le_of_ble_eq_true rfl) (by exact rfl) (by exact (ToL.cons (PV.To.refl _) (ToL.cons PV.to_none ToL.nil))) (by exact (BorL.cons (PV.bor_val _) (BorL.cons (PV.bor_sl _) BorL.nil))))
       refine dA 1 ?_ (x := loc_store (ag := true) (vs := [PV.sl _ _, PV.val _, PV.val _]) ty_36 (by exact ⟨⟩) (by exact rfl) (by exact Nat.le_of_ble_eq_true rfl))
       refine dA 7 ?_ (x := loc_store (ag := true) (vs := [PV.val _, PV.sl _ _]) ty_26 (by exact ⟨⟩) (by exact rfl) (by exact Nat.le_of_ble_eq_true rfl))
       refine dA 15 ?_ (x := kA)
       refine sw_ret ?_
       exact (Exists.intro 6 (Exists.intro _ (And.intro (by exact rfl) (And.intro (by refine box_eq ?_; first | (exfalso; omega) | simp [send, sendTo, cOutbox, cClient, *]) (And.intro ty_36 (And.intro (fun h => nomatch h) (Exists.intro 7 (Exists.intro _ (And.intro (by exact rfl) (And.intro (by refine box_eq ?_; first | (exfalso; omega) | simp [send, sendTo, cOutbox, cClient, *]) (And.intro ty_26 (And.intro (fun h => nomatch h) (And.intro (by refine bool_eq ?_; first | (exfalso; omega) | simp [send, sendTo, cOutbox, cClient, *]) True.intro)))))))))))))
      ·try simp only [q1, q2, q3, q4, q5, q6, q7, q8, q9] at hb11
       refine sw_skip ?_
       refine sw_seq ?_
       refine sO [(2, _), (3, _), (4, _), (6, _), (7, _), (8, _), (9, _), (10, _), (11, _)] [(3, _), (4, _), (6, _), (7, _), (9, _), (10, _)] ?_
       refine sw_draw hm_ ?_
       refine dA 0 ?_ (x := loc_ltake (ms := [PV.sl _ _, PV.val _, PV.val _]) (qs := [PV.sl .v _, PV.val _, PV.val _]) (by decide) ty_36 (fun h => nomatch h) (by exact Nat.le_of_ble_eq_true rfl) (by exact rfl) (by exact (ToL.cons PV.to_none (ToL.cons (PV.To.refl _) (ToL.cons (PV.To.refl _) ToL.nil)))) (by exact (BorL.cons (PV.bor_sl _) (BorL.cons (PV.bor_val _) (BorL.cons (PV.bor_val _) BorL.nil)))))
       refine dA 0 ?_ (x := loc_ltake (ms := [PV.val _, PV.sl _ _]) (qs := [PV.val _, PV.sl .v _]) (by decide) ty_26 (fun h => nomatch h) (by exact Nat.le_of_ble_eq_true rfl) (by exact rfl) (by exact (ToL.cons (PV.To.refl _) (ToL.cons PV.to_none ToL.nil))) (by exact (BorL.cons (PV.bor_val _) (BorL.cons (PV.bor_sl _) BorL.nil))))
       refine dA 1 ?_ (x := loc_store (ag := true) (vs := [PV.sl _ _, PV.val _, PV.val _]) ty_36 (by exact ⟨⟩) (by exact rfl) (by exact Nat.le_of_ble_eq_true rfl))
       refine dA 7 ?_ (x := loc_store (ag := true) (vs := [PV.val _, PV.sl _ _]) ty_26 (by exact ⟨⟩) (by exact rfl) (by exact Nat.le_of_ble_eq_true rfl))
       refine dA 15 ?_ (x := kA)
       refine sw_ret ?_
       exact (Exists.intro 6 (Exists.intro _ (And.intro (by exact rfl) (And.intro (by refine box_eq ?_; first | (exfalso; omega) | simp [send, sendTo, cOutbox, cClient, *]) (And.intro ty_36 (And.intro (fun h => nomatch h) (Exists.intro 7 (Exists.intro _ (And.intro (by exact rfl) (And.intro (by refine box_eq ?_; first | (exfalso; omega) | simp [send, sendTo, cOutbox, cClient, *]) (And.intro ty_26 (And.intro (fun h => nomatch h) (And.intro (by refine bool_eq ?_; first | (exfalso; omega) | simp [send, sendTo, cOutbox, cClient, *]) True.intro)))))))))))))
     ·try simp only [q1, q2, q3, q4, q5, q6, q7, q8, q9] at hb9
      refine sw_skip ?_
      refine sw_seq ?_
      refine sw_seq ?_
      refine sO [(2, _), (3, _), (4, _), (6, _), (7, _), (8, _), (9, _), (10, _), (11, _)] [(3, _), (4, _), (6, _), (7, _), (9, _), (10, _)] ?_
      refine sw_reg ?_
      refine rA ?_ (x := sM)
      refine rA ?_ (x := B_neq)
      refine sw_cond (t := 71) rfl (fun hb12 => ?_) (fun hb12 => ?_)
      ·try simp only [q1, q2, q3, q4, q5, q6, q7, q8, q9] at hb12
       refine sO [(2, _), (3, _), (4, _), (6, _), (7, _), (8, _), (9, _), (10, _), (11, _)] [(3, _), (4, _), (6, _), (7, _), (9, _), (10, _)] ?_
       refine sw_reg ?_
       refine rA ?_ (x := lF fd_36_1)
       refine rA ?_ (x := lD [PV.val _] ty_3)
       refine rA ?_ (x := sM)
       refine rA ?_ (x := lF fd_36_0)
       refine rA ?_ (x := lD [PV.sl .v _] ty_24)
       refine rA ?_ (x := lN sl_24)
       refine rA ?_ (x := loc_min (by decide) (by exact ⟨⟩) (by exact ⟨⟩))
       refine rA ?_ (x := loc_max (by decide) (by exact ⟨⟩) (by exact ⟨⟩))
       refine rA ?_ (x := lF fd_36_1)
       refine rA ?_ (x := loc_store (ag := false) (vs := [PV.val _]) ty_3 (by exact ⟨⟩) (by exact rfl) (by exact Nat.le_of_ble_eq_true rfl))
       refine sw_seq ?_
       refine sO [(2, _), (3, _), (4, _), (6, _), (7, _), (8, _), (9, _), (10, _), (11, _)] [(3, _), (4, _), (6, _), (7, _), (9, (36, [PV.sl _ _, PV.val _, PV.val _])), (10, _)] ?_
       refine sw_draw hm_ ?_
       refine dA 0 ?_ (x := loc_ltake (ms := [PV.sl _ _, PV.val _, PV.val _]) (qs := [PV.sl .v _, PV.val _, PV.val _]) (by decide) ty_36 (fun h => nomatch h) (by exact Nat.le_of_ble_eq_true rfl) (by exact rfl) (by exact (ToL.cons PV.to_none (ToL.cons (PV.To.refl _) (ToL.cons (PV.To.refl _) ToL.nil)))) (by exact (BorL.cons (PV.bor_sl _) (BorL.cons (PV.bor_val _) (BorL.cons (PV.bor_val _) BorL.nil)))))
       refine dA 0 ?_ (x := loc_ltake (ms := [PV.val _, PV.sl _ _]) (qs := [PV.val _, PV.sl .v _]) (by decide) ty_26 (fun h => nomatch h) (by exact Nat.le_of_ble_eq_true rfl) (by exact rfl) (by exact (ToL.cons (PV.To.refl _) (ToL.cons PV.to_none ToL.nil))) (by exact (BorL.cons (PV.bor_val _) (BorL.cons (PV.bor_sl _) BorL.nil))))
       refine dA 1 ?_ (x := loc_store (ag := true) (vs := [PV.sl _ _, PV.val _, PV.val _]) ty_36 (by exact ⟨⟩) (by exact rfl) (by exact Nat.le_of_ble_eq_true rfl))
       refine dA 7 ?_ (x := loc_store (ag := true) (vs := [PV.val _, PV.sl _ _]) ty_26 (by exact ⟨⟩) (by exact rfl) (by exact Nat.le_of_ble_eq_true rfl))
       refine dA 15 ?_ (x := kA)
       refine sw_ret ?_
       exact (Exists.intro 6 (Exists.intro _ (And.intro (by exact rfl) (And.intro (by refine box_eq ?_; first | (exfalso; omega) | simp [send, sendTo, cOutbox, cClient, *]) (And.intro ty_36 (And.intro (fun h => nomatch h) (Exists.intro 7 (Exists.intro _ (And.intro (by exact rfl) (And.intro (by refine box_eq ?_; first | (exfalso; omega) | simp [send, sendTo, cOutbox, cClient, *]) (And.intro ty_26 (And.intro (fun h => nomatch h) (And.intro (by refine bool_eq ?_; first | (exfalso; omega) | simp [send, sendTo, cOutbox, cClient, *]) True.intro)))))))))))))
      ·try simp only [q1, q2, q3, q4, q5, q6, q7, q8, q9] at hb12
       refine sw_skip ?_
       refine sw_seq ?_
       refine sO [(2, _), (3, _), (4, _), (6, _), (7, _), (8, _), (9, _), (10, _), (11, _)] [(3, _), (4, _), (6, _), (7, _), (9, _), (10, _)] ?_
       refine sw_draw hm_ ?_
       refine dA 0 ?_ (x := loc_ltake (ms := [PV.sl _ _, PV.val _, PV.val _]) (qs := [PV.sl .v _, PV.val _, PV.val _]) (by decide) ty_36 (fun h => nomatch h) (by exact Nat.le_of_ble_eq_true rfl) (by exact rfl) (by exact (ToL.cons PV.to_none (ToL.cons (PV.To.refl _) (ToL.cons (PV.To.refl _) ToL.nil)))) (by exact (BorL.cons (PV.bor_sl _) (BorL.cons (PV.bor_val _) (BorL.cons (PV.bor_val _) BorL.nil)))))
       refine dA 0 ?_ (x := loc_ltake (ms := [PV.val _, PV.sl _ _]) (qs := [PV.val _, PV.sl .v _]) (by decide) ty_26 (fun h => nomatch h) (by exact Nat.le_of_ble_eq_true rfl) (by exact rfl) (by exact (ToL.cons (PV.To.refl _) (ToL.cons PV.to_none ToL.nil))) (by exact (BorL.cons (PV.bor_val _) (BorL.cons (PV.bor_sl _) BorL.nil))))
       refine dA 1 ?_ (x := loc_store (ag := true) (vs := [PV.sl _ _, PV.val _, PV.val _]) ty_36 (by exact ⟨⟩) (by exact rfl) (by exact Nat.le_of_ble_eq_true rfl))
       refine dA 7 ?_ (x := loc_store (ag := true) (vs := [PV.val _, PV.sl _ _]) ty_26 (by exact ⟨⟩) (by exact rfl) (by exact Nat.le_of_ble_eq_true rfl))
       refine dA 15 ?_ (x := kA)
       refine sw_ret ?_
       exact (Exists.intro 6 (Exists.intro _ (And.intro (by exact rfl) (And.intro (by refine box_eq ?_; first | (exfalso; omega) | simp [send, sendTo, cOutbox, cClient, *]) (And.intro ty_36 (And.intro (fun h => nomatch h) (Exists.intro 7 (Exists.intro _ (And.intro (by exact rfl) (And.intro (by refine box_eq ?_; first | (exfalso; omega) | simp [send, sendTo, cOutbox, cClient, *]) (And.intro ty_26 (And.intro (fun h => nomatch h) (And.intro (by refine bool_eq ?_; first | (exfalso; omega) | simp [send, sendTo, cOutbox, cClient, *]) True.intro)))))))))))))
theorem spec_SendNext {p1 p3 : Fl} {o : Outbox} {c : Client} {fate : Int}  (hb : wtOutbox o ≤ 17179869184) (hb2 : wtClient c ≤ 17179869184) : SCall Try.prog 12 [(true, [PV.sl .v (o.Rows.map (cRow p1)), PV.val (vI o.Acked), PV.val (vI o.Tries)]), (true, [PV.val (vI c.Next), PV.sl .v (c.Rows.map (cRow p3))]), (false, [PV.val (vI fate)])] (resRV [(true, [PV.sl (.own 29 2) ((send o c fate).1.Rows.map (cRow (.own 3 1))), PV.val (vI (send o c fate).1.Acked), PV.val (vI (send o c fate).1.Tries)]), (true, [PV.val (vI (send o c fate).2.1.Next), PV.sl (.own 29 2) ((send o c fate).2.1.Rows.map (cRow (.own 3 1)))]), (false, [PV.val (.bool (send o c fate).2.2)])]) := by
 refine scall_of (rs := [(true, [PV.sl (.own 29 2) ((send o c fate).1.Rows.map (cRow (.own 3 1))), PV.val (vI (send o c fate).1.Acked), PV.val (vI (send o c fate).1.Tries)]), (true, [PV.val (vI (send o c fate).2.1.Next), PV.sl (.own 29 2) ((send o c fate).2.1.Rows.map (cRow (.own 3 1)))]), (false, [PV.val (.bool (send o c fate).2.2)])]) Try.func12 rfl (Nat.le_of_ble_eq_true rfl) (borA_cons (BorL.cons (PV.bor_sl _) (BorL.cons (PV.bor_val _) (BorL.cons (PV.bor_val _) BorL.nil))) (borA_cons (BorL.cons (PV.bor_val _) (BorL.cons (PV.bor_sl _) BorL.nil)) (borA_cons (BorL.cons (PV.bor_val _) BorL.nil) borA_nil))) ?_
 intro h0 w0 Fz0
 refine sw_slen (s := 0) (j := 0) rfl rfl fun hl0_0 => ?_
 try rw [List.length_map] at hl0_0
 refine sw_slen (s := 1) (j := 1) rfl rfl fun hl1_1 => ?_
 try rw [List.length_map] at hl1_1
 have hbu := hb
 simp only [wtOutbox, wtInt] at hbu
 have hbv := hb2
 simp only [wtClient, wtInt] at hbv
 refine sw_seq ?_
 refine sw_reg ?_
 refine RunS.step (by exact ⟨rfl, ⟨⟩⟩) (by exact ⟨⟩) (LocG.of rfl (loc_box (ag := true) (cs := [PV.sl _ _, PV.val _, PV.val _]) (by decide) (by exact ⟨⟩))) (free1 (Free.of_ rfl)) ?_
 refine RunS.step (by exact ⟨rfl, ⟨⟩⟩) (by exact ⟨⟩) (LocG.of rfl (loc_box (ag := true) (cs := [PV.val _, PV.sl _ _]) (by decide) (by exact ⟨⟩))) (free1 (Free.app (Free.of_ rfl) rfl)) ?_
 refine RunS.step (by exact ⟨⟩) (by exact ⟨⟩) (LocG.of rfl (loc_alloc (by decide) z_36 zo_36)) (free1 (Free.app (Free.app (Free.of_ rfl) rfl) rfl)) ?_
 refine RunS.step (by exact ⟨⟩) (by exact ⟨⟩) (LocG.of rfl (loc_alloc (by decide) z_26 zo_26)) (free1 (Free.app (Free.app (Free.app (Free.of_ rfl) rfl) rfl) rfl)) ?_
 refine rA ?_ (x := kA)
 refine sw_seq ?_
 refine sO [(2, _), (3, _), (4, _), (6, _), (7, _), (8, _)] [(3, (36, [PV.sl _ _, PV.val _, PV.val _])), (4, (26, [PV.val _, PV.sl _ _])), (6, (36, [PV.sl _ _, PV.val _, PV.val _])), (7, (26, [PV.val _, PV.sl _ _]))] ?_
 refine sw_reg ?_
 refine rA ?_ (x := lD [PV.sl .v _, PV.val _, PV.val _] ty_36)
 refine rA ?_ (x := cL [(true, [PV.sl _ _, PV.val _, PV.val _])] [(true, [PV.sl .v _, PV.val _, PV.val _])] c_33 (hs := by exact spec_l17Outbox (by omega)))
 refine RunS.step (by exact ⟨⟩) (by exact ⟨⟩) (LocG.of rfl (loc_alloc (by decide) z_36 zo_36)) (free1 (Free.app (Free.app (Free.of_ rfl) rfl) rfl)) ?_
 refine rA ?_ (x := loc_store (ag := true) (vs := [PV.sl _ _, PV.val _, PV.val _]) ty_36 (by exact ⟨⟩) (by exact rfl) (by exact Nat.le_of_ble_eq_true rfl))
 refine sw_seq ?_
 refine sO [(2, _), (3, _), (4, _), (6, _), (7, _), (8, _), (9, _)] [(3, _), (4, _), (6, _), (7, _), (9, (36, [PV.sl _ _, PV.val _, PV.val _]))] ?_
 refine sw_reg ?_
 refine rA ?_ (x := lD [PV.val _, PV.sl .v _] ty_26)
 refine rA ?_ (x := cL [(true, [PV.val _, PV.sl _ _])] [(true, [PV.val _, PV.sl .v _])] c_27 (hs := by exact spec_l17Client (by omega)))
 refine RunS.step (by exact ⟨⟩) (by exact ⟨⟩) (LocG.of rfl (loc_alloc (by decide) z_26 zo_26)) (free1 (Free.app (Free.app (Free.of_ rfl) rfl) rfl)) ?_
 refine rA ?_ (x := loc_store (ag := true) (vs := [PV.val _, PV.sl _ _]) ty_26 (by exact ⟨⟩) (by exact rfl) (by exact Nat.le_of_ble_eq_true rfl))
 refine sw_seq ?_
 refine sw_seq ?_
 refine sO [(2, _), (3, _), (4, _), (6, _), (7, _), (8, _), (9, _), (10, _)] [(3, _), (4, _), (6, _), (7, _), (9, _), (10, (26, [PV.val _, PV.sl _ _]))] ?_
 refine sw_reg ?_
 refine rA ?_ (x := lD [PV.sl .v _, PV.val _, PV.val _] ty_36)
 refine rA ?_ (x := cL [(true, [PV.sl _ _, PV.val _, PV.val _])] [(true, [PV.sl .v _, PV.val _, PV.val _])] c_34 (hs := by exact spec_IsOutbox))
 refine rA ?_ (x := nT)
 refine rA ?_ (x := sM)
 refine RunS.cases (s := 19) rfl (fun g1 => ?_) (fun g1 => ?_)
 ·have sg1 := g1
  try simp only [q1, q2, q3, q4, q5, q6, q7, q8, q9] at sg1
  refine RunS.s0t g1 ?_
  refine RunS.s0t g1 ?_
  refine RunS.s0t g1 ?_
  refine RunS.s0t g1 ?_
  refine RunS.s0t g1 ?_
  refine RunS.s0t g1 ?_
  refine rA ?_ (x := pkT g1)
  refine rA ?_ (x := sM)
  refine RunS.cases (s := 27) rfl (fun g2 => ?_) (fun g2 => nomatch g2)
  refine RunS.s0t g2 ?_
  refine RunS.s0t g2 ?_
  refine RunS.s0t g2 ?_
  refine rA ?_ (x := pkT g2)
  refine sw_cond (t := 31) rfl (fun hb_ => ?_) (fun hb_ => nomatch hb_)
  have hs : sendOk o = false := by
   cases ho : okBox o with
   | false => simp [sendOk, ho]
   | true =>
    have := okBox_facts ho
    simp [sendOk, ho]
    simp_all
    try omega
  refine sw_seq ?_
  refine sO [(2, _), (3, _), (4, _), (6, _), (7, _), (8, _), (9, _), (10, _)] [(3, _), (4, _), (6, _), (7, _), (9, _), (10, _)] ?_
  refine sw_draw hm_ ?_
  refine dA 0 ?_ (x := loc_ltake (ms := [PV.sl _ _, PV.val _, PV.val _]) (qs := [PV.sl .v _, PV.val _, PV.val _]) (by decide) ty_36 (fun h => nomatch h) (by exact Nat.le_of_ble_eq_true rfl) (by exact rfl) (by exact (ToL.cons PV.to_none (ToL.cons (PV.To.refl _) (ToL.cons (PV.To.refl _) ToL.nil)))) (by exact (BorL.cons (PV.bor_sl _) (BorL.cons (PV.bor_val _) (BorL.cons (PV.bor_val _) BorL.nil)))))
  refine dA 0 ?_ (x := loc_ltake (ms := [PV.val _, PV.sl _ _]) (qs := [PV.val _, PV.sl .v _]) (by decide) ty_26 (fun h => nomatch h) (by exact Nat.le_of_ble_eq_true rfl) (by exact rfl) (by exact (ToL.cons (PV.To.refl _) (ToL.cons PV.to_none ToL.nil))) (by exact (BorL.cons (PV.bor_val _) (BorL.cons (PV.bor_sl _) BorL.nil))))
  refine dA 1 ?_ (x := loc_store (ag := true) (vs := [PV.sl _ _, PV.val _, PV.val _]) ty_36 (by exact ⟨⟩) (by exact rfl) (by exact Nat.le_of_ble_eq_true rfl))
  refine dA 7 ?_ (x := loc_store (ag := true) (vs := [PV.val _, PV.sl _ _]) ty_26 (by exact ⟨⟩) (by exact rfl) (by exact Nat.le_of_ble_eq_true rfl))
  refine dA 15 ?_ (x := kA)
  refine sw_ret ?_
  exact (Exists.intro 6 (Exists.intro _ (And.intro (by exact rfl) (And.intro (by refine box_eq ?_; first | (exfalso; omega) | simp [send, sendTo, cOutbox, cClient, *]) (And.intro ty_36 (And.intro (fun h => nomatch h) (Exists.intro 7 (Exists.intro _ (And.intro (by exact rfl) (And.intro (by refine box_eq ?_; first | (exfalso; omega) | simp [send, sendTo, cOutbox, cClient, *]) (And.intro ty_26 (And.intro (fun h => nomatch h) (And.intro (by refine bool_eq ?_; first | (exfalso; omega) | simp [send, sendTo, cOutbox, cClient, *]) True.intro)))))))))))))
 ·have sg1 := g1
  try simp only [q1, q2, q3, q4, q5, q6, q7, q8, q9] at sg1
  refine rB g1 ?_ (x := lF fd_36_1)
  refine rB g1 ?_ (x := lD [PV.val _] ty_3)
  refine rB g1 ?_ (x := lF fd_36_0)
  refine rB g1 ?_ (x := lD [PV.sl .v _] ty_24)
  refine rB g1 ?_ (x := lN sl_24)
  refine rB g1 ?_ (x := B_eql)
  refine rA ?_ (x := pkF g1)
  refine rA ?_ (x := sM)
  refine RunS.cases (s := 27) rfl (fun g4 => ?_) (fun g4 => ?_)
  ·have sg4 := g4
   try simp only [q1, q2, q3, q4, q5, q6, q7, q8, q9] at sg4
   refine RunS.s0t g4 ?_
   refine RunS.s0t g4 ?_
   refine RunS.s0t g4 ?_
   refine rA ?_ (x := pkT g4)
   refine sw_cond (t := 31) rfl (fun hb_ => ?_) (fun hb_ => nomatch hb_)
   have hs : sendOk o = false := by
    cases ho : okBox o with
    | false => simp [sendOk, ho]
    | true =>
     have := okBox_facts ho
     simp [sendOk, ho]
     simp_all
     try omega
   refine sw_seq ?_
   refine sO [(2, _), (3, _), (4, _), (6, _), (7, _), (8, _), (9, _), (10, _)] [(3, _), (4, _), (6, _), (7, _), (9, _), (10, _)] ?_
   refine sw_draw hm_ ?_
   refine dA 0 ?_ (x := loc_ltake (ms := [PV.sl _ _, PV.val _, PV.val _]) (qs := [PV.sl .v _, PV.val _, PV.val _]) (by decide) ty_36 (fun h => nomatch h) (by exact Nat.le_of_ble_eq_true rfl) (by exact rfl) (by exact (ToL.cons PV.to_none (ToL.cons (PV.To.refl _) (ToL.cons (PV.To.refl _) ToL.nil)))) (by exact (BorL.cons (PV.bor_sl _) (BorL.cons (PV.bor_val _) (BorL.cons (PV.bor_val _) BorL.nil)))))
   refine dA 0 ?_ (x := loc_ltake (ms := [PV.val _, PV.sl _ _]) (qs := [PV.val _, PV.sl .v _]) (by decide) ty_26 (fun h => nomatch h) (by exact Nat.le_of_ble_eq_true rfl) (by exact rfl) (by exact (ToL.cons (PV.To.refl _) (ToL.cons PV.to_none ToL.nil))) (by exact (BorL.cons (PV.bor_val _) (BorL.cons (PV.bor_sl _) BorL.nil))))
   refine dA 1 ?_ (x := loc_store (ag := true) (vs := [PV.sl _ _, PV.val _, PV.val _]) ty_36 (by exact ⟨⟩) (by exact rfl) (by exact Nat.le_of_ble_eq_true rfl))
   refine dA 7 ?_ (x := loc_store (ag := true) (vs := [PV.val _, PV.sl _ _]) ty_26 (by exact ⟨⟩) (by exact rfl) (by exact Nat.le_of_ble_eq_true rfl))
   refine dA 15 ?_ (x := kA)
   refine sw_ret ?_
   exact (Exists.intro 6 (Exists.intro _ (And.intro (by exact rfl) (And.intro (by refine box_eq ?_; first | (exfalso; omega) | simp [send, sendTo, cOutbox, cClient, *]) (And.intro ty_36 (And.intro (fun h => nomatch h) (Exists.intro 7 (Exists.intro _ (And.intro (by exact rfl) (And.intro (by refine box_eq ?_; first | (exfalso; omega) | simp [send, sendTo, cOutbox, cClient, *]) (And.intro ty_26 (And.intro (fun h => nomatch h) (And.intro (by refine bool_eq ?_; first | (exfalso; omega) | simp [send, sendTo, cOutbox, cClient, *]) True.intro)))))))))))))
  ·have sg4 := g4
   try simp only [q1, q2, q3, q4, q5, q6, q7, q8, q9] at sg4
   refine rB g4 ?_ (x := lF fd_36_2)
   refine rB g4 ?_ (x := lD [PV.val _] ty_3)
   refine rB g4 ?_ (x := B_geq)
   refine rA ?_ (x := pkF g4)
   refine sw_cond (t := 31) rfl (fun hb6 => ?_) (fun hb6 => ?_)
   ·try simp only [q1, q2, q3, q4, q5, q6, q7, q8, q9] at hb6
    have hs : sendOk o = false := by
     cases ho : okBox o with
     | false => simp [sendOk, ho]
     | true =>
      have := okBox_facts ho
      simp [sendOk, ho]
      simp_all
      try omega
    refine sw_seq ?_
    refine sO [(2, _), (3, _), (4, _), (6, _), (7, _), (8, _), (9, _), (10, _)] [(3, _), (4, _), (6, _), (7, _), (9, _), (10, _)] ?_
    refine sw_draw hm_ ?_
    refine dA 0 ?_ (x := loc_ltake (ms := [PV.sl _ _, PV.val _, PV.val _]) (qs := [PV.sl .v _, PV.val _, PV.val _]) (by decide) ty_36 (fun h => nomatch h) (by exact Nat.le_of_ble_eq_true rfl) (by exact rfl) (by exact (ToL.cons PV.to_none (ToL.cons (PV.To.refl _) (ToL.cons (PV.To.refl _) ToL.nil)))) (by exact (BorL.cons (PV.bor_sl _) (BorL.cons (PV.bor_val _) (BorL.cons (PV.bor_val _) BorL.nil)))))
    refine dA 0 ?_ (x := loc_ltake (ms := [PV.val _, PV.sl _ _]) (qs := [PV.val _, PV.sl .v _]) (by decide) ty_26 (fun h => nomatch h) (by exact Nat.le_of_ble_eq_true rfl) (by exact rfl) (by exact (ToL.cons (PV.To.refl _) (ToL.cons PV.to_none ToL.nil))) (by exact (BorL.cons (PV.bor_val _) (BorL.cons (PV.bor_sl _) BorL.nil))))
    refine dA 1 ?_ (x := loc_store (ag := true) (vs := [PV.sl _ _, PV.val _, PV.val _]) ty_36 (by exact ⟨⟩) (by exact rfl) (by exact Nat.le_of_ble_eq_true rfl))
    refine dA 7 ?_ (x := loc_store (ag := true) (vs := [PV.val _, PV.sl _ _]) ty_26 (by exact ⟨⟩) (by exact rfl) (by exact Nat.le_of_ble_eq_true rfl))
    refine dA 15 ?_ (x := kA)
    refine sw_ret ?_
    exact (Exists.intro 6 (Exists.intro _ (And.intro (by exact rfl) (And.intro (by refine box_eq ?_; first | (exfalso; omega) | simp [send, sendTo, cOutbox, cClient, *]) (And.intro ty_36 (And.intro (fun h => nomatch h) (Exists.intro 7 (Exists.intro _ (And.intro (by exact rfl) (And.intro (by refine box_eq ?_; first | (exfalso; omega) | simp [send, sendTo, cOutbox, cClient, *]) (And.intro ty_26 (And.intro (fun h => nomatch h) (And.intro (by refine bool_eq ?_; first | (exfalso; omega) | simp [send, sendTo, cOutbox, cClient, *]) True.intro)))))))))))))
   ·try simp only [q1, q2, q3, q4, q5, q6, q7, q8, q9] at hb6
    have hs : sendOk o = true := by
     have ho : okBox o = true := by simp_all
     have := okBox_facts ho
     simp [sendOk, ho]
     simp_all
     try omega
    have hf := sendOk_facts hs
    have hwr := wt_rowAt o.Rows o.Acked
    have hrw := recv_wt c o.Acked (rowAt o.Rows o.Acked)
    refine sw_skip ?_
    refine sw_seq ?_
    refine sO [(2, _), (3, _), (4, _), (6, _), (7, _), (8, _), (9, _), (10, _)] [(3, _), (4, _), (6, _), (7, _), (9, _), (10, _)] ?_
    refine sw_reg ?_
    refine rA ?_ (x := lF fd_36_2)
    refine rA ?_ (x := lD [PV.val _] ty_3)
    refine rA ?_ (x := B_add)
    refine rA ?_ (x := lF fd_36_2)
    refine rA ?_ (x := loc_store (ag := false) (vs := [PV.val _]) ty_3 (by exact ⟨⟩) (by exact rfl) (by exact Nat.le_of_ble_eq_true rfl))
    refine sw_seq ?_
    refine sw_seq ?_
    refine sO [(2, _), (3, _), (4, _), (6, _), (7, _), (8, _), (9, _), (10, _)] [(3, _), (4, _), (6, _), (7, _), (9, (36, [PV.sl _ _, PV.val _, PV.val _])), (10, _)] ?_
    refine sw_reg ?_
    refine rA ?_ (x := sM)
    refine rA ?_ (x := B_eql)
    refine sw_cond (t := 39) rfl (fun hb7 => ?_) (fun hb7 => ?_)
    ·try simp only [q1, q2, q3, q4, q5, q6, q7, q8, q9] at hb7
     refine sw_seq ?_
     refine sO [(2, _), (3, _), (4, _), (6, _), (7, _), (8, _), (9, _), (10, _)] [(3, _), (4, _), (6, _), (7, _), (9, _), (10, _)] ?_
     refine sw_draw hm_ ?_
     refine dA 0 ?_ (x := loc_ltake (ms := [PV.sl _ _, PV.val _, PV.val _]) (qs := [PV.sl .v _, PV.val _, PV.val _]) (by decide) ty_36 (fun h => nomatch h) (by exact Nat.le_of_ble_eq_true rfl) (by exact rfl) (by exact (ToL.cons PV.to_none (ToL.cons (PV.To.refl _) (ToL.cons (PV.To.refl _) ToL.nil)))) (by exact (BorL.cons (PV.bor_sl _) (BorL.cons (PV.bor_val _) (BorL.cons (PV.bor_val _) BorL.nil)))))
     refine dA 0 ?_ (x := loc_ltake (ms := [PV.val _, PV.sl _ _]) (qs := [PV.val _, PV.sl .v _]) (by decide) ty_26 (fun h => nomatch h) (by exact Nat.le_of_ble_eq_true rfl) (by exact rfl) (by exact (ToL.cons (PV.To.refl _) (ToL.cons PV.to_none ToL.nil))) (by exact (BorL.cons (PV.bor_val _) (BorL.cons (PV.bor_sl _) BorL.nil))))
     refine dA 1 ?_ (x := loc_store (ag := true) (vs := [PV.sl _ _, PV.val _, PV.val _]) ty_36 (by exact ⟨⟩) (by exact rfl) (by exact Nat.le_of_ble_eq_true rfl))
     refine dA 7 ?_ (x := loc_store (ag := true) (vs := [PV.val _, PV.sl _ _]) ty_26 (by exact ⟨⟩) (by exact rfl) (by exact Nat.le_of_ble_eq_true rfl))
     refine dA 15 ?_ (x := kA)
     refine sw_ret ?_
     exact (Exists.intro 6 (Exists.intro _ (And.intro (by exact rfl) (And.intro (by refine box_eq ?_; first | (exfalso; omega) | simp [send, sendTo, cOutbox, cClient, *]) (And.intro ty_36 (And.intro (fun h => nomatch h) (Exists.intro 7 (Exists.intro _ (And.intro (by exact rfl) (And.intro (by refine box_eq ?_; first | (exfalso; omega) | simp [send, sendTo, cOutbox, cClient, *]) (And.intro ty_26 (And.intro (fun h => nomatch h) (And.intro (by refine bool_eq ?_; first | (exfalso; omega) | simp [send, sendTo, cOutbox, cClient, *]) True.intro)))))))))))))
    ·try simp only [q1, q2, q3, q4, q5, q6, q7, q8, q9] at hb7
     refine sw_skip ?_
     refine sw_seq ?_
     refine sO [(2, _), (3, _), (4, _), (6, _), (7, _), (8, _), (9, _), (10, _)] [(3, _), (4, _), (6, _), (7, _), (9, _), (10, _)] ?_
     refine sw_reg ?_
     refine rA ?_ (x := kA)
     refine sw_seq ?_
     refine sO [(2, _), (3, _), (4, _), (6, _), (7, _), (8, _), (9, _), (10, _), (11, _)] [(3, _), (4, _), (6, _), (7, _), (9, _), (10, _)] ?_
     refine sw_split (c := 9) (AI := []) hm_ rfl rfl rfl rfl (by kernel_rfl) (fun j L h => nomatch h) (fun j L h => nomatch h) ?_
     refine Run.stepC 0 (by exact ⟨rfl, ⟨⟩⟩) (by exact ⟨rfl, ⟨⟩⟩) (LocG.of rfl (loc_load (qs := [PV.val _, PV.sl .v _]) (by decide) ty_26 (fun h => nomatch h) (by exact Nat.le_of_ble_eq_true rfl) (by exact (ToL.cons (PV.To.refl _) (ToL.cons PV.to_none ToL.nil))) (by exact (BorL.cons (PV.bor_val _) (BorL.cons (PV.bor_sl _) BorL.nil))))) nofree (by kernel_rfl) (by show (List.all _ _) = true; kernel_rfl) ?_
     refine Run.stepC 0 (by exact ⟨rfl, ⟨⟩⟩) (by exact ⟨⟩) (LocG.of rfl (loc_field (by decide) fd_36_1)) nofree (by kernel_rfl) (by show (List.all _ _) = true; kernel_rfl) ?_
     refine Run.stepC 2 (by exact ⟨rfl, ⟨⟩⟩) (by exact ⟨rfl, ⟨⟩⟩) (LocG.of rfl (loc_load (qs := [PV.val _]) (by decide) ty_3 (fun _ => rfl) (by exact Nat.le_of_ble_eq_true rfl) (by exact (ToL.cons (PV.To.refl _) ToL.nil)) (by exact (BorL.cons (PV.bor_val _) BorL.nil)))) nofree (by kernel_rfl) (by show (List.all _ _) = true; kernel_rfl) ?_
     refine Run.stepC 0 (by exact ⟨rfl, ⟨⟩⟩) (by exact ⟨⟩) (LocG.of rfl (loc_field (by decide) fd_36_0)) nofree (by kernel_rfl) (by show (List.all _ _) = true; kernel_rfl) ?_
     refine Run.stepC 8 (by exact ⟨rfl, ⟨⟩⟩) (by exact ⟨rfl, ⟨⟩⟩) (LocG.of rfl (loc_load (qs := [PV.sl .v _]) (by decide) ty_24 (fun _ => rfl) (by exact Nat.le_of_ble_eq_true rfl) (by exact (ToL.cons PV.to_none ToL.nil)) (by exact (BorL.cons (PV.bor_sl _) BorL.nil)))) nofree (by kernel_rfl) (by show (List.all _ _) = true; kernel_rfl) ?_
     refine Run.stepC 0 (by exact ⟨rfl, ⟨⟩⟩) (by exact ⟨⟩) (LocG.of rfl (loc_field (by decide) fd_36_1)) nofree (by kernel_rfl) (by show (List.all _ _) = true; kernel_rfl) ?_
     refine Run.stepC 32 (by exact ⟨rfl, ⟨⟩⟩) (by exact ⟨rfl, ⟨⟩⟩) (LocG.of rfl (loc_load (qs := [PV.val _]) (by decide) ty_3 (fun _ => rfl) (by exact Nat.le_of_ble_eq_true rfl) (by exact (ToL.cons (PV.To.refl _) ToL.nil)) (by exact (BorL.cons (PV.bor_val _) BorL.nil)))) nofree (by kernel_rfl) (by show (List.all _ _) = true; kernel_rfl) ?_
     refine Run.stepC 120 (by exact ⟨rfl, rfl, ⟨⟩⟩) (by exact ⟨⟩) (LocG.of rfl (loc_index (k := o.Acked.toNat) (by decide) sl_24 (by exact ⟨⟩) (by omega) (by exact getm2 hf.2.1 (by rw [rowAt_eq hf.1 hf.2.1])) (by exact rfl))) nofree (by kernel_rfl) (by show (List.all _ _) = true; kernel_rfl) ?_
     refine Run.stepC 248 (by exact ⟨rfl, ⟨⟩⟩) (by exact ⟨⟩) (LocG.of rfl (loc_eload (qs := [PV.val _, PV.sl .v _]) (by decide) ty_29 (fun h => nomatch h) (by exact Nat.le_of_ble_eq_true rfl) (by exact (ToL.cons (PV.To.refl _) (ToL.cons PV.to_none ToL.nil))) (by exact (BorL.cons (PV.bor_val _) (BorL.cons (PV.bor_sl _) BorL.nil))))) nofree (by kernel_rfl) (by show (List.all _ _) = true; kernel_rfl) ?_
     refine mid_call (G := 2000) (qs := [(true, [PV.val _, PV.sl _ _]), (false, [PV.val _]), (true, [PV.val _, PV.sl _ _])]) (as_ := [(true, [PV.val _, PV.sl .v _]), (false, [PV.val _]), (true, [PV.val _, PV.sl .v _])]) (by decide) c_8 (by exact ⟨rfl, rfl, rfl, ⟨⟩⟩) (by exact (And.intro (by exact ⟨⟩) (And.intro (by exact ⟨⟩) (And.intro (by exact ⟨⟩) True.intro)))) (by exact (And.intro (And.intro rfl (ToL.cons (PV.To.refl _) (ToL.cons PV.to_none ToL.nil))) (And.intro (And.intro rfl (ToL.cons (PV.To.refl _) ToL.nil)) (And.intro (And.intro rfl (ToL.cons (PV.To.refl _) (ToL.cons PV.to_none ToL.nil))) True.intro)))) (by exact spec_Receive (by omega) (by omega)) (by kernel_rfl) (by kernel_rfl) fun uss hU0 => ?_
     obtain ⟨us0, r0, rfl, hl0, hR0, hU1⟩ := RelU.cons hU0
     obtain ⟨u8_0_0, u8_0_1, rfl⟩ := us_2 hl0
     obtain rfl := relval hR0 (j := 0) rfl rfl
     obtain ⟨us1, r1, rfl, hl1, hR1, hU2⟩ := RelU.cons hU1
     obtain ⟨u8_1_0, rfl⟩ := us_1 hl1
     obtain rfl := relval hR1 (j := 0) rfl rfl
     obtain rfl := RelU.nil hU2
     clear hR0 hU0 hR1 hU1 hU2
     refine Run.stepC 1023 (by exact ⟨rfl, ⟨⟩⟩) (by exact ⟨⟩) (LocG.of rfl (loc_take (.inl rfl) (by decide))) nofree (by kernel_rfl) (by intro L' h; exact nomatch (show (none : Option Step) = some L' from h)) ?_
     refine Run.stepC 2047 (by exact ⟨rfl, ⟨⟩⟩) (by exact ⟨⟩) (LocG.of rfl (loc_extractb (cs := [PV.val _, PV.val _]) (by decide) (by exact rfl) (by exact (BorL.cons (PV.bor_val _) (BorL.cons (PV.bor_val _) BorL.nil))))) nofree (by kernel_rfl) (by intro L' h; exact nomatch (show (none : Option Step) = some L' from h)) ?_
     refine Run.stepC 2047 (by exact ⟨rfl, ⟨⟩⟩) (by exact ⟨⟩) (LocG.of rfl (loc_extractb (cs := [PV.val _]) (by decide) (by exact rfl) (by exact (BorL.cons (PV.bor_val _) BorL.nil)))) nofree (by kernel_rfl) (by intro L' h; exact nomatch (show (none : Option Step) = some L' from h)) ?_
     refine Run.stepC 4095 (by exact ⟨rfl, rfl, ⟨⟩⟩) (by exact ⟨rfl, ⟨⟩⟩) (LocG.of rfl (loc_store (ag := true) (vs := [PV.val _, PV.val _]) ty_26 (by exact ⟨⟩) (by exact rfl) (by exact Nat.le_of_ble_eq_true rfl))) nofree (by kernel_rfl) (by intro L' h; exact nomatch (show (none : Option Step) = some L' from h)) ?_
     refine Run.stepC 16383 (by exact ⟨rfl, ⟨⟩⟩) (by exact ⟨⟩) (LocG.of rfl (loc_copy (.inr rfl) (by decide) (by exact Cp.sc))) nofree (by kernel_rfl) (by intro L' h; exact nomatch (show (none : Option Step) = some L' from h)) ?_
     refine sw_backB (d := 10) (G := 2000) (by exact rfl) (by exact (Nm.val (Nm.val Nm.nil))) (by exact rfl) ?_
     refine sw_backS (s := 11) (G := 2001) (by exact rfl) (by exact (Nm.val Nm.nil)) rfl (by decide) (by exact rfl) ?_
     refine sw_seq ?_
     refine sw_seq ?_
     refine sO [(2, _), (3, _), (4, _), (6, _), (7, _), (8, _), (9, _), (10, _), (11, _)] [(3, _), (4, _), (6, _), (7, _), (9, _), (10, (26, [PV.val _, PV.sl _ _]))] ?_
     refine sw_reg ?_
     refine rA ?_ (x := sM)
     refine rA ?_ (x := B_eql)
     refine sw_cond (t := 56) rfl (fun hb9 => ?_) (fun hb9 => ?_)
     ·try simp only [q1, q2, q3, q4, q5, q6, q7, q8, q9] at hb9
      refine sO [(2, _), (3, _), (4, _), (6, _), (7, _), (8, _), (9, _), (10, _), (11, _)] [(3, _), (4, _), (6, _), (7, _), (9, _), (10, _)] ?_
      refine sw_split (c := 9) (AI := []) hm_ rfl rfl rfl rfl (by kernel_rfl) (fun j L h => nomatch h) (fun j L h => nomatch h) ?_
      refine Run.stepC 0 (by exact ⟨rfl, ⟨⟩⟩) (by exact ⟨rfl, ⟨⟩⟩) (LocG.of rfl (loc_load (qs := [PV.val _, PV.sl .v _]) (by decide) ty_26 (fun h => nomatch h) (by exact Nat.le_of_ble_eq_true rfl) (by exact (ToL.cons (PV.To.refl _) (ToL.cons PV.to_none ToL.nil))) (by exact (BorL.cons (PV.bor_val _) (BorL.cons (PV.bor_sl _) BorL.nil))))) nofree (by kernel_rfl) (by show (List.all _ _) = true; kernel_rfl) ?_
      refine Run.stepC 0 (by exact ⟨rfl, ⟨⟩⟩) (by exact ⟨⟩) (LocG.of rfl (loc_field (by decide) fd_36_1)) nofree (by kernel_rfl) (by show (List.all _ _) = true; kernel_rfl) ?_
      refine Run.stepC 2 (by exact ⟨rfl, ⟨⟩⟩) (by exact ⟨rfl, ⟨⟩⟩) (LocG.of rfl (loc_load (qs := [PV.val _]) (by decide) ty_3 (fun _ => rfl) (by exact Nat.le_of_ble_eq_true rfl) (by exact (ToL.cons (PV.To.refl _) ToL.nil)) (by exact (BorL.cons (PV.bor_val _) BorL.nil)))) nofree (by kernel_rfl) (by show (List.all _ _) = true; kernel_rfl) ?_
      refine Run.stepC 0 (by exact ⟨rfl, ⟨⟩⟩) (by exact ⟨⟩) (LocG.of rfl (loc_field (by decide) fd_36_0)) nofree (by kernel_rfl) (by show (List.all _ _) = true; kernel_rfl) ?_
      refine Run.stepC 8 (by exact ⟨rfl, ⟨⟩⟩) (by exact ⟨rfl, ⟨⟩⟩) (LocG.of rfl (loc_load (qs := [PV.sl .v _]) (by decide) ty_24 (fun _ => rfl) (by exact Nat.le_of_ble_eq_true rfl) (by exact (ToL.cons PV.to_none ToL.nil)) (by exact (BorL.cons (PV.bor_sl _) BorL.nil)))) nofree (by kernel_rfl) (by show (List.all _ _) = true; kernel_rfl) ?_
      refine Run.stepC 0 (by exact ⟨rfl, ⟨⟩⟩) (by exact ⟨⟩) (LocG.of rfl (loc_field (by decide) fd_36_1)) nofree (by kernel_rfl) (by show (List.all _ _) = true; kernel_rfl) ?_
      refine Run.stepC 32 (by exact ⟨rfl, ⟨⟩⟩) (by exact ⟨rfl, ⟨⟩⟩) (LocG.of rfl (loc_load (qs := [PV.val _]) (by decide) ty_3 (fun _ => rfl) (by exact Nat.le_of_ble_eq_true rfl) (by exact (ToL.cons (PV.To.refl _) ToL.nil)) (by exact (BorL.cons (PV.bor_val _) BorL.nil)))) nofree (by kernel_rfl) (by show (List.all _ _) = true; kernel_rfl) ?_
      refine Run.stepC 120 (by exact ⟨rfl, rfl, ⟨⟩⟩) (by exact ⟨⟩) (LocG.of rfl (loc_index (k := o.Acked.toNat) (by decide) sl_24 (by exact ⟨⟩) (by omega) (by exact getm2 hf.2.1 (by rw [rowAt_eq hf.1 hf.2.1])) (by exact rfl))) nofree (by kernel_rfl) (by show (List.all _ _) = true; kernel_rfl) ?_
      refine Run.stepC 248 (by exact ⟨rfl, ⟨⟩⟩) (by exact ⟨⟩) (LocG.of rfl (loc_eload (qs := [PV.val _, PV.sl .v _]) (by decide) ty_29 (fun h => nomatch h) (by exact Nat.le_of_ble_eq_true rfl) (by exact (ToL.cons (PV.To.refl _) (ToL.cons PV.to_none ToL.nil))) (by exact (BorL.cons (PV.bor_val _) (BorL.cons (PV.bor_sl _) BorL.nil))))) nofree (by kernel_rfl) (by show (List.all _ _) = true; kernel_rfl) ?_
      refine mid_call (G := 2000) (qs := [(true, [PV.val _, PV.sl _ _]), (false, [PV.val _]), (true, [PV.val _, PV.sl _ _])]) (as_ := [(true, [PV.val _, PV.sl .v _]), (false, [PV.val _]), (true, [PV.val _, PV.sl .v _])]) (by decide) c_8 (by exact ⟨rfl, rfl, rfl, ⟨⟩⟩) (by exact (And.intro (by exact ⟨⟩) (And.intro (by exact ⟨⟩) (And.intro (by exact ⟨⟩) True.intro)))) (by exact (And.intro (And.intro rfl (ToL.cons (PV.To.refl _) (ToL.cons PV.to_none ToL.nil))) (And.intro (And.intro rfl (ToL.cons (PV.To.refl _) ToL.nil)) (And.intro (And.intro rfl (ToL.cons (PV.To.refl _) (ToL.cons PV.to_none ToL.nil))) True.intro)))) (by exact spec_Receive (by omega) (by omega)) (by kernel_rfl) (by kernel_rfl) fun uss hU0 => ?_
      obtain ⟨us0, r0, rfl, hl0, hR0, hU1⟩ := RelU.cons hU0
      obtain ⟨u10_0_0, u10_0_1, rfl⟩ := us_2 hl0
      obtain rfl := relval hR0 (j := 0) rfl rfl
      obtain ⟨us1, r1, rfl, hl1, hR1, hU2⟩ := RelU.cons hU1
      obtain ⟨u10_1_0, rfl⟩ := us_1 hl1
      obtain rfl := relval hR1 (j := 0) rfl rfl
      obtain rfl := RelU.nil hU2
      clear hR0 hU0 hR1 hU1 hU2
      refine Run.stepC 1023 (by exact ⟨rfl, ⟨⟩⟩) (by exact ⟨⟩) (LocG.of rfl (loc_take (.inl rfl) (by decide))) nofree (by kernel_rfl) (by intro L' h; exact nomatch (show (none : Option Step) = some L' from h)) ?_
      refine Run.stepC 2047 (by exact ⟨rfl, ⟨⟩⟩) (by exact ⟨⟩) (LocG.of rfl (loc_extractb (cs := [PV.val _, PV.val _]) (by decide) (by exact rfl) (by exact (BorL.cons (PV.bor_val _) (BorL.cons (PV.bor_val _) BorL.nil))))) nofree (by kernel_rfl) (by intro L' h; exact nomatch (show (none : Option Step) = some L' from h)) ?_
      refine Run.stepC 2047 (by exact ⟨rfl, ⟨⟩⟩) (by exact ⟨⟩) (LocG.of rfl (loc_extractb (cs := [PV.val _]) (by decide) (by exact rfl) (by exact (BorL.cons (PV.bor_val _) BorL.nil)))) nofree (by kernel_rfl) (by intro L' h; exact nomatch (show (none : Option Step) = some L' from h)) ?_
      refine Run.stepC 4095 (by exact ⟨rfl, rfl, ⟨⟩⟩) (by exact ⟨rfl, ⟨⟩⟩) (LocG.of rfl (loc_store (ag := true) (vs := [PV.val _, PV.val _]) ty_26 (by exact ⟨⟩) (by exact rfl) (by exact Nat.le_of_ble_eq_true rfl))) nofree (by kernel_rfl) (by intro L' h; exact nomatch (show (none : Option Step) = some L' from h)) ?_
      refine Run.stepC 16383 (by exact ⟨rfl, ⟨⟩⟩) (by exact ⟨⟩) (LocG.of rfl (loc_copy (.inr rfl) (by decide) (by exact Cp.sc))) nofree (by kernel_rfl) (by intro L' h; exact nomatch (show (none : Option Step) = some L' from h)) ?_
      refine sw_backB (d := 10) (G := 2000) (by exact rfl) (by exact (Nm.val (Nm.val Nm.nil))) (by exact rfl) ?_
      refine sw_backS (s := 11) (G := 2001) (by exact rfl) (by exact (Nm.val Nm.nil)) rfl (by decide) (by exact rfl) ?_
      refine sw_seq ?_
      refine sw_seq ?_
      refine sO [(2, _), (3, _), (4, _), (6, _), (7, _), (8, _), (9, _), (10, _), (11, _)] [(3, _), (4, _), (6, _), (7, _), (9, _), (10, (26, [PV.val _, PV.sl _ _]))] ?_
      refine sw_reg ?_
      refine rA ?_ (x := sM)
      refine rA ?_ (x := B_neq)
      refine sw_cond (t := 71) rfl (fun hb11 => ?_) (fun hb11 => ?_)
      ·try simp only [q1, q2, q3, q4, q5, q6, q7, q8, q9] at hb11
       refine sO [(2, _), (3, _), (4, _), (6, _), (7, _), (8, _), (9, _), (10, _), (11, _)] [(3, _), (4, _), (6, _), (7, _), (9, _), (10, _)] ?_
       refine sw_reg ?_
       refine rA ?_ (x := lF fd_36_1)
       refine rA ?_ (x := lD [PV.val _] ty_3)
       refine rA ?_ (x := sM)
       refine rA ?_ (x := lF fd_36_0)
       refine rA ?_ (x := lD [PV.sl .v _] ty_24)
       refine rA ?_ (x := lN sl_24)
       refine rA ?_ (x := loc_min (by decide) (by exact ⟨⟩) (by exact ⟨⟩))
       refine rA ?_ (x := loc_max (by decide) (by exact ⟨⟩) (by exact ⟨⟩))
       refine rA ?_ (x := lF fd_36_1)
       refine rA ?_ (x := loc_store (ag := false) (vs := [PV.val _]) ty_3 (by exact ⟨⟩) (by exact rfl) (by exact Nat.le_of_ble_eq_true rfl))
       refine sw_seq ?_
       refine sO [(2, _), (3, _), (4, _), (6, _), (7, _), (8, _), (9, _), (10, _), (11, _)] [(3, _), (4, _), (6, _), (7, _), (9, (36, [PV.sl _ _, PV.val _, PV.val _])), (10, _)] ?_
       refine sw_draw hm_ ?_
       refine dA 0 ?_ (x := loc_ltake (ms := [PV.sl _ _, PV.val _, PV.val _]) (qs := [PV.sl .v _, PV.val _, PV.val _]) (by decide) ty_36 (fun h => nomatch h) (by exact Nat.le_of_ble_eq_true rfl) (by exact rfl) (by exact (ToL.cons PV.to_none (ToL.cons (PV.To.refl _) (ToL.cons (PV.To.refl _) ToL.nil)))) (by exact (BorL.cons (PV.bor_sl _) (BorL.cons (PV.bor_val _) (BorL.cons (PV.bor_val _) BorL.nil)))))
       refine dA 0 ?_ (x := loc_ltake (ms := [PV.val _, PV.sl _ _]) (qs := [PV.val _, PV.sl .v _]) (by decide) ty_26 (fun h => nomatch h) (by exact Nat.le_of_ble_eq_true rfl) (by exact rfl) (by exact (ToL.cons (PV.To.refl _) (ToL.cons PV.to_none ToL.nil))) (by exact (BorL.cons (PV.bor_val _) (BorL.cons (PV.bor_sl _) BorL.nil))))
       refine dA 1 ?_ (x := loc_store (ag := true) (vs := [PV.sl _ _, PV.val _, PV.val _]) ty_36 (by exact ⟨⟩) (by exact rfl) (by exact Nat.le_of_ble_eq_true rfl))
       refine dA 7 ?_ (x := loc_store (ag := true) (vs := [PV.val _, PV.sl _ _]) ty_26 (by exact ⟨⟩) (by exact rfl) (by exact Nat.le_of_ble_eq_true rfl))
       refine dA 15 ?_ (x := kA)
       refine sw_ret ?_
       exact (Exists.intro 6 (Exists.intro _ (And.intro (by exact rfl) (And.intro (by refine box_eq ?_; first | (exfalso; omega) | simp [send, sendTo, cOutbox, cClient, *]) (And.intro ty_36 (And.intro (fun h => nomatch h) (Exists.intro 7 (Exists.intro _ (And.intro (by exact rfl) (And.intro (by refine box_eq ?_; first | (exfalso; omega) | simp [send, sendTo, cOutbox, cClient, *]) (And.intro ty_26 (And.intro (fun h => nomatch h) (And.intro (by refine bool_eq ?_; first | (exfalso; omega) | simp [send, sendTo, cOutbox, cClient, *]) True.intro)))))))))))))
      ·try simp only [q1, q2, q3, q4, q5, q6, q7, q8, q9] at hb11
       refine sw_skip ?_
       refine sw_seq ?_
       refine sO [(2, _), (3, _), (4, _), (6, _), (7, _), (8, _), (9, _), (10, _), (11, _)] [(3, _), (4, _), (6, _), (7, _), (9, _), (10, _)] ?_
       refine sw_draw hm_ ?_
       refine dA 0 ?_ (x := loc_ltake (ms := [PV.sl _ _, PV.val _, PV.val _]) (qs := [PV.sl .v _, PV.val _, PV.val _]) (by decide) ty_36 (fun h => nomatch h) (by exact Nat.le_of_ble_eq_true rfl) (by exact rfl) (by exact (ToL.cons PV.to_none (ToL.cons (PV.To.refl _) (ToL.cons (PV.To.refl _) ToL.nil)))) (by exact (BorL.cons (PV.bor_sl _) (BorL.cons (PV.bor_val _) (BorL.cons (PV.bor_val _) BorL.nil)))))
       refine dA 0 ?_ (x := loc_ltake (ms := [PV.val _, PV.sl _ _]) (qs := [PV.val _, PV.sl .v _]) (by decide) ty_26 (fun h => nomatch h) (by exact Nat.le_of_ble_eq_true rfl) (by exact rfl) (by exact (ToL.cons (PV.To.refl _) (ToL.cons PV.to_none ToL.nil))) (by exact (BorL.cons (PV.bor_val _) (BorL.cons (PV.bor_sl _) BorL.nil))))
       refine dA 1 ?_ (x := loc_store (ag := true) (vs := [PV.sl _ _, PV.val _, PV.val _]) ty_36 (by exact ⟨⟩) (by exact rfl) (by exact Nat.le_of_ble_eq_true rfl))
       refine dA 7 ?_ (x := loc_store (ag := true) (vs := [PV.val _, PV.sl _ _]) ty_26 (by exact ⟨⟩) (by exact rfl) (by exact Nat.le_of_ble_eq_true rfl))
       refine dA 15 ?_ (x := kA)
       refine sw_ret ?_
       exact (Exists.intro 6 (Exists.intro _ (And.intro (by exact rfl) (And.intro (by refine box_eq ?_; first | (exfalso; omega) | simp [send, sendTo, cOutbox, cClient, *]) (And.intro ty_36 (And.intro (fun h => nomatch h) (Exists.intro 7 (Exists.intro _ (And.intro (by exact rfl) (And.intro (by refine box_eq ?_; first | (exfalso; omega) | simp [send, sendTo, cOutbox, cClient, *]) (And.intro ty_26 (And.intro (fun h => nomatch h) (And.intro (by refine bool_eq ?_; first | (exfalso; omega) | simp [send, sendTo, cOutbox, cClient, *]) True.intro)))))))))))))
     ·try simp only [q1, q2, q3, q4, q5, q6, q7, q8, q9] at hb9
      refine sw_skip ?_
      refine sw_seq ?_
      refine sw_seq ?_
      refine sO [(2, _), (3, _), (4, _), (6, _), (7, _), (8, _), (9, _), (10, _), (11, _)] [(3, _), (4, _), (6, _), (7, _), (9, _), (10, _)] ?_
      refine sw_reg ?_
      refine rA ?_ (x := sM)
      refine rA ?_ (x := B_neq)
      refine sw_cond (t := 71) rfl (fun hb12 => ?_) (fun hb12 => ?_)
      ·try simp only [q1, q2, q3, q4, q5, q6, q7, q8, q9] at hb12
       refine sO [(2, _), (3, _), (4, _), (6, _), (7, _), (8, _), (9, _), (10, _), (11, _)] [(3, _), (4, _), (6, _), (7, _), (9, _), (10, _)] ?_
       refine sw_reg ?_
       refine rA ?_ (x := lF fd_36_1)
       refine rA ?_ (x := lD [PV.val _] ty_3)
       refine rA ?_ (x := sM)
       refine rA ?_ (x := lF fd_36_0)
       refine rA ?_ (x := lD [PV.sl .v _] ty_24)
       refine rA ?_ (x := lN sl_24)
       refine rA ?_ (x := loc_min (by decide) (by exact ⟨⟩) (by exact ⟨⟩))
       refine rA ?_ (x := loc_max (by decide) (by exact ⟨⟩) (by exact ⟨⟩))
       refine rA ?_ (x := lF fd_36_1)
       refine rA ?_ (x := loc_store (ag := false) (vs := [PV.val _]) ty_3 (by exact ⟨⟩) (by exact rfl) (by exact Nat.le_of_ble_eq_true rfl))
       refine sw_seq ?_
       refine sO [(2, _), (3, _), (4, _), (6, _), (7, _), (8, _), (9, _), (10, _), (11, _)] [(3, _), (4, _), (6, _), (7, _), (9, (36, [PV.sl _ _, PV.val _, PV.val _])), (10, _)] ?_
       refine sw_draw hm_ ?_
       refine dA 0 ?_ (x := loc_ltake (ms := [PV.sl _ _, PV.val _, PV.val _]) (qs := [PV.sl .v _, PV.val _, PV.val _]) (by decide) ty_36 (fun h => nomatch h) (by exact Nat.le_of_ble_eq_true rfl) (by exact rfl) (by exact (ToL.cons PV.to_none (ToL.cons (PV.To.refl _) (ToL.cons (PV.To.refl _) ToL.nil)))) (by exact (BorL.cons (PV.bor_sl _) (BorL.cons (PV.bor_val _) (BorL.cons (PV.bor_val _) BorL.nil)))))
       refine dA 0 ?_ (x := loc_ltake (ms := [PV.val _, PV.sl _ _]) (qs := [PV.val _, PV.sl .v _]) (by decide) ty_26 (fun h => nomatch h) (by exact Nat.le_of_ble_eq_true rfl) (by exact rfl) (by exact (ToL.cons (PV.To.refl _) (ToL.cons PV.to_none ToL.nil))) (by exact (BorL.cons (PV.bor_val _) (BorL.cons (PV.bor_sl _) BorL.nil))))
       refine dA 1 ?_ (x := loc_store (ag := true) (vs := [PV.sl _ _, PV.val _, PV.val _]) ty_36 (by exact ⟨⟩) (by exact rfl) (by exact Nat.le_of_ble_eq_true rfl))
       refine dA 7 ?_ (x := loc_store (ag := true) (vs := [PV.val _, PV.sl _ _]) ty_26 (by exact ⟨⟩) (by exact rfl) (by exact Nat.le_of_ble_eq_true rfl))
       refine dA 15 ?_ (x := kA)
       refine sw_ret ?_
       exact (Exists.intro 6 (Exists.intro _ (And.intro (by exact rfl) (And.intro (by refine box_eq ?_; first | (exfalso; omega) | simp [send, sendTo, cOutbox, cClient, *]) (And.intro ty_36 (And.intro (fun h => nomatch h) (Exists.intro 7 (Exists.intro _ (And.intro (by exact rfl) (And.intro (by refine box_eq ?_; first | (exfalso; omega) | simp [send, sendTo, cOutbox, cClient, *]) (And.intro ty_26 (And.intro (fun h => nomatch h) (And.intro (by refine bool_eq ?_; first | (exfalso; omega) | simp [send, sendTo, cOutbox, cClient, *]) True.intro)))))))))))))
      ·try simp only [q1, q2, q3, q4, q5, q6, q7, q8, q9] at hb12
       refine sw_skip ?_
       refine sw_seq ?_
       refine sO [(2, _), (3, _), (4, _), (6, _), (7, _), (8, _), (9, _), (10, _), (11, _)] [(3, _), (4, _), (6, _), (7, _), (9, _), (10, _)] ?_
       refine sw_draw hm_ ?_
       refine dA 0 ?_ (x := loc_ltake (ms := [PV.sl _ _, PV.val _, PV.val _]) (qs := [PV.sl .v _, PV.val _, PV.val _]) (by decide) ty_36 (fun h => nomatch h) (by exact Nat.le_of_ble_eq_true rfl) (by exact rfl) (by exact (ToL.cons PV.to_none (ToL.cons (PV.To.refl _) (ToL.cons (PV.To.refl _) ToL.nil)))) (by exact (BorL.cons (PV.bor_sl _) (BorL.cons (PV.bor_val _) (BorL.cons (PV.bor_val _) BorL.nil)))))
       refine dA 0 ?_ (x := loc_ltake (ms := [PV.val _, PV.sl _ _]) (qs := [PV.val _, PV.sl .v _]) (by decide) ty_26 (fun h => nomatch h) (by exact Nat.le_of_ble_eq_true rfl) (by exact rfl) (by exact (ToL.cons (PV.To.refl _) (ToL.cons PV.to_none ToL.nil))) (by exact (BorL.cons (PV.bor_val _) (BorL.cons (PV.bor_sl _) BorL.nil))))
       refine dA 1 ?_ (x := loc_store (ag := true) (vs := [PV.sl _ _, PV.val _, PV.val _]) ty_36 (by exact ⟨⟩) (by exact rfl) (by exact Nat.le_of_ble_eq_true rfl))
       refine dA 7 ?_ (x := loc_store (ag := true) (vs := [PV.val _, PV.sl _ _]) ty_26 (by exact ⟨⟩) (by exact rfl) (by exact Nat.le_of_ble_eq_true rfl))
       refine dA 15 ?_ (x := kA)
       refine sw_ret ?_
       exact (Exists.intro 6 (Exists.intro _ (And.intro (by exact rfl) (And.intro (by refine box_eq ?_; first | (exfalso; omega) | simp [send, sendTo, cOutbox, cClient, *]) (And.intro ty_36 (And.intro (fun h => nomatch h) (Exists.intro 7 (Exists.intro _ (And.intro (by exact rfl) (And.intro (by refine box_eq ?_; first | (exfalso; omega) | simp [send, sendTo, cOutbox, cClient, *]) (And.intro ty_26 (And.intro (fun h => nomatch h) (And.intro (by refine bool_eq ?_; first | (exfalso; omega) | simp [send, sendTo, cOutbox, cClient, *]) True.intro)))))))))))))
end Go.Proofs.Ytdoabhihpclliaa
