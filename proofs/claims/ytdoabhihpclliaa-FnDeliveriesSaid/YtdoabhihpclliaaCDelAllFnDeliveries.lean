/- What functions of the program compute. No condition. -/
import Derived.Test.YtdoabhihpclliaaCSendFnDeliveries
import Derived.KernelRfl
set_option linter.unusedVariables false
set_option linter.unusedSimpArgs false
namespace Go.Proofs.Ytdoabhihpclliaa
open Go Go.RowKit M
set_option maxRecDepth 10000
attribute [local irreducible] PV.Lcl PV.LclR RV.Lcl
theorem impl_DeliverAll {p1 : Fl} {x : List Row} {fates : List Int}  (hb : wtRowS x ≤ 1048576) : SCall Try.prog 14 [(false, [PV.sl .v (x.map (cRow p1))]), (false, [PV.sl .v (fates.map cInt)])] (resRV [(true, [PV.sl (.own 29 2) ((deliverAll x fates).1.Rows.map (cRow (.own 3 1))), PV.val (vI (deliverAll x fates).1.Acked), PV.val (vI (deliverAll x fates).1.Tries)]), (true, [PV.val (vI (deliverAll x fates).2.Next), PV.sl (.own 29 2) ((deliverAll x fates).2.Rows.map (cRow (.own 3 1)))])]) := by
 refine scall_of (rs := [(true, [PV.sl (.own 29 2) ((deliverAll x fates).1.Rows.map (cRow (.own 3 1))), PV.val (vI (deliverAll x fates).1.Acked), PV.val (vI (deliverAll x fates).1.Tries)]), (true, [PV.val (vI (deliverAll x fates).2.Next), PV.sl (.own 29 2) ((deliverAll x fates).2.Rows.map (cRow (.own 3 1)))])]) Try.func14 rfl (Nat.le_of_ble_eq_true rfl) (borA_cons (BorL.cons (PV.bor_sl _) BorL.nil) (borA_cons (BorL.cons (PV.bor_sl _) BorL.nil) borA_nil)) ?_
 intro h0 w0 Fz0
 refine sw_len (s := 0) rfl fun hl0 => ?_
 try rw [List.length_map] at hl0
 refine sw_len (s := 1) rfl fun hl1 => ?_
 try rw [List.length_map] at hl1
 have h0w : wtOutbox ((⟨x, 0, 0⟩, ⟨0, []⟩) : Outbox × Client).1 ≤ 1048576 := by simp [wtOutbox, wtInt]; omega
 have h00 : wtClient (⟨0, []⟩ : Client) = 0 := by simp [wtClient, wtRowS, wtInt]
 refine sw_seq ?_
 refine sw_reg ?_
 refine RunS.step (by exact ⟨⟩) (by exact ⟨⟩) (LocG.of rfl (loc_alloc (by decide) z_36 zo_36)) (free1 (Free.of_ rfl)) ?_
 refine RunS.step (by exact ⟨⟩) (by exact ⟨⟩) (LocG.of rfl (loc_alloc (by decide) z_26 zo_26)) (free1 (Free.app (Free.of_ rfl) rfl)) ?_
 refine sw_seq ?_
 refine sO [(0, _), (1, _), (4, _), (5, _)] [(4, (36, [PV.sl _ _, PV.val _, PV.val _])), (5, (26, [PV.val _, PV.sl _ _]))] ?_
 refine sw_reg ?_
 refine rA ?_ (x := vM false [PV.sl .v _])
 refine rA ?_ (x := cL [(false, [PV.sl _ _])] [(false, [PV.sl .v _])] c_16 (hs := by exact impl_NewOutbox (by omega)))
 refine rA ?_ (x := tM)
 refine rA ?_ (x := loc_extract (cs := [PV.sl _ _, PV.val _, PV.val _]) (qs := [PV.sl .v _, PV.val _, PV.val _]) (by decide) (by exact rfl) (by exact (ToL.cons PV.to_none (ToL.cons (PV.To.refl _) (ToL.cons (PV.To.refl _) ToL.nil)))) (by exact (BorL.cons (PV.bor_sl _) (BorL.cons (PV.bor_val _) (BorL.cons (PV.bor_val _) BorL.nil)))))
 refine rA ?_ (x := loc_extractb (cs := [PV.val _]) (by decide) (by exact rfl) (by exact (BorL.cons (PV.bor_val _) BorL.nil)))
 refine RunS.step (by exact ⟨⟩) (by exact ⟨⟩) (LocG.of rfl (loc_alloc (by decide) z_36 zo_36)) (free1 (Free.app (Free.app (Free.app (Free.app (Free.app (Free.of_ rfl) rfl) rfl) rfl) rfl) rfl)) ?_
 refine rA ?_ (x := loc_store (ag := true) (vs := [PV.sl _ _, PV.val _, PV.val _]) ty_36 (by exact ⟨⟩) (by exact rfl) (by exact Nat.le_of_ble_eq_true rfl))
 refine rA ?_ (x := sA)
 refine sw_seq ?_
 refine sw_seq ?_
 refine sO [(0, _), (1, _), (4, _), (5, _), (6, _), (7, _)] [(4, _), (5, _), (6, (36, [PV.sl _ _, PV.val _, PV.val _]))] ?_
 refine sw_reg ?_
 refine rA ?_ (x := sM)
 refine rA ?_ (x := nT)
 refine sw_cond (t := 18) rfl (fun hb1 => ?_) (fun hb1 => ?_)
 ·try simp only [q1, q2, q3, q4, q5, q6, q7, q8, q9] at hb1
  have hok : okRows x = false := by
   cases hk : okRows x with
   | false => rfl
   | true => simp [newBox, hk] at hb1
  have hnb : newBox x = (⟨[], 0, 0⟩, false) := by simp [newBox, hok]
  refine sw_seq ?_
  refine sO [(0, _), (1, _), (4, _), (5, _), (6, _), (7, _)] [(4, _), (5, _), (6, _)] ?_
  refine sw_reg ?_
  refine rA ?_ (x := loc_build (qs := []) (cs := [PV.sl _ _, PV.val _, PV.val _]) (by decide) z_36 zo_36 pl_36 (by exact rfl) (by exact ⟨⟩) rfl (by exact rfl))
  refine rA ?_ (x := loc_build (qs := []) (cs := [PV.val _, PV.sl _ _]) (by decide) z_26 zo_26 pl_26 (by exact rfl) (by exact ⟨⟩) rfl (by exact rfl))
  refine rA ?_ (x := loc_store (ag := true) (vs := [PV.sl _ _, PV.val _, PV.val _]) ty_36 (by exact ⟨⟩) (by exact rfl) (by exact Nat.le_of_ble_eq_true rfl))
  refine rA ?_ (x := loc_store (ag := true) (vs := [PV.val _, PV.sl _ _]) ty_26 (by exact ⟨⟩) (by exact rfl) (by exact Nat.le_of_ble_eq_true rfl))
  refine sw_ret ?_
  exact (Exists.intro 4 (Exists.intro _ (And.intro (by exact rfl) (And.intro (by refine box_eq ?_; first | (simp [deliverAll, hok, hnb]; done) | (simp only [deliverAll, hok, if_true]; rw [← hdr, hfin]; rfl)) (And.intro ty_36 (And.intro (fun h => nomatch h) (Exists.intro 5 (Exists.intro _ (And.intro (by exact rfl) (And.intro (by refine box_eq ?_; first | (simp [deliverAll, hok, hnb]; done) | (simp only [deliverAll, hok, if_true]; rw [← hdr, hfin]; rfl)) (And.intro ty_26 (And.intro (fun h => nomatch h) True.intro))))))))))))
 ·try simp only [q1, q2, q3, q4, q5, q6, q7, q8, q9] at hb1
  have hok : okRows x = true := by
   cases hk : okRows x with
   | true => rfl
   | false => simp [newBox, hk] at hb1
  have hnb : newBox x = (⟨x, 0, 0⟩, true) := by simp [newBox, hok]
  refine sw_skip ?_
  refine sw_seq ?_
  refine sO [(0, _), (1, _), (4, _), (5, _), (6, _), (7, _)] [(4, _), (5, _), (6, _)] ?_
  refine sw_reg ?_
  refine rA ?_ (x := loc_build (qs := []) (cs := [PV.val _, PV.sl _ _]) (by decide) z_26 zo_26 pl_26 (by exact rfl) (by exact ⟨⟩) rfl (by exact rfl))
  refine RunS.step (by exact ⟨⟩) (by exact ⟨⟩) (LocG.of rfl (loc_alloc (by decide) z_26 zo_26)) (free1 (Free.app (Free.of_ rfl) rfl)) ?_
  refine rA ?_ (x := loc_store (ag := true) (vs := [PV.val _, PV.sl _ _]) ty_26 (by exact ⟨⟩) (by exact rfl) (by exact Nat.le_of_ble_eq_true rfl))
  refine sw_seq ?_
  refine sw_seq ?_
  refine sO [(0, _), (1, _), (4, _), (5, _), (6, _), (7, _), (8, _)] [(4, _), (5, _), (6, _), (8, (26, [PV.val _, PV.sl _ _]))] ?_
  refine sw_reg ?_
  refine rA ?_ (x := vM false [PV.sl .v _])
  refine rA ?_ (x := vM false [PV.sl .v _])
  refine rA ?_ (x := lN sl_27)
  refine rA ?_ (x := loc_min (by decide) (by exact ⟨⟩) (ok_sc rfl))
  refine rA ?_ (x := loc_sliceM (i := 0) (j := (min 200 fates.length)) (ys := (fates.take 200)) (q := (0 : Int)) (by decide) sl_27 (by exact rfl) (by exact ⟨⟩) (by omega) (by omega) (by omega) (by omega) (fun _ => rfl) (by simp [List.take_eq_take_iff]))
  refine rA ?_ (x := lN sl_27)
  refine rA ?_ (x := kM)
  refine sw_block ?_
  refine sO [(0, _), (1, _), (4, _), (5, _), (6, _), (7, _), (8, _), (26, _), (27, _), (28, _)] [(4, _), (5, _), (6, _), (8, _)] ?_
  refine sw_loop (l0 := [(0, RV.sv false [PV.sl _ _]), (1, RV.sv false [PV.sl _ _]), (4, RV.ptr 4 0), (5, RV.ptr 5 0), (6, RV.ptr 6 0), (7, RV.sv false [PV.val _]), (8, RV.ptr 8 0), (26, RV.sv false [PV.sl _ _]), (27, RV.sv false [PV.val _])]) (b0 := [(4, (36, [PV.sl _ _, PV.val _, PV.val _])), (5, (26, [PV.val _, PV.sl _ _]))]) (fun k : Nat => k ≤ (fates.take 200).length) (fun k : Nat => [(28, RV.int (k : Int))]) (fun k : Nat => [(6, (36, cOutbox (.own 29 2) (.own 3 1) (run1 ((⟨x, 0, 0⟩, ⟨0, []⟩) : Outbox × Client) (fates.take 200) k).1)), (8, (26, cClient (.own 29 2) (.own 3 1) (run1 ((⟨x, 0, 0⟩, ⟨0, []⟩) : Outbox × Client) (fates.take 200) k).2))]) (fun k : Nat => (fates.take 200).length - k) 0 (by omega) (by exact ⟨rfl, rfl, rfl, rfl, rfl, rfl, rfl, rfl, rfl, ⟨⟩⟩) (by exact ⟨rfl, rfl, ⟨⟩⟩) (by exact And.intro (by exact rfl) (True.intro)) (by exact And.intro (by first | exact rfl | (rw [hnb]; exact rfl)) (And.intro (by exact rfl) (True.intro))) ?_
  rintro k hk
  refine sw_seq ?_
  refine sw_reg ?_
  refine rA ?_ (x := B_lss)
  refine sw_seq ?_
  refine sw_cond (t := 29) rfl (fun hb2 => ?_) (fun hb2 => ?_)
  ·try simp only [q1, q2, q3, q4, q5, q6, q7, q8, q9] at hb2
   have hlt : k < (fates.take 200).length := by first | omega | (rw [List.length_take]; simp at *; omega)
   have hrw := run1_wt (s := ((⟨x, 0, 0⟩, ⟨0, []⟩) : Outbox × Client)) (l := (fates.take 200)) h0w k hk
   dsimp only at hrw
   rw [h00] at hrw
   have hgt : k < fates.length ∧ k < 200 := by rw [List.length_take] at hlt; omega
   refine sw_skip ?_
   refine sw_seq ?_
   refine sw_block ?_
   refine sw_seq ?_
   refine sO [(0, _), (1, _), (4, _), (5, _), (6, _), (7, _), (8, _), (26, _), (27, _), (28, _)] [(4, (36, [PV.sl _ _, PV.val _, PV.val _])), (5, (26, [PV.val _, PV.sl _ _])), (6, (36, [PV.sl _ _, PV.val _, PV.val _])), (8, (26, [PV.val _, PV.sl _ _]))] ?_
   refine sw_reg ?_
   refine rA ?_ (x := loc_index (by decide) sl_27 (by exact ⟨⟩) (by exact rfl) (by exact getm2 (by omega) rfl) (by exact rfl))
   refine rA ?_ (x := lE [PV.val _] ty_3)
   refine rA ?_ (x := sA)
   refine sO [(0, _), (1, _), (4, _), (5, _), (6, _), (7, _), (8, _), (10, _), (26, _), (27, _), (28, _)] [(4, _), (5, _), (6, _), (8, _)] ?_
   refine sw_reg ?_
   refine rA ?_ (x := lD [PV.sl .v _, PV.val _, PV.val _] ty_36)
   refine rA ?_ (x := lD [PV.val _, PV.sl .v _] ty_26)
   refine rA ?_ (x := sM)
   refine rA ?_ (x := cL [(true, [PV.sl _ _, PV.val _, PV.val _]), (true, [PV.val _, PV.sl _ _]), (false, [PV.val _])] [(true, [PV.sl .v _, PV.val _, PV.val _]), (true, [PV.val _, PV.sl .v _]), (false, [PV.val _])] c_11 (hs := by exact impl_SendNext (by omega) (by omega)))
   refine rA ?_ (x := tM)
   refine rA ?_ (x := loc_extract (cs := [PV.sl _ _, PV.val _, PV.val _]) (qs := [PV.sl .v _, PV.val _, PV.val _]) (by decide) (by exact rfl) (by exact (ToL.cons PV.to_none (ToL.cons (PV.To.refl _) (ToL.cons (PV.To.refl _) ToL.nil)))) (by exact (BorL.cons (PV.bor_sl _) (BorL.cons (PV.bor_val _) (BorL.cons (PV.bor_val _) BorL.nil)))))
   refine rA ?_ (x := loc_extract (cs := [PV.val _, PV.sl _ _]) (qs := [PV.val _, PV.sl .v _]) (by decide) (by exact rfl) (by exact (ToL.cons (PV.To.refl _) (ToL.cons PV.to_none ToL.nil))) (by exact (BorL.cons (PV.bor_val _) (BorL.cons (PV.bor_sl _) BorL.nil))))
   refine rA ?_ (x := loc_extractb (cs := [PV.val _]) (by decide) (by exact rfl) (by exact (BorL.cons (PV.bor_val _) BorL.nil)))
   refine rA ?_ (x := loc_store (ag := true) (vs := [PV.sl _ _, PV.val _, PV.val _]) ty_36 (by exact ⟨⟩) (by exact rfl) (by exact Nat.le_of_ble_eq_true rfl))
   refine rA ?_ (x := loc_store (ag := true) (vs := [PV.val _, PV.sl _ _]) ty_26 (by exact ⟨⟩) (by exact rfl) (by exact Nat.le_of_ble_eq_true rfl))
   refine sO [(0, _), (1, _), (4, _), (5, _), (6, _), (7, _), (8, _), (10, _), (26, _), (27, _), (28, _)] [(4, _), (5, _), (6, (36, [PV.sl _ _, PV.val _, PV.val _])), (8, (26, [PV.val _, PV.sl _ _]))] ?_
   refine sw_reg ?_
   refine rA ?_ (x := B_add)
   refine rA ?_ (x := sM)
   refine Exists.intro (k + 1) (And.intro (by omega) (And.intro (by omega) (And.intro (And.intro (by exact ⟨rfl, rfl, rfl, rfl, rfl, rfl, rfl, rfl, rfl, ⟨⟩⟩) (by exact ⟨rfl, rfl, ⟨⟩⟩)) (And.intro (by exact And.intro (by exact rfl) (True.intro)) (by exact And.intro (by first | exact congrArg (fun z : Outbox × Client => some (36, cOutbox (.own 29 2) (.own 3 1) z.1)) (run1_succ hlt).symm | exact congrArg (fun z : Outbox × Client => some (36, cOutbox (.own 29 2) (.own 3 1) z.1)) (run1_succ2 hlt hgt.1).symm) (And.intro (by first | exact congrArg (fun z : Outbox × Client => some (26, cClient (.own 29 2) (.own 3 1) z.2)) (run1_succ hlt).symm | exact congrArg (fun z : Outbox × Client => some (26, cClient (.own 29 2) (.own 3 1) z.2)) (run1_succ2 hlt hgt.1).symm) (True.intro)))))))
  ·try simp only [q1, q2, q3, q4, q5, q6, q7, q8, q9] at hb2
   have hend : k = (fates.take 200).length := by first | omega | (rw [List.length_take] at hk ⊢; simp_all; omega)
   refine sw_exit ?_
   refine sw_seq ?_
   refine sw_seq ?_
   refine sO [(0, _), (1, _), (4, _), (5, _), (6, _), (7, _), (8, _), (26, _), (27, _), (28, _)] [(4, (36, [PV.sl _ _, PV.val _, PV.val _])), (5, (26, [PV.val _, PV.sl _ _])), (6, (36, [PV.sl _ _, PV.val _, PV.val _])), (8, (26, [PV.val _, PV.sl _ _]))] ?_
   refine sw_reg ?_
   refine rA ?_ (x := kA)
   refine sw_block ?_
   refine sO [(0, _), (1, _), (4, _), (5, _), (6, _), (7, _), (8, _), (11, _), (26, _), (27, _), (28, _)] [(4, _), (5, _), (6, _), (8, _)] ?_
   refine sw_loop (l0 := [(0, RV.sv false [PV.sl _ _]), (1, RV.sv false [PV.sl _ _]), (4, RV.ptr 4 0), (5, RV.ptr 5 0), (6, RV.ptr 6 0), (7, RV.sv false [PV.val _]), (8, RV.ptr 8 0), (26, RV.sv false [PV.sl _ _]), (27, RV.sv false [PV.val _]), (28, RV.sv false [PV.val _])]) (b0 := [(4, (36, [PV.sl _ _, PV.val _, PV.val _])), (5, (26, [PV.val _, PV.sl _ _]))]) (fun q : Nat × Outbox × Client => q.1 ≤ 2000 ∧ drive (2000 - q.1) q.2 = drive 2000 (run1 ((⟨x, 0, 0⟩, ⟨0, []⟩) : Outbox × Client) (fates.take 200) (fates.take 200).length) ∧ wtOutbox q.2.1 ≤ 1048576 ∧ wtClient q.2.2 ≤ 419430800 + q.1 * 2097154) (fun q : Nat × Outbox × Client => [(11, RV.int (q.1 : Int))]) (fun q : Nat × Outbox × Client => [(6, (36, cOutbox (.own 29 2) (.own 3 1) q.2.1)), (8, (26, cClient (.own 29 2) (.own 3 1) q.2.2))]) (fun q : Nat × Outbox × Client => 2000 - q.1) (0, (run1 ((⟨x, 0, 0⟩, ⟨0, []⟩) : Outbox × Client) (fates.take 200) (fates.take 200).length)) (by refine ⟨by simp, rfl, ?_, ?_⟩ <;> (have hrw := run1_wt (s := ((⟨x, 0, 0⟩, ⟨0, []⟩) : Outbox × Client)) (l := (fates.take 200)) h0w _ (Nat.le_refl _); rw [h00] at hrw; have hl : (fates.take 200).length ≤ 200 := (by rw [List.length_take]; omega); dsimp only; omega)) (by exact ⟨rfl, rfl, rfl, rfl, rfl, rfl, rfl, rfl, rfl, rfl, ⟨⟩⟩) (by exact ⟨rfl, rfl, ⟨⟩⟩) (by exact And.intro (by exact rfl) (True.intro)) (by exact And.intro (by subst hend; exact rfl) (And.intro (by subst hend; exact rfl) (True.intro))) ?_
   rintro q ⟨hk2, hdr, hwo, hwc⟩
   refine sw_seq ?_
   refine sw_seq ?_
   refine sw_reg ?_
   refine rA ?_ (x := sM)
   refine rA ?_ (x := B_lss)
   refine rA ?_ (x := sM)
   refine RunS.cases (s := 43) rfl (fun g3 => ?_) (fun g3 => ?_)
   ·have sg3 := g3
    try simp only [q1, q2, q3, q4, q5, q6, q7, q8, q9] at sg3
    refine rB g3 ?_ (x := lF fd_36_1)
    refine rB g3 ?_ (x := lD [PV.val _] ty_3)
    refine rB g3 ?_ (x := lF fd_36_0)
    refine rB g3 ?_ (x := lD [PV.sl .v _] ty_24)
    refine rB g3 ?_ (x := lN sl_24)
    refine rB g3 ?_ (x := B_lss)
    refine rA ?_ (x := pkT g3)
    refine sw_cond (t := 50) rfl (fun hb4 => ?_) (fun hb4 => ?_)
    ·try simp only [q1, q2, q3, q4, q5, q6, q7, q8, q9] at hb4
     have hac : q.2.1.Acked < q.2.1.Rows.length := by simp_all
     have hk2l : q.1 < 2000 := by simp at *; omega
     refine sw_skip ?_
     refine sw_seq ?_
     refine sw_block ?_
     refine sO [(0, _), (1, _), (4, _), (5, _), (6, _), (7, _), (8, _), (11, _), (26, _), (27, _), (28, _)] [(4, (36, [PV.sl _ _, PV.val _, PV.val _])), (5, (26, [PV.val _, PV.sl _ _])), (6, (36, [PV.sl _ _, PV.val _, PV.val _])), (8, (26, [PV.val _, PV.sl _ _]))] ?_
     refine sw_reg ?_
     refine rA ?_ (x := lD [PV.sl .v _, PV.val _, PV.val _] ty_36)
     refine rA ?_ (x := lD [PV.val _, PV.sl .v _] ty_26)
     refine rA ?_ (x := cL [(true, [PV.sl _ _, PV.val _, PV.val _]), (true, [PV.val _, PV.sl _ _]), (false, [PV.val _])] [(true, [PV.sl .v _, PV.val _, PV.val _]), (true, [PV.val _, PV.sl .v _]), (false, [PV.val _])] c_11 (hs := by exact impl_SendNext (by omega) (by omega)))
     refine rA ?_ (x := tM)
     refine rA ?_ (x := loc_extract (cs := [PV.sl _ _, PV.val _, PV.val _]) (qs := [PV.sl .v _, PV.val _, PV.val _]) (by decide) (by exact rfl) (by exact (ToL.cons PV.to_none (ToL.cons (PV.To.refl _) (ToL.cons (PV.To.refl _) ToL.nil)))) (by exact (BorL.cons (PV.bor_sl _) (BorL.cons (PV.bor_val _) (BorL.cons (PV.bor_val _) BorL.nil)))))
     refine rA ?_ (x := loc_extract (cs := [PV.val _, PV.sl _ _]) (qs := [PV.val _, PV.sl .v _]) (by decide) (by exact rfl) (by exact (ToL.cons (PV.To.refl _) (ToL.cons PV.to_none ToL.nil))) (by exact (BorL.cons (PV.bor_val _) (BorL.cons (PV.bor_sl _) BorL.nil))))
     refine rA ?_ (x := loc_extractb (cs := [PV.val _]) (by decide) (by exact rfl) (by exact (BorL.cons (PV.bor_val _) BorL.nil)))
     refine rA ?_ (x := loc_store (ag := true) (vs := [PV.sl _ _, PV.val _, PV.val _]) ty_36 (by exact ⟨⟩) (by exact rfl) (by exact Nat.le_of_ble_eq_true rfl))
     refine rA ?_ (x := loc_store (ag := true) (vs := [PV.val _, PV.sl _ _]) ty_26 (by exact ⟨⟩) (by exact rfl) (by exact Nat.le_of_ble_eq_true rfl))
     refine sO [(0, _), (1, _), (4, _), (5, _), (6, _), (7, _), (8, _), (11, _), (26, _), (27, _), (28, _)] [(4, _), (5, _), (6, (36, [PV.sl _ _, PV.val _, PV.val _])), (8, (26, [PV.val _, PV.sl _ _]))] ?_
     refine sw_reg ?_
     refine rA ?_ (x := sM)
     refine rA ?_ (x := B_add)
     refine rA ?_ (x := sA)
     refine Exists.intro (q.1 + 1, dstep q.2 0) (And.intro (by have hd := dstep_wt (s := q.2) (fate := 0) hwo; refine ⟨by dsimp only; omega, ?_, by dsimp only; omega, by dsimp only; omega⟩; dsimp only; rw [← hdr, show 2000 - q.1 = (2000 - (q.1 + 1)) + 1 by omega]; simp only [drive]; rw [if_pos hac]) (And.intro (by dsimp only; omega) (And.intro (And.intro (by exact ⟨rfl, rfl, rfl, rfl, rfl, rfl, rfl, rfl, rfl, rfl, ⟨⟩⟩) (by exact ⟨rfl, rfl, ⟨⟩⟩)) (And.intro (by exact And.intro (by exact rfl) (True.intro)) (by exact And.intro (by exact rfl) (And.intro (by exact rfl) (True.intro)))))))
    ·try simp only [q1, q2, q3, q4, q5, q6, q7, q8, q9] at hb4
     have hfin : drive (2000 - q.1) q.2 = q.2 := by
      by_cases hk3 : q.1 = 2000
      ·rw [hk3]; rfl
      ·rw [show 2000 - q.1 = (2000 - (q.1 + 1)) + 1 by omega]; simp only [drive]; rw [if_neg (by simp at *; omega)]
     refine sw_exit ?_
     refine sw_seq ?_
     refine sO [(0, _), (1, _), (4, _), (5, _), (6, _), (7, _), (8, _), (11, _), (26, _), (27, _), (28, _)] [(4, (36, [PV.sl _ _, PV.val _, PV.val _])), (5, (26, [PV.val _, PV.sl _ _])), (6, (36, [PV.sl _ _, PV.val _, PV.val _])), (8, (26, [PV.val _, PV.sl _ _]))] ?_
     refine sw_draw hm_ ?_
     refine dA 0 ?_ (x := loc_ltake (ms := [PV.sl _ _, PV.val _, PV.val _]) (qs := [PV.sl .v _, PV.val _, PV.val _]) (by decide) ty_36 (fun h => nomatch h) (by exact Nat.le_of_ble_eq_true rfl) (by exact rfl) (by exact (ToL.cons PV.to_none (ToL.cons (PV.To.refl _) (ToL.cons (PV.To.refl _) ToL.nil)))) (by exact (BorL.cons (PV.bor_sl _) (BorL.cons (PV.bor_val _) (BorL.cons (PV.bor_val _) BorL.nil)))))
     refine dA 0 ?_ (x := loc_ltake (ms := [PV.val _, PV.sl _ _]) (qs := [PV.val _, PV.sl .v _]) (by decide) ty_26 (fun h => nomatch h) (by exact Nat.le_of_ble_eq_true rfl) (by exact rfl) (by exact (ToL.cons (PV.To.refl _) (ToL.cons PV.to_none ToL.nil))) (by exact (BorL.cons (PV.bor_val _) (BorL.cons (PV.bor_sl _) BorL.nil))))
     refine dA 1 ?_ (x := loc_store (ag := true) (vs := [PV.sl _ _, PV.val _, PV.val _]) ty_36 (by exact ⟨⟩) (by exact rfl) (by exact Nat.le_of_ble_eq_true rfl))
     refine dA 7 ?_ (x := loc_store (ag := true) (vs := [PV.val _, PV.sl _ _]) ty_26 (by exact ⟨⟩) (by exact rfl) (by exact Nat.le_of_ble_eq_true rfl))
     refine sw_ret ?_
     exact (Exists.intro 4 (Exists.intro _ (And.intro (by exact rfl) (And.intro (by refine box_eq ?_; first | (simp [deliverAll, hok, hnb]; done) | (simp only [deliverAll, hok, if_true]; rw [← hdr, hfin]; rfl)) (And.intro ty_36 (And.intro (fun h => nomatch h) (Exists.intro 5 (Exists.intro _ (And.intro (by exact rfl) (And.intro (by refine box_eq ?_; first | (simp [deliverAll, hok, hnb]; done) | (simp only [deliverAll, hok, if_true]; rw [← hdr, hfin]; rfl)) (And.intro ty_26 (And.intro (fun h => nomatch h) True.intro))))))))))))
   ·have sg3 := g3
    try simp only [q1, q2, q3, q4, q5, q6, q7, q8, q9] at sg3
    refine RunS.s0f g3 ?_
    refine RunS.s0f g3 ?_
    refine RunS.s0f g3 ?_
    refine RunS.s0f g3 ?_
    refine RunS.s0f g3 ?_
    refine RunS.s0f g3 ?_
    refine rA ?_ (x := pkF g3)
    refine sw_cond (t := 50) rfl (fun hb_ => nomatch hb_) (fun hb_ => ?_)
    have hfin : drive (2000 - q.1) q.2 = q.2 := by
     by_cases hk3 : q.1 = 2000
     ·rw [hk3]; rfl
     ·rw [show 2000 - q.1 = (2000 - (q.1 + 1)) + 1 by omega]; simp only [drive]; rw [if_neg (by simp at *; omega)]
    refine sw_exit ?_
    refine sw_seq ?_
    refine sO [(0, _), (1, _), (4, _), (5, _), (6, _), (7, _), (8, _), (11, _), (26, _), (27, _), (28, _)] [(4, (36, [PV.sl _ _, PV.val _, PV.val _])), (5, (26, [PV.val _, PV.sl _ _])), (6, (36, [PV.sl _ _, PV.val _, PV.val _])), (8, (26, [PV.val _, PV.sl _ _]))] ?_
    refine sw_draw hm_ ?_
    refine dA 0 ?_ (x := loc_ltake (ms := [PV.sl _ _, PV.val _, PV.val _]) (qs := [PV.sl .v _, PV.val _, PV.val _]) (by decide) ty_36 (fun h => nomatch h) (by exact Nat.le_of_ble_eq_true rfl) (by exact rfl) (by exact (ToL.cons PV.to_none (ToL.cons (PV.To.refl _) (ToL.cons (PV.To.refl _) ToL.nil)))) (by exact (BorL.cons (PV.bor_sl _) (BorL.cons (PV.bor_val _) (BorL.cons (PV.bor_val _) BorL.nil)))))
    refine dA 0 ?_ (x := loc_ltake (ms := [PV.val _, PV.sl _ _]) (qs := [PV.val _, PV.sl .v _]) (by decide) ty_26 (fun h => nomatch h) (by exact Nat.le_of_ble_eq_true rfl) (by exact rfl) (by exact (ToL.cons (PV.To.refl _) (ToL.cons PV.to_none ToL.nil))) (by exact (BorL.cons (PV.bor_val _) (BorL.cons (PV.bor_sl _) BorL.nil))))
    refine dA 1 ?_ (x := loc_store (ag := true) (vs := [PV.sl _ _, PV.val _, PV.val _]) ty_36 (by exact ⟨⟩) (by exact rfl) (by exact Nat.le_of_ble_eq_true rfl))
    refine dA 7 ?_ (x := loc_store (ag := true) (vs := [PV.val _, PV.sl _ _]) ty_26 (by exact ⟨⟩) (by exact rfl) (by exact Nat.le_of_ble_eq_true rfl))
    refine sw_ret ?_
    exact (Exists.intro 4 (Exists.intro _ (And.intro (by exact rfl) (And.intro (by refine box_eq ?_; first | (simp [deliverAll, hok, hnb]; done) | (simp only [deliverAll, hok, if_true]; rw [← hdr, hfin]; rfl)) (And.intro ty_36 (And.intro (fun h => nomatch h) (Exists.intro 5 (Exists.intro _ (And.intro (by exact rfl) (And.intro (by refine box_eq ?_; first | (simp [deliverAll, hok, hnb]; done) | (simp only [deliverAll, hok, if_true]; rw [← hdr, hfin]; rfl)) (And.intro ty_26 (And.intro (fun h => nomatch h) True.intro))))))))))))
theorem spec_DeliverAll {p1 : Fl} {x : List Row} {fates : List Int}  (hb : wtRowS x ≤ 1048576) : SCall Try.prog 15 [(false, [PV.sl .v (x.map (cRow p1))]), (false, [PV.sl .v (fates.map cInt)])] (resRV [(true, [PV.sl (.own 29 2) ((deliverAll x fates).1.Rows.map (cRow (.own 3 1))), PV.val (vI (deliverAll x fates).1.Acked), PV.val (vI (deliverAll x fates).1.Tries)]), (true, [PV.val (vI (deliverAll x fates).2.Next), PV.sl (.own 29 2) ((deliverAll x fates).2.Rows.map (cRow (.own 3 1)))])]) := by
 refine scall_of (rs := [(true, [PV.sl (.own 29 2) ((deliverAll x fates).1.Rows.map (cRow (.own 3 1))), PV.val (vI (deliverAll x fates).1.Acked), PV.val (vI (deliverAll x fates).1.Tries)]), (true, [PV.val (vI (deliverAll x fates).2.Next), PV.sl (.own 29 2) ((deliverAll x fates).2.Rows.map (cRow (.own 3 1)))])]) Try.func15 rfl (Nat.le_of_ble_eq_true rfl) (borA_cons (BorL.cons (PV.bor_sl _) BorL.nil) (borA_cons (BorL.cons (PV.bor_sl _) BorL.nil) borA_nil)) ?_
 intro h0 w0 Fz0
 refine sw_len (s := 0) rfl fun hl0 => ?_
 try rw [List.length_map] at hl0
 refine sw_len (s := 1) rfl fun hl1 => ?_
 try rw [List.length_map] at hl1
 have h0w : wtOutbox ((⟨x, 0, 0⟩, ⟨0, []⟩) : Outbox × Client).1 ≤ 1048576 := by simp [wtOutbox, wtInt]; omega
 have h00 : wtClient (⟨0, []⟩ : Client) = 0 := by simp [wtClient, wtRowS, wtInt]
 refine sw_seq ?_
 refine sw_reg ?_
 refine RunS.step (by exact ⟨⟩) (by exact ⟨⟩) (LocG.of rfl (loc_alloc (by decide) z_36 zo_36)) (free1 (Free.of_ rfl)) ?_
 refine RunS.step (by exact ⟨⟩) (by exact ⟨⟩) (LocG.of rfl (loc_alloc (by decide) z_26 zo_26)) (free1 (Free.app (Free.of_ rfl) rfl)) ?_
 refine sw_seq ?_
 refine sO [(0, _), (1, _), (4, _), (5, _)] [(4, (36, [PV.sl _ _, PV.val _, PV.val _])), (5, (26, [PV.val _, PV.sl _ _]))] ?_
 refine sw_reg ?_
 refine rA ?_ (x := vM false [PV.sl .v _])
 refine rA ?_ (x := cL [(false, [PV.sl _ _])] [(false, [PV.sl .v _])] c_37 (hs := by exact spec_NewOutbox (by omega)))
 refine rA ?_ (x := tM)
 refine rA ?_ (x := loc_extract (cs := [PV.sl _ _, PV.val _, PV.val _]) (qs := [PV.sl .v _, PV.val _, PV.val _]) (by decide) (by exact rfl) (by exact (ToL.cons PV.to_none (ToL.cons (PV.To.refl _) (ToL.cons (PV.To.refl _) ToL.nil)))) (by exact (BorL.cons (PV.bor_sl _) (BorL.cons (PV.bor_val _) (BorL.cons (PV.bor_val _) BorL.nil)))))
 refine rA ?_ (x := loc_extractb (cs := [PV.val _]) (by decide) (by exact rfl) (by exact (BorL.cons (PV.bor_val _) BorL.nil)))
 refine RunS.step (by exact ⟨⟩) (by exact ⟨⟩) (LocG.of rfl (loc_alloc (by decide) z_36 zo_36)) (free1 (Free.app (Free.app (Free.app (Free.app (Free.app (Free.of_ rfl) rfl) rfl) rfl) rfl) rfl)) ?_
 refine rA ?_ (x := loc_store (ag := true) (vs := [PV.sl _ _, PV.val _, PV.val _]) ty_36 (by exact ⟨⟩) (by exact rfl) (by exact Nat.le_of_ble_eq_true rfl))
 refine rA ?_ (x := sA)
 refine sw_seq ?_
 refine sO [(0, _), (1, _), (4, _), (5, _), (6, _), (7, _)] [(4, _), (5, _), (6, (36, [PV.sl _ _, PV.val _, PV.val _]))] ?_
 refine sw_reg ?_
 refine rA ?_ (x := loc_build (qs := []) (cs := [PV.val _, PV.sl _ _]) (by decide) z_26 zo_26 pl_26 (by exact rfl) (by exact ⟨⟩) rfl (by exact rfl))
 refine RunS.step (by exact ⟨⟩) (by exact ⟨⟩) (LocG.of rfl (loc_alloc (by decide) z_26 zo_26)) (free1 (Free.app (Free.of_ rfl) rfl)) ?_
 refine rA ?_ (x := loc_store (ag := true) (vs := [PV.val _, PV.sl _ _]) ty_26 (by exact ⟨⟩) (by exact rfl) (by exact Nat.le_of_ble_eq_true rfl))
 refine sw_seq ?_
 refine sw_seq ?_
 refine sO [(0, _), (1, _), (4, _), (5, _), (6, _), (7, _), (8, _)] [(4, _), (5, _), (6, _), (8, (26, [PV.val _, PV.sl _ _]))] ?_
 refine sw_reg ?_
 refine rA ?_ (x := sM)
 refine rA ?_ (x := nT)
 refine sw_cond (t := 18) rfl (fun hb1 => ?_) (fun hb1 => ?_)
 ·try simp only [q1, q2, q3, q4, q5, q6, q7, q8, q9] at hb1
  have hok : okRows x = false := by
   cases hk : okRows x with
   | false => rfl
   | true => simp [newBox, hk] at hb1
  have hnb : newBox x = (⟨[], 0, 0⟩, false) := by simp [newBox, hok]
  refine sw_seq ?_
  refine sO [(0, _), (1, _), (4, _), (5, _), (6, _), (7, _), (8, _)] [(4, _), (5, _), (6, _), (8, _)] ?_
  refine sw_draw hm_ ?_
  refine dA 0 ?_ (x := loc_ltake (ms := [PV.sl _ _, PV.val _, PV.val _]) (qs := [PV.sl .v _, PV.val _, PV.val _]) (by decide) ty_36 (fun h => nomatch h) (by exact Nat.le_of_ble_eq_true rfl) (by exact rfl) (by exact (ToL.cons PV.to_none (ToL.cons (PV.To.refl _) (ToL.cons (PV.To.refl _) ToL.nil)))) (by exact (BorL.cons (PV.bor_sl _) (BorL.cons (PV.bor_val _) (BorL.cons (PV.bor_val _) BorL.nil)))))
  refine dA 0 ?_ (x := loc_ltake (ms := [PV.val _, PV.sl _ _]) (qs := [PV.val _, PV.sl .v _]) (by decide) ty_26 (fun h => nomatch h) (by exact Nat.le_of_ble_eq_true rfl) (by exact rfl) (by exact (ToL.cons (PV.To.refl _) (ToL.cons PV.to_none ToL.nil))) (by exact (BorL.cons (PV.bor_val _) (BorL.cons (PV.bor_sl _) BorL.nil))))
  refine dA 1 ?_ (x := loc_store (ag := true) (vs := [PV.sl _ _, PV.val _, PV.val _]) ty_36 (by exact ⟨⟩) (by exact rfl) (by exact Nat.le_of_ble_eq_true rfl))
  refine dA 7 ?_ (x := loc_store (ag := true) (vs := [PV.val _, PV.sl _ _]) ty_26 (by exact ⟨⟩) (by exact rfl) (by exact Nat.le_of_ble_eq_true rfl))
  refine sw_ret ?_
  exact (Exists.intro 4 (Exists.intro _ (And.intro (by exact rfl) (And.intro (by refine box_eq ?_; first | (simp [deliverAll, hok, hnb]; done) | (simp only [deliverAll, hok, if_true]; rw [← hdr, hfin]; rfl)) (And.intro ty_36 (And.intro (fun h => nomatch h) (Exists.intro 5 (Exists.intro _ (And.intro (by exact rfl) (And.intro (by refine box_eq ?_; first | (simp [deliverAll, hok, hnb]; done) | (simp only [deliverAll, hok, if_true]; rw [← hdr, hfin]; rfl)) (And.intro ty_26 (And.intro (fun h => nomatch h) True.intro))))))))))))
 ·try simp only [q1, q2, q3, q4, q5, q6, q7, q8, q9] at hb1
  have hok : okRows x = true := by
   cases hk : okRows x with
   | true => rfl
   | false => simp [newBox, hk] at hb1
  have hnb : newBox x = (⟨x, 0, 0⟩, true) := by simp [newBox, hok]
  refine sw_skip ?_
  refine sw_seq ?_
  refine sw_seq ?_
  refine sO [(0, _), (1, _), (4, _), (5, _), (6, _), (7, _), (8, _)] [(4, _), (5, _), (6, _), (8, _)] ?_
  refine sw_reg ?_
  refine rA ?_ (x := kA)
  refine sw_block ?_
  refine sO [(0, _), (1, _), (4, _), (5, _), (6, _), (7, _), (8, _), (9, _)] [(4, _), (5, _), (6, _), (8, _)] ?_
  refine sw_loop (l0 := [(0, RV.sv false [PV.sl _ _]), (1, RV.sv false [PV.sl _ _]), (4, RV.ptr 4 0), (5, RV.ptr 5 0), (6, RV.ptr 6 0), (7, RV.sv false [PV.val _]), (8, RV.ptr 8 0)]) (b0 := [(4, (36, [PV.sl _ _, PV.val _, PV.val _])), (5, (26, [PV.val _, PV.sl _ _]))]) (fun k : Nat => k ≤ (fates.take 200).length) (fun k : Nat => [(9, RV.int (k : Int))]) (fun k : Nat => [(6, (36, cOutbox (.own 29 2) (.own 3 1) (run1 ((⟨x, 0, 0⟩, ⟨0, []⟩) : Outbox × Client) (fates.take 200) k).1)), (8, (26, cClient (.own 29 2) (.own 3 1) (run1 ((⟨x, 0, 0⟩, ⟨0, []⟩) : Outbox × Client) (fates.take 200) k).2))]) (fun k : Nat => (fates.take 200).length - k) 0 (by omega) (by exact ⟨rfl, rfl, rfl, rfl, rfl, rfl, rfl, ⟨⟩⟩) (by exact ⟨rfl, rfl, ⟨⟩⟩) (by exact And.intro (by exact rfl) (True.intro)) (by exact And.intro (by first | exact rfl | (rw [hnb]; exact rfl)) (And.intro (by exact rfl) (True.intro))) ?_
  rintro k hk
  refine sw_seq ?_
  refine sw_seq ?_
  refine sw_reg ?_
  refine rA ?_ (x := sM)
  refine rA ?_ (x := vM false [PV.sl .v _])
  refine rA ?_ (x := lN sl_27)
  refine rA ?_ (x := B_lss)
  refine rA ?_ (x := sM)
  refine RunS.cases (s := 25) rfl (fun g2 => ?_) (fun g2 => ?_)
  ·have sg2 := g2
   try simp only [q1, q2, q3, q4, q5, q6, q7, q8, q9] at sg2
   refine rB g2 ?_ (x := sM)
   refine rB g2 ?_ (x := B_lss)
   refine rA ?_ (x := pkT g2)
   refine sw_cond (t := 28) rfl (fun hb3 => ?_) (fun hb3 => ?_)
   ·try simp only [q1, q2, q3, q4, q5, q6, q7, q8, q9] at hb3
    have hlt : k < (fates.take 200).length := by first | omega | (rw [List.length_take]; simp at *; omega)
    have hrw := run1_wt (s := ((⟨x, 0, 0⟩, ⟨0, []⟩) : Outbox × Client)) (l := (fates.take 200)) h0w k hk
    dsimp only at hrw
    rw [h00] at hrw
    have hgt : k < fates.length ∧ k < 200 := by rw [List.length_take] at hlt; omega
    refine sw_skip ?_
    refine sw_seq ?_
    refine sw_block ?_
    refine sO [(0, _), (1, _), (4, _), (5, _), (6, _), (7, _), (8, _), (9, _)] [(4, (36, [PV.sl _ _, PV.val _, PV.val _])), (5, (26, [PV.val _, PV.sl _ _])), (6, (36, [PV.sl _ _, PV.val _, PV.val _])), (8, (26, [PV.val _, PV.sl _ _]))] ?_
    refine sw_split (c := 6) (AI := []) hm_ rfl rfl rfl rfl (by kernel_rfl) (fun j L h => nomatch h) (fun j L h => nomatch h) ?_
    refine Run.stepC 0 (by exact ⟨rfl, ⟨⟩⟩) (by exact ⟨rfl, ⟨⟩⟩) (LocG.of rfl (loc_load (qs := [PV.sl .v _, PV.val _, PV.val _]) (by decide) ty_36 (fun h => nomatch h) (by exact Nat.le_of_ble_eq_true rfl) (by exact (ToL.cons PV.to_none (ToL.cons (PV.To.refl _) (ToL.cons (PV.To.refl _) ToL.nil)))) (by exact (BorL.cons (PV.bor_sl _) (BorL.cons (PV.bor_val _) (BorL.cons (PV.bor_val _) BorL.nil)))))) nofree (by kernel_rfl) (by show (List.all _ _) = true; kernel_rfl) ?_
    refine Run.stepC 0 (by exact ⟨rfl, ⟨⟩⟩) (by exact ⟨rfl, ⟨⟩⟩) (LocG.of rfl (loc_load (qs := [PV.val _, PV.sl .v _]) (by decide) ty_26 (fun h => nomatch h) (by exact Nat.le_of_ble_eq_true rfl) (by exact (ToL.cons (PV.To.refl _) (ToL.cons PV.to_none ToL.nil))) (by exact (BorL.cons (PV.bor_val _) (BorL.cons (PV.bor_sl _) BorL.nil))))) nofree (by kernel_rfl) (by show (List.all _ _) = true; kernel_rfl) ?_
    refine Run.stepC 0 (by exact ⟨rfl, ⟨⟩⟩) (by exact ⟨⟩) (LocG.of rfl (loc_copy (r' := RV.sv false [PV.sl .v _]) (.inl rfl) (by decide) (by exact Cp.sv (ToL.cons PV.to_none ToL.nil) (BorL.cons (PV.bor_sl _) BorL.nil)))) nofree (by kernel_rfl) (by show (List.all _ _) = true; kernel_rfl) ?_
    refine Run.stepC 0 (by exact ⟨rfl, ⟨⟩⟩) (by exact ⟨⟩) (LocG.of rfl (loc_copy (.inl rfl) (by decide) (by exact Cp.sc))) nofree (by kernel_rfl) (by show (List.all _ _) = true; kernel_rfl) ?_
    refine Run.stepC 12 (by exact ⟨rfl, rfl, ⟨⟩⟩) (by exact ⟨⟩) (LocG.of rfl (loc_index (by decide) sl_27 (by exact ⟨⟩) (by exact rfl) (by exact getm2 (by omega) rfl) (by exact rfl))) nofree (by kernel_rfl) (by show (List.all _ _) = true; kernel_rfl) ?_
    refine Run.stepC 28 (by exact ⟨rfl, ⟨⟩⟩) (by exact ⟨⟩) (LocG.of rfl (loc_eload (qs := [PV.val _]) (by decide) ty_3 (fun _ => rfl) (by exact Nat.le_of_ble_eq_true rfl) (by exact (ToL.cons (PV.To.refl _) ToL.nil)) (by exact (BorL.cons (PV.bor_val _) BorL.nil)))) nofree (by kernel_rfl) (by show (List.all _ _) = true; kernel_rfl) ?_
    refine mid_call (G := 2000) (qs := [(true, [PV.sl _ _, PV.val _, PV.val _]), (true, [PV.val _, PV.sl _ _]), (false, [PV.val _])]) (as_ := [(true, [PV.sl .v _, PV.val _, PV.val _]), (true, [PV.val _, PV.sl .v _]), (false, [PV.val _])]) (by decide) c_12 (by exact ⟨rfl, rfl, rfl, ⟨⟩⟩) (by exact (And.intro (by exact ⟨⟩) (And.intro (by exact ⟨⟩) (And.intro (by exact ⟨⟩) True.intro)))) (by exact (And.intro (And.intro rfl (ToL.cons PV.to_none (ToL.cons (PV.To.refl _) (ToL.cons (PV.To.refl _) ToL.nil)))) (And.intro (And.intro rfl (ToL.cons (PV.To.refl _) (ToL.cons PV.to_none ToL.nil))) (And.intro (And.intro rfl (ToL.cons (PV.To.refl _) ToL.nil)) True.intro)))) (by exact spec_SendNext (by omega) (by omega)) (by kernel_rfl) (by kernel_rfl) fun uss hU0 => ?_
    obtain ⟨us0, r0, rfl, hl0, hR0, hU1⟩ := RelU.cons hU0
    obtain ⟨u4_0_0, u4_0_1, u4_0_2, rfl⟩ := us_3 hl0
    obtain rfl := relval hR0 (j := 1) rfl rfl
    obtain rfl := relval hR0 (j := 2) rfl rfl
    obtain ⟨us1, r1, rfl, hl1, hR1, hU2⟩ := RelU.cons hU1
    obtain ⟨u4_1_0, u4_1_1, rfl⟩ := us_2 hl1
    obtain rfl := relval hR1 (j := 0) rfl rfl
    obtain ⟨us2, r2, rfl, hl2, hR2, hU3⟩ := RelU.cons hU2
    obtain ⟨u4_2_0, rfl⟩ := us_1 hl2
    obtain rfl := relval hR2 (j := 0) rfl rfl
    obtain rfl := RelU.nil hU3
    clear hR0 hU0 hR1 hU1 hR2 hU2 hU3
    refine Run.stepC 127 (by exact ⟨rfl, ⟨⟩⟩) (by exact ⟨⟩) (LocG.of rfl (loc_take (.inl rfl) (by decide))) nofree (by kernel_rfl) (by intro L' h; exact nomatch (show (none : Option Step) = some L' from h)) ?_
    refine Run.stepC 255 (by exact ⟨rfl, ⟨⟩⟩) (by exact ⟨⟩) (LocG.of rfl (loc_extractb (cs := [PV.val _, PV.val _, PV.val _]) (by decide) (by exact rfl) (by exact (BorL.cons (PV.bor_val _) (BorL.cons (PV.bor_val _) (BorL.cons (PV.bor_val _) BorL.nil)))))) nofree (by kernel_rfl) (by intro L' h; exact nomatch (show (none : Option Step) = some L' from h)) ?_
    refine Run.stepC 255 (by exact ⟨rfl, ⟨⟩⟩) (by exact ⟨⟩) (LocG.of rfl (loc_extractb (cs := [PV.val _, PV.val _]) (by decide) (by exact rfl) (by exact (BorL.cons (PV.bor_val _) (BorL.cons (PV.bor_val _) BorL.nil))))) nofree (by kernel_rfl) (by intro L' h; exact nomatch (show (none : Option Step) = some L' from h)) ?_
    refine Run.stepC 255 (by exact ⟨rfl, ⟨⟩⟩) (by exact ⟨⟩) (LocG.of rfl (loc_extractb (cs := [PV.val _]) (by decide) (by exact rfl) (by exact (BorL.cons (PV.bor_val _) BorL.nil)))) nofree (by kernel_rfl) (by intro L' h; exact nomatch (show (none : Option Step) = some L' from h)) ?_
    refine Run.stepC 511 (by exact ⟨rfl, rfl, ⟨⟩⟩) (by exact ⟨rfl, ⟨⟩⟩) (LocG.of rfl (loc_store (ag := true) (vs := [PV.val _, PV.val _, PV.val _]) ty_36 (by exact ⟨⟩) (by exact rfl) (by exact Nat.le_of_ble_eq_true rfl))) nofree (by kernel_rfl) (by intro L' h; exact nomatch (show (none : Option Step) = some L' from h)) ?_
    refine Run.stepC 3071 (by exact ⟨rfl, rfl, ⟨⟩⟩) (by exact ⟨rfl, ⟨⟩⟩) (LocG.of rfl (loc_store (ag := true) (vs := [PV.val _, PV.val _]) ty_26 (by exact ⟨⟩) (by exact rfl) (by exact Nat.le_of_ble_eq_true rfl))) nofree (by kernel_rfl) (by intro L' h; exact nomatch (show (none : Option Step) = some L' from h)) ?_
    refine sw_backB (d := 6) (G := 2000) (by exact rfl) (by exact (Nm.val (Nm.val (Nm.val Nm.nil)))) (by exact rfl) ?_
    refine sw_backB (d := 8) (G := 2001) (by exact rfl) (by exact (Nm.val (Nm.val Nm.nil))) (by exact rfl) ?_
    refine sO [(0, _), (1, _), (4, _), (5, _), (6, _), (7, _), (8, _), (9, _)] [(4, _), (5, _), (6, (36, [PV.sl _ _, PV.val _, PV.val _])), (8, (26, [PV.val _, PV.sl _ _]))] ?_
    refine sw_reg ?_
    refine rA ?_ (x := sM)
    refine rA ?_ (x := B_add)
    refine rA ?_ (x := sA)
    refine Exists.intro (k + 1) (And.intro (by omega) (And.intro (by omega) (And.intro (And.intro (by exact ⟨rfl, rfl, rfl, rfl, rfl, rfl, rfl, ⟨⟩⟩) (by exact ⟨rfl, rfl, ⟨⟩⟩)) (And.intro (by exact And.intro (by exact rfl) (True.intro)) (by exact And.intro (by first | exact congrArg (fun z : Outbox × Client => some (36, cOutbox (.own 29 2) (.own 3 1) z.1)) (run1_succ hlt).symm | exact congrArg (fun z : Outbox × Client => some (36, cOutbox (.own 29 2) (.own 3 1) z.1)) (run1_succ2 hlt hgt.1).symm) (And.intro (by first | exact congrArg (fun z : Outbox × Client => some (26, cClient (.own 29 2) (.own 3 1) z.2)) (run1_succ hlt).symm | exact congrArg (fun z : Outbox × Client => some (26, cClient (.own 29 2) (.own 3 1) z.2)) (run1_succ2 hlt hgt.1).symm) (True.intro)))))))
   ·try simp only [q1, q2, q3, q4, q5, q6, q7, q8, q9] at hb3
    have hend : k = (fates.take 200).length := by first | omega | (rw [List.length_take] at hk ⊢; simp_all; omega)
    refine sw_exit ?_
    refine sw_seq ?_
    refine sw_seq ?_
    refine sO [(0, _), (1, _), (4, _), (5, _), (6, _), (7, _), (8, _), (9, _)] [(4, (36, [PV.sl _ _, PV.val _, PV.val _])), (5, (26, [PV.val _, PV.sl _ _])), (6, (36, [PV.sl _ _, PV.val _, PV.val _])), (8, (26, [PV.val _, PV.sl _ _]))] ?_
    refine sw_reg ?_
    refine rA ?_ (x := kA)
    refine sw_block ?_
    refine sO [(0, _), (1, _), (4, _), (5, _), (6, _), (7, _), (8, _), (9, _), (10, _)] [(4, _), (5, _), (6, _), (8, _)] ?_
    refine sw_loop (l0 := [(0, RV.sv false [PV.sl _ _]), (1, RV.sv false [PV.sl _ _]), (4, RV.ptr 4 0), (5, RV.ptr 5 0), (6, RV.ptr 6 0), (7, RV.sv false [PV.val _]), (8, RV.ptr 8 0), (9, RV.sv false [PV.val _])]) (b0 := [(4, (36, [PV.sl _ _, PV.val _, PV.val _])), (5, (26, [PV.val _, PV.sl _ _]))]) (fun q : Nat × Outbox × Client => q.1 ≤ 2000 ∧ drive (2000 - q.1) q.2 = drive 2000 (run1 ((⟨x, 0, 0⟩, ⟨0, []⟩) : Outbox × Client) (fates.take 200) (fates.take 200).length) ∧ wtOutbox q.2.1 ≤ 1048576 ∧ wtClient q.2.2 ≤ 419430800 + q.1 * 2097154) (fun q : Nat × Outbox × Client => [(10, RV.int (q.1 : Int))]) (fun q : Nat × Outbox × Client => [(6, (36, cOutbox (.own 29 2) (.own 3 1) q.2.1)), (8, (26, cClient (.own 29 2) (.own 3 1) q.2.2))]) (fun q : Nat × Outbox × Client => 2000 - q.1) (0, (run1 ((⟨x, 0, 0⟩, ⟨0, []⟩) : Outbox × Client) (fates.take 200) (fates.take 200).length)) (by refine ⟨by simp, rfl, ?_, ?_⟩ <;> (have hrw := run1_wt (s := ((⟨x, 0, 0⟩, ⟨0, []⟩) : Outbox × Client)) (l := (fates.take 200)) h0w _ (Nat.le_refl _); rw [h00] at hrw; have hl : (fates.take 200).length ≤ 200 := (by rw [List.length_take]; omega); dsimp only; omega)) (by exact ⟨rfl, rfl, rfl, rfl, rfl, rfl, rfl, rfl, ⟨⟩⟩) (by exact ⟨rfl, rfl, ⟨⟩⟩) (by exact And.intro (by exact rfl) (True.intro)) (by exact And.intro (by subst hend; exact rfl) (And.intro (by subst hend; exact rfl) (True.intro))) ?_
    rintro q ⟨hk2, hdr, hwo, hwc⟩
    refine sw_seq ?_
    refine sw_seq ?_
    refine sw_reg ?_
    refine rA ?_ (x := sM)
    refine rA ?_ (x := B_lss)
    refine rA ?_ (x := sM)
    refine RunS.cases (s := 44) rfl (fun g5 => ?_) (fun g5 => ?_)
    ·have sg5 := g5
     try simp only [q1, q2, q3, q4, q5, q6, q7, q8, q9] at sg5
     refine rB g5 ?_ (x := lF fd_36_1)
     refine rB g5 ?_ (x := lD [PV.val _] ty_3)
     refine rB g5 ?_ (x := lF fd_36_0)
     refine rB g5 ?_ (x := lD [PV.sl .v _] ty_24)
     refine rB g5 ?_ (x := lN sl_24)
     refine rB g5 ?_ (x := B_lss)
     refine rA ?_ (x := pkT g5)
     refine sw_cond (t := 51) rfl (fun hb6 => ?_) (fun hb6 => ?_)
     ·try simp only [q1, q2, q3, q4, q5, q6, q7, q8, q9] at hb6
      have hac : q.2.1.Acked < q.2.1.Rows.length := by simp_all
      have hk2l : q.1 < 2000 := by simp at *; omega
      refine sw_skip ?_
      refine sw_seq ?_
      refine sw_block ?_
      refine sO [(0, _), (1, _), (4, _), (5, _), (6, _), (7, _), (8, _), (9, _), (10, _)] [(4, (36, [PV.sl _ _, PV.val _, PV.val _])), (5, (26, [PV.val _, PV.sl _ _])), (6, (36, [PV.sl _ _, PV.val _, PV.val _])), (8, (26, [PV.val _, PV.sl _ _]))] ?_
      refine sw_reg ?_
      refine rA ?_ (x := lD [PV.sl .v _, PV.val _, PV.val _] ty_36)
      refine rA ?_ (x := lD [PV.val _, PV.sl .v _] ty_26)
      refine rA ?_ (x := cL [(true, [PV.sl _ _, PV.val _, PV.val _]), (true, [PV.val _, PV.sl _ _]), (false, [PV.val _])] [(true, [PV.sl .v _, PV.val _, PV.val _]), (true, [PV.val _, PV.sl .v _]), (false, [PV.val _])] c_12 (hs := by exact spec_SendNext (by omega) (by omega)))
      refine rA ?_ (x := tM)
      refine rA ?_ (x := loc_extract (cs := [PV.sl _ _, PV.val _, PV.val _]) (qs := [PV.sl .v _, PV.val _, PV.val _]) (by decide) (by exact rfl) (by exact (ToL.cons PV.to_none (ToL.cons (PV.To.refl _) (ToL.cons (PV.To.refl _) ToL.nil)))) (by exact (BorL.cons (PV.bor_sl _) (BorL.cons (PV.bor_val _) (BorL.cons (PV.bor_val _) BorL.nil)))))
      refine rA ?_ (x := loc_extract (cs := [PV.val _, PV.sl _ _]) (qs := [PV.val _, PV.sl .v _]) (by decide) (by exact rfl) (by exact (ToL.cons (PV.To.refl _) (ToL.cons PV.to_none ToL.nil))) (by exact (BorL.cons (PV.bor_val _) (BorL.cons (PV.bor_sl _) BorL.nil))))
      refine rA ?_ (x := loc_extractb (cs := [PV.val _]) (by decide) (by exact rfl) (by exact (BorL.cons (PV.bor_val _) BorL.nil)))
      refine rA ?_ (x := loc_store (ag := true) (vs := [PV.sl _ _, PV.val _, PV.val _]) ty_36 (by exact ⟨⟩) (by exact rfl) (by exact Nat.le_of_ble_eq_true rfl))
      refine rA ?_ (x := loc_store (ag := true) (vs := [PV.val _, PV.sl _ _]) ty_26 (by exact ⟨⟩) (by exact rfl) (by exact Nat.le_of_ble_eq_true rfl))
      refine sO [(0, _), (1, _), (4, _), (5, _), (6, _), (7, _), (8, _), (9, _), (10, _)] [(4, _), (5, _), (6, (36, [PV.sl _ _, PV.val _, PV.val _])), (8, (26, [PV.val _, PV.sl _ _]))] ?_
      refine sw_reg ?_
      refine rA ?_ (x := sM)
      refine rA ?_ (x := B_add)
      refine rA ?_ (x := sA)
      refine Exists.intro (q.1 + 1, dstep q.2 0) (And.intro (by have hd := dstep_wt (s := q.2) (fate := 0) hwo; refine ⟨by dsimp only; omega, ?_, by dsimp only; omega, by dsimp only; omega⟩; dsimp only; rw [← hdr, show 2000 - q.1 = (2000 - (q.1 + 1)) + 1 by omega]; simp only [drive]; rw [if_pos hac]) (And.intro (by dsimp only; omega) (And.intro (And.intro (by exact ⟨rfl, rfl, rfl, rfl, rfl, rfl, rfl, rfl, ⟨⟩⟩) (by exact ⟨rfl, rfl, ⟨⟩⟩)) (And.intro (by exact And.intro (by exact rfl) (True.intro)) (by exact And.intro (by exact rfl) (And.intro (by exact rfl) (True.intro)))))))
     ·try simp only [q1, q2, q3, q4, q5, q6, q7, q8, q9] at hb6
      have hfin : drive (2000 - q.1) q.2 = q.2 := by
       by_cases hk3 : q.1 = 2000
       ·rw [hk3]; rfl
       ·rw [show 2000 - q.1 = (2000 - (q.1 + 1)) + 1 by omega]; simp only [drive]; rw [if_neg (by simp at *; omega)]
      refine sw_exit ?_
      refine sw_seq ?_
      refine sO [(0, _), (1, _), (4, _), (5, _), (6, _), (7, _), (8, _), (9, _), (10, _)] [(4, (36, [PV.sl _ _, PV.val _, PV.val _])), (5, (26, [PV.val _, PV.sl _ _])), (6, (36, [PV.sl _ _, PV.val _, PV.val _])), (8, (26, [PV.val _, PV.sl _ _]))] ?_
      refine sw_draw hm_ ?_
      refine dA 0 ?_ (x := loc_ltake (ms := [PV.sl _ _, PV.val _, PV.val _]) (qs := [PV.sl .v _, PV.val _, PV.val _]) (by decide) ty_36 (fun h => nomatch h) (by exact Nat.le_of_ble_eq_true rfl) (by exact rfl) (by exact (ToL.cons PV.to_none (ToL.cons (PV.To.refl _) (ToL.cons (PV.To.refl _) ToL.nil)))) (by exact (BorL.cons (PV.bor_sl _) (BorL.cons (PV.bor_val _) (BorL.cons (PV.bor_val _) BorL.nil)))))
      refine dA 0 ?_ (x := loc_ltake (ms := [PV.val _, PV.sl _ _]) (qs := [PV.val _, PV.sl .v _]) (by decide) ty_26 (fun h => nomatch h) (by exact Nat.le_of_ble_eq_true rfl) (by exact rfl) (by exact (ToL.cons (PV.To.refl _) (ToL.cons PV.to_none ToL.nil))) (by exact (BorL.cons (PV.bor_val _) (BorL.cons (PV.bor_sl _) BorL.nil))))
      refine dA 1 ?_ (x := loc_store (ag := true) (vs := [PV.sl _ _, PV.val _, PV.val _]) ty_36 (by exact ⟨⟩) (by exact rfl) (by exact Nat.le_of_ble_eq_true rfl))
      refine dA 7 ?_ (x := loc_store (ag := true) (vs := [PV.val _, PV.sl _ _]) ty_26 (by exact ⟨⟩) (by exact rfl) (by exact Nat.le_of_ble_eq_true rfl))
      refine sw_ret ?_
      exact (Exists.intro 4 (Exists.intro _ (And.intro (by exact rfl) (And.intro (by refine box_eq ?_; first | (simp [deliverAll, hok, hnb]; done) | (simp only [deliverAll, hok, if_true]; rw [← hdr, hfin]; rfl)) (And.intro ty_36 (And.intro (fun h => nomatch h) (Exists.intro 5 (Exists.intro _ (And.intro (by exact rfl) (And.intro (by refine box_eq ?_; first | (simp [deliverAll, hok, hnb]; done) | (simp only [deliverAll, hok, if_true]; rw [← hdr, hfin]; rfl)) (And.intro ty_26 (And.intro (fun h => nomatch h) True.intro))))))))))))
    ·have sg5 := g5
     try simp only [q1, q2, q3, q4, q5, q6, q7, q8, q9] at sg5
     refine RunS.s0f g5 ?_
     refine RunS.s0f g5 ?_
     refine RunS.s0f g5 ?_
     refine RunS.s0f g5 ?_
     refine RunS.s0f g5 ?_
     refine RunS.s0f g5 ?_
     refine rA ?_ (x := pkF g5)
     refine sw_cond (t := 51) rfl (fun hb_ => nomatch hb_) (fun hb_ => ?_)
     have hfin : drive (2000 - q.1) q.2 = q.2 := by
      by_cases hk3 : q.1 = 2000
      ·rw [hk3]; rfl
      ·rw [show 2000 - q.1 = (2000 - (q.1 + 1)) + 1 by omega]; simp only [drive]; rw [if_neg (by simp at *; omega)]
     refine sw_exit ?_
     refine sw_seq ?_
     refine sO [(0, _), (1, _), (4, _), (5, _), (6, _), (7, _), (8, _), (9, _), (10, _)] [(4, (36, [PV.sl _ _, PV.val _, PV.val _])), (5, (26, [PV.val _, PV.sl _ _])), (6, (36, [PV.sl _ _, PV.val _, PV.val _])), (8, (26, [PV.val _, PV.sl _ _]))] ?_
     refine sw_draw hm_ ?_
     refine dA 0 ?_ (x := loc_ltake (ms := [PV.sl _ _, PV.val _, PV.val _]) (qs := [PV.sl .v _, PV.val _, PV.val _]) (by decide) ty_36 (fun h => nomatch h) (by exact Nat.le_of_ble_eq_true rfl) (by exact rfl) (by exact (ToL.cons PV.to_none (ToL.cons (PV.To.refl _) (ToL.cons (PV.To.refl _) ToL.nil)))) (by exact (BorL.cons (PV.bor_sl _) (BorL.cons (PV.bor_val _) (BorL.cons (PV.bor_val _) BorL.nil)))))
     refine dA 0 ?_ (x := loc_ltake (ms := [PV.val _, PV.sl _ _]) (qs := [PV.val _, PV.sl .v _]) (by decide) ty_26 (fun h => nomatch h) (by exact Nat.le_of_ble_eq_true rfl) (by exact rfl) (by exact (ToL.cons (PV.To.refl _) (ToL.cons PV.to_none ToL.nil))) (by exact (BorL.cons (PV.bor_val _) (BorL.cons (PV.bor_sl _) BorL.nil))))
     refine dA 1 ?_ (x := loc_store (ag := true) (vs := [PV.sl _ _, PV.val _, PV.val _]) ty_36 (by exact ⟨⟩) (by exact rfl) (by exact Nat.le_of_ble_eq_true rfl))
     refine dA 7 ?_ (x := loc_store (ag := true) (vs := [PV.val _, PV.sl _ _]) ty_26 (by exact ⟨⟩) (by exact rfl) (by exact Nat.le_of_ble_eq_true rfl))
     refine sw_ret ?_
     exact (Exists.intro 4 (Exists.intro _ (And.intro (by exact rfl) (And.intro (by refine box_eq ?_; first | (simp [deliverAll, hok, hnb]; done) | (simp only [deliverAll, hok, if_true]; rw [← hdr, hfin]; rfl)) (And.intro ty_36 (And.intro (fun h => nomatch h) (Exists.intro 5 (Exists.intro _ (And.intro (by exact rfl) (And.intro (by refine box_eq ?_; first | (simp [deliverAll, hok, hnb]; done) | (simp only [deliverAll, hok, if_true]; rw [← hdr, hfin]; rfl)) (And.intro ty_26 (And.intro (fun h => nomatch h) True.intro))))))))))))
  ·have sg2 := g2
   try simp only [q1, q2, q3, q4, q5, q6, q7, q8, q9] at sg2
   refine RunS.s0f g2 ?_
   refine RunS.s0f g2 ?_
   refine rA ?_ (x := pkF g2)
   refine sw_cond (t := 28) rfl (fun hb_ => nomatch hb_) (fun hb_ => ?_)
   have hend : k = (fates.take 200).length := by first | omega | (rw [List.length_take] at hk ⊢; simp_all; omega)
   refine sw_exit ?_
   refine sw_seq ?_
   refine sw_seq ?_
   refine sO [(0, _), (1, _), (4, _), (5, _), (6, _), (7, _), (8, _), (9, _)] [(4, (36, [PV.sl _ _, PV.val _, PV.val _])), (5, (26, [PV.val _, PV.sl _ _])), (6, (36, [PV.sl _ _, PV.val _, PV.val _])), (8, (26, [PV.val _, PV.sl _ _]))] ?_
   refine sw_reg ?_
   refine rA ?_ (x := kA)
   refine sw_block ?_
   refine sO [(0, _), (1, _), (4, _), (5, _), (6, _), (7, _), (8, _), (9, _), (10, _)] [(4, _), (5, _), (6, _), (8, _)] ?_
   refine sw_loop (l0 := [(0, RV.sv false [PV.sl _ _]), (1, RV.sv false [PV.sl _ _]), (4, RV.ptr 4 0), (5, RV.ptr 5 0), (6, RV.ptr 6 0), (7, RV.sv false [PV.val _]), (8, RV.ptr 8 0), (9, RV.sv false [PV.val _])]) (b0 := [(4, (36, [PV.sl _ _, PV.val _, PV.val _])), (5, (26, [PV.val _, PV.sl _ _]))]) (fun q : Nat × Outbox × Client => q.1 ≤ 2000 ∧ drive (2000 - q.1) q.2 = drive 2000 (run1 ((⟨x, 0, 0⟩, ⟨0, []⟩) : Outbox × Client) (fates.take 200) (fates.take 200).length) ∧ wtOutbox q.2.1 ≤ 1048576 ∧ wtClient q.2.2 ≤ 419430800 + q.1 * 2097154) (fun q : Nat × Outbox × Client => [(10, RV.int (q.1 : Int))]) (fun q : Nat × Outbox × Client => [(6, (36, cOutbox (.own 29 2) (.own 3 1) q.2.1)), (8, (26, cClient (.own 29 2) (.own 3 1) q.2.2))]) (fun q : Nat × Outbox × Client => 2000 - q.1) (0, (run1 ((⟨x, 0, 0⟩, ⟨0, []⟩) : Outbox × Client) (fates.take 200) (fates.take 200).length)) (by refine ⟨by simp, rfl, ?_, ?_⟩ <;> (have hrw := run1_wt (s := ((⟨x, 0, 0⟩, ⟨0, []⟩) : Outbox × Client)) (l := (fates.take 200)) h0w _ (Nat.le_refl _); rw [h00] at hrw; have hl : (fates.take 200).length ≤ 200 := (by rw [List.length_take]; omega); dsimp only; omega)) (by exact ⟨rfl, rfl, rfl, rfl, rfl, rfl, rfl, rfl, ⟨⟩⟩) (by exact ⟨rfl, rfl, ⟨⟩⟩) (by exact And.intro (by exact rfl) (True.intro)) (by exact And.intro (by subst hend; exact rfl) (And.intro (by subst hend; exact rfl) (True.intro))) ?_
   rintro q ⟨hk2, hdr, hwo, hwc⟩
   refine sw_seq ?_
   refine sw_seq ?_
   refine sw_reg ?_
   refine rA ?_ (x := sM)
   refine rA ?_ (x := B_lss)
   refine rA ?_ (x := sM)
   refine RunS.cases (s := 44) rfl (fun g9 => ?_) (fun g9 => ?_)
   ·have sg9 := g9
    try simp only [q1, q2, q3, q4, q5, q6, q7, q8, q9] at sg9
    refine rB g9 ?_ (x := lF fd_36_1)
    refine rB g9 ?_ (x := lD [PV.val _] ty_3)
    refine rB g9 ?_ (x := lF fd_36_0)
    refine rB g9 ?_ (x := lD [PV.sl .v _] ty_24)
    refine rB g9 ?_ (x := lN sl_24)
    refine rB g9 ?_ (x := B_lss)
    refine rA ?_ (x := pkT g9)
    refine sw_cond (t := 51) rfl (fun hb10 => ?_) (fun hb10 => ?_)
    ·try simp only [q1, q2, q3, q4, q5, q6, q7, q8, q9] at hb10
     have hac : q.2.1.Acked < q.2.1.Rows.length := by simp_all
     have hk2l : q.1 < 2000 := by simp at *; omega
     refine sw_skip ?_
     refine sw_seq ?_
     refine sw_block ?_
     refine sO [(0, _), (1, _), (4, _), (5, _), (6, _), (7, _), (8, _), (9, _), (10, _)] [(4, (36, [PV.sl _ _, PV.val _, PV.val _])), (5, (26, [PV.val _, PV.sl _ _])), (6, (36, [PV.sl _ _, PV.val _, PV.val _])), (8, (26, [PV.val _, PV.sl _ _]))] ?_
     refine sw_reg ?_
     refine rA ?_ (x := lD [PV.sl .v _, PV.val _, PV.val _] ty_36)
     refine rA ?_ (x := lD [PV.val _, PV.sl .v _] ty_26)
     refine rA ?_ (x := cL [(true, [PV.sl _ _, PV.val _, PV.val _]), (true, [PV.val _, PV.sl _ _]), (false, [PV.val _])] [(true, [PV.sl .v _, PV.val _, PV.val _]), (true, [PV.val _, PV.sl .v _]), (false, [PV.val _])] c_12 (hs := by exact spec_SendNext (by omega) (by omega)))
     refine rA ?_ (x := tM)
     refine rA ?_ (x := loc_extract (cs := [PV.sl _ _, PV.val _, PV.val _]) (qs := [PV.sl .v _, PV.val _, PV.val _]) (by decide) (by exact rfl) (by exact (ToL.cons PV.to_none (ToL.cons (PV.To.refl _) (ToL.cons (PV.To.refl _) ToL.nil)))) (by exact (BorL.cons (PV.bor_sl _) (BorL.cons (PV.bor_val _) (BorL.cons (PV.bor_val _) BorL.nil)))))
     refine rA ?_ (x := loc_extract (cs := [PV.val _, PV.sl _ _]) (qs := [PV.val _, PV.sl .v _]) (by decide) (by exact rfl) (by exact (ToL.cons (PV.To.refl _) (ToL.cons PV.to_none ToL.nil))) (by exact (BorL.cons (PV.bor_val _) (BorL.cons (PV.bor_sl _) BorL.nil))))
     refine rA ?_ (x := loc_extractb (cs := [PV.val _]) (by decide) (by exact rfl) (by exact (BorL.cons (PV.bor_val _) BorL.nil)))
     refine rA ?_ (x := loc_store (ag := true) (vs := [PV.sl _ _, PV.val _, PV.val _]) ty_36 (by exact ⟨⟩) (by exact rfl) (by exact Nat.le_of_ble_eq_true rfl))
     refine rA ?_ (x := loc_store (ag := true) (vs := [PV.val _, PV.sl _ _]) ty_26 (by exact ⟨⟩) (by exact rfl) (by exact Nat.le_of_ble_eq_true rfl))
     refine sO [(0, _), (1, _), (4, _), (5, _), (6, _), (7, _), (8, _), (9, _), (10, _)] [(4, _), (5, _), (6, (36, [PV.sl _ _, PV.val _, PV.val _])), (8, (26, [PV.val _, PV.sl _ _]))] ?_
     refine sw_reg ?_
     refine rA ?_ (x := sM)
     refine rA ?_ (x := B_add)
     refine rA ?_ (x := sA)
     refine Exists.intro (q.1 + 1, dstep q.2 0) (And.intro (by have hd := dstep_wt (s := q.2) (fate := 0) hwo; refine ⟨by dsimp only; omega, ?_, by dsimp only; omega, by dsimp only; omega⟩; dsimp only; rw [← hdr, show 2000 - q.1 = (2000 - (q.1 + 1)) + 1 by omega]; simp only [drive]; rw [if_pos hac]) (And.intro (by dsimp only; omega) (And.intro (And.intro (by exact ⟨rfl, rfl, rfl, rfl, rfl, rfl, rfl, rfl, ⟨⟩⟩) (by exact ⟨rfl, rfl, ⟨⟩⟩)) (And.intro (by exact And.intro (by exact rfl) (True.intro)) (by exact And.intro (by exact rfl) (And.intro (by exact rfl) (True.intro)))))))
    ·try simp only [q1, q2, q3, q4, q5, q6, q7, q8, q9] at hb10
     have hfin : drive (2000 - q.1) q.2 = q.2 := by
      by_cases hk3 : q.1 = 2000
      ·rw [hk3]; rfl
      ·rw [show 2000 - q.1 = (2000 - (q.1 + 1)) + 1 by omega]; simp only [drive]; rw [if_neg (by simp at *; omega)]
     refine sw_exit ?_
     refine sw_seq ?_
     refine sO [(0, _), (1, _), (4, _), (5, _), (6, _), (7, _), (8, _), (9, _), (10, _)] [(4, (36, [PV.sl _ _, PV.val _, PV.val _])), (5, (26, [PV.val _, PV.sl _ _])), (6, (36, [PV.sl _ _, PV.val _, PV.val _])), (8, (26, [PV.val _, PV.sl _ _]))] ?_
     refine sw_draw hm_ ?_
     refine dA 0 ?_ (x := loc_ltake (ms := [PV.sl _ _, PV.val _, PV.val _]) (qs := [PV.sl .v _, PV.val _, PV.val _]) (by decide) ty_36 (fun h => nomatch h) (by exact Nat.le_of_ble_eq_true rfl) (by exact rfl) (by exact (ToL.cons PV.to_none (ToL.cons (PV.To.refl _) (ToL.cons (PV.To.refl _) ToL.nil)))) (by exact (BorL.cons (PV.bor_sl _) (BorL.cons (PV.bor_val _) (BorL.cons (PV.bor_val _) BorL.nil)))))
     refine dA 0 ?_ (x := loc_ltake (ms := [PV.val _, PV.sl _ _]) (qs := [PV.val _, PV.sl .v _]) (by decide) ty_26 (fun h => nomatch h) (by exact Nat.le_of_ble_eq_true rfl) (by exact rfl) (by exact (ToL.cons (PV.To.refl _) (ToL.cons PV.to_none ToL.nil))) (by exact (BorL.cons (PV.bor_val _) (BorL.cons (PV.bor_sl _) BorL.nil))))
     refine dA 1 ?_ (x := loc_store (ag := true) (vs := [PV.sl _ _, PV.val _, PV.val _]) ty_36 (by exact ⟨⟩) (by exact rfl) (by exact Nat.le_of_ble_eq_true rfl))
     refine dA 7 ?_ (x := loc_store (ag := true) (vs := [PV.val _, PV.sl _ _]) ty_26 (by exact ⟨⟩) (by exact rfl) (by exact Nat.le_of_ble_eq_true rfl))
     refine sw_ret ?_
     exact (Exists.intro 4 (Exists.intro _ (And.intro (by exact rfl) (And.intro (by refine box_eq ?_; first | (simp [deliverAll, hok, hnb]; done) | (simp only [deliverAll, hok, if_true]; rw [← hdr, hfin]; rfl)) (And.intro ty_36 (And.intro (fun h => nomatch h) (Exists.intro 5 (Exists.intro _ (And.intro (by exact rfl) (And.intro (by refine box_eq ?_; first | (simp [deliverAll, hok, hnb]; done) | (simp only [deliverAll, hok, if_true]; rw [← hdr, hfin]; rfl)) (And.intro ty_26 (And.intro (fun h => nomatch h) True.intro))))))))))))
   ·have sg9 := g9
    try simp only [q1, q2, q3, q4, q5, q6, q7, q8, q9] at sg9
    refine RunS.s0f g9 ?_
    refine RunS.s0f g9 ?_
    refine RunS.s0f g9 ?_
    refine RunS.s0f g9 ?_
    refine RunS.s0f g9 ?_
    refine RunS.s0f g9 ?_
    refine rA ?_ (x := pkF g9)
    refine sw_cond (t := 51) rfl (fun hb_ => nomatch hb_) (fun hb_ => ?_)
    have hfin : drive (2000 - q.1) q.2 = q.2 := by
     by_cases hk3 : q.1 = 2000
     ·rw [hk3]; rfl
     ·rw [show 2000 - q.1 = (2000 - (q.1 + 1)) + 1 by omega]; simp only [drive]; rw [if_neg (by simp at *; omega)]
    refine sw_exit ?_
    refine sw_seq ?_
    refine sO [(0, _), (1, _), (4, _), (5, _), (6, _), (7, _), (8, _), (9, _), (10, _)] [(4, (36, [PV.sl _ _, PV.val _, PV.val _])), (5, (26, [PV.val _, PV.sl _ _])), (6, (36, [PV.sl _ _, PV.val _, PV.val _])), (8, (26, [PV.val _, PV.sl _ _]))] ?_
    refine sw_draw hm_ ?_
    refine dA 0 ?_ (x := loc_ltake (ms := [PV.sl _ _, PV.val _, PV.val _]) (qs := [PV.sl .v _, PV.val _, PV.val _]) (by decide) ty_36 (fun h => nomatch h) (by exact Nat.le_of_ble_eq_true rfl) (by exact rfl) (by exact (ToL.cons PV.to_none (ToL.cons (PV.To.refl _) (ToL.cons (PV.To.refl _) ToL.nil)))) (by exact (BorL.cons (PV.bor_sl _) (BorL.cons (PV.bor_val _) (BorL.cons (PV.bor_val _) BorL.nil)))))
    refine dA 0 ?_ (x := loc_ltake (ms := [PV.val _, PV.sl _ _]) (qs := [PV.val _, PV.sl .v _]) (by decide) ty_26 (fun h => nomatch h) (by exact Nat.le_of_ble_eq_true rfl) (by exact rfl) (by exact (ToL.cons (PV.To.refl _) (ToL.cons PV.to_none ToL.nil))) (by exact (BorL.cons (PV.bor_val _) (BorL.cons (PV.bor_sl _) BorL.nil))))
    refine dA 1 ?_ (x := loc_store (ag := true) (vs := [PV.sl _ _, PV.val _, PV.val _]) ty_36 (by exact ⟨⟩) (by exact rfl) (by exact Nat.le_of_ble_eq_true rfl))
    refine dA 7 ?_ (x := loc_store (ag := true) (vs := [PV.val _, PV.sl _ _]) ty_26 (by exact ⟨⟩) (by exact rfl) (by exact Nat.le_of_ble_eq_true rfl))
    refine sw_ret ?_
    exact (Exists.intro 4 (Exists.intro _ (And.intro (by exact rfl) (And.intro (by refine box_eq ?_; first | (simp [deliverAll, hok, hnb]; done) | (simp only [deliverAll, hok, if_true]; rw [← hdr, hfin]; rfl)) (And.intro ty_36 (And.intro (fun h => nomatch h) (Exists.intro 5 (Exists.intro _ (And.intro (by exact rfl) (And.intro (by refine box_eq ?_; first | (simp [deliverAll, hok, hnb]; done) | (simp only [deliverAll, hok, if_true]; rw [← hdr, hfin]; rfl)) (And.intro ty_26 (And.intro (fun h => nomatch h) True.intro))))))))))))
end Go.Proofs.Ytdoabhihpclliaa
