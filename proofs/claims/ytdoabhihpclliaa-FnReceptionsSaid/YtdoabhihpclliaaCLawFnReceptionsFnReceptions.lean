/- What functions of the program compute. No condition. -/
import Derived.Test.YtdoabhihpclliaaCBigFnReceptions
import Derived.Test.YtdoabhihpclliaaCEqPFnReceptions
import Derived.KernelRfl
set_option linter.unusedVariables false
set_option linter.unusedSimpArgs false
namespace Go.Proofs.Ytdoabhihpclliaa
open Go Go.RowKit M
set_option maxRecDepth 10000
attribute [local irreducible] PV.Lcl PV.LclR RV.Lcl
attribute [local irreducible] belowC byteC
theorem FLawFnReceptions_c_10 : callI Try.prog 10 = true := by kernel_rfl
theorem FLawFnReceptions_c_11 : callI Try.prog 11 = true := by kernel_rfl
theorem FLawFnReceptions_c_12 : callI Try.prog 12 = true := by kernel_rfl
theorem FLawFnReceptions_c_5 : callI Try.prog 5 = true := by kernel_rfl
theorem FLawFnReceptions_c_6 : callI Try.prog 6 = true := by kernel_rfl
theorem FLawFnReceptions_c_7 : callI Try.prog 7 = true := by kernel_rfl
theorem FLawFnReceptions_c_8 : callI Try.prog 8 = true := by kernel_rfl
theorem FLawFnReceptions_c_9 : callI Try.prog 9 = true := by kernel_rfl
theorem FLawFnReceptions_fd_26_0 : fieldI Try.prog 26 0 = some 0 := by kernel_rfl
theorem FLawFnReceptions_fd_26_1 : fieldI Try.prog 26 1 = some 1 := by kernel_rfl
theorem FLawFnReceptions_fd_36_1 : fieldI Try.prog 36 1 = some 1 := by kernel_rfl
theorem FLawFnReceptions_fd_36_2 : fieldI Try.prog 36 2 = some 2 := by kernel_rfl
theorem FLawFnReceptions_sl_24 : sliceI Try.prog 24 = some (29, 2, 32) := by kernel_rfl
theorem FLawFnReceptions_ty_22 : tyI Try.prog 22 = some (false, 1) := by kernel_rfl
theorem FLawFnReceptions_ty_24 : tyI Try.prog 24 = some (false, 1) := by kernel_rfl
theorem FLawFnReceptions_ty_26 : tyI Try.prog 26 = some (true, 2) := by kernel_rfl
theorem FLawFnReceptions_ty_29 : tyI Try.prog 29 = some (true, 2) := by kernel_rfl
theorem FLawFnReceptions_ty_3 : tyI Try.prog 3 = some (false, 1) := by kernel_rfl
theorem FLawFnReceptions_ty_36 : tyI Try.prog 36 = some (true, 3) := by kernel_rfl
theorem FLawFnReceptions_ub_4 : Try.prog.underlying 4 = some .bool := by kernel_rfl
theorem FLawFnReceptions_z_26 : zeroI Try.prog 26 = some (.agg #[.int .i64 0, .slice none 0 0]) := by kernel_rfl
theorem FLawFnReceptions_z_29 : zeroI Try.prog 29 = some (.agg #[.int .i64 0, .slice none 0 0]) := by kernel_rfl
theorem FLawFnReceptions_z_36 : zeroI Try.prog 36 = some (.agg #[.slice none 0 0, .int .i64 0, .int .i64 0]) := by kernel_rfl
theorem FLawFnReceptions_zo_26 {Fz : FzT} {w : World} : OwnL [PV.val (.int .i64 0), PV.sl (.own 29 2) []] Fz w (Value.cells (.agg #[.int .i64 0, .slice none 0 0])).toList [] := zo_val rfl (zo_sl (zo_nil))
theorem FLawFnReceptions_zo_29 {Fz : FzT} {w : World} : OwnL [PV.val (.int .i64 0), PV.sl (.own 3 1) []] Fz w (Value.cells (.agg #[.int .i64 0, .slice none 0 0])).toList [] := zo_val rfl (zo_sl (zo_nil))
theorem FLawFnReceptions_zo_36 {Fz : FzT} {w : World} : OwnL [PV.sl (.own 29 2) [], PV.val (.int .i64 0), PV.val (.int .i64 0)] Fz w (Value.cells (.agg #[.slice none 0 0, .int .i64 0, .int .i64 0])).toList [] := zo_sl (zo_val rfl (zo_val rfl (zo_nil)))
theorem law_FnReceptions {code : List Int}  : SCall Try.prog 3 [(false, [PV.sl .v (code.map cU8)])] (resRV [(false, [PV.val (.bool true)])]) := by
 refine scall_of (rs := [(false, [PV.val (.bool true)])]) Try.func3 rfl (Nat.le_of_ble_eq_true rfl) (borA_cons (BorL.cons (PV.bor_sl _) BorL.nil) borA_nil) ?_
 intro h0 w0 Fz0
 refine sw_len (s := 0) rfl fun hl0 => ?_
 try rw [List.length_map] at hl0
 refine sw_seq ?_
 refine sw_reg ?_
 refine rA ?_ (x := kA)
 refine sw_seq ?_
 refine sw_seq ?_
 refine sO [(0, _), (2, _)] [] ?_
 refine sw_reg ?_
 refine rA ?_ (x := vM false [PV.sl .v _])
 refine rA ?_ (x := cL [(false, [PV.sl _ _])] [(false, [PV.sl .v _])] FLawFnReceptions_c_5 (hs := by exact laws_big))
 refine sw_cond (t := 22) rfl (fun hb1 => ?_) (fun hb1 => ?_)
 ·try simp only [q1, q2, q3, q4, q5, q6, q7, q8, q9] at hb1
  refine sw_seq ?_
  refine sO [(0, _), (2, _)] [] ?_
  refine sw_reg ?_
  refine rA ?_ (x := kA)
  refine sw_ret ?_
  exact (And.intro (by refine bool_eq ?_; first | rfl | (simp; omega)) True.intro)
 ·try simp only [q1, q2, q3, q4, q5, q6, q7, q8, q9] at hb1
  have hbig : code.length ≤ 1048576 := by have hh := hb1; simp at hh; omega
  have hb : code.length ≤ 9223372036854775807 := by omega
  have hb2 : code.length ≤ 4611686018427387904 := by omega
  have hpw := pairC_wt (curNew code hb)
  have hg3 := belowC_ge (pairC (curNew code hb)).2 3
  have hl3 := belowC_lt (pairC (curNew code hb)).2 (n := 3) (by decide)
  have haw := anyC_wt (belowC (pairC (curNew code hb)).2 3).2
  have hrw := recv_wt (drReceive code hb).1 (drReceive code hb).2.1 (drReceive code hb).2.2
  have hrn := recv_next (drReceive code hb).1 (drReceive code hb).2.1 (drReceive code hb).2.2
  have hrl := recv_len (drReceive code hb).1 (drReceive code hb).2.1 (drReceive code hb).2.2
  have hra := recv_again (drReceive code hb).1 (drReceive code hb).2.1 (drReceive code hb).2.2
  have hsn := send_next (drSend code hb).1 (drSend code hb).2.1 (drSend code hb).2.2
  have hsa := send_acked (drSend code hb).1 (drSend code hb).2.1 (drSend code hb).2.2
  have hsw1 := send_wt1 (drSend code hb).1 (drSend code hb).2.1 (drSend code hb).2.2
  have hsw2 := send_wt2 (drSend code hb).1 (drSend code hb).2.1 (drSend code hb).2.2
  have e1 : (drReceive code hb).1 = (pairC (curNew code hb)).1.2 := rfl
  have e2 : (drReceive code hb).2.2 = (anyC (belowC (pairC (curNew code hb)).2 3).2).1 := rfl
  have e3 : (drSend code hb).1 = (pairC (curNew code hb)).1.1 := rfl
  have e4 : (drSend code hb).2.1 = (pairC (curNew code hb)).1.2 := rfl
  rw [← e1] at hpw
  rw [← e2] at haw
  have hpw2 := pairC_wt (curNew code hb)
  rw [← e3, ← e4] at hpw2
  have hrx := wtClient_len (drReceive code hb).1
  have hry := wtClient_len (recv (drReceive code hb).1 (drReceive code hb).2.1 (drReceive code hb).2.2).1
  refine sw_skip ?_
  refine sw_seq ?_
  refine sO [(0, _), (2, _)] [] ?_
  refine sw_reg ?_
  refine rA ?_ (x := vM false [PV.sl .v _])
  refine rA ?_ (x := cL [(false, [PV.sl _ _])] [(false, [PV.sl .v _])] FLawFnReceptions_c_6 (hs := by exact (spec_DrawReceive (by omega) (by omega))))
  refine rA ?_ (x := tM)
  refine rA ?_ (x := loc_extract (cs := [PV.val _, PV.sl _ _]) (qs := [PV.val _, PV.sl .v _]) (by decide) (by exact rfl) (by exact (ToL.cons (PV.To.refl _) (ToL.cons PV.to_none ToL.nil))) (by exact (BorL.cons (PV.bor_val _) (BorL.cons (PV.bor_sl _) BorL.nil))))
  refine rA ?_ (x := loc_extractb (cs := [PV.val _]) (by decide) (by exact rfl) (by exact (BorL.cons (PV.bor_val _) BorL.nil)))
  refine rA ?_ (x := loc_extract (cs := [PV.val _, PV.sl _ _]) (qs := [PV.val _, PV.sl .v _]) (by decide) (by exact rfl) (by exact (ToL.cons (PV.To.refl _) (ToL.cons PV.to_none ToL.nil))) (by exact (BorL.cons (PV.bor_val _) (BorL.cons (PV.bor_sl _) BorL.nil))))
  refine RunS.step (by exact ⟨⟩) (by exact ⟨⟩) (LocG.of rfl (loc_alloc (by decide) FLawFnReceptions_z_26 FLawFnReceptions_zo_26)) (free1 (Free.app (Free.app (Free.app (Free.app (Free.app (Free.app (Free.of_ rfl) rfl) rfl) rfl) rfl) rfl) rfl)) ?_
  refine RunS.step (by exact ⟨⟩) (by exact ⟨⟩) (LocG.of rfl (loc_alloc (by decide) FLawFnReceptions_z_29 FLawFnReceptions_zo_29)) (free1 (Free.app (Free.app (Free.app (Free.app (Free.app (Free.app (Free.app (Free.of_ rfl) rfl) rfl) rfl) rfl) rfl) rfl) rfl)) ?_
  refine rA ?_ (x := loc_store (ag := true) (vs := [PV.val _, PV.sl _ _]) FLawFnReceptions_ty_26 (by exact ⟨⟩) (by exact rfl) (by exact Nat.le_of_ble_eq_true rfl))
  refine rA ?_ (x := sA)
  refine rA ?_ (x := loc_store (ag := true) (vs := [PV.val _, PV.sl _ _]) FLawFnReceptions_ty_29 (by exact ⟨⟩) (by exact rfl) (by exact Nat.le_of_ble_eq_true rfl))
  refine sw_seq ?_
  refine sO [(0, _), (2, _), (3, _), (4, _), (5, _)] [(3, (26, [PV.val _, PV.sl _ _])), (5, (29, [PV.val _, PV.sl _ _]))] ?_
  refine sw_reg ?_
  refine rA ?_ (x := lD [PV.val _, PV.sl .v _] FLawFnReceptions_ty_26)
  refine rA ?_ (x := sM)
  refine rA ?_ (x := lD [PV.val _, PV.sl .v _] FLawFnReceptions_ty_29)
  refine rA ?_ (x := cL [(true, [PV.val _, PV.sl _ _]), (false, [PV.val _]), (true, [PV.val _, PV.sl _ _])] [(true, [PV.val _, PV.sl .v _]), (false, [PV.val _]), (true, [PV.val _, PV.sl .v _])] FLawFnReceptions_c_7 (hs := by exact impl_Receive (by omega) (by omega)))
  refine rA ?_ (x := tM)
  refine rA ?_ (x := loc_extract (cs := [PV.val _, PV.sl _ _]) (qs := [PV.val _, PV.sl .v _]) (by decide) (by exact rfl) (by exact (ToL.cons (PV.To.refl _) (ToL.cons PV.to_none ToL.nil))) (by exact (BorL.cons (PV.bor_val _) (BorL.cons (PV.bor_sl _) BorL.nil))))
  refine rA ?_ (x := loc_extractb (cs := [PV.val _]) (by decide) (by exact rfl) (by exact (BorL.cons (PV.bor_val _) BorL.nil)))
  refine RunS.step (by exact ⟨⟩) (by exact ⟨⟩) (LocG.of rfl (loc_alloc (by decide) FLawFnReceptions_z_26 FLawFnReceptions_zo_26)) (free1 (Free.app (Free.app (Free.app (Free.app (Free.app (Free.app (Free.app (Free.of_ rfl) rfl) rfl) rfl) rfl) rfl) rfl) rfl)) ?_
  refine rA ?_ (x := loc_store (ag := true) (vs := [PV.val _, PV.sl _ _]) FLawFnReceptions_ty_26 (by exact ⟨⟩) (by exact rfl) (by exact Nat.le_of_ble_eq_true rfl))
  refine rA ?_ (x := sA)
  refine sw_seq ?_
  refine sO [(0, _), (2, _), (3, _), (4, _), (5, _), (6, _), (7, _)] [(3, _), (5, _), (6, (26, [PV.val _, PV.sl _ _]))] ?_
  refine sw_reg ?_
  refine rA ?_ (x := lD [PV.val _, PV.sl .v _] FLawFnReceptions_ty_26)
  refine rA ?_ (x := sM)
  refine rA ?_ (x := lD [PV.val _, PV.sl .v _] FLawFnReceptions_ty_29)
  refine rA ?_ (x := cL [(true, [PV.val _, PV.sl _ _]), (false, [PV.val _]), (true, [PV.val _, PV.sl _ _])] [(true, [PV.val _, PV.sl .v _]), (false, [PV.val _]), (true, [PV.val _, PV.sl .v _])] FLawFnReceptions_c_8 (hs := by exact spec_Receive (by omega) (by omega)))
  refine rA ?_ (x := tM)
  refine rA ?_ (x := loc_extract (cs := [PV.val _, PV.sl _ _]) (qs := [PV.val _, PV.sl .v _]) (by decide) (by exact rfl) (by exact (ToL.cons (PV.To.refl _) (ToL.cons PV.to_none ToL.nil))) (by exact (BorL.cons (PV.bor_val _) (BorL.cons (PV.bor_sl _) BorL.nil))))
  refine rA ?_ (x := loc_extractb (cs := [PV.val _]) (by decide) (by exact rfl) (by exact (BorL.cons (PV.bor_val _) BorL.nil)))
  refine RunS.step (by exact ⟨⟩) (by exact ⟨⟩) (LocG.of rfl (loc_alloc (by decide) FLawFnReceptions_z_26 FLawFnReceptions_zo_26)) (free1 (Free.app (Free.app (Free.app (Free.app (Free.app (Free.app (Free.app (Free.of_ rfl) rfl) rfl) rfl) rfl) rfl) rfl) rfl)) ?_
  refine rA ?_ (x := loc_store (ag := true) (vs := [PV.val _, PV.sl _ _]) FLawFnReceptions_ty_26 (by exact ⟨⟩) (by exact rfl) (by exact Nat.le_of_ble_eq_true rfl))
  refine rA ?_ (x := sA)
  refine sw_seq ?_
  refine sw_seq ?_
  refine sO [(0, _), (2, _), (3, _), (4, _), (5, _), (6, _), (7, _), (8, _), (9, _)] [(3, _), (5, _), (6, _), (8, (26, [PV.val _, PV.sl _ _]))] ?_
  refine sw_reg ?_
  refine rA ?_ (x := sM)
  refine rA ?_ (x := sM)
  refine rA ?_ (x := B_neq)
  refine rA ?_ (x := sM)
  refine RunS.cases (s := 46) rfl (fun g2 => ?_) (fun g2 => ?_)
  ·exact absurd g2 (by simp [deq_self]; try omega)
  ·have sg2 := g2
   try simp only [q1, q2, q3, q4, q5, q6, q7, q8, q9] at sg2
   refine rB g2 ?_ (x := lF FLawFnReceptions_fd_26_0)
   refine rB g2 ?_ (x := lD [PV.val _] FLawFnReceptions_ty_3)
   refine rB g2 ?_ (x := lF FLawFnReceptions_fd_26_0)
   refine rB g2 ?_ (x := lD [PV.val _] FLawFnReceptions_ty_3)
   refine rB g2 ?_ (x := B_neq)
   refine rA ?_ (x := pkF g2)
   refine rA ?_ (x := sM)
   refine RunS.cases (s := 53) rfl (fun g3 => ?_) (fun g3 => ?_)
   ·exact absurd g3 (by simp [deq_self]; try omega)
   ·have sg3 := g3
    try simp only [q1, q2, q3, q4, q5, q6, q7, q8, q9] at sg3
    refine rB g3 ?_ (x := lF FLawFnReceptions_fd_26_1)
    refine rB g3 ?_ (x := lD [PV.sl .v _] FLawFnReceptions_ty_24)
    refine rB g3 ?_ (x := lF FLawFnReceptions_fd_26_1)
    refine rB g3 ?_ (x := lD [PV.sl .v _] FLawFnReceptions_ty_24)
    refine rB g3 ?_ (x := cL [(false, [PV.sl _ _]), (false, [PV.sl _ _])] [(false, [PV.sl .v _]), (false, [PV.sl .v _])] FLawFnReceptions_c_9 (hs := by exact spec_EqualRows))
    refine rB g3 ?_ (x := nT)
    refine rA ?_ (x := pkF g3)
    refine rA ?_ (x := sM)
    refine RunS.cases (s := 61) rfl (fun g4 => ?_) (fun g4 => ?_)
    ·exact absurd g4 (by simp [deq_self]; try omega)
    ·have sg4 := g4
     try simp only [q1, q2, q3, q4, q5, q6, q7, q8, q9] at sg4
     refine rB g4 ?_ (x := lF FLawFnReceptions_fd_26_1)
     refine rB g4 ?_ (x := lD [PV.sl .v _] FLawFnReceptions_ty_24)
     refine rB g4 ?_ (x := lN FLawFnReceptions_sl_24)
     refine rB g4 ?_ (x := lF FLawFnReceptions_fd_26_1)
     refine rB g4 ?_ (x := lD [PV.sl .v _] FLawFnReceptions_ty_24)
     refine rB g4 ?_ (x := lN FLawFnReceptions_sl_24)
     refine rB g4 ?_ (x := B_sub)
     refine rB g4 ?_ (x := lF FLawFnReceptions_fd_26_0)
     refine rB g4 ?_ (x := lD [PV.val _] FLawFnReceptions_ty_3)
     refine rB g4 ?_ (x := lF FLawFnReceptions_fd_26_0)
     refine rB g4 ?_ (x := lD [PV.val _] FLawFnReceptions_ty_3)
     refine rB g4 ?_ (x := B_sub)
     refine rB g4 ?_ (x := B_neq)
     refine rA ?_ (x := pkF g4)
     refine sw_cond (t := 75) rfl (fun hb5 => ?_) (fun hb5 => ?_)
     ·try simp only [q1, q2, q3, q4, q5, q6, q7, q8, q9] at hb5
      exact absurd hb5 (by simp [deq_self]; try omega)
     ·try simp only [q1, q2, q3, q4, q5, q6, q7, q8, q9] at hb5
      refine sw_skip ?_
      refine sw_seq ?_
      refine sO [(0, _), (2, _), (3, _), (4, _), (5, _), (6, _), (7, _), (8, _), (9, _)] [(3, _), (5, _), (6, _), (8, _)] ?_
      refine sw_reg ?_
      refine rA ?_ (x := vM false [PV.sl .v _])
      refine rA ?_ (x := cL [(false, [PV.sl _ _])] [(false, [PV.sl .v _])] FLawFnReceptions_c_10 (hs := by exact (spec_DrawSendNext (by omega) (by omega))))
      refine rA ?_ (x := tM)
      refine rA ?_ (x := loc_extract (cs := [PV.sl _ _, PV.val _, PV.val _]) (qs := [PV.sl .v _, PV.val _, PV.val _]) (by decide) (by exact rfl) (by exact (ToL.cons PV.to_none (ToL.cons (PV.To.refl _) (ToL.cons (PV.To.refl _) ToL.nil)))) (by exact (BorL.cons (PV.bor_sl _) (BorL.cons (PV.bor_val _) (BorL.cons (PV.bor_val _) BorL.nil)))))
      refine rA ?_ (x := loc_extract (cs := [PV.val _, PV.sl _ _]) (qs := [PV.val _, PV.sl .v _]) (by decide) (by exact rfl) (by exact (ToL.cons (PV.To.refl _) (ToL.cons PV.to_none ToL.nil))) (by exact (BorL.cons (PV.bor_val _) (BorL.cons (PV.bor_sl _) BorL.nil))))
      refine rA ?_ (x := loc_extractb (cs := [PV.val _]) (by decide) (by exact rfl) (by exact (BorL.cons (PV.bor_val _) BorL.nil)))
      refine RunS.step (by exact ⟨⟩) (by exact ⟨⟩) (LocG.of rfl (loc_alloc (by decide) FLawFnReceptions_z_36 FLawFnReceptions_zo_36)) (free1 (Free.app (Free.app (Free.app (Free.app (Free.app (Free.app (Free.of_ rfl) rfl) rfl) rfl) rfl) rfl) rfl)) ?_
      refine RunS.step (by exact ⟨⟩) (by exact ⟨⟩) (LocG.of rfl (loc_alloc (by decide) FLawFnReceptions_z_26 FLawFnReceptions_zo_26)) (free1 (Free.app (Free.app (Free.app (Free.app (Free.app (Free.app (Free.app (Free.of_ rfl) rfl) rfl) rfl) rfl) rfl) rfl) rfl)) ?_
      refine rA ?_ (x := loc_store (ag := true) (vs := [PV.sl _ _, PV.val _, PV.val _]) FLawFnReceptions_ty_36 (by exact ⟨⟩) (by exact rfl) (by exact Nat.le_of_ble_eq_true rfl))
      refine rA ?_ (x := loc_store (ag := true) (vs := [PV.val _, PV.sl _ _]) FLawFnReceptions_ty_26 (by exact ⟨⟩) (by exact rfl) (by exact Nat.le_of_ble_eq_true rfl))
      refine rA ?_ (x := sA)
      refine sw_seq ?_
      refine sO [(0, _), (2, _), (3, _), (4, _), (5, _), (6, _), (7, _), (8, _), (9, _), (10, _), (11, _), (12, _)] [(3, _), (5, _), (6, _), (8, _), (10, (36, [PV.sl _ _, PV.val _, PV.val _])), (11, (26, [PV.val _, PV.sl _ _]))] ?_
      refine sw_reg ?_
      refine rA ?_ (x := lD [PV.sl .v _, PV.val _, PV.val _] FLawFnReceptions_ty_36)
      refine rA ?_ (x := lD [PV.val _, PV.sl .v _] FLawFnReceptions_ty_26)
      refine rA ?_ (x := sM)
      refine rA ?_ (x := cL [(true, [PV.sl _ _, PV.val _, PV.val _]), (true, [PV.val _, PV.sl _ _]), (false, [PV.val _])] [(true, [PV.sl .v _, PV.val _, PV.val _]), (true, [PV.val _, PV.sl .v _]), (false, [PV.val _])] FLawFnReceptions_c_11 (hs := by exact impl_SendNext (by omega) (by omega)))
      refine rA ?_ (x := tM)
      refine rA ?_ (x := loc_extract (cs := [PV.sl _ _, PV.val _, PV.val _]) (qs := [PV.sl .v _, PV.val _, PV.val _]) (by decide) (by exact rfl) (by exact (ToL.cons PV.to_none (ToL.cons (PV.To.refl _) (ToL.cons (PV.To.refl _) ToL.nil)))) (by exact (BorL.cons (PV.bor_sl _) (BorL.cons (PV.bor_val _) (BorL.cons (PV.bor_val _) BorL.nil)))))
      refine rA ?_ (x := loc_extract (cs := [PV.val _, PV.sl _ _]) (qs := [PV.val _, PV.sl .v _]) (by decide) (by exact rfl) (by exact (ToL.cons (PV.To.refl _) (ToL.cons PV.to_none ToL.nil))) (by exact (BorL.cons (PV.bor_val _) (BorL.cons (PV.bor_sl _) BorL.nil))))
      refine rA ?_ (x := loc_extractb (cs := [PV.val _]) (by decide) (by exact rfl) (by exact (BorL.cons (PV.bor_val _) BorL.nil)))
      refine RunS.step (by exact ⟨⟩) (by exact ⟨⟩) (LocG.of rfl (loc_alloc (by decide) FLawFnReceptions_z_36 FLawFnReceptions_zo_36)) (free1 (Free.app (Free.app (Free.app (Free.app (Free.app (Free.app (Free.app (Free.app (Free.of_ rfl) rfl) rfl) rfl) rfl) rfl) rfl) rfl) rfl)) ?_
      refine RunS.step (by exact ⟨⟩) (by exact ⟨⟩) (LocG.of rfl (loc_alloc (by decide) FLawFnReceptions_z_26 FLawFnReceptions_zo_26)) (free1 (Free.app (Free.app (Free.app (Free.app (Free.app (Free.app (Free.app (Free.app (Free.app (Free.of_ rfl) rfl) rfl) rfl) rfl) rfl) rfl) rfl) rfl) rfl)) ?_
      refine rA ?_ (x := loc_store (ag := true) (vs := [PV.sl _ _, PV.val _, PV.val _]) FLawFnReceptions_ty_36 (by exact ⟨⟩) (by exact rfl) (by exact Nat.le_of_ble_eq_true rfl))
      refine rA ?_ (x := loc_store (ag := true) (vs := [PV.val _, PV.sl _ _]) FLawFnReceptions_ty_26 (by exact ⟨⟩) (by exact rfl) (by exact Nat.le_of_ble_eq_true rfl))
      refine rA ?_ (x := sA)
      refine sw_seq ?_
      refine sO [(0, _), (2, _), (3, _), (4, _), (5, _), (6, _), (7, _), (8, _), (9, _), (10, _), (11, _), (12, _), (13, _), (14, _), (15, _)] [(3, _), (5, _), (6, _), (8, _), (10, _), (11, _), (13, (36, [PV.sl _ _, PV.val _, PV.val _])), (14, (26, [PV.val _, PV.sl _ _]))] ?_
      refine sw_reg ?_
      refine rA ?_ (x := lD [PV.sl .v _, PV.val _, PV.val _] FLawFnReceptions_ty_36)
      refine rA ?_ (x := lD [PV.val _, PV.sl .v _] FLawFnReceptions_ty_26)
      refine rA ?_ (x := sM)
      refine rA ?_ (x := cL [(true, [PV.sl _ _, PV.val _, PV.val _]), (true, [PV.val _, PV.sl _ _]), (false, [PV.val _])] [(true, [PV.sl .v _, PV.val _, PV.val _]), (true, [PV.val _, PV.sl .v _]), (false, [PV.val _])] FLawFnReceptions_c_12 (hs := by exact spec_SendNext (by omega) (by omega)))
      refine rA ?_ (x := tM)
      refine rA ?_ (x := loc_extract (cs := [PV.sl _ _, PV.val _, PV.val _]) (qs := [PV.sl .v _, PV.val _, PV.val _]) (by decide) (by exact rfl) (by exact (ToL.cons PV.to_none (ToL.cons (PV.To.refl _) (ToL.cons (PV.To.refl _) ToL.nil)))) (by exact (BorL.cons (PV.bor_sl _) (BorL.cons (PV.bor_val _) (BorL.cons (PV.bor_val _) BorL.nil)))))
      refine rA ?_ (x := loc_extract (cs := [PV.val _, PV.sl _ _]) (qs := [PV.val _, PV.sl .v _]) (by decide) (by exact rfl) (by exact (ToL.cons (PV.To.refl _) (ToL.cons PV.to_none ToL.nil))) (by exact (BorL.cons (PV.bor_val _) (BorL.cons (PV.bor_sl _) BorL.nil))))
      refine rA ?_ (x := loc_extractb (cs := [PV.val _]) (by decide) (by exact rfl) (by exact (BorL.cons (PV.bor_val _) BorL.nil)))
      refine RunS.step (by exact ⟨⟩) (by exact ⟨⟩) (LocG.of rfl (loc_alloc (by decide) FLawFnReceptions_z_36 FLawFnReceptions_zo_36)) (free1 (Free.app (Free.app (Free.app (Free.app (Free.app (Free.app (Free.app (Free.app (Free.of_ rfl) rfl) rfl) rfl) rfl) rfl) rfl) rfl) rfl)) ?_
      refine RunS.step (by exact ⟨⟩) (by exact ⟨⟩) (LocG.of rfl (loc_alloc (by decide) FLawFnReceptions_z_26 FLawFnReceptions_zo_26)) (free1 (Free.app (Free.app (Free.app (Free.app (Free.app (Free.app (Free.app (Free.app (Free.app (Free.of_ rfl) rfl) rfl) rfl) rfl) rfl) rfl) rfl) rfl) rfl)) ?_
      refine rA ?_ (x := loc_store (ag := true) (vs := [PV.sl _ _, PV.val _, PV.val _]) FLawFnReceptions_ty_36 (by exact ⟨⟩) (by exact rfl) (by exact Nat.le_of_ble_eq_true rfl))
      refine rA ?_ (x := loc_store (ag := true) (vs := [PV.val _, PV.sl _ _]) FLawFnReceptions_ty_26 (by exact ⟨⟩) (by exact rfl) (by exact Nat.le_of_ble_eq_true rfl))
      refine rA ?_ (x := sA)
      refine sw_seq ?_
      refine sw_seq ?_
      refine sO [(0, _), (2, _), (3, _), (4, _), (5, _), (6, _), (7, _), (8, _), (9, _), (10, _), (11, _), (12, _), (13, _), (14, _), (15, _), (16, _), (17, _), (18, _)] [(3, _), (5, _), (6, _), (8, _), (10, _), (11, _), (13, _), (14, _), (16, (36, [PV.sl _ _, PV.val _, PV.val _])), (17, (26, [PV.val _, PV.sl _ _]))] ?_
      refine sw_reg ?_
      refine rA ?_ (x := sM)
      refine rA ?_ (x := sM)
      refine rA ?_ (x := loc_bneq (by decide) FLawFnReceptions_ub_4 (by exact ⟨⟩) (by exact ⟨⟩))
      refine rA ?_ (x := sM)
      refine RunS.cases (s := 101) rfl (fun g6 => ?_) (fun g6 => ?_)
      ·exact absurd g6 (by simp [deq_self]; try omega)
      ·have sg6 := g6
       try simp only [q1, q2, q3, q4, q5, q6, q7, q8, q9] at sg6
       refine rB g6 ?_ (x := lF FLawFnReceptions_fd_36_1)
       refine rB g6 ?_ (x := lD [PV.val _] FLawFnReceptions_ty_3)
       refine rB g6 ?_ (x := lF FLawFnReceptions_fd_36_1)
       refine rB g6 ?_ (x := lD [PV.val _] FLawFnReceptions_ty_3)
       refine rB g6 ?_ (x := B_neq)
       refine rA ?_ (x := pkF g6)
       refine rA ?_ (x := sM)
       refine RunS.cases (s := 108) rfl (fun g7 => ?_) (fun g7 => ?_)
       ·exact absurd g7 (by simp [deq_self]; try omega)
       ·have sg7 := g7
        try simp only [q1, q2, q3, q4, q5, q6, q7, q8, q9] at sg7
        refine rB g7 ?_ (x := lF FLawFnReceptions_fd_36_2)
        refine rB g7 ?_ (x := lD [PV.val _] FLawFnReceptions_ty_3)
        refine rB g7 ?_ (x := lF FLawFnReceptions_fd_36_2)
        refine rB g7 ?_ (x := lD [PV.val _] FLawFnReceptions_ty_3)
        refine rB g7 ?_ (x := B_neq)
        refine rA ?_ (x := pkF g7)
        refine rA ?_ (x := sM)
        refine RunS.cases (s := 115) rfl (fun g8 => ?_) (fun g8 => ?_)
        ·exact absurd g8 (by simp [deq_self]; try omega)
        ·have sg8 := g8
         try simp only [q1, q2, q3, q4, q5, q6, q7, q8, q9] at sg8
         refine rB g8 ?_ (x := lF FLawFnReceptions_fd_26_0)
         refine rB g8 ?_ (x := lD [PV.val _] FLawFnReceptions_ty_3)
         refine rB g8 ?_ (x := lF FLawFnReceptions_fd_26_0)
         refine rB g8 ?_ (x := lD [PV.val _] FLawFnReceptions_ty_3)
         refine rB g8 ?_ (x := B_neq)
         refine rA ?_ (x := pkF g8)
         refine rA ?_ (x := sM)
         refine RunS.cases (s := 122) rfl (fun g9 => ?_) (fun g9 => ?_)
         ·exact absurd g9 (by simp [deq_self]; try omega)
         ·have sg9 := g9
          try simp only [q1, q2, q3, q4, q5, q6, q7, q8, q9] at sg9
          refine rB g9 ?_ (x := lF FLawFnReceptions_fd_26_1)
          refine rB g9 ?_ (x := lD [PV.sl .v _] FLawFnReceptions_ty_24)
          refine rB g9 ?_ (x := lF FLawFnReceptions_fd_26_1)
          refine rB g9 ?_ (x := lD [PV.sl .v _] FLawFnReceptions_ty_24)
          refine rB g9 ?_ (x := cL [(false, [PV.sl _ _]), (false, [PV.sl _ _])] [(false, [PV.sl .v _]), (false, [PV.sl .v _])] FLawFnReceptions_c_9 (hs := by exact spec_EqualRows))
          refine rB g9 ?_ (x := nT)
          refine rA ?_ (x := pkF g9)
          refine sw_cond (t := 129) rfl (fun hb10 => ?_) (fun hb10 => ?_)
          ·try simp only [q1, q2, q3, q4, q5, q6, q7, q8, q9] at hb10
           exact absurd hb10 (by simp [deq_self]; try omega)
          ·try simp only [q1, q2, q3, q4, q5, q6, q7, q8, q9] at hb10
           refine sw_skip ?_
           refine sw_seq ?_
           refine sO [(0, _), (2, _), (3, _), (4, _), (5, _), (6, _), (7, _), (8, _), (9, _), (10, _), (11, _), (12, _), (13, _), (14, _), (15, _), (16, _), (17, _), (18, _)] [(3, _), (5, _), (6, _), (8, _), (10, _), (11, _), (13, _), (14, _), (16, _), (17, _)] ?_
           refine sw_reg ?_
           refine rA ?_ (x := lD [PV.val _, PV.sl .v _] FLawFnReceptions_ty_26)
           refine rA ?_ (x := sM)
           refine rA ?_ (x := lD [PV.val _, PV.sl .v _] FLawFnReceptions_ty_29)
           refine rA ?_ (x := cL [(true, [PV.val _, PV.sl _ _]), (false, [PV.val _]), (true, [PV.val _, PV.sl _ _])] [(true, [PV.val _, PV.sl .v _]), (false, [PV.val _]), (true, [PV.val _, PV.sl .v _])] FLawFnReceptions_c_7 (hs := by exact impl_Receive (by omega) (by omega)))
           refine rA ?_ (x := tM)
           refine rA ?_ (x := loc_extract (cs := [PV.val _, PV.sl _ _]) (qs := [PV.val _, PV.sl .v _]) (by decide) (by exact rfl) (by exact (ToL.cons (PV.To.refl _) (ToL.cons PV.to_none ToL.nil))) (by exact (BorL.cons (PV.bor_val _) (BorL.cons (PV.bor_sl _) BorL.nil))))
           refine rA ?_ (x := loc_extractb (cs := [PV.val _]) (by decide) (by exact rfl) (by exact (BorL.cons (PV.bor_val _) BorL.nil)))
           refine RunS.step (by exact ⟨⟩) (by exact ⟨⟩) (LocG.of rfl (loc_alloc (by decide) FLawFnReceptions_z_26 FLawFnReceptions_zo_26)) (free1 (Free.app (Free.app (Free.app (Free.app (Free.app (Free.app (Free.app (Free.of_ rfl) rfl) rfl) rfl) rfl) rfl) rfl) rfl)) ?_
           refine rA ?_ (x := loc_store (ag := true) (vs := [PV.val _, PV.sl _ _]) FLawFnReceptions_ty_26 (by exact ⟨⟩) (by exact rfl) (by exact Nat.le_of_ble_eq_true rfl))
           refine rA ?_ (x := sA)
           refine sw_seq ?_
           refine sO [(0, _), (2, _), (3, _), (4, _), (5, _), (6, _), (7, _), (8, _), (9, _), (10, _), (11, _), (12, _), (13, _), (14, _), (15, _), (16, _), (17, _), (18, _), (19, _), (20, _)] [(3, _), (5, _), (6, _), (8, _), (10, _), (11, _), (13, _), (14, _), (16, _), (17, _), (19, (26, [PV.val _, PV.sl _ _]))] ?_
           refine sw_reg ?_
           refine rA ?_ (x := lF FLawFnReceptions_fd_36_1)
           refine rA ?_ (x := lD [PV.val _] FLawFnReceptions_ty_3)
           refine rA ?_ (x := lF FLawFnReceptions_fd_36_1)
           refine rA ?_ (x := lD [PV.val _] FLawFnReceptions_ty_3)
           refine rA ?_ (x := B_geq)
           refine rA ?_ (x := sM)
           refine RunS.cases (s := 142) rfl (fun g11 => ?_) (fun g11 => ?_)
           ·have sg11 := g11
            try simp only [q1, q2, q3, q4, q5, q6, q7, q8, q9] at sg11
            refine rB g11 ?_ (x := lF FLawFnReceptions_fd_26_0)
            refine rB g11 ?_ (x := lD [PV.val _] FLawFnReceptions_ty_3)
            refine rB g11 ?_ (x := lF FLawFnReceptions_fd_26_0)
            refine rB g11 ?_ (x := lD [PV.val _] FLawFnReceptions_ty_3)
            refine rB g11 ?_ (x := B_geq)
            refine rA ?_ (x := pkT g11)
            refine rA ?_ (x := sM)
            refine RunS.cases (s := 149) rfl (fun g12 => ?_) (fun g12 => ?_)
            ·have sg12 := g12
             try simp only [q1, q2, q3, q4, q5, q6, q7, q8, q9] at sg12
             refine rB g12 ?_ (x := lF FLawFnReceptions_fd_26_0)
             refine rB g12 ?_ (x := lD [PV.val _] FLawFnReceptions_ty_3)
             refine rB g12 ?_ (x := lF FLawFnReceptions_fd_26_0)
             refine rB g12 ?_ (x := lD [PV.val _] FLawFnReceptions_ty_3)
             refine rB g12 ?_ (x := B_add)
             refine rB g12 ?_ (x := B_leq)
             refine rA ?_ (x := pkT g12)
             refine rA ?_ (x := sM)
             refine RunS.cases (s := 157) rfl (fun g13 => ?_) (fun g13 => ?_)
             ·have sg13 := g13
              try simp only [q1, q2, q3, q4, q5, q6, q7, q8, q9] at sg13
              refine rB g13 ?_ (x := lF FLawFnReceptions_fd_26_0)
              refine rB g13 ?_ (x := lD [PV.val _] FLawFnReceptions_ty_3)
              refine rB g13 ?_ (x := lF FLawFnReceptions_fd_26_0)
              refine rB g13 ?_ (x := lD [PV.val _] FLawFnReceptions_ty_3)
              refine rB g13 ?_ (x := B_eql)
              refine rB g13 ?_ (x := sM)
              refine RunS.cases (s := 163) rfl (fun g14 => ?_) (fun g14 => ?_)
              ·have sg14 := g14
               try simp only [q1, q2, q3, q4, q5, q6, q7, q8, q9] at sg14
               refine RunS.s0t g14 ?_
               refine RunS.s0t g14 ?_
               refine RunS.s0t g14 ?_
               refine RunS.s0t g14 ?_
               refine RunS.s0t g14 ?_
               refine rB g13 ?_ (x := pkT g14)
               refine rA ?_ (x := pkT g13)
               refine rA ?_ (x := sA)
               refine sw_ret ?_
               exact (And.intro (by refine bool_eq ?_; first | rfl | (simp; omega)) True.intro)
              ·have sg14 := g14
               try simp only [q1, q2, q3, q4, q5, q6, q7, q8, q9] at sg14
               refine rB g14 ?_ (x := lF FLawFnReceptions_fd_26_0)
               refine rB g14 ?_ (x := lD [PV.val _] FLawFnReceptions_ty_3)
               refine rB g14 ?_ (x := lF FLawFnReceptions_fd_26_0)
               refine rB g14 ?_ (x := lD [PV.val _] FLawFnReceptions_ty_3)
               refine rB g14 ?_ (x := B_eql)
               refine rB g13 ?_ (x := pkF g14)
               refine rA ?_ (x := pkT g13)
               refine rA ?_ (x := sA)
               refine sw_ret ?_
               exact (And.intro (by refine bool_eq ?_; first | rfl | (simp; omega)) True.intro)
             ·exact absurd g13 (by simp; omega)
            ·exact absurd g12 (by simp; omega)
           ·exact absurd g11 (by simp; omega)
end Go.Proofs.Ytdoabhihpclliaa
