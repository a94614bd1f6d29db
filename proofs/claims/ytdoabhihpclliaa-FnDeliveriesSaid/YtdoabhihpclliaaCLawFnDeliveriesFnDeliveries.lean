/- What functions of the program compute. No condition. -/
import Derived.Test.YtdoabhihpclliaaCBigFnDeliveries
import Derived.Test.YtdoabhihpclliaaCEqPFnDeliveries
import Derived.Test.YtdoabhihpclliaaCDelAllFnDeliveries
import Derived.Test.YtdoabhihpclliaaCDy
import Derived.KernelRfl
set_option linter.unusedVariables false
set_option linter.unusedSimpArgs false
namespace Go.Proofs.Ytdoabhihpclliaa
open Go Go.RowKit M
set_option maxRecDepth 10000
attribute [local irreducible] PV.Lcl PV.LclR RV.Lcl
attribute [local irreducible] belowC byteC
theorem FLawFnDeliveries_c_13 : callI Try.prog 13 = true := by kernel_rfl
theorem FLawFnDeliveries_c_14 : callI Try.prog 14 = true := by kernel_rfl
theorem FLawFnDeliveries_c_15 : callI Try.prog 15 = true := by kernel_rfl
theorem FLawFnDeliveries_c_16 : callI Try.prog 16 = true := by kernel_rfl
theorem FLawFnDeliveries_c_17 : callI Try.prog 17 = true := by kernel_rfl
theorem FLawFnDeliveries_c_18 : callI Try.prog 18 = true := by kernel_rfl
theorem FLawFnDeliveries_c_5 : callI Try.prog 5 = true := by kernel_rfl
theorem FLawFnDeliveries_c_9 : callI Try.prog 9 = true := by kernel_rfl
theorem FLawFnDeliveries_fd_26_0 : fieldI Try.prog 26 0 = some 0 := by kernel_rfl
theorem FLawFnDeliveries_fd_26_1 : fieldI Try.prog 26 1 = some 1 := by kernel_rfl
theorem FLawFnDeliveries_fd_36_1 : fieldI Try.prog 36 1 = some 1 := by kernel_rfl
theorem FLawFnDeliveries_fd_36_2 : fieldI Try.prog 36 2 = some 2 := by kernel_rfl
theorem FLawFnDeliveries_sl_24 : sliceI Try.prog 24 = some (29, 2, 32) := by kernel_rfl
theorem FLawFnDeliveries_ty_22 : tyI Try.prog 22 = some (false, 1) := by kernel_rfl
theorem FLawFnDeliveries_ty_24 : tyI Try.prog 24 = some (false, 1) := by kernel_rfl
theorem FLawFnDeliveries_ty_26 : tyI Try.prog 26 = some (true, 2) := by kernel_rfl
theorem FLawFnDeliveries_ty_3 : tyI Try.prog 3 = some (false, 1) := by kernel_rfl
theorem FLawFnDeliveries_ty_36 : tyI Try.prog 36 = some (true, 3) := by kernel_rfl
theorem FLawFnDeliveries_z_26 : zeroI Try.prog 26 = some (.agg #[.int .i64 0, .slice none 0 0]) := by kernel_rfl
theorem FLawFnDeliveries_z_29 : zeroI Try.prog 29 = some (.agg #[.int .i64 0, .slice none 0 0]) := by kernel_rfl
theorem FLawFnDeliveries_z_36 : zeroI Try.prog 36 = some (.agg #[.slice none 0 0, .int .i64 0, .int .i64 0]) := by kernel_rfl
theorem FLawFnDeliveries_zo_26 {Fz : FzT} {w : World} : OwnL [PV.val (.int .i64 0), PV.sl (.own 29 2) []] Fz w (Value.cells (.agg #[.int .i64 0, .slice none 0 0])).toList [] := zo_val rfl (zo_sl (zo_nil))
theorem FLawFnDeliveries_zo_36 {Fz : FzT} {w : World} : OwnL [PV.sl (.own 29 2) [], PV.val (.int .i64 0), PV.val (.int .i64 0)] Fz w (Value.cells (.agg #[.slice none 0 0, .int .i64 0, .int .i64 0])).toList [] := zo_sl (zo_val rfl (zo_val rfl (zo_nil)))
theorem law_FnDeliveries {code : List Int}  : SCall Try.prog 4 [(false, [PV.sl .v (code.map cU8)])] (resRV [(false, [PV.val (.bool true)])]) := by
 refine scall_of (rs := [(false, [PV.val (.bool true)])]) Try.func4 rfl (Nat.le_of_ble_eq_true rfl) (borA_cons (BorL.cons (PV.bor_sl _) BorL.nil) borA_nil) ?_
 intro h0 w0 Fz0
 refine sw_len (s := 0) rfl fun hl0 => ?_
 try rw [List.length_map] at hl0
 refine sw_seq ?_
 refine sw_reg ?_
 refine rA ?_ (x := kA)
 refine sw_seq ?_
 refine sw_seq ?_
 refine sO [(0, _), (2, _)] [] ?_
 refine sw_reg ?_
 refine rA ?_ (x := vM false [PV.sl .v _])
 refine rA ?_ (x := cL [(false, [PV.sl _ _])] [(false, [PV.sl .v _])] FLawFnDeliveries_c_5 (hs := by exact laws_big))
 refine sw_cond (t := 13) rfl (fun hb1 => ?_) (fun hb1 => ?_)
 ·try simp only [q1, q2, q3, q4, q5, q6, q7, q8, q9] at hb1
  refine sw_seq ?_
  refine sO [(0, _), (2, _)] [] ?_
  refine sw_reg ?_
  refine rA ?_ (x := kA)
  refine sw_ret ?_
  exact (And.intro (by exact rfl) True.intro)
 ·try simp only [q1, q2, q3, q4, q5, q6, q7, q8, q9] at hb1
  have hbig : code.length ≤ 1048576 := by have hh := hb1; simp at hh; omega
  have hb : code.length ≤ 9223372036854775807 := by omega
  have hb2 : code.length ≤ 4611686018427387904 := by omega
  have haw := anyRowsC_wt (curNew code hb)
  have e1 : (drDeliver code hb).1 = (anyRowsC (curNew code hb)).1 := rfl
  rw [← e1] at haw
  have hRl : ((drDeliver code hb).1).length ≤ wtRowS (drDeliver code hb).1 := Nat.le_add_right _ _
  have hnw := newBox_wt (drDeliver code hb).1
  have hdw := deliverAll_wt (rows := (drDeliver code hb).1) (fates := (drDeliver code hb).2) (by omega)
  refine sw_skip ?_
  refine sw_seq ?_
  refine sO [(0, _), (2, _)] [] ?_
  refine sw_reg ?_
  refine rA ?_ (x := vM false [PV.sl .v _])
  refine rA ?_ (x := cL [(false, [PV.sl _ _])] [(false, [PV.sl .v _])] FLawFnDeliveries_c_13 (hs := by exact (spec_DrawDeliverAll (by omega) (by omega))))
  refine rA ?_ (x := tM)
  refine rA ?_ (x := loc_extract (cs := [PV.sl _ _]) (qs := [PV.sl .v _]) (by decide) (by exact rfl) (by exact (ToL.cons PV.to_none ToL.nil)) (by exact (BorL.cons (PV.bor_sl _) BorL.nil)))
  refine rA ?_ (x := loc_extract (cs := [PV.sl _ _]) (qs := [PV.sl .v _]) (by decide) (by exact rfl) (by exact (ToL.cons PV.to_none ToL.nil)) (by exact (BorL.cons (PV.bor_sl _) BorL.nil)))
  refine rA ?_ (x := tA)
  refine rA ?_ (x := tA)
  refine sw_seq ?_
  refine sO [(0, _), (2, _), (3, _), (4, _)] [] ?_
  refine sw_reg ?_
  refine rA ?_ (x := vM false [PV.sl .v _])
  refine rA ?_ (x := vM false [PV.sl .v _])
  refine rA ?_ (x := cL [(false, [PV.sl _ _]), (false, [PV.sl _ _])] [(false, [PV.sl .v _]), (false, [PV.sl .v _])] FLawFnDeliveries_c_14 (hs := by exact impl_DeliverAll (by omega)))
  refine rA ?_ (x := tM)
  refine rA ?_ (x := loc_extract (cs := [PV.sl _ _, PV.val _, PV.val _]) (qs := [PV.sl .v _, PV.val _, PV.val _]) (by decide) (by exact rfl) (by exact (ToL.cons PV.to_none (ToL.cons (PV.To.refl _) (ToL.cons (PV.To.refl _) ToL.nil)))) (by exact (BorL.cons (PV.bor_sl _) (BorL.cons (PV.bor_val _) (BorL.cons (PV.bor_val _) BorL.nil)))))
  refine rA ?_ (x := loc_extract (cs := [PV.val _, PV.sl _ _]) (qs := [PV.val _, PV.sl .v _]) (by decide) (by exact rfl) (by exact (ToL.cons (PV.To.refl _) (ToL.cons PV.to_none ToL.nil))) (by exact (BorL.cons (PV.bor_val _) (BorL.cons (PV.bor_sl _) BorL.nil))))
  refine RunS.step (by exact ⟨⟩) (by exact ⟨⟩) (LocG.of rfl (loc_alloc (by decide) FLawFnDeliveries_z_36 FLawFnDeliveries_zo_36)) (free1 (Free.app (Free.app (Free.app (Free.app (Free.app (Free.app (Free.of_ rfl) rfl) rfl) rfl) rfl) rfl) rfl)) ?_
  refine RunS.step (by exact ⟨⟩) (by exact ⟨⟩) (LocG.of rfl (loc_alloc (by decide) FLawFnDeliveries_z_26 FLawFnDeliveries_zo_26)) (free1 (Free.app (Free.app (Free.app (Free.app (Free.app (Free.app (Free.app (Free.of_ rfl) rfl) rfl) rfl) rfl) rfl) rfl) rfl)) ?_
  refine rA ?_ (x := loc_store (ag := true) (vs := [PV.sl _ _, PV.val _, PV.val _]) FLawFnDeliveries_ty_36 (by exact ⟨⟩) (by exact rfl) (by exact Nat.le_of_ble_eq_true rfl))
  refine rA ?_ (x := loc_store (ag := true) (vs := [PV.val _, PV.sl _ _]) FLawFnDeliveries_ty_26 (by exact ⟨⟩) (by exact rfl) (by exact Nat.le_of_ble_eq_true rfl))
  refine sw_seq ?_
  refine sO [(0, _), (2, _), (3, _), (4, _), (5, _), (6, _)] [(5, (36, [PV.sl _ _, PV.val _, PV.val _])), (6, (26, [PV.val _, PV.sl _ _]))] ?_
  refine sw_reg ?_
  refine rA ?_ (x := vM false [PV.sl .v _])
  refine rA ?_ (x := vM false [PV.sl .v _])
  refine rA ?_ (x := cL [(false, [PV.sl _ _]), (false, [PV.sl _ _])] [(false, [PV.sl .v _]), (false, [PV.sl .v _])] FLawFnDeliveries_c_15 (hs := by exact spec_DeliverAll (by omega)))
  refine rA ?_ (x := tM)
  refine rA ?_ (x := loc_extract (cs := [PV.sl _ _, PV.val _, PV.val _]) (qs := [PV.sl .v _, PV.val _, PV.val _]) (by decide) (by exact rfl) (by exact (ToL.cons PV.to_none (ToL.cons (PV.To.refl _) (ToL.cons (PV.To.refl _) ToL.nil)))) (by exact (BorL.cons (PV.bor_sl _) (BorL.cons (PV.bor_val _) (BorL.cons (PV.bor_val _) BorL.nil)))))
  refine rA ?_ (x := loc_extract (cs := [PV.val _, PV.sl _ _]) (qs := [PV.val _, PV.sl .v _]) (by decide) (by exact rfl) (by exact (ToL.cons (PV.To.refl _) (ToL.cons PV.to_none ToL.nil))) (by exact (BorL.cons (PV.bor_val _) (BorL.cons (PV.bor_sl _) BorL.nil))))
  refine RunS.step (by exact ⟨⟩) (by exact ⟨⟩) (LocG.of rfl (loc_alloc (by decide) FLawFnDeliveries_z_36 FLawFnDeliveries_zo_36)) (free1 (Free.app (Free.app (Free.app (Free.app (Free.app (Free.app (Free.of_ rfl) rfl) rfl) rfl) rfl) rfl) rfl)) ?_
  refine RunS.step (by exact ⟨⟩) (by exact ⟨⟩) (LocG.of rfl (loc_alloc (by decide) FLawFnDeliveries_z_26 FLawFnDeliveries_zo_26)) (free1 (Free.app (Free.app (Free.app (Free.app (Free.app (Free.app (Free.app (Free.of_ rfl) rfl) rfl) rfl) rfl) rfl) rfl) rfl)) ?_
  refine rA ?_ (x := loc_store (ag := true) (vs := [PV.sl _ _, PV.val _, PV.val _]) FLawFnDeliveries_ty_36 (by exact ⟨⟩) (by exact rfl) (by exact Nat.le_of_ble_eq_true rfl))
  refine rA ?_ (x := loc_store (ag := true) (vs := [PV.val _, PV.sl _ _]) FLawFnDeliveries_ty_26 (by exact ⟨⟩) (by exact rfl) (by exact Nat.le_of_ble_eq_true rfl))
  refine sw_seq ?_
  refine sw_seq ?_
  refine sO [(0, _), (2, _), (3, _), (4, _), (5, _), (6, _), (7, _), (8, _)] [(5, _), (6, _), (7, (36, [PV.sl _ _, PV.val _, PV.val _])), (8, (26, [PV.val _, PV.sl _ _]))] ?_
  refine sw_reg ?_
  refine rA ?_ (x := lF FLawFnDeliveries_fd_26_1)
  refine rA ?_ (x := lD [PV.sl .v _] FLawFnDeliveries_ty_24)
  refine rA ?_ (x := lF FLawFnDeliveries_fd_26_1)
  refine rA ?_ (x := lD [PV.sl .v _] FLawFnDeliveries_ty_24)
  refine rA ?_ (x := cL [(false, [PV.sl _ _]), (false, [PV.sl _ _])] [(false, [PV.sl .v _]), (false, [PV.sl .v _])] FLawFnDeliveries_c_9 (hs := by exact spec_EqualRows))
  refine rA ?_ (x := nT)
  refine rA ?_ (x := sM)
  refine RunS.cases (s := 37) rfl (fun g2 => ?_) (fun g2 => ?_)
  ·exact absurd g2 (by simp [deq_self]; try omega)
  ·have sg2 := g2
   try simp only [q1, q2, q3, q4, q5, q6, q7, q8, q9] at sg2
   refine rB g2 ?_ (x := lF FLawFnDeliveries_fd_26_0)
   refine rB g2 ?_ (x := lD [PV.val _] FLawFnDeliveries_ty_3)
   refine rB g2 ?_ (x := lF FLawFnDeliveries_fd_26_0)
   refine rB g2 ?_ (x := lD [PV.val _] FLawFnDeliveries_ty_3)
   refine rB g2 ?_ (x := B_neq)
   refine rA ?_ (x := pkF g2)
   refine rA ?_ (x := sM)
   refine RunS.cases (s := 44) rfl (fun g3 => ?_) (fun g3 => ?_)
   ·exact absurd g3 (by simp [deq_self]; try omega)
   ·have sg3 := g3
    try simp only [q1, q2, q3, q4, q5, q6, q7, q8, q9] at sg3
    refine rB g3 ?_ (x := lF FLawFnDeliveries_fd_36_1)
    refine rB g3 ?_ (x := lD [PV.val _] FLawFnDeliveries_ty_3)
    refine rB g3 ?_ (x := lF FLawFnDeliveries_fd_36_1)
    refine rB g3 ?_ (x := lD [PV.val _] FLawFnDeliveries_ty_3)
    refine rB g3 ?_ (x := B_neq)
    refine rA ?_ (x := pkF g3)
    refine rA ?_ (x := sM)
    refine RunS.cases (s := 51) rfl (fun g4 => ?_) (fun g4 => ?_)
    ·exact absurd g4 (by simp [deq_self]; try omega)
    ·have sg4 := g4
     try simp only [q1, q2, q3, q4, q5, q6, q7, q8, q9] at sg4
     refine rB g4 ?_ (x := lF FLawFnDeliveries_fd_36_2)
     refine rB g4 ?_ (x := lD [PV.val _] FLawFnDeliveries_ty_3)
     refine rB g4 ?_ (x := lF FLawFnDeliveries_fd_36_2)
     refine rB g4 ?_ (x := lD [PV.val _] FLawFnDeliveries_ty_3)
     refine rB g4 ?_ (x := B_neq)
     refine rA ?_ (x := pkF g4)
     refine sw_cond (t := 57) rfl (fun hb5 => ?_) (fun hb5 => ?_)
     ·try simp only [q1, q2, q3, q4, q5, q6, q7, q8, q9] at hb5
      exact absurd hb5 (by simp [deq_self]; try omega)
     ·try simp only [q1, q2, q3, q4, q5, q6, q7, q8, q9] at hb5
      refine sw_skip ?_
      refine sw_seq ?_
      refine sO [(0, _), (2, _), (3, _), (4, _), (5, _), (6, _), (7, _), (8, _)] [(5, _), (6, _), (7, _), (8, _)] ?_
      refine sw_reg ?_
      refine rA ?_ (x := vM false [PV.sl .v _])
      refine rA ?_ (x := cL [(false, [PV.sl _ _])] [(false, [PV.sl .v _])] FLawFnDeliveries_c_16 (hs := by exact impl_NewOutbox (by omega)))
      refine rA ?_ (x := tM)
      refine rA ?_ (x := loc_extract (cs := [PV.sl _ _, PV.val _, PV.val _]) (qs := [PV.sl .v _, PV.val _, PV.val _]) (by decide) (by exact rfl) (by exact (ToL.cons PV.to_none (ToL.cons (PV.To.refl _) (ToL.cons (PV.To.refl _) ToL.nil)))) (by exact (BorL.cons (PV.bor_sl _) (BorL.cons (PV.bor_val _) (BorL.cons (PV.bor_val _) BorL.nil)))))
      refine rA ?_ (x := loc_extractb (cs := [PV.val _]) (by decide) (by exact rfl) (by exact (BorL.cons (PV.bor_val _) BorL.nil)))
      refine RunS.step (by exact ⟨⟩) (by exact ⟨⟩) (LocG.of rfl (loc_alloc (by decide) FLawFnDeliveries_z_36 FLawFnDeliveries_zo_36)) (free1 (Free.app (Free.app (Free.app (Free.app (Free.app (Free.of_ rfl) rfl) rfl) rfl) rfl) rfl)) ?_
      refine rA ?_ (x := loc_store (ag := true) (vs := [PV.sl _ _, PV.val _, PV.val _]) FLawFnDeliveries_ty_36 (by exact ⟨⟩) (by exact rfl) (by exact Nat.le_of_ble_eq_true rfl))
      refine rA ?_ (x := sA)
      refine sw_seq ?_
      refine sw_seq ?_
      refine sO [(0, _), (2, _), (3, _), (4, _), (5, _), (6, _), (7, _), (8, _), (9, _), (10, _)] [(5, _), (6, _), (7, _), (8, _), (9, (36, [PV.sl _ _, PV.val _, PV.val _]))] ?_
      refine sw_reg ?_
      refine rA ?_ (x := sM)
      refine rA ?_ (x := sM)
      refine RunS.cases (s := 64) rfl (fun g6 => ?_) (fun g6 => ?_)
      ·obtain ⟨f1, f2, f3, f4, f5⟩ := deliver_fin (fates := (drDeliver code hb).2) (rows := (drDeliver code hb).1) (by simpa using g6)
       have sg6 := g6
       try simp only [q1, q2, q3, q4, q5, q6, q7, q8, q9] at sg6
       refine rB g6 ?_ (x := lF FLawFnDeliveries_fd_26_1)
       refine rB g6 ?_ (x := lD [PV.sl .v _] FLawFnDeliveries_ty_24)
       refine rB g6 ?_ (x := vM false [PV.sl .v _])
       refine rB g6 ?_ (x := cL [(false, [PV.sl _ _]), (false, [PV.sl _ _])] [(false, [PV.sl .v _]), (false, [PV.sl .v _])] FLawFnDeliveries_c_9 (hs := by exact spec_EqualRows))
       refine rB g6 ?_ (x := nT)
       refine rB g6 ?_ (x := sM)
       refine RunS.cases (s := 70) rfl (fun g7 => ?_) (fun g7 => ?_)
       ·exact absurd g7 (by simp [f1, f2, f3, f5, deq_self]; try omega)
       ·have sg7 := g7
        try simp only [q1, q2, q3, q4, q5, q6, q7, q8, q9] at sg7
        refine rB g7 ?_ (x := lF FLawFnDeliveries_fd_36_1)
        refine rB g7 ?_ (x := lD [PV.val _] FLawFnDeliveries_ty_3)
        refine rB g7 ?_ (x := vM false [PV.sl .v _])
        refine rB g7 ?_ (x := lN FLawFnDeliveries_sl_24)
        refine rB g7 ?_ (x := B_neq)
        refine rB g6 ?_ (x := pkF g7)
        refine rB g6 ?_ (x := sM)
        refine RunS.cases (s := 77) rfl (fun g8 => ?_) (fun g8 => ?_)
        ·exact absurd g8 (by simp [f1, f2, f3, f5, deq_self]; try omega)
        ·have sg8 := g8
         try simp only [q1, q2, q3, q4, q5, q6, q7, q8, q9] at sg8
         refine rB g8 ?_ (x := lF FLawFnDeliveries_fd_26_0)
         refine rB g8 ?_ (x := lD [PV.val _] FLawFnDeliveries_ty_3)
         refine rB g8 ?_ (x := vM false [PV.sl .v _])
         refine rB g8 ?_ (x := lN FLawFnDeliveries_sl_24)
         refine rB g8 ?_ (x := B_neq)
         refine rB g6 ?_ (x := pkF g8)
         refine rB g6 ?_ (x := sM)
         refine RunS.cases (s := 84) rfl (fun g9 => ?_) (fun g9 => ?_)
         ·exact absurd g9 (by simp [f1, f2, f3, f5, deq_self]; try omega)
         ·have sg9 := g9
          try simp only [q1, q2, q3, q4, q5, q6, q7, q8, q9] at sg9
          refine rB g9 ?_ (x := lF FLawFnDeliveries_fd_36_2)
          refine rB g9 ?_ (x := lD [PV.val _] FLawFnDeliveries_ty_3)
          refine rB g9 ?_ (x := vM false [PV.sl .v _])
          refine rB g9 ?_ (x := lN FLawFnDeliveries_sl_24)
          refine rB g9 ?_ (x := B_lss)
          refine rB g6 ?_ (x := pkF g9)
          refine rB g6 ?_ (x := sM)
          refine RunS.cases (s := 91) rfl (fun g10 => ?_) (fun g10 => ?_)
          ·exact absurd g10 (by simp [f1, f2, f3, f5, deq_self]; try omega)
          ·have sg10 := g10
           try simp only [q1, q2, q3, q4, q5, q6, q7, q8, q9] at sg10
           refine rB g10 ?_ (x := lD [PV.sl .v _, PV.val _, PV.val _] FLawFnDeliveries_ty_36)
           refine rB g10 ?_ (x := cL [(true, [PV.sl _ _, PV.val _, PV.val _])] [(true, [PV.sl .v _, PV.val _, PV.val _])] FLawFnDeliveries_c_17 (hs := by exact impl_IsOutbox))
           refine rB g10 ?_ (x := nT)
           refine rB g6 ?_ (x := pkF g10)
           refine rA ?_ (x := pkT g6)
           refine sw_cond (t := 96) rfl (fun hb11 => ?_) (fun hb11 => ?_)
           ·try simp only [q1, q2, q3, q4, q5, q6, q7, q8, q9] at hb11
            exact absurd hb11 (by simp [f1, f2, f3, f5, deq_self]; try omega)
           ·try simp only [q1, q2, q3, q4, q5, q6, q7, q8, q9] at hb11
            refine sw_skip ?_
            refine sw_seq ?_
            refine sw_seq ?_
            refine sO [(0, _), (2, _), (3, _), (4, _), (5, _), (6, _), (7, _), (8, _), (9, _), (10, _)] [(5, _), (6, _), (7, _), (8, _), (9, _)] ?_
            refine sw_reg ?_
            refine rA ?_ (x := kA)
            refine sw_block ?_
            refine sO [(0, _), (2, _), (3, _), (4, _), (5, _), (6, _), (7, _), (8, _), (9, _), (10, _), (11, _)] [(5, _), (6, _), (7, _), (8, _), (9, _)] ?_
            refine sw_weak (s := 3) [PV.sl .v (List.map (cRow .v) (drDeliver code hb).1)] (by exact rfl) (by exact (ToL.cons (PV.to_map (fun _ => (ToL.cons (PV.To.refl _) (ToL.cons (PV.to_map (fun _ => (ToL.cons (PV.To.refl _) ToL.nil))) ToL.nil)))) ToL.nil)) (by exact (BorL.cons (PV.bor_sl _) BorL.nil)) ?_
            refine sO [(0, _), (2, _), (3, _), (4, _), (5, _), (6, _), (7, _), (8, _), (9, _), (10, _), (11, _)] [(5, _), (6, _), (7, _), (8, _), (9, _)] ?_
            refine sw_loop (l0 := [(0, RV.sv false [PV.sl _ _]), (3, RV.sv false [PV.sl _ _]), (4, RV.sv false [PV.sl _ _]), (5, RV.ptr 5 0), (6, RV.ptr 6 0), (7, RV.ptr 7 0), (8, RV.ptr 8 0), (9, RV.ptr 9 0), (10, RV.sv false [PV.val _])]) (b0 := [(5, (36, [PV.sl _ _, PV.val _, PV.val _])), (6, (26, [PV.val _, PV.sl _ _])), (7, (36, [PV.sl _ _, PV.val _, PV.val _])), (8, (26, [PV.val _, PV.sl _ _])), (9, (36, [PV.sl _ _, PV.val _, PV.val _]))]) (fun k : Nat => k ≤ ((drDeliver code hb).1).length + 1) (fun k : Nat => [(11, RV.int (k : Int))]) (fun k : Nat => []) (fun k : Nat => ((drDeliver code hb).1).length + 1 - k) 0 (by omega) (by exact ⟨rfl, rfl, rfl, rfl, rfl, rfl, rfl, rfl, rfl, ⟨⟩⟩) (by exact ⟨rfl, rfl, rfl, rfl, rfl, ⟨⟩⟩) (by exact And.intro (by exact rfl) (True.intro)) (by exact ⟨⟩) ?_
            rintro k hk
            refine sw_seq ?_
            refine sw_seq ?_
            refine sw_reg ?_
            refine rA ?_ (x := sM)
            refine rA ?_ (x := vM false [PV.sl .v _])
            refine rA ?_ (x := lN FLawFnDeliveries_sl_24)
            refine rA ?_ (x := B_leq)
            refine rA ?_ (x := sM)
            refine RunS.cases (s := 101) rfl (fun g12 => ?_) (fun g12 => ?_)
            ·have sg12 := g12
             try simp only [q1, q2, q3, q4, q5, q6, q7, q8, q9] at sg12
             refine rB g12 ?_ (x := sM)
             refine rA ?_ (x := pkT g12)
             refine sw_cond (t := 103) rfl (fun hb13 => ?_) (fun hb13 => ?_)
             ·try simp only [q1, q2, q3, q4, q5, q6, q7, q8, q9] at hb13
              have hfi : (newBox (drDeliver code hb).1).2 = true := by first | assumption | simpa using hb13
              have hlt : k ≤ ((drDeliver code hb).1).length := by omega
              have hrs := resume_new hfi hlt
              have htl : (List.take k (drDeliver code hb).1).length ≤ ((drDeliver code hb).1).length := by rw [List.length_take]; omega
              have hrl : (resume (newBox (drDeliver code hb).1).1 (k : Int)).length ≤ ((drDeliver code hb).1).length := by rw [hrs, List.length_drop]; omega
              refine sw_skip ?_
              refine sw_seq ?_
              refine sw_block ?_
              refine sw_seq ?_
              refine sO [(0, _), (3, _), (4, _), (5, _), (6, _), (7, _), (8, _), (9, _), (10, _), (11, _)] [(5, (36, [PV.sl _ _, PV.val _, PV.val _])), (6, (26, [PV.val _, PV.sl _ _])), (7, (36, [PV.sl _ _, PV.val _, PV.val _])), (8, (26, [PV.val _, PV.sl _ _])), (9, (36, [PV.sl _ _, PV.val _, PV.val _]))] ?_
              refine sw_draw hm_ ?_
              refine dA 0 ?_ (x := loc_bslice (qs := []) (by decide) FLawFnDeliveries_sl_24 FLawFnDeliveries_z_29 (by decide) rfl rfl rfl rfl rfl (by exact Nat.le_of_ble_eq_true rfl) (by exact ⟨⟩) rfl)
              refine dA 0 ?_ (x := vM false [PV.sl .v _])
              refine dA 0 ?_ (x := sM)
              refine dA 6 ?_ (x := loc_sliceM (i := 0) (j := k) (ys := (List.take k (drDeliver code hb).1)) (q := (0 : Int)) (by decide) FLawFnDeliveries_sl_24 (by exact rfl) (by exact ⟨⟩) (by omega) (by omega) (by omega) (by omega) (fun _ => rfl) (by simp))
              refine dA 15 ?_ (x := loc_appendb (by decide) FLawFnDeliveries_sl_24 FLawFnDeliveries_z_29 rfl rfl (by decide) (by first | (intro cs hcs; obtain ⟨x, _, rfl⟩ := List.mem_map.1 hcs; exact rfl) | simp) (by first | (intro cs hcs; obtain ⟨x, _, rfl⟩ := List.mem_map.1 hcs; exact (BorL.cons (PV.bor_val _) (BorL.cons (PV.bor_sl _) BorL.nil))) | simp) (by simp only [List.length_map, List.length_append, List.length_cons, List.length_nil]; omega) (by simp only [List.length_map, List.length_append, List.length_cons, List.length_nil]; omega))
              refine dA 0 ?_ (x := lD [PV.sl .v _, PV.val _, PV.val _] FLawFnDeliveries_ty_36)
              refine dA 0 ?_ (x := sM)
              refine dA 127 ?_ (x := cL [(true, [PV.sl _ _, PV.val _, PV.val _]), (false, [PV.val _])] [(true, [PV.sl .v _, PV.val _, PV.val _]), (false, [PV.val _])] FLawFnDeliveries_c_18 (hs := by exact (SCall.view (ag := false) (ToL.cons (PV.to_map (fun _ => (ToL.cons (PV.To.refl _) (ToL.cons (PV.to_map (fun _ => (ToL.cons (PV.To.refl _) ToL.nil))) ToL.nil)))) ToL.nil) (BorL.cons (PV.bor_sl _) BorL.nil) (impl_ResumeFrom (by omega)))))
              refine dA 255 ?_ (x := loc_appendb (by decide) FLawFnDeliveries_sl_24 FLawFnDeliveries_z_29 rfl rfl (by decide) (by first | (intro cs hcs; obtain ⟨x, _, rfl⟩ := List.mem_map.1 hcs; exact rfl) | simp) (by first | (intro cs hcs; obtain ⟨x, _, rfl⟩ := List.mem_map.1 hcs; exact (BorL.cons (PV.bor_val _) (BorL.cons (PV.bor_sl _) BorL.nil))) | simp) (by simp only [List.length_map, List.length_append, List.length_cons, List.length_nil]; omega) (by simp only [List.length_map, List.length_append, List.length_cons, List.length_nil]; omega))
              refine dA 0 ?_ (x := vM false [PV.sl .v _])
              refine dA 1023 ?_ (x := loc_call (qs := [(false, [PV.sl _ _]), (false, [PV.sl _ _])]) (as_ := [(false, [PV.sl .v _]), (false, [PV.sl .v _])]) (by decide) FLawFnDeliveries_c_9 (by exact (And.intro (by exact ⟨⟩) (And.intro (by exact ⟨⟩) True.intro))) (by exact (And.intro (And.intro rfl (ToL.cons (PV.to_eqv (by show List.map (cRow .v) (List.take k (drDeliver code hb).1) ++ List.map (cRow .v) (resume _ _) = _; rw [hrs, ← List.map_append, List.take_append_drop])) ToL.nil)) (And.intro (And.intro rfl (ToL.cons PV.to_none ToL.nil)) True.intro))) (by exact (spec_EqualRows (x := (drDeliver code hb).1) (y := (drDeliver code hb).1))))
              refine dA 2047 ?_ (x := nT)
              refine sw_cond (t := 117) rfl (fun hb14 => ?_) (fun hb14 => ?_)
              ·try simp only [q1, q2, q3, q4, q5, q6, q7, q8, q9] at hb14
               exact absurd hb14 (by simp [deq_self]; try omega)
              ·try simp only [q1, q2, q3, q4, q5, q6, q7, q8, q9] at hb14
               refine sw_skip ?_
               refine sO [(0, _), (3, _), (4, _), (5, _), (6, _), (7, _), (8, _), (9, _), (10, _), (11, _)] [(5, _), (6, _), (7, _), (8, _), (9, _)] ?_
               refine sw_reg ?_
               refine rA ?_ (x := sM)
               refine rA ?_ (x := B_add)
               refine rA ?_ (x := sA)
               refine Exists.intro (k + 1) (And.intro (by omega) (And.intro (by omega) (And.intro (And.intro (by exact ⟨rfl, rfl, rfl, rfl, rfl, rfl, rfl, rfl, rfl, ⟨⟩⟩) (by exact ⟨rfl, rfl, rfl, rfl, rfl, ⟨⟩⟩)) (And.intro (by exact And.intro (by exact int_eq (by omega)) (True.intro)) (by exact ⟨⟩)))))
             ·try simp only [q1, q2, q3, q4, q5, q6, q7, q8, q9] at hb13
              refine sw_exit ?_
              refine sw_seq ?_
              refine sO [(0, _), (3, _), (4, _), (5, _), (6, _), (7, _), (8, _), (9, _), (10, _), (11, _)] [(5, (36, [PV.sl _ _, PV.val _, PV.val _])), (6, (26, [PV.val _, PV.sl _ _])), (7, (36, [PV.sl _ _, PV.val _, PV.val _])), (8, (26, [PV.val _, PV.sl _ _])), (9, (36, [PV.sl _ _, PV.val _, PV.val _]))] ?_
              refine sw_reg ?_
              refine rA ?_ (x := kA)
              refine sw_ret ?_
              exact (And.intro (by exact rfl) True.intro)
            ·have sg12 := g12
             try simp only [q1, q2, q3, q4, q5, q6, q7, q8, q9] at sg12
             refine RunS.s0f g12 ?_
             refine rA ?_ (x := pkF g12)
             refine sw_cond (t := 103) rfl (fun hb_ => nomatch hb_) (fun hb_ => ?_)
             refine sw_exit ?_
             refine sw_seq ?_
             refine sO [(0, _), (3, _), (4, _), (5, _), (6, _), (7, _), (8, _), (9, _), (10, _), (11, _)] [(5, (36, [PV.sl _ _, PV.val _, PV.val _])), (6, (26, [PV.val _, PV.sl _ _])), (7, (36, [PV.sl _ _, PV.val _, PV.val _])), (8, (26, [PV.val _, PV.sl _ _])), (9, (36, [PV.sl _ _, PV.val _, PV.val _]))] ?_
             refine sw_reg ?_
             refine rA ?_ (x := kA)
             refine sw_ret ?_
             exact (And.intro (by exact rfl) True.intro)
      ·have sg6 := g6
       try simp only [q1, q2, q3, q4, q5, q6, q7, q8, q9] at sg6
       refine RunS.s0f g6 ?_
       refine RunS.s0f g6 ?_
       refine RunS.s0f g6 ?_
       refine RunS.s0f g6 ?_
       refine RunS.s0f g6 ?_
       refine RunS.s0f g6 ?_
       refine RunS.su ?_
       refine RunS.su ?_
       refine RunS.su ?_
       refine RunS.su ?_
       refine RunS.su ?_
       refine RunS.s0f g6 ?_
       refine RunS.s0f g6 ?_
       refine RunS.su ?_
       refine RunS.su ?_
       refine RunS.su ?_
       refine RunS.su ?_
       refine RunS.su ?_
       refine RunS.s0f g6 ?_
       refine RunS.s0f g6 ?_
       refine RunS.su ?_
       refine RunS.su ?_
       refine RunS.su ?_
       refine RunS.su ?_
       refine RunS.su ?_
       refine RunS.s0f g6 ?_
       refine RunS.s0f g6 ?_
       refine RunS.su ?_
       refine RunS.su ?_
       refine RunS.su ?_
       refine RunS.s0f g6 ?_
       refine rA ?_ (x := pkF g6)
       refine sw_cond (t := 96) rfl (fun hb_ => nomatch hb_) (fun hb_ => ?_)
       refine sw_skip ?_
       refine sw_seq ?_
       refine sw_seq ?_
       refine sO [(0, _), (2, _), (3, _), (4, _), (5, _), (6, _), (7, _), (8, _), (9, _), (10, _)] [(5, _), (6, _), (7, _), (8, _), (9, _)] ?_
       refine sw_reg ?_
       refine rA ?_ (x := kA)
       refine sw_block ?_
       refine sO [(0, _), (2, _), (3, _), (4, _), (5, _), (6, _), (7, _), (8, _), (9, _), (10, _), (11, _)] [(5, _), (6, _), (7, _), (8, _), (9, _)] ?_
       refine sw_weak (s := 3) [PV.sl .v (List.map (cRow .v) (drDeliver code hb).1)] (by exact rfl) (by exact (ToL.cons (PV.to_map (fun _ => (ToL.cons (PV.To.refl _) (ToL.cons (PV.to_map (fun _ => (ToL.cons (PV.To.refl _) ToL.nil))) ToL.nil)))) ToL.nil)) (by exact (BorL.cons (PV.bor_sl _) BorL.nil)) ?_
       refine sO [(0, _), (2, _), (3, _), (4, _), (5, _), (6, _), (7, _), (8, _), (9, _), (10, _), (11, _)] [(5, _), (6, _), (7, _), (8, _), (9, _)] ?_
       refine sw_loop (l0 := [(0, RV.sv false [PV.sl _ _]), (3, RV.sv false [PV.sl _ _]), (4, RV.sv false [PV.sl _ _]), (5, RV.ptr 5 0), (6, RV.ptr 6 0), (7, RV.ptr 7 0), (8, RV.ptr 8 0), (9, RV.ptr 9 0), (10, RV.sv false [PV.val _])]) (b0 := [(5, (36, [PV.sl _ _, PV.val _, PV.val _])), (6, (26, [PV.val _, PV.sl _ _])), (7, (36, [PV.sl _ _, PV.val _, PV.val _])), (8, (26, [PV.val _, PV.sl _ _])), (9, (36, [PV.sl _ _, PV.val _, PV.val _]))]) (fun k : Nat => k ≤ ((drDeliver code hb).1).length + 1) (fun k : Nat => [(11, RV.int (k : Int))]) (fun k : Nat => []) (fun k : Nat => ((drDeliver code hb).1).length + 1 - k) 0 (by omega) (by exact ⟨rfl, rfl, rfl, rfl, rfl, rfl, rfl, rfl, rfl, ⟨⟩⟩) (by exact ⟨rfl, rfl, rfl, rfl, rfl, ⟨⟩⟩) (by exact And.intro (by exact rfl) (True.intro)) (by exact ⟨⟩) ?_
       rintro k hk
       refine sw_seq ?_
       refine sw_seq ?_
       refine sw_reg ?_
       refine rA ?_ (x := sM)
       refine rA ?_ (x := vM false [PV.sl .v _])
       refine rA ?_ (x := lN FLawFnDeliveries_sl_24)
       refine rA ?_ (x := B_leq)
       refine rA ?_ (x := sM)
       refine RunS.cases (s := 101) rfl (fun g17 => ?_) (fun g17 => ?_)
       ·have sg17 := g17
        try simp only [q1, q2, q3, q4, q5, q6, q7, q8, q9] at sg17
        refine rB g17 ?_ (x := sM)
        refine rA ?_ (x := pkT g17)
        refine sw_cond (t := 103) rfl (fun hb18 => ?_) (fun hb18 => ?_)
        ·try simp only [q1, q2, q3, q4, q5, q6, q7, q8, q9] at hb18
         have hfi : (newBox (drDeliver code hb).1).2 = true := by first | assumption | simpa using hb18
         have hlt : k ≤ ((drDeliver code hb).1).length := by omega
         have hrs := resume_new hfi hlt
         have htl : (List.take k (drDeliver code hb).1).length ≤ ((drDeliver code hb).1).length := by rw [List.length_take]; omega
         have hrl : (resume (newBox (drDeliver code hb).1).1 (k : Int)).length ≤ ((drDeliver code hb).1).length := by rw [hrs, List.length_drop]; omega
         refine sw_skip ?_
         refine sw_seq ?_
         refine sw_block ?_
         refine sw_seq ?_
         refine sO [(0, _), (3, _), (4, _), (5, _), (6, _), (7, _), (8, _), (9, _), (10, _), (11, _)] [(5, (36, [PV.sl _ _, PV.val _, PV.val _])), (6, (26, [PV.val _, PV.sl _ _])), (7, (36, [PV.sl _ _, PV.val _, PV.val _])), (8, (26, [PV.val _, PV.sl _ _])), (9, (36, [PV.sl _ _, PV.val _, PV.val _]))] ?_
         refine sw_draw hm_ ?_
         refine dA 0 ?_ (x := loc_bslice (qs := []) (by decide) FLawFnDeliveries_sl_24 FLawFnDeliveries_z_29 (by decide) rfl rfl rfl rfl rfl (by exact Nat.le_of_ble_eq_true rfl) (by exact ⟨⟩) rfl)
         refine dA 0 ?_ (x := vM false [PV.sl .v _])
         refine dA 0 ?_ (x := sM)
         refine dA 6 ?_ (x := loc_sliceM (i := 0) (j := k) (ys := (List.take k (drDeliver code hb).1)) (q := (0 : Int)) (by decide) FLawFnDeliveries_sl_24 (by exact rfl) (by exact ⟨⟩) (by omega) (by omega) (by omega) (by omega) (fun _ => rfl) (by simp))
         refine dA 15 ?_ (x := loc_appendb (by decide) FLawFnDeliveries_sl_24 FLawFnDeliveries_z_29 rfl rfl (by decide) (by first | (intro cs hcs; obtain ⟨x, _, rfl⟩ := List.mem_map.1 hcs; exact rfl) | simp) (by first | (intro cs hcs; obtain ⟨x, _, rfl⟩ := List.mem_map.1 hcs; exact (BorL.cons (PV.bor_val _) (BorL.cons (PV.bor_sl _) BorL.nil))) | simp) (by simp only [List.length_map, List.length_append, List.length_cons, List.length_nil]; omega) (by simp only [List.length_map, List.length_append, List.length_cons, List.length_nil]; omega))
         refine dA 0 ?_ (x := lD [PV.sl .v _, PV.val _, PV.val _] FLawFnDeliveries_ty_36)
         refine dA 0 ?_ (x := sM)
         refine dA 127 ?_ (x := cL [(true, [PV.sl _ _, PV.val _, PV.val _]), (false, [PV.val _])] [(true, [PV.sl .v _, PV.val _, PV.val _]), (false, [PV.val _])] FLawFnDeliveries_c_18 (hs := by exact (SCall.view (ag := false) (ToL.cons (PV.to_map (fun _ => (ToL.cons (PV.To.refl _) (ToL.cons (PV.to_map (fun _ => (ToL.cons (PV.To.refl _) ToL.nil))) ToL.nil)))) ToL.nil) (BorL.cons (PV.bor_sl _) BorL.nil) (impl_ResumeFrom (by omega)))))
         refine dA 255 ?_ (x := loc_appendb (by decide) FLawFnDeliveries_sl_24 FLawFnDeliveries_z_29 rfl rfl (by decide) (by first | (intro cs hcs; obtain ⟨x, _, rfl⟩ := List.mem_map.1 hcs; exact rfl) | simp) (by first | (intro cs hcs; obtain ⟨x, _, rfl⟩ := List.mem_map.1 hcs; exact (BorL.cons (PV.bor_val _) (BorL.cons (PV.bor_sl _) BorL.nil))) | simp) (by simp only [List.length_map, List.length_append, List.length_cons, List.length_nil]; omega) (by simp only [List.length_map, List.length_append, List.length_cons, List.length_nil]; omega))
         refine dA 0 ?_ (x := vM false [PV.sl .v _])
         refine dA 1023 ?_ (x := loc_call (qs := [(false, [PV.sl _ _]), (false, [PV.sl _ _])]) (as_ := [(false, [PV.sl .v _]), (false, [PV.sl .v _])]) (by decide) FLawFnDeliveries_c_9 (by exact (And.intro (by exact ⟨⟩) (And.intro (by exact ⟨⟩) True.intro))) (by exact (And.intro (And.intro rfl (ToL.cons (PV.to_eqv (by show List.map (cRow .v) (List.take k (drDeliver code hb).1) ++ List.map (cRow .v) (resume _ _) = _; rw [hrs, ← List.map_append, List.take_append_drop])) ToL.nil)) (And.intro (And.intro rfl (ToL.cons PV.to_none ToL.nil)) True.intro))) (by exact (spec_EqualRows (x := (drDeliver code hb).1) (y := (drDeliver code hb).1))))
         refine dA 2047 ?_ (x := nT)
         refine sw_cond (t := 117) rfl (fun hb19 => ?_) (fun hb19 => ?_)
         ·try simp only [q1, q2, q3, q4, q5, q6, q7, q8, q9] at hb19
          exact absurd hb19 (by simp [deq_self]; try omega)
         ·try simp only [q1, q2, q3, q4, q5, q6, q7, q8, q9] at hb19
          refine sw_skip ?_
          refine sO [(0, _), (3, _), (4, _), (5, _), (6, _), (7, _), (8, _), (9, _), (10, _), (11, _)] [(5, _), (6, _), (7, _), (8, _), (9, _)] ?_
          refine sw_reg ?_
          refine rA ?_ (x := sM)
          refine rA ?_ (x := B_add)
          refine rA ?_ (x := sA)
          refine Exists.intro (k + 1) (And.intro (by omega) (And.intro (by omega) (And.intro (And.intro (by exact ⟨rfl, rfl, rfl, rfl, rfl, rfl, rfl, rfl, rfl, ⟨⟩⟩) (by exact ⟨rfl, rfl, rfl, rfl, rfl, ⟨⟩⟩)) (And.intro (by exact And.intro (by exact int_eq (by omega)) (True.intro)) (by exact ⟨⟩)))))
        ·try simp only [q1, q2, q3, q4, q5, q6, q7, q8, q9] at hb18
         refine sw_exit ?_
         refine sw_seq ?_
         refine sO [(0, _), (3, _), (4, _), (5, _), (6, _), (7, _), (8, _), (9, _), (10, _), (11, _)] [(5, (36, [PV.sl _ _, PV.val _, PV.val _])), (6, (26, [PV.val _, PV.sl _ _])), (7, (36, [PV.sl _ _, PV.val _, PV.val _])), (8, (26, [PV.val _, PV.sl _ _])), (9, (36, [PV.sl _ _, PV.val _, PV.val _]))] ?_
         refine sw_reg ?_
         refine rA ?_ (x := kA)
         refine sw_ret ?_
         exact (And.intro (by exact rfl) True.intro)
       ·have sg17 := g17
        try simp only [q1, q2, q3, q4, q5, q6, q7, q8, q9] at sg17
        refine RunS.s0f g17 ?_
        refine rA ?_ (x := pkF g17)
        refine sw_cond (t := 103) rfl (fun hb_ => nomatch hb_) (fun hb_ => ?_)
        refine sw_exit ?_
        refine sw_seq ?_
        refine sO [(0, _), (3, _), (4, _), (5, _), (6, _), (7, _), (8, _), (9, _), (10, _), (11, _)] [(5, (36, [PV.sl _ _, PV.val _, PV.val _])), (6, (26, [PV.val _, PV.sl _ _])), (7, (36, [PV.sl _ _, PV.val _, PV.val _])), (8, (26, [PV.val _, PV.sl _ _])), (9, (36, [PV.sl _ _, PV.val _, PV.val _]))] ?_
        refine sw_reg ?_
        refine rA ?_ (x := kA)
        refine sw_ret ?_
        exact (And.intro (by exact rfl) True.intro)
end Go.Proofs.Ytdoabhihpclliaa
