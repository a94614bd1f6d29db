/- What functions of the program compute. No condition. -/
import Derived.Test.YtaomckpfgmhapaaCBigFnTops
import Derived.Test.YtaomckpfgmhapaaCEqRFnTops
import Derived.Test.YtaomckpfgmhapaaCTopBFnTops
import Derived.Test.YtaomckpfgmhapaaCDrtFnTops
import Derived.Test.YtaomckpfgmhapaaCDm
import Derived.KernelRfl
set_option linter.unusedVariables false
set_option linter.unusedSimpArgs false
namespace Go.Proofs.Ytaomckpfgmhapaa
open Go Go.RowKit M
set_option maxRecDepth 10000
attribute [local irreducible] PV.Lcl PV.LclR RV.Lcl
attribute [local irreducible] belowC byteC
theorem FLawFnTops_c_15 : callI Try.prog 15 = true := by kernel_rfl
theorem FLawFnTops_c_16 : callI Try.prog 16 = true := by kernel_rfl
theorem FLawFnTops_c_17 : callI Try.prog 17 = true := by kernel_rfl
theorem FLawFnTops_c_18 : callI Try.prog 18 = true := by kernel_rfl
theorem FLawFnTops_c_19 : callI Try.prog 19 = true := by kernel_rfl
theorem FLawFnTops_c_20 : callI Try.prog 20 = true := by kernel_rfl
theorem FLawFnTops_c_21 : callI Try.prog 21 = true := by kernel_rfl
theorem FLawFnTops_c_22 : callI Try.prog 22 = true := by kernel_rfl
theorem FLawFnTops_c_23 : callI Try.prog 23 = true := by kernel_rfl
theorem FLawFnTops_c_24 : callI Try.prog 24 = true := by kernel_rfl
theorem FLawFnTops_c_25 : callI Try.prog 25 = true := by kernel_rfl
theorem FLawFnTops_c_26 : callI Try.prog 26 = true := by kernel_rfl
theorem FLawFnTops_c_5 : callI Try.prog 5 = true := by kernel_rfl
theorem FLawFnTops_fd_51_0 : fieldI Try.prog 51 0 = some 0 := by kernel_rfl
theorem FLawFnTops_fd_51_1 : fieldI Try.prog 51 1 = some 1 := by kernel_rfl
theorem FLawFnTops_sl_24 : sliceI Try.prog 24 = some (35, 3, 56) := by kernel_rfl
theorem FLawFnTops_sl_39 : sliceI Try.prog 39 = some (33, 2, 32) := by kernel_rfl
theorem FLawFnTops_sl_43 : sliceI Try.prog 43 = some (51, 2, 32) := by kernel_rfl
theorem FLawFnTops_ty_22 : tyI Try.prog 22 = some (false, 1) := by kernel_rfl
theorem FLawFnTops_ty_3 : tyI Try.prog 3 = some (false, 1) := by kernel_rfl
theorem FLawFnTops_ty_39 : tyI Try.prog 39 = some (false, 1) := by kernel_rfl
theorem FLawFnTops_ub_4 : Try.prog.underlying 4 = some .bool := by kernel_rfl
theorem law_FnTops {code : List Int}  : SCall Try.prog 4 [(false, [PV.sl .v (code.map cU8)])] (resRV [(false, [PV.val (.bool true)])]) := by
 refine scall_of (rs := [(false, [PV.val (.bool true)])]) Try.func4 rfl (Nat.le_of_ble_eq_true rfl) (borA_cons (BorL.cons (PV.bor_sl _) BorL.nil) borA_nil) ?_
 intro h0 w0 Fz0
 refine sw_len (s := 0) rfl fun hl0 => ?_
 try rw [List.length_map] at hl0
 refine sw_seq ?_
 refine sw_reg ?_
 refine rA ?_ (x := kA)
 refine sw_seq ?_
 refine sw_seq ?_
 refine sO [(0, _), (2, _)] [] ?_
 refine sw_reg ?_
 refine rA ?_ (x := vM false [PV.sl .v _])
 refine rA ?_ (x := cL [(false, [PV.sl _ _])] [(false, [PV.sl .v _])] FLawFnTops_c_5 (hs := by exact laws_big))
 refine sw_cond (t := 16) rfl (fun hb1 => ?_) (fun hb1 => ?_)
 ·try simp only [q1, q2, q3, q4, q5, q6, q7, q8, q9] at hb1
  refine sw_seq ?_
  refine sO [(0, _), (2, _)] [] ?_
  refine sw_reg ?_
  refine rA ?_ (x := kA)
  refine sw_ret ?_
  exact (And.intro (by exact rfl) True.intro)
 ·try simp only [q1, q2, q3, q4, q5, q6, q7, q8, q9] at hb1
  have hbig : code.length ≤ 1048576 := by have hh := hb1; simp at hh; omega
  have hb : code.length ≤ 9223372036854775807 := by omega
  have hb2 : code.length ≤ 4611686018427387904 := by omega
  have hw1 : wtAnnotatedS (drTop code hb).1 ≤ 320 := any13C_wt (curNew code hb)
  have hla : ((drTop code hb).1).length ≤ wtAnnotatedS (drTop code hb).1 := Nat.le_add_right _ _
  have hil : ((drTop code hb).2.1).length ≤ 7 := anySetC_len _
  have htw := topShared_wt (drTop code hb).1 (drTop code hb).2.1 (drTop code hb).2.2.1 (drTop code hb).2.2.2
  have htl : (topShared (drTop code hb).1 (drTop code hb).2.1 (drTop code hb).2.2.1 (drTop code hb).2.2.2).1.length ≤ wtRoutedS (topShared (drTop code hb).1 (drTop code hb).2.1 (drTop code hb).2.2.1 (drTop code hb).2.2.2).1 := Nat.le_add_right _ _
  have hf := tops_fin (l := (drTop code hb).1) (ids := (drTop code hb).2.1) (f := (drTop code hb).2.2.1) (k := (drTop code hb).2.2.2)
  have hsw := sortF_wt (drTop code hb).1 (drTop code hb).2.2.1
  have hew1 := d15R_wt (curNew code hb)
  refine sw_skip ?_
  refine sw_seq ?_
  refine sO [(0, _), (2, _)] [] ?_
  refine sw_reg ?_
  refine rA ?_ (x := vM false [PV.sl .v _])
  refine rA ?_ (x := cL [(false, [PV.sl _ _])] [(false, [PV.sl .v _])] FLawFnTops_c_16 (hs := by exact (spec_DrawTopShared (by omega) (by omega))))
  refine rA ?_ (x := tM)
  refine rA ?_ (x := loc_extract (cs := [PV.sl _ _]) (qs := [PV.sl .v _]) (by decide) (by exact rfl) (by exact (ToL.cons PV.to_none ToL.nil)) (by exact (BorL.cons (PV.bor_sl _) BorL.nil)))
  refine rA ?_ (x := loc_extract (cs := [PV.sl _ _]) (qs := [PV.sl .v _]) (by decide) (by exact rfl) (by exact (ToL.cons PV.to_none ToL.nil)) (by exact (BorL.cons (PV.bor_sl _) BorL.nil)))
  refine rA ?_ (x := loc_extractb (cs := [PV.val _]) (by decide) (by exact rfl) (by exact (BorL.cons (PV.bor_val _) BorL.nil)))
  refine rA ?_ (x := loc_extractb (cs := [PV.val _]) (by decide) (by exact rfl) (by exact (BorL.cons (PV.bor_val _) BorL.nil)))
  refine rA ?_ (x := tA)
  refine rA ?_ (x := tA)
  refine rA ?_ (x := sA)
  refine rA ?_ (x := sA)
  refine sw_seq ?_
  refine sO [(0, _), (2, _), (3, _), (4, _), (5, _), (6, _)] [] ?_
  refine sw_reg ?_
  refine rA ?_ (x := vM false [PV.sl .v _])
  refine rA ?_ (x := vM false [PV.sl .v _])
  refine rA ?_ (x := sM)
  refine rA ?_ (x := sM)
  refine rA ?_ (x := cL [(false, [PV.sl _ _]), (false, [PV.sl _ _]), (false, [PV.val _]), (false, [PV.val _])] [(false, [PV.sl .v _]), (false, [PV.sl .v _]), (false, [PV.val _]), (false, [PV.val _])] FLawFnTops_c_17 (hs := by exact (impl_TopShared (by omega) (by omega))))
  refine rA ?_ (x := tM)
  refine rA ?_ (x := loc_extract (cs := [PV.sl _ _]) (qs := [PV.sl .v _]) (by decide) (by exact rfl) (by exact (ToL.cons PV.to_none ToL.nil)) (by exact (BorL.cons (PV.bor_sl _) BorL.nil)))
  refine rA ?_ (x := loc_extractb (cs := [PV.val _]) (by decide) (by exact rfl) (by exact (BorL.cons (PV.bor_val _) BorL.nil)))
  refine rA ?_ (x := tA)
  refine rA ?_ (x := sA)
  refine sw_seq ?_
  refine sO [(0, _), (2, _), (3, _), (4, _), (5, _), (6, _), (7, _), (8, _)] [] ?_
  refine sw_reg ?_
  refine rA ?_ (x := vM false [PV.sl .v _])
  refine rA ?_ (x := vM false [PV.sl .v _])
  refine rA ?_ (x := sM)
  refine rA ?_ (x := sM)
  refine rA ?_ (x := cL [(false, [PV.sl _ _]), (false, [PV.sl _ _]), (false, [PV.val _]), (false, [PV.val _])] [(false, [PV.sl .v _]), (false, [PV.sl .v _]), (false, [PV.val _]), (false, [PV.val _])] FLawFnTops_c_18 (hs := by exact (spec_TopShared (by omega) (by omega))))
  refine rA ?_ (x := tM)
  refine rA ?_ (x := loc_extract (cs := [PV.sl _ _]) (qs := [PV.sl .v _]) (by decide) (by exact rfl) (by exact (ToL.cons PV.to_none ToL.nil)) (by exact (BorL.cons (PV.bor_sl _) BorL.nil)))
  refine rA ?_ (x := loc_extractb (cs := [PV.val _]) (by decide) (by exact rfl) (by exact (BorL.cons (PV.bor_val _) BorL.nil)))
  refine rA ?_ (x := tA)
  refine rA ?_ (x := sA)
  refine sw_seq ?_
  refine sw_seq ?_
  refine sO [(0, _), (2, _), (3, _), (4, _), (5, _), (6, _), (7, _), (8, _), (9, _), (10, _)] [] ?_
  refine sw_reg ?_
  refine rA ?_ (x := sM)
  refine rA ?_ (x := sM)
  refine rA ?_ (x := B_neq)
  refine rA ?_ (x := sM)
  refine RunS.cases (s := 43) rfl (fun g2 => ?_) (fun g2 => ?_)
  ·first | exact absurd g2 (by simp [deq_self]) | omega
  ·have sg2 := g2
   try simp only [q1, q2, q3, q4, q5, q6, q7, q8, q9] at sg2
   refine rB g2 ?_ (x := vM false [PV.sl .v _])
   refine rB g2 ?_ (x := vM false [PV.sl .v _])
   refine rB g2 ?_ (x := cL [(false, [PV.sl _ _]), (false, [PV.sl _ _])] [(false, [PV.sl .v _]), (false, [PV.sl .v _])] FLawFnTops_c_19 (hs := by exact spec_EqualRouted))
   refine rB g2 ?_ (x := nT)
   refine rA ?_ (x := pkF g2)
   refine rA ?_ (x := sM)
   refine RunS.cases (s := 49) rfl (fun g3 => ?_) (fun g3 => ?_)
   ·first | exact absurd g3 (by simp [deq_self]) | omega
   ·have sg3 := g3
    try simp only [q1, q2, q3, q4, q5, q6, q7, q8, q9] at sg3
    refine rB g3 ?_ (x := vM false [PV.sl .v _])
    refine rB g3 ?_ (x := sM)
    refine rB g3 ?_ (x := cL [(false, [PV.sl _ _]), (false, [PV.val _])] [(false, [PV.sl .v _]), (false, [PV.val _])] FLawFnTops_c_21 (hs := by exact (impl_SortByField (by omega))))
    refine rB g3 ?_ (x := vM false [PV.sl .v _])
    refine rB g3 ?_ (x := sM)
    refine rB g3 ?_ (x := cL [(false, [PV.sl _ _]), (false, [PV.val _])] [(false, [PV.sl .v _]), (false, [PV.val _])] FLawFnTops_c_22 (hs := by exact (spec_SortByField (by omega))))
    refine rB g3 ?_ (x := cL [(false, [PV.sl _ _]), (false, [PV.sl _ _])] [(false, [PV.sl .v _]), (false, [PV.sl .v _])] FLawFnTops_c_20 (hs := by exact spec_EqualAnnotated))
    refine rB g3 ?_ (x := nT)
    refine rA ?_ (x := pkF g3)
    refine sw_cond (t := 58) rfl (fun hb4 => ?_) (fun hb4 => ?_)
    ·try simp only [q1, q2, q3, q4, q5, q6, q7, q8, q9] at hb4
     first | exact absurd hb4 (by simp [deq_self]) | omega
    ·try simp only [q1, q2, q3, q4, q5, q6, q7, q8, q9] at hb4
     refine sw_skip ?_
     refine sw_seq ?_
     refine sO [(0, _), (2, _), (3, _), (4, _), (5, _), (6, _), (7, _), (8, _), (9, _), (10, _)] [] ?_
     refine sw_reg ?_
     refine rA ?_ (x := kA)
     refine sw_seq ?_
     refine sw_seq ?_
     refine sO [(0, _), (2, _), (3, _), (4, _), (5, _), (6, _), (7, _), (8, _), (9, _), (10, _), (11, _)] [] ?_
     refine sw_reg ?_
     refine rA ?_ (x := kA)
     refine sw_block ?_
     refine sO [(0, _), (2, _), (3, _), (4, _), (5, _), (6, _), (7, _), (8, _), (9, _), (10, _), (11, _), (12, _)] [] ?_
     refine sw_loop (l0 := [(0, RV.sv false [PV.sl _ _]), (3, RV.sv false [PV.sl _ _]), (4, RV.sv false [PV.sl _ _]), (5, RV.sv false [PV.val _]), (6, RV.sv false [PV.val _]), (7, RV.sv false [PV.sl _ _]), (8, RV.sv false [PV.val _]), (9, RV.sv false [PV.sl _ _]), (10, RV.sv false [PV.val _])]) (b0 := []) (fun k : Nat => k ≤ (topShared (drTop code hb).1 (drTop code hb).2.1 (drTop code hb).2.2.1 (drTop code hb).2.2.2).1.length) (fun k : Nat => [(11, RV.bool (List.all (List.take k (topShared (drTop code hb).1 (drTop code hb).2.1 (drTop code hb).2.2.1 (drTop code hb).2.2.2).1) (fun r : Routed => decide ((r.Rows.length : Int) = (drTop code hb).2.2.2)))), (12, RV.int (k : Int))]) (fun k : Nat => []) (fun k : Nat => (topShared (drTop code hb).1 (drTop code hb).2.1 (drTop code hb).2.2.1 (drTop code hb).2.2.2).1.length - k) 0 (by omega) (by exact ⟨rfl, rfl, rfl, rfl, rfl, rfl, rfl, rfl, rfl, ⟨⟩⟩) (by exact ⟨⟩) (by exact And.intro (by exact rfl) (And.intro (by exact rfl) (True.intro))) (by exact ⟨⟩) ?_
     rintro k hk
     refine sw_seq ?_
     refine sw_seq ?_
     refine sw_reg ?_
     refine rA ?_ (x := sM)
     refine rA ?_ (x := vM false [PV.sl .v _])
     refine rA ?_ (x := lN FLawFnTops_sl_43)
     refine rA ?_ (x := B_lss)
     refine sw_cond (t := 62) rfl (fun hb5 => ?_) (fun hb5 => ?_)
     ·try simp only [q1, q2, q3, q4, q5, q6, q7, q8, q9] at hb5
      have hlt : k < (topShared (drTop code hb).1 (drTop code hb).2.1 (drTop code hb).2.2.1 (drTop code hb).2.2.2).1.length := by omega
      have ht := tops_at hlt
      have hrw := routeR_wt (drTop code hb).1 ((topShared (drTop code hb).1 (drTop code hb).2.1 (drTop code hb).2.2.1 (drTop code hb).2.2.2).1[k]).Id
      have hwm := wt_mem (f := wtRouted) hlt
      refine sw_skip ?_
      refine sw_seq ?_
      refine sw_block ?_
      refine sw_seq ?_
      refine sw_seq ?_
      refine sO [(0, _), (3, _), (4, _), (5, _), (6, _), (7, _), (8, _), (9, _), (10, _), (11, _), (12, _)] [] ?_
      refine sw_draw hm_ ?_
      refine dA 0 ?_ (x := vM false [PV.sl .v _])
      refine dA 0 ?_ (x := sM)
      refine dA 3 ?_ (x := loc_index (by decide) FLawFnTops_sl_43 (by exact ⟨⟩) (by exact rfl) (by exact getm2 (by omega) rfl) (by exact rfl))
      refine dA 7 ?_ (x := loc_efield (by decide) FLawFnTops_fd_51_1 (by exact Nat.le_of_ble_eq_true rfl))
      refine dA 15 ?_ (x := lE [PV.sl .v _] FLawFnTops_ty_39)
      refine dA 0 ?_ (x := vM false [PV.sl .v _])
      refine dA 0 ?_ (x := vM false [PV.sl .v _])
      refine dA 0 ?_ (x := sM)
      refine dA 192 ?_ (x := loc_index (by decide) FLawFnTops_sl_43 (by exact ⟨⟩) (by exact rfl) (by exact getm2 (by omega) rfl) (by exact rfl))
      refine dA 448 ?_ (x := loc_efield (by decide) FLawFnTops_fd_51_0 (by exact Nat.le_of_ble_eq_true rfl))
      refine dA 960 ?_ (x := lE [PV.val _] FLawFnTops_ty_3)
      refine dA 2016 ?_ (x := cL [(false, [PV.sl _ _]), (false, [PV.val _])] [(false, [PV.sl .v _]), (false, [PV.val _])] FLawFnTops_c_15 (hs := by exact spec_RouteRows (by omega)))
      refine dA 0 ?_ (x := sM)
      refine dA 0 ?_ (x := sM)
      refine dA 16352 ?_ (x := cL [(false, [PV.sl _ _]), (false, [PV.val _]), (false, [PV.val _])] [(false, [PV.sl .v _]), (false, [PV.val _]), (false, [PV.val _])] FLawFnTops_c_24 (hs := by exact (impl_TopAlone (by omega))))
      refine dA 32767 ?_ (x := cL [(false, [PV.sl _ _]), (false, [PV.sl _ _])] [(false, [PV.sl .v _]), (false, [PV.sl .v _])] FLawFnTops_c_23 (hs := by exact spec_EqualRows))
      refine dA 65535 ?_ (x := nT)
      refine dA 131071 ?_ (x := sM)
      refine Run.cases (s := 82) rfl (fun g6 => ?_) (fun g6 => ?_)
      ·exact absurd g6 (by rw [ht.1]; simp [deq_self])
      ·have sg6 := g6
       try simp only [q1, q2, q3, q4, q5, q6, q7, q8, q9] at sg6
       refine dB 262143 g6 ?_ (x := vM false [PV.sl .v _])
       refine dB 262143 g6 ?_ (x := sM)
       refine dB 1048575 g6 ?_ (x := loc_index (by decide) FLawFnTops_sl_43 (by exact ⟨⟩) (by exact rfl) (by exact getm2 (by omega) rfl) (by exact rfl))
       refine dB 2097151 g6 ?_ (x := loc_efield (by decide) FLawFnTops_fd_51_1 (by exact Nat.le_of_ble_eq_true rfl))
       refine dB 4194303 g6 ?_ (x := lE [PV.sl .v _] FLawFnTops_ty_39)
       refine dB 8388607 g6 ?_ (x := lN FLawFnTops_sl_39)
       refine dB 262143 g6 ?_ (x := sM)
       refine dB 33554431 g6 ?_ (x := B_gtr)
       refine dA 67108863 ?_ (x := pkF g6)
       refine sw_cond (t := 91) rfl (fun hb7 => ?_) (fun hb7 => ?_)
       ·try simp only [q1, q2, q3, q4, q5, q6, q7, q8, q9] at hb7
        first | exact absurd hb7 (by rw [ht.1]; simp [deq_self]; try (rw [← ht.1]; exact ht.2)) | omega | exact absurd hb7 (by have := ht.2; simp; omega)
       ·try simp only [q1, q2, q3, q4, q5, q6, q7, q8, q9] at hb7
        refine sw_skip ?_
        refine sO [(0, _), (3, _), (4, _), (5, _), (6, _), (7, _), (8, _), (9, _), (10, _), (11, _), (12, _)] [] ?_
        refine sw_reg ?_
        refine rA ?_ (x := sM)
        refine rA ?_ (x := sM)
        refine RunS.cases (s := 93) rfl (fun g8 => ?_) (fun g8 => ?_)
        ·have sg8 := g8
         try simp only [q1, q2, q3, q4, q5, q6, q7, q8, q9] at sg8
         refine rB g8 ?_ (x := vM false [PV.sl .v _])
         refine rB g8 ?_ (x := sM)
         refine rB g8 ?_ (x := loc_index (by decide) FLawFnTops_sl_43 (by exact ⟨⟩) (by exact rfl) (by exact getm2 (by omega) rfl) (by exact rfl))
         refine rB g8 ?_ (x := loc_efield (by decide) FLawFnTops_fd_51_1 (by exact Nat.le_of_ble_eq_true rfl))
         refine rB g8 ?_ (x := lE [PV.sl .v _] FLawFnTops_ty_39)
         refine rB g8 ?_ (x := lN FLawFnTops_sl_39)
         refine rB g8 ?_ (x := sM)
         refine rB g8 ?_ (x := B_eql)
         refine rA ?_ (x := pkT g8)
         refine rA ?_ (x := sA)
         refine sO [(0, _), (3, _), (4, _), (5, _), (6, _), (7, _), (8, _), (9, _), (10, _), (11, _), (12, _)] [] ?_
         refine sw_reg ?_
         refine rA ?_ (x := sM)
         refine rA ?_ (x := B_add)
         refine rA ?_ (x := sA)
         refine Exists.intro (k + 1) (And.intro (by omega) (And.intro (by omega) (And.intro (And.intro (by exact ⟨rfl, rfl, rfl, rfl, rfl, rfl, rfl, rfl, rfl, ⟨⟩⟩) (by exact ⟨⟩)) (And.intro (by exact And.intro (by exact bool_eq (by rw [all_tk hlt]; first | (rw [show List.all (List.take k (topShared (drTop code hb).1 (drTop code hb).2.1 (drTop code hb).2.2.1 (drTop code hb).2.2.2).1) (fun r : Routed => decide ((r.Rows.length : Int) = (drTop code hb).2.2.2)) = true by assumption, Bool.true_and]; first | rfl | (rw [Bool.eq_iff_iff]; simp)) | (rw [show List.all (List.take k (topShared (drTop code hb).1 (drTop code hb).2.1 (drTop code hb).2.2.1 (drTop code hb).2.2.2).1) (fun r : Routed => decide ((r.Rows.length : Int) = (drTop code hb).2.2.2)) = false by assumption, Bool.false_and]))) (And.intro (by exact rfl) (True.intro))) (by exact ⟨⟩)))))
        ·have sg8 := g8
         try simp only [q1, q2, q3, q4, q5, q6, q7, q8, q9] at sg8
         refine RunS.s0f g8 ?_
         refine RunS.s0f g8 ?_
         refine RunS.s0f g8 ?_
         refine RunS.s0f g8 ?_
         refine RunS.s0f g8 ?_
         refine RunS.s0f g8 ?_
         refine RunS.s0f g8 ?_
         refine RunS.s0f g8 ?_
         refine rA ?_ (x := pkF g8)
         refine rA ?_ (x := sA)
         refine sO [(0, _), (3, _), (4, _), (5, _), (6, _), (7, _), (8, _), (9, _), (10, _), (11, _), (12, _)] [] ?_
         refine sw_reg ?_
         refine rA ?_ (x := sM)
         refine rA ?_ (x := B_add)
         refine rA ?_ (x := sA)
         refine Exists.intro (k + 1) (And.intro (by omega) (And.intro (by omega) (And.intro (And.intro (by exact ⟨rfl, rfl, rfl, rfl, rfl, rfl, rfl, rfl, rfl, ⟨⟩⟩) (by exact ⟨⟩)) (And.intro (by exact And.intro (by exact bool_eq (by rw [all_tk hlt]; first | (rw [show List.all (List.take k (topShared (drTop code hb).1 (drTop code hb).2.1 (drTop code hb).2.2.1 (drTop code hb).2.2.2).1) (fun r : Routed => decide ((r.Rows.length : Int) = (drTop code hb).2.2.2)) = true by assumption, Bool.true_and]; first | rfl | (rw [Bool.eq_iff_iff]; simp)) | (rw [show List.all (List.take k (topShared (drTop code hb).1 (drTop code hb).2.1 (drTop code hb).2.2.1 (drTop code hb).2.2.2).1) (fun r : Routed => decide ((r.Rows.length : Int) = (drTop code hb).2.2.2)) = false by assumption, Bool.false_and]))) (And.intro (by exact rfl) (True.intro))) (by exact ⟨⟩)))))
     ·try simp only [q1, q2, q3, q4, q5, q6, q7, q8, q9] at hb5
      have hend : k = (topShared (drTop code hb).1 (drTop code hb).2.1 (drTop code hb).2.2.1 (drTop code hb).2.2.2).1.length := by omega
      have hall : List.take k (topShared (drTop code hb).1 (drTop code hb).2.1 (drTop code hb).2.2.1 (drTop code hb).2.2.2).1 = (topShared (drTop code hb).1 (drTop code hb).2.1 (drTop code hb).2.2.1 (drTop code hb).2.2.2).1 := by rw [hend, List.take_length]
      rw [hall]
      refine sw_exit ?_
      refine sw_seq ?_
      refine sO [(0, _), (3, _), (4, _), (5, _), (6, _), (7, _), (8, _), (9, _), (10, _), (11, _), (12, _)] [] ?_
      refine sw_reg ?_
      refine rA ?_ (x := vM false [PV.sl .v _])
      refine rA ?_ (x := cL [(false, [PV.sl _ _])] [(false, [PV.sl .v _])] FLawFnTops_c_25 (hs := by exact (spec_DrawEqualRouted (by omega) (by omega))))
      refine rA ?_ (x := tM)
      refine rA ?_ (x := loc_extract (cs := [PV.sl _ _]) (qs := [PV.sl .v _]) (by decide) (by exact rfl) (by exact (ToL.cons PV.to_none ToL.nil)) (by exact (BorL.cons (PV.bor_sl _) BorL.nil)))
      refine rA ?_ (x := loc_extract (cs := [PV.sl _ _]) (qs := [PV.sl .v _]) (by decide) (by exact rfl) (by exact (ToL.cons PV.to_none ToL.nil)) (by exact (BorL.cons (PV.bor_sl _) BorL.nil)))
      refine rA ?_ (x := vA false [PV.sl .v _])
      refine rA ?_ (x := vA false [PV.sl .v _])
      refine sw_seq ?_
      refine sO [(0, _), (3, _), (4, _), (5, _), (6, _), (7, _), (8, _), (9, _), (10, _), (11, _), (12, _), (13, _), (14, _)] [] ?_
      refine sw_reg ?_
      refine rA ?_ (x := sM)
      refine rA ?_ (x := vM false [PV.sl .v _])
      refine rA ?_ (x := lN FLawFnTops_sl_24)
      refine rA ?_ (x := B_leq)
      refine rA ?_ (x := sM)
      refine RunS.cases (s := 112) rfl (fun g9 => ?_) (fun g9 => ?_)
      ·have sg9 := g9
       try simp only [q1, q2, q3, q4, q5, q6, q7, q8, q9] at sg9
       refine rB g9 ?_ (x := vM false [PV.sl .v _])
       refine rB g9 ?_ (x := lN FLawFnTops_sl_43)
       refine rB g9 ?_ (x := B_eql)
       refine rB g9 ?_ (x := sM)
       refine RunS.cases (s := 116) rfl (fun g10 => ?_) (fun g10 => ?_)
       ·have sg10 := g10
        try simp only [q1, q2, q3, q4, q5, q6, q7, q8, q9] at sg10
        refine RunS.s0t g10 ?_
        refine rB g9 ?_ (x := pkT g10)
        refine rB g9 ?_ (x := sM)
        refine RunS.cases (s := 119) rfl (fun g11 => ?_) (fun g11 => nomatch g11)
        refine RunS.s0t g11 ?_
        refine RunS.s0t g11 ?_
        refine RunS.s0t g11 ?_
        refine RunS.s0t g11 ?_
        refine rB g9 ?_ (x := pkT g11)
        refine rA ?_ (x := pkT g9)
        refine rA ?_ (x := sM)
        refine RunS.cases (s := 126) rfl (fun g12 => ?_) (fun g12 => nomatch g12)
        refine rB g12 ?_ (x := vM false [PV.sl .v _])
        refine rB g12 ?_ (x := vM false [PV.sl .v _])
        refine rB g12 ?_ (x := cL [(false, [PV.sl _ _]), (false, [PV.sl _ _])] [(false, [PV.sl .v _]), (false, [PV.sl .v _])] FLawFnTops_c_26 (hs := by exact impl_EqualRouted))
        refine rB g12 ?_ (x := vM false [PV.sl .v _])
        refine rB g12 ?_ (x := vM false [PV.sl .v _])
        refine rB g12 ?_ (x := cL [(false, [PV.sl _ _]), (false, [PV.sl _ _])] [(false, [PV.sl .v _]), (false, [PV.sl .v _])] FLawFnTops_c_19 (hs := by exact spec_EqualRouted))
        refine rB g12 ?_ (x := loc_beql (by decide) FLawFnTops_ub_4 (by exact ⟨⟩) (by exact ⟨⟩))
        refine rA ?_ (x := pkT g12)
        refine rA ?_ (x := sA)
        refine sw_ret ?_
        exact (And.intro (by refine bool_eq ?_; simp [deq_self]) True.intro)
       ·have sg10 := g10
        try simp only [q1, q2, q3, q4, q5, q6, q7, q8, q9] at sg10
        refine rB g10 ?_ (x := sM)
        refine rB g9 ?_ (x := pkF g10)
        refine rB g9 ?_ (x := sM)
        refine RunS.cases (s := 119) rfl (fun g13 => ?_) (fun g13 => ?_)
        ·have sg13 := g13
         try simp only [q1, q2, q3, q4, q5, q6, q7, q8, q9] at sg13
         refine RunS.s0t g13 ?_
         refine RunS.s0t g13 ?_
         refine RunS.s0t g13 ?_
         refine RunS.s0t g13 ?_
         refine rB g9 ?_ (x := pkT g13)
         refine rA ?_ (x := pkT g9)
         refine rA ?_ (x := sM)
         refine RunS.cases (s := 126) rfl (fun g14 => ?_) (fun g14 => nomatch g14)
         refine rB g14 ?_ (x := vM false [PV.sl .v _])
         refine rB g14 ?_ (x := vM false [PV.sl .v _])
         refine rB g14 ?_ (x := cL [(false, [PV.sl _ _]), (false, [PV.sl _ _])] [(false, [PV.sl .v _]), (false, [PV.sl .v _])] FLawFnTops_c_26 (hs := by exact impl_EqualRouted))
         refine rB g14 ?_ (x := vM false [PV.sl .v _])
         refine rB g14 ?_ (x := vM false [PV.sl .v _])
         refine rB g14 ?_ (x := cL [(false, [PV.sl _ _]), (false, [PV.sl _ _])] [(false, [PV.sl .v _]), (false, [PV.sl .v _])] FLawFnTops_c_19 (hs := by exact spec_EqualRouted))
         refine rB g14 ?_ (x := loc_beql (by decide) FLawFnTops_ub_4 (by exact ⟨⟩) (by exact ⟨⟩))
         refine rA ?_ (x := pkT g14)
         refine rA ?_ (x := sA)
         refine sw_ret ?_
         exact (And.intro (by refine bool_eq ?_; simp [deq_self]) True.intro)
        ·have sg13 := g13
         try simp only [q1, q2, q3, q4, q5, q6, q7, q8, q9] at sg13
         refine rB g13 ?_ (x := sM)
         refine rB g13 ?_ (x := vM false [PV.sl .v _])
         refine rB g13 ?_ (x := lN FLawFnTops_sl_24)
         refine rB g13 ?_ (x := B_eql)
         refine rB g9 ?_ (x := pkF g13)
         refine rA ?_ (x := pkT g9)
         refine rA ?_ (x := sM)
         refine RunS.cases (s := 126) rfl (fun g15 => ?_) (fun g15 => ?_)
         ·have sg15 := g15
          try simp only [q1, q2, q3, q4, q5, q6, q7, q8, q9] at sg15
          refine rB g15 ?_ (x := vM false [PV.sl .v _])
          refine rB g15 ?_ (x := vM false [PV.sl .v _])
          refine rB g15 ?_ (x := cL [(false, [PV.sl _ _]), (false, [PV.sl _ _])] [(false, [PV.sl .v _]), (false, [PV.sl .v _])] FLawFnTops_c_26 (hs := by exact impl_EqualRouted))
          refine rB g15 ?_ (x := vM false [PV.sl .v _])
          refine rB g15 ?_ (x := vM false [PV.sl .v _])
          refine rB g15 ?_ (x := cL [(false, [PV.sl _ _]), (false, [PV.sl _ _])] [(false, [PV.sl .v _]), (false, [PV.sl .v _])] FLawFnTops_c_19 (hs := by exact spec_EqualRouted))
          refine rB g15 ?_ (x := loc_beql (by decide) FLawFnTops_ub_4 (by exact ⟨⟩) (by exact ⟨⟩))
          refine rA ?_ (x := pkT g15)
          refine rA ?_ (x := sA)
          refine sw_ret ?_
          exact (And.intro (by refine bool_eq ?_; simp [deq_self]) True.intro)
         ·first | exact absurd g15 (by rcases hf.2 with h_ | h_ | h_ <;> simp_all) | (rcases hf.2 with h_ | h_ | h_ <;> simp_all; done)
      ·exact absurd g9 (by have := hf.1; simp; try omega)
end Go.Proofs.Ytaomckpfgmhapaa
