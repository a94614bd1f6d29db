/- What functions of the program compute. No condition. -/
import Derived.Test.YtcfbekjiiokcbaaCEqQEqualClusters
set_option linter.unusedVariables false
set_option linter.unusedSimpArgs false
namespace Go.Proofs.Ytcfbekjiiokcbaa
open Go Go.RowKit M
set_option maxRecDepth 10000
theorem impl_EqualClusters {p3 p4 p9 p10 p13 p14 p18 p19 p24 p25 p28 p29 : Fl} {x : Cluster} {y : Cluster}  : SCall Try.prog 42 [(true, [PV.val (vI x.Query.Id), PV.val (vI x.Query.Tenant), PV.sl .v (x.Query.Conds.map cCond), PV.sl .v (x.Query.Out.map cInt), PV.sl .v (x.Parts.map (cRowS p3 p4)), PV.sl .v (x.Up.map cBool), PV.sl .v (x.At.map cInt), PV.sl .v (x.Pos.map cInt), PV.sl .v (x.Buffer.map (cRowS p9 p10)), PV.sl .v (x.Done.map cInt), PV.sl .v (x.Rows.map (cRowS p13 p14))]), (true, [PV.val (vI y.Query.Id), PV.val (vI y.Query.Tenant), PV.sl .v (y.Query.Conds.map cCond), PV.sl .v (y.Query.Out.map cInt), PV.sl .v (y.Parts.map (cRowS p18 p19)), PV.sl .v (y.Up.map cBool), PV.sl .v (y.At.map cInt), PV.sl .v (y.Pos.map cInt), PV.sl .v (y.Buffer.map (cRowS p24 p25)), PV.sl .v (y.Done.map cInt), PV.sl .v (y.Rows.map (cRowS p28 p29))])] (resRV [(false, [PV.val (.bool (deq x y))])]) := by
  refine scall_of (rs := [(false, [PV.val (.bool (deq x y))])]) Try.func42 rfl (Nat.le_of_ble_eq_true rfl) (borA_cons (BorL.cons (PV.bor_val _) (BorL.cons (PV.bor_val _) (BorL.cons (PV.bor_sl _) (BorL.cons (PV.bor_sl _) (BorL.cons (PV.bor_sl _) (BorL.cons (PV.bor_sl _) (BorL.cons (PV.bor_sl _) (BorL.cons (PV.bor_sl _) (BorL.cons (PV.bor_sl _) (BorL.cons (PV.bor_sl _) (BorL.cons (PV.bor_sl _) BorL.nil))))))))))) (borA_cons (BorL.cons (PV.bor_val _) (BorL.cons (PV.bor_val _) (BorL.cons (PV.bor_sl _) (BorL.cons (PV.bor_sl _) (BorL.cons (PV.bor_sl _) (BorL.cons (PV.bor_sl _) (BorL.cons (PV.bor_sl _) (BorL.cons (PV.bor_sl _) (BorL.cons (PV.bor_sl _) (BorL.cons (PV.bor_sl _) (BorL.cons (PV.bor_sl _) BorL.nil))))))))))) borA_nil)) ?_
  intro h0 w0 Fz0
  refine sw_slen (s := 0) (j := 2) rfl rfl fun hl0_2 => ?_
  try rw [List.length_map] at hl0_2
  refine sw_slen (s := 0) (j := 3) rfl rfl fun hl0_3 => ?_
  try rw [List.length_map] at hl0_3
  refine sw_slen (s := 0) (j := 4) rfl rfl fun hl0_4 => ?_
  try rw [List.length_map] at hl0_4
  refine sw_slen (s := 0) (j := 5) rfl rfl fun hl0_5 => ?_
  try rw [List.length_map] at hl0_5
  refine sw_slen (s := 0) (j := 6) rfl rfl fun hl0_6 => ?_
  try rw [List.length_map] at hl0_6
  refine sw_slen (s := 0) (j := 7) rfl rfl fun hl0_7 => ?_
  try rw [List.length_map] at hl0_7
  refine sw_slen (s := 0) (j := 8) rfl rfl fun hl0_8 => ?_
  try rw [List.length_map] at hl0_8
  refine sw_slen (s := 0) (j := 9) rfl rfl fun hl0_9 => ?_
  try rw [List.length_map] at hl0_9
  refine sw_slen (s := 0) (j := 10) rfl rfl fun hl0_10 => ?_
  try rw [List.length_map] at hl0_10
  refine sw_slen (s := 1) (j := 2) rfl rfl fun hl1_2 => ?_
  try rw [List.length_map] at hl1_2
  refine sw_slen (s := 1) (j := 3) rfl rfl fun hl1_3 => ?_
  try rw [List.length_map] at hl1_3
  refine sw_slen (s := 1) (j := 4) rfl rfl fun hl1_4 => ?_
  try rw [List.length_map] at hl1_4
  refine sw_slen (s := 1) (j := 5) rfl rfl fun hl1_5 => ?_
  try rw [List.length_map] at hl1_5
  refine sw_slen (s := 1) (j := 6) rfl rfl fun hl1_6 => ?_
  try rw [List.length_map] at hl1_6
  refine sw_slen (s := 1) (j := 7) rfl rfl fun hl1_7 => ?_
  try rw [List.length_map] at hl1_7
  refine sw_slen (s := 1) (j := 8) rfl rfl fun hl1_8 => ?_
  try rw [List.length_map] at hl1_8
  refine sw_slen (s := 1) (j := 9) rfl rfl fun hl1_9 => ?_
  try rw [List.length_map] at hl1_9
  refine sw_slen (s := 1) (j := 10) rfl rfl fun hl1_10 => ?_
  try rw [List.length_map] at hl1_10
  refine sw_seq ?_
  refine sw_reg ?_
  refine RunS.step (by exact And.intro rfl True.intro) (by exact True.intro) (LocG.of rfl (loc_box (ag := true) (cs := [PV.val _, PV.val _, PV.sl _ _, PV.sl _ _, PV.sl _ _, PV.sl _ _, PV.sl _ _, PV.sl _ _, PV.sl _ _, PV.sl _ _, PV.sl _ _]) (by decide) (by exact True.intro))) (free1 (Free.of_ rfl)) ?_
  refine RunS.step (by exact And.intro rfl True.intro) (by exact True.intro) (LocG.of rfl (loc_box (ag := true) (cs := [PV.val _, PV.val _, PV.sl _ _, PV.sl _ _, PV.sl _ _, PV.sl _ _, PV.sl _ _, PV.sl _ _, PV.sl _ _, PV.sl _ _, PV.sl _ _]) (by decide) (by exact True.intro))) (free1 (Free.app (Free.of_ rfl) rfl)) ?_
  refine RunS.step (by exact True.intro) (by exact True.intro) (LocG.of rfl (loc_const (.inr rfl) (by decide) (ok_sc rfl))) nofree ?_
  refine sw_seq ?_
  refine sw_of (l := [(2, RV.ptr 2 0), (3, RV.ptr 3 0), (4, RV.sv false [PV.val _])]) (b := [(2, (81, [PV.val _, PV.val _, PV.sl _ _, PV.sl _ _, PV.sl _ _, PV.sl _ _, PV.sl _ _, PV.sl _ _, PV.sl _ _, PV.sl _ _, PV.sl _ _])), (3, (81, [PV.val _, PV.val _, PV.sl _ _, PV.sl _ _, PV.sl _ _, PV.sl _ _, PV.sl _ _, PV.sl _ _, PV.sl _ _, PV.sl _ _, PV.sl _ _]))]) (by exact And.intro rfl (And.intro rfl (And.intro rfl True.intro))) (by exact And.intro rfl (And.intro rfl True.intro)) ?_
  refine sw_reg ?_
  refine RunS.step (by exact And.intro rfl True.intro) (by exact True.intro) (LocG.of rfl (loc_field (by decide) fd_81_0)) nofree ?_
  refine RunS.step (by exact And.intro rfl True.intro) (by exact And.intro rfl True.intro) (LocG.of rfl (loc_load (qs := [PV.val _, PV.val _, PV.sl .v _, PV.sl .v _]) (by decide) ty_56 (fun h => nomatch h) (by exact Nat.le_of_ble_eq_true rfl) (by exact (ToL.cons (PV.To.refl _) (ToL.cons (PV.To.refl _) (ToL.cons PV.to_none (ToL.cons PV.to_none ToL.nil))))) (by exact (BorL.cons (PV.bor_val _) (BorL.cons (PV.bor_val _) (BorL.cons (PV.bor_sl _) (BorL.cons (PV.bor_sl _) BorL.nil))))))) nofree ?_
  refine RunS.step (by exact And.intro rfl True.intro) (by exact True.intro) (LocG.of rfl (loc_field (by decide) fd_81_0)) nofree ?_
  refine RunS.step (by exact And.intro rfl True.intro) (by exact And.intro rfl True.intro) (LocG.of rfl (loc_load (qs := [PV.val _, PV.val _, PV.sl .v _, PV.sl .v _]) (by decide) ty_56 (fun h => nomatch h) (by exact Nat.le_of_ble_eq_true rfl) (by exact (ToL.cons (PV.To.refl _) (ToL.cons (PV.To.refl _) (ToL.cons PV.to_none (ToL.cons PV.to_none ToL.nil))))) (by exact (BorL.cons (PV.bor_val _) (BorL.cons (PV.bor_val _) (BorL.cons (PV.bor_sl _) (BorL.cons (PV.bor_sl _) BorL.nil))))))) nofree ?_
  refine RunS.step (by exact And.intro rfl (And.intro rfl True.intro)) (by exact True.intro) (LocG.of rfl (loc_call (qs := [(true, [PV.val _, PV.val _, PV.sl _ _, PV.sl _ _]), (true, [PV.val _, PV.val _, PV.sl _ _, PV.sl _ _])]) (as_ := [(true, [PV.val _, PV.val _, PV.sl .v _, PV.sl .v _]), (true, [PV.val _, PV.val _, PV.sl .v _, PV.sl .v _])]) (by decide) c_91 (by exact (And.intro (by exact True.intro) (And.intro (by exact True.intro) True.intro))) (by exact (And.intro (And.intro rfl (ToL.cons (PV.To.refl _) (ToL.cons (PV.To.refl _) (ToL.cons PV.to_none (ToL.cons PV.to_none ToL.nil))))) (And.intro (And.intro rfl (ToL.cons (PV.To.refl _) (ToL.cons (PV.To.refl _) (ToL.cons PV.to_none (ToL.cons PV.to_none ToL.nil))))) True.intro))) (by exact impl_equalQuery))) nofree ?_
  refine RunS.step (by exact And.intro rfl True.intro) (by exact True.intro) (LocG.of rfl (loc_copy (.inl rfl) (by decide) (by exact Cp.sc))) nofree ?_
  refine RunS.cases (s := 10) rfl (fun g1 => ?_) (fun g1 => ?_)
  · have sg1 := g1
    try simp only [decide_eq_true_eq, decide_eq_false_iff_not, bne_iff_ne, beq_iff_eq, Bool.not_eq_true', Bool.not_eq_false', ne_eq, bne_eq_false_iff_eq, beq_eq_false_iff_ne] at sg1
    refine RunS.step (by exact And.intro rfl (And.intro rfl True.intro)) (by exact True.intro) (LocG.yes rfl rfl (by decide) g1 (loc_field (by decide) fd_81_1)) nofree ?_
    refine RunS.step (by exact And.intro rfl (And.intro rfl True.intro)) (by exact And.intro rfl True.intro) (LocG.yes rfl rfl (by decide) g1 (loc_load (qs := [PV.sl .v _]) (by decide) ty_79 (fun _ => rfl) (by exact Nat.le_of_ble_eq_true rfl) (by exact (ToL.cons PV.to_none ToL.nil)) (by exact (BorL.cons (PV.bor_sl _) BorL.nil)))) nofree ?_
    refine RunS.step (by exact And.intro rfl (And.intro rfl True.intro)) (by exact True.intro) (LocG.yes rfl rfl (by decide) g1 (loc_field (by decide) fd_81_1)) nofree ?_
    refine RunS.step (by exact And.intro rfl (And.intro rfl True.intro)) (by exact And.intro rfl True.intro) (LocG.yes rfl rfl (by decide) g1 (loc_load (qs := [PV.sl .v _]) (by decide) ty_79 (fun _ => rfl) (by exact Nat.le_of_ble_eq_true rfl) (by exact (ToL.cons PV.to_none ToL.nil)) (by exact (BorL.cons (PV.bor_sl _) BorL.nil)))) nofree ?_
    refine RunS.step (by exact And.intro rfl (And.intro rfl (And.intro rfl True.intro))) (by exact True.intro) (LocG.yes rfl rfl (by decide) g1 (loc_call (qs := [(false, [PV.sl _ _]), (false, [PV.sl _ _]), (false, [PV.clo Try.prog (as2 (fun x : List Row => (false, [PV.sl .v (x.map (cRow .v))]))) (rsB deq2)])]) (as_ := [(false, [PV.sl .v _]), (false, [PV.sl .v _]), (false, [PV.clo Try.prog (as2 (fun x : List Row => (false, [PV.sl .v (x.map (cRow .v))]))) (rsB deq2)])]) (by decide) c_116 (by exact (And.intro (by exact True.intro) (And.intro (by exact True.intro) (And.intro (ok_clo c_117 (fun x => by exact impl_EqualRows)) True.intro)))) (by exact (And.intro (And.intro rfl (ToL.cons PV.to_none ToL.nil)) (And.intro (And.intro rfl (ToL.cons PV.to_none ToL.nil)) (And.intro (And.intro rfl (ToL.cons (PV.To.refl _) ToL.nil)) True.intro)))) (by exact eqf_RowS))) nofree ?_
    refine RunS.step (by exact And.intro rfl (And.intro rfl True.intro)) (by exact True.intro) (LocG.of rfl (loc_pick (z := .tmp 15) (by decide) (by rw [g1]; rfl) (by exact True.intro) (by exact True.intro) (by exact Cp.sc))) nofree ?_
    refine RunS.step (by exact And.intro rfl True.intro) (by exact True.intro) (LocG.of rfl (loc_copy (.inl rfl) (by decide) (by exact Cp.sc))) nofree ?_
    refine RunS.cases (s := 17) rfl (fun g2 => ?_) (fun g2 => ?_)
    · have sg2 := g2
      try simp only [decide_eq_true_eq, decide_eq_false_iff_not, bne_iff_ne, beq_iff_eq, Bool.not_eq_true', Bool.not_eq_false', ne_eq, bne_eq_false_iff_eq, beq_eq_false_iff_ne] at sg2
      refine RunS.step (by exact And.intro rfl (And.intro rfl True.intro)) (by exact True.intro) (LocG.yes rfl rfl (by decide) g2 (loc_field (by decide) fd_81_2)) nofree ?_
      refine RunS.step (by exact And.intro rfl (And.intro rfl True.intro)) (by exact And.intro rfl True.intro) (LocG.yes rfl rfl (by decide) g2 (loc_load (qs := [PV.sl .v _]) (by decide) ty_74 (fun _ => rfl) (by exact Nat.le_of_ble_eq_true rfl) (by exact (ToL.cons PV.to_none ToL.nil)) (by exact (BorL.cons (PV.bor_sl _) BorL.nil)))) nofree ?_
      refine RunS.step (by exact And.intro rfl (And.intro rfl True.intro)) (by exact True.intro) (LocG.yes rfl rfl (by decide) g2 (loc_field (by decide) fd_81_2)) nofree ?_
      refine RunS.step (by exact And.intro rfl (And.intro rfl True.intro)) (by exact And.intro rfl True.intro) (LocG.yes rfl rfl (by decide) g2 (loc_load (qs := [PV.sl .v _]) (by decide) ty_74 (fun _ => rfl) (by exact Nat.le_of_ble_eq_true rfl) (by exact (ToL.cons PV.to_none ToL.nil)) (by exact (BorL.cons (PV.bor_sl _) BorL.nil)))) nofree ?_
      refine RunS.step (by exact And.intro rfl (And.intro rfl (And.intro rfl True.intro))) (by exact True.intro) (LocG.yes rfl rfl (by decide) g2 (loc_call (qs := [(false, [PV.sl _ _]), (false, [PV.sl _ _])]) (as_ := [(false, [PV.sl .v _]), (false, [PV.sl .v _])]) (by decide) c_118 (by exact (And.intro (by exact True.intro) (And.intro (by exact True.intro) True.intro))) (by exact (And.intro (And.intro rfl (ToL.cons PV.to_none ToL.nil)) (And.intro (And.intro rfl (ToL.cons PV.to_none ToL.nil)) True.intro))) (by exact eqs_Bool))) nofree ?_
      refine RunS.step (by exact And.intro rfl (And.intro rfl True.intro)) (by exact True.intro) (LocG.of rfl (loc_pick (z := .tmp 22) (by decide) (by rw [g2]; rfl) (by exact True.intro) (by exact True.intro) (by exact Cp.sc))) nofree ?_
      refine RunS.step (by exact And.intro rfl True.intro) (by exact True.intro) (LocG.of rfl (loc_copy (.inl rfl) (by decide) (by exact Cp.sc))) nofree ?_
      refine RunS.cases (s := 24) rfl (fun g3 => ?_) (fun g3 => ?_)
      · have sg3 := g3
        try simp only [decide_eq_true_eq, decide_eq_false_iff_not, bne_iff_ne, beq_iff_eq, Bool.not_eq_true', Bool.not_eq_false', ne_eq, bne_eq_false_iff_eq, beq_eq_false_iff_ne] at sg3
        refine RunS.step (by exact And.intro rfl (And.intro rfl True.intro)) (by exact True.intro) (LocG.yes rfl rfl (by decide) g3 (loc_field (by decide) fd_81_3)) nofree ?_
        refine RunS.step (by exact And.intro rfl (And.intro rfl True.intro)) (by exact And.intro rfl True.intro) (LocG.yes rfl rfl (by decide) g3 (loc_load (qs := [PV.sl .v _]) (by decide) ty_23 (fun _ => rfl) (by exact Nat.le_of_ble_eq_true rfl) (by exact (ToL.cons PV.to_none ToL.nil)) (by exact (BorL.cons (PV.bor_sl _) BorL.nil)))) nofree ?_
        refine RunS.step (by exact And.intro rfl (And.intro rfl True.intro)) (by exact True.intro) (LocG.yes rfl rfl (by decide) g3 (loc_field (by decide) fd_81_3)) nofree ?_
        refine RunS.step (by exact And.intro rfl (And.intro rfl True.intro)) (by exact And.intro rfl True.intro) (LocG.yes rfl rfl (by decide) g3 (loc_load (qs := [PV.sl .v _]) (by decide) ty_23 (fun _ => rfl) (by exact Nat.le_of_ble_eq_true rfl) (by exact (ToL.cons PV.to_none ToL.nil)) (by exact (BorL.cons (PV.bor_sl _) BorL.nil)))) nofree ?_
        refine RunS.step (by exact And.intro rfl (And.intro rfl (And.intro rfl True.intro))) (by exact True.intro) (LocG.yes rfl rfl (by decide) g3 (loc_call (qs := [(false, [PV.sl _ _]), (false, [PV.sl _ _])]) (as_ := [(false, [PV.sl .v _]), (false, [PV.sl .v _])]) (by decide) c_119 (by exact (And.intro (by exact True.intro) (And.intro (by exact True.intro) True.intro))) (by exact (And.intro (And.intro rfl (ToL.cons PV.to_none ToL.nil)) (And.intro (And.intro rfl (ToL.cons PV.to_none ToL.nil)) True.intro))) (by exact impl_sameInts))) nofree ?_
        refine RunS.step (by exact And.intro rfl (And.intro rfl True.intro)) (by exact True.intro) (LocG.of rfl (loc_pick (z := .tmp 29) (by decide) (by rw [g3]; rfl) (by exact True.intro) (by exact True.intro) (by exact Cp.sc))) nofree ?_
        refine RunS.step (by exact And.intro rfl True.intro) (by exact True.intro) (LocG.of rfl (loc_copy (.inl rfl) (by decide) (by exact Cp.sc))) nofree ?_
        refine RunS.cases (s := 31) rfl (fun g4 => ?_) (fun g4 => ?_)
        · have sg4 := g4
          try simp only [decide_eq_true_eq, decide_eq_false_iff_not, bne_iff_ne, beq_iff_eq, Bool.not_eq_true', Bool.not_eq_false', ne_eq, bne_eq_false_iff_eq, beq_eq_false_iff_ne] at sg4
          refine RunS.step (by exact And.intro rfl (And.intro rfl True.intro)) (by exact True.intro) (LocG.yes rfl rfl (by decide) g4 (loc_field (by decide) fd_81_4)) nofree ?_
          refine RunS.step (by exact And.intro rfl (And.intro rfl True.intro)) (by exact And.intro rfl True.intro) (LocG.yes rfl rfl (by decide) g4 (loc_load (qs := [PV.sl .v _]) (by decide) ty_23 (fun _ => rfl) (by exact Nat.le_of_ble_eq_true rfl) (by exact (ToL.cons PV.to_none ToL.nil)) (by exact (BorL.cons (PV.bor_sl _) BorL.nil)))) nofree ?_
          refine RunS.step (by exact And.intro rfl (And.intro rfl True.intro)) (by exact True.intro) (LocG.yes rfl rfl (by decide) g4 (loc_field (by decide) fd_81_4)) nofree ?_
          refine RunS.step (by exact And.intro rfl (And.intro rfl True.intro)) (by exact And.intro rfl True.intro) (LocG.yes rfl rfl (by decide) g4 (loc_load (qs := [PV.sl .v _]) (by decide) ty_23 (fun _ => rfl) (by exact Nat.le_of_ble_eq_true rfl) (by exact (ToL.cons PV.to_none ToL.nil)) (by exact (BorL.cons (PV.bor_sl _) BorL.nil)))) nofree ?_
          refine RunS.step (by exact And.intro rfl (And.intro rfl (And.intro rfl True.intro))) (by exact True.intro) (LocG.yes rfl rfl (by decide) g4 (loc_call (qs := [(false, [PV.sl _ _]), (false, [PV.sl _ _])]) (as_ := [(false, [PV.sl .v _]), (false, [PV.sl .v _])]) (by decide) c_119 (by exact (And.intro (by exact True.intro) (And.intro (by exact True.intro) True.intro))) (by exact (And.intro (And.intro rfl (ToL.cons PV.to_none ToL.nil)) (And.intro (And.intro rfl (ToL.cons PV.to_none ToL.nil)) True.intro))) (by exact impl_sameInts))) nofree ?_
          refine RunS.step (by exact And.intro rfl (And.intro rfl True.intro)) (by exact True.intro) (LocG.of rfl (loc_pick (z := .tmp 36) (by decide) (by rw [g4]; rfl) (by exact True.intro) (by exact True.intro) (by exact Cp.sc))) nofree ?_
          refine RunS.step (by exact And.intro rfl True.intro) (by exact True.intro) (LocG.of rfl (loc_copy (.inl rfl) (by decide) (by exact Cp.sc))) nofree ?_
          refine RunS.cases (s := 38) rfl (fun g5 => ?_) (fun g5 => ?_)
          · have sg5 := g5
            try simp only [decide_eq_true_eq, decide_eq_false_iff_not, bne_iff_ne, beq_iff_eq, Bool.not_eq_true', Bool.not_eq_false', ne_eq, bne_eq_false_iff_eq, beq_eq_false_iff_ne] at sg5
            refine RunS.step (by exact And.intro rfl (And.intro rfl True.intro)) (by exact True.intro) (LocG.yes rfl rfl (by decide) g5 (loc_field (by decide) fd_81_5)) nofree ?_
            refine RunS.step (by exact And.intro rfl (And.intro rfl True.intro)) (by exact And.intro rfl True.intro) (LocG.yes rfl rfl (by decide) g5 (loc_load (qs := [PV.sl .v _]) (by decide) ty_79 (fun _ => rfl) (by exact Nat.le_of_ble_eq_true rfl) (by exact (ToL.cons PV.to_none ToL.nil)) (by exact (BorL.cons (PV.bor_sl _) BorL.nil)))) nofree ?_
            refine RunS.step (by exact And.intro rfl (And.intro rfl True.intro)) (by exact True.intro) (LocG.yes rfl rfl (by decide) g5 (loc_field (by decide) fd_81_5)) nofree ?_
            refine RunS.step (by exact And.intro rfl (And.intro rfl True.intro)) (by exact And.intro rfl True.intro) (LocG.yes rfl rfl (by decide) g5 (loc_load (qs := [PV.sl .v _]) (by decide) ty_79 (fun _ => rfl) (by exact Nat.le_of_ble_eq_true rfl) (by exact (ToL.cons PV.to_none ToL.nil)) (by exact (BorL.cons (PV.bor_sl _) BorL.nil)))) nofree ?_
            refine RunS.step (by exact And.intro rfl (And.intro rfl (And.intro rfl True.intro))) (by exact True.intro) (LocG.yes rfl rfl (by decide) g5 (loc_call (qs := [(false, [PV.sl _ _]), (false, [PV.sl _ _]), (false, [PV.clo Try.prog (as2 (fun x : List Row => (false, [PV.sl .v (x.map (cRow .v))]))) (rsB deq2)])]) (as_ := [(false, [PV.sl .v _]), (false, [PV.sl .v _]), (false, [PV.clo Try.prog (as2 (fun x : List Row => (false, [PV.sl .v (x.map (cRow .v))]))) (rsB deq2)])]) (by decide) c_116 (by exact (And.intro (by exact True.intro) (And.intro (by exact True.intro) (And.intro (ok_clo c_117 (fun x => by exact impl_EqualRows)) True.intro)))) (by exact (And.intro (And.intro rfl (ToL.cons PV.to_none ToL.nil)) (And.intro (And.intro rfl (ToL.cons PV.to_none ToL.nil)) (And.intro (And.intro rfl (ToL.cons (PV.To.refl _) ToL.nil)) True.intro)))) (by exact eqf_RowS))) nofree ?_
            refine RunS.step (by exact And.intro rfl (And.intro rfl True.intro)) (by exact True.intro) (LocG.of rfl (loc_pick (z := .tmp 43) (by decide) (by rw [g5]; rfl) (by exact True.intro) (by exact True.intro) (by exact Cp.sc))) nofree ?_
            refine RunS.step (by exact And.intro rfl True.intro) (by exact True.intro) (LocG.of rfl (loc_copy (.inl rfl) (by decide) (by exact Cp.sc))) nofree ?_
            refine RunS.cases (s := 45) rfl (fun g6 => ?_) (fun g6 => ?_)
            · have sg6 := g6
              try simp only [decide_eq_true_eq, decide_eq_false_iff_not, bne_iff_ne, beq_iff_eq, Bool.not_eq_true', Bool.not_eq_false', ne_eq, bne_eq_false_iff_eq, beq_eq_false_iff_ne] at sg6
              refine RunS.step (by exact And.intro rfl (And.intro rfl True.intro)) (by exact True.intro) (LocG.yes rfl rfl (by decide) g6 (loc_field (by decide) fd_81_6)) nofree ?_
              refine RunS.step (by exact And.intro rfl (And.intro rfl True.intro)) (by exact And.intro rfl True.intro) (LocG.yes rfl rfl (by decide) g6 (loc_load (qs := [PV.sl .v _]) (by decide) ty_23 (fun _ => rfl) (by exact Nat.le_of_ble_eq_true rfl) (by exact (ToL.cons PV.to_none ToL.nil)) (by exact (BorL.cons (PV.bor_sl _) BorL.nil)))) nofree ?_
              refine RunS.step (by exact And.intro rfl (And.intro rfl True.intro)) (by exact True.intro) (LocG.yes rfl rfl (by decide) g6 (loc_field (by decide) fd_81_6)) nofree ?_
              refine RunS.step (by exact And.intro rfl (And.intro rfl True.intro)) (by exact And.intro rfl True.intro) (LocG.yes rfl rfl (by decide) g6 (loc_load (qs := [PV.sl .v _]) (by decide) ty_23 (fun _ => rfl) (by exact Nat.le_of_ble_eq_true rfl) (by exact (ToL.cons PV.to_none ToL.nil)) (by exact (BorL.cons (PV.bor_sl _) BorL.nil)))) nofree ?_
              refine RunS.step (by exact And.intro rfl (And.intro rfl (And.intro rfl True.intro))) (by exact True.intro) (LocG.yes rfl rfl (by decide) g6 (loc_call (qs := [(false, [PV.sl _ _]), (false, [PV.sl _ _])]) (as_ := [(false, [PV.sl .v _]), (false, [PV.sl .v _])]) (by decide) c_119 (by exact (And.intro (by exact True.intro) (And.intro (by exact True.intro) True.intro))) (by exact (And.intro (And.intro rfl (ToL.cons PV.to_none ToL.nil)) (And.intro (And.intro rfl (ToL.cons PV.to_none ToL.nil)) True.intro))) (by exact impl_sameInts))) nofree ?_
              refine RunS.step (by exact And.intro rfl (And.intro rfl True.intro)) (by exact True.intro) (LocG.of rfl (loc_pick (z := .tmp 50) (by decide) (by rw [g6]; rfl) (by exact True.intro) (by exact True.intro) (by exact Cp.sc))) nofree ?_
              refine RunS.step (by exact And.intro rfl True.intro) (by exact True.intro) (LocG.of rfl (loc_copy (.inl rfl) (by decide) (by exact Cp.sc))) nofree ?_
              refine RunS.cases (s := 52) rfl (fun g7 => ?_) (fun g7 => ?_)
              · have sg7 := g7
                try simp only [decide_eq_true_eq, decide_eq_false_iff_not, bne_iff_ne, beq_iff_eq, Bool.not_eq_true', Bool.not_eq_false', ne_eq, bne_eq_false_iff_eq, beq_eq_false_iff_ne] at sg7
                refine RunS.step (by exact And.intro rfl (And.intro rfl True.intro)) (by exact True.intro) (LocG.yes rfl rfl (by decide) g7 (loc_field (by decide) fd_81_7)) nofree ?_
                refine RunS.step (by exact And.intro rfl (And.intro rfl True.intro)) (by exact And.intro rfl True.intro) (LocG.yes rfl rfl (by decide) g7 (loc_load (qs := [PV.sl .v _]) (by decide) ty_79 (fun _ => rfl) (by exact Nat.le_of_ble_eq_true rfl) (by exact (ToL.cons PV.to_none ToL.nil)) (by exact (BorL.cons (PV.bor_sl _) BorL.nil)))) nofree ?_
                refine RunS.step (by exact And.intro rfl (And.intro rfl True.intro)) (by exact True.intro) (LocG.yes rfl rfl (by decide) g7 (loc_field (by decide) fd_81_7)) nofree ?_
                refine RunS.step (by exact And.intro rfl (And.intro rfl True.intro)) (by exact And.intro rfl True.intro) (LocG.yes rfl rfl (by decide) g7 (loc_load (qs := [PV.sl .v _]) (by decide) ty_79 (fun _ => rfl) (by exact Nat.le_of_ble_eq_true rfl) (by exact (ToL.cons PV.to_none ToL.nil)) (by exact (BorL.cons (PV.bor_sl _) BorL.nil)))) nofree ?_
                refine RunS.step (by exact And.intro rfl (And.intro rfl (And.intro rfl True.intro))) (by exact True.intro) (LocG.yes rfl rfl (by decide) g7 (loc_call (qs := [(false, [PV.sl _ _]), (false, [PV.sl _ _]), (false, [PV.clo Try.prog (as2 (fun x : List Row => (false, [PV.sl .v (x.map (cRow .v))]))) (rsB deq2)])]) (as_ := [(false, [PV.sl .v _]), (false, [PV.sl .v _]), (false, [PV.clo Try.prog (as2 (fun x : List Row => (false, [PV.sl .v (x.map (cRow .v))]))) (rsB deq2)])]) (by decide) c_116 (by exact (And.intro (by exact True.intro) (And.intro (by exact True.intro) (And.intro (ok_clo c_117 (fun x => by exact impl_EqualRows)) True.intro)))) (by exact (And.intro (And.intro rfl (ToL.cons PV.to_none ToL.nil)) (And.intro (And.intro rfl (ToL.cons PV.to_none ToL.nil)) (And.intro (And.intro rfl (ToL.cons (PV.To.refl _) ToL.nil)) True.intro)))) (by exact eqf_RowS))) nofree ?_
                refine RunS.step (by exact And.intro rfl (And.intro rfl True.intro)) (by exact True.intro) (LocG.of rfl (loc_pick (z := .tmp 57) (by decide) (by rw [g7]; rfl) (by exact True.intro) (by exact True.intro) (by exact Cp.sc))) nofree ?_
                refine RunS.step (by exact And.intro rfl True.intro) (by exact True.intro) (LocG.of rfl (loc_copy (.inr rfl) (by decide) (by exact Cp.sc))) nofree ?_
                refine sw_ret ?_
                exact (And.intro (by refine bool_eq ?_; rw [Bool.eq_iff_iff]; simp only [deq_iff, ext_Cluster_iff]; simp_all [deq_iff, deq_no]) True.intro)
              · have sg7 := g7
                try simp only [decide_eq_true_eq, decide_eq_false_iff_not, bne_iff_ne, beq_iff_eq, Bool.not_eq_true', Bool.not_eq_false', ne_eq, bne_eq_false_iff_eq, beq_eq_false_iff_ne] at sg7
                refine RunS.step (by exact And.intro rfl True.intro) (by exact True.intro) (LocG.no (ops := _) rfl rfl (by decide) g7 rfl) nofree ?_
                refine RunS.step (by exact And.intro rfl True.intro) (by exact True.intro) (LocG.no (ops := _) rfl rfl (by decide) g7 rfl) nofree ?_
                refine RunS.step (by exact And.intro rfl True.intro) (by exact True.intro) (LocG.no (ops := _) rfl rfl (by decide) g7 rfl) nofree ?_
                refine RunS.step (by exact And.intro rfl True.intro) (by exact True.intro) (LocG.no (ops := _) rfl rfl (by decide) g7 rfl) nofree ?_
                refine RunS.step (by exact And.intro rfl True.intro) (by exact True.intro) (LocG.no (ops := _) rfl rfl (by decide) g7 rfl) nofree ?_
                refine RunS.step (by exact And.intro rfl True.intro) (by exact True.intro) (LocG.of rfl (loc_pick (z := .const (.bool false)) (by decide) (by rw [g7]; rfl) (by exact True.intro) (ok_sc rfl) (by exact Cp.sc))) nofree ?_
                refine RunS.step (by exact And.intro rfl True.intro) (by exact True.intro) (LocG.of rfl (loc_copy (.inr rfl) (by decide) (by exact Cp.sc))) nofree ?_
                refine sw_ret ?_
                exact (And.intro (by refine bool_eq ?_; rw [Bool.eq_iff_iff]; simp only [deq_iff, ext_Cluster_iff]; simp_all [deq_iff, deq_no]) True.intro)
            · have sg6 := g6
              try simp only [decide_eq_true_eq, decide_eq_false_iff_not, bne_iff_ne, beq_iff_eq, Bool.not_eq_true', Bool.not_eq_false', ne_eq, bne_eq_false_iff_eq, beq_eq_false_iff_ne] at sg6
              refine RunS.step (by exact And.intro rfl True.intro) (by exact True.intro) (LocG.no (ops := _) rfl rfl (by decide) g6 rfl) nofree ?_
              refine RunS.step (by exact And.intro rfl True.intro) (by exact True.intro) (LocG.no (ops := _) rfl rfl (by decide) g6 rfl) nofree ?_
              refine RunS.step (by exact And.intro rfl True.intro) (by exact True.intro) (LocG.no (ops := _) rfl rfl (by decide) g6 rfl) nofree ?_
              refine RunS.step (by exact And.intro rfl True.intro) (by exact True.intro) (LocG.no (ops := _) rfl rfl (by decide) g6 rfl) nofree ?_
              refine RunS.step (by exact And.intro rfl True.intro) (by exact True.intro) (LocG.no (ops := _) rfl rfl (by decide) g6 rfl) nofree ?_
              refine RunS.step (by exact And.intro rfl True.intro) (by exact True.intro) (LocG.of rfl (loc_pick (z := .const (.bool false)) (by decide) (by rw [g6]; rfl) (by exact True.intro) (ok_sc rfl) (by exact Cp.sc))) nofree ?_
              refine RunS.step (by exact And.intro rfl True.intro) (by exact True.intro) (LocG.of rfl (loc_copy (.inl rfl) (by decide) (by exact Cp.sc))) nofree ?_
              refine RunS.cases (s := 52) rfl (fun g8 => nomatch g8) (fun g8 => ?_)
              refine RunS.step (by exact And.intro rfl True.intro) (by exact True.intro) (LocG.no (ops := _) rfl rfl (by decide) g8 rfl) nofree ?_
              refine RunS.step (by exact And.intro rfl True.intro) (by exact True.intro) (LocG.no (ops := _) rfl rfl (by decide) g8 rfl) nofree ?_
              refine RunS.step (by exact And.intro rfl True.intro) (by exact True.intro) (LocG.no (ops := _) rfl rfl (by decide) g8 rfl) nofree ?_
              refine RunS.step (by exact And.intro rfl True.intro) (by exact True.intro) (LocG.no (ops := _) rfl rfl (by decide) g8 rfl) nofree ?_
              refine RunS.step (by exact And.intro rfl True.intro) (by exact True.intro) (LocG.no (ops := _) rfl rfl (by decide) g8 rfl) nofree ?_
              refine RunS.step (by exact And.intro rfl True.intro) (by exact True.intro) (LocG.of rfl (loc_pick (z := .const (.bool false)) (by decide) (by rw [g8]; rfl) (by exact True.intro) (ok_sc rfl) (by exact Cp.sc))) nofree ?_
              refine RunS.step (by exact And.intro rfl True.intro) (by exact True.intro) (LocG.of rfl (loc_copy (.inr rfl) (by decide) (by exact Cp.sc))) nofree ?_
              refine sw_ret ?_
              exact (And.intro (by refine bool_eq ?_; rw [Bool.eq_iff_iff]; simp only [deq_iff, ext_Cluster_iff]; simp_all [deq_iff, deq_no]) True.intro)
          · have sg5 := g5
            try simp only [decide_eq_true_eq, decide_eq_false_iff_not, bne_iff_ne, beq_iff_eq, Bool.not_eq_true', Bool.not_eq_false', ne_eq, bne_eq_false_iff_eq, beq_eq_false_iff_ne] at sg5
            refine RunS.step (by exact And.intro rfl True.intro) (by exact True.intro) (LocG.no (ops := _) rfl rfl (by decide) g5 rfl) nofree ?_
            refine RunS.step (by exact And.intro rfl True.intro) (by exact True.intro) (LocG.no (ops := _) rfl rfl (by decide) g5 rfl) nofree ?_
            refine RunS.step (by exact And.intro rfl True.intro) (by exact True.intro) (LocG.no (ops := _) rfl rfl (by decide) g5 rfl) nofree ?_
            refine RunS.step (by exact And.intro rfl True.intro) (by exact True.intro) (LocG.no (ops := _) rfl rfl (by decide) g5 rfl) nofree ?_
            refine RunS.step (by exact And.intro rfl True.intro) (by exact True.intro) (LocG.no (ops := _) rfl rfl (by decide) g5 rfl) nofree ?_
            refine RunS.step (by exact And.intro rfl True.intro) (by exact True.intro) (LocG.of rfl (loc_pick (z := .const (.bool false)) (by decide) (by rw [g5]; rfl) (by exact True.intro) (ok_sc rfl) (by exact Cp.sc))) nofree ?_
            refine RunS.step (by exact And.intro rfl True.intro) (by exact True.intro) (LocG.of rfl (loc_copy (.inl rfl) (by decide) (by exact Cp.sc))) nofree ?_
            refine RunS.cases (s := 45) rfl (fun g9 => nomatch g9) (fun g9 => ?_)
            refine RunS.step (by exact And.intro rfl True.intro) (by exact True.intro) (LocG.no (ops := _) rfl rfl (by decide) g9 rfl) nofree ?_
            refine RunS.step (by exact And.intro rfl True.intro) (by exact True.intro) (LocG.no (ops := _) rfl rfl (by decide) g9 rfl) nofree ?_
            refine RunS.step (by exact And.intro rfl True.intro) (by exact True.intro) (LocG.no (ops := _) rfl rfl (by decide) g9 rfl) nofree ?_
            refine RunS.step (by exact And.intro rfl True.intro) (by exact True.intro) (LocG.no (ops := _) rfl rfl (by decide) g9 rfl) nofree ?_
            refine RunS.step (by exact And.intro rfl True.intro) (by exact True.intro) (LocG.no (ops := _) rfl rfl (by decide) g9 rfl) nofree ?_
            refine RunS.step (by exact And.intro rfl True.intro) (by exact True.intro) (LocG.of rfl (loc_pick (z := .const (.bool false)) (by decide) (by rw [g9]; rfl) (by exact True.intro) (ok_sc rfl) (by exact Cp.sc))) nofree ?_
            refine RunS.step (by exact And.intro rfl True.intro) (by exact True.intro) (LocG.of rfl (loc_copy (.inl rfl) (by decide) (by exact Cp.sc))) nofree ?_
            refine RunS.cases (s := 52) rfl (fun g10 => nomatch g10) (fun g10 => ?_)
            refine RunS.step (by exact And.intro rfl True.intro) (by exact True.intro) (LocG.no (ops := _) rfl rfl (by decide) g10 rfl) nofree ?_
            refine RunS.step (by exact And.intro rfl True.intro) (by exact True.intro) (LocG.no (ops := _) rfl rfl (by decide) g10 rfl) nofree ?_
            refine RunS.step (by exact And.intro rfl True.intro) (by exact True.intro) (LocG.no (ops := _) rfl rfl (by decide) g10 rfl) nofree ?_
            refine RunS.step (by exact And.intro rfl True.intro) (by exact True.intro) (LocG.no (ops := _) rfl rfl (by decide) g10 rfl) nofree ?_
            refine RunS.step (by exact And.intro rfl True.intro) (by exact True.intro) (LocG.no (ops := _) rfl rfl (by decide) g10 rfl) nofree ?_
            refine RunS.step (by exact And.intro rfl True.intro) (by exact True.intro) (LocG.of rfl (loc_pick (z := .const (.bool false)) (by decide) (by rw [g10]; rfl) (by exact True.intro) (ok_sc rfl) (by exact Cp.sc))) nofree ?_
            refine RunS.step (by exact And.intro rfl True.intro) (by exact True.intro) (LocG.of rfl (loc_copy (.inr rfl) (by decide) (by exact Cp.sc))) nofree ?_
            refine sw_ret ?_
            exact (And.intro (by refine bool_eq ?_; rw [Bool.eq_iff_iff]; simp only [deq_iff, ext_Cluster_iff]; simp_all [deq_iff, deq_no]) True.intro)
        · have sg4 := g4
          try simp only [decide_eq_true_eq, decide_eq_false_iff_not, bne_iff_ne, beq_iff_eq, Bool.not_eq_true', Bool.not_eq_false', ne_eq, bne_eq_false_iff_eq, beq_eq_false_iff_ne] at sg4
          refine RunS.step (by exact And.intro rfl True.intro) (by exact True.intro) (LocG.no (ops := _) rfl rfl (by decide) g4 rfl) nofree ?_
          refine RunS.step (by exact And.intro rfl True.intro) (by exact True.intro) (LocG.no (ops := _) rfl rfl (by decide) g4 rfl) nofree ?_
          refine RunS.step (by exact And.intro rfl True.intro) (by exact True.intro) (LocG.no (ops := _) rfl rfl (by decide) g4 rfl) nofree ?_
          refine RunS.step (by exact And.intro rfl True.intro) (by exact True.intro) (LocG.no (ops := _) rfl rfl (by decide) g4 rfl) nofree ?_
          refine RunS.step (by exact And.intro rfl True.intro) (by exact True.intro) (LocG.no (ops := _) rfl rfl (by decide) g4 rfl) nofree ?_
          refine RunS.step (by exact And.intro rfl True.intro) (by exact True.intro) (LocG.of rfl (loc_pick (z := .const (.bool false)) (by decide) (by rw [g4]; rfl) (by exact True.intro) (ok_sc rfl) (by exact Cp.sc))) nofree ?_
          refine RunS.step (by exact And.intro rfl True.intro) (by exact True.intro) (LocG.of rfl (loc_copy (.inl rfl) (by decide) (by exact Cp.sc))) nofree ?_
          refine RunS.cases (s := 38) rfl (fun g11 => nomatch g11) (fun g11 => ?_)
          refine RunS.step (by exact And.intro rfl True.intro) (by exact True.intro) (LocG.no (ops := _) rfl rfl (by decide) g11 rfl) nofree ?_
          refine RunS.step (by exact And.intro rfl True.intro) (by exact True.intro) (LocG.no (ops := _) rfl rfl (by decide) g11 rfl) nofree ?_
          refine RunS.step (by exact And.intro rfl True.intro) (by exact True.intro) (LocG.no (ops := _) rfl rfl (by decide) g11 rfl) nofree ?_
          refine RunS.step (by exact And.intro rfl True.intro) (by exact True.intro) (LocG.no (ops := _) rfl rfl (by decide) g11 rfl) nofree ?_
          refine RunS.step (by exact And.intro rfl True.intro) (by exact True.intro) (LocG.no (ops := _) rfl rfl (by decide) g11 rfl) nofree ?_
          refine RunS.step (by exact And.intro rfl True.intro) (by exact True.intro) (LocG.of rfl (loc_pick (z := .const (.bool false)) (by decide) (by rw [g11]; rfl) (by exact True.intro) (ok_sc rfl) (by exact Cp.sc))) nofree ?_
          refine RunS.step (by exact And.intro rfl True.intro) (by exact True.intro) (LocG.of rfl (loc_copy (.inl rfl) (by decide) (by exact Cp.sc))) nofree ?_
          refine RunS.cases (s := 45) rfl (fun g12 => nomatch g12) (fun g12 => ?_)
          refine RunS.step (by exact And.intro rfl True.intro) (by exact True.intro) (LocG.no (ops := _) rfl rfl (by decide) g12 rfl) nofree ?_
          refine RunS.step (by exact And.intro rfl True.intro) (by exact True.intro) (LocG.no (ops := _) rfl rfl (by decide) g12 rfl) nofree ?_
          refine RunS.step (by exact And.intro rfl True.intro) (by exact True.intro) (LocG.no (ops := _) rfl rfl (by decide) g12 rfl) nofree ?_
          refine RunS.step (by exact And.intro rfl True.intro) (by exact True.intro) (LocG.no (ops := _) rfl rfl (by decide) g12 rfl) nofree ?_
          refine RunS.step (by exact And.intro rfl True.intro) (by exact True.intro) (LocG.no (ops := _) rfl rfl (by decide) g12 rfl) nofree ?_
          refine RunS.step (by exact And.intro rfl True.intro) (by exact True.intro) (LocG.of rfl (loc_pick (z := .const (.bool false)) (by decide) (by rw [g12]; rfl) (by exact True.intro) (ok_sc rfl) (by exact Cp.sc))) nofree ?_
          refine RunS.step (by exact And.intro rfl True.intro) (by exact True.intro) (LocG.of rfl (loc_copy (.inl rfl) (by decide) (by exact Cp.sc))) nofree ?_
          refine RunS.cases (s := 52) rfl (fun g13 => nomatch g13) (fun g13 => ?_)
          refine RunS.step (by exact And.intro rfl True.intro) (by exact True.intro) (LocG.no (ops := _) rfl rfl (by decide) g13 rfl) nofree ?_
          refine RunS.step (by exact And.intro rfl True.intro) (by exact True.intro) (LocG.no (ops := _) rfl rfl (by decide) g13 rfl) nofree ?_
          refine RunS.step (by exact And.intro rfl True.intro) (by exact True.intro) (LocG.no (ops := _) rfl rfl (by decide) g13 rfl) nofree ?_
          refine RunS.step (by exact And.intro rfl True.intro) (by exact True.intro) (LocG.no (ops := _) rfl rfl (by decide) g13 rfl) nofree ?_
          refine RunS.step (by exact And.intro rfl True.intro) (by exact True.intro) (LocG.no (ops := _) rfl rfl (by decide) g13 rfl) nofree ?_
          refine RunS.step (by exact And.intro rfl True.intro) (by exact True.intro) (LocG.of rfl (loc_pick (z := .const (.bool false)) (by decide) (by rw [g13]; rfl) (by exact True.intro) (ok_sc rfl) (by exact Cp.sc))) nofree ?_
          refine RunS.step (by exact And.intro rfl True.intro) (by exact True.intro) (LocG.of rfl (loc_copy (.inr rfl) (by decide) (by exact Cp.sc))) nofree ?_
          refine sw_ret ?_
          exact (And.intro (by refine bool_eq ?_; rw [Bool.eq_iff_iff]; simp only [deq_iff, ext_Cluster_iff]; simp_all [deq_iff, deq_no]) True.intro)
      · have sg3 := g3
        try simp only [decide_eq_true_eq, decide_eq_false_iff_not, bne_iff_ne, beq_iff_eq, Bool.not_eq_true', Bool.not_eq_false', ne_eq, bne_eq_false_iff_eq, beq_eq_false_iff_ne] at sg3
        refine RunS.step (by exact And.intro rfl True.intro) (by exact True.intro) (LocG.no (ops := _) rfl rfl (by decide) g3 rfl) nofree ?_
        refine RunS.step (by exact And.intro rfl True.intro) (by exact True.intro) (LocG.no (ops := _) rfl rfl (by decide) g3 rfl) nofree ?_
        refine RunS.step (by exact And.intro rfl True.intro) (by exact True.intro) (LocG.no (ops := _) rfl rfl (by decide) g3 rfl) nofree ?_
        refine RunS.step (by exact And.intro rfl True.intro) (by exact True.intro) (LocG.no (ops := _) rfl rfl (by decide) g3 rfl) nofree ?_
        refine RunS.step (by exact And.intro rfl True.intro) (by exact True.intro) (LocG.no (ops := _) rfl rfl (by decide) g3 rfl) nofree ?_
        refine RunS.step (by exact And.intro rfl True.intro) (by exact True.intro) (LocG.of rfl (loc_pick (z := .const (.bool false)) (by decide) (by rw [g3]; rfl) (by exact True.intro) (ok_sc rfl) (by exact Cp.sc))) nofree ?_
        refine RunS.step (by exact And.intro rfl True.intro) (by exact True.intro) (LocG.of rfl (loc_copy (.inl rfl) (by decide) (by exact Cp.sc))) nofree ?_
        refine RunS.cases (s := 31) rfl (fun g14 => nomatch g14) (fun g14 => ?_)
        refine RunS.step (by exact And.intro rfl True.intro) (by exact True.intro) (LocG.no (ops := _) rfl rfl (by decide) g14 rfl) nofree ?_
        refine RunS.step (by exact And.intro rfl True.intro) (by exact True.intro) (LocG.no (ops := _) rfl rfl (by decide) g14 rfl) nofree ?_
        refine RunS.step (by exact And.intro rfl True.intro) (by exact True.intro) (LocG.no (ops := _) rfl rfl (by decide) g14 rfl) nofree ?_
        refine RunS.step (by exact And.intro rfl True.intro) (by exact True.intro) (LocG.no (ops := _) rfl rfl (by decide) g14 rfl) nofree ?_
        refine RunS.step (by exact And.intro rfl True.intro) (by exact True.intro) (LocG.no (ops := _) rfl rfl (by decide) g14 rfl) nofree ?_
        refine RunS.step (by exact And.intro rfl True.intro) (by exact True.intro) (LocG.of rfl (loc_pick (z := .const (.bool false)) (by decide) (by rw [g14]; rfl) (by exact True.intro) (ok_sc rfl) (by exact Cp.sc))) nofree ?_
        refine RunS.step (by exact And.intro rfl True.intro) (by exact True.intro) (LocG.of rfl (loc_copy (.inl rfl) (by decide) (by exact Cp.sc))) nofree ?_
        refine RunS.cases (s := 38) rfl (fun g15 => nomatch g15) (fun g15 => ?_)
        refine RunS.step (by exact And.intro rfl True.intro) (by exact True.intro) (LocG.no (ops := _) rfl rfl (by decide) g15 rfl) nofree ?_
        refine RunS.step (by exact And.intro rfl True.intro) (by exact True.intro) (LocG.no (ops := _) rfl rfl (by decide) g15 rfl) nofree ?_
        refine RunS.step (by exact And.intro rfl True.intro) (by exact True.intro) (LocG.no (ops := _) rfl rfl (by decide) g15 rfl) nofree ?_
        refine RunS.step (by exact And.intro rfl True.intro) (by exact True.intro) (LocG.no (ops := _) rfl rfl (by decide) g15 rfl) nofree ?_
        refine RunS.step (by exact And.intro rfl True.intro) (by exact True.intro) (LocG.no (ops := _) rfl rfl (by decide) g15 rfl) nofree ?_
        refine RunS.step (by exact And.intro rfl True.intro) (by exact True.intro) (LocG.of rfl (loc_pick (z := .const (.bool false)) (by decide) (by rw [g15]; rfl) (by exact True.intro) (ok_sc rfl) (by exact Cp.sc))) nofree ?_
        refine RunS.step (by exact And.intro rfl True.intro) (by exact True.intro) (LocG.of rfl (loc_copy (.inl rfl) (by decide) (by exact Cp.sc))) nofree ?_
        refine RunS.cases (s := 45) rfl (fun g16 => nomatch g16) (fun g16 => ?_)
        refine RunS.step (by exact And.intro rfl True.intro) (by exact True.intro) (LocG.no (ops := _) rfl rfl (by decide) g16 rfl) nofree ?_
        refine RunS.step (by exact And.intro rfl True.intro) (by exact True.intro) (LocG.no (ops := _) rfl rfl (by decide) g16 rfl) nofree ?_
        refine RunS.step (by exact And.intro rfl True.intro) (by exact True.intro) (LocG.no (ops := _) rfl rfl (by decide) g16 rfl) nofree ?_
        refine RunS.step (by exact And.intro rfl True.intro) (by exact True.intro) (LocG.no (ops := _) rfl rfl (by decide) g16 rfl) nofree ?_
        refine RunS.step (by exact And.intro rfl True.intro) (by exact True.intro) (LocG.no (ops := _) rfl rfl (by decide) g16 rfl) nofree ?_
        refine RunS.step (by exact And.intro rfl True.intro) (by exact True.intro) (LocG.of rfl (loc_pick (z := .const (.bool false)) (by decide) (by rw [g16]; rfl) (by exact True.intro) (ok_sc rfl) (by exact Cp.sc))) nofree ?_
        refine RunS.step (by exact And.intro rfl True.intro) (by exact True.intro) (LocG.of rfl (loc_copy (.inl rfl) (by decide) (by exact Cp.sc))) nofree ?_
        refine RunS.cases (s := 52) rfl (fun g17 => nomatch g17) (fun g17 => ?_)
        refine RunS.step (by exact And.intro rfl True.intro) (by exact True.intro) (LocG.no (ops := _) rfl rfl (by decide) g17 rfl) nofree ?_
        refine RunS.step (by exact And.intro rfl True.intro) (by exact True.intro) (LocG.no (ops := _) rfl rfl (by decide) g17 rfl) nofree ?_
        refine RunS.step (by exact And.intro rfl True.intro) (by exact True.intro) (LocG.no (ops := _) rfl rfl (by decide) g17 rfl) nofree ?_
        refine RunS.step (by exact And.intro rfl True.intro) (by exact True.intro) (LocG.no (ops := _) rfl rfl (by decide) g17 rfl) nofree ?_
        refine RunS.step (by exact And.intro rfl True.intro) (by exact True.intro) (LocG.no (ops := _) rfl rfl (by decide) g17 rfl) nofree ?_
        refine RunS.step (by exact And.intro rfl True.intro) (by exact True.intro) (LocG.of rfl (loc_pick (z := .const (.bool false)) (by decide) (by rw [g17]; rfl) (by exact True.intro) (ok_sc rfl) (by exact Cp.sc))) nofree ?_
        refine RunS.step (by exact And.intro rfl True.intro) (by exact True.intro) (LocG.of rfl (loc_copy (.inr rfl) (by decide) (by exact Cp.sc))) nofree ?_
        refine sw_ret ?_
        exact (And.intro (by refine bool_eq ?_; rw [Bool.eq_iff_iff]; simp only [deq_iff, ext_Cluster_iff]; simp_all [deq_iff, deq_no]) True.intro)
    · have sg2 := g2
      try simp only [decide_eq_true_eq, decide_eq_false_iff_not, bne_iff_ne, beq_iff_eq, Bool.not_eq_true', Bool.not_eq_false', ne_eq, bne_eq_false_iff_eq, beq_eq_false_iff_ne] at sg2
      refine RunS.step (by exact And.intro rfl True.intro) (by exact True.intro) (LocG.no (ops := _) rfl rfl (by decide) g2 rfl) nofree ?_
      refine RunS.step (by exact And.intro rfl True.intro) (by exact True.intro) (LocG.no (ops := _) rfl rfl (by decide) g2 rfl) nofree ?_
      refine RunS.step (by exact And.intro rfl True.intro) (by exact True.intro) (LocG.no (ops := _) rfl rfl (by decide) g2 rfl) nofree ?_
      refine RunS.step (by exact And.intro rfl True.intro) (by exact True.intro) (LocG.no (ops := _) rfl rfl (by decide) g2 rfl) nofree ?_
      refine RunS.step (by exact And.intro rfl True.intro) (by exact True.intro) (LocG.no (ops := _) rfl rfl (by decide) g2 rfl) nofree ?_
      refine RunS.step (by exact And.intro rfl True.intro) (by exact True.intro) (LocG.of rfl (loc_pick (z := .const (.bool false)) (by decide) (by rw [g2]; rfl) (by exact True.intro) (ok_sc rfl) (by exact Cp.sc))) nofree ?_
      refine RunS.step (by exact And.intro rfl True.intro) (by exact True.intro) (LocG.of rfl (loc_copy (.inl rfl) (by decide) (by exact Cp.sc))) nofree ?_
      refine RunS.cases (s := 24) rfl (fun g18 => nomatch g18) (fun g18 => ?_)
      refine RunS.step (by exact And.intro rfl True.intro) (by exact True.intro) (LocG.no (ops := _) rfl rfl (by decide) g18 rfl) nofree ?_
      refine RunS.step (by exact And.intro rfl True.intro) (by exact True.intro) (LocG.no (ops := _) rfl rfl (by decide) g18 rfl) nofree ?_
      refine RunS.step (by exact And.intro rfl True.intro) (by exact True.intro) (LocG.no (ops := _) rfl rfl (by decide) g18 rfl) nofree ?_
      refine RunS.step (by exact And.intro rfl True.intro) (by exact True.intro) (LocG.no (ops := _) rfl rfl (by decide) g18 rfl) nofree ?_
      refine RunS.step (by exact And.intro rfl True.intro) (by exact True.intro) (LocG.no (ops := _) rfl rfl (by decide) g18 rfl) nofree ?_
      refine RunS.step (by exact And.intro rfl True.intro) (by exact True.intro) (LocG.of rfl (loc_pick (z := .const (.bool false)) (by decide) (by rw [g18]; rfl) (by exact True.intro) (ok_sc rfl) (by exact Cp.sc))) nofree ?_
      refine RunS.step (by exact And.intro rfl True.intro) (by exact True.intro) (LocG.of rfl (loc_copy (.inl rfl) (by decide) (by exact Cp.sc))) nofree ?_
      refine RunS.cases (s := 31) rfl (fun g19 => nomatch g19) (fun g19 => ?_)
      refine RunS.step (by exact And.intro rfl True.intro) (by exact True.intro) (LocG.no (ops := _) rfl rfl (by decide) g19 rfl) nofree ?_
      refine RunS.step (by exact And.intro rfl True.intro) (by exact True.intro) (LocG.no (ops := _) rfl rfl (by decide) g19 rfl) nofree ?_
      refine RunS.step (by exact And.intro rfl True.intro) (by exact True.intro) (LocG.no (ops := _) rfl rfl (by decide) g19 rfl) nofree ?_
      refine RunS.step (by exact And.intro rfl True.intro) (by exact True.intro) (LocG.no (ops := _) rfl rfl (by decide) g19 rfl) nofree ?_
      refine RunS.step (by exact And.intro rfl True.intro) (by exact True.intro) (LocG.no (ops := _) rfl rfl (by decide) g19 rfl) nofree ?_
      refine RunS.step (by exact And.intro rfl True.intro) (by exact True.intro) (LocG.of rfl (loc_pick (z := .const (.bool false)) (by decide) (by rw [g19]; rfl) (by exact True.intro) (ok_sc rfl) (by exact Cp.sc))) nofree ?_
      refine RunS.step (by exact And.intro rfl True.intro) (by exact True.intro) (LocG.of rfl (loc_copy (.inl rfl) (by decide) (by exact Cp.sc))) nofree ?_
      refine RunS.cases (s := 38) rfl (fun g20 => nomatch g20) (fun g20 => ?_)
      refine RunS.step (by exact And.intro rfl True.intro) (by exact True.intro) (LocG.no (ops := _) rfl rfl (by decide) g20 rfl) nofree ?_
      refine RunS.step (by exact And.intro rfl True.intro) (by exact True.intro) (LocG.no (ops := _) rfl rfl (by decide) g20 rfl) nofree ?_
      refine RunS.step (by exact And.intro rfl True.intro) (by exact True.intro) (LocG.no (ops := _) rfl rfl (by decide) g20 rfl) nofree ?_
      refine RunS.step (by exact And.intro rfl True.intro) (by exact True.intro) (LocG.no (ops := _) rfl rfl (by decide) g20 rfl) nofree ?_
      refine RunS.step (by exact And.intro rfl True.intro) (by exact True.intro) (LocG.no (ops := _) rfl rfl (by decide) g20 rfl) nofree ?_
      refine RunS.step (by exact And.intro rfl True.intro) (by exact True.intro) (LocG.of rfl (loc_pick (z := .const (.bool false)) (by decide) (by rw [g20]; rfl) (by exact True.intro) (ok_sc rfl) (by exact Cp.sc))) nofree ?_
      refine RunS.step (by exact And.intro rfl True.intro) (by exact True.intro) (LocG.of rfl (loc_copy (.inl rfl) (by decide) (by exact Cp.sc))) nofree ?_
      refine RunS.cases (s := 45) rfl (fun g21 => nomatch g21) (fun g21 => ?_)
      refine RunS.step (by exact And.intro rfl True.intro) (by exact True.intro) (LocG.no (ops := _) rfl rfl (by decide) g21 rfl) nofree ?_
      refine RunS.step (by exact And.intro rfl True.intro) (by exact True.intro) (LocG.no (ops := _) rfl rfl (by decide) g21 rfl) nofree ?_
      refine RunS.step (by exact And.intro rfl True.intro) (by exact True.intro) (LocG.no (ops := _) rfl rfl (by decide) g21 rfl) nofree ?_
      refine RunS.step (by exact And.intro rfl True.intro) (by exact True.intro) (LocG.no (ops := _) rfl rfl (by decide) g21 rfl) nofree ?_
      refine RunS.step (by exact And.intro rfl True.intro) (by exact True.intro) (LocG.no (ops := _) rfl rfl (by decide) g21 rfl) nofree ?_
      refine RunS.step (by exact And.intro rfl True.intro) (by exact True.intro) (LocG.of rfl (loc_pick (z := .const (.bool false)) (by decide) (by rw [g21]; rfl) (by exact True.intro) (ok_sc rfl) (by exact Cp.sc))) nofree ?_
      refine RunS.step (by exact And.intro rfl True.intro) (by exact True.intro) (LocG.of rfl (loc_copy (.inl rfl) (by decide) (by exact Cp.sc))) nofree ?_
      refine RunS.cases (s := 52) rfl (fun g22 => nomatch g22) (fun g22 => ?_)
      refine RunS.step (by exact And.intro rfl True.intro) (by exact True.intro) (LocG.no (ops := _) rfl rfl (by decide) g22 rfl) nofree ?_
      refine RunS.step (by exact And.intro rfl True.intro) (by exact True.intro) (LocG.no (ops := _) rfl rfl (by decide) g22 rfl) nofree ?_
      refine RunS.step (by exact And.intro rfl True.intro) (by exact True.intro) (LocG.no (ops := _) rfl rfl (by decide) g22 rfl) nofree ?_
      refine RunS.step (by exact And.intro rfl True.intro) (by exact True.intro) (LocG.no (ops := _) rfl rfl (by decide) g22 rfl) nofree ?_
      refine RunS.step (by exact And.intro rfl True.intro) (by exact True.intro) (LocG.no (ops := _) rfl rfl (by decide) g22 rfl) nofree ?_
      refine RunS.step (by exact And.intro rfl True.intro) (by exact True.intro) (LocG.of rfl (loc_pick (z := .const (.bool false)) (by decide) (by rw [g22]; rfl) (by exact True.intro) (ok_sc rfl) (by exact Cp.sc))) nofree ?_
      refine RunS.step (by exact And.intro rfl True.intro) (by exact True.intro) (LocG.of rfl (loc_copy (.inr rfl) (by decide) (by exact Cp.sc))) nofree ?_
      refine sw_ret ?_
      exact (And.intro (by refine bool_eq ?_; rw [Bool.eq_iff_iff]; simp only [deq_iff, ext_Cluster_iff]; simp_all [deq_iff, deq_no]) True.intro)
  · have sg1 := g1
    try simp only [decide_eq_true_eq, decide_eq_false_iff_not, bne_iff_ne, beq_iff_eq, Bool.not_eq_true', Bool.not_eq_false', ne_eq, bne_eq_false_iff_eq, beq_eq_false_iff_ne] at sg1
    refine RunS.step (by exact And.intro rfl True.intro) (by exact True.intro) (LocG.no (ops := _) rfl rfl (by decide) g1 rfl) nofree ?_
    refine RunS.step (by exact And.intro rfl True.intro) (by exact True.intro) (LocG.no (ops := _) rfl rfl (by decide) g1 rfl) nofree ?_
    refine RunS.step (by exact And.intro rfl True.intro) (by exact True.intro) (LocG.no (ops := _) rfl rfl (by decide) g1 rfl) nofree ?_
    refine RunS.step (by exact And.intro rfl True.intro) (by exact True.intro) (LocG.no (ops := _) rfl rfl (by decide) g1 rfl) nofree ?_
    refine RunS.step (by exact And.intro rfl True.intro) (by exact True.intro) (LocG.no (ops := _) rfl rfl (by decide) g1 rfl) nofree ?_
    refine RunS.step (by exact And.intro rfl True.intro) (by exact True.intro) (LocG.of rfl (loc_pick (z := .const (.bool false)) (by decide) (by rw [g1]; rfl) (by exact True.intro) (ok_sc rfl) (by exact Cp.sc))) nofree ?_
    refine RunS.step (by exact And.intro rfl True.intro) (by exact True.intro) (LocG.of rfl (loc_copy (.inl rfl) (by decide) (by exact Cp.sc))) nofree ?_
    refine RunS.cases (s := 17) rfl (fun g23 => nomatch g23) (fun g23 => ?_)
    refine RunS.step (by exact And.intro rfl True.intro) (by exact True.intro) (LocG.no (ops := _) rfl rfl (by decide) g23 rfl) nofree ?_
    refine RunS.step (by exact And.intro rfl True.intro) (by exact True.intro) (LocG.no (ops := _) rfl rfl (by decide) g23 rfl) nofree ?_
    refine RunS.step (by exact And.intro rfl True.intro) (by exact True.intro) (LocG.no (ops := _) rfl rfl (by decide) g23 rfl) nofree ?_
    refine RunS.step (by exact And.intro rfl True.intro) (by exact True.intro) (LocG.no (ops := _) rfl rfl (by decide) g23 rfl) nofree ?_
    refine RunS.step (by exact And.intro rfl True.intro) (by exact True.intro) (LocG.no (ops := _) rfl rfl (by decide) g23 rfl) nofree ?_
    refine RunS.step (by exact And.intro rfl True.intro) (by exact True.intro) (LocG.of rfl (loc_pick (z := .const (.bool false)) (by decide) (by rw [g23]; rfl) (by exact True.intro) (ok_sc rfl) (by exact Cp.sc))) nofree ?_
    refine RunS.step (by exact And.intro rfl True.intro) (by exact True.intro) (LocG.of rfl (loc_copy (.inl rfl) (by decide) (by exact Cp.sc))) nofree ?_
    refine RunS.cases (s := 24) rfl (fun g24 => nomatch g24) (fun g24 => ?_)
    refine RunS.step (by exact And.intro rfl True.intro) (by exact True.intro) (LocG.no (ops := _) rfl rfl (by decide) g24 rfl) nofree ?_
    refine RunS.step (by exact And.intro rfl True.intro) (by exact True.intro) (LocG.no (ops := _) rfl rfl (by decide) g24 rfl) nofree ?_
    refine RunS.step (by exact And.intro rfl True.intro) (by exact True.intro) (LocG.no (ops := _) rfl rfl (by decide) g24 rfl) nofree ?_
    refine RunS.step (by exact And.intro rfl True.intro) (by exact True.intro) (LocG.no (ops := _) rfl rfl (by decide) g24 rfl) nofree ?_
    refine RunS.step (by exact And.intro rfl True.intro) (by exact True.intro) (LocG.no (ops := _) rfl rfl (by decide) g24 rfl) nofree ?_
    refine RunS.step (by exact And.intro rfl True.intro) (by exact True.intro) (LocG.of rfl (loc_pick (z := .const (.bool false)) (by decide) (by rw [g24]; rfl) (by exact True.intro) (ok_sc rfl) (by exact Cp.sc))) nofree ?_
    refine RunS.step (by exact And.intro rfl True.intro) (by exact True.intro) (LocG.of rfl (loc_copy (.inl rfl) (by decide) (by exact Cp.sc))) nofree ?_
    refine RunS.cases (s := 31) rfl (fun g25 => nomatch g25) (fun g25 => ?_)
    refine RunS.step (by exact And.intro rfl True.intro) (by exact True.intro) (LocG.no (ops := _) rfl rfl (by decide) g25 rfl) nofree ?_
    refine RunS.step (by exact And.intro rfl True.intro) (by exact True.intro) (LocG.no (ops := _) rfl rfl (by decide) g25 rfl) nofree ?_
    refine RunS.step (by exact And.intro rfl True.intro) (by exact True.intro) (LocG.no (ops := _) rfl rfl (by decide) g25 rfl) nofree ?_
    refine RunS.step (by exact And.intro rfl True.intro) (by exact True.intro) (LocG.no (ops := _) rfl rfl (by decide) g25 rfl) nofree ?_
    refine RunS.step (by exact And.intro rfl True.intro) (by exact True.intro) (LocG.no (ops := _) rfl rfl (by decide) g25 rfl) nofree ?_
    refine RunS.step (by exact And.intro rfl True.intro) (by exact True.intro) (LocG.of rfl (loc_pick (z := .const (.bool false)) (by decide) (by rw [g25]; rfl) (by exact True.intro) (ok_sc rfl) (by exact Cp.sc))) nofree ?_
    refine RunS.step (by exact And.intro rfl True.intro) (by exact True.intro) (LocG.of rfl (loc_copy (.inl rfl) (by decide) (by exact Cp.sc))) nofree ?_
    refine RunS.cases (s := 38) rfl (fun g26 => nomatch g26) (fun g26 => ?_)
    refine RunS.step (by exact And.intro rfl True.intro) (by exact True.intro) (LocG.no (ops := _) rfl rfl (by decide) g26 rfl) nofree ?_
    refine RunS.step (by exact And.intro rfl True.intro) (by exact True.intro) (LocG.no (ops := _) rfl rfl (by decide) g26 rfl) nofree ?_
    refine RunS.step (by exact And.intro rfl True.intro) (by exact True.intro) (LocG.no (ops := _) rfl rfl (by decide) g26 rfl) nofree ?_
    refine RunS.step (by exact And.intro rfl True.intro) (by exact True.intro) (LocG.no (ops := _) rfl rfl (by decide) g26 rfl) nofree ?_
    refine RunS.step (by exact And.intro rfl True.intro) (by exact True.intro) (LocG.no (ops := _) rfl rfl (by decide) g26 rfl) nofree ?_
    refine RunS.step (by exact And.intro rfl True.intro) (by exact True.intro) (LocG.of rfl (loc_pick (z := .const (.bool false)) (by decide) (by rw [g26]; rfl) (by exact True.intro) (ok_sc rfl) (by exact Cp.sc))) nofree ?_
    refine RunS.step (by exact And.intro rfl True.intro) (by exact True.intro) (LocG.of rfl (loc_copy (.inl rfl) (by decide) (by exact Cp.sc))) nofree ?_
    refine RunS.cases (s := 45) rfl (fun g27 => nomatch g27) (fun g27 => ?_)
    refine RunS.step (by exact And.intro rfl True.intro) (by exact True.intro) (LocG.no (ops := _) rfl rfl (by decide) g27 rfl) nofree ?_
    refine RunS.step (by exact And.intro rfl True.intro) (by exact True.intro) (LocG.no (ops := _) rfl rfl (by decide) g27 rfl) nofree ?_
    refine RunS.step (by exact And.intro rfl True.intro) (by exact True.intro) (LocG.no (ops := _) rfl rfl (by decide) g27 rfl) nofree ?_
    refine RunS.step (by exact And.intro rfl True.intro) (by exact True.intro) (LocG.no (ops := _) rfl rfl (by decide) g27 rfl) nofree ?_
    refine RunS.step (by exact And.intro rfl True.intro) (by exact True.intro) (LocG.no (ops := _) rfl rfl (by decide) g27 rfl) nofree ?_
    refine RunS.step (by exact And.intro rfl True.intro) (by exact True.intro) (LocG.of rfl (loc_pick (z := .const (.bool false)) (by decide) (by rw [g27]; rfl) (by exact True.intro) (ok_sc rfl) (by exact Cp.sc))) nofree ?_
    refine RunS.step (by exact And.intro rfl True.intro) (by exact True.intro) (LocG.of rfl (loc_copy (.inl rfl) (by decide) (by exact Cp.sc))) nofree ?_
    refine RunS.cases (s := 52) rfl (fun g28 => nomatch g28) (fun g28 => ?_)
    refine RunS.step (by exact And.intro rfl True.intro) (by exact True.intro) (LocG.no (ops := _) rfl rfl (by decide) g28 rfl) nofree ?_
    refine RunS.step (by exact And.intro rfl True.intro) (by exact True.intro) (LocG.no (ops := _) rfl rfl (by decide) g28 rfl) nofree ?_
    refine RunS.step (by exact And.intro rfl True.intro) (by exact True.intro) (LocG.no (ops := _) rfl rfl (by decide) g28 rfl) nofree ?_
    refine RunS.step (by exact And.intro rfl True.intro) (by exact True.intro) (LocG.no (ops := _) rfl rfl (by decide) g28 rfl) nofree ?_
    refine RunS.step (by exact And.intro rfl True.intro) (by exact True.intro) (LocG.no (ops := _) rfl rfl (by decide) g28 rfl) nofree ?_
    refine RunS.step (by exact And.intro rfl True.intro) (by exact True.intro) (LocG.of rfl (loc_pick (z := .const (.bool false)) (by decide) (by rw [g28]; rfl) (by exact True.intro) (ok_sc rfl) (by exact Cp.sc))) nofree ?_
    refine RunS.step (by exact And.intro rfl True.intro) (by exact True.intro) (LocG.of rfl (loc_copy (.inr rfl) (by decide) (by exact Cp.sc))) nofree ?_
    refine sw_ret ?_
    exact (And.intro (by refine bool_eq ?_; rw [Bool.eq_iff_iff]; simp only [deq_iff, ext_Cluster_iff]; simp_all [deq_iff, deq_no]) True.intro)
theorem spec_EqualClusters {p3 p4 p9 p10 p13 p14 p18 p19 p24 p25 p28 p29 : Fl} {x : Cluster} {y : Cluster}  : SCall Try.prog 40 [(true, [PV.val (vI x.Query.Id), PV.val (vI x.Query.Tenant), PV.sl .v (x.Query.Conds.map cCond), PV.sl .v (x.Query.Out.map cInt), PV.sl .v (x.Parts.map (cRowS p3 p4)), PV.sl .v (x.Up.map cBool), PV.sl .v (x.At.map cInt), PV.sl .v (x.Pos.map cInt), PV.sl .v (x.Buffer.map (cRowS p9 p10)), PV.sl .v (x.Done.map cInt), PV.sl .v (x.Rows.map (cRowS p13 p14))]), (true, [PV.val (vI y.Query.Id), PV.val (vI y.Query.Tenant), PV.sl .v (y.Query.Conds.map cCond), PV.sl .v (y.Query.Out.map cInt), PV.sl .v (y.Parts.map (cRowS p18 p19)), PV.sl .v (y.Up.map cBool), PV.sl .v (y.At.map cInt), PV.sl .v (y.Pos.map cInt), PV.sl .v (y.Buffer.map (cRowS p24 p25)), PV.sl .v (y.Done.map cInt), PV.sl .v (y.Rows.map (cRowS p28 p29))])] (resRV [(false, [PV.val (.bool (deq x y))])]) := by
  refine scall_of (rs := [(false, [PV.val (.bool (deq x y))])]) Try.func40 rfl (Nat.le_of_ble_eq_true rfl) (borA_cons (BorL.cons (PV.bor_val _) (BorL.cons (PV.bor_val _) (BorL.cons (PV.bor_sl _) (BorL.cons (PV.bor_sl _) (BorL.cons (PV.bor_sl _) (BorL.cons (PV.bor_sl _) (BorL.cons (PV.bor_sl _) (BorL.cons (PV.bor_sl _) (BorL.cons (PV.bor_sl _) (BorL.cons (PV.bor_sl _) (BorL.cons (PV.bor_sl _) BorL.nil))))))))))) (borA_cons (BorL.cons (PV.bor_val _) (BorL.cons (PV.bor_val _) (BorL.cons (PV.bor_sl _) (BorL.cons (PV.bor_sl _) (BorL.cons (PV.bor_sl _) (BorL.cons (PV.bor_sl _) (BorL.cons (PV.bor_sl _) (BorL.cons (PV.bor_sl _) (BorL.cons (PV.bor_sl _) (BorL.cons (PV.bor_sl _) (BorL.cons (PV.bor_sl _) BorL.nil))))))))))) borA_nil)) ?_
  intro h0 w0 Fz0
  refine sw_slen (s := 0) (j := 2) rfl rfl fun hl0_2 => ?_
  try rw [List.length_map] at hl0_2
  refine sw_slen (s := 0) (j := 3) rfl rfl fun hl0_3 => ?_
  try rw [List.length_map] at hl0_3
  refine sw_slen (s := 0) (j := 4) rfl rfl fun hl0_4 => ?_
  try rw [List.length_map] at hl0_4
  refine sw_slen (s := 0) (j := 5) rfl rfl fun hl0_5 => ?_
  try rw [List.length_map] at hl0_5
  refine sw_slen (s := 0) (j := 6) rfl rfl fun hl0_6 => ?_
  try rw [List.length_map] at hl0_6
  refine sw_slen (s := 0) (j := 7) rfl rfl fun hl0_7 => ?_
  try rw [List.length_map] at hl0_7
  refine sw_slen (s := 0) (j := 8) rfl rfl fun hl0_8 => ?_
  try rw [List.length_map] at hl0_8
  refine sw_slen (s := 0) (j := 9) rfl rfl fun hl0_9 => ?_
  try rw [List.length_map] at hl0_9
  refine sw_slen (s := 0) (j := 10) rfl rfl fun hl0_10 => ?_
  try rw [List.length_map] at hl0_10
  refine sw_slen (s := 1) (j := 2) rfl rfl fun hl1_2 => ?_
  try rw [List.length_map] at hl1_2
  refine sw_slen (s := 1) (j := 3) rfl rfl fun hl1_3 => ?_
  try rw [List.length_map] at hl1_3
  refine sw_slen (s := 1) (j := 4) rfl rfl fun hl1_4 => ?_
  try rw [List.length_map] at hl1_4
  refine sw_slen (s := 1) (j := 5) rfl rfl fun hl1_5 => ?_
  try rw [List.length_map] at hl1_5
  refine sw_slen (s := 1) (j := 6) rfl rfl fun hl1_6 => ?_
  try rw [List.length_map] at hl1_6
  refine sw_slen (s := 1) (j := 7) rfl rfl fun hl1_7 => ?_
  try rw [List.length_map] at hl1_7
  refine sw_slen (s := 1) (j := 8) rfl rfl fun hl1_8 => ?_
  try rw [List.length_map] at hl1_8
  refine sw_slen (s := 1) (j := 9) rfl rfl fun hl1_9 => ?_
  try rw [List.length_map] at hl1_9
  refine sw_slen (s := 1) (j := 10) rfl rfl fun hl1_10 => ?_
  try rw [List.length_map] at hl1_10
  refine sw_seq ?_
  refine sw_reg ?_
  refine RunS.step (by exact And.intro rfl True.intro) (by exact True.intro) (LocG.of rfl (loc_box (ag := true) (cs := [PV.val _, PV.val _, PV.sl _ _, PV.sl _ _, PV.sl _ _, PV.sl _ _, PV.sl _ _, PV.sl _ _, PV.sl _ _, PV.sl _ _, PV.sl _ _]) (by decide) (by exact True.intro))) (free1 (Free.of_ rfl)) ?_
  refine RunS.step (by exact And.intro rfl True.intro) (by exact True.intro) (LocG.of rfl (loc_box (ag := true) (cs := [PV.val _, PV.val _, PV.sl _ _, PV.sl _ _, PV.sl _ _, PV.sl _ _, PV.sl _ _, PV.sl _ _, PV.sl _ _, PV.sl _ _, PV.sl _ _]) (by decide) (by exact True.intro))) (free1 (Free.app (Free.of_ rfl) rfl)) ?_
  refine RunS.step (by exact True.intro) (by exact True.intro) (LocG.of rfl (loc_const (.inr rfl) (by decide) (ok_sc rfl))) nofree ?_
  refine sw_seq ?_
  refine sw_seq ?_
  refine sw_of (l := [(2, RV.ptr 2 0), (3, RV.ptr 3 0), (4, RV.sv false [PV.val _])]) (b := [(2, (81, [PV.val _, PV.val _, PV.sl _ _, PV.sl _ _, PV.sl _ _, PV.sl _ _, PV.sl _ _, PV.sl _ _, PV.sl _ _, PV.sl _ _, PV.sl _ _])), (3, (81, [PV.val _, PV.val _, PV.sl _ _, PV.sl _ _, PV.sl _ _, PV.sl _ _, PV.sl _ _, PV.sl _ _, PV.sl _ _, PV.sl _ _, PV.sl _ _]))]) (by exact And.intro rfl (And.intro rfl (And.intro rfl True.intro))) (by exact And.intro rfl (And.intro rfl True.intro)) ?_
  refine sw_reg ?_
  refine RunS.step (by exact And.intro rfl True.intro) (by exact True.intro) (LocG.of rfl (loc_field (by decide) fd_81_0)) nofree ?_
  refine RunS.step (by exact And.intro rfl True.intro) (by exact And.intro rfl True.intro) (LocG.of rfl (loc_load (qs := [PV.val _, PV.val _, PV.sl .v _, PV.sl .v _]) (by decide) ty_56 (fun h => nomatch h) (by exact Nat.le_of_ble_eq_true rfl) (by exact (ToL.cons (PV.To.refl _) (ToL.cons (PV.To.refl _) (ToL.cons PV.to_none (ToL.cons PV.to_none ToL.nil))))) (by exact (BorL.cons (PV.bor_val _) (BorL.cons (PV.bor_val _) (BorL.cons (PV.bor_sl _) (BorL.cons (PV.bor_sl _) BorL.nil))))))) nofree ?_
  refine RunS.step (by exact And.intro rfl True.intro) (by exact True.intro) (LocG.of rfl (loc_field (by decide) fd_81_0)) nofree ?_
  refine RunS.step (by exact And.intro rfl True.intro) (by exact And.intro rfl True.intro) (LocG.of rfl (loc_load (qs := [PV.val _, PV.val _, PV.sl .v _, PV.sl .v _]) (by decide) ty_56 (fun h => nomatch h) (by exact Nat.le_of_ble_eq_true rfl) (by exact (ToL.cons (PV.To.refl _) (ToL.cons (PV.To.refl _) (ToL.cons PV.to_none (ToL.cons PV.to_none ToL.nil))))) (by exact (BorL.cons (PV.bor_val _) (BorL.cons (PV.bor_val _) (BorL.cons (PV.bor_sl _) (BorL.cons (PV.bor_sl _) BorL.nil))))))) nofree ?_
  refine RunS.step (by exact And.intro rfl (And.intro rfl True.intro)) (by exact True.intro) (LocG.of rfl (loc_call (qs := [(true, [PV.val _, PV.val _, PV.sl _ _, PV.sl _ _]), (true, [PV.val _, PV.val _, PV.sl _ _, PV.sl _ _])]) (as_ := [(true, [PV.val _, PV.val _, PV.sl .v _, PV.sl .v _]), (true, [PV.val _, PV.val _, PV.sl .v _, PV.sl .v _])]) (by decide) c_112 (by exact (And.intro (by exact True.intro) (And.intro (by exact True.intro) True.intro))) (by exact (And.intro (And.intro rfl (ToL.cons (PV.To.refl _) (ToL.cons (PV.To.refl _) (ToL.cons PV.to_none (ToL.cons PV.to_none ToL.nil))))) (And.intro (And.intro rfl (ToL.cons (PV.To.refl _) (ToL.cons (PV.To.refl _) (ToL.cons PV.to_none (ToL.cons PV.to_none ToL.nil))))) True.intro))) (by exact spec_l9SameQuery))) nofree ?_
  refine RunS.step (by exact And.intro rfl True.intro) (by exact True.intro) (LocG.of rfl (loc_not (by decide))) nofree ?_
  refine RunS.step (by exact And.intro rfl True.intro) (by exact True.intro) (LocG.of rfl (loc_copy (.inl rfl) (by decide) (by exact Cp.sc))) nofree ?_
  refine RunS.cases (s := 12) rfl (fun g1 => ?_) (fun g1 => ?_)
  · have sg1 := g1
    try simp only [decide_eq_true_eq, decide_eq_false_iff_not, bne_iff_ne, beq_iff_eq, Bool.not_eq_true', Bool.not_eq_false', ne_eq, bne_eq_false_iff_eq, beq_eq_false_iff_ne] at sg1
    refine RunS.step (by exact And.intro rfl True.intro) (by exact True.intro) (LocG.no (ops := _) rfl rfl (by decide) g1 rfl) nofree ?_
    refine RunS.step (by exact And.intro rfl True.intro) (by exact True.intro) (LocG.no (ops := _) rfl rfl (by decide) g1 rfl) nofree ?_
    refine RunS.step (by exact And.intro rfl True.intro) (by exact True.intro) (LocG.no (ops := _) rfl rfl (by decide) g1 rfl) nofree ?_
    refine RunS.step (by exact And.intro rfl True.intro) (by exact True.intro) (LocG.no (ops := _) rfl rfl (by decide) g1 rfl) nofree ?_
    refine RunS.step (by exact And.intro rfl True.intro) (by exact True.intro) (LocG.no (ops := _) rfl rfl (by decide) g1 rfl) nofree ?_
    refine RunS.step (by exact And.intro rfl True.intro) (by exact True.intro) (LocG.no (ops := _) rfl rfl (by decide) g1 rfl) nofree ?_
    refine RunS.step (by exact And.intro rfl True.intro) (by exact True.intro) (LocG.of rfl (loc_pick (z := .const (.bool true)) (by decide) (by rw [g1]; rfl) (by exact True.intro) (ok_sc rfl) (by exact Cp.sc))) nofree ?_
    refine RunS.step (by exact And.intro rfl True.intro) (by exact True.intro) (LocG.of rfl (loc_copy (.inl rfl) (by decide) (by exact Cp.sc))) nofree ?_
    refine RunS.cases (s := 20) rfl (fun g2 => ?_) (fun g2 => nomatch g2)
    refine RunS.step (by exact And.intro rfl True.intro) (by exact True.intro) (LocG.no (ops := _) rfl rfl (by decide) g2 rfl) nofree ?_
    refine RunS.step (by exact And.intro rfl True.intro) (by exact True.intro) (LocG.no (ops := _) rfl rfl (by decide) g2 rfl) nofree ?_
    refine RunS.step (by exact And.intro rfl True.intro) (by exact True.intro) (LocG.no (ops := _) rfl rfl (by decide) g2 rfl) nofree ?_
    refine RunS.step (by exact And.intro rfl True.intro) (by exact True.intro) (LocG.no (ops := _) rfl rfl (by decide) g2 rfl) nofree ?_
    refine RunS.step (by exact And.intro rfl True.intro) (by exact True.intro) (LocG.no (ops := _) rfl rfl (by decide) g2 rfl) nofree ?_
    refine RunS.step (by exact And.intro rfl True.intro) (by exact True.intro) (LocG.no (ops := _) rfl rfl (by decide) g2 rfl) nofree ?_
    refine RunS.step (by exact And.intro rfl True.intro) (by exact True.intro) (LocG.no (ops := _) rfl rfl (by decide) g2 rfl) nofree ?_
    refine RunS.step (by exact And.intro rfl True.intro) (by exact True.intro) (LocG.of rfl (loc_pick (z := .const (.bool true)) (by decide) (by rw [g2]; rfl) (by exact True.intro) (ok_sc rfl) (by exact Cp.sc))) nofree ?_
    refine RunS.step (by exact And.intro rfl True.intro) (by exact True.intro) (LocG.of rfl (loc_copy (.inl rfl) (by decide) (by exact Cp.sc))) nofree ?_
    refine RunS.cases (s := 29) rfl (fun g3 => ?_) (fun g3 => nomatch g3)
    refine RunS.step (by exact And.intro rfl True.intro) (by exact True.intro) (LocG.no (ops := _) rfl rfl (by decide) g3 rfl) nofree ?_
    refine RunS.step (by exact And.intro rfl True.intro) (by exact True.intro) (LocG.no (ops := _) rfl rfl (by decide) g3 rfl) nofree ?_
    refine RunS.step (by exact And.intro rfl True.intro) (by exact True.intro) (LocG.no (ops := _) rfl rfl (by decide) g3 rfl) nofree ?_
    refine RunS.step (by exact And.intro rfl True.intro) (by exact True.intro) (LocG.no (ops := _) rfl rfl (by decide) g3 rfl) nofree ?_
    refine RunS.step (by exact And.intro rfl True.intro) (by exact True.intro) (LocG.no (ops := _) rfl rfl (by decide) g3 rfl) nofree ?_
    refine RunS.step (by exact And.intro rfl True.intro) (by exact True.intro) (LocG.no (ops := _) rfl rfl (by decide) g3 rfl) nofree ?_
    refine RunS.step (by exact And.intro rfl True.intro) (by exact True.intro) (LocG.of rfl (loc_pick (z := .const (.bool true)) (by decide) (by rw [g3]; rfl) (by exact True.intro) (ok_sc rfl) (by exact Cp.sc))) nofree ?_
    refine RunS.step (by exact And.intro rfl True.intro) (by exact True.intro) (LocG.of rfl (loc_copy (.inl rfl) (by decide) (by exact Cp.sc))) nofree ?_
    refine RunS.cases (s := 37) rfl (fun g4 => ?_) (fun g4 => nomatch g4)
    refine RunS.step (by exact And.intro rfl True.intro) (by exact True.intro) (LocG.no (ops := _) rfl rfl (by decide) g4 rfl) nofree ?_
    refine RunS.step (by exact And.intro rfl True.intro) (by exact True.intro) (LocG.no (ops := _) rfl rfl (by decide) g4 rfl) nofree ?_
    refine RunS.step (by exact And.intro rfl True.intro) (by exact True.intro) (LocG.no (ops := _) rfl rfl (by decide) g4 rfl) nofree ?_
    refine RunS.step (by exact And.intro rfl True.intro) (by exact True.intro) (LocG.no (ops := _) rfl rfl (by decide) g4 rfl) nofree ?_
    refine RunS.step (by exact And.intro rfl True.intro) (by exact True.intro) (LocG.no (ops := _) rfl rfl (by decide) g4 rfl) nofree ?_
    refine RunS.step (by exact And.intro rfl True.intro) (by exact True.intro) (LocG.no (ops := _) rfl rfl (by decide) g4 rfl) nofree ?_
    refine RunS.step (by exact And.intro rfl True.intro) (by exact True.intro) (LocG.of rfl (loc_pick (z := .const (.bool true)) (by decide) (by rw [g4]; rfl) (by exact True.intro) (ok_sc rfl) (by exact Cp.sc))) nofree ?_
    refine RunS.step (by exact And.intro rfl True.intro) (by exact True.intro) (LocG.of rfl (loc_copy (.inl rfl) (by decide) (by exact Cp.sc))) nofree ?_
    refine RunS.cases (s := 45) rfl (fun g5 => ?_) (fun g5 => nomatch g5)
    refine RunS.step (by exact And.intro rfl True.intro) (by exact True.intro) (LocG.no (ops := _) rfl rfl (by decide) g5 rfl) nofree ?_
    refine RunS.step (by exact And.intro rfl True.intro) (by exact True.intro) (LocG.no (ops := _) rfl rfl (by decide) g5 rfl) nofree ?_
    refine RunS.step (by exact And.intro rfl True.intro) (by exact True.intro) (LocG.no (ops := _) rfl rfl (by decide) g5 rfl) nofree ?_
    refine RunS.step (by exact And.intro rfl True.intro) (by exact True.intro) (LocG.no (ops := _) rfl rfl (by decide) g5 rfl) nofree ?_
    refine RunS.step (by exact And.intro rfl True.intro) (by exact True.intro) (LocG.no (ops := _) rfl rfl (by decide) g5 rfl) nofree ?_
    refine RunS.step (by exact And.intro rfl True.intro) (by exact True.intro) (LocG.no (ops := _) rfl rfl (by decide) g5 rfl) nofree ?_
    refine RunS.step (by exact And.intro rfl True.intro) (by exact True.intro) (LocG.of rfl (loc_pick (z := .const (.bool true)) (by decide) (by rw [g5]; rfl) (by exact True.intro) (ok_sc rfl) (by exact Cp.sc))) nofree ?_
    refine RunS.step (by exact And.intro rfl True.intro) (by exact True.intro) (LocG.of rfl (loc_copy (.inl rfl) (by decide) (by exact Cp.sc))) nofree ?_
    refine RunS.cases (s := 53) rfl (fun g6 => ?_) (fun g6 => nomatch g6)
    refine RunS.step (by exact And.intro rfl True.intro) (by exact True.intro) (LocG.no (ops := _) rfl rfl (by decide) g6 rfl) nofree ?_
    refine RunS.step (by exact And.intro rfl True.intro) (by exact True.intro) (LocG.no (ops := _) rfl rfl (by decide) g6 rfl) nofree ?_
    refine RunS.step (by exact And.intro rfl True.intro) (by exact True.intro) (LocG.no (ops := _) rfl rfl (by decide) g6 rfl) nofree ?_
    refine RunS.step (by exact And.intro rfl True.intro) (by exact True.intro) (LocG.no (ops := _) rfl rfl (by decide) g6 rfl) nofree ?_
    refine RunS.step (by exact And.intro rfl True.intro) (by exact True.intro) (LocG.no (ops := _) rfl rfl (by decide) g6 rfl) nofree ?_
    refine RunS.step (by exact And.intro rfl True.intro) (by exact True.intro) (LocG.no (ops := _) rfl rfl (by decide) g6 rfl) nofree ?_
    refine RunS.step (by exact And.intro rfl True.intro) (by exact True.intro) (LocG.of rfl (loc_pick (z := .const (.bool true)) (by decide) (by rw [g6]; rfl) (by exact True.intro) (ok_sc rfl) (by exact Cp.sc))) nofree ?_
    refine RunS.step (by exact And.intro rfl True.intro) (by exact True.intro) (LocG.of rfl (loc_copy (.inl rfl) (by decide) (by exact Cp.sc))) nofree ?_
    refine RunS.cases (s := 61) rfl (fun g7 => ?_) (fun g7 => nomatch g7)
    refine RunS.step (by exact And.intro rfl True.intro) (by exact True.intro) (LocG.no (ops := _) rfl rfl (by decide) g7 rfl) nofree ?_
    refine RunS.step (by exact And.intro rfl True.intro) (by exact True.intro) (LocG.no (ops := _) rfl rfl (by decide) g7 rfl) nofree ?_
    refine RunS.step (by exact And.intro rfl True.intro) (by exact True.intro) (LocG.no (ops := _) rfl rfl (by decide) g7 rfl) nofree ?_
    refine RunS.step (by exact And.intro rfl True.intro) (by exact True.intro) (LocG.no (ops := _) rfl rfl (by decide) g7 rfl) nofree ?_
    refine RunS.step (by exact And.intro rfl True.intro) (by exact True.intro) (LocG.no (ops := _) rfl rfl (by decide) g7 rfl) nofree ?_
    refine RunS.step (by exact And.intro rfl True.intro) (by exact True.intro) (LocG.no (ops := _) rfl rfl (by decide) g7 rfl) nofree ?_
    refine RunS.step (by exact And.intro rfl True.intro) (by exact True.intro) (LocG.of rfl (loc_pick (z := .const (.bool true)) (by decide) (by rw [g7]; rfl) (by exact True.intro) (ok_sc rfl) (by exact Cp.sc))) nofree ?_
    refine sw_cond (t := 68) rfl (fun hb_ => ?_) (fun hb_ => nomatch hb_)
    refine sw_seq ?_
    refine sw_of (l := [(2, RV.ptr 2 0), (3, RV.ptr 3 0), (4, RV.sv false [PV.val _])]) (b := [(2, (81, [PV.val _, PV.val _, PV.sl _ _, PV.sl _ _, PV.sl _ _, PV.sl _ _, PV.sl _ _, PV.sl _ _, PV.sl _ _, PV.sl _ _, PV.sl _ _])), (3, (81, [PV.val _, PV.val _, PV.sl _ _, PV.sl _ _, PV.sl _ _, PV.sl _ _, PV.sl _ _, PV.sl _ _, PV.sl _ _, PV.sl _ _, PV.sl _ _]))]) (by exact And.intro rfl (And.intro rfl (And.intro rfl True.intro))) (by exact And.intro rfl (And.intro rfl True.intro)) ?_
    refine sw_reg ?_
    refine RunS.step (by exact True.intro) (by exact True.intro) (LocG.of rfl (loc_const (.inr rfl) (by decide) (ok_sc rfl))) nofree ?_
    refine sw_ret ?_
    exact (And.intro (by refine bool_eq ?_; exact (deq_false (fun e => by subst e; simp_all [deq_self])).symm) True.intro)
  · have sg1 := g1
    try simp only [decide_eq_true_eq, decide_eq_false_iff_not, bne_iff_ne, beq_iff_eq, Bool.not_eq_true', Bool.not_eq_false', ne_eq, bne_eq_false_iff_eq, beq_eq_false_iff_ne] at sg1
    refine RunS.step (by exact And.intro rfl (And.intro rfl True.intro)) (by exact True.intro) (LocG.yes rfl rfl (by decide) g1 (loc_field (by decide) fd_81_1)) nofree ?_
    refine RunS.step (by exact And.intro rfl (And.intro rfl True.intro)) (by exact And.intro rfl True.intro) (LocG.yes rfl rfl (by decide) g1 (loc_load (qs := [PV.sl .v _]) (by decide) ty_79 (fun _ => rfl) (by exact Nat.le_of_ble_eq_true rfl) (by exact (ToL.cons PV.to_none ToL.nil)) (by exact (BorL.cons (PV.bor_sl _) BorL.nil)))) nofree ?_
    refine RunS.step (by exact And.intro rfl (And.intro rfl True.intro)) (by exact True.intro) (LocG.yes rfl rfl (by decide) g1 (loc_field (by decide) fd_81_1)) nofree ?_
    refine RunS.step (by exact And.intro rfl (And.intro rfl True.intro)) (by exact And.intro rfl True.intro) (LocG.yes rfl rfl (by decide) g1 (loc_load (qs := [PV.sl .v _]) (by decide) ty_79 (fun _ => rfl) (by exact Nat.le_of_ble_eq_true rfl) (by exact (ToL.cons PV.to_none ToL.nil)) (by exact (BorL.cons (PV.bor_sl _) BorL.nil)))) nofree ?_
    refine RunS.step (by exact And.intro rfl (And.intro rfl (And.intro rfl True.intro))) (by exact True.intro) (LocG.yes rfl rfl (by decide) g1 (loc_call (qs := [(false, [PV.sl _ _]), (false, [PV.sl _ _])]) (as_ := [(false, [PV.sl .v _]), (false, [PV.sl .v _])]) (by decide) c_113 (by exact (And.intro (by exact True.intro) (And.intro (by exact True.intro) True.intro))) (by exact (And.intro (And.intro rfl (ToL.cons PV.to_none ToL.nil)) (And.intro (And.intro rfl (ToL.cons PV.to_none ToL.nil)) True.intro))) (by exact spec_l18Lists))) nofree ?_
    refine RunS.step (by exact And.intro rfl (And.intro rfl True.intro)) (by exact True.intro) (LocG.yes rfl rfl (by decide) g1 (loc_not (by decide))) nofree ?_
    refine RunS.step (by exact And.intro rfl (And.intro rfl True.intro)) (by exact True.intro) (LocG.of rfl (loc_pick (z := .tmp 18) (by decide) (by rw [g1]; rfl) (by exact True.intro) (by exact True.intro) (by exact Cp.sc))) nofree ?_
    refine RunS.step (by exact And.intro rfl True.intro) (by exact True.intro) (LocG.of rfl (loc_copy (.inl rfl) (by decide) (by exact Cp.sc))) nofree ?_
    refine RunS.cases (s := 20) rfl (fun g9 => ?_) (fun g9 => ?_)
    · have sg9 := g9
      try simp only [decide_eq_true_eq, decide_eq_false_iff_not, bne_iff_ne, beq_iff_eq, Bool.not_eq_true', Bool.not_eq_false', ne_eq, bne_eq_false_iff_eq, beq_eq_false_iff_ne] at sg9
      refine RunS.step (by exact And.intro rfl True.intro) (by exact True.intro) (LocG.no (ops := _) rfl rfl (by decide) g9 rfl) nofree ?_
      refine RunS.step (by exact And.intro rfl True.intro) (by exact True.intro) (LocG.no (ops := _) rfl rfl (by decide) g9 rfl) nofree ?_
      refine RunS.step (by exact And.intro rfl True.intro) (by exact True.intro) (LocG.no (ops := _) rfl rfl (by decide) g9 rfl) nofree ?_
      refine RunS.step (by exact And.intro rfl True.intro) (by exact True.intro) (LocG.no (ops := _) rfl rfl (by decide) g9 rfl) nofree ?_
      refine RunS.step (by exact And.intro rfl True.intro) (by exact True.intro) (LocG.no (ops := _) rfl rfl (by decide) g9 rfl) nofree ?_
      refine RunS.step (by exact And.intro rfl True.intro) (by exact True.intro) (LocG.no (ops := _) rfl rfl (by decide) g9 rfl) nofree ?_
      refine RunS.step (by exact And.intro rfl True.intro) (by exact True.intro) (LocG.no (ops := _) rfl rfl (by decide) g9 rfl) nofree ?_
      refine RunS.step (by exact And.intro rfl True.intro) (by exact True.intro) (LocG.of rfl (loc_pick (z := .const (.bool true)) (by decide) (by rw [g9]; rfl) (by exact True.intro) (ok_sc rfl) (by exact Cp.sc))) nofree ?_
      refine RunS.step (by exact And.intro rfl True.intro) (by exact True.intro) (LocG.of rfl (loc_copy (.inl rfl) (by decide) (by exact Cp.sc))) nofree ?_
      refine RunS.cases (s := 29) rfl (fun g10 => ?_) (fun g10 => nomatch g10)
      refine RunS.step (by exact And.intro rfl True.intro) (by exact True.intro) (LocG.no (ops := _) rfl rfl (by decide) g10 rfl) nofree ?_
      refine RunS.step (by exact And.intro rfl True.intro) (by exact True.intro) (LocG.no (ops := _) rfl rfl (by decide) g10 rfl) nofree ?_
      refine RunS.step (by exact And.intro rfl True.intro) (by exact True.intro) (LocG.no (ops := _) rfl rfl (by decide) g10 rfl) nofree ?_
      refine RunS.step (by exact And.intro rfl True.intro) (by exact True.intro) (LocG.no (ops := _) rfl rfl (by decide) g10 rfl) nofree ?_
      refine RunS.step (by exact And.intro rfl True.intro) (by exact True.intro) (LocG.no (ops := _) rfl rfl (by decide) g10 rfl) nofree ?_
      refine RunS.step (by exact And.intro rfl True.intro) (by exact True.intro) (LocG.no (ops := _) rfl rfl (by decide) g10 rfl) nofree ?_
      refine RunS.step (by exact And.intro rfl True.intro) (by exact True.intro) (LocG.of rfl (loc_pick (z := .const (.bool true)) (by decide) (by rw [g10]; rfl) (by exact True.intro) (ok_sc rfl) (by exact Cp.sc))) nofree ?_
      refine RunS.step (by exact And.intro rfl True.intro) (by exact True.intro) (LocG.of rfl (loc_copy (.inl rfl) (by decide) (by exact Cp.sc))) nofree ?_
      refine RunS.cases (s := 37) rfl (fun g11 => ?_) (fun g11 => nomatch g11)
      refine RunS.step (by exact And.intro rfl True.intro) (by exact True.intro) (LocG.no (ops := _) rfl rfl (by decide) g11 rfl) nofree ?_
      refine RunS.step (by exact And.intro rfl True.intro) (by exact True.intro) (LocG.no (ops := _) rfl rfl (by decide) g11 rfl) nofree ?_
      refine RunS.step (by exact And.intro rfl True.intro) (by exact True.intro) (LocG.no (ops := _) rfl rfl (by decide) g11 rfl) nofree ?_
      refine RunS.step (by exact And.intro rfl True.intro) (by exact True.intro) (LocG.no (ops := _) rfl rfl (by decide) g11 rfl) nofree ?_
      refine RunS.step (by exact And.intro rfl True.intro) (by exact True.intro) (LocG.no (ops := _) rfl rfl (by decide) g11 rfl) nofree ?_
      refine RunS.step (by exact And.intro rfl True.intro) (by exact True.intro) (LocG.no (ops := _) rfl rfl (by decide) g11 rfl) nofree ?_
      refine RunS.step (by exact And.intro rfl True.intro) (by exact True.intro) (LocG.of rfl (loc_pick (z := .const (.bool true)) (by decide) (by rw [g11]; rfl) (by exact True.intro) (ok_sc rfl) (by exact Cp.sc))) nofree ?_
      refine RunS.step (by exact And.intro rfl True.intro) (by exact True.intro) (LocG.of rfl (loc_copy (.inl rfl) (by decide) (by exact Cp.sc))) nofree ?_
      refine RunS.cases (s := 45) rfl (fun g12 => ?_) (fun g12 => nomatch g12)
      refine RunS.step (by exact And.intro rfl True.intro) (by exact True.intro) (LocG.no (ops := _) rfl rfl (by decide) g12 rfl) nofree ?_
      refine RunS.step (by exact And.intro rfl True.intro) (by exact True.intro) (LocG.no (ops := _) rfl rfl (by decide) g12 rfl) nofree ?_
      refine RunS.step (by exact And.intro rfl True.intro) (by exact True.intro) (LocG.no (ops := _) rfl rfl (by decide) g12 rfl) nofree ?_
      refine RunS.step (by exact And.intro rfl True.intro) (by exact True.intro) (LocG.no (ops := _) rfl rfl (by decide) g12 rfl) nofree ?_
      refine RunS.step (by exact And.intro rfl True.intro) (by exact True.intro) (LocG.no (ops := _) rfl rfl (by decide) g12 rfl) nofree ?_
      refine RunS.step (by exact And.intro rfl True.intro) (by exact True.intro) (LocG.no (ops := _) rfl rfl (by decide) g12 rfl) nofree ?_
      refine RunS.step (by exact And.intro rfl True.intro) (by exact True.intro) (LocG.of rfl (loc_pick (z := .const (.bool true)) (by decide) (by rw [g12]; rfl) (by exact True.intro) (ok_sc rfl) (by exact Cp.sc))) nofree ?_
      refine RunS.step (by exact And.intro rfl True.intro) (by exact True.intro) (LocG.of rfl (loc_copy (.inl rfl) (by decide) (by exact Cp.sc))) nofree ?_
      refine RunS.cases (s := 53) rfl (fun g13 => ?_) (fun g13 => nomatch g13)
      refine RunS.step (by exact And.intro rfl True.intro) (by exact True.intro) (LocG.no (ops := _) rfl rfl (by decide) g13 rfl) nofree ?_
      refine RunS.step (by exact And.intro rfl True.intro) (by exact True.intro) (LocG.no (ops := _) rfl rfl (by decide) g13 rfl) nofree ?_
      refine RunS.step (by exact And.intro rfl True.intro) (by exact True.intro) (LocG.no (ops := _) rfl rfl (by decide) g13 rfl) nofree ?_
      refine RunS.step (by exact And.intro rfl True.intro) (by exact True.intro) (LocG.no (ops := _) rfl rfl (by decide) g13 rfl) nofree ?_
      refine RunS.step (by exact And.intro rfl True.intro) (by exact True.intro) (LocG.no (ops := _) rfl rfl (by decide) g13 rfl) nofree ?_
      refine RunS.step (by exact And.intro rfl True.intro) (by exact True.intro) (LocG.no (ops := _) rfl rfl (by decide) g13 rfl) nofree ?_
      refine RunS.step (by exact And.intro rfl True.intro) (by exact True.intro) (LocG.of rfl (loc_pick (z := .const (.bool true)) (by decide) (by rw [g13]; rfl) (by exact True.intro) (ok_sc rfl) (by exact Cp.sc))) nofree ?_
      refine RunS.step (by exact And.intro rfl True.intro) (by exact True.intro) (LocG.of rfl (loc_copy (.inl rfl) (by decide) (by exact Cp.sc))) nofree ?_
      refine RunS.cases (s := 61) rfl (fun g14 => ?_) (fun g14 => nomatch g14)
      refine RunS.step (by exact And.intro rfl True.intro) (by exact True.intro) (LocG.no (ops := _) rfl rfl (by decide) g14 rfl) nofree ?_
      refine RunS.step (by exact And.intro rfl True.intro) (by exact True.intro) (LocG.no (ops := _) rfl rfl (by decide) g14 rfl) nofree ?_
      refine RunS.step (by exact And.intro rfl True.intro) (by exact True.intro) (LocG.no (ops := _) rfl rfl (by decide) g14 rfl) nofree ?_
      refine RunS.step (by exact And.intro rfl True.intro) (by exact True.intro) (LocG.no (ops := _) rfl rfl (by decide) g14 rfl) nofree ?_
      refine RunS.step (by exact And.intro rfl True.intro) (by exact True.intro) (LocG.no (ops := _) rfl rfl (by decide) g14 rfl) nofree ?_
      refine RunS.step (by exact And.intro rfl True.intro) (by exact True.intro) (LocG.no (ops := _) rfl rfl (by decide) g14 rfl) nofree ?_
      refine RunS.step (by exact And.intro rfl True.intro) (by exact True.intro) (LocG.of rfl (loc_pick (z := .const (.bool true)) (by decide) (by rw [g14]; rfl) (by exact True.intro) (ok_sc rfl) (by exact Cp.sc))) nofree ?_
      refine sw_cond (t := 68) rfl (fun hb_ => ?_) (fun hb_ => nomatch hb_)
      refine sw_seq ?_
      refine sw_of (l := [(2, RV.ptr 2 0), (3, RV.ptr 3 0), (4, RV.sv false [PV.val _])]) (b := [(2, (81, [PV.val _, PV.val _, PV.sl _ _, PV.sl _ _, PV.sl _ _, PV.sl _ _, PV.sl _ _, PV.sl _ _, PV.sl _ _, PV.sl _ _, PV.sl _ _])), (3, (81, [PV.val _, PV.val _, PV.sl _ _, PV.sl _ _, PV.sl _ _, PV.sl _ _, PV.sl _ _, PV.sl _ _, PV.sl _ _, PV.sl _ _, PV.sl _ _]))]) (by exact And.intro rfl (And.intro rfl (And.intro rfl True.intro))) (by exact And.intro rfl (And.intro rfl True.intro)) ?_
      refine sw_reg ?_
      refine RunS.step (by exact True.intro) (by exact True.intro) (LocG.of rfl (loc_const (.inr rfl) (by decide) (ok_sc rfl))) nofree ?_
      refine sw_ret ?_
      exact (And.intro (by refine bool_eq ?_; exact (deq_false (fun e => by subst e; simp_all [deq_self])).symm) True.intro)
    · have sg9 := g9
      try simp only [decide_eq_true_eq, decide_eq_false_iff_not, bne_iff_ne, beq_iff_eq, Bool.not_eq_true', Bool.not_eq_false', ne_eq, bne_eq_false_iff_eq, beq_eq_false_iff_ne] at sg9
      refine RunS.step (by exact And.intro rfl (And.intro rfl True.intro)) (by exact True.intro) (LocG.yes rfl rfl (by decide) g9 (loc_field (by decide) fd_81_2)) nofree ?_
      refine RunS.step (by exact And.intro rfl (And.intro rfl True.intro)) (by exact And.intro rfl True.intro) (LocG.yes rfl rfl (by decide) g9 (loc_load (qs := [PV.sl .v _]) (by decide) ty_74 (fun _ => rfl) (by exact Nat.le_of_ble_eq_true rfl) (by exact (ToL.cons PV.to_none ToL.nil)) (by exact (BorL.cons (PV.bor_sl _) BorL.nil)))) nofree ?_
      refine RunS.step (by exact And.intro rfl (And.intro rfl True.intro)) (by exact True.intro) (LocG.yes rfl rfl (by decide) g9 (loc_len (by decide) sl_74 (by first | exact List.length_map _ | exact rfl))) nofree ?_
      refine RunS.step (by exact And.intro rfl (And.intro rfl True.intro)) (by exact True.intro) (LocG.yes rfl rfl (by decide) g9 (loc_field (by decide) fd_81_2)) nofree ?_
      refine RunS.step (by exact And.intro rfl (And.intro rfl True.intro)) (by exact And.intro rfl True.intro) (LocG.yes rfl rfl (by decide) g9 (loc_load (qs := [PV.sl .v _]) (by decide) ty_74 (fun _ => rfl) (by exact Nat.le_of_ble_eq_true rfl) (by exact (ToL.cons PV.to_none ToL.nil)) (by exact (BorL.cons (PV.bor_sl _) BorL.nil)))) nofree ?_
      refine RunS.step (by exact And.intro rfl (And.intro rfl True.intro)) (by exact True.intro) (LocG.yes rfl rfl (by decide) g9 (loc_len (by decide) sl_74 (by first | exact List.length_map _ | exact rfl))) nofree ?_
      refine RunS.step (by exact And.intro rfl (And.intro rfl (And.intro rfl True.intro))) (by exact True.intro) (LocG.yes rfl rfl (by decide) g9 (loc_neq (by decide) (by exact True.intro) (by exact True.intro))) nofree ?_
      refine RunS.step (by exact And.intro rfl (And.intro rfl True.intro)) (by exact True.intro) (LocG.of rfl (loc_pick (z := .tmp 27) (by decide) (by rw [g9]; rfl) (by exact True.intro) (by exact True.intro) (by exact Cp.sc))) nofree ?_
      refine RunS.step (by exact And.intro rfl True.intro) (by exact True.intro) (LocG.of rfl (loc_copy (.inl rfl) (by decide) (by exact Cp.sc))) nofree ?_
      refine RunS.cases (s := 29) rfl (fun g16 => ?_) (fun g16 => ?_)
      · have sg16 := g16
        try simp only [decide_eq_true_eq, decide_eq_false_iff_not, bne_iff_ne, beq_iff_eq, Bool.not_eq_true', Bool.not_eq_false', ne_eq, bne_eq_false_iff_eq, beq_eq_false_iff_ne] at sg16
        refine RunS.step (by exact And.intro rfl True.intro) (by exact True.intro) (LocG.no (ops := _) rfl rfl (by decide) g16 rfl) nofree ?_
        refine RunS.step (by exact And.intro rfl True.intro) (by exact True.intro) (LocG.no (ops := _) rfl rfl (by decide) g16 rfl) nofree ?_
        refine RunS.step (by exact And.intro rfl True.intro) (by exact True.intro) (LocG.no (ops := _) rfl rfl (by decide) g16 rfl) nofree ?_
        refine RunS.step (by exact And.intro rfl True.intro) (by exact True.intro) (LocG.no (ops := _) rfl rfl (by decide) g16 rfl) nofree ?_
        refine RunS.step (by exact And.intro rfl True.intro) (by exact True.intro) (LocG.no (ops := _) rfl rfl (by decide) g16 rfl) nofree ?_
        refine RunS.step (by exact And.intro rfl True.intro) (by exact True.intro) (LocG.no (ops := _) rfl rfl (by decide) g16 rfl) nofree ?_
        refine RunS.step (by exact And.intro rfl True.intro) (by exact True.intro) (LocG.of rfl (loc_pick (z := .const (.bool true)) (by decide) (by rw [g16]; rfl) (by exact True.intro) (ok_sc rfl) (by exact Cp.sc))) nofree ?_
        refine RunS.step (by exact And.intro rfl True.intro) (by exact True.intro) (LocG.of rfl (loc_copy (.inl rfl) (by decide) (by exact Cp.sc))) nofree ?_
        refine RunS.cases (s := 37) rfl (fun g17 => ?_) (fun g17 => nomatch g17)
        refine RunS.step (by exact And.intro rfl True.intro) (by exact True.intro) (LocG.no (ops := _) rfl rfl (by decide) g17 rfl) nofree ?_
        refine RunS.step (by exact And.intro rfl True.intro) (by exact True.intro) (LocG.no (ops := _) rfl rfl (by decide) g17 rfl) nofree ?_
        refine RunS.step (by exact And.intro rfl True.intro) (by exact True.intro) (LocG.no (ops := _) rfl rfl (by decide) g17 rfl) nofree ?_
        refine RunS.step (by exact And.intro rfl True.intro) (by exact True.intro) (LocG.no (ops := _) rfl rfl (by decide) g17 rfl) nofree ?_
        refine RunS.step (by exact And.intro rfl True.intro) (by exact True.intro) (LocG.no (ops := _) rfl rfl (by decide) g17 rfl) nofree ?_
        refine RunS.step (by exact And.intro rfl True.intro) (by exact True.intro) (LocG.no (ops := _) rfl rfl (by decide) g17 rfl) nofree ?_
        refine RunS.step (by exact And.intro rfl True.intro) (by exact True.intro) (LocG.of rfl (loc_pick (z := .const (.bool true)) (by decide) (by rw [g17]; rfl) (by exact True.intro) (ok_sc rfl) (by exact Cp.sc))) nofree ?_
        refine RunS.step (by exact And.intro rfl True.intro) (by exact True.intro) (LocG.of rfl (loc_copy (.inl rfl) (by decide) (by exact Cp.sc))) nofree ?_
        refine RunS.cases (s := 45) rfl (fun g18 => ?_) (fun g18 => nomatch g18)
        refine RunS.step (by exact And.intro rfl True.intro) (by exact True.intro) (LocG.no (ops := _) rfl rfl (by decide) g18 rfl) nofree ?_
        refine RunS.step (by exact And.intro rfl True.intro) (by exact True.intro) (LocG.no (ops := _) rfl rfl (by decide) g18 rfl) nofree ?_
        refine RunS.step (by exact And.intro rfl True.intro) (by exact True.intro) (LocG.no (ops := _) rfl rfl (by decide) g18 rfl) nofree ?_
        refine RunS.step (by exact And.intro rfl True.intro) (by exact True.intro) (LocG.no (ops := _) rfl rfl (by decide) g18 rfl) nofree ?_
        refine RunS.step (by exact And.intro rfl True.intro) (by exact True.intro) (LocG.no (ops := _) rfl rfl (by decide) g18 rfl) nofree ?_
        refine RunS.step (by exact And.intro rfl True.intro) (by exact True.intro) (LocG.no (ops := _) rfl rfl (by decide) g18 rfl) nofree ?_
        refine RunS.step (by exact And.intro rfl True.intro) (by exact True.intro) (LocG.of rfl (loc_pick (z := .const (.bool true)) (by decide) (by rw [g18]; rfl) (by exact True.intro) (ok_sc rfl) (by exact Cp.sc))) nofree ?_
        refine RunS.step (by exact And.intro rfl True.intro) (by exact True.intro) (LocG.of rfl (loc_copy (.inl rfl) (by decide) (by exact Cp.sc))) nofree ?_
        refine RunS.cases (s := 53) rfl (fun g19 => ?_) (fun g19 => nomatch g19)
        refine RunS.step (by exact And.intro rfl True.intro) (by exact True.intro) (LocG.no (ops := _) rfl rfl (by decide) g19 rfl) nofree ?_
        refine RunS.step (by exact And.intro rfl True.intro) (by exact True.intro) (LocG.no (ops := _) rfl rfl (by decide) g19 rfl) nofree ?_
        refine RunS.step (by exact And.intro rfl True.intro) (by exact True.intro) (LocG.no (ops := _) rfl rfl (by decide) g19 rfl) nofree ?_
        refine RunS.step (by exact And.intro rfl True.intro) (by exact True.intro) (LocG.no (ops := _) rfl rfl (by decide) g19 rfl) nofree ?_
        refine RunS.step (by exact And.intro rfl True.intro) (by exact True.intro) (LocG.no (ops := _) rfl rfl (by decide) g19 rfl) nofree ?_
        refine RunS.step (by exact And.intro rfl True.intro) (by exact True.intro) (LocG.no (ops := _) rfl rfl (by decide) g19 rfl) nofree ?_
        refine RunS.step (by exact And.intro rfl True.intro) (by exact True.intro) (LocG.of rfl (loc_pick (z := .const (.bool true)) (by decide) (by rw [g19]; rfl) (by exact True.intro) (ok_sc rfl) (by exact Cp.sc))) nofree ?_
        refine RunS.step (by exact And.intro rfl True.intro) (by exact True.intro) (LocG.of rfl (loc_copy (.inl rfl) (by decide) (by exact Cp.sc))) nofree ?_
        refine RunS.cases (s := 61) rfl (fun g20 => ?_) (fun g20 => nomatch g20)
        refine RunS.step (by exact And.intro rfl True.intro) (by exact True.intro) (LocG.no (ops := _) rfl rfl (by decide) g20 rfl) nofree ?_
        refine RunS.step (by exact And.intro rfl True.intro) (by exact True.intro) (LocG.no (ops := _) rfl rfl (by decide) g20 rfl) nofree ?_
        refine RunS.step (by exact And.intro rfl True.intro) (by exact True.intro) (LocG.no (ops := _) rfl rfl (by decide) g20 rfl) nofree ?_
        refine RunS.step (by exact And.intro rfl True.intro) (by exact True.intro) (LocG.no (ops := _) rfl rfl (by decide) g20 rfl) nofree ?_
        refine RunS.step (by exact And.intro rfl True.intro) (by exact True.intro) (LocG.no (ops := _) rfl rfl (by decide) g20 rfl) nofree ?_
        refine RunS.step (by exact And.intro rfl True.intro) (by exact True.intro) (LocG.no (ops := _) rfl rfl (by decide) g20 rfl) nofree ?_
        refine RunS.step (by exact And.intro rfl True.intro) (by exact True.intro) (LocG.of rfl (loc_pick (z := .const (.bool true)) (by decide) (by rw [g20]; rfl) (by exact True.intro) (ok_sc rfl) (by exact Cp.sc))) nofree ?_
        refine sw_cond (t := 68) rfl (fun hb_ => ?_) (fun hb_ => nomatch hb_)
        refine sw_seq ?_
        refine sw_of (l := [(2, RV.ptr 2 0), (3, RV.ptr 3 0), (4, RV.sv false [PV.val _])]) (b := [(2, (81, [PV.val _, PV.val _, PV.sl _ _, PV.sl _ _, PV.sl _ _, PV.sl _ _, PV.sl _ _, PV.sl _ _, PV.sl _ _, PV.sl _ _, PV.sl _ _])), (3, (81, [PV.val _, PV.val _, PV.sl _ _, PV.sl _ _, PV.sl _ _, PV.sl _ _, PV.sl _ _, PV.sl _ _, PV.sl _ _, PV.sl _ _, PV.sl _ _]))]) (by exact And.intro rfl (And.intro rfl (And.intro rfl True.intro))) (by exact And.intro rfl (And.intro rfl True.intro)) ?_
        refine sw_reg ?_
        refine RunS.step (by exact True.intro) (by exact True.intro) (LocG.of rfl (loc_const (.inr rfl) (by decide) (ok_sc rfl))) nofree ?_
        refine sw_ret ?_
        exact (And.intro (by refine bool_eq ?_; exact (deq_false (fun e => by subst e; simp_all [deq_self])).symm) True.intro)
      · have sg16 := g16
        try simp only [decide_eq_true_eq, decide_eq_false_iff_not, bne_iff_ne, beq_iff_eq, Bool.not_eq_true', Bool.not_eq_false', ne_eq, bne_eq_false_iff_eq, beq_eq_false_iff_ne] at sg16
        refine RunS.step (by exact And.intro rfl (And.intro rfl True.intro)) (by exact True.intro) (LocG.yes rfl rfl (by decide) g16 (loc_field (by decide) fd_81_3)) nofree ?_
        refine RunS.step (by exact And.intro rfl (And.intro rfl True.intro)) (by exact And.intro rfl True.intro) (LocG.yes rfl rfl (by decide) g16 (loc_load (qs := [PV.sl .v _]) (by decide) ty_23 (fun _ => rfl) (by exact Nat.le_of_ble_eq_true rfl) (by exact (ToL.cons PV.to_none ToL.nil)) (by exact (BorL.cons (PV.bor_sl _) BorL.nil)))) nofree ?_
        refine RunS.step (by exact And.intro rfl (And.intro rfl True.intro)) (by exact True.intro) (LocG.yes rfl rfl (by decide) g16 (loc_field (by decide) fd_81_3)) nofree ?_
        refine RunS.step (by exact And.intro rfl (And.intro rfl True.intro)) (by exact And.intro rfl True.intro) (LocG.yes rfl rfl (by decide) g16 (loc_load (qs := [PV.sl .v _]) (by decide) ty_23 (fun _ => rfl) (by exact Nat.le_of_ble_eq_true rfl) (by exact (ToL.cons PV.to_none ToL.nil)) (by exact (BorL.cons (PV.bor_sl _) BorL.nil)))) nofree ?_
        refine RunS.step (by exact And.intro rfl (And.intro rfl (And.intro rfl True.intro))) (by exact True.intro) (LocG.yes rfl rfl (by decide) g16 (loc_call (qs := [(false, [PV.sl _ _]), (false, [PV.sl _ _])]) (as_ := [(false, [PV.sl .v _]), (false, [PV.sl .v _])]) (by decide) c_114 (by exact (And.intro (by exact True.intro) (And.intro (by exact True.intro) True.intro))) (by exact (And.intro (And.intro rfl (ToL.cons PV.to_none ToL.nil)) (And.intro (And.intro rfl (ToL.cons PV.to_none ToL.nil)) True.intro))) (by exact spec_l2Ints))) nofree ?_
        refine RunS.step (by exact And.intro rfl (And.intro rfl True.intro)) (by exact True.intro) (LocG.yes rfl rfl (by decide) g16 (loc_not (by decide))) nofree ?_
        refine RunS.step (by exact And.intro rfl (And.intro rfl True.intro)) (by exact True.intro) (LocG.of rfl (loc_pick (z := .tmp 35) (by decide) (by rw [g16]; rfl) (by exact True.intro) (by exact True.intro) (by exact Cp.sc))) nofree ?_
        refine RunS.step (by exact And.intro rfl True.intro) (by exact True.intro) (LocG.of rfl (loc_copy (.inl rfl) (by decide) (by exact Cp.sc))) nofree ?_
        refine RunS.cases (s := 37) rfl (fun g22 => ?_) (fun g22 => ?_)
        · have sg22 := g22
          try simp only [decide_eq_true_eq, decide_eq_false_iff_not, bne_iff_ne, beq_iff_eq, Bool.not_eq_true', Bool.not_eq_false', ne_eq, bne_eq_false_iff_eq, beq_eq_false_iff_ne] at sg22
          refine RunS.step (by exact And.intro rfl True.intro) (by exact True.intro) (LocG.no (ops := _) rfl rfl (by decide) g22 rfl) nofree ?_
          refine RunS.step (by exact And.intro rfl True.intro) (by exact True.intro) (LocG.no (ops := _) rfl rfl (by decide) g22 rfl) nofree ?_
          refine RunS.step (by exact And.intro rfl True.intro) (by exact True.intro) (LocG.no (ops := _) rfl rfl (by decide) g22 rfl) nofree ?_
          refine RunS.step (by exact And.intro rfl True.intro) (by exact True.intro) (LocG.no (ops := _) rfl rfl (by decide) g22 rfl) nofree ?_
          refine RunS.step (by exact And.intro rfl True.intro) (by exact True.intro) (LocG.no (ops := _) rfl rfl (by decide) g22 rfl) nofree ?_
          refine RunS.step (by exact And.intro rfl True.intro) (by exact True.intro) (LocG.no (ops := _) rfl rfl (by decide) g22 rfl) nofree ?_
          refine RunS.step (by exact And.intro rfl True.intro) (by exact True.intro) (LocG.of rfl (loc_pick (z := .const (.bool true)) (by decide) (by rw [g22]; rfl) (by exact True.intro) (ok_sc rfl) (by exact Cp.sc))) nofree ?_
          refine RunS.step (by exact And.intro rfl True.intro) (by exact True.intro) (LocG.of rfl (loc_copy (.inl rfl) (by decide) (by exact Cp.sc))) nofree ?_
          refine RunS.cases (s := 45) rfl (fun g23 => ?_) (fun g23 => nomatch g23)
          refine RunS.step (by exact And.intro rfl True.intro) (by exact True.intro) (LocG.no (ops := _) rfl rfl (by decide) g23 rfl) nofree ?_
          refine RunS.step (by exact And.intro rfl True.intro) (by exact True.intro) (LocG.no (ops := _) rfl rfl (by decide) g23 rfl) nofree ?_
          refine RunS.step (by exact And.intro rfl True.intro) (by exact True.intro) (LocG.no (ops := _) rfl rfl (by decide) g23 rfl) nofree ?_
          refine RunS.step (by exact And.intro rfl True.intro) (by exact True.intro) (LocG.no (ops := _) rfl rfl (by decide) g23 rfl) nofree ?_
          refine RunS.step (by exact And.intro rfl True.intro) (by exact True.intro) (LocG.no (ops := _) rfl rfl (by decide) g23 rfl) nofree ?_
          refine RunS.step (by exact And.intro rfl True.intro) (by exact True.intro) (LocG.no (ops := _) rfl rfl (by decide) g23 rfl) nofree ?_
          refine RunS.step (by exact And.intro rfl True.intro) (by exact True.intro) (LocG.of rfl (loc_pick (z := .const (.bool true)) (by decide) (by rw [g23]; rfl) (by exact True.intro) (ok_sc rfl) (by exact Cp.sc))) nofree ?_
          refine RunS.step (by exact And.intro rfl True.intro) (by exact True.intro) (LocG.of rfl (loc_copy (.inl rfl) (by decide) (by exact Cp.sc))) nofree ?_
          refine RunS.cases (s := 53) rfl (fun g24 => ?_) (fun g24 => nomatch g24)
          refine RunS.step (by exact And.intro rfl True.intro) (by exact True.intro) (LocG.no (ops := _) rfl rfl (by decide) g24 rfl) nofree ?_
          refine RunS.step (by exact And.intro rfl True.intro) (by exact True.intro) (LocG.no (ops := _) rfl rfl (by decide) g24 rfl) nofree ?_
          refine RunS.step (by exact And.intro rfl True.intro) (by exact True.intro) (LocG.no (ops := _) rfl rfl (by decide) g24 rfl) nofree ?_
          refine RunS.step (by exact And.intro rfl True.intro) (by exact True.intro) (LocG.no (ops := _) rfl rfl (by decide) g24 rfl) nofree ?_
          refine RunS.step (by exact And.intro rfl True.intro) (by exact True.intro) (LocG.no (ops := _) rfl rfl (by decide) g24 rfl) nofree ?_
          refine RunS.step (by exact And.intro rfl True.intro) (by exact True.intro) (LocG.no (ops := _) rfl rfl (by decide) g24 rfl) nofree ?_
          refine RunS.step (by exact And.intro rfl True.intro) (by exact True.intro) (LocG.of rfl (loc_pick (z := .const (.bool true)) (by decide) (by rw [g24]; rfl) (by exact True.intro) (ok_sc rfl) (by exact Cp.sc))) nofree ?_
          refine RunS.step (by exact And.intro rfl True.intro) (by exact True.intro) (LocG.of rfl (loc_copy (.inl rfl) (by decide) (by exact Cp.sc))) nofree ?_
          refine RunS.cases (s := 61) rfl (fun g25 => ?_) (fun g25 => nomatch g25)
          refine RunS.step (by exact And.intro rfl True.intro) (by exact True.intro) (LocG.no (ops := _) rfl rfl (by decide) g25 rfl) nofree ?_
          refine RunS.step (by exact And.intro rfl True.intro) (by exact True.intro) (LocG.no (ops := _) rfl rfl (by decide) g25 rfl) nofree ?_
          refine RunS.step (by exact And.intro rfl True.intro) (by exact True.intro) (LocG.no (ops := _) rfl rfl (by decide) g25 rfl) nofree ?_
          refine RunS.step (by exact And.intro rfl True.intro) (by exact True.intro) (LocG.no (ops := _) rfl rfl (by decide) g25 rfl) nofree ?_
          refine RunS.step (by exact And.intro rfl True.intro) (by exact True.intro) (LocG.no (ops := _) rfl rfl (by decide) g25 rfl) nofree ?_
          refine RunS.step (by exact And.intro rfl True.intro) (by exact True.intro) (LocG.no (ops := _) rfl rfl (by decide) g25 rfl) nofree ?_
          refine RunS.step (by exact And.intro rfl True.intro) (by exact True.intro) (LocG.of rfl (loc_pick (z := .const (.bool true)) (by decide) (by rw [g25]; rfl) (by exact True.intro) (ok_sc rfl) (by exact Cp.sc))) nofree ?_
          refine sw_cond (t := 68) rfl (fun hb_ => ?_) (fun hb_ => nomatch hb_)
          refine sw_seq ?_
          refine sw_of (l := [(2, RV.ptr 2 0), (3, RV.ptr 3 0), (4, RV.sv false [PV.val _])]) (b := [(2, (81, [PV.val _, PV.val _, PV.sl _ _, PV.sl _ _, PV.sl _ _, PV.sl _ _, PV.sl _ _, PV.sl _ _, PV.sl _ _, PV.sl _ _, PV.sl _ _])), (3, (81, [PV.val _, PV.val _, PV.sl _ _, PV.sl _ _, PV.sl _ _, PV.sl _ _, PV.sl _ _, PV.sl _ _, PV.sl _ _, PV.sl _ _, PV.sl _ _]))]) (by exact And.intro rfl (And.intro rfl (And.intro rfl True.intro))) (by exact And.intro rfl (And.intro rfl True.intro)) ?_
          refine sw_reg ?_
          refine RunS.step (by exact True.intro) (by exact True.intro) (LocG.of rfl (loc_const (.inr rfl) (by decide) (ok_sc rfl))) nofree ?_
          refine sw_ret ?_
          exact (And.intro (by refine bool_eq ?_; exact (deq_false (fun e => by subst e; simp_all [deq_self])).symm) True.intro)
        · have sg22 := g22
          try simp only [decide_eq_true_eq, decide_eq_false_iff_not, bne_iff_ne, beq_iff_eq, Bool.not_eq_true', Bool.not_eq_false', ne_eq, bne_eq_false_iff_eq, beq_eq_false_iff_ne] at sg22
          refine RunS.step (by exact And.intro rfl (And.intro rfl True.intro)) (by exact True.intro) (LocG.yes rfl rfl (by decide) g22 (loc_field (by decide) fd_81_4)) nofree ?_
          refine RunS.step (by exact And.intro rfl (And.intro rfl True.intro)) (by exact And.intro rfl True.intro) (LocG.yes rfl rfl (by decide) g22 (loc_load (qs := [PV.sl .v _]) (by decide) ty_23 (fun _ => rfl) (by exact Nat.le_of_ble_eq_true rfl) (by exact (ToL.cons PV.to_none ToL.nil)) (by exact (BorL.cons (PV.bor_sl _) BorL.nil)))) nofree ?_
          refine RunS.step (by exact And.intro rfl (And.intro rfl True.intro)) (by exact True.intro) (LocG.yes rfl rfl (by decide) g22 (loc_field (by decide) fd_81_4)) nofree ?_
          refine RunS.step (by exact And.intro rfl (And.intro rfl True.intro)) (by exact And.intro rfl True.intro) (LocG.yes rfl rfl (by decide) g22 (loc_load (qs := [PV.sl .v _]) (by decide) ty_23 (fun _ => rfl) (by exact Nat.le_of_ble_eq_true rfl) (by exact (ToL.cons PV.to_none ToL.nil)) (by exact (BorL.cons (PV.bor_sl _) BorL.nil)))) nofree ?_
          refine RunS.step (by exact And.intro rfl (And.intro rfl (And.intro rfl True.intro))) (by exact True.intro) (LocG.yes rfl rfl (by decide) g22 (loc_call (qs := [(false, [PV.sl _ _]), (false, [PV.sl _ _])]) (as_ := [(false, [PV.sl .v _]), (false, [PV.sl .v _])]) (by decide) c_114 (by exact (And.intro (by exact True.intro) (And.intro (by exact True.intro) True.intro))) (by exact (And.intro (And.intro rfl (ToL.cons PV.to_none ToL.nil)) (And.intro (And.intro rfl (ToL.cons PV.to_none ToL.nil)) True.intro))) (by exact spec_l2Ints))) nofree ?_
          refine RunS.step (by exact And.intro rfl (And.intro rfl True.intro)) (by exact True.intro) (LocG.yes rfl rfl (by decide) g22 (loc_not (by decide))) nofree ?_
          refine RunS.step (by exact And.intro rfl (And.intro rfl True.intro)) (by exact True.intro) (LocG.of rfl (loc_pick (z := .tmp 43) (by decide) (by rw [g22]; rfl) (by exact True.intro) (by exact True.intro) (by exact Cp.sc))) nofree ?_
          refine RunS.step (by exact And.intro rfl True.intro) (by exact True.intro) (LocG.of rfl (loc_copy (.inl rfl) (by decide) (by exact Cp.sc))) nofree ?_
          refine RunS.cases (s := 45) rfl (fun g27 => ?_) (fun g27 => ?_)
          · have sg27 := g27
            try simp only [decide_eq_true_eq, decide_eq_false_iff_not, bne_iff_ne, beq_iff_eq, Bool.not_eq_true', Bool.not_eq_false', ne_eq, bne_eq_false_iff_eq, beq_eq_false_iff_ne] at sg27
            refine RunS.step (by exact And.intro rfl True.intro) (by exact True.intro) (LocG.no (ops := _) rfl rfl (by decide) g27 rfl) nofree ?_
            refine RunS.step (by exact And.intro rfl True.intro) (by exact True.intro) (LocG.no (ops := _) rfl rfl (by decide) g27 rfl) nofree ?_
            refine RunS.step (by exact And.intro rfl True.intro) (by exact True.intro) (LocG.no (ops := _) rfl rfl (by decide) g27 rfl) nofree ?_
            refine RunS.step (by exact And.intro rfl True.intro) (by exact True.intro) (LocG.no (ops := _) rfl rfl (by decide) g27 rfl) nofree ?_
            refine RunS.step (by exact And.intro rfl True.intro) (by exact True.intro) (LocG.no (ops := _) rfl rfl (by decide) g27 rfl) nofree ?_
            refine RunS.step (by exact And.intro rfl True.intro) (by exact True.intro) (LocG.no (ops := _) rfl rfl (by decide) g27 rfl) nofree ?_
            refine RunS.step (by exact And.intro rfl True.intro) (by exact True.intro) (LocG.of rfl (loc_pick (z := .const (.bool true)) (by decide) (by rw [g27]; rfl) (by exact True.intro) (ok_sc rfl) (by exact Cp.sc))) nofree ?_
            refine RunS.step (by exact And.intro rfl True.intro) (by exact True.intro) (LocG.of rfl (loc_copy (.inl rfl) (by decide) (by exact Cp.sc))) nofree ?_
            refine RunS.cases (s := 53) rfl (fun g28 => ?_) (fun g28 => nomatch g28)
            refine RunS.step (by exact And.intro rfl True.intro) (by exact True.intro) (LocG.no (ops := _) rfl rfl (by decide) g28 rfl) nofree ?_
            refine RunS.step (by exact And.intro rfl True.intro) (by exact True.intro) (LocG.no (ops := _) rfl rfl (by decide) g28 rfl) nofree ?_
            refine RunS.step (by exact And.intro rfl True.intro) (by exact True.intro) (LocG.no (ops := _) rfl rfl (by decide) g28 rfl) nofree ?_
            refine RunS.step (by exact And.intro rfl True.intro) (by exact True.intro) (LocG.no (ops := _) rfl rfl (by decide) g28 rfl) nofree ?_
            refine RunS.step (by exact And.intro rfl True.intro) (by exact True.intro) (LocG.no (ops := _) rfl rfl (by decide) g28 rfl) nofree ?_
            refine RunS.step (by exact And.intro rfl True.intro) (by exact True.intro) (LocG.no (ops := _) rfl rfl (by decide) g28 rfl) nofree ?_
            refine RunS.step (by exact And.intro rfl True.intro) (by exact True.intro) (LocG.of rfl (loc_pick (z := .const (.bool true)) (by decide) (by rw [g28]; rfl) (by exact True.intro) (ok_sc rfl) (by exact Cp.sc))) nofree ?_
            refine RunS.step (by exact And.intro rfl True.intro) (by exact True.intro) (LocG.of rfl (loc_copy (.inl rfl) (by decide) (by exact Cp.sc))) nofree ?_
            refine RunS.cases (s := 61) rfl (fun g29 => ?_) (fun g29 => nomatch g29)
            refine RunS.step (by exact And.intro rfl True.intro) (by exact True.intro) (LocG.no (ops := _) rfl rfl (by decide) g29 rfl) nofree ?_
            refine RunS.step (by exact And.intro rfl True.intro) (by exact True.intro) (LocG.no (ops := _) rfl rfl (by decide) g29 rfl) nofree ?_
            refine RunS.step (by exact And.intro rfl True.intro) (by exact True.intro) (LocG.no (ops := _) rfl rfl (by decide) g29 rfl) nofree ?_
            refine RunS.step (by exact And.intro rfl True.intro) (by exact True.intro) (LocG.no (ops := _) rfl rfl (by decide) g29 rfl) nofree ?_
            refine RunS.step (by exact And.intro rfl True.intro) (by exact True.intro) (LocG.no (ops := _) rfl rfl (by decide) g29 rfl) nofree ?_
            refine RunS.step (by exact And.intro rfl True.intro) (by exact True.intro) (LocG.no (ops := _) rfl rfl (by decide) g29 rfl) nofree ?_
            refine RunS.step (by exact And.intro rfl True.intro) (by exact True.intro) (LocG.of rfl (loc_pick (z := .const (.bool true)) (by decide) (by rw [g29]; rfl) (by exact True.intro) (ok_sc rfl) (by exact Cp.sc))) nofree ?_
            refine sw_cond (t := 68) rfl (fun hb_ => ?_) (fun hb_ => nomatch hb_)
            refine sw_seq ?_
            refine sw_of (l := [(2, RV.ptr 2 0), (3, RV.ptr 3 0), (4, RV.sv false [PV.val _])]) (b := [(2, (81, [PV.val _, PV.val _, PV.sl _ _, PV.sl _ _, PV.sl _ _, PV.sl _ _, PV.sl _ _, PV.sl _ _, PV.sl _ _, PV.sl _ _, PV.sl _ _])), (3, (81, [PV.val _, PV.val _, PV.sl _ _, PV.sl _ _, PV.sl _ _, PV.sl _ _, PV.sl _ _, PV.sl _ _, PV.sl _ _, PV.sl _ _, PV.sl _ _]))]) (by exact And.intro rfl (And.intro rfl (And.intro rfl True.intro))) (by exact And.intro rfl (And.intro rfl True.intro)) ?_
            refine sw_reg ?_
            refine RunS.step (by exact True.intro) (by exact True.intro) (LocG.of rfl (loc_const (.inr rfl) (by decide) (ok_sc rfl))) nofree ?_
            refine sw_ret ?_
            exact (And.intro (by refine bool_eq ?_; exact (deq_false (fun e => by subst e; simp_all [deq_self])).symm) True.intro)
          · have sg27 := g27
            try simp only [decide_eq_true_eq, decide_eq_false_iff_not, bne_iff_ne, beq_iff_eq, Bool.not_eq_true', Bool.not_eq_false', ne_eq, bne_eq_false_iff_eq, beq_eq_false_iff_ne] at sg27
            refine RunS.step (by exact And.intro rfl (And.intro rfl True.intro)) (by exact True.intro) (LocG.yes rfl rfl (by decide) g27 (loc_field (by decide) fd_81_5)) nofree ?_
            refine RunS.step (by exact And.intro rfl (And.intro rfl True.intro)) (by exact And.intro rfl True.intro) (LocG.yes rfl rfl (by decide) g27 (loc_load (qs := [PV.sl .v _]) (by decide) ty_79 (fun _ => rfl) (by exact Nat.le_of_ble_eq_true rfl) (by exact (ToL.cons PV.to_none ToL.nil)) (by exact (BorL.cons (PV.bor_sl _) BorL.nil)))) nofree ?_
            refine RunS.step (by exact And.intro rfl (And.intro rfl True.intro)) (by exact True.intro) (LocG.yes rfl rfl (by decide) g27 (loc_field (by decide) fd_81_5)) nofree ?_
            refine RunS.step (by exact And.intro rfl (And.intro rfl True.intro)) (by exact And.intro rfl True.intro) (LocG.yes rfl rfl (by decide) g27 (loc_load (qs := [PV.sl .v _]) (by decide) ty_79 (fun _ => rfl) (by exact Nat.le_of_ble_eq_true rfl) (by exact (ToL.cons PV.to_none ToL.nil)) (by exact (BorL.cons (PV.bor_sl _) BorL.nil)))) nofree ?_
            refine RunS.step (by exact And.intro rfl (And.intro rfl (And.intro rfl True.intro))) (by exact True.intro) (LocG.yes rfl rfl (by decide) g27 (loc_call (qs := [(false, [PV.sl _ _]), (false, [PV.sl _ _])]) (as_ := [(false, [PV.sl .v _]), (false, [PV.sl .v _])]) (by decide) c_113 (by exact (And.intro (by exact True.intro) (And.intro (by exact True.intro) True.intro))) (by exact (And.intro (And.intro rfl (ToL.cons PV.to_none ToL.nil)) (And.intro (And.intro rfl (ToL.cons PV.to_none ToL.nil)) True.intro))) (by exact spec_l18Lists))) nofree ?_
            refine RunS.step (by exact And.intro rfl (And.intro rfl True.intro)) (by exact True.intro) (LocG.yes rfl rfl (by decide) g27 (loc_not (by decide))) nofree ?_
            refine RunS.step (by exact And.intro rfl (And.intro rfl True.intro)) (by exact True.intro) (LocG.of rfl (loc_pick (z := .tmp 51) (by decide) (by rw [g27]; rfl) (by exact True.intro) (by exact True.intro) (by exact Cp.sc))) nofree ?_
            refine RunS.step (by exact And.intro rfl True.intro) (by exact True.intro) (LocG.of rfl (loc_copy (.inl rfl) (by decide) (by exact Cp.sc))) nofree ?_
            refine RunS.cases (s := 53) rfl (fun g31 => ?_) (fun g31 => ?_)
            · have sg31 := g31
              try simp only [decide_eq_true_eq, decide_eq_false_iff_not, bne_iff_ne, beq_iff_eq, Bool.not_eq_true', Bool.not_eq_false', ne_eq, bne_eq_false_iff_eq, beq_eq_false_iff_ne] at sg31
              refine RunS.step (by exact And.intro rfl True.intro) (by exact True.intro) (LocG.no (ops := _) rfl rfl (by decide) g31 rfl) nofree ?_
              refine RunS.step (by exact And.intro rfl True.intro) (by exact True.intro) (LocG.no (ops := _) rfl rfl (by decide) g31 rfl) nofree ?_
              refine RunS.step (by exact And.intro rfl True.intro) (by exact True.intro) (LocG.no (ops := _) rfl rfl (by decide) g31 rfl) nofree ?_
              refine RunS.step (by exact And.intro rfl True.intro) (by exact True.intro) (LocG.no (ops := _) rfl rfl (by decide) g31 rfl) nofree ?_
              refine RunS.step (by exact And.intro rfl True.intro) (by exact True.intro) (LocG.no (ops := _) rfl rfl (by decide) g31 rfl) nofree ?_
              refine RunS.step (by exact And.intro rfl True.intro) (by exact True.intro) (LocG.no (ops := _) rfl rfl (by decide) g31 rfl) nofree ?_
              refine RunS.step (by exact And.intro rfl True.intro) (by exact True.intro) (LocG.of rfl (loc_pick (z := .const (.bool true)) (by decide) (by rw [g31]; rfl) (by exact True.intro) (ok_sc rfl) (by exact Cp.sc))) nofree ?_
              refine RunS.step (by exact And.intro rfl True.intro) (by exact True.intro) (LocG.of rfl (loc_copy (.inl rfl) (by decide) (by exact Cp.sc))) nofree ?_
              refine RunS.cases (s := 61) rfl (fun g32 => ?_) (fun g32 => nomatch g32)
              refine RunS.step (by exact And.intro rfl True.intro) (by exact True.intro) (LocG.no (ops := _) rfl rfl (by decide) g32 rfl) nofree ?_
              refine RunS.step (by exact And.intro rfl True.intro) (by exact True.intro) (LocG.no (ops := _) rfl rfl (by decide) g32 rfl) nofree ?_
              refine RunS.step (by exact And.intro rfl True.intro) (by exact True.intro) (LocG.no (ops := _) rfl rfl (by decide) g32 rfl) nofree ?_
              refine RunS.step (by exact And.intro rfl True.intro) (by exact True.intro) (LocG.no (ops := _) rfl rfl (by decide) g32 rfl) nofree ?_
              refine RunS.step (by exact And.intro rfl True.intro) (by exact True.intro) (LocG.no (ops := _) rfl rfl (by decide) g32 rfl) nofree ?_
              refine RunS.step (by exact And.intro rfl True.intro) (by exact True.intro) (LocG.no (ops := _) rfl rfl (by decide) g32 rfl) nofree ?_
              refine RunS.step (by exact And.intro rfl True.intro) (by exact True.intro) (LocG.of rfl (loc_pick (z := .const (.bool true)) (by decide) (by rw [g32]; rfl) (by exact True.intro) (ok_sc rfl) (by exact Cp.sc))) nofree ?_
              refine sw_cond (t := 68) rfl (fun hb_ => ?_) (fun hb_ => nomatch hb_)
              refine sw_seq ?_
              refine sw_of (l := [(2, RV.ptr 2 0), (3, RV.ptr 3 0), (4, RV.sv false [PV.val _])]) (b := [(2, (81, [PV.val _, PV.val _, PV.sl _ _, PV.sl _ _, PV.sl _ _, PV.sl _ _, PV.sl _ _, PV.sl _ _, PV.sl _ _, PV.sl _ _, PV.sl _ _])), (3, (81, [PV.val _, PV.val _, PV.sl _ _, PV.sl _ _, PV.sl _ _, PV.sl _ _, PV.sl _ _, PV.sl _ _, PV.sl _ _, PV.sl _ _, PV.sl _ _]))]) (by exact And.intro rfl (And.intro rfl (And.intro rfl True.intro))) (by exact And.intro rfl (And.intro rfl True.intro)) ?_
              refine sw_reg ?_
              refine RunS.step (by exact True.intro) (by exact True.intro) (LocG.of rfl (loc_const (.inr rfl) (by decide) (ok_sc rfl))) nofree ?_
              refine sw_ret ?_
              exact (And.intro (by refine bool_eq ?_; exact (deq_false (fun e => by subst e; simp_all [deq_self])).symm) True.intro)
            · have sg31 := g31
              try simp only [decide_eq_true_eq, decide_eq_false_iff_not, bne_iff_ne, beq_iff_eq, Bool.not_eq_true', Bool.not_eq_false', ne_eq, bne_eq_false_iff_eq, beq_eq_false_iff_ne] at sg31
              refine RunS.step (by exact And.intro rfl (And.intro rfl True.intro)) (by exact True.intro) (LocG.yes rfl rfl (by decide) g31 (loc_field (by decide) fd_81_6)) nofree ?_
              refine RunS.step (by exact And.intro rfl (And.intro rfl True.intro)) (by exact And.intro rfl True.intro) (LocG.yes rfl rfl (by decide) g31 (loc_load (qs := [PV.sl .v _]) (by decide) ty_23 (fun _ => rfl) (by exact Nat.le_of_ble_eq_true rfl) (by exact (ToL.cons PV.to_none ToL.nil)) (by exact (BorL.cons (PV.bor_sl _) BorL.nil)))) nofree ?_
              refine RunS.step (by exact And.intro rfl (And.intro rfl True.intro)) (by exact True.intro) (LocG.yes rfl rfl (by decide) g31 (loc_field (by decide) fd_81_6)) nofree ?_
              refine RunS.step (by exact And.intro rfl (And.intro rfl True.intro)) (by exact And.intro rfl True.intro) (LocG.yes rfl rfl (by decide) g31 (loc_load (qs := [PV.sl .v _]) (by decide) ty_23 (fun _ => rfl) (by exact Nat.le_of_ble_eq_true rfl) (by exact (ToL.cons PV.to_none ToL.nil)) (by exact (BorL.cons (PV.bor_sl _) BorL.nil)))) nofree ?_
              refine RunS.step (by exact And.intro rfl (And.intro rfl (And.intro rfl True.intro))) (by exact True.intro) (LocG.yes rfl rfl (by decide) g31 (loc_call (qs := [(false, [PV.sl _ _]), (false, [PV.sl _ _])]) (as_ := [(false, [PV.sl .v _]), (false, [PV.sl .v _])]) (by decide) c_114 (by exact (And.intro (by exact True.intro) (And.intro (by exact True.intro) True.intro))) (by exact (And.intro (And.intro rfl (ToL.cons PV.to_none ToL.nil)) (And.intro (And.intro rfl (ToL.cons PV.to_none ToL.nil)) True.intro))) (by exact spec_l2Ints))) nofree ?_
              refine RunS.step (by exact And.intro rfl (And.intro rfl True.intro)) (by exact True.intro) (LocG.yes rfl rfl (by decide) g31 (loc_not (by decide))) nofree ?_
              refine RunS.step (by exact And.intro rfl (And.intro rfl True.intro)) (by exact True.intro) (LocG.of rfl (loc_pick (z := .tmp 59) (by decide) (by rw [g31]; rfl) (by exact True.intro) (by exact True.intro) (by exact Cp.sc))) nofree ?_
              refine RunS.step (by exact And.intro rfl True.intro) (by exact True.intro) (LocG.of rfl (loc_copy (.inl rfl) (by decide) (by exact Cp.sc))) nofree ?_
              refine RunS.cases (s := 61) rfl (fun g34 => ?_) (fun g34 => ?_)
              · have sg34 := g34
                try simp only [decide_eq_true_eq, decide_eq_false_iff_not, bne_iff_ne, beq_iff_eq, Bool.not_eq_true', Bool.not_eq_false', ne_eq, bne_eq_false_iff_eq, beq_eq_false_iff_ne] at sg34
                refine RunS.step (by exact And.intro rfl True.intro) (by exact True.intro) (LocG.no (ops := _) rfl rfl (by decide) g34 rfl) nofree ?_
                refine RunS.step (by exact And.intro rfl True.intro) (by exact True.intro) (LocG.no (ops := _) rfl rfl (by decide) g34 rfl) nofree ?_
                refine RunS.step (by exact And.intro rfl True.intro) (by exact True.intro) (LocG.no (ops := _) rfl rfl (by decide) g34 rfl) nofree ?_
                refine RunS.step (by exact And.intro rfl True.intro) (by exact True.intro) (LocG.no (ops := _) rfl rfl (by decide) g34 rfl) nofree ?_
                refine RunS.step (by exact And.intro rfl True.intro) (by exact True.intro) (LocG.no (ops := _) rfl rfl (by decide) g34 rfl) nofree ?_
                refine RunS.step (by exact And.intro rfl True.intro) (by exact True.intro) (LocG.no (ops := _) rfl rfl (by decide) g34 rfl) nofree ?_
                refine RunS.step (by exact And.intro rfl True.intro) (by exact True.intro) (LocG.of rfl (loc_pick (z := .const (.bool true)) (by decide) (by rw [g34]; rfl) (by exact True.intro) (ok_sc rfl) (by exact Cp.sc))) nofree ?_
                refine sw_cond (t := 68) rfl (fun hb_ => ?_) (fun hb_ => nomatch hb_)
                refine sw_seq ?_
                refine sw_of (l := [(2, RV.ptr 2 0), (3, RV.ptr 3 0), (4, RV.sv false [PV.val _])]) (b := [(2, (81, [PV.val _, PV.val _, PV.sl _ _, PV.sl _ _, PV.sl _ _, PV.sl _ _, PV.sl _ _, PV.sl _ _, PV.sl _ _, PV.sl _ _, PV.sl _ _])), (3, (81, [PV.val _, PV.val _, PV.sl _ _, PV.sl _ _, PV.sl _ _, PV.sl _ _, PV.sl _ _, PV.sl _ _, PV.sl _ _, PV.sl _ _, PV.sl _ _]))]) (by exact And.intro rfl (And.intro rfl (And.intro rfl True.intro))) (by exact And.intro rfl (And.intro rfl True.intro)) ?_
                refine sw_reg ?_
                refine RunS.step (by exact True.intro) (by exact True.intro) (LocG.of rfl (loc_const (.inr rfl) (by decide) (ok_sc rfl))) nofree ?_
                refine sw_ret ?_
                exact (And.intro (by refine bool_eq ?_; exact (deq_false (fun e => by subst e; simp_all [deq_self])).symm) True.intro)
              · have sg34 := g34
                try simp only [decide_eq_true_eq, decide_eq_false_iff_not, bne_iff_ne, beq_iff_eq, Bool.not_eq_true', Bool.not_eq_false', ne_eq, bne_eq_false_iff_eq, beq_eq_false_iff_ne] at sg34
                refine RunS.step (by exact And.intro rfl (And.intro rfl True.intro)) (by exact True.intro) (LocG.yes rfl rfl (by decide) g34 (loc_field (by decide) fd_81_7)) nofree ?_
                refine RunS.step (by exact And.intro rfl (And.intro rfl True.intro)) (by exact And.intro rfl True.intro) (LocG.yes rfl rfl (by decide) g34 (loc_load (qs := [PV.sl .v _]) (by decide) ty_79 (fun _ => rfl) (by exact Nat.le_of_ble_eq_true rfl) (by exact (ToL.cons PV.to_none ToL.nil)) (by exact (BorL.cons (PV.bor_sl _) BorL.nil)))) nofree ?_
                refine RunS.step (by exact And.intro rfl (And.intro rfl True.intro)) (by exact True.intro) (LocG.yes rfl rfl (by decide) g34 (loc_field (by decide) fd_81_7)) nofree ?_
                refine RunS.step (by exact And.intro rfl (And.intro rfl True.intro)) (by exact And.intro rfl True.intro) (LocG.yes rfl rfl (by decide) g34 (loc_load (qs := [PV.sl .v _]) (by decide) ty_79 (fun _ => rfl) (by exact Nat.le_of_ble_eq_true rfl) (by exact (ToL.cons PV.to_none ToL.nil)) (by exact (BorL.cons (PV.bor_sl _) BorL.nil)))) nofree ?_
                refine RunS.step (by exact And.intro rfl (And.intro rfl (And.intro rfl True.intro))) (by exact True.intro) (LocG.yes rfl rfl (by decide) g34 (loc_call (qs := [(false, [PV.sl _ _]), (false, [PV.sl _ _])]) (as_ := [(false, [PV.sl .v _]), (false, [PV.sl .v _])]) (by decide) c_113 (by exact (And.intro (by exact True.intro) (And.intro (by exact True.intro) True.intro))) (by exact (And.intro (And.intro rfl (ToL.cons PV.to_none ToL.nil)) (And.intro (And.intro rfl (ToL.cons PV.to_none ToL.nil)) True.intro))) (by exact spec_l18Lists))) nofree ?_
                refine RunS.step (by exact And.intro rfl (And.intro rfl True.intro)) (by exact True.intro) (LocG.yes rfl rfl (by decide) g34 (loc_not (by decide))) nofree ?_
                refine RunS.step (by exact And.intro rfl (And.intro rfl True.intro)) (by exact True.intro) (LocG.of rfl (loc_pick (z := .tmp 67) (by decide) (by rw [g34]; rfl) (by exact True.intro) (by exact True.intro) (by exact Cp.sc))) nofree ?_
                refine sw_cond (t := 68) rfl (fun hb36 => ?_) (fun hb36 => ?_)
                · try simp only [decide_eq_true_eq, decide_eq_false_iff_not, bne_iff_ne, beq_iff_eq, Bool.not_eq_true', Bool.not_eq_false', ne_eq, bne_eq_false_iff_eq, beq_eq_false_iff_ne] at hb36
                  refine sw_seq ?_
                  refine sw_of (l := [(2, RV.ptr 2 0), (3, RV.ptr 3 0), (4, RV.sv false [PV.val _])]) (b := [(2, (81, [PV.val _, PV.val _, PV.sl _ _, PV.sl _ _, PV.sl _ _, PV.sl _ _, PV.sl _ _, PV.sl _ _, PV.sl _ _, PV.sl _ _, PV.sl _ _])), (3, (81, [PV.val _, PV.val _, PV.sl _ _, PV.sl _ _, PV.sl _ _, PV.sl _ _, PV.sl _ _, PV.sl _ _, PV.sl _ _, PV.sl _ _, PV.sl _ _]))]) (by exact And.intro rfl (And.intro rfl (And.intro rfl True.intro))) (by exact And.intro rfl (And.intro rfl True.intro)) ?_
                  refine sw_reg ?_
                  refine RunS.step (by exact True.intro) (by exact True.intro) (LocG.of rfl (loc_const (.inr rfl) (by decide) (ok_sc rfl))) nofree ?_
                  refine sw_ret ?_
                  exact (And.intro (by refine bool_eq ?_; exact (deq_false (fun e => by subst e; simp_all [deq_self])).symm) True.intro)
                · try simp only [decide_eq_true_eq, decide_eq_false_iff_not, bne_iff_ne, beq_iff_eq, Bool.not_eq_true', Bool.not_eq_false', ne_eq, bne_eq_false_iff_eq, beq_eq_false_iff_ne] at hb36
                  have hl : x.Up.length = y.Up.length := by first | omega | (simp_all; done) | (simp_all; omega)
                  refine sw_skip ?_
                  refine sw_seq ?_
                  refine sw_seq ?_
                  refine sw_of (l := [(2, RV.ptr 2 0), (3, RV.ptr 3 0), (4, RV.sv false [PV.val _])]) (b := [(2, (81, [PV.val _, PV.val _, PV.sl _ _, PV.sl _ _, PV.sl _ _, PV.sl _ _, PV.sl _ _, PV.sl _ _, PV.sl _ _, PV.sl _ _, PV.sl _ _])), (3, (81, [PV.val _, PV.val _, PV.sl _ _, PV.sl _ _, PV.sl _ _, PV.sl _ _, PV.sl _ _, PV.sl _ _, PV.sl _ _, PV.sl _ _, PV.sl _ _]))]) (by exact And.intro rfl (And.intro rfl (And.intro rfl True.intro))) (by exact And.intro rfl (And.intro rfl True.intro)) ?_
                  refine sw_reg ?_
                  refine RunS.step (by exact True.intro) (by exact True.intro) (LocG.of rfl (loc_const (.inr rfl) (by decide) (ok_sc rfl))) nofree ?_
                  refine sw_block ?_
                  refine sw_of (l := [(2, RV.ptr 2 0), (3, RV.ptr 3 0), (4, RV.sv false [PV.val _]), (5, RV.sv false [PV.val _])]) (b := [(2, (81, [PV.val _, PV.val _, PV.sl _ _, PV.sl _ _, PV.sl _ _, PV.sl _ _, PV.sl _ _, PV.sl _ _, PV.sl _ _, PV.sl _ _, PV.sl _ _])), (3, (81, [PV.val _, PV.val _, PV.sl _ _, PV.sl _ _, PV.sl _ _, PV.sl _ _, PV.sl _ _, PV.sl _ _, PV.sl _ _, PV.sl _ _, PV.sl _ _]))]) (by exact And.intro rfl (And.intro rfl (And.intro rfl (And.intro rfl True.intro)))) (by exact And.intro rfl (And.intro rfl True.intro)) ?_
                  refine sw_loop (l0 := [(2, RV.ptr 2 0), (3, RV.ptr 3 0)]) (b0 := [(2, (81, [PV.val _, PV.val _, PV.sl _ _, PV.sl _ _, PV.sl _ _, PV.sl _ _, PV.sl _ _, PV.sl _ _, PV.sl _ _, PV.sl _ _, PV.sl _ _])), (3, (81, [PV.val _, PV.val _, PV.sl _ _, PV.sl _ _, PV.sl _ _, PV.sl _ _, PV.sl _ _, PV.sl _ _, PV.sl _ _, PV.sl _ _, PV.sl _ _]))]) (fun k : Nat => k ≤ x.Up.length ∧ x.Up.take k = y.Up.take k) (fun k : Nat => [(5, RV.int (k : Int))]) (fun k : Nat => []) (fun k : Nat => x.Up.length - k) 0 (by exact ⟨by omega, by simp⟩) (by exact And.intro rfl (And.intro rfl True.intro)) (by exact And.intro rfl (And.intro rfl True.intro)) (by exact And.intro (by exact rfl) (True.intro)) (by exact True.intro) ?_
                  rintro k ⟨hk, ha⟩
                  refine sw_seq ?_
                  refine sw_seq ?_
                  refine sw_reg ?_
                  refine RunS.step (by exact And.intro rfl True.intro) (by exact True.intro) (LocG.of rfl (loc_copy (.inl rfl) (by decide) (by exact Cp.sc))) nofree ?_
                  refine RunS.step (by exact And.intro rfl True.intro) (by exact True.intro) (LocG.of rfl (loc_field (by decide) fd_81_2)) nofree ?_
                  refine RunS.step (by exact And.intro rfl True.intro) (by exact And.intro rfl True.intro) (LocG.of rfl (loc_load (qs := [PV.sl .v _]) (by decide) ty_74 (fun _ => rfl) (by exact Nat.le_of_ble_eq_true rfl) (by exact (ToL.cons PV.to_none ToL.nil)) (by exact (BorL.cons (PV.bor_sl _) BorL.nil)))) nofree ?_
                  refine RunS.step (by exact And.intro rfl True.intro) (by exact True.intro) (LocG.of rfl (loc_len (by decide) sl_74 (by first | exact List.length_map _ | exact rfl))) nofree ?_
                  refine RunS.step (by exact And.intro rfl (And.intro rfl True.intro)) (by exact True.intro) (LocG.of rfl (loc_lss (by decide) (by exact True.intro) (by exact True.intro))) nofree ?_
                  refine sw_cond (t := 73) rfl (fun hb37 => ?_) (fun hb37 => ?_)
                  · try simp only [decide_eq_true_eq, decide_eq_false_iff_not, bne_iff_ne, beq_iff_eq, Bool.not_eq_true', Bool.not_eq_false', ne_eq, bne_eq_false_iff_eq, beq_eq_false_iff_ne] at hb37
                    have hlt : k < x.Up.length := by omega
                    have hlt2 : k < y.Up.length := by omega
                    refine sw_skip ?_
                    refine sw_seq ?_
                    refine sw_block ?_
                    refine sw_seq ?_
                    refine sw_of (l := [(2, RV.ptr 2 0), (3, RV.ptr 3 0), (5, RV.sv false [PV.val _])]) (b := [(2, (81, [PV.val _, PV.val _, PV.sl _ _, PV.sl _ _, PV.sl _ _, PV.sl _ _, PV.sl _ _, PV.sl _ _, PV.sl _ _, PV.sl _ _, PV.sl _ _])), (3, (81, [PV.val _, PV.val _, PV.sl _ _, PV.sl _ _, PV.sl _ _, PV.sl _ _, PV.sl _ _, PV.sl _ _, PV.sl _ _, PV.sl _ _, PV.sl _ _]))]) (by exact And.intro rfl (And.intro rfl (And.intro rfl True.intro))) (by exact And.intro rfl (And.intro rfl True.intro)) ?_
                    refine sw_draw hm_ ?_
                    refine Run.step 0 (by exact And.intro rfl True.intro) (by exact True.intro) (LocG.of rfl (loc_field (by decide) fd_81_2)) nofree (by kernel_rfl) ?_
                    refine Run.step 1 (by exact And.intro rfl True.intro) (by exact And.intro rfl True.intro) (LocG.of rfl (loc_load (qs := [PV.sl .v _]) (by decide) ty_74 (fun _ => rfl) (by exact Nat.le_of_ble_eq_true rfl) (by exact (ToL.cons PV.to_none ToL.nil)) (by exact (BorL.cons (PV.bor_sl _) BorL.nil)))) nofree (by kernel_rfl) ?_
                    refine Run.step 0 (by exact And.intro rfl True.intro) (by exact True.intro) (LocG.of rfl (loc_copy (.inl rfl) (by decide) (by exact Cp.sc))) nofree (by kernel_rfl) ?_
                    refine Run.step 7 (by exact And.intro rfl (And.intro rfl True.intro)) (by exact True.intro) (LocG.of rfl (loc_index (by decide) sl_74 (by exact True.intro) (by exact rfl) (by exact getm2 (by omega) rfl) (by exact rfl))) nofree (by kernel_rfl) ?_
                    refine Run.step 15 (by exact And.intro rfl True.intro) (by exact True.intro) (LocG.of rfl (loc_eload (qs := [PV.val _]) (by decide) ty_4 (fun _ => rfl) (by exact Nat.le_of_ble_eq_true rfl) (by exact (ToL.cons (PV.To.refl _) ToL.nil)) (by exact (BorL.cons (PV.bor_val _) BorL.nil)))) nofree (by kernel_rfl) ?_
                    refine Run.step 0 (by exact And.intro rfl True.intro) (by exact True.intro) (LocG.of rfl (loc_field (by decide) fd_81_2)) nofree (by kernel_rfl) ?_
                    refine Run.step 32 (by exact And.intro rfl True.intro) (by exact And.intro rfl True.intro) (LocG.of rfl (loc_load (qs := [PV.sl .v _]) (by decide) ty_74 (fun _ => rfl) (by exact Nat.le_of_ble_eq_true rfl) (by exact (ToL.cons PV.to_none ToL.nil)) (by exact (BorL.cons (PV.bor_sl _) BorL.nil)))) nofree (by kernel_rfl) ?_
                    refine Run.step 0 (by exact And.intro rfl True.intro) (by exact True.intro) (LocG.of rfl (loc_copy (.inl rfl) (by decide) (by exact Cp.sc))) nofree (by kernel_rfl) ?_
                    refine Run.step 224 (by exact And.intro rfl (And.intro rfl True.intro)) (by exact True.intro) (LocG.of rfl (loc_index (by decide) sl_74 (by exact True.intro) (by exact rfl) (by exact getm2 (by omega) rfl) (by exact rfl))) nofree (by kernel_rfl) ?_
                    refine Run.step 480 (by exact And.intro rfl True.intro) (by exact True.intro) (LocG.of rfl (loc_eload (qs := [PV.val _]) (by decide) ty_4 (fun _ => rfl) (by exact Nat.le_of_ble_eq_true rfl) (by exact (ToL.cons (PV.To.refl _) ToL.nil)) (by exact (BorL.cons (PV.bor_val _) BorL.nil)))) nofree (by kernel_rfl) ?_
                    refine Run.step 1023 (by exact And.intro rfl (And.intro rfl True.intro)) (by exact True.intro) (LocG.of rfl (loc_bneq (by decide) ub_4 (by exact True.intro) (by exact True.intro))) nofree (by kernel_rfl) ?_
                    refine sw_cond (t := 86) rfl (fun hb38 => ?_) (fun hb38 => ?_)
                    · try simp only [decide_eq_true_eq, decide_eq_false_iff_not, bne_iff_ne, beq_iff_eq, Bool.not_eq_true', Bool.not_eq_false', ne_eq, bne_eq_false_iff_eq, beq_eq_false_iff_ne] at hb38
                      have hbad : ¬ x = y := by intro e; subst e; simp_all
                      refine sw_seq ?_
                      refine sw_of (l := [(2, RV.ptr 2 0), (3, RV.ptr 3 0), (5, RV.sv false [PV.val _])]) (b := [(2, (81, [PV.val _, PV.val _, PV.sl _ _, PV.sl _ _, PV.sl _ _, PV.sl _ _, PV.sl _ _, PV.sl _ _, PV.sl _ _, PV.sl _ _, PV.sl _ _])), (3, (81, [PV.val _, PV.val _, PV.sl _ _, PV.sl _ _, PV.sl _ _, PV.sl _ _, PV.sl _ _, PV.sl _ _, PV.sl _ _, PV.sl _ _, PV.sl _ _]))]) (by exact And.intro rfl (And.intro rfl (And.intro rfl True.intro))) (by exact And.intro rfl (And.intro rfl True.intro)) ?_
                      refine sw_reg ?_
                      refine RunS.step (by exact True.intro) (by exact True.intro) (LocG.of rfl (loc_const (.inr rfl) (by decide) (ok_sc rfl))) nofree ?_
                      refine sw_ret ?_
                      exact (And.intro (by refine bool_eq ?_; exact (deq_false hbad).symm) True.intro)
                    · try simp only [decide_eq_true_eq, decide_eq_false_iff_not, bne_iff_ne, beq_iff_eq, Bool.not_eq_true', Bool.not_eq_false', ne_eq, bne_eq_false_iff_eq, beq_eq_false_iff_ne] at hb38
                      refine sw_skip ?_
                      refine sw_of (l := [(2, RV.ptr 2 0), (3, RV.ptr 3 0), (5, RV.sv false [PV.val _])]) (b := [(2, (81, [PV.val _, PV.val _, PV.sl _ _, PV.sl _ _, PV.sl _ _, PV.sl _ _, PV.sl _ _, PV.sl _ _, PV.sl _ _, PV.sl _ _, PV.sl _ _])), (3, (81, [PV.val _, PV.val _, PV.sl _ _, PV.sl _ _, PV.sl _ _, PV.sl _ _, PV.sl _ _, PV.sl _ _, PV.sl _ _, PV.sl _ _, PV.sl _ _]))]) (by exact And.intro rfl (And.intro rfl (And.intro rfl True.intro))) (by exact And.intro rfl (And.intro rfl True.intro)) ?_
                      refine sw_reg ?_
                      refine RunS.step (by exact And.intro rfl True.intro) (by exact True.intro) (LocG.of rfl (loc_copy (.inl rfl) (by decide) (by exact Cp.sc))) nofree ?_
                      refine RunS.step (by exact And.intro rfl True.intro) (by exact True.intro) (LocG.of rfl (loc_add (by decide) (by exact True.intro) (ok_sc rfl) (by unfold I64; omega))) nofree ?_
                      refine RunS.step (by exact And.intro rfl True.intro) (by exact True.intro) (LocG.of rfl (loc_copy (.inr rfl) (by decide) (by exact Cp.sc))) nofree ?_
                      refine Exists.intro (k + 1) (And.intro (by exact ⟨by omega, eq_succ ha hlt hlt2 (by simp_all)⟩) (And.intro (by omega) (And.intro (And.intro (by exact And.intro rfl (And.intro rfl True.intro)) (by exact And.intro rfl (And.intro rfl True.intro))) (And.intro (by exact And.intro (by exact rfl) (True.intro)) (by exact True.intro)))))
                  · try simp only [decide_eq_true_eq, decide_eq_false_iff_not, bne_iff_ne, beq_iff_eq, Bool.not_eq_true', Bool.not_eq_false', ne_eq, bne_eq_false_iff_eq, beq_eq_false_iff_ne] at hb37
                    have hend : x.Up = y.Up := eq_end hl (by rw [show x.Up.length = k by omega]; exact ha)
                    refine sw_exit ?_
                    refine sw_seq ?_
                    refine sw_of (l := [(2, RV.ptr 2 0), (3, RV.ptr 3 0), (5, RV.sv false [PV.val _])]) (b := [(2, (81, [PV.val _, PV.val _, PV.sl _ _, PV.sl _ _, PV.sl _ _, PV.sl _ _, PV.sl _ _, PV.sl _ _, PV.sl _ _, PV.sl _ _, PV.sl _ _])), (3, (81, [PV.val _, PV.val _, PV.sl _ _, PV.sl _ _, PV.sl _ _, PV.sl _ _, PV.sl _ _, PV.sl _ _, PV.sl _ _, PV.sl _ _, PV.sl _ _]))]) (by exact And.intro rfl (And.intro rfl (And.intro rfl True.intro))) (by exact And.intro rfl (And.intro rfl True.intro)) ?_
                    refine sw_reg ?_
                    refine RunS.step (by exact True.intro) (by exact True.intro) (LocG.of rfl (loc_const (.inr rfl) (by decide) (ok_sc rfl))) nofree ?_
                    refine sw_ret ?_
                    exact (And.intro (by refine bool_eq ?_; refine (deq_true ?_).symm; rw [ext_Cluster_iff]; simp_all [deq_iff, deq_no]) True.intro)
end Go.Proofs.Ytcfbekjiiokcbaa
