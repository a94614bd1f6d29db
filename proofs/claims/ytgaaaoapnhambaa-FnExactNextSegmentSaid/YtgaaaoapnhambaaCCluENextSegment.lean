/- What functions of the program compute. No condition. -/
import Derived.Test.YtgaaaoapnhambaaCCluDNextSegment
import Derived.Test.YtgaaaoapnhambaaCDc
set_option linter.unusedVariables false
set_option linter.unusedSimpArgs false
namespace Go.Proofs.Ytgaaaoapnhambaa
open Go Go.RowKit M
set_option maxRecDepth 10000
theorem impl_IsCluster {p3 p4 p9 p10 p13 p14 : Fl} {c : Cluster}  (hb : wtRowSS c.Parts ≤ 68719476736) : SCall Try.prog 111 [(true, [PV.val (vI c.Query.Id), PV.val (vI c.Query.Tenant), PV.sl .v (c.Query.Conds.map cCond), PV.sl .v (c.Query.Out.map cInt), PV.sl .v (c.Parts.map (cRowS p3 p4)), PV.sl .v (c.Up.map cBool), PV.sl .v (c.At.map cInt), PV.sl .v (c.Pos.map cInt), PV.sl .v (c.Buffer.map (cRowS p9 p10)), PV.sl .v (c.Done.map cInt), PV.sl .v (c.Rows.map (cRowS p13 p14))])] (resRV [(false, [PV.val (.bool (isCl c))])]) := by
  refine scall_of (rs := [(false, [PV.val (.bool (isCl c))])]) Try.func111 rfl (Nat.le_of_ble_eq_true rfl) (borA_cons (BorL.cons (PV.bor_val _) (BorL.cons (PV.bor_val _) (BorL.cons (PV.bor_sl _) (BorL.cons (PV.bor_sl _) (BorL.cons (PV.bor_sl _) (BorL.cons (PV.bor_sl _) (BorL.cons (PV.bor_sl _) (BorL.cons (PV.bor_sl _) (BorL.cons (PV.bor_sl _) (BorL.cons (PV.bor_sl _) (BorL.cons (PV.bor_sl _) BorL.nil))))))))))) borA_nil) ?_
  intro h0 w0 Fz0
  refine sw_slen (s := 0) (j := 2) rfl rfl fun hl0_2 => ?_
  try rw [List.length_map] at hl0_2
  refine sw_slen (s := 0) (j := 3) rfl rfl fun hl0_3 => ?_
  try rw [List.length_map] at hl0_3
  refine sw_slen (s := 0) (j := 4) rfl rfl fun hl0_4 => ?_
  try rw [List.length_map] at hl0_4
  refine sw_slen (s := 0) (j := 5) rfl rfl fun hl0_5 => ?_
  try rw [List.length_map] at hl0_5
  refine sw_slen (s := 0) (j := 6) rfl rfl fun hl0_6 => ?_
  try rw [List.length_map] at hl0_6
  refine sw_slen (s := 0) (j := 7) rfl rfl fun hl0_7 => ?_
  try rw [List.length_map] at hl0_7
  refine sw_slen (s := 0) (j := 8) rfl rfl fun hl0_8 => ?_
  try rw [List.length_map] at hl0_8
  refine sw_slen (s := 0) (j := 9) rfl rfl fun hl0_9 => ?_
  try rw [List.length_map] at hl0_9
  refine sw_slen (s := 0) (j := 10) rfl rfl fun hl0_10 => ?_
  try rw [List.length_map] at hl0_10
  have hwp : ∀ s : Int, wtRowS (partAt c s) ≤ 68719476736 := fun s => part_wt hb
  refine sw_seq ?_
  refine sw_reg ?_
  refine RunS.step (by exact ⟨rfl, ⟨⟩⟩) (by exact ⟨⟩) (LocG.of rfl (loc_box (ag := true) (cs := [PV.val _, PV.val _, PV.sl _ _, PV.sl _ _, PV.sl _ _, PV.sl _ _, PV.sl _ _, PV.sl _ _, PV.sl _ _, PV.sl _ _, PV.sl _ _]) (by decide) (by exact ⟨⟩))) (free1 (Free.of_ rfl)) ?_
  refine RunS.s1 (x := loc_const (.inr rfl) (by decide) (ok_sc rfl)) (y := ?_)
  refine sw_seq ?_
  refine sw_of (l := [(1, RV.ptr 1 0), (2, RV.sv false [PV.val _])]) (b := [(1, (37, [PV.val _, PV.val _, PV.sl _ _, PV.sl _ _, PV.sl _ _, PV.sl _ _, PV.sl _ _, PV.sl _ _, PV.sl _ _, PV.sl _ _, PV.sl _ _]))]) (by exact ⟨rfl, rfl, ⟨⟩⟩) (by exact ⟨rfl, ⟨⟩⟩) ?_
  refine sw_reg ?_
  refine RunS.s1 (x := loc_field (by decide) fd_37_2) (y := ?_)
  refine RunS.s1 (x := loc_load (qs := [PV.sl .v _]) (by decide) ty_27 (fun _ => rfl) (by exact Nat.le_of_ble_eq_true rfl) (by exact (ToL.cons PV.to_none ToL.nil)) (by exact (BorL.cons (PV.bor_sl _) BorL.nil))) (y := ?_)
  refine RunS.s1 (x := loc_len (by decide) sl_27 (by first | exact List.length_map _ | exact rfl)) (y := ?_)
  refine RunS.s1 (x := loc_copy (.inr rfl) (by decide) (by exact Cp.sc)) (y := ?_)
  refine sw_seq ?_
  refine sw_seq ?_
  refine sw_of (l := [(1, RV.ptr 1 0), (2, RV.sv false [PV.val _]), (3, RV.sv false [PV.val _])]) (b := [(1, (37, [PV.val _, PV.val _, PV.sl _ _, PV.sl _ _, PV.sl _ _, PV.sl _ _, PV.sl _ _, PV.sl _ _, PV.sl _ _, PV.sl _ _, PV.sl _ _]))]) (by exact ⟨rfl, rfl, rfl, ⟨⟩⟩) (by exact ⟨rfl, ⟨⟩⟩) ?_
  refine sw_reg ?_
  refine RunS.s1 (x := loc_field (by decide) fd_37_0) (y := ?_)
  refine RunS.s1 (x := loc_load (qs := [PV.val _, PV.val _, PV.sl .v _, PV.sl .v _]) (by decide) ty_34 (fun h => nomatch h) (by exact Nat.le_of_ble_eq_true rfl) (by exact (ToL.cons (PV.To.refl _) (ToL.cons (PV.To.refl _) (ToL.cons PV.to_none (ToL.cons PV.to_none ToL.nil))))) (by exact (BorL.cons (PV.bor_val _) (BorL.cons (PV.bor_val _) (BorL.cons (PV.bor_sl _) (BorL.cons (PV.bor_sl _) BorL.nil)))))) (y := ?_)
  refine RunS.s1 (x := loc_field (by decide) fd_37_1) (y := ?_)
  refine RunS.s1 (x := loc_load (qs := [PV.sl .v _]) (by decide) ty_35 (fun _ => rfl) (by exact Nat.le_of_ble_eq_true rfl) (by exact (ToL.cons PV.to_none ToL.nil)) (by exact (BorL.cons (PV.bor_sl _) BorL.nil))) (y := ?_)
  refine RunS.s1 (x := loc_copy (.inl rfl) (by decide) (by exact Cp.sc)) (y := ?_)
  refine RunS.s1 (x := loc_call (qs := [(true, [PV.val _, PV.val _, PV.sl _ _, PV.sl _ _]), (false, [PV.sl _ _]), (false, [PV.val _])]) (as_ := [(true, [PV.val _, PV.val _, PV.sl .v _, PV.sl .v _]), (false, [PV.sl .v _]), (false, [PV.val _])]) (by decide) c_173 (by exact (And.intro (by exact ⟨⟩) (And.intro (by exact ⟨⟩) (And.intro (by exact ⟨⟩) True.intro)))) (by exact (And.intro (And.intro rfl (ToL.cons (PV.To.refl _) (ToL.cons (PV.To.refl _) (ToL.cons PV.to_none (ToL.cons PV.to_none ToL.nil))))) (And.intro (And.intro rfl (ToL.cons PV.to_none ToL.nil)) (And.intro (And.intro rfl (ToL.cons (PV.To.refl _) ToL.nil)) True.intro)))) (by exact impl_startOk (by omega))) (y := ?_)
  refine RunS.s1 (x := loc_not (by decide)) (y := ?_)
  refine RunS.s1 (x := loc_copy (.inl rfl) (by decide) (by exact Cp.sc)) (y := ?_)
  refine RunS.cases (s := 20) rfl (fun g1 => ?_) (fun g1 => ?_)
  · have sg1 := g1
    try simp only [q1, q2, q3, q4, q5, q6, q7, q8, q9] at sg1
    refine RunS.s0t g1 ?_
    refine RunS.s0t g1 ?_
    refine RunS.s0t g1 ?_
    refine RunS.s0t g1 ?_
    refine RunS.s0t g1 ?_
    refine RunS.s1 (x := loc_pick (z := .const (.bool true)) (by decide) (by rw [g1]; rfl) (by exact ⟨⟩) (ok_sc rfl) (by exact Cp.sc)) (y := ?_)
    refine RunS.s1 (x := loc_copy (.inl rfl) (by decide) (by exact Cp.sc)) (y := ?_)
    refine RunS.cases (s := 27) rfl (fun g2 => ?_) (fun g2 => nomatch g2)
    refine RunS.s0t g2 ?_
    refine RunS.s0t g2 ?_
    refine RunS.s0t g2 ?_
    refine RunS.s0t g2 ?_
    refine RunS.s0t g2 ?_
    refine RunS.s1 (x := loc_pick (z := .const (.bool true)) (by decide) (by rw [g2]; rfl) (by exact ⟨⟩) (ok_sc rfl) (by exact Cp.sc)) (y := ?_)
    refine RunS.s1 (x := loc_copy (.inl rfl) (by decide) (by exact Cp.sc)) (y := ?_)
    refine RunS.cases (s := 34) rfl (fun g3 => ?_) (fun g3 => nomatch g3)
    refine RunS.s0t g3 ?_
    refine RunS.s0t g3 ?_
    refine RunS.s0t g3 ?_
    refine RunS.s0t g3 ?_
    refine RunS.s0t g3 ?_
    refine RunS.s1 (x := loc_pick (z := .const (.bool true)) (by decide) (by rw [g3]; rfl) (by exact ⟨⟩) (ok_sc rfl) (by exact Cp.sc)) (y := ?_)
    refine RunS.s1 (x := loc_copy (.inl rfl) (by decide) (by exact Cp.sc)) (y := ?_)
    refine RunS.cases (s := 41) rfl (fun g4 => ?_) (fun g4 => nomatch g4)
    refine RunS.s0t g4 ?_
    refine RunS.s0t g4 ?_
    refine RunS.s0t g4 ?_
    refine RunS.s0t g4 ?_
    refine RunS.s0t g4 ?_
    refine RunS.s0t g4 ?_
    refine RunS.s0t g4 ?_
    refine RunS.s1 (x := loc_pick (z := .const (.bool true)) (by decide) (by rw [g4]; rfl) (by exact ⟨⟩) (ok_sc rfl) (by exact Cp.sc)) (y := ?_)
    refine sw_cond (t := 49) rfl (fun hb_ => ?_) (fun hb_ => nomatch hb_)
    have hbad : isCl c = false := isCl_head (fun x => by unfold headB at x; simp_all)
    refine sw_seq ?_
    refine sw_of (l := [(1, RV.ptr 1 0), (2, RV.sv false [PV.val _]), (3, RV.sv false [PV.val _])]) (b := [(1, (37, [PV.val _, PV.val _, PV.sl _ _, PV.sl _ _, PV.sl _ _, PV.sl _ _, PV.sl _ _, PV.sl _ _, PV.sl _ _, PV.sl _ _, PV.sl _ _]))]) (by exact ⟨rfl, rfl, rfl, ⟨⟩⟩) (by exact ⟨rfl, ⟨⟩⟩) ?_
    refine sw_reg ?_
    refine RunS.s1 (x := loc_const (.inr rfl) (by decide) (ok_sc rfl)) (y := ?_)
    refine sw_ret ?_
    exact (And.intro (by refine bool_eq ?_; exact hbad.symm) True.intro)
  · have sg1 := g1
    try simp only [q1, q2, q3, q4, q5, q6, q7, q8, q9] at sg1
    refine RunS.s2 (hb := g1) (x := loc_field (by decide) fd_37_3) (y := ?_)
    refine RunS.s2 (hb := g1) (x := loc_load (qs := [PV.sl .v _]) (by decide) ty_23 (fun _ => rfl) (by exact Nat.le_of_ble_eq_true rfl) (by exact (ToL.cons PV.to_none ToL.nil)) (by exact (BorL.cons (PV.bor_sl _) BorL.nil))) (y := ?_)
    refine RunS.s2 (hb := g1) (x := loc_len (by decide) sl_23 (by first | exact List.length_map _ | exact rfl)) (y := ?_)
    refine RunS.s2 (hb := g1) (x := loc_copy (.inl rfl) (by decide) (by exact Cp.sc)) (y := ?_)
    refine RunS.s2 (hb := g1) (x := loc_neq (by decide) (by exact ⟨⟩) (by exact ⟨⟩)) (y := ?_)
    refine RunS.s1 (x := loc_pick (z := .tmp 25) (by decide) (by rw [g1]; rfl) (by exact ⟨⟩) (by exact ⟨⟩) (by exact Cp.sc)) (y := ?_)
    refine RunS.s1 (x := loc_copy (.inl rfl) (by decide) (by exact Cp.sc)) (y := ?_)
    refine RunS.cases (s := 27) rfl (fun g6 => ?_) (fun g6 => ?_)
    · have sg6 := g6
      try simp only [q1, q2, q3, q4, q5, q6, q7, q8, q9] at sg6
      refine RunS.s0t g6 ?_
      refine RunS.s0t g6 ?_
      refine RunS.s0t g6 ?_
      refine RunS.s0t g6 ?_
      refine RunS.s0t g6 ?_
      refine RunS.s1 (x := loc_pick (z := .const (.bool true)) (by decide) (by rw [g6]; rfl) (by exact ⟨⟩) (ok_sc rfl) (by exact Cp.sc)) (y := ?_)
      refine RunS.s1 (x := loc_copy (.inl rfl) (by decide) (by exact Cp.sc)) (y := ?_)
      refine RunS.cases (s := 34) rfl (fun g7 => ?_) (fun g7 => nomatch g7)
      refine RunS.s0t g7 ?_
      refine RunS.s0t g7 ?_
      refine RunS.s0t g7 ?_
      refine RunS.s0t g7 ?_
      refine RunS.s0t g7 ?_
      refine RunS.s1 (x := loc_pick (z := .const (.bool true)) (by decide) (by rw [g7]; rfl) (by exact ⟨⟩) (ok_sc rfl) (by exact Cp.sc)) (y := ?_)
      refine RunS.s1 (x := loc_copy (.inl rfl) (by decide) (by exact Cp.sc)) (y := ?_)
      refine RunS.cases (s := 41) rfl (fun g8 => ?_) (fun g8 => nomatch g8)
      refine RunS.s0t g8 ?_
      refine RunS.s0t g8 ?_
      refine RunS.s0t g8 ?_
      refine RunS.s0t g8 ?_
      refine RunS.s0t g8 ?_
      refine RunS.s0t g8 ?_
      refine RunS.s0t g8 ?_
      refine RunS.s1 (x := loc_pick (z := .const (.bool true)) (by decide) (by rw [g8]; rfl) (by exact ⟨⟩) (ok_sc rfl) (by exact Cp.sc)) (y := ?_)
      refine sw_cond (t := 49) rfl (fun hb_ => ?_) (fun hb_ => nomatch hb_)
      have hbad : isCl c = false := isCl_head (fun x => by unfold headB at x; simp_all)
      refine sw_seq ?_
      refine sw_of (l := [(1, RV.ptr 1 0), (2, RV.sv false [PV.val _]), (3, RV.sv false [PV.val _])]) (b := [(1, (37, [PV.val _, PV.val _, PV.sl _ _, PV.sl _ _, PV.sl _ _, PV.sl _ _, PV.sl _ _, PV.sl _ _, PV.sl _ _, PV.sl _ _, PV.sl _ _]))]) (by exact ⟨rfl, rfl, rfl, ⟨⟩⟩) (by exact ⟨rfl, ⟨⟩⟩) ?_
      refine sw_reg ?_
      refine RunS.s1 (x := loc_const (.inr rfl) (by decide) (ok_sc rfl)) (y := ?_)
      refine sw_ret ?_
      exact (And.intro (by refine bool_eq ?_; exact hbad.symm) True.intro)
    · have sg6 := g6
      try simp only [q1, q2, q3, q4, q5, q6, q7, q8, q9] at sg6
      refine RunS.s2 (hb := g6) (x := loc_field (by decide) fd_37_4) (y := ?_)
      refine RunS.s2 (hb := g6) (x := loc_load (qs := [PV.sl .v _]) (by decide) ty_23 (fun _ => rfl) (by exact Nat.le_of_ble_eq_true rfl) (by exact (ToL.cons PV.to_none ToL.nil)) (by exact (BorL.cons (PV.bor_sl _) BorL.nil))) (y := ?_)
      refine RunS.s2 (hb := g6) (x := loc_len (by decide) sl_23 (by first | exact List.length_map _ | exact rfl)) (y := ?_)
      refine RunS.s2 (hb := g6) (x := loc_copy (.inl rfl) (by decide) (by exact Cp.sc)) (y := ?_)
      refine RunS.s2 (hb := g6) (x := loc_neq (by decide) (by exact ⟨⟩) (by exact ⟨⟩)) (y := ?_)
      refine RunS.s1 (x := loc_pick (z := .tmp 32) (by decide) (by rw [g6]; rfl) (by exact ⟨⟩) (by exact ⟨⟩) (by exact Cp.sc)) (y := ?_)
      refine RunS.s1 (x := loc_copy (.inl rfl) (by decide) (by exact Cp.sc)) (y := ?_)
      refine RunS.cases (s := 34) rfl (fun g10 => ?_) (fun g10 => ?_)
      · have sg10 := g10
        try simp only [q1, q2, q3, q4, q5, q6, q7, q8, q9] at sg10
        refine RunS.s0t g10 ?_
        refine RunS.s0t g10 ?_
        refine RunS.s0t g10 ?_
        refine RunS.s0t g10 ?_
        refine RunS.s0t g10 ?_
        refine RunS.s1 (x := loc_pick (z := .const (.bool true)) (by decide) (by rw [g10]; rfl) (by exact ⟨⟩) (ok_sc rfl) (by exact Cp.sc)) (y := ?_)
        refine RunS.s1 (x := loc_copy (.inl rfl) (by decide) (by exact Cp.sc)) (y := ?_)
        refine RunS.cases (s := 41) rfl (fun g11 => ?_) (fun g11 => nomatch g11)
        refine RunS.s0t g11 ?_
        refine RunS.s0t g11 ?_
        refine RunS.s0t g11 ?_
        refine RunS.s0t g11 ?_
        refine RunS.s0t g11 ?_
        refine RunS.s0t g11 ?_
        refine RunS.s0t g11 ?_
        refine RunS.s1 (x := loc_pick (z := .const (.bool true)) (by decide) (by rw [g11]; rfl) (by exact ⟨⟩) (ok_sc rfl) (by exact Cp.sc)) (y := ?_)
        refine sw_cond (t := 49) rfl (fun hb_ => ?_) (fun hb_ => nomatch hb_)
        have hbad : isCl c = false := isCl_head (fun x => by unfold headB at x; simp_all)
        refine sw_seq ?_
        refine sw_of (l := [(1, RV.ptr 1 0), (2, RV.sv false [PV.val _]), (3, RV.sv false [PV.val _])]) (b := [(1, (37, [PV.val _, PV.val _, PV.sl _ _, PV.sl _ _, PV.sl _ _, PV.sl _ _, PV.sl _ _, PV.sl _ _, PV.sl _ _, PV.sl _ _, PV.sl _ _]))]) (by exact ⟨rfl, rfl, rfl, ⟨⟩⟩) (by exact ⟨rfl, ⟨⟩⟩) ?_
        refine sw_reg ?_
        refine RunS.s1 (x := loc_const (.inr rfl) (by decide) (ok_sc rfl)) (y := ?_)
        refine sw_ret ?_
        exact (And.intro (by refine bool_eq ?_; exact hbad.symm) True.intro)
      · have sg10 := g10
        try simp only [q1, q2, q3, q4, q5, q6, q7, q8, q9] at sg10
        refine RunS.s2 (hb := g10) (x := loc_field (by decide) fd_37_5) (y := ?_)
        refine RunS.s2 (hb := g10) (x := loc_load (qs := [PV.sl .v _]) (by decide) ty_35 (fun _ => rfl) (by exact Nat.le_of_ble_eq_true rfl) (by exact (ToL.cons PV.to_none ToL.nil)) (by exact (BorL.cons (PV.bor_sl _) BorL.nil))) (y := ?_)
        refine RunS.s2 (hb := g10) (x := loc_len (by decide) sl_35 (by first | exact List.length_map _ | exact rfl)) (y := ?_)
        refine RunS.s2 (hb := g10) (x := loc_copy (.inl rfl) (by decide) (by exact Cp.sc)) (y := ?_)
        refine RunS.s2 (hb := g10) (x := loc_neq (by decide) (by exact ⟨⟩) (by exact ⟨⟩)) (y := ?_)
        refine RunS.s1 (x := loc_pick (z := .tmp 39) (by decide) (by rw [g10]; rfl) (by exact ⟨⟩) (by exact ⟨⟩) (by exact Cp.sc)) (y := ?_)
        refine RunS.s1 (x := loc_copy (.inl rfl) (by decide) (by exact Cp.sc)) (y := ?_)
        refine RunS.cases (s := 41) rfl (fun g13 => ?_) (fun g13 => ?_)
        · have sg13 := g13
          try simp only [q1, q2, q3, q4, q5, q6, q7, q8, q9] at sg13
          refine RunS.s0t g13 ?_
          refine RunS.s0t g13 ?_
          refine RunS.s0t g13 ?_
          refine RunS.s0t g13 ?_
          refine RunS.s0t g13 ?_
          refine RunS.s0t g13 ?_
          refine RunS.s0t g13 ?_
          refine RunS.s1 (x := loc_pick (z := .const (.bool true)) (by decide) (by rw [g13]; rfl) (by exact ⟨⟩) (ok_sc rfl) (by exact Cp.sc)) (y := ?_)
          refine sw_cond (t := 49) rfl (fun hb_ => ?_) (fun hb_ => nomatch hb_)
          have hbad : isCl c = false := isCl_head (fun x => by unfold headB at x; simp_all)
          refine sw_seq ?_
          refine sw_of (l := [(1, RV.ptr 1 0), (2, RV.sv false [PV.val _]), (3, RV.sv false [PV.val _])]) (b := [(1, (37, [PV.val _, PV.val _, PV.sl _ _, PV.sl _ _, PV.sl _ _, PV.sl _ _, PV.sl _ _, PV.sl _ _, PV.sl _ _, PV.sl _ _, PV.sl _ _]))]) (by exact ⟨rfl, rfl, rfl, ⟨⟩⟩) (by exact ⟨rfl, ⟨⟩⟩) ?_
          refine sw_reg ?_
          refine RunS.s1 (x := loc_const (.inr rfl) (by decide) (ok_sc rfl)) (y := ?_)
          refine sw_ret ?_
          exact (And.intro (by refine bool_eq ?_; exact hbad.symm) True.intro)
        · have sg13 := g13
          try simp only [q1, q2, q3, q4, q5, q6, q7, q8, q9] at sg13
          refine RunS.s2 (hb := g13) (x := loc_field (by decide) fd_37_7) (y := ?_)
          refine RunS.s2 (hb := g13) (x := loc_load (qs := [PV.sl .v _]) (by decide) ty_35 (fun _ => rfl) (by exact Nat.le_of_ble_eq_true rfl) (by exact (ToL.cons PV.to_none ToL.nil)) (by exact (BorL.cons (PV.bor_sl _) BorL.nil))) (y := ?_)
          refine RunS.s2 (hb := g13) (x := loc_len (by decide) sl_35 (by first | exact List.length_map _ | exact rfl)) (y := ?_)
          refine RunS.s2 (hb := g13) (x := loc_field (by decide) fd_37_1) (y := ?_)
          refine RunS.s2 (hb := g13) (x := loc_load (qs := [PV.sl .v _]) (by decide) ty_35 (fun _ => rfl) (by exact Nat.le_of_ble_eq_true rfl) (by exact (ToL.cons PV.to_none ToL.nil)) (by exact (BorL.cons (PV.bor_sl _) BorL.nil))) (y := ?_)
          refine RunS.s2 (hb := g13) (x := loc_len (by decide) sl_35 (by first | exact List.length_map _ | exact rfl)) (y := ?_)
          refine RunS.s2 (hb := g13) (x := loc_neq (by decide) (by exact ⟨⟩) (by exact ⟨⟩)) (y := ?_)
          refine RunS.s1 (x := loc_pick (z := .tmp 48) (by decide) (by rw [g13]; rfl) (by exact ⟨⟩) (by exact ⟨⟩) (by exact Cp.sc)) (y := ?_)
          refine sw_cond (t := 49) rfl (fun hb15 => ?_) (fun hb15 => ?_)
          · try simp only [q1, q2, q3, q4, q5, q6, q7, q8, q9] at hb15
            have hbad : isCl c = false := isCl_head (fun x => by unfold headB at x; simp_all)
            refine sw_seq ?_
            refine sw_of (l := [(1, RV.ptr 1 0), (2, RV.sv false [PV.val _]), (3, RV.sv false [PV.val _])]) (b := [(1, (37, [PV.val _, PV.val _, PV.sl _ _, PV.sl _ _, PV.sl _ _, PV.sl _ _, PV.sl _ _, PV.sl _ _, PV.sl _ _, PV.sl _ _, PV.sl _ _]))]) (by exact ⟨rfl, rfl, rfl, ⟨⟩⟩) (by exact ⟨rfl, ⟨⟩⟩) ?_
            refine sw_reg ?_
            refine RunS.s1 (x := loc_const (.inr rfl) (by decide) (ok_sc rfl)) (y := ?_)
            refine sw_ret ?_
            exact (And.intro (by refine bool_eq ?_; exact hbad.symm) True.intro)
          · try simp only [q1, q2, q3, q4, q5, q6, q7, q8, q9] at hb15
            have hh : headB c := by unfold headB; first | (simp_all; done) | (simp_all; omega)
            have hh2 := hh
            unfold headB at hh2
            obtain ⟨_, hh3, hh4, hh5, hh6⟩ := hh2
            refine sw_skip ?_
            refine sw_seq ?_
            refine sw_seq ?_
            refine sw_of (l := [(1, RV.ptr 1 0), (2, RV.sv false [PV.val _]), (3, RV.sv false [PV.val _])]) (b := [(1, (37, [PV.val _, PV.val _, PV.sl _ _, PV.sl _ _, PV.sl _ _, PV.sl _ _, PV.sl _ _, PV.sl _ _, PV.sl _ _, PV.sl _ _, PV.sl _ _]))]) (by exact ⟨rfl, rfl, rfl, ⟨⟩⟩) (by exact ⟨rfl, ⟨⟩⟩) ?_
            refine sw_reg ?_
            refine RunS.s1 (x := loc_field (by decide) fd_37_6) (y := ?_)
            refine RunS.s1 (x := loc_load (qs := [PV.sl .v _]) (by decide) ty_23 (fun _ => rfl) (by exact Nat.le_of_ble_eq_true rfl) (by exact (ToL.cons PV.to_none ToL.nil)) (by exact (BorL.cons (PV.bor_sl _) BorL.nil))) (y := ?_)
            refine RunS.s1 (x := loc_len (by decide) sl_23 (by first | exact List.length_map _ | exact rfl)) (y := ?_)
            refine RunS.s1 (x := loc_const (.inl rfl) (by decide) (ok_sc rfl)) (y := ?_)
            refine sw_block ?_
            refine sw_of (l := [(1, RV.ptr 1 0), (2, RV.sv false [PV.val _]), (3, RV.sv false [PV.val _]), (51, RV.sv false [PV.sl _ _]), (52, RV.sv false [PV.val _]), (53, RV.sv false [PV.val _])]) (b := [(1, (37, [PV.val _, PV.val _, PV.sl _ _, PV.sl _ _, PV.sl _ _, PV.sl _ _, PV.sl _ _, PV.sl _ _, PV.sl _ _, PV.sl _ _, PV.sl _ _]))]) (by exact ⟨rfl, rfl, rfl, rfl, rfl, rfl, ⟨⟩⟩) (by exact ⟨rfl, ⟨⟩⟩) ?_
            refine sw_loop (l0 := [(1, RV.ptr 1 0), (3, RV.sv false [PV.val _]), (51, RV.sv false [PV.sl _ _]), (52, RV.sv false [PV.val _])]) (b0 := [(1, (37, [PV.val _, PV.val _, PV.sl _ _, PV.sl _ _, PV.sl _ _, PV.sl _ _, PV.sl _ _, PV.sl _ _, PV.sl _ _, PV.sl _ _, PV.sl _ _]))]) (fun k : Nat => k ≤ c.Done.length ∧ adjTo 0 (doneP c) ltI c.Done k = true) (fun k : Nat => [(53, RV.int (k : Int))]) (fun k : Nat => []) (fun k : Nat => c.Done.length - k) 0 (by exact ⟨by omega, rfl⟩) (by exact ⟨rfl, rfl, rfl, rfl, ⟨⟩⟩) (by exact ⟨rfl, ⟨⟩⟩) (by exact And.intro (by exact rfl) (True.intro)) (by exact ⟨⟩) ?_
            rintro k ⟨hk, ha⟩
            refine sw_seq ?_
            refine sw_reg ?_
            refine RunS.s1 (x := loc_lss (by decide) (by exact ⟨⟩) (by exact ⟨⟩)) (y := ?_)
            refine sw_seq ?_
            refine sw_cond (t := 54) rfl (fun hb16 => ?_) (fun hb16 => ?_)
            · try simp only [q1, q2, q3, q4, q5, q6, q7, q8, q9] at hb16
              have hlt : k < c.Done.length := by omega
              have hgk : c.Done.getD k 0 = c.Done[k] := getD_at hlt
              have hgp : 0 < k → c.Done.getD (k - 1) 0 = c.Done[k - 1] := fun h => getD_at (by omega)
              refine sw_skip ?_
              refine sw_seq ?_
              refine sw_block ?_
              refine sw_seq ?_
              refine sw_of (l := [(1, RV.ptr 1 0), (3, RV.sv false [PV.val _]), (51, RV.sv false [PV.sl _ _]), (52, RV.sv false [PV.val _]), (53, RV.sv false [PV.val _])]) (b := [(1, (37, [PV.val _, PV.val _, PV.sl _ _, PV.sl _ _, PV.sl _ _, PV.sl _ _, PV.sl _ _, PV.sl _ _, PV.sl _ _, PV.sl _ _, PV.sl _ _]))]) (by exact ⟨rfl, rfl, rfl, rfl, rfl, ⟨⟩⟩) (by exact ⟨rfl, ⟨⟩⟩) ?_
              refine sw_reg ?_
              refine RunS.s1 (x := loc_copy (.inl rfl) (by decide) (by exact Cp.sc)) (y := ?_)
              refine RunS.s1 (x := loc_index (by decide) sl_23 (by exact ⟨⟩) (by exact rfl) (by exact getm2 (by omega) rfl) (by exact rfl)) (y := ?_)
              refine RunS.s1 (x := loc_eload (qs := [PV.val _]) (by decide) ty_3 (fun _ => rfl) (by exact Nat.le_of_ble_eq_true rfl) (by exact (ToL.cons (PV.To.refl _) ToL.nil)) (by exact (BorL.cons (PV.bor_val _) BorL.nil))) (y := ?_)
              refine RunS.s1 (x := loc_copy (.inr rfl) (by decide) (by exact Cp.sc)) (y := ?_)
              refine RunS.s1 (x := loc_copy (.inr rfl) (by decide) (by exact Cp.sc)) (y := ?_)
              refine sw_seq ?_
              refine sw_of (l := [(1, RV.ptr 1 0), (3, RV.sv false [PV.val _]), (4, RV.sv false [PV.val _]), (5, RV.sv false [PV.val _]), (51, RV.sv false [PV.sl _ _]), (52, RV.sv false [PV.val _]), (53, RV.sv false [PV.val _])]) (b := [(1, (37, [PV.val _, PV.val _, PV.sl _ _, PV.sl _ _, PV.sl _ _, PV.sl _ _, PV.sl _ _, PV.sl _ _, PV.sl _ _, PV.sl _ _, PV.sl _ _]))]) (by exact ⟨rfl, rfl, rfl, rfl, rfl, rfl, rfl, ⟨⟩⟩) (by exact ⟨rfl, ⟨⟩⟩) ?_
              refine sw_reg ?_
              refine RunS.s1 (x := loc_copy (.inl rfl) (by decide) (by exact Cp.sc)) (y := ?_)
              refine RunS.s1 (x := loc_field (by decide) fd_37_1) (y := ?_)
              refine RunS.s1 (x := loc_load (qs := [PV.sl .v _]) (by decide) ty_35 (fun _ => rfl) (by exact Nat.le_of_ble_eq_true rfl) (by exact (ToL.cons PV.to_none ToL.nil)) (by exact (BorL.cons (PV.bor_sl _) BorL.nil))) (y := ?_)
              refine RunS.s1 (x := loc_len (by decide) sl_35 (by first | exact List.length_map _ | exact rfl)) (y := ?_)
              refine RunS.s1 (x := loc_sub (by decide) (by exact ⟨⟩) (ok_sc rfl) (by unfold I64; omega)) (y := ?_)
              refine RunS.s1 (x := loc_call (qs := [(false, [PV.val _]), (false, [PV.val _]), (false, [PV.val _])]) (as_ := [(false, [PV.val _]), (false, [PV.val _]), (false, [PV.val _])]) (by decide) c_71 (by exact (And.intro (by exact ⟨⟩) (And.intro (ok_sc rfl) (And.intro (by exact ⟨⟩) True.intro)))) (by exact (And.intro (And.intro rfl (ToL.cons (PV.To.refl _) ToL.nil)) (And.intro (And.intro rfl (ToL.cons (PV.To.refl _) ToL.nil)) (And.intro (And.intro rfl (ToL.cons (PV.To.refl _) ToL.nil)) True.intro)))) (by exact impl_within)) (y := ?_)
              refine RunS.s1 (x := loc_not (by decide)) (y := ?_)
              refine RunS.s1 (x := loc_copy (.inl rfl) (by decide) (by exact Cp.sc)) (y := ?_)
              refine RunS.cases (s := 65) rfl (fun g17 => ?_) (fun g17 => ?_)
              · have sg17 := g17
                try simp only [q1, q2, q3, q4, q5, q6, q7, q8, q9] at sg17
                refine RunS.s0t g17 ?_
                refine RunS.s0t g17 ?_
                refine RunS.s0t g17 ?_
                refine RunS.su ?_
                refine RunS.su ?_
                refine RunS.su ?_
                refine RunS.su ?_
                refine RunS.su ?_
                refine RunS.su ?_
                refine RunS.su ?_
                refine RunS.su ?_
                refine RunS.s0t g17 ?_
                refine RunS.s1 (x := loc_pick (z := .const (.bool true)) (by decide) (by rw [g17]; rfl) (by exact ⟨⟩) (ok_sc rfl) (by exact Cp.sc)) (y := ?_)
                refine sw_cond (t := 78) rfl (fun hb_ => ?_) (fun hb_ => nomatch hb_)
                have hbad : adjAll 0 (doneP c) ltI c.Done = false := adj_no hlt (Bool.eq_false_iff.2 fun hx => by
                  have hx := adjStep.1 hx
                  rw [hgk] at hx
                  obtain ⟨hx1, hx2⟩ := hx
                  first
                  | (simp_all [doneP]; done)
                  | (simp only [decide_eq_true_eq, ltI, doneP] at *; by_cases h0 : k = 0 <;> (try rw [hgp (by omega)] at hx2) <;> omega))
                refine sw_seq ?_
                refine sw_of (l := [(1, RV.ptr 1 0), (3, RV.sv false [PV.val _]), (4, RV.sv false [PV.val _]), (5, RV.sv false [PV.val _]), (51, RV.sv false [PV.sl _ _]), (52, RV.sv false [PV.val _]), (53, RV.sv false [PV.val _])]) (b := [(1, (37, [PV.val _, PV.val _, PV.sl _ _, PV.sl _ _, PV.sl _ _, PV.sl _ _, PV.sl _ _, PV.sl _ _, PV.sl _ _, PV.sl _ _, PV.sl _ _]))]) (by exact ⟨rfl, rfl, rfl, rfl, rfl, rfl, rfl, ⟨⟩⟩) (by exact ⟨rfl, ⟨⟩⟩) ?_
                refine sw_reg ?_
                refine RunS.s1 (x := loc_const (.inr rfl) (by decide) (ok_sc rfl)) (y := ?_)
                refine sw_ret ?_
                exact (And.intro (by refine bool_eq ?_; exact (isCl_done hbad).symm) True.intro)
              · have sg17 := g17
                try simp only [q1, q2, q3, q4, q5, q6, q7, q8, q9] at sg17
                refine RunS.s2 (hb := g17) (x := loc_copy (.inl rfl) (by decide) (by exact Cp.sc)) (y := ?_)
                refine RunS.s2 (hb := g17) (x := loc_gtr (by decide) (by exact ⟨⟩) (ok_sc rfl)) (y := ?_)
                refine RunS.s2 (hb := g17) (x := loc_copy (.inl rfl) (by decide) (by exact Cp.sc)) (y := ?_)
                refine RunS.cases (s := 68) rfl (fun g19 => ?_) (fun g19 => ?_)
                · have sg19 := g19
                  try simp only [q1, q2, q3, q4, q5, q6, q7, q8, q9] at sg19
                  refine RunS.s2 (hb := g19) (x := loc_field (by decide) fd_37_6) (y := ?_)
                  refine RunS.s2 (hb := g19) (x := loc_load (qs := [PV.sl .v _]) (by decide) ty_23 (fun _ => rfl) (by exact Nat.le_of_ble_eq_true rfl) (by exact (ToL.cons PV.to_none ToL.nil)) (by exact (BorL.cons (PV.bor_sl _) BorL.nil))) (y := ?_)
                  refine RunS.s2 (hb := g19) (x := loc_copy (.inl rfl) (by decide) (by exact Cp.sc)) (y := ?_)
                  refine RunS.s2 (hb := g19) (x := loc_sub (by decide) (by exact ⟨⟩) (ok_sc rfl) (by unfold I64; omega)) (y := ?_)
                  refine RunS.s2 (hb := g19) (x := loc_index (k := k - 1) (by decide) sl_23 (by exact ⟨⟩) (by omega) (by exact getm2 (by omega) rfl) (by exact rfl)) (y := ?_)
                  refine RunS.s2 (hb := g19) (x := loc_eload (qs := [PV.val _]) (by decide) ty_3 (fun _ => rfl) (by exact Nat.le_of_ble_eq_true rfl) (by exact (ToL.cons (PV.To.refl _) ToL.nil)) (by exact (BorL.cons (PV.bor_val _) BorL.nil))) (y := ?_)
                  refine RunS.s2 (hb := g19) (x := loc_copy (.inl rfl) (by decide) (by exact Cp.sc)) (y := ?_)
                  refine RunS.s2 (hb := g19) (x := loc_geq (by decide) (by exact ⟨⟩) (by exact ⟨⟩)) (y := ?_)
                  refine RunS.s2 (hb := g17) (x := loc_pick (z := .tmp 76) (by decide) (by rw [g19]; rfl) (by exact ⟨⟩) (by exact ⟨⟩) (by exact Cp.sc)) (y := ?_)
                  refine RunS.s1 (x := loc_pick (z := .tmp 77) (by decide) (by rw [g17]; rfl) (by exact ⟨⟩) (by exact ⟨⟩) (by exact Cp.sc)) (y := ?_)
                  refine sw_cond (t := 78) rfl (fun hb20 => ?_) (fun hb20 => ?_)
                  · try simp only [q1, q2, q3, q4, q5, q6, q7, q8, q9] at hb20
                    have hbad : adjAll 0 (doneP c) ltI c.Done = false := adj_no hlt (Bool.eq_false_iff.2 fun hx => by
                      have hx := adjStep.1 hx
                      rw [hgk] at hx
                      obtain ⟨hx1, hx2⟩ := hx
                      first
                      | (simp_all [doneP]; done)
                      | (simp only [decide_eq_true_eq, ltI, doneP] at *; by_cases h0 : k = 0 <;> (try rw [hgp (by omega)] at hx2) <;> omega))
                    refine sw_seq ?_
                    refine sw_of (l := [(1, RV.ptr 1 0), (3, RV.sv false [PV.val _]), (4, RV.sv false [PV.val _]), (5, RV.sv false [PV.val _]), (51, RV.sv false [PV.sl _ _]), (52, RV.sv false [PV.val _]), (53, RV.sv false [PV.val _])]) (b := [(1, (37, [PV.val _, PV.val _, PV.sl _ _, PV.sl _ _, PV.sl _ _, PV.sl _ _, PV.sl _ _, PV.sl _ _, PV.sl _ _, PV.sl _ _, PV.sl _ _]))]) (by exact ⟨rfl, rfl, rfl, rfl, rfl, rfl, rfl, ⟨⟩⟩) (by exact ⟨rfl, ⟨⟩⟩) ?_
                    refine sw_reg ?_
                    refine RunS.s1 (x := loc_const (.inr rfl) (by decide) (ok_sc rfl)) (y := ?_)
                    refine sw_ret ?_
                    exact (And.intro (by refine bool_eq ?_; exact (isCl_done hbad).symm) True.intro)
                  · try simp only [q1, q2, q3, q4, q5, q6, q7, q8, q9] at hb20
                    refine sw_skip ?_
                    refine sw_of (l := [(1, RV.ptr 1 0), (3, RV.sv false [PV.val _]), (4, RV.sv false [PV.val _]), (5, RV.sv false [PV.val _]), (51, RV.sv false [PV.sl _ _]), (52, RV.sv false [PV.val _]), (53, RV.sv false [PV.val _])]) (b := [(1, (37, [PV.val _, PV.val _, PV.sl _ _, PV.sl _ _, PV.sl _ _, PV.sl _ _, PV.sl _ _, PV.sl _ _, PV.sl _ _, PV.sl _ _, PV.sl _ _]))]) (by exact ⟨rfl, rfl, rfl, rfl, rfl, rfl, rfl, ⟨⟩⟩) (by exact ⟨rfl, ⟨⟩⟩) ?_
                    refine sw_reg ?_
                    refine RunS.s1 (x := loc_add (by decide) (by exact ⟨⟩) (ok_sc rfl) (by unfold I64; omega)) (y := ?_)
                    refine RunS.s1 (x := loc_copy (.inl rfl) (by decide) (by exact Cp.sc)) (y := ?_)
                    refine Exists.intro (k + 1) (And.intro (by exact ⟨by omega, by rw [adjTo_succ, ha, Bool.true_and]; refine adjStep.2 ⟨by rw [hgk]; first | assumption | simp_all, ?_⟩; rcases Nat.eq_zero_or_pos k with h0 | h0; (· exact .inl h0); (· right; rw [hgk, hgp h0]; first | (simp only [decide_eq_true_eq, ltI, doneP] at *; omega) | (simp_all; done))⟩) (And.intro (by omega) (And.intro (And.intro (by exact ⟨rfl, rfl, rfl, rfl, ⟨⟩⟩) (by exact ⟨rfl, ⟨⟩⟩)) (And.intro (by exact And.intro (by exact rfl) (True.intro)) (by exact ⟨⟩)))))
                · have sg19 := g19
                  try simp only [q1, q2, q3, q4, q5, q6, q7, q8, q9] at sg19
                  refine RunS.s0f g19 ?_
                  refine RunS.s0f g19 ?_
                  refine RunS.s0f g19 ?_
                  refine RunS.s0f g19 ?_
                  refine RunS.s0f g19 ?_
                  refine RunS.s0f g19 ?_
                  refine RunS.s0f g19 ?_
                  refine RunS.s0f g19 ?_
                  refine RunS.s2 (hb := g17) (x := loc_pick (z := .const (.bool false)) (by decide) (by rw [g19]; rfl) (by exact ⟨⟩) (ok_sc rfl) (by exact Cp.sc)) (y := ?_)
                  refine RunS.s1 (x := loc_pick (z := .tmp 77) (by decide) (by rw [g17]; rfl) (by exact ⟨⟩) (by exact ⟨⟩) (by exact Cp.sc)) (y := ?_)
                  refine sw_cond (t := 78) rfl (fun hb_ => nomatch hb_) (fun hb_ => ?_)
                  refine sw_skip ?_
                  refine sw_of (l := [(1, RV.ptr 1 0), (3, RV.sv false [PV.val _]), (4, RV.sv false [PV.val _]), (5, RV.sv false [PV.val _]), (51, RV.sv false [PV.sl _ _]), (52, RV.sv false [PV.val _]), (53, RV.sv false [PV.val _])]) (b := [(1, (37, [PV.val _, PV.val _, PV.sl _ _, PV.sl _ _, PV.sl _ _, PV.sl _ _, PV.sl _ _, PV.sl _ _, PV.sl _ _, PV.sl _ _, PV.sl _ _]))]) (by exact ⟨rfl, rfl, rfl, rfl, rfl, rfl, rfl, ⟨⟩⟩) (by exact ⟨rfl, ⟨⟩⟩) ?_
                  refine sw_reg ?_
                  refine RunS.s1 (x := loc_add (by decide) (by exact ⟨⟩) (ok_sc rfl) (by unfold I64; omega)) (y := ?_)
                  refine RunS.s1 (x := loc_copy (.inl rfl) (by decide) (by exact Cp.sc)) (y := ?_)
                  refine Exists.intro (k + 1) (And.intro (by exact ⟨by omega, by rw [adjTo_succ, ha, Bool.true_and]; refine adjStep.2 ⟨by rw [hgk]; first | assumption | simp_all, ?_⟩; rcases Nat.eq_zero_or_pos k with h0 | h0; (· exact .inl h0); (· right; rw [hgk, hgp h0]; first | (simp only [decide_eq_true_eq, ltI, doneP] at *; omega) | (simp_all; done))⟩) (And.intro (by omega) (And.intro (And.intro (by exact ⟨rfl, rfl, rfl, rfl, ⟨⟩⟩) (by exact ⟨rfl, ⟨⟩⟩)) (And.intro (by exact And.intro (by exact rfl) (True.intro)) (by exact ⟨⟩)))))
            · try simp only [q1, q2, q3, q4, q5, q6, q7, q8, q9] at hb16
              have hend : k = c.Done.length := by omega
              have hdone : adjAll 0 (doneP c) ltI c.Done = true := adj_end ha hend
              refine sw_exit ?_
              refine sw_seq ?_
              refine sw_seq ?_
              refine sw_of (l := [(1, RV.ptr 1 0), (3, RV.sv false [PV.val _]), (51, RV.sv false [PV.sl _ _]), (52, RV.sv false [PV.val _]), (53, RV.sv false [PV.val _])]) (b := [(1, (37, [PV.val _, PV.val _, PV.sl _ _, PV.sl _ _, PV.sl _ _, PV.sl _ _, PV.sl _ _, PV.sl _ _, PV.sl _ _, PV.sl _ _, PV.sl _ _]))]) (by exact ⟨rfl, rfl, rfl, rfl, rfl, ⟨⟩⟩) (by exact ⟨rfl, ⟨⟩⟩) ?_
              refine sw_reg ?_
              refine RunS.s1 (x := loc_field (by decide) fd_37_7) (y := ?_)
              refine RunS.s1 (x := loc_load (qs := [PV.sl .v _]) (by decide) ty_35 (fun _ => rfl) (by exact Nat.le_of_ble_eq_true rfl) (by exact (ToL.cons PV.to_none ToL.nil)) (by exact (BorL.cons (PV.bor_sl _) BorL.nil))) (y := ?_)
              refine RunS.s1 (x := loc_len (by decide) sl_35 (by first | exact List.length_map _ | exact rfl)) (y := ?_)
              refine RunS.s1 (x := loc_const (.inl rfl) (by decide) (ok_sc rfl)) (y := ?_)
              refine sw_block ?_
              refine sw_of (l := [(1, RV.ptr 1 0), (3, RV.sv false [PV.val _]), (51, RV.sv false [PV.sl _ _]), (52, RV.sv false [PV.val _]), (53, RV.sv false [PV.val _]), (81, RV.sv false [PV.sl _ _]), (82, RV.sv false [PV.val _]), (83, RV.sv false [PV.val _])]) (b := [(1, (37, [PV.val _, PV.val _, PV.sl _ _, PV.sl _ _, PV.sl _ _, PV.sl _ _, PV.sl _ _, PV.sl _ _, PV.sl _ _, PV.sl _ _, PV.sl _ _]))]) (by exact ⟨rfl, rfl, rfl, rfl, rfl, rfl, rfl, rfl, ⟨⟩⟩) (by exact ⟨rfl, ⟨⟩⟩) ?_
              refine sw_loop (l0 := [(1, RV.ptr 1 0), (3, RV.sv false [PV.val _]), (51, RV.sv false [PV.sl _ _]), (52, RV.sv false [PV.val _]), (53, RV.sv false [PV.val _]), (81, RV.sv false [PV.sl _ _]), (82, RV.sv false [PV.val _])]) (b0 := [(1, (37, [PV.val _, PV.val _, PV.sl _ _, PV.sl _ _, PV.sl _ _, PV.sl _ _, PV.sl _ _, PV.sl _ _, PV.sl _ _, PV.sl _ _, PV.sl _ _]))]) (fun k : Nat => k ≤ c.Rows.length ∧ (∀ i : Nat, i < k → rowOk c (i : Int) = true)) (fun k : Nat => [(83, RV.int (k : Int))]) (fun k : Nat => []) (fun k : Nat => c.Rows.length - k) 0 (by exact ⟨by omega, fun i hi => absurd hi (Nat.not_lt_zero _)⟩) (by exact ⟨rfl, rfl, rfl, rfl, rfl, rfl, rfl, ⟨⟩⟩) (by exact ⟨rfl, ⟨⟩⟩) (by exact And.intro (by exact rfl) (True.intro)) (by exact ⟨⟩) ?_
              rintro k ⟨hk, ha⟩
              refine sw_seq ?_
              refine sw_reg ?_
              refine RunS.s1 (x := loc_lss (by decide) (by exact ⟨⟩) (by exact ⟨⟩)) (y := ?_)
              refine sw_seq ?_
              refine sw_cond (t := 84) rfl (fun hb22 => ?_) (fun hb22 => ?_)
              · try simp only [q1, q2, q3, q4, q5, q6, q7, q8, q9] at hb22
                have hlt : k < c.Rows.length := by omega
                have hlt2 : k < c.Parts.length := by omega
                refine sw_skip ?_
                refine sw_seq ?_
                refine sw_block ?_
                refine sw_seq ?_
                refine sw_of (l := [(1, RV.ptr 1 0), (3, RV.sv false [PV.val _]), (51, RV.sv false [PV.sl _ _]), (52, RV.sv false [PV.val _]), (53, RV.sv false [PV.val _]), (81, RV.sv false [PV.sl _ _]), (82, RV.sv false [PV.val _]), (83, RV.sv false [PV.val _])]) (b := [(1, (37, [PV.val _, PV.val _, PV.sl _ _, PV.sl _ _, PV.sl _ _, PV.sl _ _, PV.sl _ _, PV.sl _ _, PV.sl _ _, PV.sl _ _, PV.sl _ _]))]) (by exact ⟨rfl, rfl, rfl, rfl, rfl, rfl, rfl, rfl, ⟨⟩⟩) (by exact ⟨rfl, ⟨⟩⟩) ?_
                refine sw_reg ?_
                refine RunS.s1 (x := loc_copy (.inl rfl) (by decide) (by exact Cp.sc)) (y := ?_)
                refine RunS.s1 (x := loc_index (by decide) sl_35 (by exact ⟨⟩) (by exact rfl) (by exact getm2 (by omega) (by rw [rowsN (by omega)])) (by exact rfl)) (y := ?_)
                refine RunS.s1 (x := loc_eload (qs := [PV.sl .v _]) (by decide) ty_53 (fun _ => rfl) (by exact Nat.le_of_ble_eq_true rfl) (by exact (ToL.cons PV.to_none ToL.nil)) (by exact (BorL.cons (PV.bor_sl _) BorL.nil))) (y := ?_)
                refine RunS.s1 (x := loc_copy (.inr rfl) (by decide) (by exact Cp.sc)) (y := ?_)
                refine RunS.s1 (x := loc_copy (r' := RV.sv false [PV.sl .v _]) (.inr rfl) (by decide) (by exact Cp.sv (ToL.cons PV.to_none ToL.nil) (BorL.cons (PV.bor_sl _) BorL.nil))) (y := ?_)
                refine sw_seq ?_
                refine sw_of (l := [(1, RV.ptr 1 0), (3, RV.sv false [PV.val _]), (6, RV.sv false [PV.val _]), (7, RV.sv false [PV.sl _ _]), (51, RV.sv false [PV.sl _ _]), (52, RV.sv false [PV.val _]), (53, RV.sv false [PV.val _]), (81, RV.sv false [PV.sl _ _]), (82, RV.sv false [PV.val _]), (83, RV.sv false [PV.val _])]) (b := [(1, (37, [PV.val _, PV.val _, PV.sl _ _, PV.sl _ _, PV.sl _ _, PV.sl _ _, PV.sl _ _, PV.sl _ _, PV.sl _ _, PV.sl _ _, PV.sl _ _]))]) (by exact ⟨rfl, rfl, rfl, rfl, rfl, rfl, rfl, rfl, rfl, rfl, ⟨⟩⟩) (by exact ⟨rfl, ⟨⟩⟩) ?_
                refine sw_reg ?_
                refine RunS.s1 (x := loc_bslice (qs := []) (by decide) sl_53 z_77 (by decide) rfl rfl rfl rfl rfl (by exact Nat.le_of_ble_eq_true rfl) (by exact ⟨⟩) rfl) (y := ?_)
                refine RunS.s1 (x := loc_take (.inr rfl) (by decide)) (y := ?_)
                refine sw_seq ?_
                refine sw_seq ?_
                refine sw_of (l := [(1, RV.ptr 1 0), (3, RV.sv false [PV.val _]), (6, RV.sv false [PV.val _]), (7, RV.sv false [PV.sl _ _]), (8, RV.sv false [PV.sl _ _]), (51, RV.sv false [PV.sl _ _]), (52, RV.sv false [PV.val _]), (53, RV.sv false [PV.val _]), (81, RV.sv false [PV.sl _ _]), (82, RV.sv false [PV.val _]), (83, RV.sv false [PV.val _])]) (b := [(1, (37, [PV.val _, PV.val _, PV.sl _ _, PV.sl _ _, PV.sl _ _, PV.sl _ _, PV.sl _ _, PV.sl _ _, PV.sl _ _, PV.sl _ _, PV.sl _ _]))]) (by exact ⟨rfl, rfl, rfl, rfl, rfl, rfl, rfl, rfl, rfl, rfl, rfl, ⟨⟩⟩) (by exact ⟨rfl, ⟨⟩⟩) ?_
                refine sw_reg ?_
                refine RunS.s1 (x := loc_field (by decide) fd_37_6) (y := ?_)
                refine RunS.s1 (x := loc_load (qs := [PV.sl .v _]) (by decide) ty_23 (fun _ => rfl) (by exact Nat.le_of_ble_eq_true rfl) (by exact (ToL.cons PV.to_none ToL.nil)) (by exact (BorL.cons (PV.bor_sl _) BorL.nil))) (y := ?_)
                refine RunS.s1 (x := loc_copy (.inl rfl) (by decide) (by exact Cp.sc)) (y := ?_)
                refine RunS.s1 (x := loc_call (qs := [(false, [PV.sl _ _]), (false, [PV.val _])]) (as_ := [(false, [PV.sl .v _]), (false, [PV.val _])]) (by decide) c_59 (by exact (And.intro (by exact ⟨⟩) (And.intro (by exact ⟨⟩) True.intro))) (by exact (And.intro (And.intro rfl (ToL.cons PV.to_none ToL.nil)) (And.intro (And.intro rfl (ToL.cons (PV.To.refl _) ToL.nil)) True.intro))) (by exact impl_hasInt)) (y := ?_)
                refine sw_cond (t := 92) rfl (fun hb23 => ?_) (fun hb23 => ?_)
                · try simp only [q1, q2, q3, q4, q5, q6, q7, q8, q9] at hb23
                  have hdn := hb23
                  refine sw_of (l := [(1, RV.ptr 1 0), (3, RV.sv false [PV.val _]), (6, RV.sv false [PV.val _]), (7, RV.sv false [PV.sl _ _]), (8, RV.sv false [PV.sl _ _]), (51, RV.sv false [PV.sl _ _]), (52, RV.sv false [PV.val _]), (53, RV.sv false [PV.val _]), (81, RV.sv false [PV.sl _ _]), (82, RV.sv false [PV.val _]), (83, RV.sv false [PV.val _])]) (b := [(1, (37, [PV.val _, PV.val _, PV.sl _ _, PV.sl _ _, PV.sl _ _, PV.sl _ _, PV.sl _ _, PV.sl _ _, PV.sl _ _, PV.sl _ _, PV.sl _ _]))]) (by exact ⟨rfl, rfl, rfl, rfl, rfl, rfl, rfl, rfl, rfl, rfl, rfl, ⟨⟩⟩) (by exact ⟨rfl, ⟨⟩⟩) ?_
                  refine sw_draw hm_ ?_
                  refine Run.step 0 (by exact ⟨rfl, ⟨⟩⟩) (by exact ⟨⟩) (LocG.of rfl (loc_field (by decide) fd_37_0)) nofree (by kernel_rfl) ?_
                  refine Run.step 1 (by exact ⟨rfl, ⟨⟩⟩) (by exact ⟨rfl, ⟨⟩⟩) (LocG.of rfl (loc_load (qs := [PV.val _, PV.val _, PV.sl .v _, PV.sl .v _]) (by decide) ty_34 (fun h => nomatch h) (by exact Nat.le_of_ble_eq_true rfl) (by exact (ToL.cons (PV.To.refl _) (ToL.cons (PV.To.refl _) (ToL.cons PV.to_none (ToL.cons PV.to_none ToL.nil))))) (by exact (BorL.cons (PV.bor_val _) (BorL.cons (PV.bor_val _) (BorL.cons (PV.bor_sl _) (BorL.cons (PV.bor_sl _) BorL.nil))))))) nofree (by kernel_rfl) ?_
                  refine Run.step 0 (by exact ⟨rfl, ⟨⟩⟩) (by exact ⟨⟩) (LocG.of rfl (loc_field (by decide) fd_37_1)) nofree (by kernel_rfl) ?_
                  refine Run.step 4 (by exact ⟨rfl, ⟨⟩⟩) (by exact ⟨rfl, ⟨⟩⟩) (LocG.of rfl (loc_load (qs := [PV.sl .v _]) (by decide) ty_35 (fun _ => rfl) (by exact Nat.le_of_ble_eq_true rfl) (by exact (ToL.cons PV.to_none ToL.nil)) (by exact (BorL.cons (PV.bor_sl _) BorL.nil)))) nofree (by kernel_rfl) ?_
                  refine Run.step 0 (by exact ⟨rfl, ⟨⟩⟩) (by exact ⟨⟩) (LocG.of rfl (loc_copy (.inl rfl) (by decide) (by exact Cp.sc))) nofree (by kernel_rfl) ?_
                  refine Run.step 28 (by exact ⟨rfl, rfl, ⟨⟩⟩) (by exact ⟨⟩) (LocG.of rfl (loc_index (by decide) sl_35 (by exact ⟨⟩) (by exact rfl) (by exact getm2 (by omega) (by rw [partN (by omega)])) (by exact rfl))) nofree (by kernel_rfl) ?_
                  refine Run.step 60 (by exact ⟨rfl, ⟨⟩⟩) (by exact ⟨⟩) (LocG.of rfl (loc_eload (qs := [PV.sl .v _]) (by decide) ty_53 (fun _ => rfl) (by exact Nat.le_of_ble_eq_true rfl) (by exact (ToL.cons PV.to_none ToL.nil)) (by exact (BorL.cons (PV.bor_sl _) BorL.nil)))) nofree (by kernel_rfl) ?_
                  refine Run.step 127 (by exact ⟨rfl, rfl, ⟨⟩⟩) (by exact ⟨⟩) (LocG.of rfl (loc_call (qs := [(true, [PV.val _, PV.val _, PV.sl _ _, PV.sl _ _]), (false, [PV.sl _ _])]) (as_ := [(true, [PV.val _, PV.val _, PV.sl .v _, PV.sl .v _]), (false, [PV.sl .v _])]) (by decide) c_174 (by exact (And.intro (by exact ⟨⟩) (And.intro (by exact ⟨⟩) True.intro))) (by exact (And.intro (And.intro rfl (ToL.cons (PV.To.refl _) (ToL.cons (PV.To.refl _) (ToL.cons PV.to_none (ToL.cons PV.to_none ToL.nil))))) (And.intro (And.intro rfl (ToL.cons PV.to_none ToL.nil)) True.intro))) (by exact impl_matching (by first | omega | exact hwp _)))) nofree (by kernel_rfl) ?_
                  refine Run.step 255 (by exact ⟨rfl, ⟨⟩⟩) (by exact ⟨⟩) (LocG.of rfl (loc_take (.inr rfl) (by decide))) nofree (by kernel_rfl) ?_
                  refine sw_seq ?_
                  refine sw_of (l := [(1, RV.ptr 1 0), (3, RV.sv false [PV.val _]), (6, RV.sv false [PV.val _]), (7, RV.sv false [PV.sl _ _]), (8, RV.sv false [PV.sl _ _]), (51, RV.sv false [PV.sl _ _]), (52, RV.sv false [PV.val _]), (53, RV.sv false [PV.val _]), (81, RV.sv false [PV.sl _ _]), (82, RV.sv false [PV.val _]), (83, RV.sv false [PV.val _])]) (b := [(1, (37, [PV.val _, PV.val _, PV.sl _ _, PV.sl _ _, PV.sl _ _, PV.sl _ _, PV.sl _ _, PV.sl _ _, PV.sl _ _, PV.sl _ _, PV.sl _ _]))]) (by exact ⟨rfl, rfl, rfl, rfl, rfl, rfl, rfl, rfl, rfl, rfl, rfl, ⟨⟩⟩) (by exact ⟨rfl, ⟨⟩⟩) ?_
                  refine sw_reg ?_
                  refine RunS.s1 (x := loc_copy (r' := RV.sv false [PV.sl .v _]) (.inl rfl) (by decide) (by exact Cp.sv (ToL.cons PV.to_none ToL.nil) (BorL.cons (PV.bor_sl _) BorL.nil))) (y := ?_)
                  refine RunS.s1 (x := loc_copy (r' := RV.sv false [PV.sl .v _]) (.inl rfl) (by decide) (by exact Cp.sv (ToL.cons PV.to_none ToL.nil) (BorL.cons (PV.bor_sl _) BorL.nil))) (y := ?_)
                  refine RunS.s1 (x := loc_call (qs := [(false, [PV.sl _ _]), (false, [PV.sl _ _])]) (as_ := [(false, [PV.sl .v _]), (false, [PV.sl .v _])]) (by decide) c_90 (by exact (And.intro (by exact ⟨⟩) (And.intro (by exact ⟨⟩) True.intro))) (by exact (And.intro (And.intro rfl (ToL.cons PV.to_none ToL.nil)) (And.intro (And.intro rfl (ToL.cons PV.to_none ToL.nil)) True.intro))) (by exact (by first | exact impl_EqualRows | exact @impl_EqualRows _ .v _ []))) (y := ?_)
                  refine RunS.s1 (x := loc_not (by decide)) (y := ?_)
                  refine sw_cond (t := 104) rfl (fun hb24 => ?_) (fun hb24 => ?_)
                  · try simp only [q1, q2, q3, q4, q5, q6, q7, q8, q9] at hb24
                    have hro : rowOk c (k : Int) = false := by simp_all [rowOk]
                    have hbad : isCl c = false := isCl_row hlt2 hro
                    refine sw_seq ?_
                    refine sw_of (l := [(1, RV.ptr 1 0), (3, RV.sv false [PV.val _]), (6, RV.sv false [PV.val _]), (7, RV.sv false [PV.sl _ _]), (8, RV.sv false [PV.sl _ _]), (51, RV.sv false [PV.sl _ _]), (52, RV.sv false [PV.val _]), (53, RV.sv false [PV.val _]), (81, RV.sv false [PV.sl _ _]), (82, RV.sv false [PV.val _]), (83, RV.sv false [PV.val _])]) (b := [(1, (37, [PV.val _, PV.val _, PV.sl _ _, PV.sl _ _, PV.sl _ _, PV.sl _ _, PV.sl _ _, PV.sl _ _, PV.sl _ _, PV.sl _ _, PV.sl _ _]))]) (by exact ⟨rfl, rfl, rfl, rfl, rfl, rfl, rfl, rfl, rfl, rfl, rfl, ⟨⟩⟩) (by exact ⟨rfl, ⟨⟩⟩) ?_
                    refine sw_reg ?_
                    refine RunS.s1 (x := loc_const (.inr rfl) (by decide) (ok_sc rfl)) (y := ?_)
                    refine sw_ret ?_
                    exact (And.intro (by refine bool_eq ?_; exact hbad.symm) True.intro)
                  · try simp only [q1, q2, q3, q4, q5, q6, q7, q8, q9] at hb24
                    have hro : rowOk c (k : Int) = true := by simp_all [rowOk]
                    refine sw_skip ?_
                    refine sw_of (l := [(1, RV.ptr 1 0), (3, RV.sv false [PV.val _]), (6, RV.sv false [PV.val _]), (7, RV.sv false [PV.sl _ _]), (8, RV.sv false [PV.sl _ _]), (51, RV.sv false [PV.sl _ _]), (52, RV.sv false [PV.val _]), (53, RV.sv false [PV.val _]), (81, RV.sv false [PV.sl _ _]), (82, RV.sv false [PV.val _]), (83, RV.sv false [PV.val _])]) (b := [(1, (37, [PV.val _, PV.val _, PV.sl _ _, PV.sl _ _, PV.sl _ _, PV.sl _ _, PV.sl _ _, PV.sl _ _, PV.sl _ _, PV.sl _ _, PV.sl _ _]))]) (by exact ⟨rfl, rfl, rfl, rfl, rfl, rfl, rfl, rfl, rfl, rfl, rfl, ⟨⟩⟩) (by exact ⟨rfl, ⟨⟩⟩) ?_
                    refine sw_reg ?_
                    refine RunS.s1 (x := loc_add (by decide) (by exact ⟨⟩) (ok_sc rfl) (by unfold I64; omega)) (y := ?_)
                    refine RunS.s1 (x := loc_copy (.inl rfl) (by decide) (by exact Cp.sc)) (y := ?_)
                    refine Exists.intro (k + 1) (And.intro (by exact ⟨by omega, fun i hi => by by_cases e : i = k; (· subst e; exact hro); (· exact ha i (by omega))⟩) (And.intro (by omega) (And.intro (And.intro (by exact ⟨rfl, rfl, rfl, rfl, rfl, rfl, rfl, ⟨⟩⟩) (by exact ⟨rfl, ⟨⟩⟩)) (And.intro (by exact And.intro (by exact rfl) (True.intro)) (by exact ⟨⟩)))))
                · try simp only [q1, q2, q3, q4, q5, q6, q7, q8, q9] at hb23
                  have hdn := hb23
                  refine sw_skip ?_
                  refine sw_seq ?_
                  refine sw_of (l := [(1, RV.ptr 1 0), (3, RV.sv false [PV.val _]), (6, RV.sv false [PV.val _]), (7, RV.sv false [PV.sl _ _]), (8, RV.sv false [PV.sl _ _]), (51, RV.sv false [PV.sl _ _]), (52, RV.sv false [PV.val _]), (53, RV.sv false [PV.val _]), (81, RV.sv false [PV.sl _ _]), (82, RV.sv false [PV.val _]), (83, RV.sv false [PV.val _])]) (b := [(1, (37, [PV.val _, PV.val _, PV.sl _ _, PV.sl _ _, PV.sl _ _, PV.sl _ _, PV.sl _ _, PV.sl _ _, PV.sl _ _, PV.sl _ _, PV.sl _ _]))]) (by exact ⟨rfl, rfl, rfl, rfl, rfl, rfl, rfl, rfl, rfl, rfl, rfl, ⟨⟩⟩) (by exact ⟨rfl, ⟨⟩⟩) ?_
                  refine sw_reg ?_
                  refine RunS.s1 (x := loc_copy (r' := RV.sv false [PV.sl .v _]) (.inl rfl) (by decide) (by exact Cp.sv (ToL.cons PV.to_none ToL.nil) (BorL.cons (PV.bor_sl _) BorL.nil))) (y := ?_)
                  refine RunS.s1 (x := loc_copy (r' := RV.sv false [PV.sl .v _]) (.inl rfl) (by decide) (by exact Cp.sv (ToL.cons PV.to_none ToL.nil) (BorL.cons (PV.bor_sl _) BorL.nil))) (y := ?_)
                  refine RunS.s1 (x := loc_call (qs := [(false, [PV.sl _ _]), (false, [PV.sl _ _])]) (as_ := [(false, [PV.sl .v _]), (false, [PV.sl .v _])]) (by decide) c_90 (by exact (And.intro (by exact ⟨⟩) (And.intro (by exact ⟨⟩) True.intro))) (by exact (And.intro (And.intro rfl (ToL.cons PV.to_none ToL.nil)) (And.intro (And.intro rfl (ToL.cons PV.to_none ToL.nil)) True.intro))) (by exact (by first | exact impl_EqualRows | exact @impl_EqualRows _ .v _ []))) (y := ?_)
                  refine RunS.s1 (x := loc_not (by decide)) (y := ?_)
                  refine sw_cond (t := 104) rfl (fun hb25 => ?_) (fun hb25 => ?_)
                  · try simp only [q1, q2, q3, q4, q5, q6, q7, q8, q9] at hb25
                    have hro : rowOk c (k : Int) = false := by simp_all [rowOk]
                    have hbad : isCl c = false := isCl_row hlt2 hro
                    refine sw_seq ?_
                    refine sw_of (l := [(1, RV.ptr 1 0), (3, RV.sv false [PV.val _]), (6, RV.sv false [PV.val _]), (7, RV.sv false [PV.sl _ _]), (8, RV.sv false [PV.sl _ _]), (51, RV.sv false [PV.sl _ _]), (52, RV.sv false [PV.val _]), (53, RV.sv false [PV.val _]), (81, RV.sv false [PV.sl _ _]), (82, RV.sv false [PV.val _]), (83, RV.sv false [PV.val _])]) (b := [(1, (37, [PV.val _, PV.val _, PV.sl _ _, PV.sl _ _, PV.sl _ _, PV.sl _ _, PV.sl _ _, PV.sl _ _, PV.sl _ _, PV.sl _ _, PV.sl _ _]))]) (by exact ⟨rfl, rfl, rfl, rfl, rfl, rfl, rfl, rfl, rfl, rfl, rfl, ⟨⟩⟩) (by exact ⟨rfl, ⟨⟩⟩) ?_
                    refine sw_reg ?_
                    refine RunS.s1 (x := loc_const (.inr rfl) (by decide) (ok_sc rfl)) (y := ?_)
                    refine sw_ret ?_
                    exact (And.intro (by refine bool_eq ?_; exact hbad.symm) True.intro)
                  · try simp only [q1, q2, q3, q4, q5, q6, q7, q8, q9] at hb25
                    have hro : rowOk c (k : Int) = true := by simp_all [rowOk]
                    refine sw_skip ?_
                    refine sw_of (l := [(1, RV.ptr 1 0), (3, RV.sv false [PV.val _]), (6, RV.sv false [PV.val _]), (7, RV.sv false [PV.sl _ _]), (8, RV.sv false [PV.sl _ _]), (51, RV.sv false [PV.sl _ _]), (52, RV.sv false [PV.val _]), (53, RV.sv false [PV.val _]), (81, RV.sv false [PV.sl _ _]), (82, RV.sv false [PV.val _]), (83, RV.sv false [PV.val _])]) (b := [(1, (37, [PV.val _, PV.val _, PV.sl _ _, PV.sl _ _, PV.sl _ _, PV.sl _ _, PV.sl _ _, PV.sl _ _, PV.sl _ _, PV.sl _ _, PV.sl _ _]))]) (by exact ⟨rfl, rfl, rfl, rfl, rfl, rfl, rfl, rfl, rfl, rfl, rfl, ⟨⟩⟩) (by exact ⟨rfl, ⟨⟩⟩) ?_
                    refine sw_reg ?_
                    refine RunS.s1 (x := loc_add (by decide) (by exact ⟨⟩) (ok_sc rfl) (by unfold I64; omega)) (y := ?_)
                    refine RunS.s1 (x := loc_copy (.inl rfl) (by decide) (by exact Cp.sc)) (y := ?_)
                    refine Exists.intro (k + 1) (And.intro (by exact ⟨by omega, fun i hi => by by_cases e : i = k; (· subst e; exact hro); (· exact ha i (by omega))⟩) (And.intro (by omega) (And.intro (And.intro (by exact ⟨rfl, rfl, rfl, rfl, rfl, rfl, rfl, ⟨⟩⟩) (by exact ⟨rfl, ⟨⟩⟩)) (And.intro (by exact And.intro (by exact rfl) (True.intro)) (by exact ⟨⟩)))))
              · try simp only [q1, q2, q3, q4, q5, q6, q7, q8, q9] at hb22
                have hrows : ∀ i : Nat, i < c.Parts.length → rowOk c (i : Int) = true := fun i hi => ha i (by omega)
                refine sw_exit ?_
                refine sw_seq ?_
                refine sw_seq ?_
                refine sw_of (l := [(1, RV.ptr 1 0), (3, RV.sv false [PV.val _]), (51, RV.sv false [PV.sl _ _]), (52, RV.sv false [PV.val _]), (53, RV.sv false [PV.val _]), (81, RV.sv false [PV.sl _ _]), (82, RV.sv false [PV.val _]), (83, RV.sv false [PV.val _])]) (b := [(1, (37, [PV.val _, PV.val _, PV.sl _ _, PV.sl _ _, PV.sl _ _, PV.sl _ _, PV.sl _ _, PV.sl _ _, PV.sl _ _, PV.sl _ _, PV.sl _ _]))]) (by exact ⟨rfl, rfl, rfl, rfl, rfl, rfl, rfl, rfl, ⟨⟩⟩) (by exact ⟨rfl, ⟨⟩⟩) ?_
                refine sw_reg ?_
                refine RunS.s1 (x := loc_field (by decide) fd_37_3) (y := ?_)
                refine RunS.s1 (x := loc_load (qs := [PV.sl .v _]) (by decide) ty_23 (fun _ => rfl) (by exact Nat.le_of_ble_eq_true rfl) (by exact (ToL.cons PV.to_none ToL.nil)) (by exact (BorL.cons (PV.bor_sl _) BorL.nil))) (y := ?_)
                refine RunS.s1 (x := loc_len (by decide) sl_23 (by first | exact List.length_map _ | exact rfl)) (y := ?_)
                refine RunS.s1 (x := loc_const (.inl rfl) (by decide) (ok_sc rfl)) (y := ?_)
                refine sw_block ?_
                refine sw_of (l := [(1, RV.ptr 1 0), (3, RV.sv false [PV.val _]), (51, RV.sv false [PV.sl _ _]), (52, RV.sv false [PV.val _]), (53, RV.sv false [PV.val _]), (81, RV.sv false [PV.sl _ _]), (82, RV.sv false [PV.val _]), (83, RV.sv false [PV.val _]), (108, RV.sv false [PV.val _]), (109, RV.sv false [PV.val _])]) (b := [(1, (37, [PV.val _, PV.val _, PV.sl _ _, PV.sl _ _, PV.sl _ _, PV.sl _ _, PV.sl _ _, PV.sl _ _, PV.sl _ _, PV.sl _ _, PV.sl _ _]))]) (by exact ⟨rfl, rfl, rfl, rfl, rfl, rfl, rfl, rfl, rfl, rfl, ⟨⟩⟩) (by exact ⟨rfl, ⟨⟩⟩) ?_
                refine sw_loop (l0 := [(1, RV.ptr 1 0), (3, RV.sv false [PV.val _]), (51, RV.sv false [PV.sl _ _]), (52, RV.sv false [PV.val _]), (53, RV.sv false [PV.val _]), (81, RV.sv false [PV.sl _ _]), (82, RV.sv false [PV.val _]), (83, RV.sv false [PV.val _]), (108, RV.sv false [PV.val _])]) (b0 := [(1, (37, [PV.val _, PV.val _, PV.sl _ _, PV.sl _ _, PV.sl _ _, PV.sl _ _, PV.sl _ _, PV.sl _ _, PV.sl _ _, PV.sl _ _, PV.sl _ _]))]) (fun k : Nat => k ≤ c.At.length ∧ (∀ i : Nat, i < k → nodeI c (i : Int) = true)) (fun k : Nat => [(109, RV.int (k : Int))]) (fun k : Nat => []) (fun k : Nat => c.At.length - k) 0 (by exact ⟨by omega, fun i hi => absurd hi (Nat.not_lt_zero _)⟩) (by exact ⟨rfl, rfl, rfl, rfl, rfl, rfl, rfl, rfl, rfl, ⟨⟩⟩) (by exact ⟨rfl, ⟨⟩⟩) (by exact And.intro (by exact rfl) (True.intro)) (by exact ⟨⟩) ?_
                rintro k ⟨hk, ha⟩
                refine sw_seq ?_
                refine sw_reg ?_
                refine RunS.s1 (x := loc_lss (by decide) (by exact ⟨⟩) (by exact ⟨⟩)) (y := ?_)
                refine sw_seq ?_
                refine sw_cond (t := 110) rfl (fun hb26 => ?_) (fun hb26 => ?_)
                · try simp only [q1, q2, q3, q4, q5, q6, q7, q8, q9] at hb26
                  have hlt : k < c.Up.length := by omega
                  refine sw_skip ?_
                  refine sw_seq ?_
                  refine sw_block ?_
                  refine sw_seq ?_
                  refine sw_of (l := [(1, RV.ptr 1 0), (3, RV.sv false [PV.val _]), (51, RV.sv false [PV.sl _ _]), (52, RV.sv false [PV.val _]), (53, RV.sv false [PV.val _]), (81, RV.sv false [PV.sl _ _]), (82, RV.sv false [PV.val _]), (83, RV.sv false [PV.val _]), (108, RV.sv false [PV.val _]), (109, RV.sv false [PV.val _])]) (b := [(1, (37, [PV.val _, PV.val _, PV.sl _ _, PV.sl _ _, PV.sl _ _, PV.sl _ _, PV.sl _ _, PV.sl _ _, PV.sl _ _, PV.sl _ _, PV.sl _ _]))]) (by exact ⟨rfl, rfl, rfl, rfl, rfl, rfl, rfl, rfl, rfl, rfl, ⟨⟩⟩) (by exact ⟨rfl, ⟨⟩⟩) ?_
                  refine sw_reg ?_
                  refine RunS.s1 (x := loc_copy (.inl rfl) (by decide) (by exact Cp.sc)) (y := ?_)
                  refine RunS.s1 (x := loc_copy (.inr rfl) (by decide) (by exact Cp.sc)) (y := ?_)
                  refine sw_seq ?_
                  refine sw_of (l := [(1, RV.ptr 1 0), (3, RV.sv false [PV.val _]), (9, RV.sv false [PV.val _]), (51, RV.sv false [PV.sl _ _]), (52, RV.sv false [PV.val _]), (53, RV.sv false [PV.val _]), (81, RV.sv false [PV.sl _ _]), (82, RV.sv false [PV.val _]), (83, RV.sv false [PV.val _]), (108, RV.sv false [PV.val _]), (109, RV.sv false [PV.val _])]) (b := [(1, (37, [PV.val _, PV.val _, PV.sl _ _, PV.sl _ _, PV.sl _ _, PV.sl _ _, PV.sl _ _, PV.sl _ _, PV.sl _ _, PV.sl _ _, PV.sl _ _]))]) (by exact ⟨rfl, rfl, rfl, rfl, rfl, rfl, rfl, rfl, rfl, rfl, rfl, ⟨⟩⟩) (by exact ⟨rfl, ⟨⟩⟩) ?_
                  refine sw_reg ?_
                  refine RunS.s1 (x := loc_load (qs := [PV.val _, PV.val _, PV.sl .v _, PV.sl .v _, PV.sl .v _, PV.sl .v _, PV.sl .v _, PV.sl .v _, PV.sl .v _, PV.sl .v _, PV.sl .v _]) (by decide) ty_37 (fun h => nomatch h) (by exact Nat.le_of_ble_eq_true rfl) (by exact (ToL.cons (PV.To.refl _) (ToL.cons (PV.To.refl _) (ToL.cons PV.to_none (ToL.cons PV.to_none (ToL.cons PV.to_none (ToL.cons PV.to_none (ToL.cons PV.to_none (ToL.cons PV.to_none (ToL.cons PV.to_none (ToL.cons PV.to_none (ToL.cons PV.to_none ToL.nil)))))))))))) (by exact (BorL.cons (PV.bor_val _) (BorL.cons (PV.bor_val _) (BorL.cons (PV.bor_sl _) (BorL.cons (PV.bor_sl _) (BorL.cons (PV.bor_sl _) (BorL.cons (PV.bor_sl _) (BorL.cons (PV.bor_sl _) (BorL.cons (PV.bor_sl _) (BorL.cons (PV.bor_sl _) (BorL.cons (PV.bor_sl _) (BorL.cons (PV.bor_sl _) BorL.nil))))))))))))) (y := ?_)
                  refine RunS.s1 (x := loc_copy (.inl rfl) (by decide) (by exact Cp.sc)) (y := ?_)
                  refine RunS.s1 (x := loc_call (qs := [(true, [PV.val _, PV.val _, PV.sl _ _, PV.sl _ _, PV.sl _ _, PV.sl _ _, PV.sl _ _, PV.sl _ _, PV.sl _ _, PV.sl _ _, PV.sl _ _]), (false, [PV.val _])]) (as_ := [(true, [PV.val _, PV.val _, PV.sl .v _, PV.sl .v _, PV.sl .v _, PV.sl .v _, PV.sl .v _, PV.sl .v _, PV.sl .v _, PV.sl .v _, PV.sl .v _]), (false, [PV.val _])]) (by decide) c_175 (by exact (And.intro (by exact ⟨⟩) (And.intro (by exact ⟨⟩) True.intro))) (by exact (And.intro (And.intro rfl (ToL.cons (PV.To.refl _) (ToL.cons (PV.To.refl _) (ToL.cons PV.to_none (ToL.cons PV.to_none (ToL.cons PV.to_none (ToL.cons PV.to_none (ToL.cons PV.to_none (ToL.cons PV.to_none (ToL.cons PV.to_none (ToL.cons PV.to_none (ToL.cons PV.to_none ToL.nil)))))))))))) (And.intro (And.intro rfl (ToL.cons (PV.To.refl _) ToL.nil)) True.intro))) (by exact impl_nodeOk (by omega) (by omega) (by omega))) (y := ?_)
                  refine RunS.s1 (x := loc_not (by decide)) (y := ?_)
                  refine sw_cond (t := 115) rfl (fun hb27 => ?_) (fun hb27 => ?_)
                  · try simp only [q1, q2, q3, q4, q5, q6, q7, q8, q9] at hb27
                    have hbad : isCl c = false := isCl_node hlt (by simp_all)
                    refine sw_seq ?_
                    refine sw_of (l := [(1, RV.ptr 1 0), (3, RV.sv false [PV.val _]), (9, RV.sv false [PV.val _]), (51, RV.sv false [PV.sl _ _]), (52, RV.sv false [PV.val _]), (53, RV.sv false [PV.val _]), (81, RV.sv false [PV.sl _ _]), (82, RV.sv false [PV.val _]), (83, RV.sv false [PV.val _]), (108, RV.sv false [PV.val _]), (109, RV.sv false [PV.val _])]) (b := [(1, (37, [PV.val _, PV.val _, PV.sl _ _, PV.sl _ _, PV.sl _ _, PV.sl _ _, PV.sl _ _, PV.sl _ _, PV.sl _ _, PV.sl _ _, PV.sl _ _]))]) (by exact ⟨rfl, rfl, rfl, rfl, rfl, rfl, rfl, rfl, rfl, rfl, rfl, ⟨⟩⟩) (by exact ⟨rfl, ⟨⟩⟩) ?_
                    refine sw_reg ?_
                    refine RunS.s1 (x := loc_const (.inr rfl) (by decide) (ok_sc rfl)) (y := ?_)
                    refine sw_ret ?_
                    exact (And.intro (by refine bool_eq ?_; exact hbad.symm) True.intro)
                  · try simp only [q1, q2, q3, q4, q5, q6, q7, q8, q9] at hb27
                    have hno : nodeI c (k : Int) = true := by simp_all
                    refine sw_skip ?_
                    refine sw_of (l := [(1, RV.ptr 1 0), (3, RV.sv false [PV.val _]), (9, RV.sv false [PV.val _]), (51, RV.sv false [PV.sl _ _]), (52, RV.sv false [PV.val _]), (53, RV.sv false [PV.val _]), (81, RV.sv false [PV.sl _ _]), (82, RV.sv false [PV.val _]), (83, RV.sv false [PV.val _]), (108, RV.sv false [PV.val _]), (109, RV.sv false [PV.val _])]) (b := [(1, (37, [PV.val _, PV.val _, PV.sl _ _, PV.sl _ _, PV.sl _ _, PV.sl _ _, PV.sl _ _, PV.sl _ _, PV.sl _ _, PV.sl _ _, PV.sl _ _]))]) (by exact ⟨rfl, rfl, rfl, rfl, rfl, rfl, rfl, rfl, rfl, rfl, rfl, ⟨⟩⟩) (by exact ⟨rfl, ⟨⟩⟩) ?_
                    refine sw_reg ?_
                    refine RunS.s1 (x := loc_add (by decide) (by exact ⟨⟩) (ok_sc rfl) (by unfold I64; omega)) (y := ?_)
                    refine RunS.s1 (x := loc_copy (.inl rfl) (by decide) (by exact Cp.sc)) (y := ?_)
                    refine Exists.intro (k + 1) (And.intro (by exact ⟨by omega, fun i hi => by by_cases e : i = k; (· subst e; exact hno); (· exact ha i (by omega))⟩) (And.intro (by omega) (And.intro (And.intro (by exact ⟨rfl, rfl, rfl, rfl, rfl, rfl, rfl, rfl, rfl, ⟨⟩⟩) (by exact ⟨rfl, ⟨⟩⟩)) (And.intro (by exact And.intro (by exact rfl) (True.intro)) (by exact ⟨⟩)))))
                · try simp only [q1, q2, q3, q4, q5, q6, q7, q8, q9] at hb26
                  have hcl : isCl c = true := isCl_iff.2 ⟨hh, hdone, hrows, fun i hi => ha i (by omega)⟩
                  refine sw_exit ?_
                  refine sw_seq ?_
                  refine sw_of (l := [(1, RV.ptr 1 0), (3, RV.sv false [PV.val _]), (51, RV.sv false [PV.sl _ _]), (52, RV.sv false [PV.val _]), (53, RV.sv false [PV.val _]), (81, RV.sv false [PV.sl _ _]), (82, RV.sv false [PV.val _]), (83, RV.sv false [PV.val _]), (108, RV.sv false [PV.val _]), (109, RV.sv false [PV.val _])]) (b := [(1, (37, [PV.val _, PV.val _, PV.sl _ _, PV.sl _ _, PV.sl _ _, PV.sl _ _, PV.sl _ _, PV.sl _ _, PV.sl _ _, PV.sl _ _, PV.sl _ _]))]) (by exact ⟨rfl, rfl, rfl, rfl, rfl, rfl, rfl, rfl, rfl, rfl, ⟨⟩⟩) (by exact ⟨rfl, ⟨⟩⟩) ?_
                  refine sw_reg ?_
                  refine RunS.s1 (x := loc_const (.inr rfl) (by decide) (ok_sc rfl)) (y := ?_)
                  refine sw_ret ?_
                  exact (And.intro (by refine bool_eq ?_; exact hcl.symm) True.intro)
theorem spec_IsCluster {p3 p4 p9 p10 p13 p14 : Fl} {c : Cluster}  (hb : wtRowSS c.Parts ≤ 68719476736) : SCall Try.prog 49 [(true, [PV.val (vI c.Query.Id), PV.val (vI c.Query.Tenant), PV.sl .v (c.Query.Conds.map cCond), PV.sl .v (c.Query.Out.map cInt), PV.sl .v (c.Parts.map (cRowS p3 p4)), PV.sl .v (c.Up.map cBool), PV.sl .v (c.At.map cInt), PV.sl .v (c.Pos.map cInt), PV.sl .v (c.Buffer.map (cRowS p9 p10)), PV.sl .v (c.Done.map cInt), PV.sl .v (c.Rows.map (cRowS p13 p14))])] (resRV [(false, [PV.val (.bool (isCl c))])]) := by
  refine scall_of (rs := [(false, [PV.val (.bool (isCl c))])]) Try.func49 rfl (Nat.le_of_ble_eq_true rfl) (borA_cons (BorL.cons (PV.bor_val _) (BorL.cons (PV.bor_val _) (BorL.cons (PV.bor_sl _) (BorL.cons (PV.bor_sl _) (BorL.cons (PV.bor_sl _) (BorL.cons (PV.bor_sl _) (BorL.cons (PV.bor_sl _) (BorL.cons (PV.bor_sl _) (BorL.cons (PV.bor_sl _) (BorL.cons (PV.bor_sl _) (BorL.cons (PV.bor_sl _) BorL.nil))))))))))) borA_nil) ?_
  intro h0 w0 Fz0
  refine sw_slen (s := 0) (j := 2) rfl rfl fun hl0_2 => ?_
  try rw [List.length_map] at hl0_2
  refine sw_slen (s := 0) (j := 3) rfl rfl fun hl0_3 => ?_
  try rw [List.length_map] at hl0_3
  refine sw_slen (s := 0) (j := 4) rfl rfl fun hl0_4 => ?_
  try rw [List.length_map] at hl0_4
  refine sw_slen (s := 0) (j := 5) rfl rfl fun hl0_5 => ?_
  try rw [List.length_map] at hl0_5
  refine sw_slen (s := 0) (j := 6) rfl rfl fun hl0_6 => ?_
  try rw [List.length_map] at hl0_6
  refine sw_slen (s := 0) (j := 7) rfl rfl fun hl0_7 => ?_
  try rw [List.length_map] at hl0_7
  refine sw_slen (s := 0) (j := 8) rfl rfl fun hl0_8 => ?_
  try rw [List.length_map] at hl0_8
  refine sw_slen (s := 0) (j := 9) rfl rfl fun hl0_9 => ?_
  try rw [List.length_map] at hl0_9
  refine sw_slen (s := 0) (j := 10) rfl rfl fun hl0_10 => ?_
  try rw [List.length_map] at hl0_10
  have hwp : ∀ s : Int, wtRowS (partAt c s) ≤ 68719476736 := fun s => part_wt hb
  refine sw_seq ?_
  refine sw_reg ?_
  refine RunS.step (by exact ⟨rfl, ⟨⟩⟩) (by exact ⟨⟩) (LocG.of rfl (loc_box (ag := true) (cs := [PV.val _, PV.val _, PV.sl _ _, PV.sl _ _, PV.sl _ _, PV.sl _ _, PV.sl _ _, PV.sl _ _, PV.sl _ _, PV.sl _ _, PV.sl _ _]) (by decide) (by exact ⟨⟩))) (free1 (Free.of_ rfl)) ?_
  refine RunS.s1 (x := loc_const (.inr rfl) (by decide) (ok_sc rfl)) (y := ?_)
  refine sw_seq ?_
  refine sw_of (l := [(1, RV.ptr 1 0), (2, RV.sv false [PV.val _])]) (b := [(1, (37, [PV.val _, PV.val _, PV.sl _ _, PV.sl _ _, PV.sl _ _, PV.sl _ _, PV.sl _ _, PV.sl _ _, PV.sl _ _, PV.sl _ _, PV.sl _ _]))]) (by exact ⟨rfl, rfl, ⟨⟩⟩) (by exact ⟨rfl, ⟨⟩⟩) ?_
  refine sw_reg ?_
  refine RunS.s1 (x := loc_field (by decide) fd_37_2) (y := ?_)
  refine RunS.s1 (x := loc_load (qs := [PV.sl .v _]) (by decide) ty_27 (fun _ => rfl) (by exact Nat.le_of_ble_eq_true rfl) (by exact (ToL.cons PV.to_none ToL.nil)) (by exact (BorL.cons (PV.bor_sl _) BorL.nil))) (y := ?_)
  refine RunS.s1 (x := loc_len (by decide) sl_27 (by first | exact List.length_map _ | exact rfl)) (y := ?_)
  refine RunS.s1 (x := loc_copy (.inr rfl) (by decide) (by exact Cp.sc)) (y := ?_)
  refine sw_seq ?_
  refine sw_seq ?_
  refine sw_of (l := [(1, RV.ptr 1 0), (2, RV.sv false [PV.val _]), (3, RV.sv false [PV.val _])]) (b := [(1, (37, [PV.val _, PV.val _, PV.sl _ _, PV.sl _ _, PV.sl _ _, PV.sl _ _, PV.sl _ _, PV.sl _ _, PV.sl _ _, PV.sl _ _, PV.sl _ _]))]) (by exact ⟨rfl, rfl, rfl, ⟨⟩⟩) (by exact ⟨rfl, ⟨⟩⟩) ?_
  refine sw_reg ?_
  refine RunS.s1 (x := loc_field (by decide) fd_37_0) (y := ?_)
  refine RunS.s1 (x := loc_load (qs := [PV.val _, PV.val _, PV.sl .v _, PV.sl .v _]) (by decide) ty_34 (fun h => nomatch h) (by exact Nat.le_of_ble_eq_true rfl) (by exact (ToL.cons (PV.To.refl _) (ToL.cons (PV.To.refl _) (ToL.cons PV.to_none (ToL.cons PV.to_none ToL.nil))))) (by exact (BorL.cons (PV.bor_val _) (BorL.cons (PV.bor_val _) (BorL.cons (PV.bor_sl _) (BorL.cons (PV.bor_sl _) BorL.nil)))))) (y := ?_)
  refine RunS.s1 (x := loc_call (qs := [(true, [PV.val _, PV.val _, PV.sl _ _, PV.sl _ _])]) (as_ := [(true, [PV.val _, PV.val _, PV.sl .v _, PV.sl .v _])]) (by decide) c_127 (by exact (And.intro (by exact ⟨⟩) True.intro)) (by exact (And.intro (And.intro rfl (ToL.cons (PV.To.refl _) (ToL.cons (PV.To.refl _) (ToL.cons PV.to_none (ToL.cons PV.to_none ToL.nil))))) True.intro)) (by exact spec_IsQuery)) (y := ?_)
  refine RunS.s1 (x := loc_not (by decide)) (y := ?_)
  refine RunS.s1 (x := loc_copy (.inl rfl) (by decide) (by exact Cp.sc)) (y := ?_)
  refine RunS.cases (s := 16) rfl (fun g1 => ?_) (fun g1 => ?_)
  · have sg1 := g1
    try simp only [q1, q2, q3, q4, q5, q6, q7, q8, q9] at sg1
    refine RunS.s0t g1 ?_
    refine RunS.s0t g1 ?_
    refine RunS.s0t g1 ?_
    refine RunS.s0t g1 ?_
    refine RunS.s1 (x := loc_pick (z := .const (.bool true)) (by decide) (by rw [g1]; rfl) (by exact ⟨⟩) (ok_sc rfl) (by exact Cp.sc)) (y := ?_)
    refine RunS.s1 (x := loc_copy (.inl rfl) (by decide) (by exact Cp.sc)) (y := ?_)
    refine RunS.cases (s := 22) rfl (fun g2 => ?_) (fun g2 => nomatch g2)
    refine RunS.s0t g2 ?_
    refine RunS.s0t g2 ?_
    refine RunS.s0t g2 ?_
    refine RunS.s1 (x := loc_pick (z := .const (.bool true)) (by decide) (by rw [g2]; rfl) (by exact ⟨⟩) (ok_sc rfl) (by exact Cp.sc)) (y := ?_)
    refine RunS.s1 (x := loc_copy (.inl rfl) (by decide) (by exact Cp.sc)) (y := ?_)
    refine RunS.cases (s := 27) rfl (fun g3 => ?_) (fun g3 => nomatch g3)
    refine RunS.s0t g3 ?_
    refine RunS.s0t g3 ?_
    refine RunS.s0t g3 ?_
    refine RunS.s0t g3 ?_
    refine RunS.s0t g3 ?_
    refine RunS.s1 (x := loc_pick (z := .const (.bool true)) (by decide) (by rw [g3]; rfl) (by exact ⟨⟩) (ok_sc rfl) (by exact Cp.sc)) (y := ?_)
    refine RunS.s1 (x := loc_copy (.inl rfl) (by decide) (by exact Cp.sc)) (y := ?_)
    refine RunS.cases (s := 34) rfl (fun g4 => ?_) (fun g4 => nomatch g4)
    refine RunS.s0t g4 ?_
    refine RunS.s0t g4 ?_
    refine RunS.s0t g4 ?_
    refine RunS.s0t g4 ?_
    refine RunS.s0t g4 ?_
    refine RunS.s1 (x := loc_pick (z := .const (.bool true)) (by decide) (by rw [g4]; rfl) (by exact ⟨⟩) (ok_sc rfl) (by exact Cp.sc)) (y := ?_)
    refine RunS.s1 (x := loc_copy (.inl rfl) (by decide) (by exact Cp.sc)) (y := ?_)
    refine RunS.cases (s := 41) rfl (fun g5 => ?_) (fun g5 => nomatch g5)
    refine RunS.s0t g5 ?_
    refine RunS.s0t g5 ?_
    refine RunS.s0t g5 ?_
    refine RunS.s0t g5 ?_
    refine RunS.s0t g5 ?_
    refine RunS.s1 (x := loc_pick (z := .const (.bool true)) (by decide) (by rw [g5]; rfl) (by exact ⟨⟩) (ok_sc rfl) (by exact Cp.sc)) (y := ?_)
    refine RunS.s1 (x := loc_copy (.inl rfl) (by decide) (by exact Cp.sc)) (y := ?_)
    refine RunS.cases (s := 48) rfl (fun g6 => ?_) (fun g6 => nomatch g6)
    refine RunS.s0t g6 ?_
    refine RunS.s0t g6 ?_
    refine RunS.s0t g6 ?_
    refine RunS.s0t g6 ?_
    refine RunS.s0t g6 ?_
    refine RunS.s0t g6 ?_
    refine RunS.s0t g6 ?_
    refine RunS.s1 (x := loc_pick (z := .const (.bool true)) (by decide) (by rw [g6]; rfl) (by exact ⟨⟩) (ok_sc rfl) (by exact Cp.sc)) (y := ?_)
    refine sw_cond (t := 56) rfl (fun hb_ => ?_) (fun hb_ => nomatch hb_)
    have hbad : isCl c = false := isCl_head (fun x => by unfold headB at x; simp_all)
    refine sw_seq ?_
    refine sw_of (l := [(1, RV.ptr 1 0), (2, RV.sv false [PV.val _]), (3, RV.sv false [PV.val _])]) (b := [(1, (37, [PV.val _, PV.val _, PV.sl _ _, PV.sl _ _, PV.sl _ _, PV.sl _ _, PV.sl _ _, PV.sl _ _, PV.sl _ _, PV.sl _ _, PV.sl _ _]))]) (by exact ⟨rfl, rfl, rfl, ⟨⟩⟩) (by exact ⟨rfl, ⟨⟩⟩) ?_
    refine sw_reg ?_
    refine RunS.s1 (x := loc_const (.inr rfl) (by decide) (ok_sc rfl)) (y := ?_)
    refine sw_ret ?_
    exact (And.intro (by refine bool_eq ?_; exact hbad.symm) True.intro)
  · have sg1 := g1
    try simp only [q1, q2, q3, q4, q5, q6, q7, q8, q9] at sg1
    refine RunS.s2 (hb := g1) (x := loc_field (by decide) fd_37_1) (y := ?_)
    refine RunS.s2 (hb := g1) (x := loc_load (qs := [PV.sl .v _]) (by decide) ty_35 (fun _ => rfl) (by exact Nat.le_of_ble_eq_true rfl) (by exact (ToL.cons PV.to_none ToL.nil)) (by exact (BorL.cons (PV.bor_sl _) BorL.nil))) (y := ?_)
    refine RunS.s2 (hb := g1) (x := loc_call (qs := [(false, [PV.sl _ _])]) (as_ := [(false, [PV.sl .v _])]) (by decide) c_128 (by exact (And.intro (by exact ⟨⟩) True.intro)) (by exact (And.intro (And.intro rfl (ToL.cons PV.to_none ToL.nil)) True.intro)) (by exact spec_l18Parts (by omega))) (y := ?_)
    refine RunS.s2 (hb := g1) (x := loc_not (by decide)) (y := ?_)
    refine RunS.s1 (x := loc_pick (z := .tmp 20) (by decide) (by rw [g1]; rfl) (by exact ⟨⟩) (by exact ⟨⟩) (by exact Cp.sc)) (y := ?_)
    refine RunS.s1 (x := loc_copy (.inl rfl) (by decide) (by exact Cp.sc)) (y := ?_)
    refine RunS.cases (s := 22) rfl (fun g8 => ?_) (fun g8 => ?_)
    · have sg8 := g8
      try simp only [q1, q2, q3, q4, q5, q6, q7, q8, q9] at sg8
      refine RunS.s0t g8 ?_
      refine RunS.s0t g8 ?_
      refine RunS.s0t g8 ?_
      refine RunS.s1 (x := loc_pick (z := .const (.bool true)) (by decide) (by rw [g8]; rfl) (by exact ⟨⟩) (ok_sc rfl) (by exact Cp.sc)) (y := ?_)
      refine RunS.s1 (x := loc_copy (.inl rfl) (by decide) (by exact Cp.sc)) (y := ?_)
      refine RunS.cases (s := 27) rfl (fun g9 => ?_) (fun g9 => nomatch g9)
      refine RunS.s0t g9 ?_
      refine RunS.s0t g9 ?_
      refine RunS.s0t g9 ?_
      refine RunS.s0t g9 ?_
      refine RunS.s0t g9 ?_
      refine RunS.s1 (x := loc_pick (z := .const (.bool true)) (by decide) (by rw [g9]; rfl) (by exact ⟨⟩) (ok_sc rfl) (by exact Cp.sc)) (y := ?_)
      refine RunS.s1 (x := loc_copy (.inl rfl) (by decide) (by exact Cp.sc)) (y := ?_)
      refine RunS.cases (s := 34) rfl (fun g10 => ?_) (fun g10 => nomatch g10)
      refine RunS.s0t g10 ?_
      refine RunS.s0t g10 ?_
      refine RunS.s0t g10 ?_
      refine RunS.s0t g10 ?_
      refine RunS.s0t g10 ?_
      refine RunS.s1 (x := loc_pick (z := .const (.bool true)) (by decide) (by rw [g10]; rfl) (by exact ⟨⟩) (ok_sc rfl) (by exact Cp.sc)) (y := ?_)
      refine RunS.s1 (x := loc_copy (.inl rfl) (by decide) (by exact Cp.sc)) (y := ?_)
      refine RunS.cases (s := 41) rfl (fun g11 => ?_) (fun g11 => nomatch g11)
      refine RunS.s0t g11 ?_
      refine RunS.s0t g11 ?_
      refine RunS.s0t g11 ?_
      refine RunS.s0t g11 ?_
      refine RunS.s0t g11 ?_
      refine RunS.s1 (x := loc_pick (z := .const (.bool true)) (by decide) (by rw [g11]; rfl) (by exact ⟨⟩) (ok_sc rfl) (by exact Cp.sc)) (y := ?_)
      refine RunS.s1 (x := loc_copy (.inl rfl) (by decide) (by exact Cp.sc)) (y := ?_)
      refine RunS.cases (s := 48) rfl (fun g12 => ?_) (fun g12 => nomatch g12)
      refine RunS.s0t g12 ?_
      refine RunS.s0t g12 ?_
      refine RunS.s0t g12 ?_
      refine RunS.s0t g12 ?_
      refine RunS.s0t g12 ?_
      refine RunS.s0t g12 ?_
      refine RunS.s0t g12 ?_
      refine RunS.s1 (x := loc_pick (z := .const (.bool true)) (by decide) (by rw [g12]; rfl) (by exact ⟨⟩) (ok_sc rfl) (by exact Cp.sc)) (y := ?_)
      refine sw_cond (t := 56) rfl (fun hb_ => ?_) (fun hb_ => nomatch hb_)
      have hbad : isCl c = false := isCl_head (fun x => by unfold headB at x; simp_all)
      refine sw_seq ?_
      refine sw_of (l := [(1, RV.ptr 1 0), (2, RV.sv false [PV.val _]), (3, RV.sv false [PV.val _])]) (b := [(1, (37, [PV.val _, PV.val _, PV.sl _ _, PV.sl _ _, PV.sl _ _, PV.sl _ _, PV.sl _ _, PV.sl _ _, PV.sl _ _, PV.sl _ _, PV.sl _ _]))]) (by exact ⟨rfl, rfl, rfl, ⟨⟩⟩) (by exact ⟨rfl, ⟨⟩⟩) ?_
      refine sw_reg ?_
      refine RunS.s1 (x := loc_const (.inr rfl) (by decide) (ok_sc rfl)) (y := ?_)
      refine sw_ret ?_
      exact (And.intro (by refine bool_eq ?_; exact hbad.symm) True.intro)
    · have sg8 := g8
      try simp only [q1, q2, q3, q4, q5, q6, q7, q8, q9] at sg8
      refine RunS.s2 (hb := g8) (x := loc_copy (.inl rfl) (by decide) (by exact Cp.sc)) (y := ?_)
      refine RunS.s2 (hb := g8) (x := loc_call (qs := [(false, [PV.val _]), (false, [PV.val _]), (false, [PV.val _])]) (as_ := [(false, [PV.val _]), (false, [PV.val _]), (false, [PV.val _])]) (by decide) c_50 (by exact (And.intro (by exact ⟨⟩) (And.intro (ok_sc rfl) (And.intro (ok_sc rfl) True.intro)))) (by exact (And.intro (And.intro rfl (ToL.cons (PV.To.refl _) ToL.nil)) (And.intro (And.intro rfl (ToL.cons (PV.To.refl _) ToL.nil)) (And.intro (And.intro rfl (ToL.cons (PV.To.refl _) ToL.nil)) True.intro)))) (by exact spec_l1In)) (y := ?_)
      refine RunS.s2 (hb := g8) (x := loc_not (by decide)) (y := ?_)
      refine RunS.s1 (x := loc_pick (z := .tmp 25) (by decide) (by rw [g8]; rfl) (by exact ⟨⟩) (by exact ⟨⟩) (by exact Cp.sc)) (y := ?_)
      refine RunS.s1 (x := loc_copy (.inl rfl) (by decide) (by exact Cp.sc)) (y := ?_)
      refine RunS.cases (s := 27) rfl (fun g14 => ?_) (fun g14 => ?_)
      · have sg14 := g14
        try simp only [q1, q2, q3, q4, q5, q6, q7, q8, q9] at sg14
        refine RunS.s0t g14 ?_
        refine RunS.s0t g14 ?_
        refine RunS.s0t g14 ?_
        refine RunS.s0t g14 ?_
        refine RunS.s0t g14 ?_
        refine RunS.s1 (x := loc_pick (z := .const (.bool true)) (by decide) (by rw [g14]; rfl) (by exact ⟨⟩) (ok_sc rfl) (by exact Cp.sc)) (y := ?_)
        refine RunS.s1 (x := loc_copy (.inl rfl) (by decide) (by exact Cp.sc)) (y := ?_)
        refine RunS.cases (s := 34) rfl (fun g15 => ?_) (fun g15 => nomatch g15)
        refine RunS.s0t g15 ?_
        refine RunS.s0t g15 ?_
        refine RunS.s0t g15 ?_
        refine RunS.s0t g15 ?_
        refine RunS.s0t g15 ?_
        refine RunS.s1 (x := loc_pick (z := .const (.bool true)) (by decide) (by rw [g15]; rfl) (by exact ⟨⟩) (ok_sc rfl) (by exact Cp.sc)) (y := ?_)
        refine RunS.s1 (x := loc_copy (.inl rfl) (by decide) (by exact Cp.sc)) (y := ?_)
        refine RunS.cases (s := 41) rfl (fun g16 => ?_) (fun g16 => nomatch g16)
        refine RunS.s0t g16 ?_
        refine RunS.s0t g16 ?_
        refine RunS.s0t g16 ?_
        refine RunS.s0t g16 ?_
        refine RunS.s0t g16 ?_
        refine RunS.s1 (x := loc_pick (z := .const (.bool true)) (by decide) (by rw [g16]; rfl) (by exact ⟨⟩) (ok_sc rfl) (by exact Cp.sc)) (y := ?_)
        refine RunS.s1 (x := loc_copy (.inl rfl) (by decide) (by exact Cp.sc)) (y := ?_)
        refine RunS.cases (s := 48) rfl (fun g17 => ?_) (fun g17 => nomatch g17)
        refine RunS.s0t g17 ?_
        refine RunS.s0t g17 ?_
        refine RunS.s0t g17 ?_
        refine RunS.s0t g17 ?_
        refine RunS.s0t g17 ?_
        refine RunS.s0t g17 ?_
        refine RunS.s0t g17 ?_
        refine RunS.s1 (x := loc_pick (z := .const (.bool true)) (by decide) (by rw [g17]; rfl) (by exact ⟨⟩) (ok_sc rfl) (by exact Cp.sc)) (y := ?_)
        refine sw_cond (t := 56) rfl (fun hb_ => ?_) (fun hb_ => nomatch hb_)
        have hbad : isCl c = false := isCl_head (fun x => by unfold headB at x; simp_all)
        refine sw_seq ?_
        refine sw_of (l := [(1, RV.ptr 1 0), (2, RV.sv false [PV.val _]), (3, RV.sv false [PV.val _])]) (b := [(1, (37, [PV.val _, PV.val _, PV.sl _ _, PV.sl _ _, PV.sl _ _, PV.sl _ _, PV.sl _ _, PV.sl _ _, PV.sl _ _, PV.sl _ _, PV.sl _ _]))]) (by exact ⟨rfl, rfl, rfl, ⟨⟩⟩) (by exact ⟨rfl, ⟨⟩⟩) ?_
        refine sw_reg ?_
        refine RunS.s1 (x := loc_const (.inr rfl) (by decide) (ok_sc rfl)) (y := ?_)
        refine sw_ret ?_
        exact (And.intro (by refine bool_eq ?_; exact hbad.symm) True.intro)
      · have sg14 := g14
        try simp only [q1, q2, q3, q4, q5, q6, q7, q8, q9] at sg14
        refine RunS.s2 (hb := g14) (x := loc_field (by decide) fd_37_3) (y := ?_)
        refine RunS.s2 (hb := g14) (x := loc_load (qs := [PV.sl .v _]) (by decide) ty_23 (fun _ => rfl) (by exact Nat.le_of_ble_eq_true rfl) (by exact (ToL.cons PV.to_none ToL.nil)) (by exact (BorL.cons (PV.bor_sl _) BorL.nil))) (y := ?_)
        refine RunS.s2 (hb := g14) (x := loc_len (by decide) sl_23 (by first | exact List.length_map _ | exact rfl)) (y := ?_)
        refine RunS.s2 (hb := g14) (x := loc_copy (.inl rfl) (by decide) (by exact Cp.sc)) (y := ?_)
        refine RunS.s2 (hb := g14) (x := loc_neq (by decide) (by exact ⟨⟩) (by exact ⟨⟩)) (y := ?_)
        refine RunS.s1 (x := loc_pick (z := .tmp 32) (by decide) (by rw [g14]; rfl) (by exact ⟨⟩) (by exact ⟨⟩) (by exact Cp.sc)) (y := ?_)
        refine RunS.s1 (x := loc_copy (.inl rfl) (by decide) (by exact Cp.sc)) (y := ?_)
        refine RunS.cases (s := 34) rfl (fun g19 => ?_) (fun g19 => ?_)
        · have sg19 := g19
          try simp only [q1, q2, q3, q4, q5, q6, q7, q8, q9] at sg19
          refine RunS.s0t g19 ?_
          refine RunS.s0t g19 ?_
          refine RunS.s0t g19 ?_
          refine RunS.s0t g19 ?_
          refine RunS.s0t g19 ?_
          refine RunS.s1 (x := loc_pick (z := .const (.bool true)) (by decide) (by rw [g19]; rfl) (by exact ⟨⟩) (ok_sc rfl) (by exact Cp.sc)) (y := ?_)
          refine RunS.s1 (x := loc_copy (.inl rfl) (by decide) (by exact Cp.sc)) (y := ?_)
          refine RunS.cases (s := 41) rfl (fun g20 => ?_) (fun g20 => nomatch g20)
          refine RunS.s0t g20 ?_
          refine RunS.s0t g20 ?_
          refine RunS.s0t g20 ?_
          refine RunS.s0t g20 ?_
          refine RunS.s0t g20 ?_
          refine RunS.s1 (x := loc_pick (z := .const (.bool true)) (by decide) (by rw [g20]; rfl) (by exact ⟨⟩) (ok_sc rfl) (by exact Cp.sc)) (y := ?_)
          refine RunS.s1 (x := loc_copy (.inl rfl) (by decide) (by exact Cp.sc)) (y := ?_)
          refine RunS.cases (s := 48) rfl (fun g21 => ?_) (fun g21 => nomatch g21)
          refine RunS.s0t g21 ?_
          refine RunS.s0t g21 ?_
          refine RunS.s0t g21 ?_
          refine RunS.s0t g21 ?_
          refine RunS.s0t g21 ?_
          refine RunS.s0t g21 ?_
          refine RunS.s0t g21 ?_
          refine RunS.s1 (x := loc_pick (z := .const (.bool true)) (by decide) (by rw [g21]; rfl) (by exact ⟨⟩) (ok_sc rfl) (by exact Cp.sc)) (y := ?_)
          refine sw_cond (t := 56) rfl (fun hb_ => ?_) (fun hb_ => nomatch hb_)
          have hbad : isCl c = false := isCl_head (fun x => by unfold headB at x; simp_all)
          refine sw_seq ?_
          refine sw_of (l := [(1, RV.ptr 1 0), (2, RV.sv false [PV.val _]), (3, RV.sv false [PV.val _])]) (b := [(1, (37, [PV.val _, PV.val _, PV.sl _ _, PV.sl _ _, PV.sl _ _, PV.sl _ _, PV.sl _ _, PV.sl _ _, PV.sl _ _, PV.sl _ _, PV.sl _ _]))]) (by exact ⟨rfl, rfl, rfl, ⟨⟩⟩) (by exact ⟨rfl, ⟨⟩⟩) ?_
          refine sw_reg ?_
          refine RunS.s1 (x := loc_const (.inr rfl) (by decide) (ok_sc rfl)) (y := ?_)
          refine sw_ret ?_
          exact (And.intro (by refine bool_eq ?_; exact hbad.symm) True.intro)
        · have sg19 := g19
          try simp only [q1, q2, q3, q4, q5, q6, q7, q8, q9] at sg19
          refine RunS.s2 (hb := g19) (x := loc_field (by decide) fd_37_4) (y := ?_)
          refine RunS.s2 (hb := g19) (x := loc_load (qs := [PV.sl .v _]) (by decide) ty_23 (fun _ => rfl) (by exact Nat.le_of_ble_eq_true rfl) (by exact (ToL.cons PV.to_none ToL.nil)) (by exact (BorL.cons (PV.bor_sl _) BorL.nil))) (y := ?_)
          refine RunS.s2 (hb := g19) (x := loc_len (by decide) sl_23 (by first | exact List.length_map _ | exact rfl)) (y := ?_)
          refine RunS.s2 (hb := g19) (x := loc_copy (.inl rfl) (by decide) (by exact Cp.sc)) (y := ?_)
          refine RunS.s2 (hb := g19) (x := loc_neq (by decide) (by exact ⟨⟩) (by exact ⟨⟩)) (y := ?_)
          refine RunS.s1 (x := loc_pick (z := .tmp 39) (by decide) (by rw [g19]; rfl) (by exact ⟨⟩) (by exact ⟨⟩) (by exact Cp.sc)) (y := ?_)
          refine RunS.s1 (x := loc_copy (.inl rfl) (by decide) (by exact Cp.sc)) (y := ?_)
          refine RunS.cases (s := 41) rfl (fun g23 => ?_) (fun g23 => ?_)
          · have sg23 := g23
            try simp only [q1, q2, q3, q4, q5, q6, q7, q8, q9] at sg23
            refine RunS.s0t g23 ?_
            refine RunS.s0t g23 ?_
            refine RunS.s0t g23 ?_
            refine RunS.s0t g23 ?_
            refine RunS.s0t g23 ?_
            refine RunS.s1 (x := loc_pick (z := .const (.bool true)) (by decide) (by rw [g23]; rfl) (by exact ⟨⟩) (ok_sc rfl) (by exact Cp.sc)) (y := ?_)
            refine RunS.s1 (x := loc_copy (.inl rfl) (by decide) (by exact Cp.sc)) (y := ?_)
            refine RunS.cases (s := 48) rfl (fun g24 => ?_) (fun g24 => nomatch g24)
            refine RunS.s0t g24 ?_
            refine RunS.s0t g24 ?_
            refine RunS.s0t g24 ?_
            refine RunS.s0t g24 ?_
            refine RunS.s0t g24 ?_
            refine RunS.s0t g24 ?_
            refine RunS.s0t g24 ?_
            refine RunS.s1 (x := loc_pick (z := .const (.bool true)) (by decide) (by rw [g24]; rfl) (by exact ⟨⟩) (ok_sc rfl) (by exact Cp.sc)) (y := ?_)
            refine sw_cond (t := 56) rfl (fun hb_ => ?_) (fun hb_ => nomatch hb_)
            have hbad : isCl c = false := isCl_head (fun x => by unfold headB at x; simp_all)
            refine sw_seq ?_
            refine sw_of (l := [(1, RV.ptr 1 0), (2, RV.sv false [PV.val _]), (3, RV.sv false [PV.val _])]) (b := [(1, (37, [PV.val _, PV.val _, PV.sl _ _, PV.sl _ _, PV.sl _ _, PV.sl _ _, PV.sl _ _, PV.sl _ _, PV.sl _ _, PV.sl _ _, PV.sl _ _]))]) (by exact ⟨rfl, rfl, rfl, ⟨⟩⟩) (by exact ⟨rfl, ⟨⟩⟩) ?_
            refine sw_reg ?_
            refine RunS.s1 (x := loc_const (.inr rfl) (by decide) (ok_sc rfl)) (y := ?_)
            refine sw_ret ?_
            exact (And.intro (by refine bool_eq ?_; exact hbad.symm) True.intro)
          · have sg23 := g23
            try simp only [q1, q2, q3, q4, q5, q6, q7, q8, q9] at sg23
            refine RunS.s2 (hb := g23) (x := loc_field (by decide) fd_37_5) (y := ?_)
            refine RunS.s2 (hb := g23) (x := loc_load (qs := [PV.sl .v _]) (by decide) ty_35 (fun _ => rfl) (by exact Nat.le_of_ble_eq_true rfl) (by exact (ToL.cons PV.to_none ToL.nil)) (by exact (BorL.cons (PV.bor_sl _) BorL.nil))) (y := ?_)
            refine RunS.s2 (hb := g23) (x := loc_len (by decide) sl_35 (by first | exact List.length_map _ | exact rfl)) (y := ?_)
            refine RunS.s2 (hb := g23) (x := loc_copy (.inl rfl) (by decide) (by exact Cp.sc)) (y := ?_)
            refine RunS.s2 (hb := g23) (x := loc_neq (by decide) (by exact ⟨⟩) (by exact ⟨⟩)) (y := ?_)
            refine RunS.s1 (x := loc_pick (z := .tmp 46) (by decide) (by rw [g23]; rfl) (by exact ⟨⟩) (by exact ⟨⟩) (by exact Cp.sc)) (y := ?_)
            refine RunS.s1 (x := loc_copy (.inl rfl) (by decide) (by exact Cp.sc)) (y := ?_)
            refine RunS.cases (s := 48) rfl (fun g26 => ?_) (fun g26 => ?_)
            · have sg26 := g26
              try simp only [q1, q2, q3, q4, q5, q6, q7, q8, q9] at sg26
              refine RunS.s0t g26 ?_
              refine RunS.s0t g26 ?_
              refine RunS.s0t g26 ?_
              refine RunS.s0t g26 ?_
              refine RunS.s0t g26 ?_
              refine RunS.s0t g26 ?_
              refine RunS.s0t g26 ?_
              refine RunS.s1 (x := loc_pick (z := .const (.bool true)) (by decide) (by rw [g26]; rfl) (by exact ⟨⟩) (ok_sc rfl) (by exact Cp.sc)) (y := ?_)
              refine sw_cond (t := 56) rfl (fun hb_ => ?_) (fun hb_ => nomatch hb_)
              have hbad : isCl c = false := isCl_head (fun x => by unfold headB at x; simp_all)
              refine sw_seq ?_
              refine sw_of (l := [(1, RV.ptr 1 0), (2, RV.sv false [PV.val _]), (3, RV.sv false [PV.val _])]) (b := [(1, (37, [PV.val _, PV.val _, PV.sl _ _, PV.sl _ _, PV.sl _ _, PV.sl _ _, PV.sl _ _, PV.sl _ _, PV.sl _ _, PV.sl _ _, PV.sl _ _]))]) (by exact ⟨rfl, rfl, rfl, ⟨⟩⟩) (by exact ⟨rfl, ⟨⟩⟩) ?_
              refine sw_reg ?_
              refine RunS.s1 (x := loc_const (.inr rfl) (by decide) (ok_sc rfl)) (y := ?_)
              refine sw_ret ?_
              exact (And.intro (by refine bool_eq ?_; exact hbad.symm) True.intro)
            · have sg26 := g26
              try simp only [q1, q2, q3, q4, q5, q6, q7, q8, q9] at sg26
              refine RunS.s2 (hb := g26) (x := loc_field (by decide) fd_37_7) (y := ?_)
              refine RunS.s2 (hb := g26) (x := loc_load (qs := [PV.sl .v _]) (by decide) ty_35 (fun _ => rfl) (by exact Nat.le_of_ble_eq_true rfl) (by exact (ToL.cons PV.to_none ToL.nil)) (by exact (BorL.cons (PV.bor_sl _) BorL.nil))) (y := ?_)
              refine RunS.s2 (hb := g26) (x := loc_len (by decide) sl_35 (by first | exact List.length_map _ | exact rfl)) (y := ?_)
              refine RunS.s2 (hb := g26) (x := loc_field (by decide) fd_37_1) (y := ?_)
              refine RunS.s2 (hb := g26) (x := loc_load (qs := [PV.sl .v _]) (by decide) ty_35 (fun _ => rfl) (by exact Nat.le_of_ble_eq_true rfl) (by exact (ToL.cons PV.to_none ToL.nil)) (by exact (BorL.cons (PV.bor_sl _) BorL.nil))) (y := ?_)
              refine RunS.s2 (hb := g26) (x := loc_len (by decide) sl_35 (by first | exact List.length_map _ | exact rfl)) (y := ?_)
              refine RunS.s2 (hb := g26) (x := loc_neq (by decide) (by exact ⟨⟩) (by exact ⟨⟩)) (y := ?_)
              refine RunS.s1 (x := loc_pick (z := .tmp 55) (by decide) (by rw [g26]; rfl) (by exact ⟨⟩) (by exact ⟨⟩) (by exact Cp.sc)) (y := ?_)
              refine sw_cond (t := 56) rfl (fun hb28 => ?_) (fun hb28 => ?_)
              · try simp only [q1, q2, q3, q4, q5, q6, q7, q8, q9] at hb28
                have hbad : isCl c = false := isCl_head (fun x => by unfold headB at x; simp_all)
                refine sw_seq ?_
                refine sw_of (l := [(1, RV.ptr 1 0), (2, RV.sv false [PV.val _]), (3, RV.sv false [PV.val _])]) (b := [(1, (37, [PV.val _, PV.val _, PV.sl _ _, PV.sl _ _, PV.sl _ _, PV.sl _ _, PV.sl _ _, PV.sl _ _, PV.sl _ _, PV.sl _ _, PV.sl _ _]))]) (by exact ⟨rfl, rfl, rfl, ⟨⟩⟩) (by exact ⟨rfl, ⟨⟩⟩) ?_
                refine sw_reg ?_
                refine RunS.s1 (x := loc_const (.inr rfl) (by decide) (ok_sc rfl)) (y := ?_)
                refine sw_ret ?_
                exact (And.intro (by refine bool_eq ?_; exact hbad.symm) True.intro)
              · try simp only [q1, q2, q3, q4, q5, q6, q7, q8, q9] at hb28
                have hh : headB c := by unfold headB; first | (simp_all; done) | (simp_all; omega)
                have hh2 := hh
                unfold headB at hh2
                obtain ⟨_, hh3, hh4, hh5, hh6⟩ := hh2
                refine sw_skip ?_
                refine sw_seq ?_
                refine sw_seq ?_
                refine sw_of (l := [(1, RV.ptr 1 0), (2, RV.sv false [PV.val _]), (3, RV.sv false [PV.val _])]) (b := [(1, (37, [PV.val _, PV.val _, PV.sl _ _, PV.sl _ _, PV.sl _ _, PV.sl _ _, PV.sl _ _, PV.sl _ _, PV.sl _ _, PV.sl _ _, PV.sl _ _]))]) (by exact ⟨rfl, rfl, rfl, ⟨⟩⟩) (by exact ⟨rfl, ⟨⟩⟩) ?_
                refine sw_reg ?_
                refine RunS.s1 (x := loc_const (.inr rfl) (by decide) (ok_sc rfl)) (y := ?_)
                refine sw_block ?_
                refine sw_of (l := [(1, RV.ptr 1 0), (2, RV.sv false [PV.val _]), (3, RV.sv false [PV.val _]), (4, RV.sv false [PV.val _])]) (b := [(1, (37, [PV.val _, PV.val _, PV.sl _ _, PV.sl _ _, PV.sl _ _, PV.sl _ _, PV.sl _ _, PV.sl _ _, PV.sl _ _, PV.sl _ _, PV.sl _ _]))]) (by exact ⟨rfl, rfl, rfl, rfl, ⟨⟩⟩) (by exact ⟨rfl, ⟨⟩⟩) ?_
                refine sw_loop (l0 := [(1, RV.ptr 1 0), (3, RV.sv false [PV.val _])]) (b0 := [(1, (37, [PV.val _, PV.val _, PV.sl _ _, PV.sl _ _, PV.sl _ _, PV.sl _ _, PV.sl _ _, PV.sl _ _, PV.sl _ _, PV.sl _ _, PV.sl _ _]))]) (fun k : Nat => k ≤ c.Done.length ∧ adjTo 0 (doneP c) ltI c.Done k = true) (fun k : Nat => [(4, RV.int (k : Int))]) (fun k : Nat => []) (fun k : Nat => c.Done.length - k) 0 (by exact ⟨by omega, rfl⟩) (by exact ⟨rfl, rfl, ⟨⟩⟩) (by exact ⟨rfl, ⟨⟩⟩) (by exact And.intro (by exact rfl) (True.intro)) (by exact ⟨⟩) ?_
                rintro k ⟨hk, ha⟩
                refine sw_seq ?_
                refine sw_seq ?_
                refine sw_reg ?_
                refine RunS.s1 (x := loc_copy (.inl rfl) (by decide) (by exact Cp.sc)) (y := ?_)
                refine RunS.s1 (x := loc_field (by decide) fd_37_6) (y := ?_)
                refine RunS.s1 (x := loc_load (qs := [PV.sl .v _]) (by decide) ty_23 (fun _ => rfl) (by exact Nat.le_of_ble_eq_true rfl) (by exact (ToL.cons PV.to_none ToL.nil)) (by exact (BorL.cons (PV.bor_sl _) BorL.nil))) (y := ?_)
                refine RunS.s1 (x := loc_len (by decide) sl_23 (by first | exact List.length_map _ | exact rfl)) (y := ?_)
                refine RunS.s1 (x := loc_lss (by decide) (by exact ⟨⟩) (by exact ⟨⟩)) (y := ?_)
                refine sw_cond (t := 61) rfl (fun hb29 => ?_) (fun hb29 => ?_)
                · try simp only [q1, q2, q3, q4, q5, q6, q7, q8, q9] at hb29
                  have hlt : k < c.Done.length := by omega
                  have hgk : c.Done.getD k 0 = c.Done[k] := getD_at hlt
                  have hgp : 0 < k → c.Done.getD (k - 1) 0 = c.Done[k - 1] := fun h => getD_at (by omega)
                  refine sw_skip ?_
                  refine sw_seq ?_
                  refine sw_block ?_
                  refine sw_seq ?_
                  refine sw_of (l := [(1, RV.ptr 1 0), (3, RV.sv false [PV.val _]), (4, RV.sv false [PV.val _])]) (b := [(1, (37, [PV.val _, PV.val _, PV.sl _ _, PV.sl _ _, PV.sl _ _, PV.sl _ _, PV.sl _ _, PV.sl _ _, PV.sl _ _, PV.sl _ _, PV.sl _ _]))]) (by exact ⟨rfl, rfl, rfl, ⟨⟩⟩) (by exact ⟨rfl, ⟨⟩⟩) ?_
                  refine sw_draw hm_ ?_
                  refine Run.step 0 (by exact ⟨rfl, ⟨⟩⟩) (by exact ⟨⟩) (LocG.of rfl (loc_field (by decide) fd_37_6)) nofree (by kernel_rfl) ?_
                  refine Run.step 1 (by exact ⟨rfl, ⟨⟩⟩) (by exact ⟨rfl, ⟨⟩⟩) (LocG.of rfl (loc_load (qs := [PV.sl .v _]) (by decide) ty_23 (fun _ => rfl) (by exact Nat.le_of_ble_eq_true rfl) (by exact (ToL.cons PV.to_none ToL.nil)) (by exact (BorL.cons (PV.bor_sl _) BorL.nil)))) nofree (by kernel_rfl) ?_
                  refine Run.step 0 (by exact ⟨rfl, ⟨⟩⟩) (by exact ⟨⟩) (LocG.of rfl (loc_copy (.inl rfl) (by decide) (by exact Cp.sc))) nofree (by kernel_rfl) ?_
                  refine Run.step 7 (by exact ⟨rfl, rfl, ⟨⟩⟩) (by exact ⟨⟩) (LocG.of rfl (loc_index (by decide) sl_23 (by exact ⟨⟩) (by exact rfl) (by exact getm2 (by omega) rfl) (by exact rfl))) nofree (by kernel_rfl) ?_
                  refine Run.step 15 (by exact ⟨rfl, ⟨⟩⟩) (by exact ⟨⟩) (LocG.of rfl (loc_eload (qs := [PV.val _]) (by decide) ty_3 (fun _ => rfl) (by exact Nat.le_of_ble_eq_true rfl) (by exact (ToL.cons (PV.To.refl _) ToL.nil)) (by exact (BorL.cons (PV.bor_val _) BorL.nil)))) nofree (by kernel_rfl) ?_
                  refine Run.step 0 (by exact ⟨rfl, ⟨⟩⟩) (by exact ⟨⟩) (LocG.of rfl (loc_field (by decide) fd_37_1)) nofree (by kernel_rfl) ?_
                  refine Run.step 32 (by exact ⟨rfl, ⟨⟩⟩) (by exact ⟨rfl, ⟨⟩⟩) (LocG.of rfl (loc_load (qs := [PV.sl .v _]) (by decide) ty_35 (fun _ => rfl) (by exact Nat.le_of_ble_eq_true rfl) (by exact (ToL.cons PV.to_none ToL.nil)) (by exact (BorL.cons (PV.bor_sl _) BorL.nil)))) nofree (by kernel_rfl) ?_
                  refine Run.step 96 (by exact ⟨rfl, ⟨⟩⟩) (by exact ⟨⟩) (LocG.of rfl (loc_len (by decide) sl_35 (by first | exact List.length_map _ | exact rfl))) nofree (by kernel_rfl) ?_
                  refine Run.step 224 (by exact ⟨rfl, ⟨⟩⟩) (by exact ⟨⟩) (LocG.of rfl (loc_sub (by decide) (by exact ⟨⟩) (ok_sc rfl) (by unfold I64; omega))) nofree (by kernel_rfl) ?_
                  refine Run.step 511 (by exact ⟨rfl, rfl, ⟨⟩⟩) (by exact ⟨⟩) (LocG.of rfl (loc_call (qs := [(false, [PV.val _]), (false, [PV.val _]), (false, [PV.val _])]) (as_ := [(false, [PV.val _]), (false, [PV.val _]), (false, [PV.val _])]) (by decide) c_50 (by exact (And.intro (by exact ⟨⟩) (And.intro (ok_sc rfl) (And.intro (by exact ⟨⟩) True.intro)))) (by exact (And.intro (And.intro rfl (ToL.cons (PV.To.refl _) ToL.nil)) (And.intro (And.intro rfl (ToL.cons (PV.To.refl _) ToL.nil)) (And.intro (And.intro rfl (ToL.cons (PV.To.refl _) ToL.nil)) True.intro)))) (by exact spec_l1In))) nofree (by kernel_rfl) ?_
                  refine Run.step 1023 (by exact ⟨rfl, ⟨⟩⟩) (by exact ⟨⟩) (LocG.of rfl (loc_not (by decide))) nofree (by kernel_rfl) ?_
                  refine Run.step 2047 (by exact ⟨rfl, ⟨⟩⟩) (by exact ⟨⟩) (LocG.of rfl (loc_copy (.inl rfl) (by decide) (by exact Cp.sc))) nofree (by kernel_rfl) ?_
                  refine Run.cases (s := 75) rfl (fun g30 => ?_) (fun g30 => ?_)
                  · have sg30 := g30
                    try simp only [q1, q2, q3, q4, q5, q6, q7, q8, q9] at sg30
                    refine Run.step 4095 (by exact ⟨rfl, ⟨⟩⟩) (by exact ⟨⟩) (LocG.no (ops := _) rfl rfl (by decide) g30 rfl) nofree (by kernel_rfl) ?_
                    refine Run.step 8191 (by exact ⟨rfl, ⟨⟩⟩) (by exact ⟨⟩) (LocG.no (ops := _) rfl rfl (by decide) g30 rfl) nofree (by kernel_rfl) ?_
                    refine Run.step 16383 (by exact ⟨rfl, ⟨⟩⟩) (by exact ⟨⟩) (LocG.no (ops := _) rfl rfl (by decide) g30 rfl) nofree (by kernel_rfl) ?_
                    refine Run.step 32767 (by exact ⟨rfl, ⟨⟩⟩) (by exact ⟨⟩) (LocG.noU (ops := _) rfl rfl rfl) nofree (by kernel_rfl) ?_
                    refine Run.step 65535 (by exact ⟨rfl, ⟨⟩⟩) (by exact ⟨⟩) (LocG.noU (ops := _) rfl rfl rfl) nofree (by kernel_rfl) ?_
                    refine Run.step 32767 (by exact ⟨rfl, ⟨⟩⟩) (by exact ⟨⟩) (LocG.noU (ops := _) rfl rfl rfl) nofree (by kernel_rfl) ?_
                    refine Run.step 262143 (by exact ⟨rfl, ⟨⟩⟩) (by exact ⟨⟩) (LocG.noU (ops := _) rfl rfl rfl) nofree (by kernel_rfl) ?_
                    refine Run.step 524287 (by exact ⟨rfl, ⟨⟩⟩) (by exact ⟨⟩) (LocG.noU (ops := _) rfl rfl rfl) nofree (by kernel_rfl) ?_
                    refine Run.step 32767 (by exact ⟨rfl, ⟨⟩⟩) (by exact ⟨⟩) (LocG.noU (ops := _) rfl rfl rfl) nofree (by kernel_rfl) ?_
                    refine Run.step 1081343 (by exact ⟨rfl, ⟨⟩⟩) (by exact ⟨⟩) (LocG.noU (ops := _) rfl rfl rfl) nofree (by kernel_rfl) ?_
                    refine Run.step 32767 (by exact ⟨rfl, ⟨⟩⟩) (by exact ⟨⟩) (LocG.noU (ops := _) rfl rfl rfl) nofree (by kernel_rfl) ?_
                    refine Run.step 4227071 (by exact ⟨rfl, ⟨⟩⟩) (by exact ⟨⟩) (LocG.noU (ops := _) rfl rfl rfl) nofree (by kernel_rfl) ?_
                    refine Run.step 15761407 (by exact ⟨rfl, ⟨⟩⟩) (by exact ⟨⟩) (LocG.noU (ops := _) rfl rfl rfl) nofree (by kernel_rfl) ?_
                    refine Run.step 32538623 (by exact ⟨rfl, ⟨⟩⟩) (by exact ⟨⟩) (LocG.noU (ops := _) rfl rfl rfl) nofree (by kernel_rfl) ?_
                    refine Run.step 67108863 (by exact ⟨rfl, ⟨⟩⟩) (by exact ⟨⟩) (LocG.noU (ops := _) rfl rfl rfl) nofree (by kernel_rfl) ?_
                    refine Run.step 134217727 (by exact ⟨rfl, ⟨⟩⟩) (by exact ⟨⟩) (LocG.no (ops := _) rfl rfl (by decide) g30 rfl) nofree (by kernel_rfl) ?_
                    refine Run.step 268435455 (by exact ⟨rfl, ⟨⟩⟩) (by exact ⟨⟩) (LocG.of rfl (loc_pick (z := .const (.bool true)) (by decide) (by rw [g30]; rfl) (by exact ⟨⟩) (ok_sc rfl) (by exact Cp.sc))) nofree (by kernel_rfl) ?_
                    refine sw_cond (t := 92) rfl (fun hb_ => ?_) (fun hb_ => nomatch hb_)
                    have hbad : adjAll 0 (doneP c) ltI c.Done = false := adj_no hlt (Bool.eq_false_iff.2 fun hx => by
                      have hx := adjStep.1 hx
                      rw [hgk] at hx
                      obtain ⟨hx1, hx2⟩ := hx
                      first
                      | (simp_all [doneP]; done)
                      | (simp only [decide_eq_true_eq, ltI, doneP] at *; by_cases h0 : k = 0 <;> (try rw [hgp (by omega)] at hx2) <;> omega))
                    refine sw_seq ?_
                    refine sw_of (l := [(1, RV.ptr 1 0), (3, RV.sv false [PV.val _]), (4, RV.sv false [PV.val _])]) (b := [(1, (37, [PV.val _, PV.val _, PV.sl _ _, PV.sl _ _, PV.sl _ _, PV.sl _ _, PV.sl _ _, PV.sl _ _, PV.sl _ _, PV.sl _ _, PV.sl _ _]))]) (by exact ⟨rfl, rfl, rfl, ⟨⟩⟩) (by exact ⟨rfl, ⟨⟩⟩) ?_
                    refine sw_reg ?_
                    refine RunS.s1 (x := loc_const (.inr rfl) (by decide) (ok_sc rfl)) (y := ?_)
                    refine sw_ret ?_
                    exact (And.intro (by refine bool_eq ?_; exact (isCl_done hbad).symm) True.intro)
                  · have sg30 := g30
                    try simp only [q1, q2, q3, q4, q5, q6, q7, q8, q9] at sg30
                    refine Run.step 4095 (by exact ⟨rfl, rfl, ⟨⟩⟩) (by exact ⟨⟩) (LocG.yes rfl rfl (by decide) g30 (loc_copy (.inl rfl) (by decide) (by exact Cp.sc))) nofree (by kernel_rfl) ?_
                    refine Run.step 8191 (by exact ⟨rfl, rfl, ⟨⟩⟩) (by exact ⟨⟩) (LocG.yes rfl rfl (by decide) g30 (loc_gtr (by decide) (by exact ⟨⟩) (ok_sc rfl))) nofree (by kernel_rfl) ?_
                    refine Run.step 16383 (by exact ⟨rfl, rfl, ⟨⟩⟩) (by exact ⟨⟩) (LocG.yes rfl rfl (by decide) g30 (loc_copy (.inl rfl) (by decide) (by exact Cp.sc))) nofree (by kernel_rfl) ?_
                    refine Run.cases (s := 78) rfl (fun g32 => ?_) (fun g32 => ?_)
                    · have sg32 := g32
                      try simp only [q1, q2, q3, q4, q5, q6, q7, q8, q9] at sg32
                      refine Run.step 32767 (by exact ⟨rfl, rfl, ⟨⟩⟩) (by exact ⟨⟩) (LocG.yes rfl rfl (by decide) g32 (loc_field (by decide) fd_37_6)) nofree (by kernel_rfl) ?_
                      refine Run.step 65535 (by exact ⟨rfl, rfl, ⟨⟩⟩) (by exact ⟨rfl, ⟨⟩⟩) (LocG.yes rfl rfl (by decide) g32 (loc_load (qs := [PV.sl .v _]) (by decide) ty_23 (fun _ => rfl) (by exact Nat.le_of_ble_eq_true rfl) (by exact (ToL.cons PV.to_none ToL.nil)) (by exact (BorL.cons (PV.bor_sl _) BorL.nil)))) nofree (by kernel_rfl) ?_
                      refine Run.step 32767 (by exact ⟨rfl, rfl, ⟨⟩⟩) (by exact ⟨⟩) (LocG.yes rfl rfl (by decide) g32 (loc_copy (.inl rfl) (by decide) (by exact Cp.sc))) nofree (by kernel_rfl) ?_
                      refine Run.step 262143 (by exact ⟨rfl, rfl, rfl, ⟨⟩⟩) (by exact ⟨⟩) (LocG.yes rfl rfl (by decide) g32 (loc_index (by decide) sl_23 (by exact ⟨⟩) (by exact rfl) (by exact getm2 (by omega) rfl) (by exact rfl))) nofree (by kernel_rfl) ?_
                      refine Run.step 524287 (by exact ⟨rfl, rfl, ⟨⟩⟩) (by exact ⟨⟩) (LocG.yes rfl rfl (by decide) g32 (loc_eload (qs := [PV.val _]) (by decide) ty_3 (fun _ => rfl) (by exact Nat.le_of_ble_eq_true rfl) (by exact (ToL.cons (PV.To.refl _) ToL.nil)) (by exact (BorL.cons (PV.bor_val _) BorL.nil)))) nofree (by kernel_rfl) ?_
                      refine Run.step 32767 (by exact ⟨rfl, rfl, ⟨⟩⟩) (by exact ⟨⟩) (LocG.yes rfl rfl (by decide) g32 (loc_field (by decide) fd_37_6)) nofree (by kernel_rfl) ?_
                      refine Run.step 1081343 (by exact ⟨rfl, rfl, ⟨⟩⟩) (by exact ⟨rfl, ⟨⟩⟩) (LocG.yes rfl rfl (by decide) g32 (loc_load (qs := [PV.sl .v _]) (by decide) ty_23 (fun _ => rfl) (by exact Nat.le_of_ble_eq_true rfl) (by exact (ToL.cons PV.to_none ToL.nil)) (by exact (BorL.cons (PV.bor_sl _) BorL.nil)))) nofree (by kernel_rfl) ?_
                      refine Run.step 32767 (by exact ⟨rfl, rfl, ⟨⟩⟩) (by exact ⟨⟩) (LocG.yes rfl rfl (by decide) g32 (loc_copy (.inl rfl) (by decide) (by exact Cp.sc))) nofree (by kernel_rfl) ?_
                      refine Run.step 4227071 (by exact ⟨rfl, rfl, ⟨⟩⟩) (by exact ⟨⟩) (LocG.yes rfl rfl (by decide) g32 (loc_sub (by decide) (by exact ⟨⟩) (ok_sc rfl) (by unfold I64; omega))) nofree (by kernel_rfl) ?_
                      refine Run.step 15761407 (by exact ⟨rfl, rfl, rfl, ⟨⟩⟩) (by exact ⟨⟩) (LocG.yes rfl rfl (by decide) g32 (loc_index (k := k - 1) (by decide) sl_23 (by exact ⟨⟩) (by omega) (by exact getm2 (by omega) rfl) (by exact rfl))) nofree (by kernel_rfl) ?_
                      refine Run.step 32538623 (by exact ⟨rfl, rfl, ⟨⟩⟩) (by exact ⟨⟩) (LocG.yes rfl rfl (by decide) g32 (loc_eload (qs := [PV.val _]) (by decide) ty_3 (fun _ => rfl) (by exact Nat.le_of_ble_eq_true rfl) (by exact (ToL.cons (PV.To.refl _) ToL.nil)) (by exact (BorL.cons (PV.bor_val _) BorL.nil)))) nofree (by kernel_rfl) ?_
                      refine Run.step 67108863 (by exact ⟨rfl, rfl, rfl, ⟨⟩⟩) (by exact ⟨⟩) (LocG.yes rfl rfl (by decide) g32 (loc_leq (by decide) (by exact ⟨⟩) (by exact ⟨⟩))) nofree (by kernel_rfl) ?_
                      refine Run.step 134217727 (by exact ⟨rfl, rfl, rfl, ⟨⟩⟩) (by exact ⟨⟩) (LocG.yes rfl rfl (by decide) g30 (loc_pick (z := .tmp 90) (by decide) (by rw [g32]; rfl) (by exact ⟨⟩) (by exact ⟨⟩) (by exact Cp.sc))) nofree (by kernel_rfl) ?_
                      refine Run.step 268435455 (by exact ⟨rfl, rfl, ⟨⟩⟩) (by exact ⟨⟩) (LocG.of rfl (loc_pick (z := .tmp 91) (by decide) (by rw [g30]; rfl) (by exact ⟨⟩) (by exact ⟨⟩) (by exact Cp.sc))) nofree (by kernel_rfl) ?_
                      refine sw_cond (t := 92) rfl (fun hb33 => ?_) (fun hb33 => ?_)
                      · try simp only [q1, q2, q3, q4, q5, q6, q7, q8, q9] at hb33
                        have hbad : adjAll 0 (doneP c) ltI c.Done = false := adj_no hlt (Bool.eq_false_iff.2 fun hx => by
                          have hx := adjStep.1 hx
                          rw [hgk] at hx
                          obtain ⟨hx1, hx2⟩ := hx
                          first
                          | (simp_all [doneP]; done)
                          | (simp only [decide_eq_true_eq, ltI, doneP] at *; by_cases h0 : k = 0 <;> (try rw [hgp (by omega)] at hx2) <;> omega))
                        refine sw_seq ?_
                        refine sw_of (l := [(1, RV.ptr 1 0), (3, RV.sv false [PV.val _]), (4, RV.sv false [PV.val _])]) (b := [(1, (37, [PV.val _, PV.val _, PV.sl _ _, PV.sl _ _, PV.sl _ _, PV.sl _ _, PV.sl _ _, PV.sl _ _, PV.sl _ _, PV.sl _ _, PV.sl _ _]))]) (by exact ⟨rfl, rfl, rfl, ⟨⟩⟩) (by exact ⟨rfl, ⟨⟩⟩) ?_
                        refine sw_reg ?_
                        refine RunS.s1 (x := loc_const (.inr rfl) (by decide) (ok_sc rfl)) (y := ?_)
                        refine sw_ret ?_
                        exact (And.intro (by refine bool_eq ?_; exact (isCl_done hbad).symm) True.intro)
                      · try simp only [q1, q2, q3, q4, q5, q6, q7, q8, q9] at hb33
                        refine sw_skip ?_
                        refine sw_of (l := [(1, RV.ptr 1 0), (3, RV.sv false [PV.val _]), (4, RV.sv false [PV.val _])]) (b := [(1, (37, [PV.val _, PV.val _, PV.sl _ _, PV.sl _ _, PV.sl _ _, PV.sl _ _, PV.sl _ _, PV.sl _ _, PV.sl _ _, PV.sl _ _, PV.sl _ _]))]) (by exact ⟨rfl, rfl, rfl, ⟨⟩⟩) (by exact ⟨rfl, ⟨⟩⟩) ?_
                        refine sw_reg ?_
                        refine RunS.s1 (x := loc_copy (.inl rfl) (by decide) (by exact Cp.sc)) (y := ?_)
                        refine RunS.s1 (x := loc_add (by decide) (by exact ⟨⟩) (ok_sc rfl) (by unfold I64; omega)) (y := ?_)
                        refine RunS.s1 (x := loc_copy (.inr rfl) (by decide) (by exact Cp.sc)) (y := ?_)
                        refine Exists.intro (k + 1) (And.intro (by exact ⟨by omega, by rw [adjTo_succ, ha, Bool.true_and]; refine adjStep.2 ⟨by rw [hgk]; first | assumption | simp_all, ?_⟩; rcases Nat.eq_zero_or_pos k with h0 | h0; (· exact .inl h0); (· right; rw [hgk, hgp h0]; first | (simp only [decide_eq_true_eq, ltI, doneP] at *; omega) | (simp_all; done))⟩) (And.intro (by omega) (And.intro (And.intro (by exact ⟨rfl, rfl, ⟨⟩⟩) (by exact ⟨rfl, ⟨⟩⟩)) (And.intro (by exact And.intro (by exact rfl) (True.intro)) (by exact ⟨⟩)))))
                    · have sg32 := g32
                      try simp only [q1, q2, q3, q4, q5, q6, q7, q8, q9] at sg32
                      refine Run.step 32767 (by exact ⟨rfl, ⟨⟩⟩) (by exact ⟨⟩) (LocG.no (ops := _) rfl rfl (by decide) g32 rfl) nofree (by kernel_rfl) ?_
                      refine Run.step 65535 (by exact ⟨rfl, ⟨⟩⟩) (by exact ⟨⟩) (LocG.no (ops := _) rfl rfl (by decide) g32 rfl) nofree (by kernel_rfl) ?_
                      refine Run.step 32767 (by exact ⟨rfl, ⟨⟩⟩) (by exact ⟨⟩) (LocG.no (ops := _) rfl rfl (by decide) g32 rfl) nofree (by kernel_rfl) ?_
                      refine Run.step 262143 (by exact ⟨rfl, ⟨⟩⟩) (by exact ⟨⟩) (LocG.no (ops := _) rfl rfl (by decide) g32 rfl) nofree (by kernel_rfl) ?_
                      refine Run.step 524287 (by exact ⟨rfl, ⟨⟩⟩) (by exact ⟨⟩) (LocG.no (ops := _) rfl rfl (by decide) g32 rfl) nofree (by kernel_rfl) ?_
                      refine Run.step 32767 (by exact ⟨rfl, ⟨⟩⟩) (by exact ⟨⟩) (LocG.no (ops := _) rfl rfl (by decide) g32 rfl) nofree (by kernel_rfl) ?_
                      refine Run.step 1081343 (by exact ⟨rfl, ⟨⟩⟩) (by exact ⟨⟩) (LocG.no (ops := _) rfl rfl (by decide) g32 rfl) nofree (by kernel_rfl) ?_
                      refine Run.step 32767 (by exact ⟨rfl, ⟨⟩⟩) (by exact ⟨⟩) (LocG.no (ops := _) rfl rfl (by decide) g32 rfl) nofree (by kernel_rfl) ?_
                      refine Run.step 4227071 (by exact ⟨rfl, ⟨⟩⟩) (by exact ⟨⟩) (LocG.no (ops := _) rfl rfl (by decide) g32 rfl) nofree (by kernel_rfl) ?_
                      refine Run.step 15761407 (by exact ⟨rfl, ⟨⟩⟩) (by exact ⟨⟩) (LocG.no (ops := _) rfl rfl (by decide) g32 rfl) nofree (by kernel_rfl) ?_
                      refine Run.step 32538623 (by exact ⟨rfl, ⟨⟩⟩) (by exact ⟨⟩) (LocG.no (ops := _) rfl rfl (by decide) g32 rfl) nofree (by kernel_rfl) ?_
                      refine Run.step 67108863 (by exact ⟨rfl, ⟨⟩⟩) (by exact ⟨⟩) (LocG.no (ops := _) rfl rfl (by decide) g32 rfl) nofree (by kernel_rfl) ?_
                      refine Run.step 134217727 (by exact ⟨rfl, rfl, ⟨⟩⟩) (by exact ⟨⟩) (LocG.yes rfl rfl (by decide) g30 (loc_pick (z := .const (.bool false)) (by decide) (by rw [g32]; rfl) (by exact ⟨⟩) (ok_sc rfl) (by exact Cp.sc))) nofree (by kernel_rfl) ?_
                      refine Run.step 268435455 (by exact ⟨rfl, rfl, ⟨⟩⟩) (by exact ⟨⟩) (LocG.of rfl (loc_pick (z := .tmp 91) (by decide) (by rw [g30]; rfl) (by exact ⟨⟩) (by exact ⟨⟩) (by exact Cp.sc))) nofree (by kernel_rfl) ?_
                      refine sw_cond (t := 92) rfl (fun hb_ => nomatch hb_) (fun hb_ => ?_)
                      refine sw_skip ?_
                      refine sw_of (l := [(1, RV.ptr 1 0), (3, RV.sv false [PV.val _]), (4, RV.sv false [PV.val _])]) (b := [(1, (37, [PV.val _, PV.val _, PV.sl _ _, PV.sl _ _, PV.sl _ _, PV.sl _ _, PV.sl _ _, PV.sl _ _, PV.sl _ _, PV.sl _ _, PV.sl _ _]))]) (by exact ⟨rfl, rfl, rfl, ⟨⟩⟩) (by exact ⟨rfl, ⟨⟩⟩) ?_
                      refine sw_reg ?_
                      refine RunS.s1 (x := loc_copy (.inl rfl) (by decide) (by exact Cp.sc)) (y := ?_)
                      refine RunS.s1 (x := loc_add (by decide) (by exact ⟨⟩) (ok_sc rfl) (by unfold I64; omega)) (y := ?_)
                      refine RunS.s1 (x := loc_copy (.inr rfl) (by decide) (by exact Cp.sc)) (y := ?_)
                      refine Exists.intro (k + 1) (And.intro (by exact ⟨by omega, by rw [adjTo_succ, ha, Bool.true_and]; refine adjStep.2 ⟨by rw [hgk]; first | assumption | simp_all, ?_⟩; rcases Nat.eq_zero_or_pos k with h0 | h0; (· exact .inl h0); (· right; rw [hgk, hgp h0]; first | (simp only [decide_eq_true_eq, ltI, doneP] at *; omega) | (simp_all; done))⟩) (And.intro (by omega) (And.intro (And.intro (by exact ⟨rfl, rfl, ⟨⟩⟩) (by exact ⟨rfl, ⟨⟩⟩)) (And.intro (by exact And.intro (by exact rfl) (True.intro)) (by exact ⟨⟩)))))
                · try simp only [q1, q2, q3, q4, q5, q6, q7, q8, q9] at hb29
                  have hend : k = c.Done.length := by omega
                  have hdone : adjAll 0 (doneP c) ltI c.Done = true := adj_end ha hend
                  refine sw_exit ?_
                  refine sw_seq ?_
                  refine sw_seq ?_
                  refine sw_of (l := [(1, RV.ptr 1 0), (3, RV.sv false [PV.val _]), (4, RV.sv false [PV.val _])]) (b := [(1, (37, [PV.val _, PV.val _, PV.sl _ _, PV.sl _ _, PV.sl _ _, PV.sl _ _, PV.sl _ _, PV.sl _ _, PV.sl _ _, PV.sl _ _, PV.sl _ _]))]) (by exact ⟨rfl, rfl, rfl, ⟨⟩⟩) (by exact ⟨rfl, ⟨⟩⟩) ?_
                  refine sw_reg ?_
                  refine RunS.s1 (x := loc_const (.inr rfl) (by decide) (ok_sc rfl)) (y := ?_)
                  refine sw_block ?_
                  refine sw_of (l := [(1, RV.ptr 1 0), (3, RV.sv false [PV.val _]), (4, RV.sv false [PV.val _]), (5, RV.sv false [PV.val _])]) (b := [(1, (37, [PV.val _, PV.val _, PV.sl _ _, PV.sl _ _, PV.sl _ _, PV.sl _ _, PV.sl _ _, PV.sl _ _, PV.sl _ _, PV.sl _ _, PV.sl _ _]))]) (by exact ⟨rfl, rfl, rfl, rfl, ⟨⟩⟩) (by exact ⟨rfl, ⟨⟩⟩) ?_
                  refine sw_loop (l0 := [(1, RV.ptr 1 0), (3, RV.sv false [PV.val _]), (4, RV.sv false [PV.val _])]) (b0 := [(1, (37, [PV.val _, PV.val _, PV.sl _ _, PV.sl _ _, PV.sl _ _, PV.sl _ _, PV.sl _ _, PV.sl _ _, PV.sl _ _, PV.sl _ _, PV.sl _ _]))]) (fun k : Nat => k ≤ c.Parts.length ∧ (∀ i : Nat, i < k → rowOk c (i : Int) = true)) (fun k : Nat => [(5, RV.int (k : Int))]) (fun k : Nat => []) (fun k : Nat => c.Parts.length - k) 0 (by exact ⟨by omega, fun i hi => absurd hi (Nat.not_lt_zero _)⟩) (by exact ⟨rfl, rfl, rfl, ⟨⟩⟩) (by exact ⟨rfl, ⟨⟩⟩) (by exact And.intro (by exact rfl) (True.intro)) (by exact ⟨⟩) ?_
                  rintro k ⟨hk, ha⟩
                  refine sw_seq ?_
                  refine sw_seq ?_
                  refine sw_reg ?_
                  refine RunS.s1 (x := loc_copy (.inl rfl) (by decide) (by exact Cp.sc)) (y := ?_)
                  refine RunS.s1 (x := loc_field (by decide) fd_37_1) (y := ?_)
                  refine RunS.s1 (x := loc_load (qs := [PV.sl .v _]) (by decide) ty_35 (fun _ => rfl) (by exact Nat.le_of_ble_eq_true rfl) (by exact (ToL.cons PV.to_none ToL.nil)) (by exact (BorL.cons (PV.bor_sl _) BorL.nil))) (y := ?_)
                  refine RunS.s1 (x := loc_len (by decide) sl_35 (by first | exact List.length_map _ | exact rfl)) (y := ?_)
                  refine RunS.s1 (x := loc_lss (by decide) (by exact ⟨⟩) (by exact ⟨⟩)) (y := ?_)
                  refine sw_cond (t := 97) rfl (fun hb35 => ?_) (fun hb35 => ?_)
                  · try simp only [q1, q2, q3, q4, q5, q6, q7, q8, q9] at hb35
                    have hlt : k < c.Rows.length := by omega
                    have hlt2 : k < c.Parts.length := by omega
                    refine sw_skip ?_
                    refine sw_seq ?_
                    refine sw_block ?_
                    refine sw_seq ?_
                    refine sw_of (l := [(1, RV.ptr 1 0), (3, RV.sv false [PV.val _]), (4, RV.sv false [PV.val _]), (5, RV.sv false [PV.val _])]) (b := [(1, (37, [PV.val _, PV.val _, PV.sl _ _, PV.sl _ _, PV.sl _ _, PV.sl _ _, PV.sl _ _, PV.sl _ _, PV.sl _ _, PV.sl _ _, PV.sl _ _]))]) (by exact ⟨rfl, rfl, rfl, rfl, ⟨⟩⟩) (by exact ⟨rfl, ⟨⟩⟩) ?_
                    refine sw_reg ?_
                    refine RunS.s1 (x := loc_bslice (qs := []) (by decide) sl_53 z_77 (by decide) rfl rfl rfl rfl rfl (by exact Nat.le_of_ble_eq_true rfl) (by exact ⟨⟩) rfl) (y := ?_)
                    refine RunS.s1 (x := loc_take (.inr rfl) (by decide)) (y := ?_)
                    refine sw_seq ?_
                    refine sw_seq ?_
                    refine sw_of (l := [(1, RV.ptr 1 0), (3, RV.sv false [PV.val _]), (4, RV.sv false [PV.val _]), (5, RV.sv false [PV.val _]), (6, RV.sv false [PV.sl _ _])]) (b := [(1, (37, [PV.val _, PV.val _, PV.sl _ _, PV.sl _ _, PV.sl _ _, PV.sl _ _, PV.sl _ _, PV.sl _ _, PV.sl _ _, PV.sl _ _, PV.sl _ _]))]) (by exact ⟨rfl, rfl, rfl, rfl, rfl, ⟨⟩⟩) (by exact ⟨rfl, ⟨⟩⟩) ?_
                    refine sw_reg ?_
                    refine RunS.s1 (x := loc_field (by decide) fd_37_6) (y := ?_)
                    refine RunS.s1 (x := loc_load (qs := [PV.sl .v _]) (by decide) ty_23 (fun _ => rfl) (by exact Nat.le_of_ble_eq_true rfl) (by exact (ToL.cons PV.to_none ToL.nil)) (by exact (BorL.cons (PV.bor_sl _) BorL.nil))) (y := ?_)
                    refine RunS.s1 (x := loc_copy (.inl rfl) (by decide) (by exact Cp.sc)) (y := ?_)
                    refine RunS.s1 (x := loc_call (qs := [(false, [PV.sl _ _]), (false, [PV.val _])]) (as_ := [(false, [PV.sl .v _]), (false, [PV.val _])]) (by decide) c_51 (by exact (And.intro (by exact ⟨⟩) (And.intro (by exact ⟨⟩) True.intro))) (by exact (And.intro (And.intro rfl (ToL.cons PV.to_none ToL.nil)) (And.intro (And.intro rfl (ToL.cons (PV.To.refl _) ToL.nil)) True.intro))) (by exact spec_HasMember)) (y := ?_)
                    refine sw_cond (t := 104) rfl (fun hb36 => ?_) (fun hb36 => ?_)
                    · try simp only [q1, q2, q3, q4, q5, q6, q7, q8, q9] at hb36
                      have hdn := hb36
                      refine sw_of (l := [(1, RV.ptr 1 0), (3, RV.sv false [PV.val _]), (4, RV.sv false [PV.val _]), (5, RV.sv false [PV.val _]), (6, RV.sv false [PV.sl _ _])]) (b := [(1, (37, [PV.val _, PV.val _, PV.sl _ _, PV.sl _ _, PV.sl _ _, PV.sl _ _, PV.sl _ _, PV.sl _ _, PV.sl _ _, PV.sl _ _, PV.sl _ _]))]) (by exact ⟨rfl, rfl, rfl, rfl, rfl, ⟨⟩⟩) (by exact ⟨rfl, ⟨⟩⟩) ?_
                      refine sw_draw hm_ ?_
                      refine Run.step 0 (by exact ⟨rfl, ⟨⟩⟩) (by exact ⟨rfl, ⟨⟩⟩) (LocG.of rfl (loc_load (qs := [PV.val _, PV.val _, PV.sl .v _, PV.sl .v _, PV.sl .v _, PV.sl .v _, PV.sl .v _, PV.sl .v _, PV.sl .v _, PV.sl .v _, PV.sl .v _]) (by decide) ty_37 (fun h => nomatch h) (by exact Nat.le_of_ble_eq_true rfl) (by exact (ToL.cons (PV.To.refl _) (ToL.cons (PV.To.refl _) (ToL.cons PV.to_none (ToL.cons PV.to_none (ToL.cons PV.to_none (ToL.cons PV.to_none (ToL.cons PV.to_none (ToL.cons PV.to_none (ToL.cons PV.to_none (ToL.cons PV.to_none (ToL.cons PV.to_none ToL.nil)))))))))))) (by exact (BorL.cons (PV.bor_val _) (BorL.cons (PV.bor_val _) (BorL.cons (PV.bor_sl _) (BorL.cons (PV.bor_sl _) (BorL.cons (PV.bor_sl _) (BorL.cons (PV.bor_sl _) (BorL.cons (PV.bor_sl _) (BorL.cons (PV.bor_sl _) (BorL.cons (PV.bor_sl _) (BorL.cons (PV.bor_sl _) (BorL.cons (PV.bor_sl _) BorL.nil)))))))))))))) nofree (by kernel_rfl) ?_
                      refine Run.step 0 (by exact ⟨rfl, ⟨⟩⟩) (by exact ⟨⟩) (LocG.of rfl (loc_copy (.inl rfl) (by decide) (by exact Cp.sc))) nofree (by kernel_rfl) ?_
                      refine Run.step 0 (by exact ⟨rfl, ⟨⟩⟩) (by exact ⟨⟩) (LocG.of rfl (loc_field (by decide) fd_37_1)) nofree (by kernel_rfl) ?_
                      refine Run.step 4 (by exact ⟨rfl, ⟨⟩⟩) (by exact ⟨rfl, ⟨⟩⟩) (LocG.of rfl (loc_load (qs := [PV.sl .v _]) (by decide) ty_35 (fun _ => rfl) (by exact Nat.le_of_ble_eq_true rfl) (by exact (ToL.cons PV.to_none ToL.nil)) (by exact (BorL.cons (PV.bor_sl _) BorL.nil)))) nofree (by kernel_rfl) ?_
                      refine Run.step 0 (by exact ⟨rfl, ⟨⟩⟩) (by exact ⟨⟩) (LocG.of rfl (loc_copy (.inl rfl) (by decide) (by exact Cp.sc))) nofree (by kernel_rfl) ?_
                      refine Run.step 28 (by exact ⟨rfl, rfl, ⟨⟩⟩) (by exact ⟨⟩) (LocG.of rfl (loc_index (by decide) sl_35 (by exact ⟨⟩) (by exact rfl) (by exact getm2 (by omega) (by rw [partN (by omega)])) (by exact rfl))) nofree (by kernel_rfl) ?_
                      refine Run.step 60 (by exact ⟨rfl, ⟨⟩⟩) (by exact ⟨⟩) (LocG.of rfl (loc_eload (qs := [PV.sl .v _]) (by decide) ty_53 (fun _ => rfl) (by exact Nat.le_of_ble_eq_true rfl) (by exact (ToL.cons PV.to_none ToL.nil)) (by exact (BorL.cons (PV.bor_sl _) BorL.nil)))) nofree (by kernel_rfl) ?_
                      refine Run.step 124 (by exact ⟨rfl, ⟨⟩⟩) (by exact ⟨⟩) (LocG.of rfl (loc_len (by decide) sl_53 (by first | exact List.length_map _ | exact rfl))) nofree (by kernel_rfl) ?_
                      refine Run.step 255 (by exact ⟨rfl, rfl, rfl, ⟨⟩⟩) (by exact ⟨⟩) (LocG.of rfl (loc_call (qs := [(true, [PV.val _, PV.val _, PV.sl _ _, PV.sl _ _, PV.sl _ _, PV.sl _ _, PV.sl _ _, PV.sl _ _, PV.sl _ _, PV.sl _ _, PV.sl _ _]), (false, [PV.val _]), (false, [PV.val _])]) (as_ := [(true, [PV.val _, PV.val _, PV.sl .v _, PV.sl .v _, PV.sl .v _, PV.sl .v _, PV.sl .v _, PV.sl .v _, PV.sl .v _, PV.sl .v _, PV.sl .v _]), (false, [PV.val _]), (false, [PV.val _])]) (by decide) c_129 (by exact (And.intro (by exact ⟨⟩) (And.intro (by exact ⟨⟩) (And.intro (by exact ⟨⟩) True.intro)))) (by exact (And.intro (And.intro rfl (ToL.cons (PV.To.refl _) (ToL.cons (PV.To.refl _) (ToL.cons PV.to_none (ToL.cons PV.to_none (ToL.cons PV.to_none (ToL.cons PV.to_none (ToL.cons PV.to_none (ToL.cons PV.to_none (ToL.cons PV.to_none (ToL.cons PV.to_none (ToL.cons PV.to_none ToL.nil)))))))))))) (And.intro (And.intro rfl (ToL.cons (PV.To.refl _) ToL.nil)) (And.intro (And.intro rfl (ToL.cons (PV.To.refl _) ToL.nil)) True.intro)))) (by exact spec_l18Found (by omega) (by first | omega | assumption)))) nofree (by kernel_rfl) ?_
                      refine Run.step 511 (by exact ⟨rfl, ⟨⟩⟩) (by exact ⟨⟩) (LocG.of rfl (loc_take (.inr rfl) (by decide))) nofree (by kernel_rfl) ?_
                      refine sw_seq ?_
                      refine sw_of (l := [(1, RV.ptr 1 0), (3, RV.sv false [PV.val _]), (4, RV.sv false [PV.val _]), (5, RV.sv false [PV.val _]), (6, RV.sv false [PV.sl _ _])]) (b := [(1, (37, [PV.val _, PV.val _, PV.sl _ _, PV.sl _ _, PV.sl _ _, PV.sl _ _, PV.sl _ _, PV.sl _ _, PV.sl _ _, PV.sl _ _, PV.sl _ _]))]) (by exact ⟨rfl, rfl, rfl, rfl, rfl, ⟨⟩⟩) (by exact ⟨rfl, ⟨⟩⟩) ?_
                      refine sw_reg ?_
                      refine RunS.s1 (x := loc_field (by decide) fd_37_7) (y := ?_)
                      refine RunS.s1 (x := loc_load (qs := [PV.sl .v _]) (by decide) ty_35 (fun _ => rfl) (by exact Nat.le_of_ble_eq_true rfl) (by exact (ToL.cons PV.to_none ToL.nil)) (by exact (BorL.cons (PV.bor_sl _) BorL.nil))) (y := ?_)
                      refine RunS.s1 (x := loc_copy (.inl rfl) (by decide) (by exact Cp.sc)) (y := ?_)
                      refine RunS.s1 (x := loc_index (by decide) sl_35 (by exact ⟨⟩) (by exact rfl) (by exact getm2 (by omega) (by rw [rowsN (by omega)])) (by exact rfl)) (y := ?_)
                      refine RunS.s1 (x := loc_eload (qs := [PV.sl .v _]) (by decide) ty_53 (fun _ => rfl) (by exact Nat.le_of_ble_eq_true rfl) (by exact (ToL.cons PV.to_none ToL.nil)) (by exact (BorL.cons (PV.bor_sl _) BorL.nil))) (y := ?_)
                      refine RunS.s1 (x := loc_copy (r' := RV.sv false [PV.sl .v _]) (.inl rfl) (by decide) (by exact Cp.sv (ToL.cons PV.to_none ToL.nil) (BorL.cons (PV.bor_sl _) BorL.nil))) (y := ?_)
                      refine RunS.s1 (x := loc_call (qs := [(false, [PV.sl _ _]), (false, [PV.sl _ _])]) (as_ := [(false, [PV.sl .v _]), (false, [PV.sl .v _])]) (by decide) c_22 (by exact (And.intro (by exact ⟨⟩) (And.intro (by exact ⟨⟩) True.intro))) (by exact (And.intro (And.intro rfl (ToL.cons PV.to_none ToL.nil)) (And.intro (And.intro rfl (ToL.cons PV.to_none ToL.nil)) True.intro))) (by exact (by first | exact spec_EqualRows | exact @spec_EqualRows _ .v _ []))) (y := ?_)
                      refine RunS.s1 (x := loc_not (by decide)) (y := ?_)
                      refine sw_cond (t := 121) rfl (fun hb37 => ?_) (fun hb37 => ?_)
                      · try simp only [q1, q2, q3, q4, q5, q6, q7, q8, q9] at hb37
                        have hro : rowOk c (k : Int) = false := by simp_all [rowOk]
                        have hbad : isCl c = false := isCl_row hlt2 hro
                        refine sw_seq ?_
                        refine sw_of (l := [(1, RV.ptr 1 0), (3, RV.sv false [PV.val _]), (4, RV.sv false [PV.val _]), (5, RV.sv false [PV.val _]), (6, RV.sv false [PV.sl _ _])]) (b := [(1, (37, [PV.val _, PV.val _, PV.sl _ _, PV.sl _ _, PV.sl _ _, PV.sl _ _, PV.sl _ _, PV.sl _ _, PV.sl _ _, PV.sl _ _, PV.sl _ _]))]) (by exact ⟨rfl, rfl, rfl, rfl, rfl, ⟨⟩⟩) (by exact ⟨rfl, ⟨⟩⟩) ?_
                        refine sw_reg ?_
                        refine RunS.s1 (x := loc_const (.inr rfl) (by decide) (ok_sc rfl)) (y := ?_)
                        refine sw_ret ?_
                        exact (And.intro (by refine bool_eq ?_; exact hbad.symm) True.intro)
                      · try simp only [q1, q2, q3, q4, q5, q6, q7, q8, q9] at hb37
                        have hro : rowOk c (k : Int) = true := by simp_all [rowOk]
                        refine sw_skip ?_
                        refine sw_of (l := [(1, RV.ptr 1 0), (3, RV.sv false [PV.val _]), (4, RV.sv false [PV.val _]), (5, RV.sv false [PV.val _]), (6, RV.sv false [PV.sl _ _])]) (b := [(1, (37, [PV.val _, PV.val _, PV.sl _ _, PV.sl _ _, PV.sl _ _, PV.sl _ _, PV.sl _ _, PV.sl _ _, PV.sl _ _, PV.sl _ _, PV.sl _ _]))]) (by exact ⟨rfl, rfl, rfl, rfl, rfl, ⟨⟩⟩) (by exact ⟨rfl, ⟨⟩⟩) ?_
                        refine sw_reg ?_
                        refine RunS.s1 (x := loc_copy (.inl rfl) (by decide) (by exact Cp.sc)) (y := ?_)
                        refine RunS.s1 (x := loc_add (by decide) (by exact ⟨⟩) (ok_sc rfl) (by unfold I64; omega)) (y := ?_)
                        refine RunS.s1 (x := loc_copy (.inr rfl) (by decide) (by exact Cp.sc)) (y := ?_)
                        refine Exists.intro (k + 1) (And.intro (by exact ⟨by omega, fun i hi => by by_cases e : i = k; (· subst e; exact hro); (· exact ha i (by omega))⟩) (And.intro (by omega) (And.intro (And.intro (by exact ⟨rfl, rfl, rfl, ⟨⟩⟩) (by exact ⟨rfl, ⟨⟩⟩)) (And.intro (by exact And.intro (by exact rfl) (True.intro)) (by exact ⟨⟩)))))
                    · try simp only [q1, q2, q3, q4, q5, q6, q7, q8, q9] at hb36
                      have hdn := hb36
                      refine sw_skip ?_
                      refine sw_seq ?_
                      refine sw_of (l := [(1, RV.ptr 1 0), (3, RV.sv false [PV.val _]), (4, RV.sv false [PV.val _]), (5, RV.sv false [PV.val _]), (6, RV.sv false [PV.sl _ _])]) (b := [(1, (37, [PV.val _, PV.val _, PV.sl _ _, PV.sl _ _, PV.sl _ _, PV.sl _ _, PV.sl _ _, PV.sl _ _, PV.sl _ _, PV.sl _ _, PV.sl _ _]))]) (by exact ⟨rfl, rfl, rfl, rfl, rfl, ⟨⟩⟩) (by exact ⟨rfl, ⟨⟩⟩) ?_
                      refine sw_reg ?_
                      refine RunS.s1 (x := loc_field (by decide) fd_37_7) (y := ?_)
                      refine RunS.s1 (x := loc_load (qs := [PV.sl .v _]) (by decide) ty_35 (fun _ => rfl) (by exact Nat.le_of_ble_eq_true rfl) (by exact (ToL.cons PV.to_none ToL.nil)) (by exact (BorL.cons (PV.bor_sl _) BorL.nil))) (y := ?_)
                      refine RunS.s1 (x := loc_copy (.inl rfl) (by decide) (by exact Cp.sc)) (y := ?_)
                      refine RunS.s1 (x := loc_index (by decide) sl_35 (by exact ⟨⟩) (by exact rfl) (by exact getm2 (by omega) (by rw [rowsN (by omega)])) (by exact rfl)) (y := ?_)
                      refine RunS.s1 (x := loc_eload (qs := [PV.sl .v _]) (by decide) ty_53 (fun _ => rfl) (by exact Nat.le_of_ble_eq_true rfl) (by exact (ToL.cons PV.to_none ToL.nil)) (by exact (BorL.cons (PV.bor_sl _) BorL.nil))) (y := ?_)
                      refine RunS.s1 (x := loc_copy (r' := RV.sv false [PV.sl .v _]) (.inl rfl) (by decide) (by exact Cp.sv (ToL.cons PV.to_none ToL.nil) (BorL.cons (PV.bor_sl _) BorL.nil))) (y := ?_)
                      refine RunS.s1 (x := loc_call (qs := [(false, [PV.sl _ _]), (false, [PV.sl _ _])]) (as_ := [(false, [PV.sl .v _]), (false, [PV.sl .v _])]) (by decide) c_22 (by exact (And.intro (by exact ⟨⟩) (And.intro (by exact ⟨⟩) True.intro))) (by exact (And.intro (And.intro rfl (ToL.cons PV.to_none ToL.nil)) (And.intro (And.intro rfl (ToL.cons PV.to_none ToL.nil)) True.intro))) (by exact (by first | exact spec_EqualRows | exact @spec_EqualRows _ .v _ []))) (y := ?_)
                      refine RunS.s1 (x := loc_not (by decide)) (y := ?_)
                      refine sw_cond (t := 121) rfl (fun hb38 => ?_) (fun hb38 => ?_)
                      · try simp only [q1, q2, q3, q4, q5, q6, q7, q8, q9] at hb38
                        have hro : rowOk c (k : Int) = false := by simp_all [rowOk]
                        have hbad : isCl c = false := isCl_row hlt2 hro
                        refine sw_seq ?_
                        refine sw_of (l := [(1, RV.ptr 1 0), (3, RV.sv false [PV.val _]), (4, RV.sv false [PV.val _]), (5, RV.sv false [PV.val _]), (6, RV.sv false [PV.sl _ _])]) (b := [(1, (37, [PV.val _, PV.val _, PV.sl _ _, PV.sl _ _, PV.sl _ _, PV.sl _ _, PV.sl _ _, PV.sl _ _, PV.sl _ _, PV.sl _ _, PV.sl _ _]))]) (by exact ⟨rfl, rfl, rfl, rfl, rfl, ⟨⟩⟩) (by exact ⟨rfl, ⟨⟩⟩) ?_
                        refine sw_reg ?_
                        refine RunS.s1 (x := loc_const (.inr rfl) (by decide) (ok_sc rfl)) (y := ?_)
                        refine sw_ret ?_
                        exact (And.intro (by refine bool_eq ?_; exact hbad.symm) True.intro)
                      · try simp only [q1, q2, q3, q4, q5, q6, q7, q8, q9] at hb38
                        have hro : rowOk c (k : Int) = true := by simp_all [rowOk]
                        refine sw_skip ?_
                        refine sw_of (l := [(1, RV.ptr 1 0), (3, RV.sv false [PV.val _]), (4, RV.sv false [PV.val _]), (5, RV.sv false [PV.val _]), (6, RV.sv false [PV.sl _ _])]) (b := [(1, (37, [PV.val _, PV.val _, PV.sl _ _, PV.sl _ _, PV.sl _ _, PV.sl _ _, PV.sl _ _, PV.sl _ _, PV.sl _ _, PV.sl _ _, PV.sl _ _]))]) (by exact ⟨rfl, rfl, rfl, rfl, rfl, ⟨⟩⟩) (by exact ⟨rfl, ⟨⟩⟩) ?_
                        refine sw_reg ?_
                        refine RunS.s1 (x := loc_copy (.inl rfl) (by decide) (by exact Cp.sc)) (y := ?_)
                        refine RunS.s1 (x := loc_add (by decide) (by exact ⟨⟩) (ok_sc rfl) (by unfold I64; omega)) (y := ?_)
                        refine RunS.s1 (x := loc_copy (.inr rfl) (by decide) (by exact Cp.sc)) (y := ?_)
                        refine Exists.intro (k + 1) (And.intro (by exact ⟨by omega, fun i hi => by by_cases e : i = k; (· subst e; exact hro); (· exact ha i (by omega))⟩) (And.intro (by omega) (And.intro (And.intro (by exact ⟨rfl, rfl, rfl, ⟨⟩⟩) (by exact ⟨rfl, ⟨⟩⟩)) (And.intro (by exact And.intro (by exact rfl) (True.intro)) (by exact ⟨⟩)))))
                  · try simp only [q1, q2, q3, q4, q5, q6, q7, q8, q9] at hb35
                    have hrows : ∀ i : Nat, i < c.Parts.length → rowOk c (i : Int) = true := fun i hi => ha i (by omega)
                    refine sw_exit ?_
                    refine sw_seq ?_
                    refine sw_seq ?_
                    refine sw_of (l := [(1, RV.ptr 1 0), (3, RV.sv false [PV.val _]), (4, RV.sv false [PV.val _]), (5, RV.sv false [PV.val _])]) (b := [(1, (37, [PV.val _, PV.val _, PV.sl _ _, PV.sl _ _, PV.sl _ _, PV.sl _ _, PV.sl _ _, PV.sl _ _, PV.sl _ _, PV.sl _ _, PV.sl _ _]))]) (by exact ⟨rfl, rfl, rfl, rfl, ⟨⟩⟩) (by exact ⟨rfl, ⟨⟩⟩) ?_
                    refine sw_reg ?_
                    refine RunS.s1 (x := loc_const (.inr rfl) (by decide) (ok_sc rfl)) (y := ?_)
                    refine sw_block ?_
                    refine sw_of (l := [(1, RV.ptr 1 0), (3, RV.sv false [PV.val _]), (4, RV.sv false [PV.val _]), (5, RV.sv false [PV.val _]), (7, RV.sv false [PV.val _])]) (b := [(1, (37, [PV.val _, PV.val _, PV.sl _ _, PV.sl _ _, PV.sl _ _, PV.sl _ _, PV.sl _ _, PV.sl _ _, PV.sl _ _, PV.sl _ _, PV.sl _ _]))]) (by exact ⟨rfl, rfl, rfl, rfl, rfl, ⟨⟩⟩) (by exact ⟨rfl, ⟨⟩⟩) ?_
                    refine sw_loop (l0 := [(1, RV.ptr 1 0), (3, RV.sv false [PV.val _]), (4, RV.sv false [PV.val _]), (5, RV.sv false [PV.val _])]) (b0 := [(1, (37, [PV.val _, PV.val _, PV.sl _ _, PV.sl _ _, PV.sl _ _, PV.sl _ _, PV.sl _ _, PV.sl _ _, PV.sl _ _, PV.sl _ _, PV.sl _ _]))]) (fun k : Nat => k ≤ c.Up.length ∧ (∀ i : Nat, i < k → nodeI c (i : Int) = true)) (fun k : Nat => [(7, RV.int (k : Int))]) (fun k : Nat => []) (fun k : Nat => c.Up.length - k) 0 (by exact ⟨by omega, fun i hi => absurd hi (Nat.not_lt_zero _)⟩) (by exact ⟨rfl, rfl, rfl, rfl, ⟨⟩⟩) (by exact ⟨rfl, ⟨⟩⟩) (by exact And.intro (by exact rfl) (True.intro)) (by exact ⟨⟩) ?_
                    rintro k ⟨hk, ha⟩
                    refine sw_seq ?_
                    refine sw_seq ?_
                    refine sw_reg ?_
                    refine RunS.s1 (x := loc_copy (.inl rfl) (by decide) (by exact Cp.sc)) (y := ?_)
                    refine RunS.s1 (x := loc_copy (.inl rfl) (by decide) (by exact Cp.sc)) (y := ?_)
                    refine RunS.s1 (x := loc_lss (by decide) (by exact ⟨⟩) (by exact ⟨⟩)) (y := ?_)
                    refine sw_cond (t := 124) rfl (fun hb39 => ?_) (fun hb39 => ?_)
                    · try simp only [q1, q2, q3, q4, q5, q6, q7, q8, q9] at hb39
                      have hlt : k < c.Up.length := by omega
                      refine sw_skip ?_
                      refine sw_seq ?_
                      refine sw_block ?_
                      refine sw_seq ?_
                      refine sw_seq ?_
                      refine sw_of (l := [(1, RV.ptr 1 0), (3, RV.sv false [PV.val _]), (4, RV.sv false [PV.val _]), (5, RV.sv false [PV.val _]), (7, RV.sv false [PV.val _])]) (b := [(1, (37, [PV.val _, PV.val _, PV.sl _ _, PV.sl _ _, PV.sl _ _, PV.sl _ _, PV.sl _ _, PV.sl _ _, PV.sl _ _, PV.sl _ _, PV.sl _ _]))]) (by exact ⟨rfl, rfl, rfl, rfl, rfl, ⟨⟩⟩) (by exact ⟨rfl, ⟨⟩⟩) ?_
                      refine sw_reg ?_
                      refine RunS.s1 (x := loc_load (qs := [PV.val _, PV.val _, PV.sl .v _, PV.sl .v _, PV.sl .v _, PV.sl .v _, PV.sl .v _, PV.sl .v _, PV.sl .v _, PV.sl .v _, PV.sl .v _]) (by decide) ty_37 (fun h => nomatch h) (by exact Nat.le_of_ble_eq_true rfl) (by exact (ToL.cons (PV.To.refl _) (ToL.cons (PV.To.refl _) (ToL.cons PV.to_none (ToL.cons PV.to_none (ToL.cons PV.to_none (ToL.cons PV.to_none (ToL.cons PV.to_none (ToL.cons PV.to_none (ToL.cons PV.to_none (ToL.cons PV.to_none (ToL.cons PV.to_none ToL.nil)))))))))))) (by exact (BorL.cons (PV.bor_val _) (BorL.cons (PV.bor_val _) (BorL.cons (PV.bor_sl _) (BorL.cons (PV.bor_sl _) (BorL.cons (PV.bor_sl _) (BorL.cons (PV.bor_sl _) (BorL.cons (PV.bor_sl _) (BorL.cons (PV.bor_sl _) (BorL.cons (PV.bor_sl _) (BorL.cons (PV.bor_sl _) (BorL.cons (PV.bor_sl _) BorL.nil))))))))))))) (y := ?_)
                      refine RunS.s1 (x := loc_copy (.inl rfl) (by decide) (by exact Cp.sc)) (y := ?_)
                      refine RunS.s1 (x := loc_call (qs := [(true, [PV.val _, PV.val _, PV.sl _ _, PV.sl _ _, PV.sl _ _, PV.sl _ _, PV.sl _ _, PV.sl _ _, PV.sl _ _, PV.sl _ _, PV.sl _ _]), (false, [PV.val _])]) (as_ := [(true, [PV.val _, PV.val _, PV.sl .v _, PV.sl .v _, PV.sl .v _, PV.sl .v _, PV.sl .v _, PV.sl .v _, PV.sl .v _, PV.sl .v _, PV.sl .v _]), (false, [PV.val _])]) (by decide) c_130 (by exact (And.intro (by exact ⟨⟩) (And.intro (by exact ⟨⟩) True.intro))) (by exact (And.intro (And.intro rfl (ToL.cons (PV.To.refl _) (ToL.cons (PV.To.refl _) (ToL.cons PV.to_none (ToL.cons PV.to_none (ToL.cons PV.to_none (ToL.cons PV.to_none (ToL.cons PV.to_none (ToL.cons PV.to_none (ToL.cons PV.to_none (ToL.cons PV.to_none (ToL.cons PV.to_none ToL.nil)))))))))))) (And.intro (And.intro rfl (ToL.cons (PV.To.refl _) ToL.nil)) True.intro))) (by exact spec_l18Node (by omega) (by omega) (by omega))) (y := ?_)
                      refine RunS.s1 (x := loc_not (by decide)) (y := ?_)
                      refine sw_cond (t := 130) rfl (fun hb40 => ?_) (fun hb40 => ?_)
                      · try simp only [q1, q2, q3, q4, q5, q6, q7, q8, q9] at hb40
                        have hbad : isCl c = false := isCl_node hlt (by unfold nodeI; simp_all)
                        refine sw_seq ?_
                        refine sw_of (l := [(1, RV.ptr 1 0), (3, RV.sv false [PV.val _]), (4, RV.sv false [PV.val _]), (5, RV.sv false [PV.val _]), (7, RV.sv false [PV.val _])]) (b := [(1, (37, [PV.val _, PV.val _, PV.sl _ _, PV.sl _ _, PV.sl _ _, PV.sl _ _, PV.sl _ _, PV.sl _ _, PV.sl _ _, PV.sl _ _, PV.sl _ _]))]) (by exact ⟨rfl, rfl, rfl, rfl, rfl, ⟨⟩⟩) (by exact ⟨rfl, ⟨⟩⟩) ?_
                        refine sw_reg ?_
                        refine RunS.s1 (x := loc_const (.inr rfl) (by decide) (ok_sc rfl)) (y := ?_)
                        refine sw_ret ?_
                        exact (And.intro (by refine bool_eq ?_; exact hbad.symm) True.intro)
                      · try simp only [q1, q2, q3, q4, q5, q6, q7, q8, q9] at hb40
                        have hnb := hb40
                        refine sw_skip ?_
                        refine sw_seq ?_
                        refine sw_of (l := [(1, RV.ptr 1 0), (3, RV.sv false [PV.val _]), (4, RV.sv false [PV.val _]), (5, RV.sv false [PV.val _]), (7, RV.sv false [PV.val _])]) (b := [(1, (37, [PV.val _, PV.val _, PV.sl _ _, PV.sl _ _, PV.sl _ _, PV.sl _ _, PV.sl _ _, PV.sl _ _, PV.sl _ _, PV.sl _ _, PV.sl _ _]))]) (by exact ⟨rfl, rfl, rfl, rfl, rfl, ⟨⟩⟩) (by exact ⟨rfl, ⟨⟩⟩) ?_
                        refine sw_reg ?_
                        refine RunS.s1 (x := loc_const (.inr rfl) (by decide) (ok_sc rfl)) (y := ?_)
                        refine sw_block ?_
                        refine sw_of (l := [(1, RV.ptr 1 0), (3, RV.sv false [PV.val _]), (4, RV.sv false [PV.val _]), (5, RV.sv false [PV.val _]), (7, RV.sv false [PV.val _]), (8, RV.sv false [PV.val _])]) (b := [(1, (37, [PV.val _, PV.val _, PV.sl _ _, PV.sl _ _, PV.sl _ _, PV.sl _ _, PV.sl _ _, PV.sl _ _, PV.sl _ _, PV.sl _ _, PV.sl _ _]))]) (by exact ⟨rfl, rfl, rfl, rfl, rfl, rfl, ⟨⟩⟩) (by exact ⟨rfl, ⟨⟩⟩) ?_
                        refine sw_loop (l0 := [(1, RV.ptr 1 0), (3, RV.sv false [PV.val _]), (4, RV.sv false [PV.val _]), (5, RV.sv false [PV.val _]), (7, RV.sv false [PV.val _])]) (b0 := [(1, (37, [PV.val _, PV.val _, PV.sl _ _, PV.sl _ _, PV.sl _ _, PV.sl _ _, PV.sl _ _, PV.sl _ _, PV.sl _ _, PV.sl _ _, PV.sl _ _]))]) (fun j : Nat => j ≤ k ∧ (∀ i : Nat, i < j → ¬ (atI c.At (k : Int) ≠ -1 ∧ atI c.At (k : Int) = atI c.At (i : Int)))) (fun j : Nat => [(8, RV.int (j : Int))]) (fun j : Nat => []) (fun j : Nat => k - j) 0 (by exact ⟨by omega, fun i hi => absurd hi (Nat.not_lt_zero _)⟩) (by exact ⟨rfl, rfl, rfl, rfl, rfl, ⟨⟩⟩) (by exact ⟨rfl, ⟨⟩⟩) (by exact And.intro (by exact rfl) (True.intro)) (by exact ⟨⟩) ?_
                        rintro j ⟨hj, haj⟩
                        refine sw_seq ?_
                        refine sw_seq ?_
                        refine sw_reg ?_
                        refine RunS.s1 (x := loc_copy (.inl rfl) (by decide) (by exact Cp.sc)) (y := ?_)
                        refine RunS.s1 (x := loc_copy (.inl rfl) (by decide) (by exact Cp.sc)) (y := ?_)
                        refine RunS.s1 (x := loc_lss (by decide) (by exact ⟨⟩) (by exact ⟨⟩)) (y := ?_)
                        refine sw_cond (t := 133) rfl (fun hb41 => ?_) (fun hb41 => ?_)
                        · try simp only [q1, q2, q3, q4, q5, q6, q7, q8, q9] at hb41
                          have hltj : j < k := by omega
                          refine sw_skip ?_
                          refine sw_seq ?_
                          refine sw_block ?_
                          refine sw_seq ?_
                          refine sw_of (l := [(1, RV.ptr 1 0), (3, RV.sv false [PV.val _]), (4, RV.sv false [PV.val _]), (5, RV.sv false [PV.val _]), (7, RV.sv false [PV.val _]), (8, RV.sv false [PV.val _])]) (b := [(1, (37, [PV.val _, PV.val _, PV.sl _ _, PV.sl _ _, PV.sl _ _, PV.sl _ _, PV.sl _ _, PV.sl _ _, PV.sl _ _, PV.sl _ _, PV.sl _ _]))]) (by exact ⟨rfl, rfl, rfl, rfl, rfl, rfl, ⟨⟩⟩) (by exact ⟨rfl, ⟨⟩⟩) ?_
                          refine sw_draw hm_ ?_
                          refine Run.step 0 (by exact ⟨rfl, ⟨⟩⟩) (by exact ⟨⟩) (LocG.of rfl (loc_field (by decide) fd_37_3)) nofree (by kernel_rfl) ?_
                          refine Run.step 1 (by exact ⟨rfl, ⟨⟩⟩) (by exact ⟨rfl, ⟨⟩⟩) (LocG.of rfl (loc_load (qs := [PV.sl .v _]) (by decide) ty_23 (fun _ => rfl) (by exact Nat.le_of_ble_eq_true rfl) (by exact (ToL.cons PV.to_none ToL.nil)) (by exact (BorL.cons (PV.bor_sl _) BorL.nil)))) nofree (by kernel_rfl) ?_
                          refine Run.step 0 (by exact ⟨rfl, ⟨⟩⟩) (by exact ⟨⟩) (LocG.of rfl (loc_copy (.inl rfl) (by decide) (by exact Cp.sc))) nofree (by kernel_rfl) ?_
                          refine Run.step 7 (by exact ⟨rfl, rfl, ⟨⟩⟩) (by exact ⟨⟩) (LocG.of rfl (loc_index (by decide) sl_23 (by exact ⟨⟩) (by exact rfl) (by exact getm2 (by omega) (by rw [atN (by omega)])) (by exact rfl))) nofree (by kernel_rfl) ?_
                          refine Run.step 15 (by exact ⟨rfl, ⟨⟩⟩) (by exact ⟨⟩) (LocG.of rfl (loc_eload (qs := [PV.val _]) (by decide) ty_3 (fun _ => rfl) (by exact Nat.le_of_ble_eq_true rfl) (by exact (ToL.cons (PV.To.refl _) ToL.nil)) (by exact (BorL.cons (PV.bor_val _) BorL.nil)))) nofree (by kernel_rfl) ?_
                          refine Run.step 31 (by exact ⟨rfl, ⟨⟩⟩) (by exact ⟨⟩) (LocG.of rfl (loc_neq (by decide) (by exact ⟨⟩) (ok_sc rfl))) nofree (by kernel_rfl) ?_
                          refine Run.step 63 (by exact ⟨rfl, ⟨⟩⟩) (by exact ⟨⟩) (LocG.of rfl (loc_copy (.inl rfl) (by decide) (by exact Cp.sc))) nofree (by kernel_rfl) ?_
                          refine Run.cases (s := 142) rfl (fun g42 => ?_) (fun g42 => ?_)
                          · have sg42 := g42
                            try simp only [q1, q2, q3, q4, q5, q6, q7, q8, q9] at sg42
                            refine Run.step 127 (by exact ⟨rfl, rfl, ⟨⟩⟩) (by exact ⟨⟩) (LocG.yes rfl rfl (by decide) g42 (loc_field (by decide) fd_37_3)) nofree (by kernel_rfl) ?_
                            refine Run.step 255 (by exact ⟨rfl, rfl, ⟨⟩⟩) (by exact ⟨rfl, ⟨⟩⟩) (LocG.yes rfl rfl (by decide) g42 (loc_load (qs := [PV.sl .v _]) (by decide) ty_23 (fun _ => rfl) (by exact Nat.le_of_ble_eq_true rfl) (by exact (ToL.cons PV.to_none ToL.nil)) (by exact (BorL.cons (PV.bor_sl _) BorL.nil)))) nofree (by kernel_rfl) ?_
                            refine Run.step 127 (by exact ⟨rfl, rfl, ⟨⟩⟩) (by exact ⟨⟩) (LocG.yes rfl rfl (by decide) g42 (loc_copy (.inl rfl) (by decide) (by exact Cp.sc))) nofree (by kernel_rfl) ?_
                            refine Run.step 1023 (by exact ⟨rfl, rfl, rfl, ⟨⟩⟩) (by exact ⟨⟩) (LocG.yes rfl rfl (by decide) g42 (loc_index (by decide) sl_23 (by exact ⟨⟩) (by exact rfl) (by exact getm2 (by omega) (by rw [atN (by omega)])) (by exact rfl))) nofree (by kernel_rfl) ?_
                            refine Run.step 2047 (by exact ⟨rfl, rfl, ⟨⟩⟩) (by exact ⟨⟩) (LocG.yes rfl rfl (by decide) g42 (loc_eload (qs := [PV.val _]) (by decide) ty_3 (fun _ => rfl) (by exact Nat.le_of_ble_eq_true rfl) (by exact (ToL.cons (PV.To.refl _) ToL.nil)) (by exact (BorL.cons (PV.bor_val _) BorL.nil)))) nofree (by kernel_rfl) ?_
                            refine Run.step 127 (by exact ⟨rfl, rfl, ⟨⟩⟩) (by exact ⟨⟩) (LocG.yes rfl rfl (by decide) g42 (loc_field (by decide) fd_37_3)) nofree (by kernel_rfl) ?_
                            refine Run.step 4223 (by exact ⟨rfl, rfl, ⟨⟩⟩) (by exact ⟨rfl, ⟨⟩⟩) (LocG.yes rfl rfl (by decide) g42 (loc_load (qs := [PV.sl .v _]) (by decide) ty_23 (fun _ => rfl) (by exact Nat.le_of_ble_eq_true rfl) (by exact (ToL.cons PV.to_none ToL.nil)) (by exact (BorL.cons (PV.bor_sl _) BorL.nil)))) nofree (by kernel_rfl) ?_
                            refine Run.step 127 (by exact ⟨rfl, rfl, ⟨⟩⟩) (by exact ⟨⟩) (LocG.yes rfl rfl (by decide) g42 (loc_copy (.inl rfl) (by decide) (by exact Cp.sc))) nofree (by kernel_rfl) ?_
                            refine Run.step 28799 (by exact ⟨rfl, rfl, rfl, ⟨⟩⟩) (by exact ⟨⟩) (LocG.yes rfl rfl (by decide) g42 (loc_index (by decide) sl_23 (by exact ⟨⟩) (by exact rfl) (by exact getm2 (by omega) (by rw [atN (by omega)])) (by exact rfl))) nofree (by kernel_rfl) ?_
                            refine Run.step 61567 (by exact ⟨rfl, rfl, ⟨⟩⟩) (by exact ⟨⟩) (LocG.yes rfl rfl (by decide) g42 (loc_eload (qs := [PV.val _]) (by decide) ty_3 (fun _ => rfl) (by exact Nat.le_of_ble_eq_true rfl) (by exact (ToL.cons (PV.To.refl _) ToL.nil)) (by exact (BorL.cons (PV.bor_val _) BorL.nil)))) nofree (by kernel_rfl) ?_
                            refine Run.step 131071 (by exact ⟨rfl, rfl, rfl, ⟨⟩⟩) (by exact ⟨⟩) (LocG.yes rfl rfl (by decide) g42 (loc_eql (by decide) (by exact ⟨⟩) (by exact ⟨⟩))) nofree (by kernel_rfl) ?_
                            refine Run.step 262143 (by exact ⟨rfl, rfl, ⟨⟩⟩) (by exact ⟨⟩) (LocG.of rfl (loc_pick (z := .tmp 153) (by decide) (by rw [g42]; rfl) (by exact ⟨⟩) (by exact ⟨⟩) (by exact Cp.sc))) nofree (by kernel_rfl) ?_
                            refine sw_cond (t := 154) rfl (fun hb43 => ?_) (fun hb43 => ?_)
                            · try simp only [q1, q2, q3, q4, q5, q6, q7, q8, q9] at hb43
                              have hbad : isCl c = false := isCl_node hlt (lone_no hltj (by omega) (by first | assumption | (simp_all; done)) (by first | assumption | (simp_all; done)))
                              refine sw_seq ?_
                              refine sw_of (l := [(1, RV.ptr 1 0), (3, RV.sv false [PV.val _]), (4, RV.sv false [PV.val _]), (5, RV.sv false [PV.val _]), (7, RV.sv false [PV.val _]), (8, RV.sv false [PV.val _])]) (b := [(1, (37, [PV.val _, PV.val _, PV.sl _ _, PV.sl _ _, PV.sl _ _, PV.sl _ _, PV.sl _ _, PV.sl _ _, PV.sl _ _, PV.sl _ _, PV.sl _ _]))]) (by exact ⟨rfl, rfl, rfl, rfl, rfl, rfl, ⟨⟩⟩) (by exact ⟨rfl, ⟨⟩⟩) ?_
                              refine sw_reg ?_
                              refine RunS.s1 (x := loc_const (.inr rfl) (by decide) (ok_sc rfl)) (y := ?_)
                              refine sw_ret ?_
                              exact (And.intro (by refine bool_eq ?_; exact hbad.symm) True.intro)
                            · try simp only [q1, q2, q3, q4, q5, q6, q7, q8, q9] at hb43
                              have hne : ¬ (atI c.At (k : Int) ≠ -1 ∧ atI c.At (k : Int) = atI c.At (j : Int)) := by simp_all
                              refine sw_skip ?_
                              refine sw_of (l := [(1, RV.ptr 1 0), (3, RV.sv false [PV.val _]), (4, RV.sv false [PV.val _]), (5, RV.sv false [PV.val _]), (7, RV.sv false [PV.val _]), (8, RV.sv false [PV.val _])]) (b := [(1, (37, [PV.val _, PV.val _, PV.sl _ _, PV.sl _ _, PV.sl _ _, PV.sl _ _, PV.sl _ _, PV.sl _ _, PV.sl _ _, PV.sl _ _, PV.sl _ _]))]) (by exact ⟨rfl, rfl, rfl, rfl, rfl, rfl, ⟨⟩⟩) (by exact ⟨rfl, ⟨⟩⟩) ?_
                              refine sw_reg ?_
                              refine RunS.s1 (x := loc_copy (.inl rfl) (by decide) (by exact Cp.sc)) (y := ?_)
                              refine RunS.s1 (x := loc_add (by decide) (by exact ⟨⟩) (ok_sc rfl) (by unfold I64; omega)) (y := ?_)
                              refine RunS.s1 (x := loc_copy (.inr rfl) (by decide) (by exact Cp.sc)) (y := ?_)
                              refine Exists.intro (j + 1) (And.intro (by exact ⟨by omega, fun i hi => by by_cases e : i = j; (· subst e; exact hne); (· exact haj i (by omega))⟩) (And.intro (by omega) (And.intro (And.intro (by exact ⟨rfl, rfl, rfl, rfl, rfl, ⟨⟩⟩) (by exact ⟨rfl, ⟨⟩⟩)) (And.intro (by exact And.intro (by exact rfl) (True.intro)) (by exact ⟨⟩)))))
                          · have sg42 := g42
                            try simp only [q1, q2, q3, q4, q5, q6, q7, q8, q9] at sg42
                            refine Run.step 127 (by exact ⟨rfl, ⟨⟩⟩) (by exact ⟨⟩) (LocG.no (ops := _) rfl rfl (by decide) g42 rfl) nofree (by kernel_rfl) ?_
                            refine Run.step 255 (by exact ⟨rfl, ⟨⟩⟩) (by exact ⟨⟩) (LocG.no (ops := _) rfl rfl (by decide) g42 rfl) nofree (by kernel_rfl) ?_
                            refine Run.step 127 (by exact ⟨rfl, ⟨⟩⟩) (by exact ⟨⟩) (LocG.no (ops := _) rfl rfl (by decide) g42 rfl) nofree (by kernel_rfl) ?_
                            refine Run.step 1023 (by exact ⟨rfl, ⟨⟩⟩) (by exact ⟨⟩) (LocG.no (ops := _) rfl rfl (by decide) g42 rfl) nofree (by kernel_rfl) ?_
                            refine Run.step 2047 (by exact ⟨rfl, ⟨⟩⟩) (by exact ⟨⟩) (LocG.no (ops := _) rfl rfl (by decide) g42 rfl) nofree (by kernel_rfl) ?_
                            refine Run.step 127 (by exact ⟨rfl, ⟨⟩⟩) (by exact ⟨⟩) (LocG.no (ops := _) rfl rfl (by decide) g42 rfl) nofree (by kernel_rfl) ?_
                            refine Run.step 4223 (by exact ⟨rfl, ⟨⟩⟩) (by exact ⟨⟩) (LocG.no (ops := _) rfl rfl (by decide) g42 rfl) nofree (by kernel_rfl) ?_
                            refine Run.step 127 (by exact ⟨rfl, ⟨⟩⟩) (by exact ⟨⟩) (LocG.no (ops := _) rfl rfl (by decide) g42 rfl) nofree (by kernel_rfl) ?_
                            refine Run.step 28799 (by exact ⟨rfl, ⟨⟩⟩) (by exact ⟨⟩) (LocG.no (ops := _) rfl rfl (by decide) g42 rfl) nofree (by kernel_rfl) ?_
                            refine Run.step 61567 (by exact ⟨rfl, ⟨⟩⟩) (by exact ⟨⟩) (LocG.no (ops := _) rfl rfl (by decide) g42 rfl) nofree (by kernel_rfl) ?_
                            refine Run.step 131071 (by exact ⟨rfl, ⟨⟩⟩) (by exact ⟨⟩) (LocG.no (ops := _) rfl rfl (by decide) g42 rfl) nofree (by kernel_rfl) ?_
                            refine Run.step 262143 (by exact ⟨rfl, ⟨⟩⟩) (by exact ⟨⟩) (LocG.of rfl (loc_pick (z := .const (.bool false)) (by decide) (by rw [g42]; rfl) (by exact ⟨⟩) (ok_sc rfl) (by exact Cp.sc))) nofree (by kernel_rfl) ?_
                            refine sw_cond (t := 154) rfl (fun hb_ => nomatch hb_) (fun hb_ => ?_)
                            have hne : ¬ (atI c.At (k : Int) ≠ -1 ∧ atI c.At (k : Int) = atI c.At (j : Int)) := by simp_all
                            refine sw_skip ?_
                            refine sw_of (l := [(1, RV.ptr 1 0), (3, RV.sv false [PV.val _]), (4, RV.sv false [PV.val _]), (5, RV.sv false [PV.val _]), (7, RV.sv false [PV.val _]), (8, RV.sv false [PV.val _])]) (b := [(1, (37, [PV.val _, PV.val _, PV.sl _ _, PV.sl _ _, PV.sl _ _, PV.sl _ _, PV.sl _ _, PV.sl _ _, PV.sl _ _, PV.sl _ _, PV.sl _ _]))]) (by exact ⟨rfl, rfl, rfl, rfl, rfl, rfl, ⟨⟩⟩) (by exact ⟨rfl, ⟨⟩⟩) ?_
                            refine sw_reg ?_
                            refine RunS.s1 (x := loc_copy (.inl rfl) (by decide) (by exact Cp.sc)) (y := ?_)
                            refine RunS.s1 (x := loc_add (by decide) (by exact ⟨⟩) (ok_sc rfl) (by unfold I64; omega)) (y := ?_)
                            refine RunS.s1 (x := loc_copy (.inr rfl) (by decide) (by exact Cp.sc)) (y := ?_)
                            refine Exists.intro (j + 1) (And.intro (by exact ⟨by omega, fun i hi => by by_cases e : i = j; (· subst e; exact hne); (· exact haj i (by omega))⟩) (And.intro (by omega) (And.intro (And.intro (by exact ⟨rfl, rfl, rfl, rfl, rfl, ⟨⟩⟩) (by exact ⟨rfl, ⟨⟩⟩)) (And.intro (by exact And.intro (by exact rfl) (True.intro)) (by exact ⟨⟩)))))
                        · try simp only [q1, q2, q3, q4, q5, q6, q7, q8, q9] at hb41
                          have hno : nodeI c (k : Int) = true := by unfold nodeI; rw [lone_yes (fun i hi => haj i (by omega))]; simp_all
                          refine sw_exit ?_
                          refine sw_of (l := [(1, RV.ptr 1 0), (3, RV.sv false [PV.val _]), (4, RV.sv false [PV.val _]), (5, RV.sv false [PV.val _]), (7, RV.sv false [PV.val _]), (8, RV.sv false [PV.val _])]) (b := [(1, (37, [PV.val _, PV.val _, PV.sl _ _, PV.sl _ _, PV.sl _ _, PV.sl _ _, PV.sl _ _, PV.sl _ _, PV.sl _ _, PV.sl _ _, PV.sl _ _]))]) (by exact ⟨rfl, rfl, rfl, rfl, rfl, rfl, ⟨⟩⟩) (by exact ⟨rfl, ⟨⟩⟩) ?_
                          refine sw_reg ?_
                          refine RunS.s1 (x := loc_copy (.inl rfl) (by decide) (by exact Cp.sc)) (y := ?_)
                          refine RunS.s1 (x := loc_add (by decide) (by exact ⟨⟩) (ok_sc rfl) (by unfold I64; omega)) (y := ?_)
                          refine RunS.s1 (x := loc_copy (.inr rfl) (by decide) (by exact Cp.sc)) (y := ?_)
                          refine Exists.intro (k + 1) (And.intro (by exact ⟨by omega, fun i hi => by by_cases e : i = k; (· subst e; exact hno); (· exact ha i (by omega))⟩) (And.intro (by omega) (And.intro (And.intro (by exact ⟨rfl, rfl, rfl, rfl, ⟨⟩⟩) (by exact ⟨rfl, ⟨⟩⟩)) (And.intro (by exact And.intro (by exact rfl) (True.intro)) (by exact ⟨⟩)))))
                    · try simp only [q1, q2, q3, q4, q5, q6, q7, q8, q9] at hb39
                      have hcl : isCl c = true := isCl_iff.2 ⟨hh, hdone, hrows, fun i hi => ha i (by omega)⟩
                      refine sw_exit ?_
                      refine sw_seq ?_
                      refine sw_of (l := [(1, RV.ptr 1 0), (3, RV.sv false [PV.val _]), (4, RV.sv false [PV.val _]), (5, RV.sv false [PV.val _]), (7, RV.sv false [PV.val _])]) (b := [(1, (37, [PV.val _, PV.val _, PV.sl _ _, PV.sl _ _, PV.sl _ _, PV.sl _ _, PV.sl _ _, PV.sl _ _, PV.sl _ _, PV.sl _ _, PV.sl _ _]))]) (by exact ⟨rfl, rfl, rfl, rfl, rfl, ⟨⟩⟩) (by exact ⟨rfl, ⟨⟩⟩) ?_
                      refine sw_reg ?_
                      refine RunS.s1 (x := loc_const (.inr rfl) (by decide) (ok_sc rfl)) (y := ?_)
                      refine sw_ret ?_
                      exact (And.intro (by refine bool_eq ?_; exact hcl.symm) True.intro)
end Go.Proofs.Ytgaaaoapnhambaa
