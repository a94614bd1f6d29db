/- What functions of the program compute. No condition. -/
import Derived.Test.YtgaaaoapnhambaaCProgNextSegment
set_option linter.unusedVariables false
set_option linter.unusedSimpArgs false
namespace Go.Proofs.Ytgaaaoapnhambaa
open Go Go.RowKit M
set_option maxRecDepth 10000
theorem impl_IsCond {x : Cond}  : SCall Try.prog 159 [(true, [PV.val (vI x.Field), PV.val (vI x.Low), PV.val (vI x.High)])] (resRV [(false, [PV.val (.bool (okCond x))])]) := by
  refine scall_of (rs := [(false, [PV.val (.bool (okCond x))])]) Try.func159 rfl (Nat.le_of_ble_eq_true rfl) (borA_cons (BorL.cons (PV.bor_val _) (BorL.cons (PV.bor_val _) (BorL.cons (PV.bor_val _) BorL.nil))) borA_nil) ?_
  intro h0 w0 Fz0
  refine sw_seq ?_
  refine sw_reg ?_
  refine RunS.step (by exact ⟨rfl, ⟨⟩⟩) (by exact ⟨⟩) (LocG.of rfl (loc_box (ag := true) (cs := [PV.val _, PV.val _, PV.val _]) (by decide) (by exact ⟨⟩))) (free1 (Free.of_ rfl)) ?_
  refine RunS.s1 (x := loc_const (.inr rfl) (by decide) (ok_sc rfl)) (y := ?_)
  refine sw_seq ?_
  refine sw_of (l := [(1, RV.ptr 1 0), (2, RV.sv false [PV.val _])]) (b := [(1, (73, [PV.val _, PV.val _, PV.val _]))]) (by exact ⟨rfl, rfl, ⟨⟩⟩) (by exact ⟨rfl, ⟨⟩⟩) ?_
  refine sw_reg ?_
  refine RunS.s1 (x := loc_field (by decide) fd_73_0) (y := ?_)
  refine RunS.s1 (x := loc_load (qs := [PV.val _]) (by decide) ty_3 (fun _ => rfl) (by exact Nat.le_of_ble_eq_true rfl) (by exact (ToL.cons (PV.To.refl _) ToL.nil)) (by exact (BorL.cons (PV.bor_val _) BorL.nil))) (y := ?_)
  refine RunS.s1 (x := loc_call (qs := [(false, [PV.val _])]) (as_ := [(false, [PV.val _])]) (by decide) c_138 (by exact (And.intro (by exact ⟨⟩) True.intro)) (by exact (And.intro (And.intro rfl (ToL.cons (PV.To.refl _) ToL.nil)) True.intro)) (by exact impl_isField)) (y := ?_)
  refine RunS.s1 (x := loc_copy (.inl rfl) (by decide) (by exact Cp.sc)) (y := ?_)
  refine RunS.cases (s := 6) rfl (fun g1 => ?_) (fun g1 => ?_)
  · have sg1 := g1
    try simp only [q1, q2, q3, q4, q5, q6, q7, q8, q9] at sg1
    refine RunS.s2 (hb := g1) (x := loc_field (by decide) fd_73_1) (y := ?_)
    refine RunS.s2 (hb := g1) (x := loc_load (qs := [PV.val _]) (by decide) ty_3 (fun _ => rfl) (by exact Nat.le_of_ble_eq_true rfl) (by exact (ToL.cons (PV.To.refl _) ToL.nil)) (by exact (BorL.cons (PV.bor_val _) BorL.nil))) (y := ?_)
    refine RunS.s2 (hb := g1) (x := loc_geq (by decide) (by exact ⟨⟩) (ok_sc rfl)) (y := ?_)
    refine RunS.s1 (x := loc_pick (z := .tmp 9) (by decide) (by rw [g1]; rfl) (by exact ⟨⟩) (by exact ⟨⟩) (by exact Cp.sc)) (y := ?_)
    refine RunS.s1 (x := loc_copy (.inl rfl) (by decide) (by exact Cp.sc)) (y := ?_)
    refine RunS.cases (s := 11) rfl (fun g2 => ?_) (fun g2 => ?_)
    · have sg2 := g2
      try simp only [q1, q2, q3, q4, q5, q6, q7, q8, q9] at sg2
      refine RunS.s2 (hb := g2) (x := loc_field (by decide) fd_73_1) (y := ?_)
      refine RunS.s2 (hb := g2) (x := loc_load (qs := [PV.val _]) (by decide) ty_3 (fun _ => rfl) (by exact Nat.le_of_ble_eq_true rfl) (by exact (ToL.cons (PV.To.refl _) ToL.nil)) (by exact (BorL.cons (PV.bor_val _) BorL.nil))) (y := ?_)
      refine RunS.s2 (hb := g2) (x := loc_field (by decide) fd_73_2) (y := ?_)
      refine RunS.s2 (hb := g2) (x := loc_load (qs := [PV.val _]) (by decide) ty_3 (fun _ => rfl) (by exact Nat.le_of_ble_eq_true rfl) (by exact (ToL.cons (PV.To.refl _) ToL.nil)) (by exact (BorL.cons (PV.bor_val _) BorL.nil))) (y := ?_)
      refine RunS.s2 (hb := g2) (x := loc_leq (by decide) (by exact ⟨⟩) (by exact ⟨⟩)) (y := ?_)
      refine RunS.s1 (x := loc_pick (z := .tmp 16) (by decide) (by rw [g2]; rfl) (by exact ⟨⟩) (by exact ⟨⟩) (by exact Cp.sc)) (y := ?_)
      refine RunS.s1 (x := loc_copy (.inl rfl) (by decide) (by exact Cp.sc)) (y := ?_)
      refine RunS.cases (s := 18) rfl (fun g3 => ?_) (fun g3 => ?_)
      · have sg3 := g3
        try simp only [q1, q2, q3, q4, q5, q6, q7, q8, q9] at sg3
        refine RunS.s2 (hb := g3) (x := loc_field (by decide) fd_73_2) (y := ?_)
        refine RunS.s2 (hb := g3) (x := loc_load (qs := [PV.val _]) (by decide) ty_3 (fun _ => rfl) (by exact Nat.le_of_ble_eq_true rfl) (by exact (ToL.cons (PV.To.refl _) ToL.nil)) (by exact (BorL.cons (PV.bor_val _) BorL.nil))) (y := ?_)
        refine RunS.s2 (hb := g3) (x := loc_leq (by decide) (by exact ⟨⟩) (ok_sc rfl)) (y := ?_)
        refine RunS.s1 (x := loc_pick (z := .tmp 21) (by decide) (by rw [g3]; rfl) (by exact ⟨⟩) (by exact ⟨⟩) (by exact Cp.sc)) (y := ?_)
        refine RunS.s1 (x := loc_copy (.inr rfl) (by decide) (by exact Cp.sc)) (y := ?_)
        refine sw_ret ?_
        exact (And.intro (by refine bool_eq ?_; first | (simp_all [okCond, inB]; done) | (simp_all [okCond, inB]; omega)) True.intro)
      · have sg3 := g3
        try simp only [q1, q2, q3, q4, q5, q6, q7, q8, q9] at sg3
        refine RunS.s0f g3 ?_
        refine RunS.s0f g3 ?_
        refine RunS.s0f g3 ?_
        refine RunS.s1 (x := loc_pick (z := .const (.bool false)) (by decide) (by rw [g3]; rfl) (by exact ⟨⟩) (ok_sc rfl) (by exact Cp.sc)) (y := ?_)
        refine RunS.s1 (x := loc_copy (.inr rfl) (by decide) (by exact Cp.sc)) (y := ?_)
        refine sw_ret ?_
        exact (And.intro (by refine bool_eq ?_; first | (simp_all [okCond, inB]; done) | (simp_all [okCond, inB]; omega)) True.intro)
    · have sg2 := g2
      try simp only [q1, q2, q3, q4, q5, q6, q7, q8, q9] at sg2
      refine RunS.s0f g2 ?_
      refine RunS.s0f g2 ?_
      refine RunS.s0f g2 ?_
      refine RunS.s0f g2 ?_
      refine RunS.s0f g2 ?_
      refine RunS.s1 (x := loc_pick (z := .const (.bool false)) (by decide) (by rw [g2]; rfl) (by exact ⟨⟩) (ok_sc rfl) (by exact Cp.sc)) (y := ?_)
      refine RunS.s1 (x := loc_copy (.inl rfl) (by decide) (by exact Cp.sc)) (y := ?_)
      refine RunS.cases (s := 18) rfl (fun g4 => nomatch g4) (fun g4 => ?_)
      refine RunS.s0f g4 ?_
      refine RunS.s0f g4 ?_
      refine RunS.s0f g4 ?_
      refine RunS.s1 (x := loc_pick (z := .const (.bool false)) (by decide) (by rw [g4]; rfl) (by exact ⟨⟩) (ok_sc rfl) (by exact Cp.sc)) (y := ?_)
      refine RunS.s1 (x := loc_copy (.inr rfl) (by decide) (by exact Cp.sc)) (y := ?_)
      refine sw_ret ?_
      exact (And.intro (by refine bool_eq ?_; first | (simp_all [okCond, inB]; done) | (simp_all [okCond, inB]; omega)) True.intro)
  · have sg1 := g1
    try simp only [q1, q2, q3, q4, q5, q6, q7, q8, q9] at sg1
    refine RunS.s0f g1 ?_
    refine RunS.s0f g1 ?_
    refine RunS.s0f g1 ?_
    refine RunS.s1 (x := loc_pick (z := .const (.bool false)) (by decide) (by rw [g1]; rfl) (by exact ⟨⟩) (ok_sc rfl) (by exact Cp.sc)) (y := ?_)
    refine RunS.s1 (x := loc_copy (.inl rfl) (by decide) (by exact Cp.sc)) (y := ?_)
    refine RunS.cases (s := 11) rfl (fun g5 => nomatch g5) (fun g5 => ?_)
    refine RunS.s0f g5 ?_
    refine RunS.s0f g5 ?_
    refine RunS.s0f g5 ?_
    refine RunS.s0f g5 ?_
    refine RunS.s0f g5 ?_
    refine RunS.s1 (x := loc_pick (z := .const (.bool false)) (by decide) (by rw [g5]; rfl) (by exact ⟨⟩) (ok_sc rfl) (by exact Cp.sc)) (y := ?_)
    refine RunS.s1 (x := loc_copy (.inl rfl) (by decide) (by exact Cp.sc)) (y := ?_)
    refine RunS.cases (s := 18) rfl (fun g6 => nomatch g6) (fun g6 => ?_)
    refine RunS.s0f g6 ?_
    refine RunS.s0f g6 ?_
    refine RunS.s0f g6 ?_
    refine RunS.s1 (x := loc_pick (z := .const (.bool false)) (by decide) (by rw [g6]; rfl) (by exact ⟨⟩) (ok_sc rfl) (by exact Cp.sc)) (y := ?_)
    refine RunS.s1 (x := loc_copy (.inr rfl) (by decide) (by exact Cp.sc)) (y := ?_)
    refine sw_ret ?_
    exact (And.intro (by refine bool_eq ?_; first | (simp_all [okCond, inB]; done) | (simp_all [okCond, inB]; omega)) True.intro)
theorem spec_IsCond {x : Cond}  : SCall Try.prog 183 [(true, [PV.val (vI x.Field), PV.val (vI x.Low), PV.val (vI x.High)])] (resRV [(false, [PV.val (.bool (okCond x))])]) := by
  refine scall_of (rs := [(false, [PV.val (.bool (okCond x))])]) Try.func183 rfl (Nat.le_of_ble_eq_true rfl) (borA_cons (BorL.cons (PV.bor_val _) (BorL.cons (PV.bor_val _) (BorL.cons (PV.bor_val _) BorL.nil))) borA_nil) ?_
  intro h0 w0 Fz0
  refine sw_seq ?_
  refine sw_reg ?_
  refine RunS.step (by exact ⟨rfl, ⟨⟩⟩) (by exact ⟨⟩) (LocG.of rfl (loc_box (ag := true) (cs := [PV.val _, PV.val _, PV.val _]) (by decide) (by exact ⟨⟩))) (free1 (Free.of_ rfl)) ?_
  refine RunS.s1 (x := loc_const (.inr rfl) (by decide) (ok_sc rfl)) (y := ?_)
  refine sw_seq ?_
  refine sw_of (l := [(1, RV.ptr 1 0), (2, RV.sv false [PV.val _])]) (b := [(1, (73, [PV.val _, PV.val _, PV.val _]))]) (by exact ⟨rfl, rfl, ⟨⟩⟩) (by exact ⟨rfl, ⟨⟩⟩) ?_
  refine sw_reg ?_
  refine RunS.s1 (x := loc_field (by decide) fd_73_0) (y := ?_)
  refine RunS.s1 (x := loc_load (qs := [PV.val _]) (by decide) ty_3 (fun _ => rfl) (by exact Nat.le_of_ble_eq_true rfl) (by exact (ToL.cons (PV.To.refl _) ToL.nil)) (by exact (BorL.cons (PV.bor_val _) BorL.nil))) (y := ?_)
  refine RunS.s1 (x := loc_call (qs := [(false, [PV.val _]), (false, [PV.val _]), (false, [PV.val _])]) (as_ := [(false, [PV.val _]), (false, [PV.val _]), (false, [PV.val _])]) (by decide) c_50 (by exact (And.intro (by exact ⟨⟩) (And.intro (ok_sc rfl) (And.intro (ok_sc rfl) True.intro)))) (by exact (And.intro (And.intro rfl (ToL.cons (PV.To.refl _) ToL.nil)) (And.intro (And.intro rfl (ToL.cons (PV.To.refl _) ToL.nil)) (And.intro (And.intro rfl (ToL.cons (PV.To.refl _) ToL.nil)) True.intro)))) (by exact spec_l1In)) (y := ?_)
  refine RunS.s1 (x := loc_copy (.inl rfl) (by decide) (by exact Cp.sc)) (y := ?_)
  refine RunS.cases (s := 6) rfl (fun g1 => ?_) (fun g1 => ?_)
  · have sg1 := g1
    try simp only [q1, q2, q3, q4, q5, q6, q7, q8, q9] at sg1
    refine RunS.s2 (hb := g1) (x := loc_field (by decide) fd_73_1) (y := ?_)
    refine RunS.s2 (hb := g1) (x := loc_load (qs := [PV.val _]) (by decide) ty_3 (fun _ => rfl) (by exact Nat.le_of_ble_eq_true rfl) (by exact (ToL.cons (PV.To.refl _) ToL.nil)) (by exact (BorL.cons (PV.bor_val _) BorL.nil))) (y := ?_)
    refine RunS.s2 (hb := g1) (x := loc_field (by decide) fd_73_2) (y := ?_)
    refine RunS.s2 (hb := g1) (x := loc_load (qs := [PV.val _]) (by decide) ty_3 (fun _ => rfl) (by exact Nat.le_of_ble_eq_true rfl) (by exact (ToL.cons (PV.To.refl _) ToL.nil)) (by exact (BorL.cons (PV.bor_val _) BorL.nil))) (y := ?_)
    refine RunS.s2 (hb := g1) (x := loc_call (qs := [(false, [PV.val _]), (false, [PV.val _]), (false, [PV.val _])]) (as_ := [(false, [PV.val _]), (false, [PV.val _]), (false, [PV.val _])]) (by decide) c_50 (by exact (And.intro (by exact ⟨⟩) (And.intro (ok_sc rfl) (And.intro (by exact ⟨⟩) True.intro)))) (by exact (And.intro (And.intro rfl (ToL.cons (PV.To.refl _) ToL.nil)) (And.intro (And.intro rfl (ToL.cons (PV.To.refl _) ToL.nil)) (And.intro (And.intro rfl (ToL.cons (PV.To.refl _) ToL.nil)) True.intro)))) (by exact spec_l1In)) (y := ?_)
    refine RunS.s1 (x := loc_pick (z := .tmp 11) (by decide) (by rw [g1]; rfl) (by exact ⟨⟩) (by exact ⟨⟩) (by exact Cp.sc)) (y := ?_)
    refine RunS.s1 (x := loc_copy (.inl rfl) (by decide) (by exact Cp.sc)) (y := ?_)
    refine RunS.cases (s := 13) rfl (fun g2 => ?_) (fun g2 => ?_)
    · have sg2 := g2
      try simp only [q1, q2, q3, q4, q5, q6, q7, q8, q9] at sg2
      refine RunS.s2 (hb := g2) (x := loc_field (by decide) fd_73_2) (y := ?_)
      refine RunS.s2 (hb := g2) (x := loc_load (qs := [PV.val _]) (by decide) ty_3 (fun _ => rfl) (by exact Nat.le_of_ble_eq_true rfl) (by exact (ToL.cons (PV.To.refl _) ToL.nil)) (by exact (BorL.cons (PV.bor_val _) BorL.nil))) (y := ?_)
      refine RunS.s2 (hb := g2) (x := loc_leq (by decide) (by exact ⟨⟩) (ok_sc rfl)) (y := ?_)
      refine RunS.s1 (x := loc_pick (z := .tmp 16) (by decide) (by rw [g2]; rfl) (by exact ⟨⟩) (by exact ⟨⟩) (by exact Cp.sc)) (y := ?_)
      refine RunS.s1 (x := loc_copy (.inr rfl) (by decide) (by exact Cp.sc)) (y := ?_)
      refine sw_ret ?_
      exact (And.intro (by refine bool_eq ?_; first | (simp_all [okCond, inB]; done) | (simp_all [okCond, inB]; omega)) True.intro)
    · have sg2 := g2
      try simp only [q1, q2, q3, q4, q5, q6, q7, q8, q9] at sg2
      refine RunS.s0f g2 ?_
      refine RunS.s0f g2 ?_
      refine RunS.s0f g2 ?_
      refine RunS.s1 (x := loc_pick (z := .const (.bool false)) (by decide) (by rw [g2]; rfl) (by exact ⟨⟩) (ok_sc rfl) (by exact Cp.sc)) (y := ?_)
      refine RunS.s1 (x := loc_copy (.inr rfl) (by decide) (by exact Cp.sc)) (y := ?_)
      refine sw_ret ?_
      exact (And.intro (by refine bool_eq ?_; first | (simp_all [okCond, inB]; done) | (simp_all [okCond, inB]; omega)) True.intro)
  · have sg1 := g1
    try simp only [q1, q2, q3, q4, q5, q6, q7, q8, q9] at sg1
    refine RunS.s0f g1 ?_
    refine RunS.s0f g1 ?_
    refine RunS.s0f g1 ?_
    refine RunS.s0f g1 ?_
    refine RunS.s0f g1 ?_
    refine RunS.s1 (x := loc_pick (z := .const (.bool false)) (by decide) (by rw [g1]; rfl) (by exact ⟨⟩) (ok_sc rfl) (by exact Cp.sc)) (y := ?_)
    refine RunS.s1 (x := loc_copy (.inl rfl) (by decide) (by exact Cp.sc)) (y := ?_)
    refine RunS.cases (s := 13) rfl (fun g3 => nomatch g3) (fun g3 => ?_)
    refine RunS.s0f g3 ?_
    refine RunS.s0f g3 ?_
    refine RunS.s0f g3 ?_
    refine RunS.s1 (x := loc_pick (z := .const (.bool false)) (by decide) (by rw [g3]; rfl) (by exact ⟨⟩) (ok_sc rfl) (by exact Cp.sc)) (y := ?_)
    refine RunS.s1 (x := loc_copy (.inr rfl) (by decide) (by exact Cp.sc)) (y := ?_)
    refine sw_ret ?_
    exact (And.intro (by refine bool_eq ?_; first | (simp_all [okCond, inB]; done) | (simp_all [okCond, inB]; omega)) True.intro)
theorem spec_l4Fields {x : List Int}  : SCall Try.prog 184 [(false, [PV.sl .v (x.map cInt)])] (resRV [(false, [PV.val (.bool (okFields x))])]) := by
  refine scall_of (rs := [(false, [PV.val (.bool (okFields x))])]) Try.func184 rfl (Nat.le_of_ble_eq_true rfl) (borA_cons (BorL.cons (PV.bor_sl _) BorL.nil) borA_nil) ?_
  intro h0 w0 Fz0
  refine sw_len (s := 0) rfl fun hl0 => ?_
  try rw [List.length_map] at hl0
  refine sw_seq ?_
  refine sw_reg ?_
  refine RunS.s1 (x := loc_const (.inr rfl) (by decide) (ok_sc rfl)) (y := ?_)
  refine sw_seq ?_
  refine sw_seq ?_
  refine sw_of (l := [(0, RV.sv false [PV.sl _ _]), (2, RV.sv false [PV.val _])]) (b := []) (by exact ⟨rfl, rfl, ⟨⟩⟩) (by exact ⟨⟩) ?_
  refine sw_reg ?_
  refine RunS.s1 (x := loc_const (.inr rfl) (by decide) (ok_sc rfl)) (y := ?_)
  refine sw_block ?_
  refine sw_of (l := [(0, RV.sv false [PV.sl _ _]), (2, RV.sv false [PV.val _]), (3, RV.sv false [PV.val _])]) (b := []) (by exact ⟨rfl, rfl, rfl, ⟨⟩⟩) (by exact ⟨⟩) ?_
  refine sw_loop (l0 := [(0, RV.sv false [PV.sl _ _])]) (b0 := []) (fun k : Nat => k ≤ x.length ∧ (x.take k).all okOut = true) (fun k : Nat => [(3, RV.int (k : Int))]) (fun k : Nat => []) (fun k : Nat => x.length - k) 0 (by exact ⟨by omega, by simp⟩) (by exact ⟨rfl, ⟨⟩⟩) (by exact ⟨⟩) (by exact And.intro (by exact rfl) (True.intro)) (by exact ⟨⟩) ?_
  rintro k ⟨hk, ha⟩
  refine sw_seq ?_
  refine sw_seq ?_
  refine sw_reg ?_
  refine RunS.s1 (x := loc_copy (.inl rfl) (by decide) (by exact Cp.sc)) (y := ?_)
  refine RunS.s1 (x := loc_copy (r' := RV.sv false [PV.sl .v _]) (.inl rfl) (by decide) (by exact Cp.sv (ToL.cons PV.to_none ToL.nil) (BorL.cons (PV.bor_sl _) BorL.nil))) (y := ?_)
  refine RunS.s1 (x := loc_len (by decide) sl_23 (by first | exact List.length_map _ | exact rfl)) (y := ?_)
  refine RunS.s1 (x := loc_lss (by decide) (by exact ⟨⟩) (by exact ⟨⟩)) (y := ?_)
  refine sw_cond (t := 7) rfl (fun hb1 => ?_) (fun hb1 => ?_)
  · try simp only [q1, q2, q3, q4, q5, q6, q7, q8, q9] at hb1
    have hlt : k < x.length := by omega
    refine sw_skip ?_
    refine sw_seq ?_
    refine sw_block ?_
    refine sw_seq ?_
    refine sw_of (l := [(0, RV.sv false [PV.sl _ _]), (3, RV.sv false [PV.val _])]) (b := []) (by exact ⟨rfl, rfl, ⟨⟩⟩) (by exact ⟨⟩) ?_
    refine sw_reg ?_
    refine RunS.s1 (x := loc_copy (r' := RV.sv false [PV.sl .v _]) (.inl rfl) (by decide) (by exact Cp.sv (ToL.cons PV.to_none ToL.nil) (BorL.cons (PV.bor_sl _) BorL.nil))) (y := ?_)
    refine RunS.s1 (x := loc_copy (.inl rfl) (by decide) (by exact Cp.sc)) (y := ?_)
    refine RunS.s1 (x := loc_index (by decide) sl_23 (by exact ⟨⟩) (by exact rfl) (by exact getm2 (by omega) rfl) (by exact rfl)) (y := ?_)
    refine RunS.s1 (x := loc_eload (qs := [PV.val _]) (by decide) ty_3 (fun _ => rfl) (by exact Nat.le_of_ble_eq_true rfl) (by exact (ToL.cons (PV.To.refl _) ToL.nil)) (by exact (BorL.cons (PV.bor_val _) BorL.nil))) (y := ?_)
    refine RunS.s1 (x := loc_call (qs := [(false, [PV.val _]), (false, [PV.val _]), (false, [PV.val _])]) (as_ := [(false, [PV.val _]), (false, [PV.val _]), (false, [PV.val _])]) (by decide) c_50 (by exact (And.intro (by exact ⟨⟩) (And.intro (ok_sc rfl) (And.intro (ok_sc rfl) True.intro)))) (by exact (And.intro (And.intro rfl (ToL.cons (PV.To.refl _) ToL.nil)) (And.intro (And.intro rfl (ToL.cons (PV.To.refl _) ToL.nil)) (And.intro (And.intro rfl (ToL.cons (PV.To.refl _) ToL.nil)) True.intro)))) (by exact spec_l1In)) (y := ?_)
    refine RunS.s1 (x := loc_not (by decide)) (y := ?_)
    refine sw_cond (t := 15) rfl (fun hb2 => ?_) (fun hb2 => ?_)
    · try simp only [q1, q2, q3, q4, q5, q6, q7, q8, q9] at hb2
      have hno : okOut x[k] = false := by simpa [okOut] using hb2
      refine sw_seq ?_
      refine sw_of (l := [(0, RV.sv false [PV.sl _ _]), (3, RV.sv false [PV.val _])]) (b := []) (by exact ⟨rfl, rfl, ⟨⟩⟩) (by exact ⟨⟩) ?_
      refine sw_reg ?_
      refine RunS.s1 (x := loc_const (.inr rfl) (by decide) (ok_sc rfl)) (y := ?_)
      refine sw_ret ?_
      exact (And.intro (by refine bool_eq ?_; simp [okFields, all_no (P := okOut) hlt hno]) True.intro)
    · try simp only [q1, q2, q3, q4, q5, q6, q7, q8, q9] at hb2
      have hyes : okOut x[k] = true := by simpa [okOut] using hb2
      refine sw_skip ?_
      refine sw_of (l := [(0, RV.sv false [PV.sl _ _]), (3, RV.sv false [PV.val _])]) (b := []) (by exact ⟨rfl, rfl, ⟨⟩⟩) (by exact ⟨⟩) ?_
      refine sw_reg ?_
      refine RunS.s1 (x := loc_copy (.inl rfl) (by decide) (by exact Cp.sc)) (y := ?_)
      refine RunS.s1 (x := loc_add (by decide) (by exact ⟨⟩) (ok_sc rfl) (by unfold I64; omega)) (y := ?_)
      refine RunS.s1 (x := loc_copy (.inr rfl) (by decide) (by exact Cp.sc)) (y := ?_)
      refine Exists.intro (k + 1) (And.intro (by exact ⟨by omega, all_succ ha hlt hyes⟩) (And.intro (by omega) (And.intro (And.intro (by exact ⟨rfl, ⟨⟩⟩) (by exact ⟨⟩)) (And.intro (by exact And.intro (by exact rfl) (True.intro)) (by exact ⟨⟩)))))
  · try simp only [q1, q2, q3, q4, q5, q6, q7, q8, q9] at hb1
    have hall : x.all okOut = true := all_end (by rw [show x.length = k by omega]; exact ha)
    refine sw_exit ?_
    refine sw_seq ?_
    refine sw_of (l := [(0, RV.sv false [PV.sl _ _]), (3, RV.sv false [PV.val _])]) (b := []) (by exact ⟨rfl, rfl, ⟨⟩⟩) (by exact ⟨⟩) ?_
    refine sw_reg ?_
    refine RunS.s1 (x := loc_copy (r' := RV.sv false [PV.sl .v _]) (.inl rfl) (by decide) (by exact Cp.sv (ToL.cons PV.to_none ToL.nil) (BorL.cons (PV.bor_sl _) BorL.nil))) (y := ?_)
    refine RunS.s1 (x := loc_len (by decide) sl_23 (by first | exact List.length_map _ | exact rfl)) (y := ?_)
    refine RunS.s1 (x := loc_call (qs := [(false, [PV.val _]), (false, [PV.val _]), (false, [PV.val _])]) (as_ := [(false, [PV.val _]), (false, [PV.val _]), (false, [PV.val _])]) (by decide) c_50 (by exact (And.intro (by exact ⟨⟩) (And.intro (ok_sc rfl) (And.intro (ok_sc rfl) True.intro)))) (by exact (And.intro (And.intro rfl (ToL.cons (PV.To.refl _) ToL.nil)) (And.intro (And.intro rfl (ToL.cons (PV.To.refl _) ToL.nil)) (And.intro (And.intro rfl (ToL.cons (PV.To.refl _) ToL.nil)) True.intro)))) (by exact spec_l1In)) (y := ?_)
    refine RunS.s1 (x := loc_copy (.inr rfl) (by decide) (by exact Cp.sc)) (y := ?_)
    refine sw_ret ?_
    exact (And.intro (by refine bool_eq ?_; simp [okFields, hall, *]) True.intro)
theorem spec_IsQuery {x : Query}  : SCall Try.prog 127 [(true, [PV.val (vI x.Id), PV.val (vI x.Tenant), PV.sl .v (x.Conds.map cCond), PV.sl .v (x.Out.map cInt)])] (resRV [(false, [PV.val (.bool (okQuery x))])]) := by
  refine scall_of (rs := [(false, [PV.val (.bool (okQuery x))])]) Try.func127 rfl (Nat.le_of_ble_eq_true rfl) (borA_cons (BorL.cons (PV.bor_val _) (BorL.cons (PV.bor_val _) (BorL.cons (PV.bor_sl _) (BorL.cons (PV.bor_sl _) BorL.nil)))) borA_nil) ?_
  intro h0 w0 Fz0
  refine sw_slen (s := 0) (j := 2) rfl rfl fun hl0_2 => ?_
  try rw [List.length_map] at hl0_2
  refine sw_slen (s := 0) (j := 3) rfl rfl fun hl0_3 => ?_
  try rw [List.length_map] at hl0_3
  refine sw_seq ?_
  refine sw_reg ?_
  refine RunS.step (by exact ⟨rfl, ⟨⟩⟩) (by exact ⟨⟩) (LocG.of rfl (loc_box (ag := true) (cs := [PV.val _, PV.val _, PV.sl _ _, PV.sl _ _]) (by decide) (by exact ⟨⟩))) (free1 (Free.of_ rfl)) ?_
  refine RunS.s1 (x := loc_const (.inr rfl) (by decide) (ok_sc rfl)) (y := ?_)
  refine sw_seq ?_
  refine sw_seq ?_
  refine sw_of (l := [(1, RV.ptr 1 0), (2, RV.sv false [PV.val _])]) (b := [(1, (34, [PV.val _, PV.val _, PV.sl _ _, PV.sl _ _]))]) (by exact ⟨rfl, rfl, ⟨⟩⟩) (by exact ⟨rfl, ⟨⟩⟩) ?_
  refine sw_reg ?_
  refine RunS.s1 (x := loc_const (.inr rfl) (by decide) (ok_sc rfl)) (y := ?_)
  refine sw_block ?_
  refine sw_of (l := [(1, RV.ptr 1 0), (2, RV.sv false [PV.val _]), (3, RV.sv false [PV.val _])]) (b := [(1, (34, [PV.val _, PV.val _, PV.sl _ _, PV.sl _ _]))]) (by exact ⟨rfl, rfl, rfl, ⟨⟩⟩) (by exact ⟨rfl, ⟨⟩⟩) ?_
  refine sw_loop (l0 := [(1, RV.ptr 1 0)]) (b0 := [(1, (34, [PV.val _, PV.val _, PV.sl _ _, PV.sl _ _]))]) (fun k : Nat => k ≤ x.Conds.length ∧ adjTo ⟨0, 0, 0⟩ okCond ltField x.Conds k = true) (fun k : Nat => [(3, RV.int (k : Int))]) (fun k : Nat => []) (fun k : Nat => x.Conds.length - k) 0 (by exact ⟨by omega, rfl⟩) (by exact ⟨rfl, ⟨⟩⟩) (by exact ⟨rfl, ⟨⟩⟩) (by exact And.intro (by exact rfl) (True.intro)) (by exact ⟨⟩) ?_
  rintro k ⟨hk, ha⟩
  refine sw_seq ?_
  refine sw_seq ?_
  refine sw_reg ?_
  refine RunS.s1 (x := loc_copy (.inl rfl) (by decide) (by exact Cp.sc)) (y := ?_)
  refine RunS.s1 (x := loc_field (by decide) fd_34_2) (y := ?_)
  refine RunS.s1 (x := loc_load (qs := [PV.sl .v _]) (by decide) ty_32 (fun _ => rfl) (by exact Nat.le_of_ble_eq_true rfl) (by exact (ToL.cons PV.to_none ToL.nil)) (by exact (BorL.cons (PV.bor_sl _) BorL.nil))) (y := ?_)
  refine RunS.s1 (x := loc_len (by decide) sl_32 (by first | exact List.length_map _ | exact rfl)) (y := ?_)
  refine RunS.s1 (x := loc_lss (by decide) (by exact ⟨⟩) (by exact ⟨⟩)) (y := ?_)
  refine sw_cond (t := 8) rfl (fun hb1 => ?_) (fun hb1 => ?_)
  · try simp only [q1, q2, q3, q4, q5, q6, q7, q8, q9] at hb1
    have hlt : k < x.Conds.length := by omega
    have hgk : x.Conds.getD k ⟨0, 0, 0⟩ = x.Conds[k] := getD_at hlt
    have hgp : 0 < k → x.Conds.getD (k - 1) ⟨0, 0, 0⟩ = x.Conds[k - 1] := fun h => getD_at (by omega)
    refine sw_skip ?_
    refine sw_seq ?_
    refine sw_block ?_
    refine sw_seq ?_
    refine sw_of (l := [(1, RV.ptr 1 0), (3, RV.sv false [PV.val _])]) (b := [(1, (34, [PV.val _, PV.val _, PV.sl _ _, PV.sl _ _]))]) (by exact ⟨rfl, rfl, ⟨⟩⟩) (by exact ⟨rfl, ⟨⟩⟩) ?_
    refine sw_draw hm_ ?_
    refine Run.step 0 (by exact ⟨rfl, ⟨⟩⟩) (by exact ⟨⟩) (LocG.of rfl (loc_field (by decide) fd_34_2)) nofree (by kernel_rfl) ?_
    refine Run.step 1 (by exact ⟨rfl, ⟨⟩⟩) (by exact ⟨rfl, ⟨⟩⟩) (LocG.of rfl (loc_load (qs := [PV.sl .v _]) (by decide) ty_32 (fun _ => rfl) (by exact Nat.le_of_ble_eq_true rfl) (by exact (ToL.cons PV.to_none ToL.nil)) (by exact (BorL.cons (PV.bor_sl _) BorL.nil)))) nofree (by kernel_rfl) ?_
    refine Run.step 0 (by exact ⟨rfl, ⟨⟩⟩) (by exact ⟨⟩) (LocG.of rfl (loc_copy (.inl rfl) (by decide) (by exact Cp.sc))) nofree (by kernel_rfl) ?_
    refine Run.step 7 (by exact ⟨rfl, rfl, ⟨⟩⟩) (by exact ⟨⟩) (LocG.of rfl (loc_index (by decide) sl_32 (by exact ⟨⟩) (by exact rfl) (by exact getm2 (by omega) rfl) (by exact rfl))) nofree (by kernel_rfl) ?_
    refine Run.step 15 (by exact ⟨rfl, ⟨⟩⟩) (by exact ⟨⟩) (LocG.of rfl (loc_eload (qs := [PV.val _, PV.val _, PV.val _]) (by decide) ty_73 (fun h => nomatch h) (by exact Nat.le_of_ble_eq_true rfl) (by exact (ToL.cons (PV.To.refl _) (ToL.cons (PV.To.refl _) (ToL.cons (PV.To.refl _) ToL.nil)))) (by exact (BorL.cons (PV.bor_val _) (BorL.cons (PV.bor_val _) (BorL.cons (PV.bor_val _) BorL.nil)))))) nofree (by kernel_rfl) ?_
    refine Run.step 31 (by exact ⟨rfl, ⟨⟩⟩) (by exact ⟨⟩) (LocG.of rfl (loc_call (qs := [(true, [PV.val _, PV.val _, PV.val _])]) (as_ := [(true, [PV.val _, PV.val _, PV.val _])]) (by decide) c_183 (by exact (And.intro (by exact ⟨⟩) True.intro)) (by exact (And.intro (And.intro rfl (ToL.cons (PV.To.refl _) (ToL.cons (PV.To.refl _) (ToL.cons (PV.To.refl _) ToL.nil)))) True.intro)) (by exact spec_IsCond))) nofree (by kernel_rfl) ?_
    refine Run.step 63 (by exact ⟨rfl, ⟨⟩⟩) (by exact ⟨⟩) (LocG.of rfl (loc_not (by decide))) nofree (by kernel_rfl) ?_
    refine Run.step 127 (by exact ⟨rfl, ⟨⟩⟩) (by exact ⟨⟩) (LocG.of rfl (loc_copy (.inl rfl) (by decide) (by exact Cp.sc))) nofree (by kernel_rfl) ?_
    refine Run.cases (s := 18) rfl (fun g2 => ?_) (fun g2 => ?_)
    · have sg2 := g2
      try simp only [q1, q2, q3, q4, q5, q6, q7, q8, q9] at sg2
      refine Run.step 255 (by exact ⟨rfl, ⟨⟩⟩) (by exact ⟨⟩) (LocG.no (ops := _) rfl rfl (by decide) g2 rfl) nofree (by kernel_rfl) ?_
      refine Run.step 511 (by exact ⟨rfl, ⟨⟩⟩) (by exact ⟨⟩) (LocG.no (ops := _) rfl rfl (by decide) g2 rfl) nofree (by kernel_rfl) ?_
      refine Run.step 1023 (by exact ⟨rfl, ⟨⟩⟩) (by exact ⟨⟩) (LocG.no (ops := _) rfl rfl (by decide) g2 rfl) nofree (by kernel_rfl) ?_
      refine Run.step 2047 (by exact ⟨rfl, ⟨⟩⟩) (by exact ⟨⟩) (LocG.noU (ops := _) rfl rfl rfl) nofree (by kernel_rfl) ?_
      refine Run.step 4095 (by exact ⟨rfl, ⟨⟩⟩) (by exact ⟨⟩) (LocG.noU (ops := _) rfl rfl rfl) nofree (by kernel_rfl) ?_
      refine Run.step 2047 (by exact ⟨rfl, ⟨⟩⟩) (by exact ⟨⟩) (LocG.noU (ops := _) rfl rfl rfl) nofree (by kernel_rfl) ?_
      refine Run.step 16383 (by exact ⟨rfl, ⟨⟩⟩) (by exact ⟨⟩) (LocG.noU (ops := _) rfl rfl rfl) nofree (by kernel_rfl) ?_
      refine Run.step 32767 (by exact ⟨rfl, ⟨⟩⟩) (by exact ⟨⟩) (LocG.noU (ops := _) rfl rfl rfl) nofree (by kernel_rfl) ?_
      refine Run.step 65535 (by exact ⟨rfl, ⟨⟩⟩) (by exact ⟨⟩) (LocG.noU (ops := _) rfl rfl rfl) nofree (by kernel_rfl) ?_
      refine Run.step 2047 (by exact ⟨rfl, ⟨⟩⟩) (by exact ⟨⟩) (LocG.noU (ops := _) rfl rfl rfl) nofree (by kernel_rfl) ?_
      refine Run.step 133119 (by exact ⟨rfl, ⟨⟩⟩) (by exact ⟨⟩) (LocG.noU (ops := _) rfl rfl rfl) nofree (by kernel_rfl) ?_
      refine Run.step 2047 (by exact ⟨rfl, ⟨⟩⟩) (by exact ⟨⟩) (LocG.noU (ops := _) rfl rfl rfl) nofree (by kernel_rfl) ?_
      refine Run.step 526335 (by exact ⟨rfl, ⟨⟩⟩) (by exact ⟨⟩) (LocG.noU (ops := _) rfl rfl rfl) nofree (by kernel_rfl) ?_
      refine Run.step 1968127 (by exact ⟨rfl, ⟨⟩⟩) (by exact ⟨⟩) (LocG.noU (ops := _) rfl rfl rfl) nofree (by kernel_rfl) ?_
      refine Run.step 4065279 (by exact ⟨rfl, ⟨⟩⟩) (by exact ⟨⟩) (LocG.noU (ops := _) rfl rfl rfl) nofree (by kernel_rfl) ?_
      refine Run.step 8259583 (by exact ⟨rfl, ⟨⟩⟩) (by exact ⟨⟩) (LocG.noU (ops := _) rfl rfl rfl) nofree (by kernel_rfl) ?_
      refine Run.step 16777215 (by exact ⟨rfl, ⟨⟩⟩) (by exact ⟨⟩) (LocG.noU (ops := _) rfl rfl rfl) nofree (by kernel_rfl) ?_
      refine Run.step 33554431 (by exact ⟨rfl, ⟨⟩⟩) (by exact ⟨⟩) (LocG.no (ops := _) rfl rfl (by decide) g2 rfl) nofree (by kernel_rfl) ?_
      refine Run.step 67108863 (by exact ⟨rfl, ⟨⟩⟩) (by exact ⟨⟩) (LocG.of rfl (loc_pick (z := .const (.bool true)) (by decide) (by rw [g2]; rfl) (by exact ⟨⟩) (ok_sc rfl) (by exact Cp.sc))) nofree (by kernel_rfl) ?_
      refine sw_cond (t := 37) rfl (fun hb_ => ?_) (fun hb_ => nomatch hb_)
      have hbad : adjAll ⟨0, 0, 0⟩ okCond ltField x.Conds = false := adj_no hlt (Bool.eq_false_iff.2 fun hx => by
        have hx := adjStep.1 hx
        rw [hgk] at hx
        obtain ⟨hx1, hx2⟩ := hx
        first
        | (simp_all; done)
        | (simp only [decide_eq_true_eq, ltField] at *; by_cases h0 : k = 0 <;> (try rw [hgp (by omega)] at hx2) <;> omega))
      refine sw_seq ?_
      refine sw_of (l := [(1, RV.ptr 1 0), (3, RV.sv false [PV.val _])]) (b := [(1, (34, [PV.val _, PV.val _, PV.sl _ _, PV.sl _ _]))]) (by exact ⟨rfl, rfl, ⟨⟩⟩) (by exact ⟨rfl, ⟨⟩⟩) ?_
      refine sw_reg ?_
      refine RunS.s1 (x := loc_const (.inr rfl) (by decide) (ok_sc rfl)) (y := ?_)
      refine sw_ret ?_
      exact (And.intro (by refine bool_eq ?_; simp [okQuery, okConds, hbad]) True.intro)
    · have sg2 := g2
      try simp only [q1, q2, q3, q4, q5, q6, q7, q8, q9] at sg2
      refine Run.step 255 (by exact ⟨rfl, rfl, ⟨⟩⟩) (by exact ⟨⟩) (LocG.yes rfl rfl (by decide) g2 (loc_copy (.inl rfl) (by decide) (by exact Cp.sc))) nofree (by kernel_rfl) ?_
      refine Run.step 511 (by exact ⟨rfl, rfl, ⟨⟩⟩) (by exact ⟨⟩) (LocG.yes rfl rfl (by decide) g2 (loc_gtr (by decide) (by exact ⟨⟩) (ok_sc rfl))) nofree (by kernel_rfl) ?_
      refine Run.step 1023 (by exact ⟨rfl, rfl, ⟨⟩⟩) (by exact ⟨⟩) (LocG.yes rfl rfl (by decide) g2 (loc_copy (.inl rfl) (by decide) (by exact Cp.sc))) nofree (by kernel_rfl) ?_
      refine Run.cases (s := 21) rfl (fun g4 => ?_) (fun g4 => ?_)
      · have sg4 := g4
        try simp only [q1, q2, q3, q4, q5, q6, q7, q8, q9] at sg4
        refine Run.step 2047 (by exact ⟨rfl, rfl, ⟨⟩⟩) (by exact ⟨⟩) (LocG.yes rfl rfl (by decide) g4 (loc_field (by decide) fd_34_2)) nofree (by kernel_rfl) ?_
        refine Run.step 4095 (by exact ⟨rfl, rfl, ⟨⟩⟩) (by exact ⟨rfl, ⟨⟩⟩) (LocG.yes rfl rfl (by decide) g4 (loc_load (qs := [PV.sl .v _]) (by decide) ty_32 (fun _ => rfl) (by exact Nat.le_of_ble_eq_true rfl) (by exact (ToL.cons PV.to_none ToL.nil)) (by exact (BorL.cons (PV.bor_sl _) BorL.nil)))) nofree (by kernel_rfl) ?_
        refine Run.step 2047 (by exact ⟨rfl, rfl, ⟨⟩⟩) (by exact ⟨⟩) (LocG.yes rfl rfl (by decide) g4 (loc_copy (.inl rfl) (by decide) (by exact Cp.sc))) nofree (by kernel_rfl) ?_
        refine Run.step 16383 (by exact ⟨rfl, rfl, rfl, ⟨⟩⟩) (by exact ⟨⟩) (LocG.yes rfl rfl (by decide) g4 (loc_index (by decide) sl_32 (by exact ⟨⟩) (by exact rfl) (by exact getm2 (by omega) rfl) (by exact rfl))) nofree (by kernel_rfl) ?_
        refine Run.step 32767 (by exact ⟨rfl, rfl, ⟨⟩⟩) (by exact ⟨⟩) (LocG.yes rfl rfl (by decide) g4 (loc_efield (by decide) fd_73_0 (by exact Nat.le_of_ble_eq_true rfl))) nofree (by kernel_rfl) ?_
        refine Run.step 65535 (by exact ⟨rfl, rfl, ⟨⟩⟩) (by exact ⟨⟩) (LocG.yes rfl rfl (by decide) g4 (loc_eload (qs := [PV.val _]) (by decide) ty_3 (fun _ => rfl) (by exact Nat.le_of_ble_eq_true rfl) (by exact (ToL.cons (PV.To.refl _) ToL.nil)) (by exact (BorL.cons (PV.bor_val _) BorL.nil)))) nofree (by kernel_rfl) ?_
        refine Run.step 2047 (by exact ⟨rfl, rfl, ⟨⟩⟩) (by exact ⟨⟩) (LocG.yes rfl rfl (by decide) g4 (loc_field (by decide) fd_34_2)) nofree (by kernel_rfl) ?_
        refine Run.step 133119 (by exact ⟨rfl, rfl, ⟨⟩⟩) (by exact ⟨rfl, ⟨⟩⟩) (LocG.yes rfl rfl (by decide) g4 (loc_load (qs := [PV.sl .v _]) (by decide) ty_32 (fun _ => rfl) (by exact Nat.le_of_ble_eq_true rfl) (by exact (ToL.cons PV.to_none ToL.nil)) (by exact (BorL.cons (PV.bor_sl _) BorL.nil)))) nofree (by kernel_rfl) ?_
        refine Run.step 2047 (by exact ⟨rfl, rfl, ⟨⟩⟩) (by exact ⟨⟩) (LocG.yes rfl rfl (by decide) g4 (loc_copy (.inl rfl) (by decide) (by exact Cp.sc))) nofree (by kernel_rfl) ?_
        refine Run.step 526335 (by exact ⟨rfl, rfl, ⟨⟩⟩) (by exact ⟨⟩) (LocG.yes rfl rfl (by decide) g4 (loc_sub (by decide) (by exact ⟨⟩) (ok_sc rfl) (by unfold I64; omega))) nofree (by kernel_rfl) ?_
        refine Run.step 1968127 (by exact ⟨rfl, rfl, rfl, ⟨⟩⟩) (by exact ⟨⟩) (LocG.yes rfl rfl (by decide) g4 (loc_index (k := k - 1) (by decide) sl_32 (by exact ⟨⟩) (by omega) (by exact getm2 (by omega) rfl) (by exact rfl))) nofree (by kernel_rfl) ?_
        refine Run.step 4065279 (by exact ⟨rfl, rfl, ⟨⟩⟩) (by exact ⟨⟩) (LocG.yes rfl rfl (by decide) g4 (loc_efield (by decide) fd_73_0 (by exact Nat.le_of_ble_eq_true rfl))) nofree (by kernel_rfl) ?_
        refine Run.step 8259583 (by exact ⟨rfl, rfl, ⟨⟩⟩) (by exact ⟨⟩) (LocG.yes rfl rfl (by decide) g4 (loc_eload (qs := [PV.val _]) (by decide) ty_3 (fun _ => rfl) (by exact Nat.le_of_ble_eq_true rfl) (by exact (ToL.cons (PV.To.refl _) ToL.nil)) (by exact (BorL.cons (PV.bor_val _) BorL.nil)))) nofree (by kernel_rfl) ?_
        refine Run.step 16777215 (by exact ⟨rfl, rfl, rfl, ⟨⟩⟩) (by exact ⟨⟩) (LocG.yes rfl rfl (by decide) g4 (loc_leq (by decide) (by exact ⟨⟩) (by exact ⟨⟩))) nofree (by kernel_rfl) ?_
        refine Run.step 33554431 (by exact ⟨rfl, rfl, rfl, ⟨⟩⟩) (by exact ⟨⟩) (LocG.yes rfl rfl (by decide) g2 (loc_pick (z := .tmp 35) (by decide) (by rw [g4]; rfl) (by exact ⟨⟩) (by exact ⟨⟩) (by exact Cp.sc))) nofree (by kernel_rfl) ?_
        refine Run.step 67108863 (by exact ⟨rfl, rfl, ⟨⟩⟩) (by exact ⟨⟩) (LocG.of rfl (loc_pick (z := .tmp 36) (by decide) (by rw [g2]; rfl) (by exact ⟨⟩) (by exact ⟨⟩) (by exact Cp.sc))) nofree (by kernel_rfl) ?_
        refine sw_cond (t := 37) rfl (fun hb5 => ?_) (fun hb5 => ?_)
        · try simp only [q1, q2, q3, q4, q5, q6, q7, q8, q9] at hb5
          have hbad : adjAll ⟨0, 0, 0⟩ okCond ltField x.Conds = false := adj_no hlt (Bool.eq_false_iff.2 fun hx => by
            have hx := adjStep.1 hx
            rw [hgk] at hx
            obtain ⟨hx1, hx2⟩ := hx
            first
            | (simp_all; done)
            | (simp only [decide_eq_true_eq, ltField] at *; by_cases h0 : k = 0 <;> (try rw [hgp (by omega)] at hx2) <;> omega))
          refine sw_seq ?_
          refine sw_of (l := [(1, RV.ptr 1 0), (3, RV.sv false [PV.val _])]) (b := [(1, (34, [PV.val _, PV.val _, PV.sl _ _, PV.sl _ _]))]) (by exact ⟨rfl, rfl, ⟨⟩⟩) (by exact ⟨rfl, ⟨⟩⟩) ?_
          refine sw_reg ?_
          refine RunS.s1 (x := loc_const (.inr rfl) (by decide) (ok_sc rfl)) (y := ?_)
          refine sw_ret ?_
          exact (And.intro (by refine bool_eq ?_; simp [okQuery, okConds, hbad]) True.intro)
        · try simp only [q1, q2, q3, q4, q5, q6, q7, q8, q9] at hb5
          refine sw_skip ?_
          refine sw_of (l := [(1, RV.ptr 1 0), (3, RV.sv false [PV.val _])]) (b := [(1, (34, [PV.val _, PV.val _, PV.sl _ _, PV.sl _ _]))]) (by exact ⟨rfl, rfl, ⟨⟩⟩) (by exact ⟨rfl, ⟨⟩⟩) ?_
          refine sw_reg ?_
          refine RunS.s1 (x := loc_copy (.inl rfl) (by decide) (by exact Cp.sc)) (y := ?_)
          refine RunS.s1 (x := loc_add (by decide) (by exact ⟨⟩) (ok_sc rfl) (by unfold I64; omega)) (y := ?_)
          refine RunS.s1 (x := loc_copy (.inr rfl) (by decide) (by exact Cp.sc)) (y := ?_)
          refine Exists.intro (k + 1) (And.intro (by exact ⟨by omega, by rw [adjTo_succ, ha, Bool.true_and]; refine adjStep.2 ⟨by rw [hgk]; first | assumption | simp_all, ?_⟩; rcases Nat.eq_zero_or_pos k with h0 | h0; (· exact .inl h0); (· right; rw [hgk, hgp h0]; first | (simp only [decide_eq_true_eq, ltField] at *; omega) | (simp_all; done))⟩) (And.intro (by omega) (And.intro (And.intro (by exact ⟨rfl, ⟨⟩⟩) (by exact ⟨rfl, ⟨⟩⟩)) (And.intro (by exact And.intro (by exact rfl) (True.intro)) (by exact ⟨⟩)))))
      · have sg4 := g4
        try simp only [q1, q2, q3, q4, q5, q6, q7, q8, q9] at sg4
        refine Run.step 2047 (by exact ⟨rfl, ⟨⟩⟩) (by exact ⟨⟩) (LocG.no (ops := _) rfl rfl (by decide) g4 rfl) nofree (by kernel_rfl) ?_
        refine Run.step 4095 (by exact ⟨rfl, ⟨⟩⟩) (by exact ⟨⟩) (LocG.no (ops := _) rfl rfl (by decide) g4 rfl) nofree (by kernel_rfl) ?_
        refine Run.step 2047 (by exact ⟨rfl, ⟨⟩⟩) (by exact ⟨⟩) (LocG.no (ops := _) rfl rfl (by decide) g4 rfl) nofree (by kernel_rfl) ?_
        refine Run.step 16383 (by exact ⟨rfl, ⟨⟩⟩) (by exact ⟨⟩) (LocG.no (ops := _) rfl rfl (by decide) g4 rfl) nofree (by kernel_rfl) ?_
        refine Run.step 32767 (by exact ⟨rfl, ⟨⟩⟩) (by exact ⟨⟩) (LocG.no (ops := _) rfl rfl (by decide) g4 rfl) nofree (by kernel_rfl) ?_
        refine Run.step 65535 (by exact ⟨rfl, ⟨⟩⟩) (by exact ⟨⟩) (LocG.no (ops := _) rfl rfl (by decide) g4 rfl) nofree (by kernel_rfl) ?_
        refine Run.step 2047 (by exact ⟨rfl, ⟨⟩⟩) (by exact ⟨⟩) (LocG.no (ops := _) rfl rfl (by decide) g4 rfl) nofree (by kernel_rfl) ?_
        refine Run.step 133119 (by exact ⟨rfl, ⟨⟩⟩) (by exact ⟨⟩) (LocG.no (ops := _) rfl rfl (by decide) g4 rfl) nofree (by kernel_rfl) ?_
        refine Run.step 2047 (by exact ⟨rfl, ⟨⟩⟩) (by exact ⟨⟩) (LocG.no (ops := _) rfl rfl (by decide) g4 rfl) nofree (by kernel_rfl) ?_
        refine Run.step 526335 (by exact ⟨rfl, ⟨⟩⟩) (by exact ⟨⟩) (LocG.no (ops := _) rfl rfl (by decide) g4 rfl) nofree (by kernel_rfl) ?_
        refine Run.step 1968127 (by exact ⟨rfl, ⟨⟩⟩) (by exact ⟨⟩) (LocG.no (ops := _) rfl rfl (by decide) g4 rfl) nofree (by kernel_rfl) ?_
        refine Run.step 4065279 (by exact ⟨rfl, ⟨⟩⟩) (by exact ⟨⟩) (LocG.no (ops := _) rfl rfl (by decide) g4 rfl) nofree (by kernel_rfl) ?_
        refine Run.step 8259583 (by exact ⟨rfl, ⟨⟩⟩) (by exact ⟨⟩) (LocG.no (ops := _) rfl rfl (by decide) g4 rfl) nofree (by kernel_rfl) ?_
        refine Run.step 16777215 (by exact ⟨rfl, ⟨⟩⟩) (by exact ⟨⟩) (LocG.no (ops := _) rfl rfl (by decide) g4 rfl) nofree (by kernel_rfl) ?_
        refine Run.step 33554431 (by exact ⟨rfl, rfl, ⟨⟩⟩) (by exact ⟨⟩) (LocG.yes rfl rfl (by decide) g2 (loc_pick (z := .const (.bool false)) (by decide) (by rw [g4]; rfl) (by exact ⟨⟩) (ok_sc rfl) (by exact Cp.sc))) nofree (by kernel_rfl) ?_
        refine Run.step 67108863 (by exact ⟨rfl, rfl, ⟨⟩⟩) (by exact ⟨⟩) (LocG.of rfl (loc_pick (z := .tmp 36) (by decide) (by rw [g2]; rfl) (by exact ⟨⟩) (by exact ⟨⟩) (by exact Cp.sc))) nofree (by kernel_rfl) ?_
        refine sw_cond (t := 37) rfl (fun hb_ => nomatch hb_) (fun hb_ => ?_)
        refine sw_skip ?_
        refine sw_of (l := [(1, RV.ptr 1 0), (3, RV.sv false [PV.val _])]) (b := [(1, (34, [PV.val _, PV.val _, PV.sl _ _, PV.sl _ _]))]) (by exact ⟨rfl, rfl, ⟨⟩⟩) (by exact ⟨rfl, ⟨⟩⟩) ?_
        refine sw_reg ?_
        refine RunS.s1 (x := loc_copy (.inl rfl) (by decide) (by exact Cp.sc)) (y := ?_)
        refine RunS.s1 (x := loc_add (by decide) (by exact ⟨⟩) (ok_sc rfl) (by unfold I64; omega)) (y := ?_)
        refine RunS.s1 (x := loc_copy (.inr rfl) (by decide) (by exact Cp.sc)) (y := ?_)
        refine Exists.intro (k + 1) (And.intro (by exact ⟨by omega, by rw [adjTo_succ, ha, Bool.true_and]; refine adjStep.2 ⟨by rw [hgk]; first | assumption | simp_all, ?_⟩; rcases Nat.eq_zero_or_pos k with h0 | h0; (· exact .inl h0); (· right; rw [hgk, hgp h0]; first | (simp only [decide_eq_true_eq, ltField] at *; omega) | (simp_all; done))⟩) (And.intro (by omega) (And.intro (And.intro (by exact ⟨rfl, ⟨⟩⟩) (by exact ⟨rfl, ⟨⟩⟩)) (And.intro (by exact And.intro (by exact rfl) (True.intro)) (by exact ⟨⟩)))))
  · try simp only [q1, q2, q3, q4, q5, q6, q7, q8, q9] at hb1
    have hend : k = x.Conds.length := by omega
    have hall : adjAll ⟨0, 0, 0⟩ okCond ltField x.Conds = true := adj_end ha hend
    refine sw_exit ?_
    refine sw_seq ?_
    refine sw_of (l := [(1, RV.ptr 1 0), (3, RV.sv false [PV.val _])]) (b := [(1, (34, [PV.val _, PV.val _, PV.sl _ _, PV.sl _ _]))]) (by exact ⟨rfl, rfl, ⟨⟩⟩) (by exact ⟨rfl, ⟨⟩⟩) ?_
    refine sw_reg ?_
    refine RunS.s1 (x := loc_field (by decide) fd_34_0) (y := ?_)
    refine RunS.s1 (x := loc_load (qs := [PV.val _]) (by decide) ty_3 (fun _ => rfl) (by exact Nat.le_of_ble_eq_true rfl) (by exact (ToL.cons (PV.To.refl _) ToL.nil)) (by exact (BorL.cons (PV.bor_val _) BorL.nil))) (y := ?_)
    refine RunS.s1 (x := loc_call (qs := [(false, [PV.val _]), (false, [PV.val _]), (false, [PV.val _])]) (as_ := [(false, [PV.val _]), (false, [PV.val _]), (false, [PV.val _])]) (by decide) c_50 (by exact (And.intro (by exact ⟨⟩) (And.intro (ok_sc rfl) (And.intro (ok_sc rfl) True.intro)))) (by exact (And.intro (And.intro rfl (ToL.cons (PV.To.refl _) ToL.nil)) (And.intro (And.intro rfl (ToL.cons (PV.To.refl _) ToL.nil)) (And.intro (And.intro rfl (ToL.cons (PV.To.refl _) ToL.nil)) True.intro)))) (by exact spec_l1In)) (y := ?_)
    refine RunS.s1 (x := loc_copy (.inl rfl) (by decide) (by exact Cp.sc)) (y := ?_)
    refine RunS.cases (s := 41) rfl (fun g7 => ?_) (fun g7 => ?_)
    · have sg7 := g7
      try simp only [q1, q2, q3, q4, q5, q6, q7, q8, q9] at sg7
      refine RunS.s2 (hb := g7) (x := loc_field (by decide) fd_34_1) (y := ?_)
      refine RunS.s2 (hb := g7) (x := loc_load (qs := [PV.val _]) (by decide) ty_3 (fun _ => rfl) (by exact Nat.le_of_ble_eq_true rfl) (by exact (ToL.cons (PV.To.refl _) ToL.nil)) (by exact (BorL.cons (PV.bor_val _) BorL.nil))) (y := ?_)
      refine RunS.s2 (hb := g7) (x := loc_call (qs := [(false, [PV.val _]), (false, [PV.val _]), (false, [PV.val _])]) (as_ := [(false, [PV.val _]), (false, [PV.val _]), (false, [PV.val _])]) (by decide) c_50 (by exact (And.intro (by exact ⟨⟩) (And.intro (ok_sc rfl) (And.intro (ok_sc rfl) True.intro)))) (by exact (And.intro (And.intro rfl (ToL.cons (PV.To.refl _) ToL.nil)) (And.intro (And.intro rfl (ToL.cons (PV.To.refl _) ToL.nil)) (And.intro (And.intro rfl (ToL.cons (PV.To.refl _) ToL.nil)) True.intro)))) (by exact spec_l1In)) (y := ?_)
      refine RunS.s1 (x := loc_pick (z := .tmp 44) (by decide) (by rw [g7]; rfl) (by exact ⟨⟩) (by exact ⟨⟩) (by exact Cp.sc)) (y := ?_)
      refine RunS.s1 (x := loc_copy (.inl rfl) (by decide) (by exact Cp.sc)) (y := ?_)
      refine RunS.cases (s := 46) rfl (fun g8 => ?_) (fun g8 => ?_)
      · have sg8 := g8
        try simp only [q1, q2, q3, q4, q5, q6, q7, q8, q9] at sg8
        refine RunS.s2 (hb := g8) (x := loc_field (by decide) fd_34_2) (y := ?_)
        refine RunS.s2 (hb := g8) (x := loc_load (qs := [PV.sl .v _]) (by decide) ty_32 (fun _ => rfl) (by exact Nat.le_of_ble_eq_true rfl) (by exact (ToL.cons PV.to_none ToL.nil)) (by exact (BorL.cons (PV.bor_sl _) BorL.nil))) (y := ?_)
        refine RunS.s2 (hb := g8) (x := loc_len (by decide) sl_32 (by first | exact List.length_map _ | exact rfl)) (y := ?_)
        refine RunS.s2 (hb := g8) (x := loc_leq (by decide) (by exact ⟨⟩) (ok_sc rfl)) (y := ?_)
        refine RunS.s1 (x := loc_pick (z := .tmp 50) (by decide) (by rw [g8]; rfl) (by exact ⟨⟩) (by exact ⟨⟩) (by exact Cp.sc)) (y := ?_)
        refine RunS.s1 (x := loc_copy (.inl rfl) (by decide) (by exact Cp.sc)) (y := ?_)
        refine RunS.cases (s := 52) rfl (fun g9 => ?_) (fun g9 => ?_)
        · have sg9 := g9
          try simp only [q1, q2, q3, q4, q5, q6, q7, q8, q9] at sg9
          refine RunS.s2 (hb := g9) (x := loc_field (by decide) fd_34_3) (y := ?_)
          refine RunS.s2 (hb := g9) (x := loc_load (qs := [PV.sl .v _]) (by decide) ty_23 (fun _ => rfl) (by exact Nat.le_of_ble_eq_true rfl) (by exact (ToL.cons PV.to_none ToL.nil)) (by exact (BorL.cons (PV.bor_sl _) BorL.nil))) (y := ?_)
          refine RunS.s2 (hb := g9) (x := loc_call (qs := [(false, [PV.sl _ _])]) (as_ := [(false, [PV.sl .v _])]) (by decide) c_184 (by exact (And.intro (by exact ⟨⟩) True.intro)) (by exact (And.intro (And.intro rfl (ToL.cons PV.to_none ToL.nil)) True.intro)) (by exact spec_l4Fields)) (y := ?_)
          refine RunS.s1 (x := loc_pick (z := .tmp 55) (by decide) (by rw [g9]; rfl) (by exact ⟨⟩) (by exact ⟨⟩) (by exact Cp.sc)) (y := ?_)
          refine RunS.s1 (x := loc_copy (.inr rfl) (by decide) (by exact Cp.sc)) (y := ?_)
          refine sw_ret ?_
          exact (And.intro (by refine bool_eq ?_; first | (simp_all [okQuery, okConds]; done) | (simp_all [okQuery, okConds]; rfl) | (simp_all [okQuery, okConds]; omega) | (simp_all [okQuery, okConds]; intros; omega)) True.intro)
        · have sg9 := g9
          try simp only [q1, q2, q3, q4, q5, q6, q7, q8, q9] at sg9
          refine RunS.s0f g9 ?_
          refine RunS.s0f g9 ?_
          refine RunS.s0f g9 ?_
          refine RunS.s1 (x := loc_pick (z := .const (.bool false)) (by decide) (by rw [g9]; rfl) (by exact ⟨⟩) (ok_sc rfl) (by exact Cp.sc)) (y := ?_)
          refine RunS.s1 (x := loc_copy (.inr rfl) (by decide) (by exact Cp.sc)) (y := ?_)
          refine sw_ret ?_
          exact (And.intro (by refine bool_eq ?_; first | (simp_all [okQuery, okConds]; done) | (simp_all [okQuery, okConds]; rfl) | (simp_all [okQuery, okConds]; omega) | (simp_all [okQuery, okConds]; intros; omega)) True.intro)
      · have sg8 := g8
        try simp only [q1, q2, q3, q4, q5, q6, q7, q8, q9] at sg8
        refine RunS.s0f g8 ?_
        refine RunS.s0f g8 ?_
        refine RunS.s0f g8 ?_
        refine RunS.s0f g8 ?_
        refine RunS.s1 (x := loc_pick (z := .const (.bool false)) (by decide) (by rw [g8]; rfl) (by exact ⟨⟩) (ok_sc rfl) (by exact Cp.sc)) (y := ?_)
        refine RunS.s1 (x := loc_copy (.inl rfl) (by decide) (by exact Cp.sc)) (y := ?_)
        refine RunS.cases (s := 52) rfl (fun g10 => nomatch g10) (fun g10 => ?_)
        refine RunS.s0f g10 ?_
        refine RunS.s0f g10 ?_
        refine RunS.s0f g10 ?_
        refine RunS.s1 (x := loc_pick (z := .const (.bool false)) (by decide) (by rw [g10]; rfl) (by exact ⟨⟩) (ok_sc rfl) (by exact Cp.sc)) (y := ?_)
        refine RunS.s1 (x := loc_copy (.inr rfl) (by decide) (by exact Cp.sc)) (y := ?_)
        refine sw_ret ?_
        exact (And.intro (by refine bool_eq ?_; first | (simp_all [okQuery, okConds]; done) | (simp_all [okQuery, okConds]; rfl) | (simp_all [okQuery, okConds]; omega) | (simp_all [okQuery, okConds]; intros; omega)) True.intro)
    · have sg7 := g7
      try simp only [q1, q2, q3, q4, q5, q6, q7, q8, q9] at sg7
      refine RunS.s0f g7 ?_
      refine RunS.s0f g7 ?_
      refine RunS.s0f g7 ?_
      refine RunS.s1 (x := loc_pick (z := .const (.bool false)) (by decide) (by rw [g7]; rfl) (by exact ⟨⟩) (ok_sc rfl) (by exact Cp.sc)) (y := ?_)
      refine RunS.s1 (x := loc_copy (.inl rfl) (by decide) (by exact Cp.sc)) (y := ?_)
      refine RunS.cases (s := 46) rfl (fun g11 => nomatch g11) (fun g11 => ?_)
      refine RunS.s0f g11 ?_
      refine RunS.s0f g11 ?_
      refine RunS.s0f g11 ?_
      refine RunS.s0f g11 ?_
      refine RunS.s1 (x := loc_pick (z := .const (.bool false)) (by decide) (by rw [g11]; rfl) (by exact ⟨⟩) (ok_sc rfl) (by exact Cp.sc)) (y := ?_)
      refine RunS.s1 (x := loc_copy (.inl rfl) (by decide) (by exact Cp.sc)) (y := ?_)
      refine RunS.cases (s := 52) rfl (fun g12 => nomatch g12) (fun g12 => ?_)
      refine RunS.s0f g12 ?_
      refine RunS.s0f g12 ?_
      refine RunS.s0f g12 ?_
      refine RunS.s1 (x := loc_pick (z := .const (.bool false)) (by decide) (by rw [g12]; rfl) (by exact ⟨⟩) (ok_sc rfl) (by exact Cp.sc)) (y := ?_)
      refine RunS.s1 (x := loc_copy (.inr rfl) (by decide) (by exact Cp.sc)) (y := ?_)
      refine sw_ret ?_
      exact (And.intro (by refine bool_eq ?_; first | (simp_all [okQuery, okConds]; done) | (simp_all [okQuery, okConds]; rfl) | (simp_all [okQuery, okConds]; omega) | (simp_all [okQuery, okConds]; intros; omega)) True.intro)
theorem impl_IsQuery {x : Query}  : SCall Try.prog 96 [(true, [PV.val (vI x.Id), PV.val (vI x.Tenant), PV.sl .v (x.Conds.map cCond), PV.sl .v (x.Out.map cInt)])] (resRV [(false, [PV.val (.bool (okQuery x))])]) := by
  refine scall_of (rs := [(false, [PV.val (.bool (okQuery x))])]) Try.func96 rfl (Nat.le_of_ble_eq_true rfl) (borA_cons (BorL.cons (PV.bor_val _) (BorL.cons (PV.bor_val _) (BorL.cons (PV.bor_sl _) (BorL.cons (PV.bor_sl _) BorL.nil)))) borA_nil) ?_
  intro h0 w0 Fz0
  refine sw_slen (s := 0) (j := 2) rfl rfl fun hl0_2 => ?_
  try rw [List.length_map] at hl0_2
  refine sw_slen (s := 0) (j := 3) rfl rfl fun hl0_3 => ?_
  try rw [List.length_map] at hl0_3
  refine sw_seq ?_
  refine sw_reg ?_
  refine RunS.step (by exact ⟨rfl, ⟨⟩⟩) (by exact ⟨⟩) (LocG.of rfl (loc_box (ag := true) (cs := [PV.val _, PV.val _, PV.sl _ _, PV.sl _ _]) (by decide) (by exact ⟨⟩))) (free1 (Free.of_ rfl)) ?_
  refine RunS.s1 (x := loc_const (.inr rfl) (by decide) (ok_sc rfl)) (y := ?_)
  refine sw_seq ?_
  refine sw_seq ?_
  refine sw_of (l := [(1, RV.ptr 1 0), (2, RV.sv false [PV.val _])]) (b := [(1, (34, [PV.val _, PV.val _, PV.sl _ _, PV.sl _ _]))]) (by exact ⟨rfl, rfl, ⟨⟩⟩) (by exact ⟨rfl, ⟨⟩⟩) ?_
  refine sw_reg ?_
  refine RunS.s1 (x := loc_field (by decide) fd_34_0) (y := ?_)
  refine RunS.s1 (x := loc_load (qs := [PV.val _]) (by decide) ty_3 (fun _ => rfl) (by exact Nat.le_of_ble_eq_true rfl) (by exact (ToL.cons (PV.To.refl _) ToL.nil)) (by exact (BorL.cons (PV.bor_val _) BorL.nil))) (y := ?_)
  refine RunS.s1 (x := loc_call (qs := [(false, [PV.val _]), (false, [PV.val _]), (false, [PV.val _])]) (as_ := [(false, [PV.val _]), (false, [PV.val _]), (false, [PV.val _])]) (by decide) c_71 (by exact (And.intro (by exact ⟨⟩) (And.intro (ok_sc rfl) (And.intro (ok_sc rfl) True.intro)))) (by exact (And.intro (And.intro rfl (ToL.cons (PV.To.refl _) ToL.nil)) (And.intro (And.intro rfl (ToL.cons (PV.To.refl _) ToL.nil)) (And.intro (And.intro rfl (ToL.cons (PV.To.refl _) ToL.nil)) True.intro)))) (by exact impl_within)) (y := ?_)
  refine RunS.s1 (x := loc_not (by decide)) (y := ?_)
  refine RunS.s1 (x := loc_copy (.inl rfl) (by decide) (by exact Cp.sc)) (y := ?_)
  refine RunS.cases (s := 11) rfl (fun g1 => ?_) (fun g1 => ?_)
  · have sg1 := g1
    try simp only [q1, q2, q3, q4, q5, q6, q7, q8, q9] at sg1
    refine RunS.s0t g1 ?_
    refine RunS.s0t g1 ?_
    refine RunS.s0t g1 ?_
    refine RunS.s0t g1 ?_
    refine RunS.s1 (x := loc_pick (z := .const (.bool true)) (by decide) (by rw [g1]; rfl) (by exact ⟨⟩) (ok_sc rfl) (by exact Cp.sc)) (y := ?_)
    refine RunS.s1 (x := loc_copy (.inl rfl) (by decide) (by exact Cp.sc)) (y := ?_)
    refine RunS.cases (s := 17) rfl (fun g2 => ?_) (fun g2 => nomatch g2)
    refine RunS.s0t g2 ?_
    refine RunS.s0t g2 ?_
    refine RunS.s0t g2 ?_
    refine RunS.s0t g2 ?_
    refine RunS.s1 (x := loc_pick (z := .const (.bool true)) (by decide) (by rw [g2]; rfl) (by exact ⟨⟩) (ok_sc rfl) (by exact Cp.sc)) (y := ?_)
    refine sw_cond (t := 22) rfl (fun hb_ => ?_) (fun hb_ => nomatch hb_)
    have hbad0 : okQuery x = false := by first | (simp_all [okQuery]; done) | (simp_all [okQuery]; rfl) | (simp_all [okQuery]; omega) | (simp_all [okQuery]; intros; omega)
    refine sw_seq ?_
    refine sw_of (l := [(1, RV.ptr 1 0), (2, RV.sv false [PV.val _])]) (b := [(1, (34, [PV.val _, PV.val _, PV.sl _ _, PV.sl _ _]))]) (by exact ⟨rfl, rfl, ⟨⟩⟩) (by exact ⟨rfl, ⟨⟩⟩) ?_
    refine sw_reg ?_
    refine RunS.s1 (x := loc_const (.inr rfl) (by decide) (ok_sc rfl)) (y := ?_)
    refine sw_ret ?_
    exact (And.intro (by refine bool_eq ?_; first | exact hbad0.symm | (simp [okQuery, okConds, hbad]; done) | (simp [okQuery, okFields, hn3]; done) | (simp_all [okQuery, okConds, okFields]; done) | (simp_all [okQuery, okConds, okFields]; rfl) | (simp_all [okQuery, okConds, okFields]; omega) | (simp_all [okQuery, okConds, okFields]; intros; omega)) True.intro)
  · have sg1 := g1
    try simp only [q1, q2, q3, q4, q5, q6, q7, q8, q9] at sg1
    refine RunS.s2 (hb := g1) (x := loc_field (by decide) fd_34_1) (y := ?_)
    refine RunS.s2 (hb := g1) (x := loc_load (qs := [PV.val _]) (by decide) ty_3 (fun _ => rfl) (by exact Nat.le_of_ble_eq_true rfl) (by exact (ToL.cons (PV.To.refl _) ToL.nil)) (by exact (BorL.cons (PV.bor_val _) BorL.nil))) (y := ?_)
    refine RunS.s2 (hb := g1) (x := loc_call (qs := [(false, [PV.val _]), (false, [PV.val _]), (false, [PV.val _])]) (as_ := [(false, [PV.val _]), (false, [PV.val _]), (false, [PV.val _])]) (by decide) c_71 (by exact (And.intro (by exact ⟨⟩) (And.intro (ok_sc rfl) (And.intro (ok_sc rfl) True.intro)))) (by exact (And.intro (And.intro rfl (ToL.cons (PV.To.refl _) ToL.nil)) (And.intro (And.intro rfl (ToL.cons (PV.To.refl _) ToL.nil)) (And.intro (And.intro rfl (ToL.cons (PV.To.refl _) ToL.nil)) True.intro)))) (by exact impl_within)) (y := ?_)
    refine RunS.s2 (hb := g1) (x := loc_not (by decide)) (y := ?_)
    refine RunS.s1 (x := loc_pick (z := .tmp 15) (by decide) (by rw [g1]; rfl) (by exact ⟨⟩) (by exact ⟨⟩) (by exact Cp.sc)) (y := ?_)
    refine RunS.s1 (x := loc_copy (.inl rfl) (by decide) (by exact Cp.sc)) (y := ?_)
    refine RunS.cases (s := 17) rfl (fun g4 => ?_) (fun g4 => ?_)
    · have sg4 := g4
      try simp only [q1, q2, q3, q4, q5, q6, q7, q8, q9] at sg4
      refine RunS.s0t g4 ?_
      refine RunS.s0t g4 ?_
      refine RunS.s0t g4 ?_
      refine RunS.s0t g4 ?_
      refine RunS.s1 (x := loc_pick (z := .const (.bool true)) (by decide) (by rw [g4]; rfl) (by exact ⟨⟩) (ok_sc rfl) (by exact Cp.sc)) (y := ?_)
      refine sw_cond (t := 22) rfl (fun hb_ => ?_) (fun hb_ => nomatch hb_)
      have hbad0 : okQuery x = false := by first | (simp_all [okQuery]; done) | (simp_all [okQuery]; rfl) | (simp_all [okQuery]; omega) | (simp_all [okQuery]; intros; omega)
      refine sw_seq ?_
      refine sw_of (l := [(1, RV.ptr 1 0), (2, RV.sv false [PV.val _])]) (b := [(1, (34, [PV.val _, PV.val _, PV.sl _ _, PV.sl _ _]))]) (by exact ⟨rfl, rfl, ⟨⟩⟩) (by exact ⟨rfl, ⟨⟩⟩) ?_
      refine sw_reg ?_
      refine RunS.s1 (x := loc_const (.inr rfl) (by decide) (ok_sc rfl)) (y := ?_)
      refine sw_ret ?_
      exact (And.intro (by refine bool_eq ?_; first | exact hbad0.symm | (simp [okQuery, okConds, hbad]; done) | (simp [okQuery, okFields, hn3]; done) | (simp_all [okQuery, okConds, okFields]; done) | (simp_all [okQuery, okConds, okFields]; rfl) | (simp_all [okQuery, okConds, okFields]; omega) | (simp_all [okQuery, okConds, okFields]; intros; omega)) True.intro)
    · have sg4 := g4
      try simp only [q1, q2, q3, q4, q5, q6, q7, q8, q9] at sg4
      refine RunS.s2 (hb := g4) (x := loc_field (by decide) fd_34_2) (y := ?_)
      refine RunS.s2 (hb := g4) (x := loc_load (qs := [PV.sl .v _]) (by decide) ty_32 (fun _ => rfl) (by exact Nat.le_of_ble_eq_true rfl) (by exact (ToL.cons PV.to_none ToL.nil)) (by exact (BorL.cons (PV.bor_sl _) BorL.nil))) (y := ?_)
      refine RunS.s2 (hb := g4) (x := loc_len (by decide) sl_32 (by first | exact List.length_map _ | exact rfl)) (y := ?_)
      refine RunS.s2 (hb := g4) (x := loc_gtr (by decide) (by exact ⟨⟩) (ok_sc rfl)) (y := ?_)
      refine RunS.s1 (x := loc_pick (z := .tmp 21) (by decide) (by rw [g4]; rfl) (by exact ⟨⟩) (by exact ⟨⟩) (by exact Cp.sc)) (y := ?_)
      refine sw_cond (t := 22) rfl (fun hb6 => ?_) (fun hb6 => ?_)
      · try simp only [q1, q2, q3, q4, q5, q6, q7, q8, q9] at hb6
        have hbad0 : okQuery x = false := by first | (simp_all [okQuery]; done) | (simp_all [okQuery]; rfl) | (simp_all [okQuery]; omega) | (simp_all [okQuery]; intros; omega)
        refine sw_seq ?_
        refine sw_of (l := [(1, RV.ptr 1 0), (2, RV.sv false [PV.val _])]) (b := [(1, (34, [PV.val _, PV.val _, PV.sl _ _, PV.sl _ _]))]) (by exact ⟨rfl, rfl, ⟨⟩⟩) (by exact ⟨rfl, ⟨⟩⟩) ?_
        refine sw_reg ?_
        refine RunS.s1 (x := loc_const (.inr rfl) (by decide) (ok_sc rfl)) (y := ?_)
        refine sw_ret ?_
        exact (And.intro (by refine bool_eq ?_; first | exact hbad0.symm | (simp [okQuery, okConds, hbad]; done) | (simp [okQuery, okFields, hn3]; done) | (simp_all [okQuery, okConds, okFields]; done) | (simp_all [okQuery, okConds, okFields]; rfl) | (simp_all [okQuery, okConds, okFields]; omega) | (simp_all [okQuery, okConds, okFields]; intros; omega)) True.intro)
      · try simp only [q1, q2, q3, q4, q5, q6, q7, q8, q9] at hb6
        have hfirst : (inB x.Id 0 23 && (inB x.Tenant 0 3 && decide ((x.Conds.length : Int) ≤ 3))) = true := by simp_all
        refine sw_skip ?_
        refine sw_seq ?_
        refine sw_seq ?_
        refine sw_of (l := [(1, RV.ptr 1 0), (2, RV.sv false [PV.val _])]) (b := [(1, (34, [PV.val _, PV.val _, PV.sl _ _, PV.sl _ _]))]) (by exact ⟨rfl, rfl, ⟨⟩⟩) (by exact ⟨rfl, ⟨⟩⟩) ?_
        refine sw_reg ?_
        refine RunS.s1 (x := loc_field (by decide) fd_34_2) (y := ?_)
        refine RunS.s1 (x := loc_load (qs := [PV.sl .v _]) (by decide) ty_32 (fun _ => rfl) (by exact Nat.le_of_ble_eq_true rfl) (by exact (ToL.cons PV.to_none ToL.nil)) (by exact (BorL.cons (PV.bor_sl _) BorL.nil))) (y := ?_)
        refine RunS.s1 (x := loc_len (by decide) sl_32 (by first | exact List.length_map _ | exact rfl)) (y := ?_)
        refine RunS.s1 (x := loc_const (.inl rfl) (by decide) (ok_sc rfl)) (y := ?_)
        refine sw_block ?_
        refine sw_of (l := [(1, RV.ptr 1 0), (2, RV.sv false [PV.val _]), (24, RV.sv false [PV.sl _ _]), (25, RV.sv false [PV.val _]), (26, RV.sv false [PV.val _])]) (b := [(1, (34, [PV.val _, PV.val _, PV.sl _ _, PV.sl _ _]))]) (by exact ⟨rfl, rfl, rfl, rfl, rfl, ⟨⟩⟩) (by exact ⟨rfl, ⟨⟩⟩) ?_
        refine sw_loop (l0 := [(1, RV.ptr 1 0), (24, RV.sv false [PV.sl _ _]), (25, RV.sv false [PV.val _])]) (b0 := [(1, (34, [PV.val _, PV.val _, PV.sl _ _, PV.sl _ _]))]) (fun k : Nat => k ≤ x.Conds.length ∧ adjTo ⟨0, 0, 0⟩ okCond ltField x.Conds k = true) (fun k : Nat => [(26, RV.int (k : Int))]) (fun k : Nat => []) (fun k : Nat => x.Conds.length - k) 0 (by exact ⟨by omega, rfl⟩) (by exact ⟨rfl, rfl, rfl, ⟨⟩⟩) (by exact ⟨rfl, ⟨⟩⟩) (by exact And.intro (by exact rfl) (True.intro)) (by exact ⟨⟩) ?_
        rintro k ⟨hk, ha⟩
        refine sw_seq ?_
        refine sw_reg ?_
        refine RunS.s1 (x := loc_lss (by decide) (by exact ⟨⟩) (by exact ⟨⟩)) (y := ?_)
        refine sw_seq ?_
        refine sw_cond (t := 27) rfl (fun hb7 => ?_) (fun hb7 => ?_)
        · try simp only [q1, q2, q3, q4, q5, q6, q7, q8, q9] at hb7
          have hlt : k < x.Conds.length := by omega
          have hgk : x.Conds.getD k ⟨0, 0, 0⟩ = x.Conds[k] := getD_at hlt
          have hgp : 0 < k → x.Conds.getD (k - 1) ⟨0, 0, 0⟩ = x.Conds[k - 1] := fun h => getD_at (by omega)
          refine sw_skip ?_
          refine sw_seq ?_
          refine sw_block ?_
          refine sw_seq ?_
          refine sw_of (l := [(1, RV.ptr 1 0), (24, RV.sv false [PV.sl _ _]), (25, RV.sv false [PV.val _]), (26, RV.sv false [PV.val _])]) (b := [(1, (34, [PV.val _, PV.val _, PV.sl _ _, PV.sl _ _]))]) (by exact ⟨rfl, rfl, rfl, rfl, ⟨⟩⟩) (by exact ⟨rfl, ⟨⟩⟩) ?_
          refine sw_reg ?_
          refine RunS.s1 (x := loc_copy (.inl rfl) (by decide) (by exact Cp.sc)) (y := ?_)
          refine RunS.s1 (x := loc_index (by decide) sl_32 (by exact ⟨⟩) (by exact rfl) (by exact getm2 (by omega) rfl) (by exact rfl)) (y := ?_)
          refine RunS.s1 (x := loc_eload (qs := [PV.val _, PV.val _, PV.val _]) (by decide) ty_73 (fun h => nomatch h) (by exact Nat.le_of_ble_eq_true rfl) (by exact (ToL.cons (PV.To.refl _) (ToL.cons (PV.To.refl _) (ToL.cons (PV.To.refl _) ToL.nil)))) (by exact (BorL.cons (PV.bor_val _) (BorL.cons (PV.bor_val _) (BorL.cons (PV.bor_val _) BorL.nil))))) (y := ?_)
          refine RunS.step (by exact ⟨⟩) (by exact ⟨⟩) (LocG.of rfl (loc_alloc (by decide) z_73 zo_73)) (free1 (Free.app (Free.app (Free.app (Free.of_ rfl) rfl) rfl) rfl)) ?_
          refine RunS.s1 (x := loc_copy (.inr rfl) (by decide) (by exact Cp.sc)) (y := ?_)
          refine RunS.s1 (x := loc_store (ag := true) (vs := [PV.val _, PV.val _, PV.val _]) ty_73 (by exact ⟨⟩) (by exact rfl) (by exact Nat.le_of_ble_eq_true rfl)) (y := ?_)
          refine sw_seq ?_
          refine sw_of (l := [(1, RV.ptr 1 0), (3, RV.sv false [PV.val _]), (4, RV.ptr 4 0), (24, RV.sv false [PV.sl _ _]), (25, RV.sv false [PV.val _]), (26, RV.sv false [PV.val _])]) (b := [(1, (34, [PV.val _, PV.val _, PV.sl _ _, PV.sl _ _])), (4, (73, [PV.val _, PV.val _, PV.val _]))]) (by exact ⟨rfl, rfl, rfl, rfl, rfl, rfl, ⟨⟩⟩) (by exact ⟨rfl, rfl, ⟨⟩⟩) ?_
          refine sw_draw hm_ ?_
          refine Run.step 0 (by exact ⟨rfl, ⟨⟩⟩) (by exact ⟨rfl, ⟨⟩⟩) (LocG.of rfl (loc_load (qs := [PV.val _, PV.val _, PV.val _]) (by decide) ty_73 (fun h => nomatch h) (by exact Nat.le_of_ble_eq_true rfl) (by exact (ToL.cons (PV.To.refl _) (ToL.cons (PV.To.refl _) (ToL.cons (PV.To.refl _) ToL.nil)))) (by exact (BorL.cons (PV.bor_val _) (BorL.cons (PV.bor_val _) (BorL.cons (PV.bor_val _) BorL.nil)))))) nofree (by kernel_rfl) ?_
          refine Run.step 1 (by exact ⟨rfl, ⟨⟩⟩) (by exact ⟨⟩) (LocG.of rfl (loc_call (qs := [(true, [PV.val _, PV.val _, PV.val _])]) (as_ := [(true, [PV.val _, PV.val _, PV.val _])]) (by decide) c_159 (by exact (And.intro (by exact ⟨⟩) True.intro)) (by exact (And.intro (And.intro rfl (ToL.cons (PV.To.refl _) (ToL.cons (PV.To.refl _) (ToL.cons (PV.To.refl _) ToL.nil)))) True.intro)) (by exact impl_IsCond))) nofree (by kernel_rfl) ?_
          refine Run.step 3 (by exact ⟨rfl, ⟨⟩⟩) (by exact ⟨⟩) (LocG.of rfl (loc_not (by decide))) nofree (by kernel_rfl) ?_
          refine Run.step 7 (by exact ⟨rfl, ⟨⟩⟩) (by exact ⟨⟩) (LocG.of rfl (loc_copy (.inl rfl) (by decide) (by exact Cp.sc))) nofree (by kernel_rfl) ?_
          refine Run.cases (s := 34) rfl (fun g8 => ?_) (fun g8 => ?_)
          · have sg8 := g8
            try simp only [q1, q2, q3, q4, q5, q6, q7, q8, q9] at sg8
            refine Run.step 15 (by exact ⟨rfl, ⟨⟩⟩) (by exact ⟨⟩) (LocG.no (ops := _) rfl rfl (by decide) g8 rfl) nofree (by kernel_rfl) ?_
            refine Run.step 31 (by exact ⟨rfl, ⟨⟩⟩) (by exact ⟨⟩) (LocG.no (ops := _) rfl rfl (by decide) g8 rfl) nofree (by kernel_rfl) ?_
            refine Run.step 63 (by exact ⟨rfl, ⟨⟩⟩) (by exact ⟨⟩) (LocG.no (ops := _) rfl rfl (by decide) g8 rfl) nofree (by kernel_rfl) ?_
            refine Run.step 127 (by exact ⟨rfl, ⟨⟩⟩) (by exact ⟨⟩) (LocG.noU (ops := _) rfl rfl rfl) nofree (by kernel_rfl) ?_
            refine Run.step 255 (by exact ⟨rfl, ⟨⟩⟩) (by exact ⟨⟩) (LocG.noU (ops := _) rfl rfl rfl) nofree (by kernel_rfl) ?_
            refine Run.step 127 (by exact ⟨rfl, ⟨⟩⟩) (by exact ⟨⟩) (LocG.noU (ops := _) rfl rfl rfl) nofree (by kernel_rfl) ?_
            refine Run.step 639 (by exact ⟨rfl, ⟨⟩⟩) (by exact ⟨⟩) (LocG.noU (ops := _) rfl rfl rfl) nofree (by kernel_rfl) ?_
            refine Run.step 2047 (by exact ⟨rfl, ⟨⟩⟩) (by exact ⟨⟩) (LocG.noU (ops := _) rfl rfl rfl) nofree (by kernel_rfl) ?_
            refine Run.step 4095 (by exact ⟨rfl, ⟨⟩⟩) (by exact ⟨⟩) (LocG.noU (ops := _) rfl rfl rfl) nofree (by kernel_rfl) ?_
            refine Run.step 8191 (by exact ⟨rfl, ⟨⟩⟩) (by exact ⟨⟩) (LocG.noU (ops := _) rfl rfl rfl) nofree (by kernel_rfl) ?_
            refine Run.step 127 (by exact ⟨rfl, ⟨⟩⟩) (by exact ⟨⟩) (LocG.noU (ops := _) rfl rfl rfl) nofree (by kernel_rfl) ?_
            refine Run.step 16511 (by exact ⟨rfl, ⟨⟩⟩) (by exact ⟨⟩) (LocG.noU (ops := _) rfl rfl rfl) nofree (by kernel_rfl) ?_
            refine Run.step 65535 (by exact ⟨rfl, ⟨⟩⟩) (by exact ⟨⟩) (LocG.noU (ops := _) rfl rfl rfl) nofree (by kernel_rfl) ?_
            refine Run.step 131071 (by exact ⟨rfl, ⟨⟩⟩) (by exact ⟨⟩) (LocG.no (ops := _) rfl rfl (by decide) g8 rfl) nofree (by kernel_rfl) ?_
            refine Run.step 262143 (by exact ⟨rfl, ⟨⟩⟩) (by exact ⟨⟩) (LocG.of rfl (loc_pick (z := .const (.bool true)) (by decide) (by rw [g8]; rfl) (by exact ⟨⟩) (ok_sc rfl) (by exact Cp.sc))) nofree (by kernel_rfl) ?_
            refine sw_cond (t := 49) rfl (fun hb_ => ?_) (fun hb_ => nomatch hb_)
            have hbad : adjAll ⟨0, 0, 0⟩ okCond ltField x.Conds = false := adj_no hlt (Bool.eq_false_iff.2 fun hx => by
              have hx := adjStep.1 hx
              rw [hgk] at hx
              obtain ⟨hx1, hx2⟩ := hx
              first
              | (simp_all; done)
              | (simp only [decide_eq_true_eq, ltField] at *; by_cases h0 : k = 0 <;> (try rw [hgp (by omega)] at hx2) <;> omega))
            refine sw_seq ?_
            refine sw_of (l := [(1, RV.ptr 1 0), (3, RV.sv false [PV.val _]), (4, RV.ptr 4 0), (24, RV.sv false [PV.sl _ _]), (25, RV.sv false [PV.val _]), (26, RV.sv false [PV.val _])]) (b := [(1, (34, [PV.val _, PV.val _, PV.sl _ _, PV.sl _ _])), (4, (73, [PV.val _, PV.val _, PV.val _]))]) (by exact ⟨rfl, rfl, rfl, rfl, rfl, rfl, ⟨⟩⟩) (by exact ⟨rfl, rfl, ⟨⟩⟩) ?_
            refine sw_reg ?_
            refine RunS.s1 (x := loc_const (.inr rfl) (by decide) (ok_sc rfl)) (y := ?_)
            refine sw_ret ?_
            exact (And.intro (by refine bool_eq ?_; first | exact hbad0.symm | (simp [okQuery, okConds, hbad]; done) | (simp [okQuery, okFields, hn3]; done) | (simp_all [okQuery, okConds, okFields]; done) | (simp_all [okQuery, okConds, okFields]; rfl) | (simp_all [okQuery, okConds, okFields]; omega) | (simp_all [okQuery, okConds, okFields]; intros; omega)) True.intro)
          · have sg8 := g8
            try simp only [q1, q2, q3, q4, q5, q6, q7, q8, q9] at sg8
            refine Run.step 15 (by exact ⟨rfl, rfl, ⟨⟩⟩) (by exact ⟨⟩) (LocG.yes rfl rfl (by decide) g8 (loc_copy (.inl rfl) (by decide) (by exact Cp.sc))) nofree (by kernel_rfl) ?_
            refine Run.step 31 (by exact ⟨rfl, rfl, ⟨⟩⟩) (by exact ⟨⟩) (LocG.yes rfl rfl (by decide) g8 (loc_gtr (by decide) (by exact ⟨⟩) (ok_sc rfl))) nofree (by kernel_rfl) ?_
            refine Run.step 63 (by exact ⟨rfl, rfl, ⟨⟩⟩) (by exact ⟨⟩) (LocG.yes rfl rfl (by decide) g8 (loc_copy (.inl rfl) (by decide) (by exact Cp.sc))) nofree (by kernel_rfl) ?_
            refine Run.cases (s := 37) rfl (fun g10 => ?_) (fun g10 => ?_)
            · have sg10 := g10
              try simp only [q1, q2, q3, q4, q5, q6, q7, q8, q9] at sg10
              refine Run.step 127 (by exact ⟨rfl, rfl, ⟨⟩⟩) (by exact ⟨⟩) (LocG.yes rfl rfl (by decide) g10 (loc_field (by decide) fd_34_2)) nofree (by kernel_rfl) ?_
              refine Run.step 255 (by exact ⟨rfl, rfl, ⟨⟩⟩) (by exact ⟨rfl, ⟨⟩⟩) (LocG.yes rfl rfl (by decide) g10 (loc_load (qs := [PV.sl .v _]) (by decide) ty_32 (fun _ => rfl) (by exact Nat.le_of_ble_eq_true rfl) (by exact (ToL.cons PV.to_none ToL.nil)) (by exact (BorL.cons (PV.bor_sl _) BorL.nil)))) nofree (by kernel_rfl) ?_
              refine Run.step 127 (by exact ⟨rfl, rfl, ⟨⟩⟩) (by exact ⟨⟩) (LocG.yes rfl rfl (by decide) g10 (loc_copy (.inl rfl) (by decide) (by exact Cp.sc))) nofree (by kernel_rfl) ?_
              refine Run.step 639 (by exact ⟨rfl, rfl, ⟨⟩⟩) (by exact ⟨⟩) (LocG.yes rfl rfl (by decide) g10 (loc_sub (by decide) (by exact ⟨⟩) (ok_sc rfl) (by unfold I64; omega))) nofree (by kernel_rfl) ?_
              refine Run.step 2047 (by exact ⟨rfl, rfl, rfl, ⟨⟩⟩) (by exact ⟨⟩) (LocG.yes rfl rfl (by decide) g10 (loc_index (k := k - 1) (by decide) sl_32 (by exact ⟨⟩) (by omega) (by exact getm2 (by omega) rfl) (by exact rfl))) nofree (by kernel_rfl) ?_
              refine Run.step 4095 (by exact ⟨rfl, rfl, ⟨⟩⟩) (by exact ⟨⟩) (LocG.yes rfl rfl (by decide) g10 (loc_efield (by decide) fd_73_0 (by exact Nat.le_of_ble_eq_true rfl))) nofree (by kernel_rfl) ?_
              refine Run.step 8191 (by exact ⟨rfl, rfl, ⟨⟩⟩) (by exact ⟨⟩) (LocG.yes rfl rfl (by decide) g10 (loc_eload (qs := [PV.val _]) (by decide) ty_3 (fun _ => rfl) (by exact Nat.le_of_ble_eq_true rfl) (by exact (ToL.cons (PV.To.refl _) ToL.nil)) (by exact (BorL.cons (PV.bor_val _) BorL.nil)))) nofree (by kernel_rfl) ?_
              refine Run.step 127 (by exact ⟨rfl, rfl, ⟨⟩⟩) (by exact ⟨⟩) (LocG.yes rfl rfl (by decide) g10 (loc_field (by decide) fd_73_0)) nofree (by kernel_rfl) ?_
              refine Run.step 16511 (by exact ⟨rfl, rfl, ⟨⟩⟩) (by exact ⟨rfl, ⟨⟩⟩) (LocG.yes rfl rfl (by decide) g10 (loc_load (qs := [PV.val _]) (by decide) ty_3 (fun _ => rfl) (by exact Nat.le_of_ble_eq_true rfl) (by exact (ToL.cons (PV.To.refl _) ToL.nil)) (by exact (BorL.cons (PV.bor_val _) BorL.nil)))) nofree (by kernel_rfl) ?_
              refine Run.step 65535 (by exact ⟨rfl, rfl, rfl, ⟨⟩⟩) (by exact ⟨⟩) (LocG.yes rfl rfl (by decide) g10 (loc_geq (by decide) (by exact ⟨⟩) (by exact ⟨⟩))) nofree (by kernel_rfl) ?_
              refine Run.step 131071 (by exact ⟨rfl, rfl, rfl, ⟨⟩⟩) (by exact ⟨⟩) (LocG.yes rfl rfl (by decide) g8 (loc_pick (z := .tmp 47) (by decide) (by rw [g10]; rfl) (by exact ⟨⟩) (by exact ⟨⟩) (by exact Cp.sc))) nofree (by kernel_rfl) ?_
              refine Run.step 262143 (by exact ⟨rfl, rfl, ⟨⟩⟩) (by exact ⟨⟩) (LocG.of rfl (loc_pick (z := .tmp 48) (by decide) (by rw [g8]; rfl) (by exact ⟨⟩) (by exact ⟨⟩) (by exact Cp.sc))) nofree (by kernel_rfl) ?_
              refine sw_cond (t := 49) rfl (fun hb11 => ?_) (fun hb11 => ?_)
              · try simp only [q1, q2, q3, q4, q5, q6, q7, q8, q9] at hb11
                have hbad : adjAll ⟨0, 0, 0⟩ okCond ltField x.Conds = false := adj_no hlt (Bool.eq_false_iff.2 fun hx => by
                  have hx := adjStep.1 hx
                  rw [hgk] at hx
                  obtain ⟨hx1, hx2⟩ := hx
                  first
                  | (simp_all; done)
                  | (simp only [decide_eq_true_eq, ltField] at *; by_cases h0 : k = 0 <;> (try rw [hgp (by omega)] at hx2) <;> omega))
                refine sw_seq ?_
                refine sw_of (l := [(1, RV.ptr 1 0), (3, RV.sv false [PV.val _]), (4, RV.ptr 4 0), (24, RV.sv false [PV.sl _ _]), (25, RV.sv false [PV.val _]), (26, RV.sv false [PV.val _])]) (b := [(1, (34, [PV.val _, PV.val _, PV.sl _ _, PV.sl _ _])), (4, (73, [PV.val _, PV.val _, PV.val _]))]) (by exact ⟨rfl, rfl, rfl, rfl, rfl, rfl, ⟨⟩⟩) (by exact ⟨rfl, rfl, ⟨⟩⟩) ?_
                refine sw_reg ?_
                refine RunS.s1 (x := loc_const (.inr rfl) (by decide) (ok_sc rfl)) (y := ?_)
                refine sw_ret ?_
                exact (And.intro (by refine bool_eq ?_; first | exact hbad0.symm | (simp [okQuery, okConds, hbad]; done) | (simp [okQuery, okFields, hn3]; done) | (simp_all [okQuery, okConds, okFields]; done) | (simp_all [okQuery, okConds, okFields]; rfl) | (simp_all [okQuery, okConds, okFields]; omega) | (simp_all [okQuery, okConds, okFields]; intros; omega)) True.intro)
              · try simp only [q1, q2, q3, q4, q5, q6, q7, q8, q9] at hb11
                refine sw_skip ?_
                refine sw_of (l := [(1, RV.ptr 1 0), (3, RV.sv false [PV.val _]), (4, RV.ptr 4 0), (24, RV.sv false [PV.sl _ _]), (25, RV.sv false [PV.val _]), (26, RV.sv false [PV.val _])]) (b := [(1, (34, [PV.val _, PV.val _, PV.sl _ _, PV.sl _ _])), (4, (73, [PV.val _, PV.val _, PV.val _]))]) (by exact ⟨rfl, rfl, rfl, rfl, rfl, rfl, ⟨⟩⟩) (by exact ⟨rfl, rfl, ⟨⟩⟩) ?_
                refine sw_reg ?_
                refine RunS.s1 (x := loc_add (by decide) (by exact ⟨⟩) (ok_sc rfl) (by unfold I64; omega)) (y := ?_)
                refine RunS.s1 (x := loc_copy (.inl rfl) (by decide) (by exact Cp.sc)) (y := ?_)
                refine Exists.intro (k + 1) (And.intro (by exact ⟨by omega, by rw [adjTo_succ, ha, Bool.true_and]; refine adjStep.2 ⟨by rw [hgk]; first | assumption | simp_all, ?_⟩; rcases Nat.eq_zero_or_pos k with h0 | h0; (· exact .inl h0); (· right; rw [hgk, hgp h0]; first | (simp only [decide_eq_true_eq, ltField] at *; omega) | (simp_all; done))⟩) (And.intro (by omega) (And.intro (And.intro (by exact ⟨rfl, rfl, rfl, ⟨⟩⟩) (by exact ⟨rfl, ⟨⟩⟩)) (And.intro (by exact And.intro (by exact rfl) (True.intro)) (by exact ⟨⟩)))))
            · have sg10 := g10
              try simp only [q1, q2, q3, q4, q5, q6, q7, q8, q9] at sg10
              refine Run.step 127 (by exact ⟨rfl, ⟨⟩⟩) (by exact ⟨⟩) (LocG.no (ops := _) rfl rfl (by decide) g10 rfl) nofree (by kernel_rfl) ?_
              refine Run.step 255 (by exact ⟨rfl, ⟨⟩⟩) (by exact ⟨⟩) (LocG.no (ops := _) rfl rfl (by decide) g10 rfl) nofree (by kernel_rfl) ?_
              refine Run.step 127 (by exact ⟨rfl, ⟨⟩⟩) (by exact ⟨⟩) (LocG.no (ops := _) rfl rfl (by decide) g10 rfl) nofree (by kernel_rfl) ?_
              refine Run.step 639 (by exact ⟨rfl, ⟨⟩⟩) (by exact ⟨⟩) (LocG.no (ops := _) rfl rfl (by decide) g10 rfl) nofree (by kernel_rfl) ?_
              refine Run.step 2047 (by exact ⟨rfl, ⟨⟩⟩) (by exact ⟨⟩) (LocG.no (ops := _) rfl rfl (by decide) g10 rfl) nofree (by kernel_rfl) ?_
              refine Run.step 4095 (by exact ⟨rfl, ⟨⟩⟩) (by exact ⟨⟩) (LocG.no (ops := _) rfl rfl (by decide) g10 rfl) nofree (by kernel_rfl) ?_
              refine Run.step 8191 (by exact ⟨rfl, ⟨⟩⟩) (by exact ⟨⟩) (LocG.no (ops := _) rfl rfl (by decide) g10 rfl) nofree (by kernel_rfl) ?_
              refine Run.step 127 (by exact ⟨rfl, ⟨⟩⟩) (by exact ⟨⟩) (LocG.no (ops := _) rfl rfl (by decide) g10 rfl) nofree (by kernel_rfl) ?_
              refine Run.step 16511 (by exact ⟨rfl, ⟨⟩⟩) (by exact ⟨⟩) (LocG.no (ops := _) rfl rfl (by decide) g10 rfl) nofree (by kernel_rfl) ?_
              refine Run.step 65535 (by exact ⟨rfl, ⟨⟩⟩) (by exact ⟨⟩) (LocG.no (ops := _) rfl rfl (by decide) g10 rfl) nofree (by kernel_rfl) ?_
              refine Run.step 131071 (by exact ⟨rfl, rfl, ⟨⟩⟩) (by exact ⟨⟩) (LocG.yes rfl rfl (by decide) g8 (loc_pick (z := .const (.bool false)) (by decide) (by rw [g10]; rfl) (by exact ⟨⟩) (ok_sc rfl) (by exact Cp.sc))) nofree (by kernel_rfl) ?_
              refine Run.step 262143 (by exact ⟨rfl, rfl, ⟨⟩⟩) (by exact ⟨⟩) (LocG.of rfl (loc_pick (z := .tmp 48) (by decide) (by rw [g8]; rfl) (by exact ⟨⟩) (by exact ⟨⟩) (by exact Cp.sc))) nofree (by kernel_rfl) ?_
              refine sw_cond (t := 49) rfl (fun hb_ => nomatch hb_) (fun hb_ => ?_)
              refine sw_skip ?_
              refine sw_of (l := [(1, RV.ptr 1 0), (3, RV.sv false [PV.val _]), (4, RV.ptr 4 0), (24, RV.sv false [PV.sl _ _]), (25, RV.sv false [PV.val _]), (26, RV.sv false [PV.val _])]) (b := [(1, (34, [PV.val _, PV.val _, PV.sl _ _, PV.sl _ _])), (4, (73, [PV.val _, PV.val _, PV.val _]))]) (by exact ⟨rfl, rfl, rfl, rfl, rfl, rfl, ⟨⟩⟩) (by exact ⟨rfl, rfl, ⟨⟩⟩) ?_
              refine sw_reg ?_
              refine RunS.s1 (x := loc_add (by decide) (by exact ⟨⟩) (ok_sc rfl) (by unfold I64; omega)) (y := ?_)
              refine RunS.s1 (x := loc_copy (.inl rfl) (by decide) (by exact Cp.sc)) (y := ?_)
              refine Exists.intro (k + 1) (And.intro (by exact ⟨by omega, by rw [adjTo_succ, ha, Bool.true_and]; refine adjStep.2 ⟨by rw [hgk]; first | assumption | simp_all, ?_⟩; rcases Nat.eq_zero_or_pos k with h0 | h0; (· exact .inl h0); (· right; rw [hgk, hgp h0]; first | (simp only [decide_eq_true_eq, ltField] at *; omega) | (simp_all; done))⟩) (And.intro (by omega) (And.intro (And.intro (by exact ⟨rfl, rfl, rfl, ⟨⟩⟩) (by exact ⟨rfl, ⟨⟩⟩)) (And.intro (by exact And.intro (by exact rfl) (True.intro)) (by exact ⟨⟩)))))
        · try simp only [q1, q2, q3, q4, q5, q6, q7, q8, q9] at hb7
          have hend : k = x.Conds.length := by omega
          have hall : adjAll ⟨0, 0, 0⟩ okCond ltField x.Conds = true := adj_end ha hend
          refine sw_exit ?_
          refine sw_seq ?_
          refine sw_seq ?_
          refine sw_of (l := [(1, RV.ptr 1 0), (24, RV.sv false [PV.sl _ _]), (25, RV.sv false [PV.val _]), (26, RV.sv false [PV.val _])]) (b := [(1, (34, [PV.val _, PV.val _, PV.sl _ _, PV.sl _ _]))]) (by exact ⟨rfl, rfl, rfl, rfl, ⟨⟩⟩) (by exact ⟨rfl, ⟨⟩⟩) ?_
          refine sw_reg ?_
          refine RunS.s1 (x := loc_field (by decide) fd_34_3) (y := ?_)
          refine RunS.s1 (x := loc_load (qs := [PV.sl .v _]) (by decide) ty_23 (fun _ => rfl) (by exact Nat.le_of_ble_eq_true rfl) (by exact (ToL.cons PV.to_none ToL.nil)) (by exact (BorL.cons (PV.bor_sl _) BorL.nil))) (y := ?_)
          refine RunS.s1 (x := loc_len (by decide) sl_23 (by first | exact List.length_map _ | exact rfl)) (y := ?_)
          refine RunS.s1 (x := loc_const (.inl rfl) (by decide) (ok_sc rfl)) (y := ?_)
          refine sw_block ?_
          refine sw_of (l := [(1, RV.ptr 1 0), (24, RV.sv false [PV.sl _ _]), (25, RV.sv false [PV.val _]), (26, RV.sv false [PV.val _]), (52, RV.sv false [PV.sl _ _]), (53, RV.sv false [PV.val _]), (54, RV.sv false [PV.val _])]) (b := [(1, (34, [PV.val _, PV.val _, PV.sl _ _, PV.sl _ _]))]) (by exact ⟨rfl, rfl, rfl, rfl, rfl, rfl, rfl, ⟨⟩⟩) (by exact ⟨rfl, ⟨⟩⟩) ?_
          refine sw_loop (l0 := [(1, RV.ptr 1 0), (24, RV.sv false [PV.sl _ _]), (25, RV.sv false [PV.val _]), (26, RV.sv false [PV.val _]), (52, RV.sv false [PV.sl _ _]), (53, RV.sv false [PV.val _])]) (b0 := [(1, (34, [PV.val _, PV.val _, PV.sl _ _, PV.sl _ _]))]) (fun k2 : Nat => k2 ≤ x.Out.length ∧ (x.Out.take k2).all okOut = true) (fun k2 : Nat => [(54, RV.int (k2 : Int))]) (fun k2 : Nat => []) (fun k2 : Nat => x.Out.length - k2) 0 (by exact ⟨by omega, by simp⟩) (by exact ⟨rfl, rfl, rfl, rfl, rfl, rfl, ⟨⟩⟩) (by exact ⟨rfl, ⟨⟩⟩) (by exact And.intro (by exact rfl) (True.intro)) (by exact ⟨⟩) ?_
          rintro k2 ⟨hk2, ha2⟩
          refine sw_seq ?_
          refine sw_reg ?_
          refine RunS.s1 (x := loc_lss (by decide) (by exact ⟨⟩) (by exact ⟨⟩)) (y := ?_)
          refine sw_seq ?_
          refine sw_cond (t := 55) rfl (fun hb13 => ?_) (fun hb13 => ?_)
          · try simp only [q1, q2, q3, q4, q5, q6, q7, q8, q9] at hb13
            have hlt2 : k2 < x.Out.length := by omega
            refine sw_skip ?_
            refine sw_seq ?_
            refine sw_block ?_
            refine sw_seq ?_
            refine sw_of (l := [(1, RV.ptr 1 0), (24, RV.sv false [PV.sl _ _]), (25, RV.sv false [PV.val _]), (26, RV.sv false [PV.val _]), (52, RV.sv false [PV.sl _ _]), (53, RV.sv false [PV.val _]), (54, RV.sv false [PV.val _])]) (b := [(1, (34, [PV.val _, PV.val _, PV.sl _ _, PV.sl _ _]))]) (by exact ⟨rfl, rfl, rfl, rfl, rfl, rfl, rfl, ⟨⟩⟩) (by exact ⟨rfl, ⟨⟩⟩) ?_
            refine sw_reg ?_
            refine RunS.s1 (x := loc_index (by decide) sl_23 (by exact ⟨⟩) (by exact rfl) (by exact getm2 (by omega) rfl) (by exact rfl)) (y := ?_)
            refine RunS.s1 (x := loc_eload (qs := [PV.val _]) (by decide) ty_3 (fun _ => rfl) (by exact Nat.le_of_ble_eq_true rfl) (by exact (ToL.cons (PV.To.refl _) ToL.nil)) (by exact (BorL.cons (PV.bor_val _) BorL.nil))) (y := ?_)
            refine RunS.s1 (x := loc_copy (.inr rfl) (by decide) (by exact Cp.sc)) (y := ?_)
            refine sw_seq ?_
            refine sw_of (l := [(1, RV.ptr 1 0), (6, RV.sv false [PV.val _]), (24, RV.sv false [PV.sl _ _]), (25, RV.sv false [PV.val _]), (26, RV.sv false [PV.val _]), (52, RV.sv false [PV.sl _ _]), (53, RV.sv false [PV.val _]), (54, RV.sv false [PV.val _])]) (b := [(1, (34, [PV.val _, PV.val _, PV.sl _ _, PV.sl _ _]))]) (by exact ⟨rfl, rfl, rfl, rfl, rfl, rfl, rfl, rfl, ⟨⟩⟩) (by exact ⟨rfl, ⟨⟩⟩) ?_
            refine sw_reg ?_
            refine RunS.s1 (x := loc_copy (.inl rfl) (by decide) (by exact Cp.sc)) (y := ?_)
            refine RunS.s1 (x := loc_call (qs := [(false, [PV.val _])]) (as_ := [(false, [PV.val _])]) (by decide) c_138 (by exact (And.intro (by exact ⟨⟩) True.intro)) (by exact (And.intro (And.intro rfl (ToL.cons (PV.To.refl _) ToL.nil)) True.intro)) (by exact impl_isField)) (y := ?_)
            refine RunS.s1 (x := loc_not (by decide)) (y := ?_)
            refine sw_cond (t := 60) rfl (fun hb14 => ?_) (fun hb14 => ?_)
            · try simp only [q1, q2, q3, q4, q5, q6, q7, q8, q9] at hb14
              have hno2 : okOut x.Out[k2] = false := by simpa [okOut] using hb14
              have hn3 : x.Out.all okOut = false := all_no hlt2 hno2
              refine sw_seq ?_
              refine sw_of (l := [(1, RV.ptr 1 0), (6, RV.sv false [PV.val _]), (24, RV.sv false [PV.sl _ _]), (25, RV.sv false [PV.val _]), (26, RV.sv false [PV.val _]), (52, RV.sv false [PV.sl _ _]), (53, RV.sv false [PV.val _]), (54, RV.sv false [PV.val _])]) (b := [(1, (34, [PV.val _, PV.val _, PV.sl _ _, PV.sl _ _]))]) (by exact ⟨rfl, rfl, rfl, rfl, rfl, rfl, rfl, rfl, ⟨⟩⟩) (by exact ⟨rfl, ⟨⟩⟩) ?_
              refine sw_reg ?_
              refine RunS.s1 (x := loc_const (.inr rfl) (by decide) (ok_sc rfl)) (y := ?_)
              refine sw_ret ?_
              exact (And.intro (by refine bool_eq ?_; first | exact hbad0.symm | (simp [okQuery, okConds, hbad]; done) | (simp [okQuery, okFields, hn3]; done) | (simp_all [okQuery, okConds, okFields]; done) | (simp_all [okQuery, okConds, okFields]; rfl) | (simp_all [okQuery, okConds, okFields]; omega) | (simp_all [okQuery, okConds, okFields]; intros; omega)) True.intro)
            · try simp only [q1, q2, q3, q4, q5, q6, q7, q8, q9] at hb14
              have hyes : okOut x.Out[k2] = true := by simpa [okOut] using hb14
              refine sw_skip ?_
              refine sw_of (l := [(1, RV.ptr 1 0), (6, RV.sv false [PV.val _]), (24, RV.sv false [PV.sl _ _]), (25, RV.sv false [PV.val _]), (26, RV.sv false [PV.val _]), (52, RV.sv false [PV.sl _ _]), (53, RV.sv false [PV.val _]), (54, RV.sv false [PV.val _])]) (b := [(1, (34, [PV.val _, PV.val _, PV.sl _ _, PV.sl _ _]))]) (by exact ⟨rfl, rfl, rfl, rfl, rfl, rfl, rfl, rfl, ⟨⟩⟩) (by exact ⟨rfl, ⟨⟩⟩) ?_
              refine sw_reg ?_
              refine RunS.s1 (x := loc_add (by decide) (by exact ⟨⟩) (ok_sc rfl) (by unfold I64; omega)) (y := ?_)
              refine RunS.s1 (x := loc_copy (.inl rfl) (by decide) (by exact Cp.sc)) (y := ?_)
              refine Exists.intro (k2 + 1) (And.intro (by exact ⟨by omega, all_succ ha2 hlt2 hyes⟩) (And.intro (by omega) (And.intro (And.intro (by exact ⟨rfl, rfl, rfl, rfl, rfl, rfl, ⟨⟩⟩) (by exact ⟨rfl, ⟨⟩⟩)) (And.intro (by exact And.intro (by exact rfl) (True.intro)) (by exact ⟨⟩)))))
          · try simp only [q1, q2, q3, q4, q5, q6, q7, q8, q9] at hb13
            have hall2 : x.Out.all okOut = true := all_end (by rw [show x.Out.length = k2 by omega]; exact ha2)
            refine sw_exit ?_
            refine sw_seq ?_
            refine sw_of (l := [(1, RV.ptr 1 0), (24, RV.sv false [PV.sl _ _]), (25, RV.sv false [PV.val _]), (26, RV.sv false [PV.val _]), (52, RV.sv false [PV.sl _ _]), (53, RV.sv false [PV.val _]), (54, RV.sv false [PV.val _])]) (b := [(1, (34, [PV.val _, PV.val _, PV.sl _ _, PV.sl _ _]))]) (by exact ⟨rfl, rfl, rfl, rfl, rfl, rfl, rfl, ⟨⟩⟩) (by exact ⟨rfl, ⟨⟩⟩) ?_
            refine sw_reg ?_
            refine RunS.s1 (x := loc_field (by decide) fd_34_3) (y := ?_)
            refine RunS.s1 (x := loc_load (qs := [PV.sl .v _]) (by decide) ty_23 (fun _ => rfl) (by exact Nat.le_of_ble_eq_true rfl) (by exact (ToL.cons PV.to_none ToL.nil)) (by exact (BorL.cons (PV.bor_sl _) BorL.nil))) (y := ?_)
            refine RunS.s1 (x := loc_len (by decide) sl_23 (by first | exact List.length_map _ | exact rfl)) (y := ?_)
            refine RunS.s1 (x := loc_call (qs := [(false, [PV.val _]), (false, [PV.val _]), (false, [PV.val _])]) (as_ := [(false, [PV.val _]), (false, [PV.val _]), (false, [PV.val _])]) (by decide) c_71 (by exact (And.intro (by exact ⟨⟩) (And.intro (ok_sc rfl) (And.intro (ok_sc rfl) True.intro)))) (by exact (And.intro (And.intro rfl (ToL.cons (PV.To.refl _) ToL.nil)) (And.intro (And.intro rfl (ToL.cons (PV.To.refl _) ToL.nil)) (And.intro (And.intro rfl (ToL.cons (PV.To.refl _) ToL.nil)) True.intro)))) (by exact impl_within)) (y := ?_)
            refine RunS.s1 (x := loc_copy (.inr rfl) (by decide) (by exact Cp.sc)) (y := ?_)
            refine sw_ret ?_
            exact (And.intro (by refine bool_eq ?_; first | exact hbad0.symm | (simp [okQuery, okConds, hbad]; done) | (simp [okQuery, okFields, hn3]; done) | (simp_all [okQuery, okConds, okFields]; done) | (simp_all [okQuery, okConds, okFields]; rfl) | (simp_all [okQuery, okConds, okFields]; omega) | (simp_all [okQuery, okConds, okFields]; intros; omega)) True.intro)
end Go.Proofs.Ytgaaaoapnhambaa
