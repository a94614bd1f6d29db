/- What functions of the program compute. No condition. -/
import Derived.Test.YtgaaaoapnhambaaCDb
set_option linter.unusedVariables false
set_option linter.unusedSimpArgs false
namespace Go.Proofs.Ytgaaaoapnhambaa
open Go Go.RowKit M
set_option maxRecDepth 10000
theorem impl_within {n : Int} {l : Int} {h : Int}  : SCall Try.prog 71 [(false, [PV.val (vI n)]), (false, [PV.val (vI l)]), (false, [PV.val (vI h)])] (resRV [(false, [PV.val (.bool (inB n l h))])]) := by
  refine scall_of (rs := [(false, [PV.val (.bool (inB n l h))])]) Try.func71 rfl (Nat.le_of_ble_eq_true rfl) (borA_cons (BorL.cons (PV.bor_val _) BorL.nil) (borA_cons (BorL.cons (PV.bor_val _) BorL.nil) (borA_cons (BorL.cons (PV.bor_val _) BorL.nil) borA_nil))) ?_
  intro h0 w0 Fz0
  refine sw_seq ?_
  refine sw_reg ?_
  refine RunS.s1 (x := loc_const (.inr rfl) (by decide) (ok_sc rfl)) (y := ?_)
  refine sw_seq ?_
  refine sw_of (l := [(0, RV.sv false [PV.val _]), (1, RV.sv false [PV.val _]), (2, RV.sv false [PV.val _]), (6, RV.sv false [PV.val _])]) (b := []) (by exact ⟨rfl, rfl, rfl, rfl, ⟨⟩⟩) (by exact ⟨⟩) ?_
  refine sw_reg ?_
  refine RunS.s1 (x := loc_copy (.inl rfl) (by decide) (by exact Cp.sc)) (y := ?_)
  refine RunS.s1 (x := loc_copy (.inl rfl) (by decide) (by exact Cp.sc)) (y := ?_)
  refine RunS.s1 (x := loc_geq (by decide) (by exact ⟨⟩) (by exact ⟨⟩)) (y := ?_)
  refine RunS.s1 (x := loc_copy (.inl rfl) (by decide) (by exact Cp.sc)) (y := ?_)
  refine RunS.cases (s := 10) rfl (fun g1 => ?_) (fun g1 => ?_)
  · have sg1 := g1
    try simp only [q1, q2, q3, q4, q5, q6, q7, q8, q9] at sg1
    refine RunS.s2 (hb := g1) (x := loc_copy (.inl rfl) (by decide) (by exact Cp.sc)) (y := ?_)
    refine RunS.s2 (hb := g1) (x := loc_copy (.inl rfl) (by decide) (by exact Cp.sc)) (y := ?_)
    refine RunS.s2 (hb := g1) (x := loc_leq (by decide) (by exact ⟨⟩) (by exact ⟨⟩)) (y := ?_)
    refine RunS.s1 (x := loc_pick (z := .tmp 13) (by decide) (by rw [g1]; rfl) (by exact ⟨⟩) (by exact ⟨⟩) (by exact Cp.sc)) (y := ?_)
    refine RunS.s1 (x := loc_copy (.inr rfl) (by decide) (by exact Cp.sc)) (y := ?_)
    refine sw_ret ?_
    exact (And.intro (by refine bool_eq ?_; simp [inB, *]) True.intro)
  · have sg1 := g1
    try simp only [q1, q2, q3, q4, q5, q6, q7, q8, q9] at sg1
    refine RunS.s0f g1 ?_
    refine RunS.s0f g1 ?_
    refine RunS.s0f g1 ?_
    refine RunS.s1 (x := loc_pick (z := .const (.bool false)) (by decide) (by rw [g1]; rfl) (by exact ⟨⟩) (ok_sc rfl) (by exact Cp.sc)) (y := ?_)
    refine RunS.s1 (x := loc_copy (.inr rfl) (by decide) (by exact Cp.sc)) (y := ?_)
    refine sw_ret ?_
    exact (And.intro (by refine bool_eq ?_; simp [inB, *]) True.intro)
theorem spec_l1In {n : Int} {l : Int} {h : Int}  : SCall Try.prog 50 [(false, [PV.val (vI n)]), (false, [PV.val (vI l)]), (false, [PV.val (vI h)])] (resRV [(false, [PV.val (.bool (inB n l h))])]) := by
  refine scall_of (rs := [(false, [PV.val (.bool (inB n l h))])]) Try.func50 rfl (Nat.le_of_ble_eq_true rfl) (borA_cons (BorL.cons (PV.bor_val _) BorL.nil) (borA_cons (BorL.cons (PV.bor_val _) BorL.nil) (borA_cons (BorL.cons (PV.bor_val _) BorL.nil) borA_nil))) ?_
  intro h0 w0 Fz0
  refine sw_seq ?_
  refine sw_reg ?_
  refine RunS.s1 (x := loc_const (.inr rfl) (by decide) (ok_sc rfl)) (y := ?_)
  refine sw_seq ?_
  refine sw_of (l := [(0, RV.sv false [PV.val _]), (1, RV.sv false [PV.val _]), (2, RV.sv false [PV.val _]), (6, RV.sv false [PV.val _])]) (b := []) (by exact ⟨rfl, rfl, rfl, rfl, ⟨⟩⟩) (by exact ⟨⟩) ?_
  refine sw_reg ?_
  refine RunS.s1 (x := loc_copy (.inl rfl) (by decide) (by exact Cp.sc)) (y := ?_)
  refine RunS.s1 (x := loc_copy (.inl rfl) (by decide) (by exact Cp.sc)) (y := ?_)
  refine RunS.s1 (x := loc_geq (by decide) (by exact ⟨⟩) (by exact ⟨⟩)) (y := ?_)
  refine RunS.s1 (x := loc_copy (.inl rfl) (by decide) (by exact Cp.sc)) (y := ?_)
  refine RunS.cases (s := 10) rfl (fun g1 => ?_) (fun g1 => ?_)
  · have sg1 := g1
    try simp only [q1, q2, q3, q4, q5, q6, q7, q8, q9] at sg1
    refine RunS.s2 (hb := g1) (x := loc_copy (.inl rfl) (by decide) (by exact Cp.sc)) (y := ?_)
    refine RunS.s2 (hb := g1) (x := loc_copy (.inl rfl) (by decide) (by exact Cp.sc)) (y := ?_)
    refine RunS.s2 (hb := g1) (x := loc_leq (by decide) (by exact ⟨⟩) (by exact ⟨⟩)) (y := ?_)
    refine RunS.s1 (x := loc_pick (z := .tmp 13) (by decide) (by rw [g1]; rfl) (by exact ⟨⟩) (by exact ⟨⟩) (by exact Cp.sc)) (y := ?_)
    refine RunS.s1 (x := loc_copy (.inr rfl) (by decide) (by exact Cp.sc)) (y := ?_)
    refine sw_ret ?_
    exact (And.intro (by refine bool_eq ?_; simp [inB, *]) True.intro)
  · have sg1 := g1
    try simp only [q1, q2, q3, q4, q5, q6, q7, q8, q9] at sg1
    refine RunS.s0f g1 ?_
    refine RunS.s0f g1 ?_
    refine RunS.s0f g1 ?_
    refine RunS.s1 (x := loc_pick (z := .const (.bool false)) (by decide) (by rw [g1]; rfl) (by exact ⟨⟩) (ok_sc rfl) (by exact Cp.sc)) (y := ?_)
    refine RunS.s1 (x := loc_copy (.inr rfl) (by decide) (by exact Cp.sc)) (y := ?_)
    refine sw_ret ?_
    exact (And.intro (by refine bool_eq ?_; simp [inB, *]) True.intro)
theorem impl_isField {n : Int}  : SCall Try.prog 138 [(false, [PV.val (vI n)])] (resRV [(false, [PV.val (.bool (inB n 0 2))])]) := by
  refine scall_of (rs := [(false, [PV.val (.bool (inB n 0 2))])]) Try.func138 rfl (Nat.le_of_ble_eq_true rfl) (borA_cons (BorL.cons (PV.bor_val _) BorL.nil) borA_nil) ?_
  intro h0 w0 Fz0
  refine sw_seq ?_
  refine sw_reg ?_
  refine RunS.s1 (x := loc_const (.inr rfl) (by decide) (ok_sc rfl)) (y := ?_)
  refine sw_seq ?_
  refine sw_of (l := [(0, RV.sv false [PV.val _]), (2, RV.sv false [PV.val _])]) (b := []) (by exact ⟨rfl, rfl, ⟨⟩⟩) (by exact ⟨⟩) ?_
  refine sw_reg ?_
  refine RunS.s1 (x := loc_copy (.inl rfl) (by decide) (by exact Cp.sc)) (y := ?_)
  refine RunS.s1 (x := loc_call (qs := [(false, [PV.val _]), (false, [PV.val _]), (false, [PV.val _])]) (as_ := [(false, [PV.val _]), (false, [PV.val _]), (false, [PV.val _])]) (by decide) c_71 (by exact (And.intro (by exact ⟨⟩) (And.intro (ok_sc rfl) (And.intro (ok_sc rfl) True.intro)))) (by exact (And.intro (And.intro rfl (ToL.cons (PV.To.refl _) ToL.nil)) (And.intro (And.intro rfl (ToL.cons (PV.To.refl _) ToL.nil)) (And.intro (And.intro rfl (ToL.cons (PV.To.refl _) ToL.nil)) True.intro)))) (by exact impl_within)) (y := ?_)
  refine RunS.s1 (x := loc_copy (.inr rfl) (by decide) (by exact Cp.sc)) (y := ?_)
  refine sw_ret ?_
  exact (And.intro (by refine bool_eq ?_; simp [inB, *]) True.intro)
theorem spec_HasMember {xs : List Int} {x : Int}  : SCall Try.prog 51 [(false, [PV.sl .v (xs.map cInt)]), (false, [PV.val (vI x)])] (resRV [(false, [PV.val (.bool (hasI xs x))])]) := by
  refine scall_of (rs := [(false, [PV.val (.bool (hasI xs x))])]) Try.func51 rfl (Nat.le_of_ble_eq_true rfl) (borA_cons (BorL.cons (PV.bor_sl _) BorL.nil) (borA_cons (BorL.cons (PV.bor_val _) BorL.nil) borA_nil)) ?_
  intro h0 w0 Fz0
  refine sw_len (s := 0) rfl fun hl0 => ?_
  try rw [List.length_map] at hl0
  refine sw_seq ?_
  refine sw_reg ?_
  refine RunS.s1 (x := loc_const (.inr rfl) (by decide) (ok_sc rfl)) (y := ?_)
  refine sw_seq ?_
  refine sw_seq ?_
  refine sw_of (l := [(0, RV.sv false [PV.sl _ _]), (1, RV.sv false [PV.val _]), (4, RV.sv false [PV.val _])]) (b := []) (by exact ⟨rfl, rfl, rfl, ⟨⟩⟩) (by exact ⟨⟩) ?_
  refine sw_reg ?_
  refine RunS.s1 (x := loc_const (.inr rfl) (by decide) (ok_sc rfl)) (y := ?_)
  refine sw_block ?_
  refine sw_of (l := [(0, RV.sv false [PV.sl _ _]), (1, RV.sv false [PV.val _]), (4, RV.sv false [PV.val _]), (5, RV.sv false [PV.val _])]) (b := []) (by exact ⟨rfl, rfl, rfl, rfl, ⟨⟩⟩) (by exact ⟨⟩) ?_
  refine sw_loop (l0 := [(0, RV.sv false [PV.sl _ _]), (1, RV.sv false [PV.val _])]) (b0 := []) (fun k : Nat => k ≤ xs.length ∧ (xs.take k).any (fun y => y == x) = false) (fun k : Nat => [(5, RV.int (k : Int))]) (fun k : Nat => []) (fun k : Nat => xs.length - k) 0 (by exact ⟨by omega, by simp⟩) (by exact ⟨rfl, rfl, ⟨⟩⟩) (by exact ⟨⟩) (by exact And.intro (by exact rfl) (True.intro)) (by exact ⟨⟩) ?_
  rintro k ⟨hk, ha⟩
  refine sw_seq ?_
  refine sw_seq ?_
  refine sw_reg ?_
  refine RunS.s1 (x := loc_copy (.inl rfl) (by decide) (by exact Cp.sc)) (y := ?_)
  refine RunS.s1 (x := loc_copy (r' := RV.sv false [PV.sl .v _]) (.inl rfl) (by decide) (by exact Cp.sv (ToL.cons PV.to_none ToL.nil) (BorL.cons (PV.bor_sl _) BorL.nil))) (y := ?_)
  refine RunS.s1 (x := loc_len (by decide) sl_23 (by first | exact List.length_map _ | exact rfl)) (y := ?_)
  refine RunS.s1 (x := loc_lss (by decide) (by exact ⟨⟩) (by exact ⟨⟩)) (y := ?_)
  refine sw_cond (t := 9) rfl (fun hb1 => ?_) (fun hb1 => ?_)
  · try simp only [q1, q2, q3, q4, q5, q6, q7, q8, q9] at hb1
    have hlt : k < xs.length := by omega
    refine sw_skip ?_
    refine sw_seq ?_
    refine sw_block ?_
    refine sw_seq ?_
    refine sw_of (l := [(0, RV.sv false [PV.sl _ _]), (1, RV.sv false [PV.val _]), (5, RV.sv false [PV.val _])]) (b := []) (by exact ⟨rfl, rfl, rfl, ⟨⟩⟩) (by exact ⟨⟩) ?_
    refine sw_reg ?_
    refine RunS.s1 (x := loc_copy (r' := RV.sv false [PV.sl .v _]) (.inl rfl) (by decide) (by exact Cp.sv (ToL.cons PV.to_none ToL.nil) (BorL.cons (PV.bor_sl _) BorL.nil))) (y := ?_)
    refine RunS.s1 (x := loc_copy (.inl rfl) (by decide) (by exact Cp.sc)) (y := ?_)
    refine RunS.s1 (x := loc_index (by decide) sl_23 (by exact ⟨⟩) (by exact rfl) (by exact getm2 (by omega) rfl) (by exact rfl)) (y := ?_)
    refine RunS.s1 (x := loc_eload (qs := [PV.val _]) (by decide) ty_3 (fun _ => rfl) (by exact Nat.le_of_ble_eq_true rfl) (by exact (ToL.cons (PV.To.refl _) ToL.nil)) (by exact (BorL.cons (PV.bor_val _) BorL.nil))) (y := ?_)
    refine RunS.s1 (x := loc_copy (.inl rfl) (by decide) (by exact Cp.sc)) (y := ?_)
    refine RunS.s1 (x := loc_eql (by decide) (by exact ⟨⟩) (by exact ⟨⟩)) (y := ?_)
    refine sw_cond (t := 17) rfl (fun hb2 => ?_) (fun hb2 => ?_)
    · try simp only [q1, q2, q3, q4, q5, q6, q7, q8, q9] at hb2
      refine sw_seq ?_
      refine sw_of (l := [(0, RV.sv false [PV.sl _ _]), (1, RV.sv false [PV.val _]), (5, RV.sv false [PV.val _])]) (b := []) (by exact ⟨rfl, rfl, rfl, ⟨⟩⟩) (by exact ⟨⟩) ?_
      refine sw_reg ?_
      refine RunS.s1 (x := loc_const (.inr rfl) (by decide) (ok_sc rfl)) (y := ?_)
      refine sw_ret ?_
      exact (And.intro (by refine bool_eq ?_; exact (any_yes (P := fun y => y == x) hlt (by simpa using ‹_ = x›)).symm) True.intro)
    · try simp only [q1, q2, q3, q4, q5, q6, q7, q8, q9] at hb2
      refine sw_skip ?_
      refine sw_of (l := [(0, RV.sv false [PV.sl _ _]), (1, RV.sv false [PV.val _]), (5, RV.sv false [PV.val _])]) (b := []) (by exact ⟨rfl, rfl, rfl, ⟨⟩⟩) (by exact ⟨⟩) ?_
      refine sw_reg ?_
      refine RunS.s1 (x := loc_copy (.inl rfl) (by decide) (by exact Cp.sc)) (y := ?_)
      refine RunS.s1 (x := loc_add (by decide) (by exact ⟨⟩) (ok_sc rfl) (by unfold I64; omega)) (y := ?_)
      refine RunS.s1 (x := loc_copy (.inr rfl) (by decide) (by exact Cp.sc)) (y := ?_)
      refine Exists.intro (k + 1) (And.intro (by exact ⟨by omega, any_succ ha ‹_› (by simpa using ‹¬ _›)⟩) (And.intro (by omega) (And.intro (And.intro (by exact ⟨rfl, rfl, ⟨⟩⟩) (by exact ⟨⟩)) (And.intro (by exact And.intro (by exact rfl) (True.intro)) (by exact ⟨⟩)))))
  · try simp only [q1, q2, q3, q4, q5, q6, q7, q8, q9] at hb1
    refine sw_exit ?_
    refine sw_seq ?_
    refine sw_of (l := [(0, RV.sv false [PV.sl _ _]), (1, RV.sv false [PV.val _]), (5, RV.sv false [PV.val _])]) (b := []) (by exact ⟨rfl, rfl, rfl, ⟨⟩⟩) (by exact ⟨⟩) ?_
    refine sw_reg ?_
    refine RunS.s1 (x := loc_const (.inr rfl) (by decide) (ok_sc rfl)) (y := ?_)
    refine sw_ret ?_
    exact (And.intro (by refine bool_eq ?_; exact (any_end (by rw [show xs.length = k by omega]; exact ha)).symm) True.intro)
theorem impl_hasInt {xs : List Int} {x : Int}  : SCall Try.prog 59 [(false, [PV.sl .v (xs.map cInt)]), (false, [PV.val (vI x)])] (resRV [(false, [PV.val (.bool (hasI xs x))])]) := by
  refine scall_of (rs := [(false, [PV.val (.bool (hasI xs x))])]) Try.func59 rfl (Nat.le_of_ble_eq_true rfl) (borA_cons (BorL.cons (PV.bor_sl _) BorL.nil) (borA_cons (BorL.cons (PV.bor_val _) BorL.nil) borA_nil)) ?_
  intro h0 w0 Fz0
  refine sw_len (s := 0) rfl fun hl0 => ?_
  try rw [List.length_map] at hl0
  refine sw_seq ?_
  refine sw_reg ?_
  refine RunS.s1 (x := loc_const (.inr rfl) (by decide) (ok_sc rfl)) (y := ?_)
  refine sw_seq ?_
  refine sw_seq ?_
  refine sw_of (l := [(0, RV.sv false [PV.sl _ _]), (1, RV.sv false [PV.val _]), (4, RV.sv false [PV.val _])]) (b := []) (by exact ⟨rfl, rfl, rfl, ⟨⟩⟩) (by exact ⟨⟩) ?_
  refine sw_reg ?_
  refine RunS.s1 (x := loc_copy (r' := RV.sv false [PV.sl .v _]) (.inl rfl) (by decide) (by exact Cp.sv (ToL.cons PV.to_none ToL.nil) (BorL.cons (PV.bor_sl _) BorL.nil))) (y := ?_)
  refine RunS.s1 (x := loc_len (by decide) sl_23 (by first | exact List.length_map _ | exact rfl)) (y := ?_)
  refine RunS.s1 (x := loc_const (.inl rfl) (by decide) (ok_sc rfl)) (y := ?_)
  refine sw_block ?_
  refine sw_of (l := [(0, RV.sv false [PV.sl _ _]), (1, RV.sv false [PV.val _]), (4, RV.sv false [PV.val _]), (7, RV.sv false [PV.sl _ _]), (8, RV.sv false [PV.val _]), (9, RV.sv false [PV.val _])]) (b := []) (by exact ⟨rfl, rfl, rfl, rfl, rfl, rfl, ⟨⟩⟩) (by exact ⟨⟩) ?_
  refine sw_loop (l0 := [(0, RV.sv false [PV.sl _ _]), (1, RV.sv false [PV.val _]), (7, RV.sv false [PV.sl _ _]), (8, RV.sv false [PV.val _])]) (b0 := []) (fun k : Nat => k ≤ xs.length ∧ (xs.take k).any (fun y => y == x) = false) (fun k : Nat => [(9, RV.int (k : Int))]) (fun k : Nat => []) (fun k : Nat => xs.length - k) 0 (by exact ⟨by omega, by simp⟩) (by exact ⟨rfl, rfl, rfl, rfl, ⟨⟩⟩) (by exact ⟨⟩) (by exact And.intro (by exact rfl) (True.intro)) (by exact ⟨⟩) ?_
  rintro k ⟨hk, ha⟩
  refine sw_seq ?_
  refine sw_reg ?_
  refine RunS.s1 (x := loc_lss (by decide) (by exact ⟨⟩) (by exact ⟨⟩)) (y := ?_)
  refine sw_seq ?_
  refine sw_cond (t := 10) rfl (fun hb1 => ?_) (fun hb1 => ?_)
  · try simp only [q1, q2, q3, q4, q5, q6, q7, q8, q9] at hb1
    have hlt : k < xs.length := by omega
    refine sw_skip ?_
    refine sw_seq ?_
    refine sw_block ?_
    refine sw_seq ?_
    refine sw_of (l := [(0, RV.sv false [PV.sl _ _]), (1, RV.sv false [PV.val _]), (7, RV.sv false [PV.sl _ _]), (8, RV.sv false [PV.val _]), (9, RV.sv false [PV.val _])]) (b := []) (by exact ⟨rfl, rfl, rfl, rfl, rfl, ⟨⟩⟩) (by exact ⟨⟩) ?_
    refine sw_reg ?_
    refine RunS.s1 (x := loc_index (by decide) sl_23 (by exact ⟨⟩) (by exact rfl) (by exact getm2 (by omega) rfl) (by exact rfl)) (y := ?_)
    refine RunS.s1 (x := loc_eload (qs := [PV.val _]) (by decide) ty_3 (fun _ => rfl) (by exact Nat.le_of_ble_eq_true rfl) (by exact (ToL.cons (PV.To.refl _) ToL.nil)) (by exact (BorL.cons (PV.bor_val _) BorL.nil))) (y := ?_)
    refine RunS.s1 (x := loc_copy (.inr rfl) (by decide) (by exact Cp.sc)) (y := ?_)
    refine sw_seq ?_
    refine sw_of (l := [(0, RV.sv false [PV.sl _ _]), (1, RV.sv false [PV.val _]), (6, RV.sv false [PV.val _]), (7, RV.sv false [PV.sl _ _]), (8, RV.sv false [PV.val _]), (9, RV.sv false [PV.val _])]) (b := []) (by exact ⟨rfl, rfl, rfl, rfl, rfl, rfl, ⟨⟩⟩) (by exact ⟨⟩) ?_
    refine sw_reg ?_
    refine RunS.s1 (x := loc_copy (.inl rfl) (by decide) (by exact Cp.sc)) (y := ?_)
    refine RunS.s1 (x := loc_copy (.inl rfl) (by decide) (by exact Cp.sc)) (y := ?_)
    refine RunS.s1 (x := loc_eql (by decide) (by exact ⟨⟩) (by exact ⟨⟩)) (y := ?_)
    refine sw_cond (t := 15) rfl (fun hb2 => ?_) (fun hb2 => ?_)
    · try simp only [q1, q2, q3, q4, q5, q6, q7, q8, q9] at hb2
      refine sw_seq ?_
      refine sw_of (l := [(0, RV.sv false [PV.sl _ _]), (1, RV.sv false [PV.val _]), (6, RV.sv false [PV.val _]), (7, RV.sv false [PV.sl _ _]), (8, RV.sv false [PV.val _]), (9, RV.sv false [PV.val _])]) (b := []) (by exact ⟨rfl, rfl, rfl, rfl, rfl, rfl, ⟨⟩⟩) (by exact ⟨⟩) ?_
      refine sw_reg ?_
      refine RunS.s1 (x := loc_const (.inr rfl) (by decide) (ok_sc rfl)) (y := ?_)
      refine sw_ret ?_
      exact (And.intro (by refine bool_eq ?_; exact (any_yes (P := fun y => y == x) hlt (by simpa using ‹_ = x›)).symm) True.intro)
    · try simp only [q1, q2, q3, q4, q5, q6, q7, q8, q9] at hb2
      refine sw_skip ?_
      refine sw_of (l := [(0, RV.sv false [PV.sl _ _]), (1, RV.sv false [PV.val _]), (6, RV.sv false [PV.val _]), (7, RV.sv false [PV.sl _ _]), (8, RV.sv false [PV.val _]), (9, RV.sv false [PV.val _])]) (b := []) (by exact ⟨rfl, rfl, rfl, rfl, rfl, rfl, ⟨⟩⟩) (by exact ⟨⟩) ?_
      refine sw_reg ?_
      refine RunS.s1 (x := loc_add (by decide) (by exact ⟨⟩) (ok_sc rfl) (by unfold I64; omega)) (y := ?_)
      refine RunS.s1 (x := loc_copy (.inl rfl) (by decide) (by exact Cp.sc)) (y := ?_)
      refine Exists.intro (k + 1) (And.intro (by exact ⟨by omega, any_succ ha ‹_› (by simpa using ‹¬ _›)⟩) (And.intro (by omega) (And.intro (And.intro (by exact ⟨rfl, rfl, rfl, rfl, ⟨⟩⟩) (by exact ⟨⟩)) (And.intro (by exact And.intro (by exact rfl) (True.intro)) (by exact ⟨⟩)))))
  · try simp only [q1, q2, q3, q4, q5, q6, q7, q8, q9] at hb1
    refine sw_exit ?_
    refine sw_seq ?_
    refine sw_of (l := [(0, RV.sv false [PV.sl _ _]), (1, RV.sv false [PV.val _]), (7, RV.sv false [PV.sl _ _]), (8, RV.sv false [PV.val _]), (9, RV.sv false [PV.val _])]) (b := []) (by exact ⟨rfl, rfl, rfl, rfl, rfl, ⟨⟩⟩) (by exact ⟨⟩) ?_
    refine sw_reg ?_
    refine RunS.s1 (x := loc_const (.inr rfl) (by decide) (ok_sc rfl)) (y := ?_)
    refine sw_ret ?_
    exact (And.intro (by refine bool_eq ?_; exact (any_end (by rw [show xs.length = k by omega]; exact ha)).symm) True.intro)
theorem impl_copyInts {x : List Int}  (hb : x.length ≤ 68719476736) : SCall Try.prog 80 [(false, [PV.sl .v (x.map cInt)])] (resRV [(false, [PV.sl (.own 3 1) (x.map cInt)])]) := by
  refine scall_of (rs := [(false, [PV.sl (.own 3 1) (x.map cInt)])]) Try.func80 rfl (Nat.le_of_ble_eq_true rfl) (borA_cons (BorL.cons (PV.bor_sl _) BorL.nil) borA_nil) ?_
  intro h0 w0 Fz0
  refine sw_len (s := 0) rfl fun hl0 => ?_
  try rw [List.length_map] at hl0
  refine sw_seq ?_
  refine sw_reg ?_
  refine RunS.s1 (x := loc_const (.inr rfl) (by decide) (ok_nil (t := 3) (e := 1))) (y := ?_)
  refine sw_seq ?_
  refine sw_of (l := [(0, RV.sv false [PV.sl _ _]), (2, RV.sv false [PV.sl _ _])]) (b := []) (by exact ⟨rfl, rfl, ⟨⟩⟩) (by exact ⟨⟩) ?_
  refine sw_reg ?_
  refine RunS.s1 (x := loc_bslice (qs := []) (by decide) sl_23 z_3 (by decide) rfl rfl rfl rfl rfl (by exact Nat.le_of_ble_eq_true rfl) (by exact ⟨⟩) rfl) (y := ?_)
  refine RunS.s1 (x := loc_copy (r' := RV.sv false [PV.sl .v _]) (.inl rfl) (by decide) (by exact Cp.sv (ToL.cons PV.to_none ToL.nil) (BorL.cons (PV.bor_sl _) BorL.nil))) (y := ?_)
  refine RunS.s1 (x := loc_appendb (by decide) sl_23 z_3 rfl rfl (by decide) (by first | (intro cs hcs; obtain ⟨x, _, rfl⟩ := List.mem_map.1 hcs; exact rfl) | simp) (by first | (intro cs hcs; obtain ⟨x, _, rfl⟩ := List.mem_map.1 hcs; exact (BorL.cons (PV.bor_val _) BorL.nil)) | simp) (by simp only [List.length_map, List.length_append, List.length_cons, List.length_nil]; omega) (by simp only [List.length_map, List.length_append, List.length_cons, List.length_nil]; omega)) (y := ?_)
  refine RunS.s1 (x := loc_take (.inr rfl) (by decide)) (y := ?_)
  refine sw_ret ?_
  exact (And.intro (by exact rfl) True.intro)
theorem impl_IsRow {x : Row}  : SCall Try.prog 137 [(true, [PV.val (vI x.Id), PV.sl .v (x.Values.map cInt)])] (resRV [(false, [PV.val (.bool (okRow x))])]) := by
  refine scall_of (rs := [(false, [PV.val (.bool (okRow x))])]) Try.func137 rfl (Nat.le_of_ble_eq_true rfl) (borA_cons (BorL.cons (PV.bor_val _) (BorL.cons (PV.bor_sl _) BorL.nil)) borA_nil) ?_
  intro h0 w0 Fz0
  refine sw_slen (s := 0) (j := 1) rfl rfl fun hl0_1 => ?_
  try rw [List.length_map] at hl0_1
  refine sw_seq ?_
  refine sw_reg ?_
  refine RunS.step (by exact ⟨rfl, ⟨⟩⟩) (by exact ⟨⟩) (LocG.of rfl (loc_box (ag := true) (cs := [PV.val _, PV.sl _ _]) (by decide) (by exact ⟨⟩))) (free1 (Free.of_ rfl)) ?_
  refine RunS.s1 (x := loc_const (.inr rfl) (by decide) (ok_sc rfl)) (y := ?_)
  refine sw_seq ?_
  refine sw_seq ?_
  refine sw_of (l := [(1, RV.ptr 1 0), (2, RV.sv false [PV.val _])]) (b := [(1, (77, [PV.val _, PV.sl _ _]))]) (by exact ⟨rfl, rfl, ⟨⟩⟩) (by exact ⟨rfl, ⟨⟩⟩) ?_
  refine sw_reg ?_
  refine RunS.s1 (x := loc_field (by decide) fd_77_1) (y := ?_)
  refine RunS.s1 (x := loc_load (qs := [PV.sl .v _]) (by decide) ty_23 (fun _ => rfl) (by exact Nat.le_of_ble_eq_true rfl) (by exact (ToL.cons PV.to_none ToL.nil)) (by exact (BorL.cons (PV.bor_sl _) BorL.nil))) (y := ?_)
  refine RunS.s1 (x := loc_len (by decide) sl_23 (by first | exact List.length_map _ | exact rfl)) (y := ?_)
  refine RunS.s1 (x := loc_const (.inl rfl) (by decide) (ok_sc rfl)) (y := ?_)
  refine sw_block ?_
  refine sw_of (l := [(1, RV.ptr 1 0), (2, RV.sv false [PV.val _]), (6, RV.sv false [PV.sl _ _]), (7, RV.sv false [PV.val _]), (8, RV.sv false [PV.val _])]) (b := [(1, (77, [PV.val _, PV.sl _ _]))]) (by exact ⟨rfl, rfl, rfl, rfl, rfl, ⟨⟩⟩) (by exact ⟨rfl, ⟨⟩⟩) ?_
  refine sw_loop (l0 := [(1, RV.ptr 1 0), (6, RV.sv false [PV.sl _ _]), (7, RV.sv false [PV.val _])]) (b0 := [(1, (77, [PV.val _, PV.sl _ _]))]) (fun k : Nat => k ≤ x.Values.length ∧ (x.Values.take k).all okVal = true) (fun k : Nat => [(8, RV.int (k : Int))]) (fun k : Nat => []) (fun k : Nat => x.Values.length - k) 0 (by exact ⟨by omega, by simp⟩) (by exact ⟨rfl, rfl, rfl, ⟨⟩⟩) (by exact ⟨rfl, ⟨⟩⟩) (by exact And.intro (by exact rfl) (True.intro)) (by exact ⟨⟩) ?_
  rintro k ⟨hk, ha⟩
  refine sw_seq ?_
  refine sw_reg ?_
  refine RunS.s1 (x := loc_lss (by decide) (by exact ⟨⟩) (by exact ⟨⟩)) (y := ?_)
  refine sw_seq ?_
  refine sw_cond (t := 9) rfl (fun hb1 => ?_) (fun hb1 => ?_)
  · try simp only [q1, q2, q3, q4, q5, q6, q7, q8, q9] at hb1
    have hlt : k < x.Values.length := by omega
    refine sw_skip ?_
    refine sw_seq ?_
    refine sw_block ?_
    refine sw_seq ?_
    refine sw_of (l := [(1, RV.ptr 1 0), (6, RV.sv false [PV.sl _ _]), (7, RV.sv false [PV.val _]), (8, RV.sv false [PV.val _])]) (b := [(1, (77, [PV.val _, PV.sl _ _]))]) (by exact ⟨rfl, rfl, rfl, rfl, ⟨⟩⟩) (by exact ⟨rfl, ⟨⟩⟩) ?_
    refine sw_reg ?_
    refine RunS.s1 (x := loc_index (by decide) sl_23 (by exact ⟨⟩) (by exact rfl) (by exact getm2 (by omega) rfl) (by exact rfl)) (y := ?_)
    refine RunS.s1 (x := loc_eload (qs := [PV.val _]) (by decide) ty_3 (fun _ => rfl) (by exact Nat.le_of_ble_eq_true rfl) (by exact (ToL.cons (PV.To.refl _) ToL.nil)) (by exact (BorL.cons (PV.bor_val _) BorL.nil))) (y := ?_)
    refine RunS.s1 (x := loc_copy (.inr rfl) (by decide) (by exact Cp.sc)) (y := ?_)
    refine sw_seq ?_
    refine sw_of (l := [(1, RV.ptr 1 0), (4, RV.sv false [PV.val _]), (6, RV.sv false [PV.sl _ _]), (7, RV.sv false [PV.val _]), (8, RV.sv false [PV.val _])]) (b := [(1, (77, [PV.val _, PV.sl _ _]))]) (by exact ⟨rfl, rfl, rfl, rfl, rfl, ⟨⟩⟩) (by exact ⟨rfl, ⟨⟩⟩) ?_
    refine sw_reg ?_
    refine RunS.s1 (x := loc_copy (.inl rfl) (by decide) (by exact Cp.sc)) (y := ?_)
    refine RunS.s1 (x := loc_call (qs := [(false, [PV.val _]), (false, [PV.val _]), (false, [PV.val _])]) (as_ := [(false, [PV.val _]), (false, [PV.val _]), (false, [PV.val _])]) (by decide) c_71 (by exact (And.intro (by exact ⟨⟩) (And.intro (ok_sc rfl) (And.intro (ok_sc rfl) True.intro)))) (by exact (And.intro (And.intro rfl (ToL.cons (PV.To.refl _) ToL.nil)) (And.intro (And.intro rfl (ToL.cons (PV.To.refl _) ToL.nil)) (And.intro (And.intro rfl (ToL.cons (PV.To.refl _) ToL.nil)) True.intro)))) (by exact impl_within)) (y := ?_)
    refine RunS.s1 (x := loc_not (by decide)) (y := ?_)
    refine sw_cond (t := 14) rfl (fun hb2 => ?_) (fun hb2 => ?_)
    · try simp only [q1, q2, q3, q4, q5, q6, q7, q8, q9] at hb2
      have hno : okVal x.Values[k] = false := by simpa [okVal] using hb2
      refine sw_seq ?_
      refine sw_of (l := [(1, RV.ptr 1 0), (4, RV.sv false [PV.val _]), (6, RV.sv false [PV.sl _ _]), (7, RV.sv false [PV.val _]), (8, RV.sv false [PV.val _])]) (b := [(1, (77, [PV.val _, PV.sl _ _]))]) (by exact ⟨rfl, rfl, rfl, rfl, rfl, ⟨⟩⟩) (by exact ⟨rfl, ⟨⟩⟩) ?_
      refine sw_reg ?_
      refine RunS.s1 (x := loc_const (.inr rfl) (by decide) (ok_sc rfl)) (y := ?_)
      refine sw_ret ?_
      exact (And.intro (by refine bool_eq ?_; simp [okRow, beq_dec, all_no (P := okVal) hlt hno]) True.intro)
    · try simp only [q1, q2, q3, q4, q5, q6, q7, q8, q9] at hb2
      have hyes : okVal x.Values[k] = true := by simpa [okVal] using hb2
      refine sw_skip ?_
      refine sw_of (l := [(1, RV.ptr 1 0), (4, RV.sv false [PV.val _]), (6, RV.sv false [PV.sl _ _]), (7, RV.sv false [PV.val _]), (8, RV.sv false [PV.val _])]) (b := [(1, (77, [PV.val _, PV.sl _ _]))]) (by exact ⟨rfl, rfl, rfl, rfl, rfl, ⟨⟩⟩) (by exact ⟨rfl, ⟨⟩⟩) ?_
      refine sw_reg ?_
      refine RunS.s1 (x := loc_add (by decide) (by exact ⟨⟩) (ok_sc rfl) (by unfold I64; omega)) (y := ?_)
      refine RunS.s1 (x := loc_copy (.inl rfl) (by decide) (by exact Cp.sc)) (y := ?_)
      refine Exists.intro (k + 1) (And.intro (by exact ⟨by omega, all_succ ha hlt hyes⟩) (And.intro (by omega) (And.intro (And.intro (by exact ⟨rfl, rfl, rfl, ⟨⟩⟩) (by exact ⟨rfl, ⟨⟩⟩)) (And.intro (by exact And.intro (by exact rfl) (True.intro)) (by exact ⟨⟩)))))
  · try simp only [q1, q2, q3, q4, q5, q6, q7, q8, q9] at hb1
    have hall : x.Values.all okVal = true := all_end (by rw [show x.Values.length = k by omega]; exact ha)
    refine sw_exit ?_
    refine sw_seq ?_
    refine sw_of (l := [(1, RV.ptr 1 0), (6, RV.sv false [PV.sl _ _]), (7, RV.sv false [PV.val _]), (8, RV.sv false [PV.val _])]) (b := [(1, (77, [PV.val _, PV.sl _ _]))]) (by exact ⟨rfl, rfl, rfl, rfl, ⟨⟩⟩) (by exact ⟨rfl, ⟨⟩⟩) ?_
    refine sw_reg ?_
    refine RunS.s1 (x := loc_field (by decide) fd_77_0) (y := ?_)
    refine RunS.s1 (x := loc_load (qs := [PV.val _]) (by decide) ty_3 (fun _ => rfl) (by exact Nat.le_of_ble_eq_true rfl) (by exact (ToL.cons (PV.To.refl _) ToL.nil)) (by exact (BorL.cons (PV.bor_val _) BorL.nil))) (y := ?_)
    refine RunS.s1 (x := loc_call (qs := [(false, [PV.val _]), (false, [PV.val _]), (false, [PV.val _])]) (as_ := [(false, [PV.val _]), (false, [PV.val _]), (false, [PV.val _])]) (by decide) c_71 (by exact (And.intro (by exact ⟨⟩) (And.intro (ok_sc rfl) (And.intro (ok_sc rfl) True.intro)))) (by exact (And.intro (And.intro rfl (ToL.cons (PV.To.refl _) ToL.nil)) (And.intro (And.intro rfl (ToL.cons (PV.To.refl _) ToL.nil)) (And.intro (And.intro rfl (ToL.cons (PV.To.refl _) ToL.nil)) True.intro)))) (by exact impl_within)) (y := ?_)
    refine RunS.s1 (x := loc_copy (.inl rfl) (by decide) (by exact Cp.sc)) (y := ?_)
    refine RunS.cases (s := 19) rfl (fun g3 => ?_) (fun g3 => ?_)
    · have sg3 := g3
      try simp only [q1, q2, q3, q4, q5, q6, q7, q8, q9] at sg3
      refine RunS.s2 (hb := g3) (x := loc_field (by decide) fd_77_1) (y := ?_)
      refine RunS.s2 (hb := g3) (x := loc_load (qs := [PV.sl .v _]) (by decide) ty_23 (fun _ => rfl) (by exact Nat.le_of_ble_eq_true rfl) (by exact (ToL.cons PV.to_none ToL.nil)) (by exact (BorL.cons (PV.bor_sl _) BorL.nil))) (y := ?_)
      refine RunS.s2 (hb := g3) (x := loc_len (by decide) sl_23 (by first | exact List.length_map _ | exact rfl)) (y := ?_)
      refine RunS.s2 (hb := g3) (x := loc_eql (by decide) (by exact ⟨⟩) (ok_sc rfl)) (y := ?_)
      refine RunS.s1 (x := loc_pick (z := .tmp 23) (by decide) (by rw [g3]; rfl) (by exact ⟨⟩) (by exact ⟨⟩) (by exact Cp.sc)) (y := ?_)
      refine RunS.s1 (x := loc_copy (.inr rfl) (by decide) (by exact Cp.sc)) (y := ?_)
      refine sw_ret ?_
      exact (And.intro (by refine bool_eq ?_; simp [okRow, beq_dec, hall, *]) True.intro)
    · have sg3 := g3
      try simp only [q1, q2, q3, q4, q5, q6, q7, q8, q9] at sg3
      refine RunS.s0f g3 ?_
      refine RunS.s0f g3 ?_
      refine RunS.s0f g3 ?_
      refine RunS.s0f g3 ?_
      refine RunS.s1 (x := loc_pick (z := .const (.bool false)) (by decide) (by rw [g3]; rfl) (by exact ⟨⟩) (ok_sc rfl) (by exact Cp.sc)) (y := ?_)
      refine RunS.s1 (x := loc_copy (.inr rfl) (by decide) (by exact Cp.sc)) (y := ?_)
      refine sw_ret ?_
      exact (And.intro (by refine bool_eq ?_; simp [okRow, beq_dec, hall, *]) True.intro)
theorem spec_IsRow {x : Row}  : SCall Try.prog 139 [(true, [PV.val (vI x.Id), PV.sl .v (x.Values.map cInt)])] (resRV [(false, [PV.val (.bool (okRow x))])]) := by
  refine scall_of (rs := [(false, [PV.val (.bool (okRow x))])]) Try.func139 rfl (Nat.le_of_ble_eq_true rfl) (borA_cons (BorL.cons (PV.bor_val _) (BorL.cons (PV.bor_sl _) BorL.nil)) borA_nil) ?_
  intro h0 w0 Fz0
  refine sw_slen (s := 0) (j := 1) rfl rfl fun hl0_1 => ?_
  try rw [List.length_map] at hl0_1
  refine sw_seq ?_
  refine sw_reg ?_
  refine RunS.step (by exact ⟨rfl, ⟨⟩⟩) (by exact ⟨⟩) (LocG.of rfl (loc_box (ag := true) (cs := [PV.val _, PV.sl _ _]) (by decide) (by exact ⟨⟩))) (free1 (Free.of_ rfl)) ?_
  refine RunS.s1 (x := loc_const (.inr rfl) (by decide) (ok_sc rfl)) (y := ?_)
  refine sw_seq ?_
  refine sw_seq ?_
  refine sw_of (l := [(1, RV.ptr 1 0), (2, RV.sv false [PV.val _])]) (b := [(1, (77, [PV.val _, PV.sl _ _]))]) (by exact ⟨rfl, rfl, ⟨⟩⟩) (by exact ⟨rfl, ⟨⟩⟩) ?_
  refine sw_reg ?_
  refine RunS.s1 (x := loc_const (.inr rfl) (by decide) (ok_sc rfl)) (y := ?_)
  refine sw_block ?_
  refine sw_of (l := [(1, RV.ptr 1 0), (2, RV.sv false [PV.val _]), (3, RV.sv false [PV.val _])]) (b := [(1, (77, [PV.val _, PV.sl _ _]))]) (by exact ⟨rfl, rfl, rfl, ⟨⟩⟩) (by exact ⟨rfl, ⟨⟩⟩) ?_
  refine sw_loop (l0 := [(1, RV.ptr 1 0)]) (b0 := [(1, (77, [PV.val _, PV.sl _ _]))]) (fun k : Nat => k ≤ x.Values.length ∧ (x.Values.take k).all okVal = true) (fun k : Nat => [(3, RV.int (k : Int))]) (fun k : Nat => []) (fun k : Nat => x.Values.length - k) 0 (by exact ⟨by omega, by simp⟩) (by exact ⟨rfl, ⟨⟩⟩) (by exact ⟨rfl, ⟨⟩⟩) (by exact And.intro (by exact rfl) (True.intro)) (by exact ⟨⟩) ?_
  rintro k ⟨hk, ha⟩
  refine sw_seq ?_
  refine sw_seq ?_
  refine sw_reg ?_
  refine RunS.s1 (x := loc_copy (.inl rfl) (by decide) (by exact Cp.sc)) (y := ?_)
  refine RunS.s1 (x := loc_field (by decide) fd_77_1) (y := ?_)
  refine RunS.s1 (x := loc_load (qs := [PV.sl .v _]) (by decide) ty_23 (fun _ => rfl) (by exact Nat.le_of_ble_eq_true rfl) (by exact (ToL.cons PV.to_none ToL.nil)) (by exact (BorL.cons (PV.bor_sl _) BorL.nil))) (y := ?_)
  refine RunS.s1 (x := loc_len (by decide) sl_23 (by first | exact List.length_map _ | exact rfl)) (y := ?_)
  refine RunS.s1 (x := loc_lss (by decide) (by exact ⟨⟩) (by exact ⟨⟩)) (y := ?_)
  refine sw_cond (t := 8) rfl (fun hb1 => ?_) (fun hb1 => ?_)
  · try simp only [q1, q2, q3, q4, q5, q6, q7, q8, q9] at hb1
    have hlt : k < x.Values.length := by omega
    refine sw_skip ?_
    refine sw_seq ?_
    refine sw_block ?_
    refine sw_seq ?_
    refine sw_of (l := [(1, RV.ptr 1 0), (3, RV.sv false [PV.val _])]) (b := [(1, (77, [PV.val _, PV.sl _ _]))]) (by exact ⟨rfl, rfl, ⟨⟩⟩) (by exact ⟨rfl, ⟨⟩⟩) ?_
    refine sw_reg ?_
    refine RunS.s1 (x := loc_field (by decide) fd_77_1) (y := ?_)
    refine RunS.s1 (x := loc_load (qs := [PV.sl .v _]) (by decide) ty_23 (fun _ => rfl) (by exact Nat.le_of_ble_eq_true rfl) (by exact (ToL.cons PV.to_none ToL.nil)) (by exact (BorL.cons (PV.bor_sl _) BorL.nil))) (y := ?_)
    refine RunS.s1 (x := loc_copy (.inl rfl) (by decide) (by exact Cp.sc)) (y := ?_)
    refine RunS.s1 (x := loc_index (by decide) sl_23 (by exact ⟨⟩) (by exact rfl) (by exact getm2 (by omega) rfl) (by exact rfl)) (y := ?_)
    refine RunS.s1 (x := loc_eload (qs := [PV.val _]) (by decide) ty_3 (fun _ => rfl) (by exact Nat.le_of_ble_eq_true rfl) (by exact (ToL.cons (PV.To.refl _) ToL.nil)) (by exact (BorL.cons (PV.bor_val _) BorL.nil))) (y := ?_)
    refine RunS.s1 (x := loc_call (qs := [(false, [PV.val _]), (false, [PV.val _]), (false, [PV.val _])]) (as_ := [(false, [PV.val _]), (false, [PV.val _]), (false, [PV.val _])]) (by decide) c_50 (by exact (And.intro (by exact ⟨⟩) (And.intro (ok_sc rfl) (And.intro (ok_sc rfl) True.intro)))) (by exact (And.intro (And.intro rfl (ToL.cons (PV.To.refl _) ToL.nil)) (And.intro (And.intro rfl (ToL.cons (PV.To.refl _) ToL.nil)) (And.intro (And.intro rfl (ToL.cons (PV.To.refl _) ToL.nil)) True.intro)))) (by exact spec_l1In)) (y := ?_)
    refine RunS.s1 (x := loc_not (by decide)) (y := ?_)
    refine sw_cond (t := 17) rfl (fun hb2 => ?_) (fun hb2 => ?_)
    · try simp only [q1, q2, q3, q4, q5, q6, q7, q8, q9] at hb2
      have hno : okVal x.Values[k] = false := by simpa [okVal] using hb2
      refine sw_seq ?_
      refine sw_of (l := [(1, RV.ptr 1 0), (3, RV.sv false [PV.val _])]) (b := [(1, (77, [PV.val _, PV.sl _ _]))]) (by exact ⟨rfl, rfl, ⟨⟩⟩) (by exact ⟨rfl, ⟨⟩⟩) ?_
      refine sw_reg ?_
      refine RunS.s1 (x := loc_const (.inr rfl) (by decide) (ok_sc rfl)) (y := ?_)
      refine sw_ret ?_
      exact (And.intro (by refine bool_eq ?_; simp [okRow, beq_dec, all_no (P := okVal) hlt hno]) True.intro)
    · try simp only [q1, q2, q3, q4, q5, q6, q7, q8, q9] at hb2
      have hyes : okVal x.Values[k] = true := by simpa [okVal] using hb2
      refine sw_skip ?_
      refine sw_of (l := [(1, RV.ptr 1 0), (3, RV.sv false [PV.val _])]) (b := [(1, (77, [PV.val _, PV.sl _ _]))]) (by exact ⟨rfl, rfl, ⟨⟩⟩) (by exact ⟨rfl, ⟨⟩⟩) ?_
      refine sw_reg ?_
      refine RunS.s1 (x := loc_copy (.inl rfl) (by decide) (by exact Cp.sc)) (y := ?_)
      refine RunS.s1 (x := loc_add (by decide) (by exact ⟨⟩) (ok_sc rfl) (by unfold I64; omega)) (y := ?_)
      refine RunS.s1 (x := loc_copy (.inr rfl) (by decide) (by exact Cp.sc)) (y := ?_)
      refine Exists.intro (k + 1) (And.intro (by exact ⟨by omega, all_succ ha hlt hyes⟩) (And.intro (by omega) (And.intro (And.intro (by exact ⟨rfl, ⟨⟩⟩) (by exact ⟨rfl, ⟨⟩⟩)) (And.intro (by exact And.intro (by exact rfl) (True.intro)) (by exact ⟨⟩)))))
  · try simp only [q1, q2, q3, q4, q5, q6, q7, q8, q9] at hb1
    have hall : x.Values.all okVal = true := all_end (by rw [show x.Values.length = k by omega]; exact ha)
    refine sw_exit ?_
    refine sw_seq ?_
    refine sw_of (l := [(1, RV.ptr 1 0), (3, RV.sv false [PV.val _])]) (b := [(1, (77, [PV.val _, PV.sl _ _]))]) (by exact ⟨rfl, rfl, ⟨⟩⟩) (by exact ⟨rfl, ⟨⟩⟩) ?_
    refine sw_reg ?_
    refine RunS.s1 (x := loc_field (by decide) fd_77_0) (y := ?_)
    refine RunS.s1 (x := loc_load (qs := [PV.val _]) (by decide) ty_3 (fun _ => rfl) (by exact Nat.le_of_ble_eq_true rfl) (by exact (ToL.cons (PV.To.refl _) ToL.nil)) (by exact (BorL.cons (PV.bor_val _) BorL.nil))) (y := ?_)
    refine RunS.s1 (x := loc_call (qs := [(false, [PV.val _]), (false, [PV.val _]), (false, [PV.val _])]) (as_ := [(false, [PV.val _]), (false, [PV.val _]), (false, [PV.val _])]) (by decide) c_50 (by exact (And.intro (by exact ⟨⟩) (And.intro (ok_sc rfl) (And.intro (ok_sc rfl) True.intro)))) (by exact (And.intro (And.intro rfl (ToL.cons (PV.To.refl _) ToL.nil)) (And.intro (And.intro rfl (ToL.cons (PV.To.refl _) ToL.nil)) (And.intro (And.intro rfl (ToL.cons (PV.To.refl _) ToL.nil)) True.intro)))) (by exact spec_l1In)) (y := ?_)
    refine RunS.s1 (x := loc_copy (.inl rfl) (by decide) (by exact Cp.sc)) (y := ?_)
    refine RunS.cases (s := 21) rfl (fun g3 => ?_) (fun g3 => ?_)
    · have sg3 := g3
      try simp only [q1, q2, q3, q4, q5, q6, q7, q8, q9] at sg3
      refine RunS.s2 (hb := g3) (x := loc_field (by decide) fd_77_1) (y := ?_)
      refine RunS.s2 (hb := g3) (x := loc_load (qs := [PV.sl .v _]) (by decide) ty_23 (fun _ => rfl) (by exact Nat.le_of_ble_eq_true rfl) (by exact (ToL.cons PV.to_none ToL.nil)) (by exact (BorL.cons (PV.bor_sl _) BorL.nil))) (y := ?_)
      refine RunS.s2 (hb := g3) (x := loc_len (by decide) sl_23 (by first | exact List.length_map _ | exact rfl)) (y := ?_)
      refine RunS.s2 (hb := g3) (x := loc_eql (by decide) (by exact ⟨⟩) (ok_sc rfl)) (y := ?_)
      refine RunS.s1 (x := loc_pick (z := .tmp 25) (by decide) (by rw [g3]; rfl) (by exact ⟨⟩) (by exact ⟨⟩) (by exact Cp.sc)) (y := ?_)
      refine RunS.s1 (x := loc_copy (.inr rfl) (by decide) (by exact Cp.sc)) (y := ?_)
      refine sw_ret ?_
      exact (And.intro (by refine bool_eq ?_; simp [okRow, beq_dec, hall, *]) True.intro)
    · have sg3 := g3
      try simp only [q1, q2, q3, q4, q5, q6, q7, q8, q9] at sg3
      refine RunS.s0f g3 ?_
      refine RunS.s0f g3 ?_
      refine RunS.s0f g3 ?_
      refine RunS.s0f g3 ?_
      refine RunS.s1 (x := loc_pick (z := .const (.bool false)) (by decide) (by rw [g3]; rfl) (by exact ⟨⟩) (ok_sc rfl) (by exact Cp.sc)) (y := ?_)
      refine RunS.s1 (x := loc_copy (.inr rfl) (by decide) (by exact Cp.sc)) (y := ?_)
      refine sw_ret ?_
      exact (And.intro (by refine bool_eq ?_; simp [okRow, beq_dec, hall, *]) True.intro)
theorem impl_allRows {p1 : Fl} {x : List Row}  : SCall Try.prog 206 [(false, [PV.sl .v (x.map (cRow p1))])] (resRV [(false, [PV.val (.bool (x.all okRow))])]) := by
  refine scall_of (rs := [(false, [PV.val (.bool (x.all okRow))])]) Try.func206 rfl (Nat.le_of_ble_eq_true rfl) (borA_cons (BorL.cons (PV.bor_sl _) BorL.nil) borA_nil) ?_
  intro h0 w0 Fz0
  refine sw_len (s := 0) rfl fun hl0 => ?_
  try rw [List.length_map] at hl0
  refine sw_seq ?_
  refine sw_reg ?_
  refine RunS.s1 (x := loc_const (.inr rfl) (by decide) (ok_sc rfl)) (y := ?_)
  refine sw_seq ?_
  refine sw_seq ?_
  refine sw_of (l := [(0, RV.sv false [PV.sl _ _]), (2, RV.sv false [PV.val _])]) (b := []) (by exact ⟨rfl, rfl, ⟨⟩⟩) (by exact ⟨⟩) ?_
  refine sw_reg ?_
  refine RunS.s1 (x := loc_copy (r' := RV.sv false [PV.sl .v _]) (.inl rfl) (by decide) (by exact Cp.sv (ToL.cons PV.to_none ToL.nil) (BorL.cons (PV.bor_sl _) BorL.nil))) (y := ?_)
  refine RunS.s1 (x := loc_len (by decide) sl_53 (by first | exact List.length_map _ | exact rfl)) (y := ?_)
  refine RunS.s1 (x := loc_const (.inl rfl) (by decide) (ok_sc rfl)) (y := ?_)
  refine sw_block ?_
  refine sw_of (l := [(0, RV.sv false [PV.sl _ _]), (2, RV.sv false [PV.val _]), (5, RV.sv false [PV.sl _ _]), (6, RV.sv false [PV.val _]), (7, RV.sv false [PV.val _])]) (b := []) (by exact ⟨rfl, rfl, rfl, rfl, rfl, ⟨⟩⟩) (by exact ⟨⟩) ?_
  refine sw_loop (l0 := [(0, RV.sv false [PV.sl _ _]), (5, RV.sv false [PV.sl _ _]), (6, RV.sv false [PV.val _])]) (b0 := []) (fun k : Nat => k ≤ x.length ∧ (x.take k).all okRow = true) (fun k : Nat => [(7, RV.int (k : Int))]) (fun k : Nat => []) (fun k : Nat => x.length - k) 0 (by exact ⟨by omega, by simp⟩) (by exact ⟨rfl, rfl, rfl, ⟨⟩⟩) (by exact ⟨⟩) (by exact And.intro (by exact rfl) (True.intro)) (by exact ⟨⟩) ?_
  rintro k ⟨hk, ha⟩
  refine sw_seq ?_
  refine sw_reg ?_
  refine RunS.s1 (x := loc_lss (by decide) (by exact ⟨⟩) (by exact ⟨⟩)) (y := ?_)
  refine sw_seq ?_
  refine sw_cond (t := 8) rfl (fun hb1 => ?_) (fun hb1 => ?_)
  · try simp only [q1, q2, q3, q4, q5, q6, q7, q8, q9] at hb1
    have hlt : k < x.length := by omega
    refine sw_skip ?_
    refine sw_seq ?_
    refine sw_block ?_
    refine sw_seq ?_
    refine sw_of (l := [(0, RV.sv false [PV.sl _ _]), (5, RV.sv false [PV.sl _ _]), (6, RV.sv false [PV.val _]), (7, RV.sv false [PV.val _])]) (b := []) (by exact ⟨rfl, rfl, rfl, rfl, ⟨⟩⟩) (by exact ⟨⟩) ?_
    refine sw_reg ?_
    refine RunS.s1 (x := loc_index (by decide) sl_53 (by exact ⟨⟩) (by exact rfl) (by exact getm2 (by omega) rfl) (by exact rfl)) (y := ?_)
    refine RunS.s1 (x := loc_eload (qs := [PV.val _, PV.sl .v _]) (by decide) ty_77 (fun h => nomatch h) (by exact Nat.le_of_ble_eq_true rfl) (by exact (ToL.cons (PV.To.refl _) (ToL.cons PV.to_none ToL.nil))) (by exact (BorL.cons (PV.bor_val _) (BorL.cons (PV.bor_sl _) BorL.nil)))) (y := ?_)
    refine RunS.step (by exact ⟨⟩) (by exact ⟨⟩) (LocG.of rfl (loc_alloc (by decide) z_77 zo_77)) (free1 (Free.app (Free.app (Free.of_ rfl) rfl) rfl)) ?_
    refine RunS.s1 (x := loc_store (ag := true) (vs := [PV.val _, PV.sl _ _]) ty_77 (by exact ⟨⟩) (by exact rfl) (by exact Nat.le_of_ble_eq_true rfl)) (y := ?_)
    refine sw_seq ?_
    refine sw_of (l := [(0, RV.sv false [PV.sl _ _]), (4, RV.ptr 4 0), (5, RV.sv false [PV.sl _ _]), (6, RV.sv false [PV.val _]), (7, RV.sv false [PV.val _])]) (b := [(4, (77, [PV.val _, PV.sl _ _]))]) (by exact ⟨rfl, rfl, rfl, rfl, rfl, ⟨⟩⟩) (by exact ⟨rfl, ⟨⟩⟩) ?_
    refine sw_reg ?_
    refine RunS.s1 (x := loc_load (qs := [PV.val _, PV.sl .v _]) (by decide) ty_77 (fun h => nomatch h) (by exact Nat.le_of_ble_eq_true rfl) (by exact (ToL.cons (PV.To.refl _) (ToL.cons PV.to_none ToL.nil))) (by exact (BorL.cons (PV.bor_val _) (BorL.cons (PV.bor_sl _) BorL.nil)))) (y := ?_)
    refine RunS.s1 (x := loc_call (qs := [(true, [PV.val _, PV.sl _ _])]) (as_ := [(true, [PV.val _, PV.sl .v _])]) (by decide) c_137 (by exact (And.intro (by exact ⟨⟩) True.intro)) (by exact (And.intro (And.intro rfl (ToL.cons (PV.To.refl _) (ToL.cons PV.to_none ToL.nil))) True.intro)) (by exact impl_IsRow)) (y := ?_)
    refine RunS.s1 (x := loc_not (by decide)) (y := ?_)
    refine sw_cond (t := 13) rfl (fun hb2 => ?_) (fun hb2 => ?_)
    · try simp only [q1, q2, q3, q4, q5, q6, q7, q8, q9] at hb2
      have hno : okRow x[k] = false := by simpa [] using hb2
      refine sw_seq ?_
      refine sw_of (l := [(0, RV.sv false [PV.sl _ _]), (4, RV.ptr 4 0), (5, RV.sv false [PV.sl _ _]), (6, RV.sv false [PV.val _]), (7, RV.sv false [PV.val _])]) (b := [(4, (77, [PV.val _, PV.sl _ _]))]) (by exact ⟨rfl, rfl, rfl, rfl, rfl, ⟨⟩⟩) (by exact ⟨rfl, ⟨⟩⟩) ?_
      refine sw_reg ?_
      refine RunS.s1 (x := loc_const (.inr rfl) (by decide) (ok_sc rfl)) (y := ?_)
      refine sw_ret ?_
      exact (And.intro (by refine bool_eq ?_; simp [id, all_no (P := okRow) hlt hno]) True.intro)
    · try simp only [q1, q2, q3, q4, q5, q6, q7, q8, q9] at hb2
      have hyes : okRow x[k] = true := by simpa [] using hb2
      refine sw_skip ?_
      refine sw_of (l := [(0, RV.sv false [PV.sl _ _]), (4, RV.ptr 4 0), (5, RV.sv false [PV.sl _ _]), (6, RV.sv false [PV.val _]), (7, RV.sv false [PV.val _])]) (b := [(4, (77, [PV.val _, PV.sl _ _]))]) (by exact ⟨rfl, rfl, rfl, rfl, rfl, ⟨⟩⟩) (by exact ⟨rfl, ⟨⟩⟩) ?_
      refine sw_reg ?_
      refine RunS.s1 (x := loc_add (by decide) (by exact ⟨⟩) (ok_sc rfl) (by unfold I64; omega)) (y := ?_)
      refine RunS.s1 (x := loc_copy (.inl rfl) (by decide) (by exact Cp.sc)) (y := ?_)
      refine Exists.intro (k + 1) (And.intro (by exact ⟨by omega, all_succ ha hlt hyes⟩) (And.intro (by omega) (And.intro (And.intro (by exact ⟨rfl, rfl, rfl, ⟨⟩⟩) (by exact ⟨⟩)) (And.intro (by exact And.intro (by exact rfl) (True.intro)) (by exact ⟨⟩)))))
  · try simp only [q1, q2, q3, q4, q5, q6, q7, q8, q9] at hb1
    have hall : x.all okRow = true := all_end (by rw [show x.length = k by omega]; exact ha)
    refine sw_exit ?_
    refine sw_seq ?_
    refine sw_of (l := [(0, RV.sv false [PV.sl _ _]), (5, RV.sv false [PV.sl _ _]), (6, RV.sv false [PV.val _]), (7, RV.sv false [PV.val _])]) (b := []) (by exact ⟨rfl, rfl, rfl, rfl, ⟨⟩⟩) (by exact ⟨⟩) ?_
    refine sw_reg ?_
    refine RunS.s1 (x := loc_const (.inr rfl) (by decide) (ok_sc rfl)) (y := ?_)
    refine sw_ret ?_
    exact (And.intro (by refine bool_eq ?_; simp [id, hall, *]) True.intro)
theorem impl_copyRow {x : Row}  (hb : wtRow x ≤ 68719476736) : SCall Try.prog 74 [(true, [PV.val (vI x.Id), PV.sl .v (x.Values.map cInt)])] (resRV [(true, [PV.val (vI x.Id), PV.sl (.own 3 1) (x.Values.map cInt)])]) := by
  refine scall_of (rs := [(true, [PV.val (vI x.Id), PV.sl (.own 3 1) (x.Values.map cInt)])]) Try.func74 rfl (Nat.le_of_ble_eq_true rfl) (borA_cons (BorL.cons (PV.bor_val _) (BorL.cons (PV.bor_sl _) BorL.nil)) borA_nil) ?_
  intro h0 w0 Fz0
  refine sw_slen (s := 0) (j := 1) rfl rfl fun hl0_1 => ?_
  try rw [List.length_map] at hl0_1
  have hbu := hb
  simp only [wtRow, wtIntS_len, wtInt] at hbu
  refine sw_seq ?_
  refine sw_reg ?_
  refine RunS.step (by exact ⟨rfl, ⟨⟩⟩) (by exact ⟨⟩) (LocG.of rfl (loc_box (ag := true) (cs := [PV.val _, PV.sl _ _]) (by decide) (by exact ⟨⟩))) (free1 (Free.of_ rfl)) ?_
  refine RunS.step (by exact ⟨⟩) (by exact ⟨⟩) (LocG.of rfl (loc_alloc (by decide) z_77 zo_77)) (free1 (Free.app (Free.of_ rfl) rfl)) ?_
  refine sw_seq ?_
  refine sw_of (l := [(1, RV.ptr 1 0), (2, RV.ptr 2 0)]) (b := [(1, (77, [PV.val _, PV.sl _ _])), (2, (77, [PV.val _, PV.sl _ _]))]) (by exact ⟨rfl, rfl, ⟨⟩⟩) (by exact ⟨rfl, rfl, ⟨⟩⟩) ?_
  refine sw_draw hm_ ?_
  refine Run.step 0 (by exact ⟨rfl, ⟨⟩⟩) (by exact ⟨⟩) (LocG.of rfl (loc_field (by decide) fd_77_0)) nofree (by kernel_rfl) ?_
  refine Run.step 1 (by exact ⟨rfl, ⟨⟩⟩) (by exact ⟨rfl, ⟨⟩⟩) (LocG.of rfl (loc_load (qs := [PV.val _]) (by decide) ty_3 (fun _ => rfl) (by exact Nat.le_of_ble_eq_true rfl) (by exact (ToL.cons (PV.To.refl _) ToL.nil)) (by exact (BorL.cons (PV.bor_val _) BorL.nil)))) nofree (by kernel_rfl) ?_
  refine Run.step 0 (by exact ⟨rfl, ⟨⟩⟩) (by exact ⟨⟩) (LocG.of rfl (loc_field (by decide) fd_77_1)) nofree (by kernel_rfl) ?_
  refine Run.step 4 (by exact ⟨rfl, ⟨⟩⟩) (by exact ⟨rfl, ⟨⟩⟩) (LocG.of rfl (loc_load (qs := [PV.sl .v _]) (by decide) ty_23 (fun _ => rfl) (by exact Nat.le_of_ble_eq_true rfl) (by exact (ToL.cons PV.to_none ToL.nil)) (by exact (BorL.cons (PV.bor_sl _) BorL.nil)))) nofree (by kernel_rfl) ?_
  refine Run.step 12 (by exact ⟨rfl, ⟨⟩⟩) (by exact ⟨⟩) (LocG.of rfl (loc_call (qs := [(false, [PV.sl _ _])]) (as_ := [(false, [PV.sl .v _])]) (by decide) c_80 (by exact (And.intro (by exact ⟨⟩) True.intro)) (by exact (And.intro (And.intro rfl (ToL.cons PV.to_none ToL.nil)) True.intro)) (by exact impl_copyInts (by omega)))) nofree (by kernel_rfl) ?_
  refine Run.step 31 (by exact ⟨rfl, rfl, ⟨⟩⟩) (by exact ⟨⟩) (LocG.of rfl (loc_build (qs := [(false, [PV.val _]), (false, [PV.sl _ _])]) (cs := [PV.val _, PV.sl _ _]) (by decide) z_77 zo_77 pl_77 (by exact rfl) (by exact (And.intro (by exact ⟨⟩) (And.intro (by exact ⟨⟩) True.intro))) rfl (by exact rfl))) nofree (by kernel_rfl) ?_
  refine Run.step 63 (by exact ⟨rfl, rfl, ⟨⟩⟩) (by exact ⟨rfl, ⟨⟩⟩) (LocG.of rfl (loc_store (ag := true) (vs := [PV.val _, PV.sl _ _]) ty_77 (by exact ⟨⟩) (by exact rfl) (by exact Nat.le_of_ble_eq_true rfl))) nofree (by kernel_rfl) ?_
  refine sw_ret ?_
  exact (Exists.intro 2 (Exists.intro _ (And.intro (by exact rfl) (And.intro (by exact rfl) (And.intro ty_77 (And.intro (fun h => nomatch h) True.intro))))))
theorem spec_l3Copy {x : Row}  (hb : wtRow x ≤ 68719476736) : SCall Try.prog 77 [(true, [PV.val (vI x.Id), PV.sl .v (x.Values.map cInt)])] (resRV [(true, [PV.val (vI x.Id), PV.sl (.own 3 1) (x.Values.map cInt)])]) := by
  refine scall_of (rs := [(true, [PV.val (vI x.Id), PV.sl (.own 3 1) (x.Values.map cInt)])]) Try.func77 rfl (Nat.le_of_ble_eq_true rfl) (borA_cons (BorL.cons (PV.bor_val _) (BorL.cons (PV.bor_sl _) BorL.nil)) borA_nil) ?_
  intro h0 w0 Fz0
  refine sw_slen (s := 0) (j := 1) rfl rfl fun hl0_1 => ?_
  try rw [List.length_map] at hl0_1
  have hbu := hb
  simp only [wtRow, wtIntS_len, wtInt] at hbu
  refine sw_seq ?_
  refine sw_reg ?_
  refine RunS.step (by exact ⟨rfl, ⟨⟩⟩) (by exact ⟨⟩) (LocG.of rfl (loc_box (ag := true) (cs := [PV.val _, PV.sl _ _]) (by decide) (by exact ⟨⟩))) (free1 (Free.of_ rfl)) ?_
  refine RunS.step (by exact ⟨⟩) (by exact ⟨⟩) (LocG.of rfl (loc_alloc (by decide) z_77 zo_77)) (free1 (Free.app (Free.of_ rfl) rfl)) ?_
  refine sw_seq ?_
  refine sw_of (l := [(1, RV.ptr 1 0), (2, RV.ptr 2 0)]) (b := [(1, (77, [PV.val _, PV.sl _ _])), (2, (77, [PV.val _, PV.sl _ _]))]) (by exact ⟨rfl, rfl, ⟨⟩⟩) (by exact ⟨rfl, rfl, ⟨⟩⟩) ?_
  refine sw_draw hm_ ?_
  refine Run.step 0 (by exact ⟨rfl, ⟨⟩⟩) (by exact ⟨⟩) (LocG.of rfl (loc_field (by decide) fd_77_0)) nofree (by kernel_rfl) ?_
  refine Run.step 1 (by exact ⟨rfl, ⟨⟩⟩) (by exact ⟨rfl, ⟨⟩⟩) (LocG.of rfl (loc_load (qs := [PV.val _]) (by decide) ty_3 (fun _ => rfl) (by exact Nat.le_of_ble_eq_true rfl) (by exact (ToL.cons (PV.To.refl _) ToL.nil)) (by exact (BorL.cons (PV.bor_val _) BorL.nil)))) nofree (by kernel_rfl) ?_
  refine Run.step 0 (by exact ⟨⟩) (by exact ⟨⟩) (LocG.of rfl (loc_bslice (qs := []) (by decide) sl_23 z_3 (by decide) rfl rfl rfl rfl rfl (by exact Nat.le_of_ble_eq_true rfl) (by exact ⟨⟩) rfl)) nofree (by kernel_rfl) ?_
  refine Run.step 0 (by exact ⟨rfl, ⟨⟩⟩) (by exact ⟨⟩) (LocG.of rfl (loc_field (by decide) fd_77_1)) nofree (by kernel_rfl) ?_
  refine Run.step 8 (by exact ⟨rfl, ⟨⟩⟩) (by exact ⟨rfl, ⟨⟩⟩) (LocG.of rfl (loc_load (qs := [PV.sl .v _]) (by decide) ty_23 (fun _ => rfl) (by exact Nat.le_of_ble_eq_true rfl) (by exact (ToL.cons PV.to_none ToL.nil)) (by exact (BorL.cons (PV.bor_sl _) BorL.nil)))) nofree (by kernel_rfl) ?_
  refine Run.step 28 (by exact ⟨rfl, rfl, ⟨⟩⟩) (by exact ⟨⟩) (LocG.of rfl (loc_appendb (by decide) sl_23 z_3 rfl rfl (by decide) (by first | (intro cs hcs; obtain ⟨x, _, rfl⟩ := List.mem_map.1 hcs; exact rfl) | simp) (by first | (intro cs hcs; obtain ⟨x, _, rfl⟩ := List.mem_map.1 hcs; exact (BorL.cons (PV.bor_val _) BorL.nil)) | simp) (by simp only [List.length_map, List.length_append, List.length_cons, List.length_nil]; omega) (by simp only [List.length_map, List.length_append, List.length_cons, List.length_nil]; omega))) nofree (by kernel_rfl) ?_
  refine Run.step 63 (by exact ⟨rfl, rfl, ⟨⟩⟩) (by exact ⟨⟩) (LocG.of rfl (loc_build (qs := [(false, [PV.val _]), (false, [PV.sl _ _])]) (cs := [PV.val _, PV.sl _ _]) (by decide) z_77 zo_77 pl_77 (by exact rfl) (by exact (And.intro (by exact ⟨⟩) (And.intro (by exact ⟨⟩) True.intro))) rfl (by exact rfl))) nofree (by kernel_rfl) ?_
  refine Run.step 127 (by exact ⟨rfl, rfl, ⟨⟩⟩) (by exact ⟨rfl, ⟨⟩⟩) (LocG.of rfl (loc_store (ag := true) (vs := [PV.val _, PV.sl _ _]) ty_77 (by exact ⟨⟩) (by exact rfl) (by exact Nat.le_of_ble_eq_true rfl))) nofree (by kernel_rfl) ?_
  refine sw_ret ?_
  exact (Exists.intro 2 (Exists.intro _ (And.intro (by exact rfl) (And.intro (by exact rfl) (And.intro ty_77 (And.intro (fun h => nomatch h) True.intro))))))
end Go.Proofs.Ytgaaaoapnhambaa
