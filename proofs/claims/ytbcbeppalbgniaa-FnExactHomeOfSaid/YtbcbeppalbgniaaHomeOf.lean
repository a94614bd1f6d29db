/-
  Proved: for all ints, the program's HomeOf returns what the reference's returns (the law FnExactHomeOf answers true and leaves its arguments as they read). No condition.
-/
import Derived.Test.YtbcbeppalbgniaaRows
import Derived.WalkKit
import Derived.ProofKit
import Derived.OpenShut
import Derived.Lib.Hide
namespace Go.Proofs.Ytbcbeppalbgniaa.fnExactHomeOf
open Go.ChangeShapes Go.WideShapes Go.ChangeAt Go.RowKit
set_option linter.unusedVariables false

theorem own : ownKnob Try.prog.godebug = none := by kernel_rfl


def ans (s n : Int) : Int := if 2 ≤ n ∧ n ≤ 4 ∧ 0 ≤ s then s % n else -1
theorem ans_neg {s n : Int} (h : ¬ (2 ≤ n ∧ n ≤ 4) ∨ s < 0) : ans s n = -1 := if_neg (by omega)
theorem ans_ok {s n : Int} (h2 : 2 ≤ n) (h3 : n ≤ 4) (h4 : 0 ≤ s) : ans s n = s % n := if_pos ⟨h2, h3, h4⟩

theorem in_spec (n l h : Int) (w : World) :
    Calls Try.prog 32 #[.int .i64 n, .int .i64 l, .int .i64 h] w fun e w' => e = .returned (.bool (decide (l ≤ n) && decide (n ≤ h))) ∧ w = w' := by
  go_enter Try.func32, Try.ntmps32
  go_wp2
  all_goals
    go_ret
    exact ⟨by simp [*] <;> omega, rfl⟩
theorem in_impl (n l h : Int) (w : World) :
    Calls Try.prog 33 #[.int .i64 n, .int .i64 l, .int .i64 h] w fun e w' => e = .returned (.bool (decide (l ≤ n) && decide (n ≤ h))) ∧ w = w' := by
  go_enter Try.func33, Try.ntmps33
  go_wp2
  all_goals
    go_ret
    exact ⟨by simp [*] <;> omega, rfl⟩

set_option maxHeartbeats 400000 in
theorem f_spec (s n : Int) (w : World) :
    Calls Try.prog 11 #[.int .i64 s, .int .i64 n] w fun e w' => e = .returned (.int .i64 (ans s n)) ∧ w = w' := by
  by_cases h1 : 2 ≤ n ∧ n ≤ 4
  · obtain ⟨h2, h3⟩ := h1
    by_cases h4 : s < 0
    · have HA := Lib.hid (ans_neg (n := n) (s := s) (.inr h4))
      go_enter Try.func11, Try.ntmps11
      go_wp2_with (go_at_call 32; refine (in_spec _ _ _ _).mono ?_; rintro e w' ⟨rfl, rfl⟩)
      go_ret
      exact ⟨by rw [HA.out]; rfl, rfl⟩
    · have HA := Lib.hid (ans_ok h2 h3 (Int.not_lt.1 h4))
      have b0 : 0 ≤ s % n := Int.emod_nonneg _ (by omega)
      have b1 : s % n < n := Int.emod_lt_of_pos _ (by omega)
      go_enter Try.func11, Try.ntmps11
      go_wp2_with (go_at_call 32; refine (in_spec _ _ _ _).mono ?_; rintro e w' ⟨rfl, rfl⟩)
      go_ret
      exact ⟨by rw [HA.out]; rfl, rfl⟩
  · have HA := Lib.hid (ans_neg (n := n) (s := s) (.inl h1))
    go_enter Try.func11, Try.ntmps11
    go_wp2_with (go_at_call 32; refine (in_spec _ _ _ _).mono ?_; rintro e w' ⟨rfl, rfl⟩)
    all_goals
      go_ret
      exact ⟨by rw [HA.out]; rfl, rfl⟩

set_option maxHeartbeats 400000 in
theorem f_impl (s n : Int) (w : World) :
    Calls Try.prog 12 #[.int .i64 s, .int .i64 n] w fun e w' => e = .returned (.int .i64 (ans s n)) ∧ w = w' := by
  by_cases h1 : 2 ≤ n ∧ n ≤ 4
  · obtain ⟨h2, h3⟩ := h1
    by_cases h4 : s < 0
    · have HA := Lib.hid (ans_neg (n := n) (s := s) (.inr h4))
      go_enter Try.func12, Try.ntmps12
      go_wp2_with (go_at_call 33; refine (in_impl _ _ _ _).mono ?_; rintro e w' ⟨rfl, rfl⟩)
      go_ret
      exact ⟨by rw [HA.out]; rfl, rfl⟩
    · have HA := Lib.hid (ans_ok h2 h3 (Int.not_lt.1 h4))
      have b0 : 0 ≤ s % n := Int.emod_nonneg _ (by omega)
      have b1 : s % n < n := Int.emod_lt_of_pos _ (by omega)
      go_enter Try.func12, Try.ntmps12
      go_wp2_with (go_at_call 33; refine (in_impl _ _ _ _).mono ?_; rintro e w' ⟨rfl, rfl⟩)
      go_ret
      exact ⟨by rw [HA.out]; rfl, rfl⟩
  · have HA := Lib.hid (ans_neg (n := n) (s := s) (.inl h1))
    go_enter Try.func12, Try.ntmps12
    go_wp2_with (go_at_call 33; refine (in_impl _ _ _ _).mono ?_; rintro e w' ⟨rfl, rfl⟩)
    all_goals
      go_ret
      exact ⟨by rw [HA.out]; rfl, rfl⟩

theorem walk (a0 : Int) (a1 : Int) (w0 : (Lit.int .i64 a0).wf = true) (w1 : (Lit.int .i64 a1).wf = true) (w : World) :
    Calls Try.prog 4 #[.int .i64 a0, .int .i64 a1] w fun e w' => e = .returned (.bool true) ∧ Grown w w' := by
  clear w0 w1
  go_enter Try.func4, Try.ntmps4
  go_wp2_with (first | (go_at_call 11; refine (f_spec _ _ _).mono ?_; rintro e w' ⟨rfl, rfl⟩) | (go_at_call 12; refine (f_impl _ _ _).mono ?_; rintro e w' ⟨rfl, rfl⟩))
  go_ret
  exact ⟨rfl, Grown.refl _⟩

/-! ### THE ROW's STEP: WRITTEN OUT: LEAVE IT -/
set_option maxRecDepth 100000 in
theorem lifted (os : Os) (started : os.Started) (H : Type) (enc : TypeId × Value → H) :
    ReturnsInHanded {} Try.checked os 4 .any (Rows.fnExactHomeOfSpec.pre6 enc Try.prog Try.f4 Rows.fnExactHomeOfRow.domain false) (Rows.fnExactHomeOfSpec.post enc Try.prog Try.f4 false true false false) := by
  refine returnsInHanded_of_change (C := Try.checked) own started (by kernel_rfl) Try.func4
    (ChangeSpec.witness6 (enc := enc) (C := Try.checked) false ⟨#[], #[.int .i64 0, .int .i64 0], []⟩ 8 (by kernel_rfl) (by kernel_rfl) (by kernel_rfl) (by kernel_rfl)) ?_
  intro W base args ds gs before hval0 hW hcnd _
  have hval : ∀ (j : Nat) t v, Try.f4.params[j]? = some t → args[j]? = some v → Value.okWide Try.prog W .any base t v := hval0
  have hW' := hW
  obtain ⟨p, q, hA0, hV, rfl, hfz, hnd⟩ := hW
  have hA : DataW.TrodAll enc Try.prog W 0 (fun _ => true) true Try.f4.params.toList args.toList ds p := hA0
  rw [Try.params4] at hA hval
  obtain ⟨v0, vs0, d0, ds0, p0, q0, hargs, rfl, rfl, h0, r0⟩ := trodAll_cons hA
  obtain ⟨v1, vs1, d1, ds1, p1, q1, rfl, rfl, rfl, h1, r1⟩ := trodAll_cons r0
  obtain ⟨rfl, rfl, rfl⟩ := trodAll_nil r1
  obtain rfl : args = #[v0, v1] := by cases args; simp_all
  obtain ⟨rfl, rfl⟩ := trodVars_none hV
  obtain ⟨a0, rfl, rfl, rfl, w0⟩ := open_int Try.underlying3 (hval 0 3 v0 rfl rfl) h0
  obtain ⟨a1, rfl, rfl, rfl, w1⟩ := open_int Try.underlying3 (hval 1 3 v1 rfl rfl) h1
  clear hA0 hval0
  simp only [List.append_nil] at hW'
  refine (walk a0 a1 w0 w1 W).mono fun e W' ⟨he, hg⟩ => ?_
  subst he
  exact ⟨_, rfl, post_of_same (pa := []) (pv := []) hW' (fun _ _ _ => (trodAll_cons_mk (shut_bool Try.underlying4 _) trodAll_mk0)) (fun sp _ => (trodAll_cons_mk (shut_int Try.underlying3 w0) (trodAll_cons_mk (shut_int Try.underlying3 w1) trodAll_mk0))) (fun _ _ => rfl) rfl
    (hg.frame _) hg.2.1 (ok_one (by kernel_rfl) rfl (okWide_bool_mk Try.underlying4 _))⟩

theorem over : Rows.fnExactHomeOfRow.holds Try.pinned (OpenSpec.ofChange Rows.fnExactHomeOfSpec) :=
  OpenClaim.holds_of_wide 4 Try.f4 rfl rfl rfl rfl rfl rfl rfl ⟨rfl, rfl, rfl, rfl, rfl⟩ rfl rfl rfl rfl rfl (by kernel_rfl) Try.func4 (by kernel_rfl)
    (of_decide_eq_true (by kernel_rfl)) (by unfold Func.isWrapper; first | (rw [if_pos (by decide +kernel)]; kernel_rfl) | (rw [if_neg (by decide +kernel)]; exact ⟨rfl, rfl⟩))
    (fun os started H enc _ => lifted os started H enc)

/-- ████ THE STATEMENT ████ -/
theorem proved : Rows.FnExactHomeOfSaid :=
  over
#print axioms proved
end Go.Proofs.Ytbcbeppalbgniaa.fnExactHomeOf
