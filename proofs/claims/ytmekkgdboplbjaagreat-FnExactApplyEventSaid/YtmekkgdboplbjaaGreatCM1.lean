/- Proved: for all arguments, the law FnExactApplyEvent answers true and leaves its arguments as they read. No condition. -/
import Derived.Test.YtmekkgdboplbjaaGreatCK1
import Derived.Test.YtmekkgdboplbjaaGreatCL1
import Derived.Test.YtmekkgdboplbjaaGreatRows
set_option linter.all false
namespace Go.Proofs.YtmekkgdboplbjaaGreat
open Go Go.RowKit Go.ChangeShapes Go.WideShapes Go.ChangeAt M
set_option maxRecDepth 10000
namespace fnExactApplyEvent
theorem own : ownKnob Tryz.prog.godebug = none := by kernel_rfl
set_option maxRecDepth 100000 in
theorem lifted (os : Os) (started : os.Started) (H : Type) (enc : TypeId × Value → H) :
  ReturnsInHanded {} Tryz.checked os 5 .any (Rows.fnExactApplyEventSpec.pre6 enc Tryz.prog Tryz.f5 Rows.fnExactApplyEventRow.domain false) (Rows.fnExactApplyEventSpec.post enc Tryz.prog Tryz.f5 false true false false) := by
 refine returnsInHanded_of_change (C := Tryz.checked) own started (by kernel_rfl) Tryz.func5
  (ChangeSpec.witness6 (enc := enc) (C := Tryz.checked) false ⟨#[], #[.agg #[.slice none 0 0, .int .i64 0, .int .i64 0, .slice none 0 0, .slice none 0 0, .slice none 0 0, .slice none 0 0, .int .i64 0], .agg #[.int .i64 0, .int .i64 0, .int .i64 0, .slice none 0 0, .slice none 0 0, .int .i64 0, .int .i64 0, .int .i64 0, .int .i64 0, .slice none 0 0, .int .i64 0, .int .i64 0, .int .i64 0]], []⟩ 8 (by kernel_rfl) (by kernel_rfl) (by kernel_rfl) (by kernel_rfl)) ?_
 intro W base args ds gs before hval0 hW hcnd _
 have hval : ∀ (j : Nat) t v, Tryz.f5.params[j]? = some t → args[j]? = some v → Value.okWide Tryz.prog W .any base t v := hval0
 have hW' := hW
 obtain ⟨p, q, hA0, hV, rfl, hfz, hnd⟩ := hW
 have hA : DataW.TrodAll enc Tryz.prog W 0 (fun _ => true) true Tryz.f5.params.toList args.toList ds p := hA0
 rw [Tryz.params5] at hA hval
 obtain ⟨v0, vs0, d0, ds0, p0, q0, hargs, rfl, rfl, h0, r0⟩ := trodAll_cons hA
 obtain ⟨v1, vs1, d1, ds1, p1, q1, rfl, rfl, rfl, h1, r1⟩ := trodAll_cons r0
 obtain ⟨rfl, rfl, rfl⟩ := trodAll_nil r1
 obtain rfl : args = #[v0, v1] := by cases args; simp_all
 obtain ⟨rfl, rfl⟩ := trodVars_none hV
 obtain ⟨a0, s0, g0⟩ := CW tz Wl (hval 0 80 v0 rfl rfl) h0
 obtain ⟨a1, s1, g1⟩ := CW tr Wn (hval 1 88 v1 rfl rfl) h1
 clear hA0 hval0
 have hc := Ns (W := W) (vs := [v0, v1]) (V8 (aE := a0) (aX := a1)) ⟨_, _, rfl, s0, ⟨_, _, rfl, s1, rfl⟩⟩
 exact Nr (by kernel_rfl) (by kernel_rfl) hW' rfl (by kernel_rfl) Tryz.underlying4 rfl hc
theorem over : Rows.fnExactApplyEventRow.holds Tryz.pinned (OpenSpec.ofChange Rows.fnExactApplyEventSpec) :=
 OpenClaim.holds_of_wide 5 Tryz.f5 rfl rfl rfl rfl rfl rfl rfl ⟨rfl, rfl, rfl, rfl, rfl⟩ rfl rfl rfl rfl rfl (by kernel_rfl) Tryz.func5 (by kernel_rfl)
  (of_decide_eq_true (by kernel_rfl)) (by unfold Func.isWrapper; first | (rw [if_pos (by decide +kernel)]; kernel_rfl) | (rw [if_neg (by decide +kernel)]; exact ⟨rfl, rfl⟩))
  (fun os started H enc _ => lifted os started H enc)
theorem proved : Rows.FnExactApplyEventSaid := over
#print axioms proved
end fnExactApplyEvent
end Go.Proofs.YtmekkgdboplbjaaGreat
