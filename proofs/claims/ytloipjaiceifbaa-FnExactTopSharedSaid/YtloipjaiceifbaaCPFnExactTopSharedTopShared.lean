/- Proved: for all arguments, the law FnExactTopShared answers true and leaves its arguments as they read. No condition. -/
import Derived.Test.YtloipjaiceifbaaRows
import Derived.Test.YtloipjaiceifbaaCLawTopSharedTopShared
import Derived.Test.YtloipjaiceifbaaCOp
set_option linter.unusedVariables false
namespace Go.Proofs.Ytloipjaiceifbaa
open Go Go.RowKit Go.ChangeShapes Go.WideShapes Go.ChangeAt M
set_option maxRecDepth 10000
namespace fnExactTopShared
theorem own : ownKnob Try.prog.godebug = none := by kernel_rfl
set_option maxRecDepth 100000 in
theorem lifted (os : Os) (started : os.Started) (H : Type) (enc : TypeId × Value → H) :
    ReturnsInHanded {} Try.checked os 5 .any (Rows.fnExactTopSharedSpec.pre6 enc Try.prog Try.f5 Rows.fnExactTopSharedRow.domain false) (Rows.fnExactTopSharedSpec.post enc Try.prog Try.f5 false true false false) := by
  refine returnsInHanded_of_change (C := Try.checked) own started (by kernel_rfl) Try.func5
    (ChangeSpec.witness6 (enc := enc) (C := Try.checked) false ⟨#[], #[.slice none 0 0, .slice none 0 0, .int .i64 0, .int .i64 0], []⟩ 8 (by kernel_rfl) (by kernel_rfl) (by kernel_rfl) (by kernel_rfl)) ?_
  intro W base args ds gs before hval0 hW hcnd _
  have hval : ∀ (j : Nat) t v, Try.f5.params[j]? = some t → args[j]? = some v → Value.okWide Try.prog W .any base t v := hval0
  have hW' := hW
  obtain ⟨p, q, hA0, hV, rfl, hfz, hnd⟩ := hW
  have hA : DataW.TrodAll enc Try.prog W 0 (fun _ => true) true Try.f5.params.toList args.toList ds p := hA0
  rw [Try.params5] at hA hval
  obtain ⟨v0, vs0, d0, ds0, p0, q0, hargs, rfl, rfl, h0, r0⟩ := trodAll_cons hA
  obtain ⟨v1, vs1, d1, ds1, p1, q1, rfl, rfl, rfl, h1, r1⟩ := trodAll_cons r0
  obtain ⟨v2, vs2, d2, ds2, p2, q2, rfl, rfl, rfl, h2, r2⟩ := trodAll_cons r1
  obtain ⟨v3, vs3, d3, ds3, p3, q3, rfl, rfl, rfl, h3, r3⟩ := trodAll_cons r2
  obtain ⟨rfl, rfl, rfl⟩ := trodAll_nil r3
  obtain rfl : args = #[v0, v1, v2, v3] := by cases args; simp_all
  obtain ⟨rfl, rfl⟩ := trodVars_none hV
  obtain ⟨a0, s0, g0⟩ := open_arg FLawTopShared_ty_22 open_AnnotatedS (hval 0 22 v0 rfl rfl) h0
  obtain ⟨a1, s1, g1⟩ := open_arg FLawTopShared_ty_38 open_IntS (hval 1 38 v1 rfl rfl) h1
  obtain ⟨a2, s2, g2⟩ := open_arg FLawTopShared_ty_3 open_Int (hval 2 3 v2 rfl rfl) h2
  obtain ⟨a3, s3, g3⟩ := open_arg FLawTopShared_ty_3 open_Int (hval 3 3 v3 rfl rfl) h3
  clear hA0 hval0
  have hc := law_calls (W := W) (vs := [v0, v1, v2, v3]) (law_TopShared (aL := a0) (aIds := a1) (aField := a2) (aK := a3)) ⟨_, _, rfl, s0, ⟨_, _, rfl, s1, ⟨_, _, rfl, s2, ⟨_, _, rfl, s3, rfl⟩⟩⟩⟩
  exact law_post (by kernel_rfl) (by kernel_rfl) hW' rfl (by kernel_rfl) Try.underlying4 rfl hc
theorem over : Rows.fnExactTopSharedRow.holds Try.pinned (OpenSpec.ofChange Rows.fnExactTopSharedSpec) :=
  OpenClaim.holds_of_wide 5 Try.f5 rfl rfl rfl rfl rfl rfl rfl ⟨rfl, rfl, rfl, rfl, rfl⟩ rfl rfl rfl rfl rfl (by kernel_rfl) Try.func5 (by kernel_rfl)
    (of_decide_eq_true (by kernel_rfl)) (by unfold Func.isWrapper; first | (rw [if_pos (by decide +kernel)]; kernel_rfl) | (rw [if_neg (by decide +kernel)]; exact ⟨rfl, rfl⟩))
    (fun os started H enc _ => lifted os started H enc)
/-- The statement. -/
theorem proved : Rows.FnExactTopSharedSaid := over
#print axioms proved
end fnExactTopShared
end Go.Proofs.Ytloipjaiceifbaa
