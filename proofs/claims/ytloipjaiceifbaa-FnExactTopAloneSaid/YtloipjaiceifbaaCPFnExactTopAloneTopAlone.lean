/- Proved: for all arguments, the law FnExactTopAlone answers true and leaves its arguments as they read. No condition. -/
import Derived.Test.YtloipjaiceifbaaRows
import Derived.Test.YtloipjaiceifbaaCLawTopAloneTopAlone
import Derived.Test.YtloipjaiceifbaaCOp
set_option linter.unusedVariables false
namespace Go.Proofs.Ytloipjaiceifbaa
open Go Go.RowKit Go.ChangeShapes Go.WideShapes Go.ChangeAt M
set_option maxRecDepth 10000
namespace fnExactTopAlone
theorem own : ownKnob Try.prog.godebug = none := by kernel_rfl
set_option maxRecDepth 100000 in
theorem lifted (os : Os) (started : os.Started) (H : Type) (enc : TypeId × Value → H) :
    ReturnsInHanded {} Try.checked os 4 .any (Rows.fnExactTopAloneSpec.pre6 enc Try.prog Try.f4 Rows.fnExactTopAloneRow.domain false) (Rows.fnExactTopAloneSpec.post enc Try.prog Try.f4 false true false false) := by
  refine returnsInHanded_of_change (C := Try.checked) own started (by kernel_rfl) Try.func4
    (ChangeSpec.witness6 (enc := enc) (C := Try.checked) false ⟨#[], #[.slice none 0 0, .int .i64 0, .int .i64 0], []⟩ 8 (by kernel_rfl) (by kernel_rfl) (by kernel_rfl) (by kernel_rfl)) ?_
  intro W base args ds gs before hval0 hW hcnd _
  have hval : ∀ (j : Nat) t v, Try.f4.params[j]? = some t → args[j]? = some v → Value.okWide Try.prog W .any base t v := hval0
  have hW' := hW
  obtain ⟨p, q, hA0, hV, rfl, hfz, hnd⟩ := hW
  have hA : DataW.TrodAll enc Try.prog W 0 (fun _ => true) true Try.f4.params.toList args.toList ds p := hA0
  rw [Try.params4] at hA hval
  obtain ⟨v0, vs0, d0, ds0, p0, q0, hargs, rfl, rfl, h0, r0⟩ := trodAll_cons hA
  obtain ⟨v1, vs1, d1, ds1, p1, q1, rfl, rfl, rfl, h1, r1⟩ := trodAll_cons r0
  obtain ⟨v2, vs2, d2, ds2, p2, q2, rfl, rfl, rfl, h2, r2⟩ := trodAll_cons r1
  obtain ⟨rfl, rfl, rfl⟩ := trodAll_nil r2
  obtain rfl : args = #[v0, v1, v2] := by cases args; simp_all
  obtain ⟨rfl, rfl⟩ := trodVars_none hV
  obtain ⟨a0, s0, g0⟩ := open_arg FLawTopAlone_ty_30 open_RowS (hval 0 30 v0 rfl rfl) h0
  obtain ⟨a1, s1, g1⟩ := open_arg FLawTopAlone_ty_3 open_Int (hval 1 3 v1 rfl rfl) h1
  obtain ⟨a2, s2, g2⟩ := open_arg FLawTopAlone_ty_3 open_Int (hval 2 3 v2 rfl rfl) h2
  clear hA0 hval0
  have hc := law_calls (W := W) (vs := [v0, v1, v2]) (law_TopAlone (aRows := a0) (aField := a1) (aK := a2)) ⟨_, _, rfl, s0, ⟨_, _, rfl, s1, ⟨_, _, rfl, s2, rfl⟩⟩⟩
  exact law_post (by kernel_rfl) (by kernel_rfl) hW' rfl (by kernel_rfl) Try.underlying4 rfl hc
theorem over : Rows.fnExactTopAloneRow.holds Try.pinned (OpenSpec.ofChange Rows.fnExactTopAloneSpec) :=
  OpenClaim.holds_of_wide 4 Try.f4 rfl rfl rfl rfl rfl rfl rfl ⟨rfl, rfl, rfl, rfl, rfl⟩ rfl rfl rfl rfl rfl (by kernel_rfl) Try.func4 (by kernel_rfl)
    (of_decide_eq_true (by kernel_rfl)) (by unfold Func.isWrapper; first | (rw [if_pos (by decide +kernel)]; kernel_rfl) | (rw [if_neg (by decide +kernel)]; exact ⟨rfl, rfl⟩))
    (fun os started H enc _ => lifted os started H enc)
/-- The statement. -/
theorem proved : Rows.FnExactTopAloneSaid := over
#print axioms proved
end fnExactTopAlone
end Go.Proofs.Ytloipjaiceifbaa
