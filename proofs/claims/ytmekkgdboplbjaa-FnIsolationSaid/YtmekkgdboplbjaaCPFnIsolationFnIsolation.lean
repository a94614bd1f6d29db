/- Proved: for all arguments, the law FnIsolation answers true and leaves its arguments as they read. No condition. -/
import Derived.Test.YtmekkgdboplbjaaRows
import Derived.Test.YtmekkgdboplbjaaCLawFnIsolationFnIsolation
import Derived.Test.YtmekkgdboplbjaaCOp
set_option linter.unusedVariables false
namespace Go.Proofs.Ytmekkgdboplbjaa
open Go Go.RowKit Go.ChangeShapes Go.WideShapes Go.ChangeAt M
set_option maxRecDepth 10000
namespace fnIsolation
theorem own : ownKnob Try.prog.godebug = none := by kernel_rfl
set_option maxRecDepth 100000 in
theorem lifted (os : Os) (started : os.Started) (H : Type) (enc : TypeId × Value → H) :
  ReturnsInHanded {} Try.checked os 3 .any (Rows.fnIsolationSpec.pre6 enc Try.prog Try.f3 Rows.fnIsolationRow.domain false) (Rows.fnIsolationSpec.post enc Try.prog Try.f3 false true false false) := by
 refine returnsInHanded_of_change (C := Try.checked) own started (by kernel_rfl) Try.func3
  (ChangeSpec.witness6 (enc := enc) (C := Try.checked) false ⟨#[], #[.slice none 0 0], []⟩ 8 (by kernel_rfl) (by kernel_rfl) (by kernel_rfl) (by kernel_rfl)) ?_
 intro W base args ds gs before hval0 hW hcnd _
 have hval : ∀ (j : Nat) t v, Try.f3.params[j]? = some t → args[j]? = some v → Value.okWide Try.prog W .any base t v := hval0
 have hW' := hW
 obtain ⟨p, q, hA0, hV, rfl, hfz, hnd⟩ := hW
 have hA : DataW.TrodAll enc Try.prog W 0 (fun _ => true) true Try.f3.params.toList args.toList ds p := hA0
 rw [Try.params3] at hA hval
 obtain ⟨v0, vs0, d0, ds0, p0, q0, hargs, rfl, rfl, h0, r0⟩ := trodAll_cons hA
 obtain ⟨rfl, rfl, rfl⟩ := trodAll_nil r0
 obtain rfl : args = #[v0] := by cases args; simp_all
 obtain ⟨rfl, rfl⟩ := trodVars_none hV
 obtain ⟨a0, s0, g0⟩ := open_arg ty_22 open_U8S (hval 0 22 v0 rfl rfl) h0
 clear hA0 hval0
 have hc := law_calls (W := W) (vs := [v0]) (law_FnIsolation (code := a0) g0) ⟨_, _, rfl, s0, rfl⟩
 exact law_post (by kernel_rfl) (by kernel_rfl) hW' rfl (by kernel_rfl) Try.underlying4 rfl hc
theorem over : Rows.fnIsolationRow.holds Try.pinned (OpenSpec.ofChange Rows.fnIsolationSpec) :=
 OpenClaim.holds_of_wide 3 Try.f3 rfl rfl rfl rfl rfl rfl rfl ⟨rfl, rfl, rfl, rfl, rfl⟩ rfl rfl rfl rfl rfl (by kernel_rfl) Try.func3 (by kernel_rfl)
  (of_decide_eq_true (by kernel_rfl)) (by unfold Func.isWrapper; first | (rw [if_pos (by decide +kernel)]; kernel_rfl) | (rw [if_neg (by decide +kernel)]; exact ⟨rfl, rfl⟩))
  (fun os started H enc _ => lifted os started H enc)
theorem proved : Rows.FnIsolationSaid := over
#print axioms proved
end fnIsolation
end Go.Proofs.Ytmekkgdboplbjaa
