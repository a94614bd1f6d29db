/- Proved: for all arguments, the law FnExactDeliverAll answers true and leaves its arguments as they read. No condition. -/
import Derived.Test.YtcfbekjiiokcbaaRows
import Derived.Test.YtcfbekjiiokcbaaCLawDeliverAllDeliverAll
set_option linter.unusedVariables false
namespace Go.Proofs.Ytcfbekjiiokcbaa
open Go Go.RowKit Go.ChangeShapes Go.WideShapes Go.ChangeAt M
set_option maxRecDepth 10000
namespace fnExactDeliverAll
theorem own : ownKnob Try.prog.godebug = none := by kernel_rfl
set_option maxRecDepth 100000 in
theorem lifted (os : Os) (started : os.Started) (H : Type) (enc : TypeId × Value → H) :
    ReturnsInHanded {} Try.checked os 3 .any (Rows.fnExactDeliverAllSpec.pre6 enc Try.prog Try.f3 Rows.fnExactDeliverAllRow.domain false) (Rows.fnExactDeliverAllSpec.post enc Try.prog Try.f3 false true false false) := by
  refine returnsInHanded_of_change (C := Try.checked) own started (by kernel_rfl) Try.func3
    (ChangeSpec.witness6 (enc := enc) (C := Try.checked) false ⟨#[], #[.slice none 0 0, .slice none 0 0], []⟩ 8 (by kernel_rfl) (by kernel_rfl) (by kernel_rfl) (by kernel_rfl)) ?_
  intro W base args ds gs before hval0 hW hcnd _
  have hval : ∀ (j : Nat) t v, Try.f3.params[j]? = some t → args[j]? = some v → Value.okWide Try.prog W .any base t v := hval0
  have hW' := hW
  obtain ⟨p, q, hA0, hV, rfl, hfz, hnd⟩ := hW
  have hA : DataW.TrodAll enc Try.prog W 0 (fun _ => true) true Try.f3.params.toList args.toList ds p := hA0
  rw [Try.params3] at hA hval
  obtain ⟨v0, vs0, d0, ds0, p0, q0, hargs, rfl, rfl, h0, r0⟩ := trodAll_cons hA
  obtain ⟨v1, vs1, d1, ds1, p1, q1, rfl, rfl, rfl, h1, r1⟩ := trodAll_cons r0
  obtain ⟨rfl, rfl, rfl⟩ := trodAll_nil r1
  obtain rfl : args = #[v0, v1] := by cases args; simp_all
  obtain ⟨rfl, rfl⟩ := trodVars_none hV
  obtain ⟨a0, s0, g0⟩ := open_arg ty_22 open_RowS (hval 0 22 v0 rfl rfl) h0
  obtain ⟨a1, s1, g1⟩ := open_arg ty_23 open_IntS (hval 1 23 v1 rfl rfl) h1
  clear hA0 hval0
  have hc := law_calls (W := W) (vs := [v0, v1]) (law_DeliverAll (aRows := a0) (aFates := a1)) ⟨_, _, rfl, s0, ⟨_, _, rfl, s1, rfl⟩⟩
  exact law_post (by kernel_rfl) (by kernel_rfl) hW' rfl (by kernel_rfl) Try.underlying4 rfl hc
theorem over : Rows.fnExactDeliverAllRow.holds Try.pinned (OpenSpec.ofChange Rows.fnExactDeliverAllSpec) :=
  OpenClaim.holds_of_wide 3 Try.f3 rfl rfl rfl rfl rfl rfl rfl ⟨rfl, rfl, rfl, rfl, rfl⟩ rfl rfl rfl rfl rfl (by kernel_rfl) Try.func3 (by kernel_rfl)
    (of_decide_eq_true (by kernel_rfl)) (by unfold Func.isWrapper; first | (rw [if_pos (by decide +kernel)]; kernel_rfl) | (rw [if_neg (by decide +kernel)]; exact ⟨rfl, rfl⟩))
    (fun os started H enc _ => lifted os started H enc)
/-- The statement. -/
theorem proved : Rows.FnExactDeliverAllSaid := over
#print axioms proved
end fnExactDeliverAll
end Go.Proofs.Ytcfbekjiiokcbaa
