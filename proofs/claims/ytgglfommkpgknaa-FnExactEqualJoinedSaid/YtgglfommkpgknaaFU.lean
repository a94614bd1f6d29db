/- Proved: for all arguments, the law FnExactEqualJoined answers true and leaves its arguments as they read. No condition. -/
import Derived.Test.YtgglfommkpgknaaRows
import Derived.Test.YtgglfommkpgknaaFT
set_option linter.unusedVariables false
namespace Go.Proofs.Ytgglfommkpgknaa
open Go Go.RowKit Go.ChangeShapes Go.WideShapes Go.ChangeAt M
set_option maxRecDepth 10000
theorem open_Int : OpenT Try.prog 3 cInt gdInt := open_i Try.underlying3
theorem open_IntS : OpenT Try.prog 58 (cIntS none) gdIntS := open_sl (e := 1) (by kernel_rfl) (by kernel_rfl) (by decide) open_Int (fun _ => rfl)
theorem open_Joined : OpenT Try.prog 102 (cJoined none) gdJoined := by
  intro H enc w sp held n cs x hx
  obtain ⟨hl, hf⟩ := open_fields (l := [(3, 0, 1), (3, 1, 1), (58, 2, 1)]) (by kernel_rfl) hx
  have hl : cs.length = 3 := hl.trans (by kernel_rfl)
  obtain ⟨n0, y0, z0⟩ := hf 0 _ rfl
  obtain ⟨a0, h0, g0⟩ := open_Int enc w _ _ _ _ _ z0
  obtain ⟨n1, y1, z1⟩ := hf 1 _ rfl
  obtain ⟨a1, h1, g1⟩ := open_Int enc w _ _ _ _ _ z1
  obtain ⟨n2, y2, z2⟩ := hf 2 _ rfl
  obtain ⟨a2, h2, g2⟩ := open_IntS enc w _ _ _ _ _ z2
  exact ⟨⟨a0, a1, a2⟩, (rel_cat (o := 0) h0 (rel_cat (o := 1) h1 (rel_cat (o := 2) h2 (rel_end hl)))), ⟨g0, g1, g2⟩⟩
theorem open_JoinedS : OpenT Try.prog 22 (cJoinedS none none) gdJoinedS := open_sl (e := 3) (by kernel_rfl) (by kernel_rfl) (by decide) open_Joined (fun _ => rfl)
namespace fnExactEqualJoined
theorem own : ownKnob Try.prog.godebug = none := by kernel_rfl
set_option maxRecDepth 100000 in
theorem lifted (os : Os) (started : os.Started) (H : Type) (enc : TypeId × Value → H) :
    ReturnsInHanded {} Try.checked os 3 .any (Rows.fnExactEqualJoinedSpec.pre6 enc Try.prog Try.f3 Rows.fnExactEqualJoinedRow.domain false) (Rows.fnExactEqualJoinedSpec.post enc Try.prog Try.f3 false true false false) := by
  refine returnsInHanded_of_change (C := Try.checked) own started (by kernel_rfl) Try.func3
    (ChangeSpec.witness6 (enc := enc) (C := Try.checked) false ⟨#[], #[.slice none 0 0, .slice none 0 0], []⟩ 8 (by kernel_rfl) (by kernel_rfl) (by kernel_rfl) (by kernel_rfl)) ?_
  intro W base args ds gs before hval0 hW hcnd _
  have hval : ∀ (j : Nat) t v, Try.f3.params[j]? = some t → args[j]? = some v → Value.okWide Try.prog W .any base t v := hval0
  have hW' := hW
  obtain ⟨p, q, hA0, hV, rfl, hfz, hnd⟩ := hW
  have hA : DataW.TrodAll enc Try.prog W 0 (fun _ => true) true Try.f3.params.toList args.toList ds p := hA0
  rw [Try.params3] at hA hval
  obtain ⟨v0, vs0, d0, ds0, p0, q0, hargs, rfl, rfl, h0, r0⟩ := trodAll_cons hA
  obtain ⟨v1, vs1, d1, ds1, p1, q1, rfl, rfl, rfl, h1, r1⟩ := trodAll_cons r0
  obtain ⟨rfl, rfl, rfl⟩ := trodAll_nil r1
  obtain rfl : args = #[v0, v1] := by cases args; simp_all
  obtain ⟨rfl, rfl⟩ := trodVars_none hV
  obtain ⟨a0, s0, g0⟩ := open_arg ty_22 open_JoinedS (hval 0 22 v0 rfl rfl) h0
  obtain ⟨a1, s1, g1⟩ := open_arg ty_22 open_JoinedS (hval 1 22 v1 rfl rfl) h1
  clear hA0 hval0
  have hc := law_calls (W := W) (vs := [v0, v1]) (law_EqualJoined (aA := a0) (aB := a1)) ⟨_, _, rfl, s0, ⟨_, _, rfl, s1, rfl⟩⟩
  exact law_post (by kernel_rfl) (by kernel_rfl) hW' rfl (by kernel_rfl) Try.underlying4 rfl hc
theorem over : Rows.fnExactEqualJoinedRow.holds Try.pinned (OpenSpec.ofChange Rows.fnExactEqualJoinedSpec) :=
  OpenClaim.holds_of_wide 3 Try.f3 rfl rfl rfl rfl rfl rfl rfl ⟨rfl, rfl, rfl, rfl, rfl⟩ rfl rfl rfl rfl rfl (by kernel_rfl) Try.func3 (by kernel_rfl)
    (of_decide_eq_true (by kernel_rfl)) (by unfold Func.isWrapper; first | (rw [if_pos (by decide +kernel)]; kernel_rfl) | (rw [if_neg (by decide +kernel)]; exact ⟨rfl, rfl⟩))
    (fun os started H enc _ => lifted os started H enc)
/-- The statement. -/
theorem proved : Rows.FnExactEqualJoinedSaid := over
#print axioms proved
end fnExactEqualJoined
end Go.Proofs.Ytgglfommkpgknaa
