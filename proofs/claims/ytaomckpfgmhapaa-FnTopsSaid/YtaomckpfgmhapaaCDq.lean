/- Definitions and their laws. No condition. -/
import Derived.Test.YtaomckpfgmhapaaCDz
import Derived.Test.YtaomckpfgmhapaaCDi
set_option linter.unusedVariables false
set_option linter.unusedSimpArgs false
namespace Go.Proofs.Ytaomckpfgmhapaa
open Go Go.RowKit M
set_option maxRecDepth 10000
noncomputable def d13Q (c : Cur) : List Query × Cur := quesC c 5
noncomputable def d13R (c : Cur) : List Row × Cur := rowsC (d13Q c).2 8
noncomputable def d13A (c : Cur) : List Annotated := annotate (buildIdx (d13Q c).1) (d13R c).1
@[reducible] noncomputable def any13B (c : Cur) : Int × Cur := belowC (d13R c).2 10
noncomputable def any13C (c : Cur) : List Annotated × Cur :=
  if (any13B c).1 = 0 then (d13A c ++ [⟨(anyC (any13B c).2).1, (anySetC (anyC (any13B c).2).2).1⟩], (anySetC (anyC (any13B c).2).2).2)
  else (d13A c, (any13B c).2)
theorem any13_0 {c : Cur} (h : (any13B c).1 = 0) : any13C c = (d13A c ++ [⟨(anyC (any13B c).2).1, (anySetC (anyC (any13B c).2).2).1⟩], (anySetC (anyC (any13B c).2).2).2) := if_pos h
theorem any13_1 {c : Cur} (h : ¬ (any13B c).1 = 0) : any13C c = (d13A c, (any13B c).2) := if_neg h
theorem d13A_wt (c : Cur) : wtAnnotatedS (d13A c) ≤ 300 := by
  have h1 := annotate_wt (buildIdx (d13Q c).1) (d13R c).1
  have h2 := rowsC_wt (d13Q c).2 (most := 8) (by decide)
  have h3 : (d13R c).1.length ≤ wtRowS (d13R c).1 := Nat.le_add_right _ _
  have h4 : (d13R c).1.length ≤ 8 := by
    have e : (d13R c).1 = (rowsR (d13Q c).2 8).l := rfl
    have hb1 := belowC_ge (belowC (d13Q c).2 3).2 (8 + 1)
    have hb2 := belowC_lt (belowC (d13Q c).2 3).2 (n := 8 + 1) (by decide)
    rw [e]; unfold rowsR
    rw [rowsTo_len]; omega
  have e : wtRowS (d13R c).1 = wtRowS (rowsC (d13Q c).2 8).1 := rfl
  unfold d13A
  omega
theorem any13C_wt (c : Cur) : wtAnnotatedS (any13C c).1 ≤ 320 := by
  have h := d13A_wt c
  unfold any13C
  split
  · have h2 := anyC_wt (any13B c).2
    have h3 := anySetC_len (anyC (any13B c).2).2
    unfold wtAnnotatedS at h ⊢
    simp only [List.length_append, List.length_singleton, List.map_append, List.sum_append, List.map_cons, List.map_nil, List.sum_cons, List.sum_nil, wtAnnotated, wtIntS_len]
    omega
  · dsimp only; omega
@[reducible] noncomputable def d16F (c : Cur) : Int × Cur := belowC (any13C (any13C c).2).2 3
@[reducible] noncomputable def d16O (c : Cur) : Int × Cur := belowC (d16F c).2 12
noncomputable def d16C (c : Cur) : Int × Cur := if (d16O c).1 = 0 then pickC (d16O c).2 [-1, 3] else ((d16F c).1, (d16O c).2)
noncomputable def d16G (c : Cur) : Int × Cur := belowC (d16C c).2 3
theorem d16C_0 {c : Cur} (h : (d16O c).1 = 0) : d16C c = pickC (d16O c).2 [-1, 3] := if_pos h
theorem d16C_1 {c : Cur} (h : ¬ (d16O c).1 = 0) : d16C c = ((d16F c).1, (d16O c).2) := if_neg h
@[reducible] noncomputable def d14O (c : Cur) : Int × Cur := belowC (belowC (any13C c).2 3).2 10
noncomputable def d14C (c : Cur) : Int × Cur := if (d14O c).1 = 0 then pickC (d14O c).2 [-1, 3] else ((belowC (any13C c).2 3).1, (d14O c).2)
noncomputable def d14G (c : Cur) : Int × Cur := belowC (d14C c).2 3
theorem d14C_0 {c : Cur} (h : (d14O c).1 = 0) : d14C c = pickC (d14O c).2 [-1, 3] := if_pos h
theorem d14C_1 {c : Cur} (h : ¬ (d14O c).1 = 0) : d14C c = ((belowC (any13C c).2 3).1, (d14O c).2) := if_neg h
noncomputable def drJoin (code : List Int) (hb : code.length ≤ 9223372036854775807) : List Annotated × List Annotated × Int × Int := ((any13C (curNew code hb)).1, (any13C (any13C (curNew code hb)).2).1, (d16C (curNew code hb)).1, (d16G (curNew code hb)).1)

end Go.Proofs.Ytaomckpfgmhapaa
