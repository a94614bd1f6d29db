/- Definitions and their laws. No condition. -/
import Derived.Test.YtmekkgdboplbjaaCDa
set_option linter.unusedVariables false
set_option linter.unusedSimpArgs false
namespace Go.Proofs.Ytmekkgdboplbjaa
open Go Go.RowKit M
set_option maxRecDepth 10000
structure Cur where
 b : List Int
 i : Nat
 h : Int
 hb : b.length ≤ 9223372036854775807
def cCur (o : Fl) (c : Cur) : List PV := [PV.sl o (c.b.map cU8), PV.val (vI (c.i : Int)), PV.val (vI c.h)]
def hashTo (code : List Int) : Nat → Int
 | 0 => 10101 + code.length
 | k + 1 => andW (addW (addW (mulW (hashTo code k) 131) (IntKind.i64.wrap (code.getD k 0))) 7) 1073741823
def curNew (code : List Int) (hb : code.length ≤ 9223372036854775807) : Cur := ⟨code, 0, hashTo code (min code.length 4000), hb⟩
def nextH (h : Int) : Int := addW (mulW h 6364136223846793005) 1442695040888963407
def byte0 (h : Int) : Int := andW (xorW (h.fdiv (2 ^ 33)) (h.fdiv (2 ^ 45))) 255
def byteC (c : Cur) : Int × Cur := if c.i < c.b.length then (andW (addW (byte0 (nextH c.h)) (IntKind.i64.wrap (c.b.getD c.i 0))) 255, ⟨c.b, c.i + 1, nextH c.h, c.hb⟩) else (byte0 (nextH c.h), ⟨c.b, c.i, nextH c.h, c.hb⟩)
def belowC (c : Cur) (n : Int) : Int × Cur := if n ≤ 0 then (0, c) else ((byteC c).1.tmod n, (byteC c).2)
def pickC (c : Cur) (l : List Int) : Int × Cur := (l.getD (belowC c l.length).1.toNat 0, (belowC c l.length).2)
def valsC (w : Int) (c : Cur) : Nat → List Int × Cur
 | 0 => ([], c)
 | k + 1 => ((valsC w c k).1 ++ [(belowC (valsC w c k).2 w).1], (belowC (valsC w c k).2 w).2)
def rowC (c : Cur) (id : Int) : Row × Cur := (⟨id, (valsC (pickC c [3, 6, 100]).1 (pickC c [3, 6, 100]).2 3).1⟩, (valsC (pickC c [3, 6, 100]).1 (pickC c [3, 6, 100]).2 3).2)
structure RowsS where
 id : Int
 l : List Row
 c : Cur
def rowsTo (id : Int) (c : Cur) : Nat → RowsS
 | 0 => ⟨id, [], c⟩
 | k + 1 => ⟨(rowsTo id c k).id + 1 + (belowC (rowC (rowsTo id c k).c (rowsTo id c k).id).2 3).1, (rowsTo id c k).l ++ [(rowC (rowsTo id c k).c (rowsTo id c k).id).1], (belowC (rowC (rowsTo id c k).c (rowsTo id c k).id).2 3).2⟩
def rowsR (c : Cur) (most : Int) : RowsS := rowsTo (belowC c 3).1 (belowC (belowC c 3).2 (most + 1)).2 (belowC (belowC c 3).2 (most + 1)).1.toNat
def rowsC (c : Cur) (most : Int) : List Row × Cur := ((rowsR c most).l, (rowsR c most).c)
def anyR (c : Cur) : Row × Cur := rowC (belowC c 9).2 (belowC c 9).1
def anyB (c : Cur) : Int × Cur := belowC (anyR c).2 8
def anyC (c : Cur) : Row × Cur :=
 if (anyB c).1 = 0 then (⟨(pickC (anyB c).2 [-1, 999, 1000]).1, (anyR c).1.Values⟩, (pickC (anyB c).2 [-1, 999, 1000]).2)
 else if (anyB c).1 = 1 then (⟨(anyR c).1.Id, (anyR c).1.Values.set 0 (pickC (anyB c).2 [-1, 99, 100]).1⟩, (pickC (anyB c).2 [-1, 99, 100]).2)
 else if (anyB c).1 = 2 then (⟨(anyR c).1.Id, (anyR c).1.Values ++ [1]⟩, (anyB c).2)
 else ((anyR c).1, (anyB c).2)
def anyRowsC (c : Cur) : List Row × Cur :=
 if (belowC (rowsC c 8).2 6).1 = 0 then ((rowsC c 8).1 ++ [(anyC (belowC (rowsC c 8).2 6).2).1], (anyC (belowC (rowsC c 8).2 6).2).2)
 else ((rowsC c 8).1, (belowC (rowsC c 8).2 6).2)
def fatesC (c : Cur) : List Int × Cur := valsC 5 (belowC c 12).2 (belowC c 12).1.toNat
section
variable {c : Cur} {n w id : Int} {k : Nat} {l : List Int}
theorem byteC_yes (h : c.i < c.b.length) : byteC c = (andW (addW (byte0 (nextH c.h)) (IntKind.i64.wrap (c.b.getD c.i 0))) 255, ⟨c.b, c.i + 1, nextH c.h, c.hb⟩) := if_pos h
theorem byteC_no (h : ¬ c.i < c.b.length) : byteC c = (byte0 (nextH c.h), ⟨c.b, c.i, nextH c.h, c.hb⟩) := if_neg h
theorem byte0_le (h : Int) : 0 ≤ byte0 h ∧ byte0 h ≤ 255 := andW_le (m := 255) (by decide)
theorem byteC_le (c : Cur) : 0 ≤ (byteC c).1 ∧ (byteC c).1 ≤ 255 := by
 unfold byteC
 split
 ·exact andW_le (m := 255) (by decide)
 ·exact byte0_le _
theorem belowC_no (h : n ≤ 0) : belowC c n = (0, c) := if_pos h
theorem belowC_yes (h : 0 < n) : belowC c n = ((byteC c).1.tmod n, (byteC c).2) := if_neg (by omega)
theorem belowC_ge (c : Cur) (n : Int) : 0 ≤ (belowC c n).1 := by
 by_cases h : n ≤ 0
 ·rw [belowC_no h]; exact Int.le_refl _
 ·rw [belowC_yes (by omega)]; exact Int.tmod_nonneg n (byteC_le c).1
theorem belowC_lt (c : Cur) (h : 0 < n) : (belowC c n).1 < n := by
 rw [belowC_yes h]; exact Int.tmod_lt_of_pos _ h
theorem pickC_mem (c : Cur) (h : 0 < l.length) : (pickC c l).1 ∈ l := by
 have h1 := belowC_ge c (l.length : Int)
 have h2 := belowC_lt c (n := (l.length : Int)) (by omega)
 have h3 : (belowC c (l.length : Int)).1.toNat < l.length := by omega
 show l.getD _ 0 ∈ l
 rw [List.getD_eq_getElem?_getD, List.getElem?_eq_getElem h3]
 exact List.getElem_mem h3
theorem pick3 (c : Cur) : 0 ≤ (pickC c [3, 6, 100]).1 ∧ (pickC c [3, 6, 100]).1 ≤ 100 := by
 have h := pickC_mem c (l := [3, 6, 100]) (by decide)
 simp at h; omega
theorem valsC_len : ((valsC w c k).1).length = k := by
 induction k with
 | zero => rfl
 | succ k ih => rw [valsC, List.length_append, ih]; rfl
theorem rowC_wt (c : Cur) (id : Int) : wtRow (rowC c id).1 = 3 := by
 unfold rowC wtRow
 simp only [wtIntS_len, valsC_len, wtInt]
theorem rowsTo_id (h : 0 ≤ id ∧ id ≤ 2) : 0 ≤ (rowsTo id c k).id ∧ (rowsTo id c k).id ≤ 3 * k + 2 := by
 induction k with
 | zero => exact ⟨h.1, by rw [rowsTo]; dsimp only; omega⟩
 | succ k ih =>
  rw [rowsTo]
  have h1 := belowC_ge (rowC (rowsTo id c k).c (rowsTo id c k).id).2 3
  have h2 := belowC_lt (rowC (rowsTo id c k).c (rowsTo id c k).id).2 (n := 3) (by decide)
  dsimp only; omega
theorem rowsTo_len : (rowsTo id c k).l.length = k := by
 induction k with
 | zero => rfl
 | succ k ih => rw [rowsTo]; dsimp only; rw [List.length_append, ih]; rfl
theorem rowsTo_wt : ((rowsTo id c k).l.map wtRow).sum = 3 * k := by
 induction k with
 | zero => rfl
 | succ k ih =>
  rw [rowsTo]; dsimp only
  rw [List.map_append, List.sum_append, ih, List.map_cons, List.map_nil, List.sum_cons, List.sum_nil, rowC_wt]; omega
theorem rowsC_wt (c : Cur) {most : Int} (h : 0 ≤ most) : (wtRowS (rowsC c most).1 : Int) ≤ 4 * most := by
 have h1 := belowC_ge (belowC c 3).2 (most + 1)
 have h2 := belowC_lt (belowC c 3).2 (n := most + 1) (by omega)
 have h3 := rowsTo_len (id := (belowC c 3).1) (c := (belowC (belowC c 3).2 (most + 1)).2) (k := (belowC (belowC c 3).2 (most + 1)).1.toNat)
 have h4 := rowsTo_wt (id := (belowC c 3).1) (c := (belowC (belowC c 3).2 (most + 1)).2) (k := (belowC (belowC c 3).2 (most + 1)).1.toNat)
 unfold wtRowS rowsC rowsR
 dsimp only
 rw [h3, h4]; omega
end
end Go.Proofs.Ytmekkgdboplbjaa
