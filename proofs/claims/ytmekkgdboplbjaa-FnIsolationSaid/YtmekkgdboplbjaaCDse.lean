/- Definitions and their laws. No condition. -/
import Derived.Test.YtmekkgdboplbjaaCDok
import Derived.Test.YtmekkgdboplbjaaCDc0
set_option linter.unusedVariables false
set_option linter.unusedSimpArgs false
namespace Go.Proofs.Ytmekkgdboplbjaa
open Go Go.RowKit M
set_option maxRecDepth 10000
def r0_ : Row := ⟨0, []⟩
def ltRow (a b : Row) : Bool := decide (a.Id < b.Id)
def areRows (l : List Row) : Bool := adjAll r0_ okRow ltRow l && decide ((l.length : Int) ≤ 32)
def verO (r : Row) : Version := ⟨r.Id, r.Values, 0, -1⟩
def strideL (rows : List Row) (n i k : Nat) : List Version := (List.range k).map fun j => verO (rows.getD (i + j * n) r0_)
def strideN (len n i : Nat) : Nat := (len - i + (n - 1)) / n
def partV (rows : List Row) (n i : Nat) : List Version := strideL rows n i (strideN rows.length n i)
def segsTo (rows : List Row) (n k : Nat) : List (List Version) := (List.range k).map (partV rows n)
def newStOk (rows : List Row) (n : Int) : Bool := (areRows rows && inB n 1 8) && decide ((rows.length : Int) ≤ n * 4)
def newSt (rows : List Row) (n : Int) : Store × Bool := if newStOk rows n then (⟨segsTo rows n.toNat n.toNat, 0⟩, true) else (⟨[], 0⟩, false)
theorem newSt_no {rows : List Row} {n : Int} (h : newStOk rows n = false) : newSt rows n = (⟨[], 0⟩, false) := if_neg (by rw [h]; simp)
theorem newSt_yes {rows : List Row} {n : Int} (h : newStOk rows n = true) : newSt rows n = (⟨segsTo rows n.toNat n.toNat, 0⟩, true) := if_pos h
theorem newStOk_f {rows : List Row} {n : Int} (h : newStOk rows n = true) : areRows rows = true ∧ (1 ≤ n ∧ n ≤ 8) ∧ (rows.length : Int) ≤ n * 4 := by
 unfold newStOk at h
 simp only [Bool.and_eq_true, inB, decide_eq_true_eq] at h
 exact ⟨h.1.1, h.1.2, h.2⟩
theorem stride_at {len n i k : Nat} (hn : 0 < n) (h : i ≤ len) : i + k * n < len ↔ k < strideN len n i := by
 unfold strideN
 rw [Nat.lt_iff_add_one_le (m := k), Nat.le_div_iff_mul_le hn, Nat.add_mul, Nat.one_mul]
 omega
theorem stride_big {len n i : Nat} (hn : 0 < n) (h : len ≤ i) : strideN len n i = 0 := by
 unfold strideN
 exact Nat.div_eq_of_lt (by omega)
theorem strideL_succ {rows : List Row} {n i k : Nat} : strideL rows n i (k + 1) = strideL rows n i k ++ [verO (rows.getD (i + k * n) r0_)] := by
 unfold strideL; rw [List.range_succ, List.map_append]; rfl
theorem strideL_len {rows : List Row} {n i k : Nat} : (strideL rows n i k).length = k := by unfold strideL; rw [List.length_map, List.length_range]
theorem segsTo_succ {rows : List Row} {n k : Nat} : segsTo rows n (k + 1) = segsTo rows n k ++ [partV rows n k] := by
 unfold segsTo; rw [List.range_succ, List.map_append]; rfl
theorem segsTo_len {rows : List Row} {n k : Nat} : (segsTo rows n k).length = k := by unfold segsTo; rw [List.length_map, List.length_range]
theorem areRows_len {l : List Row} (h : areRows l = true) : l.length ≤ 32 := by
 unfold areRows at h
 rw [Bool.and_eq_true, decide_eq_true_eq] at h
 omega
theorem areRows_at {l : List Row} (h : areRows l = true) {k : Nat} (hk : k < l.length) : okRow l[k] = true := by
 unfold areRows at h
 rw [Bool.and_eq_true] at h
 exact adjAt h.1 hk
theorem areRows_lt {l : List Row} (h : areRows l = true) : ∀ (i j : Nat) (hj : j < l.length) (hij : i < j), l[i].Id < l[j].Id := by
 have h := h
 unfold areRows at h
 rw [Bool.and_eq_true] at h
 have step : ∀ i (hi : i + 1 < l.length), l[i].Id < l[i + 1].Id := by
  intro i hi
  have := List.all_eq_true.1 h.1 (i + 1) (List.mem_range.2 hi)
  rw [adjStep, show i + 1 - 1 = i from rfl, getD_at hi, getD_at (show i < l.length by omega)] at this
  rcases this.2 with h0 | h0
  ·omega
  ·unfold ltRow at h0; simpa using h0
 intro i j hj hij
 induction j with
 | zero => omega
 | succ j ih =>
  by_cases he : i = j
  ·subst he; exact step i hj
  ·have h1 := ih (by omega) (by omega)
   have h2 := step j hj
   omega
theorem part_len {rows : List Row} {n i : Nat} (hn : 0 < n) (hl : rows.length ≤ n * 4) : (partV rows n i).length ≤ 4 := by
 unfold partV
 rw [strideL_len]
 unfold strideN
 refine Nat.le_of_lt_succ ?_
 rw [Nat.div_lt_iff_lt_mul hn]
 have : (4 + 1) * n = n * 4 + n := by rw [Nat.add_mul, Nat.mul_comm]; omega
 show _ < (4 + 1) * n
 rw [this]; omega
theorem part_mem {rows : List Row} {n i : Nat} (hn : 0 < n) {v : Version} (hv : v ∈ partV rows n i) : ∃ j, ∃ h : i + j * n < rows.length, v = verO rows[i + j * n] := by
 by_cases hi : i ≤ rows.length
 ·unfold partV strideL at hv
  obtain ⟨j, hj, rfl⟩ := List.mem_map.1 hv
  have hj := (stride_at hn hi).2 (List.mem_range.1 hj)
  exact ⟨j, hj, by rw [getD_at hj]⟩
 ·unfold partV at hv
  rw [stride_big hn (by omega)] at hv
  simp [strideL] at hv
theorem newSt_ok {rows : List Row} {n : Int} (h : newStOk rows n = true) : okStore (newSt rows n).1 = true := by
 obtain ⟨h1, h2, h3⟩ := newStOk_f h
 rw [newSt_yes h, okStore_iff]
 have hn : 0 < n.toNat := by omega
 have mem : ∀ v ∈ allV ⟨segsTo rows n.toNat n.toNat, 0⟩, ∃ i, ∃ hi : i < rows.length, v = verO rows[i] := by
  intro v hv
  unfold allV segsTo at hv
  obtain ⟨g, hg, hv⟩ := List.mem_flatten.1 hv
  obtain ⟨i, _, rfl⟩ := List.mem_map.1 hg
  obtain ⟨j, hj, rfl⟩ := part_mem hn hv
  exact ⟨_, hj, rfl⟩
 have apart : ∀ i j (hi : i < rows.length) (hj : j < rows.length), i ≠ j → apartV (verO rows[i]) (verO rows[j]) = true := by
  intro i j hi hj hij
  refine apart_of fun he => ?_
  exfalso
  have he : rows[i].Id = rows[j].Id := he
  rcases Nat.lt_or_gt_of_ne hij with k | k
  ·have := areRows_lt h1 i j hj k; omega
  ·have := areRows_lt h1 j i hi k; omega
 refine ⟨by dsimp only; rw [segsTo_len]; omega, by dsimp only; rw [segsTo_len]; omega, Int.le_refl 0, by show (0 : Int) ≤ 100000; decide, fun g hg => ?_, fun v hv => ?_, ?_⟩
 ·unfold segsTo at hg
  obtain ⟨i, _, rfl⟩ := List.mem_map.1 hg
  exact part_len hn (by omega)
 ·obtain ⟨i, hi, rfl⟩ := mem v hv
  exact verOk_of (areRows_at h1 hi) ⟨Int.le_refl 0, Int.le_refl 0⟩ (.inl rfl)
 ·unfold allV segsTo
  rw [List.pairwise_flatten, List.pairwise_map]
  constructor
  ·intro g hg
   obtain ⟨i, hi, rfl⟩ := List.mem_map.1 hg
   have hi := List.mem_range.1 hi
   unfold partV strideL
   by_cases hil : i ≤ rows.length
   ·rw [List.pairwise_map]
    refine List.Pairwise.imp_of_mem ?_ List.pairwise_lt_range
    intro a b ha hb hab
    have ha := (stride_at hn hil).2 (List.mem_range.1 ha)
    have hb := (stride_at hn hil).2 (List.mem_range.1 hb)
    rw [getD_at ha, getD_at hb]
    refine apart _ _ ha hb ?_
    have := Nat.mul_lt_mul_of_pos_right hab hn
    omega
   ·rw [stride_big hn (by omega)]; simp
  ·refine List.Pairwise.imp_of_mem ?_ List.pairwise_lt_range
   intro a b ha hb hab v hv w hw
   have ha := List.mem_range.1 ha
   have hb := List.mem_range.1 hb
   obtain ⟨j, hj, rfl⟩ := part_mem hn hv
   obtain ⟨k, hk, rfl⟩ := part_mem hn hw
   refine apart _ _ hj hk ?_
   intro he
   have := congrArg (· % n.toNat) he
   simp only [Nat.add_mul_mod_self_right] at this
   rw [Nat.mod_eq_of_lt ha, Nat.mod_eq_of_lt hb] at this
   omega
def updId (c : Cur) (s : Store) : Int × Cur :=
 if (allV s).length = 0 then ((belowC c 12).1, (belowC c 12).2)
 else if (belowC (belowC c 12).2 4).1 = 0 then ((belowC c 12).1, (belowC (belowC c 12).2 4).2)
 else (((allV s).getD (belowC (belowC (belowC c 12).2 4).2 (allV s).length).1.toNat v0).Id, (belowC (belowC (belowC c 12).2 4).2 (allV s).length).2)
def updK (c : Cur) (s : Store) : Int × Cur := belowC (updId c s).2 3
def updC (c : Cur) (s : Store) : Update × Cur :=
 if (updK c s).1 = 0 then (⟨1, (rowC (belowC (updK c s).2 20).2 (belowC (updK c s).2 20).1).1, 0, 0⟩, (rowC (belowC (updK c s).2 20).2 (belowC (updK c s).2 20).1).2)
 else if (updK c s).1 = 1 then (⟨2, ⟨(updId c s).1, []⟩, 0, 0⟩, (updK c s).2)
 else (⟨3, ⟨(updId c s).1, []⟩, (belowC (updK c s).2 3).1, (belowC (belowC (updK c s).2 3).2 6).1⟩, (belowC (belowC (updK c s).2 3).2 6).2)
theorem updId_0 {c : Cur} {s : Store} (h : (allV s).length = 0) : updId c s = ((belowC c 12).1, (belowC c 12).2) := if_pos h
theorem updId_1 {c : Cur} {s : Store} (h : ¬ (allV s).length = 0) (h2 : (belowC (belowC c 12).2 4).1 = 0) : updId c s = ((belowC c 12).1, (belowC (belowC c 12).2 4).2) := by unfold updId; rw [if_neg h, if_pos h2]
theorem updId_2 {c : Cur} {s : Store} (h : ¬ (allV s).length = 0) (h2 : ¬ (belowC (belowC c 12).2 4).1 = 0) : updId c s = (((allV s).getD (belowC (belowC (belowC c 12).2 4).2 (allV s).length).1.toNat v0).Id, (belowC (belowC (belowC c 12).2 4).2 (allV s).length).2) := by unfold updId; rw [if_neg h, if_neg h2]
theorem updC_0 {c : Cur} {s : Store} (h : (updK c s).1 = 0) : updC c s = (⟨1, (rowC (belowC (updK c s).2 20).2 (belowC (updK c s).2 20).1).1, 0, 0⟩, (rowC (belowC (updK c s).2 20).2 (belowC (updK c s).2 20).1).2) := if_pos h
theorem updC_1 {c : Cur} {s : Store} (h : ¬ (updK c s).1 = 0) (h2 : (updK c s).1 = 1) : updC c s = (⟨2, ⟨(updId c s).1, []⟩, 0, 0⟩, (updK c s).2) := by unfold updC; rw [if_neg h, if_pos h2]
theorem updC_2 {c : Cur} {s : Store} (h : ¬ (updK c s).1 = 0) (h2 : ¬ (updK c s).1 = 1) : updC c s = (⟨3, ⟨(updId c s).1, []⟩, (belowC (updK c s).2 3).1, (belowC (belowC (updK c s).2 3).2 6).1⟩, (belowC (belowC (updK c s).2 3).2 6).2) := by unfold updC; rw [if_neg h, if_neg h2]
theorem updC_wt (c : Cur) (s : Store) : wtUpdate (updC c s).1 ≤ 3 := by
 unfold updC
 split
 ·have := rowC_wt (belowC (updK c s).2 20).2 (belowC (updK c s).2 20).1
  unfold wtUpdate; dsimp only; simp only [wtInt]; omega
 ·split <;> (unfold wtUpdate wtRow; simp only [wtIntS_len, wtInt]; decide)
structure StoS where
 s : Store
 c : Cur
def stoNext (x : StoS) : StoS := ⟨(applyU x.s (updC x.c x.s).1).1, (updC x.c x.s).2⟩
def stoTo (x : StoS) : Nat → StoS
 | 0 => x
 | k + 1 => stoNext (stoTo x k)
def stoR (c : Cur) : List Row × Cur := rowsC c 7
def sto0 (c : Cur) : StoS := ⟨(newSt (stoR c).1 (2 + (belowC (stoR c).2 3).1)).1, (belowC (belowC (stoR c).2 3).2 6).2⟩
def stoN (c : Cur) : Int := (belowC (belowC (stoR c).2 3).2 6).1
def stoC (c : Cur) : StoS := stoTo (sto0 c) (stoN c).toNat
theorem rowsTo_ok {c : Cur} {id : Int} (h : 0 ≤ id ∧ id ≤ 2) : ∀ {k : Nat}, k ≤ 300 → (∀ r ∈ (rowsTo id c k).l, okRow r = true ∧ r.Id < (rowsTo id c k).id) ∧ (rowsTo id c k).l.Pairwise fun a b => a.Id < b.Id
 | 0, _ => ⟨fun r hr => by simp [rowsTo] at hr, List.Pairwise.nil⟩
 | k + 1, hk => by
  obtain ⟨h1, h2⟩ := rowsTo_ok (c := c) h (k := k) (by omega)
  have hid := rowsTo_id (c := c) (k := k) h
  have hb := belowC_ge (rowC (rowsTo id c k).c (rowsTo id c k).id).2 3
  have hr := rowC_ok (c := (rowsTo id c k).c) (id := (rowsTo id c k).id) ⟨hid.1, by omega⟩
  have hri : (rowC (rowsTo id c k).c (rowsTo id c k).id).1.Id = (rowsTo id c k).id := rfl
  rw [rowsTo]
  dsimp only
  refine ⟨fun r hr2 => ?_, ?_⟩
  ·rcases List.mem_append.1 hr2 with hr2 | hr2
   ·have := h1 r hr2; exact ⟨this.1, by omega⟩
   ·rw [List.mem_singleton.1 hr2]; exact ⟨hr, by omega⟩
  ·rw [List.pairwise_append]
   refine ⟨h2, by simp, fun a ha b hb2 => ?_⟩
   rw [List.mem_singleton.1 hb2, hri]
   exact (h1 a ha).2
theorem areRows_of {l : List Row} (h1 : ∀ r ∈ l, okRow r = true) (h2 : l.Pairwise fun a b => a.Id < b.Id) (h3 : l.length ≤ 32) : areRows l = true := by
 unfold areRows
 rw [adjAll_of h1 (h2.imp fun {a b} k => by unfold ltRow; simpa using k), Bool.true_and, decide_eq_true_eq]
 omega
theorem rowsC_ok (c : Cur) {most : Int} (h : 0 ≤ most ∧ most ≤ 32) : areRows (rowsC c most).1 = true ∧ ((rowsC c most).1.length : Int) ≤ most := by
 have a1 := belowC_ge c 3
 have a2 := belowC_lt c (n := 3) (by decide)
 have b1 := belowC_ge (belowC c 3).2 (most + 1)
 have b2 := belowC_lt (belowC c 3).2 (n := most + 1) (by omega)
 have k := rowsTo_ok (c := (belowC (belowC c 3).2 (most + 1)).2) (id := (belowC c 3).1) ⟨a1, by omega⟩ (k := (belowC (belowC c 3).2 (most + 1)).1.toNat) (by omega)
 have hl := rowsTo_len (id := (belowC c 3).1) (c := (belowC (belowC c 3).2 (most + 1)).2) (k := (belowC (belowC c 3).2 (most + 1)).1.toNat)
 unfold rowsC rowsR
 dsimp only
 exact ⟨areRows_of (fun r hr => (k.1 r hr).1) k.2 (by omega), by omega⟩
theorem sto0_new (c : Cur) : newStOk (stoR c).1 (2 + (belowC (stoR c).2 3).1) = true := by
 have h := rowsC_ok c (most := 7) (by decide)
 have b1 := belowC_ge (stoR c).2 3
 have b2 := belowC_lt (stoR c).2 (n := 3) (by decide)
 have hl : ((stoR c).1.length : Int) ≤ 7 := h.2
 have ha : areRows (stoR c).1 = true := h.1
 unfold newStOk
 rw [ha]
 simp only [inB, Bool.true_and, Bool.and_eq_true, decide_eq_true_eq]
 omega
theorem sto0_ok (c : Cur) : okStore (sto0 c).s = true := newSt_ok (sto0_new c)
theorem stoTo_ok {x : StoS} (h : okStore x.s = true) : ∀ k, okStore (stoTo x k).s = true
 | 0 => h
 | k + 1 => apply_ok _ _ (stoTo_ok h k)
theorem stoC_ok (c : Cur) : okStore (stoC c).s = true := stoTo_ok (sto0_ok c) _
theorem okSto_wt {s : Store} (h : okStore s = true) : wtStore s ≤ 200 := by
 have k := okStore_iff.1 h
 have hv : ∀ g ∈ s.Segments, wtVersionS g ≤ 16 := by
  intro g hg
  have h4 := k.sm g hg
  have : ∀ l : List Version, (∀ v ∈ l, wtVersion v = 3) → (l.map wtVersion).sum = 3 * l.length := by
   intro l
   induction l with
   | nil => intro _; rfl
   | cons v l ih =>
    intro hl
    rw [List.map_cons, List.sum_cons, hl v List.mem_cons_self, ih fun w hw => hl w (List.mem_cons_of_mem _ hw), List.length_cons]; omega
  have h3 := this g fun v hv => by
   have := (okRow_iff.1 (verOk_f (k.vs v (List.mem_flatten.2 ⟨g, hg, hv⟩))).1).2.1
   have this : v.Values.length = 3 := this
   unfold wtVersion; simp only [wtIntS_len, wtInt]; omega
  unfold wtVersionS; omega
 have hs : (s.Segments.map wtVersionS).sum ≤ 16 * s.Segments.length := by
  generalize s.Segments = L at hv
  induction L with
  | nil => simp
  | cons g L ih =>
   have h1 := hv g List.mem_cons_self
   have h2 := ih fun x hx => hv x (List.mem_cons_of_mem _ hx)
   rw [List.map_cons, List.sum_cons, List.length_cons]; omega
 have l8 := k.l8
 unfold wtStore wtVersionSS
 simp only [wtInt]; omega
def stoAnyB (c : Cur) : Int × Cur := belowC (stoC c).c 14
end Go.Proofs.Ytmekkgdboplbjaa
