/- Definitions and their laws. No condition. -/
import Derived.Test.YtmkhofdkdklpdaaGreatCDfl
import Derived.Test.YtmkhofdkdklpdaaGreatCDu
import Derived.Test.YtmkhofdkdklpdaaGreatCDz
import Derived.Test.YtmkhofdkdklpdaaGreatCDp
set_option linter.unusedVariables false
set_option linter.unusedSimpArgs false
namespace Go.Proofs.YtmkhofdkdklpdaaGreat
open Go Go.RowKit M
set_option maxRecDepth 10000
attribute [local irreducible] belowC byteC
theorem adj_snoc {α : Type} {d : α} {p : α → Bool} {r : α → α → Bool} {l : List α} {x : α} (h : adjAll d p r l = true) (hx : p x = true) (hr : ∀ y ∈ l, r y x = true) : adjAll d p r (l ++ [x]) = true := by
  unfold adjAll adjTo at h ⊢
  rw [List.all_eq_true] at h ⊢
  intro i hi
  have hi := List.mem_range.1 hi
  rw [List.length_append] at hi
  have hi : i < l.length + 1 := hi
  by_cases hl : i < l.length
  · have h1 := adjStep.1 (h i (List.mem_range.2 hl))
    have e : ∀ j, j < l.length → (l ++ [x]).getD j d = l.getD j d := fun j hj => by
      rw [List.getD_eq_getElem?_getD, List.getElem?_append_left hj, List.getD_eq_getElem?_getD]
    refine adjStep.2 ⟨by rw [e i hl]; exact h1.1, ?_⟩
    rcases h1.2 with h2 | h2
    · exact .inl h2
    · rcases Nat.eq_zero_or_pos i with h0 | h0
      · exact .inl h0
      · right; rw [e i hl, e (i - 1) (by omega)]; exact h2
  · have hil : i = l.length := by omega
    subst hil
    have e : (l ++ [x]).getD l.length d = x := by simp
    refine adjStep.2 ⟨by rw [e]; exact hx, ?_⟩
    rcases Nat.eq_zero_or_pos l.length with h0 | h0
    · exact .inl h0
    · right
      rw [e, List.getD_eq_getElem?_getD, List.getElem?_append_left (by omega), List.getElem?_eq_getElem (show l.length - 1 < l.length by omega)]
      exact hr _ (List.getElem_mem _)
theorem valsC_in {w : Int} {c : Cur} (hw : 0 < w) : ∀ {k : Nat}, ∀ x ∈ (valsC w c k).1, 0 ≤ x ∧ x < w
  | 0, x, h => nomatch h
  | k + 1, x, h => by
    rw [valsC] at h
    rcases List.mem_append.1 h with h | h
    · exact valsC_in hw x h
    · simp at h; subst h
      exact ⟨belowC_ge _ _, belowC_lt _ hw⟩
theorem pick_w (c : Cur) : 0 < (pickC c [3, 6, 100]).1 ∧ (pickC c [3, 6, 100]).1 ≤ 100 := by
  have h := pickC_mem c (l := [3, 6, 100]) (by decide)
  simp at h; omega
theorem rowC_ok {c : Cur} {id : Int} (h : 0 ≤ id ∧ id ≤ 999) : okRow (rowC c id).1 = true := by
  have hw := pick_w c
  unfold okRow rowC
  simp only [Bool.and_eq_true, List.all_eq_true, decide_eq_true_eq]
  refine ⟨fun x hx => ?_, inB_iff.2 h, by rw [valsC_len]; rfl⟩
  have := valsC_in hw.1 x hx
  exact inB_iff.2 (by omega)
theorem consTo_ok {w : Int} (hw : 0 < w ∧ w ≤ 100) (c : Cur) : ∀ {k : Nat}, k ≤ 3 → adjAll ⟨0, 0, 0⟩ okCond ltField (consTo w ⟨[], c⟩ k).l = true ∧ ∀ y ∈ (consTo w ⟨[], c⟩ k).l, y.Field < (k : Int)
  | 0, _ => ⟨rfl, fun y h => nomatch h⟩
  | k + 1, hk => by
    have ih := consTo_ok hw c (k := k) (by omega)
    rw [consTo]
    unfold conNext
    split
    · have h1 : 0 ≤ conLow w (consTo w ⟨[], c⟩ k).c := belowC_ge _ _
      have h2 : conLow w (consTo w ⟨[], c⟩ k).c < w := belowC_lt _ hw.1
      have h3 := belowC_ge (belowC (belowC (consTo w ⟨[], c⟩ k).c 2).2 w).2 w
      have h4 : conLow w (consTo w ⟨[], c⟩ k).c ≤ conMid w (consTo w ⟨[], c⟩ k).c ∧ conMid w (consTo w ⟨[], c⟩ k).c ≤ 99 := by
        show _ ≤ min 99 (_ + _) ∧ min 99 (_ + _) ≤ 99
        omega
      refine ⟨adj_snoc ih.1 ?_ (fun y hy => ?_), fun y hy => ?_⟩
      · unfold okCond
        generalize conLow w (consTo w ⟨[], c⟩ k).c = lo at h1 h2 h4
        generalize conMid w (consTo w ⟨[], c⟩ k).c = mi at h4
        simp only [Bool.and_eq_true, inB, decide_eq_true_eq]
        split <;> omega
      · have := ih.2 y hy
        unfold ltField
        simpa using this
      · rcases List.mem_append.1 hy with hy | hy
        · have := ih.2 y hy; omega
        · simp at hy; subst hy; dsimp only; omega
    · exact ⟨ih.1, fun y hy => by have := ih.2 y hy; omega⟩
theorem queC_ok {c : Cur} {id : Int} (h : 0 ≤ id ∧ id ≤ 23) : okQuery (queC c id).1 = true := by
  have hw := pick_w (belowC c 4).2
  have hc := consTo_ok hw (queW c).2 (k := 3) (by omega)
  have hl := consTo_len (w := (queW c).1) (s := ⟨[], (queW c).2⟩) 3
  have hn := queN_le c
  have h1 := belowC_ge c 4
  have h2 := belowC_lt c (n := 4) (by decide)
  have hv : (queO c).1.length = (1 + (queN c).1).toNat := valsC_len
  unfold okQuery okConds okFields queC
  simp only [Bool.and_eq_true, List.all_eq_true, decide_eq_true_eq]
  refine ⟨⟨inB_iff.2 h, inB_iff.2 (by omega), ?_⟩, hc.1, fun x hx => ?_, ?_⟩
  · have : (queS c).l.length ≤ 0 + 3 := hl
    omega
  · have := valsC_in (w := 3) (by decide) x hx
    exact inB_iff.2 (by omega)
  · rw [hv]; exact inB_iff.2 (by omega)
def partTo (id : Int) (c : Cur) : Nat → RowsS
  | 0 => ⟨id, [], c⟩
  | k + 1 => ⟨(partTo id c k).id + 1, (partTo id c k).l ++ [(rowC (partTo id c k).c (partTo id c k).id).1], (rowC (partTo id c k).c (partTo id c k).id).2⟩
structure PartsS where
  id : Int
  l : List (List Row)
  c : Cur
def partN5 (c : Cur) : Nat := (belowC c 5).1.toNat
def partsTo (c : Cur) : Nat → PartsS
  | 0 => ⟨0, [], c⟩
  | k + 1 => ⟨(partTo (partsTo c k).id (belowC (partsTo c k).c 5).2 (partN5 (partsTo c k).c)).id, (partsTo c k).l ++ [(partTo (partsTo c k).id (belowC (partsTo c k).c 5).2 (partN5 (partsTo c k).c)).l], (partTo (partsTo c k).id (belowC (partsTo c k).c 5).2 (partN5 (partsTo c k).c)).c⟩
def partsN (c : Cur) : Nat := (1 + (belowC c 4).1).toNat
def partsC (c : Cur) : PartsS := partsTo (belowC c 4).2 (partsN c)
theorem partTo_ok {id : Int} {c : Cur} (h : 0 ≤ id) : ∀ {k : Nat}, id + k ≤ 1000 → (partTo id c k).id = id + k ∧ (partTo id c k).l.length = k ∧ (partTo id c k).l.all okRow = true ∧ (partTo id c k).l.map Row.Id = (List.range' id.toNat k).map fun i : Nat => (i : Int)
  | 0, _ => ⟨by simp [partTo], rfl, rfl, rfl⟩
  | k + 1, hk => by
    obtain ⟨h1, h2, h3, h4⟩ := partTo_ok h (k := k) (c := c) (by omega)
    rw [partTo]
    refine ⟨by dsimp only; omega, by dsimp only; rw [List.length_append, h2]; rfl, ?_, ?_⟩
    · dsimp only
      rw [List.all_append, h3, List.all_cons, rowC_ok (by omega)]; rfl
    · dsimp only
      rw [List.map_append, h4, List.range'_concat, List.map_append]
      congr 1
      show [(partTo id c k).id] = _
      rw [h1]
      simp; omega
theorem partN5_le (c : Cur) : partN5 c ≤ 4 := by
  have h1 := belowC_ge c 5
  have h2 := belowC_lt c (n := 5) (by decide)
  unfold partN5; omega
theorem partsTo_ok {c : Cur} : ∀ {k : Nat}, k ≤ 4 → (0 ≤ (partsTo c k).id ∧ (partsTo c k).id ≤ 4 * (k : Int)) ∧ (partsTo c k).l.length = k ∧ (∀ s ∈ (partsTo c k).l, segB s = true) ∧ idsOf (partsTo c k).l = (List.range (partsTo c k).id.toNat).map fun i : Nat => (i : Int)
  | 0, _ => ⟨by simp [partsTo], rfl, fun s h => by simp [partsTo] at h, rfl⟩
  | k + 1, hk => by
    obtain ⟨h1, h2, h3, h4⟩ := partsTo_ok (k := k) (c := c) (by omega)
    have h5 := partN5_le (partsTo c k).c
    obtain ⟨g1, g2, g3, g4⟩ := partTo_ok (c := (belowC (partsTo c k).c 5).2) h1.1 (k := partN5 (partsTo c k).c) (by omega)
    rw [partsTo]
    refine ⟨by dsimp only; omega, by dsimp only; rw [List.length_append, h2]; rfl, fun s hs => ?_, ?_⟩
    · rcases List.mem_append.1 hs with hs | hs
      · exact h3 s hs
      · simp at hs; subst hs
        unfold segB
        rw [g3, g2]; simp; omega
    · dsimp only
      unfold idsOf at h4 ⊢
      rw [List.flatten_append, List.map_append, h4, List.flatten_cons, List.flatten_nil, List.append_nil, g4, g1, ← List.map_append]
      congr 1
      rw [show ((partsTo c k).id + (partN5 (partsTo c k).c : Int)).toNat = (partsTo c k).id.toNat + partN5 (partsTo c k).c by omega, List.range_add, List.range'_eq_map_range]
theorem partsC_ok (c : Cur) : okParts (partsC c).l = true := by
  have hb1 := belowC_ge c 4
  have hb2 := belowC_lt c (n := 4) (by decide)
  have hn : 1 ≤ partsN c ∧ partsN c ≤ 4 := by unfold partsN; omega
  obtain ⟨h1, h2, h3, h4⟩ := partsTo_ok (c := (belowC c 4).2) hn.2
  refine okParts_iff.2 ⟨?_, h3, ?_⟩
  · show inB ((partsTo (belowC c 4).2 (partsN c)).l.length : Int) 1 8 = true
    rw [h2]; exact inB_iff.2 (by omega)
  · show (idsOf (partsTo (belowC c 4).2 (partsN c)).l).Nodup
    rw [h4]
    unfold List.Nodup
    rw [List.pairwise_map]
    exact List.Pairwise.imp (fun h e => h (by omega)) List.nodup_range
theorem seg_wt {s : List Row} (h : segB s = true) : wtRowS s ≤ 16 := by
  unfold segB at h
  simp only [Bool.and_eq_true, decide_eq_true_eq, List.all_eq_true] at h
  have hs : ∀ l : List Row, (∀ r ∈ l, okRow r = true) → (l.map wtRow).sum ≤ 3 * l.length := by
    intro l
    induction l with
    | nil => intro _; simp
    | cons a l ih =>
      intro hl
      have h1 := ih fun r hr => hl r (List.mem_cons_of_mem _ hr)
      have h2 := rowLen (hl a (List.mem_cons_self ..))
      rw [List.map_cons, List.sum_cons, List.length_cons]
      have : wtRow a = a.Values.length := by simp [wtRow, wtIntS_len, wtInt]
      omega
  have := hs s h.2
  unfold wtRowS; omega
theorem partsC_wt (c : Cur) : wtRowSS (partsC c).l ≤ 100 ∧ (partsC c).l.length ≤ 4 := by
  have hb1 := belowC_ge c 4
  have hb2 := belowC_lt c (n := 4) (by decide)
  have hn : 1 ≤ partsN c ∧ partsN c ≤ 4 := by unfold partsN; omega
  obtain ⟨h1, h2, h3, h4⟩ := partsTo_ok (c := (belowC c 4).2) hn.2
  have hs : ∀ l : List (List Row), (∀ r ∈ l, segB r = true) → (l.map wtRowS).sum ≤ 16 * l.length := by
    intro l
    induction l with
    | nil => intro _; simp
    | cons a l ih =>
      intro hl
      have h1 := ih fun r hr => hl r (List.mem_cons_of_mem _ hr)
      have h2 := seg_wt (hl a (List.mem_cons_self ..))
      rw [List.map_cons, List.sum_cons, List.length_cons]; omega
  have := hs _ h3
  have e : (partsC c).l = (partsTo (belowC c 4).2 (partsN c)).l := rfl
  rw [e]
  unfold wtRowSS; omega
noncomputable def clu0 (c : Cur) : Cluster × Cur := ((newCluster (queC c 0).1 (partsC (queC c 0).2).l (2 + (belowC (partsC (queC c 0).2).c 3).1)).1, (belowC (partsC (queC c 0).2).c 3).2)
structure CluS where
  x : Cluster
  c : Cur
@[reducible] noncomputable def cluK (s : CluS) : Int × Cur := belowC s.c 4
@[reducible] noncomputable def cluM (s : CluS) : Int × Cur := belowC (cluK s).2 8
noncomputable def cluNext (s : CluS) : CluS := ⟨if (cluM s).1 = 0 then (failNode s.x (cluK s).1).1 else if (cluM s).1 = 1 then (recNode s.x (cluK s).1).1 else (stepNode s.x (cluK s).1).1, (cluM s).2⟩
noncomputable def cluTo (s : CluS) : Nat → CluS
  | 0 => s
  | k + 1 => cluNext (cluTo s k)
@[reducible] noncomputable def cluN (c : Cur) : Int × Cur := belowC (clu0 c).2 16
noncomputable def cluC (c : Cur) : CluS := cluTo ⟨(clu0 c).1, (cluN c).2⟩ (cluN c).1.toNat
theorem cluNext_0 {s : CluS} (h : (cluM s).1 = 0) : cluNext s = ⟨(failNode s.x (cluK s).1).1, (cluM s).2⟩ := by unfold cluNext; rw [if_pos h]
theorem cluNext_1 {s : CluS} (h0 : ¬ (cluM s).1 = 0) (h : (cluM s).1 = 1) : cluNext s = ⟨(recNode s.x (cluK s).1).1, (cluM s).2⟩ := by unfold cluNext; rw [if_neg h0, if_pos h]
theorem cluNext_2 {s : CluS} (h0 : ¬ (cluM s).1 = 0) (h : ¬ (cluM s).1 = 1) : cluNext s = ⟨(stepNode s.x (cluK s).1).1, (cluM s).2⟩ := by unfold cluNext; rw [if_neg h0, if_neg h]
structure CluG (w : Nat) (x : Cluster) : Prop where
  wt : wtCluster x ≤ w
  at_ : 2 ≤ x.At.length
  parts : wtRowSS x.Parts ≤ 100 ∧ x.Parts.length ≤ 4
  done : x.Done.length ≤ 8
theorem newCl_ok {q : Query} {l : List (List Row)} {n : Int} (hq : okQuery q = true) (hp : okParts l = true) (hn : 2 ≤ n ∧ n ≤ 4) (hqw : wtQuery q ≤ 6) (hlw : wtRowSS l ≤ 100 ∧ l.length ≤ 4) : CluG 300 (newCluster q l n).1 := by
  have hw := newCluster_wt q l n
  have e := new_yes (q := q) (l := l) (n := n) (by rw [hq, hp, Bool.true_and, Bool.true_and]; exact inB_iff.2 hn)
  rw [e] at hw ⊢
  refine ⟨Nat.le_trans hw (by omega), ?_, hlw, Nat.zero_le _⟩
  show 2 ≤ (List.replicate n.toNat (-1 : Int)).length
  rw [List.length_replicate]; omega
theorem below23 (c : Cur) : 2 ≤ 2 + (belowC c 3).1 ∧ 2 + (belowC c 3).1 ≤ 4 := by
  have h1 := belowC_ge c 3
  have h2 := belowC_lt c (n := 3) (by decide)
  generalize (belowC c 3).1 = x at h1 h2 ⊢
  omega
theorem clu0_ok (c : Cur) : CluG 300 (clu0 c).1 := by
  unfold clu0
  exact newCl_ok (queC_ok (by omega)) (partsC_ok _) (below23 _) (queC_wt c 0) (partsC_wt _)
theorem recNode_parts (c : Cluster) (n : Int) : (recNode c n).1.Parts = c.Parts ∧ (recNode c n).1.At.length = c.At.length ∧ (recNode c n).1.Done = c.Done := by
  unfold recNode
  split
  · exact ⟨rfl, rfl, rfl⟩
  · exact ⟨rfl, rfl, rfl⟩
theorem failNode_parts (c : Cluster) (n : Int) : (failNode c n).1.Parts = c.Parts ∧ (failNode c n).1.At.length = c.At.length ∧ (failNode c n).1.Done = c.Done := by
  unfold failNode
  split
  · exact ⟨rfl, by show (c.At.set _ _).length = _; rw [List.length_set], rfl⟩
  · exact ⟨rfl, rfl, rfl⟩
theorem stepNode_parts (c : Cluster) (n : Int) : (stepNode c n).1.Parts = c.Parts ∧ (stepNode c n).1.At.length = c.At.length ∧ ((stepNode c n).1.Done = c.Done ∨ isCl (stepNode c n).1 = true) := by
  cases h : upOk c n with
  | false => rw [step_no h]; exact ⟨rfl, rfl, .inl rfl⟩
  | true =>
    have hs := (step_ok h).1
    refine ⟨?_, ?_, .inr hs⟩
    all_goals
      unfold stepNode
      rw [if_pos h]
      split
      · first | rfl | (show (c.At.set _ _).length = _; rw [List.length_set])
      · split
        · unfold stepRow; first | rfl | (split <;> rfl)
        · first | rfl | (show ((endC c n).At.set _ _).length = _; rw [List.length_set]; rfl)
theorem cluNext_ok {s : CluS} {w : Nat} (h : CluG w s.x) : CluG (w + 101) (cluNext s).x := by
  obtain ⟨h1, h2, h3, h4⟩ := h
  unfold cluNext
  dsimp only
  split
  · have hw := failNode_wt s.x (cluK s).1
    obtain ⟨e1, e2, e3⟩ := failNode_parts s.x (cluK s).1
    exact ⟨by omega, by omega, by rw [e1]; exact h3, by rw [e3]; exact h4⟩
  · split
    · have hw := recNode_wt s.x (cluK s).1
      obtain ⟨e1, e2, e3⟩ := recNode_parts s.x (cluK s).1
      exact ⟨by omega, by omega, by rw [e1]; exact h3, by rw [e3]; exact h4⟩
    · have hw := step_wt1 s.x (cluK s).1
      obtain ⟨e1, e2, e3⟩ := stepNode_parts s.x (cluK s).1
      refine ⟨by omega, by omega, by rw [e1]; exact h3, ?_⟩
      rcases e3 with e3 | e3
      · rw [e3]; exact h4
      · have := done_len e3
        rw [e1] at this; omega
theorem cluTo_ok {s : CluS} {w : Nat} (h : CluG w s.x) : ∀ k, CluG (w + 101 * k) (cluTo s k).x
  | 0 => h
  | k + 1 => by
    have := cluNext_ok (cluTo_ok h k)
    rw [Nat.mul_succ, ← Nat.add_assoc]; exact this
theorem below15 (c : Cur) : 0 ≤ (belowC c 16).1 ∧ (belowC c 16).1 ≤ 15 := by
  have h1 := belowC_ge c 16
  have h2 := belowC_lt c (n := 16) (by decide)
  generalize (belowC c 16).1 = x at h1 h2 ⊢
  omega
theorem cluN_le (c : Cur) : 0 ≤ (cluN c).1 ∧ (cluN c).1 ≤ 15 := below15 _
theorem cluG_le {w v : Nat} {x : Cluster} (h : CluG w x) (hv : w ≤ v) : CluG v x := ⟨Nat.le_trans h.wt hv, h.at_, h.parts, h.done⟩
theorem cluC_ok (c : Cur) : CluG 2000 (cluC c).x := by
  have hn := cluN_le c
  exact cluG_le (cluTo_ok (s := ⟨(clu0 c).1, (cluN c).2⟩) (clu0_ok c) _) (by omega)
@[reducible] noncomputable def anyM (c : Cur) : Int × Cur := belowC (cluC c).c 14
noncomputable def anyClu (c : Cur) : Cluster × Cur :=
  if (anyM c).1 = 0 then ({ (cluC c).x with Done := (cluC c).x.Done ++ [(belowC (anyM c).2 4).1] }, (belowC (anyM c).2 4).2)
  else if (anyM c).1 = 1 then ({ (cluC c).x with At := (cluC c).x.At.set 0 (belowC (anyM c).2 4).1 }, (belowC (anyM c).2 4).2)
  else if (anyM c).1 = 2 then ({ (cluC c).x with Parts := (cluC c).x.Parts ++ [[(anyC (anyM c).2).1]] }, (anyC (anyM c).2).2)
  else ((cluC c).x, (anyM c).2)
theorem anyClu_0 {c : Cur} (h : (anyM c).1 = 0) : anyClu c = ({ (cluC c).x with Done := (cluC c).x.Done ++ [(belowC (anyM c).2 4).1] }, (belowC (anyM c).2 4).2) := if_pos h
theorem anyClu_1 {c : Cur} (h0 : ¬ (anyM c).1 = 0) (h : (anyM c).1 = 1) : anyClu c = ({ (cluC c).x with At := (cluC c).x.At.set 0 (belowC (anyM c).2 4).1 }, (belowC (anyM c).2 4).2) := by unfold anyClu; rw [if_neg h0, if_pos h]
theorem anyClu_2 {c : Cur} (h0 : ¬ (anyM c).1 = 0) (h1 : ¬ (anyM c).1 = 1) (h : (anyM c).1 = 2) : anyClu c = ({ (cluC c).x with Parts := (cluC c).x.Parts ++ [[(anyC (anyM c).2).1]] }, (anyC (anyM c).2).2) := by unfold anyClu; rw [if_neg h0, if_neg h1, if_pos h]
theorem anyClu_3 {c : Cur} (h0 : ¬ (anyM c).1 = 0) (h1 : ¬ (anyM c).1 = 1) (h : ¬ (anyM c).1 = 2) : anyClu c = ((cluC c).x, (anyM c).2) := by unfold anyClu; rw [if_neg h0, if_neg h1, if_neg h]
theorem anyClu_wt (c : Cur) : wtCluster (anyClu c).1 ≤ 3000 := by
  have h := cluC_ok c
  have hw := h.wt
  have hr := anyC_wt (anyM c).2
  unfold anyClu
  split
  · unfold wtCluster at hw ⊢
    simp only [wtIntS_len, List.length_append, List.length_cons, List.length_nil] at hw ⊢
    omega
  · split
    · unfold wtCluster at hw ⊢
      simp only [wtIntS_len, List.length_set] at hw ⊢
      omega
    · split
      · unfold wtCluster at hw ⊢
        have e : wtRowSS ((cluC c).x.Parts ++ [[(anyC (anyM c).2).1]]) = wtRowSS (cluC c).x.Parts + 2 + wtRow (anyC (anyM c).2).1 := by
          unfold wtRowSS
          simp [wtRowS]; omega
        simp only [e]
        omega
      · exact Nat.le_trans hw (by decide)
noncomputable def drClu (code : List Int) (hb : code.length ≤ 9223372036854775807) : Cluster × Int := ((anyClu (curNew code hb)).1, (belowC (anyClu (curNew code hb)).2 6).1 - 1)
noncomputable def drHome (code : List Int) (hb : code.length ≤ 9223372036854775807) : Int × Int := ((pickC (curNew code hb) [-1, 0, 3, 9, 9223372036854775807]).1, (belowC (pickC (curNew code hb) [-1, 0, 3, 9, 9223372036854775807]).2 6).1)

end Go.Proofs.YtmkhofdkdklpdaaGreat
