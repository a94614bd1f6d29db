/- Definitions and their laws. No condition. -/
import Derived.Test.YtaomckpfgmhapaaCDj
import Derived.Test.YtaomckpfgmhapaaCDq
import Derived.Test.YtaomckpfgmhapaaCJoinFnJoins
import Derived.Test.YtaomckpfgmhapaaCJoinBFnJoins
set_option linter.unusedVariables false
set_option linter.unusedSimpArgs false
namespace Go.Proofs.Ytaomckpfgmhapaa
open Go Go.RowKit M
set_option maxRecDepth 10000
theorem hasI_meet {s t : List Int} {id : Int} (hs : okSet s = true) (ht : okSet t = true) : hasI (MeetSetsF s t) id = (hasI s id && hasI t id) := by
  have e : MeetSetsF s t = s.filter (fun x => hasI t x) := by rw [meet_eq hs]; unfold MeetSetsF; rw [if_pos (by rw [hs, ht]; rfl)]
  rw [e, Bool.eq_iff_iff, Bool.and_eq_true, mem_hasI, mem_hasI, List.mem_filter]
def okAnn (a : Annotated) : Bool := okSet a.Set && okRow a.Row
theorem meet00 : MeetSetsF [0] [0] = [0] := by decide
theorem join_point {f g id : Int} {x y : Annotated} (hx : okAnn x = true) (hy : okAnn y = true) : (joinOne f g x y).flatMap (routeOne id) = if hasI x.Set id then (if hasI y.Set id then joinOne f g ⟨x.Row, [0]⟩ ⟨y.Row, [0]⟩ else []) else [] := by
  unfold okAnn at hx hy
  rw [Bool.and_eq_true] at hx hy
  have hm := hasI_meet (id := id) hx.1 hy.1
  by_cases hv : valAt x.Row f = valAt y.Row g
  · by_cases hn : MeetSetsF x.Set y.Set = []
    · have h1 : joinOne f g x y = [] := if_neg (fun h => h.2 hn)
      rw [hn] at hm
      have h2 : (hasI x.Set id && hasI y.Set id) = false := hm.symm
      rw [h1]
      cases hx2 : hasI x.Set id
      · rfl
      · rw [hx2] at h2
        have h2 : hasI y.Set id = false := h2
        rw [h2]; rfl
    · have h1 : joinOne f g x y = [⟨x.Row.Id, y.Row.Id, MeetSetsF x.Set y.Set⟩] := if_pos ⟨hv, hn⟩
      have h3 : joinOne f g ⟨x.Row, [0]⟩ ⟨y.Row, [0]⟩ = [⟨x.Row.Id, y.Row.Id, [0]⟩] := by
        unfold joinOne
        rw [meet00]
        exact if_pos ⟨hv, by decide⟩
      rw [h1, h3]
      simp only [List.flatMap_cons, List.flatMap_nil, List.append_nil, routeOne]
      rw [hm]
      cases hasI x.Set id <;> cases hasI y.Set id <;> rfl
  · have h1 : joinOne f g x y = [] := if_neg (fun h => hv h.1)
    have h3 : joinOne f g ⟨x.Row, [0]⟩ ⟨y.Row, [0]⟩ = [] := if_neg (fun h => hv h.1)
    rw [h1, h3]
    cases hasI x.Set id <;> cases hasI y.Set id <;> rfl
theorem flatMap_route {β : Type} (l : List Annotated) (id : Int) (F : Annotated → List β) : (annAll (routeR l id) 0).flatMap F = l.flatMap fun x => if hasI x.Set id then F ⟨x.Row, [0]⟩ else [] := by
  unfold annAll routeR
  induction l with
  | nil => rfl
  | cons x l ih =>
    simp only [List.filter_cons, List.flatMap_cons]
    cases h : hasI x.Set id
    · simpa using ih
    · simp only [if_true, List.map_cons, List.flatMap_cons, ih]
theorem flatMap_eq {α β : Type} {f g : α → List β} : ∀ {l : List α}, (∀ x ∈ l, f x = g x) → l.flatMap f = l.flatMap g
  | [], _ => rfl
  | x :: l, h => by
    rw [List.flatMap_cons, List.flatMap_cons, h x (List.mem_cons_self ..), flatMap_eq (fun y hy => h y (List.mem_cons_of_mem _ hy))]
theorem flatMap_flatMap {α β γ : Type} {f : α → List β} {g : β → List γ} : ∀ l : List α, (l.flatMap f).flatMap g = l.flatMap fun x => (f x).flatMap g
  | [] => rfl
  | x :: l => by
    rw [List.flatMap_cons, List.flatMap_append, flatMap_flatMap l, List.flatMap_cons]
theorem annOk_ok {l : List Annotated} {f : Int} (h : l.all okAnn = true) : annOk l f = inB f 0 2 := by
  have : l.all (fun a => okRow a.Row) = true := by
    rw [List.all_eq_true] at h ⊢
    intro x hx
    have := h x hx
    unfold okAnn at this
    rw [Bool.and_eq_true] at this
    exact this.2
  unfold annOk
  rw [this, Bool.true_and]
theorem annOk_route {l : List Annotated} {f id : Int} (h : l.all okAnn = true) : annOk (annAll (routeR l id) 0) f = inB f 0 2 := by
  have : (annAll (routeR l id) 0).all (fun a => okRow a.Row) = true := by
    rw [List.all_eq_true] at h ⊢
    intro x hx
    unfold annAll routeR at hx
    simp only [List.mem_map, List.mem_filter] at hx
    obtain ⟨r, ⟨y, ⟨hy, _⟩, rfl⟩, rfl⟩ := hx
    have := h y hy
    unfold okAnn at this
    rw [Bool.and_eq_true] at this
    exact this.2
  unfold annOk
  rw [this, Bool.true_and]
theorem joins_law {a b : List Annotated} {f g id : Int} (ha : a.all okAnn = true) (hb : b.all okAnn = true) : routeAll (joinAll a b f g) id = joinAll (annAll (routeR a id) 0) (annAll (routeR b id) 0) f g := by
  unfold joinAll
  rw [annOk_ok ha, annOk_ok hb, annOk_route ha, annOk_route hb]
  split
  · unfold routeAll
    rw [flatMap_flatMap, flatMap_route]
    refine flatMap_eq fun x hx => ?_
    have hx2 := List.all_eq_true.1 ha x hx
    unfold joinRow
    rw [flatMap_flatMap]
    have hp : (b.flatMap fun y => (joinOne f g x y).flatMap (routeOne id)) = b.flatMap fun y => if hasI x.Set id then (if hasI y.Set id then joinOne f g ⟨x.Row, [0]⟩ ⟨y.Row, [0]⟩ else []) else [] :=
      flatMap_eq fun y hy => join_point hx2 (List.all_eq_true.1 hb y hy)
    rw [hp]
    cases hasI x.Set id
    · simp
    · simp only [if_true]
      rw [flatMap_route]
  · rfl
theorem joinAll_wts {a b : List Annotated} {f g : Int} (ha : a.length ≤ 320) (hb : b.length ≤ 320) : wtJoinedS (joinAll a b f g) ≤ 2560000 := by
  have h1 : ∀ x y, (joinOne f g x y).length + ((joinOne f g x y).map wtJoined).sum ≤ 25 := by
    intro x y
    unfold joinOne
    split
    · have := MeetSetsF_len x.Set y.Set
      simp [wtJoined, wtIntS_len, wtInt]; omega
    · simp
  have h2 : ∀ {α : Type} (g : α → List Joined) (m : Nat) (_ : ∀ x, (g x).length + ((g x).map wtJoined).sum ≤ m) (xs : List α), (xs.flatMap g).length + ((xs.flatMap g).map wtJoined).sum ≤ xs.length * m := by
    intro α g m h xs
    induction xs with
    | nil => simp
    | cons x xs ih =>
      have h1 := h x
      simp only [List.flatMap_cons, List.length_append, List.map_append, List.sum_append, List.length_cons, Nat.succ_mul]; omega
  unfold joinAll wtJoinedS
  split
  · have h3 := h2 (joinRow b f g) (b.length * 25) (fun x => h2 (joinOne f g x) 25 (h1 x) b) a
    have h4 : a.length * (b.length * 25) ≤ 320 * (320 * 25) := Nat.mul_le_mul ha (Nat.mul_le_mul hb (Nat.le_refl _))
    omega
  · simp
theorem okAnn_and {a : Annotated} (h1 : okSet a.Set = true) (h2 : okRow a.Row = true) : okAnn a = true := by unfold okAnn; rw [h1, h2]; rfl

end Go.Proofs.Ytaomckpfgmhapaa
