/- Definitions and their laws. No condition. -/
import Derived.Test.YtmekkgdboplbjaaGreatCC0
import Derived.Test.YtmekkgdboplbjaaGreatProg
set_option linter.unusedVariables false
set_option linter.unusedSimpArgs false
namespace Go.Proofs.YtmekkgdboplbjaaGreat
open Go Go.RowKit M
set_option maxRecDepth 10000
section
section
variable {α : Type} {P : α → Bool} {xs ys : List α} {k : Nat}
theorem yB (h : (xs.take k).all P = true) (hk : k < xs.length) (hp : P xs[k] = true) : (xs.take (k + 1)).all P = true := by
 rw [List.take_succ_eq_append_getElem hk, List.all_append, h]; simp [hp]
theorem jK (hk : k < xs.length) (hp : P xs[k] = false) : xs.all P = false := by
 rw [List.all_eq_false]; exact ⟨_, List.getElem_mem hk, by rw [hp]; simp⟩
theorem ik (h : (xs.take xs.length).all P = true) : xs.all P = true := by rwa [List.take_length] at h
theorem pd (h : (xs.take k).any P = false) (hk : k < xs.length) (hp : P xs[k] = false) : (xs.take (k + 1)).any P = false := by
 rw [List.take_succ_eq_append_getElem hk, List.any_append, h]; simp [hp]
theorem ny (hk : k < xs.length) (hp : P xs[k] = true) : xs.any P = true := by
 rw [List.any_eq_true]; exact ⟨_, List.getElem_mem hk, hp⟩
theorem Im (h : (xs.take xs.length).any P = false) : xs.any P = false := by rwa [List.take_length] at h
theorem lp (h : xs.take k = ys.take k) (hk : k < xs.length) (hk' : k < ys.length) (he : xs[k] = ys[k]) : xs.take (k + 1) = ys.take (k + 1) := by
 rw [List.take_succ_eq_append_getElem hk, List.take_succ_eq_append_getElem hk', h, he]
theorem In (hk : k < xs.length) (hk' : k < ys.length) (he : ¬ xs[k] = ys[k]) : ¬ xs = ys := by
 rintro rfl; exact he rfl
theorem pe (hl : xs.length = ys.length) (h : xs.take xs.length = ys.take xs.length) : xs = ys := by
 rw [List.take_length] at h; rw [h, hl, List.take_length]
theorem Nz {f : α → Nat} (hk : k < xs.length) : ((xs.take (k + 1)).map f).sum = ((xs.take k).map f).sum + f xs[k] := by
 rw [List.take_succ_eq_append_getElem hk, List.map_append, List.sum_append]; simp
theorem NA {f : α → Nat} (xs : List α) (k : Nat) : ((xs.take k).map f).sum ≤ (xs.map f).sum := by
 have h : xs = xs.take k ++ xs.drop k := (List.take_append_drop _ _).symm
 have e : (xs.map f).sum = ((xs.take k).map f).sum + ((xs.drop k).map f).sum := by
  rw [← List.sum_append, ← List.map_append, ← h]
 omega
theorem cR {f : α → Nat} (hk : k < xs.length) : f xs[k] ≤ (xs.map f).sum := by
 have h1 := Nz (f := f) hk
 have h2 := NA (f := f) xs (k + 1)
 omega
noncomputable def dl (x y : α) : Bool := @decide (x = y) (Classical.propDecidable _)
theorem nz {x y : α} (h : x = y) : dl x y = true := @decide_eq_true _ (Classical.propDecidable _) h
theorem mi {x y : α} (h : ¬ x = y) : dl x y = false := @decide_eq_false _ (Classical.propDecidable _) h
theorem eI {x y : α} : dl x y = true ↔ x = y := @decide_eq_true_iff _ (Classical.propDecidable _)
theorem i8 (x : α) : dl x x = true := nz rfl
end
theorem i9 {us : List Value} (h : us.length = 1) : ∃ v0, us = [v0] := by
 rcases us with _ | ⟨v0, _ | ⟨v1, vs⟩⟩ <;> first | exact ⟨_, rfl⟩ | (simp at h; try omega)
theorem Io {us : List Value} (h : us.length = 2) : ∃ v0 v1, us = [v0, v1] := by
 rcases us with _ | ⟨v0, _ | ⟨v1, _ | ⟨v2, vs⟩⟩⟩ <;> first | exact ⟨_, _, rfl⟩ | (simp at h; try omega)
theorem nA {us : List Value} (h : us.length = 8) : ∃ v0 v1 v2 v3 v4 v5 v6 v7, us = [v0, v1, v2, v3, v4, v5, v6, v7] := by
 rcases us with _ | ⟨v0, _ | ⟨v1, _ | ⟨v2, _ | ⟨v3, _ | ⟨v4, _ | ⟨v5, _ | ⟨v6, _ | ⟨v7, _ | ⟨v8, vs⟩⟩⟩⟩⟩⟩⟩⟩⟩ <;> first | exact ⟨_, _, _, _, _, _, _, _, rfl⟩ | (simp at h; try omega)
theorem Ip {us : List Value} (h : us.length = 10) : ∃ v0 v1 v2 v3 v4 v5 v6 v7 v8 v9, us = [v0, v1, v2, v3, v4, v5, v6, v7, v8, v9] := by
 rcases us with _ | ⟨v0, _ | ⟨v1, _ | ⟨v2, _ | ⟨v3, _ | ⟨v4, _ | ⟨v5, _ | ⟨v6, _ | ⟨v7, _ | ⟨v8, _ | ⟨v9, _ | ⟨v10, vs⟩⟩⟩⟩⟩⟩⟩⟩⟩⟩⟩ <;> first | exact ⟨_, _, _, _, _, _, _, _, _, _, rfl⟩ | (simp at h; try omega)
def kw (x : Int) : List PV := [PV.val (.int .u8 x)]
def Iq (x : Int) : Prop := 0 ≤ x ∧ x ≤ 255
def NB (o0 : Fl) (x : List Int) : List PV := [PV.sl o0 (x.map kw)]
def NC (x : List Int) : Prop := ∀ y ∈ x, Iq y
def ai (x : Int) : List PV := [PV.val (vI x)]
def aV (_x : Int) : Nat := 0
def ND (o0 : Fl) (x : List Int) : List PV := [PV.sl o0 (x.map ai)]
def kx (x : List Int) : Nat := x.length + (x.map aV).sum
structure f0 where
 Field : Int
 Low : Int
 High : Int
def bR (x : f0) : List PV := [PV.val (vI x.Field), PV.val (vI x.Low), PV.val (vI x.High)]
def yC (x : f0) : Nat := aV x.Field + aV x.Low + aV x.High
structure dZ where
 Segment : Int
 Base : Int
 Ids : List Int
 Tenants : List Int
 Rows : List Int
def aR (o0 o1 o2 : Fl) (x : dZ) : List PV := [PV.val (vI x.Segment), PV.val (vI x.Base), PV.sl o0 (x.Ids.map ai), PV.sl o1 (x.Tenants.map ai), PV.sl o2 (x.Rows.map ai)]
def lr (x : dZ) : Nat := aV x.Segment + aV x.Base + kx x.Ids + kx x.Tenants + kx x.Rows
structure Row where
 Id : Int
 Values : List Int
def bn (o0 : Fl) (x : Row) : List PV := [PV.val (vI x.Id), PV.sl o0 (x.Values.map ai)]
def fG (x : Row) : Nat := aV x.Id + kx x.Values
def rr (x : List f0) : Nat := x.length + (x.map yC).sum
structure aF where
 Id : Int
 Values : List Int
 Born : Int
 Died : Int
def dO (o0 : Fl) (x : aF) : List PV := [PV.val (vI x.Id), PV.sl o0 (x.Values.map ai), PV.val (vI x.Born), PV.val (vI x.Died)]
def bZ (x : aF) : Nat := aV x.Id + kx x.Values + aV x.Born + aV x.Died
structure Query where
 Id : Int
 Tenant : Int
 Conds : List f0
 Out : List Int
def cN (o0 o1 : Fl) (x : Query) : List PV := [PV.val (vI x.Id), PV.val (vI x.Tenant), PV.sl o0 (x.Conds.map bR), PV.sl o1 (x.Out.map ai)]
def d9 (x : Query) : Nat := aV x.Id + aV x.Tenant + rr x.Conds + kx x.Out
def ax (o0 o1 : Fl) (x : List aF) : List PV := [PV.sl o0 (x.map (dO o1))]
def b3 (x : List aF) : Nat := x.length + (x.map bZ).sum
def eJ (x : List Row) : Nat := x.length + (x.map fG).sum
def f4 (x : List dZ) : Nat := x.length + (x.map lr).sum
structure Update where
 Kind : Int
 Row : Row
 Field : Int
 Value : Int
def mj (x : Update) : Nat := aV x.Kind + fG x.Row + aV x.Field + aV x.Value
structure dP where
 Query : Query
 Time : Int
 Steps : Int
 Rows : List Row
def aP (o0 o1 o2 o3 : Fl) (x : dP) : List PV := [PV.val (vI x.Query.Id), PV.val (vI x.Query.Tenant), PV.sl o0 (x.Query.Conds.map bR), PV.sl o1 (x.Query.Out.map ai), PV.val (vI x.Time), PV.val (vI x.Steps), PV.sl o2 (x.Rows.map (bn o3))]
def ja (x : dP) : Nat := d9 x.Query + aV x.Time + aV x.Steps + eJ x.Rows
def fa (x : List (List aF)) : Nat := x.length + (x.map b3).sum
structure yD where
 Kind : Int
 Query : Query
 Limit : Int
 Id : Int
 Update : Update
 Steps : Int
structure Active where
 Query : Query
 Time : Int
 Todo : List Int
 Age : Int
 Sent : Int
 Cap : Int
 Rows : List Row
def aG (o0 o1 o2 o3 o4 : Fl) (x : Active) : List PV := [PV.val (vI x.Query.Id), PV.val (vI x.Query.Tenant), PV.sl o0 (x.Query.Conds.map bR), PV.sl o1 (x.Query.Out.map ai), PV.val (vI x.Time), PV.sl o2 (x.Todo.map ai), PV.val (vI x.Age), PV.val (vI x.Sent), PV.val (vI x.Cap), PV.sl o3 (x.Rows.map (bn o4))]
def ca (x : Active) : Nat := d9 x.Query + aV x.Time + kx x.Todo + aV x.Age + aV x.Sent + aV x.Cap + eJ x.Rows
def fp (x : List Active) : Nat := x.length + (x.map ca).sum
structure Store where
 Segments : List (List aF)
 Now : Int
def cc (x : Store) : Nat := fa x.Segments + aV x.Now
def gK (x : List dP) : Nat := x.length + (x.map ja).sum
structure am where
 Store : Store
 Cursor : Int
 Order : List Int
 Active : List Active
 Done : List dP
 Ledger : List dZ
 Steps : Int
def aO (x : am) : Nat := cc x.Store + aV x.Cursor + kx x.Order + fp x.Active + gK x.Done + f4 x.Ledger + aV x.Steps
def pf (x : List Query) : Nat := x.length + (x.map d9).sum
structure cd where
 From : Int
 To : Int
 Set : List Int
def f5 (o0 : Fl) (x : cd) : List PV := [PV.val (vI x.From), PV.val (vI x.To), PV.sl o0 (x.Set.map ai)]
def iM (o0 o1 : Fl) (x : List cd) : List PV := [PV.sl o0 (x.map (f5 o1))]
structure bS where
 Queries : List Query
 Fields : List (List cd)
def yE (o0 o1 o2 o3 o4 o5 : Fl) (x : bS) : List PV := [PV.sl o0 (x.Queries.map (cN o1 o2)), PV.sl o3 (x.Fields.map (iM o4 o5))]
theorem rt {α : Type} {xs : List α} {k : Nat} (hk : k < xs.length) : xs.take (k + 1) = xs.take k ++ [xs[k]] := List.take_succ_eq_append_getElem hk
theorem cX {α : Type} {l : List α} {d : α} {i : Nat} (h : i < l.length) : l[i] = l.getD i d := by simp [h]
theorem pg {α β : Type} {l : List α} {f : α → β} {k : Nat} (h : k < l.length) : (l.take (k + 1)).map f = (l.take k).map f ++ [f l[k]] := by
 rw [List.take_succ_eq_append_getElem h, List.map_append]; rfl
theorem Ir {a b : Int} : (a == b) = decide (a = b) := rfl
theorem cu (x : List Int) : kx x = x.length := by
 have h : ∀ l : List Int, (l.map aV).sum = 0 := by
  intro l
  induction l with
  | nil => rfl
  | cons a l ih => rw [List.map_cons, List.sum_cons, ih]; rfl
 simp [kx, h]
def bh (xs : List Int) (x : Int) : Bool := xs.any (fun y => y == x)
def aB (n l h : Int) : Bool := decide (l ≤ n) && decide (n ≤ h)
def Is (x : Int) : List (Bool × List PV) := [(false, [PV.val (vI x)])]
def It {γ : Type} (q : γ → Bool) (x : γ) : RV := RV.sv false [PV.val (.bool (q x))]
def gL (v : Int) : Bool := aB v 0 99
def bm (r : Row) : Bool := r.Values.all gL && (aB r.Id 0 999 && decide ((r.Values.length : Int) = 3))
def jL (l : List Row) : Bool := l.all bm && decide ((l.length : Int) ≤ 1000)
theorem NE {x y : Row} : x = y ↔ x.Id = y.Id ∧ x.Values = y.Values := by cases x; cases y; simp_all
def cF (l : List Int) : Bool := (List.range l.length).all fun i => aB (l.getD i 0) 0 23 && (i == 0 || decide (l.getD (i - 1) 0 < l.getD i 0))
def ru (l : List Int) (k : Nat) : Bool := (List.range k).all fun i => aB (l.getD i 0) 0 23 && (i == 0 || decide (l.getD (i - 1) 0 < l.getD i 0))
theorem NF {l : List Int} {k : Nat} : ru l (k + 1) = (ru l k && (aB (l.getD k 0) 0 23 && (k == 0 || decide (l.getD (k - 1) 0 < l.getD k 0)))) := by
 simp [ru, List.range_succ]
theorem NG {l : List Int} {k : Nat} (hk : k < l.length) (h : (aB (l.getD k 0) 0 23 && (k == 0 || decide (l.getD (k - 1) 0 < l.getD k 0))) = false) : cF l = false := by
 cases hs : cF l with
 | false => rfl
 | true =>
  have := List.all_eq_true.1 hs k (List.mem_range.2 hk)
  rw [h] at this; cases this
theorem ux {l : List Int} {k : Nat} : (aB (l.getD k 0) 0 23 && (k == 0 || decide (l.getD (k - 1) 0 < l.getD k 0))) = true ↔ (0 ≤ l.getD k 0 ∧ l.getD k 0 ≤ 23 ∧ (k = 0 ∨ l.getD (k - 1) 0 < l.getD k 0)) := by
 simp [aB, and_assoc]
def il (q : Int → Bool) (k : Nat) : List Int := ((List.range k).map fun i : Nat => (i : Int)).filter q
theorem Iu {q : Int → Bool} {k : Nat} : il q (k + 1) = il q k ++ if q k then [(k : Int)] else [] := by
 simp only [il, List.range_succ, List.map_append, List.filter_append, List.map_cons, List.map_nil, List.filter_cons, List.filter_nil]
theorem yF (q : Int → Bool) (k : Nat) : (il q k).length ≤ k := by
 have := List.length_filter_le q ((List.range k).map fun i : Nat => (i : Int))
 simpa [il] using this
def jM (a b : List Int) : List Int := if cF a && cF b then il (fun x => bh a x && bh b x) 24 else []
theorem yG {l : List Int} {x : Int} : bh l x = true ↔ x ∈ l := by simp [bh]
theorem yH {l : List Int} (h : cF l = true) {k : Nat} (hk : k < l.length) : 0 ≤ l[k] ∧ l[k] ≤ 23 ∧ (k = 0 ∨ l.getD (k - 1) 0 < l[k]) := by
 have := ux.1 (List.all_eq_true.1 h k (List.mem_range.2 hk))
 rwa [show l.getD k 0 = l[k] by simp [hk]] at this
theorem Iv {l : List Int} (h : cF l = true) : ∀ (j i : Nat) (hj : j < l.length) (hi : i < j), l[i] < l[j]
 | 0, i, _, hi => by omega
 | j + 1, i, hj, hi => by
  have h1 := (yH h hj).2.2
  have e : l.getD (j + 1 - 1) 0 = l[j] := by simp [show j < l.length by omega]
  rw [e] at h1
  rcases Nat.lt_or_ge i j with h2 | h2
  ·have := Iv h j i (by omega) h2
   omega
  ·have : i = j := by omega
   subst this
   omega
theorem NH {l : List Int} (h : cF l = true) : l.Pairwise (· < ·) := by
 rw [List.pairwise_iff_getElem]
 intro i j hi hj hij
 exact Iv h j i hj hij
theorem Iw {m : Int} : ∀ {l : List Int}, l.Pairwise (· < ·) → l.filter (fun x => decide (x < m + 1)) = l.filter (fun x => decide (x < m)) ++ (if bh l m then [m] else [])
 | [], _ => by simp [bh]
 | x :: l, h => by
  rw [List.pairwise_cons] at h
  have ih := Iw (m := m) h.2
  have hhx : bh (x :: l) m = (x == m || bh l m) := by simp [bh]
  by_cases h1 : x < m
  ·have e1 : decide (x < m + 1) = true := by simp; omega
   have e2 : decide (x < m) = true := by simpa using h1
   rw [List.filter_cons, List.filter_cons, if_pos e1, if_pos e2, ih, hhx, show (x == m) = false by simp; omega, Bool.false_or]
   rfl
  ·have hl : l.filter (fun x => decide (x < m)) = [] := by
    rw [List.filter_eq_nil_iff]; intro y hy; have := h.1 y hy; simp; omega
   have hl1 : l.filter (fun x => decide (x < m + 1)) = [] := by
    rw [List.filter_eq_nil_iff]; intro y hy; have := h.1 y hy; simp; omega
   have hm : bh l m = false := by
    cases hc : bh l m with
    | false => rfl
    | true => have := h.1 m (yG.1 hc); omega
   have e2 : ¬ decide (x < m) = true := by simpa using h1
   by_cases h2 : x = m
   ·have e1 : decide (x < m + 1) = true := by simp; omega
    rw [List.filter_cons, List.filter_cons, if_pos e1, if_neg e2, hl, hl1, hhx, hm, show (x == m) = true by simpa using h2]
    simp [h2]
   ·have e1 : ¬ decide (x < m + 1) = true := by simp; omega
    rw [List.filter_cons, List.filter_cons, if_neg e1, if_neg e2, hl, hl1, hhx, hm, show (x == m) = false by simpa using h2]
    simp
theorem Ix {l : List Int} (h : cF l = true) : ∀ m : Nat, il (fun x => bh l x) m = l.filter (fun x => decide (x < (m : Int)))
 | 0 => by
  rw [show il (fun x => bh l x) 0 = [] from rfl, eq_comm, List.filter_eq_nil_iff]
  intro y hy
  obtain ⟨k, hk, rfl⟩ := List.mem_iff_getElem.1 hy
  have := (yH h hk).1
  simp; omega
 | m + 1 => by
  rw [Iu, Ix h m]
  have := Iw (m := (m : Int)) (NH h)
  rw [show ((m + 1 : Nat) : Int) = (m : Int) + 1 by omega, this]
theorem Iy {l : List Int} (h : cF l = true) : il (fun x => bh l x) 24 = l := by
 rw [Ix h, List.filter_eq_self]
 intro y hy
 obtain ⟨k, hk, rfl⟩ := List.mem_iff_getElem.1 hy
 have := (yH h hk).2.1
 simp; omega
theorem NI {l : List Int} (h : cF l = true) : l.length ≤ 24 := by
 have := yF (fun x => bh l x) 24
 rwa [Iy h] at this
theorem yI {a b : List Int} (h : cF a = true) : a.filter (fun x => bh b x) = il (fun x => bh a x && bh b x) 24 := by
 conv => lhs; rw [← Iy h]
 simp only [il, List.filter_filter]
 congr 1
 funext x
 exact Bool.and_comm _ _
theorem NJ {a b : List Int} {k : Nat} (hk : 0 < k → (cF a && cF b) = true) (h : (k = a.length ∧ (cF a && cF b) = true) ∨ (k = 0 ∧ (a.length = 0 ∨ (cF a && cF b) = false))) : (a.take k).filter (fun x => bh b x) = jM a b := by
 unfold jM
 rcases h with ⟨rfl, h⟩ | ⟨rfl, h⟩
 ·rw [List.take_length, if_pos h]
  rw [Bool.and_eq_true] at h
  exact yI h.1
 ·split
  ·rename_i h2
   rcases h with h | h
   ·have : a = [] := List.eq_nil_of_length_eq_zero h
    subst this
    rw [Bool.and_eq_true] at h2
    rw [← yI h2.1]; simp
   ·rw [h] at h2; cases h2
  ·simp
theorem NK (a b : List Int) : (jM a b).length ≤ 24 := by
 unfold jM
 split
 ·exact yF _ _
 ·simp
def gM {α : Type} (d : α) (p : α → Bool) (r : α → α → Bool) (l : List α) (k : Nat) : Bool := (List.range k).all fun i => p (l.getD i d) && (i == 0 || r (l.getD (i - 1) d) (l.getD i d))
def cw {α : Type} (d : α) (p : α → Bool) (r : α → α → Bool) (l : List α) : Bool := gM d p r l l.length
theorem rx {α : Type} {d : α} {p : α → Bool} {r : α → α → Bool} {l : List α} {k : Nat} : gM d p r l (k + 1) = (gM d p r l k && (p (l.getD k d) && (k == 0 || r (l.getD (k - 1) d) (l.getD k d)))) := by
 simp [gM, List.range_succ]
theorem gr {α : Type} {d : α} {p : α → Bool} {r : α → α → Bool} {l : List α} {k : Nat} : (p (l.getD k d) && (k == 0 || r (l.getD (k - 1) d) (l.getD k d))) = true ↔ (p (l.getD k d) = true ∧ (k = 0 ∨ r (l.getD (k - 1) d) (l.getD k d) = true)) := by
 simp
theorem ls {α : Type} {d : α} {p : α → Bool} {r : α → α → Bool} {l : List α} {k : Nat} (hk : k < l.length) (h : (p (l.getD k d) && (k == 0 || r (l.getD (k - 1) d) (l.getD k d))) = false) : cw d p r l = false := by
 cases hs : cw d p r l with
 | false => rfl
 | true =>
  have := List.all_eq_true.1 hs k (List.mem_range.2 hk)
  rw [h] at this; cases this
theorem lu {α : Type} {d : α} {p : α → Bool} {r : α → α → Bool} {l : List α} {k : Nat} (h : gM d p r l k = true) (hk : k = l.length) : cw d p r l = true := by subst hk; exact h
theorem cY {α : Type} {d : α} {l : List α} {k : Nat} (h : k < l.length) : l.getD k d = l[k] := by simp [h]
def jb (c : f0) : Bool := aB c.Field 0 2 && (decide (0 ≤ c.Low) && (decide (c.Low ≤ c.High) && decide (c.High ≤ 99)))
def ky (a b : f0) : Bool := decide (a.Field < b.Field)
def jc (l : List f0) : Bool := cw ⟨0, 0, 0⟩ jb ky l
def gN (v : Int) : Bool := aB v 0 2
def kz (l : List Int) : Bool := l.all gN && aB l.length 1 3
def bI (q : Query) : Bool := (aB q.Id 0 23 && (aB q.Tenant 0 3 && decide ((q.Conds.length : Int) ≤ 3))) && (jc q.Conds && kz q.Out)
def nB (r : Row) : Bool := aB r.Id 0 999 && decide (r.Values.length = 0)
def fH (u : Update) : Bool :=
 if u.Kind = 1 then bm u.Row && (decide (u.Field = 0) && decide (u.Value = 0))
 else if u.Kind = 2 then nB u.Row && (decide (u.Field = 0) && decide (u.Value = 0))
 else if u.Kind = 3 then nB u.Row && (aB u.Field 0 2 && aB u.Value 0 99) else false
theorem NL {α : Type} {x y : α} : dl x y = false ↔ ¬ x = y := ⟨fun h e => (by rw [nz e] at h; simp at h), mi⟩
theorem NM {x y : f0} : x = y ↔ x.Field = y.Field ∧ x.Low = y.Low ∧ x.High = y.High := by cases x; cases y; simp [f0.mk.injEq]
theorem NN {x y : Query} : x = y ↔ x.Id = y.Id ∧ x.Tenant = y.Tenant ∧ x.Conds = y.Conds ∧ x.Out = y.Out := by cases x; cases y; simp [Query.mk.injEq]
theorem uy {n l h : Int} : aB n l h = true ↔ l ≤ n ∧ n ≤ h := by simp [aB]
theorem Iz {α : Type} {l : List α} {d : α} {i : Nat} (h : i < l.length) : l[i] = l.getD i d := by simp [h]
def fb (l : List Int) (f : Int) : Int := l.getD f.toNat 0
def ry (r : Row) (c : f0) : Bool := aB (fb r.Values c.Field) c.Low c.High
def eb (q : Query) (r : Row) : Bool := (bm r && bI q) && q.Conds.all (ry r)
def fI (f v : Int) (c : f0) : Bool := !(c.Field == f) || aB v c.Low c.High
def f6 (q : Query) (f v : Int) : Bool := q.Conds.all (fI f v)
theorem nC {r : Row} (h : bm r = true) : r.Values.length = 3 := by simp [bm, aB] at h; omega
theorem rz {α : Type} {d : α} {p : α → Bool} {r : α → α → Bool} {l : List α} (h : cw d p r l = true) {k : Nat} (hk : k < l.length) : p l[k] = true := by
 have := List.all_eq_true.1 h k (List.mem_range.2 hk)
 rw [Bool.and_eq_true, cY hk] at this
 exact this.1
theorem IA {q : Query} (h : bI q = true) {c : f0} (hc : c ∈ q.Conds) : 0 ≤ c.Field ∧ c.Field ≤ 2 := by
 obtain ⟨k, hk, rfl⟩ := List.mem_iff_getElem.1 hc
 unfold bI jc at h
 simp only [Bool.and_eq_true] at h
 have := rz h.2.1 hk
 simp [jb, aB] at this
 omega
theorem NO {q : Query} {r : Row} (hq : bI q = true) (hr : bm r = true) (h : ∀ i : Nat, i < r.Values.length → f6 q (i : Int) (r.Values.getD i 0) = true) : eb q r = true := by
 unfold eb
 rw [hr, hq, Bool.and_self, Bool.true_and, List.all_eq_true]
 intro c hc
 have hf := IA hq hc
 have hl := nC hr
 have := List.all_eq_true.1 (h c.Field.toNat (by omega)) c hc
 unfold fI at this
 rw [Int.toNat_of_nonneg hf.1] at this
 simpa [ry, fb] using this
theorem NP {q : Query} {r : Row} {i : Nat} (h : f6 q (i : Int) (r.Values.getD i 0) = false) : eb q r = false := by
 rw [← Bool.not_eq_true]
 intro hm
 unfold eb at hm
 rw [Bool.and_eq_true, List.all_eq_true] at hm
 have : f6 q (i : Int) (r.Values.getD i 0) = true := by
  unfold f6
  rw [List.all_eq_true]
  intro c hc
  unfold fI
  by_cases he : c.Field = (i : Int)
  ·have := hm.2 c hc
   simp only [ry, fb, he, Int.toNat_natCast] at this
   rw [this, Bool.or_true]
  ·simp [he]
 rw [h] at this; cases this
theorem NQ {x y : cd} : x = y ↔ x.From = y.From ∧ x.To = y.To ∧ x.Set = y.Set := by cases x; cases y; simp [cd.mk.injEq]
theorem NR {x y : aF} : x = y ↔ x.Id = y.Id ∧ x.Values = y.Values ∧ x.Born = y.Born ∧ x.Died = y.Died := by cases x; cases y; simp
theorem NS {x y : dZ} : x = y ↔ x.Segment = y.Segment ∧ x.Base = y.Base ∧ x.Ids = y.Ids ∧ x.Tenants = y.Tenants ∧ x.Rows = y.Rows := by cases x; cases y; simp
theorem NT {x y : Active} : x = y ↔ x.Query = y.Query ∧ x.Time = y.Time ∧ x.Todo = y.Todo ∧ x.Age = y.Age ∧ x.Sent = y.Sent ∧ x.Cap = y.Cap ∧ x.Rows = y.Rows := by cases x; cases y; simp
theorem NU {x y : dP} : x = y ↔ x.Query = y.Query ∧ x.Time = y.Time ∧ x.Steps = y.Steps ∧ x.Rows = y.Rows := by cases x; cases y; simp
theorem NV {x y : Store} : x = y ↔ x.Segments = y.Segments ∧ x.Now = y.Now := by cases x; cases y; simp
theorem NW {x y : am} : x = y ↔ x.Store = y.Store ∧ x.Cursor = y.Cursor ∧ x.Order = y.Order ∧ x.Active = y.Active ∧ x.Done = y.Done ∧ x.Ledger = y.Ledger ∧ x.Steps = y.Steps := by cases x; cases y; simp
theorem uz {α : Type} {a b : α} : dl a b = false ↔ ¬ a = b := by rw [← Bool.not_eq_true, eI]
end
end Go.Proofs.YtmekkgdboplbjaaGreat
set_option linter.unusedVariables false
namespace Go.Proofs.YtmekkgdboplbjaaGreat
open Go Go.RowKit M
set_option maxRecDepth 10000
theorem bP : Tryz.prog.follows .mixedOrders = true := by kernel_rfl
theorem yJ : au Tryz.prog 101 = true := by kernel_rfl
theorem IB : au Tryz.prog 107 = true := by kernel_rfl
theorem ml : au Tryz.prog 144 = true := by kernel_rfl
theorem uA : au Tryz.prog 160 = true := by kernel_rfl
theorem NX : au Tryz.prog 164 = true := by kernel_rfl
theorem NY : au Tryz.prog 165 = true := by kernel_rfl
theorem uB : au Tryz.prog 166 = true := by kernel_rfl
theorem yK : au Tryz.prog 167 = true := by kernel_rfl
theorem yL : au Tryz.prog 174 = true := by kernel_rfl
theorem NZ : au Tryz.prog 194 = true := by kernel_rfl
theorem N0 : au Tryz.prog 199 = true := by kernel_rfl
theorem yM : au Tryz.prog 200 = true := by kernel_rfl
theorem N1 : au Tryz.prog 201 = true := by kernel_rfl
theorem IC : au Tryz.prog 202 = true := by kernel_rfl
theorem ID : au Tryz.prog 256 = true := by kernel_rfl
theorem N2 : au Tryz.prog 270 = true := by kernel_rfl
theorem N3 : au Tryz.prog 276 = true := by kernel_rfl
theorem N4 : au Tryz.prog 277 = true := by kernel_rfl
theorem IE : au Tryz.prog 278 = true := by kernel_rfl
theorem nD : au Tryz.prog 56 = true := by kernel_rfl
theorem eT : au Tryz.prog 65 = true := by kernel_rfl
theorem uC : au Tryz.prog 67 = true := by kernel_rfl
theorem IF : au Tryz.prog 92 = true := by kernel_rfl
theorem N5 : au Tryz.prog 95 = true := by kernel_rfl
theorem iN : au Tryz.prog 98 = true := by kernel_rfl
theorem eU : bq Tryz.prog 108 0 = some 0 := by kernel_rfl
theorem ph : bq Tryz.prog 108 1 = some 4 := by kernel_rfl
theorem gO : bq Tryz.prog 108 2 = some 5 := by kernel_rfl
theorem kC : bq Tryz.prog 108 3 = some 6 := by kernel_rfl
theorem jN : bq Tryz.prog 108 4 = some 7 := by kernel_rfl
theorem pi : bq Tryz.prog 108 5 = some 8 := by kernel_rfl
theorem lv : bq Tryz.prog 108 6 = some 9 := by kernel_rfl
theorem mm : bq Tryz.prog 178 0 = some 0 := by kernel_rfl
theorem yN : bq Tryz.prog 178 1 = some 1 := by kernel_rfl
theorem pj : bq Tryz.prog 178 2 = some 2 := by kernel_rfl
theorem lx : bq Tryz.prog 184 0 = some 0 := by kernel_rfl
theorem jd : bq Tryz.prog 184 1 = some 1 := by kernel_rfl
theorem im : bq Tryz.prog 184 2 = some 2 := by kernel_rfl
theorem gP : bq Tryz.prog 184 3 = some 3 := by kernel_rfl
theorem gQ : bq Tryz.prog 26 0 = some 0 := by kernel_rfl
theorem fc : bq Tryz.prog 26 1 = some 1 := by kernel_rfl
theorem ee : bq Tryz.prog 32 0 = some 0 := by kernel_rfl
theorem gR : bq Tryz.prog 32 1 = some 2 := by kernel_rfl
theorem mn : bq Tryz.prog 32 2 = some 3 := by kernel_rfl
theorem dJ : bq Tryz.prog 32 3 = some 4 := by kernel_rfl
theorem jO : bq Tryz.prog 32 4 = some 5 := by kernel_rfl
theorem gt : bq Tryz.prog 32 5 = some 6 := by kernel_rfl
theorem io : bq Tryz.prog 32 6 = some 7 := by kernel_rfl
theorem gu : bq Tryz.prog 52 0 = some 0 := by kernel_rfl
theorem uD : bq Tryz.prog 52 1 = some 1 := by kernel_rfl
theorem iO : bq Tryz.prog 52 2 = some 2 := by kernel_rfl
theorem kD : bq Tryz.prog 52 3 = some 3 := by kernel_rfl
theorem je : bq Tryz.prog 54 0 = some 0 := by kernel_rfl
theorem ip : bq Tryz.prog 54 1 = some 1 := by kernel_rfl
theorem rC : bq Tryz.prog 56 0 = some 0 := by kernel_rfl
theorem mo : bq Tryz.prog 56 1 = some 1 := by kernel_rfl
theorem rD : bq Tryz.prog 56 2 = some 3 := by kernel_rfl
theorem rE : bq Tryz.prog 56 3 = some 4 := by kernel_rfl
theorem uE : bq Tryz.prog 63 0 = some 0 := by kernel_rfl
theorem IG : bq Tryz.prog 63 1 = some 4 := by kernel_rfl
theorem IH : bq Tryz.prog 63 2 = some 5 := by kernel_rfl
theorem pk : bq Tryz.prog 63 3 = some 6 := by kernel_rfl
theorem rF : bq Tryz.prog 70 0 = some 0 := by kernel_rfl
theorem nE : bq Tryz.prog 70 1 = some 1 := by kernel_rfl
theorem kE : bq Tryz.prog 70 2 = some 2 := by kernel_rfl
theorem jP : bq Tryz.prog 70 3 = some 3 := by kernel_rfl
theorem jQ : bq Tryz.prog 70 4 = some 4 := by kernel_rfl
theorem II : cU Tryz.prog 54 = some [(0, 1), (1, 1)] := by kernel_rfl
theorem N6 (x y : Nat) (a0 a1 a2 b0 b1 b2 : Int) (w : World) : Sem.run Tryz.prog (do eqGuard .neq 178 (.tmp x) (.tmp y) (.agg #[vI a0, vI a1, vI a2]) (.agg #[vI b0, vI b1, vI b2]); binOp .neq 178 (.agg #[vI a0, vI a1, vI a2]) (.agg #[vI b0, vI b1, vI b2]) : Sem Value) w = .ok (.bool (!(a0 == b0 && a1 == b1 && a2 == b2))) w := by
 have hS : Tryz.prog.underlying 178 = some (.struct (Tryz.prog.fieldsOf 178)) := by kernel_rfl
 have hp : Tryz.prog.stoodInHeld 178 = false := by kernel_rfl
 have hm : Tryz.prog.eqGuardType Tryz.prog.depth 178 = false := by kernel_rfl
 have hU := Tryz.underlying178
 have u3 := Tryz.underlying3
 have a3_ := Tryz.isAgg3
 have z3 := Tryz.sizeOf3
 rw [Sem.run_bind, run_eqGuard_agg w _ _ _ _ _ _ hm, Result.andThen_ok, run_neq_struct]
 rw [show (10000 : Nat) = 9999 + 1 from rfl, run_equalIn_agg w 9999 178 _ _ hS hp]
 simp only [Program.fieldsOf, hU]
 go_simp
 by_cases h0 : a0 = b0 <;> by_cases h1 : a1 = b1 <;> by_cases h2 : a2 = b2 <;> simp_all
theorem bT : dC Tryz.prog 139 = some (184, 4, 48) := by kernel_rfl
theorem uF : dC Tryz.prog 22 = some (5, 1, 1) := by kernel_rfl
theorem dK : dC Tryz.prog 24 = some (139, 1, 24) := by kernel_rfl
theorem a3 : dC Tryz.prog 27 = some (3, 1, 8) := by kernel_rfl
theorem bJ : dC Tryz.prog 28 = some (108, 10, 144) := by kernel_rfl
theorem iq : dC Tryz.prog 29 = some (63, 7, 104) := by kernel_rfl
theorem fq : dC Tryz.prog 30 = some (70, 5, 88) := by kernel_rfl
theorem gv : dC Tryz.prog 50 = some (178, 3, 24) := by kernel_rfl
theorem fu : dC Tryz.prog 59 = some (54, 2, 32) := by kernel_rfl
theorem eK : bQ Tryz.prog 108 = some (true, 10) := by kernel_rfl
theorem f7 : bQ Tryz.prog 139 = some (false, 1) := by kernel_rfl
theorem pm : bQ Tryz.prog 178 = some (true, 3) := by kernel_rfl
theorem d2 : bQ Tryz.prog 184 = some (true, 4) := by kernel_rfl
theorem gS : bQ Tryz.prog 24 = some (false, 1) := by kernel_rfl
theorem cq : bQ Tryz.prog 26 = some (true, 2) := by kernel_rfl
theorem aZ : bQ Tryz.prog 27 = some (false, 1) := by kernel_rfl
theorem dm : bQ Tryz.prog 28 = some (false, 1) := by kernel_rfl
theorem jR : bQ Tryz.prog 29 = some (false, 1) := by kernel_rfl
theorem aq : bQ Tryz.prog 3 = some (false, 1) := by kernel_rfl
theorem gw : bQ Tryz.prog 30 = some (false, 1) := by kernel_rfl
theorem a7 : bQ Tryz.prog 32 = some (true, 8) := by kernel_rfl
theorem iP : bQ Tryz.prog 50 = some (false, 1) := by kernel_rfl
theorem dp : bQ Tryz.prog 52 = some (true, 4) := by kernel_rfl
theorem ew : bQ Tryz.prog 54 = some (true, 2) := by kernel_rfl
theorem nF : bQ Tryz.prog 56 = some (true, 5) := by kernel_rfl
theorem ir : bQ Tryz.prog 59 = some (false, 1) := by kernel_rfl
theorem nG : bQ Tryz.prog 63 = some (true, 7) := by kernel_rfl
theorem it : bQ Tryz.prog 70 = some (true, 5) := by kernel_rfl
theorem fe : dz Tryz.prog 108 = some (.agg #[.int .i64 0, .int .i64 0, .slice none 0 0, .slice none 0 0, .int .i64 0, .slice none 0 0, .int .i64 0, .int .i64 0, .int .i64 0, .slice none 0 0]) := by kernel_rfl
theorem uG : dz Tryz.prog 139 = some (.slice none 0 0) := by kernel_rfl
theorem ly : dz Tryz.prog 178 = some (.agg #[.int .i64 0, .int .i64 0, .int .i64 0]) := by kernel_rfl
theorem eV : dz Tryz.prog 184 = some (.agg #[.int .i64 0, .slice none 0 0, .int .i64 0, .int .i64 0]) := by kernel_rfl
theorem lz : dz Tryz.prog 26 = some (.agg #[.slice none 0 0, .int .i64 0]) := by kernel_rfl
theorem ce : dz Tryz.prog 3 = some (.int .i64 0) := by kernel_rfl
theorem jf : dz Tryz.prog 32 = some (.agg #[.slice none 0 0, .int .i64 0, .int .i64 0, .slice none 0 0, .slice none 0 0, .slice none 0 0, .slice none 0 0, .int .i64 0]) := by kernel_rfl
theorem gx : dz Tryz.prog 52 = some (.agg #[.int .i64 0, .int .i64 0, .slice none 0 0, .slice none 0 0]) := by kernel_rfl
theorem ff : dz Tryz.prog 54 = some (.agg #[.int .i64 0, .slice none 0 0]) := by kernel_rfl
theorem yO : dz Tryz.prog 56 = some (.agg #[.int .i64 0, .int .i64 0, .slice none 0 0, .int .i64 0, .int .i64 0]) := by kernel_rfl
theorem kF : dz Tryz.prog 63 = some (.agg #[.int .i64 0, .int .i64 0, .slice none 0 0, .slice none 0 0, .int .i64 0, .int .i64 0, .slice none 0 0]) := by kernel_rfl
theorem gT : dz Tryz.prog 70 = some (.agg #[.int .i64 0, .int .i64 0, .slice none 0 0, .slice none 0 0, .slice none 0 0]) := by kernel_rfl
theorem nH {Fz : ao} {w : World} : az [PV.val (.int .i64 0), PV.val (.int .i64 0), PV.sl (.own 178 3) [], PV.sl (.own 3 1) [], PV.val (.int .i64 0), PV.sl (.own 3 1) [], PV.val (.int .i64 0), PV.val (.int .i64 0), PV.val (.int .i64 0), PV.sl (.own 54 2) []] Fz w (Value.cells (.agg #[.int .i64 0, .int .i64 0, .slice none 0 0, .slice none 0 0, .int .i64 0, .slice none 0 0, .int .i64 0, .int .i64 0, .int .i64 0, .slice none 0 0])).toList [] := cJ rfl (cJ rfl (dW (dW (cJ rfl (dW (cJ rfl (cJ rfl (cJ rfl (dW (iF))))))))))
theorem yP {Fz : ao} {w : World} : az [PV.val (.int .i64 0), PV.val (.int .i64 0), PV.val (.int .i64 0)] Fz w (Value.cells (.agg #[.int .i64 0, .int .i64 0, .int .i64 0])).toList [] := cJ rfl (cJ rfl (cJ rfl (iF)))
theorem mp {Fz : ao} {w : World} : az [PV.val (.int .i64 0), PV.sl (.own 3 1) [], PV.val (.int .i64 0), PV.val (.int .i64 0)] Fz w (Value.cells (.agg #[.int .i64 0, .slice none 0 0, .int .i64 0, .int .i64 0])).toList [] := cJ rfl (dW (cJ rfl (cJ rfl (iF))))
theorem lA {Fz : ao} {w : World} : az [PV.sl (.own 139 1) [], PV.val (.int .i64 0)] Fz w (Value.cells (.agg #[.slice none 0 0, .int .i64 0])).toList [] := dW (cJ rfl (iF))
theorem jg {Fz : ao} {w : World} : az [PV.sl (.own 139 1) [], PV.val (.int .i64 0), PV.val (.int .i64 0), PV.sl (.own 3 1) [], PV.sl (.own 108 10) [], PV.sl (.own 63 7) [], PV.sl (.own 70 5) [], PV.val (.int .i64 0)] Fz w (Value.cells (.agg #[.slice none 0 0, .int .i64 0, .int .i64 0, .slice none 0 0, .slice none 0 0, .slice none 0 0, .slice none 0 0, .int .i64 0])).toList [] := dW (cJ rfl (cJ rfl (dW (dW (dW (dW (cJ rfl (iF))))))))
theorem nI {Fz : ao} {w : World} : az [PV.val (.int .i64 0), PV.val (.int .i64 0), PV.sl (.own 178 3) [], PV.sl (.own 3 1) []] Fz w (Value.cells (.agg #[.int .i64 0, .int .i64 0, .slice none 0 0, .slice none 0 0])).toList [] := cJ rfl (cJ rfl (dW (dW (iF))))
theorem iQ {Fz : ao} {w : World} : az [PV.val (.int .i64 0), PV.sl (.own 3 1) []] Fz w (Value.cells (.agg #[.int .i64 0, .slice none 0 0])).toList [] := cJ rfl (dW (iF))
theorem yQ {Fz : ao} {w : World} : az [PV.val (.int .i64 0), PV.val (.int .i64 0), PV.sl (.own 3 1) [], PV.val (.int .i64 0), PV.val (.int .i64 0)] Fz w (Value.cells (.agg #[.int .i64 0, .int .i64 0, .slice none 0 0, .int .i64 0, .int .i64 0])).toList [] := cJ rfl (cJ rfl (dW (cJ rfl (cJ rfl (iF)))))
theorem uH {Fz : ao} {w : World} : az [PV.val (.int .i64 0), PV.val (.int .i64 0), PV.sl (.own 178 3) [], PV.sl (.own 3 1) [], PV.val (.int .i64 0), PV.val (.int .i64 0), PV.sl (.own 54 2) []] Fz w (Value.cells (.agg #[.int .i64 0, .int .i64 0, .slice none 0 0, .slice none 0 0, .int .i64 0, .int .i64 0, .slice none 0 0])).toList [] := cJ rfl (cJ rfl (dW (dW (cJ rfl (cJ rfl (dW (iF)))))))
theorem nJ {Fz : ao} {w : World} : az [PV.val (.int .i64 0), PV.val (.int .i64 0), PV.sl (.own 3 1) [], PV.sl (.own 3 1) [], PV.sl (.own 3 1) []] Fz w (Value.cells (.agg #[.int .i64 0, .int .i64 0, .slice none 0 0, .slice none 0 0, .slice none 0 0])).toList [] := cJ rfl (cJ rfl (dW (dW (dW (iF)))))
end Go.Proofs.YtmekkgdboplbjaaGreat
set_option linter.unusedVariables false
set_option linter.unusedSimpArgs false
namespace Go.Proofs.YtmekkgdboplbjaaGreat
open Go Go.RowKit M
set_option maxRecDepth 10000
def v0 : aF := ⟨0, [], 0, 0⟩
def ck (now : Int) (v : aF) : Bool := bm ⟨v.Id, v.Values⟩ && (aB v.Born 0 now && (decide (v.Died = -1) || aB v.Died (v.Born + 1) now))
def dq (a b : aF) : Bool := !(a.Id == b.Id) || ((!(a.Died == -1) && decide (a.Died ≤ b.Born)) || (!(b.Died == -1) && decide (b.Died ≤ a.Born)))
def de (v : aF) (t : Int) : Bool := decide (v.Born ≤ t) && (decide (v.Died = -1) || decide (v.Died > t))
def nK (v w : aF) : Bool := de v w.Born || de w v.Born
theorem IJ {now : Int} {v w : aF} (hv : ck now v = true) (hw : ck now w = true) : (v.Id == w.Id && nK v w) = !dq v w := by
 have h1 : v.Died = -1 ∨ v.Born < v.Died := by simp [ck, aB] at hv; omega
 have h2 : w.Died = -1 ∨ w.Born < w.Died := by simp [ck, aB] at hw; omega
 have h3 : 0 ≤ v.Born ∧ 0 ≤ w.Born := by simp [ck, aB] at hv hw; omega
 rw [Bool.eq_iff_iff]
 simp only [nK, de, dq, Bool.and_eq_true, Bool.or_eq_true, Bool.not_eq_true', beq_iff_eq, decide_eq_true_eq, Bool.or_eq_false_iff, Bool.not_eq_false', Bool.and_eq_false_iff, decide_eq_false_iff_not]
 omega
def aS (s : Store) : List aF := s.Segments.flatten
def ek (L : List aF) (i k : Nat) : Bool := (List.range k).all fun m => dq (L.getD i v0) (L.getD m v0)
def jh (now : Int) (L : List aF) (i : Nat) : Bool := ck now (L.getD i v0) && ek L i i
def ji (now : Int) (L : List aF) (i : Nat) : Bool := (List.range i).all (jh now L)
def iu (l : List aF) : Bool := decide ((l.length : Int) ≤ 4)
def jS (s : Store) : Bool := aB s.Segments.length 1 8 && aB s.Now 0 100000
def bA (s : Store) : Bool := (jS s && s.Segments.all iu) && ji s.Now (aS s) (aS s).length
theorem N7 {L : List aF} {i k : Nat} : ek L i (k + 1) = (ek L i k && dq (L.getD i v0) (L.getD k v0)) := by simp [ek, List.range_succ]
theorem IK {now : Int} {L : List aF} {i : Nat} : ji now L (i + 1) = (ji now L i && jh now L i) := by simp [ji, List.range_succ]
theorem yR {now : Int} {L : List aF} {i j : Nat} (h : ji now L i = true) (hj : j < i) : ck now (L.getD j v0) = true := by
 have := List.all_eq_true.1 h j (List.mem_range.2 hj)
 unfold jh at this
 rw [Bool.and_eq_true] at this
 exact this.1
theorem uI {s : Store} {i : Nat} (hi : i < (aS s).length) (h : jh s.Now (aS s) i = false) : bA s = false := by
 have : ji s.Now (aS s) (aS s).length = false := by
  rw [← Bool.not_eq_true]
  intro hh
  have := List.all_eq_true.1 hh i (List.mem_range.2 hi)
  rw [h] at this; cases this
 unfold bA; rw [this, Bool.and_false]
theorem IL {now : Int} {L : List aF} {i : Nat} (h : ck now (L.getD i v0) = false) : jh now L i = false := by unfold jh; rw [h]; rfl
theorem IM {now : Int} {L : List aF} {i k : Nat} (hk : k < i) (h : dq (L.getD i v0) (L.getD k v0) = false) : jh now L i = false := by
 have : ek L i i = false := by
  rw [← Bool.not_eq_true]
  intro hh
  have := List.all_eq_true.1 hh k (List.mem_range.2 hk)
  rw [h] at this; cases this
 unfold jh; rw [this, Bool.and_false]
theorem IN {s : Store} {k : Nat} (hk : k < s.Segments.length) (h : ¬ ((s.Segments[k].length : Int) ≤ 4)) : bA s = false := by
 have : s.Segments.all iu = false := jK hk (by simpa [iu] using h)
 unfold bA; rw [this]; simp
def cl (s : Store) (k : Nat) : List aF := (s.Segments.take k).flatten
theorem rG {s : Store} {k : Nat} (hk : k < s.Segments.length) : cl s (k + 1) = cl s k ++ s.Segments[k] := by
 unfold cl; rw [List.take_succ_eq_append_getElem hk, List.flatten_append]; simp
theorem uJ {s : Store} {k : Nat} (hk : k < s.Segments.length) : aS s = cl s k ++ (s.Segments[k] ++ (s.Segments.drop (k + 1)).flatten) := by
 unfold aS cl
 rw [← List.flatten_cons, ← List.flatten_append, ← List.drop_eq_getElem_cons hk, List.take_append_drop]
theorem yS {s : Store} : cl s s.Segments.length = aS s := by unfold cl aS; rw [List.take_length]
theorem IP {s : Store} {k j : Nat} (hk : k < s.Segments.length) (hj : j < s.Segments[k].length) : (cl s k).length + j < (aS s).length ∧ (aS s).getD ((cl s k).length + j) v0 = s.Segments[k][j] := by
 rw [uJ hk]
 refine ⟨by simp only [List.length_append]; omega, ?_⟩
 rw [List.getD_eq_getElem?_getD, List.getElem?_append_right (by omega), show (cl s k).length + j - (cl s k).length = j by omega, List.getElem?_append_left hj, List.getElem?_eq_getElem hj]
 rfl
theorem N8 {s : Store} {k j : Nat} (hk : k < s.Segments.length) (hj : j ≤ s.Segments[k].length) : cl s k ++ s.Segments[k].take j = (aS s).take ((cl s k).length + j) := by
 rw [uJ hk, List.take_length_add_append, List.take_append_of_le_length hj]
theorem mq (s : Store) : (aS s).length ≤ cc s := by
 unfold cc fa aS
 rw [List.length_flatten]
 have : (s.Segments.map List.length).sum ≤ (s.Segments.map b3).sum := by
  generalize s.Segments = l
  induction l with
  | nil => simp
  | cons x l ih => simp only [List.map_cons, List.sum_cons]; unfold b3 at *; omega
 omega
def dr (v : aF) : Row := ⟨v.Id, v.Values⟩
theorem jj {s : Store} (h : bA s = true) : s.Segments.length ≤ 8 ∧ 1 ≤ s.Segments.length ∧ 0 ≤ s.Now ∧ s.Now ≤ 100000 ∧ (∀ g ∈ s.Segments, g.length ≤ 4) ∧ ∀ i, i < (aS s).length → ck s.Now ((aS s).getD i v0) = true := by
 unfold bA jS at h
 simp only [Bool.and_eq_true, aB, decide_eq_true_eq] at h
 refine ⟨by omega, by omega, by omega, by omega, fun g hg => ?_, fun i hi => yR h.2 hi⟩
 have := List.all_eq_true.1 h.1.2 g hg
 simp [iu] at this; omega
theorem yT {s : Store} (h : bA s = true) {k j : Nat} (hk : k < s.Segments.length) (hj : j < s.Segments[k].length) : ck s.Now s.Segments[k][j] = true := by
 have h1 := IP hk hj
 rw [← h1.2]
 exact (jj h).2.2.2.2.2 _ h1.1
def jT : Query := ⟨0, 0, [], []⟩
def iv : cd := ⟨0, 0, []⟩
def jU (a b : Query) : Bool := decide (a.Id < b.Id)
def b7 (l : List Query) : Bool := cw jT bI jU l && decide ((l.length : Int) ≤ 24)
theorem jl {l : List Query} (h : b7 l = true) : l.length ≤ 24 ∧ ∀ q ∈ l, bI q = true := by
 unfold b7 at h
 rw [Bool.and_eq_true] at h
 refine ⟨by have := of_decide_eq_true h.2; omega, fun q hq => ?_⟩
 obtain ⟨k, hk, rfl⟩ := List.mem_iff_getElem.1 hq
 exact rz h.1 hk
theorem N9 {q : Query} (h : bI q = true) : q.Conds.length ≤ 3 ∧ q.Out.length ≤ 3 := by
 unfold bI kz at h
 simp only [Bool.and_eq_true, aB, decide_eq_true_eq] at h
 omega
def dL (l : List Query) (f v : Int) : List Int := (l.filter fun q => f6 q f v).map Query.Id
def uK (l : List Query) (f v : Int) : List Int := if b7 l && (aB f 0 2 && aB v 0 99) then dL l f v else []
theorem IQ {l : List Query} {f v : Int} {k : Nat} (hk : k < l.length) (h : f6 l[k] f v = true) : dL (l.take (k + 1)) f v = dL (l.take k) f v ++ [l[k].Id] := by
 unfold dL; rw [List.take_succ_eq_append_getElem hk, List.filter_append]; simp [h]
theorem IR {l : List Query} {f v : Int} {k : Nat} (hk : k < l.length) (h : f6 l[k] f v = false) : dL (l.take (k + 1)) f v = dL (l.take k) f v := by
 unfold dL; rw [List.take_succ_eq_append_getElem hk, List.filter_append]; simp [h]
theorem rH (l : List Query) (f v : Int) : (dL l f v).length ≤ l.length := by
 unfold dL; rw [List.length_map]; exact List.length_filter_le _ _
theorem Oa {l : List Query} {f v : Int} {k : Nat} (h : (k = l.length ∧ (b7 l && (aB f 0 2 && aB v 0 99)) = true) ∨ (k = 0 ∧ (l.length = 0 ∨ (b7 l && (aB f 0 2 && aB v 0 99)) = false))) : dL (l.take k) f v = uK l f v := by
 unfold uK
 rcases h with ⟨rfl, h⟩ | ⟨rfl, h⟩
 ·rw [if_pos h, List.take_length]
 ·split
  ·rename_i h2
   rcases h with h | h
   ·rw [List.eq_nil_of_length_eq_zero h]; rfl
   ·rw [h] at h2; cases h2
  ·rfl
noncomputable def gU (out : List cd) (s : List Int) : Bool := !(out.length == 0) && dl (out.getD (out.length - 1) iv).Set s
theorem IS {out : List cd} {s : List Int} (h0 : 0 < out.length) (h : dl (out.getD (out.length - 1) iv).Set s = true) : gU out s = true := by
 unfold gU; rw [h, Bool.and_true]; simp; exact List.length_pos_iff.1 h0
noncomputable def pn (out : List cd) (v : Int) (s : List Int) : List cd := if gU out s then out.set (out.length - 1) ⟨(out.getD (out.length - 1) iv).From, v, (out.getD (out.length - 1) iv).Set⟩ else out ++ [⟨v, v, s⟩]
theorem IT {out : List cd} {v : Int} {s : List Int} (h : gU out s = true) : pn out v s = out.set (out.length - 1) ⟨(out.getD (out.length - 1) iv).From, v, (out.getD (out.length - 1) iv).Set⟩ := if_pos h
theorem IU {out : List cd} {v : Int} {s : List Int} (h : gU out s = false) : pn out v s = out ++ [⟨v, v, s⟩] := if_neg (by rw [h]; simp)
noncomputable def bH (l : List Query) (f : Int) : Nat → List cd
 | 0 => []
 | k + 1 => pn (bH l f k) k (dL l f k)
theorem uL (l : List Query) (f : Int) : ∀ k, (bH l f k).length ≤ k
 | 0 => Nat.le_refl _
 | k + 1 => by
  have := uL l f k
  rw [bH]
  unfold pn
  split
  ·rw [List.length_set]; omega
  ·rw [List.length_append]; simp; omega
theorem IV (l : List Query) (f : Int) : ∀ k, ∀ s ∈ bH l f k, s.Set.length ≤ l.length
 | 0, s, h => nomatch h
 | k + 1, s, h => by
  have ih := IV l f k
  rw [bH] at h
  unfold pn at h
  split at h
  ·rename_i hl
   rcases List.mem_or_eq_of_mem_set h with h | rfl
   ·exact ih s h
   ·have hne : 0 < (bH l f k).length := by
     unfold gU at hl
     rw [Bool.and_eq_true] at hl
     have := hl.1
     simp at this
     exact List.length_pos_iff.2 this
    have hlt : (bH l f k).length - 1 < (bH l f k).length := by omega
    show ((bH l f k).getD _ iv).Set.length ≤ _
    rw [List.getD_eq_getElem?_getD, List.getElem?_eq_getElem hlt]
    exact ih _ (List.getElem_mem hlt)
  ·rcases List.mem_append.1 h with h | h
   ·exact ih s h
   ·simp at h; subst h; exact rH _ _ _
noncomputable def df (l : List Query) (f : Int) : List cd := if b7 l && aB f 0 2 then bH l f 100 else []
theorem IW (l : List Query) (f : Int) : (df l f).length ≤ 100 ∧ ∀ s ∈ df l f, s.Set.length ≤ 24 := by
 unfold df
 split
 ·rename_i h
  rw [Bool.and_eq_true] at h
  have := jl h.1
  exact ⟨uL _ _ _, fun s hs => Nat.le_trans (IV _ _ _ s hs) this.1⟩
 ·exact ⟨by simp, fun s hs => nomatch hs⟩
def eg (v : Int) (s : cd) : Bool := aB v s.From s.To
def eL (l : List cd) (v : Int) : List Int := match l.find? (eg v) with
 | some s => s.Set
 | none => []
theorem IX {l : List cd} {v : Int} {k : Nat} (hk : k < l.length) (h : (l.take k).any (eg v) = false) (hy : eg v l[k] = true) : eL l v = l[k].Set := by
 unfold eL
 have e : l = l.take k ++ l[k] :: l.drop (k + 1) := by rw [← List.drop_eq_getElem_cons hk, List.take_append_drop]
 have hn : (l.take k).find? (eg v) = none := by
  rw [List.find?_eq_none]
  intro x hx hp
  rw [List.any_eq_false] at h
  exact h x hx hp
 have : l.find? (eg v) = some l[k] := by
  conv => lhs; rw [e]
  rw [List.find?_append, hn, List.find?_cons_of_pos hy]
  rfl
 rw [this]
theorem Ob {l : List cd} {v : Int} (h : l.any (eg v) = false) : eL l v = [] := by
 unfold eL
 have hn : l.find? (eg v) = none := by
  rw [List.find?_eq_none]
  intro x hx hp
  rw [List.any_eq_false] at h
  exact h x hx hp
 rw [hn]
theorem IY {l : List cd} {m : Nat} (h : ∀ s ∈ l, s.Set.length ≤ m) (v : Int) : (eL l v).length ≤ m := by
 unfold eL
 split
 ·rename_i s hs; exact h s (List.mem_of_find?_eq_some hs)
 ·exact Nat.zero_le _
noncomputable def mr (x : bS) (k : Nat) : Bool := (List.range k).all fun f => dl (x.Fields.getD f []) (df x.Queries (f : Int))
theorem Oc {x : bS} {k : Nat} : mr x (k + 1) = (mr x k && dl (x.Fields.getD k []) (df x.Queries (k : Int))) := by simp [mr, List.range_succ]
noncomputable def cy (x : bS) : Bool := (b7 x.Queries && decide (x.Fields.length = 3)) && mr x 3
theorem IZ {x : bS} {k : Nat} (hk : k < 3) (h : dl (x.Fields.getD k []) (df x.Queries (k : Int)) = false) : cy x = false := by
 have : mr x 3 = false := by
  rw [← Bool.not_eq_true]
  intro hh
  have := List.all_eq_true.1 hh k (List.mem_range.2 hk)
  rw [h] at this; cases this
 unfold cy; rw [this, Bool.and_false]
theorem yU {x : bS} (h : cy x = true) : b7 x.Queries = true ∧ x.Fields.length = 3 ∧ ∀ f, f < 3 → x.Fields.getD f [] = df x.Queries (f : Int) := by
 unfold cy at h
 simp only [Bool.and_eq_true, decide_eq_true_eq] at h
 exact ⟨h.1.1, h.1.2, fun f hf => eI.1 (List.all_eq_true.1 h.2 f (List.mem_range.2 hf))⟩
noncomputable def eW (l : List Query) : bS := if b7 l then ⟨l, [df l 0, df l 1, df l 2]⟩ else ⟨[], []⟩
theorem I0 {l : List Query} (h : b7 l = true) : cy (eW l) = true := by
 unfold eW
 rw [if_pos h]
 unfold cy
 rw [h]
 simp only [List.length_cons, List.length_nil, Bool.true_and, Bool.and_eq_true, decide_eq_true_eq]
 refine ⟨by decide, ?_⟩
 unfold mr
 rw [List.all_eq_true]
 intro f hf
 have := List.mem_range.1 hf
 have : f = 0 ∨ f = 1 ∨ f = 2 := by omega
 rcases this with rfl | rfl | rfl <;> exact nz rfl
noncomputable def mu (l : List Query) (k : Nat) : List (List cd) := (List.range k).map fun f : Nat => df l (f : Int)
def jm (l : List Query) : List Int := l.map Query.Id
def bK (o : List Int) : Bool := decide (o.length = 3) && (bh o 0 && (bh o 1 && bh o 2))
theorem uM {o : List Int} (h : bK o = true) : o.length = 3 ∧ ∀ f ∈ o, 0 ≤ f ∧ f ≤ 2 := by
 unfold bK at h
 simp only [Bool.and_eq_true, decide_eq_true_eq] at h
 obtain ⟨h1, h2, h3, h4⟩ := h
 match o, h1 with
 | [a, b, c], _ =>
  simp [bh] at h2 h3 h4
  refine ⟨rfl, fun f hf => ?_⟩
  simp at hf
  omega
def po (o : List Int) (k : Nat) : Bool := (List.range k).all fun i => aB (o.getD i 0) 0 2 && !bh (o.take i) (o.getD i 0)
theorem Od {o : List Int} {k : Nat} : po o (k + 1) = (po o k && (aB (o.getD k 0) 0 2 && !bh (o.take k) (o.getD k 0))) := by simp [po, List.range_succ]
theorem I1 {o : List Int} (h : o.length = 3) : po o 3 = bK o := by
 match o, h with
 | [a, b, c], _ =>
  rw [Bool.eq_iff_iff]
  simp [po, bK, bh, aB, List.range_succ]
  omega
theorem Oe {o : List Int} {k : Nat} (hl : o.length = 3) (hk : k < 3) (h : (aB (o.getD k 0) 0 2 && !bh (o.take k) (o.getD k 0)) = false) : bK o = false := by
 rw [← I1 hl, ← Bool.not_eq_true]
 intro hh
 have := List.all_eq_true.1 hh k (List.mem_range.2 hk)
 rw [h] at this; cases this
def lB (x : bS) (r : Row) (s : List Int × Int) (f : Int) : List Int × Int := if s.1 = [] then s else (jM s.1 (eL (x.Fields.getD f.toNat []) (fb r.Values f)), s.2 + 1 + min (s.1.length : Int) ((eL (x.Fields.getD f.toNat []) (fb r.Values f)).length : Int))
def dg (x : bS) (r : Row) (o : List Int) (k : Nat) : List Int × Int := (o.take k).foldl (lB x r) (jm x.Queries, 0)
theorem yV {x : bS} {r : Row} {o : List Int} {k : Nat} (hk : k < o.length) (h : (dg x r o k).1 ≠ []) : dg x r o (k + 1) = (jM (dg x r o k).1 (eL (x.Fields.getD o[k].toNat []) (fb r.Values o[k])), (dg x r o k).2 + 1 + min ((dg x r o k).1.length : Int) ((eL (x.Fields.getD o[k].toNat []) (fb r.Values o[k])).length : Int)) := by
 unfold dg
 rw [List.take_succ_eq_append_getElem hk, List.foldl_append]
 show lB x r (dg x r o k) o[k] = _
 unfold lB
 rw [if_neg h]; rfl
theorem I2 {x : bS} {r : Row} : ∀ (o : List Int) (s : List Int × Int), s.1 = [] → o.foldl (lB x r) s = s
 | [], s, _ => rfl
 | f :: o, s, h => by
  rw [List.foldl_cons]
  have : lB x r s f = s := if_pos h
  rw [this]; exact I2 o s h
noncomputable def gV (x : bS) (r : Row) (o : List Int) : List Int × Int := o.foldl (lB x r) (jm x.Queries, 0)
theorem uN {x : bS} {r : Row} {o : List Int} {k : Nat} (h : k = o.length ∨ (dg x r o k).1 = []) : dg x r o k = gV x r o := by
 rcases h with rfl | h
 ·unfold dg gV; rw [List.take_length]
 ·unfold gV
  have e : o = o.take k ++ o.drop k := (List.take_append_drop _ _).symm
  conv => rhs; rw [e, List.foldl_append]
  exact (I2 _ _ h).symm
theorem uO {x : bS} (hx : x.Queries.length ≤ 24) (r : Row) (o : List Int) : ∀ k, (dg x r o k).1.length ≤ 24 ∧ 0 ≤ (dg x r o k).2 ∧ (dg x r o k).2 ≤ 25 * k
 | 0 => by refine ⟨?_, ?_, ?_⟩ <;> simp [dg, jm]; exact hx
 | k + 1 => by
  have ih := uO hx r o k
  by_cases hk : k < o.length
  ·by_cases h : (dg x r o k).1 = []
   ·have e : dg x r o (k + 1) = dg x r o k := by
     unfold dg
     rw [List.take_succ_eq_append_getElem hk, List.foldl_append]
     exact if_pos h
    rw [e]; omega
   ·rw [yV hk h]
    have := NK (dg x r o k).1 (eL (x.Fields.getD o[k].toNat []) (fb r.Values o[k]))
    dsimp only; omega
  ·have e : dg x r o (k + 1) = dg x r o k := by
    unfold dg
    rw [List.take_of_length_le (by omega), List.take_of_length_le (by omega)]
   rw [e]; omega
theorem Of {x : bS} (hx : x.Queries.length ≤ 24) (r : Row) (o : List Int) : (gV x r o).1.length ≤ 24 ∧ 0 ≤ (gV x r o).2 ∧ (gV x r o).2 ≤ 25 * o.length := by
 have := uO hx r o o.length
 rwa [uN (.inl rfl)] at this
theorem I3 {l : List Query} (h : b7 l = true) : pf l ≤ 1000 := by
 have h1 := jl h
 have h2 : ∀ q ∈ l, d9 q ≤ 10 := fun q hq => by
  have := N9 (h1.2 q hq)
  have hc : ∀ c : List f0, (c.map yC).sum = 0 := by
   intro c
   induction c with
   | nil => rfl
   | cons a c ih => rw [List.map_cons, List.sum_cons, ih]; rfl
  unfold d9 rr
  simp only [cu, aV, hc]
  omega
 have h3 : (l.map d9).sum ≤ l.length * 10 := by
  clear h h1
  induction l with
  | nil => simp
  | cons q l ih =>
   have a := h2 q (by simp)
   have b := ih fun x hx => h2 x (by simp [hx])
   simp only [List.map_cons, List.sum_cons, List.length_cons, Nat.succ_mul]; omega
 unfold pf
 have : l.length * 10 ≤ 24 * 10 := Nat.mul_le_mul h1.1 (Nat.le_refl _)
 omega
theorem Og {l : List Query} {k : Nat} : mu l (k + 1) = mu l k ++ [df l (k : Int)] := by unfold mu; rw [List.range_succ, List.map_append]; rfl
theorem I4 {l : List Query} {k : Nat} : (mu l k).length = k := by unfold mu; rw [List.length_map, List.length_range]
theorem Oh {l : List Query} (h : b7 l = true) : eW l = ⟨l, mu l 3⟩ := by unfold eW; rw [if_pos h]; rfl
theorem Oi {l : List Query} (h : b7 l = false) : eW l = ⟨[], []⟩ := by unfold eW; rw [if_neg (by rw [h]; simp)]
def jn (x : dZ) (i : Nat) : Bool := aB (x.Tenants.getD i 0) 0 3 && aB (x.Rows.getD i 0) 0 x.Base
def lC (x : dZ) (k : Nat) : Bool := (List.range k).all (jn x)
theorem Oj {x : dZ} {k : Nat} : lC x (k + 1) = (lC x k && jn x k) := by simp [lC, List.range_succ]
def jo (x : dZ) : Bool := cF x.Ids && (aB x.Ids.length 1 8 && (decide (x.Tenants.length = x.Ids.length) && decide (x.Rows.length = x.Ids.length)))
def dQ (x : dZ) : Bool := (jo x && lC x x.Ids.length) && (aB x.Segment 0 7 && aB x.Base 0 4)
theorem I5 {x : dZ} (h : jo x = true) : 1 ≤ x.Ids.length ∧ x.Ids.length ≤ 8 ∧ x.Tenants.length = x.Ids.length ∧ x.Rows.length = x.Ids.length := by
 simp [jo, aB] at h; omega
theorem Ok {x : dZ} {k : Nat} (hk : k < x.Ids.length) (h : jn x k = false) : dQ x = false := by
 have : lC x x.Ids.length = false := by
  rw [← Bool.not_eq_true]
  intro hh
  have := List.all_eq_true.1 hh k (List.mem_range.2 hk)
  rw [h] at this; cases this
 unfold dQ; rw [this]; simp
section
def eX : Active := ⟨⟨0, 0, [], []⟩, 0, [], 0, 0, 0, []⟩
def iR (a b : Active) : Bool := decide (a.Query.Id < b.Query.Id)
def iw (n v : Int) : Bool := aB v 0 (n - 1)
def ix (a b : Int) : Bool := decide (a < b)
def iy (l : List Int) (n : Int) : Bool := cw 0 (iw n) ix l && decide (0 < l.length)
def dt (s : Store) (a : Active) : Bool := iy a.Todo s.Segments.length && (bI a.Query && (aB a.Time 0 s.Now && (aB a.Age 0 100000 && (aB a.Sent 0 1000 && (aB a.Cap 0 32 && jL a.Rows)))))
def ez (now : Int) (f : dP) : Bool := bI f.Query && (aB f.Time 0 now && (aB f.Steps 0 100000 && jL f.Rows))
def f8 (e : am) : Bool := (bA e.Store && (aB e.Cursor 0 (e.Store.Segments.length - 1) && (bK e.Order && aB e.Steps 0 100000))) && (decide ((e.Active.length : Int) ≤ 8) && (decide ((e.Done.length : Int) ≤ 1000) && decide ((e.Ledger.length : Int) ≤ 1000)))
def aH (e : am) : Bool := f8 e && (cw eX (dt e.Store) iR e.Active && (e.Done.all (ez e.Store.Now) && e.Ledger.all dQ))
theorem I6 {e : am} (h : f8 e = false) : aH e = false := by unfold aH; rw [h]; rfl
theorem I7 {e : am} (h : cw eX (dt e.Store) iR e.Active = false) : aH e = false := by unfold aH; rw [h]; simp
theorem I8 {e : am} (h : e.Done.all (ez e.Store.Now) = false) : aH e = false := by unfold aH; rw [h]; simp
theorem I9 {e : am} (h : e.Ledger.all dQ = false) : aH e = false := by unfold aH; rw [h]; simp
theorem Ja {e : am} (h1 : f8 e = true) (h2 : cw eX (dt e.Store) iR e.Active = true) (h3 : e.Done.all (ez e.Store.Now) = true) (h4 : e.Ledger.all dQ = true) : aH e = true := by unfold aH; rw [h1, h2, h3, h4]; rfl
theorem fg {e : am} (h : aH e = true) : bA e.Store = true ∧ bK e.Order = true ∧ 0 ≤ e.Cursor ∧ e.Cursor.toNat < e.Store.Segments.length ∧ e.Active.length ≤ 8 ∧ e.Done.length ≤ 1000 ∧ e.Ledger.length ≤ 1000 ∧ 0 ≤ e.Steps ∧ e.Steps ≤ 100000 ∧ (∀ a ∈ e.Active, dt e.Store a = true) ∧ (∀ f ∈ e.Done, ez e.Store.Now f = true) ∧ ∀ c ∈ e.Ledger, dQ c = true := by
 unfold aH f8 at h
 simp only [Bool.and_eq_true, aB, decide_eq_true_eq] at h
 obtain ⟨⟨⟨h1, h2, h3, h4⟩, h5, h6, h7⟩, h8, h9, h10⟩ := h
 refine ⟨h1, h3, by omega, by omega, by omega, by omega, by omega, by omega, by omega, fun a ha => ?_, List.all_eq_true.1 h9, List.all_eq_true.1 h10⟩
 obtain ⟨k, hk, rfl⟩ := List.mem_iff_getElem.1 ha
 exact rz h8 hk
def nL (o : List Int) (k : Nat) : Bool := (List.range k).all fun i => bh o (i : Int)
theorem uP {o : List Int} {k : Nat} : nL o (k + 1) = (nL o k && bh o (k : Int)) := by simp [nL, List.range_succ]
theorem Jb {o : List Int} : (nL o 3 && decide (o.length = 3)) = bK o := by
 rw [Bool.and_comm, bK, uP, uP, uP]
 show _ = (decide (o.length = 3) && (bh o ((0 : Nat) : Int) && (bh o ((1 : Nat) : Int) && bh o ((2 : Nat) : Int))))
 simp [nL, Bool.and_assoc]
theorem Ol {o : List Int} {k : Nat} (hk : k < 3) (h : bh o (k : Int) = false) : bK o = false := by
 rw [← Jb]
 have : nL o 3 = false := by
  rw [← Bool.not_eq_true]
  intro hh
  have := List.all_eq_true.1 hh k (List.mem_range.2 hk)
  rw [h] at this; cases this
 rw [this]; rfl
def kG (a : Active) : Bool := decide (a.Cap = 0) || decide (a.Sent < a.Cap)
def nM (e : am) (i : Int) : Bool := aH e && aB i 0 (e.Active.length - 1) && kG (e.Active.getD i.toNat eX)
def fh (e : am) (a : Active) : Bool := kG a && bh a.Todo e.Cursor
def eA (e : am) (l : List Active) : List Int := (l.filter (fh e)).map fun a => a.Query.Id
def parts (e : am) : List Int := if aH e then eA e e.Active else []
section
variable {e : am} {l : List Active} {k : Nat} {id : Int}
theorem Om (h : aH e = true) (hk : k < e.Active.length) : nM e (k : Int) = kG e.Active[k] := by
 unfold nM
 rw [h, show aB (k : Int) 0 (e.Active.length - 1) = true by simp [aB]; omega, Int.toNat_natCast, List.getD_eq_getElem?_getD, List.getElem?_eq_getElem hk]; rfl
theorem Jc (hk : k < l.length) (h : fh e l[k] = true) : eA e (l.take (k + 1)) = eA e (l.take k) ++ [l[k].Query.Id] := by
 unfold eA; rw [List.take_succ_eq_append_getElem hk, List.filter_append]; simp [h]
theorem Jd (hk : k < l.length) (h : fh e l[k] = false) : eA e (l.take (k + 1)) = eA e (l.take k) := by
 unfold eA; rw [List.take_succ_eq_append_getElem hk, List.filter_append]; simp [h]
theorem yW : (eA e l).length ≤ l.length := by
 unfold eA; rw [List.length_map]; exact List.length_filter_le _ _
theorem jp (h : aH e = true) : parts e = eA e e.Active := if_pos h
theorem Je (h : aH e = false) : parts e = [] := if_neg (by rw [h]; simp)
theorem On (h : (k = e.Active.length ∧ aH e = true) ∨ (k = 0 ∧ (e.Active.length = 0 ∨ aH e = false))) : eA e (e.Active.take k) = parts e := by
 rcases h with ⟨rfl, h⟩ | ⟨rfl, h⟩
 ·rw [List.take_length, jp h]
 ·rw [List.take_zero]
  rcases h with h | h
  ·unfold parts
   rw [List.eq_nil_of_length_eq_zero h]
   split <;> rfl
  ·rw [Je h]; rfl
theorem nN : (parts e).length ≤ e.Active.length := by
 unfold parts
 split
 ·exact yW
 ·exact Nat.zero_le _
def cS (id : Int) (a : Active) : Bool := a.Query.Id == id
def cm (l : List Active) (id : Int) : Int := if l.any (cS id) then ((l.findIdx (cS id) : Nat) : Int) else -1
theorem yX (hk : k < l.length) (h : (l.take k).any (cS id) = false) (hy : cS id l[k] = true) : cm l id = (k : Int) := by
 have e : l.findIdx (cS id) = k := by
  rw [List.findIdx_eq hk]
  refine ⟨hy, fun j hj => ?_⟩
  rw [List.any_eq_false] at h
  have := h l[j] (by rw [List.mem_iff_getElem]; exact ⟨j, by rw [List.length_take]; omega, by simp⟩)
  simpa using this
 unfold cm
 rw [if_pos (ny hk hy), e]
theorem Oo (h : l.any (cS id) = false) : cm l id = -1 := if_neg (by rw [h]; simp)
theorem yY (h : id ∈ eA e l) : 0 ≤ cm l id ∧ (cm l id).toNat < l.length := by
 unfold eA at h
 obtain ⟨a, ha, rfl⟩ := List.mem_map.1 h
 have ha := (List.mem_filter.1 ha).1
 have hany : l.any (cS a.Query.Id) = true := List.any_eq_true.2 ⟨a, ha, by simp [cS]⟩
 have hlt : l.findIdx (cS a.Query.Id) < l.length := List.findIdx_lt_length_of_exists ⟨a, ha, by simp [cS]⟩
 unfold cm
 rw [if_pos hany]
 omega
end
def eB (l : List Active) (ids : List Int) : List Query := ids.map fun id => (l.getD (cm l id).toNat eX).Query
def lG (e : am) : List Row := (e.Store.Segments.getD e.Cursor.toNat []).map dr
noncomputable def lH (x : bS) (o : List Int) (r : Row) : Int := if bm r then (gV x r o).2 else 0
noncomputable def jV (x : bS) (o : List Int) (l : List Row) : Int := (l.map (lH x o)).sum
noncomputable def dR (x : bS) (l : List Row) (o : List Int) : Int := if cy x && bK o then jV x o l else 0
theorem Jf {x : bS} {o : List Int} {l : List Row} {k : Nat} (hk : k < l.length) : jV x o (l.take (k + 1)) = jV x o (l.take k) + lH x o l[k] := by
 unfold jV; rw [List.take_succ_eq_append_getElem hk, List.map_append, List.sum_append]; simp
theorem yZ {x : bS} {o : List Int} (hx : cy x = true) (ho : bK o = true) (r : Row) : 0 ≤ lH x o r ∧ lH x o r ≤ 75 := by
 unfold lH
 split
 ·have h1 := Of (jl (yU hx).1).1 r o
  have h2 := (uM ho).1
  omega
 ·omega
theorem y1 {x : bS} {o : List Int} (hx : cy x = true) (ho : bK o = true) : ∀ l : List Row, 0 ≤ jV x o l ∧ jV x o l ≤ 75 * l.length
 | [] => by simp [jV]
 | r :: l => by
  have h1 := yZ hx ho r
  have h2 := y1 hx ho l
  unfold jV at h2 ⊢
  rw [List.map_cons, List.sum_cons, List.length_cons]
  omega
theorem Oq {x : bS} {o : List Int} {l : List Row} {k : Nat} (h : (k = l.length ∧ (cy x && bK o) = true) ∨ (k = 0 ∧ (l.length = 0 ∨ (cy x && bK o) = false))) : jV x o (l.take k) = dR x l o := by
 unfold dR
 rcases h with ⟨rfl, h⟩ | ⟨rfl, h⟩
 ·rw [if_pos h, List.take_length]
 ·rw [List.take_zero]
  split
  ·rename_i h2
   rcases h with h | h
   ·rw [List.eq_nil_of_length_eq_zero h]
   ·rw [h] at h2; cases h2
  ·rfl
theorem uQ {e : am} (h : aH e = true) : (lG e).length ≤ 4 := by
 have hef := fg h
 have hcl := hef.2.2.2.1
 unfold lG
 rw [List.length_map, List.getD_eq_getElem?_getD, List.getElem?_eq_getElem hcl]
 exact (jj hef.1).2.2.2.2.1 _ (List.getElem_mem hcl)
def bi : List (List Int) := [[0, 1, 2], [0, 2, 1], [1, 0, 2], [1, 2, 0], [2, 0, 1], [2, 1, 0]]
noncomputable def eM (x : bS) (l : List Row) : Nat → List Int
 | 0 => [0, 1, 2]
 | k + 1 => if dR x l (bi.getD k []) < dR x l (eM x l k) then bi.getD k [] else eM x l k
noncomputable def kH (x : bS) (l : List Row) : List Int := if cy x then eM x l 6 else []
noncomputable def kI (x : bS) (l : List Row) (k : Nat) : List Int := if k = 0 then [] else eM x l k
noncomputable def mw (x : bS) (l : List Row) (k : Nat) : Int := if k = 0 then 0 else dR x l (eM x l k)
theorem uR {k : Nat} (h : k < bi.length) : bi[k].length = 3 := by
 have : ∀ o ∈ bi, o.length = 3 := by decide
 exact this _ (List.getElem_mem h)
theorem y2 {x : bS} {l : List Row} : ∀ k, k ≤ 6 → (eM x l k).length = 3
 | 0, _ => rfl
 | k + 1, h => by
  rw [eM]
  split
  ·have hk : k < bi.length := by show k < 6; omega
   rw [← cX (d := ([] : List Int)) hk]; exact uR hk
  ·exact y2 k (by omega)
theorem pp {x : bS} {l : List Row} {k : Nat} (hk : k < bi.length) (h : dR x l bi[k] < dR x l (eM x l k)) : eM x l (k + 1) = bi[k] := by
 have e := cX (d := ([] : List Int)) hk
 rw [eM, ← e, if_pos h]
theorem pq {x : bS} {l : List Row} {k : Nat} (hk : k < bi.length) (h : ¬ dR x l bi[k] < dR x l (eM x l k)) : eM x l (k + 1) = eM x l k := by
 have e := cX (d := ([] : List Int)) hk
 rw [eM, ← e, if_neg h]
theorem Ot {x : bS} {l : List Row} {k : Nat} (hk : k < bi.length) (h : k = 0 ∨ dR x l bi[k] < mw x l k) : kI x l (k + 1) = bi[k] ∧ mw x l (k + 1) = dR x l bi[k] := by
 unfold kI mw at *
 rw [if_neg (by omega), if_neg (by omega)]
 have hb : eM x l (k + 1) = bi[k] := by
  rcases h with rfl | h
  ·by_cases h2 : dR x l bi[0] < dR x l (eM x l 0)
   ·exact pp hk h2
   ·rw [pq hk h2]; rfl
  ·by_cases h0 : k = 0
   ·subst h0
    by_cases h2 : dR x l bi[0] < dR x l (eM x l 0)
    ·exact pp hk h2
    ·rw [pq hk h2]; rfl
   ·rw [if_neg h0] at h; exact pp hk h
 rw [hb]; exact ⟨rfl, rfl⟩
theorem Ou {x : bS} {l : List Row} {k : Nat} (hk : k ≤ 6) (h : (kI x l k).length = 0) : k = 0 := by
 by_cases h0 : k = 0
 ·exact h0
 ·exfalso
  have := y2 (x := x) (l := l) k hk
  unfold kI at h
  rw [if_neg h0] at h
  omega
theorem Jg {o : Fl} {es es' : List (List PV)} (h : es = es') : (PV.sl o es).To (PV.sl .v es') := by subst h; exact PV.to_none
theorem Ov {x : bS} {l : List Row} {k : Nat} (hk : k < bi.length) (h0 : k ≠ 0) (h : ¬ dR x l bi[k] < mw x l k) : kI x l (k + 1) = kI x l k ∧ mw x l (k + 1) = mw x l k := by
 unfold kI mw at *
 rw [if_neg h0] at h
 have e1 : ¬ k + 1 = 0 := by omega
 simp only [if_neg e1, if_neg h0, pq hk h, and_self]
theorem Ow {x : bS} {l : List Row} {k : Nat} (h : (k = bi.length ∧ cy x = true) ∨ (k = 0 ∧ (bi.length = 0 ∨ cy x = false))) : kI x l k = kH x l := by
 unfold kH
 rcases h with ⟨rfl, h⟩ | ⟨rfl, h⟩
 ·rw [if_pos h]; rfl
 ·rcases h with h | h
  ·exact absurd h (by decide)
  ·rw [if_neg (by rw [h]; simp)]; rfl
noncomputable def eY (e : am) : List Int := if aH e then kH (eW (eB e.Active (parts e))) (lG e) else []
theorem y3 (e : am) : (eY e).length ≤ 3 := by
 unfold eY kH
 split
 ·split
  ·exact Nat.le_of_eq (y2 6 (Nat.le_refl _))
  ·exact Nat.zero_le _
 ·exact Nat.zero_le _
noncomputable def nO (e : am) : Int := if aH e then dR (eW (eB e.Active (parts e))) (lG e) e.Order else 0
end
section
def mx (s : Store) : Nat := (aS s).length
def nP (s : Store) (k : Nat) : Nat := (cl s k).length
theorem Jh {s : Store} {k : Nat} (hk : k < s.Segments.length) : nP s (k + 1) = nP s k + s.Segments[k].length := by unfold nP; rw [rG hk, List.length_append]
theorem Ox {s : Store} (k : Nat) (hk : k ≤ s.Segments.length) : nP s k ≤ mx s := by
 unfold nP mx cl aS
 have e : s.Segments.flatten = (s.Segments.take k).flatten ++ (s.Segments.drop k).flatten := by rw [← List.flatten_append, List.take_append_drop]
 rw [e, List.length_append]; omega
def fi (v : aF) (keep : List Int) : Bool := decide (v.Died = -1) || keep.any (de v)
theorem Oy {v : aF} {keep : List Int} {k : Nat} (hk : k < keep.length) (h : de v keep[k] = true) : fi v keep = true := by unfold fi; rw [ny hk h]; simp
theorem Oz {v : aF} {keep : List Int} (h : keep.any (de v) = false) : fi v keep = decide (v.Died = -1) := by unfold fi; rw [h]; simp
def lI (v : aF) (keep : List Int) (k : Nat) : Bool := decide (v.Died = -1) || (keep.take k).any (de v)
theorem OA {v : aF} {keep : List Int} {k : Nat} (hk : k < keep.length) : lI v keep (k + 1) = (lI v keep k || de v keep[k]) := by
 unfold lI; rw [List.take_succ_eq_append_getElem hk, List.any_append, ← Bool.or_assoc]; simp
theorem Ji {v : aF} {keep : List Int} : lI v keep keep.length = fi v keep := by unfold lI fi; rw [List.take_length]
def lJ (keep : List Int) (l : List aF) : List aF := l.filter fun v => fi v keep
def dM (s : Store) (keep : List Int) : Store := if bA s then ⟨s.Segments.map (lJ keep), s.Now⟩ else s
def f9 (keep : List Int) (zs : List (aF × (Nat → Value))) : List (aF × (Nat → Value)) := zs.filter fun z => fi z.1 keep
def fv (zss : List (List (aF × (Nat → Value)))) (keep : List Int) (k : Nat) : List (List (aF × (Nat → Value))) := (zss.take k).map (f9 keep) ++ zss.drop k
section
variable {zss : List (List (aF × (Nat → Value)))} {keep : List Int} {k : Nat} {segs : List (List aF)}
theorem uS : (fv zss keep k).length = zss.length := by unfold fv; simp; omega
theorem Jj (hk : k < zss.length) (h : k < (fv zss keep k).length) : (fv zss keep k)[k]'h = zss[k] := by
 have h1 : (fv zss keep k)[k]? = some zss[k] := by
  unfold fv
  rw [List.getElem?_append_right (by simp; omega)]
  simp [Nat.min_eq_left (Nat.le_of_lt hk), hk]
 exact (List.getElem?_eq_some_iff.1 h1).2
theorem Jk (hk : k < zss.length) : (fv zss keep k).set k (f9 keep zss[k]) = fv zss keep (k + 1) := by
 unfold fv
 have hl : ((zss.take k).map (f9 keep)).length = k := by rw [List.length_map, List.length_take]; omega
 rw [List.set_append_right _ _ (by omega), hl, Nat.sub_self, List.drop_eq_getElem_cons hk, List.set_cons_zero, List.take_succ_eq_append_getElem hk, List.map_append]
 simp
theorem y4 : fv zss keep zss.length = zss.map (f9 keep) := by unfold fv; simp
theorem Jl : (zss.map (f9 keep)).flatten.Sublist zss.flatten := by
 induction zss with
 | nil => exact List.Sublist.slnil
 | cons z l ih => rw [List.map_cons, List.flatten_cons, List.flatten_cons]; exact List.Sublist.append List.filter_sublist ih
theorem OB (hz : zss.map (List.map Prod.fst) = segs) : (zss.map (f9 keep)).map (List.map Prod.fst) = segs.map (lJ keep) := by
 rw [← hz, List.map_map, List.map_map]
 refine List.map_congr_left fun zs _ => ?_
 simp only [Function.comp_apply, f9, lJ, List.filter_map]
 rfl
theorem Jm (hz : zss.map (List.map Prod.fst) = segs) : zss.length = segs.length := by rw [← hz, List.length_map]
theorem OC (hz : zss.map (List.map Prod.fst) = segs) (hk : k < zss.length) (hk2 : k < segs.length) : zss[k].map Prod.fst = segs[k] := by subst hz; simp
theorem Jn (hz : zss.map (List.map Prod.fst) = segs) (hk : k < zss.length) (hk2 : k < segs.length) : zss[k].length = segs[k].length := by rw [← OC hz hk hk2, List.length_map]
theorem Jo (hz : zss.map (List.map Prod.fst) = segs) (hk : k < zss.length) (hk2 : k < segs.length) {j : Nat} (hj : j < zss[k].length) (hj2 : j < segs[k].length) : zss[k][j].1 = segs[k][j] := by
 subst hz; simp
theorem Jp {zs : List (aF × (Nat → Value))} {j : Nat} (hj : j < zs.length) (h : fi zs[j].1 keep = true) : f9 keep (zs.take (j + 1)) = f9 keep (zs.take j) ++ [zs[j]] := by
 unfold f9; rw [List.take_succ_eq_append_getElem hj, List.filter_append]; simp [h]
theorem Jq {zs : List (aF × (Nat → Value))} {j : Nat} (hj : j < zs.length) (h : fi zs[j].1 keep = false) : f9 keep (zs.take (j + 1)) = f9 keep (zs.take j) := by
 unfold f9; rw [List.take_succ_eq_append_getElem hj, List.filter_append]; simp [h]
theorem Jr {zs : List (aF × (Nat → Value))} {j : Nat} : (f9 keep (zs.take j)).length ≤ j := by
 have := List.length_filter_le (fun z : aF × (Nat → Value) => fi z.1 keep) (zs.take j)
 rw [List.length_take] at this
 unfold f9; omega
end
def lK (s : Store) (i j : Nat) : List aF := (s.Segments.take i).flatten ++ (s.Segments.getD i []).take j
def gy (s : Store) (keep : List Int) (i j : Nat) : Nat := ((lK s i j).filter fun v => !fi v keep).length
theorem Js {s : Store} {i j : Nat} (hi : i < s.Segments.length) (hj : j < s.Segments[i].length) : lK s i (j + 1) = lK s i j ++ [s.Segments[i][j]] := by
 unfold lK
 rw [show s.Segments.getD i [] = s.Segments[i] by simp [hi], List.take_succ_eq_append_getElem hj, List.append_assoc]
theorem OD {s : Store} {i : Nat} (hi : i < s.Segments.length) : lK s i s.Segments[i].length = lK s (i + 1) 0 := by
 unfold lK
 rw [show s.Segments.getD i [] = s.Segments[i] by simp [hi], List.take_length, List.take_succ_eq_append_getElem hi, List.flatten_append]
 simp
theorem OE {s : Store} {keep : List Int} {i j : Nat} (hi : i < s.Segments.length) (hj : j < s.Segments[i].length) (h : fi s.Segments[i][j] keep = true) : gy s keep i (j + 1) = gy s keep i j := by
 unfold gy; rw [Js hi hj, List.filter_append]; simp [h]
theorem OF {s : Store} {keep : List Int} {i j : Nat} (hi : i < s.Segments.length) (hj : j < s.Segments[i].length) (h : fi s.Segments[i][j] keep = false) : gy s keep i (j + 1) = gy s keep i j + 1 := by
 unfold gy; rw [Js hi hj, List.filter_append]; simp [h]
theorem OG {s : Store} {keep : List Int} {i : Nat} (hi : i < s.Segments.length) : gy s keep i s.Segments[i].length = gy s keep (i + 1) 0 := by unfold gy; rw [OD hi]
theorem OH {s : Store} {keep : List Int} : gy s keep 0 0 = 0 := by simp [gy, lK]
theorem OI {s : Store} {keep : List Int} {i j : Nat} (hi : i < s.Segments.length) : gy s keep i j ≤ (aS s).length := by
 unfold gy
 refine Nat.le_trans (List.length_filter_le _ _) ?_
 unfold lK aS
 have h1 := rG (s := s) hi
 have h2 : (cl s (i + 1)).length ≤ s.Segments.flatten.length := by
  unfold cl
  have e : s.Segments.flatten = (s.Segments.take (i + 1)).flatten ++ (s.Segments.drop (i + 1)).flatten := by rw [← List.flatten_append, List.take_append_drop]
  rw [e, List.length_append]; omega
 rw [h1, List.length_append] at h2
 rw [List.length_append, List.length_take, show s.Segments.getD i [] = s.Segments[i] by simp [hi]]
 unfold cl at h2; omega
theorem Jt (keep : List Int) : ∀ l : List aF, b3 (lJ keep l) ≤ b3 l
 | [] => Nat.le_refl _
 | v :: l => by
  have ih := Jt keep l
  unfold lJ b3 at *
  rw [List.filter_cons]
  split <;> simp only [List.length_cons, List.map_cons, List.sum_cons] <;> omega
theorem y5 (s : Store) (keep : List Int) : cc (dM s keep) ≤ cc s := by
 unfold dM
 split
 ·unfold cc fa
  dsimp only
  rw [List.length_map, List.map_map]
  have : (s.Segments.map (b3 ∘ lJ keep)).sum ≤ (s.Segments.map b3).sum := by
   generalize s.Segments = l
   induction l with
   | nil => exact Nat.le_refl _
   | cons x l ih => simp only [List.map_cons, List.sum_cons, Function.comp] at *; have := Jt keep x; omega
  omega
 ·exact Nat.le_refl _
theorem uT {s : Store} {keep : List Int} (h : bA s = true) : dM s keep = ⟨s.Segments.map (lJ keep), s.Now⟩ := if_pos h
theorem Ju {s : Store} {keep : List Int} (h : bA s = false) : dM s keep = s := if_neg (by rw [h]; simp)
def uU (s : Store) (keep : List Int) : Int := if bA s then (mx s : Int) - (mx (dM s keep) : Int) else 0
def uV (s : Store) (keep : List Int) : Int := if bA s then (gy s keep s.Segments.length 0 : Int) else 0
def d3 (l : List Active) : List Int := l.map fun a => a.Time
def cf (e : am) : am := ⟨dM e.Store (d3 e.Active), e.Cursor, e.Order, e.Active, e.Done, e.Ledger, e.Steps⟩
def lL (z : aF × (Nat → Value)) : List PV := [PV.nv (z.2 0) (PV.val (vI z.1.Id)), PV.nv (z.2 1) (PV.sl .v (z.1.Values.map ai)), PV.nv (z.2 2) (PV.val (vI z.1.Born)), PV.nv (z.2 3) (PV.val (vI z.1.Died))]
def iS (zs : List (aF × (Nat → Value))) : List PV := [PV.sl (.own 184 4) (zs.map lL)]
end
theorem Jv {α : Type} {d : α} {p : α → Bool} {key : α → Int} {l : List α} (h : cw d p (fun a b => decide (key a < key b)) l = true) : l.Pairwise (fun a b => key a < key b) := by
 have step : ∀ j : Nat, (hj : j + 1 < l.length) → key l[j] < key l[j + 1] := fun j hj => by
  have h1 := List.all_eq_true.1 h (j + 1) (List.mem_range.2 hj)
  rw [Bool.and_eq_true, cY hj, show j + 1 - 1 = j from rfl, cY (show j < l.length by omega)] at h1
  have h2 := h1.2
  simpa using h2
 have lt : ∀ (j i : Nat) (hj : j < l.length) (hi : i < j), key l[i] < key l[j] := by
  intro j
  induction j with
  | zero => intro i _ hi; omega
  | succ j ih =>
   intro i hj hi
   have h1 := step j hj
   rcases Nat.lt_or_ge i j with h2 | h2
   ·have := ih i (by omega) h2; omega
   ·have : i = j := by omega
    subst this; exact h1
 rw [List.pairwise_iff_getElem]
 exact fun i j hi hj hij => lt j i hj hij
theorem OJ {l : List Int} (h : ∀ x ∈ l, 0 ≤ x ∧ x ≤ 23) (hp : l.Pairwise (· < ·)) : cF l = true := by
 unfold cF
 rw [List.all_eq_true]
 intro i hi
 have hi := List.mem_range.1 hi
 rw [List.pairwise_iff_getElem] at hp
 refine ux.2 ?_
 rw [show l.getD i 0 = l[i] by simp [hi]]
 have := h _ (List.getElem_mem hi)
 refine ⟨this.1, this.2, ?_⟩
 rcases Nat.eq_zero_or_pos i with h0 | h0
 ·exact .inl h0
 ·right
  rw [show l.getD (i - 1) 0 = l[i - 1]'(by omega) by simp [show i - 1 < l.length by omega]]
  exact hp (i - 1) i (by omega) hi (by omega)
theorem OK {l : List cd} {s : cd} {v : Int} (h : eg v s = false) : eL (l ++ [s]) v = eL l v := by
 unfold eL
 rw [List.find?_append]
 cases hf : l.find? (eg v) with
 | some t => rfl
 | none => simp [h]
theorem OL {l : List cd} {s : cd} {v : Int} (hl : ∀ t ∈ l, eg v t = false) (h : eg v s = true) : eL (l ++ [s]) v = s.Set := by
 unfold eL
 rw [List.find?_append, List.find?_eq_none.2 (fun t ht => by simp [hl t ht])]
 simp [h]
structure y6 (l : List Query) (f : Int) (k : Nat) (out : List cd) : Prop where
 none : k = 0 → out = []
 some : 0 < k → ∃ (a : List cd) (s : cd), out = a ++ [s] ∧ s.To = (k : Int) - 1 ∧ s.From ≤ (k : Int) - 1 ∧ (∀ v : Int, s.From ≤ v → v ≤ (k : Int) - 1 → dL l f v = s.Set) ∧ (∀ t ∈ a, t.To < s.From) ∧ (∀ v : Int, 0 ≤ v → v < s.From → eL a v = dL l f v)
theorem y6.find {l : List Query} {f : Int} {k : Nat} {out : List cd} (h : y6 l f k out) {v : Int} (h0 : 0 ≤ v) (hv : v < k) : eL out v = dL l f v := by
 obtain ⟨a, s, rfl, h1, h2, h3, h4, h5⟩ := h.some (by omega)
 by_cases hc : s.From ≤ v
 ·rw [OL (fun t ht => by have := h4 t ht; simp [eg, aB]; omega) (by simp [eg, aB]; omega), h3 v hc (by omega)]
 ·rw [OK (by simp [eg, aB]; omega), h5 v h0 (by omega)]
theorem Jw (l : List Query) (f : Int) : ∀ k : Nat, y6 l f k (bH l f k)
 | 0 => ⟨fun _ => rfl, fun h => absurd h (Nat.lt_irrefl 0)⟩
 | k + 1 => by
  have ih := Jw l f k
  refine ⟨fun h => by omega, fun _ => ?_⟩
  rw [bH]
  have fresh : ∃ (a : List cd) (s : cd), bH l f k ++ [⟨(k : Int), (k : Int), dL l f k⟩] = a ++ [s] ∧ s.To = ((k + 1 : Nat) : Int) - 1 ∧ s.From ≤ ((k + 1 : Nat) : Int) - 1 ∧ (∀ v : Int, s.From ≤ v → v ≤ ((k + 1 : Nat) : Int) - 1 → dL l f v = s.Set) ∧ (∀ t ∈ a, t.To < s.From) ∧ (∀ v : Int, 0 ≤ v → v < s.From → eL a v = dL l f v) := by
   refine ⟨_, _, rfl, by dsimp only; omega, by dsimp only; omega, fun v h1 h2 => ?_, fun t ht => ?_, fun v h1 h2 => ih.find h1 h2⟩
   ·dsimp only at h1 ⊢
    rw [show v = (k : Int) by omega]
   ·dsimp only
    rcases Nat.eq_zero_or_pos k with h0 | h0
    ·rw [ih.none h0] at ht; cases ht
    ·obtain ⟨a, s, he, h1, h2, _, h4, _⟩ := ih.some h0
     rw [he] at ht
     rcases List.mem_append.1 ht with ht | ht
     ·have := h4 t ht; omega
     ·simp at ht; subst ht; omega
  unfold pn
  split
  ·rename_i hl
   rcases Nat.eq_zero_or_pos k with h0 | h0
   ·rw [ih.none h0] at hl; cases hl
   ·obtain ⟨a, s, he, h1, h2, h3, h4, h5⟩ := ih.some h0
    rw [he] at hl ⊢
    have hlen : (a ++ [s]).length - 1 = a.length := by simp
    have hg : (a ++ [s]).getD a.length iv = s := by simp
    unfold gU at hl
    rw [hlen, hg, Bool.and_eq_true] at hl
    have hs : s.Set = dL l f k := eI.1 hl.2
    rw [hlen, hg, List.set_append_right (h := Nat.le_refl _), Nat.sub_self, List.set_cons_zero]
    refine ⟨a, _, rfl, by dsimp only; omega, by dsimp only; omega, fun v k1 k2 => ?_, h4, h5⟩
    dsimp only at k1 ⊢
    by_cases hk : v = (k : Int)
    ·rw [hk, hs]
    ·exact h3 v k1 (by omega)
  ·exact fresh
theorem OM {l : List Query} {f v : Int} (hl : b7 l = true) (hf : 0 ≤ f ∧ f ≤ 2) (hv : 0 ≤ v ∧ v ≤ 99) : eL (df l f) v = dL l f v := by
 have hc : (b7 l && aB f 0 2) = true := by rw [hl, Bool.true_and]; exact uy.2 hf
 unfold df
 rw [if_pos hc]
 have h := Jw l f 100
 generalize bH l f 100 = out at h ⊢
 exact h.find hv.1 (by omega)
theorem Jx {l : List Query} (h : b7 l = true) : l.Pairwise (fun a b => a.Id < b.Id) := by
 unfold b7 at h
 rw [Bool.and_eq_true] at h
 exact Jv h.1
theorem ON {q : Query} (h : bI q = true) : 0 ≤ q.Id ∧ q.Id ≤ 23 := by
 unfold bI at h
 simp only [Bool.and_eq_true, aB, decide_eq_true_eq] at h
 exact h.1.1
theorem y7 {l : List Query} (h : b7 l = true) (P : Query → Bool) : cF ((l.filter P).map Query.Id) = true := by
 refine OJ (fun x hx => ?_) ?_
 ·obtain ⟨q, hq, rfl⟩ := List.mem_map.1 hx
  exact ON ((jl h).2 q (List.mem_filter.1 hq).1)
 ·rw [List.pairwise_map]
  exact (Jx h).filter P
theorem OO {α : Type} {key : α → Int} {l : List α} (h : l.Pairwise (fun a b => key a < key b)) {a b : α} (ha : a ∈ l) (hb : b ∈ l) (he : key a = key b) : a = b := by
 obtain ⟨i, hi, rfl⟩ := List.mem_iff_getElem.1 ha
 obtain ⟨j, hj, rfl⟩ := List.mem_iff_getElem.1 hb
 rw [List.pairwise_iff_getElem] at h
 rcases Nat.lt_trichotomy i j with h1 | h1 | h1
 ·have := h i j hi hj h1; omega
 ·subst h1; rfl
 ·have := h j i hj hi h1; omega
theorem Jy {l : List Query} (h : b7 l = true) (P : Query → Bool) {q : Query} (hq : q ∈ l) : bh ((l.filter P).map Query.Id) q.Id = P q := by
 rw [Bool.eq_iff_iff, yG, List.mem_map]
 constructor
 ·rintro ⟨r, hr, he⟩
  have hr := List.mem_filter.1 hr
  rw [← OO (Jx h) hr.1 hq he]; exact hr.2
 ·intro hp
  exact ⟨q, List.mem_filter.2 ⟨hq, hp⟩, rfl⟩
theorem OP {l : List Query} (h : b7 l = true) (P A : Query → Bool) : jM ((l.filter P).map Query.Id) ((l.filter A).map Query.Id) = (l.filter fun q => P q && A q).map Query.Id := by
 unfold jM
 rw [y7 h P, y7 h A, Bool.and_self, if_pos rfl, ← yI (y7 h P), List.filter_map, List.filter_filter]
 congr 1
 refine List.filter_congr fun q hq => ?_
 show (bh ((l.filter A).map Query.Id) q.Id && P q) = _
 rw [Jy h A hq, Bool.and_comm]
theorem Jz {l : List Query} {x : bS} {r : Row} (hl : b7 l = true) (hx : ∀ f : Int, 0 ≤ f → f ≤ 2 → x.Fields.getD f.toNat [] = df l f) (hv : ∀ f : Int, 0 ≤ f → f ≤ 2 → 0 ≤ fb r.Values f ∧ fb r.Values f ≤ 99) : ∀ (o : List Int) (P : Query → Bool) (s : List Int × Int), (∀ f ∈ o, 0 ≤ f ∧ f ≤ 2) → s.1 = (l.filter P).map Query.Id → (o.foldl (lB x r) s).1 = (l.filter fun q => P q && o.all fun f => f6 q f (fb r.Values f)).map Query.Id
 | [], P, s, _, hs => by rw [List.foldl_nil, hs]; simp
 | f :: o, P, s, ho, hs => by
  rw [List.foldl_cons]
  have hf := ho f (List.mem_cons_self ..)
  have hn : (lB x r s f).1 = (l.filter fun q => P q && f6 q f (fb r.Values f)).map Query.Id := by
   unfold lB
   split
   ·rename_i h0
    rw [h0] at hs
    rw [h0, eq_comm, List.map_eq_nil_iff, List.filter_eq_nil_iff]
    intro q hq hp
    rw [Bool.and_eq_true] at hp
    have : q.Id ∈ (l.filter P).map Query.Id := List.mem_map_of_mem (List.mem_filter.2 ⟨hq, hp.1⟩)
    rw [← hs] at this; cases this
   ·dsimp only
    rw [hs, hx f hf.1 hf.2, OM hl hf (hv f hf.1 hf.2)]
    exact OP hl P _
  rw [Jz hl hx hv o _ _ (fun g hg => ho g (List.mem_cons_of_mem _ hg)) hn]
  congr 1
  refine List.filter_congr fun q _ => ?_
  rw [List.all_cons, Bool.and_assoc]
theorem OQ {o : List Int} (h : bK o = true) : (0 : Int) ∈ o ∧ (1 : Int) ∈ o ∧ (2 : Int) ∈ o := by
 unfold bK at h
 simp only [Bool.and_eq_true, yG] at h
 exact h.2
theorem OR {r : Row} (h : bm r = true) {f : Int} (h0 : 0 ≤ f) (h2 : f ≤ 2) : 0 ≤ fb r.Values f ∧ fb r.Values f ≤ 99 := by
 have hl := nC h
 unfold bm at h
 simp only [Bool.and_eq_true] at h
 have hlt : f.toNat < r.Values.length := by omega
 have := List.all_eq_true.1 h.1 _ (List.getElem_mem hlt)
 unfold fb
 rw [cY hlt]
 exact uy.1 this
theorem OS {o : List Int} {q : Query} {r : Row} (ho : bK o = true) (hr : bm r = true) (hq : bI q = true) : (o.all fun f => f6 q f (fb r.Values f)) = eb q r := by
 rw [Bool.eq_iff_iff, List.all_eq_true]
 unfold eb
 rw [hr, hq, Bool.and_self, Bool.true_and, List.all_eq_true]
 constructor
 ·intro h c hc
  have hf := IA hq hc
  have hfo : c.Field ∈ o := by
   have := OQ ho
   have : c.Field = 0 ∨ c.Field = 1 ∨ c.Field = 2 := by omega
   rcases this with h | h | h <;> rw [h] <;> simp_all
  have := List.all_eq_true.1 (h _ hfo) c hc
  simpa [fI, ry] using this
 ·intro h f _
  unfold f6
  rw [List.all_eq_true]
  intro c hc
  have := h c hc
  unfold fI
  by_cases he : c.Field = f
  ·subst he; unfold ry at this; simp [this]
  ·simp [he]
theorem OT {l : List Query} {r : Row} {o : List Int} {q : Query} (hl : b7 l = true) (hr : bm r = true) (ho : bK o = true) (hq : q ∈ l) : bh (gV (eW l) r o).1 q.Id = eb q r := by
 have hb : eW l = ⟨l, [df l 0, df l 1, df l 2]⟩ := if_pos hl
 rw [hb]
 unfold gV
 rw [Jz (l := l) hl (fun f h0 h2 => by
  have : f = 0 ∨ f = 1 ∨ f = 2 := by omega
  rcases this with rfl | rfl | rfl <;> rfl) (fun f h0 h2 => OR hr h0 h2) o (fun _ => true) _ (uM ho).2 (by
   show l.map Query.Id = _
   rw [List.filter_eq_self.2 (fun _ _ => rfl)]), Jy hl _ hq, Bool.true_and, OS ho hr ((jl hl).2 q hq)]
end Go.Proofs.YtmekkgdboplbjaaGreat
