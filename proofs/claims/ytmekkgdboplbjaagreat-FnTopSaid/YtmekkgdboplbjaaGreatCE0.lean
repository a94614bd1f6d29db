/- Definitions and their laws. No condition. -/
import Derived.Test.YtmekkgdboplbjaaGreatCC0
import Derived.Test.YtmekkgdboplbjaaGreatProg
set_option linter.all false
namespace Go.Proofs.YtmekkgdboplbjaaGreat
open Go Go.RowKit M Tryz
set_option maxRecDepth 10000
section
section
variable {α : Type} {P : α → Bool} {xs ys : List α} {k : Nat}
def zw (h : (xs.take k).all P = true) (hk : k < xs.length) (hp : P xs[k] = true) : (xs.take (k + 1)).all P = true := by
 rw [cC hk, List.all_append, h]; simp [hp]
def kE (hk : k < xs.length) (hp : P xs[k] = false) : xs.all P = false := by
 rw [List.all_eq_false]; exact ⟨_, List.getElem_mem hk, by rw [hp]; simp⟩
def jr (h : (xs.take xs.length).all P = true) : xs.all P = true := by rwa [cj] at h
def qY (h : (xs.take k).any P = false) (hk : k < xs.length) (hp : P xs[k] = false) : (xs.take (k + 1)).any P = false := by
 rw [cC hk, List.any_append, h]; simp [hp]
def qZ (hk : k < xs.length) (hp : P xs[k] = true) : xs.any P = true := by
 rw [List.any_eq_true]; exact ⟨_, List.getElem_mem hk, hp⟩
def PY (h : (xs.take xs.length).any P = false) : xs.any P = false := by rwa [cj] at h
def ra (h : xs.take k = ys.take k) (hk : k < xs.length) (hk' : k < ys.length) (he : xs[k] = ys[k]) : xs.take (k + 1) = ys.take (k + 1) := by
 rw [cC hk, cC hk', h, he]
def VZ (hk : k < xs.length) (hk' : k < ys.length) (he : ¬ xs[k] = ys[k]) : ¬ xs = ys := by
 rintro rfl; exact he rfl
def tL (hl : xs.length = ys.length) (h : xs.take xs.length = ys.take xs.length) : xs = ys := by
 rw [cj] at h; rw [h, hl, cj]
def Wa {f : α → Nat} (hk : k < xs.length) : ((xs.take (k + 1)).map f).sum = ((xs.take k).map f).sum + f xs[k] := by
 rw [cC hk, bj, List.sum_append]; simp
def Wb {f : α → Nat} (xs : List α) (k : Nat) : ((xs.take k).map f).sum ≤ (xs.map f).sum := by
 have h : xs = xs.take k ++ xs.drop k := (fg _ _).symm
 have e : (xs.map f).sum = ((xs.take k).map f).sum + ((xs.drop k).map f).sum := by
  rw [← List.sum_append, ← bj, ← h]
 omega
def di {f : α → Nat} (hk : k < xs.length) : f xs[k] ≤ (xs.map f).sum := by
 have h1 := Wa (f := f) hk
 have h2 := Wb (f := f) xs (k + 1)
 omega
noncomputable def fA (x y : α) : Bool := @decide (x = y) (Classical.propDecidable _)
def rc {x y : α} (h : x = y) : fA x y = true := @decide_eq_true _ (Classical.propDecidable _) h
def tN {x y : α} (h : ¬ x = y) : fA x y = false := @decide_eq_false _ (Classical.propDecidable _) h
def fh {x y : α} : fA x y = true ↔ x = y := @decide_eq_true_iff _ (Classical.propDecidable _)
def lQ (x : α) : fA x x = true := rc rfl
end
def wm {us : List Value} (h : us.length = 1) : ∃ v0, us = [v0] := by
 rcases us with _ | ⟨v0, _ | ⟨v1, vs⟩⟩ <;> first | exact ⟨_, rfl⟩ | (simp at h; try omega)
def PZ {us : List Value} (h : us.length = 2) : ∃ v0 v1, us = [v0, v1] := by
 rcases us with _ | ⟨v0, _ | ⟨v1, _ | ⟨v2, vs⟩⟩⟩ <;> first | exact ⟨_, _, rfl⟩ | (simp at h; try omega)
def Ej {us : List Value} (h : us.length = 8) : ∃ v0 v1 v2 v3 v4 v5 v6 v7, us = [v0, v1, v2, v3, v4, v5, v6, v7] := by
 rcases us with _ | ⟨v0, _ | ⟨v1, _ | ⟨v2, _ | ⟨v3, _ | ⟨v4, _ | ⟨v5, _ | ⟨v6, _ | ⟨v7, _ | ⟨v8, vs⟩⟩⟩⟩⟩⟩⟩⟩⟩ <;> first | exact ⟨_, _, _, _, _, _, _, _, rfl⟩ | (simp at h; try omega)
def Qa {us : List Value} (h : us.length = 10) : ∃ v0 v1 v2 v3 v4 v5 v6 v7 v8 v9, us = [v0, v1, v2, v3, v4, v5, v6, v7, v8, v9] := by
 rcases us with _ | ⟨v0, _ | ⟨v1, _ | ⟨v2, _ | ⟨v3, _ | ⟨v4, _ | ⟨v5, _ | ⟨v6, _ | ⟨v7, _ | ⟨v8, _ | ⟨v9, _ | ⟨v10, vs⟩⟩⟩⟩⟩⟩⟩⟩⟩⟩⟩ <;> first | exact ⟨_, _, _, _, _, _, _, _, _, _, rfl⟩ | (simp at h; try omega)
def re (x : Int) : List PV := [PV.val (.int .u8 x)]
def Qb (x : Int) : Prop := 0 ≤ x ∧ x ≤ 255
def Wc (o0 : Fl) (x : List Int) : List PV := [PV.sl o0 (x.map re)]
def Wd (x : List Int) : Prop := ∀ y ∈ x, Qb y
def am (x : Int) : List PV := [PV.val (vI x)]
def bf (_x : Int) : Nat := 0
def nr (x : List Int) : Nat := x.length + (x.map bf).sum
structure gT where
 Field : Int
 Low : Int
 High : Int
def bH (x : gT) : List PV := [PV.val (vI x.Field), PV.val (vI x.Low), PV.val (vI x.High)]
def wn (x : gT) : Nat := bf x.Field + bf x.Low + bf x.High
structure br where
 Segment : Int
 Base : Int
 Ids : List Int
 aeF : List Int
 Rows : List Int
def bl (o0 o1 o2 : Fl) (x : br) : List PV := [PV.val (vI x.Segment), PV.val (vI x.Base), PV.sl o0 (x.Ids.map am), PV.sl o1 (x.aeF.map am), PV.sl o2 (x.Rows.map am)]
def ns (x : br) : Nat := bf x.Segment + bf x.Base + nr x.Ids + nr x.aeF + nr x.Rows
structure Row where
 Id : Int
 Values : List Int
def bI (o0 : Fl) (x : Row) : List PV := [PV.val (vI x.Id), PV.sl o0 (x.Values.map am)]
def fJ (x : Row) : Nat := bf x.Id + nr x.Values
def tO (x : List gT) : Nat := x.length + (x.map wn).sum
structure aR where
 Id : Int
 Values : List Int
 aeN : Int
 aeJ : Int
def eN (o0 : Fl) (x : aR) : List PV := [PV.val (vI x.Id), PV.sl o0 (x.Values.map am), PV.val (vI x.aeN), PV.val (vI x.aeJ)]
def cw (x : aR) : Nat := bf x.Id + nr x.Values + bf x.aeN + bf x.aeJ
structure aeA where
 Id : Int
 aeE : Int
 aeB : List gT
 Out : List Int
def ln (o0 o1 : Fl) (x : aeA) : List PV := [PV.val (vI x.Id), PV.val (vI x.aeE), PV.sl o0 (x.aeB.map bH), PV.sl o1 (x.Out.map am)]
def eZ (x : aeA) : Nat := bf x.Id + bf x.aeE + tO x.aeB + nr x.Out
def aG (o0 o1 : Fl) (x : List aR) : List PV := [PV.sl o0 (x.map (eN o1))]
def co (x : List aR) : Nat := x.length + (x.map cw).sum
def Qc (o0 o1 : Fl) (x : List Row) : List PV := [PV.sl o0 (x.map (bI o1))]
def dj (x : List Row) : Nat := x.length + (x.map fJ).sum
def fV (x : List br) : Nat := x.length + (x.map ns).sum
structure aeC where
 Kind : Int
 Row : Row
 Field : Int
 Value : Int
def lp (x : aeC) : Nat := bf x.Kind + fJ x.Row + bf x.Field + bf x.Value
structure fi where
 aeA : aeA
 Time : Int
 Steps : Int
 Rows : List Row
def bn (o0 o1 o2 o3 : Fl) (x : fi) : List PV := [PV.val (vI x.aeA.Id), PV.val (vI x.aeA.aeE), PV.sl o0 (x.aeA.aeB.map bH), PV.sl o1 (x.aeA.Out.map am), PV.val (vI x.Time), PV.val (vI x.Steps), PV.sl o2 (x.Rows.map (bI o3))]
def ia (x : fi) : Nat := eZ x.aeA + bf x.Time + bf x.Steps + dj x.Rows
def fW (x : List (List aR)) : Nat := x.length + (x.map co).sum
structure et where
 Kind : Int
 aeA : aeA
 Limit : Int
 Id : Int
 aeC : aeC
 Steps : Int
def zx (o0 o1 o2 : Fl) (x : et) : List PV := [PV.val (vI x.Kind), PV.val (vI x.aeA.Id), PV.val (vI x.aeA.aeE), PV.sl o0 (x.aeA.aeB.map bH), PV.sl o1 (x.aeA.Out.map am), PV.val (vI x.Limit), PV.val (vI x.Id), PV.val (vI x.aeC.Kind), PV.val (vI x.aeC.Row.Id), PV.sl o2 (x.aeC.Row.Values.map am), PV.val (vI x.aeC.Field), PV.val (vI x.aeC.Value), PV.val (vI x.Steps)]
def lr (x : et) : Nat := bf x.Kind + eZ x.aeA + bf x.Limit + bf x.Id + lp x.aeC + bf x.Steps
structure aez where
 aeA : aeA
 Time : Int
 aeI : List Int
 Age : Int
 Sent : Int
 Cap : Int
 Rows : List Row
def aT (o0 o1 o2 o3 o4 : Fl) (x : aez) : List PV := [PV.val (vI x.aeA.Id), PV.val (vI x.aeA.aeE), PV.sl o0 (x.aeA.aeB.map bH), PV.sl o1 (x.aeA.Out.map am), PV.val (vI x.Time), PV.sl o2 (x.aeI.map am), PV.val (vI x.Age), PV.val (vI x.Sent), PV.val (vI x.Cap), PV.sl o3 (x.Rows.map (bI o4))]
def dc (x : aez) : Nat := eZ x.aeA + bf x.Time + nr x.aeI + bf x.Age + bf x.Sent + bf x.Cap + dj x.Rows
def fB (x : List aez) : Nat := x.length + (x.map dc).sum
structure Store where
 aey : List (List aR)
 Now : Int
def cB (x : Store) : Nat := fW x.aey + bf x.Now
def zy (x : List et) : Nat := x.length + (x.map lr).sum
def fC (x : List fi) : Nat := x.length + (x.map ia).sum
structure aA where
 Store : Store
 aeD : Int
 Order : List Int
 aez : List aez
 Done : List fi
 aeL : List br
 Steps : Int
def bp (x : aA) : Nat := cB x.Store + bf x.aeD + nr x.Order + fB x.aez + fC x.Done + fV x.aeL + bf x.Steps
def zz (x : List aeA) : Nat := x.length + (x.map eZ).sum
structure eI where
 From : Int
 To : Int
 Set : List Int
def pF (o0 : Fl) (x : eI) : List PV := [PV.val (vI x.From), PV.val (vI x.To), PV.sl o0 (x.Set.map am)]
def Ek (o0 o1 : Fl) (x : List eI) : List PV := [PV.sl o0 (x.map (pF o1))]
structure jT where
 Queries : List aeA
 Fields : List (List eI)
def El (o0 o1 o2 o3 o4 o5 : Fl) (x : jT) : List PV := [PV.sl o0 (x.Queries.map (ln o1 o2)), PV.sl o3 (x.Fields.map (Ek o4 o5))]
def tP {α : Type} {xs : List α} {k : Nat} (hk : k < xs.length) : xs.take (k + 1) = xs.take k ++ [xs[k]] := cC hk
def df {α : Type} {l : List α} {d : α} {i : Nat} (h : i < l.length) : l[i] = l.getD i d := by simp [h]
def zA {α β : Type} {l : List α} {f : α → β} {k : Nat} (h : k < l.length) : (l.take (k + 1)).map f = (l.take k).map f ++ [f l[k]] := by
 rw [cC h, bj]; rfl
def Qd {a b : Int} : (a == b) = decide (a = b) := rfl
def dE (x : List Int) : nr x = x.length := by
 have h : ∀ l : List Int, (l.map bf).sum = 0 := by
  intro l
  induction l with
  | nil => rfl
  | cons a l ih => rw [List.map_cons, List.sum_cons, ih]; rfl
 simp [nr, h]
def bB (xs : List Int) (x : Int) : Bool := xs.any (fun y => y == x)
def aK (n l h : Int) : Bool := decide (l ≤ n) && decide (n ≤ h)
def jU (v : Int) : Bool := aK v 0 99
def cf (r : Row) : Bool := r.Values.all jU && (aK r.Id 0 999 && decide ((r.Values.length : Int) = 3))
def mG (l : List Row) : Bool := l.all cf && decide ((l.length : Int) ≤ 1000)
def We {x y : Row} : x = y ↔ x.Id = y.Id ∧ x.Values = y.Values := by cases x; cases y; simp_all
def dM (l : List Int) : Bool := (List.range l.length).all fun i => aK (l.getD i 0) 0 23 && (i == 0 || decide (l.getD (i - 1) 0 < l.getD i 0))
def wo (l : List Int) (k : Nat) : Bool := (List.range k).all fun i => aK (l.getD i 0) 0 23 && (i == 0 || decide (l.getD (i - 1) 0 < l.getD i 0))
def Wf {l : List Int} {k : Nat} : wo l (k + 1) = (wo l k && (aK (l.getD k 0) 0 23 && (k == 0 || decide (l.getD (k - 1) 0 < l.getD k 0)))) := by
 simp [wo, List.range_succ]
def Wg {l : List Int} {k : Nat} (hk : k < l.length) (h : (aK (l.getD k 0) 0 23 && (k == 0 || decide (l.getD (k - 1) 0 < l.getD k 0))) = false) : dM l = false := by
 cases hs : dM l with
 | false => rfl
 | true =>
  have := List.all_eq_true.1 hs k (List.mem_range.2 hk)
  rw [h] at this; cases this
def zB {l : List Int} {k : Nat} : (aK (l.getD k 0) 0 23 && (k == 0 || decide (l.getD (k - 1) 0 < l.getD k 0))) = true ↔ (0 ≤ l.getD k 0 ∧ l.getD k 0 ≤ 23 ∧ (k = 0 ∨ l.getD (k - 1) 0 < l.getD k 0)) := by
 simp [aK, and_assoc]
def mH (q : Int → Bool) (k : Nat) : List Int := ((List.range k).map fun i : Nat => (i : Int)).filter q
def Wh {q : Int → Bool} {k : Nat} : mH q (k + 1) = mH q k ++ if q k then [(k : Int)] else [] := by
 simp only [mH, List.range_succ, bj, dV, List.map_cons, List.map_nil, List.filter_cons, List.filter_nil]
def Qe (q : Int → Bool) (k : Nat) : (mH q k).length ≤ k := by
 have := gP q ((List.range k).map fun i : Nat => (i : Int))
 simpa [mH] using this
def oB (a b : List Int) : List Int := if dM a && dM b then mH (fun x => bB a x && bB b x) 24 else []
def Em {l : List Int} {x : Int} : bB l x = true ↔ x ∈ l := by simp [bB]
def En {l : List Int} (h : dM l = true) {k : Nat} (hk : k < l.length) : 0 ≤ l[k] ∧ l[k] ≤ 23 ∧ (k = 0 ∨ l.getD (k - 1) 0 < l[k]) := by
 have := zB.1 (List.all_eq_true.1 h k (List.mem_range.2 hk))
 rwa [show l.getD k 0 = l[k] by simp [hk]] at this
def Qf {l : List Int} (h : dM l = true) : ∀ (j i : Nat) (hj : j < l.length) (hi : i < j), l[i] < l[j]
 | 0, i, _, hi => by omega
 | j + 1, i, hj, hi => by
  have h1 := (En h hj).2.2
  have e : l.getD (j + 1 - 1) 0 = l[j] := by simp [show j < l.length by omega]
  rw [e] at h1
  rcases Nat.lt_or_ge i j with h2 | h2
  ·have := Qf h j i (by omega) h2
   omega
  ·have : i = j := by omega
   subst this
   omega
def Wi {l : List Int} (h : dM l = true) : l.Pairwise (· < ·) := by
 rw [List.pairwise_iff_getElem]
 intro i j hi hj hij
 exact Qf h j i hj hij
def Qg {m : Int} : ∀ {l : List Int}, l.Pairwise (· < ·) → l.filter (fun x => decide (x < m + 1)) = l.filter (fun x => decide (x < m)) ++ (if bB l m then [m] else [])
 | [], _ => by simp [bB]
 | x :: l, h => by
  rw [List.pairwise_cons] at h
  have ih := Qg (m := m) h.2
  have hhx : bB (x :: l) m = (x == m || bB l m) := by simp [bB]
  by_cases h1 : x < m
  ·have e1 : decide (x < m + 1) = true := by simp; omega
   have e2 : decide (x < m) = true := by simpa using h1
   rw [List.filter_cons, List.filter_cons, if_pos e1, if_pos e2, ih, hhx, show (x == m) = false by simp; omega, Bool.false_or]
   rfl
  ·have hl : l.filter (fun x => decide (x < m)) = [] := by
    rw [List.filter_eq_nil_iff]; intro y hy; have := h.1 y hy; simp; omega
   have hl1 : l.filter (fun x => decide (x < m + 1)) = [] := by
    rw [List.filter_eq_nil_iff]; intro y hy; have := h.1 y hy; simp; omega
   have hm : bB l m = false := by
    cases hc : bB l m with
    | false => rfl
    | true => have := h.1 m (Em.1 hc); omega
   have e2 : ¬ decide (x < m) = true := by simpa using h1
   by_cases h2 : x = m
   ·have e1 : decide (x < m + 1) = true := by simp; omega
    rw [List.filter_cons, List.filter_cons, if_pos e1, if_neg e2, hl, hl1, hhx, hm, show (x == m) = true by simpa using h2]
    simp [h2]
   ·have e1 : ¬ decide (x < m + 1) = true := by simp; omega
    rw [List.filter_cons, List.filter_cons, if_neg e1, if_neg e2, hl, hl1, hhx, hm, show (x == m) = false by simpa using h2]
    simp
def Qh {l : List Int} (h : dM l = true) : ∀ m : Nat, mH (fun x => bB l x) m = l.filter (fun x => decide (x < (m : Int)))
 | 0 => by
  rw [show mH (fun x => bB l x) 0 = [] from rfl, eq_comm, List.filter_eq_nil_iff]
  intro y hy
  obtain ⟨k, hk, rfl⟩ := List.mem_iff_getElem.1 hy
  have := (En h hk).1
  simp; omega
 | m + 1 => by
  rw [Wh, Qh h m]
  have := Qg (m := (m : Int)) (Wi h)
  rw [show ((m + 1 : Nat) : Int) = (m : Int) + 1 by omega, this]
def Qi {l : List Int} (h : dM l = true) : mH (fun x => bB l x) 24 = l := by
 rw [Qh h, List.filter_eq_self]
 intro y hy
 obtain ⟨k, hk, rfl⟩ := List.mem_iff_getElem.1 hy
 have := (En h hk).2.1
 simp; omega
def Wj {l : List Int} (h : dM l = true) : l.length ≤ 24 := by
 have := Qe (fun x => bB l x) 24
 rwa [Qi h] at this
def Eo {a b : List Int} (h : dM a = true) : a.filter (fun x => bB b x) = mH (fun x => bB a x && bB b x) 24 := by
 conv => lhs; rw [← Qi h]
 simp only [mH, List.filter_filter]
 congr 1
 funext x
 exact Bool.and_comm _ _
def Wk {a b : List Int} {k : Nat} (hk : 0 < k → (dM a && dM b) = true) (h : (k = a.length ∧ (dM a && dM b) = true) ∨ (k = 0 ∧ (a.length = 0 ∨ (dM a && dM b) = false))) : (a.take k).filter (fun x => bB b x) = oB a b := by
 unfold oB
 rcases h with ⟨rfl, h⟩ | ⟨rfl, h⟩
 ·rw [cj, if_pos h]
  rw [aS] at h
  exact Eo h.1
 ·split
  ·rename_i h2
   rcases h with h | h
   ·have : a = [] := iJ h
    subst this
    rw [aS] at h2
    rw [← Eo h2.1]; simp
   ·rw [h] at h2; cases h2
  ·simp
def Wl (a b : List Int) : (oB a b).length ≤ 24 := by
 unfold oB
 split
 ·exact Qe _ _
 ·simp
def jV {α : Type} (d : α) (p : α → Bool) (r : α → α → Bool) (l : List α) (k : Nat) : Bool := (List.range k).all fun i => p (l.getD i d) && (i == 0 || r (l.getD (i - 1) d) (l.getD i d))
def dG {α : Type} (d : α) (p : α → Bool) (r : α → α → Bool) (l : List α) : Bool := jV d p r l l.length
def wq {α : Type} {d : α} {p : α → Bool} {r : α → α → Bool} {l : List α} {k : Nat} : jV d p r l (k + 1) = (jV d p r l k && (p (l.getD k d) && (k == 0 || r (l.getD (k - 1) d) (l.getD k d)))) := by
 simp [jV, List.range_succ]
def iz {α : Type} {d : α} {p : α → Bool} {r : α → α → Bool} {l : List α} {k : Nat} : (p (l.getD k d) && (k == 0 || r (l.getD (k - 1) d) (l.getD k d))) = true ↔ (p (l.getD k d) = true ∧ (k = 0 ∨ r (l.getD (k - 1) d) (l.getD k d) = true)) := by
 simp
def pG {α : Type} {d : α} {p : α → Bool} {r : α → α → Bool} {l : List α} {k : Nat} (hk : k < l.length) (h : (p (l.getD k d) && (k == 0 || r (l.getD (k - 1) d) (l.getD k d))) = false) : dG d p r l = false := by
 cases hs : dG d p r l with
 | false => rfl
 | true =>
  have := List.all_eq_true.1 hs k (List.mem_range.2 hk)
  rw [h] at this; cases this
def pH {α : Type} {d : α} {p : α → Bool} {r : α → α → Bool} {l : List α} {k : Nat} (h : jV d p r l k = true) (hk : k = l.length) : dG d p r l = true := by subst hk; exact h
def eO {α : Type} {d : α} {l : List α} {k : Nat} (h : k < l.length) : l.getD k d = l[k] := by simp [h]
def kF (c : gT) : Bool := aK c.Field 0 2 && (decide (0 ≤ c.Low) && (decide (c.Low ≤ c.High) && decide (c.High ≤ 99)))
def lR (a b : gT) : Bool := decide (a.Field < b.Field)
def ls (l : List gT) : Bool := dG ⟨0, 0, 0⟩ kF lR l
def jW (v : Int) : Bool := aK v 0 2
def lS (l : List Int) : Bool := l.all jW && aK l.length 1 3
def ck (q : aeA) : Bool := (aK q.Id 0 23 && (aK q.aeE 0 3 && decide ((q.aeB.length : Int) ≤ 3))) && (ls q.aeB && lS q.Out)
def rf (r : Row) : Bool := aK r.Id 0 999 && decide (r.Values.length = 0)
def gF (u : aeC) : Bool :=
 if u.Kind = 1 then cf u.Row && (decide (u.Field = 0) && decide (u.Value = 0))
 else if u.Kind = 2 then rf u.Row && (decide (u.Field = 0) && decide (u.Value = 0))
 else if u.Kind = 3 then rf u.Row && (aK u.Field 0 2 && aK u.Value 0 99) else false
def Ep {α : Type} {x y : α} : fA x y = false ↔ ¬ x = y := ⟨fun h e => (by rw [rc e] at h; simp at h), tN⟩
def Wm {x y : gT} : x = y ↔ x.Field = y.Field ∧ x.Low = y.Low ∧ x.High = y.High := by cases x; cases y; simp [gT.mk.injEq]
def Qj {x y : aeA} : x = y ↔ x.Id = y.Id ∧ x.aeE = y.aeE ∧ x.aeB = y.aeB ∧ x.Out = y.Out := by cases x; cases y; simp [aeA.mk.injEq]
def Wn {x y : aeC} : x = y ↔ x.Kind = y.Kind ∧ x.Row = y.Row ∧ x.Field = y.Field ∧ x.Value = y.Value := by cases x; cases y; simp [aeC.mk.injEq]
def lT (q : aeA) : Bool := decide (q.Id = 0) && (decide (q.aeE = 0) && (decide (q.aeB.length = 0) && decide (q.Out.length = 0)))
def lU (u : aeC) : Bool := decide (u.Kind = 0) && (decide (u.Row.Id = 0) && (decide (u.Row.Values.length = 0) && (decide (u.Field = 0) && decide (u.Value = 0))))
def zC (q : aeA) : fA q ⟨0, 0, [], []⟩ = lT q := by
 rw [Bool.eq_iff_iff, fh]; cases q; simp [lT, List.length_eq_zero_iff]
def zD (u : aeC) : fA u ⟨0, ⟨0, []⟩, 0, 0⟩ = lU u := by
 rw [Bool.eq_iff_iff, fh]; rcases u with ⟨a, ⟨b, c⟩, d, e⟩; simp [lU, List.length_eq_zero_iff, and_assoc]
def fp (x : et) : Bool :=
 if x.Kind = 1 then ck x.aeA && (aK x.Limit 0 32 && (decide (x.Id = 0) && (lU x.aeC && decide (x.Steps = 0))))
 else if x.Kind = 2 then lT x.aeA && (decide (x.Limit = 0) && (aK x.Id 0 23 && (lU x.aeC && decide (x.Steps = 0))))
 else if x.Kind = 3 then lT x.aeA && (decide (x.Limit = 0) && (decide (x.Id = 0) && (gF x.aeC && decide (x.Steps = 0))))
 else if x.Kind = 4 then lT x.aeA && (decide (x.Limit = 0) && (decide (x.Id = 0) && (lU x.aeC && aK x.Steps 1 100)))
 else false
def oC {n l h : Int} : aK n l h = true ↔ l ≤ n ∧ n ≤ h := by simp [aK]
def Er {α : Type} {l : List α} {d : α} {i : Nat} (h : i < l.length) : l[i] = l.getD i d := by simp [h]
def gU (l : List Int) (f : Int) : Int := l.getD f.toNat 0
def lV (r : Row) (c : gT) : Bool := aK (gU r.Values c.Field) c.Low c.High
def dN (q : aeA) (r : Row) : Bool := (cf r && ck q) && q.aeB.all (lV r)
def iA (f v : Int) (c : gT) : Bool := !(c.Field == f) || aK v c.Low c.High
def iU (q : aeA) (f v : Int) : Bool := q.aeB.all (iA f v)
def rg {r : Row} (h : cf r = true) : r.Values.length = 3 := by simp [cf, aK] at h; omega
def wt {α : Type} {d : α} {p : α → Bool} {r : α → α → Bool} {l : List α} (h : dG d p r l = true) {k : Nat} (hk : k < l.length) : p l[k] = true := by
 have := List.all_eq_true.1 h k (List.mem_range.2 hk)
 rw [aS, eO hk] at this
 exact this.1
def Es {q : aeA} (h : ck q = true) {c : gT} (hc : c ∈ q.aeB) : 0 ≤ c.Field ∧ c.Field ≤ 2 := by
 obtain ⟨k, hk, rfl⟩ := List.mem_iff_getElem.1 hc
 unfold ck ls at h
 simp only [aS] at h
 have := wt h.2.1 hk
 simp [kF, aK] at this
 omega
def Wo {q : aeA} {r : Row} (hq : ck q = true) (hr : cf r = true) (h : ∀ i : Nat, i < r.Values.length → iU q (i : Int) (r.Values.getD i 0) = true) : dN q r = true := by
 unfold dN
 rw [hr, hq, Bool.and_self, Bool.true_and, iI]
 intro c hc
 have hf := Es hq hc
 have hl := rg hr
 have := List.all_eq_true.1 (h c.Field.toNat (by omega)) c hc
 unfold iA at this
 rw [Int.toNat_of_nonneg hf.1] at this
 simpa [lV, gU] using this
def Wp {q : aeA} {r : Row} {i : Nat} (h : iU q (i : Int) (r.Values.getD i 0) = false) : dN q r = false := by
 rw [← Bool.not_eq_true]
 intro hm
 unfold dN at hm
 rw [aS, iI] at hm
 have : iU q (i : Int) (r.Values.getD i 0) = true := by
  unfold iU
  rw [iI]
  intro c hc
  unfold iA
  by_cases he : c.Field = (i : Int)
  ·have := hm.2 c hc
   simp only [lV, gU, he, Int.toNat_natCast] at this
   rw [this, Bool.or_true]
  ·simp [he]
 rw [h] at this; cases this
def Wq {x y : aR} : x = y ↔ x.Id = y.Id ∧ x.Values = y.Values ∧ x.aeN = y.aeN ∧ x.aeJ = y.aeJ := by cases x; cases y; simp
def Wr {x y : br} : x = y ↔ x.Segment = y.Segment ∧ x.Base = y.Base ∧ x.Ids = y.Ids ∧ x.aeF = y.aeF ∧ x.Rows = y.Rows := by cases x; cases y; simp
def Ws {x y : aez} : x = y ↔ x.aeA = y.aeA ∧ x.Time = y.Time ∧ x.aeI = y.aeI ∧ x.Age = y.Age ∧ x.Sent = y.Sent ∧ x.Cap = y.Cap ∧ x.Rows = y.Rows := by cases x; cases y; simp
def Wt {x y : fi} : x = y ↔ x.aeA = y.aeA ∧ x.Time = y.Time ∧ x.Steps = y.Steps ∧ x.Rows = y.Rows := by cases x; cases y; simp
def Wu {x y : Store} : x = y ↔ x.aey = y.aey ∧ x.Now = y.Now := by cases x; cases y; simp
def Wv {x y : aA} : x = y ↔ x.Store = y.Store ∧ x.aeD = y.aeD ∧ x.Order = y.Order ∧ x.aez = y.aez ∧ x.Done = y.Done ∧ x.aeL = y.aeL ∧ x.Steps = y.Steps := by cases x; cases y; simp
def zE {α : Type} {a b : α} : fA a b = false ↔ ¬ a = b := by rw [← Bool.not_eq_true, fh]
end
end Go.Proofs.YtmekkgdboplbjaaGreat
namespace Go.Proofs.YtmekkgdboplbjaaGreat
open Go Go.RowKit M Tryz
set_option maxRecDepth 10000
def cG : prog.follows .mixedOrders = true := by kernel_rfl
def Et : aH prog 101 = true := by kernel_rfl
def Qk : aH prog 107 = true := by kernel_rfl
def oD : aH prog 144 = true := by kernel_rfl
def zF : aH prog 160 = true := by kernel_rfl
def Ww : aH prog 164 = true := by kernel_rfl
def Wx : aH prog 165 = true := by kernel_rfl
def wu : aH prog 166 = true := by kernel_rfl
def Eu : aH prog 167 = true := by kernel_rfl
def Ev : aH prog 174 = true := by kernel_rfl
def Wy : aH prog 187 = true := by kernel_rfl
def Wz : aH prog 188 = true := by kernel_rfl
def Ql : aH prog 189 = true := by kernel_rfl
def WA : aH prog 192 = true := by kernel_rfl
def WB : aH prog 193 = true := by kernel_rfl
def Qm : aH prog 194 = true := by kernel_rfl
def WC : aH prog 199 = true := by kernel_rfl
def Ew : aH prog 200 = true := by kernel_rfl
def WD : aH prog 201 = true := by kernel_rfl
def WE : aH prog 202 = true := by kernel_rfl
def WF : aH prog 255 = true := by kernel_rfl
def Qn : aH prog 256 = true := by kernel_rfl
def WG : aH prog 257 = true := by kernel_rfl
def WH : aH prog 270 = true := by kernel_rfl
def rh : aH prog 56 = true := by kernel_rfl
def fX : aH prog 65 = true := by kernel_rfl
def tQ : aH prog 67 = true := by kernel_rfl
def Ex : aH prog 92 = true := by kernel_rfl
def WI : aH prog 95 = true := by kernel_rfl
def kG : aH prog 98 = true := by kernel_rfl
def gV : bO prog 108 0 = some 0 := by kernel_rfl
def pI : bO prog 108 1 = some 4 := by kernel_rfl
def jt : bO prog 108 2 = some 5 := by kernel_rfl
def ju : bO prog 108 3 = some 6 := by kernel_rfl
def mI : bO prog 108 4 = some 7 := by kernel_rfl
def ri : bO prog 108 5 = some 8 := by kernel_rfl
def oE : bO prog 108 6 = some 9 := by kernel_rfl
def oF : bO prog 178 0 = some 0 := by kernel_rfl
def zG : bO prog 178 1 = some 1 := by kernel_rfl
def rj : bO prog 178 2 = some 2 := by kernel_rfl
def nt : bO prog 184 0 = some 0 := by kernel_rfl
def lu : bO prog 184 1 = some 1 := by kernel_rfl
def kH : bO prog 184 2 = some 2 := by kernel_rfl
def iB : bO prog 184 3 = some 3 := by kernel_rfl
def jX : bO prog 26 0 = some 0 := by kernel_rfl
def fK : bO prog 26 1 = some 1 := by kernel_rfl
def gG : bO prog 32 0 = some 0 := by kernel_rfl
def mJ : bO prog 32 1 = some 2 := by kernel_rfl
def wv : bO prog 32 2 = some 3 := by kernel_rfl
def ee : bO prog 32 3 = some 4 := by kernel_rfl
def jY : bO prog 32 4 = some 5 := by kernel_rfl
def iV : bO prog 32 5 = some 6 := by kernel_rfl
def lv : bO prog 32 6 = some 7 := by kernel_rfl
def ib : bO prog 52 0 = some 0 := by kernel_rfl
def rm : bO prog 52 1 = some 1 := by kernel_rfl
def lW : bO prog 52 2 = some 2 := by kernel_rfl
def pJ : bO prog 52 3 = some 3 := by kernel_rfl
def jZ : bO prog 54 0 = some 0 := by kernel_rfl
def jv : bO prog 54 1 = some 1 := by kernel_rfl
def tR : bO prog 56 0 = some 0 := by kernel_rfl
def ic : bO prog 56 1 = some 1 := by kernel_rfl
def ww : bO prog 56 2 = some 3 := by kernel_rfl
def pK : bO prog 56 3 = some 4 := by kernel_rfl
def Qo : bO prog 58 0 = some 0 := by kernel_rfl
def Ey : bO prog 58 1 = some 1 := by kernel_rfl
def oG : bO prog 58 2 = some 5 := by kernel_rfl
def oH : bO prog 58 3 = some 6 := by kernel_rfl
def wx : bO prog 58 4 = some 7 := by kernel_rfl
def pL : bO prog 58 5 = some 12 := by kernel_rfl
def wy : bO prog 63 0 = some 0 := by kernel_rfl
def Qp : bO prog 63 1 = some 4 := by kernel_rfl
def Ez : bO prog 63 2 = some 5 := by kernel_rfl
def rn : bO prog 63 3 = some 6 := by kernel_rfl
def wz : bO prog 70 0 = some 0 := by kernel_rfl
def nu : bO prog 70 1 = some 1 := by kernel_rfl
def lX : bO prog 70 2 = some 2 := by kernel_rfl
def lY : bO prog 70 3 = some 3 := by kernel_rfl
def kb : bO prog 70 4 = some 4 := by kernel_rfl
def WJ : dY prog 52 = some [(0, 1), (1, 1), (2, 1), (3, 1)] := by kernel_rfl
def Qq : dY prog 54 = some [(0, 1), (1, 1)] := by kernel_rfl
def WK : dY prog 56 = some [(0, 1), (1, 2), (3, 1), (4, 1)] := by kernel_rfl
def Qr (x y : Nat) (a0 a1 a2 b0 b1 b2 : Int) (w : World) : Sem.run prog (do eqGuard .neq 178 (.tmp x) (.tmp y) (.agg #[vI a0, vI a1, vI a2]) (.agg #[vI b0, vI b1, vI b2]); binOp .neq 178 (.agg #[vI a0, vI a1, vI a2]) (.agg #[vI b0, vI b1, vI b2]) : Sem Value) w = .ok (.bool (!(a0 == b0 && a1 == b1 && a2 == b2))) w := by
 have hS : prog.underlying 178 = some (.struct (prog.fieldsOf 178)) := by kernel_rfl
 have hp : prog.stoodInHeld 178 = false := by kernel_rfl
 have hm : prog.eqGuardType prog.depth 178 = false := by kernel_rfl
 have hU := Tryz.underlying178
 have u3 := Tryz.underlying3
 have a3_ := Tryz.isAgg3
 have z3 := Tryz.sizeOf3
 rw [Sem.run_bind, run_eqGuard_agg w _ _ _ _ _ _ hm, Result.andThen_ok, run_neq_struct]
 rw [show (10000 : Nat) = 9999 + 1 from rfl, run_equalIn_agg w 9999 178 _ _ hS hp]
 simp only [Program.fieldsOf, hU]
 go_simp
 by_cases h0 : a0 = b0 <;> by_cases h1 : a1 = b1 <;> by_cases h2 : a2 = b2 <;> simp_all
def cy : eC prog 139 = some (184, 4, 48) := by kernel_rfl
def tS : eC prog 22 = some (5, 1, 1) := by kernel_rfl
def eP : eC prog 24 = some (139, 1, 24) := by kernel_rfl
def bC : eC prog 27 = some (3, 1, 8) := by kernel_rfl
def cg : eC prog 28 = some (108, 10, 144) := by kernel_rfl
def jw : eC prog 29 = some (63, 7, 104) := by kernel_rfl
def fL : eC prog 30 = some (70, 5, 88) := by kernel_rfl
def pM : eC prog 45 = some (58, 13, 152) := by kernel_rfl
def gH : eC prog 50 = some (178, 3, 24) := by kernel_rfl
def fD : eC prog 59 = some (54, 2, 32) := by kernel_rfl
def gv : cO prog 108 = some (true, 10) := by kernel_rfl
def ie : cO prog 139 = some (false, 1) := by kernel_rfl
def pN : cO prog 178 = some (true, 3) := by kernel_rfl
def fq : cO prog 184 = some (true, 4) := by kernel_rfl
def kc : cO prog 24 = some (false, 1) := by kernel_rfl
def cW : cO prog 26 = some (true, 2) := by kernel_rfl
def bF : cO prog 27 = some (false, 1) := by kernel_rfl
def dR : cO prog 28 = some (false, 1) := by kernel_rfl
def kd : cO prog 29 = some (false, 1) := by kernel_rfl
def az : cO prog 3 = some (false, 1) := by kernel_rfl
def iW : cO prog 30 = some (false, 1) := by kernel_rfl
def bU : cO prog 32 = some (true, 8) := by kernel_rfl
def lZ : cO prog 50 = some (false, 1) := by kernel_rfl
def eQ : cO prog 52 = some (true, 4) := by kernel_rfl
def fj : cO prog 54 = some (true, 2) := by kernel_rfl
def ma : cO prog 56 = some (true, 5) := by kernel_rfl
def tT : cO prog 58 = some (true, 13) := by kernel_rfl
def jx : cO prog 59 = some (false, 1) := by kernel_rfl
def ro : cO prog 63 = some (true, 7) := by kernel_rfl
def iX : cO prog 70 = some (true, 5) := by kernel_rfl
def gI : eU prog 108 = some (.agg #[.int .i64 0, .int .i64 0, .slice none 0 0, .slice none 0 0, .int .i64 0, .slice none 0 0, .int .i64 0, .int .i64 0, .int .i64 0, .slice none 0 0]) := by kernel_rfl
def zH : eU prog 139 = some (.slice none 0 0) := by kernel_rfl
def pO : eU prog 178 = some (.agg #[.int .i64 0, .int .i64 0, .int .i64 0]) := by kernel_rfl
def fE : eU prog 184 = some (.agg #[.int .i64 0, .slice none 0 0, .int .i64 0, .int .i64 0]) := by kernel_rfl
def oI : eU prog 26 = some (.agg #[.slice none 0 0, .int .i64 0]) := by kernel_rfl
def eg : eU prog 3 = some (.int .i64 0) := by kernel_rfl
def kI : eU prog 32 = some (.agg #[.slice none 0 0, .int .i64 0, .int .i64 0, .slice none 0 0, .slice none 0 0, .slice none 0 0, .slice none 0 0, .int .i64 0]) := by kernel_rfl
def kJ : eU prog 52 = some (.agg #[.int .i64 0, .int .i64 0, .slice none 0 0, .slice none 0 0]) := by kernel_rfl
def gJ : eU prog 54 = some (.agg #[.int .i64 0, .slice none 0 0]) := by kernel_rfl
def zI : eU prog 56 = some (.agg #[.int .i64 0, .int .i64 0, .slice none 0 0, .int .i64 0, .int .i64 0]) := by kernel_rfl
def rp : eU prog 58 = some (.agg #[.int .i64 0, .int .i64 0, .int .i64 0, .slice none 0 0, .slice none 0 0, .int .i64 0, .int .i64 0, .int .i64 0, .int .i64 0, .slice none 0 0, .int .i64 0, .int .i64 0, .int .i64 0]) := by kernel_rfl
def nw : eU prog 63 = some (.agg #[.int .i64 0, .int .i64 0, .slice none 0 0, .slice none 0 0, .int .i64 0, .int .i64 0, .slice none 0 0]) := by kernel_rfl
def kf : eU prog 70 = some (.agg #[.int .i64 0, .int .i64 0, .slice none 0 0, .slice none 0 0, .slice none 0 0]) := by kernel_rfl
def rq {Fz : ay} {w : World} : aL [PV.val (.int .i64 0), PV.val (.int .i64 0), PV.sl aD [], PV.sl ab [], PV.val (.int .i64 0), PV.sl ab [], PV.val (.int .i64 0), PV.val (.int .i64 0), PV.val (.int .i64 0), PV.sl aE []] Fz w (Value.cells (.agg #[.int .i64 0, .int .i64 0, .slice none 0 0, .slice none 0 0, .int .i64 0, .slice none 0 0, .int .i64 0, .int .i64 0, .int .i64 0, .slice none 0 0])).toList [] := cU rfl (cU rfl (eW (eW (cU rfl (eW (cU rfl (cU rfl (cU rfl (eW (ky))))))))))
def Qs {Fz : ay} {w : World} : aL [PV.val (.int .i64 0), PV.val (.int .i64 0), PV.val (.int .i64 0)] Fz w (Value.cells (.agg #[.int .i64 0, .int .i64 0, .int .i64 0])).toList [] := cU rfl (cU rfl (cU rfl (ky)))
def ny {Fz : ay} {w : World} : aL [PV.val (.int .i64 0), PV.sl ab [], PV.val (.int .i64 0), PV.val (.int .i64 0)] Fz w (Value.cells (.agg #[.int .i64 0, .slice none 0 0, .int .i64 0, .int .i64 0])).toList [] := cU rfl (eW (cU rfl (cU rfl (ky))))
def oJ {Fz : ay} {w : World} : aL [PV.sl bz [], PV.val (.int .i64 0)] Fz w (Value.cells (.agg #[.slice none 0 0, .int .i64 0])).toList [] := eW (cU rfl (ky))
def kK {Fz : ay} {w : World} : aL [PV.sl bz [], PV.val (.int .i64 0), PV.val (.int .i64 0), PV.sl ab [], PV.sl ce [], PV.sl bT [], PV.sl bY [], PV.val (.int .i64 0)] Fz w (Value.cells (.agg #[.slice none 0 0, .int .i64 0, .int .i64 0, .slice none 0 0, .slice none 0 0, .slice none 0 0, .slice none 0 0, .int .i64 0])).toList [] := eW (cU rfl (cU rfl (eW (eW (eW (eW (cU rfl (ky))))))))
def oK {Fz : ay} {w : World} : aL [PV.val (.int .i64 0), PV.val (.int .i64 0), PV.sl aD [], PV.sl ab []] Fz w (Value.cells (.agg #[.int .i64 0, .int .i64 0, .slice none 0 0, .slice none 0 0])).toList [] := cU rfl (cU rfl (eW (eW (ky))))
def mb {Fz : ay} {w : World} : aL [PV.val (.int .i64 0), PV.sl ab []] Fz w (Value.cells (.agg #[.int .i64 0, .slice none 0 0])).toList [] := cU rfl (eW (ky))
def zJ {Fz : ay} {w : World} : aL [PV.val (.int .i64 0), PV.val (.int .i64 0), PV.sl ab [], PV.val (.int .i64 0), PV.val (.int .i64 0)] Fz w (Value.cells (.agg #[.int .i64 0, .int .i64 0, .slice none 0 0, .int .i64 0, .int .i64 0])).toList [] := cU rfl (cU rfl (eW (cU rfl (cU rfl (ky)))))
def zK {Fz : ay} {w : World} : aL [PV.val (.int .i64 0), PV.val (.int .i64 0), PV.val (.int .i64 0), PV.sl aD [], PV.sl ab [], PV.val (.int .i64 0), PV.val (.int .i64 0), PV.val (.int .i64 0), PV.val (.int .i64 0), PV.sl ab [], PV.val (.int .i64 0), PV.val (.int .i64 0), PV.val (.int .i64 0)] Fz w (Value.cells (.agg #[.int .i64 0, .int .i64 0, .int .i64 0, .slice none 0 0, .slice none 0 0, .int .i64 0, .int .i64 0, .int .i64 0, .int .i64 0, .slice none 0 0, .int .i64 0, .int .i64 0, .int .i64 0])).toList [] := cU rfl (cU rfl (cU rfl (eW (eW (cU rfl (cU rfl (cU rfl (cU rfl (eW (cU rfl (cU rfl (cU rfl (ky)))))))))))))
def zL {Fz : ay} {w : World} : aL [PV.val (.int .i64 0), PV.val (.int .i64 0), PV.sl aD [], PV.sl ab [], PV.val (.int .i64 0), PV.val (.int .i64 0), PV.sl aE []] Fz w (Value.cells (.agg #[.int .i64 0, .int .i64 0, .slice none 0 0, .slice none 0 0, .int .i64 0, .int .i64 0, .slice none 0 0])).toList [] := cU rfl (cU rfl (eW (eW (cU rfl (cU rfl (eW (ky)))))))
def rr {Fz : ay} {w : World} : aL [PV.val (.int .i64 0), PV.val (.int .i64 0), PV.sl ab [], PV.sl ab [], PV.sl ab []] Fz w (Value.cells (.agg #[.int .i64 0, .int .i64 0, .slice none 0 0, .slice none 0 0, .slice none 0 0])).toList [] := cU rfl (cU rfl (eW (eW (eW (ky)))))
end Go.Proofs.YtmekkgdboplbjaaGreat
namespace Go.Proofs.YtmekkgdboplbjaaGreat
open Go Go.RowKit M Tryz
set_option maxRecDepth 10000
def tU : aeA := ⟨0, 0, [], []⟩
def kL : eI := ⟨0, 0, []⟩
def rt (a b : aeA) : Bool := decide (a.Id < b.Id)
def dK (l : List aeA) : Bool := dG tU ck rt l && decide ((l.length : Int) ≤ 24)
def pP {l : List aeA} (h : dK l = true) : l.length ≤ 24 ∧ ∀ q ∈ l, ck q = true := by
 unfold dK at h
 rw [aS] at h
 refine ⟨by have := of_decide_eq_true h.2; omega, fun q hq => ?_⟩
 obtain ⟨k, hk, rfl⟩ := List.mem_iff_getElem.1 hq
 exact wt h.1 hk
def WL {q : aeA} (h : ck q = true) : q.aeB.length ≤ 3 ∧ q.Out.length ≤ 3 := by
 unfold ck lS at h
 simp only [aS, aK, decide_eq_true_eq] at h
 omega
def fY (l : List aeA) (f v : Int) : List Int := (l.filter fun q => iU q f v).map aeA.Id
def zM (l : List aeA) (f v : Int) : List Int := if dK l && (aK f 0 2 && aK v 0 99) then fY l f v else []
def WM {l : List aeA} {f v : Int} {k : Nat} (hk : k < l.length) (h : iU l[k] f v = true) : fY (l.take (k + 1)) f v = fY (l.take k) f v ++ [l[k].Id] := by
 unfold fY; rw [cC hk, dV]; simp [h]
def WN {l : List aeA} {f v : Int} {k : Nat} (hk : k < l.length) (h : iU l[k] f v = false) : fY (l.take (k + 1)) f v = fY (l.take k) f v := by
 unfold fY; rw [cC hk, dV]; simp [h]
def EA (l : List aeA) (f v : Int) : (fY l f v).length ≤ l.length := by
 unfold fY; rw [aw]; exact gP _ _
def WO {l : List aeA} {f v : Int} {k : Nat} (h : (k = l.length ∧ (dK l && (aK f 0 2 && aK v 0 99)) = true) ∨ (k = 0 ∧ (l.length = 0 ∨ (dK l && (aK f 0 2 && aK v 0 99)) = false))) : fY (l.take k) f v = zM l f v := by
 unfold zM
 rcases h with ⟨rfl, h⟩ | ⟨rfl, h⟩
 ·rw [if_pos h, cj]
 ·split
  ·rename_i h2
   rcases h with h | h
   ·rw [iJ h]; rfl
   ·rw [h] at h2; cases h2
  ·rfl
noncomputable def mK (out : List eI) (s : List Int) : Bool := !(out.length == 0) && fA (out.getD (out.length - 1) kL).Set s
def WP {out : List eI} {s : List Int} (h0 : 0 < out.length) (h : fA (out.getD (out.length - 1) kL).Set s = true) : mK out s = true := by
 unfold mK; rw [h, Bool.and_true]; simp; exact List.length_pos_iff.1 h0
noncomputable def tV (out : List eI) (v : Int) (s : List Int) : List eI := if mK out s then out.set (out.length - 1) ⟨(out.getD (out.length - 1) kL).From, v, (out.getD (out.length - 1) kL).Set⟩ else out ++ [⟨v, v, s⟩]
def WQ {out : List eI} {v : Int} {s : List Int} (h : mK out s = true) : tV out v s = out.set (out.length - 1) ⟨(out.getD (out.length - 1) kL).From, v, (out.getD (out.length - 1) kL).Set⟩ := if_pos h
def WR {out : List eI} {v : Int} {s : List Int} (h : mK out s = false) : tV out v s = out ++ [⟨v, v, s⟩] := if_neg (by rw [h]; simp)
noncomputable def du (l : List aeA) (f : Int) : Nat → List eI
 | 0 => []
 | k + 1 => tV (du l f k) k (fY l f k)
def EB (l : List aeA) (f : Int) : ∀ k, (du l f k).length ≤ k
 | 0 => Nat.le_refl _
 | k + 1 => by
  have := EB l f k
  rw [du]
  unfold tV
  split
  ·rw [List.length_set]; omega
  ·rw [aM]; simp; omega
def Qt (l : List aeA) (f : Int) : ∀ k, ∀ s ∈ du l f k, s.Set.length ≤ l.length
 | 0, s, h => nomatch h
 | k + 1, s, h => by
  have ih := Qt l f k
  rw [du] at h
  unfold tV at h
  split at h
  ·rename_i hl
   rcases List.mem_or_eq_of_mem_set h with h | rfl
   ·exact ih s h
   ·have hne : 0 < (du l f k).length := by
     unfold mK at hl
     rw [aS] at hl
     have := hl.1
     simp at this
     exact List.length_pos_iff.2 this
    have hlt : (du l f k).length - 1 < (du l f k).length := by omega
    show ((du l f k).getD _ kL).Set.length ≤ _
    rw [List.getD_eq_getElem?_getD, List.getElem?_eq_getElem hlt]
    exact ih _ (List.getElem_mem hlt)
  ·rcases List.mem_append.1 h with h | h
   ·exact ih s h
   ·simp at h; subst h; exact EA _ _ _
noncomputable def gK (l : List aeA) (f : Int) : List eI := if dK l && aK f 0 2 then du l f 100 else []
def WS (l : List aeA) (f : Int) : (gK l f).length ≤ 100 ∧ ∀ s ∈ gK l f, s.Set.length ≤ 24 := by
 unfold gK
 split
 ·rename_i h
  rw [aS] at h
  have := pP h.1
  exact ⟨EB _ _ _, fun s hs => Nat.le_trans (Qt _ _ _ s hs) this.1⟩
 ·exact ⟨by simp, fun s hs => nomatch hs⟩
def ig (v : Int) (s : eI) : Bool := aK v s.From s.To
def gL (l : List eI) (v : Int) : List Int := match l.find? (ig v) with
 | some s => s.Set
 | none => []
def WT {l : List eI} {v : Int} {k : Nat} (hk : k < l.length) (h : (l.take k).any (ig v) = false) (hy : ig v l[k] = true) : gL l v = l[k].Set := by
 unfold gL
 have e : l = l.take k ++ l[k] :: l.drop (k + 1) := by rw [← List.drop_eq_getElem_cons hk, fg]
 have hn : (l.take k).find? (ig v) = none := by
  rw [List.find?_eq_none]
  intro x hx hp
  rw [List.any_eq_false] at h
  exact h x hx hp
 have : l.find? (ig v) = some l[k] := by
  conv => lhs; rw [e]
  rw [List.find?_append, hn, List.find?_cons_of_pos hy]
  rfl
 rw [this]
def WU {l : List eI} {v : Int} (h : l.any (ig v) = false) : gL l v = [] := by
 unfold gL
 have hn : l.find? (ig v) = none := by
  rw [List.find?_eq_none]
  intro x hx hp
  rw [List.any_eq_false] at h
  exact h x hx hp
 rw [hn]
def WV {l : List eI} {m : Nat} (h : ∀ s ∈ l, s.Set.length ≤ m) (v : Int) : (gL l v).length ≤ m := by
 unfold gL
 split
 ·rename_i s hs; exact h s (List.mem_of_find?_eq_some hs)
 ·exact Nat.zero_le _
noncomputable def Qu (x : jT) (k : Nat) : Bool := (List.range k).all fun f => fA (x.Fields.getD f []) (gK x.Queries (f : Int))
noncomputable def wB (x : jT) : Bool := (dK x.Queries && decide (x.Fields.length = 3)) && Qu x 3
def WW {x : jT} (h : wB x = true) : dK x.Queries = true ∧ x.Fields.length = 3 ∧ ∀ f, f < 3 → x.Fields.getD f [] = gK x.Queries (f : Int) := by
 unfold wB at h
 simp only [aS, decide_eq_true_eq] at h
 exact ⟨h.1.1, h.1.2, fun f hf => fh.1 (List.all_eq_true.1 h.2 f (List.mem_range.2 hf))⟩
noncomputable def mL (l : List aeA) : jT := if dK l then ⟨l, [gK l 0, gK l 1, gK l 2]⟩ else ⟨[], []⟩
def WX {l : List aeA} (h : dK l = true) : wB (mL l) = true := by
 unfold mL
 rw [if_pos h]
 unfold wB
 rw [h]
 simp only [List.length_cons, List.length_nil, Bool.true_and, aS, decide_eq_true_eq]
 refine ⟨by decide, ?_⟩
 unfold Qu
 rw [iI]
 intro f hf
 have := List.mem_range.1 hf
 have : f = 0 ∨ f = 1 ∨ f = 2 := by omega
 rcases this with rfl | rfl | rfl <;> exact rc rfl
noncomputable def pQ (l : List aeA) (k : Nat) : List (List eI) := (List.range k).map fun f : Nat => gK l (f : Int)
def pR (l : List aeA) : List Int := l.map aeA.Id
def gw (o : List Int) : Bool := decide (o.length = 3) && (bB o 0 && (bB o 1 && bB o 2))
def Qv {o : List Int} (h : gw o = true) : o.length = 3 ∧ ∀ f ∈ o, 0 ≤ f ∧ f ≤ 2 := by
 unfold gw at h
 simp only [aS, decide_eq_true_eq] at h
 obtain ⟨h1, h2, h3, h4⟩ := h
 match o, h1 with
 | [a, b, c], _ =>
  simp [bB] at h2 h3 h4
  refine ⟨rfl, fun f hf => ?_⟩
  simp at hf
  omega
def tW (o : List Int) (k : Nat) : Bool := (List.range k).all fun i => aK (o.getD i 0) 0 2 && !bB (o.take i) (o.getD i 0)
def WY {o : List Int} {k : Nat} : tW o (k + 1) = (tW o k && (aK (o.getD k 0) 0 2 && !bB (o.take k) (o.getD k 0))) := by simp [tW, List.range_succ]
def Qw {o : List Int} (h : o.length = 3) : tW o 3 = gw o := by
 match o, h with
 | [a, b, c], _ =>
  rw [Bool.eq_iff_iff]
  simp [tW, gw, bB, aK, List.range_succ]
  omega
def WZ {o : List Int} {k : Nat} (hl : o.length = 3) (hk : k < 3) (h : (aK (o.getD k 0) 0 2 && !bB (o.take k) (o.getD k 0)) = false) : gw o = false := by
 rw [← Qw hl, ← Bool.not_eq_true]
 intro hh
 have := List.all_eq_true.1 hh k (List.mem_range.2 hk)
 rw [h] at this; cases this
def oL (x : jT) (r : Row) (s : List Int × Int) (f : Int) : List Int × Int := if s.1 = [] then s else (oB s.1 (gL (x.Fields.getD f.toNat []) (gU r.Values f)), s.2 + 1 + min (s.1.length : Int) ((gL (x.Fields.getD f.toNat []) (gU r.Values f)).length : Int))
def fu (x : jT) (r : Row) (o : List Int) (k : Nat) : List Int × Int := (o.take k).foldl (oL x r) (pR x.Queries, 0)
def Qx {x : jT} {r : Row} {o : List Int} {k : Nat} (hk : k < o.length) (h : (fu x r o k).1 ≠ []) : fu x r o (k + 1) = (oB (fu x r o k).1 (gL (x.Fields.getD o[k].toNat []) (gU r.Values o[k])), (fu x r o k).2 + 1 + min ((fu x r o k).1.length : Int) ((gL (x.Fields.getD o[k].toNat []) (gU r.Values o[k])).length : Int)) := by
 unfold fu
 rw [cC hk, List.foldl_append]
 show oL x r (fu x r o k) o[k] = _
 unfold oL
 rw [if_neg h]; rfl
def Qy {x : jT} {r : Row} : ∀ (o : List Int) (s : List Int × Int), s.1 = [] → o.foldl (oL x r) s = s
 | [], s, _ => rfl
 | f :: o, s, h => by
  rw [List.foldl_cons]
  have : oL x r s f = s := if_pos h
  rw [this]; exact Qy o s h
noncomputable def ru (x : jT) (r : Row) (o : List Int) : List Int × Int := o.foldl (oL x r) (pR x.Queries, 0)
def Xa {x : jT} {r : Row} {o : List Int} {k : Nat} (h : k = o.length ∨ (fu x r o k).1 = []) : fu x r o k = ru x r o := by
 rcases h with rfl | h
 ·unfold fu ru; rw [cj]
 ·unfold ru
  have e : o = o.take k ++ o.drop k := (fg _ _).symm
  conv => rhs; rw [e, List.foldl_append]
  exact (Qy _ _ h).symm
def Qz {x : jT} (hx : x.Queries.length ≤ 24) (r : Row) (o : List Int) : ∀ k, (fu x r o k).1.length ≤ 24 ∧ 0 ≤ (fu x r o k).2 ∧ (fu x r o k).2 ≤ 25 * k
 | 0 => by refine ⟨?_, ?_, ?_⟩ <;> simp [fu, pR]; exact hx
 | k + 1 => by
  have ih := Qz hx r o k
  by_cases hk : k < o.length
  ·by_cases h : (fu x r o k).1 = []
   ·have e : fu x r o (k + 1) = fu x r o k := by
     unfold fu
     rw [cC hk, List.foldl_append]
     exact if_pos h
    rw [e]; omega
   ·rw [Qx hk h]
    have := Wl (fu x r o k).1 (gL (x.Fields.getD o[k].toNat []) (gU r.Values o[k]))
    dsimp only; omega
  ·have e : fu x r o (k + 1) = fu x r o k := by
    unfold fu
    rw [nP (by omega), nP (by omega)]
   rw [e]; omega
def v0 : aR := ⟨0, [], 0, 0⟩
def dv (now : Int) (v : aR) : Bool := cf ⟨v.Id, v.Values⟩ && (aK v.aeN 0 now && (decide (v.aeJ = -1) || aK v.aeJ (v.aeN + 1) now))
def fa (a b : aR) : Bool := !(a.Id == b.Id) || ((!(a.aeJ == -1) && decide (a.aeJ ≤ b.aeN)) || (!(b.aeJ == -1) && decide (b.aeJ ≤ a.aeN)))
def dL (v : aR) (t : Int) : Bool := decide (v.aeN ≤ t) && (decide (v.aeJ = -1) || decide (v.aeJ > t))
def rx (v w : aR) : Bool := dL v w.aeN || dL w v.aeN
def QA {now : Int} {v w : aR} (hv : dv now v = true) (hw : dv now w = true) : (v.Id == w.Id && rx v w) = !fa v w := by
 have h1 : v.aeJ = -1 ∨ v.aeN < v.aeJ := by simp [dv, aK] at hv; omega
 have h2 : w.aeJ = -1 ∨ w.aeN < w.aeJ := by simp [dv, aK] at hw; omega
 have h3 : 0 ≤ v.aeN ∧ 0 ≤ w.aeN := by simp [dv, aK] at hv hw; omega
 rw [Bool.eq_iff_iff]
 simp only [rx, dL, fa, aS, Bool.or_eq_true, Bool.not_eq_true', beq_iff_eq, decide_eq_true_eq, Bool.or_eq_false_iff, Bool.not_eq_false', Bool.and_eq_false_iff, decide_eq_false_iff_not]
 omega
def bg (s : Store) : List aR := s.aey.flatten
def fR (L : List aR) (i k : Nat) : Bool := (List.range k).all fun m => fa (L.getD i v0) (L.getD m v0)
def mc (now : Int) (L : List aR) (i : Nat) : Bool := dv now (L.getD i v0) && fR L i i
def md (now : Int) (L : List aR) (i : Nat) : Bool := (List.range i).all (mc now L)
def kN (l : List aR) : Bool := decide ((l.length : Int) ≤ 4)
def mM (s : Store) : Bool := aK s.aey.length 1 8 && aK s.Now 0 100000
def bQ (s : Store) : Bool := (mM s && s.aey.all kN) && md s.Now (bg s) (bg s).length
def Xb {L : List aR} {i k : Nat} : fR L i (k + 1) = (fR L i k && fa (L.getD i v0) (L.getD k v0)) := by simp [fR, List.range_succ]
def QB {now : Int} {L : List aR} {i : Nat} : md now L (i + 1) = (md now L i && mc now L i) := by simp [md, List.range_succ]
def EC {now : Int} {L : List aR} {i j : Nat} (h : md now L i = true) (hj : j < i) : dv now (L.getD j v0) = true := by
 have := List.all_eq_true.1 h j (List.mem_range.2 hj)
 unfold mc at this
 rw [aS] at this
 exact this.1
def zN {s : Store} {i : Nat} (hi : i < (bg s).length) (h : mc s.Now (bg s) i = false) : bQ s = false := by
 have : md s.Now (bg s) (bg s).length = false := by
  rw [← Bool.not_eq_true]
  intro hh
  have := List.all_eq_true.1 hh i (List.mem_range.2 hi)
  rw [h] at this; cases this
 unfold bQ; rw [this, Bool.and_false]
def QC {now : Int} {L : List aR} {i : Nat} (h : dv now (L.getD i v0) = false) : mc now L i = false := by unfold mc; rw [h]; rfl
def QD {now : Int} {L : List aR} {i k : Nat} (hk : k < i) (h : fa (L.getD i v0) (L.getD k v0) = false) : mc now L i = false := by
 have : fR L i i = false := by
  rw [← Bool.not_eq_true]
  intro hh
  have := List.all_eq_true.1 hh k (List.mem_range.2 hk)
  rw [h] at this; cases this
 unfold mc; rw [this, Bool.and_false]
def QE {s : Store} {k : Nat} (hk : k < s.aey.length) (h : ¬ ((s.aey[k].length : Int) ≤ 4)) : bQ s = false := by
 have : s.aey.all kN = false := kE hk (by simpa [kN] using h)
 unfold bQ; rw [this]; simp
def dw (s : Store) (k : Nat) : List aR := (s.aey.take k).flatten
def wC {s : Store} {k : Nat} (hk : k < s.aey.length) : dw s (k + 1) = dw s k ++ s.aey[k] := by
 unfold dw; rw [cC hk, List.flatten_append]; simp
def zO {s : Store} {k : Nat} (hk : k < s.aey.length) : bg s = dw s k ++ (s.aey[k] ++ (s.aey.drop (k + 1)).flatten) := by
 unfold bg dw
 rw [← List.flatten_cons, ← List.flatten_append, ← List.drop_eq_getElem_cons hk, fg]
def ED {s : Store} : dw s s.aey.length = bg s := by unfold dw bg; rw [cj]
def QF {s : Store} {k j : Nat} (hk : k < s.aey.length) (hj : j < s.aey[k].length) : (dw s k).length + j < (bg s).length ∧ (bg s).getD ((dw s k).length + j) v0 = s.aey[k][j] := by
 rw [zO hk]
 refine ⟨by simp only [aM]; omega, ?_⟩
 rw [List.getD_eq_getElem?_getD, List.getElem?_append_right (by omega), show (dw s k).length + j - (dw s k).length = j by omega, List.getElem?_append_left hj, List.getElem?_eq_getElem hj]
 rfl
def Xc {s : Store} {k j : Nat} (hk : k < s.aey.length) (hj : j ≤ s.aey[k].length) : dw s k ++ s.aey[k].take j = (bg s).take ((dw s k).length + j) := by
 rw [zO hk, List.take_length_add_append, List.take_append_of_le_length hj]
def pS (s : Store) : (bg s).length ≤ cB s := by
 unfold cB fW bg
 rw [List.length_flatten]
 have : (s.aey.map List.length).sum ≤ (s.aey.map co).sum := by
  generalize s.aey = l
  induction l with
  | nil => simp
  | cons x l ih => simp only [List.map_cons, List.sum_cons]; unfold co at *; omega
 omega
def fF (v : aR) : Row := ⟨v.Id, v.Values⟩
def mN {s : Store} (h : bQ s = true) : s.aey.length ≤ 8 ∧ 1 ≤ s.aey.length ∧ 0 ≤ s.Now ∧ s.Now ≤ 100000 ∧ (∀ g ∈ s.aey, g.length ≤ 4) ∧ ∀ i, i < (bg s).length → dv s.Now ((bg s).getD i v0) = true := by
 unfold bQ mM at h
 simp only [aS, aK, decide_eq_true_eq] at h
 refine ⟨by omega, by omega, by omega, by omega, fun g hg => ?_, fun i hi => EC h.2 hi⟩
 have := List.all_eq_true.1 h.1.2 g hg
 simp [kN] at this; omega
def EE {s : Store} (h : bQ s = true) {k j : Nat} (hk : k < s.aey.length) (hj : j < s.aey[k].length) : dv s.Now s.aey[k][j] = true := by
 have h1 := QF hk hj
 rw [← h1.2]
 exact (mN h).2.2.2.2.2 _ h1.1
def kg (x : br) (i : Nat) : Bool := aK (x.aeF.getD i 0) 0 3 && aK (x.Rows.getD i 0) 0 x.Base
def oM (x : br) (k : Nat) : Bool := (List.range k).all (kg x)
def Xd {x : br} {k : Nat} : oM x (k + 1) = (oM x k && kg x k) := by simp [oM, List.range_succ]
def lx (x : br) : Bool := dM x.Ids && (aK x.Ids.length 1 8 && (decide (x.aeF.length = x.Ids.length) && decide (x.Rows.length = x.Ids.length)))
def bZ (x : br) : Bool := (lx x && oM x x.Ids.length) && (aK x.Segment 0 7 && aK x.Base 0 4)
def jy {x : br} (h : lx x = true) : 1 ≤ x.Ids.length ∧ x.Ids.length ≤ 8 ∧ x.aeF.length = x.Ids.length ∧ x.Rows.length = x.Ids.length := by
 simp [lx, aK] at h; omega
def Xe {x : br} {k : Nat} (hk : k < x.Ids.length) (h : kg x k = false) : bZ x = false := by
 have : oM x x.Ids.length = false := by
  rw [← Bool.not_eq_true]
  intro hh
  have := List.all_eq_true.1 hh k (List.mem_range.2 hk)
  rw [h] at this; cases this
 unfold bZ; rw [this]; simp
def kh {x : br} (h : bZ x = true) : lx x = true ∧ 0 ≤ x.Base ∧ x.Base ≤ 4 ∧ ∀ i, i < x.Ids.length → 0 ≤ x.Rows.getD i 0 ∧ x.Rows.getD i 0 ≤ 4 := by
 unfold bZ at h
 simp only [aS] at h
 have hb : 0 ≤ x.Base ∧ x.Base ≤ 4 := by have := h.2.2; simp [aK] at this; exact this
 refine ⟨h.1.1, hb.1, hb.2, fun i hi => ?_⟩
 have := List.all_eq_true.1 h.1.2 i (List.mem_range.2 hi)
 simp only [kg, aK, aS, decide_eq_true_eq] at this
 omega
def EF {α : Type} {l : List α} {f : α → Int} {k : Nat} (hk : k < l.length) : ((l.take (k + 1)).map f).sum = ((l.take k).map f).sum + f l[k] := by
 rw [tP hk, bj, List.sum_append]; simp
def EG {α : Type} {l : List α} {f : α → Int} {m : Int} (h : ∀ x, 0 ≤ f x ∧ f x ≤ m) (hm : 0 ≤ m) : 0 ≤ (l.map f).sum ∧ (l.map f).sum ≤ l.length * m := by
 induction l with
 | nil => simp
 | cons a l ih =>
  have := h a
  simp only [List.map_cons, List.sum_cons, List.length_cons, Int.natCast_add, Int.natCast_one, Int.add_mul, Int.one_mul]
  omega
def ki {f : Nat → Int} {k : Nat} : ((List.range (k + 1)).map f).sum = ((List.range k).map f).sum + f k := by
 rw [List.range_succ, bj, List.sum_append]; simp
def mO {f : Nat → Int} {m : Int} {n : Nat} (h : ∀ i, i < n → 0 ≤ f i ∧ f i ≤ m) : ∀ k, k ≤ n → 0 ≤ ((List.range k).map f).sum ∧ ((List.range k).map f).sum ≤ k * m
 | 0, _ => by simp
 | k + 1, hk => by
  have h1 := mO h k (by omega)
  have h2 := h k (by omega)
  rw [ki]
  have e : ((k + 1 : Nat) : Int) * m = k * m + m := by rw [Int.natCast_add, Int.add_mul, Int.natCast_one, Int.one_mul]
  omega
def pT (x : br) (i : Nat) : Int := x.Rows.getD i 0
def jz (x : br) : Int := if bZ x then x.Base + ((List.range x.Rows.length).map (pT x)).sum else 0
def QG (x : br) : 0 ≤ jz x ∧ jz x ≤ 36 := by
 unfold jz
 split
 ·rename_i h
  obtain ⟨h1, h2, h3, h4⟩ := kh h
  have h5 := jy h1
  have := mO (f := pT x) (m := 4) (n := x.Ids.length) (fun i hi => h4 i hi) x.Rows.length (by omega)
  omega
 ·omega
def oN (l : List br) : Int := (l.map jz).sum
def fZ (x : br) (i : Nat) : Int := x.Rows.getD i 0 + x.Base.tdiv x.Ids.length + (if (i : Int) < x.Base.tmod x.Ids.length then 1 else 0)
def fb (x : br) : List Int := if bZ x then (List.range x.Ids.length).map (fZ x) else []
def Xf {x : br} (h : bZ x = true) {i : Nat} (hi : i < x.Ids.length) : 0 ≤ fZ x i ∧ fZ x i ≤ 9 := by
 obtain ⟨h1, h2, h3, h4⟩ := kh h
 have h5 := jy h1
 have h6 := h4 i hi
 have h7 := Int.tdiv_nonneg h2 (by omega : (0 : Int) ≤ x.Ids.length)
 have h8 := Int.tdiv_le_self (x.Ids.length : Int) h2
 unfold fZ
 split <;> omega
def zQ (x : br) : (fb x).length ≤ 8 ∧ (bZ x = true → (fb x).length = x.Ids.length) := by
 unfold fb
 split
 ·rename_i h
  have h5 := jy (kh h).1
  rw [aw, List.length_range]; exact ⟨by omega, fun _ => rfl⟩
 ·rename_i h; exact ⟨by simp, fun hh => absurd hh h⟩
def EH {x : br} {k : Nat} (h : k < (fb x).length) : bZ x = true ∧ k < x.Ids.length ∧ k < x.aeF.length ∧ 0 ≤ (fb x).getD k 0 ∧ (fb x).getD k 0 ≤ 9 := by
 unfold fb at h ⊢
 split at h
 ·rename_i hk
  rw [aw, List.length_range] at h
  have h5 := jy (kh hk).1
  refine ⟨hk, h, by omega, ?_⟩
  have := Xf hk h
  rw [if_pos hk, List.getD_eq_getElem?_getD, List.getElem?_map, List.getElem?_range h]
  exact this
 ·simp at h
def kO (t : Int) (x : br) (k : Nat) : Int := if x.aeF.getD k 0 = t then (fb x).getD k 0 else 0
def gx (t : Int) (x : br) : Int := ((List.range (fb x).length).map (kO t x)).sum
def Xg {x : br} {k : Nat} (h : (k = x.Ids.length ∧ bZ x = true) ∨ (k = 0 ∧ (x.Ids.length = 0 ∨ bZ x = false))) : (List.range k).map (fZ x) = fb x := by
 unfold fb
 rcases h with ⟨rfl, h⟩ | ⟨rfl, h⟩
 ·rw [if_pos h]
 ·split
  ·rename_i h2
   rcases h with h | h
   ·rw [h]
   ·rw [h] at h2; cases h2
  ·rfl
def EI {t : Int} {x : br} {k : Nat} (h : k < (fb x).length) : 0 ≤ kO t x k ∧ kO t x k ≤ 9 := by
 have := EH h
 unfold kO
 split <;> omega
def Xh (t : Int) (x : br) : 0 ≤ gx t x ∧ gx t x ≤ 72 := by
 have h1 := mO (f := kO t x) (m := 9) (n := (fb x).length) (fun i hi => EI hi) _ (Nat.le_refl _)
 have h2 := (zQ x).1
 unfold gx
 omega
def fk (l : List br) (t : Int) : Int := (l.map (gx t)).sum
def Xi (l : List br) : 0 ≤ oN l ∧ oN l ≤ l.length * 36 := EG (fun x => QG x) (by decide)
def tX (l : List br) (t : Int) : 0 ≤ fk l t ∧ fk l t ≤ l.length * 72 := EG (fun x => Xh t x) (by decide)
section
def ii : aez := ⟨⟨0, 0, [], []⟩, 0, [], 0, 0, 0, []⟩
def ly (a b : aez) : Bool := decide (a.aeA.Id < b.aeA.Id)
def kP (n v : Int) : Bool := aK v 0 (n - 1)
def kQ (a b : Int) : Bool := decide (a < b)
def kR (l : List Int) (n : Int) : Bool := dG 0 (kP n) kQ l && decide (0 < l.length)
def fc (s : Store) (a : aez) : Bool := kR a.aeI s.aey.length && (ck a.aeA && (aK a.Time 0 s.Now && (aK a.Age 0 100000 && (aK a.Sent 0 1000 && (aK a.Cap 0 32 && mG a.Rows)))))
def gj (now : Int) (f : fi) : Bool := ck f.aeA && (aK f.Time 0 now && (aK f.Steps 0 100000 && mG f.Rows))
def iY (e : aA) : Bool := (bQ e.Store && (aK e.aeD 0 (e.Store.aey.length - 1) && (gw e.Order && aK e.Steps 0 100000))) && (decide ((e.aez.length : Int) ≤ 8) && (decide ((e.Done.length : Int) ≤ 1000) && decide ((e.aeL.length : Int) ≤ 1000)))
def aX (e : aA) : Bool := iY e && (dG ii (fc e.Store) ly e.aez && (e.Done.all (gj e.Store.Now) && e.aeL.all bZ))
def Xj {e : aA} (h : iY e = false) : aX e = false := by unfold aX; rw [h]; rfl
def QH {e : aA} (h : dG ii (fc e.Store) ly e.aez = false) : aX e = false := by unfold aX; rw [h]; simp
def QI {e : aA} (h : e.Done.all (gj e.Store.Now) = false) : aX e = false := by unfold aX; rw [h]; simp
def QJ {e : aA} (h : e.aeL.all bZ = false) : aX e = false := by unfold aX; rw [h]; simp
def QK {e : aA} (h1 : iY e = true) (h2 : dG ii (fc e.Store) ly e.aez = true) (h3 : e.Done.all (gj e.Store.Now) = true) (h4 : e.aeL.all bZ = true) : aX e = true := by unfold aX; rw [h1, h2, h3, h4]; rfl
def gW {e : aA} (h : aX e = true) : bQ e.Store = true ∧ gw e.Order = true ∧ 0 ≤ e.aeD ∧ e.aeD.toNat < e.Store.aey.length ∧ e.aez.length ≤ 8 ∧ e.Done.length ≤ 1000 ∧ e.aeL.length ≤ 1000 ∧ 0 ≤ e.Steps ∧ e.Steps ≤ 100000 ∧ (∀ a ∈ e.aez, fc e.Store a = true) ∧ (∀ f ∈ e.Done, gj e.Store.Now f = true) ∧ ∀ c ∈ e.aeL, bZ c = true := by
 unfold aX iY at h
 simp only [aS, aK, decide_eq_true_eq] at h
 obtain ⟨⟨⟨h1, h2, h3, h4⟩, h5, h6, h7⟩, h8, h9, h10⟩ := h
 refine ⟨h1, h3, by omega, by omega, by omega, by omega, by omega, by omega, by omega, fun a ha => ?_, List.all_eq_true.1 h9, List.all_eq_true.1 h10⟩
 obtain ⟨k, hk, rfl⟩ := List.mem_iff_getElem.1 ha
 exact wt h8 hk
def ry (o : List Int) (k : Nat) : Bool := (List.range k).all fun i => bB o (i : Int)
def zR {o : List Int} {k : Nat} : ry o (k + 1) = (ry o k && bB o (k : Int)) := by simp [ry, List.range_succ]
def QL {o : List Int} : (ry o 3 && decide (o.length = 3)) = gw o := by
 rw [Bool.and_comm, gw, zR, zR, zR]
 show _ = (decide (o.length = 3) && (bB o ((0 : Nat) : Int) && (bB o ((1 : Nat) : Int) && bB o ((2 : Nat) : Int))))
 simp [ry, Bool.and_assoc]
def Xk {o : List Int} {k : Nat} (hk : k < 3) (h : bB o (k : Int) = false) : gw o = false := by
 rw [← QL]
 have : ry o 3 = false := by
  rw [← Bool.not_eq_true]
  intro hh
  have := List.all_eq_true.1 hh k (List.mem_range.2 hk)
  rw [h] at this; cases this
 rw [this]; rfl
def lz (a : aez) : Bool := decide (a.Cap = 0) || decide (a.Sent < a.Cap)
def rz (e : aA) (i : Int) : Bool := aX e && aK i 0 (e.aez.length - 1) && lz (e.aez.getD i.toNat ii)
def ew (e : aA) (a : aez) : Bool := lz a && bB a.aeI e.aeD
def gM (e : aA) (l : List aez) : List Int := (l.filter (ew e)).map fun a => a.aeA.Id
def parts (e : aA) : List Int := if aX e then gM e e.aez else []
section
variable {e : aA} {l : List aez} {k : Nat} {id : Int}
def Xl (h : aX e = true) (hk : k < e.aez.length) : rz e (k : Int) = lz e.aez[k] := by
 unfold rz
 rw [h, show aK (k : Int) 0 (e.aez.length - 1) = true by simp [aK]; omega, Int.toNat_natCast, List.getD_eq_getElem?_getD, List.getElem?_eq_getElem hk]; rfl
def QM (hk : k < l.length) (h : ew e l[k] = true) : gM e (l.take (k + 1)) = gM e (l.take k) ++ [l[k].aeA.Id] := by
 unfold gM; rw [cC hk, dV]; simp [h]
def QN (hk : k < l.length) (h : ew e l[k] = false) : gM e (l.take (k + 1)) = gM e (l.take k) := by
 unfold gM; rw [cC hk, dV]; simp [h]
def EJ : (gM e l).length ≤ l.length := by
 unfold gM; rw [aw]; exact gP _ _
def pU (h : aX e = true) : parts e = gM e e.aez := if_pos h
def QO (h : aX e = false) : parts e = [] := if_neg (by rw [h]; simp)
def Xm (h : (k = e.aez.length ∧ aX e = true) ∨ (k = 0 ∧ (e.aez.length = 0 ∨ aX e = false))) : gM e (e.aez.take k) = parts e := by
 rcases h with ⟨rfl, h⟩ | ⟨rfl, h⟩
 ·rw [cj, pU h]
 ·rw [List.take_zero]
  rcases h with h | h
  ·unfold parts
   rw [iJ h]
   split <;> rfl
  ·rw [QO h]; rfl
def wD : (parts e).length ≤ e.aez.length := by
 unfold parts
 split
 ·exact EJ
 ·exact Nat.zero_le _
def eh (id : Int) (a : aez) : Bool := a.aeA.Id == id
def dy (l : List aez) (id : Int) : Int := if l.any (eh id) then ((l.findIdx (eh id) : Nat) : Int) else -1
def EK (hk : k < l.length) (h : (l.take k).any (eh id) = false) (hy : eh id l[k] = true) : dy l id = (k : Int) := by
 have e : l.findIdx (eh id) = k := by
  rw [List.findIdx_eq hk]
  refine ⟨hy, fun j hj => ?_⟩
  rw [List.any_eq_false] at h
  have := h l[j] (by rw [AT]; exact ⟨j, by rw [bv]; omega, by simp⟩)
  simpa using this
 unfold dy
 rw [if_pos (qZ hk hy), e]
def Xn (h : l.any (eh id) = false) : dy l id = -1 := if_neg (by rw [h]; simp)
def Xo (h : id ∈ gM e l) : 0 ≤ dy l id ∧ (dy l id).toNat < l.length := by
 unfold gM at h
 obtain ⟨a, ha, rfl⟩ := List.mem_map.1 h
 have ha := (List.mem_filter.1 ha).1
 have hany : l.any (eh a.aeA.Id) = true := List.any_eq_true.2 ⟨a, ha, by simp [eh]⟩
 have hlt : l.findIdx (eh a.aeA.Id) < l.length := List.findIdx_lt_length_of_exists ⟨a, ha, by simp [eh]⟩
 unfold dy
 rw [if_pos hany]
 omega
end
def oO (l : List aez) (ids : List Int) : List aeA := ids.map fun id => (l.getD (dy l id).toNat ii).aeA
end
section
def pV (s : Store) : Nat := (bg s).length
def rC (s : Store) (k : Nat) : Nat := (dw s k).length
def QP {s : Store} {k : Nat} (hk : k < s.aey.length) : rC s (k + 1) = rC s k + s.aey[k].length := by unfold rC; rw [wC hk, aM]
def Xp {s : Store} (k : Nat) (hk : k ≤ s.aey.length) : rC s k ≤ pV s := by
 unfold rC pV dw bg
 have e : s.aey.flatten = (s.aey.take k).flatten ++ (s.aey.drop k).flatten := by rw [← List.flatten_append, fg]
 rw [e, aM]; omega
def gy (v : aR) (keep : List Int) : Bool := decide (v.aeJ = -1) || keep.any (dL v)
def Xq {v : aR} {keep : List Int} {k : Nat} (hk : k < keep.length) (h : dL v keep[k] = true) : gy v keep = true := by unfold gy; rw [qZ hk h]; simp
def Xr {v : aR} {keep : List Int} (h : keep.any (dL v) = false) : gy v keep = decide (v.aeJ = -1) := by unfold gy; rw [h]; simp
def oP (v : aR) (keep : List Int) (k : Nat) : Bool := decide (v.aeJ = -1) || (keep.take k).any (dL v)
def Xs {v : aR} {keep : List Int} {k : Nat} (hk : k < keep.length) : oP v keep (k + 1) = (oP v keep k || dL v keep[k]) := by
 unfold oP; rw [cC hk, List.any_append, ← Bool.or_assoc]; simp
def QQ {v : aR} {keep : List Int} : oP v keep keep.length = gy v keep := by unfold oP gy; rw [cj]
def kS (keep : List Int) (l : List aR) : List aR := l.filter fun v => gy v keep
def eJ (s : Store) (keep : List Int) : Store := if bQ s then ⟨s.aey.map (kS keep), s.Now⟩ else s
def iZ (keep : List Int) (zs : List (aR × (Nat → Value))) : List (aR × (Nat → Value)) := zs.filter fun z => gy z.1 keep
def ij (zss : List (List (aR × (Nat → Value)))) (keep : List Int) (k : Nat) : List (List (aR × (Nat → Value))) := (zss.take k).map (iZ keep) ++ zss.drop k
section
variable {zss : List (List (aR × (Nat → Value)))} {keep : List Int} {k : Nat} {segs : List (List aR)}
def zS : (ij zss keep k).length = zss.length := by unfold ij; simp; omega
def QR (hk : k < zss.length) (h : k < (ij zss keep k).length) : (ij zss keep k)[k]'h = zss[k] := by
 have h1 : (ij zss keep k)[k]? = some zss[k] := by
  unfold ij
  rw [List.getElem?_append_right (by simp; omega)]
  simp [Nat.min_eq_left (Nat.le_of_lt hk), hk]
 exact (List.getElem?_eq_some_iff.1 h1).2
def QT (hk : k < zss.length) : (ij zss keep k).set k (iZ keep zss[k]) = ij zss keep (k + 1) := by
 unfold ij
 have hl : ((zss.take k).map (iZ keep)).length = k := by rw [aw, bv]; omega
 rw [List.set_append_right _ _ (by omega), hl, Nat.sub_self, List.drop_eq_getElem_cons hk, List.set_cons_zero, cC hk, bj]
 simp
def EL : ij zss keep zss.length = zss.map (iZ keep) := by unfold ij; simp
def QU : (zss.map (iZ keep)).flatten.Sublist zss.flatten := by
 induction zss with
 | nil => exact List.Sublist.slnil
 | cons z l ih => rw [List.map_cons, List.flatten_cons, List.flatten_cons]; exact List.Sublist.append List.filter_sublist ih
def Xt (hz : zss.map (List.map Prod.fst) = segs) : (zss.map (iZ keep)).map (List.map Prod.fst) = segs.map (kS keep) := by
 rw [← hz, List.map_map, List.map_map]
 refine List.map_congr_left fun zs _ => ?_
 simp only [Function.comp_apply, iZ, kS, List.filter_map]
 rfl
def QV (hz : zss.map (List.map Prod.fst) = segs) : zss.length = segs.length := by rw [← hz, aw]
def Xu (hz : zss.map (List.map Prod.fst) = segs) (hk : k < zss.length) (hk2 : k < segs.length) : zss[k].map Prod.fst = segs[k] := by subst hz; simp
def QW (hz : zss.map (List.map Prod.fst) = segs) (hk : k < zss.length) (hk2 : k < segs.length) : zss[k].length = segs[k].length := by rw [← Xu hz hk hk2, aw]
def QX (hz : zss.map (List.map Prod.fst) = segs) (hk : k < zss.length) (hk2 : k < segs.length) {j : Nat} (hj : j < zss[k].length) (hj2 : j < segs[k].length) : zss[k][j].1 = segs[k][j] := by
 subst hz; simp
def QY {zs : List (aR × (Nat → Value))} {j : Nat} (hj : j < zs.length) (h : gy zs[j].1 keep = true) : iZ keep (zs.take (j + 1)) = iZ keep (zs.take j) ++ [zs[j]] := by
 unfold iZ; rw [cC hj, dV]; simp [h]
def QZ {zs : List (aR × (Nat → Value))} {j : Nat} (hj : j < zs.length) (h : gy zs[j].1 keep = false) : iZ keep (zs.take (j + 1)) = iZ keep (zs.take j) := by
 unfold iZ; rw [cC hj, dV]; simp [h]
def Ra {zs : List (aR × (Nat → Value))} {j : Nat} : (iZ keep (zs.take j)).length ≤ j := by
 have := gP (fun z : aR × (Nat → Value) => gy z.1 keep) (zs.take j)
 rw [bv] at this
 unfold iZ; omega
end
def oQ (s : Store) (i j : Nat) : List aR := (s.aey.take i).flatten ++ (s.aey.getD i []).take j
def jA (s : Store) (keep : List Int) (i j : Nat) : Nat := ((oQ s i j).filter fun v => !gy v keep).length
def Rb {s : Store} {i j : Nat} (hi : i < s.aey.length) (hj : j < s.aey[i].length) : oQ s i (j + 1) = oQ s i j ++ [s.aey[i][j]] := by
 unfold oQ
 rw [show s.aey.getD i [] = s.aey[i] by simp [hi], cC hj, bu]
def Xv {s : Store} {i : Nat} (hi : i < s.aey.length) : oQ s i s.aey[i].length = oQ s (i + 1) 0 := by
 unfold oQ
 rw [show s.aey.getD i [] = s.aey[i] by simp [hi], cj, cC hi, List.flatten_append]
 simp
def Xw {s : Store} {keep : List Int} {i j : Nat} (hi : i < s.aey.length) (hj : j < s.aey[i].length) (h : gy s.aey[i][j] keep = true) : jA s keep i (j + 1) = jA s keep i j := by
 unfold jA; rw [Rb hi hj, dV]; simp [h]
def Xx {s : Store} {keep : List Int} {i j : Nat} (hi : i < s.aey.length) (hj : j < s.aey[i].length) (h : gy s.aey[i][j] keep = false) : jA s keep i (j + 1) = jA s keep i j + 1 := by
 unfold jA; rw [Rb hi hj, dV]; simp [h]
def Xy {s : Store} {keep : List Int} {i : Nat} (hi : i < s.aey.length) : jA s keep i s.aey[i].length = jA s keep (i + 1) 0 := by unfold jA; rw [Xv hi]
def Xz {s : Store} {keep : List Int} : jA s keep 0 0 = 0 := by simp [jA, oQ]
def XA {s : Store} {keep : List Int} {i j : Nat} (hi : i < s.aey.length) : jA s keep i j ≤ (bg s).length := by
 unfold jA
 refine Nat.le_trans (gP _ _) ?_
 unfold oQ bg
 have h1 := wC (s := s) hi
 have h2 : (dw s (i + 1)).length ≤ s.aey.flatten.length := by
  unfold dw
  have e : s.aey.flatten = (s.aey.take (i + 1)).flatten ++ (s.aey.drop (i + 1)).flatten := by rw [← List.flatten_append, fg]
  rw [e, aM]; omega
 rw [h1, aM] at h2
 rw [aM, bv, show s.aey.getD i [] = s.aey[i] by simp [hi]]
 unfold dw at h2; omega
def Rc (keep : List Int) : ∀ l : List aR, co (kS keep l) ≤ co l
 | [] => Nat.le_refl _
 | v :: l => by
  have ih := Rc keep l
  unfold kS co at *
  rw [List.filter_cons]
  split <;> simp only [List.length_cons, List.map_cons, List.sum_cons] <;> omega
def EM (s : Store) (keep : List Int) : cB (eJ s keep) ≤ cB s := by
 unfold eJ
 split
 ·unfold cB fW
  dsimp only
  rw [aw, List.map_map]
  have : (s.aey.map (co ∘ kS keep)).sum ≤ (s.aey.map co).sum := by
   generalize s.aey = l
   induction l with
   | nil => exact Nat.le_refl _
   | cons x l ih => simp only [List.map_cons, List.sum_cons, Function.comp] at *; have := Rc keep x; omega
  omega
 ·exact Nat.le_refl _
def wE {s : Store} {keep : List Int} (h : bQ s = true) : eJ s keep = ⟨s.aey.map (kS keep), s.Now⟩ := if_pos h
def Rd {s : Store} {keep : List Int} (h : bQ s = false) : eJ s keep = s := if_neg (by rw [h]; simp)
def zT (s : Store) (keep : List Int) : Int := if bQ s then (pV s : Int) - (pV (eJ s keep) : Int) else 0
def zU (s : Store) (keep : List Int) : Int := if bQ s then (jA s keep s.aey.length 0 : Int) else 0
def eK (l : List aez) : List Int := l.map fun a => a.Time
def dk (e : aA) : aA := ⟨eJ e.Store (eK e.aez), e.aeD, e.Order, e.aez, e.Done, e.aeL, e.Steps⟩
def oR (z : aR × (Nat → Value)) : List PV := [PV.nv (z.2 0) (PV.val (vI z.1.Id)), PV.nv (z.2 1) (PV.sl .v (z.1.Values.map am)), PV.nv (z.2 2) (PV.val (vI z.1.aeN)), PV.nv (z.2 3) (PV.val (vI z.1.aeJ))]
def lA (zs : List (aR × (Nat → Value))) : List PV := [PV.sl aV (zs.map oR)]
end
def gk (id : Int) (v : aR) : Bool := decide (v.Id = id) && decide (v.aeJ = -1)
def gX (id : Int) (l : List aR) : Bool := l.any (gk id)
def fv (s : Store) (i : Nat) : List aR := s.aey.getD i []
def ci (s : Store) (id : Int) : Int := if s.aey.any (gX id) then ((s.aey.findIdx (gX id) : Nat) : Int) else -1
def me (s : Store) (id : Int) : Int := if s.aey.any (gX id) then (((fv s (s.aey.findIdx (gX id))).findIdx (gk id) : Nat) : Int) else -1
def EN {α : Type} {P : α → Bool} {l : List α} {k : Nat} (hk : k < l.length) (h : (l.take k).any P = false) (hy : P l[k] = true) : l.findIdx P = k := by
 rw [List.findIdx_eq hk]
 refine ⟨hy, fun j hj => ?_⟩
 rw [List.any_eq_false] at h
 have := h l[j] (by rw [AT]; exact ⟨j, by rw [bv]; omega, by simp⟩)
 simpa using this
def Re {s : Store} {id : Int} {i k : Nat} (hi : i < s.aey.length) (h1 : (s.aey.take i).any (gX id) = false) (hk : k < s.aey[i].length) (h2 : (s.aey[i].take k).any (gk id) = false) (hy : gk id s.aey[i][k] = true) : ci s id = (i : Int) ∧ me s id = (k : Int) := by
 have ha : gX id s.aey[i] = true := qZ hk hy
 have hany : s.aey.any (gX id) = true := qZ hi ha
 have e1 := EN hi h1 ha
 have e2 := EN hk h2 hy
 unfold ci me fv
 rw [if_pos hany, if_pos hany, e1, List.getD_eq_getElem?_getD, List.getElem?_eq_getElem hi]
 exact ⟨rfl, by show ((s.aey[i].findIdx (gk id) : Nat) : Int) = _; rw [e2]⟩
def Rf {s : Store} {id : Int} (h : s.aey.any (gX id) = false) : ci s id = -1 ∧ me s id = -1 := by
 unfold ci me
 rw [if_neg (by rw [h]; simp), if_neg (by rw [h]; simp)]
 exact ⟨rfl, rfl⟩
def nz {s : Store} {id : Int} (h : 0 ≤ ci s id) : ∃ i k : Nat, ∃ hi : i < s.aey.length, ∃ hk : k < s.aey[i].length, ci s id = (i : Int) ∧ me s id = (k : Int) ∧ gk id s.aey[i][k] = true := by
 unfold ci at h
 split at h
 ·rename_i ha
  obtain ⟨l, hl, hp⟩ := List.any_eq_true.1 ha
  have hi : s.aey.findIdx (gX id) < s.aey.length := List.findIdx_lt_length_of_exists ⟨l, hl, hp⟩
  have hpi : gX id (s.aey[s.aey.findIdx (gX id)]) = true := List.findIdx_getElem (w := hi)
  obtain ⟨v, hv, hvp⟩ := List.any_eq_true.1 hpi
  have hk : s.aey[s.aey.findIdx (gX id)].findIdx (gk id) < s.aey[s.aey.findIdx (gX id)].length := List.findIdx_lt_length_of_exists ⟨v, hv, hvp⟩
  refine ⟨_, _, hi, hk, ?_, ?_, List.findIdx_getElem (w := hk)⟩
  ·unfold ci; rw [if_pos ha]
  ·unfold me fv; rw [if_pos ha, List.getD_eq_getElem?_getD, List.getElem?_eq_getElem hi]; rfl
 ·omega
def gY (l : List aR) : Bool := decide ((l.length : Int) < 4)
def ik (L : List (List aR)) : Int := if L.any gY then ((L.findIdx gY : Nat) : Int) else -1
def Rg {L : List (List aR)} {k : Nat} (hk : k < L.length) (h : (L.take k).any gY = false) (hy : gY L[k] = true) : ik L = (k : Int) := by
 unfold ik; rw [if_pos (qZ hk hy), EN hk h hy]
def Rh {L : List (List aR)} (h : L.any gY = false) : ik L = -1 := if_neg (by rw [h]; simp)
def zV {L : List (List aR)} (h : 0 ≤ ik L) : ∃ r : Nat, ∃ hr : r < L.length, ik L = (r : Int) ∧ L[r].length < 4 := by
 unfold ik at h
 split at h
 ·rename_i ha
  obtain ⟨l, hl, hp⟩ := List.any_eq_true.1 ha
  have hr : L.findIdx gY < L.length := List.findIdx_lt_length_of_exists ⟨l, hl, hp⟩
  have hpi : gY L[L.findIdx gY] = true := List.findIdx_getElem (w := hr)
  refine ⟨_, hr, by unfold ik; rw [if_pos ha], ?_⟩
  have : ∀ l : List aR, gY l = true → l.length < 4 := fun l hl => by unfold gY at hl; simp only [decide_eq_true_eq] at hl; omega
  exact this _ hpi
 ·omega
def ja (n : Int) (v : aR) : aR := ⟨v.Id, v.Values, v.aeN, n⟩
def EO (s : Store) (i k : Int) : aR := (fv s i.toNat).getD k.toNat v0
def cH (s : Store) (u : aeC) : List (List aR) := if 0 ≤ ci s u.Row.Id then s.aey.set (ci s u.Row.Id).toNat ((fv s (ci s u.Row.Id).toNat).set (me s u.Row.Id).toNat (ja (s.Now + 1) (EO s (ci s u.Row.Id) (me s u.Row.Id)))) else s.aey
def fe (s : Store) (u : aeC) : List Int := if 0 ≤ ci s u.Row.Id then (EO s (ci s u.Row.Id) (me s u.Row.Id)).Values else u.Row.Values
def il (s : Store) (u : aeC) : List Int := if u.Kind = 3 then (fe s u).set u.Field.toNat u.Value else fe s u
def jb (s : Store) (u : aeC) : aR := ⟨u.Row.Id, il s u, s.Now + 1, -1⟩
def rD (L : List (List aR)) (r : Nat) (v : aR) : List (List aR) := L.set r (L.getD r [] ++ [v])
def gZ (s : Store) (u : aeC) : Bool := ((bQ s && gF u) && decide (s.Now < 100000)) && (decide (0 ≤ ci s u.Row.Id) == !decide (u.Kind = 1) && (decide (u.Kind = 2) || decide (0 ≤ ik s.aey)))
def tY (s : Store) (u : aeC) : Store := ⟨if u.Kind = 2 then cH s u else rD (cH s u) (ik s.aey).toNat (jb s u), s.Now + 1⟩
def cQ (s : Store) (u : aeC) : Store × Bool := if gZ s u then (tY s u, true) else (s, false)
def rE {s : Store} {u : aeC} (h : gZ s u = false) : cQ s u = (s, false) := if_neg (by rw [h]; simp)
def zW {s : Store} {u : aeC} (h : gZ s u = true) : cQ s u = (tY s u, true) := if_pos h
def oS {s : Store} {u : aeC} (h : gZ s u = true) (hk : u.Kind = 2) : cQ s u = (⟨cH s u, s.Now + 1⟩, true) := by rw [zW h]; unfold tY; rw [if_pos hk]
def rF {s : Store} {u : aeC} {r : Nat} (h : gZ s u = true) (hk : ¬ u.Kind = 2) (hr : ik s.aey = (r : Int)) : cQ s u = (⟨rD (cH s u) r (jb s u), s.Now + 1⟩, true) := by
 rw [zW h]; unfold tY; rw [if_neg hk, hr]; rfl
def mf {s : Store} {u : aeC} {i k : Nat} (hi : i < s.aey.length) (hk : k < s.aey[i].length) (h1 : ci s u.Row.Id = (i : Int)) (h2 : me s u.Row.Id = (k : Int)) : cH s u = s.aey.set i (s.aey[i].set k (ja (s.Now + 1) s.aey[i][k])) ∧ fe s u = s.aey[i][k].Values := by
 have e1 : fv s i = s.aey[i] := by unfold fv; simp [hi]
 unfold cH fe EO
 rw [h1, h2, if_pos (by omega), if_pos (by omega), Int.toNat_natCast, Int.toNat_natCast, e1]
 simp [hk]
def nA {s : Store} {u : aeC} (h : ¬ 0 ≤ ci s u.Row.Id) : cH s u = s.aey ∧ fe s u = u.Row.Values := by
 unfold cH fe; rw [if_neg h, if_neg h]; exact ⟨rfl, rfl⟩
def Ri (s : Store) (u : aeC) : (cH s u).map List.length = s.aey.map List.length := by
 by_cases h : 0 ≤ ci s u.Row.Id
 ·obtain ⟨i, k, hi, hk, h1, h2, _⟩ := nz h
  rw [(mf hi hk h1 h2).1]
  apply List.ext_getElem
  ·simp
  ·intro j hj1 hj2
   simp only [List.getElem_map, List.getElem_set]
   split
   ·rename_i hij; subst hij; simp
   ·rfl
 ·rw [(nA h).1]
def oT (s : Store) (u : aeC) : (cH s u).length = s.aey.length := by
 have := congrArg List.length (Ri s u)
 simpa using this
def zX (s : Store) (u : aeC) {k : Nat} (hk : k < (cH s u).length) (hk2 : k < s.aey.length) : (cH s u)[k].length = s.aey[k].length := by
 have h := Ri s u
 have := List.getElem_of_eq h (show k < ((cH s u).map List.length).length by rw [aw]; exact hk)
 simpa using this
def XB (n : Int) (v : aR) : cw (ja n v) = cw v := by unfold ja cw; simp only [bf]
def zY {α : Type} {f : α → Nat} : ∀ {l : List α} {i : Nat} {x : α} (hi : i < l.length), ((l.set i x).map f).sum + f l[i] = (l.map f).sum + f x
 | y :: l, 0, x, _ => by simp; omega
 | y :: l, i + 1, x, h => by
  have := zY (f := f) (l := l) (i := i) (x := x) (by simpa using h)
  simp only [List.set_cons_succ, List.map_cons, List.sum_cons, List.getElem_cons_succ]
  omega
def Rj (s : Store) (u : aeC) : fW (cH s u) = fW s.aey := by
 by_cases h : 0 ≤ ci s u.Row.Id
 ·obtain ⟨i, k, hi, hk, h1, h2, _⟩ := nz h
  rw [(mf hi hk h1 h2).1]
  have e1 := zY (f := co) (x := s.aey[i].set k (ja (s.Now + 1) s.aey[i][k])) hi
  have e2 := zY (f := cw) (x := ja (s.Now + 1) s.aey[i][k]) hk
  rw [XB] at e2
  have e3 : co (s.aey[i].set k (ja (s.Now + 1) s.aey[i][k])) = co s.aey[i] := by unfold co; rw [List.length_set]; omega
  unfold fW
  rw [List.length_set]; omega
 ·rw [(nA h).1]
def Rk (s : Store) (u : aeC) : (il s u).length ≤ cB s + lp u := by
 have h0 : (il s u).length = (fe s u).length := by unfold il; split <;> simp
 rw [h0]
 by_cases h : 0 ≤ ci s u.Row.Id
 ·obtain ⟨i, k, hi, hk, h1, h2, _⟩ := nz h
  rw [(mf hi hk h1 h2).2]
  have w1 := di (f := co) hi
  have w2 := di (f := cw) hk
  have w3 : co s.aey[i] = s.aey[i].length + (s.aey[i].map cw).sum := rfl
  have w4 : cw s.aey[i][k] = s.aey[i][k].Values.length := by simp only [cw, dE, bf]; omega
  unfold cB fW
  simp only [bf]; omega
 ·rw [(nA h).2]
  unfold lp fJ
  simp only [dE, bf]; omega
def zZ {s : Store} {u : aeC} (hs : bQ s = true) (h : 0 ≤ ci s u.Row.Id) : (fe s u).length = 3 := by
 obtain ⟨i, k, hi, hk, h1, h2, _⟩ := nz h
 rw [(mf hi hk h1 h2).2]
 have hv := EE hs hi hk
 unfold dv at hv
 rw [aS] at hv
 exact rg hv.1
def EP {u : aeC} (h : gF u = true) (hk : u.Kind = 3) : 0 ≤ u.Field ∧ u.Field ≤ 2 := by
 unfold gF at h
 rw [if_neg (by omega), if_neg (by omega), if_pos hk] at h
 simp only [aS, aK, decide_eq_true_eq] at h
 exact h.2.1
def Aa {s : Store} {u : aeC} (h1 : bQ s = true) (h2 : gF u = true) (h3 : s.Now < 100000) (h4 : 0 ≤ ci s u.Row.Id ↔ ¬ u.Kind = 1) (h5 : u.Kind = 2 ∨ 0 ≤ ik s.aey) : gZ s u = true := by
 unfold gZ
 rw [h1, h2, decide_eq_true h3]
 have e1 : (decide (0 ≤ ci s u.Row.Id) == !decide (u.Kind = 1)) = true := by
  by_cases a : 0 ≤ ci s u.Row.Id <;> by_cases b : u.Kind = 1 <;> simp_all
 have e2 : (decide (u.Kind = 2) || decide (0 ≤ ik s.aey)) = true := by
  rcases h5 with h | h <;> simp [h]
 rw [e1, e2]; rfl
def oU {s : Store} {u : aeC} (h : gZ s u = true) : bQ s = true ∧ gF u = true ∧ s.Now < 100000 ∧ (0 ≤ ci s u.Row.Id ↔ ¬ u.Kind = 1) ∧ (u.Kind = 2 ∨ 0 ≤ ik s.aey) := by
 unfold gZ at h
 simp only [aS, Bool.or_eq_true, decide_eq_true_eq] at h
 obtain ⟨⟨⟨h1, h2⟩, h3⟩, h4, h5⟩ := h
 refine ⟨h1, h2, h3, ?_, h5⟩
 by_cases a : 0 ≤ ci s u.Row.Id <;> by_cases b : u.Kind = 1 <;> simp_all
def pW {L : List (List aR)} {r : Nat} {v : aR} (hr : r < L.length) : rD L r v = L.set r (L[r] ++ [v]) := by unfold rD; simp [hr]
def Rl {α : Type} {d : α} {p : α → Bool} {key : α → Int} {l : List α} (h : dG d p (fun a b => decide (key a < key b)) l = true) : l.Pairwise (fun a b => key a < key b) := by
 have step : ∀ j : Nat, (hj : j + 1 < l.length) → key l[j] < key l[j + 1] := fun j hj => by
  have h1 := List.all_eq_true.1 h (j + 1) (List.mem_range.2 hj)
  rw [aS, eO hj, show j + 1 - 1 = j from rfl, eO (show j < l.length by omega)] at h1
  have h2 := h1.2
  simpa using h2
 have lt : ∀ (j i : Nat) (hj : j < l.length) (hi : i < j), key l[i] < key l[j] := by
  intro j
  induction j with
  | zero => intro i _ hi; omega
  | succ j ih =>
   intro i hj hi
   have h1 := step j hj
   rcases Nat.lt_or_ge i j with h2 | h2
   ·have := ih i (by omega) h2; omega
   ·have : i = j := by omega
    subst this; exact h1
 rw [List.pairwise_iff_getElem]
 exact fun i j hi hj hij => lt j i hj hij
def XC {l : List Int} (h : ∀ x ∈ l, 0 ≤ x ∧ x ≤ 23) (hp : l.Pairwise (· < ·)) : dM l = true := by
 unfold dM
 rw [iI]
 intro i hi
 have hi := List.mem_range.1 hi
 rw [List.pairwise_iff_getElem] at hp
 refine zB.2 ?_
 rw [show l.getD i 0 = l[i] by simp [hi]]
 have := h _ (List.getElem_mem hi)
 refine ⟨this.1, this.2, ?_⟩
 rcases Nat.eq_zero_or_pos i with h0 | h0
 ·exact .inl h0
 ·right
  rw [show l.getD (i - 1) 0 = l[i - 1]'(by omega) by simp [show i - 1 < l.length by omega]]
  exact hp (i - 1) i (by omega) hi (by omega)
def XD {l : List eI} {s : eI} {v : Int} (h : ig v s = false) : gL (l ++ [s]) v = gL l v := by
 unfold gL
 rw [List.find?_append]
 cases hf : l.find? (ig v) with
 | some t => rfl
 | none => simp [h]
def XE {l : List eI} {s : eI} {v : Int} (hl : ∀ t ∈ l, ig v t = false) (h : ig v s = true) : gL (l ++ [s]) v = s.Set := by
 unfold gL
 rw [List.find?_append, List.find?_eq_none.2 (fun t ht => by simp [hl t ht])]
 simp [h]
structure EQ (l : List aeA) (f : Int) (k : Nat) (out : List eI) : Prop where
 none : k = 0 → out = []
 some : 0 < k → ∃ (a : List eI) (s : eI), out = a ++ [s] ∧ s.To = (k : Int) - 1 ∧ s.From ≤ (k : Int) - 1 ∧ (∀ v : Int, s.From ≤ v → v ≤ (k : Int) - 1 → fY l f v = s.Set) ∧ (∀ t ∈ a, t.To < s.From) ∧ (∀ v : Int, 0 ≤ v → v < s.From → gL a v = fY l f v)
def EQ.find {l : List aeA} {f : Int} {k : Nat} {out : List eI} (h : EQ l f k out) {v : Int} (h0 : 0 ≤ v) (hv : v < k) : gL out v = fY l f v := by
 obtain ⟨a, s, rfl, h1, h2, h3, h4, h5⟩ := h.some (by omega)
 by_cases hc : s.From ≤ v
 ·rw [XE (fun t ht => by have := h4 t ht; simp [ig, aK]; omega) (by simp [ig, aK]; omega), h3 v hc (by omega)]
 ·rw [XD (by simp [ig, aK]; omega), h5 v h0 (by omega)]
def Rm (l : List aeA) (f : Int) : ∀ k : Nat, EQ l f k (du l f k)
 | 0 => ⟨fun _ => rfl, fun h => absurd h (Nat.lt_irrefl 0)⟩
 | k + 1 => by
  have ih := Rm l f k
  refine ⟨fun h => by omega, fun _ => ?_⟩
  rw [du]
  have fresh : ∃ (a : List eI) (s : eI), du l f k ++ [⟨(k : Int), (k : Int), fY l f k⟩] = a ++ [s] ∧ s.To = ((k + 1 : Nat) : Int) - 1 ∧ s.From ≤ ((k + 1 : Nat) : Int) - 1 ∧ (∀ v : Int, s.From ≤ v → v ≤ ((k + 1 : Nat) : Int) - 1 → fY l f v = s.Set) ∧ (∀ t ∈ a, t.To < s.From) ∧ (∀ v : Int, 0 ≤ v → v < s.From → gL a v = fY l f v) := by
   refine ⟨_, _, rfl, by dsimp only; omega, by dsimp only; omega, fun v h1 h2 => ?_, fun t ht => ?_, fun v h1 h2 => ih.find h1 h2⟩
   ·dsimp only at h1 ⊢
    rw [show v = (k : Int) by omega]
   ·dsimp only
    rcases Nat.eq_zero_or_pos k with h0 | h0
    ·rw [ih.none h0] at ht; cases ht
    ·obtain ⟨a, s, he, h1, h2, _, h4, _⟩ := ih.some h0
     rw [he] at ht
     rcases List.mem_append.1 ht with ht | ht
     ·have := h4 t ht; omega
     ·simp at ht; subst ht; omega
  unfold tV
  split
  ·rename_i hl
   rcases Nat.eq_zero_or_pos k with h0 | h0
   ·rw [ih.none h0] at hl; cases hl
   ·obtain ⟨a, s, he, h1, h2, h3, h4, h5⟩ := ih.some h0
    rw [he] at hl ⊢
    have hlen : (a ++ [s]).length - 1 = a.length := by simp
    have hg : (a ++ [s]).getD a.length kL = s := by simp
    unfold mK at hl
    rw [hlen, hg, aS] at hl
    have hs : s.Set = fY l f k := fh.1 hl.2
    rw [hlen, hg, List.set_append_right (h := Nat.le_refl _), Nat.sub_self, List.set_cons_zero]
    refine ⟨a, _, rfl, by dsimp only; omega, by dsimp only; omega, fun v k1 k2 => ?_, h4, h5⟩
    dsimp only at k1 ⊢
    by_cases hk : v = (k : Int)
    ·rw [hk, hs]
    ·exact h3 v k1 (by omega)
  ·exact fresh
def XF {l : List aeA} {f v : Int} (hl : dK l = true) (hf : 0 ≤ f ∧ f ≤ 2) (hv : 0 ≤ v ∧ v ≤ 99) : gL (gK l f) v = fY l f v := by
 have hc : (dK l && aK f 0 2) = true := by rw [hl, Bool.true_and]; exact oC.2 hf
 unfold gK
 rw [if_pos hc]
 have h := Rm l f 100
 generalize du l f 100 = out at h ⊢
 exact h.find hv.1 (by omega)
def Rn {l : List aeA} (h : dK l = true) : l.Pairwise (fun a b => a.Id < b.Id) := by
 unfold dK at h
 rw [aS] at h
 exact Rl h.1
def XG {q : aeA} (h : ck q = true) : 0 ≤ q.Id ∧ q.Id ≤ 23 := by
 unfold ck at h
 simp only [aS, aK, decide_eq_true_eq] at h
 exact h.1.1
def ER {l : List aeA} (h : dK l = true) (P : aeA → Bool) : dM ((l.filter P).map aeA.Id) = true := by
 refine XC (fun x hx => ?_) ?_
 ·obtain ⟨q, hq, rfl⟩ := List.mem_map.1 hx
  exact XG ((pP h).2 q (List.mem_filter.1 hq).1)
 ·rw [List.pairwise_map]
  exact (Rn h).filter P
def XH {α : Type} {key : α → Int} {l : List α} (h : l.Pairwise (fun a b => key a < key b)) {a b : α} (ha : a ∈ l) (hb : b ∈ l) (he : key a = key b) : a = b := by
 obtain ⟨i, hi, rfl⟩ := List.mem_iff_getElem.1 ha
 obtain ⟨j, hj, rfl⟩ := List.mem_iff_getElem.1 hb
 rw [List.pairwise_iff_getElem] at h
 rcases Nat.lt_trichotomy i j with h1 | h1 | h1
 ·have := h i j hi hj h1; omega
 ·subst h1; rfl
 ·have := h j i hj hi h1; omega
def Ro {l : List aeA} (h : dK l = true) (P : aeA → Bool) {q : aeA} (hq : q ∈ l) : bB ((l.filter P).map aeA.Id) q.Id = P q := by
 rw [Bool.eq_iff_iff, Em, ut]
 constructor
 ·rintro ⟨r, hr, he⟩
  have hr := List.mem_filter.1 hr
  rw [← XH (Rn h) hr.1 hq he]; exact hr.2
 ·intro hp
  exact ⟨q, List.mem_filter.2 ⟨hq, hp⟩, rfl⟩
def XI {l : List aeA} (h : dK l = true) (P A : aeA → Bool) : oB ((l.filter P).map aeA.Id) ((l.filter A).map aeA.Id) = (l.filter fun q => P q && A q).map aeA.Id := by
 unfold oB
 rw [ER h P, ER h A, Bool.and_self, if_pos rfl, ← Eo (ER h P), List.filter_map, List.filter_filter]
 congr 1
 refine List.filter_congr fun q hq => ?_
 show (bB ((l.filter A).map aeA.Id) q.Id && P q) = _
 rw [Ro h A hq, Bool.and_comm]
def Rp {l : List aeA} {x : jT} {r : Row} (hl : dK l = true) (hx : ∀ f : Int, 0 ≤ f → f ≤ 2 → x.Fields.getD f.toNat [] = gK l f) (hv : ∀ f : Int, 0 ≤ f → f ≤ 2 → 0 ≤ gU r.Values f ∧ gU r.Values f ≤ 99) : ∀ (o : List Int) (P : aeA → Bool) (s : List Int × Int), (∀ f ∈ o, 0 ≤ f ∧ f ≤ 2) → s.1 = (l.filter P).map aeA.Id → (o.foldl (oL x r) s).1 = (l.filter fun q => P q && o.all fun f => iU q f (gU r.Values f)).map aeA.Id
 | [], P, s, _, hs => by rw [List.foldl_nil, hs]; simp
 | f :: o, P, s, ho, hs => by
  rw [List.foldl_cons]
  have hf := ho f (List.mem_cons_self ..)
  have hn : (oL x r s f).1 = (l.filter fun q => P q && iU q f (gU r.Values f)).map aeA.Id := by
   unfold oL
   split
   ·rename_i h0
    rw [h0] at hs
    rw [h0, eq_comm, List.map_eq_nil_iff, List.filter_eq_nil_iff]
    intro q hq hp
    rw [aS] at hp
    have : q.Id ∈ (l.filter P).map aeA.Id := List.mem_map_of_mem (List.mem_filter.2 ⟨hq, hp.1⟩)
    rw [← hs] at this; cases this
   ·dsimp only
    rw [hs, hx f hf.1 hf.2, XF hl hf (hv f hf.1 hf.2)]
    exact XI hl P _
  rw [Rp hl hx hv o _ _ (fun g hg => ho g (List.mem_cons_of_mem _ hg)) hn]
  congr 1
  refine List.filter_congr fun q _ => ?_
  rw [List.all_cons, Bool.and_assoc]
def XJ {o : List Int} (h : gw o = true) : (0 : Int) ∈ o ∧ (1 : Int) ∈ o ∧ (2 : Int) ∈ o := by
 unfold gw at h
 simp only [aS, Em] at h
 exact h.2
def XK {r : Row} (h : cf r = true) {f : Int} (h0 : 0 ≤ f) (h2 : f ≤ 2) : 0 ≤ gU r.Values f ∧ gU r.Values f ≤ 99 := by
 have hl := rg h
 unfold cf at h
 simp only [aS] at h
 have hlt : f.toNat < r.Values.length := by omega
 have := List.all_eq_true.1 h.1 _ (List.getElem_mem hlt)
 unfold gU
 rw [eO hlt]
 exact oC.1 this
def XL {o : List Int} {q : aeA} {r : Row} (ho : gw o = true) (hr : cf r = true) (hq : ck q = true) : (o.all fun f => iU q f (gU r.Values f)) = dN q r := by
 rw [Bool.eq_iff_iff, iI]
 unfold dN
 rw [hr, hq, Bool.and_self, Bool.true_and, iI]
 constructor
 ·intro h c hc
  have hf := Es hq hc
  have hfo : c.Field ∈ o := by
   have := XJ ho
   have : c.Field = 0 ∨ c.Field = 1 ∨ c.Field = 2 := by omega
   rcases this with h | h | h <;> rw [h] <;> simp_all
  have := List.all_eq_true.1 (h _ hfo) c hc
  simpa [iA, lV] using this
 ·intro h f _
  unfold iU
  rw [iI]
  intro c hc
  have := h c hc
  unfold iA
  by_cases he : c.Field = f
  ·subst he; unfold lV at this; simp [this]
  ·simp [he]
def XM {l : List aeA} {r : Row} {o : List Int} {q : aeA} (hl : dK l = true) (hr : cf r = true) (ho : gw o = true) (hq : q ∈ l) : bB (ru (mL l) r o).1 q.Id = dN q r := by
 have hb : mL l = ⟨l, [gK l 0, gK l 1, gK l 2]⟩ := if_pos hl
 rw [hb]
 unfold ru
 rw [Rp (l := l) hl (fun f h0 h2 => by
  have : f = 0 ∨ f = 1 ∨ f = 2 := by omega
  rcases this with rfl | rfl | rfl <;> rfl) (fun f h0 h2 => XK hr h0 h2) o (fun _ => true) _ (Qv ho).2 (by
   show l.map aeA.Id = _
   rw [List.filter_eq_self.2 (fun _ _ => rfl)]), Ro hl _ hq, Bool.true_and, XL ho hr ((pP hl).2 q hq)]
def XN {l : List aeA} (h : dK l = true) : zz l ≤ 1000 := by
 have h1 := pP h
 have h2 : ∀ q ∈ l, eZ q ≤ 10 := fun q hq => by
  have := WL (h1.2 q hq)
  have hc : ∀ c : List gT, (c.map wn).sum = 0 := by
   intro c
   induction c with
   | nil => rfl
   | cons a c ih => rw [List.map_cons, List.sum_cons, ih]; rfl
  unfold eZ tO
  simp only [dE, bf, hc]
  omega
 have h3 : (l.map eZ).sum ≤ l.length * 10 := by
  clear h h1
  induction l with
  | nil => simp
  | cons q l ih =>
   have a := h2 q (by simp)
   have b := ih fun x hx => h2 x (by simp [hx])
   simp only [List.map_cons, List.sum_cons, List.length_cons, Nat.succ_mul]; omega
 unfold zz
 have : l.length * 10 ≤ 24 * 10 := Nat.mul_le_mul h1.1 (Nat.le_refl _)
 omega
def XO {l : List aeA} {k : Nat} : pQ l (k + 1) = pQ l k ++ [gK l (k : Int)] := by unfold pQ; rw [List.range_succ, bj]; rfl
def XP {l : List aeA} {k : Nat} : (pQ l k).length = k := by unfold pQ; rw [aw, List.length_range]
def XQ {l : List aeA} (h : dK l = true) : mL l = ⟨l, pQ l 3⟩ := by unfold mL; rw [if_pos h]; rfl
def XR {l : List aeA} (h : dK l = false) : mL l = ⟨[], []⟩ := by unfold mL; rw [if_neg (by rw [h]; simp)]
end Go.Proofs.YtmekkgdboplbjaaGreat
