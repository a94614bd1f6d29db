/- Definitions and their laws. No condition. -/
import Derived.Test.YtmekkgdboplbjaaGreatDoorCC0
import Derived.Test.YtmekkgdboplbjaaGreatDoorProg
set_option linter.all false
namespace Go.Proofs.YtmekkgdboplbjaaGreatDoor
open Go Go.RowKit M Tryz
set_option maxRecDepth 10000
section
section
variable {α : Type} {P : α → Bool} {xs ys : List α} {k : Nat}
def AA (h : (xs.take k).all P = true) (hk : k < xs.length) (hp : P xs[k] = true) : (xs.take (k + 1)).all P = true := by
 rw [cZ hk, List.all_append, h]; simp [hp]
def lP (hk : k < xs.length) (hp : P xs[k] = false) : xs.all P = false := by
 rw [List.all_eq_false]; exact ⟨_, List.getElem_mem hk, by rw [hp]; simp⟩
def ky (h : (xs.take xs.length).all P = true) : xs.all P = true := by rwa [bY] at h
def tN (h : (xs.take k).any P = false) (hk : k < xs.length) (hp : P xs[k] = false) : (xs.take (k + 1)).any P = false := by
 rw [cZ hk, List.any_append, h]; simp [hp]
def rt (hk : k < xs.length) (hp : P xs[k] = true) : xs.any P = true := by
 rw [List.any_eq_true]; exact ⟨_, List.getElem_mem hk, hp⟩
def PG (h : (xs.take xs.length).any P = false) : xs.any P = false := by rwa [bY] at h
def PH (h : xs.take k = ys.take k) (hk : k < xs.length) (hk' : k < ys.length) (he : xs[k] = ys[k]) : xs.take (k + 1) = ys.take (k + 1) := by
 rw [cZ hk, cZ hk', h, he]
def PI (hk : k < xs.length) (hk' : k < ys.length) (he : ¬ xs[k] = ys[k]) : ¬ xs = ys := by
 rintro rfl; exact he rfl
def PJ (hl : xs.length = ys.length) (h : xs.take xs.length = ys.take xs.length) : xs = ys := by
 rw [bY] at h; rw [h, hl, bY]
def PK {f : α → Nat} (hk : k < xs.length) : ((xs.take (k + 1)).map f).sum = ((xs.take k).map f).sum + f xs[k] := by
 rw [cZ hk, bb, List.sum_append]; simp
def PL {f : α → Nat} (xs : List α) (k : Nat) : ((xs.take k).map f).sum ≤ (xs.map f).sum := by
 have h : xs = xs.take k ++ xs.drop k := (fq _ _).symm
 have e : (xs.map f).sum = ((xs.take k).map f).sum + ((xs.drop k).map f).sum := by
  rw [← List.sum_append, ← bb, ← h]
 omega
def fe {f : α → Nat} (hk : k < xs.length) : f xs[k] ≤ (xs.map f).sum := by
 have h1 := PK (f := f) hk
 have h2 := PL (f := f) xs (k + 1)
 omega
noncomputable def oN (x y : α) : Bool := @decide (x = y) (Classical.propDecidable _)
def AB {x y : α} (h : x = y) : oN x y = true := @decide_eq_true _ (Classical.propDecidable _) h
def JH {x y : α} (h : ¬ x = y) : oN x y = false := @decide_eq_false _ (Classical.propDecidable _) h
def JI {x y : α} : oN x y = true ↔ x = y := @decide_eq_true_iff _ (Classical.propDecidable _)
def ru (x : α) : oN x x = true := AB rfl
end
def nG {us : List Value} (h : us.length = 1) : ∃ v0, us = [v0] := by
 rcases us with _ | ⟨v0, _ | ⟨v1, vs⟩⟩ <;> first | exact ⟨_, rfl⟩ | (simp at h; try omega)
def PM {us : List Value} (h : us.length = 2) : ∃ v0 v1, us = [v0, v1] := by
 rcases us with _ | ⟨v0, _ | ⟨v1, _ | ⟨v2, vs⟩⟩⟩ <;> first | exact ⟨_, _, rfl⟩ | (simp at h; try omega)
def rx {us : List Value} (h : us.length = 8) : ∃ v0 v1 v2 v3 v4 v5 v6 v7, us = [v0, v1, v2, v3, v4, v5, v6, v7] := by
 rcases us with _ | ⟨v0, _ | ⟨v1, _ | ⟨v2, _ | ⟨v3, _ | ⟨v4, _ | ⟨v5, _ | ⟨v6, _ | ⟨v7, _ | ⟨v8, vs⟩⟩⟩⟩⟩⟩⟩⟩⟩ <;> first | exact ⟨_, _, _, _, _, _, _, _, rfl⟩ | (simp at h; try omega)
def JJ {us : List Value} (h : us.length = 10) : ∃ v0 v1 v2 v3 v4 v5 v6 v7 v8 v9, us = [v0, v1, v2, v3, v4, v5, v6, v7, v8, v9] := by
 rcases us with _ | ⟨v0, _ | ⟨v1, _ | ⟨v2, _ | ⟨v3, _ | ⟨v4, _ | ⟨v5, _ | ⟨v6, _ | ⟨v7, _ | ⟨v8, _ | ⟨v9, _ | ⟨v10, vs⟩⟩⟩⟩⟩⟩⟩⟩⟩⟩⟩ <;> first | exact ⟨_, _, _, _, _, _, _, _, _, _, rfl⟩ | (simp at h; try omega)
def jL (x : Int) : List PV := [PV.val (.int .u8 x)]
def JK (x : Int) : Prop := 0 ≤ x ∧ x ≤ 255
def PN (o0 : Fl) (x : List Int) : List PV := [PV.sl o0 (x.map jL)]
def PO (x : List Int) : Prop := ∀ y ∈ x, JK y
def an (x : Int) : List PV := [PV.val (vI x)]
def bh (_x : Int) : Nat := 0
def PP (o0 : Fl) (x : List Int) : List PV := [PV.sl o0 (x.map an)]
def mB (x : List Int) : Nat := x.length + (x.map bh).sum
structure iw where
 Field : Int
 Low : Int
 High : Int
def dj (x : iw) : List PV := [PV.val (vI x.Field), PV.val (vI x.Low), PV.val (vI x.High)]
def wH (x : iw) : Nat := bh x.Field + bh x.Low + bh x.High
structure Row where
 Id : Int
 Values : List Int
def dt (o0 : Fl) (x : Row) : List PV := [PV.val (vI x.Id), PV.sl o0 (x.Values.map an)]
def iZ (x : Row) : Nat := bh x.Id + mB x.Values
def ry (x : List iw) : Nat := x.length + (x.map wH).sum
structure ZI where
 Kind : Int
 Row : Row
 Field : Int
 Value : Int
def oO (x : ZI) : Nat := bh x.Kind + iZ x.Row + bh x.Field + bh x.Value
structure ZG where
 Id : Int
 ZK : Int
 ZH : List iw
 Out : List Int
def kz (o0 o1 : Fl) (x : ZG) : List PV := [PV.val (vI x.Id), PV.val (vI x.ZK), PV.sl o0 (x.ZH.map dj), PV.sl o1 (x.Out.map an)]
def eM (x : ZG) : Nat := bh x.Id + bh x.ZK + ry x.ZH + mB x.Out
structure AC where
 Kind : Int
 ZG : ZG
 Limit : Int
 Id : Int
 ZI : ZI
 Steps : Int
def gm (x : List Row) : Nat := x.length + (x.map iZ).sum
structure ZF where
 ZG : ZG
 Time : Int
 ZO : List Int
 Age : Int
 Sent : Int
 Cap : Int
 Rows : List Row
def bq (o0 o1 o2 o3 o4 : Fl) (x : ZF) : List PV := [PV.val (vI x.ZG.Id), PV.val (vI x.ZG.ZK), PV.sl o0 (x.ZG.ZH.map dj), PV.sl o1 (x.ZG.Out.map an), PV.val (vI x.Time), PV.sl o2 (x.ZO.map an), PV.val (vI x.Age), PV.val (vI x.Sent), PV.val (vI x.Cap), PV.sl o3 (x.Rows.map (dt o4))]
def cS (x : ZF) : Nat := eM x.ZG + bh x.Time + mB x.ZO + bh x.Age + bh x.Sent + bh x.Cap + gm x.Rows
def ix (x : List ZF) : Nat := x.length + (x.map cS).sum
structure bM where
 Segment : Int
 Base : Int
 Ids : List Int
 ZL : List Int
 Rows : List Int
def bF (o0 o1 o2 : Fl) (x : bM) : List PV := [PV.val (vI x.Segment), PV.val (vI x.Base), PV.sl o0 (x.Ids.map an), PV.sl o1 (x.ZL.map an), PV.sl o2 (x.Rows.map an)]
def oP (x : bM) : Nat := bh x.Segment + bh x.Base + mB x.Ids + mB x.ZL + mB x.Rows
def hZ (x : List bM) : Nat := x.length + (x.map oP).sum
structure aM where
 Id : Int
 Values : List Int
 ZT : Int
 ZP : Int
def ff (o0 : Fl) (x : aM) : List PV := [PV.val (vI x.Id), PV.sl o0 (x.Values.map an), PV.val (vI x.ZT), PV.val (vI x.ZP)]
def cw (x : aM) : Nat := bh x.Id + mB x.Values + bh x.ZT + bh x.ZP
def aO (o0 o1 : Fl) (x : List aM) : List PV := [PV.sl o0 (x.map (ff o1))]
def cb (x : List aM) : Nat := x.length + (x.map cw).sum
def gN (x : List (List aM)) : Nat := x.length + (x.map cb).sum
structure Store where
 ZE : List (List aM)
 Now : Int
def cq (x : Store) : Nat := gN x.ZE + bh x.Now
structure eE where
 ZG : ZG
 Time : Int
 Steps : Int
 Rows : List Row
def bN (o0 o1 o2 o3 : Fl) (x : eE) : List PV := [PV.val (vI x.ZG.Id), PV.val (vI x.ZG.ZK), PV.sl o0 (x.ZG.ZH.map dj), PV.sl o1 (x.ZG.Out.map an), PV.val (vI x.Time), PV.val (vI x.Steps), PV.sl o2 (x.Rows.map (dt o3))]
def qf (x : eE) : Nat := eM x.ZG + bh x.Time + bh x.Steps + gm x.Rows
def mC (x : List eE) : Nat := x.length + (x.map qf).sum
structure ay where
 Store : Store
 ZJ : Int
 Order : List Int
 ZF : List ZF
 Done : List eE
 ZR : List bM
 Steps : Int
def bB (x : ay) : Nat := cq x.Store + bh x.ZJ + mB x.Order + ix x.ZF + mC x.Done + hZ x.ZR + bh x.Steps
def wI (x : List ZG) : Nat := x.length + (x.map eM).sum
structure eb where
 From : Int
 To : Int
 Set : List Int
def oQ (o0 : Fl) (x : eb) : List PV := [PV.val (vI x.From), PV.val (vI x.To), PV.sl o0 (x.Set.map an)]
def AD (o0 o1 : Fl) (x : List eb) : List PV := [PV.sl o0 (x.map (oQ o1))]
structure ja where
 Queries : List ZG
 Fields : List (List eb)
def AE (o0 o1 o2 o3 o4 o5 : Fl) (x : ja) : List PV := [PV.sl o0 (x.Queries.map (kz o1 o2)), PV.sl o3 (x.Fields.map (AD o4 o5))]
def rz {α : Type} {xs : List α} {k : Nat} (hk : k < xs.length) : xs.take (k + 1) = xs.take k ++ [xs[k]] := cZ hk
def cU {α : Type} {l : List α} {d : α} {i : Nat} (h : i < l.length) : l[i] = l.getD i d := by simp [h]
def kC {α β : Type} {l : List α} {f : α → β} {k : Nat} (h : k < l.length) : (l.take (k + 1)).map f = (l.take k).map f ++ [f l[k]] := by
 rw [cZ h, bb]; rfl
def JL {a b : Int} : (a == b) = decide (a = b) := rfl
def dP (x : List Int) : mB x = x.length := by
 have h : ∀ l : List Int, (l.map bh).sum = 0 := by
  intro l
  induction l with
  | nil => rfl
  | cons a l ih => rw [List.map_cons, List.sum_cons, ih]; rfl
 simp [mB, h]
def bP (xs : List Int) (x : Int) : Bool := xs.any (fun y => y == x)
def aB (n l h : Int) : Bool := decide (l ≤ n) && decide (n ≤ h)
def iy (v : Int) : Bool := aB v 0 99
def bp (r : Row) : Bool := r.Values.all iy && (aB r.Id 0 999 && decide ((r.Values.length : Int) = 3))
def fg (l : List Row) : Bool := l.all bp && decide ((l.length : Int) ≤ 1000)
def kD (x : bW) : List PV := [PV.val (.string (B x))]
def du (l : List Int) : Bool := (List.range l.length).all fun i => aB (l.getD i 0) 0 23 && (i == 0 || decide (l.getD (i - 1) 0 < l.getD i 0))
def tO (l : List Int) (k : Nat) : Bool := (List.range k).all fun i => aB (l.getD i 0) 0 23 && (i == 0 || decide (l.getD (i - 1) 0 < l.getD i 0))
def PQ {l : List Int} {k : Nat} : tO l (k + 1) = (tO l k && (aB (l.getD k 0) 0 23 && (k == 0 || decide (l.getD (k - 1) 0 < l.getD k 0)))) := by
 simp [tO, List.range_succ]
def PR {l : List Int} {k : Nat} (hk : k < l.length) (h : (aB (l.getD k 0) 0 23 && (k == 0 || decide (l.getD (k - 1) 0 < l.getD k 0))) = false) : du l = false := by
 cases hs : du l with
 | false => rfl
 | true =>
  have := List.all_eq_true.1 hs k (List.mem_range.2 hk)
  rw [h] at this; cases this
def wJ {l : List Int} {k : Nat} : (aB (l.getD k 0) 0 23 && (k == 0 || decide (l.getD (k - 1) 0 < l.getD k 0))) = true ↔ (0 ≤ l.getD k 0 ∧ l.getD k 0 ≤ 23 ∧ (k = 0 ∨ l.getD (k - 1) 0 < l.getD k 0)) := by
 simp [aB, and_assoc]
def lQ (q : Int → Bool) (k : Nat) : List Int := ((List.range k).map fun i : Nat => (i : Int)).filter q
def PS {q : Int → Bool} {k : Nat} : lQ q (k + 1) = lQ q k ++ if q k then [(k : Int)] else [] := by
 simp only [lQ, List.range_succ, bb, fK, List.map_cons, List.map_nil, List.filter_cons, List.filter_nil]
def JM (q : Int → Bool) (k : Nat) : (lQ q k).length ≤ k := by
 have := il q ((List.range k).map fun i : Nat => (i : Int))
 simpa [lQ] using this
def nH (a b : List Int) : List Int := if du a && du b then lQ (fun x => bP a x && bP b x) 24 else []
def AF {l : List Int} {x : Int} : bP l x = true ↔ x ∈ l := by simp [bP]
def AG {l : List Int} (h : du l = true) {k : Nat} (hk : k < l.length) : 0 ≤ l[k] ∧ l[k] ≤ 23 ∧ (k = 0 ∨ l.getD (k - 1) 0 < l[k]) := by
 have := wJ.1 (List.all_eq_true.1 h k (List.mem_range.2 hk))
 rwa [show l.getD k 0 = l[k] by simp [hk]] at this
def JN {l : List Int} (h : du l = true) : ∀ (j i : Nat) (hj : j < l.length) (hi : i < j), l[i] < l[j]
 | 0, i, _, hi => by omega
 | j + 1, i, hj, hi => by
  have h1 := (AG h hj).2.2
  have e : l.getD (j + 1 - 1) 0 = l[j] := by simp [show j < l.length by omega]
  rw [e] at h1
  rcases Nat.lt_or_ge i j with h2 | h2
  ·have := JN h j i (by omega) h2
   omega
  ·have : i = j := by omega
   subst this
   omega
def PT {l : List Int} (h : du l = true) : l.Pairwise (· < ·) := by
 rw [List.pairwise_iff_getElem]
 intro i j hi hj hij
 exact JN h j i hj hij
def JO {m : Int} : ∀ {l : List Int}, l.Pairwise (· < ·) → l.filter (fun x => decide (x < m + 1)) = l.filter (fun x => decide (x < m)) ++ (if bP l m then [m] else [])
 | [], _ => by simp [bP]
 | x :: l, h => by
  rw [List.pairwise_cons] at h
  have ih := JO (m := m) h.2
  have hhx : bP (x :: l) m = (x == m || bP l m) := by simp [bP]
  by_cases h1 : x < m
  ·have e1 : decide (x < m + 1) = true := by simp; omega
   have e2 : decide (x < m) = true := by simpa using h1
   rw [List.filter_cons, List.filter_cons, if_pos e1, if_pos e2, ih, hhx, show (x == m) = false by simp; omega, Bool.false_or]
   rfl
  ·have hl : l.filter (fun x => decide (x < m)) = [] := by
    rw [List.filter_eq_nil_iff]; intro y hy; have := h.1 y hy; simp; omega
   have hl1 : l.filter (fun x => decide (x < m + 1)) = [] := by
    rw [List.filter_eq_nil_iff]; intro y hy; have := h.1 y hy; simp; omega
   have hm : bP l m = false := by
    cases hc : bP l m with
    | false => rfl
    | true => have := h.1 m (AF.1 hc); omega
   have e2 : ¬ decide (x < m) = true := by simpa using h1
   by_cases h2 : x = m
   ·have e1 : decide (x < m + 1) = true := by simp; omega
    rw [List.filter_cons, List.filter_cons, if_pos e1, if_neg e2, hl, hl1, hhx, hm, show (x == m) = true by simpa using h2]
    simp [h2]
   ·have e1 : ¬ decide (x < m + 1) = true := by simp; omega
    rw [List.filter_cons, List.filter_cons, if_neg e1, if_neg e2, hl, hl1, hhx, hm, show (x == m) = false by simpa using h2]
    simp
def JP {l : List Int} (h : du l = true) : ∀ m : Nat, lQ (fun x => bP l x) m = l.filter (fun x => decide (x < (m : Int)))
 | 0 => by
  rw [show lQ (fun x => bP l x) 0 = [] from rfl, eq_comm, List.filter_eq_nil_iff]
  intro y hy
  obtain ⟨k, hk, rfl⟩ := List.mem_iff_getElem.1 hy
  have := (AG h hk).1
  simp; omega
 | m + 1 => by
  rw [PS, JP h m]
  have := JO (m := (m : Int)) (PT h)
  rw [show ((m + 1 : Nat) : Int) = (m : Int) + 1 by omega, this]
def JQ {l : List Int} (h : du l = true) : lQ (fun x => bP l x) 24 = l := by
 rw [JP h, List.filter_eq_self]
 intro y hy
 obtain ⟨k, hk, rfl⟩ := List.mem_iff_getElem.1 hy
 have := (AG h hk).2.1
 simp; omega
def PU {l : List Int} (h : du l = true) : l.length ≤ 24 := by
 have := JM (fun x => bP l x) 24
 rwa [JQ h] at this
def AH {a b : List Int} (h : du a = true) : a.filter (fun x => bP b x) = lQ (fun x => bP a x && bP b x) 24 := by
 conv => lhs; rw [← JQ h]
 simp only [lQ, List.filter_filter]
 congr 1
 funext x
 exact Bool.and_comm _ _
def PW {a b : List Int} {k : Nat} (hk : 0 < k → (du a && du b) = true) (h : (k = a.length ∧ (du a && du b) = true) ∨ (k = 0 ∧ (a.length = 0 ∨ (du a && du b) = false))) : (a.take k).filter (fun x => bP b x) = nH a b := by
 unfold nH
 rcases h with ⟨rfl, h⟩ | ⟨rfl, h⟩
 ·rw [bY, if_pos h]
  rw [aL] at h
  exact AH h.1
 ·split
  ·rename_i h2
   rcases h with h | h
   ·have : a = [] := gu h
    subst this
    rw [aL] at h2
    rw [← AH h2.1]; simp
   ·rw [h] at h2; cases h2
  ·simp
def PX (a b : List Int) : (nH a b).length ≤ 24 := by
 unfold nH
 split
 ·exact JM _ _
 ·simp
def jM {α : Type} (d : α) (p : α → Bool) (r : α → α → Bool) (l : List α) (k : Nat) : Bool := (List.range k).all fun i => p (l.getD i d) && (i == 0 || r (l.getD (i - 1) d) (l.getD i d))
def dE {α : Type} (d : α) (p : α → Bool) (r : α → α → Bool) (l : List α) : Bool := jM d p r l l.length
def tP {α : Type} {d : α} {p : α → Bool} {r : α → α → Bool} {l : List α} {k : Nat} : jM d p r l (k + 1) = (jM d p r l k && (p (l.getD k d) && (k == 0 || r (l.getD (k - 1) d) (l.getD k d)))) := by
 simp [jM, List.range_succ]
def jb {α : Type} {d : α} {p : α → Bool} {r : α → α → Bool} {l : List α} {k : Nat} : (p (l.getD k d) && (k == 0 || r (l.getD (k - 1) d) (l.getD k d))) = true ↔ (p (l.getD k d) = true ∧ (k = 0 ∨ r (l.getD (k - 1) d) (l.getD k d) = true)) := by
 simp
def oR {α : Type} {d : α} {p : α → Bool} {r : α → α → Bool} {l : List α} {k : Nat} (hk : k < l.length) (h : (p (l.getD k d) && (k == 0 || r (l.getD (k - 1) d) (l.getD k d))) = false) : dE d p r l = false := by
 cases hs : dE d p r l with
 | false => rfl
 | true =>
  have := List.all_eq_true.1 hs k (List.mem_range.2 hk)
  rw [h] at this; cases this
def oS {α : Type} {d : α} {p : α → Bool} {r : α → α → Bool} {l : List α} {k : Nat} (h : jM d p r l k = true) (hk : k = l.length) : dE d p r l = true := by subst hk; exact h
def et {α : Type} {d : α} {l : List α} {k : Nat} (h : k < l.length) : l.getD k d = l[k] := by simp [h]
def lg (c : iw) : Bool := aB c.Field 0 2 && (decide (0 ≤ c.Low) && (decide (c.Low ≤ c.High) && decide (c.High ≤ 99)))
def mD (a b : iw) : Bool := decide (a.Field < b.Field)
def lh (l : List iw) : Bool := dE ⟨0, 0, 0⟩ lg mD l
def iz (v : Int) : Bool := aB v 0 2
def lR (l : List Int) : Bool := l.all iz && aB l.length 1 3
def bG (q : ZG) : Bool := (aB q.Id 0 23 && (aB q.ZK 0 3 && decide ((q.ZH.length : Int) ≤ 3))) && (lh q.ZH && lR q.Out)
def wK {n l h : Int} : aB n l h = true ↔ l ≤ n ∧ n ≤ h := by simp [aB]
def iA (l : List Int) (f : Int) : Int := l.getD f.toNat 0
def AJ (r : Row) (c : iw) : Bool := aB (iA r.Values c.Field) c.Low c.High
def lj (q : ZG) (r : Row) : Bool := (bp r && bG q) && q.ZH.all (AJ r)
def mE (f v : Int) (c : iw) : Bool := !(c.Field == f) || aB v c.Low c.High
def mF (q : ZG) (f v : Int) : Bool := q.ZH.all (mE f v)
def tQ {r : Row} (h : bp r = true) : r.Values.length = 3 := by simp [bp, aB] at h; omega
def tR {α : Type} {d : α} {p : α → Bool} {r : α → α → Bool} {l : List α} (h : dE d p r l = true) {k : Nat} (hk : k < l.length) : p l[k] = true := by
 have := List.all_eq_true.1 h k (List.mem_range.2 hk)
 rw [aL, et hk] at this
 exact this.1
def PY {q : ZG} (h : bG q = true) {c : iw} (hc : c ∈ q.ZH) : 0 ≤ c.Field ∧ c.Field ≤ 2 := by
 obtain ⟨k, hk, rfl⟩ := List.mem_iff_getElem.1 hc
 unfold bG lh at h
 simp only [aL] at h
 have := tR h.2.1 hk
 simp [lg, aB] at this
 omega
def qg (r : Row) : Bool := aB r.Id 0 999 && decide (r.Values.length = 0)
def gO (u : ZI) : Bool :=
 if u.Kind = 1 then bp u.Row && (decide (u.Field = 0) && decide (u.Value = 0))
 else if u.Kind = 2 then qg u.Row && (decide (u.Field = 0) && decide (u.Value = 0))
 else if u.Kind = 3 then qg u.Row && (aB u.Field 0 2 && aB u.Value 0 99) else false
end
end Go.Proofs.YtmekkgdboplbjaaGreatDoor
namespace Go.Proofs.YtmekkgdboplbjaaGreatDoor
open Go Go.RowKit M Tryz
set_option maxRecDepth 10000
def cd : prog.follows .mixedOrders = true := by kernel_rfl
def JR : aE prog 102 = true := by kernel_rfl
def PZ : aE prog 110 = true := by kernel_rfl
def Qa : aE prog 125 = true := by kernel_rfl
def AK : aE prog 170 = true := by kernel_rfl
def Qb : aE prog 172 = true := by kernel_rfl
def Qc : aE prog 175 = true := by kernel_rfl
def JS : aE prog 176 = true := by kernel_rfl
def Qd : aE prog 177 = true := by kernel_rfl
def Qe : aE prog 178 = true := by kernel_rfl
def Qf : aE prog 179 = true := by kernel_rfl
def Qg : aE prog 227 = true := by kernel_rfl
def Qh : aE prog 228 = true := by kernel_rfl
def wL : aE prog 230 = true := by kernel_rfl
def AL : aE prog 232 = true := by kernel_rfl
def jN : aE prog 74 = true := by kernel_rfl
def fP : aE prog 75 = true := by kernel_rfl
def JT : aE prog 86 = true := by kernel_rfl
def wM : aE prog 90 = true := by kernel_rfl
def tS : aE prog 98 = true := by kernel_rfl
def iB : bO prog 25 0 = some 0 := by kernel_rfl
def tT : bO prog 25 1 = some 1 := by kernel_rfl
def kE : bO prog 25 2 = some 2 := by kernel_rfl
def oT : bO prog 25 3 = some 3 := by kernel_rfl
def jO : bO prog 27 0 = some 0 := by kernel_rfl
def ia : bO prog 27 1 = some 1 := by kernel_rfl
def JU : bO prog 29 0 = some 0 := by kernel_rfl
def oU : bO prog 29 1 = some 1 := by kernel_rfl
def tU : bO prog 29 2 = some 3 := by kernel_rfl
def tV : bO prog 29 3 = some 4 := by kernel_rfl
def qh : bO prog 65 0 = some 0 := by kernel_rfl
def wN : bO prog 65 1 = some 1 := by kernel_rfl
def tW : bO prog 65 2 = some 2 := by kernel_rfl
def Qi : dL prog 27 = some [(0, 1), (1, 1)] := by kernel_rfl
def gP : ew prog 22 = some (65, 3, 24) := by kernel_rfl
def aW : ew prog 23 = some (3, 1, 8) := by kernel_rfl
def qi : ew prog 37 = some (5, 1, 1) := by kernel_rfl
def fQ : ew prog 54 = some (27, 2, 32) := by kernel_rfl
def jc : cn prog 22 = some (false, 1) := by kernel_rfl
def bz : cn prog 23 = some (false, 1) := by kernel_rfl
def fh : cn prog 25 = some (true, 4) := by kernel_rfl
def gB : cn prog 27 = some (true, 2) := by kernel_rfl
def qj : cn prog 29 = some (true, 5) := by kernel_rfl
def aw : cn prog 3 = some (false, 1) := by kernel_rfl
def wP : cn prog 65 = some (true, 3) := by kernel_rfl
def lS : dV prog 25 = some (.agg #[.int .i64 0, .int .i64 0, .slice none 0 0, .slice none 0 0]) := by kernel_rfl
def iC : dV prog 27 = some (.agg #[.int .i64 0, .slice none 0 0]) := by kernel_rfl
def AM : dV prog 29 = some (.agg #[.int .i64 0, .int .i64 0, .slice none 0 0, .int .i64 0, .int .i64 0]) := by kernel_rfl
def bX : dV prog 3 = some (.int .i64 0) := by kernel_rfl
def nI : dV prog 65 = some (.agg #[.int .i64 0, .int .i64 0, .int .i64 0]) := by kernel_rfl
def rC {Fz : av} {w : World} : aG [PV.val (.int .i64 0), PV.val (.int .i64 0), PV.sl aP [], PV.sl ae []] Fz w (Value.cells (.agg #[.int .i64 0, .int .i64 0, .slice none 0 0, .slice none 0 0])).toList [] := dz rfl (dz rfl (eR (eR (kl))))
def mG {Fz : av} {w : World} : aG [PV.val (.int .i64 0), PV.sl ae []] Fz w (Value.cells (.agg #[.int .i64 0, .slice none 0 0])).toList [] := dz rfl (eR (kl))
def AN {Fz : av} {w : World} : aG [PV.val (.int .i64 0), PV.val (.int .i64 0), PV.sl ae [], PV.val (.int .i64 0), PV.val (.int .i64 0)] Fz w (Value.cells (.agg #[.int .i64 0, .int .i64 0, .slice none 0 0, .int .i64 0, .int .i64 0])).toList [] := dz rfl (dz rfl (eR (dz rfl (dz rfl (kl)))))
def AO {Fz : av} {w : World} : aG [PV.val (.int .i64 0), PV.val (.int .i64 0), PV.val (.int .i64 0)] Fz w (Value.cells (.agg #[.int .i64 0, .int .i64 0, .int .i64 0])).toList [] := dz rfl (dz rfl (dz rfl (kl)))
end Go.Proofs.YtmekkgdboplbjaaGreatDoor
namespace Go.Proofs.YtmekkgdboplbjaaGreatDoor
open Go Go.RowKit M Tryz
set_option maxRecDepth 10000
section
structure au where
 b : List Int
 i : Nat
 h : Int
 hb : b.length ≤ 9223372036854775807
def ce (o : Fl) (c : au) : List PV := [PV.sl o (c.b.map jL), PV.val (vI (c.i : Int)), PV.val (vI c.h)]
def wQ (code : List Int) : Nat → Int
 | 0 => 10101 + code.length
 | k + 1 => nq (pG (pG (va (wQ code k) 131) (IntKind.i64.wrap (code.getD k 0))) 7) 1073741823
def dg (code : List Int) (hb : code.length ≤ 9223372036854775807) : au := ⟨code, 0, wQ code (min code.length 4000), hb⟩
def oV (h : Int) : Int := pG (va h 6364136223846793005) 1442695040888963407
def rD (h : Int) : Int := nq (yC (h.fdiv (2 ^ 33)) (h.fdiv (2 ^ 45))) 255
def gn (c : au) : Int × au := if c.i < c.b.length then (nq (pG (rD (oV c.h)) (IntKind.i64.wrap (c.b.getD c.i 0))) 255, ⟨c.b, c.i + 1, oV c.h, c.hb⟩) else (rD (oV c.h), ⟨c.b, c.i, oV c.h, c.hb⟩)
def ak (c : au) (n : Int) : Int × au := if n ≤ 0 then (0, c) else ((gn c).1.tmod n, (gn c).2)
def aX (c : au) (l : List Int) : Int × au := (l.getD (ak c l.length).1.toNat 0, (ak c l.length).2)
def gQ (w : Int) (c : au) : Nat → List Int × au
 | 0 => ([], c)
 | k + 1 => ((gQ w c k).1 ++ [(ak (gQ w c k).2 w).1], (ak (gQ w c k).2 w).2)
def fi (c : au) (id : Int) : Row × au := (⟨id, (gQ (aX c [3, 6, 100]).1 (aX c [3, 6, 100]).2 3).1⟩, (gQ (aX c [3, 6, 100]).1 (aX c [3, 6, 100]).2 3).2)
structure JV where
 id : Int
 l : List Row
 c : au
def cr (id : Int) (c : au) : Nat → JV
 | 0 => ⟨id, [], c⟩
 | k + 1 => ⟨(cr id c k).id + 1 + (ak (fi (cr id c k).c (cr id c k).id).2 3).1, (cr id c k).l ++ [(fi (cr id c k).c (cr id c k).id).1], (ak (fi (cr id c k).c (cr id c k).id).2 3).2⟩
def wR (c : au) (most : Int) : JV := cr (ak c 3).1 (ak (ak c 3).2 (most + 1)).2 (ak (ak c 3).2 (most + 1)).1.toNat
def eN (c : au) (most : Int) : List Row × au := ((wR c most).l, (wR c most).c)
def gR (c : au) : Row × au := fi (ak c 9).2 (ak c 9).1
def eO (c : au) : Int × au := ak (gR c).2 8
def iD (c : au) : Row × au :=
 if (eO c).1 = 0 then (⟨(aX (eO c).2 [-1, 999, 1000]).1, (gR c).1.Values⟩, (aX (eO c).2 [-1, 999, 1000]).2)
 else if (eO c).1 = 1 then (⟨(gR c).1.Id, (gR c).1.Values.set 0 (aX (eO c).2 [-1, 99, 100]).1⟩, (aX (eO c).2 [-1, 99, 100]).2)
 else if (eO c).1 = 2 then (⟨(gR c).1.Id, (gR c).1.Values ++ [1]⟩, (eO c).2)
 else ((gR c).1, (eO c).2)
def rE (c : au) : List Row × au :=
 if (ak (eN c 8).2 6).1 = 0 then ((eN c 8).1 ++ [(iD (ak (eN c 8).2 6).2).1], (iD (ak (eN c 8).2 6).2).2)
 else ((eN c 8).1, (ak (eN c 8).2 6).2)
section
variable {c : au} {n w id : Int} {k : Nat} {l : List Int}
def Qj (h : c.i < c.b.length) : gn c = (nq (pG (rD (oV c.h)) (IntKind.i64.wrap (c.b.getD c.i 0))) 255, ⟨c.b, c.i + 1, oV c.h, c.hb⟩) := if_pos h
def Qk (h : ¬ c.i < c.b.length) : gn c = (rD (oV c.h), ⟨c.b, c.i, oV c.h, c.hb⟩) := if_neg h
def Ql (h : (eO c).1 = 0) : iD c = (⟨(aX (eO c).2 [-1, 999, 1000]).1, (gR c).1.Values⟩, (aX (eO c).2 [-1, 999, 1000]).2) := if_pos h
def Qm (h0 : ¬ (eO c).1 = 0) (h : (eO c).1 = 1) : iD c = (⟨(gR c).1.Id, (gR c).1.Values.set 0 (aX (eO c).2 [-1, 99, 100]).1⟩, (aX (eO c).2 [-1, 99, 100]).2) := by unfold iD; rw [if_neg h0, if_pos h]
def Qn (h0 : ¬ (eO c).1 = 0) (h1 : ¬ (eO c).1 = 1) (h : (eO c).1 = 2) : iD c = (⟨(gR c).1.Id, (gR c).1.Values ++ [1]⟩, (eO c).2) := by unfold iD; rw [if_neg h0, if_neg h1, if_pos h]
def Qo (h0 : ¬ (eO c).1 = 0) (h1 : ¬ (eO c).1 = 1) (h : ¬ (eO c).1 = 2) : iD c = ((gR c).1, (eO c).2) := by unfold iD; rw [if_neg h0, if_neg h1, if_neg h]
def Qp (h : (ak (eN c 8).2 6).1 = 0) : rE c = ((eN c 8).1 ++ [(iD (ak (eN c 8).2 6).2).1], (iD (ak (eN c 8).2 6).2).2) := if_pos h
def Qq (h : ¬ (ak (eN c 8).2 6).1 = 0) : rE c = ((eN c 8).1, (ak (eN c 8).2 6).2) := if_neg h
def Qr (h : Int) : 0 ≤ rD h ∧ rD h ≤ 255 := DO (m := 255) (by decide)
def Qs (c : au) : 0 ≤ (gn c).1 ∧ (gn c).1 ≤ 255 := by
 unfold gn
 split
 ·exact DO (m := 255) (by decide)
 ·exact Qr _
def JW (h : n ≤ 0) : ak c n = (0, c) := if_pos h
def AP (h : 0 < n) : ak c n = ((gn c).1.tmod n, (gn c).2) := if_neg (by omega)
def dh (c : au) (n : Int) : 0 ≤ (ak c n).1 := by
 by_cases h : n ≤ 0
 ·rw [JW h]; exact Int.le_refl _
 ·rw [AP (by omega)]; exact Int.tmod_nonneg n (Qs c).1
def di (c : au) (h : 0 < n) : (ak c n).1 < n := by
 rw [AP h]; exact Int.tmod_lt_of_pos _ h
def AQ (c : au) (h : 0 < l.length) : (aX c l).1 ∈ l := by
 have h1 := dh c (l.length : Int)
 have h2 := di c (n := (l.length : Int)) (by omega)
 have h3 : (ak c (l.length : Int)).1.toNat < l.length := by omega
 show l.getD _ 0 ∈ l
 rw [List.getD_eq_getElem?_getD, List.getElem?_eq_getElem h3]
 exact List.getElem_mem h3
def Qt (c : au) : 0 ≤ (aX c [3, 6, 100]).1 ∧ (aX c [3, 6, 100]).1 ≤ 100 := by
 have h := AQ c (l := [3, 6, 100]) (by decide)
 simp at h; omega
def qk : ((gQ w c k).1).length = k := by
 induction k with
 | zero => rfl
 | succ k ih => rw [gQ, aD, ih]; rfl
def JX (c : au) (id : Int) : iZ (fi c id).1 = 3 := by
 unfold fi iZ
 simp only [dP, qk, bh]
def JY (h : 0 ≤ id ∧ id ≤ 2) : 0 ≤ (cr id c k).id ∧ (cr id c k).id ≤ 3 * k + 2 := by
 induction k with
 | zero => exact ⟨h.1, by rw [cr]; dsimp only; omega⟩
 | succ k ih =>
  rw [cr]
  have h1 := dh (fi (cr id c k).c (cr id c k).id).2 3
  have h2 := di (fi (cr id c k).c (cr id c k).id).2 (n := 3) (by decide)
  dsimp only; omega
def AR : (cr id c k).l.length = k := by
 induction k with
 | zero => rfl
 | succ k ih => rw [cr]; dsimp only; rw [aD, ih]; rfl
def Qu : ((cr id c k).l.map iZ).sum = 3 * k := by
 induction k with
 | zero => rfl
 | succ k ih =>
  rw [cr]; dsimp only
  rw [bb, List.sum_append, ih, List.map_cons, List.map_nil, List.sum_cons, List.sum_nil, JX]; omega
def JZ (c : au) {most : Int} (h : 0 ≤ most) : (gm (eN c most).1 : Int) ≤ 4 * most := by
 have h1 := dh (ak c 3).2 (most + 1)
 have h2 := di (ak c 3).2 (n := most + 1) (by omega)
 have h3 := AR (id := (ak c 3).1) (c := (ak (ak c 3).2 (most + 1)).2) (k := (ak (ak c 3).2 (most + 1)).1.toNat)
 have h4 := Qu (id := (ak c 3).1) (c := (ak (ak c 3).2 (most + 1)).2) (k := (ak (ak c 3).2 (most + 1)).1.toNat)
 unfold gm eN wR
 dsimp only
 rw [h3, h4]; omega
end
end
structure nJ where
 l : List iw
 c : au
@[reducible] def ZC (w : Int) (c : au) : au := (ak c 2).2
@[reducible] def rF (w : Int) (c : au) : Int := (ak (ak c 2).2 w).1
@[reducible] def Ka (w : Int) (c : au) : Int := min 99 (rF w c + (ak (ak (ak c 2).2 w).2 w).1)
@[reducible] def rG (w : Int) (c : au) : au := (ak (ak (ak c 2).2 w).2 w).2
def nK (w : Int) (f : Int) (s : nJ) : nJ :=
 if (ak s.c 2).1 = 0 then
  ⟨s.l ++ [⟨f, rF w s.c, if (ak (rG w s.c) 3).1 = 0 then rF w s.c else Ka w s.c⟩], (ak (rG w s.c) 3).2⟩
 else ⟨s.l, (ak s.c 2).2⟩
def Qv {w f : Int} {s : nJ} (h : (ak s.c 2).1 = 0) (h2 : (ak (rG w s.c) 3).1 = 0) : nK w f s = ⟨s.l ++ [⟨f, rF w s.c, rF w s.c⟩], (ak (rG w s.c) 3).2⟩ := by unfold nK; rw [if_pos h, if_pos h2]
def Qw {w f : Int} {s : nJ} (h : (ak s.c 2).1 = 0) (h2 : ¬ (ak (rG w s.c) 3).1 = 0) : nK w f s = ⟨s.l ++ [⟨f, rF w s.c, Ka w s.c⟩], (ak (rG w s.c) 3).2⟩ := by unfold nK; rw [if_pos h, if_neg h2]
def Qx {w f : Int} {s : nJ} (h : ¬ (ak s.c 2).1 = 0) : nK w f s = ⟨s.l, (ak s.c 2).2⟩ := by unfold nK; rw [if_neg h]
def gC (w : Int) (s : nJ) : Nat → nJ
 | 0 => s
 | k + 1 => nK w (k : Int) (gC w s k)
def AS {w : Int} {s : nJ} : ∀ k, (gC w s k).l.length ≤ s.l.length + k
 | 0 => Nat.le_refl _
 | k + 1 => by
  have ih := AS (w := w) (s := s) k
  show (nK w (k : Int) (gC w s k)).l.length ≤ _
  unfold nK
  split
  ·simp only [aD, List.length_cons, List.length_nil]; omega
  ·dsimp only; omega
@[reducible] def wS (c : au) : Int × au := aX (ak c 4).2 [3, 6, 100]
def nL (c : au) : nJ := gC (wS c).1 ⟨[], (wS c).2⟩ 3
def ib (c : au) : Int × au := ak (nL c).c 3
def tX (c : au) : List Int × au := gQ 3 (ib c).2 (1 + (ib c).1).toNat
def gS (c : au) (id : Int) : ZG × au := (⟨id, (ak c 4).1, (nL c).l, (tX c).1⟩, (tX c).2)
def Kb (c : au) : 0 ≤ (ib c).1 ∧ (ib c).1 ≤ 2 := by
 have h1 := dh (nL c).c 3
 have h2 := di (nL c).c (n := 3) (by decide)
 unfold ib; omega
def AT (c : au) (id : Int) : eM (gS c id).1 ≤ 6 := by
 have h1 := AS (w := (wS c).1) (s := ⟨[], (wS c).2⟩) 3
 have h2 := Kb c
 have h3 : (tX c).1.length = (1 + (ib c).1).toNat := qk
 have hc : ∀ l : List iw, (l.map wH).sum = 0 := by
  intro l
  induction l with
  | nil => rfl
  | cons a c ih => rw [List.map_cons, List.sum_cons, ih]; rfl
 unfold gS eM ry
 simp only [dP, bh, hc]
 have : (nL c).l.length ≤ 0 + 3 := h1
 omega
def v0 : aM := ⟨0, [], 0, 0⟩
def cD (now : Int) (v : aM) : Bool := bp ⟨v.Id, v.Values⟩ && (aB v.ZT 0 now && (decide (v.ZP = -1) || aB v.ZP (v.ZT + 1) now))
def eB (a b : aM) : Bool := !(a.Id == b.Id) || ((!(a.ZP == -1) && decide (a.ZP ≤ b.ZT)) || (!(b.ZP == -1) && decide (b.ZP ≤ a.ZT)))
def fE (v : aM) (t : Int) : Bool := decide (v.ZT ≤ t) && (decide (v.ZP = -1) || decide (v.ZP > t))
def ql (v w : aM) : Bool := fE v w.ZT || fE w v.ZT
def Kc {now : Int} {v w : aM} (hv : cD now v = true) (hw : cD now w = true) : (v.Id == w.Id && ql v w) = !eB v w := by
 have h1 : v.ZP = -1 ∨ v.ZT < v.ZP := by simp [cD, aB] at hv; omega
 have h2 : w.ZP = -1 ∨ w.ZT < w.ZP := by simp [cD, aB] at hw; omega
 have h3 : 0 ≤ v.ZT ∧ 0 ≤ w.ZT := by simp [cD, aB] at hv hw; omega
 rw [Bool.eq_iff_iff]
 simp only [ql, fE, eB, aL, Bool.or_eq_true, Bool.not_eq_true', beq_iff_eq, decide_eq_true_eq, Bool.or_eq_false_iff, Bool.not_eq_false', Bool.and_eq_false_iff, decide_eq_false_iff_not]
 omega
def aY (s : Store) : List aM := s.ZE.flatten
def fv (L : List aM) (i k : Nat) : Bool := (List.range k).all fun m => eB (L.getD i v0) (L.getD m v0)
def ll (now : Int) (L : List aM) (i : Nat) : Bool := cD now (L.getD i v0) && fv L i i
def lm (now : Int) (L : List aM) (i : Nat) : Bool := (List.range i).all (ll now L)
def jP (l : List aM) : Bool := decide ((l.length : Int) ≤ 4)
def lT (s : Store) : Bool := aB s.ZE.length 1 8 && aB s.Now 0 100000
def bL (s : Store) : Bool := (lT s && s.ZE.all jP) && lm s.Now (aY s) (aY s).length
def Qy {L : List aM} {i k : Nat} : fv L i (k + 1) = (fv L i k && eB (L.getD i v0) (L.getD k v0)) := by simp [fv, List.range_succ]
def Kd {now : Int} {L : List aM} {i : Nat} : lm now L (i + 1) = (lm now L i && ll now L i) := by simp [lm, List.range_succ]
def AU {now : Int} {L : List aM} {i j : Nat} (h : lm now L i = true) (hj : j < i) : cD now (L.getD j v0) = true := by
 have := List.all_eq_true.1 h j (List.mem_range.2 hj)
 unfold ll at this
 rw [aL] at this
 exact this.1
def wT {s : Store} {i : Nat} (hi : i < (aY s).length) (h : ll s.Now (aY s) i = false) : bL s = false := by
 have : lm s.Now (aY s) (aY s).length = false := by
  rw [← Bool.not_eq_true]
  intro hh
  have := List.all_eq_true.1 hh i (List.mem_range.2 hi)
  rw [h] at this; cases this
 unfold bL; rw [this, Bool.and_false]
def Ke {now : Int} {L : List aM} {i : Nat} (h : cD now (L.getD i v0) = false) : ll now L i = false := by unfold ll; rw [h]; rfl
def Kf {now : Int} {L : List aM} {i k : Nat} (hk : k < i) (h : eB (L.getD i v0) (L.getD k v0) = false) : ll now L i = false := by
 have : fv L i i = false := by
  rw [← Bool.not_eq_true]
  intro hh
  have := List.all_eq_true.1 hh k (List.mem_range.2 hk)
  rw [h] at this; cases this
 unfold ll; rw [this, Bool.and_false]
def Kg {s : Store} {k : Nat} (hk : k < s.ZE.length) (h : ¬ ((s.ZE[k].length : Int) ≤ 4)) : bL s = false := by
 have : s.ZE.all jP = false := lP hk (by simpa [jP] using h)
 unfold bL; rw [this]; simp
def cV (s : Store) (k : Nat) : List aM := (s.ZE.take k).flatten
def tY {s : Store} {k : Nat} (hk : k < s.ZE.length) : cV s (k + 1) = cV s k ++ s.ZE[k] := by
 unfold cV; rw [cZ hk, List.flatten_append]; simp
def wU {s : Store} {k : Nat} (hk : k < s.ZE.length) : aY s = cV s k ++ (s.ZE[k] ++ (s.ZE.drop (k + 1)).flatten) := by
 unfold aY cV
 rw [← List.flatten_cons, ← List.flatten_append, ← List.drop_eq_getElem_cons hk, fq]
def AV {s : Store} : cV s s.ZE.length = aY s := by unfold cV aY; rw [bY]
def Kh {s : Store} {k j : Nat} (hk : k < s.ZE.length) (hj : j < s.ZE[k].length) : (cV s k).length + j < (aY s).length ∧ (aY s).getD ((cV s k).length + j) v0 = s.ZE[k][j] := by
 rw [wU hk]
 refine ⟨by simp only [aD]; omega, ?_⟩
 rw [List.getD_eq_getElem?_getD, List.getElem?_append_right (by omega), show (cV s k).length + j - (cV s k).length = j by omega, List.getElem?_append_left hj, List.getElem?_eq_getElem hj]
 rfl
def Qz {s : Store} {k j : Nat} (hk : k < s.ZE.length) (hj : j ≤ s.ZE[k].length) : cV s k ++ s.ZE[k].take j = (aY s).take ((cV s k).length + j) := by
 rw [wU hk, List.take_length_add_append, List.take_append_of_le_length hj]
def nM (s : Store) : (aY s).length ≤ cq s := by
 unfold cq gN aY
 rw [List.length_flatten]
 have : (s.ZE.map List.length).sum ≤ (s.ZE.map cb).sum := by
  generalize s.ZE = l
  induction l with
  | nil => simp
  | cons x l ih => simp only [List.map_cons, List.sum_cons]; unfold cb at *; omega
 omega
def ee (v : aM) : Row := ⟨v.Id, v.Values⟩
def jd {s : Store} (h : bL s = true) : s.ZE.length ≤ 8 ∧ 1 ≤ s.ZE.length ∧ 0 ≤ s.Now ∧ s.Now ≤ 100000 ∧ (∀ g ∈ s.ZE, g.length ≤ 4) ∧ ∀ i, i < (aY s).length → cD s.Now ((aY s).getD i v0) = true := by
 unfold bL lT at h
 simp only [aL, aB, decide_eq_true_eq] at h
 refine ⟨by omega, by omega, by omega, by omega, fun g hg => ?_, fun i hi => AU h.2 hi⟩
 have := List.all_eq_true.1 h.1.2 g hg
 simp [jP] at this; omega
def rH {s : Store} (h : bL s = true) {k j : Nat} (hk : k < s.ZE.length) (hj : j < s.ZE[k].length) : cD s.Now s.ZE[k][j] = true := by
 have h1 := Kh hk hj
 rw [← h1.2]
 exact (jd h).2.2.2.2.2 _ h1.1
def rI : ZG := ⟨0, 0, [], []⟩
def jQ : eb := ⟨0, 0, []⟩
def qm (a b : ZG) : Bool := decide (a.Id < b.Id)
def dm (l : List ZG) : Bool := dE rI bG qm l && decide ((l.length : Int) ≤ 24)
def oW {l : List ZG} (h : dm l = true) : l.length ≤ 24 ∧ ∀ q ∈ l, bG q = true := by
 unfold dm at h
 rw [aL] at h
 refine ⟨by have := of_decide_eq_true h.2; omega, fun q hq => ?_⟩
 obtain ⟨k, hk, rfl⟩ := List.mem_iff_getElem.1 hq
 exact tR h.1 hk
def QA {q : ZG} (h : bG q = true) : q.ZH.length ≤ 3 ∧ q.Out.length ≤ 3 := by
 unfold bG lR at h
 simp only [aL, aB, decide_eq_true_eq] at h
 omega
def fy (l : List ZG) (f v : Int) : List Int := (l.filter fun q => mF q f v).map ZG.Id
def wV (l : List ZG) (f v : Int) : List Int := if dm l && (aB f 0 2 && aB v 0 99) then fy l f v else []
def QB {l : List ZG} {f v : Int} {k : Nat} (hk : k < l.length) (h : mF l[k] f v = true) : fy (l.take (k + 1)) f v = fy (l.take k) f v ++ [l[k].Id] := by
 unfold fy; rw [cZ hk, fK]; simp [h]
def QC {l : List ZG} {f v : Int} {k : Nat} (hk : k < l.length) (h : mF l[k] f v = false) : fy (l.take (k + 1)) f v = fy (l.take k) f v := by
 unfold fy; rw [cZ hk, fK]; simp [h]
def AW (l : List ZG) (f v : Int) : (fy l f v).length ≤ l.length := by
 unfold fy; rw [am]; exact il _ _
def QD {l : List ZG} {f v : Int} {k : Nat} (h : (k = l.length ∧ (dm l && (aB f 0 2 && aB v 0 99)) = true) ∨ (k = 0 ∧ (l.length = 0 ∨ (dm l && (aB f 0 2 && aB v 0 99)) = false))) : fy (l.take k) f v = wV l f v := by
 unfold wV
 rcases h with ⟨rfl, h⟩ | ⟨rfl, h⟩
 ·rw [if_pos h, bY]
 ·split
  ·rename_i h2
   rcases h with h | h
   ·rw [gu h]; rfl
   ·rw [h] at h2; cases h2
  ·rfl
noncomputable def lU (out : List eb) (s : List Int) : Bool := !(out.length == 0) && oN (out.getD (out.length - 1) jQ).Set s
def QE {out : List eb} {s : List Int} (h0 : 0 < out.length) (h : oN (out.getD (out.length - 1) jQ).Set s = true) : lU out s = true := by
 unfold lU; rw [h, Bool.and_true]; simp; exact List.length_pos_iff.1 h0
noncomputable def rJ (out : List eb) (v : Int) (s : List Int) : List eb := if lU out s then out.set (out.length - 1) ⟨(out.getD (out.length - 1) jQ).From, v, (out.getD (out.length - 1) jQ).Set⟩ else out ++ [⟨v, v, s⟩]
def QF {out : List eb} {v : Int} {s : List Int} (h : lU out s = true) : rJ out v s = out.set (out.length - 1) ⟨(out.getD (out.length - 1) jQ).From, v, (out.getD (out.length - 1) jQ).Set⟩ := if_pos h
def QG {out : List eb} {v : Int} {s : List Int} (h : lU out s = false) : rJ out v s = out ++ [⟨v, v, s⟩] := if_neg (by rw [h]; simp)
noncomputable def cW (l : List ZG) (f : Int) : Nat → List eb
 | 0 => []
 | k + 1 => rJ (cW l f k) k (fy l f k)
def AX (l : List ZG) (f : Int) : ∀ k, (cW l f k).length ≤ k
 | 0 => Nat.le_refl _
 | k + 1 => by
  have := AX l f k
  rw [cW]
  unfold rJ
  split
  ·rw [List.length_set]; omega
  ·rw [aD]; simp; omega
def Ki (l : List ZG) (f : Int) : ∀ k, ∀ s ∈ cW l f k, s.Set.length ≤ l.length
 | 0, s, h => nomatch h
 | k + 1, s, h => by
  have ih := Ki l f k
  rw [cW] at h
  unfold rJ at h
  split at h
  ·rename_i hl
   rcases List.mem_or_eq_of_mem_set h with h | rfl
   ·exact ih s h
   ·have hne : 0 < (cW l f k).length := by
     unfold lU at hl
     rw [aL] at hl
     have := hl.1
     simp at this
     exact List.length_pos_iff.2 this
    have hlt : (cW l f k).length - 1 < (cW l f k).length := by omega
    show ((cW l f k).getD _ jQ).Set.length ≤ _
    rw [List.getD_eq_getElem?_getD, List.getElem?_eq_getElem hlt]
    exact ih _ (List.getElem_mem hlt)
  ·rcases List.mem_append.1 h with h | h
   ·exact ih s h
   ·simp at h; subst h; exact AW _ _ _
noncomputable def fR (l : List ZG) (f : Int) : List eb := if dm l && aB f 0 2 then cW l f 100 else []
def QH (l : List ZG) (f : Int) : (fR l f).length ≤ 100 ∧ ∀ s ∈ fR l f, s.Set.length ≤ 24 := by
 unfold fR
 split
 ·rename_i h
  rw [aL] at h
  have := oW h.1
  exact ⟨AX _ _ _, fun s hs => Nat.le_trans (Ki _ _ _ s hs) this.1⟩
 ·exact ⟨by simp, fun s hs => nomatch hs⟩
def gD (v : Int) (s : eb) : Bool := aB v s.From s.To
def fS (l : List eb) (v : Int) : List Int := match l.find? (gD v) with
 | some s => s.Set
 | none => []
def QI {l : List eb} {v : Int} {k : Nat} (hk : k < l.length) (h : (l.take k).any (gD v) = false) (hy : gD v l[k] = true) : fS l v = l[k].Set := by
 unfold fS
 have e : l = l.take k ++ l[k] :: l.drop (k + 1) := by rw [← List.drop_eq_getElem_cons hk, fq]
 have hn : (l.take k).find? (gD v) = none := by
  rw [List.find?_eq_none]
  intro x hx hp
  rw [List.any_eq_false] at h
  exact h x hx hp
 have : l.find? (gD v) = some l[k] := by
  conv => lhs; rw [e]
  rw [List.find?_append, hn, List.find?_cons_of_pos hy]
  rfl
 rw [this]
def QJ {l : List eb} {v : Int} (h : l.any (gD v) = false) : fS l v = [] := by
 unfold fS
 have hn : l.find? (gD v) = none := by
  rw [List.find?_eq_none]
  intro x hx hp
  rw [List.any_eq_false] at h
  exact h x hx hp
 rw [hn]
def QK {l : List eb} {m : Nat} (h : ∀ s ∈ l, s.Set.length ≤ m) (v : Int) : (fS l v).length ≤ m := by
 unfold fS
 split
 ·rename_i s hs; exact h s (List.mem_of_find?_eq_some hs)
 ·exact Nat.zero_le _
noncomputable def Kj (x : ja) (k : Nat) : Bool := (List.range k).all fun f => oN (x.Fields.getD f []) (fR x.Queries (f : Int))
noncomputable def tZ (x : ja) : Bool := (dm x.Queries && decide (x.Fields.length = 3)) && Kj x 3
def QL {x : ja} (h : tZ x = true) : dm x.Queries = true ∧ x.Fields.length = 3 ∧ ∀ f, f < 3 → x.Fields.getD f [] = fR x.Queries (f : Int) := by
 unfold tZ at h
 simp only [aL, decide_eq_true_eq] at h
 exact ⟨h.1.1, h.1.2, fun f hf => JI.1 (List.all_eq_true.1 h.2 f (List.mem_range.2 hf))⟩
noncomputable def lV (l : List ZG) : ja := if dm l then ⟨l, [fR l 0, fR l 1, fR l 2]⟩ else ⟨[], []⟩
def QM {l : List ZG} (h : dm l = true) : tZ (lV l) = true := by
 unfold lV
 rw [if_pos h]
 unfold tZ
 rw [h]
 simp only [List.length_cons, List.length_nil, Bool.true_and, aL, decide_eq_true_eq]
 refine ⟨by decide, ?_⟩
 unfold Kj
 rw [mm]
 intro f hf
 have := List.mem_range.1 hf
 have : f = 0 ∨ f = 1 ∨ f = 2 := by omega
 rcases this with rfl | rfl | rfl <;> exact AB rfl
noncomputable def oX (l : List ZG) (k : Nat) : List (List eb) := (List.range k).map fun f : Nat => fR l (f : Int)
def oY (l : List ZG) : List Int := l.map ZG.Id
def fF (o : List Int) : Bool := decide (o.length = 3) && (bP o 0 && (bP o 1 && bP o 2))
def Kk {o : List Int} (h : fF o = true) : o.length = 3 ∧ ∀ f ∈ o, 0 ≤ f ∧ f ≤ 2 := by
 unfold fF at h
 simp only [aL, decide_eq_true_eq] at h
 obtain ⟨h1, h2, h3, h4⟩ := h
 match o, h1 with
 | [a, b, c], _ =>
  simp [bP] at h2 h3 h4
  refine ⟨rfl, fun f hf => ?_⟩
  simp at hf
  omega
def rL (o : List Int) (k : Nat) : Bool := (List.range k).all fun i => aB (o.getD i 0) 0 2 && !bP (o.take i) (o.getD i 0)
def QN {o : List Int} {k : Nat} : rL o (k + 1) = (rL o k && (aB (o.getD k 0) 0 2 && !bP (o.take k) (o.getD k 0))) := by simp [rL, List.range_succ]
def Kl {o : List Int} (h : o.length = 3) : rL o 3 = fF o := by
 match o, h with
 | [a, b, c], _ =>
  rw [Bool.eq_iff_iff]
  simp [rL, fF, bP, aB, List.range_succ]
  omega
def QO {o : List Int} {k : Nat} (hl : o.length = 3) (hk : k < 3) (h : (aB (o.getD k 0) 0 2 && !bP (o.take k) (o.getD k 0)) = false) : fF o = false := by
 rw [← Kl hl, ← Bool.not_eq_true]
 intro hh
 have := List.all_eq_true.1 hh k (List.mem_range.2 hk)
 rw [h] at this; cases this
def nN (x : ja) (r : Row) (s : List Int × Int) (f : Int) : List Int × Int := if s.1 = [] then s else (nH s.1 (fS (x.Fields.getD f.toNat []) (iA r.Values f)), s.2 + 1 + min (s.1.length : Int) ((fS (x.Fields.getD f.toNat []) (iA r.Values f)).length : Int))
def eP (x : ja) (r : Row) (o : List Int) (k : Nat) : List Int × Int := (o.take k).foldl (nN x r) (oY x.Queries, 0)
def Km {x : ja} {r : Row} {o : List Int} {k : Nat} (hk : k < o.length) (h : (eP x r o k).1 ≠ []) : eP x r o (k + 1) = (nH (eP x r o k).1 (fS (x.Fields.getD o[k].toNat []) (iA r.Values o[k])), (eP x r o k).2 + 1 + min ((eP x r o k).1.length : Int) ((fS (x.Fields.getD o[k].toNat []) (iA r.Values o[k])).length : Int)) := by
 unfold eP
 rw [cZ hk, List.foldl_append]
 show nN x r (eP x r o k) o[k] = _
 unfold nN
 rw [if_neg h]; rfl
def Kn {x : ja} {r : Row} : ∀ (o : List Int) (s : List Int × Int), s.1 = [] → o.foldl (nN x r) s = s
 | [], s, _ => rfl
 | f :: o, s, h => by
  rw [List.foldl_cons]
  have : nN x r s f = s := if_pos h
  rw [this]; exact Kn o s h
noncomputable def qn (x : ja) (r : Row) (o : List Int) : List Int × Int := o.foldl (nN x r) (oY x.Queries, 0)
def QP {x : ja} {r : Row} {o : List Int} {k : Nat} (h : k = o.length ∨ (eP x r o k).1 = []) : eP x r o k = qn x r o := by
 rcases h with rfl | h
 ·unfold eP qn; rw [bY]
 ·unfold qn
  have e : o = o.take k ++ o.drop k := (fq _ _).symm
  conv => rhs; rw [e, List.foldl_append]
  exact (Kn _ _ h).symm
def Ko {x : ja} (hx : x.Queries.length ≤ 24) (r : Row) (o : List Int) : ∀ k, (eP x r o k).1.length ≤ 24 ∧ 0 ≤ (eP x r o k).2 ∧ (eP x r o k).2 ≤ 25 * k
 | 0 => by refine ⟨?_, ?_, ?_⟩ <;> simp [eP, oY]; exact hx
 | k + 1 => by
  have ih := Ko hx r o k
  by_cases hk : k < o.length
  ·by_cases h : (eP x r o k).1 = []
   ·have e : eP x r o (k + 1) = eP x r o k := by
     unfold eP
     rw [cZ hk, List.foldl_append]
     exact if_pos h
    rw [e]; omega
   ·rw [Km hk h]
    have := PX (eP x r o k).1 (fS (x.Fields.getD o[k].toNat []) (iA r.Values o[k]))
    dsimp only; omega
  ·have e : eP x r o (k + 1) = eP x r o k := by
    unfold eP
    rw [pu (by omega), pu (by omega)]
   rw [e]; omega
def QQ {l : List ZG} (h : dm l = true) : wI l ≤ 1000 := by
 have h1 := oW h
 have h2 : ∀ q ∈ l, eM q ≤ 10 := fun q hq => by
  have := QA (h1.2 q hq)
  have hc : ∀ c : List iw, (c.map wH).sum = 0 := by
   intro c
   induction c with
   | nil => rfl
   | cons a c ih => rw [List.map_cons, List.sum_cons, ih]; rfl
  unfold eM ry
  simp only [dP, bh, hc]
  omega
 have h3 : (l.map eM).sum ≤ l.length * 10 := by
  clear h h1
  induction l with
  | nil => simp
  | cons q l ih =>
   have a := h2 q (by simp)
   have b := ih fun x hx => h2 x (by simp [hx])
   simp only [List.map_cons, List.sum_cons, List.length_cons, Nat.succ_mul]; omega
 unfold wI
 have : l.length * 10 ≤ 24 * 10 := Nat.mul_le_mul h1.1 (Nat.le_refl _)
 omega
def QR {l : List ZG} {k : Nat} : oX l (k + 1) = oX l k ++ [fR l (k : Int)] := by unfold oX; rw [List.range_succ, bb]; rfl
def QT {l : List ZG} {k : Nat} : (oX l k).length = k := by unfold oX; rw [am, List.length_range]
def QU {l : List ZG} (h : dm l = true) : lV l = ⟨l, oX l 3⟩ := by unfold lV; rw [if_pos h]; rfl
def QV {l : List ZG} (h : dm l = false) : lV l = ⟨[], []⟩ := by unfold lV; rw [if_neg (by rw [h]; simp)]
def PV.to_eqv {o : Fl} {es ds : List (List PV)} (h : es = ds) : (PV.sl o es).To (PV.sl .v ds) := by subst h; exact oC
def iE {a b : bW} (h : a = b) : [PV.val (.string (B a))] = [PV.val (.string (B b))] := by rw [h]
abbrev itoa (n : Int) : bW := Lib.itoa n
def cy {n : Int} (h : aQ n) : (itoa n).length ≤ 21 := Lib.itoa_length_le n h.1 h.2
def QW {u : Nat} (h : 10 ≤ u) : Lib.decDigits u = Lib.decDigits (u / 10) ++ [UInt8.ofNat (48 + u % 10)] := by rw [Lib.decDigits, dif_neg (by omega)]
def Kp {u : Nat} (h : u < 10) : Lib.decDigits u = [UInt8.ofNat (48 + u)] := by rw [Lib.decDigits, dif_pos h]
def nO (n q : Int) (s : bW) : Prop := (if q = 0 then s else Lib.decDigits q.natAbs ++ s) = Lib.decDigits n.natAbs
def QX {n : Int} (h : n ≠ 0) : nO n n [] := by unfold nO; rw [if_neg h, eH]
def rN (q : Int) : (q.tdiv 10).natAbs = q.natAbs / 10 := by rw [Int.natAbs_tdiv]; rfl
def QY (q : Int) : (q.tmod 10).natAbs = q.natAbs % 10 := by rw [Int.natAbs_tmod]; rfl
def QZ {n q d : Int} {s : bW} (h : nO n q s) (hq : q ≠ 0) (hd : d = ((q.natAbs % 10 : Nat) : Int)) : nO n (q.tdiv 10) (jE [48 + d] ++ s) := by
 have e : jE [48 + d] = [UInt8.ofNat (48 + q.natAbs % 10)] := by
  subst hd
  show [UInt8.ofNat (48 + ((q.natAbs % 10 : Nat) : Int)).toNat] = _
  congr 2
 unfold nO at h ⊢
 rw [if_neg hq] at h
 rw [e, ← h]
 by_cases h0 : q.tdiv 10 = 0
 ·rw [if_pos h0]
  have : q.natAbs / 10 = 0 := by rw [← rN, h0]; rfl
  rw [Kp (by omega), show q.natAbs % 10 = q.natAbs by omega]
 ·rw [if_neg h0]
  have : q.natAbs / 10 ≠ 0 := by rw [← rN]; omega
  rw [QW (u := q.natAbs) (by omega), rN, bl]
def Ra {n : Int} {s : bW} (h : nO n 0 s) : s = Lib.decDigits n.natAbs := by unfold nO at h; rwa [if_pos rfl] at h
def Kq {n q : Int} {s : bW} (h : nO n q s) (hn : aQ n) : s.length ≤ 20 := by
 have hd : (Lib.decDigits n.natAbs).length ≤ 20 := by
  rw [Lib.decDigits_length]; exact Lib.nDigits_le20 _ (by unfold aQ at hn; omega)
 rw [← h] at hd
 split at hd
 ·exact hd
 ·rw [aD] at hd; omega
def Kr {n : Int} (h : n < 0) : itoa n = 45 :: Lib.decDigits n.natAbs := by show Lib.itoa n = _; rw [Lib.itoa, if_pos h]
def AY {n : Int} (h : ¬ n < 0) : itoa n = Lib.decDigits n.natAbs := by show Lib.itoa n = _; rw [Lib.itoa, if_neg h]; congr 1; omega
def Rb : itoa 0 = [48] := by rw [AY (by omega)]; exact Kp (by decide)
def Rc {α : Type} {P : List α → Prop} (h0 : P []) (h1 : ∀ l a, P l → P (l ++ [a])) (l : List α) : P l := by
 have h : ∀ r : List α, P r.reverse := by
  intro r
  induction r with
  | nil => exact h0
  | cons a r ih => rw [List.reverse_cons]; exact h1 _ _ ih
 simpa using h l.reverse
def oZ {xs : List bW} {y sep : bW} : dD (xs ++ [y]) sep = (if xs = [] then y else dD xs sep ++ sep ++ y) := by
 cases xs with
 | nil => simp [dD, Lib.join_one]
 | cons x r =>
  rw [if_neg (by simp)]
  unfold dD
  rw [List.cons_append, Lib.join_cons, Lib.join_cons]
  simp [Lib.joinTail, bl]
def wW {sep : bW} : dD [] sep = [] := rfl
def ua {m : Nat} {sep : bW} {xs : List bW} (h : ∀ x ∈ xs, x.length ≤ m) : (dD xs sep).length ≤ xs.length * (m + sep.length) := by
 induction xs using Rc with
 | h0 => simp [wW]
 | h1 xs y ih =>
  have h1 := ih fun x hx => h x (by simp [hx])
  have h2 := h y (by simp)
  rw [oZ, aD, List.length_singleton, Nat.succ_mul]
  split
  ·omega
  ·simp only [aD]; omega
def Rd {xs : List bW} {a b sep : bW} (h : xs ≠ []) : dD (xs ++ [a, b]) sep = dD xs sep ++ sep ++ a ++ sep ++ b := by
 rw [show xs ++ [a, b] = (xs ++ [a]) ++ [b] by simp, oZ, if_neg (by simp), oZ, if_neg h]
def ln (l : List Int) : bW := dD (l.map itoa) [44]
def pb {l : List Int} (h : ∀ x ∈ l, aQ x) : (ln l).length ≤ l.length * 22 := by
 have := ua (m := 21) (sep := [44]) (xs := l.map itoa) (by intro x hx; obtain ⟨y, hy, rfl⟩ := List.mem_map.1 hx; exact cy (h y hy))
 simpa [ln] using this
def Re {l : List Int} {k : Nat} (hk : k < l.length) : ln (l.take (k + 1)) = (if k = 0 then itoa l[k] else ln (l.take k) ++ [44] ++ itoa l[k]) := by
 unfold ln
 rw [rz hk, bb, List.map_cons, List.map_nil, oZ]
 by_cases h : k = 0
 ·subst h; simp
 ·rw [if_neg h, if_neg]
  intro e
  have := congrArg List.length e
  simp at this
  rcases this with e | e
  ·exact h e
  ·rw [e] at hk; simp at hk
def kF (x : bM) (i : Nat) : Bool := aB (x.ZL.getD i 0) 0 3 && aB (x.Rows.getD i 0) 0 x.Base
def nP (x : bM) (k : Nat) : Bool := (List.range k).all (kF x)
def Rf {x : bM} {k : Nat} : nP x (k + 1) = (nP x k && kF x k) := by simp [nP, List.range_succ]
def kG (x : bM) : Bool := du x.Ids && (aB x.Ids.length 1 8 && (decide (x.ZL.length = x.Ids.length) && decide (x.Rows.length = x.Ids.length)))
def cj (x : bM) : Bool := (kG x && nP x x.Ids.length) && (aB x.Segment 0 7 && aB x.Base 0 4)
def mH {x : bM} (h : kG x = true) : 1 ≤ x.Ids.length ∧ x.Ids.length ≤ 8 ∧ x.ZL.length = x.Ids.length ∧ x.Rows.length = x.Ids.length := by
 simp [kG, aB] at h; omega
def Rg {x : bM} {k : Nat} (hk : k < x.Ids.length) (h : kF x k = false) : cj x = false := by
 have : nP x x.Ids.length = false := by
  rw [← Bool.not_eq_true]
  intro hh
  have := List.all_eq_true.1 hh k (List.mem_range.2 hk)
  rw [h] at this; cases this
 unfold cj; rw [this]; simp
def pc {x : bM} (h : cj x = true) : kG x = true ∧ 0 ≤ x.Base ∧ x.Base ≤ 4 ∧ ∀ i, i < x.Ids.length → 0 ≤ x.Rows.getD i 0 ∧ x.Rows.getD i 0 ≤ 4 := by
 unfold cj at h
 simp only [aL] at h
 have hb : 0 ≤ x.Base ∧ x.Base ≤ 4 := by have := h.2.2; simp [aB] at this; exact this
 refine ⟨h.1.1, hb.1, hb.2, fun i hi => ?_⟩
 have := List.all_eq_true.1 h.1.2 i (List.mem_range.2 hi)
 simp only [kF, aB, aL, decide_eq_true_eq] at this
 omega
def Ks {α : Type} {l : List α} {f : α → Int} {k : Nat} (hk : k < l.length) : ((l.take (k + 1)).map f).sum = ((l.take k).map f).sum + f l[k] := by
 rw [rz hk, bb, List.sum_append]; simp
def Kt {α : Type} {l : List α} {f : α → Int} {m : Int} (h : ∀ x, 0 ≤ f x ∧ f x ≤ m) (hm : 0 ≤ m) : 0 ≤ (l.map f).sum ∧ (l.map f).sum ≤ l.length * m := by
 induction l with
 | nil => simp
 | cons a l ih =>
  have := h a
  simp only [List.map_cons, List.sum_cons, List.length_cons, Int.natCast_add, Int.natCast_one, Int.add_mul, Int.one_mul]
  omega
def wX {f : Nat → Int} {k : Nat} : ((List.range (k + 1)).map f).sum = ((List.range k).map f).sum + f k := by
 rw [List.range_succ, bb, List.sum_append]; simp
def qo {f : Nat → Int} {m : Int} {n : Nat} (h : ∀ i, i < n → 0 ≤ f i ∧ f i ≤ m) : ∀ k, k ≤ n → 0 ≤ ((List.range k).map f).sum ∧ ((List.range k).map f).sum ≤ k * m
 | 0, _ => by simp
 | k + 1, hk => by
  have h1 := qo h k (by omega)
  have h2 := h k (by omega)
  rw [wX]
  have e : ((k + 1 : Nat) : Int) * m = k * m + m := by rw [Int.natCast_add, Int.add_mul, Int.natCast_one, Int.one_mul]
  omega
def qp (x : bM) (i : Nat) : Int := x.Rows.getD i 0
def mI (x : bM) : Int := if cj x then x.Base + ((List.range x.Rows.length).map (qp x)).sum else 0
def AZ (x : bM) : 0 ≤ mI x ∧ mI x ≤ 36 := by
 unfold mI
 split
 ·rename_i h
  obtain ⟨h1, h2, h3, h4⟩ := pc h
  have h5 := mH h1
  have := qo (f := qp x) (m := 4) (n := x.Ids.length) (fun i hi => h4 i hi) x.Rows.length (by omega)
  omega
 ·omega
def nQ (l : List bM) : Int := (l.map mI).sum
def je (x : bM) (i : Nat) : Int := x.Rows.getD i 0 + x.Base.tdiv x.Ids.length + (if (i : Int) < x.Base.tmod x.Ids.length then 1 else 0)
def eS (x : bM) : List Int := if cj x then (List.range x.Ids.length).map (je x) else []
def Rh {x : bM} (h : cj x = true) {i : Nat} (hi : i < x.Ids.length) : 0 ≤ je x i ∧ je x i ≤ 9 := by
 obtain ⟨h1, h2, h3, h4⟩ := pc h
 have h5 := mH h1
 have h6 := h4 i hi
 have h7 := Int.tdiv_nonneg h2 (by omega : (0 : Int) ≤ x.Ids.length)
 have h8 := Int.tdiv_le_self (x.Ids.length : Int) h2
 unfold je
 split <;> omega
def Ba (x : bM) : (eS x).length ≤ 8 ∧ (cj x = true → (eS x).length = x.Ids.length) := by
 unfold eS
 split
 ·rename_i h
  have h5 := mH (pc h).1
  rw [am, List.length_range]; exact ⟨by omega, fun _ => rfl⟩
 ·rename_i h; exact ⟨by simp, fun hh => absurd hh h⟩
def Bb {x : bM} {k : Nat} (h : k < (eS x).length) : cj x = true ∧ k < x.Ids.length ∧ k < x.ZL.length ∧ 0 ≤ (eS x).getD k 0 ∧ (eS x).getD k 0 ≤ 9 := by
 unfold eS at h ⊢
 split at h
 ·rename_i hk
  rw [am, List.length_range] at h
  have h5 := mH (pc hk).1
  refine ⟨hk, h, by omega, ?_⟩
  have := Rh hk h
  rw [if_pos hk, List.getD_eq_getElem?_getD, List.getElem?_map, List.getElem?_range h]
  exact this
 ·simp at h
def lW (t : Int) (x : bM) (k : Nat) : Int := if x.ZL.getD k 0 = t then (eS x).getD k 0 else 0
def pd (t : Int) (x : bM) : Int := ((List.range (eS x).length).map (lW t x)).sum
def Ri {x : bM} {k : Nat} (h : (k = x.Ids.length ∧ cj x = true) ∨ (k = 0 ∧ (x.Ids.length = 0 ∨ cj x = false))) : (List.range k).map (je x) = eS x := by
 unfold eS
 rcases h with ⟨rfl, h⟩ | ⟨rfl, h⟩
 ·rw [if_pos h]
 ·split
  ·rename_i h2
   rcases h with h | h
   ·rw [h]
   ·rw [h] at h2; cases h2
  ·rfl
def Bc {t : Int} {x : bM} {k : Nat} (h : k < (eS x).length) : 0 ≤ lW t x k ∧ lW t x k ≤ 9 := by
 have := Bb h
 unfold lW
 split <;> omega
def Rj (t : Int) (x : bM) : 0 ≤ pd t x ∧ pd t x ≤ 72 := by
 have h1 := qo (f := lW t x) (m := 9) (n := (eS x).length) (fun i hi => Bc hi) _ (Nat.le_refl _)
 have h2 := (Ba x).1
 unfold pd
 omega
def lX (l : List bM) (t : Int) : Int := (l.map (pd t)).sum
def ub (l : List bM) : 0 ≤ nQ l ∧ nQ l ≤ l.length * 36 := Kt (fun x => AZ x) (by decide)
def uc (l : List bM) (t : Int) : 0 ≤ lX l t ∧ lX l t ≤ l.length * 72 := Kt (fun x => Rj t x) (by decide)
section
def go : ZF := ⟨⟨0, 0, [], []⟩, 0, [], 0, 0, 0, []⟩
def kH (a b : ZF) : Bool := decide (a.ZG.Id < b.ZG.Id)
def jR (n v : Int) : Bool := aB v 0 (n - 1)
def jS (a b : Int) : Bool := decide (a < b)
def jT (l : List Int) (n : Int) : Bool := dE 0 (jR n) jS l && decide (0 < l.length)
def eg (s : Store) (a : ZF) : Bool := jT a.ZO s.ZE.length && (bG a.ZG && (aB a.Time 0 s.Now && (aB a.Age 0 100000 && (aB a.Sent 0 1000 && (aB a.Cap 0 32 && fg a.Rows)))))
def fz (now : Int) (f : eE) : Bool := bG f.ZG && (aB f.Time 0 now && (aB f.Steps 0 100000 && fg f.Rows))
def ic (e : ay) : Bool := (bL e.Store && (aB e.ZJ 0 (e.Store.ZE.length - 1) && (fF e.Order && aB e.Steps 0 100000))) && (decide ((e.ZF.length : Int) ≤ 8) && (decide ((e.Done.length : Int) ≤ 1000) && decide ((e.ZR.length : Int) ≤ 1000)))
def aT (e : ay) : Bool := ic e && (dE go (eg e.Store) kH e.ZF && (e.Done.all (fz e.Store.Now) && e.ZR.all cj))
def Rk {e : ay} (h : ic e = false) : aT e = false := by unfold aT; rw [h]; rfl
def Ku {e : ay} (h : dE go (eg e.Store) kH e.ZF = false) : aT e = false := by unfold aT; rw [h]; simp
def Kv {e : ay} (h : e.Done.all (fz e.Store.Now) = false) : aT e = false := by unfold aT; rw [h]; simp
def Kw {e : ay} (h : e.ZR.all cj = false) : aT e = false := by unfold aT; rw [h]; simp
def Kx {e : ay} (h1 : ic e = true) (h2 : dE go (eg e.Store) kH e.ZF = true) (h3 : e.Done.all (fz e.Store.Now) = true) (h4 : e.ZR.all cj = true) : aT e = true := by unfold aT; rw [h1, h2, h3, h4]; rfl
def gU {e : ay} (h : aT e = true) : bL e.Store = true ∧ fF e.Order = true ∧ 0 ≤ e.ZJ ∧ e.ZJ.toNat < e.Store.ZE.length ∧ e.ZF.length ≤ 8 ∧ e.Done.length ≤ 1000 ∧ e.ZR.length ≤ 1000 ∧ 0 ≤ e.Steps ∧ e.Steps ≤ 100000 ∧ (∀ a ∈ e.ZF, eg e.Store a = true) ∧ (∀ f ∈ e.Done, fz e.Store.Now f = true) ∧ ∀ c ∈ e.ZR, cj c = true := by
 unfold aT ic at h
 simp only [aL, aB, decide_eq_true_eq] at h
 obtain ⟨⟨⟨h1, h2, h3, h4⟩, h5, h6, h7⟩, h8, h9, h10⟩ := h
 refine ⟨h1, h3, by omega, by omega, by omega, by omega, by omega, by omega, by omega, fun a ha => ?_, List.all_eq_true.1 h9, List.all_eq_true.1 h10⟩
 obtain ⟨k, hk, rfl⟩ := List.mem_iff_getElem.1 ha
 exact tR h8 hk
def qr (o : List Int) (k : Nat) : Bool := (List.range k).all fun i => bP o (i : Int)
def wY {o : List Int} {k : Nat} : qr o (k + 1) = (qr o k && bP o (k : Int)) := by simp [qr, List.range_succ]
def Ky {o : List Int} : (qr o 3 && decide (o.length = 3)) = fF o := by
 rw [Bool.and_comm, fF, wY, wY, wY]
 show _ = (decide (o.length = 3) && (bP o ((0 : Nat) : Int) && (bP o ((1 : Nat) : Int) && bP o ((2 : Nat) : Int))))
 simp [qr, Bool.and_assoc]
def Rl {o : List Int} {k : Nat} (hk : k < 3) (h : bP o (k : Int) = false) : fF o = false := by
 rw [← Ky]
 have : qr o 3 = false := by
  rw [← Bool.not_eq_true]
  intro hh
  have := List.all_eq_true.1 hh k (List.mem_range.2 hk)
  rw [h] at this; cases this
 rw [this]; rfl
def ie (a : ZF) : Bool := decide (a.Cap = 0) || decide (a.Sent < a.Cap)
def lp (e : ay) (i : Int) : Bool := aT e && aB i 0 (e.ZF.length - 1) && ie (e.ZF.getD i.toNat go)
def iF (e : ay) (a : ZF) : Bool := ie a && bP a.ZO e.ZJ
def gp (e : ay) (l : List ZF) : List Int := (l.filter (iF e)).map fun a => a.ZG.Id
def parts (e : ay) : List Int := if aT e then gp e e.ZF else []
section
variable {e : ay} {l : List ZF} {k : Nat} {id : Int}
def Kz (h : aT e = true) (hk : k < e.ZF.length) : lp e (k : Int) = ie e.ZF[k] := by
 unfold lp
 rw [h, show aB (k : Int) 0 (e.ZF.length - 1) = true by simp [aB]; omega, Int.toNat_natCast, List.getD_eq_getElem?_getD, List.getElem?_eq_getElem hk]; rfl
def Rm (hk : k < l.length) (h : iF e l[k] = true) : gp e (l.take (k + 1)) = gp e (l.take k) ++ [l[k].ZG.Id] := by
 unfold gp; rw [cZ hk, fK]; simp [h]
def Rn (hk : k < l.length) (h : iF e l[k] = false) : gp e (l.take (k + 1)) = gp e (l.take k) := by
 unfold gp; rw [cZ hk, fK]; simp [h]
def KA : (gp e l).length ≤ l.length := by
 unfold gp; rw [am]; exact il _ _
def qt (h : aT e = true) : parts e = gp e e.ZF := if_pos h
def Ro (h : aT e = false) : parts e = [] := if_neg (by rw [h]; simp)
def Rp (h : (k = e.ZF.length ∧ aT e = true) ∨ (k = 0 ∧ (e.ZF.length = 0 ∨ aT e = false))) : gp e (e.ZF.take k) = parts e := by
 rcases h with ⟨rfl, h⟩ | ⟨rfl, h⟩
 ·rw [bY, qt h]
 ·rw [List.take_zero]
  rcases h with h | h
  ·unfold parts
   rw [gu h]
   split <;> rfl
  ·rw [Ro h]; rfl
def wZ : (parts e).length ≤ e.ZF.length := by
 unfold parts
 split
 ·exact KA
 ·exact Nat.zero_le _
def eT (id : Int) (a : ZF) : Bool := a.ZG.Id == id
def dv (l : List ZF) (id : Int) : Int := if l.any (eT id) then ((l.findIdx (eT id) : Nat) : Int) else -1
def Bd (hk : k < l.length) (h : (l.take k).any (eT id) = false) (hy : eT id l[k] = true) : dv l id = (k : Int) := by
 have e : l.findIdx (eT id) = k := by
  rw [List.findIdx_eq hk]
  refine ⟨hy, fun j hj => ?_⟩
  rw [List.any_eq_false] at h
  have := h l[j] (by rw [xS]; exact ⟨j, by rw [bg]; omega, by simp⟩)
  simpa using this
 unfold dv
 rw [if_pos (rt hk hy), e]
def Rq (h : l.any (eT id) = false) : dv l id = -1 := if_neg (by rw [h]; simp)
def Rr (h : id ∈ gp e l) : 0 ≤ dv l id ∧ (dv l id).toNat < l.length := by
 unfold gp at h
 obtain ⟨a, ha, rfl⟩ := List.mem_map.1 h
 have ha := (List.mem_filter.1 ha).1
 have hany : l.any (eT a.ZG.Id) = true := List.any_eq_true.2 ⟨a, ha, by simp [eT]⟩
 have hlt : l.findIdx (eT a.ZG.Id) < l.length := List.findIdx_lt_length_of_exists ⟨a, ha, by simp [eT]⟩
 unfold dv
 rw [if_pos hany]
 omega
end
def nR (l : List ZF) (ids : List Int) : List ZG := ids.map fun id => (l.getD (dv l id).toNat go).ZG
def mJ : List (List Int) := [[0, 1, 2], [0, 2, 1], [1, 0, 2], [1, 2, 0], [2, 0, 1], [2, 1, 0]]
def Rs {k : Nat} (h : k < mJ.length) : mJ[k].length = 3 := by
 have : ∀ o ∈ mJ, o.length = 3 := by decide
 exact this _ (List.getElem_mem h)
end
def lY (s : Store) : Nat := (aY s).length
def nS (e : ay) : List bW := [[115, 116, 101, 112], itoa e.Steps, [99, 117, 114, 115, 111, 114], itoa e.ZJ, [116, 105, 109, 101], itoa e.Store.Now, [118, 101, 114, 115, 105, 111, 110, 115], itoa (lY e.Store : Int), [97, 99, 116, 105, 118, 101], itoa (e.ZF.length : Int), [100, 111, 110, 101], itoa (e.Done.length : Int)]
noncomputable def ud (e : ay) : bW := if aT e then dD (nS e) [32] else []
def qu (s : Store) (k : Nat) : Nat := (cV s k).length
def KB {s : Store} {k : Nat} (hk : k < s.ZE.length) : qu s (k + 1) = qu s k + s.ZE[k].length := by unfold qu; rw [tY hk, aD]
def Rt {s : Store} (k : Nat) (hk : k ≤ s.ZE.length) : qu s k ≤ lY s := by
 unfold qu lY cV aY
 have e : s.ZE.flatten = (s.ZE.take k).flatten ++ (s.ZE.drop k).flatten := by rw [← List.flatten_append, fq]
 rw [e, aD]; omega
def KC {e : ay} (h0 : (itoa e.Steps).length ≤ 21) (h1 : (itoa e.ZJ).length ≤ 21) (h2 : (itoa e.Store.Now).length ≤ 21) (h3 : (itoa (lY e.Store : Int)).length ≤ 21) (h4 : (itoa (e.ZF.length : Int)).length ≤ 21) (h5 : (itoa (e.Done.length : Int)).length ≤ 21) : (dD (nS e) [32]).length ≤ 1000 := by
 have h := ua (m := 22) (sep := [32]) (xs := nS e) (by
  intro x hx
  unfold nS at hx
  simp only [iV, List.not_mem_nil, or_false] at hx
  rcases hx with rfl | rfl | rfl | rfl | rfl | rfl | rfl | rfl | rfl | rfl | rfl | rfl <;> first | omega | (simp only [List.length_cons, List.length_nil]; omega))
 have e12 : (nS e).length = 12 := rfl
 rw [e12] at h
 simp only [List.length_cons, List.length_nil] at h
 omega
section
def kI (v : aM) (keep : List Int) : Bool := decide (v.ZP = -1) || keep.any (fE v)
def nU (v : aM) (keep : List Int) (k : Nat) : Bool := decide (v.ZP = -1) || (keep.take k).any (fE v)
def Ru {v : aM} {keep : List Int} {k : Nat} (hk : k < keep.length) : nU v keep (k + 1) = (nU v keep k || fE v keep[k]) := by
 unfold nU; rw [cZ hk, List.any_append, ← Bool.or_assoc]; simp
def KD {v : aM} {keep : List Int} : nU v keep keep.length = kI v keep := by unfold nU kI; rw [bY]
def nV (keep : List Int) (l : List aM) : List aM := l.filter fun v => kI v keep
def ig (s : Store) (keep : List Int) : Store := if bL s then ⟨s.ZE.map (nV keep), s.Now⟩ else s
def iG (keep : List Int) (zs : List (aM × (Nat → Value))) : List (aM × (Nat → Value)) := zs.filter fun z => kI z.1 keep
def iH (zss : List (List (aM × (Nat → Value)))) (keep : List Int) (k : Nat) : List (List (aM × (Nat → Value))) := (zss.take k).map (iG keep) ++ zss.drop k
section
variable {zss : List (List (aM × (Nat → Value)))} {keep : List Int} {k : Nat} {segs : List (List aM)}
def KE : (iH zss keep k).length = zss.length := by unfold iH; simp; omega
def Rv (hk : k < zss.length) (h : k < (iH zss keep k).length) : (iH zss keep k)[k]'h = zss[k] := by
 have h1 : (iH zss keep k)[k]? = some zss[k] := by
  unfold iH
  rw [List.getElem?_append_right (by simp; omega)]
  simp [Nat.min_eq_left (Nat.le_of_lt hk), hk]
 exact (List.getElem?_eq_some_iff.1 h1).2
def Rw (hk : k < zss.length) : (iH zss keep k).set k (iG keep zss[k]) = iH zss keep (k + 1) := by
 unfold iH
 have hl : ((zss.take k).map (iG keep)).length = k := by rw [am, bg]; omega
 rw [List.set_append_right _ _ (by omega), hl, Nat.sub_self, List.drop_eq_getElem_cons hk, List.set_cons_zero, cZ hk, bb]
 simp
def KF : iH zss keep zss.length = zss.map (iG keep) := by unfold iH; simp
def Rx : (zss.map (iG keep)).flatten.Sublist zss.flatten := by
 induction zss with
 | nil => exact List.Sublist.slnil
 | cons z l ih => rw [List.map_cons, List.flatten_cons, List.flatten_cons]; exact List.Sublist.append List.filter_sublist ih
def Ry (hz : zss.map (List.map Prod.fst) = segs) : (zss.map (iG keep)).map (List.map Prod.fst) = segs.map (nV keep) := by
 rw [← hz, List.map_map, List.map_map]
 refine List.map_congr_left fun zs _ => ?_
 simp only [Function.comp_apply, iG, nV, List.filter_map]
 rfl
def Rz (hz : zss.map (List.map Prod.fst) = segs) : zss.length = segs.length := by rw [← hz, am]
def RA (hz : zss.map (List.map Prod.fst) = segs) (hk : k < zss.length) (hk2 : k < segs.length) : zss[k].map Prod.fst = segs[k] := by subst hz; simp
def RB (hz : zss.map (List.map Prod.fst) = segs) (hk : k < zss.length) (hk2 : k < segs.length) : zss[k].length = segs[k].length := by rw [← RA hz hk hk2, am]
def RC (hz : zss.map (List.map Prod.fst) = segs) (hk : k < zss.length) (hk2 : k < segs.length) {j : Nat} (hj : j < zss[k].length) (hj2 : j < segs[k].length) : zss[k][j].1 = segs[k][j] := by
 subst hz; simp
def RD {zs : List (aM × (Nat → Value))} {j : Nat} (hj : j < zs.length) (h : kI zs[j].1 keep = true) : iG keep (zs.take (j + 1)) = iG keep (zs.take j) ++ [zs[j]] := by
 unfold iG; rw [cZ hj, fK]; simp [h]
def RE {zs : List (aM × (Nat → Value))} {j : Nat} (hj : j < zs.length) (h : kI zs[j].1 keep = false) : iG keep (zs.take (j + 1)) = iG keep (zs.take j) := by
 unfold iG; rw [cZ hj, fK]; simp [h]
def RF {zs : List (aM × (Nat → Value))} {j : Nat} : (iG keep (zs.take j)).length ≤ j := by
 have := il (fun z : aM × (Nat → Value) => kI z.1 keep) (zs.take j)
 rw [bg] at this
 unfold iG; omega
end
def nW (s : Store) (i j : Nat) : List aM := (s.ZE.take i).flatten ++ (s.ZE.getD i []).take j
def iI (s : Store) (keep : List Int) (i j : Nat) : Nat := ((nW s i j).filter fun v => !kI v keep).length
def KG {s : Store} {i j : Nat} (hi : i < s.ZE.length) (hj : j < s.ZE[i].length) : nW s i (j + 1) = nW s i j ++ [s.ZE[i][j]] := by
 unfold nW
 rw [show s.ZE.getD i [] = s.ZE[i] by simp [hi], cZ hj, bl]
def RG {s : Store} {i : Nat} (hi : i < s.ZE.length) : nW s i s.ZE[i].length = nW s (i + 1) 0 := by
 unfold nW
 rw [show s.ZE.getD i [] = s.ZE[i] by simp [hi], bY, cZ hi, List.flatten_append]
 simp
def RH {s : Store} {keep : List Int} {i j : Nat} (hi : i < s.ZE.length) (hj : j < s.ZE[i].length) (h : kI s.ZE[i][j] keep = true) : iI s keep i (j + 1) = iI s keep i j := by
 unfold iI; rw [KG hi hj, fK]; simp [h]
def RI {s : Store} {keep : List Int} {i j : Nat} (hi : i < s.ZE.length) (hj : j < s.ZE[i].length) (h : kI s.ZE[i][j] keep = false) : iI s keep i (j + 1) = iI s keep i j + 1 := by
 unfold iI; rw [KG hi hj, fK]; simp [h]
def RJ {s : Store} {keep : List Int} {i : Nat} (hi : i < s.ZE.length) : iI s keep i s.ZE[i].length = iI s keep (i + 1) 0 := by unfold iI; rw [RG hi]
def RK {s : Store} {keep : List Int} : iI s keep 0 0 = 0 := by simp [iI, nW]
def RL {s : Store} {keep : List Int} {i j : Nat} (hi : i < s.ZE.length) : iI s keep i j ≤ (aY s).length := by
 unfold iI
 refine Nat.le_trans (il _ _) ?_
 unfold nW aY
 have h1 := tY (s := s) hi
 have h2 : (cV s (i + 1)).length ≤ s.ZE.flatten.length := by
  unfold cV
  have e : s.ZE.flatten = (s.ZE.take (i + 1)).flatten ++ (s.ZE.drop (i + 1)).flatten := by rw [← List.flatten_append, fq]
  rw [e, aD]; omega
 rw [h1, aD] at h2
 rw [aD, bg, show s.ZE.getD i [] = s.ZE[i] by simp [hi]]
 unfold cV at h2; omega
def KH (keep : List Int) : ∀ l : List aM, cb (nV keep l) ≤ cb l
 | [] => Nat.le_refl _
 | v :: l => by
  have ih := KH keep l
  unfold nV cb at *
  rw [List.filter_cons]
  split <;> simp only [List.length_cons, List.map_cons, List.sum_cons] <;> omega
def KI (s : Store) (keep : List Int) : cq (ig s keep) ≤ cq s := by
 unfold ig
 split
 ·unfold cq gN
  dsimp only
  rw [am, List.map_map]
  have : (s.ZE.map (cb ∘ nV keep)).sum ≤ (s.ZE.map cb).sum := by
   generalize s.ZE = l
   induction l with
   | nil => exact Nat.le_refl _
   | cons x l ih => simp only [List.map_cons, List.sum_cons, Function.comp] at *; have := KH keep x; omega
  omega
 ·exact Nat.le_refl _
def Be {s : Store} {keep : List Int} (h : bL s = true) : ig s keep = ⟨s.ZE.map (nV keep), s.Now⟩ := if_pos h
def RM {s : Store} {keep : List Int} (h : bL s = false) : ig s keep = s := if_neg (by rw [h]; simp)
def xb (s : Store) (keep : List Int) : Int := if bL s then (iI s keep s.ZE.length 0 : Int) else 0
def jU (l : List ZF) : List Int := l.map fun a => a.Time
def fA (e : ay) : ay := ⟨ig e.Store (jU e.ZF), e.ZJ, e.Order, e.ZF, e.Done, e.ZR, e.Steps⟩
def ue (z : aM × (Nat → Value)) : List PV := [PV.nv (z.2 0) (PV.val (vI z.1.Id)), PV.nv (z.2 1) (PV.sl .v (z.1.Values.map an)), PV.nv (z.2 2) (PV.val (vI z.1.ZT)), PV.nv (z.2 3) (PV.val (vI z.1.ZP))]
def nX (zs : List (aM × (Nat → Value))) : List PV := [PV.sl be (zs.map ue)]
end
def iJ (id : Int) (v : aM) : Bool := decide (v.Id = id) && decide (v.ZP = -1)
def ii (id : Int) (l : List aM) : Bool := l.any (iJ id)
def pe (s : Store) (i : Nat) : List aM := s.ZE.getD i []
def cf (s : Store) (id : Int) : Int := if s.ZE.any (ii id) then ((s.ZE.findIdx (ii id) : Nat) : Int) else -1
def lZ (s : Store) (id : Int) : Int := if s.ZE.any (ii id) then (((pe s (s.ZE.findIdx (ii id))).findIdx (iJ id) : Nat) : Int) else -1
def Bf {α : Type} {P : α → Bool} {l : List α} {k : Nat} (hk : k < l.length) (h : (l.take k).any P = false) (hy : P l[k] = true) : l.findIdx P = k := by
 rw [List.findIdx_eq hk]
 refine ⟨hy, fun j hj => ?_⟩
 rw [List.any_eq_false] at h
 have := h l[j] (by rw [xS]; exact ⟨j, by rw [bg]; omega, by simp⟩)
 simpa using this
def RN {s : Store} {id : Int} {i k : Nat} (hi : i < s.ZE.length) (h1 : (s.ZE.take i).any (ii id) = false) (hk : k < s.ZE[i].length) (h2 : (s.ZE[i].take k).any (iJ id) = false) (hy : iJ id s.ZE[i][k] = true) : cf s id = (i : Int) ∧ lZ s id = (k : Int) := by
 have ha : ii id s.ZE[i] = true := rt hk hy
 have hany : s.ZE.any (ii id) = true := rt hi ha
 have e1 := Bf hi h1 ha
 have e2 := Bf hk h2 hy
 unfold cf lZ pe
 rw [if_pos hany, if_pos hany, e1, List.getD_eq_getElem?_getD, List.getElem?_eq_getElem hi]
 exact ⟨rfl, by show ((s.ZE[i].findIdx (iJ id) : Nat) : Int) = _; rw [e2]⟩
def RO {s : Store} {id : Int} (h : s.ZE.any (ii id) = false) : cf s id = -1 ∧ lZ s id = -1 := by
 unfold cf lZ
 rw [if_neg (by rw [h]; simp), if_neg (by rw [h]; simp)]
 exact ⟨rfl, rfl⟩
def pf {s : Store} {id : Int} (h : 0 ≤ cf s id) : ∃ i k : Nat, ∃ hi : i < s.ZE.length, ∃ hk : k < s.ZE[i].length, cf s id = (i : Int) ∧ lZ s id = (k : Int) ∧ iJ id s.ZE[i][k] = true := by
 unfold cf at h
 split at h
 ·rename_i ha
  obtain ⟨l, hl, hp⟩ := List.any_eq_true.1 ha
  have hi : s.ZE.findIdx (ii id) < s.ZE.length := List.findIdx_lt_length_of_exists ⟨l, hl, hp⟩
  have hpi : ii id (s.ZE[s.ZE.findIdx (ii id)]) = true := List.findIdx_getElem (w := hi)
  obtain ⟨v, hv, hvp⟩ := List.any_eq_true.1 hpi
  have hk : s.ZE[s.ZE.findIdx (ii id)].findIdx (iJ id) < s.ZE[s.ZE.findIdx (ii id)].length := List.findIdx_lt_length_of_exists ⟨v, hv, hvp⟩
  refine ⟨_, _, hi, hk, ?_, ?_, List.findIdx_getElem (w := hk)⟩
  ·unfold cf; rw [if_pos ha]
  ·unfold lZ pe; rw [if_pos ha, List.getD_eq_getElem?_getD, List.getElem?_eq_getElem hi]; rfl
 ·omega
def jf (l : List aM) : Bool := decide ((l.length : Int) < 4)
def gE (L : List (List aM)) : Int := if L.any jf then ((L.findIdx jf : Nat) : Int) else -1
def RP {L : List (List aM)} {k : Nat} (hk : k < L.length) (h : (L.take k).any jf = false) (hy : jf L[k] = true) : gE L = (k : Int) := by
 unfold gE; rw [if_pos (rt hk hy), Bf hk h hy]
def RQ {L : List (List aM)} (h : L.any jf = false) : gE L = -1 := if_neg (by rw [h]; simp)
def Bg {L : List (List aM)} (h : 0 ≤ gE L) : ∃ r : Nat, ∃ hr : r < L.length, gE L = (r : Int) ∧ L[r].length < 4 := by
 unfold gE at h
 split at h
 ·rename_i ha
  obtain ⟨l, hl, hp⟩ := List.any_eq_true.1 ha
  have hr : L.findIdx jf < L.length := List.findIdx_lt_length_of_exists ⟨l, hl, hp⟩
  have hpi : jf L[L.findIdx jf] = true := List.findIdx_getElem (w := hr)
  refine ⟨_, hr, by unfold gE; rw [if_pos ha], ?_⟩
  have : ∀ l : List aM, jf l = true → l.length < 4 := fun l hl => by unfold jf at hl; simp only [decide_eq_true_eq] at hl; omega
  exact this _ hpi
 ·omega
def jg (n : Int) (v : aM) : aM := ⟨v.Id, v.Values, v.ZT, n⟩
def Bh (s : Store) (i k : Int) : aM := (pe s i.toNat).getD k.toNat v0
def dQ (s : Store) (u : ZI) : List (List aM) := if 0 ≤ cf s u.Row.Id then s.ZE.set (cf s u.Row.Id).toNat ((pe s (cf s u.Row.Id).toNat).set (lZ s u.Row.Id).toNat (jg (s.Now + 1) (Bh s (cf s u.Row.Id) (lZ s u.Row.Id)))) else s.ZE
def fT (s : Store) (u : ZI) : List Int := if 0 ≤ cf s u.Row.Id then (Bh s (cf s u.Row.Id) (lZ s u.Row.Id)).Values else u.Row.Values
def iK (s : Store) (u : ZI) : List Int := if u.Kind = 3 then (fT s u).set u.Field.toNat u.Value else fT s u
def lr (s : Store) (u : ZI) : aM := ⟨u.Row.Id, iK s u, s.Now + 1, -1⟩
def rO (L : List (List aM)) (r : Nat) (v : aM) : List (List aM) := L.set r (L.getD r [] ++ [v])
def iL (s : Store) (u : ZI) : Bool := ((bL s && gO u) && decide (s.Now < 100000)) && (decide (0 ≤ cf s u.Row.Id) == !decide (u.Kind = 1) && (decide (u.Kind = 2) || decide (0 ≤ gE s.ZE)))
def uf (s : Store) (u : ZI) : Store := ⟨if u.Kind = 2 then dQ s u else rO (dQ s u) (gE s.ZE).toNat (lr s u), s.Now + 1⟩
def eh (s : Store) (u : ZI) : Store × Bool := if iL s u then (uf s u, true) else (s, false)
def ug {s : Store} {u : ZI} (h : iL s u = false) : eh s u = (s, false) := if_neg (by rw [h]; simp)
def Bi {s : Store} {u : ZI} (h : iL s u = true) : eh s u = (uf s u, true) := if_pos h
def uh {s : Store} {u : ZI} (h : iL s u = true) (hk : u.Kind = 2) : eh s u = (⟨dQ s u, s.Now + 1⟩, true) := by rw [Bi h]; unfold uf; rw [if_pos hk]
def xc {s : Store} {u : ZI} {r : Nat} (h : iL s u = true) (hk : ¬ u.Kind = 2) (hr : gE s.ZE = (r : Int)) : eh s u = (⟨rO (dQ s u) r (lr s u), s.Now + 1⟩, true) := by
 rw [Bi h]; unfold uf; rw [if_neg hk, hr]; rfl
def mK {s : Store} {u : ZI} {i k : Nat} (hi : i < s.ZE.length) (hk : k < s.ZE[i].length) (h1 : cf s u.Row.Id = (i : Int)) (h2 : lZ s u.Row.Id = (k : Int)) : dQ s u = s.ZE.set i (s.ZE[i].set k (jg (s.Now + 1) s.ZE[i][k])) ∧ fT s u = s.ZE[i][k].Values := by
 have e1 : pe s i = s.ZE[i] := by unfold pe; simp [hi]
 unfold dQ fT Bh
 rw [h1, h2, if_pos (by omega), if_pos (by omega), Int.toNat_natCast, Int.toNat_natCast, e1]
 simp [hk]
def pg {s : Store} {u : ZI} (h : ¬ 0 ≤ cf s u.Row.Id) : dQ s u = s.ZE ∧ fT s u = u.Row.Values := by
 unfold dQ fT; rw [if_neg h, if_neg h]; exact ⟨rfl, rfl⟩
def KJ (s : Store) (u : ZI) : (dQ s u).map List.length = s.ZE.map List.length := by
 by_cases h : 0 ≤ cf s u.Row.Id
 ·obtain ⟨i, k, hi, hk, h1, h2, _⟩ := pf h
  rw [(mK hi hk h1 h2).1]
  apply List.ext_getElem
  ·simp
  ·intro j hj1 hj2
   simp only [List.getElem_map, List.getElem_set]
   split
   ·rename_i hij; subst hij; simp
   ·rfl
 ·rw [(pg h).1]
def ui (s : Store) (u : ZI) : (dQ s u).length = s.ZE.length := by
 have := congrArg List.length (KJ s u)
 simpa using this
def Bj (s : Store) (u : ZI) {k : Nat} (hk : k < (dQ s u).length) (hk2 : k < s.ZE.length) : (dQ s u)[k].length = s.ZE[k].length := by
 have h := KJ s u
 have := List.getElem_of_eq h (show k < ((dQ s u).map List.length).length by rw [am]; exact hk)
 simpa using this
def RR (n : Int) (v : aM) : cw (jg n v) = cw v := by unfold jg cw; simp only [bh]
def xd {α : Type} {f : α → Nat} : ∀ {l : List α} {i : Nat} {x : α} (hi : i < l.length), ((l.set i x).map f).sum + f l[i] = (l.map f).sum + f x
 | y :: l, 0, x, _ => by simp; omega
 | y :: l, i + 1, x, h => by
  have := xd (f := f) (l := l) (i := i) (x := x) (by simpa using h)
  simp only [List.set_cons_succ, List.map_cons, List.sum_cons, List.getElem_cons_succ]
  omega
def KK (s : Store) (u : ZI) : gN (dQ s u) = gN s.ZE := by
 by_cases h : 0 ≤ cf s u.Row.Id
 ·obtain ⟨i, k, hi, hk, h1, h2, _⟩ := pf h
  rw [(mK hi hk h1 h2).1]
  have e1 := xd (f := cb) (x := s.ZE[i].set k (jg (s.Now + 1) s.ZE[i][k])) hi
  have e2 := xd (f := cw) (x := jg (s.Now + 1) s.ZE[i][k]) hk
  rw [RR] at e2
  have e3 : cb (s.ZE[i].set k (jg (s.Now + 1) s.ZE[i][k])) = cb s.ZE[i] := by unfold cb; rw [List.length_set]; omega
  unfold gN
  rw [List.length_set]; omega
 ·rw [(pg h).1]
def RS (s : Store) (u : ZI) : (iK s u).length ≤ cq s + oO u := by
 have h0 : (iK s u).length = (fT s u).length := by unfold iK; split <;> simp
 rw [h0]
 by_cases h : 0 ≤ cf s u.Row.Id
 ·obtain ⟨i, k, hi, hk, h1, h2, _⟩ := pf h
  rw [(mK hi hk h1 h2).2]
  have w1 := fe (f := cb) hi
  have w2 := fe (f := cw) hk
  have w3 : cb s.ZE[i] = s.ZE[i].length + (s.ZE[i].map cw).sum := rfl
  have w4 : cw s.ZE[i][k] = s.ZE[i][k].Values.length := by simp only [cw, dP, bh]; omega
  unfold cq gN
  simp only [bh]; omega
 ·rw [(pg h).2]
  unfold oO iZ
  simp only [dP, bh]; omega
def Bk {s : Store} {u : ZI} (hs : bL s = true) (h : 0 ≤ cf s u.Row.Id) : (fT s u).length = 3 := by
 obtain ⟨i, k, hi, hk, h1, h2, _⟩ := pf h
 rw [(mK hi hk h1 h2).2]
 have hv := rH hs hi hk
 unfold cD at hv
 rw [aL] at hv
 exact tQ hv.1
def KL {u : ZI} (h : gO u = true) (hk : u.Kind = 3) : 0 ≤ u.Field ∧ u.Field ≤ 2 := by
 unfold gO at h
 rw [if_neg (by omega), if_neg (by omega), if_pos hk] at h
 simp only [aL, aB, decide_eq_true_eq] at h
 exact h.2.1
def KM {s : Store} {u : ZI} (h1 : bL s = true) (h2 : gO u = true) (h3 : s.Now < 100000) (h4 : 0 ≤ cf s u.Row.Id ↔ ¬ u.Kind = 1) (h5 : u.Kind = 2 ∨ 0 ≤ gE s.ZE) : iL s u = true := by
 unfold iL
 rw [h1, h2, decide_eq_true h3]
 have e1 : (decide (0 ≤ cf s u.Row.Id) == !decide (u.Kind = 1)) = true := by
  by_cases a : 0 ≤ cf s u.Row.Id <;> by_cases b : u.Kind = 1 <;> simp_all
 have e2 : (decide (u.Kind = 2) || decide (0 ≤ gE s.ZE)) = true := by
  rcases h5 with h | h <;> simp [h]
 rw [e1, e2]; rfl
def rP {s : Store} {u : ZI} (h : iL s u = true) : bL s = true ∧ gO u = true ∧ s.Now < 100000 ∧ (0 ≤ cf s u.Row.Id ↔ ¬ u.Kind = 1) ∧ (u.Kind = 2 ∨ 0 ≤ gE s.ZE) := by
 unfold iL at h
 simp only [aL, Bool.or_eq_true, decide_eq_true_eq] at h
 obtain ⟨⟨⟨h1, h2⟩, h3⟩, h4, h5⟩ := h
 refine ⟨h1, h2, h3, ?_, h5⟩
 by_cases a : 0 ≤ cf s u.Row.Id <;> by_cases b : u.Kind = 1 <;> simp_all
def rQ {L : List (List aM)} {r : Nat} {v : aM} (hr : r < L.length) : rO L r v = L.set r (L[r] ++ [v]) := by unfold rO; simp [hr]
def KN {α : Type} {d : α} {p : α → Bool} {key : α → Int} {l : List α} (h : dE d p (fun a b => decide (key a < key b)) l = true) : l.Pairwise (fun a b => key a < key b) := by
 have step : ∀ j : Nat, (hj : j + 1 < l.length) → key l[j] < key l[j + 1] := fun j hj => by
  have h1 := List.all_eq_true.1 h (j + 1) (List.mem_range.2 hj)
  rw [aL, et hj, show j + 1 - 1 = j from rfl, et (show j < l.length by omega)] at h1
  have h2 := h1.2
  simpa using h2
 have lt : ∀ (j i : Nat) (hj : j < l.length) (hi : i < j), key l[i] < key l[j] := by
  intro j
  induction j with
  | zero => intro i _ hi; omega
  | succ j ih =>
   intro i hj hi
   have h1 := step j hj
   rcases Nat.lt_or_ge i j with h2 | h2
   ·have := ih i (by omega) h2; omega
   ·have : i = j := by omega
    subst this; exact h1
 rw [List.pairwise_iff_getElem]
 exact fun i j hi hj hij => lt j i hj hij
def RT {l : List Int} (h : ∀ x ∈ l, 0 ≤ x ∧ x ≤ 23) (hp : l.Pairwise (· < ·)) : du l = true := by
 unfold du
 rw [mm]
 intro i hi
 have hi := List.mem_range.1 hi
 rw [List.pairwise_iff_getElem] at hp
 refine wJ.2 ?_
 rw [show l.getD i 0 = l[i] by simp [hi]]
 have := h _ (List.getElem_mem hi)
 refine ⟨this.1, this.2, ?_⟩
 rcases Nat.eq_zero_or_pos i with h0 | h0
 ·exact .inl h0
 ·right
  rw [show l.getD (i - 1) 0 = l[i - 1]'(by omega) by simp [show i - 1 < l.length by omega]]
  exact hp (i - 1) i (by omega) hi (by omega)
def RU {l : List eb} {s : eb} {v : Int} (h : gD v s = false) : fS (l ++ [s]) v = fS l v := by
 unfold fS
 rw [List.find?_append]
 cases hf : l.find? (gD v) with
 | some t => rfl
 | none => simp [h]
def RW {l : List eb} {s : eb} {v : Int} (hl : ∀ t ∈ l, gD v t = false) (h : gD v s = true) : fS (l ++ [s]) v = s.Set := by
 unfold fS
 rw [List.find?_append, List.find?_eq_none.2 (fun t ht => by simp [hl t ht])]
 simp [h]
structure Bm (l : List ZG) (f : Int) (k : Nat) (out : List eb) : Prop where
 none : k = 0 → out = []
 some : 0 < k → ∃ (a : List eb) (s : eb), out = a ++ [s] ∧ s.To = (k : Int) - 1 ∧ s.From ≤ (k : Int) - 1 ∧ (∀ v : Int, s.From ≤ v → v ≤ (k : Int) - 1 → fy l f v = s.Set) ∧ (∀ t ∈ a, t.To < s.From) ∧ (∀ v : Int, 0 ≤ v → v < s.From → fS a v = fy l f v)
def Bm.find {l : List ZG} {f : Int} {k : Nat} {out : List eb} (h : Bm l f k out) {v : Int} (h0 : 0 ≤ v) (hv : v < k) : fS out v = fy l f v := by
 obtain ⟨a, s, rfl, h1, h2, h3, h4, h5⟩ := h.some (by omega)
 by_cases hc : s.From ≤ v
 ·rw [RW (fun t ht => by have := h4 t ht; simp [gD, aB]; omega) (by simp [gD, aB]; omega), h3 v hc (by omega)]
 ·rw [RU (by simp [gD, aB]; omega), h5 v h0 (by omega)]
def KO (l : List ZG) (f : Int) : ∀ k : Nat, Bm l f k (cW l f k)
 | 0 => ⟨fun _ => rfl, fun h => absurd h (Nat.lt_irrefl 0)⟩
 | k + 1 => by
  have ih := KO l f k
  refine ⟨fun h => by omega, fun _ => ?_⟩
  rw [cW]
  have fresh : ∃ (a : List eb) (s : eb), cW l f k ++ [⟨(k : Int), (k : Int), fy l f k⟩] = a ++ [s] ∧ s.To = ((k + 1 : Nat) : Int) - 1 ∧ s.From ≤ ((k + 1 : Nat) : Int) - 1 ∧ (∀ v : Int, s.From ≤ v → v ≤ ((k + 1 : Nat) : Int) - 1 → fy l f v = s.Set) ∧ (∀ t ∈ a, t.To < s.From) ∧ (∀ v : Int, 0 ≤ v → v < s.From → fS a v = fy l f v) := by
   refine ⟨_, _, rfl, by dsimp only; omega, by dsimp only; omega, fun v h1 h2 => ?_, fun t ht => ?_, fun v h1 h2 => ih.find h1 h2⟩
   ·dsimp only at h1 ⊢
    rw [show v = (k : Int) by omega]
   ·dsimp only
    rcases Nat.eq_zero_or_pos k with h0 | h0
    ·rw [ih.none h0] at ht; cases ht
    ·obtain ⟨a, s, he, h1, h2, _, h4, _⟩ := ih.some h0
     rw [he] at ht
     rcases List.mem_append.1 ht with ht | ht
     ·have := h4 t ht; omega
     ·simp at ht; subst ht; omega
  unfold rJ
  split
  ·rename_i hl
   rcases Nat.eq_zero_or_pos k with h0 | h0
   ·rw [ih.none h0] at hl; cases hl
   ·obtain ⟨a, s, he, h1, h2, h3, h4, h5⟩ := ih.some h0
    rw [he] at hl ⊢
    have hlen : (a ++ [s]).length - 1 = a.length := by simp
    have hg : (a ++ [s]).getD a.length jQ = s := by simp
    unfold lU at hl
    rw [hlen, hg, aL] at hl
    have hs : s.Set = fy l f k := JI.1 hl.2
    rw [hlen, hg, List.set_append_right (h := Nat.le_refl _), Nat.sub_self, List.set_cons_zero]
    refine ⟨a, _, rfl, by dsimp only; omega, by dsimp only; omega, fun v k1 k2 => ?_, h4, h5⟩
    dsimp only at k1 ⊢
    by_cases hk : v = (k : Int)
    ·rw [hk, hs]
    ·exact h3 v k1 (by omega)
  ·exact fresh
def RX {l : List ZG} {f v : Int} (hl : dm l = true) (hf : 0 ≤ f ∧ f ≤ 2) (hv : 0 ≤ v ∧ v ≤ 99) : fS (fR l f) v = fy l f v := by
 have hc : (dm l && aB f 0 2) = true := by rw [hl, Bool.true_and]; exact wK.2 hf
 unfold fR
 rw [if_pos hc]
 have h := KO l f 100
 generalize cW l f 100 = out at h ⊢
 exact h.find hv.1 (by omega)
def KP {l : List ZG} (h : dm l = true) : l.Pairwise (fun a b => a.Id < b.Id) := by
 unfold dm at h
 rw [aL] at h
 exact KN h.1
def RY {q : ZG} (h : bG q = true) : 0 ≤ q.Id ∧ q.Id ≤ 23 := by
 unfold bG at h
 simp only [aL, aB, decide_eq_true_eq] at h
 exact h.1.1
def Bn {l : List ZG} (h : dm l = true) (P : ZG → Bool) : du ((l.filter P).map ZG.Id) = true := by
 refine RT (fun x hx => ?_) ?_
 ·obtain ⟨q, hq, rfl⟩ := List.mem_map.1 hx
  exact RY ((oW h).2 q (List.mem_filter.1 hq).1)
 ·rw [List.pairwise_map]
  exact (KP h).filter P
def RZ {α : Type} {key : α → Int} {l : List α} (h : l.Pairwise (fun a b => key a < key b)) {a b : α} (ha : a ∈ l) (hb : b ∈ l) (he : key a = key b) : a = b := by
 obtain ⟨i, hi, rfl⟩ := List.mem_iff_getElem.1 ha
 obtain ⟨j, hj, rfl⟩ := List.mem_iff_getElem.1 hb
 rw [List.pairwise_iff_getElem] at h
 rcases Nat.lt_trichotomy i j with h1 | h1 | h1
 ·have := h i j hi hj h1; omega
 ·subst h1; rfl
 ·have := h j i hj hi h1; omega
def KQ {l : List ZG} (h : dm l = true) (P : ZG → Bool) {q : ZG} (hq : q ∈ l) : bP ((l.filter P).map ZG.Id) q.Id = P q := by
 rw [Bool.eq_iff_iff, AF, ux]
 constructor
 ·rintro ⟨r, hr, he⟩
  have hr := List.mem_filter.1 hr
  rw [← RZ (KP h) hr.1 hq he]; exact hr.2
 ·intro hp
  exact ⟨q, List.mem_filter.2 ⟨hq, hp⟩, rfl⟩
def Sa {l : List ZG} (h : dm l = true) (P A : ZG → Bool) : nH ((l.filter P).map ZG.Id) ((l.filter A).map ZG.Id) = (l.filter fun q => P q && A q).map ZG.Id := by
 unfold nH
 rw [Bn h P, Bn h A, Bool.and_self, if_pos rfl, ← AH (Bn h P), List.filter_map, List.filter_filter]
 congr 1
 refine List.filter_congr fun q hq => ?_
 show (bP ((l.filter A).map ZG.Id) q.Id && P q) = _
 rw [KQ h A hq, Bool.and_comm]
def KR {l : List ZG} {x : ja} {r : Row} (hl : dm l = true) (hx : ∀ f : Int, 0 ≤ f → f ≤ 2 → x.Fields.getD f.toNat [] = fR l f) (hv : ∀ f : Int, 0 ≤ f → f ≤ 2 → 0 ≤ iA r.Values f ∧ iA r.Values f ≤ 99) : ∀ (o : List Int) (P : ZG → Bool) (s : List Int × Int), (∀ f ∈ o, 0 ≤ f ∧ f ≤ 2) → s.1 = (l.filter P).map ZG.Id → (o.foldl (nN x r) s).1 = (l.filter fun q => P q && o.all fun f => mF q f (iA r.Values f)).map ZG.Id
 | [], P, s, _, hs => by rw [List.foldl_nil, hs]; simp
 | f :: o, P, s, ho, hs => by
  rw [List.foldl_cons]
  have hf := ho f (List.mem_cons_self ..)
  have hn : (nN x r s f).1 = (l.filter fun q => P q && mF q f (iA r.Values f)).map ZG.Id := by
   unfold nN
   split
   ·rename_i h0
    rw [h0] at hs
    rw [h0, eq_comm, List.map_eq_nil_iff, List.filter_eq_nil_iff]
    intro q hq hp
    rw [aL] at hp
    have : q.Id ∈ (l.filter P).map ZG.Id := List.mem_map_of_mem (List.mem_filter.2 ⟨hq, hp.1⟩)
    rw [← hs] at this; cases this
   ·dsimp only
    rw [hs, hx f hf.1 hf.2, RX hl hf (hv f hf.1 hf.2)]
    exact Sa hl P _
  rw [KR hl hx hv o _ _ (fun g hg => ho g (List.mem_cons_of_mem _ hg)) hn]
  congr 1
  refine List.filter_congr fun q _ => ?_
  rw [List.all_cons, Bool.and_assoc]
def Sb {o : List Int} (h : fF o = true) : (0 : Int) ∈ o ∧ (1 : Int) ∈ o ∧ (2 : Int) ∈ o := by
 unfold fF at h
 simp only [aL, AF] at h
 exact h.2
def Sc {r : Row} (h : bp r = true) {f : Int} (h0 : 0 ≤ f) (h2 : f ≤ 2) : 0 ≤ iA r.Values f ∧ iA r.Values f ≤ 99 := by
 have hl := tQ h
 unfold bp at h
 simp only [aL] at h
 have hlt : f.toNat < r.Values.length := by omega
 have := List.all_eq_true.1 h.1 _ (List.getElem_mem hlt)
 unfold iA
 rw [et hlt]
 exact wK.1 this
def Sd {o : List Int} {q : ZG} {r : Row} (ho : fF o = true) (hr : bp r = true) (hq : bG q = true) : (o.all fun f => mF q f (iA r.Values f)) = lj q r := by
 rw [Bool.eq_iff_iff, mm]
 unfold lj
 rw [hr, hq, Bool.and_self, Bool.true_and, mm]
 constructor
 ·intro h c hc
  have hf := PY hq hc
  have hfo : c.Field ∈ o := by
   have := Sb ho
   have : c.Field = 0 ∨ c.Field = 1 ∨ c.Field = 2 := by omega
   rcases this with h | h | h <;> rw [h] <;> simp_all
  have := List.all_eq_true.1 (h _ hfo) c hc
  simpa [mE, AJ] using this
 ·intro h f _
  unfold mF
  rw [mm]
  intro c hc
  have := h c hc
  unfold mE
  by_cases he : c.Field = f
  ·subst he; unfold AJ at this; simp [this]
  ·simp [he]
def Se {l : List ZG} {r : Row} {o : List Int} {q : ZG} (hl : dm l = true) (hr : bp r = true) (ho : fF o = true) (hq : q ∈ l) : bP (qn (lV l) r o).1 q.Id = lj q r := by
 have hb : lV l = ⟨l, [fR l 0, fR l 1, fR l 2]⟩ := if_pos hl
 rw [hb]
 unfold qn
 rw [KR (l := l) hl (fun f h0 h2 => by
  have : f = 0 ∨ f = 1 ∨ f = 2 := by omega
  rcases this with rfl | rfl | rfl <;> rfl) (fun f h0 h2 => Sc hr h0 h2) o (fun _ => true) _ (Kk ho).2 (by
   show l.map ZG.Id = _
   rw [List.filter_eq_self.2 (fun _ _ => rfl)]), KQ hl _ hq, Bool.true_and, Sd ho hr ((oW hl).2 q hq)]
end Go.Proofs.YtmekkgdboplbjaaGreatDoor
