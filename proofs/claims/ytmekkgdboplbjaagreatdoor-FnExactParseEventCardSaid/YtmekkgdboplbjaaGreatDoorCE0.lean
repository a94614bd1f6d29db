/- Definitions and their laws. No condition. -/
import Derived.Test.YtmekkgdboplbjaaGreatDoorCD0
import Derived.Test.YtmekkgdboplbjaaGreatDoorProg
import Derived.Lib.Split
import Derived.Lib.AtoiAllCases
set_option linter.all false
namespace Go.Proofs.YtmekkgdboplbjaaGreatDoor
open Go Go.RowKit M Tryz
set_option maxRecDepth 10000
section
section
variable {α : Type} {P : α → Bool} {xs ys : List α} {k : Nat}
def AC : (xs.take 0).all P = true := by simp
def qL (h : (xs.take k).all P = true) (hk : k < xs.length) (hp : P xs[k] = true) : (xs.take (k + 1)).all P = true := by
 rw [eN hk, List.all_append, h]; simp [hp]
def nP (hk : k < xs.length) (hp : P xs[k] = false) : xs.all P = false := by
 rw [List.all_eq_false]; exact ⟨_, List.getElem_mem hk, by rw [hp]; simp⟩
def lL (h : (xs.take xs.length).all P = true) : xs.all P = true := by rwa [dl] at h
def qM (h : xs.take k = ys.take k) (hk : k < xs.length) (hk' : k < ys.length) (he : xs[k] = ys[k]) : xs.take (k + 1) = ys.take (k + 1) := by
 rw [eN hk, eN hk', h, he]
def wE (hk : k < xs.length) (hk' : k < ys.length) (he : ¬ xs[k] = ys[k]) : ¬ xs = ys := by
 rintro rfl; exact he rfl
def AD (hl : xs.length = ys.length) (h : xs.take xs.length = ys.take xs.length) : xs = ys := by
 rw [dl] at h; rw [h, hl, dl]
noncomputable def dh (x y : α) : Bool := @decide (x = y) (Classical.propDecidable _)
def iv {x y : α} (h : x = y) : dh x y = true := @decide_eq_true _ (Classical.propDecidable _) h
def kw {x y : α} (h : ¬ x = y) : dh x y = false := @decide_eq_false _ (Classical.propDecidable _) h
def dP {x y : α} : dh x y = true ↔ x = y := @decide_eq_true_iff _ (Classical.propDecidable _)
def fx (x : α) : dh x x = true := iv rfl
end
def AE {us : List Value} (h : us.length = 2) : ∃ v0 v1, us = [v0, v1] := by
 rcases us with _ | ⟨v0, _ | ⟨v1, _ | ⟨v2, vs⟩⟩⟩ <;> first | exact ⟨_, _, rfl⟩ | (simp at h; try omega)
def AF {us : List Value} (h : us.length = 4) : ∃ v0 v1 v2 v3, us = [v0, v1, v2, v3] := by
 rcases us with _ | ⟨v0, _ | ⟨v1, _ | ⟨v2, _ | ⟨v3, _ | ⟨v4, vs⟩⟩⟩⟩⟩ <;> first | exact ⟨_, _, _, _, rfl⟩ | (simp at h; try omega)
def AG {us : List Value} (h : us.length = 5) : ∃ v0 v1 v2 v3 v4, us = [v0, v1, v2, v3, v4] := by
 rcases us with _ | ⟨v0, _ | ⟨v1, _ | ⟨v2, _ | ⟨v3, _ | ⟨v4, _ | ⟨v5, vs⟩⟩⟩⟩⟩⟩ <;> first | exact ⟨_, _, _, _, _, rfl⟩ | (simp at h; try omega)
def wF {us : List Value} (h : us.length = 13) : ∃ v0 v1 v2 v3 v4 v5 v6 v7 v8 v9 v10 v11 v12, us = [v0, v1, v2, v3, v4, v5, v6, v7, v8, v9, v10, v11, v12] := by
 rcases us with _ | ⟨v0, _ | ⟨v1, _ | ⟨v2, _ | ⟨v3, _ | ⟨v4, _ | ⟨v5, _ | ⟨v6, _ | ⟨v7, _ | ⟨v8, _ | ⟨v9, _ | ⟨v10, _ | ⟨v11, _ | ⟨v12, _ | ⟨v13, vs⟩⟩⟩⟩⟩⟩⟩⟩⟩⟩⟩⟩⟩⟩ <;> first | exact ⟨_, _, _, _, _, _, _, _, _, _, _, _, _, rfl⟩ | (simp at h; try omega)
def ap (x : Int) : List PV := [PV.val (vI x)]
def bf (_x : Int) : Nat := 0
def lM (x : List Int) : Nat := x.length + (x.map bf).sum
structure bh where
 Field : Int
 Low : Int
 High : Int
def aV (x : bh) : List PV := [PV.val (vI x.Field), PV.val (vI x.Low), PV.val (vI x.High)]
def nQ (x : bh) : Nat := bf x.Field + bf x.Low + bf x.High
def AH {x y : bh} (h0 : x.Field = y.Field) (h1 : x.Low = y.Low) (h2 : x.High = y.High) : x = y := by cases x; cases y; simp_all
structure Row where
 Id : Int
 Values : List Int
def wG (o0 : Fl) (x : Row) : List PV := [PV.val (vI x.Id), PV.sl o0 (x.Values.map ap)]
def lO (x : Row) : Nat := bf x.Id + lM x.Values
def AJ {x y : Row} (h0 : x.Id = y.Id) (h1 : x.Values = y.Values) : x = y := by cases x; cases y; simp_all
def nR (x : List bh) : Nat := x.length + (x.map nQ).sum
structure Ga where
 Kind : Int
 Row : Row
 Field : Int
 Value : Int
def wH (o0 : Fl) (x : Ga) : List PV := [PV.val (vI x.Kind), PV.val (vI x.Row.Id), PV.sl o0 (x.Row.Values.map ap), PV.val (vI x.Field), PV.val (vI x.Value)]
def eV (x : Ga) : Nat := bf x.Kind + lO x.Row + bf x.Field + bf x.Value
def AK {x y : Ga} (h0 : x.Kind = y.Kind) (h1 : x.Row = y.Row) (h2 : x.Field = y.Field) (h3 : x.Value = y.Value) : x = y := by cases x; cases y; simp_all
structure FY where
 Id : Int
 Gc : Int
 FZ : List bh
 Out : List Int
def wI (o0 o1 : Fl) (x : FY) : List PV := [PV.val (vI x.Id), PV.val (vI x.Gc), PV.sl o0 (x.FZ.map aV), PV.sl o1 (x.Out.map ap)]
def fZ (x : FY) : Nat := bf x.Id + bf x.Gc + nR x.FZ + lM x.Out
def AL {x y : FY} (h0 : x.Id = y.Id) (h1 : x.Gc = y.Gc) (h2 : x.FZ = y.FZ) (h3 : x.Out = y.Out) : x = y := by cases x; cases y; simp_all
structure bM where
 Kind : Int
 FY : FY
 Limit : Int
 Id : Int
 Ga : Ga
 Steps : Int
def wJ (o0 o1 o2 : Fl) (x : bM) : List PV := [PV.val (vI x.Kind), PV.val (vI x.FY.Id), PV.val (vI x.FY.Gc), PV.sl o0 (x.FY.FZ.map aV), PV.sl o1 (x.FY.Out.map ap), PV.val (vI x.Limit), PV.val (vI x.Id), PV.val (vI x.Ga.Kind), PV.val (vI x.Ga.Row.Id), PV.sl o2 (x.Ga.Row.Values.map ap), PV.val (vI x.Ga.Field), PV.val (vI x.Ga.Value), PV.val (vI x.Steps)]
def nS (x : bM) : Nat := bf x.Kind + fZ x.FY + bf x.Limit + bf x.Id + eV x.Ga + bf x.Steps
def AM {x y : bM} (h0 : x.Kind = y.Kind) (h1 : x.FY = y.FY) (h2 : x.Limit = y.Limit) (h3 : x.Id = y.Id) (h4 : x.Ga = y.Ga) (h5 : x.Steps = y.Steps) : x = y := by cases x; cases y; simp_all
structure FX where
 FY : FY
 Time : Int
 Gg : List Int
 Age : Int
 Sent : Int
 Cap : Int
 Rows : List Row
structure AN where
 Segment : Int
 Base : Int
 Ids : List Int
 Gd : List Int
 Rows : List Int
structure AO where
 Id : Int
 Values : List Int
 Gl : Int
 Gh : Int
structure Store where
 FW : List (List AO)
 Now : Int
structure AP where
 FY : FY
 Time : Int
 Steps : Int
 Rows : List Row
structure FU where
 Store : Store
 Gb : Int
 Order : List Int
 FX : List FX
 Done : List AP
 Gj : List AN
 Steps : Int
structure AQ where
 From : Int
 To : Int
 Set : List Int
structure FV where
 Queries : List FY
 Fields : List (List AQ)
def aU (x : Int) (k : Int) : Int × Int := (k, (k + 1))
def dQ (x : Int) (k : Int) : k ≤ (aU x k).2 := by
 show k ≤ (k + 1)
 omega
def bb (x : bh) (k : Int) : bh × Int := (⟨k, (k + 1), ((k + 1) + 1)⟩, (((k + 1) + 1) + 1))
def gP (x : bh) (k : Int) : k ≤ (bb x k).2 := by
 show k ≤ (((k + 1) + 1) + 1)
 omega
def er (x : Row) (k : Int) : Row × Int := (⟨x.Id, (am aU x.Values k).1⟩, (am aU x.Values k).2)
def dt (x : FY) (k : Int) : FY × Int := (⟨x.Id, x.Gc, (am bb x.FZ k).1, (am aU x.Out (am bb x.FZ k).2).1⟩, (am aU x.Out (am bb x.FZ k).2).2)
def di (x : Ga) (k : Int) : Ga × Int := (⟨x.Kind, ⟨x.Row.Id, (am aU x.Row.Values k).1⟩, x.Field, x.Value⟩, (am aU x.Row.Values k).2)
def cy (x : bM) (k : Int) : bM × Int := (⟨x.Kind, ⟨x.FY.Id, x.FY.Gc, (am bb x.FY.FZ k).1, (am aU x.FY.Out (am bb x.FY.FZ k).2).1⟩, x.Limit, x.Id, ⟨x.Ga.Kind, ⟨x.Ga.Row.Id, (am aU x.Ga.Row.Values (am aU x.FY.Out (am bb x.FY.FZ k).2).2).1⟩, x.Ga.Field, x.Ga.Value⟩, x.Steps⟩, (am aU x.Ga.Row.Values (am aU x.FY.Out (am bb x.FY.FZ k).2).2).2)
def AR (x : bM) (k : Int) : k ≤ (cy x k).2 := by
 show k ≤ (am aU x.Ga.Row.Values (am aU x.FY.Out (am bb x.FY.FZ k).2).2).2
 have h0 := cv gP x.FY.FZ k
 have h1 := cv dQ x.FY.Out (am bb x.FY.FZ k).2
 have h2 := cv dQ x.Ga.Row.Values (am aU x.FY.Out (am bb x.FY.FZ k).2).2
 omega
def AS (x : Int) (k : Int) : (aU x k).2 ≤ k + 1 + 0 * (bf x : Int) := by simp [aU]
def wK (x : List Int) (k : Int) : (am aU x k).2 ≤ k + 1 * (lM x : Int) := oY (s := 1) (c := 0) AS (by decide) (by decide) x k
def AT (x : bh) (k : Int) : (bb x k).2 ≤ k + 3 + 0 * (nQ x : Int) := by
 show (((k + 1) + 1) + 1) ≤ _
 simp only [nQ, bf, Int.natCast_add, Int.natCast_zero]
 omega
def AU (x : List bh) (k : Int) : (am bb x k).2 ≤ k + 3 * (nR x : Int) := oY (s := 3) (c := 0) AT (by decide) (by decide) x k
def AV (x : bM) (k : Int) : (cy x k).2 ≤ k + 0 + 3 * (nS x : Int) := by
 show (am aU x.Ga.Row.Values (am aU x.FY.Out (am bb x.FY.FZ k).2).2).2 ≤ _
 have h0 := AU x.FY.FZ k
 have h1 := wK x.FY.Out (am bb x.FY.FZ k).2
 have h2 := wK x.Ga.Row.Values (am aU x.FY.Out (am bb x.FY.FZ k).2).2
 simp only [nS, bf, fZ, lO, eV, Int.natCast_add, Int.natCast_zero]
 omega
def AW {α β : Type} {xs : List α} {g : α → List β} {k : Nat} (hk : k < xs.length) : (xs.take (k + 1)).flatMap g = (xs.take k).flatMap g ++ g xs[k] := by
 rw [eN hk, List.flatMap_append]; simp
def wL {α : Type} {xs : List α} {k : Nat} (hk : k < xs.length) : xs.take (k + 1) = xs.take k ++ [xs[k]] := eN hk
def wM {α β : Type} {l : List α} {f : α → β} {k : Nat} (h : k < l.length) : (l.take (k + 1)).map f = (l.take k).map f ++ [f l[k]] := by
 rw [eN h, dJ]; rfl
def wN {a b : Int} : (a == b) = decide (a = b) := rfl
def nU (x : List Int) : lM x = x.length := by
 have h : ∀ l : List Int, (l.map bf).sum = 0 := by
  intro l
  induction l with
  | nil => rfl
  | cons a l ih => rw [List.map_cons, List.sum_cons, ih]; rfl
 simp [lM, h]
def ba (n l h : Int) : Bool := decide (l ≤ n) && decide (n ≤ h)
def dR (v : Int) : Bool := ba v 0 99
def ca (r : Row) : Bool := r.Values.all dR && (ba r.Id 0 999 && decide ((r.Values.length : Int) = 3))
def et (x : ab) : List PV := [PV.val (.string (B x))]
def AX (_x : ab) : Prop := True
def AY {x y : Row} : x = y ↔ x.Id = y.Id ∧ x.Values = y.Values := by cases x; cases y; simp_all
def jv {α : Type} (d : α) (p : α → Bool) (r : α → α → Bool) (l : List α) (k : Nat) : Bool := (List.range k).all fun i => p (l.getD i d) && (i == 0 || r (l.getD (i - 1) d) (l.getD i d))
def iw {α : Type} (d : α) (p : α → Bool) (r : α → α → Bool) (l : List α) : Bool := jv d p r l l.length
def AZ {α : Type} {d : α} {p : α → Bool} {r : α → α → Bool} {l : List α} {k : Nat} : jv d p r l (k + 1) = (jv d p r l k && (p (l.getD k d) && (k == 0 || r (l.getD (k - 1) d) (l.getD k d)))) := by
 simp [jv, List.range_succ]
def qN {α : Type} {d : α} {p : α → Bool} {r : α → α → Bool} {l : List α} {k : Nat} : (p (l.getD k d) && (k == 0 || r (l.getD (k - 1) d) (l.getD k d))) = true ↔ (p (l.getD k d) = true ∧ (k = 0 ∨ r (l.getD (k - 1) d) (l.getD k d) = true)) := by
 simp
def wO {α : Type} {d : α} {p : α → Bool} {r : α → α → Bool} {l : List α} {k : Nat} (hk : k < l.length) (h : (p (l.getD k d) && (k == 0 || r (l.getD (k - 1) d) (l.getD k d))) = false) : iw d p r l = false := by
 cases hs : iw d p r l with
 | false => rfl
 | true =>
  have := List.all_eq_true.1 hs k (List.mem_range.2 hk)
  rw [h] at this; cases this
def wP {α : Type} {d : α} {p : α → Bool} {r : α → α → Bool} {l : List α} {k : Nat} (h : jv d p r l k = true) (hk : k = l.length) : iw d p r l = true := by subst hk; exact h
def lP {α : Type} {d : α} {l : List α} {k : Nat} (h : k < l.length) : l.getD k d = l[k] := by simp [h]
def eW (c : bh) : Bool := ba c.Field 0 2 && (decide (0 ≤ c.Low) && (decide (c.Low ≤ c.High) && decide (c.High ≤ 99)))
def gi (a b : bh) : Bool := decide (a.Field < b.Field)
def eX (l : List bh) : Bool := iw ⟨0, 0, 0⟩ eW gi l
def dS (v : Int) : Bool := ba v 0 2
def fy (l : List Int) : Bool := l.all dS && ba l.length 1 3
def aW (q : FY) : Bool := (ba q.Id 0 23 && (ba q.Gc 0 3 && decide ((q.FZ.length : Int) ≤ 3))) && (eX q.FZ && fy q.Out)
def gj (r : Row) : Bool := ba r.Id 0 999 && decide (r.Values.length = 0)
def cb (u : Ga) : Bool :=
 if u.Kind = 1 then ca u.Row && (decide (u.Field = 0) && decide (u.Value = 0))
 else if u.Kind = 2 then gj u.Row && (decide (u.Field = 0) && decide (u.Value = 0))
 else if u.Kind = 3 then gj u.Row && (ba u.Field 0 2 && ba u.Value 0 99) else false
def wQ {α : Type} {x y : α} : dh x y = false ↔ ¬ x = y := ⟨fun h e => (by rw [iv e] at h; simp at h), kw⟩
def Ba {x y : bh} : x = y ↔ x.Field = y.Field ∧ x.Low = y.Low ∧ x.High = y.High := by cases x; cases y; simp [bh.mk.injEq]
def Bb {x y : FY} : x = y ↔ x.Id = y.Id ∧ x.Gc = y.Gc ∧ x.FZ = y.FZ ∧ x.Out = y.Out := by cases x; cases y; simp [FY.mk.injEq]
def Bc {x y : Ga} : x = y ↔ x.Kind = y.Kind ∧ x.Row = y.Row ∧ x.Field = y.Field ∧ x.Value = y.Value := by cases x; cases y; simp [Ga.mk.injEq]
def eH (q : FY) : Bool := decide (q.Id = 0) && (decide (q.Gc = 0) && (decide (q.FZ.length = 0) && decide (q.Out.length = 0)))
def eI (u : Ga) : Bool := decide (u.Kind = 0) && (decide (u.Row.Id = 0) && (decide (u.Row.Values.length = 0) && (decide (u.Field = 0) && decide (u.Value = 0))))
def lQ (q : FY) : dh q ⟨0, 0, [], []⟩ = eH q := by
 rw [Bool.eq_iff_iff, dP]; cases q; simp [eH, List.length_eq_zero_iff]
def lR (u : Ga) : dh u ⟨0, ⟨0, []⟩, 0, 0⟩ = eI u := by
 rw [Bool.eq_iff_iff, dP]; rcases u with ⟨a, ⟨b, c⟩, d, e⟩; simp [eI, List.length_eq_zero_iff, and_assoc]
def bV (x : bM) : Bool :=
 if x.Kind = 1 then aW x.FY && (ba x.Limit 0 32 && (decide (x.Id = 0) && (eI x.Ga && decide (x.Steps = 0))))
 else if x.Kind = 2 then eH x.FY && (decide (x.Limit = 0) && (ba x.Id 0 23 && (eI x.Ga && decide (x.Steps = 0))))
 else if x.Kind = 3 then eH x.FY && (decide (x.Limit = 0) && (decide (x.Id = 0) && (cb x.Ga && decide (x.Steps = 0))))
 else if x.Kind = 4 then eH x.FY && (decide (x.Limit = 0) && (decide (x.Id = 0) && (eI x.Ga && ba x.Steps 1 100)))
 else false
end
end Go.Proofs.YtmekkgdboplbjaaGreatDoor
namespace Go.Proofs.YtmekkgdboplbjaaGreatDoor
open Go Go.RowKit M Tryz
set_option maxRecDepth 10000
def ck : prog.follows .mixedOrders = true := by kernel_rfl
def Bd : aw prog 108 = true := by kernel_rfl
def Be : aw prog 109 = true := by kernel_rfl
def wR : aw prog 110 = true := by kernel_rfl
def Bf : aw prog 111 = true := by kernel_rfl
def Bg : aw prog 112 = true := by kernel_rfl
def qO : aw prog 113 = true := by kernel_rfl
def Bh : aw prog 142 = true := by kernel_rfl
def Bi : aw prog 143 = true := by kernel_rfl
def Bj : aw prog 144 = true := by kernel_rfl
def Bk : aw prog 145 = true := by kernel_rfl
def wS : aw prog 146 = true := by kernel_rfl
def Bl : aw prog 147 = true := by kernel_rfl
def Bm : aw prog 148 = true := by kernel_rfl
def Bn : aw prog 149 = true := by kernel_rfl
def Bo : aw prog 150 = true := by kernel_rfl
def qP : aw prog 170 = true := by kernel_rfl
def Bp : aw prog 175 = true := by kernel_rfl
def qQ : aw prog 176 = true := by kernel_rfl
def Bq : aw prog 178 = true := by kernel_rfl
def Br : aw prog 179 = true := by kernel_rfl
def Bs : aw prog 190 = true := by kernel_rfl
def wT : aw prog 191 = true := by kernel_rfl
def Bt : aw prog 192 = true := by kernel_rfl
def Bu : aw prog 221 = true := by kernel_rfl
def Bv : aw prog 58 = true := by kernel_rfl
def Bw : aw prog 59 = true := by kernel_rfl
def Bx : aw prog 60 = true := by kernel_rfl
def By : aw prog 61 = true := by kernel_rfl
def Bz : aw prog 62 = true := by kernel_rfl
def BA : aw prog 63 = true := by kernel_rfl
def kx : aw prog 74 = true := by kernel_rfl
def jw : aw prog 75 = true := by kernel_rfl
def nV : aw prog 86 = true := by kernel_rfl
def wU : aw prog 90 = true := by kernel_rfl
def wV : aw prog 98 = true := by kernel_rfl
def ky : cq prog 25 0 = some 0 := by kernel_rfl
def gQ : cq prog 25 1 = some 1 := by kernel_rfl
def eu : cq prog 25 2 = some 2 := by kernel_rfl
def lS : cq prog 25 3 = some 3 := by kernel_rfl
def gk : cq prog 27 0 = some 0 := by kernel_rfl
def ix : cq prog 27 1 = some 1 := by kernel_rfl
def qR : cq prog 29 0 = some 0 := by kernel_rfl
def eJ : cq prog 29 1 = some 1 := by kernel_rfl
def fz : cq prog 29 2 = some 3 := by kernel_rfl
def gn : cq prog 29 3 = some 4 := by kernel_rfl
def nW : cq prog 31 0 = some 0 := by kernel_rfl
def nX : cq prog 31 1 = some 1 := by kernel_rfl
def gR : cq prog 31 2 = some 5 := by kernel_rfl
def eY : cq prog 31 3 = some 6 := by kernel_rfl
def jx : cq prog 31 4 = some 7 := by kernel_rfl
def gS : cq prog 31 5 = some 12 := by kernel_rfl
def eZ : cq prog 65 0 = some 0 := by kernel_rfl
def gU : cq prog 65 1 = some 1 := by kernel_rfl
def go : cq prog 65 2 = some 2 := by kernel_rfl
def BB : fg prog 25 = some [(0, 1), (1, 1), (2, 1), (3, 1)] := by kernel_rfl
def BC : fg prog 29 = some [(0, 1), (1, 2), (3, 1), (4, 1)] := by kernel_rfl
def BD (x y : Nat) (a0 a1 a2 b0 b1 b2 : Int) (w : World) : Sem.run prog (do eqGuard .neq 65 (.tmp x) (.tmp y) (.agg #[vI a0, vI a1, vI a2]) (.agg #[vI b0, vI b1, vI b2]); binOp .neq 65 (.agg #[vI a0, vI a1, vI a2]) (.agg #[vI b0, vI b1, vI b2]) : Sem Value) w = .ok (.bool (!(a0 == b0 && a1 == b1 && a2 == b2))) w := by
 have hS : prog.underlying 65 = some (.struct (prog.fieldsOf 65)) := by kernel_rfl
 have hp : prog.stoodInHeld 65 = false := by kernel_rfl
 have hm : prog.eqGuardType prog.depth 65 = false := by kernel_rfl
 have hU := Tryz.underlying65
 have u3 := Tryz.underlying3
 have a3_ := Tryz.isAgg3
 have z3 := Tryz.sizeOf3
 rw [Sem.run_bind, run_eqGuard_agg w _ _ _ _ _ _ hm, Result.andThen_ok, run_neq_struct]
 rw [show (10000 : Nat) = 9999 + 1 from rfl, run_equalIn_agg w 9999 65 _ _ hS hp]
 simp only [Program.fieldsOf, hU]
 go_simp
 by_cases h0 : a0 = b0 <;> by_cases h1 : a1 = b1 <;> by_cases h2 : a2 = b2 <;> simp_all
def cz : dY prog 22 = some (65, 3, 24) := by kernel_rfl
def da : dY prog 23 = some (3, 1, 8) := by kernel_rfl
def ew : cB prog 22 = some (false, 1) := by kernel_rfl
def fa : cB prog 23 = some (false, 1) := by kernel_rfl
def du : cB prog 25 = some (true, 4) := by kernel_rfl
def dV : cB prog 27 = some (true, 2) := by kernel_rfl
def db : cB prog 29 = some (true, 5) := by kernel_rfl
def aA : cB prog 3 = some (false, 1) := by kernel_rfl
def jy : cB prog 65 = some (true, 3) := by kernel_rfl
def iy : dy prog 25 = some (.agg #[.int .i64 0, .int .i64 0, .slice none 0 0, .slice none 0 0]) := by kernel_rfl
def iz : dy prog 27 = some (.agg #[.int .i64 0, .slice none 0 0]) := by kernel_rfl
def jz : dy prog 29 = some (.agg #[.int .i64 0, .int .i64 0, .slice none 0 0, .int .i64 0, .int .i64 0]) := by kernel_rfl
def lT : dy prog 3 = some (.int .i64 0) := by kernel_rfl
def iA : dy prog 65 = some (.agg #[.int .i64 0, .int .i64 0, .int .i64 0]) := by kernel_rfl
def iB {Fz : aj} {w : World} : ay [PV.val (.int .i64 0), PV.val (.int .i64 0), PV.sl cC [], PV.sl aM []] Fz w (Value.cells (.agg #[.int .i64 0, .int .i64 0, .slice none 0 0, .slice none 0 0])).toList [] := cV rfl (cV rfl (iN (iN (kQ))))
def iC {Fz : aj} {w : World} : ay [PV.val (.int .i64 0), PV.sl aM []] Fz w (Value.cells (.agg #[.int .i64 0, .slice none 0 0])).toList [] := cV rfl (iN (kQ))
def jA {Fz : aj} {w : World} : ay [PV.val (.int .i64 0), PV.val (.int .i64 0), PV.sl aM [], PV.val (.int .i64 0), PV.val (.int .i64 0)] Fz w (Value.cells (.agg #[.int .i64 0, .int .i64 0, .slice none 0 0, .int .i64 0, .int .i64 0])).toList [] := cV rfl (cV rfl (iN (cV rfl (cV rfl (kQ)))))
def nY {Fz : aj} {w : World} : ay [PV.val (.int .i64 0), PV.val (.int .i64 0), PV.val (.int .i64 0)] Fz w (Value.cells (.agg #[.int .i64 0, .int .i64 0, .int .i64 0])).toList [] := cV rfl (cV rfl (cV rfl (kQ)))
end Go.Proofs.YtmekkgdboplbjaaGreatDoor
namespace Go.Proofs.YtmekkgdboplbjaaGreatDoor
open Go Go.RowKit M Tryz
set_option maxRecDepth 10000
def PV.to_eqv {o : Fl} {es ds : List (List PV)} (h : es = ds) : (PV.sl o es).To (PV.sl .v ds) := by subst h; exact kT
def dE {a b : ab} (h : a = b) : [PV.val (.string (B a))] = [PV.val (.string (B b))] := by rw [h]
abbrev itoa (n : Int) : ab := Lib.itoa n
def bl {n : Int} (h : aq n) : (itoa n).length ≤ 21 := Lib.itoa_length_le n h.1 h.2
def lU {u : Nat} (h : 10 ≤ u) : Lib.decDigits u = Lib.decDigits (u / 10) ++ [UInt8.ofNat (48 + u % 10)] := by rw [Lib.decDigits, dif_neg (by omega)]
def jB {u : Nat} (h : u < 10) : Lib.decDigits u = [UInt8.ofNat (48 + u)] := by rw [Lib.decDigits, dif_pos h]
def gV (n q : Int) (s : ab) : Prop := (if q = 0 then s else Lib.decDigits q.natAbs ++ s) = Lib.decDigits n.natAbs
def BE {n : Int} (h : n ≠ 0) : gV n n [] := by unfold gV; rw [if_neg h, fK]
def kz (q : Int) : (q.tdiv 10).natAbs = q.natAbs / 10 := by rw [Int.natAbs_tdiv]; rfl
def BF (q : Int) : (q.tmod 10).natAbs = q.natAbs % 10 := by rw [Int.natAbs_tmod]; rfl
def BG {n q d : Int} {s : ab} (h : gV n q s) (hq : q ≠ 0) (hd : d = ((q.natAbs % 10 : Nat) : Int)) : gV n (q.tdiv 10) (ej [48 + d] ++ s) := by
 have e : ej [48 + d] = [UInt8.ofNat (48 + q.natAbs % 10)] := by
  subst hd
  show [UInt8.ofNat (48 + ((q.natAbs % 10 : Nat) : Int)).toNat] = _
  congr 2
 unfold gV at h ⊢
 rw [if_neg hq] at h
 rw [e, ← h]
 by_cases h0 : q.tdiv 10 = 0
 ·rw [if_pos h0]
  have : q.natAbs / 10 = 0 := by rw [← kz, h0]; rfl
  rw [jB (by omega), show q.natAbs % 10 = q.natAbs by omega]
 ·rw [if_neg h0]
  have : q.natAbs / 10 ≠ 0 := by rw [← kz]; omega
  rw [lU (u := q.natAbs) (by omega), kz, de]
def BH {n : Int} {s : ab} (h : gV n 0 s) : s = Lib.decDigits n.natAbs := by unfold gV at h; rwa [if_pos rfl] at h
def wW {n q : Int} {s : ab} (h : gV n q s) (hn : aq n) : s.length ≤ 20 := by
 have hd : (Lib.decDigits n.natAbs).length ≤ 20 := by
  rw [Lib.decDigits_length]; exact Lib.nDigits_le20 _ (by unfold aq at hn; omega)
 rw [← h] at hd
 split at hd
 ·exact hd
 ·rw [aX] at hd; omega
def jC {n : Int} (h : n < 0) : itoa n = 45 :: Lib.decDigits n.natAbs := by show Lib.itoa n = _; rw [Lib.itoa, if_pos h]
def iD {n : Int} (h : ¬ n < 0) : itoa n = Lib.decDigits n.natAbs := by show Lib.itoa n = _; rw [Lib.itoa, if_neg h]; congr 1; omega
def BI : itoa 0 = [48] := by rw [iD (by omega)]; exact jB (by decide)
def kC {α : Type} {P : List α → Prop} (h0 : P []) (h1 : ∀ l a, P l → P (l ++ [a])) (l : List α) : P l := by
 have h : ∀ r : List α, P r.reverse := by
  intro r
  induction r with
  | nil => exact h0
  | cons a r ih => rw [List.reverse_cons]; exact h1 _ _ ih
 simpa using h l.reverse
def kD {xs : List ab} {y sep : ab} : cO (xs ++ [y]) sep = (if xs = [] then y else cO xs sep ++ sep ++ y) := by
 cases xs with
 | nil => simp [cO, Lib.join_one]
 | cons x r =>
  rw [if_neg (by simp)]
  unfold cO
  rw [List.cons_append, Lib.join_cons, Lib.join_cons]
  simp [Lib.joinTail, de]
def wX {sep : ab} : cO [] sep = [] := rfl
def wY {m : Nat} {sep : ab} {xs : List ab} (h : ∀ x ∈ xs, x.length ≤ m) : (cO xs sep).length ≤ xs.length * (m + sep.length) := by
 induction xs using kC with
 | h0 => simp [wX]
 | h1 xs y ih =>
  have h1 := ih fun x hx => h x (by simp [hx])
  have h2 := h y (by simp)
  rw [kD, aX, List.length_singleton, Nat.succ_mul]
  split
  ·omega
  ·simp only [aX]; omega
def wZ {xs : List ab} {a b sep : ab} (h : xs ≠ []) : cO (xs ++ [a, b]) sep = cO xs sep ++ sep ++ a ++ sep ++ b := by
 rw [show xs ++ [a, b] = (xs ++ [a]) ++ [b] by simp, kD, if_neg (by simp), kD, if_neg h]
def bD (l : List Int) : ab := cO (l.map itoa) [44]
def iE {l : List Int} (h : ∀ x ∈ l, aq x) : (bD l).length ≤ l.length * 22 := by
 have := wY (m := 21) (sep := [44]) (xs := l.map itoa) (by intro x hx; obtain ⟨y, hy, rfl⟩ := List.mem_map.1 hx; exact bl (h y hy))
 simpa [bD] using this
def BJ {l : List Int} {k : Nat} (hk : k < l.length) : bD (l.take (k + 1)) = (if k = 0 then itoa l[k] else bD (l.take k) ++ [44] ++ itoa l[k]) := by
 unfold bD
 rw [wL hk, dJ, List.map_cons, List.map_nil, kD]
 by_cases h : k = 0
 ·subst h; simp
 ·rw [if_neg h, if_neg]
  intro e
  have := congrArg List.length e
  simp at this
  rcases this with e | e
  ·exact h e
  ·rw [e] at hk; simp at hk
def bN (r : Row) : ab := if ca r then itoa r.Id ++ [58] ++ bD r.Values else []
def lV {r : Row} (h : ca r = true) : 0 ≤ r.Id ∧ r.Id ≤ 999 ∧ r.Values.length = 3 ∧ ∀ x ∈ r.Values, aq x := by
 unfold ca at h
 simp only [bK, decide_eq_true_eq, ba] at h
 refine ⟨h.2.1.1, h.2.1.2, by omega, fun x hx => ?_⟩
 have := List.all_eq_true.1 h.1 x hx
 simp [dR, ba] at this
 unfold aq; omega
def lW (r : Row) : (bN r).length ≤ 100 := by
 unfold bN
 split
 ·rename_i h
  obtain ⟨h1, h2, h3, h4⟩ := lV h
  have h5 : (itoa r.Id).length ≤ 21 := bl (by unfold aq; omega)
  have h6 := iE h4
  simp only [aX, List.length_cons, List.length_nil]
  omega
 ·simp
def xb {q : FY} (h : aW q = true) : q.Out.length ≤ 3 ∧ ∀ f ∈ q.Out, 0 ≤ f ∧ f ≤ 2 := by
 unfold aW fy at h
 simp only [bK] at h
 have h1 := h.2.2.1
 have h2 := h.2.2.2
 refine ⟨by simp [ba] at h2; omega, fun f hf => ?_⟩
 have := List.all_eq_true.1 h1 f hf
 simpa [dS, ba] using this
def dW (c : bh) : List ab := [[102] ++ itoa c.Field, itoa c.Low ++ [46, 46] ++ itoa c.High]
def cP (q : FY) (k : Nat) : List ab := [[113] ++ itoa q.Id, [116] ++ itoa q.Gc] ++ (q.FZ.take k).flatMap dW
def xc {q : FY} {k : Nat} (h : k < q.FZ.length) : cP q (k + 1) = cP q k ++ dW q.FZ[k] := by
 unfold cP; rw [AW h, de]
def xd {q : FY} {k : Nat} : cP q k ≠ [] := by simp [cP]
def bo (q : FY) : ab := if aW q then cO (cP q q.FZ.length ++ [[111, 117, 116], bD q.Out]) [32] else []
def jD {q : FY} (h : aW q = true) : 0 ≤ q.Id ∧ q.Id ≤ 23 ∧ 0 ≤ q.Gc ∧ q.Gc ≤ 3 ∧ q.FZ.length ≤ 3 ∧ q.Out.length ≤ 3 ∧ (∀ x ∈ q.Out, aq x) ∧ ∀ k, (hk : k < q.FZ.length) → 0 ≤ q.FZ[k].Field ∧ q.FZ[k].Field ≤ 2 ∧ 0 ≤ q.FZ[k].Low ∧ q.FZ[k].Low ≤ 99 ∧ 0 ≤ q.FZ[k].High ∧ q.FZ[k].High ≤ 99 := by
 have ho := xb h
 have h' := h
 unfold aW eX at h'
 simp only [bK, ba, decide_eq_true_eq] at h'
 refine ⟨by omega, by omega, by omega, by omega, by omega, ho.1, fun x hx => by have := ho.2 x hx; unfold aq; omega, fun k hk => ?_⟩
 have := List.all_eq_true.1 h'.2.1 k (List.mem_range.2 hk)
 rw [bK, lP hk] at this
 have := this.1
 simp [eW, ba] at this
 omega
def lX {q : FY} (k : Nat) : (cP q k).length = 2 + 2 * (q.FZ.take k).length := by
 unfold cP
 rw [aX]
 have : ∀ l : List bh, (l.flatMap dW).length = 2 * l.length := by
  intro l
  induction l with
  | nil => rfl
  | cons c l ih => rw [List.flatMap_cons, aX, ih]; simp [dW]; omega
 rw [this]; rfl
def BK {q : FY} (h : aW q = true) (k : Nat) : ∀ x ∈ cP q k, x.length ≤ 66 := by
 obtain ⟨a1, a2, a3, a4, a5, a6, a7, a8⟩ := jD h
 have h1 : (itoa q.Id).length ≤ 21 := bl (by unfold aq; omega)
 have h2 : (itoa q.Gc).length ≤ 21 := bl (by unfold aq; omega)
 intro x hx
 unfold cP at hx
 rcases List.mem_append.1 hx with hx | hx
 ·simp only [hI, List.not_mem_nil, or_false] at hx
  rcases hx with rfl | rfl <;> simp only [aX, List.length_cons, List.length_nil] <;> omega
 ·obtain ⟨c, hc, hx⟩ := List.mem_flatMap.1 hx
  obtain ⟨j, hj, rfl⟩ := List.mem_iff_getElem.1 (List.mem_of_mem_take hc)
  have h3 := a8 j hj
  have h4 : (itoa q.FZ[j].Field).length ≤ 21 := bl (by unfold aq; omega)
  have h5 : (itoa q.FZ[j].Low).length ≤ 21 := bl (by unfold aq; omega)
  have h6 : (itoa q.FZ[j].High).length ≤ 21 := bl (by unfold aq; omega)
  simp only [dW, hI, List.not_mem_nil, or_false] at hx
  rcases hx with rfl | rfl <;> simp only [aX, List.length_cons, List.length_nil] <;> omega
def lY {q : FY} (h : aW q = true) (k : Nat) : (cO (cP q k) [32]).length ≤ 600 := by
 have h1 := wY (m := 66) (sep := [32]) (BK h k)
 have h2 := (jD h).2.2.2.2.1
 have h3 := lX (q := q) k
 rw [bQ] at h3
 rw [h3] at h1
 simp only [List.length_cons, List.length_nil] at h1
 have : (2 + 2 * min k q.FZ.length) * (66 + (0 + 1)) ≤ 8 * 67 := Nat.mul_le_mul (by omega) (by omega)
 omega
def qS {q : FY} (k : Nat) : cO (cP q k ++ [[111, 117, 116], bD q.Out]) [32] = cO (cP q k) [32] ++ [32, 111, 117, 116, 32] ++ bD q.Out := by
 rw [wZ xd]; simp [de]
def nZ (q : FY) : (bo q).length ≤ 800 := by
 unfold bo
 split
 ·rename_i h
  have h1 := lY h q.FZ.length
  obtain ⟨a1, a2, a3, a4, a5, a6, a7, a8⟩ := jD h
  have h2 := iE a7
  rw [qS]
  simp only [aX, List.length_cons, List.length_nil]
  omega
 ·simp
def bJ (u : Ga) : ab :=
 if cb u then
  if u.Kind = 1 then [105, 110, 115, 101, 114, 116, 32] ++ bN u.Row
  else if u.Kind = 2 then [100, 101, 108, 101, 116, 101, 32] ++ itoa u.Row.Id
  else [115, 101, 116, 32] ++ itoa u.Row.Id ++ [32, 102] ++ itoa u.Field ++ [32] ++ itoa u.Value
 else []
def qT {u : Ga} (h : cb u = true) : 0 ≤ u.Row.Id ∧ u.Row.Id ≤ 999 ∧ 0 ≤ u.Field ∧ u.Field ≤ 99 ∧ 0 ≤ u.Value ∧ u.Value ≤ 99 := by
 unfold cb at h
 split at h
 ·simp [ca, ba] at h; omega
 ·split at h
  ·simp [gj, ba] at h; omega
  ·split at h
   ·simp [gj, ba] at h; omega
   ·cases h
def xe (u : Ga) : (bJ u).length ≤ 200 := by
 unfold bJ
 split
 ·rename_i h
  have h1 := qT h
  have h2 := lW u.Row
  have h3 : (itoa u.Row.Id).length ≤ 21 := bl (by unfold aq; omega)
  have h4 : (itoa u.Field).length ≤ 21 := bl (by unfold aq; omega)
  have h5 : (itoa u.Value).length ≤ 21 := bl (by unfold aq; omega)
  split
  ·simp only [aX, List.length_cons, List.length_nil]; omega
  ·split <;> simp only [aX, List.length_cons, List.length_nil] <;> omega
 ·simp
def bW (x : bM) : ab :=
 if bV x then
  if x.Kind = 1 then [97, 100, 109, 105, 116, 32] ++ itoa x.Limit ++ [32] ++ bo x.FY
  else if x.Kind = 2 then [99, 97, 110, 99, 101, 108, 32] ++ itoa x.Id
  else if x.Kind = 3 then bJ x.Ga
  else [115, 116, 101, 112, 32] ++ itoa x.Steps
 else []
def xf {x : bM} (h : bV x = true) : 0 ≤ x.Limit ∧ x.Limit ≤ 32 ∧ 0 ≤ x.Id ∧ x.Id ≤ 23 ∧ 0 ≤ x.Steps ∧ x.Steps ≤ 100 := by
 unfold bV at h
 split at h
 ·simp [ba] at h; omega
 ·split at h
  ·simp [ba] at h; omega
  ·split at h
   ·simp [ba] at h; omega
   ·split at h
    ·simp [ba] at h; omega
    ·cases h
section
/- ---- one value by its text ---- -/
noncomputable def ez {α : Type} (P : α → Bool) (f : α → ab) (s : ab) : Option α := @dite _ (∃ x, P x = true ∧ f x = s) (Classical.propDecidable _) (fun h => some h.choose) (fun _ => none)
section
variable {α : Type} {P : α → Bool} {f : α → ab} {g : ab → α} {s : ab} {x : α}
def BL (h : ez P f s = some x) : P x = true ∧ f x = s := by
 unfold ez at h
 split at h
 ·rename_i h1; injection h with h; subst h; exact h1.choose_spec
 ·cases h
def lZ (hg : ∀ x, P x = true → g (f x) = x) (h : P x = true) : ez P f (f x) = some x := by
 have h1 : ∃ y, P y = true ∧ f y = f x := ⟨x, h, rfl⟩
 unfold ez
 rw [dif_pos h1]
 have h2 := h1.choose_spec
 have h3 := hg _ h2.1
 rw [h2.2, hg _ h] at h3
 rw [← h3]
def gW (hg : ∀ x, P x = true → g (f x) = x) (h1 : P (g s) = true) (h2 : f (g s) = s) : ez P f s = some (g s) := by
 have := lZ (x := g s) hg h1
 rwa [h2] at this
def jE (h : ∀ x, P x = true → f x ≠ s) : ez P f s = none := by
 unfold ez
 rw [dif_neg]
 rintro ⟨x, h1, h2⟩
 exact h x h1 h2
def eK (hg : ∀ x, P x = true → g (f x) = x) (h : ¬ (P (g s) = true ∧ f (g s) = s)) : ez P f s = none := by
 apply jE
 rintro x h1 rfl
 rw [hg x h1] at h
 exact h ⟨h1, rfl⟩
def qU {ok : ab → Bool} (hk : ∀ x, P x = true → ok (f x) = true) (h : ok s = false) : ez P f s = none := by
 apply jE
 rintro x h1 rfl
 rw [hk x h1] at h
 cases h
end
/- ---- numbers ---- -/
def eL (b : UInt8) : Bool := decide (48 ≤ b.toNat) && decide (b.toNat ≤ 57)
def jF (l : ab) : Nat := l.foldl (fun a b => a * 10 + (b.toNat - 48)) 0
def xg (l : ab) (b : UInt8) : jF (l ++ [b]) = jF l * 10 + (b.toNat - 48) := by unfold jF; rw [List.foldl_append]; rfl
def oa {d : Nat} (h : d < 10) : (UInt8.ofNat (48 + d)).toNat = 48 + d := by
 rw [UInt8.toNat_ofNat']; omega
def kE (u : Nat) : ∀ b ∈ Lib.decDigits u, eL b = true := by
 induction u using Nat.strongRecOn with
 | ind u ih =>
  intro b hb
  by_cases h : u < 10
  ·rw [jB h] at hb
   rw [List.mem_singleton] at hb; subst hb
   unfold eL; rw [oa h, bK, decide_eq_true_iff, decide_eq_true_iff]; omega
  ·rw [lU (by omega)] at hb
   rcases List.mem_append.1 hb with hb | hb
   ·exact ih _ (by omega) b hb
   ·rw [List.mem_singleton] at hb; subst hb
    unfold eL; rw [oa (Nat.mod_lt _ (by omega)), bK, decide_eq_true_iff, decide_eq_true_iff]; omega
def qV (u : Nat) : jF (Lib.decDigits u) = u := by
 induction u using Nat.strongRecOn with
 | ind u ih =>
  by_cases h : u < 10
  ·rw [jB h]
   show 0 * 10 + ((UInt8.ofNat (48 + u)).toNat - 48) = u
   rw [oa h]; omega
  ·rw [lU (by omega), xg, ih _ (by omega), oa (Nat.mod_lt _ (by omega))]
   omega
def qW (u : Nat) : Lib.decDigits u ≠ [] := by
 by_cases h : u < 10
 ·rw [jB h]; simp
 ·rw [lU (by omega)]; simp
def qX : ∀ (k u : Nat), u < 10 ^ (k + 1) → (Lib.decDigits u).length ≤ k + 1
 | 0, u, h => by rw [jB (by simpa using h)]; simp
 | k + 1, u, h => by
  by_cases h1 : u < 10
  ·rw [jB h1]; simp
  ·rw [lU (by omega), aX]
   have := qX k (u / 10) (by rw [Nat.pow_succ] at h; omega)
   simp; omega
def ma (b : UInt8) : Bool := eL b || b == 45
def BM (n : Int) : ∀ b ∈ itoa n, ma b = true := by
 intro b hb
 by_cases h : n < 0
 ·rw [jC h] at hb
  rcases List.mem_cons.1 hb with rfl | hb
  ·rfl
  ·simp [ma, kE _ b hb]
 ·rw [iD h] at hb
  simp [ma, kE _ b hb]
def BN (n : Int) : itoa n ≠ [] := by
 by_cases h : n < 0
 ·rw [jC h]; simp
 ·rw [iD h]; exact qW _
def BO {n : Int} (h : -999999999 ≤ n ∧ n ≤ 999999999) : (itoa n).length ≤ 10 := by
 have h1 := qX 8 n.natAbs (by omega)
 by_cases h : n < 0
 ·rw [jC h]; simp; omega
 ·rw [iD h]; omega
def xh (u : Nat) : ∃ b r, Lib.decDigits u = b :: r ∧ eL b = true := by
 have h1 := qW u
 have h2 := kE u
 cases h : Lib.decDigits u with
 | nil => exact absurd h h1
 | cons b r => exact ⟨b, r, rfl, h2 b (by rw [h]; simp)⟩
def mb {b : UInt8} : eL b = true ↔ 48 ≤ b.toNat ∧ b.toNat ≤ 57 := by simp [eL]
def xi : ∀ (l : ab) (acc : Nat), (∀ b ∈ l, eL b = true) → l.foldl (fun a b => a * 10 + (b.toNat - 48)) acc < 1844674407370955162 → Lib.parseUint10 acc l = .ok (l.foldl (fun a b => a * 10 + (b.toNat - 48)) acc)
 | [], acc, _, _ => rfl
 | c :: r, acc, hd, hv => by
  have h1 := mb.1 (hd c (by simp))
  have hmono : ∀ (l : ab) (a : Nat), a ≤ l.foldl (fun a b => a * 10 + (b.toNat - 48)) a := by
   intro l
   induction l with
   | nil => intro a; exact Nat.le_refl _
   | cons x l ih => intro a; exact Nat.le_trans (show a ≤ a * 10 + (x.toNat - 48) by omega) (ih _)
  have h2 := hmono r (acc * 10 + (c.toNat - 48))
  rw [List.foldl_cons] at hv ⊢
  unfold Lib.parseUint10
  rw [if_pos h1, if_neg (by omega), if_neg (by omega)]
  exact xi r _ (fun b hb => hd b (by simp [hb])) hv
def xj {n : Int} (h : -999999999 ≤ n ∧ n ≤ 999999999) : Lib.atoiAll (itoa n) = .ok n := by
 have hv := qV n.natAbs
 have hp : Lib.parseMag (Lib.decDigits n.natAbs) = .ok n.natAbs := by
  unfold Lib.parseMag
  rw [if_neg (qW _)]
  have := xi (Lib.decDigits n.natAbs) 0 (kE _) (by show jF _ < _; rw [hv]; omega)
  rw [this]
  show Lib.NumEnd.ok (jF _) = _
  rw [hv]
 by_cases h0 : n < 0
 ·rw [jC h0]
  simp only [Lib.atoiAll]
  rw [if_pos (Or.inr (by decide)), hp]
  dsimp only
  rw [if_neg (by intro e; exact e.1 (by decide)), if_neg (by omega), if_pos (by decide)]
  congr 1; omega
 ·rw [iD h0]
  obtain ⟨b, r, e, hb⟩ := xh n.natAbs
  have hb := mb.1 hb
  rw [e] at hp ⊢
  simp only [Lib.atoiAll]
  rw [if_neg (by omega), hp]
  dsimp only
  rw [if_neg (by omega), if_neg (by omega), if_neg (by omega)]
  congr 1; omega
def cl (n : Int) : Bool := decide (-999999999 ≤ n) && decide (n ≤ 999999999)
def jG {n : Int} : cl n = true ↔ -999999999 ≤ n ∧ n ≤ 999999999 := by simp [cl]
noncomputable def dj (s : ab) : Option Int := ez cl itoa s
def ob (s : ab) : Int := match Lib.atoiAll s with | .ok v => v | _ => 0
def xk (n : Int) (h : cl n = true) : ob (itoa n) = n := by unfold ob; rw [xj (jG.1 h)]
def oc {n : Int} (h : cl n = true) : dj (itoa n) = some n := lZ xk h
def BP {s : ab} (h : ∀ v, Lib.atoiAll s ≠ .ok v) : dj s = none := by
 apply jE
 rintro n hn rfl
 exact h n (xj (jG.1 hn))
def BQ {s : ab} {v : Int} (h : Lib.atoiAll s = .ok v) (h2 : ¬ (cl v = true ∧ itoa v = s)) : dj s = none := by
 refine eK xk ?_
 rw [show ob s = v by unfold ob; rw [h]]; exact h2
def BR {s : ab} {v : Int} (h1 : cl v = true) (h2 : itoa v = s) : dj s = some v := by rw [← h2]; exact oc h1
/- the reference's reading -/
def bE (l : ab) : Nat × Nat := l.foldl (fun a b => if eL b then (a.1 * 10 + (b.toNat - 48), a.2 + 1) else a) (0, 0)
def qY (l : ab) (b : UInt8) : bE (l ++ [b]) = if eL b then ((bE l).1 * 10 + (b.toNat - 48), (bE l).2 + 1) else bE l := by unfold bE; rw [List.foldl_append]; rfl
def xl (l : ab) : (bE l).2 ≤ l.length ∧ (bE l).1 < 10 ^ (bE l).2 := by
 induction l using kC with
 | h0 => exact ⟨Nat.le_refl _, by decide⟩
 | h1 l b ih =>
  rw [qY]
  split
  ·rename_i h
   have := mb.1 h
   refine ⟨by simp; omega, ?_⟩
   show _ < 10 ^ ((bE l).2 + 1)
   rw [Nat.pow_succ]; omega
  ·exact ⟨by simp; omega, ih.2⟩
def xm {l : ab} (h : ∀ b ∈ l, eL b = true) : bE l = (jF l, l.length) := by
 induction l using kC with
 | h0 => rfl
 | h1 l b ih =>
  rw [qY, if_pos (h b (by simp)), ih (fun x hx => h x (by simp [hx])), xg]
  simp
def BS (l : ab) : bE (45 :: l) = bE l := rfl
def fb (s : ab) : Int := if s.head? = some 45 then -((bE (s.take 11)).1 : Int) else ((bE (s.take 11)).1 : Int)
def gp (s : ab) : Bool := decide (9 < (bE (s.take 11)).2) || (decide (10 < s.length) || !(itoa (fb s) == s))
def xn (n : Int) (h : cl n = true) : fb (itoa n) = n ∧ gp (itoa n) = false := by
 have hl := BO (jG.1 h)
 have ht : (itoa n).take 11 = itoa n := mh (by omega)
 have hk := qX 8 n.natAbs (by have := jG.1 h; omega)
 have hs : bE (itoa n) = (n.natAbs, (Lib.decDigits n.natAbs).length) := by
  by_cases h0 : n < 0
  ·rw [jC h0, BS, xm (kE _), qV]
  ·rw [iD h0, xm (kE _), qV]
 have h1 : fb (itoa n) = n := by
  unfold fb
  rw [ht, hs]
  by_cases h0 : n < 0
  ·rw [if_pos (by rw [jC h0]; rfl)]; simp; omega
  ·rw [if_neg]
   ·simp; omega
   ·rw [iD h0]
    obtain ⟨b, r, e, hb⟩ := xh n.natAbs
    rw [e]
    intro e
    simp at e
    rw [e] at hb
    exact absurd hb (by decide)
 refine ⟨h1, ?_⟩
 unfold gp
 rw [h1, ht, hs]
 simp
 omega
def BT {s : ab} (h : gp s = true) : dj s = none := qU (ok := fun s => !gp s) (fun n hn => by rw [(xn n hn).2]; rfl) (by rw [h]; rfl)
def BU {s : ab} (h : gp s = false) : dj s = some (fb s) := by
 have h1 := h
 unfold gp at h1
 simp at h1
 have h2 := xl (s.take 11)
 have h3 : 10 ^ (bE (s.take 11)).2 ≤ 10 ^ 9 := Nat.pow_le_pow_right (by decide) (by omega)
 refine gW (g := fb) (fun n hn => (xn n hn).1) (jG.2 ?_) h1.2.2
 unfold fb
 split <;> omega
noncomputable def cc (s : ab) : Bool := (dj s).isSome
noncomputable def bm (s : ab) : Int := (dj s).getD 0
noncomputable def bi (s : ab) : Int := (dj s).getD (-100000)
def mc {n : Int} (h : cl n = true) : cc (itoa n) = true := by unfold cc; rw [oc h]; rfl
def fA {n : Int} (h : cl n = true) : bm (itoa n) = n := by unfold bm; rw [oc h]; rfl
def fB {n : Int} (h : cl n = true) : bi (itoa n) = n := by unfold bi; rw [oc h]; rfl
/- ---- parts of a text ---- -/
def aa (c : UInt8) : ab → List ab
 | [] => [[]]
 | b :: r => if b = c then [] :: aa c r else (b :: (aa c r).headD []) :: (aa c r).tail
def iF (c : UInt8) (s : ab) : aa c s ≠ [] := by
 cases s with
 | nil => simp [aa]
 | cons b r => unfold aa; split <;> simp
def gq {c : UInt8} {a : ab} (h : c ∉ a) : aa c a = [a] := by
 induction a with
 | nil => rfl
 | cons b r ih =>
  unfold aa
  rw [if_neg (by rintro rfl; simp at h), ih (fun hx => h (by simp [hx]))]
  rfl
def qZ (c : UInt8) (a b : ab) : aa c (a ++ c :: b) = aa c a ++ aa c b := by
 induction a with
 | nil => simp [aa]
 | cons x r ih =>
  rw [List.cons_append]
  rw [aa, aa.eq_2 c x r]
  split
  ·rw [ih]; rfl
  ·have h1 := iF c r
   rw [ih]
   cases hh : aa c r with
   | nil => exact absurd hh h1
   | cons y ys => rfl
def xo (c b : UInt8) (s : ab) : aa c (s ++ [b]) = if b = c then aa c s ++ [[]] else (aa c s).dropLast ++ [(aa c s).getLastD [] ++ [b]] := by
 split
 ·rename_i h; subst h
  have := qZ b s []
  simpa [aa] using this
 ·rename_i h
  induction s with
  | nil => simp [aa, h]
  | cons x r ih =>
   have h1 := iF c r
   rw [List.cons_append]
   unfold aa
   rw [ih]
   cases hh : aa c r with
   | nil => exact absurd hh h1
   | cons y ys =>
    split
    ·cases ys <;> simp
    ·cases ys with
     | nil => simp
     | cons z zs => simp
def fc {c : UInt8} {a b : ab} (h : c ∉ a) : aa c (a ++ c :: b) = a :: aa c b := by rw [qZ, gq h]; rfl
def xp {c : UInt8} {ws : List ab} (h0 : ws ≠ []) (h : ∀ w ∈ ws, c ∉ w) : aa c (cO ws [c]) = ws := by
 induction ws using kC with
 | h0 => exact absurd rfl h0
 | h1 ws y ih =>
  rw [kD]
  split
  ·rename_i e; subst e; simp [gq (h y (by simp))]
  ·rename_i e
   rw [de, List.singleton_append, qZ, ih e (fun w hw => h w (by simp [hw])), gq (h y (by simp))]
/- the library's splitting is this one -/
def BV (c : UInt8) (s : ab) : (aa c s).length = s.count c + 1 := by
 induction s with
 | nil => rfl
 | cons b r ih =>
  unfold aa
  split
  ·rename_i h; subst h; simp [ih]
  ·rename_i h
   have h1 := iF c r
   rw [List.count_cons_of_ne (fun e => h e)]
   cases hh : aa c r with
   | nil => exact absurd hh h1
   | cons y ys => rw [hh] at ih; simpa using ih
def xq {c : UInt8} {a b : ab} (h : c ∉ a) : Lib.index (a ++ c :: b) [c] = a.length := by
 induction a with
 | nil => unfold Lib.index; simp
 | cons x r ih =>
  rw [List.cons_append]
  unfold Lib.index
  rw [if_neg, ih (fun hx => h (by simp [hx]))]
  ·rw [if_neg]
   ·simp
   ·intro e; have := beq_iff_eq.1 e; omega
  ·simp; rintro rfl; simp at h
def BW {c : UInt8} {s : ab} (h : c ∈ s) : ∃ a b, s = a ++ c :: b ∧ c ∉ a := by
 induction s with
 | nil => simp at h
 | cons x r ih =>
  by_cases e : x = c
  ·subst e; exact ⟨[], r, rfl, by simp⟩
  ·obtain ⟨a, b, e1, e2⟩ := ih (by rcases List.mem_cons.1 h with h | h; exact absurd h.symm e; exact h)
   exact ⟨x :: a, b, by rw [e1]; rfl, by rintro hx; rcases List.mem_cons.1 hx with hx | hx; exact e hx.symm; exact e2 hx⟩
def xr (c : UInt8) : ∀ (k : Nat) (s : ab), s.count c = k → Lib.splitK [c] 0 k s = aa c s
 | 0, s, h => by rw [gq (fun hx => by have := List.count_pos_iff.2 hx; omega)]; rfl
 | k + 1, s, h => by
  have hm : c ∈ s := List.count_pos_iff.1 (by omega)
  obtain ⟨a, b, rfl, ha⟩ := BW hm
  rw [fc ha]
  unfold Lib.splitK
  rw [xq ha, if_neg (by intro e; have := beq_iff_eq.1 e; omega)]
  have hc : b.count c = k := by
   rw [List.count_append, List.count_cons_self, List.count_eq_zero_of_not_mem ha] at h; omega
  have := xr c k b hc
  simp [this]
end
/- ---- parts of printed texts ---- -/
def dc {n : Int} {c : UInt8} (h : ma c = false) : c ∉ itoa n := by
 intro hc
 rw [BM n c hc] at h
 cases h
def ra {l : List Int} {c : UInt8} (h : ma c = false) (h2 : c ≠ 44) : c ∉ bD l := by
 unfold bD
 have : ∀ ws : List ab, (∀ w ∈ ws, c ∉ w) → c ∉ cO ws [44] := by
  intro ws
  induction ws using kC with
  | h0 => intro _; simp [wX]
  | h1 ws y ih =>
   intro hw
   rw [kD]
   split
   ·exact hw y (by simp)
   ·simp only [bB, List.mem_singleton, not_or]
    exact ⟨⟨ih (fun w hx => hw w (by simp [hx])), h2⟩, hw y (by simp)⟩
 refine this _ fun w hw => ?_
 obtain ⟨x, _, rfl⟩ := List.mem_map.1 hw
 exact dc h
def rc {l : List Int} (h : l ≠ []) : aa 44 (bD l) = l.map itoa := by
 unfold bD
 refine xp (by simpa using h) fun w hw => ?_
 obtain ⟨x, _, rfl⟩ := List.mem_map.1 hw
 exact dc (by decide)
noncomputable def fC (s : ab) : Bool := (aa 44 s).all cc
noncomputable def gX (s : ab) : List Int := if fC s then (aa 44 s).map bm else []
noncomputable def kF (s : ab) : List Int := (aa 44 s).map bi
def re {l : List Int} (h : l ≠ []) (h2 : ∀ x ∈ l, cl x = true) : fC (bD l) = true := by
 unfold fC
 rw [rc h, oE]
 intro w hw
 obtain ⟨x, hx, rfl⟩ := List.mem_map.1 hw
 exact mc (h2 x hx)
def BX {l : List Int} (h2 : ∀ x ∈ l, cl x = true) : (l.map itoa).map bm = l := by
 rw [List.map_map]
 conv => rhs; rw [← List.map_id l]
 exact List.map_congr_left fun x hx => fA (h2 x hx)
def BY {l : List Int} (h2 : ∀ x ∈ l, cl x = true) : (l.map itoa).map bi = l := by
 rw [List.map_map]
 conv => rhs; rw [← List.map_id l]
 exact List.map_congr_left fun x hx => fB (h2 x hx)
def xt {l : List Int} (h : l ≠ []) (h2 : ∀ x ∈ l, cl x = true) : gX (bD l) = l := by
 unfold gX
 rw [if_pos (re h h2), rc h, BX h2]
def xu {l : List Int} (h : l ≠ []) (h2 : ∀ x ∈ l, cl x = true) : kF (bD l) = l := by
 unfold kF
 rw [rc h, BY h2]
def bw (s p : ab) : ab := (Lib.cut s p).1
def ct (s p : ab) : ab := (Lib.cut s p).2.1
def kG {c : UInt8} {a b : ab} (h : c ∉ a) : bw (a ++ c :: b) [c] = a ∧ ct (a ++ c :: b) [c] = b := by
 unfold bw ct Lib.cut
 rw [xq h, if_pos (by omega)]
 simp
def BZ {c : UInt8} {a b : ab} (h : c ∉ a) : Lib.index (a ++ c :: c :: b) [c, c] = a.length := by
 induction a with
 | nil => unfold Lib.index; simp
 | cons x r ih =>
  rw [List.cons_append]
  unfold Lib.index
  rw [if_neg, ih (fun hx => h (by simp [hx]))]
  ·rw [if_neg]
   ·simp
   ·intro e; have := beq_iff_eq.1 e; omega
  ·simp; rintro rfl; simp at h
def Ca {c : UInt8} {a b : ab} (h : c ∉ a) : bw (a ++ c :: c :: b) [c, c] = a ∧ ct (a ++ c :: c :: b) [c, c] = b := by
 unfold bw ct Lib.cut
 rw [BZ h, if_pos (by omega)]
 simp
def dG {n : Int} (a : -999999999 ≤ n) (b : n ≤ 999999999) : cl n = true := jG.2 ⟨a, b⟩
/- ---- rows ---- -/
def xv {r : Row} (h : ca r = true) : (0 ≤ r.Id ∧ r.Id ≤ 999) ∧ r.Values ≠ [] ∧ r.Values.length = 3 ∧ ∀ x ∈ r.Values, cl x = true := by
 obtain ⟨a, b, c, d⟩ := lV h
 refine ⟨⟨a, b⟩, by rintro e; rw [e] at c; simp at c, c, fun x hx => ?_⟩
 unfold ca at h
 simp only [bK] at h
 have := List.all_eq_true.1 h.1 x hx
 simp [dR, ba] at this
 exact dG (by omega) (by omega)
noncomputable def eM (s : ab) : Row := ⟨bm (bw s [58]), gX (ct s [58])⟩
noncomputable def od (s : ab) : Bool := cc (bw s [58]) && fC (ct s [58])
noncomputable def dv (s : ab) : Row := ⟨bi ((aa 58 s).getD 0 []), if (aa 58 s).length = 2 then kF ((aa 58 s).getD 1 []) else []⟩
noncomputable def cI (s : ab) : Option Row := ez ca bN s
def rf {r : Row} (h : ca r = true) : bN r = itoa r.Id ++ 58 :: bD r.Values := by unfold bN; rw [if_pos h]; simp
def Cb {r : Row} (h : bN r ≠ []) : ca r = true := by
 cases e : ca r with
 | true => rfl
 | false => exact absurd (by unfold bN; rw [if_neg (by rw [e]; simp)]) h
def Cc {r : Row} (h : ca r = true) : bN r ≠ [] := by rw [rf h]; simp
def oe (r : Row) (h : ca r = true) : eM (bN r) = r ∧ od (bN r) = true := by
 obtain ⟨⟨a, b⟩, c, d, e⟩ := xv h
 have hc := kG (c := 58) (a := itoa r.Id) (b := bD r.Values) (dc (by decide))
 have hn := dG (n := r.Id) (by omega) (by omega)
 unfold eM od
 rw [rf h, hc.1, hc.2, fA hn, xt c e, mc hn, re c e]
 exact ⟨rfl, rfl⟩
def rg (r : Row) (h : ca r = true) : dv (bN r) = r := by
 obtain ⟨⟨a, b⟩, c, d, e⟩ := xv h
 have hs : aa 58 (bN r) = [itoa r.Id, bD r.Values] := by
  rw [rf h, fc (dc (by decide)), gq (ra (by decide) (by decide))]
 unfold dv
 rw [hs]
 show (⟨bi (itoa r.Id), kF (bD r.Values)⟩ : Row) = r
 rw [fB (dG (by omega) (by omega)), xu c e]
def fe : Row := ⟨0, []⟩
def Cd {s : ab} (h : od s = false ∨ ca (eM s) = false ∨ bN (eM s) ≠ s) : cI s = none := by
 rcases h with h | h | h
 ·exact qU (fun r hr => (oe r hr).2) h
 ·exact eK (g := eM) (fun r hr => (oe r hr).1) (by rw [h]; simp)
 ·exact eK (g := eM) (fun r hr => (oe r hr).1) (fun e => h e.2)
def Ce {s : ab} (h1 : ca (eM s) = true) (h2 : bN (eM s) = s) : cI s = some (eM s) := gW (g := eM) (fun r hr => (oe r hr).1) h1 h2
def xw {s : ab} (h : s = [] ∨ bN (dv s) ≠ s) : cI s = none := by
 rcases h with h | h
 ·exact jE fun r hr e => Cc hr (e.trans h)
 ·exact eK (g := dv) rg (fun e => h e.2)
def xx {s : ab} (h1 : s ≠ []) (h2 : bN (dv s) = s) : cI s = some (dv s) := gW (g := dv) rg (Cb (by rw [h2]; exact h1)) h2
/- ---- a number behind a letter ---- -/
def md (s p : ab) : Bool := p.isPrefixOf s
def fD (s p : ab) : ab := if p.isPrefixOf s then s.drop p.length else s
noncomputable def gt (c : UInt8) (w : ab) : Int := bm (fD w [c])
noncomputable def gu (c : UInt8) (w : ab) : Bool := md w [c] && cc (fD w [c])
noncomputable def dk (c : UInt8) (w : ab) : Int := if w.length < 2 ∨ w.head? ≠ some c then -100000 else bi (w.drop 1)
def og {c : UInt8} {n : Int} (h : cl n = true) : gt c (c :: itoa n) = n ∧ gu c (c :: itoa n) = true ∧ dk c (c :: itoa n) = n := by
 have h1 := BN n
 have h2 : (itoa n).length ≠ 0 := by simpa using h1
 refine ⟨?_, ?_, ?_⟩
 ·unfold gt fD; rw [if_pos (by simp)]; exact fA h
 ·unfold gu md fD; rw [if_pos (by simp)]; simp [mc h]
 ·unfold dk; rw [if_neg (by simp; omega)]; exact fB h
/- ---- updates ---- -/
def aQ : Ga := ⟨0, fe, 0, 0⟩
noncomputable def eA (s : ab) : Ga :=
 if (aa 32 s).getD 0 [] = ([105, 110, 115, 101, 114, 116] : ab) ∧ (aa 32 s).length = 2 then ⟨1, (cI ((aa 32 s).getD 1 [])).getD fe, 0, 0⟩
 else if (aa 32 s).getD 0 [] = ([100, 101, 108, 101, 116, 101] : ab) ∧ (aa 32 s).length = 2 then ⟨2, ⟨bm ((aa 32 s).getD 1 []), []⟩, 0, 0⟩
 else if (aa 32 s).getD 0 [] = ([115, 101, 116] : ab) ∧ (aa 32 s).length = 4 then ⟨3, ⟨bm ((aa 32 s).getD 1 []), []⟩, gt 102 ((aa 32 s).getD 2 []), bm ((aa 32 s).getD 3 [])⟩
 else aQ
noncomputable def bO (s : ab) : Ga :=
 if (aa 32 s).length = 2 ∧ (aa 32 s).getD 0 [] = ([105, 110, 115, 101, 114, 116] : ab) then ⟨1, (cI ((aa 32 s).getD 1 [])).getD fe, 0, 0⟩
 else if (aa 32 s).length = 2 then ⟨2, ⟨bi ((aa 32 s).getD 1 []), []⟩, 0, 0⟩
 else if (aa 32 s).length = 4 then ⟨3, ⟨bi ((aa 32 s).getD 1 []), []⟩, dk 102 ((aa 32 s).getD 2 []), bi ((aa 32 s).getD 3 [])⟩
 else aQ
noncomputable def bF (s : ab) : Option Ga := ez cb bJ s
def Cf {r : Row} : (32 : UInt8) ∉ bN r := by
 unfold bN
 split
 ·simp only [bB, not_or]
  exact ⟨⟨dc (by decide), by decide⟩, ra (by decide) (by decide)⟩
 ·simp
def oh {u : Ga} (h : cb u = true) :
  (∃ r, ca r = true ∧ u = ⟨1, r, 0, 0⟩ ∧ bJ u = ([105, 110, 115, 101, 114, 116] : ab) ++ 32 :: bN r) ∨
  (∃ n : Int, 0 ≤ n ∧ n ≤ 999 ∧ u = ⟨2, ⟨n, []⟩, 0, 0⟩ ∧ bJ u = ([100, 101, 108, 101, 116, 101] : ab) ++ 32 :: itoa n) ∨
  (∃ n f v : Int, (0 ≤ n ∧ n ≤ 999) ∧ (0 ≤ f ∧ f ≤ 2) ∧ (0 ≤ v ∧ v ≤ 99) ∧ u = ⟨3, ⟨n, []⟩, f, v⟩ ∧ bJ u = ([115, 101, 116] : ab) ++ 32 :: (itoa n ++ 32 :: (102 :: itoa f ++ 32 :: itoa v))) := by
 have h' := h
 obtain ⟨k, ⟨i, vs⟩, f, v⟩ := u
 unfold cb at h
 dsimp only at h
 split at h
 ·rename_i hk
  subst hk
  simp only [bK, decide_eq_true_eq] at h
  obtain ⟨h1, rfl, rfl⟩ := h
  refine Or.inl ⟨⟨i, vs⟩, h1, rfl, ?_⟩
  unfold bJ
  rw [if_pos h', if_pos rfl]
  rfl
 ·split at h
  ·rename_i hk
   subst hk
   simp [gj, ba] at h
   obtain ⟨⟨⟨h1, h2⟩, rfl⟩, rfl, rfl⟩ := h
   refine Or.inr (Or.inl ⟨i, h1, h2, rfl, ?_⟩)
   unfold bJ
   rw [if_pos h', if_neg (by simp), if_pos rfl]
   rfl
  ·split at h
   ·rename_i hk
    subst hk
    simp [gj, ba] at h
    obtain ⟨⟨⟨h1, h2⟩, rfl⟩, ⟨h3, h4⟩, h5, h6⟩ := h
    refine Or.inr (Or.inr ⟨i, f, v, ⟨h1, h2⟩, ⟨h3, h4⟩, ⟨h5, h6⟩, rfl, ?_⟩)
    unfold bJ
    rw [if_pos h', if_neg (by simp), if_neg (by simp)]
    simp [de]
   ·cases h
def Cg {r : Row} (h : ca r = true) : cI (bN r) = some r := lZ (g := dv) rg h
def kH (u : Ga) (h : cb u = true) : eA (bJ u) = u ∧ bO (bJ u) = u := by
 rcases oh h with ⟨r, h1, rfl, e⟩ | ⟨n, h1, h2, rfl, e⟩ | ⟨n, f, v, ⟨h1, h2⟩, ⟨h3, h4⟩, ⟨h5, h6⟩, rfl, e⟩
 ·have hs : aa 32 (([105, 110, 115, 101, 114, 116] : ab) ++ 32 :: bN r) = [([105, 110, 115, 101, 114, 116] : ab), bN r] := by rw [fc (by decide), gq Cf]
  unfold eA bO
  rw [e, hs]
  have := Cg h1
  simp [this]
 ·have hs : aa 32 (([100, 101, 108, 101, 116, 101] : ab) ++ 32 :: itoa n) = [([100, 101, 108, 101, 116, 101] : ab), itoa n] := by rw [fc (by decide), gq (dc (by decide))]
  have hn := dG (n := n) (by omega) (by omega)
  unfold eA bO
  rw [e, hs]
  simp [fA hn, fB hn]
 ·have hs : aa 32 (([115, 101, 116] : ab) ++ 32 :: (itoa n ++ 32 :: (102 :: itoa f ++ 32 :: itoa v))) = [([115, 101, 116] : ab), itoa n, 102 :: itoa f, itoa v] := by
   rw [fc (by decide), fc (dc (by decide)), fc, gq (dc (by decide))]
   intro hx
   rcases List.mem_cons.1 hx with hx | hx
   ·exact absurd hx (by decide)
   ·exact dc (by decide) hx
  have hn := dG (n := n) (by omega) (by omega)
  have hf := og (c := 102) (dG (n := f) (by omega) (by omega))
  have hv := dG (n := v) (by omega) (by omega)
  unfold eA bO
  rw [e, hs]
  simp [fA hn, fB hn, fA hv, fB hv, hf]
def xy {u : Ga} (h : cb u = true) : bJ u ≠ [] := by
 rcases oh h with ⟨r, h1, rfl, e⟩ | ⟨n, h1, h2, rfl, e⟩ | ⟨n, f, v, ⟨h1, h2⟩, ⟨h3, h4⟩, ⟨h5, h6⟩, rfl, e⟩ <;> rw [e] <;> simp
def Ch {u : Ga} (h : bJ u ≠ []) : cb u = true := by
 cases e : cb u with
 | true => rfl
 | false => exact absurd (by unfold bJ; rw [if_neg (by rw [e]; simp)]) h
def Ci {u : Ga} (h : cb u = true) : bF (bJ u) = some u := lZ (g := eA) (fun u hu => (kH u hu).1) h
def Cj {s : ab} (h : cb (eA s) = false ∨ bJ (eA s) ≠ s) : bF s = none := by
 rcases h with h | h
 ·exact eK (g := eA) (fun u hu => (kH u hu).1) (by rw [h]; simp)
 ·exact eK (g := eA) (fun u hu => (kH u hu).1) (fun e => h e.2)
def Ck {s : ab} (h1 : cb (eA s) = true) (h2 : bJ (eA s) = s) : bF s = some (eA s) := gW (g := eA) (fun u hu => (kH u hu).1) h1 h2
def xz {s : ab} (h : s = [] ∨ bJ (bO s) ≠ s) : bF s = none := by
 rcases h with h | h
 ·exact jE fun r hr e => xy hr (e.trans h)
 ·exact eK (g := bO) (fun u hu => (kH u hu).2) (fun e => h e.2)
def xA {s : ab} (h1 : s ≠ []) (h2 : bJ (bO s) = s) : bF s = some (bO s) := gW (g := bO) (fun u hu => (kH u hu).2) (Ch (by rw [h2]; exact h1)) h2
/- ---- queries ---- -/
def bg : FY := ⟨0, 0, [], []⟩
noncomputable def oi (ws : List ab) (j : Nat) : bh := ⟨gt 102 (ws.getD (2 + 2 * j) []), bm (bw (ws.getD (3 + 2 * j) []) [46, 46]), bm (ct (ws.getD (3 + 2 * j) []) [46, 46])⟩
noncomputable def jH (ws : List ab) (j : Nat) : Bool := gu 102 (ws.getD (2 + 2 * j) []) && (cc (bw (ws.getD (3 + 2 * j) []) [46, 46]) && cc (ct (ws.getD (3 + 2 * j) []) [46, 46]))
noncomputable def iG (ws : List ab) (k : Nat) : List bh := (List.range k).map (oi ws)
noncomputable def dH (ws : List ab) : FY := ⟨gt 113 (ws.getD 0 []), gt 116 (ws.getD 1 []), iG ws ((ws.length - 4) / 2), gX (ws.getD (ws.length - 1) [])⟩
noncomputable def oj (ws : List ab) : Bool := gu 113 (ws.getD 0 []) && (gu 116 (ws.getD 1 []) && fC (ws.getD (ws.length - 1) []))
noncomputable def iH (ws : List ab) (k : Nat) : Bool := oj ws && (List.range k).all (jH ws)
noncomputable def kI (ws : List ab) : Bool := decide (4 ≤ ws.length ∧ ws.length % 2 = 0 ∧ ws.length ≤ 10) && iH ws ((ws.length - 4) / 2)
def Cl (ws : List ab) (k : Nat) : iG ws (k + 1) = iG ws k ++ [oi ws k] := by unfold iG; rw [List.range_succ, dJ]; rfl
def Cm (ws : List ab) (k : Nat) : iH ws (k + 1) = (iH ws k && jH ws k) := by unfold iH; rw [List.range_succ, List.all_append]; simp [Bool.and_assoc]
def rh (ws : List ab) (k : Nat) : (iG ws k).length = k := by unfold iG; simp
def eB (w : ab) (i : Nat) : Bool := (w.drop i).take 2 == [46, 46]
def me (w : ab) : Option Nat := (List.range (w.length - 1)).find? (eB w)
noncomputable def gY (w : ab) : Int × Int := match me w with | some i => (bi (w.take i), bi (w.drop (i + 2))) | none => (-100000, -100000)
noncomputable def om (ws : List ab) (j : Nat) : bh := ⟨dk 102 (ws.getD (2 + 2 * j) []), (gY (ws.getD (3 + 2 * j) [])).1, (gY (ws.getD (3 + 2 * j) [])).2⟩
noncomputable def gZ (ws : List ab) (k : Nat) : List bh := (List.range k).map (om ws)
noncomputable def gv (ws : List ab) : FY := ⟨dk 113 (ws.getD 0 []), dk 116 (ws.getD 1 []), gZ ws ((ws.length - 4) / 2), kF (ws.getD (ws.length - 1) [])⟩
def Cn (ws : List ab) (k : Nat) : gZ ws (k + 1) = gZ ws k ++ [om ws k] := by unfold gZ; rw [List.range_succ, dJ]; rfl
def Co (ws : List ab) (k : Nat) : (gZ ws k).length = k := by unfold gZ; simp
def xB {w : ab} {k : Nat} (h0 : k + 1 < w.length) (h1 : ∀ j, j < k → eB w j = false) (h2 : eB w k = true) : gY w = (bi (w.take k), bi (w.drop (k + 2))) := by
 have : me w = some k := by
  unfold me
  rw [List.find?_range_eq_some]
  exact ⟨h2, List.mem_range.2 (by omega), fun j hj => by rw [h1 j hj]; rfl⟩
 unfold gY
 rw [this]
def Cq {w : ab} (h1 : ∀ j, j + 1 < w.length → eB w j = false) : gY w = (-100000, -100000) := by
 have : me w = none := by
  unfold me
  rw [List.find?_eq_none]
  intro j hj
  rw [h1 j (by have := List.mem_range.1 hj; omega)]; simp
 unfold gY
 rw [this]
def Cr {a b : ab} (ha : (46 : UInt8) ∉ a) : gY (a ++ 46 :: 46 :: b) = (bi a, bi b) := by
 have := xB (w := a ++ 46 :: 46 :: b) (k := a.length) (by simp) (fun j hj => ?_) (by unfold eB; simp)
 ·rw [this, List.take_append_of_le_length (Nat.le_refl _), dl, show a ++ 46 :: 46 :: b = (a ++ [46, 46]) ++ b by simp, List.drop_append_of_le_length (by simp), List.drop_eq_nil_of_le (by simp)]; rfl
 ·unfold eB
  rw [Bool.eq_false_iff]
  intro e
  have e := beq_iff_eq.1 e
  rw [List.drop_append_of_le_length (by omega), List.drop_eq_getElem_cons hj, List.cons_append, List.take_succ_cons] at e
  injection e with e1 e2
  exact ha (e1 ▸ List.getElem_mem hj)
def xC {q : FY} (h : aW q = true) : cl q.Id = true ∧ cl q.Gc = true ∧ q.Out ≠ [] ∧ (∀ x ∈ q.Out, cl x = true) ∧ q.FZ.length ≤ 3 ∧ ∀ k, (hk : k < q.FZ.length) → cl q.FZ[k].Field = true ∧ cl q.FZ[k].Low = true ∧ cl q.FZ[k].High = true := by
 obtain ⟨a1, a2, a3, a4, a5, a6, a7, a8⟩ := jD h
 have ho := xb h
 have ho1 : 1 ≤ q.Out.length := by
  have h' := h
  unfold aW fy at h'
  simp only [bK, ba, decide_eq_true_eq] at h'
  omega
 refine ⟨dG (by omega) (by omega), dG (by omega) (by omega), by rintro e; rw [e] at ho1; simp at ho1, fun x hx => ?_, a5, fun k hk => ?_⟩
 ·have := ho.2 x hx
  exact dG (by omega) (by omega)
 ·have := a8 k hk
  exact ⟨dG (by omega) (by omega), dG (by omega) (by omega), dG (by omega) (by omega)⟩
def dI (q : FY) : List ab := cP q q.FZ.length ++ [[111, 117, 116], bD q.Out]
def Cs {c : bh} : ∀ w ∈ dW c, (32 : UInt8) ∉ w := by
 intro w hw
 unfold dW at hw
 rcases List.mem_cons.1 hw with rfl | hw
 ·simp only [bB, not_or]; exact ⟨by decide, dc (by decide)⟩
 ·rw [List.mem_singleton] at hw; subst hw
  simp only [bB, not_or]; exact ⟨⟨dc (by decide), by decide⟩, dc (by decide)⟩
def Ct (q : FY) : ∀ w ∈ dI q, (32 : UInt8) ∉ w := by
 intro w hw
 unfold dI cP at hw
 rcases List.mem_append.1 hw with hw | hw
 ·rcases List.mem_append.1 hw with hw | hw
  ·rcases List.mem_cons.1 hw with rfl | hw
   ·simp only [bB, not_or]; exact ⟨by decide, dc (by decide)⟩
   ·rw [List.mem_singleton] at hw; subst hw
    simp only [bB, not_or]; exact ⟨by decide, dc (by decide)⟩
  ·obtain ⟨c, _, hc⟩ := List.mem_flatMap.1 hw
   exact Cs w hc
 ·rcases List.mem_cons.1 hw with rfl | hw
  ·decide
  ·rw [List.mem_singleton] at hw; subst hw
   exact ra (by decide) (by decide)
def xD {q : FY} (h : aW q = true) : aa 32 (bo q) = dI q := by
 unfold bo
 rw [if_pos h]
 exact xp (by simp) (Ct q)
def xE (q : FY) : (dI q).length = 4 + 2 * q.FZ.length := by
 unfold dI
 rw [aX, lX]
 simp; omega
def xF : ∀ (l : List bh) (k : Nat) (hk : k < l.length), (l.flatMap dW).getD (2 * k) [] = [102] ++ itoa l[k].Field ∧ (l.flatMap dW).getD (2 * k + 1) [] = itoa l[k].Low ++ [46, 46] ++ itoa l[k].High
 | c :: r, 0, _ => by simp [dW]
 | c :: r, k + 1, hk => by
  have := xF r k (by simpa using hk)
  simpa [dW, Nat.mul_succ] using this
def Cu (l : List bh) : (l.flatMap dW).length = 2 * l.length := by
 induction l with
 | nil => rfl
 | cons c r ih => rw [List.flatMap_cons, aX, ih]; simp [dW]; omega
def xG {q : FY} : (dI q).getD 0 [] = 113 :: itoa q.Id ∧ (dI q).getD 1 [] = 116 :: itoa q.Gc ∧ (dI q).getD (3 + 2 * q.FZ.length) [] = bD q.Out ∧ ∀ k, (hk : k < q.FZ.length) → (dI q).getD (2 + 2 * k) [] = 102 :: itoa q.FZ[k].Field ∧ (dI q).getD (3 + 2 * k) [] = itoa q.FZ[k].Low ++ 46 :: 46 :: itoa q.FZ[k].High := by
 have hl := Cu q.FZ
 have e : dI q = (113 :: itoa q.Id) :: (116 :: itoa q.Gc) :: (q.FZ.flatMap dW ++ [[111, 117, 116], bD q.Out]) := by
  unfold dI cP
  rw [dl]
  simp
 rw [e]
 refine ⟨rfl, rfl, ?_, fun k hk => ?_⟩
 ·rw [show 3 + 2 * q.FZ.length = (q.FZ.flatMap dW).length + 1 + 1 + 1 by omega, List.getD_cons_succ, List.getD_cons_succ]
  simp [List.getD_eq_getElem?_getD, List.getElem?_append_right]
 ·have := xF q.FZ k hk
  rw [show 2 + 2 * k = 2 * k + 1 + 1 by omega, show 3 + 2 * k = 2 * k + 1 + 1 + 1 by omega, List.getD_cons_succ, List.getD_cons_succ, List.getD_cons_succ, List.getD_cons_succ]
  have gl : ∀ (xs ys : List ab) (i : Nat), i < xs.length → (xs ++ ys).getD i [] = xs.getD i [] := fun xs ys i hi => by rw [List.getD_eq_getElem?_getD, List.getElem?_append_left hi, ← List.getD_eq_getElem?_getD]
  rw [gl _ _ _ (by omega), gl _ _ _ (by omega)]
  rw [this.1, this.2]
  simp
def ri {q : FY} (h : aW q = true) {k : Nat} (hk : k < q.FZ.length) : oi (dI q) k = q.FZ[k] ∧ jH (dI q) k = true ∧ om (dI q) k = q.FZ[k] := by
 obtain ⟨a1, a2, a3, a4, a5, a6⟩ := xC h
 obtain ⟨b1, b2, b3, b4⟩ := xG (q := q)
 obtain ⟨c1, c2⟩ := b4 k hk
 obtain ⟨d1, d2, d3⟩ := a6 k hk
 have hc := Ca (c := 46) (a := itoa q.FZ[k].Low) (b := itoa q.FZ[k].High) (dc (by decide))
 have hr := Cr (a := itoa q.FZ[k].Low) (b := itoa q.FZ[k].High) (dc (by decide))
 obtain ⟨e1, e2, e3⟩ := og (c := 102) d1
 unfold oi jH om
 rw [c1, c2, hc.1, hc.2, hr, e1, e2, e3, fA d2, fA d3, mc d2, mc d3]
 dsimp only
 rw [fB d2, fB d3]
 exact ⟨rfl, rfl, rfl⟩
def xH {l : List bh} {f : Nat → bh} (h : ∀ k, (hk : k < l.length) → f k = l[k]) : (List.range l.length).map f = l := by
 apply List.ext_getElem
 ·simp
 ·intro i h1 h2
  simp [h i h2]
def rj (q : FY) (h : aW q = true) : dH (aa 32 (bo q)) = q ∧ kI (aa 32 (bo q)) = true ∧ gv (aa 32 (bo q)) = q := by
 obtain ⟨a1, a2, a3, a4, a5, a6⟩ := xC h
 obtain ⟨b1, b2, b3, b4⟩ := xG (q := q)
 have hl := xE q
 have hk : ((dI q).length - 4) / 2 = q.FZ.length := by omega
 have h1 : (dI q).length - 1 = 3 + 2 * q.FZ.length := by omega
 obtain ⟨d1, d2, d3⟩ := og (c := 113) a1
 obtain ⟨e1, e2, e3⟩ := og (c := 116) a2
 rw [xD h]
 refine ⟨?_, ?_, ?_⟩
 ·unfold dH iG
  rw [hk, h1, b1, b2, b3, d1, e1, xt a3 a4, xH fun k hk => (ri h hk).1]
 ·unfold kI iH oj
  rw [hk, h1, b1, b2, b3, d2, e2, re a3 a4, hl]
  simp only [bK, decide_eq_true_eq, oE, List.mem_range]
  refine ⟨by omega, by simp, fun k hk => (ri h hk).2.1⟩
 ·unfold gv gZ
  rw [hk, h1, b1, b2, b3, d3, e3, xu a3 a4, xH fun k hk => (ri h hk).2.2]
noncomputable def bG (s : ab) : Option FY := ez aW bo s
def Cv {q : FY} (h : bo q ≠ []) : aW q = true := by
 cases e : aW q with
 | true => rfl
 | false => exact absurd (by unfold bo; rw [if_neg (by rw [e]; simp)]) h
def oo (q : FY) (h : aW q = true) : (fun s => dH (aa 32 s)) (bo q) = q := (rj q h).1
def xI (q : FY) (h : aW q = true) : (fun s => gv (aa 32 s)) (bo q) = q := (rj q h).2.2
def xJ {q : FY} (h : aW q = true) : bG (bo q) = some q := lZ (g := fun s => dH (aa 32 s)) oo h
def xK {s : ab} (h : kI (aa 32 s) = false ∨ aW (dH (aa 32 s)) = false ∨ bo (dH (aa 32 s)) ≠ s) : bG s = none := by
 rcases h with h | h | h
 ·exact qU (ok := fun s => kI (aa 32 s)) (fun q hq => (rj q hq).2.1) h
 ·exact eK (g := fun s => dH (aa 32 s)) oo (by rw [h]; simp)
 ·exact eK (g := fun s => dH (aa 32 s)) oo (fun e => h e.2)
def Cw {s : ab} (h1 : aW (dH (aa 32 s)) = true) (h2 : bo (dH (aa 32 s)) = s) : bG s = some (dH (aa 32 s)) := gW (g := fun s => dH (aa 32 s)) oo h1 h2
def Cx {s : ab} (h : (aa 32 s).length < 4) : bG s = none := by
 refine jE fun q hq e => ?_
 have h1 := xD hq
 rw [e] at h1
 have h2 := xE q
 rw [← h1] at h2
 omega
def Cy {s : ab} (h : bo (gv (aa 32 s)) ≠ s) : bG s = none := eK (g := fun s => gv (aa 32 s)) xI (fun e => h e.2)
def Cz {s : ab} (h0 : 4 ≤ (aa 32 s).length) (h2 : bo (gv (aa 32 s)) = s) : bG s = some (gv (aa 32 s)) :=
 gW (g := fun s => gv (aa 32 s)) xI (Cv (by rw [h2]; rintro rfl; simp [aa] at h0)) h2
/- ---- events ---- -/
def aZ : bM := ⟨0, bg, 0, 0, aQ, 0⟩
noncomputable def aR (s : ab) : bM :=
 if bw s [32] = ([97, 100, 109, 105, 116] : ab) then ⟨1, (bG (ct (ct s [32]) [32])).getD bg, bm (bw (ct s [32]) [32]), 0, aQ, 0⟩
 else if bw s [32] = ([99, 97, 110, 99, 101, 108] : ab) then ⟨2, bg, 0, bm (ct s [32]), aQ, 0⟩
 else if bw s [32] = ([115, 116, 101, 112] : ab) then ⟨4, bg, 0, 0, aQ, bm (ct s [32])⟩
 else ⟨3, bg, 0, 0, (bF s).getD aQ, 0⟩
noncomputable def aH (s : ab) : bM :=
 if 2 < (aa 32 s).length ∧ (aa 32 s).getD 0 [] = ([97, 100, 109, 105, 116] : ab) then ⟨1, (bG (s.drop (((aa 32 s).getD 0 []).length + ((aa 32 s).getD 1 []).length + 2))).getD bg, bi ((aa 32 s).getD 1 []), 0, aQ, 0⟩
 else if (aa 32 s).length = 2 ∧ (aa 32 s).getD 0 [] = ([99, 97, 110, 99, 101, 108] : ab) then ⟨2, bg, 0, bi ((aa 32 s).getD 1 []), aQ, 0⟩
 else if (aa 32 s).length = 2 ∧ (aa 32 s).getD 0 [] = ([115, 116, 101, 112] : ab) then ⟨4, bg, 0, 0, aQ, bi ((aa 32 s).getD 1 [])⟩
 else ⟨3, bg, 0, 0, (bF s).getD aQ, 0⟩
noncomputable def aJ (s : ab) : Option bM := ez bV bW s
def rk {q : FY} : eH q = true ↔ q = bg := by rw [← lQ, dP]; exact Iff.rfl
def oq {u : Ga} : eI u = true ↔ u = aQ := by rw [← lR, dP]; exact Iff.rfl
def rl {x : bM} (h : bV x = true) :
  (∃ (q : FY) (n : Int), aW q = true ∧ 0 ≤ n ∧ n ≤ 32 ∧ x = ⟨1, q, n, 0, aQ, 0⟩ ∧ bW x = ([97, 100, 109, 105, 116] : ab) ++ 32 :: (itoa n ++ 32 :: bo q)) ∨
  (∃ n : Int, 0 ≤ n ∧ n ≤ 23 ∧ x = ⟨2, bg, 0, n, aQ, 0⟩ ∧ bW x = ([99, 97, 110, 99, 101, 108] : ab) ++ 32 :: itoa n) ∨
  (∃ u : Ga, cb u = true ∧ x = ⟨3, bg, 0, 0, u, 0⟩ ∧ bW x = bJ u) ∨
  (∃ n : Int, 1 ≤ n ∧ n ≤ 100 ∧ x = ⟨4, bg, 0, 0, aQ, n⟩ ∧ bW x = ([115, 116, 101, 112] : ab) ++ 32 :: itoa n) := by
 have h' := h
 obtain ⟨k, q, l, i, u, n⟩ := x
 unfold bV at h
 dsimp only at h
 split at h
 ·rename_i hk
  subst hk
  simp only [bK, decide_eq_true_eq, ba, oq] at h
  obtain ⟨h1, ⟨h2, h3⟩, rfl, rfl, rfl⟩ := h
  refine Or.inl ⟨q, l, h1, h2, h3, rfl, ?_⟩
  unfold bW
  rw [if_pos h', if_pos rfl]
  simp
 ·split at h
  ·rename_i hk
   subst hk
   simp only [bK, decide_eq_true_eq, ba, oq, rk] at h
   obtain ⟨rfl, rfl, ⟨h2, h3⟩, rfl, rfl⟩ := h
   refine Or.inr (Or.inl ⟨i, h2, h3, rfl, ?_⟩)
   unfold bW
   rw [if_pos h', if_neg (by simp), if_pos rfl]
   simp
  ·split at h
   ·rename_i hk
    subst hk
    simp only [bK, decide_eq_true_eq, ba, oq, rk] at h
    obtain ⟨rfl, rfl, rfl, h1, rfl⟩ := h
    refine Or.inr (Or.inr (Or.inl ⟨u, h1, rfl, ?_⟩))
    unfold bW
    rw [if_pos h', if_neg (by simp), if_neg (by simp), if_pos rfl]
   ·split at h
    ·rename_i hk
     subst hk
     simp only [bK, decide_eq_true_eq, ba, oq, rk] at h
     obtain ⟨rfl, rfl, rfl, rfl, h2, h3⟩ := h
     refine Or.inr (Or.inr (Or.inr ⟨n, h2, h3, rfl, ?_⟩))
     unfold bW
     rw [if_pos h', if_neg (by simp), if_neg (by simp), if_neg (by simp)]
     simp
    ·cases h
def CA {u : Ga} (h : cb u = true) : ∃ a b, bJ u = a ++ 32 :: b ∧ (32 : UInt8) ∉ a ∧ a ≠ ([97, 100, 109, 105, 116] : ab) ∧ a ≠ ([99, 97, 110, 99, 101, 108] : ab) ∧ a ≠ ([115, 116, 101, 112] : ab) := by
 rcases oh h with ⟨r, h1, rfl, e⟩ | ⟨n, h1, h2, rfl, e⟩ | ⟨n, f, v, ⟨h1, h2⟩, ⟨h3, h4⟩, ⟨h5, h6⟩, rfl, e⟩ <;> exact ⟨_, _, e, by decide, by decide, by decide, by decide⟩
def mf (x : bM) (h : bV x = true) : aR (bW x) = x ∧ aH (bW x) = x := by
 rcases rl h with ⟨q, n, h1, h2, h3, rfl, e⟩ | ⟨n, h2, h3, rfl, e⟩ | ⟨u, h1, rfl, e⟩ | ⟨n, h2, h3, rfl, e⟩
 ·have hn := dG (n := n) (by omega) (by omega)
  have hc := kG (c := 32) (a := ([97, 100, 109, 105, 116] : ab)) (b := itoa n ++ 32 :: bo q) (by decide)
  have hc2 := kG (c := 32) (a := itoa n) (b := bo q) (dc (by decide))
  have hs : aa 32 (([97, 100, 109, 105, 116] : ab) ++ 32 :: (itoa n ++ 32 :: bo q)) = ([97, 100, 109, 105, 116] : ab) :: itoa n :: aa 32 (bo q) := by rw [fc (by decide), fc (dc (by decide))]
  have hd : (([97, 100, 109, 105, 116] : ab) ++ 32 :: (itoa n ++ 32 :: bo q)).drop (([97, 100, 109, 105, 116] : ab).length + (itoa n).length + 2) = bo q := by
   rw [show ([97, 100, 109, 105, 116] : ab) ++ 32 :: (itoa n ++ 32 :: bo q) = (([97, 100, 109, 105, 116] : ab) ++ 32 :: itoa n ++ [32]) ++ bo q by simp]
   rw [List.drop_append_of_le_length (by simp; omega), List.drop_eq_nil_of_le (by simp; omega)]; rfl
  have hne := iF 32 (bo q)
  have hl : (aa 32 (bo q)).length ≠ 0 := by simpa using hne
  rw [e]
  constructor
  ·unfold aR
   rw [hc.1, hc.2, hc2.1, hc2.2, if_pos rfl, xJ h1, fA hn]; rfl
  ·unfold aH
   rw [hs, if_pos ⟨by simp; omega, rfl⟩]
   show (⟨1, (bG (List.drop (([97, 100, 109, 105, 116] : ab).length + (itoa n).length + 2) _)).getD bg, bi (itoa n), 0, aQ, 0⟩ : bM) = _
   rw [hd, xJ h1, fB hn]; rfl
 ·have hn := dG (n := n) (by omega) (by omega)
  have hc := kG (c := 32) (a := ([99, 97, 110, 99, 101, 108] : ab)) (b := itoa n) (by decide)
  have hs : aa 32 (([99, 97, 110, 99, 101, 108] : ab) ++ 32 :: itoa n) = [([99, 97, 110, 99, 101, 108] : ab), itoa n] := by rw [fc (by decide), gq (dc (by decide))]
  rw [e]
  unfold aR aH
  rw [hc.1, hc.2, hs, fA hn]
  simp [fB hn]
 ·obtain ⟨a, b, e1, e2, e3, e4, e5⟩ := CA h1
  have hu := Ci h1
  rw [e]
  rw [e1] at hu ⊢
  have hc := kG (c := 32) (a := a) (b := b) e2
  have hs : (aa 32 (a ++ 32 :: b)).getD 0 [] = a := by rw [fc e2]; rfl
  unfold aR aH
  rw [hc.1, hs, hu]
  simp [e3, e4, e5]
 ·have hn := dG (n := n) (by omega) (by omega)
  have hc := kG (c := 32) (a := ([115, 116, 101, 112] : ab)) (b := itoa n) (by decide)
  have hs : aa 32 (([115, 116, 101, 112] : ab) ++ 32 :: itoa n) = [([115, 116, 101, 112] : ab), itoa n] := by rw [fc (by decide), gq (dc (by decide))]
  rw [e]
  unfold aR aH
  rw [hc.1, hc.2, hs, fA hn]
  simp [fB hn]
def CB {x : bM} (h : bV x = true) : bW x ≠ [] := by
 rcases rl h with ⟨q, n, h1, h2, h3, rfl, e⟩ | ⟨n, h2, h3, rfl, e⟩ | ⟨u, h1, rfl, e⟩ | ⟨n, h2, h3, rfl, e⟩ <;> rw [e]
 ·simp
 ·simp
 ·exact xy h1
 ·simp
def CC {x : bM} (h : bW x ≠ []) : bV x = true := by
 cases e : bV x with
 | true => rfl
 | false => exact absurd (by unfold bW; rw [if_neg (by rw [e]; simp)]) h
def CD {s : ab} {x : bM} (h : aJ s = some x) : bV x = true ∧ bW x = s := BL h
def xL {s : ab} (h : bV (aR s) = false ∨ bW (aR s) ≠ s) : aJ s = none := by
 rcases h with h | h
 ·exact eK (g := aR) (fun u hu => (mf u hu).1) (by rw [h]; simp)
 ·exact eK (g := aR) (fun u hu => (mf u hu).1) (fun e => h e.2)
def xM {s : ab} (h1 : bV (aR s) = true) (h2 : bW (aR s) = s) : aJ s = some (aR s) := gW (g := aR) (fun u hu => (mf u hu).1) h1 h2
def rm {s : ab} (h : s = [] ∨ bW (aH s) ≠ s) : aJ s = none := by
 rcases h with h | h
 ·exact jE fun r hr e => CB hr (e.trans h)
 ·exact eK (g := aH) (fun u hu => (mf u hu).2) (fun e => h e.2)
def rn {s : ab} (h1 : s ≠ []) (h2 : bW (aH s) = s) : aJ s = some (aH s) := gW (g := aH) (fun u hu => (mf u hu).2) (CC (by rw [h2]; exact h1)) h2
section
def u8 (b : Int) : UInt8 := UInt8.ofNat b.toNat
def ro {x : UInt8} {b : Int} (h0 : 0 ≤ b) (h1 : b ≤ 255) : (((x.toNat : Nat) : Int) = b) ↔ x = u8 b := by
 have hx := x.toNat_lt
 constructor
 ·rintro rfl; unfold u8; rw [Int.toNat_natCast, UInt8.ofNat_toNat]
 ·rintro rfl; unfold u8; rw [UInt8.toNat_ofNat']; omega
def xN (s : ab) : aq (cZ s) := by
 unfold cZ
 rcases h : Lib.atoiAll s with v | _ | _
 ·exact Lib.atoiAll_bounds h
 ·exact (show aq 0 from ⟨by decide, by decide⟩)
 ·exact Lib.atoiSat_bounds s
def CE {s : ab} (h : eG s = true) : Lib.atoiAll s = .ok (cZ s) := by
 unfold eG at h
 unfold cZ
 rcases e : Lib.atoiAll s with v | _ | _
 ·rfl
 ·rw [e] at h; cases h
 ·rw [e] at h; cases h
def CF {s : ab} (h : eG s = false ∨ itoa (cZ s) ≠ s ∨ cZ s < -999999999 ∨ 999999999 < cZ s) : dj s = none := by
 cases e : eG s with
 | false =>
  refine BP fun v hv => ?_
  unfold eG at e
  rw [hv] at e
  cases e
 | true =>
  refine BQ (CE e) fun hc => ?_
  have := jG.1 hc.1
  rw [e] at h
  rcases h with h | h | h | h
  ·cases h
  ·exact h hc.2
  ·omega
  ·omega
def CG {s : ab} (h2 : itoa (cZ s) = s) (h3 : -999999999 ≤ cZ s) (h4 : cZ s ≤ 999999999) : dj s = some (cZ s) := BR (dG h3 h4) h2
section
variable {s : ab} {n : Int}
def CH (h : dj s = none) : bm s = 0 := by unfold bm; rw [h]; rfl
def CI (h : dj s = some n) : bm s = n := by unfold bm; rw [h]; rfl
def CJ (h : cc s = false) : bi s = -100000 := by
 unfold cc at h; unfold bi
 cases e : dj s with
 | none => rfl
 | some n => rw [e] at h; cases h
def CK (h : cc s = true) : bi s = bm s := by
 unfold cc at h; unfold bi bm
 cases e : dj s with
 | none => rw [e] at h; cases h
 | some n => rfl
def CL (h : dj s = none) : cc s = false := by unfold cc; rw [h]; rfl
def CM (h : dj s = some n) : cc s = true := by unfold cc; rw [h]; rfl
end
/- the reference's loop over digits -/
def xO {s : ab} {k : Nat} (h : k < s.length) : bE (s.take (k + 1)) = if eL s[k] then ((bE (s.take k)).1 * 10 + (s[k].toNat - 48), (bE (s.take k)).2 + 1) else bE (s.take k) := by
 rw [eN h, qY]
def ot (s : ab) (k : Nat) (h : k ≤ 11) : (bE (s.take k)).1 < 100000000000 ∧ (bE (s.take k)).2 ≤ 11 := by
 have h1 := xl (s.take k)
 have h2 : (s.take k).length ≤ k := by rw [bQ]; omega
 have h3 : 10 ^ (bE (s.take k)).2 ≤ 10 ^ 11 := Nat.pow_le_pow_right (by decide) (by omega)
 omega
def xP {s : ab} {k : Nat} (h : k = s.length ∨ k = 11) (hk : k ≤ 11) : s.take k = s.take 11 := by
 rcases h with h | h
 ·rw [mh (by omega), mh (by omega)]
 ·rw [h]
def xQ {s : ab} (h : s.head? = some 45) : fb s = -((bE (s.take 11)).1 : Int) := if_pos h
def ou {s : ab} (h : ¬ s.head? = some 45) : fb s = ((bE (s.take 11)).1 : Int) := if_neg h
def kJ {s : ab} {c : UInt8} (h : 0 < s.length) : s.head? = some c ↔ s[0].toNat = c.toNat := by
 cases s with
 | nil => simp at h
 | cons b r => simp [UInt8.toNat_inj]
def ov {s : ab} {c : UInt8} (h : ¬ 0 < s.length) : ¬ s.head? = some c := by
 cases s with
 | nil => simp
 | cons b r => simp at h
def CN {s : ab} (h : 9 < (bE (s.take 11)).2 ∨ 10 < s.length ∨ itoa (fb s) ≠ s) : gp s = true := by
 unfold gp
 rcases h with h | h | h
 ·simp [h]
 ·simp [h]
 ·rw [show (itoa (fb s) == s) = false by simpa using h]; simp
def CO {s : ab} (h1 : (bE (s.take 11)).2 ≤ 9) (h2 : s.length ≤ 10) (h3 : itoa (fb s) = s) : gp s = false := by
 unfold gp
 rw [h3]
 simp; omega
/- splitting, byte by byte -/
def rp {α : Type} (l : List α) (x d : α) : (l ++ [x]).getLastD d = x := by simp
def rq (c : UInt8) (s : ab) : aa c s = (aa c s).dropLast ++ [(aa c s).getLastD []] := by
 have h := iF c s
 have key : ∀ l : List ab, l ≠ [] → l = l.dropLast ++ [l.getLastD []] := by
  intro l
  induction l using kC with
  | h0 => intro h; exact absurd rfl h
  | h1 l a _ => intro _; rw [List.dropLast_concat, rp]
 exact key _ h
def CP {c : UInt8} {s : ab} {k : Nat} (h : k < s.length) (hc : s[k] = c) : (aa c (s.take (k + 1))).dropLast = (aa c (s.take k)).dropLast ++ [(aa c (s.take k)).getLastD []] ∧ (aa c (s.take (k + 1))).getLastD [] = [] := by
 rw [eN h, xo, if_pos hc, rp, List.dropLast_concat]
 exact ⟨rq c _, rfl⟩
def CQ {c : UInt8} {s : ab} {k : Nat} (h : k < s.length) (hc : ¬ s[k] = c) : (aa c (s.take (k + 1))).dropLast = (aa c (s.take k)).dropLast ∧ (aa c (s.take (k + 1))).getLastD [] = (aa c (s.take k)).getLastD [] ++ [s[k]] := by
 rw [eN h, xo, if_neg hc, rp, List.dropLast_concat]
 exact ⟨rfl, rfl⟩
def gw (c : UInt8) (s : ab) : (aa c s).length ≤ s.length + 1 ∧ 1 ≤ (aa c s).length := by
 rw [BV]
 have := List.count_le_length (a := c) (l := s)
 omega
def jI {c : UInt8} {s w : ab} (h : w ∈ aa c s) : w.length ≤ s.length := by
 induction s generalizing w with
 | nil => simp [aa] at h; subst h; simp
 | cons b r ih =>
  unfold aa at h
  split at h
  ·rcases List.mem_cons.1 h with rfl | h
   ·simp
   ·have := ih h; simp; omega
  ·rcases List.mem_cons.1 h with rfl | h
   ·have h1 := iF c r
    cases hh : aa c r with
    | nil => exact absurd hh h1
    | cons y ys =>
     have := ih (w := y) (by rw [hh]; simp)
     simp; omega
   ·have := ih (List.mem_of_mem_tail h); simp; omega
def CR {c : UInt8} (s : ab) : ((aa c s).getLastD []).length ≤ s.length := by
 have h := iF c s
 have e := rq c s
 refine jI (c := c) (s := s) ?_
 rw [e]; simp
def CS (c : UInt8) (s : ab) : Lib.splitK [c] 0 (Lib.count s [c]) s = aa c s := by rw [Lib.count_one]; exact xr c _ s rfl
def ow {c : UInt8} {s : ab} {k : Nat} (h : k < (aa c s).length) : (aa c s).getD k [] = (aa c s)[k] := by rw [List.getD_eq_getElem?_getD, List.getElem?_eq_getElem h]; rfl
/- numbers between commas -/
def CT {s : ab} {k : Nat} (hk : k < (aa 44 s).length) (h : cc (aa 44 s)[k] = false) : fC s = false := nP hk h
def CU {s : ab} (h : fC s = false) : gX s = [] := if_neg (by rw [h]; simp)
def CV {s : ab} (h : fC s = true) : gX s = (aa 44 s).map bm := if_pos h
def kK (s p : ab) : (bw s p).length ≤ s.length := by
 unfold bw Lib.cut
 split
 ·simp [bQ]; omega
 ·exact Nat.le_refl _
def kL (s p : ab) : (ct s p).length ≤ s.length := by
 unfold ct Lib.cut
 split
 ·simp
 ·simp
def CW (s p : ab) : (fD s p).length ≤ s.length := by
 unfold fD
 split
 ·simp
 ·exact Nat.le_refl _
def CX {s : ab} {c : UInt8} (h : 0 < s.length) : s.head? = some c ↔ s[0] = c := by
 cases s with
 | nil => simp at h
 | cons b r => simp
def CY {s : ab} {c : UInt8} (h : s.length < 2 ∨ s.head? ≠ some c) : dk c s = -100000 := if_pos h
def CZ {s : ab} {c : UInt8} (h1 : ¬ s.length < 2) (h2 : s.head? = some c) : dk c s = bi (s.drop 1) := if_neg (by rintro (h | h); exact h1 h; exact h h2)
def Da {s : ab} {k : Nat} (h : ∀ j, j < k → eB s j = false) (h2 : eB s k = false) : ∀ j, j < k + 1 → eB s j = false := fun j hj => by
 by_cases e : j = k
 ·rw [e]; exact h2
 ·exact h j (by omega)
def cQ (c : UInt8) (s : ab) (j : Nat) : ((aa c s).getD j []).length ≤ s.length := by
 by_cases h : j < (aa c s).length
 ·rw [ow h]; exact jI (List.getElem_mem h)
 ·rw [List.getD_eq_getElem?_getD, List.getElem?_eq_none (by omega)]; simp
def dX {ws : List ab} {k : Nat} (h : k < ws.length) : ws.getD k [] = ws[k] := by rw [List.getD_eq_getElem?_getD, List.getElem?_eq_getElem h]; rfl
def Db (c : UInt8) (s : ab) : ((aa c s).map fun w => w.length + 1).sum = s.length + 1 := by
 induction s with
 | nil => rfl
 | cons b r ih =>
  unfold aa
  split
  ·simp [ih]; omega
  ·have h1 := iF c r
   cases hh : aa c r with
   | nil => exact absurd hh h1
   | cons y ys => rw [hh] at ih; simp at ih ⊢; omega
def Dc {c : UInt8} {s : ab} (h : 2 < (aa c s).length) : ((aa c s).getD 0 []).length + ((aa c s).getD 1 []).length + 2 ≤ s.length := by
 have h1 := Db c s
 rcases hw : aa c s with _ | ⟨a, _ | ⟨b, _ | ⟨d, r⟩⟩⟩ <;> rw [hw] at h h1
 ·simp at h
 ·simp at h
 ·simp at h
 ·simp at h1 ⊢; omega
def Dd (n : Nat) : ((n : Int)).tmod 2 = ((n % 2 : Nat) : Int) := by rw [Int.tmod_eq_emod_of_nonneg (by omega)]; omega
/- the updates' readings, case by case -/
noncomputable def cR (ws : List ab) : Ga :=
 if ws.getD 0 [] = ([105, 110, 115, 101, 114, 116] : ab) ∧ ws.length = 2 then ⟨1, (cI (ws.getD 1 [])).getD fe, 0, 0⟩
 else if ws.getD 0 [] = ([100, 101, 108, 101, 116, 101] : ab) ∧ ws.length = 2 then ⟨2, ⟨bm (ws.getD 1 []), []⟩, 0, 0⟩
 else if ws.getD 0 [] = ([115, 101, 116] : ab) ∧ ws.length = 4 then ⟨3, ⟨bm (ws.getD 1 []), []⟩, gt 102 (ws.getD 2 []), bm (ws.getD 3 [])⟩
 else aQ
def ox (s : ab) : eA s = cR (aa 32 s) := rfl
section
variable {ws : List ab} {s : ab}
def De (h : ws.getD 0 [] = ([105, 110, 115, 101, 114, 116] : ab) ∧ ws.length = 2) : cR ws = ⟨1, (cI (ws.getD 1 [])).getD fe, 0, 0⟩ := if_pos h
def Df (h0 : ¬ (ws.getD 0 [] = ([105, 110, 115, 101, 114, 116] : ab) ∧ ws.length = 2)) (h : ws.getD 0 [] = ([100, 101, 108, 101, 116, 101] : ab) ∧ ws.length = 2) : cR ws = ⟨2, ⟨bm (ws.getD 1 []), []⟩, 0, 0⟩ := by unfold cR; rw [if_neg h0, if_pos h]
def Dg (h0 : ¬ (ws.getD 0 [] = ([105, 110, 115, 101, 114, 116] : ab) ∧ ws.length = 2)) (h1 : ¬ (ws.getD 0 [] = ([100, 101, 108, 101, 116, 101] : ab) ∧ ws.length = 2)) (h : ws.getD 0 [] = ([115, 101, 116] : ab) ∧ ws.length = 4) : cR ws = ⟨3, ⟨bm (ws.getD 1 []), []⟩, gt 102 (ws.getD 2 []), bm (ws.getD 3 [])⟩ := by unfold cR; rw [if_neg h0, if_neg h1, if_pos h]
def Dh (h0 : ¬ (ws.getD 0 [] = ([105, 110, 115, 101, 114, 116] : ab) ∧ ws.length = 2)) (h1 : ¬ (ws.getD 0 [] = ([100, 101, 108, 101, 116, 101] : ab) ∧ ws.length = 2)) (h2 : ¬ (ws.getD 0 [] = ([115, 101, 116] : ab) ∧ ws.length = 4)) : cR ws = aQ := by unfold cR; rw [if_neg h0, if_neg h1, if_neg h2]
def Di (h : (aa 32 s).length = 2 ∧ (aa 32 s).getD 0 [] = ([105, 110, 115, 101, 114, 116] : ab)) : bO s = ⟨1, (cI ((aa 32 s).getD 1 [])).getD fe, 0, 0⟩ := if_pos h
def xR (h0 : ¬ ((aa 32 s).length = 2 ∧ (aa 32 s).getD 0 [] = ([105, 110, 115, 101, 114, 116] : ab))) (h : (aa 32 s).length = 2) : bO s = ⟨2, ⟨bi ((aa 32 s).getD 1 []), []⟩, 0, 0⟩ := by unfold bO; rw [if_neg h0, if_pos h]
def xS (h0 : ¬ ((aa 32 s).length = 2 ∧ (aa 32 s).getD 0 [] = ([105, 110, 115, 101, 114, 116] : ab))) (h1 : ¬ (aa 32 s).length = 2) (h : (aa 32 s).length = 4) : bO s = ⟨3, ⟨bi ((aa 32 s).getD 1 []), []⟩, dk 102 ((aa 32 s).getD 2 []), bi ((aa 32 s).getD 3 [])⟩ := by unfold bO; rw [if_neg h0, if_neg h1, if_pos h]
def xT (h0 : ¬ ((aa 32 s).length = 2 ∧ (aa 32 s).getD 0 [] = ([105, 110, 115, 101, 114, 116] : ab))) (h1 : ¬ (aa 32 s).length = 2) (h2 : ¬ (aa 32 s).length = 4) : bO s = aQ := by unfold bO; rw [if_neg h0, if_neg h1, if_neg h2]
def Dj (h : bw s [32] = ([97, 100, 109, 105, 116] : ab)) : aR s = ⟨1, (bG (ct (ct s [32]) [32])).getD bg, bm (bw (ct s [32]) [32]), 0, aQ, 0⟩ := if_pos h
def Dk (h0 : ¬ bw s [32] = ([97, 100, 109, 105, 116] : ab)) (h : bw s [32] = ([99, 97, 110, 99, 101, 108] : ab)) : aR s = ⟨2, bg, 0, bm (ct s [32]), aQ, 0⟩ := by unfold aR; rw [if_neg h0, if_pos h]
def Dl (h0 : ¬ bw s [32] = ([97, 100, 109, 105, 116] : ab)) (h1 : ¬ bw s [32] = ([99, 97, 110, 99, 101, 108] : ab)) (h : bw s [32] = ([115, 116, 101, 112] : ab)) : aR s = ⟨4, bg, 0, 0, aQ, bm (ct s [32])⟩ := by unfold aR; rw [if_neg h0, if_neg h1, if_pos h]
def Dm (h0 : ¬ bw s [32] = ([97, 100, 109, 105, 116] : ab)) (h1 : ¬ bw s [32] = ([99, 97, 110, 99, 101, 108] : ab)) (h2 : ¬ bw s [32] = ([115, 116, 101, 112] : ab)) : aR s = ⟨3, bg, 0, 0, (bF s).getD aQ, 0⟩ := by unfold aR; rw [if_neg h0, if_neg h1, if_neg h2]
def Dn (h : 2 < (aa 32 s).length ∧ (aa 32 s).getD 0 [] = ([97, 100, 109, 105, 116] : ab)) : aH s = ⟨1, (bG (s.drop (((aa 32 s).getD 0 []).length + ((aa 32 s).getD 1 []).length + 2))).getD bg, bi ((aa 32 s).getD 1 []), 0, aQ, 0⟩ := if_pos h
def xU (h0 : ¬ (2 < (aa 32 s).length ∧ (aa 32 s).getD 0 [] = ([97, 100, 109, 105, 116] : ab))) (h : (aa 32 s).length = 2 ∧ (aa 32 s).getD 0 [] = ([99, 97, 110, 99, 101, 108] : ab)) : aH s = ⟨2, bg, 0, bi ((aa 32 s).getD 1 []), aQ, 0⟩ := by unfold aH; rw [if_neg h0, if_pos h]
def rr (h0 : ¬ (2 < (aa 32 s).length ∧ (aa 32 s).getD 0 [] = ([97, 100, 109, 105, 116] : ab))) (h1 : ¬ ((aa 32 s).length = 2 ∧ (aa 32 s).getD 0 [] = ([99, 97, 110, 99, 101, 108] : ab))) (h : (aa 32 s).length = 2 ∧ (aa 32 s).getD 0 [] = ([115, 116, 101, 112] : ab)) : aH s = ⟨4, bg, 0, 0, aQ, bi ((aa 32 s).getD 1 [])⟩ := by unfold aH; rw [if_neg h0, if_neg h1, if_pos h]
def oy (h0 : ¬ (2 < (aa 32 s).length ∧ (aa 32 s).getD 0 [] = ([97, 100, 109, 105, 116] : ab))) (h1 : ¬ ((aa 32 s).length = 2 ∧ (aa 32 s).getD 0 [] = ([99, 97, 110, 99, 101, 108] : ab))) (h2 : ¬ ((aa 32 s).length = 2 ∧ (aa 32 s).getD 0 [] = ([115, 116, 101, 112] : ab))) : aH s = ⟨3, bg, 0, 0, (bF s).getD aQ, 0⟩ := by unfold aH; rw [if_neg h0, if_neg h1, if_neg h2]
end
def Do (x : List bh) : nR x = x.length := by
 have h : ∀ l : List bh, (l.map nQ).sum = 0 := by
  intro l
  induction l with
  | nil => rfl
  | cons a l ih => rw [List.map_cons, List.sum_cons, ih]; rfl
 simp [nR, h]
def Dp (s : ab) : nS ((aJ s).getD aZ) ≤ 20 := by
 cases h : aJ s with
 | none => decide
 | some x =>
  have h0_ := (CD h).1
  show nS x ≤ 20
  rcases rl h0_ with ⟨q, n, h1, h2, h3, rfl, e⟩ | ⟨n, h2, h3, rfl, e⟩ | ⟨u, h1, rfl, e⟩ | ⟨n, h2, h3, rfl, e⟩
  ·have h4 := jD h1
   show bf 1 + fZ q + bf n + bf 0 + eV aQ + bf 0 ≤ 20
   have h5 : eV aQ = 0 := by decide
   rw [h5]
   simp only [fZ, Do, nU, bf]; omega
  ·have h5 : eV aQ = 0 := by decide
   have h6 : fZ bg = 0 := by decide
   show bf 2 + fZ bg + bf 0 + bf n + eV aQ + bf 0 ≤ 20
   rw [h5, h6]; simp [bf]
  ·have h6 : fZ bg = 0 := by decide
   show bf 3 + fZ bg + bf 0 + bf 0 + eV u + bf 0 ≤ 20
   rw [h6]
   rcases oh h1 with ⟨r, hr1, rfl, e⟩ | ⟨n, h1, h2, rfl, e⟩ | ⟨n, f, v, ⟨h1, h2⟩, ⟨h3, h4⟩, ⟨h5, h6⟩, rfl, e⟩
   ·have := lV hr1
    simp only [eV, lO, nU, bf]; omega
   ·simp only [eV, lO, nU, bf]; simp
   ·simp only [eV, lO, nU, bf]; simp
  ·have h5 : eV aQ = 0 := by decide
   have h6 : fZ bg = 0 := by decide
   show bf 4 + fZ bg + bf 0 + bf 0 + eV aQ + bf n ≤ 20
   rw [h5, h6]; simp [bf]
end
end Go.Proofs.YtmekkgdboplbjaaGreatDoor
