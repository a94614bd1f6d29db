/- Definitions and their laws. No condition. -/
import Derived.Test.YtmekkgdboplbjaaGreatCC0
import Derived.Test.YtmekkgdboplbjaaGreatProg
set_option linter.all false
namespace Go.Proofs.YtmekkgdboplbjaaGreat
open Go Go.RowKit M Tryz
set_option maxRecDepth 10000
section
section
variable {α : Type} {P : α → Bool} {xs ys : List α} {k : Nat}
def Ak (h : (xs.take k).all P = true) (hk : k < xs.length) (hp : P xs[k] = true) : (xs.take (k + 1)).all P = true := by
 rw [cn hk, List.all_append, h]; simp [hp]
def kI (hk : k < xs.length) (hp : P xs[k] = false) : xs.all P = false := by
 rw [List.all_eq_false]; exact ⟨_, List.getElem_mem hk, by rw [hp]; simp⟩
def jm (h : (xs.take xs.length).all P = true) : xs.all P = true := by rwa [cb] at h
def pC (h : (xs.take k).any P = false) (hk : k < xs.length) (hp : P xs[k] = false) : (xs.take (k + 1)).any P = false := by
 rw [cn hk, List.any_append, h]; simp [hp]
def pD (hk : k < xs.length) (hp : P xs[k] = true) : xs.any P = true := by
 rw [List.any_eq_true]; exact ⟨_, List.getElem_mem hk, hp⟩
def IZ (h : (xs.take xs.length).any P = false) : xs.any P = false := by rwa [cb] at h
def Al (h : xs.take k = ys.take k) (hk : k < xs.length) (hk' : k < ys.length) (he : xs[k] = ys[k]) : xs.take (k + 1) = ys.take (k + 1) := by
 rw [cn hk, cn hk', h, he]
def I0 (hk : k < xs.length) (hk' : k < ys.length) (he : ¬ xs[k] = ys[k]) : ¬ xs = ys := by
 rintro rfl; exact he rfl
def NO (hl : xs.length = ys.length) (h : xs.take xs.length = ys.take xs.length) : xs = ys := by
 rw [cb] at h; rw [h, hl, cb]
def gB {f : α → Nat} (hk : k < xs.length) : ((xs.take (k + 1)).map f).sum = ((xs.take k).map f).sum + f xs[k] := by
 rw [cn hk, bN, List.sum_append]; simp
def pE {f : α → Nat} (xs : List α) (k : Nat) : ((xs.take k).map f).sum ≤ (xs.map f).sum := by
 have h : xs = xs.take k ++ xs.drop k := (eA _ _).symm
 have e : (xs.map f).sum = ((xs.take k).map f).sum + ((xs.drop k).map f).sum := by
  rw [← List.sum_append, ← bN, ← h]
 omega
def cR {f : α → Nat} (hk : k < xs.length) : f xs[k] ≤ (xs.map f).sum := by
 have h1 := gB (f := f) hk
 have h2 := pE (f := f) xs (k + 1)
 omega
noncomputable def dh (x y : α) : Bool := @decide (x = y) (Classical.propDecidable _)
def iW {x y : α} (h : x = y) : dh x y = true := @decide_eq_true _ (Classical.propDecidable _) h
def rm {x y : α} (h : ¬ x = y) : dh x y = false := @decide_eq_false _ (Classical.propDecidable _) h
def fC {x y : α} : dh x y = true ↔ x = y := @decide_eq_true_iff _ (Classical.propDecidable _)
def ix (x : α) : dh x x = true := iW rfl
end
def bL (l n : Int) : Int := if n ≤ l then l - n else -1
def ci {l n : Int} (h : n ≤ l) : bL l n = l - n := if_pos h
def iX {l n : Int} (h : l < n) : bL l n = -1 := if_neg (by omega)
def eZ {l w : Int} (_h0 : 0 ≤ l) (h : bL l w < 0) : l < w := by unfold bL at h; split at h <;> omega
def d7 {l w : Int} (h : ¬ bL l w < 0) : w ≤ l := by unfold bL at h; split at h <;> omega
def tg {us : List Value} (h : us.length = 1) : ∃ v0, us = [v0] := by
 rcases us with _ | ⟨v0, _ | ⟨v1, vs⟩⟩ <;> first | exact ⟨_, rfl⟩ | (simp at h; try omega)
def vY {us : List Value} (h : us.length = 2) : ∃ v0 v1, us = [v0, v1] := by
 rcases us with _ | ⟨v0, _ | ⟨v1, _ | ⟨v2, vs⟩⟩⟩ <;> first | exact ⟨_, _, rfl⟩ | (simp at h; try omega)
def I1 {us : List Value} (h : us.length = 4) : ∃ v0 v1 v2 v3, us = [v0, v1, v2, v3] := by
 rcases us with _ | ⟨v0, _ | ⟨v1, _ | ⟨v2, _ | ⟨v3, _ | ⟨v4, vs⟩⟩⟩⟩⟩ <;> first | exact ⟨_, _, _, _, rfl⟩ | (simp at h; try omega)
def I2 {us : List Value} (h : us.length = 5) : ∃ v0 v1 v2 v3 v4, us = [v0, v1, v2, v3, v4] := by
 rcases us with _ | ⟨v0, _ | ⟨v1, _ | ⟨v2, _ | ⟨v3, _ | ⟨v4, _ | ⟨v5, vs⟩⟩⟩⟩⟩⟩ <;> first | exact ⟨_, _, _, _, _, rfl⟩ | (simp at h; try omega)
def NP {us : List Value} (h : us.length = 7) : ∃ v0 v1 v2 v3 v4 v5 v6, us = [v0, v1, v2, v3, v4, v5, v6] := by
 rcases us with _ | ⟨v0, _ | ⟨v1, _ | ⟨v2, _ | ⟨v3, _ | ⟨v4, _ | ⟨v5, _ | ⟨v6, _ | ⟨v7, vs⟩⟩⟩⟩⟩⟩⟩⟩ <;> first | exact ⟨_, _, _, _, _, _, _, rfl⟩ | (simp at h; try omega)
def th {us : List Value} (h : us.length = 8) : ∃ v0 v1 v2 v3 v4 v5 v6 v7, us = [v0, v1, v2, v3, v4, v5, v6, v7] := by
 rcases us with _ | ⟨v0, _ | ⟨v1, _ | ⟨v2, _ | ⟨v3, _ | ⟨v4, _ | ⟨v5, _ | ⟨v6, _ | ⟨v7, _ | ⟨v8, vs⟩⟩⟩⟩⟩⟩⟩⟩⟩ <;> first | exact ⟨_, _, _, _, _, _, _, _, rfl⟩ | (simp at h; try omega)
def Am {us : List Value} (h : us.length = 10) : ∃ v0 v1 v2 v3 v4 v5 v6 v7 v8 v9, us = [v0, v1, v2, v3, v4, v5, v6, v7, v8, v9] := by
 rcases us with _ | ⟨v0, _ | ⟨v1, _ | ⟨v2, _ | ⟨v3, _ | ⟨v4, _ | ⟨v5, _ | ⟨v6, _ | ⟨v7, _ | ⟨v8, _ | ⟨v9, _ | ⟨v10, vs⟩⟩⟩⟩⟩⟩⟩⟩⟩⟩⟩ <;> first | exact ⟨_, _, _, _, _, _, _, _, _, _, rfl⟩ | (simp at h; try omega)
def I3 {us : List Value} (h : us.length = 13) : ∃ v0 v1 v2 v3 v4 v5 v6 v7 v8 v9 v10 v11 v12, us = [v0, v1, v2, v3, v4, v5, v6, v7, v8, v9, v10, v11, v12] := by
 rcases us with _ | ⟨v0, _ | ⟨v1, _ | ⟨v2, _ | ⟨v3, _ | ⟨v4, _ | ⟨v5, _ | ⟨v6, _ | ⟨v7, _ | ⟨v8, _ | ⟨v9, _ | ⟨v10, _ | ⟨v11, _ | ⟨v12, _ | ⟨v13, vs⟩⟩⟩⟩⟩⟩⟩⟩⟩⟩⟩⟩⟩⟩ <;> first | exact ⟨_, _, _, _, _, _, _, _, _, _, _, _, _, rfl⟩ | (simp at h; try omega)
def ak (x : Int) : List PV := [PV.val (vI x)]
def d8 (x : Int) : Prop := lm x
def a9 (_x : Int) : Nat := 0
def NQ (o0 : Fl) (x : List Int) : List PV := [PV.sl o0 (x.map ak)]
def mJ (x : List Int) : Prop := ∀ y ∈ x, d8 y
def b6 (x : List Int) : Nat := x.length + (x.map a9).sum
structure cS where
 Field : Int
 Low : Int
 High : Int
def bf (x : cS) : List PV := [PV.val (vI x.Field), PV.val (vI x.Low), PV.val (vI x.High)]
def I4 (x : cS) : Prop := d8 x.Field ∧ d8 x.Low ∧ d8 x.High
def lL (x : cS) : Nat := a9 x.Field + a9 x.Low + a9 x.High
def NR {x y : cS} (h0 : x.Field = y.Field) (h1 : x.Low = y.Low) (h2 : x.High = y.High) : x = y := by cases x; cases y; simp_all
structure cE where
 Segment : Int
 Base : Int
 Ids : List Int
 Wy : List Int
 Rows : List Int
def a7 (o0 o1 o2 : Fl) (x : cE) : List PV := [PV.val (vI x.Segment), PV.val (vI x.Base), PV.sl o0 (x.Ids.map ak), PV.sl o1 (x.Wy.map ak), PV.sl o2 (x.Rows.map ak)]
def I5 (x : cE) : Prop := d8 x.Segment ∧ d8 x.Base ∧ mJ x.Ids ∧ mJ x.Wy ∧ mJ x.Rows
def eG (x : cE) : Nat := a9 x.Segment + a9 x.Base + b6 x.Ids + b6 x.Wy + b6 x.Rows
def NS {x y : cE} (h0 : x.Segment = y.Segment) (h1 : x.Base = y.Base) (h2 : x.Ids = y.Ids) (h3 : x.Wy = y.Wy) (h4 : x.Rows = y.Rows) : x = y := by cases x; cases y; simp_all
structure Row where
 Id : Int
 Values : List Int
def bu (o0 : Fl) (x : Row) : List PV := [PV.val (vI x.Id), PV.sl o0 (x.Values.map ak)]
def An (x : Row) : Prop := d8 x.Id ∧ mJ x.Values
def de (x : Row) : Nat := a9 x.Id + b6 x.Values
def NT {x y : Row} (h0 : x.Id = y.Id) (h1 : x.Values = y.Values) : x = y := by cases x; cases y; simp_all
def NU (o0 : Fl) (x : List cS) : List PV := [PV.sl o0 (x.map bf)]
def I6 (x : List cS) : Prop := ∀ y ∈ x, I4 y
def iy (x : List cS) : Nat := x.length + (x.map lL).sum
structure aT where
 Id : Int
 Values : List Int
 WG : Int
 WC : Int
def cG (o0 : Fl) (x : aT) : List PV := [PV.val (vI x.Id), PV.sl o0 (x.Values.map ak), PV.val (vI x.WG), PV.val (vI x.WC)]
def I7 (x : aT) : Prop := d8 x.Id ∧ mJ x.Values ∧ d8 x.WG ∧ d8 x.WC
def bT (x : aT) : Nat := a9 x.Id + b6 x.Values + a9 x.WG + a9 x.WC
def NV {x y : aT} (h0 : x.Id = y.Id) (h1 : x.Values = y.Values) (h2 : x.WG = y.WG) (h3 : x.WC = y.WC) : x = y := by cases x; cases y; simp_all
structure Wt where
 Id : Int
 Wx : Int
 Wu : List cS
 Out : List Int
def iz (o0 o1 : Fl) (x : Wt) : List PV := [PV.val (vI x.Id), PV.val (vI x.Wx), PV.sl o0 (x.Wu.map bf), PV.sl o1 (x.Out.map ak)]
def vZ (x : Wt) : Prop := d8 x.Id ∧ d8 x.Wx ∧ I6 x.Wu ∧ mJ x.Out
def ce (x : Wt) : Nat := a9 x.Id + a9 x.Wx + iy x.Wu + b6 x.Out
def NW {x y : Wt} (h0 : x.Id = y.Id) (h1 : x.Wx = y.Wx) (h2 : x.Wu = y.Wu) (h3 : x.Out = y.Out) : x = y := by cases x; cases y; simp_all
def aD (o0 o1 : Fl) (x : List aT) : List PV := [PV.sl o0 (x.map (cG o1))]
def I8 (x : List aT) : Prop := ∀ y ∈ x, I7 y
def bU (x : List aT) : Nat := x.length + (x.map bT).sum
def NX (o0 o1 : Fl) (x : List Row) : List PV := [PV.sl o0 (x.map (bu o1))]
def Ao (x : List Row) : Prop := ∀ y ∈ x, An y
def dl (x : List Row) : Nat := x.length + (x.map de).sum
def NY (o0 o1 o2 o3 : Fl) (x : List cE) : List PV := [PV.sl o0 (x.map (a7 o1 o2 o3))]
def I9 (x : List cE) : Prop := ∀ y ∈ x, I5 y
def dJ (x : List cE) : Nat := x.length + (x.map eG).sum
structure Wv where
 Kind : Int
 Row : Row
 Field : Int
 Value : Int
def Ap (o0 : Fl) (x : Wv) : List PV := [PV.val (vI x.Kind), PV.val (vI x.Row.Id), PV.sl o0 (x.Row.Values.map ak), PV.val (vI x.Field), PV.val (vI x.Value)]
def Ja (x : Wv) : Prop := d8 x.Kind ∧ An x.Row ∧ d8 x.Field ∧ d8 x.Value
def gC (x : Wv) : Nat := a9 x.Kind + de x.Row + a9 x.Field + a9 x.Value
def NZ {x y : Wv} (h0 : x.Kind = y.Kind) (h1 : x.Row = y.Row) (h2 : x.Field = y.Field) (h3 : x.Value = y.Value) : x = y := by cases x; cases y; simp_all
structure cu where
 Wt : Wt
 Time : Int
 Steps : Int
 Rows : List Row
def aZ (o0 o1 o2 o3 : Fl) (x : cu) : List PV := [PV.val (vI x.Wt.Id), PV.val (vI x.Wt.Wx), PV.sl o0 (x.Wt.Wu.map bf), PV.sl o1 (x.Wt.Out.map ak), PV.val (vI x.Time), PV.val (vI x.Steps), PV.sl o2 (x.Rows.map (bu o3))]
def Jb (x : cu) : Prop := vZ x.Wt ∧ d8 x.Time ∧ d8 x.Steps ∧ Ao x.Rows
def d9 (x : cu) : Nat := ce x.Wt + a9 x.Time + a9 x.Steps + dl x.Rows
def N0 {x y : cu} (h0 : x.Wt = y.Wt) (h1 : x.Time = y.Time) (h2 : x.Steps = y.Steps) (h3 : x.Rows = y.Rows) : x = y := by cases x; cases y; simp_all
def N1 (o0 o1 o2 : Fl) (x : List (List aT)) : List PV := [PV.sl o0 (x.map (aD o1 o2))]
def Jc (x : List (List aT)) : Prop := ∀ y ∈ x, I8 y
def eh (x : List (List aT)) : Nat := x.length + (x.map bU).sum
structure eH where
 Kind : Int
 Wt : Wt
 Limit : Int
 Id : Int
 Wv : Wv
 Steps : Int
def Aq (o0 o1 o2 : Fl) (x : eH) : List PV := [PV.val (vI x.Kind), PV.val (vI x.Wt.Id), PV.val (vI x.Wt.Wx), PV.sl o0 (x.Wt.Wu.map bf), PV.sl o1 (x.Wt.Out.map ak), PV.val (vI x.Limit), PV.val (vI x.Id), PV.val (vI x.Wv.Kind), PV.val (vI x.Wv.Row.Id), PV.sl o2 (x.Wv.Row.Values.map ak), PV.val (vI x.Wv.Field), PV.val (vI x.Wv.Value), PV.val (vI x.Steps)]
def N2 (x : eH) : Prop := d8 x.Kind ∧ vZ x.Wt ∧ d8 x.Limit ∧ d8 x.Id ∧ Ja x.Wv ∧ d8 x.Steps
def jO (x : eH) : Nat := a9 x.Kind + ce x.Wt + a9 x.Limit + a9 x.Id + gC x.Wv + a9 x.Steps
def N3 {x y : eH} (h0 : x.Kind = y.Kind) (h1 : x.Wt = y.Wt) (h2 : x.Limit = y.Limit) (h3 : x.Id = y.Id) (h4 : x.Wv = y.Wv) (h5 : x.Steps = y.Steps) : x = y := by cases x; cases y; simp_all
structure Ws where
 Wt : Wt
 Time : Int
 WB : List Int
 Age : Int
 Sent : Int
 Cap : Int
 Rows : List Row
def aO (o0 o1 o2 o3 o4 : Fl) (x : Ws) : List PV := [PV.val (vI x.Wt.Id), PV.val (vI x.Wt.Wx), PV.sl o0 (x.Wt.Wu.map bf), PV.sl o1 (x.Wt.Out.map ak), PV.val (vI x.Time), PV.sl o2 (x.WB.map ak), PV.val (vI x.Age), PV.val (vI x.Sent), PV.val (vI x.Cap), PV.sl o3 (x.Rows.map (bu o4))]
def Jd (x : Ws) : Prop := vZ x.Wt ∧ d8 x.Time ∧ mJ x.WB ∧ d8 x.Age ∧ d8 x.Sent ∧ d8 x.Cap ∧ Ao x.Rows
def bW (x : Ws) : Nat := ce x.Wt + a9 x.Time + b6 x.WB + a9 x.Age + a9 x.Sent + a9 x.Cap + dl x.Rows
def N4 {x y : Ws} (h0 : x.Wt = y.Wt) (h1 : x.Time = y.Time) (h2 : x.WB = y.WB) (h3 : x.Age = y.Age) (h4 : x.Sent = y.Sent) (h5 : x.Cap = y.Cap) (h6 : x.Rows = y.Rows) : x = y := by cases x; cases y; simp_all
def N5 (o0 o1 o2 o3 o4 o5 : Fl) (x : List Ws) : List PV := [PV.sl o0 (x.map (aO o1 o2 o3 o4 o5))]
def Je (x : List Ws) : Prop := ∀ y ∈ x, Jd y
def c6 (x : List Ws) : Nat := x.length + (x.map bW).sum
structure Store where
 Wr : List (List aT)
 Now : Int
def Ar (o0 o1 o2 : Fl) (x : Store) : List PV := [PV.sl o0 (x.Wr.map (aD o1 o2)), PV.val (vI x.Now)]
def Jf (x : Store) : Prop := Jc x.Wr ∧ d8 x.Now
def b4 (x : Store) : Nat := eh x.Wr + a9 x.Now
def N6 {x y : Store} (h0 : x.Wr = y.Wr) (h1 : x.Now = y.Now) : x = y := by cases x; cases y; simp_all
def N7 (o0 o1 o2 o3 o4 : Fl) (x : List cu) : List PV := [PV.sl o0 (x.map (aZ o1 o2 o3 o4))]
def Jg (x : List cu) : Prop := ∀ y ∈ x, Jb y
def dK (x : List cu) : Nat := x.length + (x.map d9).sum
structure aL where
 Store : Store
 Ww : Int
 Order : List Int
 Ws : List Ws
 Done : List cu
 WE : List cE
 Steps : Int
def As (o0 o1 o2 o3 o4 o5 o6 o7 o8 o9 o10 o11 o12 o13 o14 o15 o16 o17 o18 : Fl) (x : aL) : List PV := [PV.sl o0 (x.Store.Wr.map (aD o1 o2)), PV.val (vI x.Store.Now), PV.val (vI x.Ww), PV.sl o3 (x.Order.map ak), PV.sl o4 (x.Ws.map (aO o5 o6 o7 o8 o9)), PV.sl o10 (x.Done.map (aZ o11 o12 o13 o14)), PV.sl o15 (x.WE.map (a7 o16 o17 o18)), PV.val (vI x.Steps)]
def N8 (x : aL) : Prop := Jf x.Store ∧ d8 x.Ww ∧ mJ x.Order ∧ Je x.Ws ∧ Jg x.Done ∧ I9 x.WE ∧ d8 x.Steps
def bp (x : aL) : Nat := b4 x.Store + a9 x.Ww + b6 x.Order + c6 x.Ws + dK x.Done + dJ x.WE + a9 x.Steps
def N9 {x y : aL} (h0 : x.Store = y.Store) (h1 : x.Ww = y.Ww) (h2 : x.Order = y.Order) (h3 : x.Ws = y.Ws) (h4 : x.Done = y.Done) (h5 : x.WE = y.WE) (h6 : x.Steps = y.Steps) : x = y := by cases x; cases y; simp_all
def wa (x : List Wt) : Nat := x.length + (x.map ce).sum
structure dW where
 From : Int
 To : Int
 Set : List Int
def oi (o0 : Fl) (x : dW) : List PV := [PV.val (vI x.From), PV.val (vI x.To), PV.sl o0 (x.Set.map ak)]
def At (o0 o1 : Fl) (x : List dW) : List PV := [PV.sl o0 (x.map (oi o1))]
structure iY where
 Queries : List Wt
 Fields : List (List dW)
def Au (o0 o1 o2 o3 o4 o5 : Fl) (x : iY) : List PV := [PV.sl o0 (x.Queries.map (iz o1 o2)), PV.sl o3 (x.Fields.map (At o4 o5))]
def aQ (x : Int) (k : Int) : Int × Int := (k, (k + 1))
def cT (x : Int) (k : Int) : k ≤ (aQ x k).2 := by
 show k ≤ (k + 1)
 omega
def bw (x : cS) (k : Int) : cS × Int := (⟨k, (k + 1), ((k + 1) + 1)⟩, (((k + 1) + 1) + 1))
def jP (x : cS) (k : Int) : k ≤ (bw x k).2 := by
 show k ≤ (((k + 1) + 1) + 1)
 omega
def pF (x : Row) (k : Int) : Row × Int := (⟨x.Id, (aj aQ x.Values k).1⟩, (aj aQ x.Values k).2)
def eI (x : cE) (k : Int) : cE × Int := (⟨k, (k + 1), (aj aQ x.Ids ((k + 1) + 1)).1, (aj aQ x.Wy (aj aQ x.Ids ((k + 1) + 1)).2).1, (aj aQ x.Rows (aj aQ x.Wy (aj aQ x.Ids ((k + 1) + 1)).2).2).1⟩, (aj aQ x.Rows (aj aQ x.Wy (aj aQ x.Ids ((k + 1) + 1)).2).2).2)
def pG (x : cE) (k : Int) : k ≤ (eI x k).2 := by
 show k ≤ (aj aQ x.Rows (aj aQ x.Wy (aj aQ x.Ids ((k + 1) + 1)).2).2).2
 have h0 := bm cT x.Ids ((k + 1) + 1)
 have h1 := bm cT x.Wy (aj aQ x.Ids ((k + 1) + 1)).2
 have h2 := bm cT x.Rows (aj aQ x.Wy (aj aQ x.Ids ((k + 1) + 1)).2).2
 omega
def mK (x : Wt) (k : Int) : Wt × Int := (⟨x.Id, x.Wx, (aj bw x.Wu k).1, (aj aQ x.Out (aj bw x.Wu k).2).1⟩, (aj aQ x.Out (aj bw x.Wu k).2).2)
def mL (x : Wv) (k : Int) : Wv × Int := (⟨x.Kind, ⟨x.Row.Id, (aj aQ x.Row.Values k).1⟩, x.Field, x.Value⟩, (aj aQ x.Row.Values k).2)
def eJ (x : Row) (k : Int) : Row × Int := (⟨k, (aj aQ x.Values (k + 1)).1⟩, (aj aQ x.Values (k + 1)).2)
def lM (x : Row) (k : Int) : k ≤ (eJ x k).2 := by
 show k ≤ (aj aQ x.Values (k + 1)).2
 have h0 := bm cT x.Values (k + 1)
 omega
def fD (x : aT) (k : Int) : aT × Int := (⟨k, (aj aQ x.Values (k + 1)).1, (aj aQ x.Values (k + 1)).2, ((aj aQ x.Values (k + 1)).2 + 1)⟩, (((aj aQ x.Values (k + 1)).2 + 1) + 1))
def pH (x : aT) (k : Int) : k ≤ (fD x k).2 := by
 show k ≤ (((aj aQ x.Values (k + 1)).2 + 1) + 1)
 have h0 := bm cT x.Values (k + 1)
 omega
def rn (x : eH) (k : Int) : eH × Int := (⟨x.Kind, ⟨x.Wt.Id, x.Wt.Wx, (aj bw x.Wt.Wu k).1, (aj aQ x.Wt.Out (aj bw x.Wt.Wu k).2).1⟩, x.Limit, x.Id, ⟨x.Wv.Kind, ⟨x.Wv.Row.Id, (aj aQ x.Wv.Row.Values (aj aQ x.Wt.Out (aj bw x.Wt.Wu k).2).2).1⟩, x.Wv.Field, x.Wv.Value⟩, x.Steps⟩, (aj aQ x.Wv.Row.Values (aj aQ x.Wt.Out (aj bw x.Wt.Wu k).2).2).2)
def Oa (x : eH) (k : Int) : k ≤ (rn x k).2 := by
 show k ≤ (aj aQ x.Wv.Row.Values (aj aQ x.Wt.Out (aj bw x.Wt.Wu k).2).2).2
 have h0 := bm jP x.Wt.Wu k
 have h1 := bm cT x.Wt.Out (aj bw x.Wt.Wu k).2
 have h2 := bm cT x.Wv.Row.Values (aj aQ x.Wt.Out (aj bw x.Wt.Wu k).2).2
 omega
def cj (x : List aT) (k : Int) : (List aT) × Int := ((aj fD x k).1, (aj fD x k).2)
def mM (x : List aT) (k : Int) : k ≤ (cj x k).2 := by
 show k ≤ (aj fD x k).2
 have h0 := bm pH x k
 omega
def fE (x : Store) (k : Int) : Store × Int := (⟨(aj cj x.Wr k).1, x.Now⟩, (aj cj x.Wr k).2)
def cU (x : Ws) (k : Int) : Ws × Int := (⟨⟨k, (k + 1), (aj bw x.Wt.Wu ((k + 1) + 1)).1, (aj aQ x.Wt.Out (aj bw x.Wt.Wu ((k + 1) + 1)).2).1⟩, (aj aQ x.Wt.Out (aj bw x.Wt.Wu ((k + 1) + 1)).2).2, (aj aQ x.WB ((aj aQ x.Wt.Out (aj bw x.Wt.Wu ((k + 1) + 1)).2).2 + 1)).1, (aj aQ x.WB ((aj aQ x.Wt.Out (aj bw x.Wt.Wu ((k + 1) + 1)).2).2 + 1)).2, ((aj aQ x.WB ((aj aQ x.Wt.Out (aj bw x.Wt.Wu ((k + 1) + 1)).2).2 + 1)).2 + 1), (((aj aQ x.WB ((aj aQ x.Wt.Out (aj bw x.Wt.Wu ((k + 1) + 1)).2).2 + 1)).2 + 1) + 1), (aj eJ x.Rows ((((aj aQ x.WB ((aj aQ x.Wt.Out (aj bw x.Wt.Wu ((k + 1) + 1)).2).2 + 1)).2 + 1) + 1) + 1)).1⟩, (aj eJ x.Rows ((((aj aQ x.WB ((aj aQ x.Wt.Out (aj bw x.Wt.Wu ((k + 1) + 1)).2).2 + 1)).2 + 1) + 1) + 1)).2)
def pI (x : Ws) (k : Int) : k ≤ (cU x k).2 := by
 show k ≤ (aj eJ x.Rows ((((aj aQ x.WB ((aj aQ x.Wt.Out (aj bw x.Wt.Wu ((k + 1) + 1)).2).2 + 1)).2 + 1) + 1) + 1)).2
 have h0 := bm jP x.Wt.Wu ((k + 1) + 1)
 have h1 := bm cT x.Wt.Out (aj bw x.Wt.Wu ((k + 1) + 1)).2
 have h2 := bm cT x.WB ((aj aQ x.Wt.Out (aj bw x.Wt.Wu ((k + 1) + 1)).2).2 + 1)
 have h3 := bm lM x.Rows ((((aj aQ x.WB ((aj aQ x.Wt.Out (aj bw x.Wt.Wu ((k + 1) + 1)).2).2 + 1)).2 + 1) + 1) + 1)
 omega
def dL (x : cu) (k : Int) : cu × Int := (⟨⟨k, (k + 1), (aj bw x.Wt.Wu ((k + 1) + 1)).1, (aj aQ x.Wt.Out (aj bw x.Wt.Wu ((k + 1) + 1)).2).1⟩, (aj aQ x.Wt.Out (aj bw x.Wt.Wu ((k + 1) + 1)).2).2, ((aj aQ x.Wt.Out (aj bw x.Wt.Wu ((k + 1) + 1)).2).2 + 1), (aj eJ x.Rows (((aj aQ x.Wt.Out (aj bw x.Wt.Wu ((k + 1) + 1)).2).2 + 1) + 1)).1⟩, (aj eJ x.Rows (((aj aQ x.Wt.Out (aj bw x.Wt.Wu ((k + 1) + 1)).2).2 + 1) + 1)).2)
def pJ (x : cu) (k : Int) : k ≤ (dL x k).2 := by
 show k ≤ (aj eJ x.Rows (((aj aQ x.Wt.Out (aj bw x.Wt.Wu ((k + 1) + 1)).2).2 + 1) + 1)).2
 have h0 := bm jP x.Wt.Wu ((k + 1) + 1)
 have h1 := bm cT x.Wt.Out (aj bw x.Wt.Wu ((k + 1) + 1)).2
 have h2 := bm lM x.Rows (((aj aQ x.Wt.Out (aj bw x.Wt.Wu ((k + 1) + 1)).2).2 + 1) + 1)
 omega
def gm (x : aL) (k : Int) : aL × Int := (⟨⟨(aj cj x.Store.Wr k).1, x.Store.Now⟩, x.Ww, (aj aQ x.Order (aj cj x.Store.Wr k).2).1, (aj cU x.Ws (aj aQ x.Order (aj cj x.Store.Wr k).2).2).1, (aj dL x.Done (aj cU x.Ws (aj aQ x.Order (aj cj x.Store.Wr k).2).2).2).1, (aj eI x.WE (aj dL x.Done (aj cU x.Ws (aj aQ x.Order (aj cj x.Store.Wr k).2).2).2).2).1, x.Steps⟩, (aj eI x.WE (aj dL x.Done (aj cU x.Ws (aj aQ x.Order (aj cj x.Store.Wr k).2).2).2).2).2)
def Jh (x : aL) (k : Int) : k ≤ (gm x k).2 := by
 show k ≤ (aj eI x.WE (aj dL x.Done (aj cU x.Ws (aj aQ x.Order (aj cj x.Store.Wr k).2).2).2).2).2
 have h0 := bm mM x.Store.Wr k
 have h1 := bm cT x.Order (aj cj x.Store.Wr k).2
 have h2 := bm pI x.Ws (aj aQ x.Order (aj cj x.Store.Wr k).2).2
 have h3 := bm pJ x.Done (aj cU x.Ws (aj aQ x.Order (aj cj x.Store.Wr k).2).2).2
 have h4 := bm pG x.WE (aj dL x.Done (aj cU x.Ws (aj aQ x.Order (aj cj x.Store.Wr k).2).2).2).2
 omega
def Ob (x : Int) (k : Int) : (aQ x k).2 ≤ k + 1 + 0 * (a9 x : Int) := by simp [aQ]
def kJ (x : List Int) (k : Int) : (aj aQ x k).2 ≤ k + 1 * (b6 x : Int) := mf (s := 1) (c := 0) Ob (by decide) (by decide) x k
def Oc (x : cS) (k : Int) : (bw x k).2 ≤ k + 3 + 0 * (lL x : Int) := by
 show (((k + 1) + 1) + 1) ≤ _
 simp only [lL, a9, Int.natCast_add, Int.natCast_zero]
 omega
def Av (x : List cS) (k : Int) : (aj bw x k).2 ≤ k + 3 * (iy x : Int) := mf (s := 3) (c := 0) Oc (by decide) (by decide) x k
def Od (x : Row) (k : Int) : (eJ x k).2 ≤ k + 1 + 1 * (de x : Int) := by
 show (aj aQ x.Values (k + 1)).2 ≤ _
 have h0 := kJ x.Values (k + 1)
 simp only [a9, de, Int.natCast_add, Int.natCast_zero]
 omega
def Oe (x : cE) (k : Int) : (eI x k).2 ≤ k + 2 + 1 * (eG x : Int) := by
 show (aj aQ x.Rows (aj aQ x.Wy (aj aQ x.Ids ((k + 1) + 1)).2).2).2 ≤ _
 have h0 := kJ x.Ids ((k + 1) + 1)
 have h1 := kJ x.Wy (aj aQ x.Ids ((k + 1) + 1)).2
 have h2 := kJ x.Rows (aj aQ x.Wy (aj aQ x.Ids ((k + 1) + 1)).2).2
 simp only [eG, a9, Int.natCast_add, Int.natCast_zero]
 omega
def Of (x : List cE) (k : Int) : (aj eI x k).2 ≤ k + 2 * (dJ x : Int) := mf (s := 2) (c := 1) Oe (by decide) (by decide) x k
def Ji (x : List Row) (k : Int) : (aj eJ x k).2 ≤ k + 1 * (dl x : Int) := mf (s := 1) (c := 1) Od (by decide) (by decide) x k
def Og (x : aT) (k : Int) : (fD x k).2 ≤ k + 3 + 1 * (bT x : Int) := by
 show (((aj aQ x.Values (k + 1)).2 + 1) + 1) ≤ _
 have h0 := kJ x.Values (k + 1)
 simp only [a9, bT, Int.natCast_add, Int.natCast_zero]
 omega
def Oh (x : List aT) (k : Int) : (aj fD x k).2 ≤ k + 3 * (bU x : Int) := mf (s := 3) (c := 1) Og (by decide) (by decide) x k
def Oi (x : eH) (k : Int) : (rn x k).2 ≤ k + 0 + 3 * (jO x : Int) := by
 show (aj aQ x.Wv.Row.Values (aj aQ x.Wt.Out (aj bw x.Wt.Wu k).2).2).2 ≤ _
 have h0 := Av x.Wt.Wu k
 have h1 := kJ x.Wt.Out (aj bw x.Wt.Wu k).2
 have h2 := kJ x.Wv.Row.Values (aj aQ x.Wt.Out (aj bw x.Wt.Wu k).2).2
 simp only [jO, a9, ce, de, gC, Int.natCast_add, Int.natCast_zero]
 omega
def Oj (x : List aT) (k : Int) : (cj x k).2 ≤ k + 0 + 3 * (bU x : Int) := by
 have h := Oh x k
 show (aj fD x k).2 ≤ _
 omega
def Ok (x : List (List aT)) (k : Int) : (aj cj x k).2 ≤ k + 3 * (eh x : Int) := mf (s := 0) (c := 3) Oj (by decide) (by decide) x k
def Ol (x : Ws) (k : Int) : (cU x k).2 ≤ k + 6 + 3 * (bW x : Int) := by
 show (aj eJ x.Rows ((((aj aQ x.WB ((aj aQ x.Wt.Out (aj bw x.Wt.Wu ((k + 1) + 1)).2).2 + 1)).2 + 1) + 1) + 1)).2 ≤ _
 have h0 := Av x.Wt.Wu ((k + 1) + 1)
 have h1 := kJ x.Wt.Out (aj bw x.Wt.Wu ((k + 1) + 1)).2
 have h2 := kJ x.WB ((aj aQ x.Wt.Out (aj bw x.Wt.Wu ((k + 1) + 1)).2).2 + 1)
 have h3 := Ji x.Rows ((((aj aQ x.WB ((aj aQ x.Wt.Out (aj bw x.Wt.Wu ((k + 1) + 1)).2).2 + 1)).2 + 1) + 1) + 1)
 simp only [bW, a9, ce, Int.natCast_add, Int.natCast_zero]
 omega
def Om (x : List Ws) (k : Int) : (aj cU x k).2 ≤ k + 6 * (c6 x : Int) := mf (s := 6) (c := 3) Ol (by decide) (by decide) x k
def On (x : cu) (k : Int) : (dL x k).2 ≤ k + 4 + 3 * (d9 x : Int) := by
 show (aj eJ x.Rows (((aj aQ x.Wt.Out (aj bw x.Wt.Wu ((k + 1) + 1)).2).2 + 1) + 1)).2 ≤ _
 have h0 := Av x.Wt.Wu ((k + 1) + 1)
 have h1 := kJ x.Wt.Out (aj bw x.Wt.Wu ((k + 1) + 1)).2
 have h2 := Ji x.Rows (((aj aQ x.Wt.Out (aj bw x.Wt.Wu ((k + 1) + 1)).2).2 + 1) + 1)
 simp only [d9, a9, ce, Int.natCast_add, Int.natCast_zero]
 omega
def Oo (x : List cu) (k : Int) : (aj dL x k).2 ≤ k + 4 * (dK x : Int) := mf (s := 4) (c := 3) On (by decide) (by decide) x k
def Jj (x : aL) (k : Int) : (gm x k).2 ≤ k + 0 + 6 * (bp x : Int) := by
 show (aj eI x.WE (aj dL x.Done (aj cU x.Ws (aj aQ x.Order (aj cj x.Store.Wr k).2).2).2).2).2 ≤ _
 have h0 := Ok x.Store.Wr k
 have h1 := kJ x.Order (aj cj x.Store.Wr k).2
 have h2 := Om x.Ws (aj aQ x.Order (aj cj x.Store.Wr k).2).2
 have h3 := Oo x.Done (aj cU x.Ws (aj aQ x.Order (aj cj x.Store.Wr k).2).2).2
 have h4 := Of x.WE (aj dL x.Done (aj cU x.Ws (aj aQ x.Order (aj cj x.Store.Wr k).2).2).2).2
 simp only [bp, a9, b4, Int.natCast_add, Int.natCast_zero]
 omega
def ti {α : Type} {xs : List α} {k : Nat} (hk : k < xs.length) : xs.take (k + 1) = xs.take k ++ [xs[k]] := cn hk
def ic {α : Type} {l : List α} {d : α} {i : Nat} (h : i < l.length) : l[i] = l.getD i d := by simp [h]
def wc {α β : Type} {l : List α} {f : α → β} {k : Nat} (h : k < l.length) : (l.take (k + 1)).map f = (l.take k).map f ++ [f l[k]] := by
 rw [cn h, bN]; rfl
def Jk {a b : Int} : (a == b) = decide (a = b) := rfl
def dM (x : List Int) : b6 x = x.length := by
 have h : ∀ l : List Int, (l.map a9).sum = 0 := by
  intro l
  induction l with
  | nil => rfl
  | cons a l ih => rw [List.map_cons, List.sum_cons, ih]; rfl
 simp [b6, h]
def b8 (xs : List Int) (x : Int) : Bool := xs.any (fun y => y == x)
def aV (n l h : Int) : Bool := decide (l ≤ n) && decide (n ≤ h)
def jn (v : Int) : Bool := aV v 0 99
def dt (r : Row) : Bool := r.Values.all jn && (aV r.Id 0 999 && decide ((r.Values.length : Int) = 3))
def oj (l : List Row) : Bool := l.all dt && decide ((l.length : Int) ≤ 1000)
def Oq {x y : Row} : x = y ↔ x.Id = y.Id ∧ x.Values = y.Values := by cases x; cases y; simp_all
def du (l : List Int) : Bool := (List.range l.length).all fun i => aV (l.getD i 0) 0 23 && (i == 0 || decide (l.getD (i - 1) 0 < l.getD i 0))
def tj (l : List Int) (k : Nat) : Bool := (List.range k).all fun i => aV (l.getD i 0) 0 23 && (i == 0 || decide (l.getD (i - 1) 0 < l.getD i 0))
def Ot {l : List Int} {k : Nat} : tj l (k + 1) = (tj l k && (aV (l.getD k 0) 0 23 && (k == 0 || decide (l.getD (k - 1) 0 < l.getD k 0)))) := by
 simp [tj, List.range_succ]
def Ou {l : List Int} {k : Nat} (hk : k < l.length) (h : (aV (l.getD k 0) 0 23 && (k == 0 || decide (l.getD (k - 1) 0 < l.getD k 0))) = false) : du l = false := by
 cases hs : du l with
 | false => rfl
 | true =>
  have := List.all_eq_true.1 hs k (List.mem_range.2 hk)
  rw [h] at this; cases this
def wd {l : List Int} {k : Nat} : (aV (l.getD k 0) 0 23 && (k == 0 || decide (l.getD (k - 1) 0 < l.getD k 0))) = true ↔ (0 ≤ l.getD k 0 ∧ l.getD k 0 ≤ 23 ∧ (k = 0 ∨ l.getD (k - 1) 0 < l.getD k 0)) := by
 simp [aV, and_assoc]
def kK (q : Int → Bool) (k : Nat) : List Int := ((List.range k).map fun i : Nat => (i : Int)).filter q
def Ov {q : Int → Bool} {k : Nat} : kK q (k + 1) = kK q k ++ if q k then [(k : Int)] else [] := by
 simp only [kK, List.range_succ, bN, eU, List.map_cons, List.map_nil, List.filter_cons, List.filter_nil]
def Jl (q : Int → Bool) (k : Nat) : (kK q k).length ≤ k := by
 have := iJ q ((List.range k).map fun i : Nat => (i : Int))
 simpa [kK] using this
def mN (a b : List Int) : List Int := if du a && du b then kK (fun x => b8 a x && b8 b x) 24 else []
def Aw {l : List Int} {x : Int} : b8 l x = true ↔ x ∈ l := by simp [b8]
def Ax {l : List Int} (h : du l = true) {k : Nat} (hk : k < l.length) : 0 ≤ l[k] ∧ l[k] ≤ 23 ∧ (k = 0 ∨ l.getD (k - 1) 0 < l[k]) := by
 have := wd.1 (List.all_eq_true.1 h k (List.mem_range.2 hk))
 rwa [show l.getD k 0 = l[k] by simp [hk]] at this
def Jm {l : List Int} (h : du l = true) : ∀ (j i : Nat) (hj : j < l.length) (hi : i < j), l[i] < l[j]
 | 0, i, _, hi => by omega
 | j + 1, i, hj, hi => by
  have h1 := (Ax h hj).2.2
  have e : l.getD (j + 1 - 1) 0 = l[j] := by simp [show j < l.length by omega]
  rw [e] at h1
  rcases Nat.lt_or_ge i j with h2 | h2
  ·have := Jm h j i (by omega) h2
   omega
  ·have : i = j := by omega
   subst this
   omega
def Ow {l : List Int} (h : du l = true) : l.Pairwise (· < ·) := by
 rw [List.pairwise_iff_getElem]
 intro i j hi hj hij
 exact Jm h j i hj hij
def Jn {m : Int} : ∀ {l : List Int}, l.Pairwise (· < ·) → l.filter (fun x => decide (x < m + 1)) = l.filter (fun x => decide (x < m)) ++ (if b8 l m then [m] else [])
 | [], _ => by simp [b8]
 | x :: l, h => by
  rw [List.pairwise_cons] at h
  have ih := Jn (m := m) h.2
  have hhx : b8 (x :: l) m = (x == m || b8 l m) := by simp [b8]
  by_cases h1 : x < m
  ·have e1 : decide (x < m + 1) = true := by simp; omega
   have e2 : decide (x < m) = true := by simpa using h1
   rw [List.filter_cons, List.filter_cons, if_pos e1, if_pos e2, ih, hhx, show (x == m) = false by simp; omega, Bool.false_or]
   rfl
  ·have hl : l.filter (fun x => decide (x < m)) = [] := by
    rw [List.filter_eq_nil_iff]; intro y hy; have := h.1 y hy; simp; omega
   have hl1 : l.filter (fun x => decide (x < m + 1)) = [] := by
    rw [List.filter_eq_nil_iff]; intro y hy; have := h.1 y hy; simp; omega
   have hm : b8 l m = false := by
    cases hc : b8 l m with
    | false => rfl
    | true => have := h.1 m (Aw.1 hc); omega
   have e2 : ¬ decide (x < m) = true := by simpa using h1
   by_cases h2 : x = m
   ·have e1 : decide (x < m + 1) = true := by simp; omega
    rw [List.filter_cons, List.filter_cons, if_pos e1, if_neg e2, hl, hl1, hhx, hm, show (x == m) = true by simpa using h2]
    simp [h2]
   ·have e1 : ¬ decide (x < m + 1) = true := by simp; omega
    rw [List.filter_cons, List.filter_cons, if_neg e1, if_neg e2, hl, hl1, hhx, hm, show (x == m) = false by simpa using h2]
    simp
def Jo {l : List Int} (h : du l = true) : ∀ m : Nat, kK (fun x => b8 l x) m = l.filter (fun x => decide (x < (m : Int)))
 | 0 => by
  rw [show kK (fun x => b8 l x) 0 = [] from rfl, eq_comm, List.filter_eq_nil_iff]
  intro y hy
  obtain ⟨k, hk, rfl⟩ := List.mem_iff_getElem.1 hy
  have := (Ax h hk).1
  simp; omega
 | m + 1 => by
  rw [Ov, Jo h m]
  have := Jn (m := (m : Int)) (Ow h)
  rw [show ((m + 1 : Nat) : Int) = (m : Int) + 1 by omega, this]
def Jp {l : List Int} (h : du l = true) : kK (fun x => b8 l x) 24 = l := by
 rw [Jo h, List.filter_eq_self]
 intro y hy
 obtain ⟨k, hk, rfl⟩ := List.mem_iff_getElem.1 hy
 have := (Ax h hk).2.1
 simp; omega
def Ox {l : List Int} (h : du l = true) : l.length ≤ 24 := by
 have := Jl (fun x => b8 l x) 24
 rwa [Jp h] at this
def Ay {a b : List Int} (h : du a = true) : a.filter (fun x => b8 b x) = kK (fun x => b8 a x && b8 b x) 24 := by
 conv => lhs; rw [← Jp h]
 simp only [kK, List.filter_filter]
 congr 1
 funext x
 exact Bool.and_comm _ _
def Oy {a b : List Int} {k : Nat} (hk : 0 < k → (du a && du b) = true) (h : (k = a.length ∧ (du a && du b) = true) ∨ (k = 0 ∧ (a.length = 0 ∨ (du a && du b) = false))) : (a.take k).filter (fun x => b8 b x) = mN a b := by
 unfold mN
 rcases h with ⟨rfl, h⟩ | ⟨rfl, h⟩
 ·rw [cb, if_pos h]
  rw [bn] at h
  exact Ay h.1
 ·split
  ·rename_i h2
   rcases h with h | h
   ·have : a = [] := gO h
    subst this
    rw [bn] at h2
    rw [← Ay h2.1]; simp
   ·rw [h] at h2; cases h2
  ·simp
def Oz (a b : List Int) : (mN a b).length ≤ 24 := by
 unfold mN
 split
 ·exact Jl _ _
 ·simp
def jQ {α : Type} (d : α) (p : α → Bool) (r : α → α → Bool) (l : List α) (k : Nat) : Bool := (List.range k).all fun i => p (l.getD i d) && (i == 0 || r (l.getD (i - 1) d) (l.getD i d))
def ew {α : Type} (d : α) (p : α → Bool) (r : α → α → Bool) (l : List α) : Bool := jQ d p r l l.length
def we {α : Type} {d : α} {p : α → Bool} {r : α → α → Bool} {l : List α} {k : Nat} : jQ d p r l (k + 1) = (jQ d p r l k && (p (l.getD k d) && (k == 0 || r (l.getD (k - 1) d) (l.getD k d)))) := by
 simp [jQ, List.range_succ]
def kL {α : Type} {d : α} {p : α → Bool} {r : α → α → Bool} {l : List α} {k : Nat} : (p (l.getD k d) && (k == 0 || r (l.getD (k - 1) d) (l.getD k d))) = true ↔ (p (l.getD k d) = true ∧ (k = 0 ∨ r (l.getD (k - 1) d) (l.getD k d) = true)) := by
 simp
def pK {α : Type} {d : α} {p : α → Bool} {r : α → α → Bool} {l : List α} {k : Nat} (hk : k < l.length) (h : (p (l.getD k d) && (k == 0 || r (l.getD (k - 1) d) (l.getD k d))) = false) : ew d p r l = false := by
 cases hs : ew d p r l with
 | false => rfl
 | true =>
  have := List.all_eq_true.1 hs k (List.mem_range.2 hk)
  rw [h] at this; cases this
def pL {α : Type} {d : α} {p : α → Bool} {r : α → α → Bool} {l : List α} {k : Nat} (h : jQ d p r l k = true) (hk : k = l.length) : ew d p r l = true := by subst hk; exact h
def gn {α : Type} {d : α} {l : List α} {k : Nat} (h : k < l.length) : l.getD k d = l[k] := by simp [h]
def j9 (c : cS) : Bool := aV c.Field 0 2 && (decide (0 ≤ c.Low) && (decide (c.Low ≤ c.High) && decide (c.High ≤ 99)))
def lO (a b : cS) : Bool := decide (a.Field < b.Field)
def ka (l : List cS) : Bool := ew ⟨0, 0, 0⟩ j9 lO l
def iZ (v : Int) : Bool := aV v 0 2
def kN (l : List Int) : Bool := l.all iZ && aV l.length 1 3
def cv (q : Wt) : Bool := (aV q.Id 0 23 && (aV q.Wx 0 3 && decide ((q.Wu.length : Int) ≤ 3))) && (ka q.Wu && kN q.Out)
def ro (r : Row) : Bool := aV r.Id 0 999 && decide (r.Values.length = 0)
def i1 (u : Wv) : Bool :=
 if u.Kind = 1 then dt u.Row && (decide (u.Field = 0) && decide (u.Value = 0))
 else if u.Kind = 2 then ro u.Row && (decide (u.Field = 0) && decide (u.Value = 0))
 else if u.Kind = 3 then ro u.Row && (aV u.Field 0 2 && aV u.Value 0 99) else false
def Jq {α : Type} {x y : α} : dh x y = false ↔ ¬ x = y := ⟨fun h e => (by rw [iW e] at h; simp at h), rm⟩
def OA {x y : cS} : x = y ↔ x.Field = y.Field ∧ x.Low = y.Low ∧ x.High = y.High := by cases x; cases y; simp [cS.mk.injEq]
def OB {x y : Wt} : x = y ↔ x.Id = y.Id ∧ x.Wx = y.Wx ∧ x.Wu = y.Wu ∧ x.Out = y.Out := by cases x; cases y; simp [Wt.mk.injEq]
def OC {x y : Wv} : x = y ↔ x.Kind = y.Kind ∧ x.Row = y.Row ∧ x.Field = y.Field ∧ x.Value = y.Value := by cases x; cases y; simp [Wv.mk.injEq]
def kb (q : Wt) : Bool := decide (q.Id = 0) && (decide (q.Wx = 0) && (decide (q.Wu.length = 0) && decide (q.Out.length = 0)))
def kc (u : Wv) : Bool := decide (u.Kind = 0) && (decide (u.Row.Id = 0) && (decide (u.Row.Values.length = 0) && (decide (u.Field = 0) && decide (u.Value = 0))))
def wf (q : Wt) : dh q ⟨0, 0, [], []⟩ = kb q := by
 rw [Bool.eq_iff_iff, fC]; cases q; simp [kb, List.length_eq_zero_iff]
def wg (u : Wv) : dh u ⟨0, ⟨0, []⟩, 0, 0⟩ = kc u := by
 rw [Bool.eq_iff_iff, fC]; rcases u with ⟨a, ⟨b, c⟩, d, e⟩; simp [kc, List.length_eq_zero_iff, and_assoc]
def eQ (x : eH) : Bool :=
 if x.Kind = 1 then cv x.Wt && (aV x.Limit 0 32 && (decide (x.Id = 0) && (kc x.Wv && decide (x.Steps = 0))))
 else if x.Kind = 2 then kb x.Wt && (decide (x.Limit = 0) && (aV x.Id 0 23 && (kc x.Wv && decide (x.Steps = 0))))
 else if x.Kind = 3 then kb x.Wt && (decide (x.Limit = 0) && (decide (x.Id = 0) && (i1 x.Wv && decide (x.Steps = 0))))
 else if x.Kind = 4 then kb x.Wt && (decide (x.Limit = 0) && (decide (x.Id = 0) && (kc x.Wv && aV x.Steps 1 100)))
 else false
def Jr {n l h : Int} : aV n l h = true ↔ l ≤ n ∧ n ≤ h := by simp [aV]
def Js {α : Type} {l : List α} {d : α} {i : Nat} (h : i < l.length) : l[i] = l.getD i d := by simp [h]
def gW (l : List Int) (f : Int) : Int := l.getD f.toNat 0
def tk (r : Row) (c : cS) : Bool := aV (gW r.Values c.Field) c.Low c.High
def e7 (q : Wt) (r : Row) : Bool := (dt r && cv q) && q.Wu.all (tk r)
def gX (f v : Int) (c : cS) : Bool := !(c.Field == f) || aV v c.Low c.High
def ie (q : Wt) (f v : Int) : Bool := q.Wu.all (gX f v)
def rp {r : Row} (h : dt r = true) : r.Values.length = 3 := by simp [dt, aV] at h; omega
def Az {α : Type} {d : α} {p : α → Bool} {r : α → α → Bool} {l : List α} (h : ew d p r l = true) {k : Nat} (hk : k < l.length) : p l[k] = true := by
 have := List.all_eq_true.1 h k (List.mem_range.2 hk)
 rw [bn, gn hk] at this
 exact this.1
def Jt {q : Wt} (h : cv q = true) {c : cS} (hc : c ∈ q.Wu) : 0 ≤ c.Field ∧ c.Field ≤ 2 := by
 obtain ⟨k, hk, rfl⟩ := List.mem_iff_getElem.1 hc
 unfold cv ka at h
 simp only [bn] at h
 have := Az h.2.1 hk
 simp [j9, aV] at this
 omega
def OD {q : Wt} {r : Row} (hq : cv q = true) (hr : dt r = true) (h : ∀ i : Nat, i < r.Values.length → ie q (i : Int) (r.Values.getD i 0) = true) : e7 q r = true := by
 unfold e7
 rw [hr, hq, Bool.and_self, Bool.true_and, le]
 intro c hc
 have hf := Jt hq hc
 have hl := rp hr
 have := List.all_eq_true.1 (h c.Field.toNat (by omega)) c hc
 unfold gX at this
 rw [Int.toNat_of_nonneg hf.1] at this
 simpa [tk, gW] using this
def OE {q : Wt} {r : Row} {i : Nat} (h : ie q (i : Int) (r.Values.getD i 0) = false) : e7 q r = false := by
 rw [← Bool.not_eq_true]
 intro hm
 unfold e7 at hm
 rw [bn, le] at hm
 have : ie q (i : Int) (r.Values.getD i 0) = true := by
  unfold ie
  rw [le]
  intro c hc
  unfold gX
  by_cases he : c.Field = (i : Int)
  ·have := hm.2 c hc
   simp only [tk, gW, he, Int.toNat_natCast] at this
   rw [this, Bool.or_true]
  ·simp [he]
 rw [h] at this; cases this
end
end Go.Proofs.YtmekkgdboplbjaaGreat
namespace Go.Proofs.YtmekkgdboplbjaaGreat
open Go Go.RowKit M Tryz
set_option maxRecDepth 10000
def cJ : prog.follows .mixedOrders = true := by kernel_rfl
def AA : aw prog 101 = true := by kernel_rfl
def Ju : aw prog 107 = true := by kernel_rfl
def OF : aw prog 108 = true := by kernel_rfl
def OG : aw prog 109 = true := by kernel_rfl
def OH : aw prog 110 = true := by kernel_rfl
def OI : aw prog 111 = true := by kernel_rfl
def OJ : aw prog 112 = true := by kernel_rfl
def OK : aw prog 113 = true := by kernel_rfl
def OL : aw prog 114 = true := by kernel_rfl
def OM : aw prog 115 = true := by kernel_rfl
def ON : aw prog 116 = true := by kernel_rfl
def OO : aw prog 117 = true := by kernel_rfl
def OP : aw prog 118 = true := by kernel_rfl
def OQ : aw prog 119 = true := by kernel_rfl
def OR : aw prog 120 = true := by kernel_rfl
def OS : aw prog 121 = true := by kernel_rfl
def OT : aw prog 122 = true := by kernel_rfl
def OU : aw prog 123 = true := by kernel_rfl
def OV : aw prog 124 = true := by kernel_rfl
def OW : aw prog 125 = true := by kernel_rfl
def OX : aw prog 126 = true := by kernel_rfl
def OY : aw prog 127 = true := by kernel_rfl
def OZ : aw prog 128 = true := by kernel_rfl
def O0 : aw prog 129 = true := by kernel_rfl
def kO : aw prog 130 = true := by kernel_rfl
def O1 : aw prog 131 = true := by kernel_rfl
def O2 : aw prog 132 = true := by kernel_rfl
def O3 : aw prog 133 = true := by kernel_rfl
def O4 : aw prog 134 = true := by kernel_rfl
def O5 : aw prog 135 = true := by kernel_rfl
def O6 : aw prog 136 = true := by kernel_rfl
def O7 : aw prog 137 = true := by kernel_rfl
def O8 : aw prog 138 = true := by kernel_rfl
def O9 : aw prog 139 = true := by kernel_rfl
def Pa : aw prog 140 = true := by kernel_rfl
def AB : aw prog 141 = true := by kernel_rfl
def mO : aw prog 144 = true := by kernel_rfl
def wh : aw prog 160 = true := by kernel_rfl
def Pb : aw prog 164 = true := by kernel_rfl
def Pc : aw prog 165 = true := by kernel_rfl
def AC : aw prog 166 = true := by kernel_rfl
def AD : aw prog 167 = true := by kernel_rfl
def AE : aw prog 174 = true := by kernel_rfl
def Pd : aw prog 187 = true := by kernel_rfl
def Pe : aw prog 188 = true := by kernel_rfl
def Jv : aw prog 189 = true := by kernel_rfl
def Pf : aw prog 192 = true := by kernel_rfl
def Pg : aw prog 193 = true := by kernel_rfl
def Jw : aw prog 194 = true := by kernel_rfl
def Ph : aw prog 199 = true := by kernel_rfl
def AF : aw prog 200 = true := by kernel_rfl
def Pi : aw prog 201 = true := by kernel_rfl
def Pj : aw prog 202 = true := by kernel_rfl
def Pk : aw prog 203 = true := by kernel_rfl
def Pm : aw prog 204 = true := by kernel_rfl
def Pn : aw prog 205 = true := by kernel_rfl
def Po : aw prog 206 = true := by kernel_rfl
def Pp : aw prog 207 = true := by kernel_rfl
def Pq : aw prog 208 = true := by kernel_rfl
def Pr : aw prog 209 = true := by kernel_rfl
def Ps : aw prog 210 = true := by kernel_rfl
def Pt : aw prog 211 = true := by kernel_rfl
def Pu : aw prog 212 = true := by kernel_rfl
def Pv : aw prog 213 = true := by kernel_rfl
def Jx : aw prog 214 = true := by kernel_rfl
def Pw : aw prog 215 = true := by kernel_rfl
def Px : aw prog 216 = true := by kernel_rfl
def Py : aw prog 217 = true := by kernel_rfl
def Pz : aw prog 218 = true := by kernel_rfl
def PA : aw prog 219 = true := by kernel_rfl
def Jy : aw prog 220 = true := by kernel_rfl
def PB : aw prog 221 = true := by kernel_rfl
def Jz : aw prog 222 = true := by kernel_rfl
def PC : aw prog 223 = true := by kernel_rfl
def PD : aw prog 224 = true := by kernel_rfl
def PE : aw prog 225 = true := by kernel_rfl
def PF : aw prog 226 = true := by kernel_rfl
def PG : aw prog 255 = true := by kernel_rfl
def JA : aw prog 256 = true := by kernel_rfl
def PH : aw prog 257 = true := by kernel_rfl
def PI : aw prog 260 = true := by kernel_rfl
def PJ : aw prog 261 = true := by kernel_rfl
def PK : aw prog 262 = true := by kernel_rfl
def PL : aw prog 263 = true := by kernel_rfl
def PM : aw prog 264 = true := by kernel_rfl
def PN : aw prog 265 = true := by kernel_rfl
def PO : aw prog 266 = true := by kernel_rfl
def PP : aw prog 267 = true := by kernel_rfl
def PQ : aw prog 268 = true := by kernel_rfl
def PR : aw prog 269 = true := by kernel_rfl
def PS : aw prog 270 = true := by kernel_rfl
def PT : aw prog 280 = true := by kernel_rfl
def PU : aw prog 281 = true := by kernel_rfl
def PW : aw prog 282 = true := by kernel_rfl
def PX : aw prog 38 = true := by kernel_rfl
def AG : aw prog 40 = true := by kernel_rfl
def PY : aw prog 42 = true := by kernel_rfl
def PZ : aw prog 56 = true := by kernel_rfl
def fF : aw prog 65 = true := by kernel_rfl
def wi : aw prog 67 = true := by kernel_rfl
def JB : aw prog 92 = true := by kernel_rfl
def jo : aw prog 98 = true := by kernel_rfl
def eR : aW prog 108 0 = some 0 := by kernel_rfl
def lP : aW prog 108 1 = some 4 := by kernel_rfl
def gD : aW prog 108 2 = some 5 := by kernel_rfl
def kP : aW prog 108 3 = some 6 := by kernel_rfl
def jp : aW prog 108 4 = some 7 := by kernel_rfl
def kQ : aW prog 108 5 = some 8 := by kernel_rfl
def jq : aW prog 108 6 = some 9 := by kernel_rfl
def kR : aW prog 178 0 = some 0 := by kernel_rfl
def om : aW prog 178 1 = some 1 := by kernel_rfl
def kS : aW prog 178 2 = some 2 := by kernel_rfl
def lQ : aW prog 184 0 = some 0 := by kernel_rfl
def i2 : aW prog 184 1 = some 1 := by kernel_rfl
def i3 : aW prog 184 2 = some 2 := by kernel_rfl
def fR : aW prog 184 3 = some 3 := by kernel_rfl
def JC : aW prog 212 0 = some 0 := by kernel_rfl
def P0 : aW prog 212 1 = some 4 := by kernel_rfl
def JD : aW prog 212 2 = some 5 := by kernel_rfl
def P3 : aW prog 212 3 = some 6 := by kernel_rfl
def P4 : aW prog 212 4 = some 7 := by kernel_rfl
def P5 : aW prog 212 5 = some 8 := by kernel_rfl
def JE : aW prog 212 6 = some 9 := by kernel_rfl
def JF : aW prog 215 0 = some 0 := by kernel_rfl
def P6 : aW prog 215 1 = some 4 := by kernel_rfl
def P7 : aW prog 215 2 = some 5 := by kernel_rfl
def JG : aW prog 215 3 = some 6 := by kernel_rfl
def P8 : aW prog 217 0 = some 0 := by kernel_rfl
def P9 : aW prog 217 1 = some 1 := by kernel_rfl
def JH : aW prog 217 2 = some 2 := by kernel_rfl
def JI : aW prog 217 3 = some 3 := by kernel_rfl
def JJ : aW prog 217 4 = some 4 := by kernel_rfl
def jr : aW prog 26 0 = some 0 := by kernel_rfl
def fi : aW prog 26 1 = some 1 := by kernel_rfl
def Qa : aW prog 260 0 = some 0 := by kernel_rfl
def Qb : aW prog 260 1 = some 1 := by kernel_rfl
def Qc : aW prog 260 2 = some 2 := by kernel_rfl
def Qd : aW prog 271 0 = some 0 := by kernel_rfl
def JK : aW prog 271 1 = some 1 := by kernel_rfl
def Qe : aW prog 271 2 = some 2 := by kernel_rfl
def Qf : aW prog 271 3 = some 3 := by kernel_rfl
def gE : aW prog 32 0 = some 0 := by kernel_rfl
def i4 : aW prog 32 1 = some 2 := by kernel_rfl
def lR : aW prog 32 2 = some 3 := by kernel_rfl
def dN : aW prog 32 3 = some 4 := by kernel_rfl
def kd : aW prog 32 4 = some 5 := by kernel_rfl
def jt : aW prog 32 5 = some 6 := by kernel_rfl
def ju : aW prog 32 6 = some 7 := by kernel_rfl
def e8 : aW prog 52 0 = some 0 := by kernel_rfl
def i5 : aW prog 52 1 = some 1 := by kernel_rfl
def i6 : aW prog 52 2 = some 2 := by kernel_rfl
def jv : aW prog 52 3 = some 3 := by kernel_rfl
def jw : aW prog 54 0 = some 0 := by kernel_rfl
def gY : aW prog 54 1 = some 1 := by kernel_rfl
def kT : aW prog 56 0 = some 0 := by kernel_rfl
def gF : aW prog 56 1 = some 1 := by kernel_rfl
def lS : aW prog 56 2 = some 3 := by kernel_rfl
def mP : aW prog 56 3 = some 4 := by kernel_rfl
def wj : aW prog 58 0 = some 0 := by kernel_rfl
def AH : aW prog 58 1 = some 1 := by kernel_rfl
def pM : aW prog 58 2 = some 5 := by kernel_rfl
def lT : aW prog 58 3 = some 6 := by kernel_rfl
def pN : aW prog 58 4 = some 7 := by kernel_rfl
def mQ : aW prog 58 5 = some 12 := by kernel_rfl
def lU : aW prog 63 0 = some 0 := by kernel_rfl
def pO : aW prog 63 1 = some 4 := by kernel_rfl
def pP : aW prog 63 2 = some 5 := by kernel_rfl
def lV : aW prog 63 3 = some 6 := by kernel_rfl
def oo : aW prog 70 0 = some 0 := by kernel_rfl
def lW : aW prog 70 1 = some 1 := by kernel_rfl
def kU : aW prog 70 2 = some 2 := by kernel_rfl
def jx : aW prog 70 3 = some 3 := by kernel_rfl
def iA : aW prog 70 4 = some 4 := by kernel_rfl
def JL : aW prog 75 0 = some 0 := by kernel_rfl
def Qg : aW prog 75 1 = some 1 := by kernel_rfl
def JM : aW prog 80 0 = some 0 := by kernel_rfl
def Qh : aW prog 80 1 = some 2 := by kernel_rfl
def JN : aW prog 80 2 = some 3 := by kernel_rfl
def JO : aW prog 80 3 = some 4 := by kernel_rfl
def JP : aW prog 80 4 = some 5 := by kernel_rfl
def JQ : aW prog 80 5 = some 6 := by kernel_rfl
def Qi : aW prog 80 6 = some 7 := by kernel_rfl
def Qj : aW prog 83 0 = some 0 := by kernel_rfl
def Qk : aW prog 83 1 = some 1 := by kernel_rfl
def JR : aW prog 83 2 = some 2 := by kernel_rfl
def JS : aW prog 83 3 = some 3 := by kernel_rfl
def Ql : aW prog 84 0 = some 0 := by kernel_rfl
def JT : aW prog 84 1 = some 1 := by kernel_rfl
def Qm : aW prog 86 0 = some 0 := by kernel_rfl
def JU : aW prog 86 1 = some 1 := by kernel_rfl
def Qn : aW prog 86 2 = some 3 := by kernel_rfl
def Qo : aW prog 86 3 = some 4 := by kernel_rfl
def Qp : aW prog 88 0 = some 0 := by kernel_rfl
def JV : aW prog 88 1 = some 1 := by kernel_rfl
def Qq : aW prog 88 2 = some 5 := by kernel_rfl
def Qr : aW prog 88 3 = some 6 := by kernel_rfl
def Qs : aW prog 88 4 = some 7 := by kernel_rfl
def Qt : aW prog 88 5 = some 12 := by kernel_rfl
def Qu : fO prog 52 = some [(0, 1), (1, 1), (2, 1), (3, 1)] := by kernel_rfl
def JW : fO prog 54 = some [(0, 1), (1, 1)] := by kernel_rfl
def Qv : fO prog 56 = some [(0, 1), (1, 2), (3, 1), (4, 1)] := by kernel_rfl
def Qw (x y : Nat) (a0 a1 a2 b0 b1 b2 : Int) (w : World) : Sem.run prog (do eqGuard .neq 178 (.tmp x) (.tmp y) (.agg #[vI a0, vI a1, vI a2]) (.agg #[vI b0, vI b1, vI b2]); binOp .neq 178 (.agg #[vI a0, vI a1, vI a2]) (.agg #[vI b0, vI b1, vI b2]) : Sem Value) w = .ok (.bool (!(a0 == b0 && a1 == b1 && a2 == b2))) w := by
 have hS : prog.underlying 178 = some (.struct (prog.fieldsOf 178)) := by kernel_rfl
 have hp : prog.stoodInHeld 178 = false := by kernel_rfl
 have hm : prog.eqGuardType prog.depth 178 = false := by kernel_rfl
 have hU := Tryz.underlying178
 have u3 := Tryz.underlying3
 have a3_ := Tryz.isAgg3
 have z3 := Tryz.sizeOf3
 rw [Sem.run_bind, run_eqGuard_agg w _ _ _ _ _ _ hm, Result.andThen_ok, run_neq_struct]
 rw [show (10000 : Nat) = 9999 + 1 from rfl, run_equalIn_agg w 9999 178 _ _ hS hp]
 simp only [Program.fieldsOf, hU]
 go_simp
 by_cases h0 : a0 = b0 <;> by_cases h1 : a1 = b1 <;> by_cases h2 : a2 = b2 <;> simp_all
def ck : cY prog 139 = some (184, 4, 48) := by kernel_rfl
def tl : cY prog 210 = some (84, 2, 32) := by kernel_rfl
def cV : cY prog 24 = some (139, 1, 24) := by kernel_rfl
def tm : cY prog 255 = some (271, 4, 48) := by kernel_rfl
def bC : cY prog 27 = some (3, 1, 8) := by kernel_rfl
def bI : cY prog 28 = some (108, 10, 144) := by kernel_rfl
def ez : cY prog 29 = some (63, 7, 104) := by kernel_rfl
def dY : cY prog 30 = some (70, 5, 88) := by kernel_rfl
def dZ : cY prog 50 = some (178, 3, 24) := by kernel_rfl
def fG : cY prog 59 = some (54, 2, 32) := by kernel_rfl
def tn : cY prog 73 = some (255, 1, 24) := by kernel_rfl
def to : cY prog 76 = some (212, 10, 144) := by kernel_rfl
def tp : cY prog 77 = some (215, 7, 104) := by kernel_rfl
def tq : cY prog 78 = some (217, 5, 88) := by kernel_rfl
def wk : cY prog 81 = some (260, 3, 24) := by kernel_rfl
def fj : bO prog 108 = some (true, 10) := by kernel_rfl
def fH : bO prog 139 = some (false, 1) := by kernel_rfl
def lX : bO prog 178 = some (true, 3) := by kernel_rfl
def dO : bO prog 184 = some (true, 4) := by kernel_rfl
def AJ : bO prog 210 = some (false, 1) := by kernel_rfl
def Qx : bO prog 212 = some (true, 10) := by kernel_rfl
def Qy : bO prog 215 = some (true, 7) := by kernel_rfl
def Qz : bO prog 217 = some (true, 5) := by kernel_rfl
def jy : bO prog 24 = some (false, 1) := by kernel_rfl
def QA : bO prog 255 = some (false, 1) := by kernel_rfl
def dv : bO prog 26 = some (true, 2) := by kernel_rfl
def QB : bO prog 260 = some (true, 3) := by kernel_rfl
def bq : bO prog 27 = some (false, 1) := by kernel_rfl
def QC : bO prog 271 = some (true, 4) := by kernel_rfl
def dC : bO prog 28 = some (false, 1) := by kernel_rfl
def kf : bO prog 29 = some (false, 1) := by kernel_rfl
def au : bO prog 3 = some (false, 1) := by kernel_rfl
def jz : bO prog 30 = some (false, 1) := by kernel_rfl
def bZ : bO prog 32 = some (true, 8) := by kernel_rfl
def i7 : bO prog 50 = some (false, 1) := by kernel_rfl
def eK : bO prog 52 = some (true, 4) := by kernel_rfl
def eS : bO prog 54 = some (true, 2) := by kernel_rfl
def kg : bO prog 56 = some (true, 5) := by kernel_rfl
def mR : bO prog 58 = some (true, 13) := by kernel_rfl
def fI : bO prog 59 = some (false, 1) := by kernel_rfl
def lY : bO prog 63 = some (true, 7) := by kernel_rfl
def i8 : bO prog 70 = some (true, 5) := by kernel_rfl
def JX : bO prog 73 = some (false, 1) := by kernel_rfl
def JY : bO prog 75 = some (true, 2) := by kernel_rfl
def JZ : bO prog 76 = some (false, 1) := by kernel_rfl
def J0 : bO prog 77 = some (false, 1) := by kernel_rfl
def J1 : bO prog 78 = some (false, 1) := by kernel_rfl
def J2 : bO prog 81 = some (false, 1) := by kernel_rfl
def J3 : bO prog 83 = some (true, 4) := by kernel_rfl
def AK : bO prog 84 = some (true, 2) := by kernel_rfl
def QD : bO prog 86 = some (true, 5) := by kernel_rfl
def tr : bO prog 88 = some (true, 13) := by kernel_rfl
def fa : eb prog 108 = some (.agg #[.int .i64 0, .int .i64 0, .slice none 0 0, .slice none 0 0, .int .i64 0, .slice none 0 0, .int .i64 0, .int .i64 0, .int .i64 0, .slice none 0 0]) := by kernel_rfl
def tt : eb prog 139 = some (.slice none 0 0) := by kernel_rfl
def mS : eb prog 178 = some (.agg #[.int .i64 0, .int .i64 0, .int .i64 0]) := by kernel_rfl
def eT : eb prog 184 = some (.agg #[.int .i64 0, .slice none 0 0, .int .i64 0, .int .i64 0]) := by kernel_rfl
def rq : eb prog 26 = some (.agg #[.slice none 0 0, .int .i64 0]) := by kernel_rfl
def ej : eb prog 3 = some (.int .i64 0) := by kernel_rfl
def jR : eb prog 32 = some (.agg #[.slice none 0 0, .int .i64 0, .int .i64 0, .slice none 0 0, .slice none 0 0, .slice none 0 0, .slice none 0 0, .int .i64 0]) := by kernel_rfl
def lZ : eb prog 52 = some (.agg #[.int .i64 0, .int .i64 0, .slice none 0 0, .slice none 0 0]) := by kernel_rfl
def iB : eb prog 54 = some (.agg #[.int .i64 0, .slice none 0 0]) := by kernel_rfl
def AL : eb prog 56 = some (.agg #[.int .i64 0, .int .i64 0, .slice none 0 0, .int .i64 0, .int .i64 0]) := by kernel_rfl
def AM : eb prog 58 = some (.agg #[.int .i64 0, .int .i64 0, .int .i64 0, .slice none 0 0, .slice none 0 0, .int .i64 0, .int .i64 0, .int .i64 0, .int .i64 0, .slice none 0 0, .int .i64 0, .int .i64 0, .int .i64 0]) := by kernel_rfl
def jS : eb prog 63 = some (.agg #[.int .i64 0, .int .i64 0, .slice none 0 0, .slice none 0 0, .int .i64 0, .int .i64 0, .slice none 0 0]) := by kernel_rfl
def iC : eb prog 70 = some (.agg #[.int .i64 0, .int .i64 0, .slice none 0 0, .slice none 0 0, .slice none 0 0]) := by kernel_rfl
def l2 {Fz : av} {w : World} : aJ [PV.val (.int .i64 0), PV.val (.int .i64 0), PV.sl ay [], PV.sl aa [], PV.val (.int .i64 0), PV.sl aa [], PV.val (.int .i64 0), PV.val (.int .i64 0), PV.val (.int .i64 0), PV.sl aB []] Fz w (Value.cells (.agg #[.int .i64 0, .int .i64 0, .slice none 0 0, .slice none 0 0, .int .i64 0, .slice none 0 0, .int .i64 0, .int .i64 0, .int .i64 0, .slice none 0 0])).toList [] := cw rfl (cw rfl (ed (ed (cw rfl (ed (cw rfl (cw rfl (cw rfl (ed (iN))))))))))
def QE {Fz : av} {w : World} : aJ [PV.sl aS []] Fz w (Value.cells (.slice none 0 0)).toList [] := ed (iN)
def tu {Fz : av} {w : World} : aJ [PV.val (.int .i64 0), PV.val (.int .i64 0), PV.val (.int .i64 0)] Fz w (Value.cells (.agg #[.int .i64 0, .int .i64 0, .int .i64 0])).toList [] := cw rfl (cw rfl (cw rfl (iN)))
def kh {Fz : av} {w : World} : aJ [PV.val (.int .i64 0), PV.sl aa [], PV.val (.int .i64 0), PV.val (.int .i64 0)] Fz w (Value.cells (.agg #[.int .i64 0, .slice none 0 0, .int .i64 0, .int .i64 0])).toList [] := cw rfl (ed (cw rfl (cw rfl (iN))))
def rr {Fz : av} {w : World} : aJ [PV.sl bo [], PV.val (.int .i64 0)] Fz w (Value.cells (.agg #[.slice none 0 0, .int .i64 0])).toList [] := ed (cw rfl (iN))
def QF {Fz : av} {w : World} : aJ [PV.val (.int .i64 0)] Fz w (Value.cells (.int .i64 0)).toList [] := cw rfl (iN)
def jT {Fz : av} {w : World} : aJ [PV.sl bo [], PV.val (.int .i64 0), PV.val (.int .i64 0), PV.sl aa [], PV.sl bS [], PV.sl bM [], PV.sl bP [], PV.val (.int .i64 0)] Fz w (Value.cells (.agg #[.slice none 0 0, .int .i64 0, .int .i64 0, .slice none 0 0, .slice none 0 0, .slice none 0 0, .slice none 0 0, .int .i64 0])).toList [] := ed (cw rfl (cw rfl (ed (ed (ed (ed (cw rfl (iN))))))))
def tv {Fz : av} {w : World} : aJ [PV.val (.int .i64 0), PV.val (.int .i64 0), PV.sl ay [], PV.sl aa []] Fz w (Value.cells (.agg #[.int .i64 0, .int .i64 0, .slice none 0 0, .slice none 0 0])).toList [] := cw rfl (cw rfl (ed (ed (iN))))
def kV {Fz : av} {w : World} : aJ [PV.val (.int .i64 0), PV.sl aa []] Fz w (Value.cells (.agg #[.int .i64 0, .slice none 0 0])).toList [] := cw rfl (ed (iN))
def AN {Fz : av} {w : World} : aJ [PV.val (.int .i64 0), PV.val (.int .i64 0), PV.sl aa [], PV.val (.int .i64 0), PV.val (.int .i64 0)] Fz w (Value.cells (.agg #[.int .i64 0, .int .i64 0, .slice none 0 0, .int .i64 0, .int .i64 0])).toList [] := cw rfl (cw rfl (ed (cw rfl (cw rfl (iN)))))
def AO {Fz : av} {w : World} : aJ [PV.val (.int .i64 0), PV.val (.int .i64 0), PV.val (.int .i64 0), PV.sl ay [], PV.sl aa [], PV.val (.int .i64 0), PV.val (.int .i64 0), PV.val (.int .i64 0), PV.val (.int .i64 0), PV.sl aa [], PV.val (.int .i64 0), PV.val (.int .i64 0), PV.val (.int .i64 0)] Fz w (Value.cells (.agg #[.int .i64 0, .int .i64 0, .int .i64 0, .slice none 0 0, .slice none 0 0, .int .i64 0, .int .i64 0, .int .i64 0, .int .i64 0, .slice none 0 0, .int .i64 0, .int .i64 0, .int .i64 0])).toList [] := cw rfl (cw rfl (cw rfl (ed (ed (cw rfl (cw rfl (cw rfl (cw rfl (ed (cw rfl (cw rfl (cw rfl (iN)))))))))))))
def pQ {Fz : av} {w : World} : aJ [PV.val (.int .i64 0), PV.val (.int .i64 0), PV.sl ay [], PV.sl aa [], PV.val (.int .i64 0), PV.val (.int .i64 0), PV.sl aB []] Fz w (Value.cells (.agg #[.int .i64 0, .int .i64 0, .slice none 0 0, .slice none 0 0, .int .i64 0, .int .i64 0, .slice none 0 0])).toList [] := cw rfl (cw rfl (ed (ed (cw rfl (cw rfl (ed (iN)))))))
def oq {Fz : av} {w : World} : aJ [PV.val (.int .i64 0), PV.val (.int .i64 0), PV.sl aa [], PV.sl aa [], PV.sl aa []] Fz w (Value.cells (.agg #[.int .i64 0, .int .i64 0, .slice none 0 0, .slice none 0 0, .slice none 0 0])).toList [] := cw rfl (cw rfl (ed (ed (ed (iN)))))
end Go.Proofs.YtmekkgdboplbjaaGreat
namespace Go.Proofs.YtmekkgdboplbjaaGreat
open Go Go.RowKit M Tryz
set_option maxRecDepth 10000
def v0 : aT := ⟨0, [], 0, 0⟩
def ek (now : Int) (v : aT) : Bool := dt ⟨v.Id, v.Values⟩ && (aV v.WG 0 now && (decide (v.WC = -1) || aV v.WC (v.WG + 1) now))
def jA (a b : aT) : Bool := !(a.Id == b.Id) || ((!(a.WC == -1) && decide (a.WC ≤ b.WG)) || (!(b.WC == -1) && decide (b.WC ≤ a.WG)))
def ea (v : aT) (t : Int) : Bool := decide (v.WG ≤ t) && (decide (v.WC = -1) || decide (v.WC > t))
def pR (v w : aT) : Bool := ea v w.WG || ea w v.WG
def J4 {now : Int} {v w : aT} (hv : ek now v = true) (hw : ek now w = true) : (v.Id == w.Id && pR v w) = !jA v w := by
 have h1 : v.WC = -1 ∨ v.WG < v.WC := by simp [ek, aV] at hv; omega
 have h2 : w.WC = -1 ∨ w.WG < w.WC := by simp [ek, aV] at hw; omega
 have h3 : 0 ≤ v.WG ∧ 0 ≤ w.WG := by simp [ek, aV] at hv hw; omega
 rw [Bool.eq_iff_iff]
 simp only [pR, ea, jA, bn, Bool.or_eq_true, Bool.not_eq_true', beq_iff_eq, decide_eq_true_eq, Bool.or_eq_false_iff, Bool.not_eq_false', Bool.and_eq_false_iff, decide_eq_false_iff_not]
 omega
def cf (s : Store) : List aT := s.Wr.flatten
def fL (L : List aT) (i k : Nat) : Bool := (List.range k).all fun m => jA (L.getD i v0) (L.getD m v0)
def l4 (now : Int) (L : List aT) (i : Nat) : Bool := ek now (L.getD i v0) && fL L i i
def mT (now : Int) (L : List aT) (i : Nat) : Bool := (List.range i).all (l4 now L)
def ki (l : List aT) : Bool := decide ((l.length : Int) ≤ 4)
def l5 (s : Store) : Bool := aV s.Wr.length 1 8 && aV s.Now 0 100000
def dm (s : Store) : Bool := (l5 s && s.Wr.all ki) && mT s.Now (cf s) (cf s).length
def QG {L : List aT} {i k : Nat} : fL L i (k + 1) = (fL L i k && jA (L.getD i v0) (L.getD k v0)) := by simp [fL, List.range_succ]
def J5 {now : Int} {L : List aT} {i : Nat} : mT now L (i + 1) = (mT now L i && l4 now L i) := by simp [mT, List.range_succ]
def AP {now : Int} {L : List aT} {i j : Nat} (h : mT now L i = true) (hj : j < i) : ek now (L.getD j v0) = true := by
 have := List.all_eq_true.1 h j (List.mem_range.2 hj)
 unfold l4 at this
 rw [bn] at this
 exact this.1
def wl {s : Store} {i : Nat} (hi : i < (cf s).length) (h : l4 s.Now (cf s) i = false) : dm s = false := by
 have : mT s.Now (cf s) (cf s).length = false := by
  rw [← Bool.not_eq_true]
  intro hh
  have := List.all_eq_true.1 hh i (List.mem_range.2 hi)
  rw [h] at this; cases this
 unfold dm; rw [this, Bool.and_false]
def J6 {now : Int} {L : List aT} {i : Nat} (h : ek now (L.getD i v0) = false) : l4 now L i = false := by unfold l4; rw [h]; rfl
def J7 {now : Int} {L : List aT} {i k : Nat} (hk : k < i) (h : jA (L.getD i v0) (L.getD k v0) = false) : l4 now L i = false := by
 have : fL L i i = false := by
  rw [← Bool.not_eq_true]
  intro hh
  have := List.all_eq_true.1 hh k (List.mem_range.2 hk)
  rw [h] at this; cases this
 unfold l4; rw [this, Bool.and_false]
def J8 {s : Store} {k : Nat} (hk : k < s.Wr.length) (h : ¬ ((s.Wr[k].length : Int) ≤ 4)) : dm s = false := by
 have : s.Wr.all ki = false := kI hk (by simpa [ki] using h)
 unfold dm; rw [this]; simp
def c7 (s : Store) (k : Nat) : List aT := (s.Wr.take k).flatten
def tw {s : Store} {k : Nat} (hk : k < s.Wr.length) : c7 s (k + 1) = c7 s k ++ s.Wr[k] := by
 unfold c7; rw [cn hk, List.flatten_append]; simp
def AQ {s : Store} {k : Nat} (hk : k < s.Wr.length) : cf s = c7 s k ++ (s.Wr[k] ++ (s.Wr.drop (k + 1)).flatten) := by
 unfold cf c7
 rw [← List.flatten_cons, ← List.flatten_append, ← List.drop_eq_getElem_cons hk, eA]
def AR {s : Store} : c7 s s.Wr.length = cf s := by unfold c7 cf; rw [cb]
def J9 {s : Store} {k j : Nat} (hk : k < s.Wr.length) (hj : j < s.Wr[k].length) : (c7 s k).length + j < (cf s).length ∧ (cf s).getD ((c7 s k).length + j) v0 = s.Wr[k][j] := by
 rw [AQ hk]
 refine ⟨by simp only [aU]; omega, ?_⟩
 rw [List.getD_eq_getElem?_getD, List.getElem?_append_right (by omega), show (c7 s k).length + j - (c7 s k).length = j by omega, List.getElem?_append_left hj, List.getElem?_eq_getElem hj]
 rfl
def QH {s : Store} {k j : Nat} (hk : k < s.Wr.length) (hj : j ≤ s.Wr[k].length) : c7 s k ++ s.Wr[k].take j = (cf s).take ((c7 s k).length + j) := by
 rw [AQ hk, List.take_length_add_append, List.take_append_of_le_length hj]
def pS (s : Store) : (cf s).length ≤ b4 s := by
 unfold b4 eh cf
 rw [List.length_flatten]
 have : (s.Wr.map List.length).sum ≤ (s.Wr.map bU).sum := by
  generalize s.Wr = l
  induction l with
  | nil => simp
  | cons x l ih => simp only [List.map_cons, List.sum_cons]; unfold bU at *; omega
 omega
def fk (v : aT) : Row := ⟨v.Id, v.Values⟩
def l6 {s : Store} (h : dm s = true) : s.Wr.length ≤ 8 ∧ 1 ≤ s.Wr.length ∧ 0 ≤ s.Now ∧ s.Now ≤ 100000 ∧ (∀ g ∈ s.Wr, g.length ≤ 4) ∧ ∀ i, i < (cf s).length → ek s.Now ((cf s).getD i v0) = true := by
 unfold dm l5 at h
 simp only [bn, aV, decide_eq_true_eq] at h
 refine ⟨by omega, by omega, by omega, by omega, fun g hg => ?_, fun i hi => AP h.2 hi⟩
 have := List.all_eq_true.1 h.1.2 g hg
 simp [ki] at this; omega
def Ka {s : Store} (h : dm s = true) {k j : Nat} (hk : k < s.Wr.length) (hj : j < s.Wr[k].length) : ek s.Now s.Wr[k][j] = true := by
 have h1 := J9 hk hj
 rw [← h1.2]
 exact (l6 h).2.2.2.2.2 _ h1.1
def rt : Wt := ⟨0, 0, [], []⟩
def jB : dW := ⟨0, 0, []⟩
def pT (a b : Wt) : Bool := decide (a.Id < b.Id)
def di (l : List Wt) : Bool := ew rt cv pT l && decide ((l.length : Int) ≤ 24)
def ot {l : List Wt} (h : di l = true) : l.length ≤ 24 ∧ ∀ q ∈ l, cv q = true := by
 unfold di at h
 rw [bn] at h
 refine ⟨by have := of_decide_eq_true h.2; omega, fun q hq => ?_⟩
 obtain ⟨k, hk, rfl⟩ := List.mem_iff_getElem.1 hq
 exact Az h.1 hk
def QI {q : Wt} (h : cv q = true) : q.Wu.length ≤ 3 ∧ q.Out.length ≤ 3 := by
 unfold cv kN at h
 simp only [bn, aV, decide_eq_true_eq] at h
 omega
def fm (l : List Wt) (f v : Int) : List Int := (l.filter fun q => ie q f v).map Wt.Id
def wm (l : List Wt) (f v : Int) : List Int := if di l && (aV f 0 2 && aV v 0 99) then fm l f v else []
def QJ {l : List Wt} {f v : Int} {k : Nat} (hk : k < l.length) (h : ie l[k] f v = true) : fm (l.take (k + 1)) f v = fm (l.take k) f v ++ [l[k].Id] := by
 unfold fm; rw [cn hk, eU]; simp [h]
def QK {l : List Wt} {f v : Int} {k : Nat} (hk : k < l.length) (h : ie l[k] f v = false) : fm (l.take (k + 1)) f v = fm (l.take k) f v := by
 unfold fm; rw [cn hk, eU]; simp [h]
def AS (l : List Wt) (f v : Int) : (fm l f v).length ≤ l.length := by
 unfold fm; rw [ar]; exact iJ _ _
def QL {l : List Wt} {f v : Int} {k : Nat} (h : (k = l.length ∧ (di l && (aV f 0 2 && aV v 0 99)) = true) ∨ (k = 0 ∧ (l.length = 0 ∨ (di l && (aV f 0 2 && aV v 0 99)) = false))) : fm (l.take k) f v = wm l f v := by
 unfold wm
 rcases h with ⟨rfl, h⟩ | ⟨rfl, h⟩
 ·rw [if_pos h, cb]
 ·split
  ·rename_i h2
   rcases h with h | h
   ·rw [gO h]; rfl
   ·rw [h] at h2; cases h2
  ·rfl
noncomputable def kW (out : List dW) (s : List Int) : Bool := !(out.length == 0) && dh (out.getD (out.length - 1) jB).Set s
def QM {out : List dW} {s : List Int} (h0 : 0 < out.length) (h : dh (out.getD (out.length - 1) jB).Set s = true) : kW out s = true := by
 unfold kW; rw [h, Bool.and_true]; simp; exact List.length_pos_iff.1 h0
noncomputable def ru (out : List dW) (v : Int) (s : List Int) : List dW := if kW out s then out.set (out.length - 1) ⟨(out.getD (out.length - 1) jB).From, v, (out.getD (out.length - 1) jB).Set⟩ else out ++ [⟨v, v, s⟩]
def QN {out : List dW} {v : Int} {s : List Int} (h : kW out s = true) : ru out v s = out.set (out.length - 1) ⟨(out.getD (out.length - 1) jB).From, v, (out.getD (out.length - 1) jB).Set⟩ := if_pos h
def QO {out : List dW} {v : Int} {s : List Int} (h : kW out s = false) : ru out v s = out ++ [⟨v, v, s⟩] := if_neg (by rw [h]; simp)
noncomputable def cW (l : List Wt) (f : Int) : Nat → List dW
 | 0 => []
 | k + 1 => ru (cW l f k) k (fm l f k)
def AT (l : List Wt) (f : Int) : ∀ k, (cW l f k).length ≤ k
 | 0 => Nat.le_refl _
 | k + 1 => by
  have := AT l f k
  rw [cW]
  unfold ru
  split
  ·rw [List.length_set]; omega
  ·rw [aU]; simp; omega
def Kb (l : List Wt) (f : Int) : ∀ k, ∀ s ∈ cW l f k, s.Set.length ≤ l.length
 | 0, s, h => nomatch h
 | k + 1, s, h => by
  have ih := Kb l f k
  rw [cW] at h
  unfold ru at h
  split at h
  ·rename_i hl
   rcases List.mem_or_eq_of_mem_set h with h | rfl
   ·exact ih s h
   ·have hne : 0 < (cW l f k).length := by
     unfold kW at hl
     rw [bn] at hl
     have := hl.1
     simp at this
     exact List.length_pos_iff.2 this
    have hlt : (cW l f k).length - 1 < (cW l f k).length := by omega
    show ((cW l f k).getD _ jB).Set.length ≤ _
    rw [List.getD_eq_getElem?_getD, List.getElem?_eq_getElem hlt]
    exact ih _ (List.getElem_mem hlt)
  ·rcases List.mem_append.1 h with h | h
   ·exact ih s h
   ·simp at h; subst h; exact AS _ _ _
noncomputable def fS (l : List Wt) (f : Int) : List dW := if di l && aV f 0 2 then cW l f 100 else []
def QP (l : List Wt) (f : Int) : (fS l f).length ≤ 100 ∧ ∀ s ∈ fS l f, s.Set.length ≤ 24 := by
 unfold fS
 split
 ·rename_i h
  rw [bn] at h
  have := ot h.1
  exact ⟨AT _ _ _, fun s hs => Nat.le_trans (Kb _ _ _ s hs) this.1⟩
 ·exact ⟨by simp, fun s hs => nomatch hs⟩
def gG (v : Int) (s : dW) : Bool := aV v s.From s.To
def fT (l : List dW) (v : Int) : List Int := match l.find? (gG v) with
 | some s => s.Set
 | none => []
def QQ {l : List dW} {v : Int} {k : Nat} (hk : k < l.length) (h : (l.take k).any (gG v) = false) (hy : gG v l[k] = true) : fT l v = l[k].Set := by
 unfold fT
 have e : l = l.take k ++ l[k] :: l.drop (k + 1) := by rw [← List.drop_eq_getElem_cons hk, eA]
 have hn : (l.take k).find? (gG v) = none := by
  rw [List.find?_eq_none]
  intro x hx hp
  rw [List.any_eq_false] at h
  exact h x hx hp
 have : l.find? (gG v) = some l[k] := by
  conv => lhs; rw [e]
  rw [List.find?_append, hn, List.find?_cons_of_pos hy]
  rfl
 rw [this]
def QR {l : List dW} {v : Int} (h : l.any (gG v) = false) : fT l v = [] := by
 unfold fT
 have hn : l.find? (gG v) = none := by
  rw [List.find?_eq_none]
  intro x hx hp
  rw [List.any_eq_false] at h
  exact h x hx hp
 rw [hn]
def QT {l : List dW} {m : Nat} (h : ∀ s ∈ l, s.Set.length ≤ m) (v : Int) : (fT l v).length ≤ m := by
 unfold fT
 split
 ·rename_i s hs; exact h s (List.mem_of_find?_eq_some hs)
 ·exact Nat.zero_le _
noncomputable def Kc (x : iY) (k : Nat) : Bool := (List.range k).all fun f => dh (x.Fields.getD f []) (fS x.Queries (f : Int))
noncomputable def tx (x : iY) : Bool := (di x.Queries && decide (x.Fields.length = 3)) && Kc x 3
def QU {x : iY} (h : tx x = true) : di x.Queries = true ∧ x.Fields.length = 3 ∧ ∀ f, f < 3 → x.Fields.getD f [] = fS x.Queries (f : Int) := by
 unfold tx at h
 simp only [bn, decide_eq_true_eq] at h
 exact ⟨h.1.1, h.1.2, fun f hf => fC.1 (List.all_eq_true.1 h.2 f (List.mem_range.2 hf))⟩
noncomputable def kX (l : List Wt) : iY := if di l then ⟨l, [fS l 0, fS l 1, fS l 2]⟩ else ⟨[], []⟩
def QV {l : List Wt} (h : di l = true) : tx (kX l) = true := by
 unfold kX
 rw [if_pos h]
 unfold tx
 rw [h]
 simp only [List.length_cons, List.length_nil, Bool.true_and, bn, decide_eq_true_eq]
 refine ⟨by decide, ?_⟩
 unfold Kc
 rw [le]
 intro f hf
 have := List.mem_range.1 hf
 have : f = 0 ∨ f = 1 ∨ f = 2 := by omega
 rcases this with rfl | rfl | rfl <;> exact iW rfl
noncomputable def ou (l : List Wt) (k : Nat) : List (List dW) := (List.range k).map fun f : Nat => fS l (f : Int)
def ov (l : List Wt) : List Int := l.map Wt.Id
def go (o : List Int) : Bool := decide (o.length = 3) && (b8 o 0 && (b8 o 1 && b8 o 2))
def Kd {o : List Int} (h : go o = true) : o.length = 3 ∧ ∀ f ∈ o, 0 ≤ f ∧ f ≤ 2 := by
 unfold go at h
 simp only [bn, decide_eq_true_eq] at h
 obtain ⟨h1, h2, h3, h4⟩ := h
 match o, h1 with
 | [a, b, c], _ =>
  simp [b8] at h2 h3 h4
  refine ⟨rfl, fun f hf => ?_⟩
  simp at hf
  omega
def rx (o : List Int) (k : Nat) : Bool := (List.range k).all fun i => aV (o.getD i 0) 0 2 && !b8 (o.take i) (o.getD i 0)
def QW {o : List Int} {k : Nat} : rx o (k + 1) = (rx o k && (aV (o.getD k 0) 0 2 && !b8 (o.take k) (o.getD k 0))) := by simp [rx, List.range_succ]
def Ke {o : List Int} (h : o.length = 3) : rx o 3 = go o := by
 match o, h with
 | [a, b, c], _ =>
  rw [Bool.eq_iff_iff]
  simp [rx, go, b8, aV, List.range_succ]
  omega
def QX {o : List Int} {k : Nat} (hl : o.length = 3) (hk : k < 3) (h : (aV (o.getD k 0) 0 2 && !b8 (o.take k) (o.getD k 0)) = false) : go o = false := by
 rw [← Ke hl, ← Bool.not_eq_true]
 intro hh
 have := List.all_eq_true.1 hh k (List.mem_range.2 hk)
 rw [h] at this; cases this
def mU (x : iY) (r : Row) (s : List Int × Int) (f : Int) : List Int × Int := if s.1 = [] then s else (mN s.1 (fT (x.Fields.getD f.toNat []) (gW r.Values f)), s.2 + 1 + min (s.1.length : Int) ((fT (x.Fields.getD f.toNat []) (gW r.Values f)).length : Int))
def eL (x : iY) (r : Row) (o : List Int) (k : Nat) : List Int × Int := (o.take k).foldl (mU x r) (ov x.Queries, 0)
def Kf {x : iY} {r : Row} {o : List Int} {k : Nat} (hk : k < o.length) (h : (eL x r o k).1 ≠ []) : eL x r o (k + 1) = (mN (eL x r o k).1 (fT (x.Fields.getD o[k].toNat []) (gW r.Values o[k])), (eL x r o k).2 + 1 + min ((eL x r o k).1.length : Int) ((fT (x.Fields.getD o[k].toNat []) (gW r.Values o[k])).length : Int)) := by
 unfold eL
 rw [cn hk, List.foldl_append]
 show mU x r (eL x r o k) o[k] = _
 unfold mU
 rw [if_neg h]; rfl
def Kg {x : iY} {r : Row} : ∀ (o : List Int) (s : List Int × Int), s.1 = [] → o.foldl (mU x r) s = s
 | [], s, _ => rfl
 | f :: o, s, h => by
  rw [List.foldl_cons]
  have : mU x r s f = s := if_pos h
  rw [this]; exact Kg o s h
noncomputable def pU (x : iY) (r : Row) (o : List Int) : List Int × Int := o.foldl (mU x r) (ov x.Queries, 0)
def QY {x : iY} {r : Row} {o : List Int} {k : Nat} (h : k = o.length ∨ (eL x r o k).1 = []) : eL x r o k = pU x r o := by
 rcases h with rfl | h
 ·unfold eL pU; rw [cb]
 ·unfold pU
  have e : o = o.take k ++ o.drop k := (eA _ _).symm
  conv => rhs; rw [e, List.foldl_append]
  exact (Kg _ _ h).symm
def Kh {x : iY} (hx : x.Queries.length ≤ 24) (r : Row) (o : List Int) : ∀ k, (eL x r o k).1.length ≤ 24 ∧ 0 ≤ (eL x r o k).2 ∧ (eL x r o k).2 ≤ 25 * k
 | 0 => by refine ⟨?_, ?_, ?_⟩ <;> simp [eL, ov]; exact hx
 | k + 1 => by
  have ih := Kh hx r o k
  by_cases hk : k < o.length
  ·by_cases h : (eL x r o k).1 = []
   ·have e : eL x r o (k + 1) = eL x r o k := by
     unfold eL
     rw [cn hk, List.foldl_append]
     exact if_pos h
    rw [e]; omega
   ·rw [Kf hk h]
    have := Oz (eL x r o k).1 (fT (x.Fields.getD o[k].toNat []) (gW r.Values o[k]))
    dsimp only; omega
  ·have e : eL x r o (k + 1) = eL x r o k := by
    unfold eL
    rw [gt (by omega), gt (by omega)]
   rw [e]; omega
def QZ {l : List Wt} (h : di l = true) : wa l ≤ 1000 := by
 have h1 := ot h
 have h2 : ∀ q ∈ l, ce q ≤ 10 := fun q hq => by
  have := QI (h1.2 q hq)
  have hc : ∀ c : List cS, (c.map lL).sum = 0 := by
   intro c
   induction c with
   | nil => rfl
   | cons a c ih => rw [List.map_cons, List.sum_cons, ih]; rfl
  unfold ce iy
  simp only [dM, a9, hc]
  omega
 have h3 : (l.map ce).sum ≤ l.length * 10 := by
  clear h h1
  induction l with
  | nil => simp
  | cons q l ih =>
   have a := h2 q (by simp)
   have b := ih fun x hx => h2 x (by simp [hx])
   simp only [List.map_cons, List.sum_cons, List.length_cons, Nat.succ_mul]; omega
 unfold wa
 have : l.length * 10 ≤ 24 * 10 := Nat.mul_le_mul h1.1 (Nat.le_refl _)
 omega
def Q0 {l : List Wt} {k : Nat} : ou l (k + 1) = ou l k ++ [fS l (k : Int)] := by unfold ou; rw [List.range_succ, bN]; rfl
def Q1 {l : List Wt} {k : Nat} : (ou l k).length = k := by unfold ou; rw [ar, List.length_range]
def Q2 {l : List Wt} (h : di l = true) : kX l = ⟨l, ou l 3⟩ := by unfold kX; rw [if_pos h]; rfl
def Q3 {l : List Wt} (h : di l = false) : kX l = ⟨[], []⟩ := by unfold kX; rw [if_neg (by rw [h]; simp)]
def kY (x : cE) (i : Nat) : Bool := aV (x.Wy.getD i 0) 0 3 && aV (x.Rows.getD i 0) 0 x.Base
def pV (x : cE) (k : Nat) : Bool := (List.range k).all (kY x)
def Q4 {x : cE} {k : Nat} : pV x (k + 1) = (pV x k && kY x k) := by simp [pV, List.range_succ]
def kZ (x : cE) : Bool := du x.Ids && (aV x.Ids.length 1 8 && (decide (x.Wy.length = x.Ids.length) && decide (x.Rows.length = x.Ids.length)))
def fp (x : cE) : Bool := (kZ x && pV x x.Ids.length) && (aV x.Segment 0 7 && aV x.Base 0 4)
def Ki {x : cE} (h : kZ x = true) : 1 ≤ x.Ids.length ∧ x.Ids.length ≤ 8 ∧ x.Wy.length = x.Ids.length ∧ x.Rows.length = x.Ids.length := by
 simp [kZ, aV] at h; omega
def Q5 {x : cE} {k : Nat} (hk : k < x.Ids.length) (h : kY x k = false) : fp x = false := by
 have : pV x x.Ids.length = false := by
  rw [← Bool.not_eq_true]
  intro hh
  have := List.all_eq_true.1 hh k (List.mem_range.2 hk)
  rw [h] at this; cases this
 unfold fp; rw [this]; simp
section
def gH : Ws := ⟨⟨0, 0, [], []⟩, 0, [], 0, 0, 0, []⟩
def kk (a b : Ws) : Bool := decide (a.Wt.Id < b.Wt.Id)
def l7 (n v : Int) : Bool := aV v 0 (n - 1)
def l8 (a b : Int) : Bool := decide (a < b)
def kl (l : List Int) (n : Int) : Bool := ew 0 (l7 n) l8 l && decide (0 < l.length)
def fq (s : Store) (a : Ws) : Bool := kl a.WB s.Wr.length && (cv a.Wt && (aV a.Time 0 s.Now && (aV a.Age 0 100000 && (aV a.Sent 0 1000 && (aV a.Cap 0 32 && oj a.Rows)))))
def gp (now : Int) (f : cu) : Bool := cv f.Wt && (aV f.Time 0 now && (aV f.Steps 0 100000 && oj f.Rows))
def iD (e : aL) : Bool := (dm e.Store && (aV e.Ww 0 (e.Store.Wr.length - 1) && (go e.Order && aV e.Steps 0 100000))) && (decide ((e.Ws.length : Int) ≤ 8) && (decide ((e.Done.length : Int) ≤ 1000) && decide ((e.WE.length : Int) ≤ 1000)))
def bh (e : aL) : Bool := iD e && (ew gH (fq e.Store) kk e.Ws && (e.Done.all (gp e.Store.Now) && e.WE.all fp))
def Q6 {e : aL} (h : iD e = false) : bh e = false := by unfold bh; rw [h]; rfl
def Kj {e : aL} (h : ew gH (fq e.Store) kk e.Ws = false) : bh e = false := by unfold bh; rw [h]; simp
def Kk {e : aL} (h : e.Done.all (gp e.Store.Now) = false) : bh e = false := by unfold bh; rw [h]; simp
def Kl {e : aL} (h : e.WE.all fp = false) : bh e = false := by unfold bh; rw [h]; simp
def Q7 {e : aL} (h1 : iD e = true) (h2 : ew gH (fq e.Store) kk e.Ws = true) (h3 : e.Done.all (gp e.Store.Now) = true) (h4 : e.WE.all fp = true) : bh e = true := by unfold bh; rw [h1, h2, h3, h4]; rfl
def gI {e : aL} (h : bh e = true) : dm e.Store = true ∧ go e.Order = true ∧ 0 ≤ e.Ww ∧ e.Ww.toNat < e.Store.Wr.length ∧ e.Ws.length ≤ 8 ∧ e.Done.length ≤ 1000 ∧ e.WE.length ≤ 1000 ∧ 0 ≤ e.Steps ∧ e.Steps ≤ 100000 ∧ (∀ a ∈ e.Ws, fq e.Store a = true) ∧ (∀ f ∈ e.Done, gp e.Store.Now f = true) ∧ ∀ c ∈ e.WE, fp c = true := by
 unfold bh iD at h
 simp only [bn, aV, decide_eq_true_eq] at h
 obtain ⟨⟨⟨h1, h2, h3, h4⟩, h5, h6, h7⟩, h8, h9, h10⟩ := h
 refine ⟨h1, h3, by omega, by omega, by omega, by omega, by omega, by omega, by omega, fun a ha => ?_, List.all_eq_true.1 h9, List.all_eq_true.1 h10⟩
 obtain ⟨k, hk, rfl⟩ := List.mem_iff_getElem.1 ha
 exact Az h8 hk
def pW (o : List Int) (k : Nat) : Bool := (List.range k).all fun i => b8 o (i : Int)
def wn {o : List Int} {k : Nat} : pW o (k + 1) = (pW o k && b8 o (k : Int)) := by simp [pW, List.range_succ]
def Km {o : List Int} : (pW o 3 && decide (o.length = 3)) = go o := by
 rw [Bool.and_comm, go, wn, wn, wn]
 show _ = (decide (o.length = 3) && (b8 o ((0 : Nat) : Int) && (b8 o ((1 : Nat) : Int) && b8 o ((2 : Nat) : Int))))
 simp [pW, Bool.and_assoc]
def Q8 {o : List Int} {k : Nat} (hk : k < 3) (h : b8 o (k : Int) = false) : go o = false := by
 rw [← Km]
 have : pW o 3 = false := by
  rw [← Bool.not_eq_true]
  intro hh
  have := List.all_eq_true.1 hh k (List.mem_range.2 hk)
  rw [h] at this; cases this
 rw [this]; rfl
def l9 (a : Ws) : Bool := decide (a.Cap = 0) || decide (a.Sent < a.Cap)
def pX (e : aL) (i : Int) : Bool := bh e && aV i 0 (e.Ws.length - 1) && l9 (e.Ws.getD i.toNat gH)
def i9 (e : aL) (a : Ws) : Bool := l9 a && b8 a.WB e.Ww
def gq (e : aL) (l : List Ws) : List Int := (l.filter (i9 e)).map fun a => a.Wt.Id
def parts (e : aL) : List Int := if bh e then gq e e.Ws else []
section
variable {e : aL} {l : List Ws} {k : Nat} {id : Int}
def Q9 (h : bh e = true) (hk : k < e.Ws.length) : pX e (k : Int) = l9 e.Ws[k] := by
 unfold pX
 rw [h, show aV (k : Int) 0 (e.Ws.length - 1) = true by simp [aV]; omega, Int.toNat_natCast, List.getD_eq_getElem?_getD, List.getElem?_eq_getElem hk]; rfl
def Kn (hk : k < l.length) (h : i9 e l[k] = true) : gq e (l.take (k + 1)) = gq e (l.take k) ++ [l[k].Wt.Id] := by
 unfold gq; rw [cn hk, eU]; simp [h]
def Ko (hk : k < l.length) (h : i9 e l[k] = false) : gq e (l.take (k + 1)) = gq e (l.take k) := by
 unfold gq; rw [cn hk, eU]; simp [h]
def AU : (gq e l).length ≤ l.length := by
 unfold gq; rw [ar]; exact iJ _ _
def ry (h : bh e = true) : parts e = gq e e.Ws := if_pos h
def Kp (h : bh e = false) : parts e = [] := if_neg (by rw [h]; simp)
def Ra (h : (k = e.Ws.length ∧ bh e = true) ∨ (k = 0 ∧ (e.Ws.length = 0 ∨ bh e = false))) : gq e (e.Ws.take k) = parts e := by
 rcases h with ⟨rfl, h⟩ | ⟨rfl, h⟩
 ·rw [cb, ry h]
 ·rw [List.take_zero]
  rcases h with h | h
  ·unfold parts
   rw [gO h]
   split <;> rfl
  ·rw [Kp h]; rfl
def wo : (parts e).length ≤ e.Ws.length := by
 unfold parts
 split
 ·exact AU
 ·exact Nat.zero_le _
def dD (id : Int) (a : Ws) : Bool := a.Wt.Id == id
def dn (l : List Ws) (id : Int) : Int := if l.any (dD id) then ((l.findIdx (dD id) : Nat) : Int) else -1
def AV (hk : k < l.length) (h : (l.take k).any (dD id) = false) (hy : dD id l[k] = true) : dn l id = (k : Int) := by
 have e : l.findIdx (dD id) = k := by
  rw [List.findIdx_eq hk]
  refine ⟨hy, fun j hj => ?_⟩
  rw [List.any_eq_false] at h
  have := h l[j] (by rw [w7]; exact ⟨j, by rw [bv]; omega, by simp⟩)
  simpa using this
 unfold dn
 rw [if_pos (pD hk hy), e]
def Rb (h : l.any (dD id) = false) : dn l id = -1 := if_neg (by rw [h]; simp)
def Rc (h : id ∈ gq e l) : 0 ≤ dn l id ∧ (dn l id).toNat < l.length := by
 unfold gq at h
 obtain ⟨a, ha, rfl⟩ := List.mem_map.1 h
 have ha := (List.mem_filter.1 ha).1
 have hany : l.any (dD a.Wt.Id) = true := List.any_eq_true.2 ⟨a, ha, by simp [dD]⟩
 have hlt : l.findIdx (dD a.Wt.Id) < l.length := List.findIdx_lt_length_of_exists ⟨a, ha, by simp [dD]⟩
 unfold dn
 rw [if_pos hany]
 omega
end
def mV (l : List Ws) (ids : List Int) : List Wt := ids.map fun id => (l.getD (dn l id).toNat gH).Wt
end
section
def ow (s : Store) : Nat := (cf s).length
def pY (s : Store) (k : Nat) : Nat := (c7 s k).length
def Kq {s : Store} {k : Nat} (hk : k < s.Wr.length) : pY s (k + 1) = pY s k + s.Wr[k].length := by unfold pY; rw [tw hk, aU]
def Rd {s : Store} (k : Nat) (hk : k ≤ s.Wr.length) : pY s k ≤ ow s := by
 unfold pY ow c7 cf
 have e : s.Wr.flatten = (s.Wr.take k).flatten ++ (s.Wr.drop k).flatten := by rw [← List.flatten_append, eA]
 rw [e, aU]; omega
def gJ (v : aT) (keep : List Int) : Bool := decide (v.WC = -1) || keep.any (ea v)
def Re {v : aT} {keep : List Int} {k : Nat} (hk : k < keep.length) (h : ea v keep[k] = true) : gJ v keep = true := by unfold gJ; rw [pD hk h]; simp
def Rf {v : aT} {keep : List Int} (h : keep.any (ea v) = false) : gJ v keep = decide (v.WC = -1) := by unfold gJ; rw [h]; simp
def mW (v : aT) (keep : List Int) (k : Nat) : Bool := decide (v.WC = -1) || (keep.take k).any (ea v)
def Rg {v : aT} {keep : List Int} {k : Nat} (hk : k < keep.length) : mW v keep (k + 1) = (mW v keep k || ea v keep[k]) := by
 unfold mW; rw [cn hk, List.any_append, ← Bool.or_assoc]; simp
def Kr {v : aT} {keep : List Int} : mW v keep keep.length = gJ v keep := by unfold mW gJ; rw [cb]
def mX (keep : List Int) (l : List aT) : List aT := l.filter fun v => gJ v keep
def fU (s : Store) (keep : List Int) : Store := if dm s then ⟨s.Wr.map (mX keep), s.Now⟩ else s
def ig (keep : List Int) (zs : List (aT × (Nat → Value))) : List (aT × (Nat → Value)) := zs.filter fun z => gJ z.1 keep
def gK (zss : List (List (aT × (Nat → Value)))) (keep : List Int) (k : Nat) : List (List (aT × (Nat → Value))) := (zss.take k).map (ig keep) ++ zss.drop k
section
variable {zss : List (List (aT × (Nat → Value)))} {keep : List Int} {k : Nat} {segs : List (List aT)}
def wq : (gK zss keep k).length = zss.length := by unfold gK; simp; omega
def Ks (hk : k < zss.length) (h : k < (gK zss keep k).length) : (gK zss keep k)[k]'h = zss[k] := by
 have h1 : (gK zss keep k)[k]? = some zss[k] := by
  unfold gK
  rw [List.getElem?_append_right (by simp; omega)]
  simp [Nat.min_eq_left (Nat.le_of_lt hk), hk]
 exact (List.getElem?_eq_some_iff.1 h1).2
def Kt (hk : k < zss.length) : (gK zss keep k).set k (ig keep zss[k]) = gK zss keep (k + 1) := by
 unfold gK
 have hl : ((zss.take k).map (ig keep)).length = k := by rw [ar, bv]; omega
 rw [List.set_append_right _ _ (by omega), hl, Nat.sub_self, List.drop_eq_getElem_cons hk, List.set_cons_zero, cn hk, bN]
 simp
def AW : gK zss keep zss.length = zss.map (ig keep) := by unfold gK; simp
def Ku : (zss.map (ig keep)).flatten.Sublist zss.flatten := by
 induction zss with
 | nil => exact List.Sublist.slnil
 | cons z l ih => rw [List.map_cons, List.flatten_cons, List.flatten_cons]; exact List.Sublist.append List.filter_sublist ih
def Rh (hz : zss.map (List.map Prod.fst) = segs) : (zss.map (ig keep)).map (List.map Prod.fst) = segs.map (mX keep) := by
 rw [← hz, List.map_map, List.map_map]
 refine List.map_congr_left fun zs _ => ?_
 simp only [Function.comp_apply, ig, mX, List.filter_map]
 rfl
def Kv (hz : zss.map (List.map Prod.fst) = segs) : zss.length = segs.length := by rw [← hz, ar]
def Ri (hz : zss.map (List.map Prod.fst) = segs) (hk : k < zss.length) (hk2 : k < segs.length) : zss[k].map Prod.fst = segs[k] := by subst hz; simp
def Kw (hz : zss.map (List.map Prod.fst) = segs) (hk : k < zss.length) (hk2 : k < segs.length) : zss[k].length = segs[k].length := by rw [← Ri hz hk hk2, ar]
def Kx (hz : zss.map (List.map Prod.fst) = segs) (hk : k < zss.length) (hk2 : k < segs.length) {j : Nat} (hj : j < zss[k].length) (hj2 : j < segs[k].length) : zss[k][j].1 = segs[k][j] := by
 subst hz; simp
def Ky {zs : List (aT × (Nat → Value))} {j : Nat} (hj : j < zs.length) (h : gJ zs[j].1 keep = true) : ig keep (zs.take (j + 1)) = ig keep (zs.take j) ++ [zs[j]] := by
 unfold ig; rw [cn hj, eU]; simp [h]
def Kz {zs : List (aT × (Nat → Value))} {j : Nat} (hj : j < zs.length) (h : gJ zs[j].1 keep = false) : ig keep (zs.take (j + 1)) = ig keep (zs.take j) := by
 unfold ig; rw [cn hj, eU]; simp [h]
def KA {zs : List (aT × (Nat → Value))} {j : Nat} : (ig keep (zs.take j)).length ≤ j := by
 have := iJ (fun z : aT × (Nat → Value) => gJ z.1 keep) (zs.take j)
 rw [bv] at this
 unfold ig; omega
end
def mY (s : Store) (i j : Nat) : List aT := (s.Wr.take i).flatten ++ (s.Wr.getD i []).take j
def iE (s : Store) (keep : List Int) (i j : Nat) : Nat := ((mY s i j).filter fun v => !gJ v keep).length
def KB {s : Store} {i j : Nat} (hi : i < s.Wr.length) (hj : j < s.Wr[i].length) : mY s i (j + 1) = mY s i j ++ [s.Wr[i][j]] := by
 unfold mY
 rw [show s.Wr.getD i [] = s.Wr[i] by simp [hi], cn hj, br]
def Rj {s : Store} {i : Nat} (hi : i < s.Wr.length) : mY s i s.Wr[i].length = mY s (i + 1) 0 := by
 unfold mY
 rw [show s.Wr.getD i [] = s.Wr[i] by simp [hi], cb, cn hi, List.flatten_append]
 simp
def Rk {s : Store} {keep : List Int} {i j : Nat} (hi : i < s.Wr.length) (hj : j < s.Wr[i].length) (h : gJ s.Wr[i][j] keep = true) : iE s keep i (j + 1) = iE s keep i j := by
 unfold iE; rw [KB hi hj, eU]; simp [h]
def Rl {s : Store} {keep : List Int} {i j : Nat} (hi : i < s.Wr.length) (hj : j < s.Wr[i].length) (h : gJ s.Wr[i][j] keep = false) : iE s keep i (j + 1) = iE s keep i j + 1 := by
 unfold iE; rw [KB hi hj, eU]; simp [h]
def Rm {s : Store} {keep : List Int} {i : Nat} (hi : i < s.Wr.length) : iE s keep i s.Wr[i].length = iE s keep (i + 1) 0 := by unfold iE; rw [Rj hi]
def Rn {s : Store} {keep : List Int} : iE s keep 0 0 = 0 := by simp [iE, mY]
def Ro {s : Store} {keep : List Int} {i j : Nat} (hi : i < s.Wr.length) : iE s keep i j ≤ (cf s).length := by
 unfold iE
 refine Nat.le_trans (iJ _ _) ?_
 unfold mY cf
 have h1 := tw (s := s) hi
 have h2 : (c7 s (i + 1)).length ≤ s.Wr.flatten.length := by
  unfold c7
  have e : s.Wr.flatten = (s.Wr.take (i + 1)).flatten ++ (s.Wr.drop (i + 1)).flatten := by rw [← List.flatten_append, eA]
  rw [e, aU]; omega
 rw [h1, aU] at h2
 rw [aU, bv, show s.Wr.getD i [] = s.Wr[i] by simp [hi]]
 unfold c7 at h2; omega
def KC (keep : List Int) : ∀ l : List aT, bU (mX keep l) ≤ bU l
 | [] => Nat.le_refl _
 | v :: l => by
  have ih := KC keep l
  unfold mX bU at *
  rw [List.filter_cons]
  split <;> simp only [List.length_cons, List.map_cons, List.sum_cons] <;> omega
def AX (s : Store) (keep : List Int) : b4 (fU s keep) ≤ b4 s := by
 unfold fU
 split
 ·unfold b4 eh
  dsimp only
  rw [ar, List.map_map]
  have : (s.Wr.map (bU ∘ mX keep)).sum ≤ (s.Wr.map bU).sum := by
   generalize s.Wr = l
   induction l with
   | nil => exact Nat.le_refl _
   | cons x l ih => simp only [List.map_cons, List.sum_cons, Function.comp] at *; have := KC keep x; omega
  omega
 ·exact Nat.le_refl _
def KD {s : Store} {keep : List Int} (h : dm s = true) : fU s keep = ⟨s.Wr.map (mX keep), s.Now⟩ := if_pos h
def KE {s : Store} {keep : List Int} (h : dm s = false) : fU s keep = s := if_neg (by rw [h]; simp)
def wt (s : Store) (keep : List Int) : Int := if dm s then (ow s : Int) - (ow (fU s keep) : Int) else 0
def wu (s : Store) (keep : List Int) : Int := if dm s then (iE s keep s.Wr.length 0 : Int) else 0
def fb (l : List Ws) : List Int := l.map fun a => a.Time
def dj (e : aL) : aL := ⟨fU e.Store (fb e.Ws), e.Ww, e.Order, e.Ws, e.Done, e.WE, e.Steps⟩
def mZ (z : aT × (Nat → Value)) : List PV := [PV.nv (z.2 0) (PV.val (vI z.1.Id)), PV.nv (z.2 1) (PV.sl .v (z.1.Values.map ak)), PV.nv (z.2 2) (PV.val (vI z.1.WG)), PV.nv (z.2 3) (PV.val (vI z.1.WC))]
def jU (zs : List (aT × (Nat → Value))) : List PV := [PV.sl aS (zs.map mZ)]
end
end Go.Proofs.YtmekkgdboplbjaaGreat
