/- Definitions and their laws. No condition. -/
import Derived.Test.YtmekkgdboplbjaaGreatCC0
import Derived.Test.YtmekkgdboplbjaaGreatProg
set_option linter.all false
namespace Go.Proofs.YtmekkgdboplbjaaGreat
open Go Go.RowKit M Tryz
set_option maxRecDepth 10000
section
section
variable {α : Type} {P : α → Bool} {xs ys : List α} {k : Nat}
def Cl (h : (xs.take k).all P = true) (hk : k < xs.length) (hp : P xs[k] = true) : (xs.take (k + 1)).all P = true := by
 rw [cy hk, List.all_append, h]; simp [hp]
def lZ (hk : k < xs.length) (hp : P xs[k] = false) : xs.all P = false := by
 rw [List.all_eq_false]; exact ⟨_, List.getElem_mem hk, by rw [hp]; simp⟩
def jY (h : (xs.take xs.length).all P = true) : xs.all P = true := by rwa [cn] at h
def qY (h : (xs.take k).any P = false) (hk : k < xs.length) (hp : P xs[k] = false) : (xs.take (k + 1)).any P = false := by
 rw [cy hk, List.any_append, h]; simp [hp]
def qZ (hk : k < xs.length) (hp : P xs[k] = true) : xs.any P = true := by
 rw [List.any_eq_true]; exact ⟨_, List.getElem_mem hk, hp⟩
def Mv (h : (xs.take xs.length).any P = false) : xs.any P = false := by rwa [cn] at h
def Cm (h : xs.take k = ys.take k) (hk : k < xs.length) (hk' : k < ys.length) (he : xs[k] = ys[k]) : xs.take (k + 1) = ys.take (k + 1) := by
 rw [cy hk, cy hk', h, he]
def Mw (hk : k < xs.length) (hk' : k < ys.length) (he : ¬ xs[k] = ys[k]) : ¬ xs = ys := by
 rintro rfl; exact he rfl
def Si (hl : xs.length = ys.length) (h : xs.take xs.length = ys.take xs.length) : xs = ys := by
 rw [cn] at h; rw [h, hl, cn]
def gq {f : α → Nat} (hk : k < xs.length) : ((xs.take (k + 1)).map f).sum = ((xs.take k).map f).sum + f xs[k] := by
 rw [cy hk, bT, List.sum_append]; simp
def pN {f : α → Nat} (xs : List α) (k : Nat) : ((xs.take k).map f).sum ≤ (xs.map f).sum := by
 have h : xs = xs.take k ++ xs.drop k := (fc _ _).symm
 have e : (xs.map f).sum = ((xs.take k).map f).sum + ((xs.drop k).map f).sum := by
  rw [← List.sum_append, ← bT, ← h]
 omega
def cT {f : α → Nat} (hk : k < xs.length) : f xs[k] ≤ (xs.map f).sum := by
 have h1 := gq (f := f) hk
 have h2 := pN (f := f) xs (k + 1)
 omega
noncomputable def du (x y : α) : Bool := @decide (x = y) (Classical.propDecidable _)
def jA {x y : α} (h : x = y) : du x y = true := @decide_eq_true _ (Classical.propDecidable _) h
def sX {x y : α} (h : ¬ x = y) : du x y = false := @decide_eq_false _ (Classical.propDecidable _) h
def gr {x y : α} : du x y = true ↔ x = y := @decide_eq_true_iff _ (Classical.propDecidable _)
def iW (x : α) : du x x = true := jA rfl
end
def bN (l n : Int) : Int := if n ≤ l then l - n else -1
def ck {l n : Int} (h : n ≤ l) : bN l n = l - n := if_pos h
def iG {l n : Int} (h : l < n) : bN l n = -1 := if_neg (by omega)
def fu {l w : Int} (_h0 : 0 ≤ l) (h : bN l w < 0) : l < w := by unfold bN at h; split at h <;> omega
def ez {l w : Int} (h : ¬ bN l w < 0) : w ≤ l := by unfold bN at h; split at h <;> omega
def uL {us : List Value} (h : us.length = 1) : ∃ v0, us = [v0] := by
 rcases us with _ | ⟨v0, _ | ⟨v1, vs⟩⟩ <;> first | exact ⟨_, rfl⟩ | (simp at h; try omega)
def Cn {us : List Value} (h : us.length = 2) : ∃ v0 v1, us = [v0, v1] := by
 rcases us with _ | ⟨v0, _ | ⟨v1, _ | ⟨v2, vs⟩⟩⟩ <;> first | exact ⟨_, _, rfl⟩ | (simp at h; try omega)
def Sj {us : List Value} (h : us.length = 4) : ∃ v0 v1 v2 v3, us = [v0, v1, v2, v3] := by
 rcases us with _ | ⟨v0, _ | ⟨v1, _ | ⟨v2, _ | ⟨v3, _ | ⟨v4, vs⟩⟩⟩⟩⟩ <;> first | exact ⟨_, _, _, _, rfl⟩ | (simp at h; try omega)
def Sk {us : List Value} (h : us.length = 5) : ∃ v0 v1 v2 v3 v4, us = [v0, v1, v2, v3, v4] := by
 rcases us with _ | ⟨v0, _ | ⟨v1, _ | ⟨v2, _ | ⟨v3, _ | ⟨v4, _ | ⟨v5, vs⟩⟩⟩⟩⟩⟩ <;> first | exact ⟨_, _, _, _, _, rfl⟩ | (simp at h; try omega)
def Sl {us : List Value} (h : us.length = 7) : ∃ v0 v1 v2 v3 v4 v5 v6, us = [v0, v1, v2, v3, v4, v5, v6] := by
 rcases us with _ | ⟨v0, _ | ⟨v1, _ | ⟨v2, _ | ⟨v3, _ | ⟨v4, _ | ⟨v5, _ | ⟨v6, _ | ⟨v7, vs⟩⟩⟩⟩⟩⟩⟩⟩ <;> first | exact ⟨_, _, _, _, _, _, _, rfl⟩ | (simp at h; try omega)
def xQ {us : List Value} (h : us.length = 8) : ∃ v0 v1 v2 v3 v4 v5 v6 v7, us = [v0, v1, v2, v3, v4, v5, v6, v7] := by
 rcases us with _ | ⟨v0, _ | ⟨v1, _ | ⟨v2, _ | ⟨v3, _ | ⟨v4, _ | ⟨v5, _ | ⟨v6, _ | ⟨v7, _ | ⟨v8, vs⟩⟩⟩⟩⟩⟩⟩⟩⟩ <;> first | exact ⟨_, _, _, _, _, _, _, _, rfl⟩ | (simp at h; try omega)
def Co {us : List Value} (h : us.length = 10) : ∃ v0 v1 v2 v3 v4 v5 v6 v7 v8 v9, us = [v0, v1, v2, v3, v4, v5, v6, v7, v8, v9] := by
 rcases us with _ | ⟨v0, _ | ⟨v1, _ | ⟨v2, _ | ⟨v3, _ | ⟨v4, _ | ⟨v5, _ | ⟨v6, _ | ⟨v7, _ | ⟨v8, _ | ⟨v9, _ | ⟨v10, vs⟩⟩⟩⟩⟩⟩⟩⟩⟩⟩⟩ <;> first | exact ⟨_, _, _, _, _, _, _, _, _, _, rfl⟩ | (simp at h; try omega)
def Sm {us : List Value} (h : us.length = 13) : ∃ v0 v1 v2 v3 v4 v5 v6 v7 v8 v9 v10 v11 v12, us = [v0, v1, v2, v3, v4, v5, v6, v7, v8, v9, v10, v11, v12] := by
 rcases us with _ | ⟨v0, _ | ⟨v1, _ | ⟨v2, _ | ⟨v3, _ | ⟨v4, _ | ⟨v5, _ | ⟨v6, _ | ⟨v7, _ | ⟨v8, _ | ⟨v9, _ | ⟨v10, _ | ⟨v11, _ | ⟨v12, _ | ⟨v13, vs⟩⟩⟩⟩⟩⟩⟩⟩⟩⟩⟩⟩⟩⟩ <;> first | exact ⟨_, _, _, _, _, _, _, _, _, _, _, _, _, rfl⟩ | (simp at h; try omega)
def ak (x : Int) : List PV := [PV.val (vI x)]
def eI (x : Int) : Prop := mF x
def bd (_x : Int) : Nat := 0
def Sn (o0 : Fl) (x : List Int) : List PV := [PV.sl o0 (x.map ak)]
def oK (x : List Int) : Prop := ∀ y ∈ x, eI y
def cf (x : List Int) : Nat := x.length + (x.map bd).sum
structure dg where
 Field : Int
 Low : Int
 High : Int
def bj (x : dg) : List PV := [PV.val (vI x.Field), PV.val (vI x.Low), PV.val (vI x.High)]
def Mx (x : dg) : Prop := eI x.Field ∧ eI x.Low ∧ eI x.High
def mW (x : dg) : Nat := bd x.Field + bd x.Low + bd x.High
def So {x y : dg} (h0 : x.Field = y.Field) (h1 : x.Low = y.Low) (h2 : x.High = y.High) : x = y := by cases x; cases y; simp_all
structure cU where
 Segment : Int
 Base : Int
 Ids : List Int
 acA : List Int
 Rows : List Int
def aZ (o0 o1 o2 : Fl) (x : cU) : List PV := [PV.val (vI x.Segment), PV.val (vI x.Base), PV.sl o0 (x.Ids.map ak), PV.sl o1 (x.acA.map ak), PV.sl o2 (x.Rows.map ak)]
def My (x : cU) : Prop := eI x.Segment ∧ eI x.Base ∧ oK x.Ids ∧ oK x.acA ∧ oK x.Rows
def fi (x : cU) : Nat := bd x.Segment + bd x.Base + cf x.Ids + cf x.acA + cf x.Rows
def Sp {x y : cU} (h0 : x.Segment = y.Segment) (h1 : x.Base = y.Base) (h2 : x.Ids = y.Ids) (h3 : x.acA = y.acA) (h4 : x.Rows = y.Rows) : x = y := by cases x; cases y; simp_all
structure Row where
 Id : Int
 Values : List Int
def bC (o0 : Fl) (x : Row) : List PV := [PV.val (vI x.Id), PV.sl o0 (x.Values.map ak)]
def Cq (x : Row) : Prop := eI x.Id ∧ oK x.Values
def dv (x : Row) : Nat := bd x.Id + cf x.Values
def Sq {x y : Row} (h0 : x.Id = y.Id) (h1 : x.Values = y.Values) : x = y := by cases x; cases y; simp_all
def Sr (o0 : Fl) (x : List dg) : List PV := [PV.sl o0 (x.map bj)]
def Mz (x : List dg) : Prop := ∀ y ∈ x, Mx y
def iX (x : List dg) : Nat := x.length + (x.map mW).sum
structure aU where
 Id : Int
 Values : List Int
 acI : Int
 acE : Int
def cX (o0 : Fl) (x : aU) : List PV := [PV.val (vI x.Id), PV.sl o0 (x.Values.map ak), PV.val (vI x.acI), PV.val (vI x.acE)]
def MA (x : aU) : Prop := eI x.Id ∧ oK x.Values ∧ eI x.acI ∧ eI x.acE
def bW (x : aU) : Nat := bd x.Id + cf x.Values + bd x.acI + bd x.acE
def Ss {x y : aU} (h0 : x.Id = y.Id) (h1 : x.Values = y.Values) (h2 : x.acI = y.acI) (h3 : x.acE = y.acE) : x = y := by cases x; cases y; simp_all
structure acv where
 Id : Int
 acz : Int
 acw : List dg
 Out : List Int
def jZ (o0 o1 : Fl) (x : acv) : List PV := [PV.val (vI x.Id), PV.val (vI x.acz), PV.sl o0 (x.acw.map bj), PV.sl o1 (x.Out.map ak)]
def xR (x : acv) : Prop := eI x.Id ∧ eI x.acz ∧ Mz x.acw ∧ oK x.Out
def cr (x : acv) : Nat := bd x.Id + bd x.acz + iX x.acw + cf x.Out
def Su {x y : acv} (h0 : x.Id = y.Id) (h1 : x.acz = y.acz) (h2 : x.acw = y.acw) (h3 : x.Out = y.Out) : x = y := by cases x; cases y; simp_all
def aC (o0 o1 : Fl) (x : List aU) : List PV := [PV.sl o0 (x.map (cX o1))]
def MB (x : List aU) : Prop := ∀ y ∈ x, MA y
def bX (x : List aU) : Nat := x.length + (x.map bW).sum
def Sv (o0 o1 : Fl) (x : List Row) : List PV := [PV.sl o0 (x.map (bC o1))]
def Cr (x : List Row) : Prop := ∀ y ∈ x, Cq y
def dH (x : List Row) : Nat := x.length + (x.map dv).sum
def Sw (o0 o1 o2 o3 : Fl) (x : List cU) : List PV := [PV.sl o0 (x.map (aZ o1 o2 o3))]
def MC (x : List cU) : Prop := ∀ y ∈ x, My y
def dP (x : List cU) : Nat := x.length + (x.map fi).sum
structure acx where
 Kind : Int
 Row : Row
 Field : Int
 Value : Int
def Sx (o0 : Fl) (x : acx) : List PV := [PV.val (vI x.Kind), PV.val (vI x.Row.Id), PV.sl o0 (x.Row.Values.map ak), PV.val (vI x.Field), PV.val (vI x.Value)]
def MD (x : acx) : Prop := eI x.Kind ∧ Cq x.Row ∧ eI x.Field ∧ eI x.Value
def hO (x : acx) : Nat := bd x.Kind + dv x.Row + bd x.Field + bd x.Value
def Sy {x y : acx} (h0 : x.Kind = y.Kind) (h1 : x.Row = y.Row) (h2 : x.Field = y.Field) (h3 : x.Value = y.Value) : x = y := by cases x; cases y; simp_all
structure cI where
 acv : acv
 Time : Int
 Steps : Int
 Rows : List Row
def aX (o0 o1 o2 o3 : Fl) (x : cI) : List PV := [PV.val (vI x.acv.Id), PV.val (vI x.acv.acz), PV.sl o0 (x.acv.acw.map bj), PV.sl o1 (x.acv.Out.map ak), PV.val (vI x.Time), PV.val (vI x.Steps), PV.sl o2 (x.Rows.map (bC o3))]
def ME (x : cI) : Prop := xR x.acv ∧ eI x.Time ∧ eI x.Steps ∧ Cr x.Rows
def eJ (x : cI) : Nat := cr x.acv + bd x.Time + bd x.Steps + dH x.Rows
def Sz {x y : cI} (h0 : x.acv = y.acv) (h1 : x.Time = y.Time) (h2 : x.Steps = y.Steps) (h3 : x.Rows = y.Rows) : x = y := by cases x; cases y; simp_all
def SA (o0 o1 o2 : Fl) (x : List (List aU)) : List PV := [PV.sl o0 (x.map (aC o1 o2))]
def MF (x : List (List aU)) : Prop := ∀ y ∈ x, MB y
def eO (x : List (List aU)) : Nat := x.length + (x.map bX).sum
structure cC where
 Kind : Int
 acv : acv
 Limit : Int
 Id : Int
 acx : acx
 Steps : Int
def hP (o0 o1 o2 : Fl) (x : cC) : List PV := [PV.val (vI x.Kind), PV.val (vI x.acv.Id), PV.val (vI x.acv.acz), PV.sl o0 (x.acv.acw.map bj), PV.sl o1 (x.acv.Out.map ak), PV.val (vI x.Limit), PV.val (vI x.Id), PV.val (vI x.acx.Kind), PV.val (vI x.acx.Row.Id), PV.sl o2 (x.acx.Row.Values.map ak), PV.val (vI x.acx.Field), PV.val (vI x.acx.Value), PV.val (vI x.Steps)]
def MG (x : cC) : Prop := eI x.Kind ∧ xR x.acv ∧ eI x.Limit ∧ eI x.Id ∧ MD x.acx ∧ eI x.Steps
def fG (x : cC) : Nat := bd x.Kind + cr x.acv + bd x.Limit + bd x.Id + hO x.acx + bd x.Steps
def SB {x y : cC} (h0 : x.Kind = y.Kind) (h1 : x.acv = y.acv) (h2 : x.Limit = y.Limit) (h3 : x.Id = y.Id) (h4 : x.acx = y.acx) (h5 : x.Steps = y.Steps) : x = y := by cases x; cases y; simp_all
structure acu where
 acv : acv
 Time : Int
 acD : List Int
 Age : Int
 Sent : Int
 Cap : Int
 Rows : List Row
def aQ (o0 o1 o2 o3 o4 : Fl) (x : acu) : List PV := [PV.val (vI x.acv.Id), PV.val (vI x.acv.acz), PV.sl o0 (x.acv.acw.map bj), PV.sl o1 (x.acv.Out.map ak), PV.val (vI x.Time), PV.sl o2 (x.acD.map ak), PV.val (vI x.Age), PV.val (vI x.Sent), PV.val (vI x.Cap), PV.sl o3 (x.Rows.map (bC o4))]
def MH (x : acu) : Prop := xR x.acv ∧ eI x.Time ∧ oK x.acD ∧ eI x.Age ∧ eI x.Sent ∧ eI x.Cap ∧ Cr x.Rows
def bZ (x : acu) : Nat := cr x.acv + bd x.Time + cf x.acD + bd x.Age + bd x.Sent + bd x.Cap + dH x.Rows
def SC {x y : acu} (h0 : x.acv = y.acv) (h1 : x.Time = y.Time) (h2 : x.acD = y.acD) (h3 : x.Age = y.Age) (h4 : x.Sent = y.Sent) (h5 : x.Cap = y.Cap) (h6 : x.Rows = y.Rows) : x = y := by cases x; cases y; simp_all
def SD (o0 o1 o2 o3 o4 o5 : Fl) (x : List acu) : List PV := [PV.sl o0 (x.map (aQ o1 o2 o3 o4 o5))]
def MI (x : List acu) : Prop := ∀ y ∈ x, MH y
def da (x : List acu) : Nat := x.length + (x.map bZ).sum
structure Store where
 act : List (List aU)
 Now : Int
def Cs (o0 o1 o2 : Fl) (x : Store) : List PV := [PV.sl o0 (x.act.map (aC o1 o2)), PV.val (vI x.Now)]
def MJ (x : Store) : Prop := MF x.act ∧ eI x.Now
def cd (x : Store) : Nat := eO x.act + bd x.Now
def SE {x y : Store} (h0 : x.act = y.act) (h1 : x.Now = y.Now) : x = y := by cases x; cases y; simp_all
def SF (o0 o1 o2 o3 : Fl) (x : List cC) : List PV := [PV.sl o0 (x.map (hP o1 o2 o3))]
def SG (x : List cC) : Prop := ∀ y ∈ x, MG y
def kH (x : List cC) : Nat := x.length + (x.map fG).sum
def SH (o0 o1 o2 o3 o4 : Fl) (x : List cI) : List PV := [PV.sl o0 (x.map (aX o1 o2 o3 o4))]
def MK (x : List cI) : Prop := ∀ y ∈ x, ME y
def dQ (x : List cI) : Nat := x.length + (x.map eJ).sum
structure aD where
 Store : Store
 acy : Int
 Order : List Int
 acu : List acu
 Done : List cI
 acG : List cU
 Steps : Int
def Ct (o0 o1 o2 o3 o4 o5 o6 o7 o8 o9 o10 o11 o12 o13 o14 o15 o16 o17 o18 : Fl) (x : aD) : List PV := [PV.sl o0 (x.Store.act.map (aC o1 o2)), PV.val (vI x.Store.Now), PV.val (vI x.acy), PV.sl o3 (x.Order.map ak), PV.sl o4 (x.acu.map (aQ o5 o6 o7 o8 o9)), PV.sl o10 (x.Done.map (aX o11 o12 o13 o14)), PV.sl o15 (x.acG.map (aZ o16 o17 o18)), PV.val (vI x.Steps)]
def SI (x : aD) : Prop := MJ x.Store ∧ eI x.acy ∧ oK x.Order ∧ MI x.acu ∧ MK x.Done ∧ MC x.acG ∧ eI x.Steps
def bi (x : aD) : Nat := cd x.Store + bd x.acy + cf x.Order + da x.acu + dQ x.Done + dP x.acG + bd x.Steps
def SJ {x y : aD} (h0 : x.Store = y.Store) (h1 : x.acy = y.acy) (h2 : x.Order = y.Order) (h3 : x.acu = y.acu) (h4 : x.Done = y.Done) (h5 : x.acG = y.acG) (h6 : x.Steps = y.Steps) : x = y := by cases x; cases y; simp_all
def xS (x : List acv) : Nat := x.length + (x.map cr).sum
structure eA where
 From : Int
 To : Int
 Set : List Int
def pO (o0 : Fl) (x : eA) : List PV := [PV.val (vI x.From), PV.val (vI x.To), PV.sl o0 (x.Set.map ak)]
def Cu (o0 o1 : Fl) (x : List eA) : List PV := [PV.sl o0 (x.map (pO o1))]
structure jB where
 Queries : List acv
 Fields : List (List eA)
def Cv (o0 o1 o2 o3 o4 o5 : Fl) (x : jB) : List PV := [PV.sl o0 (x.Queries.map (jZ o1 o2)), PV.sl o3 (x.Fields.map (Cu o4 o5))]
def aR (x : Int) (k : Int) : Int × Int := (k, (k + 1))
def dy (x : Int) (k : Int) : k ≤ (aR x k).2 := by
 show k ≤ (k + 1)
 omega
def bz (x : dg) (k : Int) : dg × Int := (⟨k, (k + 1), ((k + 1) + 1)⟩, (((k + 1) + 1) + 1))
def lb (x : dg) (k : Int) : k ≤ (bz x k).2 := by
 show k ≤ (((k + 1) + 1) + 1)
 omega
def fj (x : cU) (k : Int) : cU × Int := (⟨k, (k + 1), (aj aR x.Ids ((k + 1) + 1)).1, (aj aR x.acA (aj aR x.Ids ((k + 1) + 1)).2).1, (aj aR x.Rows (aj aR x.acA (aj aR x.Ids ((k + 1) + 1)).2).2).1⟩, (aj aR x.Rows (aj aR x.acA (aj aR x.Ids ((k + 1) + 1)).2).2).2)
def ra (x : cU) (k : Int) : k ≤ (fj x k).2 := by
 show k ≤ (aj aR x.Rows (aj aR x.acA (aj aR x.Ids ((k + 1) + 1)).2).2).2
 have h0 := bp dy x.Ids ((k + 1) + 1)
 have h1 := bp dy x.acA (aj aR x.Ids ((k + 1) + 1)).2
 have h2 := bp dy x.Rows (aj aR x.acA (aj aR x.Ids ((k + 1) + 1)).2).2
 omega
def fk (x : Row) (k : Int) : Row × Int := (⟨k, (aj aR x.Values (k + 1)).1⟩, (aj aR x.Values (k + 1)).2)
def mX (x : Row) (k : Int) : k ≤ (fk x k).2 := by
 show k ≤ (aj aR x.Values (k + 1)).2
 have h0 := bp dy x.Values (k + 1)
 omega
def gt (x : aU) (k : Int) : aU × Int := (⟨k, (aj aR x.Values (k + 1)).1, (aj aR x.Values (k + 1)).2, ((aj aR x.Values (k + 1)).2 + 1)⟩, (((aj aR x.Values (k + 1)).2 + 1) + 1))
def rc (x : aU) (k : Int) : k ≤ (gt x k).2 := by
 show k ≤ (((aj aR x.Values (k + 1)).2 + 1) + 1)
 have h0 := bp dy x.Values (k + 1)
 omega
def cw (x : List aU) (k : Int) : (List aU) × Int := ((aj gt x k).1, (aj gt x k).2)
def oL (x : List aU) (k : Int) : k ≤ (cw x k).2 := by
 show k ≤ (aj gt x k).2
 have h0 := bp rc x k
 omega
def kI (x : cC) (k : Int) : cC × Int := (⟨k, ⟨(k + 1), ((k + 1) + 1), (aj bz x.acv.acw (((k + 1) + 1) + 1)).1, (aj aR x.acv.Out (aj bz x.acv.acw (((k + 1) + 1) + 1)).2).1⟩, (aj aR x.acv.Out (aj bz x.acv.acw (((k + 1) + 1) + 1)).2).2, ((aj aR x.acv.Out (aj bz x.acv.acw (((k + 1) + 1) + 1)).2).2 + 1), ⟨(((aj aR x.acv.Out (aj bz x.acv.acw (((k + 1) + 1) + 1)).2).2 + 1) + 1), ⟨((((aj aR x.acv.Out (aj bz x.acv.acw (((k + 1) + 1) + 1)).2).2 + 1) + 1) + 1), (aj aR x.acx.Row.Values (((((aj aR x.acv.Out (aj bz x.acv.acw (((k + 1) + 1) + 1)).2).2 + 1) + 1) + 1) + 1)).1⟩, (aj aR x.acx.Row.Values (((((aj aR x.acv.Out (aj bz x.acv.acw (((k + 1) + 1) + 1)).2).2 + 1) + 1) + 1) + 1)).2, ((aj aR x.acx.Row.Values (((((aj aR x.acv.Out (aj bz x.acv.acw (((k + 1) + 1) + 1)).2).2 + 1) + 1) + 1) + 1)).2 + 1)⟩, (((aj aR x.acx.Row.Values (((((aj aR x.acv.Out (aj bz x.acv.acw (((k + 1) + 1) + 1)).2).2 + 1) + 1) + 1) + 1)).2 + 1) + 1)⟩, ((((aj aR x.acx.Row.Values (((((aj aR x.acv.Out (aj bz x.acv.acw (((k + 1) + 1) + 1)).2).2 + 1) + 1) + 1) + 1)).2 + 1) + 1) + 1))
def Cw (x : cC) (k : Int) : k ≤ (kI x k).2 := by
 show k ≤ ((((aj aR x.acx.Row.Values (((((aj aR x.acv.Out (aj bz x.acv.acw (((k + 1) + 1) + 1)).2).2 + 1) + 1) + 1) + 1)).2 + 1) + 1) + 1)
 have h0 := bp lb x.acv.acw (((k + 1) + 1) + 1)
 have h1 := bp dy x.acv.Out (aj bz x.acv.acw (((k + 1) + 1) + 1)).2
 have h2 := bp dy x.acx.Row.Values (((((aj aR x.acv.Out (aj bz x.acv.acw (((k + 1) + 1) + 1)).2).2 + 1) + 1) + 1) + 1)
 omega
def gu (x : Store) (k : Int) : Store × Int := (⟨(aj cw x.act k).1, x.Now⟩, (aj cw x.act k).2)
def dh (x : acu) (k : Int) : acu × Int := (⟨⟨k, (k + 1), (aj bz x.acv.acw ((k + 1) + 1)).1, (aj aR x.acv.Out (aj bz x.acv.acw ((k + 1) + 1)).2).1⟩, (aj aR x.acv.Out (aj bz x.acv.acw ((k + 1) + 1)).2).2, (aj aR x.acD ((aj aR x.acv.Out (aj bz x.acv.acw ((k + 1) + 1)).2).2 + 1)).1, (aj aR x.acD ((aj aR x.acv.Out (aj bz x.acv.acw ((k + 1) + 1)).2).2 + 1)).2, ((aj aR x.acD ((aj aR x.acv.Out (aj bz x.acv.acw ((k + 1) + 1)).2).2 + 1)).2 + 1), (((aj aR x.acD ((aj aR x.acv.Out (aj bz x.acv.acw ((k + 1) + 1)).2).2 + 1)).2 + 1) + 1), (aj fk x.Rows ((((aj aR x.acD ((aj aR x.acv.Out (aj bz x.acv.acw ((k + 1) + 1)).2).2 + 1)).2 + 1) + 1) + 1)).1⟩, (aj fk x.Rows ((((aj aR x.acD ((aj aR x.acv.Out (aj bz x.acv.acw ((k + 1) + 1)).2).2 + 1)).2 + 1) + 1) + 1)).2)
def re (x : acu) (k : Int) : k ≤ (dh x k).2 := by
 show k ≤ (aj fk x.Rows ((((aj aR x.acD ((aj aR x.acv.Out (aj bz x.acv.acw ((k + 1) + 1)).2).2 + 1)).2 + 1) + 1) + 1)).2
 have h0 := bp lb x.acv.acw ((k + 1) + 1)
 have h1 := bp dy x.acv.Out (aj bz x.acv.acw ((k + 1) + 1)).2
 have h2 := bp dy x.acD ((aj aR x.acv.Out (aj bz x.acv.acw ((k + 1) + 1)).2).2 + 1)
 have h3 := bp mX x.Rows ((((aj aR x.acD ((aj aR x.acv.Out (aj bz x.acv.acw ((k + 1) + 1)).2).2 + 1)).2 + 1) + 1) + 1)
 omega
def ej (x : cI) (k : Int) : cI × Int := (⟨⟨k, (k + 1), (aj bz x.acv.acw ((k + 1) + 1)).1, (aj aR x.acv.Out (aj bz x.acv.acw ((k + 1) + 1)).2).1⟩, (aj aR x.acv.Out (aj bz x.acv.acw ((k + 1) + 1)).2).2, ((aj aR x.acv.Out (aj bz x.acv.acw ((k + 1) + 1)).2).2 + 1), (aj fk x.Rows (((aj aR x.acv.Out (aj bz x.acv.acw ((k + 1) + 1)).2).2 + 1) + 1)).1⟩, (aj fk x.Rows (((aj aR x.acv.Out (aj bz x.acv.acw ((k + 1) + 1)).2).2 + 1) + 1)).2)
def rf (x : cI) (k : Int) : k ≤ (ej x k).2 := by
 show k ≤ (aj fk x.Rows (((aj aR x.acv.Out (aj bz x.acv.acw ((k + 1) + 1)).2).2 + 1) + 1)).2
 have h0 := bp lb x.acv.acw ((k + 1) + 1)
 have h1 := bp dy x.acv.Out (aj bz x.acv.acw ((k + 1) + 1)).2
 have h2 := bp mX x.Rows (((aj aR x.acv.Out (aj bz x.acv.acw ((k + 1) + 1)).2).2 + 1) + 1)
 omega
def gT (x : aD) (k : Int) : aD × Int := (⟨⟨(aj cw x.Store.act k).1, x.Store.Now⟩, x.acy, (aj aR x.Order (aj cw x.Store.act k).2).1, (aj dh x.acu (aj aR x.Order (aj cw x.Store.act k).2).2).1, (aj ej x.Done (aj dh x.acu (aj aR x.Order (aj cw x.Store.act k).2).2).2).1, (aj fj x.acG (aj ej x.Done (aj dh x.acu (aj aR x.Order (aj cw x.Store.act k).2).2).2).2).1, x.Steps⟩, (aj fj x.acG (aj ej x.Done (aj dh x.acu (aj aR x.Order (aj cw x.Store.act k).2).2).2).2).2)
def ML (x : aD) (k : Int) : k ≤ (gT x k).2 := by
 show k ≤ (aj fj x.acG (aj ej x.Done (aj dh x.acu (aj aR x.Order (aj cw x.Store.act k).2).2).2).2).2
 have h0 := bp oL x.Store.act k
 have h1 := bp dy x.Order (aj cw x.Store.act k).2
 have h2 := bp re x.acu (aj aR x.Order (aj cw x.Store.act k).2).2
 have h3 := bp rf x.Done (aj dh x.acu (aj aR x.Order (aj cw x.Store.act k).2).2).2
 have h4 := bp ra x.acG (aj ej x.Done (aj dh x.acu (aj aR x.Order (aj cw x.Store.act k).2).2).2).2
 omega
def SK (x : Int) (k : Int) : (aR x k).2 ≤ k + 1 + 0 * (bd x : Int) := by simp [aR]
def ma (x : List Int) (k : Int) : (aj aR x k).2 ≤ k + 1 * (cf x : Int) := mG (s := 1) (c := 0) SK (by decide) (by decide) x k
def SL (x : dg) (k : Int) : (bz x k).2 ≤ k + 3 + 0 * (mW x : Int) := by
 show (((k + 1) + 1) + 1) ≤ _
 simp only [mW, bd, Int.natCast_add, Int.natCast_zero]
 omega
def Cx (x : List dg) (k : Int) : (aj bz x k).2 ≤ k + 3 * (iX x : Int) := mG (s := 3) (c := 0) SL (by decide) (by decide) x k
def SM (x : Row) (k : Int) : (fk x k).2 ≤ k + 1 + 1 * (dv x : Int) := by
 show (aj aR x.Values (k + 1)).2 ≤ _
 have h0 := ma x.Values (k + 1)
 simp only [bd, dv, Int.natCast_add, Int.natCast_zero]
 omega
def SN (x : cU) (k : Int) : (fj x k).2 ≤ k + 2 + 1 * (fi x : Int) := by
 show (aj aR x.Rows (aj aR x.acA (aj aR x.Ids ((k + 1) + 1)).2).2).2 ≤ _
 have h0 := ma x.Ids ((k + 1) + 1)
 have h1 := ma x.acA (aj aR x.Ids ((k + 1) + 1)).2
 have h2 := ma x.Rows (aj aR x.acA (aj aR x.Ids ((k + 1) + 1)).2).2
 simp only [fi, bd, Int.natCast_add, Int.natCast_zero]
 omega
def SO (x : List cU) (k : Int) : (aj fj x k).2 ≤ k + 2 * (dP x : Int) := mG (s := 2) (c := 1) SN (by decide) (by decide) x k
def MM (x : List Row) (k : Int) : (aj fk x k).2 ≤ k + 1 * (dH x : Int) := mG (s := 1) (c := 1) SM (by decide) (by decide) x k
def SP (x : aU) (k : Int) : (gt x k).2 ≤ k + 3 + 1 * (bW x : Int) := by
 show (((aj aR x.Values (k + 1)).2 + 1) + 1) ≤ _
 have h0 := ma x.Values (k + 1)
 simp only [bd, bW, Int.natCast_add, Int.natCast_zero]
 omega
def SQ (x : List aU) (k : Int) : (aj gt x k).2 ≤ k + 3 * (bX x : Int) := mG (s := 3) (c := 1) SP (by decide) (by decide) x k
def SR (x : cC) (k : Int) : (kI x k).2 ≤ k + 10 + 3 * (fG x : Int) := by
 show ((((aj aR x.acx.Row.Values (((((aj aR x.acv.Out (aj bz x.acv.acw (((k + 1) + 1) + 1)).2).2 + 1) + 1) + 1) + 1)).2 + 1) + 1) + 1) ≤ _
 have h0 := Cx x.acv.acw (((k + 1) + 1) + 1)
 have h1 := ma x.acv.Out (aj bz x.acv.acw (((k + 1) + 1) + 1)).2
 have h2 := ma x.acx.Row.Values (((((aj aR x.acv.Out (aj bz x.acv.acw (((k + 1) + 1) + 1)).2).2 + 1) + 1) + 1) + 1)
 simp only [fG, bd, cr, dv, hO, Int.natCast_add, Int.natCast_zero]
 omega
def SS (x : List aU) (k : Int) : (cw x k).2 ≤ k + 0 + 3 * (bX x : Int) := by
 have h := SQ x k
 show (aj gt x k).2 ≤ _
 omega
def SU (x : List (List aU)) (k : Int) : (aj cw x k).2 ≤ k + 3 * (eO x : Int) := mG (s := 0) (c := 3) SS (by decide) (by decide) x k
def SV (x : List cC) (k : Int) : (aj kI x k).2 ≤ k + 10 * (kH x : Int) := mG (s := 10) (c := 3) SR (by decide) (by decide) x k
def SX (x : acu) (k : Int) : (dh x k).2 ≤ k + 6 + 3 * (bZ x : Int) := by
 show (aj fk x.Rows ((((aj aR x.acD ((aj aR x.acv.Out (aj bz x.acv.acw ((k + 1) + 1)).2).2 + 1)).2 + 1) + 1) + 1)).2 ≤ _
 have h0 := Cx x.acv.acw ((k + 1) + 1)
 have h1 := ma x.acv.Out (aj bz x.acv.acw ((k + 1) + 1)).2
 have h2 := ma x.acD ((aj aR x.acv.Out (aj bz x.acv.acw ((k + 1) + 1)).2).2 + 1)
 have h3 := MM x.Rows ((((aj aR x.acD ((aj aR x.acv.Out (aj bz x.acv.acw ((k + 1) + 1)).2).2 + 1)).2 + 1) + 1) + 1)
 simp only [bZ, bd, cr, Int.natCast_add, Int.natCast_zero]
 omega
def SY (x : List acu) (k : Int) : (aj dh x k).2 ≤ k + 6 * (da x : Int) := mG (s := 6) (c := 3) SX (by decide) (by decide) x k
def SZ (x : cI) (k : Int) : (ej x k).2 ≤ k + 4 + 3 * (eJ x : Int) := by
 show (aj fk x.Rows (((aj aR x.acv.Out (aj bz x.acv.acw ((k + 1) + 1)).2).2 + 1) + 1)).2 ≤ _
 have h0 := Cx x.acv.acw ((k + 1) + 1)
 have h1 := ma x.acv.Out (aj bz x.acv.acw ((k + 1) + 1)).2
 have h2 := MM x.Rows (((aj aR x.acv.Out (aj bz x.acv.acw ((k + 1) + 1)).2).2 + 1) + 1)
 simp only [eJ, bd, cr, Int.natCast_add, Int.natCast_zero]
 omega
def Ta (x : List cI) (k : Int) : (aj ej x k).2 ≤ k + 4 * (dQ x : Int) := mG (s := 4) (c := 3) SZ (by decide) (by decide) x k
def MN (x : aD) (k : Int) : (gT x k).2 ≤ k + 0 + 6 * (bi x : Int) := by
 show (aj fj x.acG (aj ej x.Done (aj dh x.acu (aj aR x.Order (aj cw x.Store.act k).2).2).2).2).2 ≤ _
 have h0 := SU x.Store.act k
 have h1 := ma x.Order (aj cw x.Store.act k).2
 have h2 := SY x.acu (aj aR x.Order (aj cw x.Store.act k).2).2
 have h3 := Ta x.Done (aj dh x.acu (aj aR x.Order (aj cw x.Store.act k).2).2).2
 have h4 := SO x.acG (aj ej x.Done (aj dh x.acu (aj aR x.Order (aj cw x.Store.act k).2).2).2).2
 simp only [bi, bd, cd, Int.natCast_add, Int.natCast_zero]
 omega
def uM {α : Type} {xs : List α} {k : Nat} (hk : k < xs.length) : xs.take (k + 1) = xs.take k ++ [xs[k]] := cy hk
def iH {α : Type} {l : List α} {d : α} {i : Nat} (h : i < l.length) : l[i] = l.getD i d := by simp [h]
def xT {α β : Type} {l : List α} {f : α → β} {k : Nat} (h : k < l.length) : (l.take (k + 1)).map f = (l.take k).map f ++ [f l[k]] := by
 rw [cy h, bT]; rfl
def MO {a b : Int} : (a == b) = decide (a = b) := rfl
def ek (x : List Int) : cf x = x.length := by
 have h : ∀ l : List Int, (l.map bd).sum = 0 := by
  intro l
  induction l with
  | nil => rfl
  | cons a l ih => rw [List.map_cons, List.sum_cons, ih]; rfl
 simp [cf, h]
def ci (xs : List Int) (x : Int) : Bool := xs.any (fun y => y == x)
def aW (n l h : Int) : Bool := decide (l ≤ n) && decide (n ≤ h)
def ka (v : Int) : Bool := aW v 0 99
def dR (r : Row) : Bool := r.Values.all ka && (aW r.Id 0 999 && decide ((r.Values.length : Int) = 3))
def pP (l : List Row) : Bool := l.all dR && decide ((l.length : Int) ≤ 1000)
def Tb {x y : Row} : x = y ↔ x.Id = y.Id ∧ x.Values = y.Values := by cases x; cases y; simp_all
def dS (l : List Int) : Bool := (List.range l.length).all fun i => aW (l.getD i 0) 0 23 && (i == 0 || decide (l.getD (i - 1) 0 < l.getD i 0))
def uN (l : List Int) (k : Nat) : Bool := (List.range k).all fun i => aW (l.getD i 0) 0 23 && (i == 0 || decide (l.getD (i - 1) 0 < l.getD i 0))
def Tc {l : List Int} {k : Nat} : uN l (k + 1) = (uN l k && (aW (l.getD k 0) 0 23 && (k == 0 || decide (l.getD (k - 1) 0 < l.getD k 0)))) := by
 simp [uN, List.range_succ]
def Td {l : List Int} {k : Nat} (hk : k < l.length) (h : (aW (l.getD k 0) 0 23 && (k == 0 || decide (l.getD (k - 1) 0 < l.getD k 0))) = false) : dS l = false := by
 cases hs : dS l with
 | false => rfl
 | true =>
  have := List.all_eq_true.1 hs k (List.mem_range.2 hk)
  rw [h] at this; cases this
def xU {l : List Int} {k : Nat} : (aW (l.getD k 0) 0 23 && (k == 0 || decide (l.getD (k - 1) 0 < l.getD k 0))) = true ↔ (0 ≤ l.getD k 0 ∧ l.getD k 0 ≤ 23 ∧ (k = 0 ∨ l.getD (k - 1) 0 < l.getD k 0)) := by
 simp [aW, and_assoc]
def mb (q : Int → Bool) (k : Nat) : List Int := ((List.range k).map fun i : Nat => (i : Int)).filter q
def Te {q : Int → Bool} {k : Nat} : mb q (k + 1) = mb q k ++ if q k then [(k : Int)] else [] := by
 simp only [mb, List.range_succ, bT, fA, List.map_cons, List.map_nil, List.filter_cons, List.filter_nil]
def MP (q : Int → Bool) (k : Nat) : (mb q k).length ≤ k := by
 have := ji q ((List.range k).map fun i : Nat => (i : Int))
 simpa [mb] using this
def oM (a b : List Int) : List Int := if dS a && dS b then mb (fun x => ci a x && ci b x) 24 else []
def Cy {l : List Int} {x : Int} : ci l x = true ↔ x ∈ l := by simp [ci]
def Cz {l : List Int} (h : dS l = true) {k : Nat} (hk : k < l.length) : 0 ≤ l[k] ∧ l[k] ≤ 23 ∧ (k = 0 ∨ l.getD (k - 1) 0 < l[k]) := by
 have := xU.1 (List.all_eq_true.1 h k (List.mem_range.2 hk))
 rwa [show l.getD k 0 = l[k] by simp [hk]] at this
def MQ {l : List Int} (h : dS l = true) : ∀ (j i : Nat) (hj : j < l.length) (hi : i < j), l[i] < l[j]
 | 0, i, _, hi => by omega
 | j + 1, i, hj, hi => by
  have h1 := (Cz h hj).2.2
  have e : l.getD (j + 1 - 1) 0 = l[j] := by simp [show j < l.length by omega]
  rw [e] at h1
  rcases Nat.lt_or_ge i j with h2 | h2
  ·have := MQ h j i (by omega) h2
   omega
  ·have : i = j := by omega
   subst this
   omega
def Tf {l : List Int} (h : dS l = true) : l.Pairwise (· < ·) := by
 rw [List.pairwise_iff_getElem]
 intro i j hi hj hij
 exact MQ h j i hj hij
def MR {m : Int} : ∀ {l : List Int}, l.Pairwise (· < ·) → l.filter (fun x => decide (x < m + 1)) = l.filter (fun x => decide (x < m)) ++ (if ci l m then [m] else [])
 | [], _ => by simp [ci]
 | x :: l, h => by
  rw [List.pairwise_cons] at h
  have ih := MR (m := m) h.2
  have hhx : ci (x :: l) m = (x == m || ci l m) := by simp [ci]
  by_cases h1 : x < m
  ·have e1 : decide (x < m + 1) = true := by simp; omega
   have e2 : decide (x < m) = true := by simpa using h1
   rw [List.filter_cons, List.filter_cons, if_pos e1, if_pos e2, ih, hhx, show (x == m) = false by simp; omega, Bool.false_or]
   rfl
  ·have hl : l.filter (fun x => decide (x < m)) = [] := by
    rw [List.filter_eq_nil_iff]; intro y hy; have := h.1 y hy; simp; omega
   have hl1 : l.filter (fun x => decide (x < m + 1)) = [] := by
    rw [List.filter_eq_nil_iff]; intro y hy; have := h.1 y hy; simp; omega
   have hm : ci l m = false := by
    cases hc : ci l m with
    | false => rfl
    | true => have := h.1 m (Cy.1 hc); omega
   have e2 : ¬ decide (x < m) = true := by simpa using h1
   by_cases h2 : x = m
   ·have e1 : decide (x < m + 1) = true := by simp; omega
    rw [List.filter_cons, List.filter_cons, if_pos e1, if_neg e2, hl, hl1, hhx, hm, show (x == m) = true by simpa using h2]
    simp [h2]
   ·have e1 : ¬ decide (x < m + 1) = true := by simp; omega
    rw [List.filter_cons, List.filter_cons, if_neg e1, if_neg e2, hl, hl1, hhx, hm, show (x == m) = false by simpa using h2]
    simp
def MS {l : List Int} (h : dS l = true) : ∀ m : Nat, mb (fun x => ci l x) m = l.filter (fun x => decide (x < (m : Int)))
 | 0 => by
  rw [show mb (fun x => ci l x) 0 = [] from rfl, eq_comm, List.filter_eq_nil_iff]
  intro y hy
  obtain ⟨k, hk, rfl⟩ := List.mem_iff_getElem.1 hy
  have := (Cz h hk).1
  simp; omega
 | m + 1 => by
  rw [Te, MS h m]
  have := MR (m := (m : Int)) (Tf h)
  rw [show ((m + 1 : Nat) : Int) = (m : Int) + 1 by omega, this]
def MT {l : List Int} (h : dS l = true) : mb (fun x => ci l x) 24 = l := by
 rw [MS h, List.filter_eq_self]
 intro y hy
 obtain ⟨k, hk, rfl⟩ := List.mem_iff_getElem.1 hy
 have := (Cz h hk).2.1
 simp; omega
def Tg {l : List Int} (h : dS l = true) : l.length ≤ 24 := by
 have := MP (fun x => ci l x) 24
 rwa [MT h] at this
def CA {a b : List Int} (h : dS a = true) : a.filter (fun x => ci b x) = mb (fun x => ci a x && ci b x) 24 := by
 conv => lhs; rw [← MT h]
 simp only [mb, List.filter_filter]
 congr 1
 funext x
 exact Bool.and_comm _ _
def Th {a b : List Int} {k : Nat} (hk : 0 < k → (dS a && dS b) = true) (h : (k = a.length ∧ (dS a && dS b) = true) ∨ (k = 0 ∧ (a.length = 0 ∨ (dS a && dS b) = false))) : (a.take k).filter (fun x => ci b x) = oM a b := by
 unfold oM
 rcases h with ⟨rfl, h⟩ | ⟨rfl, h⟩
 ·rw [cn, if_pos h]
  rw [bq] at h
  exact CA h.1
 ·split
  ·rename_i h2
   rcases h with h | h
   ·have : a = [] := im h
    subst this
    rw [bq] at h2
    rw [← CA h2.1]; simp
   ·rw [h] at h2; cases h2
  ·simp
def Ti (a b : List Int) : (oM a b).length ≤ 24 := by
 unfold oM
 split
 ·exact MP _ _
 ·simp
def kJ {α : Type} (d : α) (p : α → Bool) (r : α → α → Bool) (l : List α) (k : Nat) : Bool := (List.range k).all fun i => p (l.getD i d) && (i == 0 || r (l.getD (i - 1) d) (l.getD i d))
def fa {α : Type} (d : α) (p : α → Bool) (r : α → α → Bool) (l : List α) : Bool := kJ d p r l l.length
def xV {α : Type} {d : α} {p : α → Bool} {r : α → α → Bool} {l : List α} {k : Nat} : kJ d p r l (k + 1) = (kJ d p r l k && (p (l.getD k d) && (k == 0 || r (l.getD (k - 1) d) (l.getD k d)))) := by
 simp [kJ, List.range_succ]
def mc {α : Type} {d : α} {p : α → Bool} {r : α → α → Bool} {l : List α} {k : Nat} : (p (l.getD k d) && (k == 0 || r (l.getD (k - 1) d) (l.getD k d))) = true ↔ (p (l.getD k d) = true ∧ (k = 0 ∨ r (l.getD (k - 1) d) (l.getD k d) = true)) := by
 simp
def rg {α : Type} {d : α} {p : α → Bool} {r : α → α → Bool} {l : List α} {k : Nat} (hk : k < l.length) (h : (p (l.getD k d) && (k == 0 || r (l.getD (k - 1) d) (l.getD k d))) = false) : fa d p r l = false := by
 cases hs : fa d p r l with
 | false => rfl
 | true =>
  have := List.all_eq_true.1 hs k (List.mem_range.2 hk)
  rw [h] at this; cases this
def rh {α : Type} {d : α} {p : α → Bool} {r : α → α → Bool} {l : List α} {k : Nat} (h : kJ d p r l k = true) (hk : k = l.length) : fa d p r l = true := by subst hk; exact h
def gU {α : Type} {d : α} {l : List α} {k : Nat} (h : k < l.length) : l.getD k d = l[k] := by simp [h]
def ld (c : dg) : Bool := aW c.Field 0 2 && (decide (0 ≤ c.Low) && (decide (c.Low ≤ c.High) && decide (c.High ≤ 99)))
def mY (a b : dg) : Bool := decide (a.Field < b.Field)
def le (l : List dg) : Bool := fa ⟨0, 0, 0⟩ ld mY l
def jC (v : Int) : Bool := aW v 0 2
def md (l : List Int) : Bool := l.all jC && aW l.length 1 3
def cJ (q : acv) : Bool := (aW q.Id 0 23 && (aW q.acz 0 3 && decide ((q.acw.length : Int) ≤ 3))) && (le q.acw && md q.Out)
def sY (r : Row) : Bool := aW r.Id 0 999 && decide (r.Values.length = 0)
def jD (u : acx) : Bool :=
 if u.Kind = 1 then dR u.Row && (decide (u.Field = 0) && decide (u.Value = 0))
 else if u.Kind = 2 then sY u.Row && (decide (u.Field = 0) && decide (u.Value = 0))
 else if u.Kind = 3 then sY u.Row && (aW u.Field 0 2 && aW u.Value 0 99) else false
def MU {α : Type} {x y : α} : du x y = false ↔ ¬ x = y := ⟨fun h e => (by rw [jA e] at h; simp at h), sX⟩
def Tj {x y : dg} : x = y ↔ x.Field = y.Field ∧ x.Low = y.Low ∧ x.High = y.High := by cases x; cases y; simp [dg.mk.injEq]
def Tk {x y : acv} : x = y ↔ x.Id = y.Id ∧ x.acz = y.acz ∧ x.acw = y.acw ∧ x.Out = y.Out := by cases x; cases y; simp [acv.mk.injEq]
def Tl {x y : acx} : x = y ↔ x.Kind = y.Kind ∧ x.Row = y.Row ∧ x.Field = y.Field ∧ x.Value = y.Value := by cases x; cases y; simp [acx.mk.injEq]
def lf (q : acv) : Bool := decide (q.Id = 0) && (decide (q.acz = 0) && (decide (q.acw.length = 0) && decide (q.Out.length = 0)))
def lg (u : acx) : Bool := decide (u.Kind = 0) && (decide (u.Row.Id = 0) && (decide (u.Row.Values.length = 0) && (decide (u.Field = 0) && decide (u.Value = 0))))
def xW (q : acv) : du q ⟨0, 0, [], []⟩ = lf q := by
 rw [Bool.eq_iff_iff, gr]; cases q; simp [lf, List.length_eq_zero_iff]
def xX (u : acx) : du u ⟨0, ⟨0, []⟩, 0, 0⟩ = lg u := by
 rw [Bool.eq_iff_iff, gr]; rcases u with ⟨a, ⟨b, c⟩, d, e⟩; simp [lg, List.length_eq_zero_iff, and_assoc]
def fv (x : cC) : Bool :=
 if x.Kind = 1 then cJ x.acv && (aW x.Limit 0 32 && (decide (x.Id = 0) && (lg x.acx && decide (x.Steps = 0))))
 else if x.Kind = 2 then lf x.acv && (decide (x.Limit = 0) && (aW x.Id 0 23 && (lg x.acx && decide (x.Steps = 0))))
 else if x.Kind = 3 then lf x.acv && (decide (x.Limit = 0) && (decide (x.Id = 0) && (jD x.acx && decide (x.Steps = 0))))
 else if x.Kind = 4 then lf x.acv && (decide (x.Limit = 0) && (decide (x.Id = 0) && (lg x.acx && aW x.Steps 1 100)))
 else false
def MV {n l h : Int} : aW n l h = true ↔ l ≤ n ∧ n ≤ h := by simp [aW]
def MW {α : Type} {l : List α} {d : α} {i : Nat} (h : i < l.length) : l[i] = l.getD i d := by simp [h]
def iu (l : List Int) (f : Int) : Int := l.getD f.toNat 0
def uO (r : Row) (c : dg) : Bool := aW (iu r.Values c.Field) c.Low c.High
def fH (q : acv) (r : Row) : Bool := (dR r && cJ q) && q.acw.all (uO r)
def iv (f v : Int) (c : dg) : Bool := !(c.Field == f) || aW v c.Low c.High
def iI (q : acv) (f v : Int) : Bool := q.acw.all (iv f v)
def sZ {r : Row} (h : dR r = true) : r.Values.length = 3 := by simp [dR, aW] at h; omega
def CB {α : Type} {d : α} {p : α → Bool} {r : α → α → Bool} {l : List α} (h : fa d p r l = true) {k : Nat} (hk : k < l.length) : p l[k] = true := by
 have := List.all_eq_true.1 h k (List.mem_range.2 hk)
 rw [bq, gU hk] at this
 exact this.1
def MX {q : acv} (h : cJ q = true) {c : dg} (hc : c ∈ q.acw) : 0 ≤ c.Field ∧ c.Field ≤ 2 := by
 obtain ⟨k, hk, rfl⟩ := List.mem_iff_getElem.1 hc
 unfold cJ le at h
 simp only [bq] at h
 have := CB h.2.1 hk
 simp [ld, aW] at this
 omega
def Tm {q : acv} {r : Row} (hq : cJ q = true) (hr : dR r = true) (h : ∀ i : Nat, i < r.Values.length → iI q (i : Int) (r.Values.getD i 0) = true) : fH q r = true := by
 unfold fH
 rw [hr, hq, Bool.and_self, Bool.true_and, mA]
 intro c hc
 have hf := MX hq hc
 have hl := sZ hr
 have := List.all_eq_true.1 (h c.Field.toNat (by omega)) c hc
 unfold iv at this
 rw [Int.toNat_of_nonneg hf.1] at this
 simpa [uO, iu] using this
def Tn {q : acv} {r : Row} {i : Nat} (h : iI q (i : Int) (r.Values.getD i 0) = false) : fH q r = false := by
 rw [← Bool.not_eq_true]
 intro hm
 unfold fH at hm
 rw [bq, mA] at hm
 have : iI q (i : Int) (r.Values.getD i 0) = true := by
  unfold iI
  rw [mA]
  intro c hc
  unfold iv
  by_cases he : c.Field = (i : Int)
  ·have := hm.2 c hc
   simp only [uO, iu, he, Int.toNat_natCast] at this
   rw [this, Bool.or_true]
  ·simp [he]
 rw [h] at this; cases this
end
end Go.Proofs.YtmekkgdboplbjaaGreat
namespace Go.Proofs.YtmekkgdboplbjaaGreat
open Go Go.RowKit M Tryz
set_option maxRecDepth 10000
def dl : prog.follows .mixedOrders = true := by kernel_rfl
def CC : ax prog 101 = true := by kernel_rfl
def MY : ax prog 107 = true := by kernel_rfl
def Tp : ax prog 108 = true := by kernel_rfl
def Tq : ax prog 109 = true := by kernel_rfl
def Tr : ax prog 110 = true := by kernel_rfl
def Ts : ax prog 111 = true := by kernel_rfl
def Tt : ax prog 112 = true := by kernel_rfl
def Tu : ax prog 113 = true := by kernel_rfl
def Tv : ax prog 114 = true := by kernel_rfl
def Tw : ax prog 115 = true := by kernel_rfl
def Tx : ax prog 116 = true := by kernel_rfl
def Ty : ax prog 117 = true := by kernel_rfl
def Tz : ax prog 118 = true := by kernel_rfl
def TA : ax prog 119 = true := by kernel_rfl
def TB : ax prog 120 = true := by kernel_rfl
def TC : ax prog 121 = true := by kernel_rfl
def TD : ax prog 122 = true := by kernel_rfl
def TE : ax prog 123 = true := by kernel_rfl
def TF : ax prog 124 = true := by kernel_rfl
def TG : ax prog 125 = true := by kernel_rfl
def TH : ax prog 126 = true := by kernel_rfl
def TI : ax prog 127 = true := by kernel_rfl
def TJ : ax prog 128 = true := by kernel_rfl
def TK : ax prog 129 = true := by kernel_rfl
def me : ax prog 130 = true := by kernel_rfl
def TL : ax prog 131 = true := by kernel_rfl
def TM : ax prog 132 = true := by kernel_rfl
def TN : ax prog 133 = true := by kernel_rfl
def TO : ax prog 136 = true := by kernel_rfl
def TP : ax prog 137 = true := by kernel_rfl
def TQ : ax prog 138 = true := by kernel_rfl
def TR : ax prog 139 = true := by kernel_rfl
def TS : ax prog 140 = true := by kernel_rfl
def CD : ax prog 141 = true := by kernel_rfl
def oN : ax prog 144 = true := by kernel_rfl
def xY : ax prog 160 = true := by kernel_rfl
def TT : ax prog 164 = true := by kernel_rfl
def TU : ax prog 165 = true := by kernel_rfl
def CE : ax prog 166 = true := by kernel_rfl
def CF : ax prog 167 = true := by kernel_rfl
def CG : ax prog 174 = true := by kernel_rfl
def TV : ax prog 187 = true := by kernel_rfl
def TW : ax prog 188 = true := by kernel_rfl
def MZ : ax prog 189 = true := by kernel_rfl
def TX : ax prog 192 = true := by kernel_rfl
def TY : ax prog 193 = true := by kernel_rfl
def Na : ax prog 194 = true := by kernel_rfl
def TZ : ax prog 199 = true := by kernel_rfl
def CH : ax prog 200 = true := by kernel_rfl
def Ua : ax prog 201 = true := by kernel_rfl
def Ub : ax prog 202 = true := by kernel_rfl
def Uc : ax prog 203 = true := by kernel_rfl
def Ud : ax prog 204 = true := by kernel_rfl
def Ue : ax prog 205 = true := by kernel_rfl
def Uf : ax prog 206 = true := by kernel_rfl
def Ug : ax prog 207 = true := by kernel_rfl
def Uh : ax prog 208 = true := by kernel_rfl
def Ui : ax prog 209 = true := by kernel_rfl
def Uj : ax prog 210 = true := by kernel_rfl
def Uk : ax prog 211 = true := by kernel_rfl
def Ul : ax prog 212 = true := by kernel_rfl
def Um : ax prog 213 = true := by kernel_rfl
def Nb : ax prog 214 = true := by kernel_rfl
def Un : ax prog 215 = true := by kernel_rfl
def Uo : ax prog 216 = true := by kernel_rfl
def Up : ax prog 217 = true := by kernel_rfl
def Uq : ax prog 218 = true := by kernel_rfl
def Ur : ax prog 219 = true := by kernel_rfl
def Nc : ax prog 220 = true := by kernel_rfl
def Us : ax prog 221 = true := by kernel_rfl
def Nd : ax prog 222 = true := by kernel_rfl
def Ut : ax prog 224 = true := by kernel_rfl
def Uu : ax prog 225 = true := by kernel_rfl
def Uv : ax prog 226 = true := by kernel_rfl
def Uw : ax prog 255 = true := by kernel_rfl
def Nf : ax prog 256 = true := by kernel_rfl
def Ux : ax prog 257 = true := by kernel_rfl
def Uy : ax prog 260 = true := by kernel_rfl
def Uz : ax prog 261 = true := by kernel_rfl
def UA : ax prog 262 = true := by kernel_rfl
def UB : ax prog 263 = true := by kernel_rfl
def UC : ax prog 264 = true := by kernel_rfl
def UD : ax prog 265 = true := by kernel_rfl
def UE : ax prog 266 = true := by kernel_rfl
def UF : ax prog 267 = true := by kernel_rfl
def UG : ax prog 268 = true := by kernel_rfl
def UH : ax prog 269 = true := by kernel_rfl
def UI : ax prog 270 = true := by kernel_rfl
def UJ : ax prog 280 = true := by kernel_rfl
def UK : ax prog 281 = true := by kernel_rfl
def UL : ax prog 282 = true := by kernel_rfl
def UM : ax prog 38 = true := by kernel_rfl
def UN : ax prog 40 = true := by kernel_rfl
def UO : ax prog 42 = true := by kernel_rfl
def UP : ax prog 56 = true := by kernel_rfl
def gv : ax prog 65 = true := by kernel_rfl
def xZ : ax prog 67 = true := by kernel_rfl
def Ng : ax prog 92 = true := by kernel_rfl
def kb : ax prog 98 = true := by kernel_rfl
def fw : ba prog 108 0 = some 0 := by kernel_rfl
def mZ : ba prog 108 1 = some 4 := by kernel_rfl
def hR : ba prog 108 2 = some 5 := by kernel_rfl
def mf : ba prog 108 3 = some 6 := by kernel_rfl
def kc : ba prog 108 4 = some 7 := by kernel_rfl
def mg : ba prog 108 5 = some 8 := by kernel_rfl
def kd : ba prog 108 6 = some 9 := by kernel_rfl
def mh : ba prog 178 0 = some 0 := by kernel_rfl
def pQ : ba prog 178 1 = some 1 := by kernel_rfl
def mi : ba prog 178 2 = some 2 := by kernel_rfl
def na : ba prog 184 0 = some 0 := by kernel_rfl
def jE : ba prog 184 1 = some 1 := by kernel_rfl
def jF : ba prog 184 2 = some 2 := by kernel_rfl
def gG : ba prog 184 3 = some 3 := by kernel_rfl
def Nh : ba prog 212 0 = some 0 := by kernel_rfl
def UQ : ba prog 212 1 = some 4 := by kernel_rfl
def Ni : ba prog 212 2 = some 5 := by kernel_rfl
def UR : ba prog 212 3 = some 6 := by kernel_rfl
def US : ba prog 212 4 = some 7 := by kernel_rfl
def UT : ba prog 212 5 = some 8 := by kernel_rfl
def Nj : ba prog 212 6 = some 9 := by kernel_rfl
def Nk : ba prog 215 0 = some 0 := by kernel_rfl
def UU : ba prog 215 1 = some 4 := by kernel_rfl
def UV : ba prog 215 2 = some 5 := by kernel_rfl
def Nl : ba prog 215 3 = some 6 := by kernel_rfl
def UW : ba prog 217 0 = some 0 := by kernel_rfl
def UX : ba prog 217 1 = some 1 := by kernel_rfl
def Nn : ba prog 217 2 = some 2 := by kernel_rfl
def No : ba prog 217 3 = some 3 := by kernel_rfl
def Np : ba prog 217 4 = some 4 := by kernel_rfl
def kf : ba prog 26 0 = some 0 := by kernel_rfl
def fV : ba prog 26 1 = some 1 := by kernel_rfl
def UY : ba prog 260 0 = some 0 := by kernel_rfl
def UZ : ba prog 260 1 = some 1 := by kernel_rfl
def Va : ba prog 260 2 = some 2 := by kernel_rfl
def Vb : ba prog 271 0 = some 0 := by kernel_rfl
def Nq : ba prog 271 1 = some 1 := by kernel_rfl
def Vc : ba prog 271 2 = some 2 := by kernel_rfl
def Vd : ba prog 271 3 = some 3 := by kernel_rfl
def hY : ba prog 32 0 = some 0 := by kernel_rfl
def jG : ba prog 32 1 = some 2 := by kernel_rfl
def nb : ba prog 32 2 = some 3 := by kernel_rfl
def el : ba prog 32 3 = some 4 := by kernel_rfl
def lh : ba prog 32 4 = some 5 := by kernel_rfl
def kg : ba prog 32 5 = some 6 := by kernel_rfl
def kh : ba prog 32 6 = some 7 := by kernel_rfl
def fx : ba prog 52 0 = some 0 := by kernel_rfl
def iY : ba prog 52 1 = some 1 := by kernel_rfl
def jH : ba prog 52 2 = some 2 := by kernel_rfl
def ki : ba prog 52 3 = some 3 := by kernel_rfl
def kk : ba prog 54 0 = some 0 := by kernel_rfl
def iw : ba prog 54 1 = some 1 := by kernel_rfl
def lj : ba prog 56 0 = some 0 := by kernel_rfl
def hZ : ba prog 56 1 = some 1 := by kernel_rfl
def mj : ba prog 56 2 = some 3 := by kernel_rfl
def nc : ba prog 56 3 = some 4 := by kernel_rfl
def uP : ba prog 58 0 = some 0 := by kernel_rfl
def ta : ba prog 58 1 = some 1 := by kernel_rfl
def pR : ba prog 58 2 = some 5 := by kernel_rfl
def ml : ba prog 58 3 = some 6 := by kernel_rfl
def mm : ba prog 58 4 = some 7 := by kernel_rfl
def nd : ba prog 58 5 = some 12 := by kernel_rfl
def ne : ba prog 63 0 = some 0 := by kernel_rfl
def ri : ba prog 63 1 = some 4 := by kernel_rfl
def rj : ba prog 63 2 = some 5 := by kernel_rfl
def nf : ba prog 63 3 = some 6 := by kernel_rfl
def pS : ba prog 70 0 = some 0 := by kernel_rfl
def ng : ba prog 70 1 = some 1 := by kernel_rfl
def mn : ba prog 70 2 = some 2 := by kernel_rfl
def kl : ba prog 70 3 = some 3 := by kernel_rfl
def iZ : ba prog 70 4 = some 4 := by kernel_rfl
def Nr : ba prog 75 0 = some 0 := by kernel_rfl
def Ve : ba prog 75 1 = some 1 := by kernel_rfl
def Ns : ba prog 80 0 = some 0 := by kernel_rfl
def Vf : ba prog 80 1 = some 2 := by kernel_rfl
def Nt : ba prog 80 2 = some 3 := by kernel_rfl
def Nu : ba prog 80 3 = some 4 := by kernel_rfl
def Nv : ba prog 80 4 = some 5 := by kernel_rfl
def Nw : ba prog 80 5 = some 6 := by kernel_rfl
def Vg : ba prog 80 6 = some 7 := by kernel_rfl
def Vh : ba prog 83 0 = some 0 := by kernel_rfl
def Vi : ba prog 83 1 = some 1 := by kernel_rfl
def Nx : ba prog 83 2 = some 2 := by kernel_rfl
def Ny : ba prog 83 3 = some 3 := by kernel_rfl
def Vj : ba prog 84 0 = some 0 := by kernel_rfl
def Nz : ba prog 84 1 = some 1 := by kernel_rfl
def Vk : ba prog 86 0 = some 0 := by kernel_rfl
def NA : ba prog 86 1 = some 1 := by kernel_rfl
def Vl : ba prog 86 2 = some 3 := by kernel_rfl
def Vm : ba prog 86 3 = some 4 := by kernel_rfl
def Vn : ba prog 88 0 = some 0 := by kernel_rfl
def NB : ba prog 88 1 = some 1 := by kernel_rfl
def Vo : ba prog 88 2 = some 5 := by kernel_rfl
def Vp : ba prog 88 3 = some 6 := by kernel_rfl
def Vq : ba prog 88 4 = some 7 := by kernel_rfl
def Vr : ba prog 88 5 = some 12 := by kernel_rfl
def Vs : gE prog 52 = some [(0, 1), (1, 1), (2, 1), (3, 1)] := by kernel_rfl
def NC : gE prog 54 = some [(0, 1), (1, 1)] := by kernel_rfl
def Vt : gE prog 56 = some [(0, 1), (1, 2), (3, 1), (4, 1)] := by kernel_rfl
def Vu (x y : Nat) (a0 a1 a2 b0 b1 b2 : Int) (w : World) : Sem.run prog (do eqGuard .neq 178 (.tmp x) (.tmp y) (.agg #[vI a0, vI a1, vI a2]) (.agg #[vI b0, vI b1, vI b2]); binOp .neq 178 (.agg #[vI a0, vI a1, vI a2]) (.agg #[vI b0, vI b1, vI b2]) : Sem Value) w = .ok (.bool (!(a0 == b0 && a1 == b1 && a2 == b2))) w := by
 have hS : prog.underlying 178 = some (.struct (prog.fieldsOf 178)) := by kernel_rfl
 have hp : prog.stoodInHeld 178 = false := by kernel_rfl
 have hm : prog.eqGuardType prog.depth 178 = false := by kernel_rfl
 have hU := Tryz.underlying178
 have u3 := Tryz.underlying3
 have a3_ := Tryz.isAgg3
 have z3 := Tryz.sizeOf3
 rw [Sem.run_bind, run_eqGuard_agg w _ _ _ _ _ _ hm, Result.andThen_ok, run_neq_struct]
 rw [show (10000 : Nat) = 9999 + 1 from rfl, run_equalIn_agg w 9999 178 _ _ hS hp]
 simp only [Program.fieldsOf, hU]
 go_simp
 by_cases h0 : a0 = b0 <;> by_cases h1 : a1 = b1 <;> by_cases h2 : a2 = b2 <;> simp_all
def cv : cZ prog 139 = some (184, 4, 48) := by kernel_rfl
def uQ : cZ prog 210 = some (84, 2, 32) := by kernel_rfl
def di : cZ prog 24 = some (139, 1, 24) := by kernel_rfl
def uR : cZ prog 255 = some (271, 4, 48) := by kernel_rfl
def bF : cZ prog 27 = some (3, 1, 8) := by kernel_rfl
def bL : cZ prog 28 = some (108, 10, 144) := by kernel_rfl
def fb : cZ prog 29 = some (63, 7, 104) := by kernel_rfl
def eB : cZ prog 30 = some (70, 5, 88) := by kernel_rfl
def ia : cZ prog 45 = some (58, 13, 152) := by kernel_rfl
def eC : cZ prog 50 = some (178, 3, 24) := by kernel_rfl
def gw : cZ prog 59 = some (54, 2, 32) := by kernel_rfl
def uS : cZ prog 73 = some (255, 1, 24) := by kernel_rfl
def uT : cZ prog 76 = some (212, 10, 144) := by kernel_rfl
def uU : cZ prog 77 = some (215, 7, 104) := by kernel_rfl
def uV : cZ prog 78 = some (217, 5, 88) := by kernel_rfl
def ya : cZ prog 81 = some (260, 3, 24) := by kernel_rfl
def uW : cZ prog 97 = some (88, 13, 152) := by kernel_rfl
def fW : bR prog 108 = some (true, 10) := by kernel_rfl
def gx : bR prog 139 = some (false, 1) := by kernel_rfl
def nh : bR prog 178 = some (true, 3) := by kernel_rfl
def en : bR prog 184 = some (true, 4) := by kernel_rfl
def CI : bR prog 210 = some (false, 1) := by kernel_rfl
def Vv : bR prog 212 = some (true, 10) := by kernel_rfl
def Vw : bR prog 215 = some (true, 7) := by kernel_rfl
def Vx : bR prog 217 = some (true, 5) := by kernel_rfl
def ko : bR prog 24 = some (false, 1) := by kernel_rfl
def Vy : bR prog 255 = some (false, 1) := by kernel_rfl
def dV : bR prog 26 = some (true, 2) := by kernel_rfl
def Vz : bR prog 260 = some (true, 3) := by kernel_rfl
def bv : bR prog 27 = some (false, 1) := by kernel_rfl
def VA : bR prog 271 = some (true, 4) := by kernel_rfl
def ea : bR prog 28 = some (false, 1) := by kernel_rfl
def lm : bR prog 29 = some (false, 1) := by kernel_rfl
def au : bR prog 3 = some (false, 1) := by kernel_rfl
def kp : bR prog 30 = some (false, 1) := by kernel_rfl
def bU : bR prog 32 = some (true, 8) := by kernel_rfl
def jI : bR prog 50 = some (false, 1) := by kernel_rfl
def fy : bR prog 52 = some (true, 4) := by kernel_rfl
def fI : bR prog 54 = some (true, 2) := by kernel_rfl
def mo : bR prog 56 = some (true, 5) := by kernel_rfl
def ln : bR prog 58 = some (true, 13) := by kernel_rfl
def gy : bR prog 59 = some (false, 1) := by kernel_rfl
def ni : bR prog 63 = some (true, 7) := by kernel_rfl
def jJ : bR prog 70 = some (true, 5) := by kernel_rfl
def ND : bR prog 73 = some (false, 1) := by kernel_rfl
def NE : bR prog 75 = some (true, 2) := by kernel_rfl
def NF : bR prog 76 = some (false, 1) := by kernel_rfl
def NG : bR prog 77 = some (false, 1) := by kernel_rfl
def NH : bR prog 78 = some (false, 1) := by kernel_rfl
def NI : bR prog 81 = some (false, 1) := by kernel_rfl
def NJ : bR prog 83 = some (true, 4) := by kernel_rfl
def CJ : bR prog 84 = some (true, 2) := by kernel_rfl
def VB : bR prog 86 = some (true, 5) := by kernel_rfl
def VC : bR prog 88 = some (true, 13) := by kernel_rfl
def fJ : eL prog 108 = some (.agg #[.int .i64 0, .int .i64 0, .slice none 0 0, .slice none 0 0, .int .i64 0, .slice none 0 0, .int .i64 0, .int .i64 0, .int .i64 0, .slice none 0 0]) := by kernel_rfl
def uX : eL prog 139 = some (.slice none 0 0) := by kernel_rfl
def oO : eL prog 178 = some (.agg #[.int .i64 0, .int .i64 0, .int .i64 0]) := by kernel_rfl
def fz : eL prog 184 = some (.agg #[.int .i64 0, .slice none 0 0, .int .i64 0, .int .i64 0]) := by kernel_rfl
def tb : eL prog 26 = some (.agg #[.slice none 0 0, .int .i64 0]) := by kernel_rfl
def eP : eL prog 3 = some (.int .i64 0) := by kernel_rfl
def lp : eL prog 32 = some (.agg #[.slice none 0 0, .int .i64 0, .int .i64 0, .slice none 0 0, .slice none 0 0, .slice none 0 0, .slice none 0 0, .int .i64 0]) := by kernel_rfl
def nj : eL prog 52 = some (.agg #[.int .i64 0, .int .i64 0, .slice none 0 0, .slice none 0 0]) := by kernel_rfl
def ja : eL prog 54 = some (.agg #[.int .i64 0, .slice none 0 0]) := by kernel_rfl
def CK : eL prog 56 = some (.agg #[.int .i64 0, .int .i64 0, .slice none 0 0, .int .i64 0, .int .i64 0]) := by kernel_rfl
def yb : eL prog 58 = some (.agg #[.int .i64 0, .int .i64 0, .int .i64 0, .slice none 0 0, .slice none 0 0, .int .i64 0, .int .i64 0, .int .i64 0, .int .i64 0, .slice none 0 0, .int .i64 0, .int .i64 0, .int .i64 0]) := by kernel_rfl
def kK : eL prog 63 = some (.agg #[.int .i64 0, .int .i64 0, .slice none 0 0, .slice none 0 0, .int .i64 0, .int .i64 0, .slice none 0 0]) := by kernel_rfl
def jb : eL prog 70 = some (.agg #[.int .i64 0, .int .i64 0, .slice none 0 0, .slice none 0 0, .slice none 0 0]) := by kernel_rfl
def nk {Fz : av} {w : World} : aJ [PV.val (.int .i64 0), PV.val (.int .i64 0), PV.sl aw [], PV.sl aa [], PV.val (.int .i64 0), PV.sl aa [], PV.val (.int .i64 0), PV.val (.int .i64 0), PV.val (.int .i64 0), PV.sl az []] Fz w (Value.cells (.agg #[.int .i64 0, .int .i64 0, .slice none 0 0, .slice none 0 0, .int .i64 0, .slice none 0 0, .int .i64 0, .int .i64 0, .int .i64 0, .slice none 0 0])).toList [] := cK rfl (cK rfl (eM (eM (cK rfl (eM (cK rfl (cK rfl (cK rfl (eM (jo))))))))))
def VD {Fz : av} {w : World} : aJ [PV.sl aS []] Fz w (Value.cells (.slice none 0 0)).toList [] := eM (jo)
def uY {Fz : av} {w : World} : aJ [PV.val (.int .i64 0), PV.val (.int .i64 0), PV.val (.int .i64 0)] Fz w (Value.cells (.agg #[.int .i64 0, .int .i64 0, .int .i64 0])).toList [] := cK rfl (cK rfl (cK rfl (jo)))
def lr {Fz : av} {w : World} : aJ [PV.val (.int .i64 0), PV.sl aa [], PV.val (.int .i64 0), PV.val (.int .i64 0)] Fz w (Value.cells (.agg #[.int .i64 0, .slice none 0 0, .int .i64 0, .int .i64 0])).toList [] := cK rfl (eM (cK rfl (cK rfl (jo))))
def tc {Fz : av} {w : World} : aJ [PV.sl bo [], PV.val (.int .i64 0)] Fz w (Value.cells (.agg #[.slice none 0 0, .int .i64 0])).toList [] := eM (cK rfl (jo))
def VE {Fz : av} {w : World} : aJ [PV.val (.int .i64 0)] Fz w (Value.cells (.int .i64 0)).toList [] := cK rfl (jo)
def ls {Fz : av} {w : World} : aJ [PV.sl bo [], PV.val (.int .i64 0), PV.val (.int .i64 0), PV.sl aa [], PV.sl bS [], PV.sl bJ [], PV.sl bP [], PV.val (.int .i64 0)] Fz w (Value.cells (.agg #[.slice none 0 0, .int .i64 0, .int .i64 0, .slice none 0 0, .slice none 0 0, .slice none 0 0, .slice none 0 0, .int .i64 0])).toList [] := eM (cK rfl (cK rfl (eM (eM (eM (eM (cK rfl (jo))))))))
def uZ {Fz : av} {w : World} : aJ [PV.val (.int .i64 0), PV.val (.int .i64 0), PV.sl aw [], PV.sl aa []] Fz w (Value.cells (.agg #[.int .i64 0, .int .i64 0, .slice none 0 0, .slice none 0 0])).toList [] := cK rfl (cK rfl (eM (eM (jo))))
def mp {Fz : av} {w : World} : aJ [PV.val (.int .i64 0), PV.sl aa []] Fz w (Value.cells (.agg #[.int .i64 0, .slice none 0 0])).toList [] := cK rfl (eM (jo))
def CL {Fz : av} {w : World} : aJ [PV.val (.int .i64 0), PV.val (.int .i64 0), PV.sl aa [], PV.val (.int .i64 0), PV.val (.int .i64 0)] Fz w (Value.cells (.agg #[.int .i64 0, .int .i64 0, .slice none 0 0, .int .i64 0, .int .i64 0])).toList [] := cK rfl (cK rfl (eM (cK rfl (cK rfl (jo)))))
def yc {Fz : av} {w : World} : aJ [PV.val (.int .i64 0), PV.val (.int .i64 0), PV.val (.int .i64 0), PV.sl aw [], PV.sl aa [], PV.val (.int .i64 0), PV.val (.int .i64 0), PV.val (.int .i64 0), PV.val (.int .i64 0), PV.sl aa [], PV.val (.int .i64 0), PV.val (.int .i64 0), PV.val (.int .i64 0)] Fz w (Value.cells (.agg #[.int .i64 0, .int .i64 0, .int .i64 0, .slice none 0 0, .slice none 0 0, .int .i64 0, .int .i64 0, .int .i64 0, .int .i64 0, .slice none 0 0, .int .i64 0, .int .i64 0, .int .i64 0])).toList [] := cK rfl (cK rfl (cK rfl (eM (eM (cK rfl (cK rfl (cK rfl (cK rfl (eM (cK rfl (cK rfl (cK rfl (jo)))))))))))))
def rk {Fz : av} {w : World} : aJ [PV.val (.int .i64 0), PV.val (.int .i64 0), PV.sl aw [], PV.sl aa [], PV.val (.int .i64 0), PV.val (.int .i64 0), PV.sl az []] Fz w (Value.cells (.agg #[.int .i64 0, .int .i64 0, .slice none 0 0, .slice none 0 0, .int .i64 0, .int .i64 0, .slice none 0 0])).toList [] := cK rfl (cK rfl (eM (eM (cK rfl (cK rfl (eM (jo)))))))
def pT {Fz : av} {w : World} : aJ [PV.val (.int .i64 0), PV.val (.int .i64 0), PV.sl aa [], PV.sl aa [], PV.sl aa []] Fz w (Value.cells (.agg #[.int .i64 0, .int .i64 0, .slice none 0 0, .slice none 0 0, .slice none 0 0])).toList [] := cK rfl (cK rfl (eM (eM (eM (jo)))))
end Go.Proofs.YtmekkgdboplbjaaGreat
namespace Go.Proofs.YtmekkgdboplbjaaGreat
open Go Go.RowKit M Tryz
set_option maxRecDepth 10000
def v0 : aU := ⟨0, [], 0, 0⟩
def eQ (now : Int) (v : aU) : Bool := dR ⟨v.Id, v.Values⟩ && (aW v.acI 0 now && (decide (v.acE = -1) || aW v.acE (v.acI + 1) now))
def kq (a b : aU) : Bool := !(a.Id == b.Id) || ((!(a.acE == -1) && decide (a.acE ≤ b.acI)) || (!(b.acE == -1) && decide (b.acE ≤ a.acI)))
def eK (v : aU) (t : Int) : Bool := decide (v.acI ≤ t) && (decide (v.acE = -1) || decide (v.acE > t))
def rl (v w : aU) : Bool := eK v w.acI || eK w v.acI
def NK {now : Int} {v w : aU} (hv : eQ now v = true) (hw : eQ now w = true) : (v.Id == w.Id && rl v w) = !kq v w := by
 have h1 : v.acE = -1 ∨ v.acI < v.acE := by simp [eQ, aW] at hv; omega
 have h2 : w.acE = -1 ∨ w.acI < w.acE := by simp [eQ, aW] at hw; omega
 have h3 : 0 ≤ v.acI ∧ 0 ≤ w.acI := by simp [eQ, aW] at hv hw; omega
 rw [Bool.eq_iff_iff]
 simp only [rl, eK, kq, bq, Bool.or_eq_true, Bool.not_eq_true', beq_iff_eq, decide_eq_true_eq, Bool.or_eq_false_iff, Bool.not_eq_false', Bool.and_eq_false_iff, decide_eq_false_iff_not]
 omega
def ct (s : Store) : List aU := s.act.flatten
def gC (L : List aU) (i k : Nat) : Bool := (List.range k).all fun m => kq (L.getD i v0) (L.getD m v0)
def nn (now : Int) (L : List aU) (i : Nat) : Bool := eQ now (L.getD i v0) && gC L i i
def oP (now : Int) (L : List aU) (i : Nat) : Bool := (List.range i).all (nn now L)
def lu (l : List aU) : Bool := decide ((l.length : Int) ≤ 4)
def np (s : Store) : Bool := aW s.act.length 1 8 && aW s.Now 0 100000
def dI (s : Store) : Bool := (np s && s.act.all lu) && oP s.Now (ct s) (ct s).length
def VF {L : List aU} {i k : Nat} : gC L i (k + 1) = (gC L i k && kq (L.getD i v0) (L.getD k v0)) := by simp [gC, List.range_succ]
def NL {now : Int} {L : List aU} {i : Nat} : oP now L (i + 1) = (oP now L i && nn now L i) := by simp [oP, List.range_succ]
def CM {now : Int} {L : List aU} {i j : Nat} (h : oP now L i = true) (hj : j < i) : eQ now (L.getD j v0) = true := by
 have := List.all_eq_true.1 h j (List.mem_range.2 hj)
 unfold nn at this
 rw [bq] at this
 exact this.1
def yd {s : Store} {i : Nat} (hi : i < (ct s).length) (h : nn s.Now (ct s) i = false) : dI s = false := by
 have : oP s.Now (ct s) (ct s).length = false := by
  rw [← Bool.not_eq_true]
  intro hh
  have := List.all_eq_true.1 hh i (List.mem_range.2 hi)
  rw [h] at this; cases this
 unfold dI; rw [this, Bool.and_false]
def NM {now : Int} {L : List aU} {i : Nat} (h : eQ now (L.getD i v0) = false) : nn now L i = false := by unfold nn; rw [h]; rfl
def NN {now : Int} {L : List aU} {i k : Nat} (hk : k < i) (h : kq (L.getD i v0) (L.getD k v0) = false) : nn now L i = false := by
 have : gC L i i = false := by
  rw [← Bool.not_eq_true]
  intro hh
  have := List.all_eq_true.1 hh k (List.mem_range.2 hk)
  rw [h] at this; cases this
 unfold nn; rw [this, Bool.and_false]
def NO {s : Store} {k : Nat} (hk : k < s.act.length) (h : ¬ ((s.act[k].length : Int) ≤ 4)) : dI s = false := by
 have : s.act.all lu = false := lZ hk (by simpa [lu] using h)
 unfold dI; rw [this]; simp
def dm (s : Store) (k : Nat) : List aU := (s.act.take k).flatten
def va {s : Store} {k : Nat} (hk : k < s.act.length) : dm s (k + 1) = dm s k ++ s.act[k] := by
 unfold dm; rw [cy hk, List.flatten_append]; simp
def CN {s : Store} {k : Nat} (hk : k < s.act.length) : ct s = dm s k ++ (s.act[k] ++ (s.act.drop (k + 1)).flatten) := by
 unfold ct dm
 rw [← List.flatten_cons, ← List.flatten_append, ← List.drop_eq_getElem_cons hk, fc]
def CO {s : Store} : dm s s.act.length = ct s := by unfold dm ct; rw [cn]
def NP {s : Store} {k j : Nat} (hk : k < s.act.length) (hj : j < s.act[k].length) : (dm s k).length + j < (ct s).length ∧ (ct s).getD ((dm s k).length + j) v0 = s.act[k][j] := by
 rw [CN hk]
 refine ⟨by simp only [aV]; omega, ?_⟩
 rw [List.getD_eq_getElem?_getD, List.getElem?_append_right (by omega), show (dm s k).length + j - (dm s k).length = j by omega, List.getElem?_append_left hj, List.getElem?_eq_getElem hj]
 rfl
def VG {s : Store} {k j : Nat} (hk : k < s.act.length) (hj : j ≤ s.act[k].length) : dm s k ++ s.act[k].take j = (ct s).take ((dm s k).length + j) := by
 rw [CN hk, List.take_length_add_append, List.take_append_of_le_length hj]
def rm (s : Store) : (ct s).length ≤ cd s := by
 unfold cd eO ct
 rw [List.length_flatten]
 have : (s.act.map List.length).sum ≤ (s.act.map bX).sum := by
  generalize s.act = l
  induction l with
  | nil => simp
  | cons x l ih => simp only [List.map_cons, List.sum_cons]; unfold bX at *; omega
 omega
def fX (v : aU) : Row := ⟨v.Id, v.Values⟩
def nq {s : Store} (h : dI s = true) : s.act.length ≤ 8 ∧ 1 ≤ s.act.length ∧ 0 ≤ s.Now ∧ s.Now ≤ 100000 ∧ (∀ g ∈ s.act, g.length ≤ 4) ∧ ∀ i, i < (ct s).length → eQ s.Now ((ct s).getD i v0) = true := by
 unfold dI np at h
 simp only [bq, aW, decide_eq_true_eq] at h
 refine ⟨by omega, by omega, by omega, by omega, fun g hg => ?_, fun i hi => CM h.2 hi⟩
 have := List.all_eq_true.1 h.1.2 g hg
 simp [lu] at this; omega
def NQ {s : Store} (h : dI s = true) {k j : Nat} (hk : k < s.act.length) (hj : j < s.act[k].length) : eQ s.Now s.act[k][j] = true := by
 have h1 := NP hk hj
 rw [← h1.2]
 exact (nq h).2.2.2.2.2 _ h1.1
def td : acv := ⟨0, 0, [], []⟩
def kr : eA := ⟨0, 0, []⟩
def rn (a b : acv) : Bool := decide (a.Id < b.Id)
def dz (l : List acv) : Bool := fa td cJ rn l && decide ((l.length : Int) ≤ 24)
def pU {l : List acv} (h : dz l = true) : l.length ≤ 24 ∧ ∀ q ∈ l, cJ q = true := by
 unfold dz at h
 rw [bq] at h
 refine ⟨by have := of_decide_eq_true h.2; omega, fun q hq => ?_⟩
 obtain ⟨k, hk, rfl⟩ := List.mem_iff_getElem.1 hq
 exact CB h.1 hk
def VH {q : acv} (h : cJ q = true) : q.acw.length ≤ 3 ∧ q.Out.length ≤ 3 := by
 unfold cJ md at h
 simp only [bq, aW, decide_eq_true_eq] at h
 omega
def fY (l : List acv) (f v : Int) : List Int := (l.filter fun q => iI q f v).map acv.Id
def ye (l : List acv) (f v : Int) : List Int := if dz l && (aW f 0 2 && aW v 0 99) then fY l f v else []
def VI {l : List acv} {f v : Int} {k : Nat} (hk : k < l.length) (h : iI l[k] f v = true) : fY (l.take (k + 1)) f v = fY (l.take k) f v ++ [l[k].Id] := by
 unfold fY; rw [cy hk, fA]; simp [h]
def VJ {l : List acv} {f v : Int} {k : Nat} (hk : k < l.length) (h : iI l[k] f v = false) : fY (l.take (k + 1)) f v = fY (l.take k) f v := by
 unfold fY; rw [cy hk, fA]; simp [h]
def CP (l : List acv) (f v : Int) : (fY l f v).length ≤ l.length := by
 unfold fY; rw [aq]; exact ji _ _
def VK {l : List acv} {f v : Int} {k : Nat} (h : (k = l.length ∧ (dz l && (aW f 0 2 && aW v 0 99)) = true) ∨ (k = 0 ∧ (l.length = 0 ∨ (dz l && (aW f 0 2 && aW v 0 99)) = false))) : fY (l.take k) f v = ye l f v := by
 unfold ye
 rcases h with ⟨rfl, h⟩ | ⟨rfl, h⟩
 ·rw [if_pos h, cn]
 ·split
  ·rename_i h2
   rcases h with h | h
   ·rw [im h]; rfl
   ·rw [h] at h2; cases h2
  ·rfl
noncomputable def mq (out : List eA) (s : List Int) : Bool := !(out.length == 0) && du (out.getD (out.length - 1) kr).Set s
def VL {out : List eA} {s : List Int} (h0 : 0 < out.length) (h : du (out.getD (out.length - 1) kr).Set s = true) : mq out s = true := by
 unfold mq; rw [h, Bool.and_true]; simp; exact List.length_pos_iff.1 h0
noncomputable def te (out : List eA) (v : Int) (s : List Int) : List eA := if mq out s then out.set (out.length - 1) ⟨(out.getD (out.length - 1) kr).From, v, (out.getD (out.length - 1) kr).Set⟩ else out ++ [⟨v, v, s⟩]
def VM {out : List eA} {v : Int} {s : List Int} (h : mq out s = true) : te out v s = out.set (out.length - 1) ⟨(out.getD (out.length - 1) kr).From, v, (out.getD (out.length - 1) kr).Set⟩ := if_pos h
def VN {out : List eA} {v : Int} {s : List Int} (h : mq out s = false) : te out v s = out ++ [⟨v, v, s⟩] := if_neg (by rw [h]; simp)
noncomputable def dj (l : List acv) (f : Int) : Nat → List eA
 | 0 => []
 | k + 1 => te (dj l f k) k (fY l f k)
def CQ (l : List acv) (f : Int) : ∀ k, (dj l f k).length ≤ k
 | 0 => Nat.le_refl _
 | k + 1 => by
  have := CQ l f k
  rw [dj]
  unfold te
  split
  ·rw [List.length_set]; omega
  ·rw [aV]; simp; omega
def NR (l : List acv) (f : Int) : ∀ k, ∀ s ∈ dj l f k, s.Set.length ≤ l.length
 | 0, s, h => nomatch h
 | k + 1, s, h => by
  have ih := NR l f k
  rw [dj] at h
  unfold te at h
  split at h
  ·rename_i hl
   rcases List.mem_or_eq_of_mem_set h with h | rfl
   ·exact ih s h
   ·have hne : 0 < (dj l f k).length := by
     unfold mq at hl
     rw [bq] at hl
     have := hl.1
     simp at this
     exact List.length_pos_iff.2 this
    have hlt : (dj l f k).length - 1 < (dj l f k).length := by omega
    show ((dj l f k).getD _ kr).Set.length ≤ _
    rw [List.getD_eq_getElem?_getD, List.getElem?_eq_getElem hlt]
    exact ih _ (List.getElem_mem hlt)
  ·rcases List.mem_append.1 h with h | h
   ·exact ih s h
   ·simp at h; subst h; exact CP _ _ _
noncomputable def gH (l : List acv) (f : Int) : List eA := if dz l && aW f 0 2 then dj l f 100 else []
def VO (l : List acv) (f : Int) : (gH l f).length ≤ 100 ∧ ∀ s ∈ gH l f, s.Set.length ≤ 24 := by
 unfold gH
 split
 ·rename_i h
  rw [bq] at h
  have := pU h.1
  exact ⟨CQ _ _ _, fun s hs => Nat.le_trans (NR _ _ _ s hs) this.1⟩
 ·exact ⟨by simp, fun s hs => nomatch hs⟩
def ib (v : Int) (s : eA) : Bool := aW v s.From s.To
def gI (l : List eA) (v : Int) : List Int := match l.find? (ib v) with
 | some s => s.Set
 | none => []
def VP {l : List eA} {v : Int} {k : Nat} (hk : k < l.length) (h : (l.take k).any (ib v) = false) (hy : ib v l[k] = true) : gI l v = l[k].Set := by
 unfold gI
 have e : l = l.take k ++ l[k] :: l.drop (k + 1) := by rw [← List.drop_eq_getElem_cons hk, fc]
 have hn : (l.take k).find? (ib v) = none := by
  rw [List.find?_eq_none]
  intro x hx hp
  rw [List.any_eq_false] at h
  exact h x hx hp
 have : l.find? (ib v) = some l[k] := by
  conv => lhs; rw [e]
  rw [List.find?_append, hn, List.find?_cons_of_pos hy]
  rfl
 rw [this]
def VQ {l : List eA} {v : Int} (h : l.any (ib v) = false) : gI l v = [] := by
 unfold gI
 have hn : l.find? (ib v) = none := by
  rw [List.find?_eq_none]
  intro x hx hp
  rw [List.any_eq_false] at h
  exact h x hx hp
 rw [hn]
def VR {l : List eA} {m : Nat} (h : ∀ s ∈ l, s.Set.length ≤ m) (v : Int) : (gI l v).length ≤ m := by
 unfold gI
 split
 ·rename_i s hs; exact h s (List.mem_of_find?_eq_some hs)
 ·exact Nat.zero_le _
noncomputable def NS (x : jB) (k : Nat) : Bool := (List.range k).all fun f => du (x.Fields.getD f []) (gH x.Queries (f : Int))
noncomputable def vb (x : jB) : Bool := (dz x.Queries && decide (x.Fields.length = 3)) && NS x 3
def VS {x : jB} (h : vb x = true) : dz x.Queries = true ∧ x.Fields.length = 3 ∧ ∀ f, f < 3 → x.Fields.getD f [] = gH x.Queries (f : Int) := by
 unfold vb at h
 simp only [bq, decide_eq_true_eq] at h
 exact ⟨h.1.1, h.1.2, fun f hf => gr.1 (List.all_eq_true.1 h.2 f (List.mem_range.2 hf))⟩
noncomputable def mr (l : List acv) : jB := if dz l then ⟨l, [gH l 0, gH l 1, gH l 2]⟩ else ⟨[], []⟩
def VT {l : List acv} (h : dz l = true) : vb (mr l) = true := by
 unfold mr
 rw [if_pos h]
 unfold vb
 rw [h]
 simp only [List.length_cons, List.length_nil, Bool.true_and, bq, decide_eq_true_eq]
 refine ⟨by decide, ?_⟩
 unfold NS
 rw [mA]
 intro f hf
 have := List.mem_range.1 hf
 have : f = 0 ∨ f = 1 ∨ f = 2 := by omega
 rcases this with rfl | rfl | rfl <;> exact jA rfl
noncomputable def pV (l : List acv) (k : Nat) : List (List eA) := (List.range k).map fun f : Nat => gH l (f : Int)
def pW (l : List acv) : List Int := l.map acv.Id
def gV (o : List Int) : Bool := decide (o.length = 3) && (ci o 0 && (ci o 1 && ci o 2))
def NT {o : List Int} (h : gV o = true) : o.length = 3 ∧ ∀ f ∈ o, 0 ≤ f ∧ f ≤ 2 := by
 unfold gV at h
 simp only [bq, decide_eq_true_eq] at h
 obtain ⟨h1, h2, h3, h4⟩ := h
 match o, h1 with
 | [a, b, c], _ =>
  simp [ci] at h2 h3 h4
  refine ⟨rfl, fun f hf => ?_⟩
  simp at hf
  omega
def tf (o : List Int) (k : Nat) : Bool := (List.range k).all fun i => aW (o.getD i 0) 0 2 && !ci (o.take i) (o.getD i 0)
def VU {o : List Int} {k : Nat} : tf o (k + 1) = (tf o k && (aW (o.getD k 0) 0 2 && !ci (o.take k) (o.getD k 0))) := by simp [tf, List.range_succ]
def NU {o : List Int} (h : o.length = 3) : tf o 3 = gV o := by
 match o, h with
 | [a, b, c], _ =>
  rw [Bool.eq_iff_iff]
  simp [tf, gV, ci, aW, List.range_succ]
  omega
def VV {o : List Int} {k : Nat} (hl : o.length = 3) (hk : k < 3) (h : (aW (o.getD k 0) 0 2 && !ci (o.take k) (o.getD k 0)) = false) : gV o = false := by
 rw [← NU hl, ← Bool.not_eq_true]
 intro hh
 have := List.all_eq_true.1 hh k (List.mem_range.2 hk)
 rw [h] at this; cases this
def oQ (x : jB) (r : Row) (s : List Int × Int) (f : Int) : List Int × Int := if s.1 = [] then s else (oM s.1 (gI (x.Fields.getD f.toNat []) (iu r.Values f)), s.2 + 1 + min (s.1.length : Int) ((gI (x.Fields.getD f.toNat []) (iu r.Values f)).length : Int))
def fm (x : jB) (r : Row) (o : List Int) (k : Nat) : List Int × Int := (o.take k).foldl (oQ x r) (pW x.Queries, 0)
def NV {x : jB} {r : Row} {o : List Int} {k : Nat} (hk : k < o.length) (h : (fm x r o k).1 ≠ []) : fm x r o (k + 1) = (oM (fm x r o k).1 (gI (x.Fields.getD o[k].toNat []) (iu r.Values o[k])), (fm x r o k).2 + 1 + min ((fm x r o k).1.length : Int) ((gI (x.Fields.getD o[k].toNat []) (iu r.Values o[k])).length : Int)) := by
 unfold fm
 rw [cy hk, List.foldl_append]
 show oQ x r (fm x r o k) o[k] = _
 unfold oQ
 rw [if_neg h]; rfl
def NW {x : jB} {r : Row} : ∀ (o : List Int) (s : List Int × Int), s.1 = [] → o.foldl (oQ x r) s = s
 | [], s, _ => rfl
 | f :: o, s, h => by
  rw [List.foldl_cons]
  have : oQ x r s f = s := if_pos h
  rw [this]; exact NW o s h
noncomputable def ro (x : jB) (r : Row) (o : List Int) : List Int × Int := o.foldl (oQ x r) (pW x.Queries, 0)
def VW {x : jB} {r : Row} {o : List Int} {k : Nat} (h : k = o.length ∨ (fm x r o k).1 = []) : fm x r o k = ro x r o := by
 rcases h with rfl | h
 ·unfold fm ro; rw [cn]
 ·unfold ro
  have e : o = o.take k ++ o.drop k := (fc _ _).symm
  conv => rhs; rw [e, List.foldl_append]
  exact (NW _ _ h).symm
def NX {x : jB} (hx : x.Queries.length ≤ 24) (r : Row) (o : List Int) : ∀ k, (fm x r o k).1.length ≤ 24 ∧ 0 ≤ (fm x r o k).2 ∧ (fm x r o k).2 ≤ 25 * k
 | 0 => by refine ⟨?_, ?_, ?_⟩ <;> simp [fm, pW]; exact hx
 | k + 1 => by
  have ih := NX hx r o k
  by_cases hk : k < o.length
  ·by_cases h : (fm x r o k).1 = []
   ·have e : fm x r o (k + 1) = fm x r o k := by
     unfold fm
     rw [cy hk, List.foldl_append]
     exact if_pos h
    rw [e]; omega
   ·rw [NV hk h]
    have := Ti (fm x r o k).1 (gI (x.Fields.getD o[k].toNat []) (iu r.Values o[k]))
    dsimp only; omega
  ·have e : fm x r o (k + 1) = fm x r o k := by
    unfold fm
    rw [gB (by omega), gB (by omega)]
   rw [e]; omega
def VX {l : List acv} (h : dz l = true) : xS l ≤ 1000 := by
 have h1 := pU h
 have h2 : ∀ q ∈ l, cr q ≤ 10 := fun q hq => by
  have := VH (h1.2 q hq)
  have hc : ∀ c : List dg, (c.map mW).sum = 0 := by
   intro c
   induction c with
   | nil => rfl
   | cons a c ih => rw [List.map_cons, List.sum_cons, ih]; rfl
  unfold cr iX
  simp only [ek, bd, hc]
  omega
 have h3 : (l.map cr).sum ≤ l.length * 10 := by
  clear h h1
  induction l with
  | nil => simp
  | cons q l ih =>
   have a := h2 q (by simp)
   have b := ih fun x hx => h2 x (by simp [hx])
   simp only [List.map_cons, List.sum_cons, List.length_cons, Nat.succ_mul]; omega
 unfold xS
 have : l.length * 10 ≤ 24 * 10 := Nat.mul_le_mul h1.1 (Nat.le_refl _)
 omega
def VY {l : List acv} {k : Nat} : pV l (k + 1) = pV l k ++ [gH l (k : Int)] := by unfold pV; rw [List.range_succ, bT]; rfl
def VZ {l : List acv} {k : Nat} : (pV l k).length = k := by unfold pV; rw [aq, List.length_range]
def Wa {l : List acv} (h : dz l = true) : mr l = ⟨l, pV l 3⟩ := by unfold mr; rw [if_pos h]; rfl
def Wb {l : List acv} (h : dz l = false) : mr l = ⟨[], []⟩ := by unfold mr; rw [if_neg (by rw [h]; simp)]
def mu (x : cU) (i : Nat) : Bool := aW (x.acA.getD i 0) 0 3 && aW (x.Rows.getD i 0) 0 x.Base
def rp (x : cU) (k : Nat) : Bool := (List.range k).all (mu x)
def Wc {x : cU} {k : Nat} : rp x (k + 1) = (rp x k && mu x k) := by simp [rp, List.range_succ]
def mw (x : cU) : Bool := dS x.Ids && (aW x.Ids.length 1 8 && (decide (x.acA.length = x.Ids.length) && decide (x.Rows.length = x.Ids.length)))
def fZ (x : cU) : Bool := (mw x && rp x x.Ids.length) && (aW x.Segment 0 7 && aW x.Base 0 4)
def NY {x : cU} (h : mw x = true) : 1 ≤ x.Ids.length ∧ x.Ids.length ≤ 8 ∧ x.acA.length = x.Ids.length ∧ x.Rows.length = x.Ids.length := by
 simp [mw, aW] at h; omega
def Wd {x : cU} {k : Nat} (hk : k < x.Ids.length) (h : mu x k = false) : fZ x = false := by
 have : rp x x.Ids.length = false := by
  rw [← Bool.not_eq_true]
  intro hh
  have := List.all_eq_true.1 hh k (List.mem_range.2 hk)
  rw [h] at this; cases this
 unfold fZ; rw [this]; simp
section
def ic : acu := ⟨⟨0, 0, [], []⟩, 0, [], 0, 0, 0, []⟩
def lv (a b : acu) : Bool := decide (a.acv.Id < b.acv.Id)
def nr (n v : Int) : Bool := aW v 0 (n - 1)
def ns (a b : Int) : Bool := decide (a < b)
def lx (l : List Int) (n : Int) : Bool := fa 0 (nr n) ns l && decide (0 < l.length)
def gj (s : Store) (a : acu) : Bool := lx a.acD s.act.length && (cJ a.acv && (aW a.Time 0 s.Now && (aW a.Age 0 100000 && (aW a.Sent 0 1000 && (aW a.Cap 0 32 && pP a.Rows)))))
def gW (now : Int) (f : cI) : Bool := cJ f.acv && (aW f.Time 0 now && (aW f.Steps 0 100000 && pP f.Rows))
def jc (e : aD) : Bool := (dI e.Store && (aW e.acy 0 (e.Store.act.length - 1) && (gV e.Order && aW e.Steps 0 100000))) && (decide ((e.acu.length : Int) ≤ 8) && (decide ((e.Done.length : Int) ≤ 1000) && decide ((e.acG.length : Int) ≤ 1000)))
def bk (e : aD) : Bool := jc e && (fa ic (gj e.Store) lv e.acu && (e.Done.all (gW e.Store.Now) && e.acG.all fZ))
def We {e : aD} (h : jc e = false) : bk e = false := by unfold bk; rw [h]; rfl
def NZ {e : aD} (h : fa ic (gj e.Store) lv e.acu = false) : bk e = false := by unfold bk; rw [h]; simp
def Oa {e : aD} (h : e.Done.all (gW e.Store.Now) = false) : bk e = false := by unfold bk; rw [h]; simp
def Ob {e : aD} (h : e.acG.all fZ = false) : bk e = false := by unfold bk; rw [h]; simp
def Wf {e : aD} (h1 : jc e = true) (h2 : fa ic (gj e.Store) lv e.acu = true) (h3 : e.Done.all (gW e.Store.Now) = true) (h4 : e.acG.all fZ = true) : bk e = true := by unfold bk; rw [h1, h2, h3, h4]; rfl
def ie {e : aD} (h : bk e = true) : dI e.Store = true ∧ gV e.Order = true ∧ 0 ≤ e.acy ∧ e.acy.toNat < e.Store.act.length ∧ e.acu.length ≤ 8 ∧ e.Done.length ≤ 1000 ∧ e.acG.length ≤ 1000 ∧ 0 ≤ e.Steps ∧ e.Steps ≤ 100000 ∧ (∀ a ∈ e.acu, gj e.Store a = true) ∧ (∀ f ∈ e.Done, gW e.Store.Now f = true) ∧ ∀ c ∈ e.acG, fZ c = true := by
 unfold bk jc at h
 simp only [bq, aW, decide_eq_true_eq] at h
 obtain ⟨⟨⟨h1, h2, h3, h4⟩, h5, h6, h7⟩, h8, h9, h10⟩ := h
 refine ⟨h1, h3, by omega, by omega, by omega, by omega, by omega, by omega, by omega, fun a ha => ?_, List.all_eq_true.1 h9, List.all_eq_true.1 h10⟩
 obtain ⟨k, hk, rfl⟩ := List.mem_iff_getElem.1 ha
 exact CB h8 hk
def rq (o : List Int) (k : Nat) : Bool := (List.range k).all fun i => ci o (i : Int)
def yf {o : List Int} {k : Nat} : rq o (k + 1) = (rq o k && ci o (k : Int)) := by simp [rq, List.range_succ]
def Oc {o : List Int} : (rq o 3 && decide (o.length = 3)) = gV o := by
 rw [Bool.and_comm, gV, yf, yf, yf]
 show _ = (decide (o.length = 3) && (ci o ((0 : Nat) : Int) && (ci o ((1 : Nat) : Int) && ci o ((2 : Nat) : Int))))
 simp [rq, Bool.and_assoc]
def Wg {o : List Int} {k : Nat} (hk : k < 3) (h : ci o (k : Int) = false) : gV o = false := by
 rw [← Oc]
 have : rq o 3 = false := by
  rw [← Bool.not_eq_true]
  intro hh
  have := List.all_eq_true.1 hh k (List.mem_range.2 hk)
  rw [h] at this; cases this
 rw [this]; rfl
def nt (a : acu) : Bool := decide (a.Cap = 0) || decide (a.Sent < a.Cap)
def rr (e : aD) (i : Int) : Bool := bk e && aW i 0 (e.acu.length - 1) && nt (e.acu.getD i.toNat ic)
def jK (e : aD) (a : acu) : Bool := nt a && ci a.acD e.acy
def gX (e : aD) (l : List acu) : List Int := (l.filter (jK e)).map fun a => a.acv.Id
def parts (e : aD) : List Int := if bk e then gX e e.acu else []
section
variable {e : aD} {l : List acu} {k : Nat} {id : Int}
def Wh (h : bk e = true) (hk : k < e.acu.length) : rr e (k : Int) = nt e.acu[k] := by
 unfold rr
 rw [h, show aW (k : Int) 0 (e.acu.length - 1) = true by simp [aW]; omega, Int.toNat_natCast, List.getD_eq_getElem?_getD, List.getElem?_eq_getElem hk]; rfl
def Od (hk : k < l.length) (h : jK e l[k] = true) : gX e (l.take (k + 1)) = gX e (l.take k) ++ [l[k].acv.Id] := by
 unfold gX; rw [cy hk, fA]; simp [h]
def Oe (hk : k < l.length) (h : jK e l[k] = false) : gX e (l.take (k + 1)) = gX e (l.take k) := by
 unfold gX; rw [cy hk, fA]; simp [h]
def CR : (gX e l).length ≤ l.length := by
 unfold gX; rw [aq]; exact ji _ _
def tg (h : bk e = true) : parts e = gX e e.acu := if_pos h
def Of (h : bk e = false) : parts e = [] := if_neg (by rw [h]; simp)
def Wi (h : (k = e.acu.length ∧ bk e = true) ∨ (k = 0 ∧ (e.acu.length = 0 ∨ bk e = false))) : gX e (e.acu.take k) = parts e := by
 rcases h with ⟨rfl, h⟩ | ⟨rfl, h⟩
 ·rw [cn, tg h]
 ·rw [List.take_zero]
  rcases h with h | h
  ·unfold parts
   rw [im h]
   split <;> rfl
  ·rw [Of h]; rfl
def yg : (parts e).length ≤ e.acu.length := by
 unfold parts
 split
 ·exact CR
 ·exact Nat.zero_le _
def eb (id : Int) (a : acu) : Bool := a.acv.Id == id
def dJ (l : List acu) (id : Int) : Int := if l.any (eb id) then ((l.findIdx (eb id) : Nat) : Int) else -1
def CS (hk : k < l.length) (h : (l.take k).any (eb id) = false) (hy : eb id l[k] = true) : dJ l id = (k : Int) := by
 have e : l.findIdx (eb id) = k := by
  rw [List.findIdx_eq hk]
  refine ⟨hy, fun j hj => ?_⟩
  rw [List.any_eq_false] at h
  have := h l[j] (by rw [yS]; exact ⟨j, by rw [br]; omega, by simp⟩)
  simpa using this
 unfold dJ
 rw [if_pos (qZ hk hy), e]
def Wj (h : l.any (eb id) = false) : dJ l id = -1 := if_neg (by rw [h]; simp)
def Wk (h : id ∈ gX e l) : 0 ≤ dJ l id ∧ (dJ l id).toNat < l.length := by
 unfold gX at h
 obtain ⟨a, ha, rfl⟩ := List.mem_map.1 h
 have ha := (List.mem_filter.1 ha).1
 have hany : l.any (eb a.acv.Id) = true := List.any_eq_true.2 ⟨a, ha, by simp [eb]⟩
 have hlt : l.findIdx (eb a.acv.Id) < l.length := List.findIdx_lt_length_of_exists ⟨a, ha, by simp [eb]⟩
 unfold dJ
 rw [if_pos hany]
 omega
end
def oR (l : List acu) (ids : List Int) : List acv := ids.map fun id => (l.getD (dJ l id).toNat ic).acv
end
section
def pX (s : Store) : Nat := (ct s).length
def rt (s : Store) (k : Nat) : Nat := (dm s k).length
def Og {s : Store} {k : Nat} (hk : k < s.act.length) : rt s (k + 1) = rt s k + s.act[k].length := by unfold rt; rw [va hk, aV]
def Wl {s : Store} (k : Nat) (hk : k ≤ s.act.length) : rt s k ≤ pX s := by
 unfold rt pX dm ct
 have e : s.act.flatten = (s.act.take k).flatten ++ (s.act.drop k).flatten := by rw [← List.flatten_append, fc]
 rw [e, aV]; omega
def ig (v : aU) (keep : List Int) : Bool := decide (v.acE = -1) || keep.any (eK v)
def Wm {v : aU} {keep : List Int} {k : Nat} (hk : k < keep.length) (h : eK v keep[k] = true) : ig v keep = true := by unfold ig; rw [qZ hk h]; simp
def Wn {v : aU} {keep : List Int} (h : keep.any (eK v) = false) : ig v keep = decide (v.acE = -1) := by unfold ig; rw [h]; simp
def oS (v : aU) (keep : List Int) (k : Nat) : Bool := decide (v.acE = -1) || (keep.take k).any (eK v)
def Wo {v : aU} {keep : List Int} {k : Nat} (hk : k < keep.length) : oS v keep (k + 1) = (oS v keep k || eK v keep[k]) := by
 unfold oS; rw [cy hk, List.any_append, ← Bool.or_assoc]; simp
def Oh {v : aU} {keep : List Int} : oS v keep keep.length = ig v keep := by unfold oS ig; rw [cn]
def oT (keep : List Int) (l : List aU) : List aU := l.filter fun v => ig v keep
def gJ (s : Store) (keep : List Int) : Store := if dI s then ⟨s.act.map (oT keep), s.Now⟩ else s
def iJ (keep : List Int) (zs : List (aU × (Nat → Value))) : List (aU × (Nat → Value)) := zs.filter fun z => ig z.1 keep
def ii (zss : List (List (aU × (Nat → Value)))) (keep : List Int) (k : Nat) : List (List (aU × (Nat → Value))) := (zss.take k).map (iJ keep) ++ zss.drop k
section
variable {zss : List (List (aU × (Nat → Value)))} {keep : List Int} {k : Nat} {segs : List (List aU)}
def yh : (ii zss keep k).length = zss.length := by unfold ii; simp; omega
def Oi (hk : k < zss.length) (h : k < (ii zss keep k).length) : (ii zss keep k)[k]'h = zss[k] := by
 have h1 : (ii zss keep k)[k]? = some zss[k] := by
  unfold ii
  rw [List.getElem?_append_right (by simp; omega)]
  simp [Nat.min_eq_left (Nat.le_of_lt hk), hk]
 exact (List.getElem?_eq_some_iff.1 h1).2
def Oj (hk : k < zss.length) : (ii zss keep k).set k (iJ keep zss[k]) = ii zss keep (k + 1) := by
 unfold ii
 have hl : ((zss.take k).map (iJ keep)).length = k := by rw [aq, br]; omega
 rw [List.set_append_right _ _ (by omega), hl, Nat.sub_self, List.drop_eq_getElem_cons hk, List.set_cons_zero, cy hk, bT]
 simp
def CT : ii zss keep zss.length = zss.map (iJ keep) := by unfold ii; simp
def Ok : (zss.map (iJ keep)).flatten.Sublist zss.flatten := by
 induction zss with
 | nil => exact List.Sublist.slnil
 | cons z l ih => rw [List.map_cons, List.flatten_cons, List.flatten_cons]; exact List.Sublist.append List.filter_sublist ih
def Wp (hz : zss.map (List.map Prod.fst) = segs) : (zss.map (iJ keep)).map (List.map Prod.fst) = segs.map (oT keep) := by
 rw [← hz, List.map_map, List.map_map]
 refine List.map_congr_left fun zs _ => ?_
 simp only [Function.comp_apply, iJ, oT, List.filter_map]
 rfl
def Ol (hz : zss.map (List.map Prod.fst) = segs) : zss.length = segs.length := by rw [← hz, aq]
def Wq (hz : zss.map (List.map Prod.fst) = segs) (hk : k < zss.length) (hk2 : k < segs.length) : zss[k].map Prod.fst = segs[k] := by subst hz; simp
def Om (hz : zss.map (List.map Prod.fst) = segs) (hk : k < zss.length) (hk2 : k < segs.length) : zss[k].length = segs[k].length := by rw [← Wq hz hk hk2, aq]
def On (hz : zss.map (List.map Prod.fst) = segs) (hk : k < zss.length) (hk2 : k < segs.length) {j : Nat} (hj : j < zss[k].length) (hj2 : j < segs[k].length) : zss[k][j].1 = segs[k][j] := by
 subst hz; simp
def Oo {zs : List (aU × (Nat → Value))} {j : Nat} (hj : j < zs.length) (h : ig zs[j].1 keep = true) : iJ keep (zs.take (j + 1)) = iJ keep (zs.take j) ++ [zs[j]] := by
 unfold iJ; rw [cy hj, fA]; simp [h]
def Oq {zs : List (aU × (Nat → Value))} {j : Nat} (hj : j < zs.length) (h : ig zs[j].1 keep = false) : iJ keep (zs.take (j + 1)) = iJ keep (zs.take j) := by
 unfold iJ; rw [cy hj, fA]; simp [h]
def Ot {zs : List (aU × (Nat → Value))} {j : Nat} : (iJ keep (zs.take j)).length ≤ j := by
 have := ji (fun z : aU × (Nat → Value) => ig z.1 keep) (zs.take j)
 rw [br] at this
 unfold iJ; omega
end
def oU (s : Store) (i j : Nat) : List aU := (s.act.take i).flatten ++ (s.act.getD i []).take j
def jd (s : Store) (keep : List Int) (i j : Nat) : Nat := ((oU s i j).filter fun v => !ig v keep).length
def Ou {s : Store} {i j : Nat} (hi : i < s.act.length) (hj : j < s.act[i].length) : oU s i (j + 1) = oU s i j ++ [s.act[i][j]] := by
 unfold oU
 rw [show s.act.getD i [] = s.act[i] by simp [hi], cy hj, bw]
def Wr {s : Store} {i : Nat} (hi : i < s.act.length) : oU s i s.act[i].length = oU s (i + 1) 0 := by
 unfold oU
 rw [show s.act.getD i [] = s.act[i] by simp [hi], cn, cy hi, List.flatten_append]
 simp
def Ws {s : Store} {keep : List Int} {i j : Nat} (hi : i < s.act.length) (hj : j < s.act[i].length) (h : ig s.act[i][j] keep = true) : jd s keep i (j + 1) = jd s keep i j := by
 unfold jd; rw [Ou hi hj, fA]; simp [h]
def Wt {s : Store} {keep : List Int} {i j : Nat} (hi : i < s.act.length) (hj : j < s.act[i].length) (h : ig s.act[i][j] keep = false) : jd s keep i (j + 1) = jd s keep i j + 1 := by
 unfold jd; rw [Ou hi hj, fA]; simp [h]
def Wu {s : Store} {keep : List Int} {i : Nat} (hi : i < s.act.length) : jd s keep i s.act[i].length = jd s keep (i + 1) 0 := by unfold jd; rw [Wr hi]
def Wv {s : Store} {keep : List Int} : jd s keep 0 0 = 0 := by simp [jd, oU]
def Ww {s : Store} {keep : List Int} {i j : Nat} (hi : i < s.act.length) : jd s keep i j ≤ (ct s).length := by
 unfold jd
 refine Nat.le_trans (ji _ _) ?_
 unfold oU ct
 have h1 := va (s := s) hi
 have h2 : (dm s (i + 1)).length ≤ s.act.flatten.length := by
  unfold dm
  have e : s.act.flatten = (s.act.take (i + 1)).flatten ++ (s.act.drop (i + 1)).flatten := by rw [← List.flatten_append, fc]
  rw [e, aV]; omega
 rw [h1, aV] at h2
 rw [aV, br, show s.act.getD i [] = s.act[i] by simp [hi]]
 unfold dm at h2; omega
def Ov (keep : List Int) : ∀ l : List aU, bX (oT keep l) ≤ bX l
 | [] => Nat.le_refl _
 | v :: l => by
  have ih := Ov keep l
  unfold oT bX at *
  rw [List.filter_cons]
  split <;> simp only [List.length_cons, List.map_cons, List.sum_cons] <;> omega
def CU (s : Store) (keep : List Int) : cd (gJ s keep) ≤ cd s := by
 unfold gJ
 split
 ·unfold cd eO
  dsimp only
  rw [aq, List.map_map]
  have : (s.act.map (bX ∘ oT keep)).sum ≤ (s.act.map bX).sum := by
   generalize s.act = l
   induction l with
   | nil => exact Nat.le_refl _
   | cons x l ih => simp only [List.map_cons, List.sum_cons, Function.comp] at *; have := Ov keep x; omega
  omega
 ·exact Nat.le_refl _
def Ow {s : Store} {keep : List Int} (h : dI s = true) : gJ s keep = ⟨s.act.map (oT keep), s.Now⟩ := if_pos h
def Ox {s : Store} {keep : List Int} (h : dI s = false) : gJ s keep = s := if_neg (by rw [h]; simp)
def yi (s : Store) (keep : List Int) : Int := if dI s then (pX s : Int) - (pX (gJ s keep) : Int) else 0
def yj (s : Store) (keep : List Int) : Int := if dI s then (jd s keep s.act.length 0 : Int) else 0
def fK (l : List acu) : List Int := l.map fun a => a.Time
def dC (e : aD) : aD := ⟨gJ e.Store (fK e.acu), e.acy, e.Order, e.acu, e.Done, e.acG, e.Steps⟩
def oV (z : aU × (Nat → Value)) : List PV := [PV.nv (z.2 0) (PV.val (vI z.1.Id)), PV.nv (z.2 1) (PV.sl .v (z.1.Values.map ak)), PV.nv (z.2 2) (PV.val (vI z.1.acI)), PV.nv (z.2 3) (PV.val (vI z.1.acE))]
def kL (zs : List (aU × (Nat → Value))) : List PV := [PV.sl aS (zs.map oV)]
end
end Go.Proofs.YtmekkgdboplbjaaGreat
