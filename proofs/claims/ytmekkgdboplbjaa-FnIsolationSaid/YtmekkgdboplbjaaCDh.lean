/- Definitions and their laws. No condition. -/
import Derived.Test.YtmekkgdboplbjaaCDa
set_option linter.unusedVariables false
set_option linter.unusedSimpArgs false
namespace Go.Proofs.Ytmekkgdboplbjaa
open Go Go.RowKit M
set_option maxRecDepth 10000
def chgAt (x : Charge) (i : Nat) : Bool := inB (x.Tenants.getD i 0) 0 3 && inB (x.Rows.getD i 0) 0 x.Base
def chgTo (x : Charge) (k : Nat) : Bool := (List.range k).all (chgAt x)
theorem chgTo_succ {x : Charge} {k : Nat} : chgTo x (k + 1) = (chgTo x k && chgAt x k) := by simp [chgTo, List.range_succ]
def chgPre (x : Charge) : Bool := okSet x.Ids && (inB x.Ids.length 1 8 && (decide (x.Tenants.length = x.Ids.length) && decide (x.Rows.length = x.Ids.length)))
def okCharge (x : Charge) : Bool := (chgPre x && chgTo x x.Ids.length) && (inB x.Segment 0 7 && inB x.Base 0 4)
theorem chg_pre {x : Charge} (h : chgPre x = true) : 1 ≤ x.Ids.length ∧ x.Ids.length ≤ 8 ∧ x.Tenants.length = x.Ids.length ∧ x.Rows.length = x.Ids.length := by
 simp [chgPre, inB] at h; omega
theorem chg_no {x : Charge} {k : Nat} (hk : k < x.Ids.length) (h : chgAt x k = false) : okCharge x = false := by
 have : chgTo x x.Ids.length = false := by
  rw [← Bool.not_eq_true]
  intro hh
  have := List.all_eq_true.1 hh k (List.mem_range.2 hk)
  rw [h] at this; cases this
 unfold okCharge; rw [this]; simp
def rowAtC (x : Charge) (i : Nat) : Int := x.Rows.getD i 0
def workDone (x : Charge) : Int := if okCharge x then x.Base + ((List.range x.Rows.length).map (rowAtC x)).sum else 0
def totalWork (l : List Charge) : Int := (l.map workDone).sum
def shareAt (x : Charge) (i : Nat) : Int := x.Rows.getD i 0 + x.Base.tdiv x.Ids.length + (if (i : Int) < x.Base.tmod x.Ids.length then 1 else 0)
def sharesOf (x : Charge) : List Int := if okCharge x then (List.range x.Ids.length).map (shareAt x) else []
def tenAt (t : Int) (x : Charge) (k : Nat) : Int := if x.Tenants.getD k 0 = t then (sharesOf x).getD k 0 else 0
def tenOne (t : Int) (x : Charge) : Int := ((List.range (sharesOf x).length).map (tenAt t x)).sum
def tenantCharge (l : List Charge) (t : Int) : Int := (l.map (tenOne t)).sum
end Go.Proofs.Ytmekkgdboplbjaa
