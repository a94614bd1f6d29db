/- Definitions and their laws. No condition. -/
import Derived.Test.YtmekkgdboplbjaaCDrn
import Derived.Test.YtmekkgdboplbjaaCDup
import Derived.Test.YtmekkgdboplbjaaCDca
import Derived.Test.YtmekkgdboplbjaaCDam
set_option linter.unusedVariables false
set_option linter.unusedSimpArgs false
namespace Go.Proofs.Ytmekkgdboplbjaa
open Go Go.RowKit M
set_option maxRecDepth 10000
theorem okQuery_wt {q : Query} (h : okQuery q = true) : wtQuery q ≤ 6 := by
 unfold okQuery okFields at h
 simp only [Bool.and_eq_true, inB, decide_eq_true_eq] at h
 have h1 : (q.Conds.map wtCond).sum = 0 := by
  have : ∀ l : List Cond, (l.map wtCond).sum = 0 := by
   intro l
   induction l with
   | nil => rfl
   | cons c l ih => rw [List.map_cons, List.sum_cons, ih]; rfl
  exact this _
 unfold wtQuery wtCondS
 simp only [wtIntS_len, wtInt, h1]; omega
theorem upd_vals {s : Store} {u : Update} (h : applyOk s u = true) (hk : ¬ u.Kind = 2) : (upVals2 s u).length = 3 := by
 obtain ⟨h1, h2, h3, h4, h5⟩ := applyOk_f h
 have h0 : (upVals2 s u).length = (upVals s u).length := by unfold upVals2; split <;> simp
 rw [h0]
 by_cases a : 0 ≤ findI s u.Row.Id
 ·exact vals_3 h1 a
 ·rw [(up_no a).2]
  have hk1 : u.Kind = 1 := by
   by_cases b : u.Kind = 1
   ·exact b
   ·exact absurd (h4.2 b) a
  unfold okUpdate at h2
  rw [if_pos hk1] at h2
  simp only [Bool.and_eq_true] at h2
  exact rowLen h2.1
theorem apply_wt4 (s : Store) (u : Update) : wtStore (applyU s u).1 ≤ wtStore s + 4 := by
 cases h : applyOk s u with
 | false => rw [apply_no h]; dsimp only; omega
 | true =>
  by_cases hk : u.Kind = 2
  ·rw [apply_del h hk]
   have e1 := up_wt s u
   unfold wtStore; dsimp only; rw [e1]; simp only [wtInt]; omega
  ·have h5 := (applyOk_f h).2.2.2.2.resolve_left hk
   obtain ⟨r, hr, hrm, _⟩ := room_ge h5
   rw [apply_put h hk hrm]
   have e1 := up_wt s u
   have e2 := upd_vals h hk
   have hru : r < (upSegs s u).length := by rw [up_len]; exact hr
   have e3 := set_sum (f := wtVersionS) (x := (upSegs s u)[r] ++ [upNew s u]) hru
   have hw : wtVersion (upNew s u) = (upVals2 s u).length := by unfold upNew wtVersion; simp only [wtIntS_len, wtInt]; omega
   have e5 : wtVersionS ((upSegs s u)[r] ++ [upNew s u]) = wtVersionS (upSegs s u)[r] + (1 + wtVersion (upNew s u)) := by
    unfold wtVersionS; simp only [List.length_append, List.map_append, List.sum_append, List.length_cons, List.length_nil, List.map_cons, List.map_nil, List.sum_cons, List.sum_nil]; omega
   rw [putV_eq hru]
   unfold wtStore
   dsimp only
   unfold wtVersionSS at e1 ⊢
   rw [List.length_set]
   simp only [wtInt] at *; omega
def withS (e : Engine) (s : Store) : Engine := ⟨s, e.Cursor, e.Order, e.Active, e.Done, e.Ledger, e.Steps⟩
def updE (e : Engine) (u : Update) : Engine × Bool := if okEngine e && (applyU e.Store u).2 then (reclaimE (withS e (applyU e.Store u).1), true) else (e, false)
theorem upd_no {e : Engine} {u : Update} (h : (okEngine e && (applyU e.Store u).2) = false) : updE e u = (e, false) := if_neg (by rw [h]; simp)
theorem upd_yes {e : Engine} {u : Update} (h : (okEngine e && (applyU e.Store u).2) = true) : updE e u = (reclaimE (withS e (applyU e.Store u).1), true) := if_pos h
theorem withS_wt (e : Engine) (u : Update) : wtEngine (withS e (applyU e.Store u).1) ≤ wtEngine e + 4 := by
 have := apply_wt4 e.Store u
 unfold withS wtEngine; dsimp only; omega
theorem updE_wt (e : Engine) (u : Update) : wtEngine (updE e u).1 ≤ wtEngine e + 4 := by
 have h1 := withS_wt e u
 have h2 := reclaimE_wt (withS e (applyU e.Store u).1)
 unfold updE
 split <;> dsimp only <;> omega
def evE (e : Engine) (x : Event) : Engine × Bool := if okEngine e && okEvent x then (if x.Kind = 1 then admitE e x.Query x.Limit else if x.Kind = 2 then cancelE e x.Id else if x.Kind = 3 then updE e x.Update else (runEngine e x.Steps, true)) else (e, false)
theorem ev_no {e : Engine} {x : Event} (h : (okEngine e && okEvent x) = false) : evE e x = (e, false) := if_neg (by rw [h]; simp)
theorem ev_1 {e : Engine} {x : Event} (h : (okEngine e && okEvent x) = true) (k : x.Kind = 1) : evE e x = admitE e x.Query x.Limit := by unfold evE; rw [if_pos h, if_pos k]
theorem ev_2 {e : Engine} {x : Event} (h : (okEngine e && okEvent x) = true) (k : x.Kind = 2) : evE e x = cancelE e x.Id := by unfold evE; rw [if_pos h, if_neg (by omega), if_pos k]
theorem ev_3 {e : Engine} {x : Event} (h : (okEngine e && okEvent x) = true) (k : x.Kind = 3) : evE e x = updE e x.Update := by unfold evE; rw [if_pos h, if_neg (by omega), if_neg (by omega), if_pos k]
theorem ev_4 {e : Engine} {x : Event} (h : (okEngine e && okEvent x) = true) (k1 : ¬ x.Kind = 1) (k2 : ¬ x.Kind = 2) (k3 : ¬ x.Kind = 3) : evE e x = (runEngine e x.Steps, true) := by unfold evE; rw [if_pos h, if_neg k1, if_neg k2, if_neg k3]
theorem evE_wt (e : Engine) (x : Event) : wtEngine (evE e x).1 ≤ wtEngine e + 40000 := by
 cases h : okEngine e && okEvent x with
 | false => rw [ev_no h]; dsimp only; omega
 | true =>
  by_cases k1 : x.Kind = 1
  ·rw [ev_1 h k1]
   cases ha : admitOk e x.Query x.Limit with
   | false => rw [admit_no ha]; dsimp only; omega
   | true =>
    have h1 := admit_wt e x.Query x.Limit
    have h2 := okQuery_wt (admitOk_f ha).2.1
    omega
  ·by_cases k2 : x.Kind = 2
   ·rw [ev_2 h k2]; have := cancel_wt e x.Id; omega
   ·by_cases k3 : x.Kind = 3
    ·rw [ev_3 h k3]; have := updE_wt e x.Update; omega
    ·rw [ev_4 h k1 k2 k3]; have := runEngine_wt e x.Steps; dsimp only; omega
def stepEv (s : Engine × Int) (x : Event) : Engine × Int := ((evE s.1 x).1, if (evE s.1 x).2 then s.2 + 1 else s.2)
def evsTo (e : Engine) (l : List Event) (k : Nat) : Engine × Int := (l.take k).foldl stepEv (e, 0)
def runEvs (e : Engine) (l : List Event) : Engine × Int := evsTo e l (min l.length 60)
end Go.Proofs.Ytmekkgdboplbjaa
