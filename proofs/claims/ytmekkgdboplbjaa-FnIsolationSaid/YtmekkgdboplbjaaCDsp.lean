/- Definitions and their laws. No condition. -/
import Derived.Test.YtmekkgdboplbjaaCDrl
set_option linter.unusedVariables false
set_option linter.unusedSimpArgs false
namespace Go.Proofs.Ytmekkgdboplbjaa
open Go Go.RowKit M
set_option maxRecDepth 10000
theorem adj_pw {α : Type} {d : α} {p : α → Bool} {key : α → Int} {l : List α} (h : adjAll d p (fun a b => decide (key a < key b)) l = true) : l.Pairwise (fun a b => key a < key b) := by
 have step : ∀ j : Nat, (hj : j + 1 < l.length) → key l[j] < key l[j + 1] := fun j hj => by
  have h1 := List.all_eq_true.1 h (j + 1) (List.mem_range.2 hj)
  rw [Bool.and_eq_true, getD_at hj, show j + 1 - 1 = j from rfl, getD_at (show j < l.length by omega)] at h1
  have h2 := h1.2
  simpa using h2
 have lt : ∀ (j i : Nat) (hj : j < l.length) (hi : i < j), key l[i] < key l[j] := by
  intro j
  induction j with
  | zero => intro i _ hi; omega
  | succ j ih =>
   intro i hj hi
   have h1 := step j hj
   rcases Nat.lt_or_ge i j with h2 | h2
   ·have := ih i (by omega) h2; omega
   ·have : i = j := by omega
    subst this; exact h1
 rw [List.pairwise_iff_getElem]
 exact fun i j hi hj hij => lt j i hj hij
def segV (e : Engine) : List Version := e.Store.Segments.getD e.Cursor.toNat []
def visL (l : List Version) (t : Int) : List Row := (l.filter fun v => visV v t).map rowOfV
def gotA (e : Engine) (a : Active) : List Row := (visL (segV e) a.Time).filter (matchRow a.Query)
def gotTo (e : Engine) (a : Active) (j : Nat) : List Row := ((visL (segV e) a.Time).take j).filter (matchRow a.Query)
def withoutI (l : List Int) (x : Int) : List Int := l.filter fun y => !(y == x)
def serve (e : Engine) (a : Active) : Active := ⟨a.Query, a.Time, withoutI a.Todo e.Cursor, a.Age, a.Sent + ((gotA e a).length : Int), a.Cap, a.Rows ++ gotA e a⟩
def served (e : Engine) (ids : List Int) (a : Active) : Active := if hasI ids a.Query.Id then serve e a else a
def servedTo (e : Engine) (k : Nat) : List Active := e.Active.map (served e ((parts e).take k))
def actOf (e : Engine) (id : Int) : Active := e.Active.getD (findA e.Active id).toNat a0_
def tenOf (e : Engine) (id : Int) : Int := (actOf e id).Query.Tenant
def gotN (e : Engine) (id : Int) : Int := ((gotA e (actOf e id)).length : Int)
def scgTo (e : Engine) (k : Nat) : Charge := ⟨e.Cursor, ((segV e).length : Int), (parts e).take k, ((parts e).take k).map (tenOf e), ((parts e).take k).map (gotN e)⟩
def aged (n : Int) (a : Active) : Active := ⟨a.Query, a.Time, a.Todo, a.Age + 1, if (a.Age + 1).tmod n = 0 then 0 else a.Sent, a.Cap, a.Rows⟩
def endP (a : Active) : Bool := decide (a.Todo.length = 0)
def finA (a : Active) : Finished := ⟨a.Query, a.Time, a.Age, a.Rows⟩
def agedL (e : Engine) (k : Nat) : List Active := (servedTo e k).map (aged (e.Store.Segments.length : Int))
def restTo (e : Engine) (k m : Nat) : List Active := ((agedL e k).take m).filter fun a => !endP a
def doneTo (e : Engine) (k m : Nat) : List Finished := (((agedL e k).take m).filter endP).map finA
def ledTo (e : Engine) (k : Nat) : List Charge := if (parts e).length = 0 then e.Ledger else e.Ledger ++ [scgTo e k]
def stepTo (e : Engine) (k m : Nat) : Engine := ⟨e.Store, (e.Cursor + 1).tmod (e.Store.Segments.length : Int), e.Order, restTo e k m, e.Done ++ doneTo e k m, ledTo e k, e.Steps + 1⟩
def stepE (e : Engine) : Engine := stepTo e (parts e).length e.Active.length
def stepOk (e : Engine) : Bool := okEngine e && (decide (e.Steps < 100000) && (decide ((e.Ledger.length : Int) < 1000) && decide ((e.Done.length : Int) + (e.Active.length : Int) ≤ 1000)))
def stepEng (e : Engine) : Engine := if stepOk e then reclaimE (stepE e) else e
theorem step_no {e : Engine} (h : stepOk e = false) : stepEng e = e := if_neg (by rw [h]; simp)
theorem step_yes {e : Engine} (h : stepOk e = true) : stepEng e = reclaimE (stepE e) := if_pos h
theorem stepOk_f {e : Engine} (h : stepOk e = true) : okEngine e = true ∧ e.Steps < 100000 ∧ (e.Ledger.length : Int) < 1000 ∧ (e.Done.length : Int) + (e.Active.length : Int) ≤ 1000 := by
 unfold stepOk at h
 simp only [Bool.and_eq_true, decide_eq_true_eq] at h
 exact ⟨h.1, h.2.1, h.2.2.1, h.2.2.2⟩
theorem acts_pw {e : Engine} (h : okEngine e = true) : e.Active.Pairwise (fun a b => a.Query.Id < b.Query.Id) := by
 unfold okEngine at h
 simp only [Bool.and_eq_true] at h
 exact adj_pw h.2.1
theorem acts_idx {e : Engine} (h : okEngine e = true) {i j : Nat} (hi : i < e.Active.length) (hj : j < e.Active.length) (he : e.Active[i].Query.Id = e.Active[j].Query.Id) : i = j := by
 have hp := acts_pw h
 rw [List.pairwise_iff_getElem] at hp
 rcases Nat.lt_trichotomy i j with h1 | h1 | h1
 ·have := hp i j hi hj h1; omega
 ·exact h1
 ·have := hp j i hj hi h1; omega
theorem parts_pw {e : Engine} (h : okEngine e = true) : (parts e).Pairwise (· < ·) := by
 rw [parts_yes h]
 unfold partsOf
 rw [List.pairwise_map]
 exact (acts_pw h).filter _
theorem hasI_take {l : List Int} (hp : l.Pairwise (· < ·)) {k : Nat} (hk : k < l.length) (x : Int) : hasI (l.take (k + 1)) x = (hasI (l.take k) x || (l[k] == x)) := by
 unfold hasI
 rw [List.take_succ_eq_append_getElem hk, List.any_append]; simp
theorem hasI_take_no {l : List Int} (hp : l.Pairwise (· < ·)) {k : Nat} (hk : k < l.length) : hasI (l.take k) l[k] = false := by
 unfold hasI
 rw [List.any_eq_false]
 intro y hy
 obtain ⟨j, hj, rfl⟩ := List.mem_iff_getElem.1 hy
 rw [List.length_take] at hj
 rw [List.pairwise_iff_getElem] at hp
 have := hp j k (by omega) hk (by omega)
 simp
 omega
theorem part_at {e : Engine} {k : Nat} (hok : okEngine e = true) (hk : k < (parts e).length) : ∃ i, ∃ hi : i < e.Active.length, findA e.Active (parts e)[k] = (i : Int) ∧ e.Active[i].Query.Id = (parts e)[k] ∧ partP e e.Active[i] = true := by
 have hm : ∀ x, x ∈ parts e → x ∈ partsOf e e.Active := fun x hx => by rwa [parts_yes hok] at hx
 have hm := hm _ (List.getElem_mem hk)
 unfold partsOf at hm
 obtain ⟨a, ha, hid⟩ := List.mem_map.1 hm
 obtain ⟨ha, hp⟩ := List.mem_filter.1 ha
 obtain ⟨i, hi, rfl⟩ := List.mem_iff_getElem.1 ha
 refine ⟨i, hi, ?_, hid, hp⟩
 refine findA_yes hi ?_ (by unfold idP; rw [hid]; simp)
 rw [List.any_eq_false]
 intro b hb
 obtain ⟨j, hj, rfl⟩ := List.mem_iff_getElem.1 hb
 rw [List.length_take] at hj
 intro hc
 unfold idP at hc
 have hc : e.Active[j].Query.Id = (parts e)[k] := by simpa using hc
 have := acts_idx hok (show j < e.Active.length by omega) hi (hc.trans hid.symm)
 omega
section
variable {e : Engine} {k i j m : Nat}
theorem servedTo_len : (servedTo e k).length = e.Active.length := by unfold servedTo; rw [List.length_map]
theorem servedTo_get (h : i < (servedTo e k).length) (hi : i < e.Active.length) : (servedTo e k)[i] = served e ((parts e).take k) e.Active[i] := List.getElem_map (served e ((parts e).take k))
theorem servedTo_at (hok : okEngine e = true) (hk : k < (parts e).length) (hi : i < e.Active.length) (hid : e.Active[i].Query.Id = (parts e)[k]) (h : i < (servedTo e k).length) : (servedTo e k)[i] = e.Active[i] := by
 rw [servedTo_get h hi]
 unfold served
 rw [hid, hasI_take_no (parts_pw hok) hk, if_neg (by simp)]
theorem served_set (hok : okEngine e = true) (hk : k < (parts e).length) (hi : i < e.Active.length) (hid : e.Active[i].Query.Id = (parts e)[k]) : (servedTo e k).set i (serve e e.Active[i]) = servedTo e (k + 1) := by
 refine List.ext_getElem (by rw [List.length_set, servedTo_len, servedTo_len]) fun j h1 h2 => ?_
 have hj : j < e.Active.length := by rw [servedTo_len] at h2; exact h2
 rw [List.getElem_set, servedTo_get h2 hj]
 unfold served
 rw [hasI_take (parts_pw hok) hk]
 split
 ·rename_i hij
  subst hij
  rw [hid]; simp
 ·rename_i hij
  rw [servedTo_get _ hj]
  unfold served
  have : ((parts e)[k] == e.Active[j].Query.Id) = false := by
   rw [beq_eq_false_iff_ne]
   intro hc
   exact hij (acts_idx hok hi hj (hid.trans hc))
  rw [this, Bool.or_false]
theorem servedTo_zero : servedTo e 0 = e.Active := by
 unfold servedTo
 have : ∀ a : Active, served e ((parts e).take 0) a = a := fun a => by unfold served hasI; simp
 rw [List.map_congr_left (g := id) (fun a _ => this a), List.map_id]
theorem act_at2 {id : Int} (hi : i < e.Active.length) (hf : findA e.Active id = (i : Int)) : actOf e id = e.Active[i] := by
 unfold actOf; rw [hf]; simp [hi]
theorem chg_succ (hk : k < (parts e).length) (hi : i < e.Active.length) (hf : findA e.Active (parts e)[k] = (i : Int)) : scgTo e (k + 1) = ⟨e.Cursor, ((segV e).length : Int), (scgTo e k).Ids ++ [(parts e)[k]], (scgTo e k).Tenants ++ [e.Active[i].Query.Tenant], (scgTo e k).Rows ++ [((gotA e e.Active[i]).length : Int)]⟩ := by
 have ha := act_at2 hi hf
 unfold scgTo
 rw [List.take_succ_eq_append_getElem hk]
 simp only [List.map_append, List.map_cons, List.map_nil, tenOf, gotN, ha]
theorem chg_len (hk : k ≤ (parts e).length) : (scgTo e k).Ids.length = k ∧ (scgTo e k).Tenants.length = k ∧ (scgTo e k).Rows.length = k := by
 unfold scgTo
 simp only [List.length_map, List.length_take]
 omega
theorem gotTo_yes {a : Active} (hj : j < (visL (segV e) a.Time).length) (h : matchRow a.Query (visL (segV e) a.Time)[j] = true) : gotTo e a (j + 1) = gotTo e a j ++ [(visL (segV e) a.Time)[j]] := by
 unfold gotTo; rw [List.take_succ_eq_append_getElem hj, List.filter_append]; simp [h]
theorem gotTo_no {a : Active} (hj : j < (visL (segV e) a.Time).length) (h : matchRow a.Query (visL (segV e) a.Time)[j] = false) : gotTo e a (j + 1) = gotTo e a j := by
 unfold gotTo; rw [List.take_succ_eq_append_getElem hj, List.filter_append]; simp [h]
theorem gotTo_end {a : Active} : gotTo e a (visL (segV e) a.Time).length = gotA e a := by unfold gotTo gotA; rw [List.take_length]
theorem visL_len (l : List Version) (t : Int) : (visL l t).length ≤ l.length := by unfold visL; rw [List.length_map]; exact List.length_filter_le _ _
theorem segV_eq (h : e.Cursor.toNat < e.Store.Segments.length) : e.Store.Segments[e.Cursor.toNat] = segV e := by unfold segV; simp [h]
theorem segV_le (hok : okEngine e = true) : (segV e).length ≤ 4 := by
 have hf := eng_facts hok
 rw [← segV_eq hf.2.2.2.1]
 exact (sto_facts hf.1).2.2.2.2.1 _ (List.getElem_mem _)
theorem agedL_len : (agedL e k).length = e.Active.length := by unfold agedL; rw [List.length_map, servedTo_len]
theorem agedL_get (h : m < (agedL e k).length) (h2 : m < (servedTo e k).length) : (agedL e k)[m] = aged (e.Store.Segments.length : Int) (servedTo e k)[m] := List.getElem_map (aged (e.Store.Segments.length : Int))
theorem rest_yes (hm : m < (agedL e k).length) (h : endP (agedL e k)[m] = false) : restTo e k (m + 1) = restTo e k m ++ [(agedL e k)[m]] := by
 unfold restTo; rw [List.take_succ_eq_append_getElem hm, List.filter_append]; simp [h]
theorem rest_no (hm : m < (agedL e k).length) (h : endP (agedL e k)[m] = true) : restTo e k (m + 1) = restTo e k m := by
 unfold restTo; rw [List.take_succ_eq_append_getElem hm, List.filter_append]; simp [h]
theorem done_yes (hm : m < (agedL e k).length) (h : endP (agedL e k)[m] = true) : doneTo e k (m + 1) = doneTo e k m ++ [finA (agedL e k)[m]] := by
 unfold doneTo; rw [List.take_succ_eq_append_getElem hm, List.filter_append]; simp [h]
theorem done_no (hm : m < (agedL e k).length) (h : endP (agedL e k)[m] = false) : doneTo e k (m + 1) = doneTo e k m := by
 unfold doneTo; rw [List.take_succ_eq_append_getElem hm, List.filter_append]; simp [h]
theorem rest_le : (restTo e k m).length ≤ m := by
 have := List.length_filter_le (fun a => !endP a) ((agedL e k).take m)
 rw [List.length_take] at this
 unfold restTo; omega
theorem done_le : (doneTo e k m).length ≤ m := by
 have := List.length_filter_le endP ((agedL e k).take m)
 rw [List.length_take] at this
 unfold doneTo; rw [List.length_map]; omega
theorem aged_yes {n : Int} {a : Active} (h : (a.Age + 1).tmod n = 0) : aged n a = ⟨a.Query, a.Time, a.Todo, a.Age + 1, 0, a.Cap, a.Rows⟩ := by unfold aged; rw [if_pos h]
theorem aged_no {n : Int} {a : Active} (h : ¬ (a.Age + 1).tmod n = 0) : aged n a = ⟨a.Query, a.Time, a.Todo, a.Age + 1, a.Sent, a.Cap, a.Rows⟩ := by unfold aged; rw [if_neg h]
theorem wthout_le (l : List Int) (x : Int) : (withoutI l x).length ≤ l.length := List.length_filter_le _ _
theorem wthout_yes {l : List Int} {x : Int} (hk : k < l.length) (h : ¬ l[k] = x) : withoutI (l.take (k + 1)) x = withoutI (l.take k) x ++ [l[k]] := by
 unfold withoutI; rw [List.take_succ_eq_append_getElem hk, List.filter_append]; simp [h]
theorem wthout_no {l : List Int} {x : Int} (hk : k < l.length) (h : l[k] = x) : withoutI (l.take (k + 1)) x = withoutI (l.take k) x := by
 unfold withoutI; rw [List.take_succ_eq_append_getElem hk, List.filter_append]; simp [h]
end
theorem visL_yes {l : List Version} {t : Int} {k : Nat} (hk : k < l.length) (h : visV l[k] t = true) : visL (l.take (k + 1)) t = visL (l.take k) t ++ [rowOfV l[k]] := by
 unfold visL; rw [List.take_succ_eq_append_getElem hk, List.filter_append]; simp [h]
theorem visL_no {l : List Version} {t : Int} {k : Nat} (hk : k < l.length) (h : visV l[k] t = false) : visL (l.take (k + 1)) t = visL (l.take k) t := by
 unfold visL; rw [List.take_succ_eq_append_getElem hk, List.filter_append]; simp [h]
theorem wtRowS_app (a b : List Row) : wtRowS (a ++ b) = wtRowS a + wtRowS b := by unfold wtRowS; simp; omega
theorem seg_ok {e : Engine} (hok : okEngine e = true) : ∀ v ∈ segV e, okRow (rowOfV v) = true := by
 intro v hv
 have hf := eng_facts hok
 rw [← segV_eq hf.2.2.2.1] at hv
 obtain ⟨j, hj, rfl⟩ := List.mem_iff_getElem.1 hv
 have := sto_ver hf.1 hf.2.2.2.1 hj
 unfold verOk at this
 rw [Bool.and_eq_true] at this
 exact this.1
theorem rows_wt4 : ∀ l : List Row, (∀ r ∈ l, okRow r = true) → wtRowS l = 4 * l.length
 | [], _ => rfl
 | r :: l, h => by
  have ih := rows_wt4 l fun x hx => h x (List.mem_cons_of_mem _ hx)
  have hr : r.Values.length = 3 := by
   have := h r List.mem_cons_self
   simp [okRow, inB] at this; omega
  have hw : wtRow r = 3 := by simp only [wtRow, wtIntS_len, wtInt]; omega
  unfold wtRowS at ih ⊢
  rw [List.length_cons, List.map_cons, List.sum_cons, hw]; omega
theorem visL_ok {e : Engine} (hok : okEngine e = true) (t : Int) : ∀ r ∈ visL (segV e) t, okRow r = true := by
 intro r hr
 unfold visL at hr
 obtain ⟨v, hv, rfl⟩ := List.mem_map.1 hr
 exact seg_ok hok v (List.mem_filter.1 hv).1
theorem gotTo_wt {e : Engine} (hok : okEngine e = true) (a : Active) (j : Nat) : wtRowS (gotTo e a j) ≤ 16 ∧ (gotTo e a j).length ≤ 4 := by
 have hl : (gotTo e a j).length ≤ 4 := by
  have h1 := List.length_filter_le (matchRow a.Query) ((visL (segV e) a.Time).take j)
  rw [List.length_take] at h1
  have h2 := visL_len (segV e) a.Time
  have h3 := segV_le hok
  unfold gotTo; omega
 have hw := rows_wt4 (gotTo e a j) fun r hr => visL_ok hok a.Time r (List.mem_of_mem_take (List.mem_filter.1 hr).1)
 omega
theorem serve_wt {e : Engine} (hok : okEngine e = true) (a : Active) : wtActive (serve e a) ≤ wtActive a + 16 := by
 have h1 := gotTo_wt hok a (visL (segV e) a.Time).length
 rw [gotTo_end] at h1
 have h2 := wthout_le a.Todo e.Cursor
 unfold serve wtActive
 simp only [wtIntS_len, wtInt, wtRowS_app]
 omega
theorem served_wt {e : Engine} (hok : okEngine e = true) (k : Nat) : ((servedTo e k).map wtActive).sum ≤ (e.Active.map wtActive).sum + 16 * e.Active.length := by
 unfold servedTo
 generalize e.Active = l
 induction l with
 | nil => simp
 | cons a l ih =>
  simp only [List.map_cons, List.sum_cons, List.length_cons] at *
  have h1 : wtActive (served e ((parts e).take k) a) ≤ wtActive a + 16 := by
   unfold served
   split
   ·exact serve_wt hok a
   ·omega
  omega
theorem aged_wt (n : Int) (a : Active) : wtActive (aged n a) = wtActive a := by unfold aged wtActive; simp only [wtInt]
theorem fin_wt (a : Active) : wtFinished (finA a) ≤ wtActive a := by unfold finA wtFinished wtActive; simp only [wtInt]; omega
theorem split_wt : ∀ l : List Active, ((l.filter fun a => !endP a).map wtActive).sum + (((l.filter endP).map finA).map wtFinished).sum ≤ (l.map wtActive).sum
 | [] => by simp
 | a :: l => by
  have ih := split_wt l
  have hf := fin_wt a
  simp only [List.filter_cons]
  cases h : endP a
  ·simp only [Bool.not_false, if_true, List.map_cons, List.sum_cons, if_neg (by simp : ¬ (false = true))]; omega
  ·simp only [Bool.not_true, if_true, List.map_cons, List.sum_cons, if_neg (by simp : ¬ (false = true))]; omega
theorem split_len : ∀ l : List Active, (l.filter fun a => !endP a).length + (l.filter endP).length = l.length
 | [] => rfl
 | a :: l => by
  have ih := split_len l
  simp only [List.filter_cons]
  cases h : endP a <;> simp <;> omega
theorem chg_wt {e : Engine} {k : Nat} (hk : k ≤ (parts e).length) : wtCharge (scgTo e k) = 3 * k := by
 have := chg_len hk
 simp only [wtCharge, wtIntS_len, wtInt]
 omega
theorem step_wt {e : Engine} (hok : okEngine e = true) : wtEngine (stepE e) ≤ wtEngine e + 200 := by
 have hf := eng_facts hok
 have hp := parts_len (e := e)
 have h1 := served_wt hok (parts e).length
 have h2 : ((agedL e (parts e).length).map wtActive).sum = ((servedTo e (parts e).length).map wtActive).sum := by
  unfold agedL
  rw [List.map_map]
  exact congrArg List.sum (List.map_congr_left fun a _ => aged_wt _ a)
 have h3 := split_wt (agedL e (parts e).length)
 have h4 := split_len (agedL e (parts e).length)
 have h5 := agedL_len (e := e) (k := (parts e).length)
 have hr : restTo e (parts e).length e.Active.length = (agedL e (parts e).length).filter fun a => !endP a := by
  unfold restTo; rw [List.take_of_length_le (by omega)]
 have hd : doneTo e (parts e).length e.Active.length = ((agedL e (parts e).length).filter endP).map finA := by
  unfold doneTo; rw [List.take_of_length_le (by omega)]
 have hc := chg_wt (e := e) (Nat.le_refl _)
 have hl : wtChargeS (ledTo e (parts e).length) ≤ wtChargeS e.Ledger + 25 := by
  unfold ledTo
  split
  ·omega
  ·unfold wtChargeS
   rw [List.length_append, List.map_append, List.sum_append]
   simp only [List.map_cons, List.map_nil, List.sum_cons, List.sum_nil, List.length_cons, List.length_nil, hc]
   omega
 unfold stepE stepTo wtEngine
 dsimp only
 simp only [wtInt, wtActiveS, wtFinishedS, hr, hd, List.length_append, List.map_append, List.sum_append, List.length_map] at *
 omega
theorem reclaimE_wt (e : Engine) : wtEngine (reclaimE e) ≤ wtEngine e := by
 have := reclaim_wt e.Store (timesA e.Active)
 unfold reclaimE wtEngine
 dsimp only
 omega
theorem stepEng_wt (e : Engine) : wtEngine (stepEng e) ≤ wtEngine e + 200 := by
 unfold stepEng
 split
 ·rename_i h
  have h1 := step_wt (stepOk_f h).1
  have h2 := reclaimE_wt (stepE e)
  omega
 ·omega
theorem act_b {s : Store} {a : Active} (h : okActive s a = true) : 0 ≤ a.Sent ∧ a.Sent ≤ 1000 ∧ 0 ≤ a.Age ∧ a.Age ≤ 100000 ∧ a.Rows.length ≤ 1000 ∧ okQuery a.Query = true := by
 unfold okActive at h
 simp only [Bool.and_eq_true, inB, decide_eq_true_eq, okRows] at h
 exact ⟨by omega, by omega, by omega, by omega, by omega, h.2.1⟩
theorem served_b {e : Engine} (h : okEngine e = true) {k i : Nat} (hi : i < e.Active.length) (h2 : i < (servedTo e k).length) : 0 ≤ (servedTo e k)[i].Age ∧ (servedTo e k)[i].Age ≤ 100000 := by
 have ha := act_b ((eng_facts h).2.2.2.2.2.2.2.2.2.1 _ (List.getElem_mem hi))
 rw [servedTo_get h2 hi]
 unfold served
 split <;> exact ⟨ha.2.2.1, ha.2.2.2.1⟩
theorem gotA_len {e : Engine} (h : okEngine e = true) (a : Active) : (gotA e a).length ≤ 4 := by
 have := (gotTo_wt h a (visL (segV e) a.Time).length).2
 rwa [gotTo_end] at this
def nAct (z : Active × (Nat → Value)) : List PV := [PV.nv (z.2 0) (PV.val (vI z.1.Query.Id)), PV.nv (z.2 1) (PV.val (vI z.1.Query.Tenant)), PV.nv (z.2 2) (PV.sl .v (z.1.Query.Conds.map cCond)), PV.nv (z.2 3) (PV.sl .v (z.1.Query.Out.map cInt)), PV.nv (z.2 4) (PV.val (vI z.1.Time)), PV.nv (z.2 5) (PV.sl .v (z.1.Todo.map cInt)), PV.nv (z.2 6) (PV.val (vI z.1.Age)), PV.nv (z.2 7) (PV.val (vI z.1.Sent)), PV.nv (z.2 8) (PV.val (vI z.1.Cap)), PV.nv (z.2 9) (PV.sl .v (z.1.Rows.map (cRow (.own 3 1))))]
def nRow (z : Row × (Nat → Value)) : List PV := [PV.nv (z.2 0) (PV.val (vI z.1.Id)), PV.nv (z.2 1) (PV.sl .v (z.1.Values.map cInt))]
theorem adjAll_of {α : Type} {d : α} {p : α → Bool} {r : α → α → Bool} {l : List α} (h1 : ∀ x ∈ l, p x = true) (h2 : l.Pairwise (fun a b => r a b = true)) : adjAll d p r l = true := by
 unfold adjAll adjTo
 rw [List.all_eq_true]
 intro i hi
 have hi := List.mem_range.1 hi
 rw [getD_at hi, h1 _ (List.getElem_mem hi), Bool.true_and]
 cases i with
 | zero => rfl
 | succ i =>
  rw [List.pairwise_iff_getElem] at h2
  rw [show i + 1 - 1 = i from rfl, getD_at (show i < l.length by omega), h2 i (i + 1) (by omega) hi (by omega)]
  simp
end Go.Proofs.Ytmekkgdboplbjaa
