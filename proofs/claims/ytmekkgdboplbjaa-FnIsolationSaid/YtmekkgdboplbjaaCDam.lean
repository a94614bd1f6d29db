/- Definitions and their laws. No condition. -/
import Derived.Test.YtmekkgdboplbjaaCDsp
set_option linter.unusedVariables false
set_option linter.unusedSimpArgs false
namespace Go.Proofs.Ytmekkgdboplbjaa
open Go Go.RowKit M
set_option maxRecDepth 10000
def todoTo (k : Nat) : List Int := (List.range k).map fun i : Nat => (i : Int)
theorem todoTo_succ (k : Nat) : todoTo (k + 1) = todoTo k ++ [(k : Int)] := by simp [todoTo, List.range_succ]
theorem todoTo_len (k : Nat) : (todoTo k).length = k := by simp [todoTo]
def newAct (e : Engine) (q : Query) (l : Int) : Active := ⟨q, e.Store.Now, todoTo e.Store.Segments.length, 0, 0, l, []⟩
def ltId (x : Int) (a : Active) : Bool := decide (a.Query.Id < x)
def cutA (l : List Active) (x : Int) : Nat := (l.filter (ltId x)).length
def admAct (e : Engine) (q : Query) (l : Int) : List Active := e.Active.filter (ltId q.Id) ++ newAct e q l :: e.Active.drop (cutA e.Active q.Id)
def admitOk (e : Engine) (q : Query) (l : Int) : Bool := ((okEngine e && okQuery q) && inB l 0 32) && (decide (findA e.Active q.Id < 0) && decide ((e.Active.length : Int) < 8))
def admitE (e : Engine) (q : Query) (l : Int) : Engine × Bool := if admitOk e q l then (⟨e.Store, e.Cursor, e.Order, admAct e q l, e.Done, e.Ledger, e.Steps⟩, true) else (e, false)
theorem admit_no {e : Engine} {q : Query} {l : Int} (h : admitOk e q l = false) : admitE e q l = (e, false) := if_neg (by rw [h]; simp)
theorem admit_yes {e : Engine} {q : Query} {l : Int} (h : admitOk e q l = true) : admitE e q l = (⟨e.Store, e.Cursor, e.Order, admAct e q l, e.Done, e.Ledger, e.Steps⟩, true) := if_pos h
theorem admitOk_f {e : Engine} {q : Query} {l : Int} (h : admitOk e q l = true) : okEngine e = true ∧ okQuery q = true ∧ (0 ≤ l ∧ l ≤ 32) ∧ findA e.Active q.Id < 0 ∧ (e.Active.length : Int) < 8 := by
 unfold admitOk at h
 simp only [Bool.and_eq_true, decide_eq_true_eq, inB] at h
 exact ⟨h.1.1.1, h.1.1.2, h.1.2, h.2.1, h.2.2⟩
def filtA (x : Int) (zs : List (Active × (Nat → Value))) : List (Active × (Nat → Value)) := zs.filter fun z => ltId x z.1
section
variable {zs : List (Active × (Nat → Value))} {l : List Active} {x : Int} {k : Nat}
theorem filtA_yes (hk : k < zs.length) (h : ltId x zs[k].1 = true) : filtA x (zs.take (k + 1)) = filtA x (zs.take k) ++ [zs[k]] := by
 unfold filtA; rw [List.take_succ_eq_append_getElem hk, List.filter_append]; simp [h]
theorem filtA_no (hk : k < zs.length) (h : ltId x zs[k].1 = false) : filtA x (zs.take (k + 1)) = filtA x (zs.take k) := by
 unfold filtA; rw [List.take_succ_eq_append_getElem hk, List.filter_append]; simp [h]
theorem filtA_le : (filtA x (zs.take k)).length ≤ k := by
 have := List.length_filter_le (fun z : Active × (Nat → Value) => ltId x z.1) (zs.take k)
 rw [List.length_take] at this; unfold filtA; omega
theorem filtA_fst (hz : zs.map Prod.fst = l) : (filtA x zs).map Prod.fst = l.filter (ltId x) := by
 subst hz; unfold filtA; rw [List.filter_map]; rfl
theorem filtA_len (hz : zs.map Prod.fst = l) : (filtA x zs).length = cutA l x := by
 unfold cutA; rw [← filtA_fst hz, List.length_map]
theorem filt_take {α : Type} (key : α → Int) (x : Int) : ∀ {l : List α}, l.Pairwise (fun a b => key a < key b) → l.filter (fun a => decide (key a < x)) = l.take (l.filter fun a => decide (key a < x)).length
 | [], _ => rfl
 | a :: l, h => by
  have ⟨h1, h2⟩ := List.pairwise_cons.1 h
  have ih := filt_take key x h2
  rw [List.filter_cons]
  split
  ·rw [List.length_cons, List.take_succ_cons, ← ih]
  ·rename_i hc
   have hc : ¬ key a < x := by simpa using hc
   have : l.filter (fun a => decide (key a < x)) = [] := by
    rw [List.filter_eq_nil_iff]
    intro b hb
    have := h1 b hb
    simp; omega
   rw [this]; rfl
theorem za_pw {e : Engine} (hok : okEngine e = true) (hz : zs.map Prod.fst = e.Active) : zs.Pairwise (fun a b => a.1.Query.Id < b.1.Query.Id) := by
 have := acts_pw hok
 rw [← hz, List.pairwise_map] at this
 exact this
theorem filtA_take {e : Engine} (hok : okEngine e = true) (hz : zs.map Prod.fst = e.Active) : filtA x zs = zs.take (cutA e.Active x) := by
 have h := filt_take (fun z : Active × (Nat → Value) => z.1.Query.Id) x (za_pw hok hz)
 have hl := filtA_len (x := x) hz
 unfold filtA ltId at *
 rw [h, hl]
theorem cut_le {e : Engine} : cutA e.Active x ≤ e.Active.length := List.length_filter_le _ _
theorem cut_lt {e : Engine} (hok : okEngine e = true) (hk : k < e.Active.length) : e.Active[k].Query.Id < x ↔ k < cutA e.Active x := by
 have h := filt_take (fun a : Active => a.Query.Id) x (acts_pw hok)
 have hc : cutA e.Active x = (e.Active.filter fun a => decide (a.Query.Id < x)).length := rfl
 rw [← hc] at h
 constructor
 ·intro hx
  have hm : e.Active[k] ∈ e.Active.filter fun a => decide (a.Query.Id < x) := List.mem_filter.2 ⟨List.getElem_mem hk, by simpa using hx⟩
  rw [h] at hm
  obtain ⟨j, hj, hje⟩ := List.mem_iff_getElem.1 hm
  rw [List.length_take] at hj
  rw [List.getElem_take] at hje
  have := acts_idx hok (show j < e.Active.length by omega) hk (by rw [hje])
  omega
 ·intro hx
  have hm : e.Active[k] ∈ e.Active.take (cutA e.Active x) := by
   rw [List.mem_iff_getElem]; exact ⟨k, by rw [List.length_take]; omega, by rw [List.getElem_take]⟩
  rw [← h] at hm
  have := (List.mem_filter.1 hm).2
  simpa using this
theorem no_id {e : Engine} (h : findA e.Active x < 0) (hk : k < e.Active.length) : e.Active[k].Query.Id ≠ x := by
 intro hx
 unfold findA at h
 rw [if_pos (any_yes hk (by unfold idP; simpa using hx))] at h
 omega
def admZ (zs : List (Active × (Nat → Value))) (zn : Active × (Nat → Value)) (p k : Nat) : List (Active × (Nat → Value)) := if p < k then zs.take p ++ zn :: (zs.take k).drop p else zs.take k
theorem admZ_perm {zn : Active × (Nat → Value)} {p : Nat} : ((zs.take p ++ zn :: zs.drop p) ++ []).Perm ([zn] ++ zs) := by
 rw [List.append_nil]
 refine List.perm_middle.trans ?_
 rw [List.take_append_drop]; exact List.Perm.refl _
theorem admZ_fst {e : Engine} {q : Query} {li : Int} {kn : Nat → Value} (hok : okEngine e = true) (hz : zs.map Prod.fst = e.Active) : (zs.take (cutA e.Active q.Id) ++ (newAct e q li, kn) :: zs.drop (cutA e.Active q.Id)).map Prod.fst = admAct e q li := by
 unfold admAct
 rw [← filtA_take hok hz, List.map_append, filtA_fst hz, List.map_cons, List.map_drop, hz]
end
theorem todo_b {e : Engine} {q : Query} {l : Int} : wtActive (newAct e q l) = wtQuery q + e.Store.Segments.length := by
 unfold newAct wtActive
 simp only [wtIntS_len, wtInt, todoTo_len, wtRowS, List.map_nil, List.sum_nil, List.length_nil]; omega
theorem admit_wt (e : Engine) (q : Query) (l : Int) : wtEngine (admitE e q l).1 ≤ wtEngine e + wtQuery q + 10 := by
 unfold admitE
 split
 ·rename_i h
  have hf := admitOk_f h
  have hef := eng_facts hf.1
  obtain ⟨hs8, _, _, _, _, _⟩ := sto_facts hef.1
  have hn := todo_b (e := e) (q := q) (l := l)
  have hsum : ∀ (L : List Active) (x : Int), (∀ a ∈ L, True) → L.Pairwise (fun a b => a.Query.Id < b.Query.Id) → (L.filter (ltId x) ++ L.drop (cutA L x)) = L := by
   intro L x _ hp
   have h := filt_take (fun a : Active => a.Query.Id) x hp
   have : L.filter (ltId x) = L.take (cutA L x) := h
   rw [this, List.take_append_drop]
  have hs := hsum e.Active q.Id (fun _ _ => trivial) (acts_pw hf.1)
  have h1 : (admAct e q l).length = e.Active.length + 1 := by
   conv => rhs; rw [← hs]
   unfold admAct; simp only [List.length_append, List.length_cons]; omega
  have h2 : ((admAct e q l).map wtActive).sum = (e.Active.map wtActive).sum + wtActive (newAct e q l) := by
   conv => rhs; rw [← hs]
   unfold admAct; simp only [List.map_append, List.map_cons, List.sum_append, List.sum_cons]; omega
  unfold wtEngine wtActiveS
  dsimp only
  rw [h1, h2, hn]; omega
 ·dsimp only; omega
end Go.Proofs.Ytmekkgdboplbjaa
