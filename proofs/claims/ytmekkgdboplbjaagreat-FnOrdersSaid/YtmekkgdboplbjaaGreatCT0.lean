/- Definitions and their laws. No condition. -/
import Derived.Test.YtmekkgdboplbjaaGreatCE0
set_option linter.unusedVariables false
set_option linter.unusedSimpArgs false
namespace Go.Proofs.YtmekkgdboplbjaaGreat
open Go Go.RowKit M
set_option maxRecDepth 10000
section
def bp (e : am) : List aF := e.Store.Segments.getD e.Cursor.toNat []
def cG (l : List aF) (t : Int) : List Row := (l.filter fun v => de v t).map dr
def gk (e : am) (a : Active) : List Row := (cG (bp e) a.Time).filter (eb a.Query)
def fJ (e : am) (a : Active) (j : Nat) : List Row := ((cG (bp e) a.Time).take j).filter (eb a.Query)
def iV (l : List Int) (x : Int) : List Int := l.filter fun y => !(y == x)
def iW (e : am) (a : Active) : Active := ⟨a.Query, a.Time, iV a.Todo e.Cursor, a.Age, a.Sent + ((gk e a).length : Int), a.Cap, a.Rows ++ gk e a⟩
def gW (e : am) (ids : List Int) (a : Active) : Active := if bh ids a.Query.Id then iW e a else a
def bj (e : am) (k : Nat) : List Active := e.Active.map (gW e ((parts e).take k))
def vb (e : am) (id : Int) : Active := e.Active.getD (cm e.Active id).toNat eX
def py (e : am) (id : Int) : Int := (vb e id).Query.Tenant
def pz (e : am) (id : Int) : Int := ((gk e (vb e id)).length : Int)
def cz (e : am) (k : Nat) : dZ := ⟨e.Cursor, ((bp e).length : Int), (parts e).take k, ((parts e).take k).map (py e), ((parts e).take k).map (pz e)⟩
def gX (n : Int) (a : Active) : Active := ⟨a.Query, a.Time, a.Todo, a.Age + 1, if (a.Age + 1).tmod n = 0 then 0 else a.Sent, a.Cap, a.Rows⟩
def cH (a : Active) : Bool := decide (a.Todo.length = 0)
def mB (a : Active) : dP := ⟨a.Query, a.Time, a.Age, a.Rows⟩
def bL (e : am) (k : Nat) : List Active := (bj e k).map (gX (e.Store.Segments.length : Int))
def fK (e : am) (k m : Nat) : List Active := ((bL e k).take m).filter fun a => !cH a
def dS (e : am) (k m : Nat) : List dP := (((bL e k).take m).filter cH).map mB
def d4 (e : am) (k : Nat) : List dZ := if (parts e).length = 0 then e.Ledger else e.Ledger ++ [cz e k]
def pA (e : am) (k m : Nat) : am := ⟨e.Store, (e.Cursor + 1).tmod (e.Store.Segments.length : Int), e.Order, fK e k m, e.Done ++ dS e k m, d4 e k, e.Steps + 1⟩
def eN (e : am) : am := pA e (parts e).length e.Active.length
def eC (e : am) : Bool := aH e && (decide (e.Steps < 100000) && (decide ((e.Ledger.length : Int) < 1000) && decide ((e.Done.length : Int) + (e.Active.length : Int) ≤ 1000)))
def bU (e : am) : am := if eC e then cf (eN e) else e
theorem vc {e : am} (h : eC e = false) : bU e = e := if_neg (by rw [h]; simp)
theorem rO {e : am} (h : eC e = true) : bU e = cf (eN e) := if_pos h
theorem rP {e : am} (h : eC e = true) : aH e = true ∧ e.Steps < 100000 ∧ (e.Ledger.length : Int) < 1000 ∧ (e.Done.length : Int) + (e.Active.length : Int) ≤ 1000 := by
 unfold eC at h
 simp only [Bool.and_eq_true, decide_eq_true_eq] at h
 exact ⟨h.1, h.2.1, h.2.2.1, h.2.2.2⟩
theorem lP {e : am} (h : aH e = true) : e.Active.Pairwise (fun a b => a.Query.Id < b.Query.Id) := by
 unfold aH at h
 simp only [Bool.and_eq_true] at h
 exact Jv h.2.1
theorem rQ {e : am} (h : aH e = true) {i j : Nat} (hi : i < e.Active.length) (hj : j < e.Active.length) (he : e.Active[i].Query.Id = e.Active[j].Query.Id) : i = j := by
 have hp := lP h
 rw [List.pairwise_iff_getElem] at hp
 rcases Nat.lt_trichotomy i j with h1 | h1 | h1
 ·have := hp i j hi hj h1; omega
 ·exact h1
 ·have := hp j i hj hi h1; omega
theorem zz {e : am} (h : aH e = true) : (parts e).Pairwise (· < ·) := by
 rw [jp h]
 unfold eA
 rw [List.pairwise_map]
 exact (lP h).filter _
theorem Q8 {l : List Int} (hp : l.Pairwise (· < ·)) {k : Nat} (hk : k < l.length) (x : Int) : bh (l.take (k + 1)) x = (bh (l.take k) x || (l[k] == x)) := by
 unfold bh
 rw [List.take_succ_eq_append_getElem hk, List.any_append]; simp
theorem Q9 {l : List Int} (hp : l.Pairwise (· < ·)) {k : Nat} (hk : k < l.length) : bh (l.take k) l[k] = false := by
 unfold bh
 rw [List.any_eq_false]
 intro y hy
 obtain ⟨j, hj, rfl⟩ := List.mem_iff_getElem.1 hy
 rw [List.length_take] at hj
 rw [List.pairwise_iff_getElem] at hp
 have := hp j k (by omega) hk (by omega)
 simp
 omega
theorem zA {e : am} {k : Nat} (hok : aH e = true) (hk : k < (parts e).length) : ∃ i, ∃ hi : i < e.Active.length, cm e.Active (parts e)[k] = (i : Int) ∧ e.Active[i].Query.Id = (parts e)[k] ∧ fh e e.Active[i] = true := by
 have hm : ∀ x, x ∈ parts e → x ∈ eA e e.Active := fun x hx => by rwa [jp hok] at hx
 have hm := hm _ (List.getElem_mem hk)
 unfold eA at hm
 obtain ⟨a, ha, hid⟩ := List.mem_map.1 hm
 obtain ⟨ha, hp⟩ := List.mem_filter.1 ha
 obtain ⟨i, hi, rfl⟩ := List.mem_iff_getElem.1 ha
 refine ⟨i, hi, ?_, hid, hp⟩
 refine yX hi ?_ (by unfold cS; rw [hid]; simp)
 rw [List.any_eq_false]
 intro b hb
 obtain ⟨j, hj, rfl⟩ := List.mem_iff_getElem.1 hb
 rw [List.length_take] at hj
 intro hc
 unfold cS at hc
 have hc : e.Active[j].Query.Id = (parts e)[k] := by simpa using hc
 have := rQ hok (show j < e.Active.length by omega) hi (hc.trans hid.symm)
 omega
section
variable {e : am} {k i j m : Nat}
theorem iz : (bj e k).length = e.Active.length := by unfold bj; rw [List.length_map]
theorem vd (h : i < (bj e k).length) (hi : i < e.Active.length) : (bj e k)[i] = gW e ((parts e).take k) e.Active[i] := List.getElem_map (gW e ((parts e).take k))
theorem KD (hok : aH e = true) (hk : k < (parts e).length) (hi : i < e.Active.length) (hid : e.Active[i].Query.Id = (parts e)[k]) (h : i < (bj e k).length) : (bj e k)[i] = e.Active[i] := by
 rw [vd h hi]
 unfold gW
 rw [hid, Q9 (zz hok) hk, if_neg (by simp)]
theorem KE (hok : aH e = true) (hk : k < (parts e).length) (hi : i < e.Active.length) (hid : e.Active[i].Query.Id = (parts e)[k]) : (bj e k).set i (iW e e.Active[i]) = bj e (k + 1) := by
 refine List.ext_getElem (by rw [List.length_set, iz, iz]) fun j h1 h2 => ?_
 have hj : j < e.Active.length := by rw [iz] at h2; exact h2
 rw [List.getElem_set, vd h2 hj]
 unfold gW
 rw [Q8 (zz hok) hk]
 split
 ·rename_i hij
  subst hij
  rw [hid]; simp
 ·rename_i hij
  rw [vd _ hj]
  unfold gW
  have : ((parts e)[k] == e.Active[j].Query.Id) = false := by
   rw [beq_eq_false_iff_ne]
   intro hc
   exact hij (rQ hok hi hj (hid.trans hc))
  rw [this, Bool.or_false]
theorem zB : bj e 0 = e.Active := by
 unfold bj
 have : ∀ a : Active, gW e ((parts e).take 0) a = a := fun a => by unfold gW bh; simp
 rw [List.map_congr_left (g := id) (fun a _ => this a), List.map_id]
theorem zC {id : Int} (hi : i < e.Active.length) (hf : cm e.Active id = (i : Int)) : vb e id = e.Active[i] := by
 unfold vb; rw [hf]; simp [hi]
theorem Ra (hk : k < (parts e).length) (hi : i < e.Active.length) (hf : cm e.Active (parts e)[k] = (i : Int)) : cz e (k + 1) = ⟨e.Cursor, ((bp e).length : Int), (cz e k).Ids ++ [(parts e)[k]], (cz e k).Tenants ++ [e.Active[i].Query.Tenant], (cz e k).Rows ++ [((gk e e.Active[i]).length : Int)]⟩ := by
 have ha := zC hi hf
 unfold cz
 rw [List.take_succ_eq_append_getElem hk]
 simp only [List.map_append, List.map_cons, List.map_nil, py, pz, ha]
theorem ve (hk : k ≤ (parts e).length) : (cz e k).Ids.length = k ∧ (cz e k).Tenants.length = k ∧ (cz e k).Rows.length = k := by
 unfold cz
 simp only [List.length_map, List.length_take]
 omega
theorem KF {a : Active} (hj : j < (cG (bp e) a.Time).length) (h : eb a.Query (cG (bp e) a.Time)[j] = true) : fJ e a (j + 1) = fJ e a j ++ [(cG (bp e) a.Time)[j]] := by
 unfold fJ; rw [List.take_succ_eq_append_getElem hj, List.filter_append]; simp [h]
theorem KG {a : Active} (hj : j < (cG (bp e) a.Time).length) (h : eb a.Query (cG (bp e) a.Time)[j] = false) : fJ e a (j + 1) = fJ e a j := by
 unfold fJ; rw [List.take_succ_eq_append_getElem hj, List.filter_append]; simp [h]
theorem zD {a : Active} : fJ e a (cG (bp e) a.Time).length = gk e a := by unfold fJ gk; rw [List.take_length]
theorem rR (l : List aF) (t : Int) : (cG l t).length ≤ l.length := by unfold cG; rw [List.length_map]; exact List.length_filter_le _ _
theorem zE (h : e.Cursor.toNat < e.Store.Segments.length) : e.Store.Segments[e.Cursor.toNat] = bp e := by unfold bp; simp [h]
theorem vf (hok : aH e = true) : (bp e).length ≤ 4 := by
 have hf := fg hok
 rw [← zE hf.2.2.2.1]
 exact (jj hf.1).2.2.2.2.1 _ (List.getElem_mem _)
theorem pB : (bL e k).length = e.Active.length := by unfold bL; rw [List.length_map, iz]
theorem pC (h : m < (bL e k).length) (h2 : m < (bj e k).length) : (bL e k)[m] = gX (e.Store.Segments.length : Int) (bj e k)[m] := List.getElem_map (gX (e.Store.Segments.length : Int))
theorem Rb (hm : m < (bL e k).length) (h : cH (bL e k)[m] = false) : fK e k (m + 1) = fK e k m ++ [(bL e k)[m]] := by
 unfold fK; rw [List.take_succ_eq_append_getElem hm, List.filter_append]; simp [h]
theorem Rc (hm : m < (bL e k).length) (h : cH (bL e k)[m] = true) : fK e k (m + 1) = fK e k m := by
 unfold fK; rw [List.take_succ_eq_append_getElem hm, List.filter_append]; simp [h]
theorem Rd (hm : m < (bL e k).length) (h : cH (bL e k)[m] = true) : dS e k (m + 1) = dS e k m ++ [mB (bL e k)[m]] := by
 unfold dS; rw [List.take_succ_eq_append_getElem hm, List.filter_append]; simp [h]
theorem Re (hm : m < (bL e k).length) (h : cH (bL e k)[m] = false) : dS e k (m + 1) = dS e k m := by
 unfold dS; rw [List.take_succ_eq_append_getElem hm, List.filter_append]; simp [h]
theorem vg : (fK e k m).length ≤ m := by
 have := List.length_filter_le (fun a => !cH a) ((bL e k).take m)
 rw [List.length_take] at this
 unfold fK; omega
theorem vh : (dS e k m).length ≤ m := by
 have := List.length_filter_le cH ((bL e k).take m)
 rw [List.length_take] at this
 unfold dS; rw [List.length_map]; omega
theorem zF {n : Int} {a : Active} (h : (a.Age + 1).tmod n = 0) : gX n a = ⟨a.Query, a.Time, a.Todo, a.Age + 1, 0, a.Cap, a.Rows⟩ := by unfold gX; rw [if_pos h]
theorem zG {n : Int} {a : Active} (h : ¬ (a.Age + 1).tmod n = 0) : gX n a = ⟨a.Query, a.Time, a.Todo, a.Age + 1, a.Sent, a.Cap, a.Rows⟩ := by unfold gX; rw [if_neg h]
theorem zH (l : List Int) (x : Int) : (iV l x).length ≤ l.length := List.length_filter_le _ _
theorem Rf {l : List Int} {x : Int} (hk : k < l.length) (h : ¬ l[k] = x) : iV (l.take (k + 1)) x = iV (l.take k) x ++ [l[k]] := by
 unfold iV; rw [List.take_succ_eq_append_getElem hk, List.filter_append]; simp [h]
theorem Rg {l : List Int} {x : Int} (hk : k < l.length) (h : l[k] = x) : iV (l.take (k + 1)) x = iV (l.take k) x := by
 unfold iV; rw [List.take_succ_eq_append_getElem hk, List.filter_append]; simp [h]
end
theorem zI {l : List aF} {t : Int} {k : Nat} (hk : k < l.length) (h : de l[k] t = true) : cG (l.take (k + 1)) t = cG (l.take k) t ++ [dr l[k]] := by
 unfold cG; rw [List.take_succ_eq_append_getElem hk, List.filter_append]; simp [h]
theorem KH {l : List aF} {t : Int} {k : Nat} (hk : k < l.length) (h : de l[k] t = false) : cG (l.take (k + 1)) t = cG (l.take k) t := by
 unfold cG; rw [List.take_succ_eq_append_getElem hk, List.filter_append]; simp [h]
theorem Rh (a b : List Row) : eJ (a ++ b) = eJ a + eJ b := by unfold eJ; simp; omega
theorem KI {e : am} (hok : aH e = true) : ∀ v ∈ bp e, bm (dr v) = true := by
 intro v hv
 have hf := fg hok
 rw [← zE hf.2.2.2.1] at hv
 obtain ⟨j, hj, rfl⟩ := List.mem_iff_getElem.1 hv
 have := yT hf.1 hf.2.2.2.1 hj
 unfold ck at this
 rw [Bool.and_eq_true] at this
 exact this.1
theorem KJ : ∀ l : List Row, (∀ r ∈ l, bm r = true) → eJ l = 4 * l.length
 | [], _ => rfl
 | r :: l, h => by
  have ih := KJ l fun x hx => h x (List.mem_cons_of_mem _ hx)
  have hr : r.Values.length = 3 := by
   have := h r List.mem_cons_self
   simp [bm, aB] at this; omega
  have hw : fG r = 3 := by simp only [fG, cu, aV]; omega
  unfold eJ at ih ⊢
  rw [List.length_cons, List.map_cons, List.sum_cons, hw]; omega
theorem KK {e : am} (hok : aH e = true) (t : Int) : ∀ r ∈ cG (bp e) t, bm r = true := by
 intro r hr
 unfold cG at hr
 obtain ⟨v, hv, rfl⟩ := List.mem_map.1 hr
 exact KI hok v (List.mem_filter.1 hv).1
theorem zJ {e : am} (hok : aH e = true) (a : Active) (j : Nat) : eJ (fJ e a j) ≤ 16 ∧ (fJ e a j).length ≤ 4 := by
 have hl : (fJ e a j).length ≤ 4 := by
  have h1 := List.length_filter_le (eb a.Query) ((cG (bp e) a.Time).take j)
  rw [List.length_take] at h1
  have h2 := rR (bp e) a.Time
  have h3 := vf hok
  unfold fJ; omega
 have hw := KJ (fJ e a j) fun r hr => KK hok a.Time r (List.mem_of_mem_take (List.mem_filter.1 hr).1)
 omega
theorem Ri {e : am} (hok : aH e = true) (a : Active) : ca (iW e a) ≤ ca a + 16 := by
 have h1 := zJ hok a (cG (bp e) a.Time).length
 rw [zD] at h1
 have h2 := zH a.Todo e.Cursor
 unfold iW ca
 simp only [cu, aV, Rh]
 omega
theorem Rj {e : am} (hok : aH e = true) (k : Nat) : ((bj e k).map ca).sum ≤ (e.Active.map ca).sum + 16 * e.Active.length := by
 unfold bj
 generalize e.Active = l
 induction l with
 | nil => simp
 | cons a l ih =>
  simp only [List.map_cons, List.sum_cons, List.length_cons] at *
  have h1 : ca (gW e ((parts e).take k) a) ≤ ca a + 16 := by
   unfold gW
   split
   ·exact Ri hok a
   ·omega
  omega
theorem Rk (n : Int) (a : Active) : ca (gX n a) = ca a := by unfold gX ca; simp only [aV]
theorem Rl (a : Active) : ja (mB a) ≤ ca a := by unfold mB ja ca; simp only [aV]; omega
theorem KL : ∀ l : List Active, ((l.filter fun a => !cH a).map ca).sum + (((l.filter cH).map mB).map ja).sum ≤ (l.map ca).sum
 | [] => by simp
 | a :: l => by
  have ih := KL l
  have hf := Rl a
  simp only [List.filter_cons]
  cases h : cH a
  ·simp only [Bool.not_false, if_true, List.map_cons, List.sum_cons, if_neg (by simp : ¬ (false = true))]; omega
  ·simp only [Bool.not_true, if_true, List.map_cons, List.sum_cons, if_neg (by simp : ¬ (false = true))]; omega
theorem zK : ∀ l : List Active, (l.filter fun a => !cH a).length + (l.filter cH).length = l.length
 | [] => rfl
 | a :: l => by
  have ih := zK l
  simp only [List.filter_cons]
  cases h : cH a <;> simp <;> omega
theorem Rm {e : am} {k : Nat} (hk : k ≤ (parts e).length) : lr (cz e k) = 3 * k := by
 have := ve hk
 simp only [lr, cu, aV]
 omega
theorem zL {e : am} (hok : aH e = true) : aO (eN e) ≤ aO e + 200 := by
 have hf := fg hok
 have hp := nN (e := e)
 have h1 := Rj hok (parts e).length
 have h2 : ((bL e (parts e).length).map ca).sum = ((bj e (parts e).length).map ca).sum := by
  unfold bL
  rw [List.map_map]
  exact congrArg List.sum (List.map_congr_left fun a _ => Rk _ a)
 have h3 := KL (bL e (parts e).length)
 have h4 := zK (bL e (parts e).length)
 have h5 := pB (e := e) (k := (parts e).length)
 have hr : fK e (parts e).length e.Active.length = (bL e (parts e).length).filter fun a => !cH a := by
  unfold fK; rw [List.take_of_length_le (by omega)]
 have hd : dS e (parts e).length e.Active.length = ((bL e (parts e).length).filter cH).map mB := by
  unfold dS; rw [List.take_of_length_le (by omega)]
 have hc := Rm (e := e) (Nat.le_refl _)
 have hl : f4 (d4 e (parts e).length) ≤ f4 e.Ledger + 25 := by
  unfold d4
  split
  ·omega
  ·unfold f4
   rw [List.length_append, List.map_append, List.sum_append]
   simp only [List.map_cons, List.map_nil, List.sum_cons, List.sum_nil, List.length_cons, List.length_nil, hc]
   omega
 unfold eN pA aO
 dsimp only
 simp only [aV, fp, gK, hr, hd, List.length_append, List.map_append, List.sum_append, List.length_map] at *
 omega
theorem zM (e : am) : aO (cf e) ≤ aO e := by
 have := y5 e.Store (d3 e.Active)
 unfold cf aO
 dsimp only
 omega
theorem zN (e : am) : aO (bU e) ≤ aO e + 200 := by
 unfold bU
 split
 ·rename_i h
  have h1 := zL (rP h).1
  have h2 := zM (eN e)
  omega
 ·omega
theorem Rn {e : am} {k : Nat} (id : Int) : cm (bj e k) id = cm e.Active id := by
 have hq : ∀ a : Active, cS id (gW e ((parts e).take k) a) = cS id a := fun a => by unfold gW; split <;> rfl
 unfold cm bj
 rw [List.any_map, List.findIdx_map]
 simp only [Function.comp_def, hq]
theorem vi {s : Store} {a : Active} (h : dt s a = true) : 0 ≤ a.Sent ∧ a.Sent ≤ 1000 ∧ 0 ≤ a.Age ∧ a.Age ≤ 100000 ∧ a.Rows.length ≤ 1000 ∧ bI a.Query = true := by
 unfold dt at h
 simp only [Bool.and_eq_true, aB, decide_eq_true_eq, jL] at h
 exact ⟨by omega, by omega, by omega, by omega, by omega, h.2.1⟩
theorem vj {e : am} (h : aH e = true) {k i : Nat} (hi : i < e.Active.length) (h2 : i < (bj e k).length) : 0 ≤ (bj e k)[i].Age ∧ (bj e k)[i].Age ≤ 100000 := by
 have ha := vi ((fg h).2.2.2.2.2.2.2.2.2.1 _ (List.getElem_mem hi))
 rw [vd h2 hi]
 unfold gW
 split <;> exact ⟨ha.2.2.1, ha.2.2.2.1⟩
theorem vk {e : am} (h : aH e = true) (a : Active) : (gk e a).length ≤ 4 := by
 have := (zJ h a (cG (bp e) a.Time).length).2
 rwa [zD] at this
def fx (z : Active × (Nat → Value)) : List PV := [PV.nv (z.2 0) (PV.val (vI z.1.Query.Id)), PV.nv (z.2 1) (PV.val (vI z.1.Query.Tenant)), PV.nv (z.2 2) (PV.sl .v (z.1.Query.Conds.map bR)), PV.nv (z.2 3) (PV.sl .v (z.1.Query.Out.map ai)), PV.nv (z.2 4) (PV.val (vI z.1.Time)), PV.nv (z.2 5) (PV.sl .v (z.1.Todo.map ai)), PV.nv (z.2 6) (PV.val (vI z.1.Age)), PV.nv (z.2 7) (PV.val (vI z.1.Sent)), PV.nv (z.2 8) (PV.val (vI z.1.Cap)), PV.nv (z.2 9) (PV.sl .v (z.1.Rows.map (bn (.own 3 1))))]
def Ro (z : Row × (Nat → Value)) : List PV := [PV.nv (z.2 0) (PV.val (vI z.1.Id)), PV.nv (z.2 1) (PV.sl .v (z.1.Values.map ai))]
theorem rT {α : Type} {d : α} {p : α → Bool} {r : α → α → Bool} {l : List α} (h1 : ∀ x ∈ l, p x = true) (h2 : l.Pairwise (fun a b => r a b = true)) : cw d p r l = true := by
 unfold cw gM
 rw [List.all_eq_true]
 intro i hi
 have hi := List.mem_range.1 hi
 rw [cY hi, h1 _ (List.getElem_mem hi), Bool.true_and]
 cases i with
 | zero => rfl
 | succ i =>
  rw [List.pairwise_iff_getElem] at h2
  rw [show i + 1 - 1 = i from rfl, cY (show i < l.length by omega), h2 i (i + 1) (by omega) hi (by omega)]
  simp
theorem KM {e : am} (hok : aH e = true) : eB e.Active (parts e) = (e.Active.filter (fh e)).map fun a => a.Query := by
 rw [jp hok]
 unfold eB eA
 rw [List.map_map]
 refine List.map_congr_left fun a ha => ?_
 have ha := (List.mem_filter.1 ha).1
 obtain ⟨i, hi, rfl⟩ := List.mem_iff_getElem.1 ha
 have hf : cm e.Active e.Active[i].Query.Id = (i : Int) := by
  refine yX hi ?_ (by unfold cS; simp)
  rw [List.any_eq_false]
  intro b hb
  obtain ⟨j, hj, rfl⟩ := List.mem_iff_getElem.1 hb
  rw [List.length_take] at hj
  intro hc
  unfold cS at hc
  have hc : e.Active[j].Query.Id = e.Active[i].Query.Id := by simpa using hc
  have := rQ hok (show j < e.Active.length by omega) hi hc
  omega
 show (e.Active.getD (cm e.Active e.Active[i].Query.Id).toNat eX).Query = _
 rw [hf]; simp [hi]
theorem KN {e : am} (hok : aH e = true) : b7 (eB e.Active (parts e)) = true := by
 have hef := fg hok
 rw [KM hok]
 unfold b7
 have hl := List.length_filter_le (fh e) e.Active
 rw [Bool.and_eq_true]
 refine ⟨rT (fun x hx => ?_) ?_, ?_⟩
 ·obtain ⟨a, ha, rfl⟩ := List.mem_map.1 hx
  exact (vi (hef.2.2.2.2.2.2.2.2.2.1 _ (List.mem_filter.1 ha).1)).2.2.2.2.2
 ·rw [List.pairwise_map]
  refine ((lP hok).filter _).imp fun {a b} h => ?_
  unfold jU; simpa using h
 ·rw [List.length_map, decide_eq_true_eq]; omega
theorem Rp {e : am} (hok : aH e = true) {i : Nat} (hi : i < e.Active.length) (h : fh e e.Active[i] = true) : e.Active[i].Query ∈ eB e.Active (parts e) := by
 rw [KM hok]
 exact List.mem_map.2 ⟨_, List.mem_filter.2 ⟨List.getElem_mem hi, h⟩, rfl⟩
def gY (e : am) (a : Active) (j : Nat) : List Row := (cG ((bp e).take j) a.Time).filter (eb a.Query)
theorem KO {e : am} {a : Active} {j : Nat} (hj : j < (bp e).length) (hv : de (bp e)[j] a.Time = true) (hm : eb a.Query (dr (bp e)[j]) = true) : gY e a (j + 1) = gY e a j ++ [dr (bp e)[j]] := by
 unfold gY; rw [zI hj hv, List.filter_append]; simp [hm]
theorem vl {e : am} {a : Active} {j : Nat} (hj : j < (bp e).length) (h : de (bp e)[j] a.Time = false ∨ eb a.Query (dr (bp e)[j]) = false) : gY e a (j + 1) = gY e a j := by
 unfold gY
 cases hv : de (bp e)[j] a.Time with
 | false => rw [KH hj hv]
 | true =>
  rw [hv] at h
  have hm := h.resolve_left (by simp)
  rw [zI hj hv, List.filter_append]; simp [hm]
theorem Rq {e : am} {a : Active} : gY e a (bp e).length = gk e a := by unfold gY gk; rw [List.take_length]
theorem Rr {e : am} {a : Active} {j : Nat} : (gY e a j).length ≤ j := by
 have h1 := List.length_filter_le (eb a.Query) (cG ((bp e).take j) a.Time)
 have h2 := rR ((bp e).take j) a.Time
 rw [List.length_take] at h2
 unfold gY; omega
def gZ (e : am) (k : Nat) : dZ := ⟨e.Cursor, ((bp e).length : Int), parts e, ((parts e).take k).map (py e), ((parts e).take k).map (pz e)⟩
theorem Rs {e : am} {i k : Nat} (hk : k < (parts e).length) (hi : i < e.Active.length) (hf : cm e.Active (parts e)[k] = (i : Int)) : gZ e (k + 1) = ⟨e.Cursor, ((bp e).length : Int), parts e, (gZ e k).Tenants ++ [e.Active[i].Query.Tenant], (gZ e k).Rows ++ [((gk e e.Active[i]).length : Int)]⟩ := by
 have ha := zC hi hf
 unfold gZ
 rw [List.take_succ_eq_append_getElem hk]
 simp only [List.map_append, List.map_cons, List.map_nil, py, pz, ha]
theorem Rt {e : am} : gZ e (parts e).length = cz e (parts e).length := by unfold gZ cz; rw [List.take_length]
theorem Ru {e : am} {k : Nat} (hk : k ≤ (parts e).length) : (gZ e k).Tenants.length = k ∧ (gZ e k).Rows.length = k := by
 unfold gZ
 simp only [List.length_map, List.length_take]
 omega
def Rv (e : am) (k : Nat) : am := ⟨e.Store, e.Cursor, e.Order, bj e k, e.Done, e.Ledger, e.Steps⟩
end
noncomputable def eh (e : am) (o : List Int) : am × Bool := if aH e && bK o then ({ e with Order := o }, true) else (e, false)
theorem vm {e : am} {o : List Int} (h : (aH e && bK o) = true) : eh e o = ({ e with Order := o }, true) := if_pos h
theorem KP {e : am} {o : List Int} (h : (aH e && bK o) = false) : eh e o = (e, false) := if_neg (by rw [h]; simp)
noncomputable def dh (e : am) : am := (eh e (eY e)).1
theorem Rw (e : am) (o : List Int) : aO (eh e o).1 ≤ aO e + o.length := by
 unfold eh
 split
 ·simp only [aO, cu, aV]; omega
 ·dsimp only; omega
theorem vn (e : am) : aO (dh e) ≤ aO e + 3 := by
 have h1 := Rw e (eY e)
 have h2 := y3 e
 unfold dh
 omega
def du (n : Int) : Nat := (min (max n 0) 200).toNat
noncomputable def eD (e : am) : Nat → am
 | 0 => e
 | k + 1 => bU (dh (eD e k))
noncomputable def eO (e : am) (n : Int) : am := eD e (du n)
theorem rU (n : Int) : du n ≤ 200 := by unfold du; omega
theorem vo (e : am) : ∀ k : Nat, aO (eD e k) ≤ aO e + 203 * k
 | 0 => by rw [eD]; omega
 | k + 1 => by
  have h1 := vo e k
  have h2 := vn (eD e k)
  have h3 := zN (dh (eD e k))
  rw [eD]; omega
theorem Rx (e : am) (n : Int) : aO (eO e n) ≤ aO e + 40600 := by
 have h1 := vo e (du n)
 have h2 := rU n
 unfold eO; omega
section
def kJ (k : Nat) : List Int := (List.range k).map fun i : Nat => (i : Int)
theorem Ry (k : Nat) : kJ (k + 1) = kJ k ++ [(k : Int)] := by simp [kJ, List.range_succ]
theorem zO (k : Nat) : (kJ k).length = k := by simp [kJ]
def d5 (e : am) (q : Query) (l : Int) : Active := ⟨q, e.Store.Now, kJ e.Store.Segments.length, 0, 0, l, []⟩
def kK (x : Int) (a : Active) : Bool := decide (a.Query.Id < x)
def cT (l : List Active) (x : Int) : Nat := (l.filter (kK x)).length
def iA (e : am) (q : Query) (l : Int) : List Active := e.Active.filter (kK q.Id) ++ d5 e q l :: e.Active.drop (cT e.Active q.Id)
def jW (e : am) (q : Query) (l : Int) : Bool := ((aH e && bI q) && aB l 0 32) && (decide (cm e.Active q.Id < 0) && decide ((e.Active.length : Int) < 8))
def gz (e : am) (q : Query) (l : Int) : am × Bool := if jW e q l then (⟨e.Store, e.Cursor, e.Order, iA e q l, e.Done, e.Ledger, e.Steps⟩, true) else (e, false)
theorem zQ {e : am} {q : Query} {l : Int} (h : jW e q l = false) : gz e q l = (e, false) := if_neg (by rw [h]; simp)
theorem zR {e : am} {q : Query} {l : Int} (h : jW e q l = true) : gz e q l = (⟨e.Store, e.Cursor, e.Order, iA e q l, e.Done, e.Ledger, e.Steps⟩, true) := if_pos h
theorem vp {e : am} {q : Query} {l : Int} (h : jW e q l = true) : aH e = true ∧ bI q = true ∧ (0 ≤ l ∧ l ≤ 32) ∧ cm e.Active q.Id < 0 ∧ (e.Active.length : Int) < 8 := by
 unfold jW at h
 simp only [Bool.and_eq_true, decide_eq_true_eq, aB] at h
 exact ⟨h.1.1.1, h.1.1.2, h.1.2, h.2.1, h.2.2⟩
def rV (x : Int) (zs : List (Active × (Nat → Value))) : List (Active × (Nat → Value)) := zs.filter fun z => kK x z.1
section
variable {zs : List (Active × (Nat → Value))} {l : List Active} {x : Int} {k : Nat}
theorem KQ (hz : zs.map Prod.fst = l) : (rV x zs).map Prod.fst = l.filter (kK x) := by
 subst hz; unfold rV; rw [List.filter_map]; rfl
theorem Rz (hz : zs.map Prod.fst = l) : (rV x zs).length = cT l x := by
 unfold cT; rw [← KQ hz, List.length_map]
theorem pD {α : Type} (key : α → Int) (x : Int) : ∀ {l : List α}, l.Pairwise (fun a b => key a < key b) → l.filter (fun a => decide (key a < x)) = l.take (l.filter fun a => decide (key a < x)).length
 | [], _ => rfl
 | a :: l, h => by
  have ⟨h1, h2⟩ := List.pairwise_cons.1 h
  have ih := pD key x h2
  rw [List.filter_cons]
  split
  ·rw [List.length_cons, List.take_succ_cons, ← ih]
  ·rename_i hc
   have hc : ¬ key a < x := by simpa using hc
   have : l.filter (fun a => decide (key a < x)) = [] := by
    rw [List.filter_eq_nil_iff]
    intro b hb
    have := h1 b hb
    simp; omega
   rw [this]; rfl
theorem RA {e : am} (hok : aH e = true) (hz : zs.map Prod.fst = e.Active) : zs.Pairwise (fun a b => a.1.Query.Id < b.1.Query.Id) := by
 have := lP hok
 rw [← hz, List.pairwise_map] at this
 exact this
theorem RB {e : am} (hok : aH e = true) (hz : zs.map Prod.fst = e.Active) : rV x zs = zs.take (cT e.Active x) := by
 have h := pD (fun z : Active × (Nat → Value) => z.1.Query.Id) x (RA hok hz)
 have hl := Rz (x := x) hz
 unfold rV kK at *
 rw [h, hl]
theorem RC {e : am} : cT e.Active x ≤ e.Active.length := List.length_filter_le _ _
theorem KR {e : am} (hok : aH e = true) (hk : k < e.Active.length) : e.Active[k].Query.Id < x ↔ k < cT e.Active x := by
 have h := pD (fun a : Active => a.Query.Id) x (lP hok)
 have hc : cT e.Active x = (e.Active.filter fun a => decide (a.Query.Id < x)).length := rfl
 rw [← hc] at h
 constructor
 ·intro hx
  have hm : e.Active[k] ∈ e.Active.filter fun a => decide (a.Query.Id < x) := List.mem_filter.2 ⟨List.getElem_mem hk, by simpa using hx⟩
  rw [h] at hm
  obtain ⟨j, hj, hje⟩ := List.mem_iff_getElem.1 hm
  rw [List.length_take] at hj
  rw [List.getElem_take] at hje
  have := rQ hok (show j < e.Active.length by omega) hk (by rw [hje])
  omega
 ·intro hx
  have hm : e.Active[k] ∈ e.Active.take (cT e.Active x) := by
   rw [List.mem_iff_getElem]; exact ⟨k, by rw [List.length_take]; omega, by rw [List.getElem_take]⟩
  rw [← h] at hm
  have := (List.mem_filter.1 hm).2
  simpa using this
theorem KS {e : am} (h : cm e.Active x < 0) (hk : k < e.Active.length) : e.Active[k].Query.Id ≠ x := by
 intro hx
 unfold cm at h
 rw [if_pos (ny hk (by unfold cS; simpa using hx))] at h
 omega
def hE (zs : List (Active × (Nat → Value))) (zn : Active × (Nat → Value)) (p k : Nat) : List (Active × (Nat → Value)) := if p < k then zs.take p ++ zn :: (zs.take k).drop p else zs.take k
theorem RD {zn : Active × (Nat → Value)} {p : Nat} (hk : k ≤ zs.length) : (hE zs zn p k).length ≤ k + 1 := by
 unfold hE; split <;> simp <;> omega
theorem RE {zn : Active × (Nat → Value)} {p : Nat} (hk : k < zs.length) (h : k ≠ p) : hE zs zn p (k + 1) = hE zs zn p k ++ [zs[k]] := by
 unfold hE
 by_cases hp : p < k
 ·rw [if_pos (by omega), if_pos hp, List.take_succ_eq_append_getElem hk, List.drop_append_of_le_length (by rw [List.length_take]; omega)]
  simp
 ·rw [if_neg (by omega), if_neg hp, List.take_succ_eq_append_getElem hk]
theorem RF {zn : Active × (Nat → Value)} {p : Nat} (hk : k < zs.length) (h : k = p) : hE zs zn p (k + 1) = hE zs zn p k ++ [zn] ++ [zs[k]] := by
 subst h
 unfold hE
 rw [if_pos (by omega), if_neg (by omega), List.take_succ_eq_append_getElem hk, List.drop_append_of_le_length (by rw [List.length_take]; omega)]
 simp
theorem RG {zn : Active × (Nat → Value)} {p : Nat} (h : p < zs.length) : hE zs zn p zs.length = zs.take p ++ zn :: zs.drop p := by unfold hE; rw [if_pos h, List.take_length]
theorem RH {zn : Active × (Nat → Value)} {p : Nat} (h : p = zs.length) : hE zs zn p zs.length ++ [zn] = zs.take p ++ zn :: zs.drop p := by subst h; unfold hE; rw [if_neg (by omega)]; simp
theorem RI {zn : Active × (Nat → Value)} {p : Nat} : ((zs.take p ++ zn :: zs.drop p) ++ []).Perm ([zn] ++ zs) := by
 rw [List.append_nil]
 refine List.perm_middle.trans ?_
 rw [List.take_append_drop]; exact List.Perm.refl _
theorem RJ {e : am} {q : Query} {li : Int} {kn : Nat → Value} (hok : aH e = true) (hz : zs.map Prod.fst = e.Active) : (zs.take (cT e.Active q.Id) ++ (d5 e q li, kn) :: zs.drop (cT e.Active q.Id)).map Prod.fst = iA e q li := by
 unfold iA
 rw [← RB hok hz, List.map_append, KQ hz, List.map_cons, List.map_drop, hz]
end
theorem RK {e : am} {q : Query} {l : Int} : ca (d5 e q l) = d9 q + e.Store.Segments.length := by
 unfold d5 ca
 simp only [cu, aV, zO, eJ, List.map_nil, List.sum_nil, List.length_nil]; omega
theorem RL (e : am) (q : Query) (l : Int) : aO (gz e q l).1 ≤ aO e + d9 q + 10 := by
 unfold gz
 split
 ·rename_i h
  have hf := vp h
  have hef := fg hf.1
  obtain ⟨hs8, _, _, _, _, _⟩ := jj hef.1
  have hn := RK (e := e) (q := q) (l := l)
  have hsum : ∀ (L : List Active) (x : Int), (∀ a ∈ L, True) → L.Pairwise (fun a b => a.Query.Id < b.Query.Id) → (L.filter (kK x) ++ L.drop (cT L x)) = L := by
   intro L x _ hp
   have h := pD (fun a : Active => a.Query.Id) x hp
   have : L.filter (kK x) = L.take (cT L x) := h
   rw [this, List.take_append_drop]
  have hs := hsum e.Active q.Id (fun _ _ => trivial) (lP hf.1)
  have h1 : (iA e q l).length = e.Active.length + 1 := by
   conv => rhs; rw [← hs]
   unfold iA; simp only [List.length_append, List.length_cons]; omega
  have h2 : ((iA e q l).map ca).sum = (e.Active.map ca).sum + ca (d5 e q l) := by
   conv => rhs; rw [← hs]
   unfold iA; simp only [List.map_append, List.map_cons, List.sum_append, List.sum_cons]; omega
  unfold aO fp
  dsimp only
  rw [h1, h2, hn]; omega
 ·dsimp only; omega
end
def nW (e : am) (i : Nat) : am := ⟨e.Store, e.Cursor, e.Order, fX e.Active i, e.Done, e.Ledger, e.Steps⟩
def iX (e : am) (id : Int) : Bool := aH e && decide (0 ≤ cm e.Active id)
def d6 (e : am) (id : Int) : am × Bool := if iX e id then (cf (nW e (cm e.Active id).toNat), true) else (e, false)
theorem vq {e : am} {id : Int} (h : iX e id = false) : d6 e id = (e, false) := if_neg (by rw [h]; simp)
theorem KT {e : am} {id : Int} (h : iX e id = true) : d6 e id = (cf (nW e (cm e.Active id).toNat), true) := if_pos h
theorem zS {e : am} {id : Int} {i : Nat} (h : iX e id = true) (hf : cm e.Active id = (i : Int)) : d6 e id = (cf (nW e i), true) := by rw [KT h, hf]; rfl
theorem KU {l : List Active} {id : Int} (h : 0 ≤ cm l id) : ∃ i : Nat, i < l.length ∧ cm l id = (i : Int) := by
 unfold cm at *
 split at h
 ·rename_i ha
  rw [if_pos ha]
  obtain ⟨a, ha1, ha2⟩ := List.any_eq_true.1 ha
  exact ⟨l.findIdx (cS id), List.findIdx_lt_length_of_exists ⟨a, ha1, ha2⟩, rfl⟩
 ·omega
theorem RM {α β : Type} {f : α → β} {zs : List α} {l : List β} {i : Nat} (hz : zs.map f = l) : (fX zs i).map f = fX l i := by
 subst hz; unfold fX; rw [List.map_append, List.map_take, List.map_drop]
theorem KV {α : Type} {zs : List α} {i : Nat} (hi : i < zs.length) : (fX zs i ++ [zs[i]]).Perm zs := by
 unfold fX
 have : zs = zs.take i ++ (zs[i] :: zs.drop (i + 1)) := by rw [← List.drop_eq_getElem_cons hi, List.take_append_drop]
 conv => rhs; rw [this]
 rw [List.append_assoc]
 refine List.Perm.append_left _ ?_
 exact List.perm_append_singleton _ _
theorem KW {e : am} {i : Nat} (hi : i < e.Active.length) : aO (nW e i) ≤ aO e := by
 have hs : ((fX e.Active i).map ca).sum + ca e.Active[i] = (e.Active.map ca).sum := by
  have := ((KV hi).map ca).sum_nat
  rw [List.map_append, List.sum_append] at this
  simpa using this
 have hl := BW hi
 unfold nW aO fp
 dsimp only
 rw [hl]; omega
theorem RN (e : am) (id : Int) : aO (d6 e id).1 ≤ aO e := by
 cases h : iX e id with
 | false => rw [vq h]; exact Nat.le_refl _
 | true =>
  have h2 := h
  unfold iX at h2
  simp only [Bool.and_eq_true, decide_eq_true_eq] at h2
  obtain ⟨i, hi, hf⟩ := KU h2.2
  rw [zS h hf]
  have h3 := zM (nW e i)
  have h4 := KW hi
  dsimp only; omega
def gA (id : Int) (v : aF) : Bool := decide (v.Id = id) && decide (v.Died = -1)
def gl (id : Int) (l : List aF) : Bool := l.any (gA id)
def nX (s : Store) (i : Nat) : List aF := s.Segments.getD i []
def bM (s : Store) (id : Int) : Int := if s.Segments.any (gl id) then ((s.Segments.findIdx (gl id) : Nat) : Int) else -1
def jX (s : Store) (id : Int) : Int := if s.Segments.any (gl id) then (((nX s (s.Segments.findIdx (gl id))).findIdx (gA id) : Nat) : Int) else -1
theorem zT {α : Type} {P : α → Bool} {l : List α} {k : Nat} (hk : k < l.length) (h : (l.take k).any P = false) (hy : P l[k] = true) : l.findIdx P = k := by
 rw [List.findIdx_eq hk]
 refine ⟨hy, fun j hj => ?_⟩
 rw [List.any_eq_false] at h
 have := h l[j] (by rw [List.mem_iff_getElem]; exact ⟨j, by rw [List.length_take]; omega, by simp⟩)
 simpa using this
theorem RO {s : Store} {id : Int} {i k : Nat} (hi : i < s.Segments.length) (h1 : (s.Segments.take i).any (gl id) = false) (hk : k < s.Segments[i].length) (h2 : (s.Segments[i].take k).any (gA id) = false) (hy : gA id s.Segments[i][k] = true) : bM s id = (i : Int) ∧ jX s id = (k : Int) := by
 have ha : gl id s.Segments[i] = true := ny hk hy
 have hany : s.Segments.any (gl id) = true := ny hi ha
 have e1 := zT hi h1 ha
 have e2 := zT hk h2 hy
 unfold bM jX nX
 rw [if_pos hany, if_pos hany, e1, List.getD_eq_getElem?_getD, List.getElem?_eq_getElem hi]
 exact ⟨rfl, by show ((s.Segments[i].findIdx (gA id) : Nat) : Int) = _; rw [e2]⟩
theorem RP {s : Store} {id : Int} (h : s.Segments.any (gl id) = false) : bM s id = -1 ∧ jX s id = -1 := by
 unfold bM jX
 rw [if_neg (by rw [h]; simp), if_neg (by rw [h]; simp)]
 exact ⟨rfl, rfl⟩
theorem mC {s : Store} {id : Int} (h : 0 ≤ bM s id) : ∃ i k : Nat, ∃ hi : i < s.Segments.length, ∃ hk : k < s.Segments[i].length, bM s id = (i : Int) ∧ jX s id = (k : Int) ∧ gA id s.Segments[i][k] = true := by
 unfold bM at h
 split at h
 ·rename_i ha
  obtain ⟨l, hl, hp⟩ := List.any_eq_true.1 ha
  have hi : s.Segments.findIdx (gl id) < s.Segments.length := List.findIdx_lt_length_of_exists ⟨l, hl, hp⟩
  have hpi : gl id (s.Segments[s.Segments.findIdx (gl id)]) = true := List.findIdx_getElem (w := hi)
  obtain ⟨v, hv, hvp⟩ := List.any_eq_true.1 hpi
  have hk : s.Segments[s.Segments.findIdx (gl id)].findIdx (gA id) < s.Segments[s.Segments.findIdx (gl id)].length := List.findIdx_lt_length_of_exists ⟨v, hv, hvp⟩
  refine ⟨_, _, hi, hk, ?_, ?_, List.findIdx_getElem (w := hk)⟩
  ·unfold bM; rw [if_pos ha]
  ·unfold jX nX; rw [if_pos ha, List.getD_eq_getElem?_getD, List.getElem?_eq_getElem hi]; rfl
 ·omega
def hI (l : List aF) : Bool := decide ((l.length : Int) < 4)
def fy (L : List (List aF)) : Int := if L.any hI then ((L.findIdx hI : Nat) : Int) else -1
theorem RQ {L : List (List aF)} {k : Nat} (hk : k < L.length) (h : (L.take k).any hI = false) (hy : hI L[k] = true) : fy L = (k : Int) := by
 unfold fy; rw [if_pos (ny hk hy), zT hk h hy]
theorem RR {L : List (List aF)} (h : L.any hI = false) : fy L = -1 := if_neg (by rw [h]; simp)
theorem zU {L : List (List aF)} (h : 0 ≤ fy L) : ∃ r : Nat, ∃ hr : r < L.length, fy L = (r : Int) ∧ L[r].length < 4 := by
 unfold fy at h
 split at h
 ·rename_i ha
  obtain ⟨l, hl, hp⟩ := List.any_eq_true.1 ha
  have hr : L.findIdx hI < L.length := List.findIdx_lt_length_of_exists ⟨l, hl, hp⟩
  have hpi : hI L[L.findIdx hI] = true := List.findIdx_getElem (w := hr)
  refine ⟨_, hr, by unfold fy; rw [if_pos ha], ?_⟩
  have : ∀ l : List aF, hI l = true → l.length < 4 := fun l hl => by unfold hI at hl; simp only [decide_eq_true_eq] at hl; omega
  exact this _ hpi
 ·omega
def hJ (n : Int) (v : aF) : aF := ⟨v.Id, v.Values, v.Born, n⟩
def zV (s : Store) (i k : Int) : aF := (nX s i.toNat).getD k.toNat v0
def cZ (s : Store) (u : Update) : List (List aF) := if 0 ≤ bM s u.Row.Id then s.Segments.set (bM s u.Row.Id).toNat ((nX s (bM s u.Row.Id).toNat).set (jX s u.Row.Id).toNat (hJ (s.Now + 1) (zV s (bM s u.Row.Id) (jX s u.Row.Id)))) else s.Segments
def e8 (s : Store) (u : Update) : List Int := if 0 ≤ bM s u.Row.Id then (zV s (bM s u.Row.Id) (jX s u.Row.Id)).Values else u.Row.Values
def gB (s : Store) (u : Update) : List Int := if u.Kind = 3 then (e8 s u).set u.Field.toNat u.Value else e8 s u
def jq (s : Store) (u : Update) : aF := ⟨u.Row.Id, gB s u, s.Now + 1, -1⟩
def pE (L : List (List aF)) (r : Nat) (v : aF) : List (List aF) := L.set r (L.getD r [] ++ [v])
def gC (s : Store) (u : Update) : Bool := ((bA s && fH u) && decide (s.Now < 100000)) && (decide (0 ≤ bM s u.Row.Id) == !decide (u.Kind = 1) && (decide (u.Kind = 2) || decide (0 ≤ fy s.Segments)))
def rW (s : Store) (u : Update) : Store := ⟨if u.Kind = 2 then cZ s u else pE (cZ s u) (fy s.Segments).toNat (jq s u), s.Now + 1⟩
def da (s : Store) (u : Update) : Store × Bool := if gC s u then (rW s u, true) else (s, false)
theorem rY {s : Store} {u : Update} (h : gC s u = false) : da s u = (s, false) := if_neg (by rw [h]; simp)
theorem zW {s : Store} {u : Update} (h : gC s u = true) : da s u = (rW s u, true) := if_pos h
theorem rZ {s : Store} {u : Update} (h : gC s u = true) (hk : u.Kind = 2) : da s u = (⟨cZ s u, s.Now + 1⟩, true) := by rw [zW h]; unfold rW; rw [if_pos hk]
theorem vr {s : Store} {u : Update} {r : Nat} (h : gC s u = true) (hk : ¬ u.Kind = 2) (hr : fy s.Segments = (r : Int)) : da s u = (⟨pE (cZ s u) r (jq s u), s.Now + 1⟩, true) := by
 rw [zW h]; unfold rW; rw [if_neg hk, hr]; rfl
theorem kL {s : Store} {u : Update} {i k : Nat} (hi : i < s.Segments.length) (hk : k < s.Segments[i].length) (h1 : bM s u.Row.Id = (i : Int)) (h2 : jX s u.Row.Id = (k : Int)) : cZ s u = s.Segments.set i (s.Segments[i].set k (hJ (s.Now + 1) s.Segments[i][k])) ∧ e8 s u = s.Segments[i][k].Values := by
 have e1 : nX s i = s.Segments[i] := by unfold nX; simp [hi]
 unfold cZ e8 zV
 rw [h1, h2, if_pos (by omega), if_pos (by omega), Int.toNat_natCast, Int.toNat_natCast, e1]
 simp [hk]
theorem mD {s : Store} {u : Update} (h : ¬ 0 ≤ bM s u.Row.Id) : cZ s u = s.Segments ∧ e8 s u = u.Row.Values := by
 unfold cZ e8; rw [if_neg h, if_neg h]; exact ⟨rfl, rfl⟩
theorem KX (s : Store) (u : Update) : (cZ s u).map List.length = s.Segments.map List.length := by
 by_cases h : 0 ≤ bM s u.Row.Id
 ·obtain ⟨i, k, hi, hk, h1, h2, _⟩ := mC h
  rw [(kL hi hk h1 h2).1]
  apply List.ext_getElem
  ·simp
  ·intro j hj1 hj2
   simp only [List.getElem_map, List.getElem_set]
   split
   ·rename_i hij; subst hij; simp
   ·rfl
 ·rw [(mD h).1]
theorem r5 (s : Store) (u : Update) : (cZ s u).length = s.Segments.length := by
 have := congrArg List.length (KX s u)
 simpa using this
theorem zX (s : Store) (u : Update) {k : Nat} (hk : k < (cZ s u).length) (hk2 : k < s.Segments.length) : (cZ s u)[k].length = s.Segments[k].length := by
 have h := KX s u
 have := List.getElem_of_eq h (show k < ((cZ s u).map List.length).length by rw [List.length_map]; exact hk)
 simpa using this
theorem RS (n : Int) (v : aF) : bZ (hJ n v) = bZ v := by unfold hJ bZ; simp only [aV]
theorem vt {α : Type} {f : α → Nat} : ∀ {l : List α} {i : Nat} {x : α} (hi : i < l.length), ((l.set i x).map f).sum + f l[i] = (l.map f).sum + f x
 | y :: l, 0, x, _ => by simp; omega
 | y :: l, i + 1, x, h => by
  have := vt (f := f) (l := l) (i := i) (x := x) (by simpa using h)
  simp only [List.set_cons_succ, List.map_cons, List.sum_cons, List.getElem_cons_succ]
  omega
theorem KY (s : Store) (u : Update) : fa (cZ s u) = fa s.Segments := by
 by_cases h : 0 ≤ bM s u.Row.Id
 ·obtain ⟨i, k, hi, hk, h1, h2, _⟩ := mC h
  rw [(kL hi hk h1 h2).1]
  have e1 := vt (f := b3) (x := s.Segments[i].set k (hJ (s.Now + 1) s.Segments[i][k])) hi
  have e2 := vt (f := bZ) (x := hJ (s.Now + 1) s.Segments[i][k]) hk
  rw [RS] at e2
  have e3 : b3 (s.Segments[i].set k (hJ (s.Now + 1) s.Segments[i][k])) = b3 s.Segments[i] := by unfold b3; rw [List.length_set]; omega
  unfold fa
  rw [List.length_set]; omega
 ·rw [(mD h).1]
theorem RT (s : Store) (u : Update) : (gB s u).length ≤ cc s + mj u := by
 have h0 : (gB s u).length = (e8 s u).length := by unfold gB; split <;> simp
 rw [h0]
 by_cases h : 0 ≤ bM s u.Row.Id
 ·obtain ⟨i, k, hi, hk, h1, h2, _⟩ := mC h
  rw [(kL hi hk h1 h2).2]
  have w1 := cR (f := b3) hi
  have w2 := cR (f := bZ) hk
  have w3 : b3 s.Segments[i] = s.Segments[i].length + (s.Segments[i].map bZ).sum := rfl
  have w4 : bZ s.Segments[i][k] = s.Segments[i][k].Values.length := by simp only [bZ, cu, aV]; omega
  unfold cc fa
  simp only [aV]; omega
 ·rw [(mD h).2]
  unfold mj fG
  simp only [cu, aV]; omega
theorem zY {s : Store} {u : Update} (hs : bA s = true) (h : 0 ≤ bM s u.Row.Id) : (e8 s u).length = 3 := by
 obtain ⟨i, k, hi, hk, h1, h2, _⟩ := mC h
 rw [(kL hi hk h1 h2).2]
 have hv := yT hs hi hk
 unfold ck at hv
 rw [Bool.and_eq_true] at hv
 exact nC hv.1
theorem KZ {u : Update} (h : fH u = true) (hk : u.Kind = 3) : 0 ≤ u.Field ∧ u.Field ≤ 2 := by
 unfold fH at h
 rw [if_neg (by omega), if_neg (by omega), if_pos hk] at h
 simp only [Bool.and_eq_true, aB, decide_eq_true_eq] at h
 exact h.2.1
theorem K0 {s : Store} {u : Update} (h1 : bA s = true) (h2 : fH u = true) (h3 : s.Now < 100000) (h4 : 0 ≤ bM s u.Row.Id ↔ ¬ u.Kind = 1) (h5 : u.Kind = 2 ∨ 0 ≤ fy s.Segments) : gC s u = true := by
 unfold gC
 rw [h1, h2, decide_eq_true h3]
 have e1 : (decide (0 ≤ bM s u.Row.Id) == !decide (u.Kind = 1)) = true := by
  by_cases a : 0 ≤ bM s u.Row.Id <;> by_cases b : u.Kind = 1 <;> simp_all
 have e2 : (decide (u.Kind = 2) || decide (0 ≤ fy s.Segments)) = true := by
  rcases h5 with h | h <;> simp [h]
 rw [e1, e2]; rfl
theorem pF {s : Store} {u : Update} (h : gC s u = true) : bA s = true ∧ fH u = true ∧ s.Now < 100000 ∧ (0 ≤ bM s u.Row.Id ↔ ¬ u.Kind = 1) ∧ (u.Kind = 2 ∨ 0 ≤ fy s.Segments) := by
 unfold gC at h
 simp only [Bool.and_eq_true, Bool.or_eq_true, decide_eq_true_eq] at h
 obtain ⟨⟨⟨h1, h2⟩, h3⟩, h4, h5⟩ := h
 refine ⟨h1, h2, h3, ?_, h5⟩
 by_cases a : 0 ≤ bM s u.Row.Id <;> by_cases b : u.Kind = 1 <;> simp_all
theorem pG {L : List (List aF)} {r : Nat} {v : aF} (hr : r < L.length) : pE L r v = L.set r (L[r] ++ [v]) := by unfold pE; simp [hr]
def dv (e : am) : Nat → am
 | 0 => e
 | k + 1 => bU (dv e k)
def fL (e : am) (n : Int) : am := dv e (du n)
theorem zZ (e : am) : ∀ k : Nat, aO (dv e k) ≤ aO e + 200 * k
 | 0 => by rw [dv]; omega
 | k + 1 => by
  have h1 := zZ e k
  have h3 := zN (dv e k)
  rw [dv]; omega
theorem RU (e : am) (n : Int) : aO (fL e n) ≤ aO e + 40000 := by
 have h1 := zZ e (du n)
 have h2 := rU n
 unfold fL; omega
theorem RW {s : Store} {u : Update} (h : gC s u = true) (hk : ¬ u.Kind = 2) : (gB s u).length = 3 := by
 obtain ⟨h1, h2, h3, h4, h5⟩ := pF h
 have h0 : (gB s u).length = (e8 s u).length := by unfold gB; split <;> simp
 rw [h0]
 by_cases a : 0 ≤ bM s u.Row.Id
 ·exact zY h1 a
 ·rw [(mD a).2]
  have hk1 : u.Kind = 1 := by
   by_cases b : u.Kind = 1
   ·exact b
   ·exact absurd (h4.2 b) a
  unfold fH at h2
  rw [if_pos hk1] at h2
  simp only [Bool.and_eq_true] at h2
  exact nC h2.1
theorem K3 (s : Store) (u : Update) : cc (da s u).1 ≤ cc s + 4 := by
 cases h : gC s u with
 | false => rw [rY h]; dsimp only; omega
 | true =>
  by_cases hk : u.Kind = 2
  ·rw [rZ h hk]
   have e1 := KY s u
   unfold cc; dsimp only; rw [e1]; simp only [aV]; omega
  ·have h5 := (pF h).2.2.2.2.resolve_left hk
   obtain ⟨r, hr, hrm, _⟩ := zU h5
   rw [vr h hk hrm]
   have e1 := KY s u
   have e2 := RW h hk
   have hru : r < (cZ s u).length := by rw [r5]; exact hr
   have e3 := vt (f := b3) (x := (cZ s u)[r] ++ [jq s u]) hru
   have hw : bZ (jq s u) = (gB s u).length := by unfold jq bZ; simp only [cu, aV]; omega
   have e5 : b3 ((cZ s u)[r] ++ [jq s u]) = b3 (cZ s u)[r] + (1 + bZ (jq s u)) := by
    unfold b3; simp only [List.length_append, List.map_append, List.sum_append, List.length_cons, List.length_nil, List.map_cons, List.map_nil, List.sum_cons, List.sum_nil]; omega
   rw [pG hru]
   unfold cc
   dsimp only
   unfold fa at e1 ⊢
   rw [List.length_set]
   simp only [aV] at *; omega
def nY (e : am) (s : Store) : am := ⟨s, e.Cursor, e.Order, e.Active, e.Done, e.Ledger, e.Steps⟩
def d7 (e : am) (u : Update) : am × Bool := if aH e && (da e.Store u).2 then (cf (nY e (da e.Store u).1), true) else (e, false)
theorem z0 {e : am} {u : Update} (h : (aH e && (da e.Store u).2) = false) : d7 e u = (e, false) := if_neg (by rw [h]; simp)
theorem z4 {e : am} {u : Update} (h : (aH e && (da e.Store u).2) = true) : d7 e u = (cf (nY e (da e.Store u).1), true) := if_pos h
theorem K4 (e : am) (u : Update) : aO (nY e (da e.Store u).1) ≤ aO e + 4 := by
 have := K3 e.Store u
 unfold nY aO; dsimp only; omega
theorem RX (e : am) (u : Update) : aO (d7 e u).1 ≤ aO e + 4 := by
 have h1 := K4 e u
 have h2 := zM (nY e (da e.Store u).1)
 unfold d7
 split <;> dsimp only <;> omega
section
structure aC where
 b : List Int
 i : Nat
 h : Int
 hb : b.length ≤ 9223372036854775807
def cO (o : Fl) (c : aC) : List PV := [PV.sl o (c.b.map kw), PV.val (vI (c.i : Int)), PV.val (vI c.h)]
def vu (code : List Int) : Nat → Int
 | 0 => 10101 + code.length
 | k + 1 => k8 (mQ (mQ (sY (vu code k) 131) (IntKind.i64.wrap (code.getD k 0))) 7) 1073741823
def ba (code : List Int) (hb : code.length ≤ 9223372036854775807) : aC := ⟨code, 0, vu code (min code.length 4000), hb⟩
def mE (h : Int) : Int := mQ (sY h 6364136223846793005) 1442695040888963407
def pH (h : Int) : Int := k8 (wz (h.fdiv (2 ^ 33)) (h.fdiv (2 ^ 45))) 255
def fM (c : aC) : Int × aC := if c.i < c.b.length then (k8 (mQ (pH (mE c.h)) (IntKind.i64.wrap (c.b.getD c.i 0))) 255, ⟨c.b, c.i + 1, mE c.h, c.hb⟩) else (pH (mE c.h), ⟨c.b, c.i, mE c.h, c.hb⟩)
def aj (c : aC) (n : Int) : Int × aC := if n ≤ 0 then (0, c) else ((fM c).1.tmod n, (fM c).2)
def aU (c : aC) (l : List Int) : Int × aC := (l.getD (aj c l.length).1.toNat 0, (aj c l.length).2)
def fO (w : Int) (c : aC) : Nat → List Int × aC
 | 0 => ([], c)
 | k + 1 => ((fO w c k).1 ++ [(aj (fO w c k).2 w).1], (aj (fO w c k).2 w).2)
def eP (c : aC) (id : Int) : Row × aC := (⟨id, (fO (aU c [3, 6, 100]).1 (aU c [3, 6, 100]).2 3).1⟩, (fO (aU c [3, 6, 100]).1 (aU c [3, 6, 100]).2 3).2)
structure K5 where
 id : Int
 l : List Row
 c : aC
def b4 (id : Int) (c : aC) : Nat → K5
 | 0 => ⟨id, [], c⟩
 | k + 1 => ⟨(b4 id c k).id + 1 + (aj (eP (b4 id c k).c (b4 id c k).id).2 3).1, (b4 id c k).l ++ [(eP (b4 id c k).c (b4 id c k).id).1], (aj (eP (b4 id c k).c (b4 id c k).id).2 3).2⟩
def vv (c : aC) (most : Int) : K5 := b4 (aj c 3).1 (aj (aj c 3).2 (most + 1)).2 (aj (aj c 3).2 (most + 1)).1.toNat
def jY (c : aC) (most : Int) : List Row × aC := ((vv c most).l, (vv c most).c)
section
variable {c : aC} {n w id : Int} {k : Nat} {l : List Int}
theorem RY (h : c.i < c.b.length) : fM c = (k8 (mQ (pH (mE c.h)) (IntKind.i64.wrap (c.b.getD c.i 0))) 255, ⟨c.b, c.i + 1, mE c.h, c.hb⟩) := if_pos h
theorem RZ (h : ¬ c.i < c.b.length) : fM c = (pH (mE c.h), ⟨c.b, c.i, mE c.h, c.hb⟩) := if_neg h
theorem R1 (h : Int) : 0 ≤ pH h ∧ pH h ≤ 255 := Bw (m := 255) (by decide)
theorem R2 (c : aC) : 0 ≤ (fM c).1 ∧ (fM c).1 ≤ 255 := by
 unfold fM
 split
 ·exact Bw (m := 255) (by decide)
 ·exact R1 _
theorem K6 (h : n ≤ 0) : aj c n = (0, c) := if_pos h
theorem z5 (h : 0 < n) : aj c n = ((fM c).1.tmod n, (fM c).2) := if_neg (by omega)
theorem di (c : aC) (n : Int) : 0 ≤ (aj c n).1 := by
 by_cases h : n ≤ 0
 ·rw [K6 h]; exact Int.le_refl _
 ·rw [z5 (by omega)]; exact Int.tmod_nonneg n (R2 c).1
theorem dw (c : aC) (h : 0 < n) : (aj c n).1 < n := by
 rw [z5 h]; exact Int.tmod_lt_of_pos _ h
theorem vw (c : aC) (h : 0 < l.length) : (aU c l).1 ∈ l := by
 have h1 := di c (l.length : Int)
 have h2 := dw c (n := (l.length : Int)) (by omega)
 have h3 : (aj c (l.length : Int)).1.toNat < l.length := by omega
 show l.getD _ 0 ∈ l
 rw [List.getD_eq_getElem?_getD, List.getElem?_eq_getElem h3]
 exact List.getElem_mem h3
theorem R3 (c : aC) : 0 ≤ (aU c [3, 6, 100]).1 ∧ (aU c [3, 6, 100]).1 ≤ 100 := by
 have h := vw c (l := [3, 6, 100]) (by decide)
 simp at h; omega
theorem r6 : ((fO w c k).1).length = k := by
 induction k with
 | zero => rfl
 | succ k ih => rw [fO, List.length_append, ih]; rfl
theorem K7 (c : aC) (id : Int) : fG (eP c id).1 = 3 := by
 unfold eP fG
 simp only [cu, r6, aV]
theorem K8 (h : 0 ≤ id ∧ id ≤ 2) : 0 ≤ (b4 id c k).id ∧ (b4 id c k).id ≤ 3 * k + 2 := by
 induction k with
 | zero => exact ⟨h.1, by rw [b4]; dsimp only; omega⟩
 | succ k ih =>
  rw [b4]
  have h1 := di (eP (b4 id c k).c (b4 id c k).id).2 3
  have h2 := dw (eP (b4 id c k).c (b4 id c k).id).2 (n := 3) (by decide)
  dsimp only; omega
theorem z6 : (b4 id c k).l.length = k := by
 induction k with
 | zero => rfl
 | succ k ih => rw [b4]; dsimp only; rw [List.length_append, ih]; rfl
theorem R4 : ((b4 id c k).l.map fG).sum = 3 * k := by
 induction k with
 | zero => rfl
 | succ k ih =>
  rw [b4]; dsimp only
  rw [List.map_append, List.sum_append, ih, List.map_cons, List.map_nil, List.sum_cons, List.sum_nil, K7]; omega
theorem R5 (c : aC) {most : Int} (h : 0 ≤ most) : (eJ (jY c most).1 : Int) ≤ 4 * most := by
 have h1 := di (aj c 3).2 (most + 1)
 have h2 := dw (aj c 3).2 (n := most + 1) (by omega)
 have h3 := z6 (id := (aj c 3).1) (c := (aj (aj c 3).2 (most + 1)).2) (k := (aj (aj c 3).2 (most + 1)).1.toNat)
 have h4 := R4 (id := (aj c 3).1) (c := (aj (aj c 3).2 (most + 1)).2) (k := (aj (aj c 3).2 (most + 1)).1.toNat)
 unfold eJ jY vv
 dsimp only
 rw [h3, h4]; omega
end
end
structure lQ where
 l : List f0
 c : aC
@[reducible] def Um (w : Int) (c : aC) : aC := (aj c 2).2
@[reducible] def pI (w : Int) (c : aC) : Int := (aj (aj c 2).2 w).1
@[reducible] def K9 (w : Int) (c : aC) : Int := min 99 (pI w c + (aj (aj (aj c 2).2 w).2 w).1)
@[reducible] def pJ (w : Int) (c : aC) : aC := (aj (aj (aj c 2).2 w).2 w).2
def lR (w : Int) (f : Int) (s : lQ) : lQ :=
 if (aj s.c 2).1 = 0 then
  ⟨s.l ++ [⟨f, pI w s.c, if (aj (pJ w s.c) 3).1 = 0 then pI w s.c else K9 w s.c⟩], (aj (pJ w s.c) 3).2⟩
 else ⟨s.l, (aj s.c 2).2⟩
theorem R6 {w f : Int} {s : lQ} (h : (aj s.c 2).1 = 0) (h2 : (aj (pJ w s.c) 3).1 = 0) : lR w f s = ⟨s.l ++ [⟨f, pI w s.c, pI w s.c⟩], (aj (pJ w s.c) 3).2⟩ := by unfold lR; rw [if_pos h, if_pos h2]
theorem R7 {w f : Int} {s : lQ} (h : (aj s.c 2).1 = 0) (h2 : ¬ (aj (pJ w s.c) 3).1 = 0) : lR w f s = ⟨s.l ++ [⟨f, pI w s.c, K9 w s.c⟩], (aj (pJ w s.c) 3).2⟩ := by unfold lR; rw [if_pos h, if_neg h2]
theorem R8 {w f : Int} {s : lQ} (h : ¬ (aj s.c 2).1 = 0) : lR w f s = ⟨s.l, (aj s.c 2).2⟩ := by unfold lR; rw [if_neg h]
def fz (w : Int) (s : lQ) : Nat → lQ
 | 0 => s
 | k + 1 => lR w (k : Int) (fz w s k)
theorem z7 {w : Int} {s : lQ} : ∀ k, (fz w s k).l.length ≤ s.l.length + k
 | 0 => Nat.le_refl _
 | k + 1 => by
  have ih := z7 (w := w) (s := s) k
  show (lR w (k : Int) (fz w s k)).l.length ≤ _
  unfold lR
  split
  ·simp only [List.length_append, List.length_cons, List.length_nil]; omega
  ·dsimp only; omega
@[reducible] def vz (c : aC) : Int × aC := aU (aj c 4).2 [3, 6, 100]
def lS (c : aC) : lQ := fz (vz c).1 ⟨[], (vz c).2⟩ 3
def gm (c : aC) : Int × aC := aj (lS c).c 3
def r7 (c : aC) : List Int × aC := fO 3 (gm c).2 (1 + (gm c).1).toNat
def iB (c : aC) (id : Int) : Query × aC := (⟨id, (aj c 4).1, (lS c).l, (r7 c).1⟩, (r7 c).2)
theorem La (c : aC) : 0 ≤ (gm c).1 ∧ (gm c).1 ≤ 2 := by
 have h1 := di (lS c).c 3
 have h2 := dw (lS c).c (n := 3) (by decide)
 unfold gm; omega
theorem Lb (c : aC) (id : Int) : d9 (iB c id).1 ≤ 6 := by
 have h1 := z7 (w := (vz c).1) (s := ⟨[], (vz c).2⟩) 3
 have h2 := La c
 have h3 : (r7 c).1.length = (1 + (gm c).1).toNat := r6
 have hc : ∀ l : List f0, (l.map yC).sum = 0 := by
  intro l
  induction l with
  | nil => rfl
  | cons a c ih => rw [List.map_cons, List.sum_cons, ih]; rfl
 unfold iB d9 rr
 simp only [cu, aV, hc]
 have : (lS c).l.length ≤ 0 + 3 := h1
 omega
structure R9 (s : Store) : Prop where
 l1 : 1 ≤ s.Segments.length
 l8 : s.Segments.length ≤ 8
 n0 : 0 ≤ s.Now
 n1 : s.Now ≤ 100000
 sm : ∀ g ∈ s.Segments, g.length ≤ 4
 vs : ∀ v ∈ aS s, ck s.Now v = true
 ap : (aS s).Pairwise fun a b => dq a b = true
theorem z8 (a b : aF) : dq a b = dq b a := by
 unfold dq
 rw [show (a.Id == b.Id) = (b.Id == a.Id) from by rw [Bool.eq_iff_iff]; simp only [beq_iff_eq]; exact eq_comm]
 rw [Bool.or_comm (_ && _) (_ && _)]
theorem pK {α : Type} {l : List α} {d : α} {i : Nat} (h : i < l.length) : l.getD i d = l[i] := by
 rw [List.getD_eq_getElem?_getD, List.getElem?_eq_getElem h]; rfl
theorem jr {s : Store} : bA s = true ↔ R9 s := by
 constructor
 ·intro h
  obtain ⟨h1, h2, h3, h4, h5, h6⟩ := jj h
  refine ⟨h2, h1, h3, h4, h5, fun v hv => ?_, ?_⟩
  ·obtain ⟨i, hi, rfl⟩ := List.mem_iff_getElem.1 hv
   have := h6 i hi
   rwa [pK hi] at this
  ·rw [List.pairwise_iff_getElem]
   intro i j hi hj hij
   unfold bA ji at h
   rw [Bool.and_eq_true] at h
   have hg := List.all_eq_true.1 h.2 j (List.mem_range.2 hj)
   unfold jh ek at hg
   rw [Bool.and_eq_true] at hg
   have := List.all_eq_true.1 hg.2 i (List.mem_range.2 hij)
   rw [pK hi, pK hj] at this
   rw [z8]; exact this
 ·intro h
  unfold bA jS
  have e1 : s.Segments.all iu = true := List.all_eq_true.2 fun g hg => by have := h.sm g hg; unfold iu; rw [decide_eq_true_eq]; omega
  have e2 : ji s.Now (aS s) (aS s).length = true := by
   unfold ji
   refine List.all_eq_true.2 fun i hi => ?_
   have hi := List.mem_range.1 hi
   unfold jh ek
   rw [pK hi, Bool.and_eq_true]
   refine ⟨h.vs _ (List.getElem_mem hi), List.all_eq_true.2 fun m hm => ?_⟩
   have hm := List.mem_range.1 hm
   have := List.pairwise_iff_getElem.1 h.ap m i (by omega) hi hm
   rw [pK (by omega), z8]; exact this
  have l1 := h.l1; have l8 := h.l8; have n0 := h.n0; have n1 := h.n1
  rw [e1, e2]
  simp only [aB, Bool.and_eq_true, decide_eq_true_eq, and_true]
  omega
theorem Sa (s : Store) (keep : List Int) (h : bA s = true) : aS (dM s keep) = (aS s).filter fun v => fi v keep := by
 rw [uT h]
 unfold aS
 dsimp only
 generalize s.Segments = l
 induction l with
 | nil => rfl
 | cons x l ih => rw [List.map_cons, List.flatten_cons, List.flatten_cons, List.filter_append, ih]; rfl
theorem Sb {s : Store} (keep : List Int) (h : bA s = true) : bA (dM s keep) = true := by
 have k := jr.1 h
 have e := Sa s keep h
 rw [jr]
 have hr := uT (keep := keep) h
 refine ⟨?_, ?_, ?_, ?_, ?_, ?_, ?_⟩
 ·rw [hr]; show 1 ≤ (s.Segments.map _).length; rw [List.length_map]; exact k.l1
 ·rw [hr]; show (s.Segments.map _).length ≤ 8; rw [List.length_map]; exact k.l8
 ·rw [hr]; exact k.n0
 ·rw [hr]; exact k.n1
 ·rw [hr]
  intro g hg
  obtain ⟨x, hx, rfl⟩ := List.mem_map.1 hg
  exact Nat.le_trans (List.length_filter_le _ _) (k.sm x hx)
 ·rw [e, show (dM s keep).Now = s.Now by rw [hr]]
  intro v hv
  exact k.vs v (List.mem_filter.1 hv).1
 ·rw [e]; exact k.ap.filter _
theorem Sc {s : Store} (keep : List Int) : (dM s keep).Segments.length = s.Segments.length ∧ (dM s keep).Now = s.Now := by
 unfold dM
 split
 ·exact ⟨List.length_map _, rfl⟩
 ·exact ⟨rfl, rfl⟩
theorem z9 {n : Int} {v : aF} (h : ck n v = true) : ck (n + 1) v = true := by
 unfold ck at *
 simp only [Bool.and_eq_true, Bool.or_eq_true, aB, decide_eq_true_eq] at *
 exact ⟨h.1, by omega, by omega⟩
theorem Aa {α : Type} {l : List α} {i : Nat} {x : α} (h : i < l.length) : l.set i x = l.take i ++ x :: l.drop (i + 1) := by
 rw [List.set_eq_take_append_cons_drop, if_pos h]
theorem Sd {s : Store} {i k : Nat} (hi : i < s.Segments.length) (hk : k < s.Segments[i].length) : aS s = ((s.Segments.take i).flatten ++ s.Segments[i].take k) ++ s.Segments[i][k] :: (s.Segments[i].drop (k + 1) ++ (s.Segments.drop (i + 1)).flatten) := by
 have e1 := uJ hi
 have e2 : s.Segments[i] = s.Segments[i].take k ++ s.Segments[i][k] :: s.Segments[i].drop (k + 1) := by rw [← List.drop_eq_getElem_cons hk, List.take_append_drop]
 rw [e1]
 unfold cl
 conv => lhs; rw [e2]
 simp only [List.append_assoc, List.cons_append]
theorem Se {s : Store} {i k : Nat} {v : aF} {n : Int} (hi : i < s.Segments.length) (hk : k < s.Segments[i].length) : aS ⟨s.Segments.set i (s.Segments[i].set k v), n⟩ = ((s.Segments.take i).flatten ++ s.Segments[i].take k) ++ v :: (s.Segments[i].drop (k + 1) ++ (s.Segments.drop (i + 1)).flatten) := by
 unfold aS
 dsimp only
 rw [Aa hi, List.flatten_append, List.flatten_cons, Aa hk]
 simp only [List.append_assoc, List.cons_append]
theorem Sf {L : List (List aF)} {r : Nat} {v : aF} {n : Int} (hr : r < L.length) : (aS ⟨pE L r v, n⟩).Perm (v :: aS ⟨L, n⟩) := by
 unfold aS
 dsimp only
 rw [pG hr, Aa hr, List.flatten_append, List.flatten_cons]
 have e : L.flatten = (L.take r).flatten ++ (L[r] ++ (L.drop (r + 1)).flatten) := by
  rw [← List.flatten_cons, ← List.flatten_append, ← List.drop_eq_getElem_cons hr, List.take_append_drop]
 rw [e]
 have : (L.take r).flatten ++ (L[r] ++ [v] ++ (L.drop (r + 1)).flatten) = ((L.take r).flatten ++ L[r]) ++ v :: (L.drop (r + 1)).flatten := by simp only [List.append_assoc, List.cons_append, List.nil_append]
 rw [this]
 refine List.perm_middle.trans ?_
 rw [List.append_assoc]
theorem Lc {id : Int} {v : aF} : gA id v = true ↔ v.Id = id ∧ v.Died = -1 := by unfold gA; simp
theorem Sg {s : Store} {id : Int} (h : ¬ 0 ≤ bM s id) : ∀ v ∈ aS s, v.Id = id → v.Died ≠ -1 := by
 intro v hv hid hd
 have hall : s.Segments.any (gl id) = true := by
  unfold aS at hv
  obtain ⟨g, hg, hv⟩ := List.mem_flatten.1 hv
  exact List.any_eq_true.2 ⟨g, hg, List.any_eq_true.2 ⟨v, hv, Lc.2 ⟨hid, hd⟩⟩⟩
 unfold bM at h
 rw [if_pos hall] at h
 omega
theorem Ab {a b : aF} (h : dq a b = true) (hid : a.Id = b.Id) : (a.Died ≠ -1 ∧ a.Died ≤ b.Born) ∨ (b.Died ≠ -1 ∧ b.Died ≤ a.Born) := by
 unfold dq at h
 simp only [hid, beq_self_eq_true, Bool.not_true, Bool.false_or, Bool.or_eq_true, Bool.and_eq_true, Bool.not_eq_true', beq_eq_false_iff_ne, decide_eq_true_eq] at h
 exact h
theorem Ac {a b : aF} (h : a.Id = b.Id → (a.Died ≠ -1 ∧ a.Died ≤ b.Born) ∨ (b.Died ≠ -1 ∧ b.Died ≤ a.Born)) : dq a b = true := by
 unfold dq
 by_cases hid : a.Id = b.Id
 ·have := h hid
  simp only [hid, beq_self_eq_true, Bool.not_true, Bool.false_or, Bool.or_eq_true, Bool.and_eq_true, Bool.not_eq_true', beq_eq_false_iff_ne, decide_eq_true_eq]
  exact this
 ·rw [show (a.Id == b.Id) = false by rw [beq_eq_false_iff_ne]; exact hid]; rfl
theorem vC {n : Int} {v : aF} (h : ck n v = true) : bm ⟨v.Id, v.Values⟩ = true ∧ 0 ≤ v.Born ∧ v.Born ≤ n ∧ (v.Died = -1 ∨ (v.Born + 1 ≤ v.Died ∧ v.Died ≤ n)) := by
 unfold ck at h
 simp only [Bool.and_eq_true, Bool.or_eq_true, aB, decide_eq_true_eq] at h
 exact ⟨h.1, h.2.1.1, h.2.1.2, h.2.2⟩
theorem Ad {n : Int} {v : aF} (h : bm ⟨v.Id, v.Values⟩ = true) (h1 : 0 ≤ v.Born ∧ v.Born ≤ n) (h2 : v.Died = -1 ∨ (v.Born + 1 ≤ v.Died ∧ v.Died ≤ n)) : ck n v = true := by
 unfold ck
 simp only [Bool.and_eq_true, Bool.or_eq_true, aB, decide_eq_true_eq]
 exact ⟨h, h1, h2⟩
theorem Ae : ∀ {a b : aF}, dq a b = true → dq b a = true := fun {a b} h => by rw [z8]; exact h
structure Sh (s : Store) (u : Update) : Prop where
 vs : ∀ v ∈ aS ⟨cZ s u, s.Now + 1⟩, ck (s.Now + 1) v = true
 ap : (aS ⟨cZ s u, s.Now + 1⟩).Pairwise fun a b => dq a b = true
 no : ∀ v ∈ aS ⟨cZ s u, s.Now + 1⟩, v.Id = u.Row.Id → v.Died ≠ -1
theorem Si {s : Store} {u : Update} (h : bA s = true) : Sh s u := by
 have k := jr.1 h
 by_cases hf : 0 ≤ bM s u.Row.Id
 ·obtain ⟨i, j, hi, hj, h1, h2, ha⟩ := mC hf
  obtain ⟨hid, hdd⟩ := Lc.1 ha
  have e1 := Sd hi hj
  have e2 := Se (v := hJ (s.Now + 1) s.Segments[i][j]) (n := s.Now + 1) hi hj
  have kv := k.vs; have ka := k.ap
  rw [e1] at kv ka
  rw [List.pairwise_append, List.pairwise_cons] at ka
  obtain ⟨ka1, ⟨ka2, ka3⟩, ka4⟩ := ka
  have hv0 := vC (kv s.Segments[i][j] (by simp))
  have mem : ∀ v ∈ ((s.Segments.take i).flatten ++ s.Segments[i].take j) ++ hJ (s.Now + 1) s.Segments[i][j] :: (s.Segments[i].drop (j + 1) ++ (s.Segments.drop (i + 1)).flatten), v = hJ (s.Now + 1) s.Segments[i][j] ∨ v ∈ ((s.Segments.take i).flatten ++ s.Segments[i].take j) ∨ v ∈ (s.Segments[i].drop (j + 1) ++ (s.Segments.drop (i + 1)).flatten) := by
   intro v hv
   rcases List.mem_append.1 hv with hv | hv
   ·exact .inr (.inl hv)
   ·rcases List.mem_cons.1 hv with hv | hv
    ·exact .inl hv
    ·exact .inr (.inr hv)
  have hk : ∀ w : aF, dq s.Segments[i][j] w = true → dq (hJ (s.Now + 1) s.Segments[i][j]) w = true := by
   intro w hw
   refine Ac fun he => ?_
   have := Ab hw he
   rcases this with ⟨h3, _⟩ | ⟨h3, h4⟩
   ·exact absurd hdd h3
   ·exact .inr ⟨h3, h4⟩
  refine ⟨?_, ?_, ?_⟩
  ·rw [(kL hi hj h1 h2).1, e2]
   intro v hv
   rcases mem v hv with rfl | hv | hv
   ·exact Ad hv0.1 ⟨hv0.2.1, by show s.Segments[i][j].Born ≤ s.Now + 1; omega⟩ (.inr ⟨by show s.Segments[i][j].Born + 1 ≤ s.Now + 1; omega, Int.le_refl _⟩)
   ·exact z9 (kv v (List.mem_append.2 (.inl hv)))
   ·exact z9 (kv v (List.mem_append.2 (.inr (List.mem_cons_of_mem _ hv))))
  ·rw [(kL hi hj h1 h2).1, e2, List.pairwise_append, List.pairwise_cons]
   refine ⟨ka1, ⟨fun w hw => hk w (ka2 w hw), ka3⟩, fun a ha b hb => ?_⟩
   rcases List.mem_cons.1 hb with rfl | hb
   ·exact Ae (hk a (Ae (ka4 a ha _ List.mem_cons_self)))
   ·exact ka4 a ha b (List.mem_cons_of_mem _ hb)
  ·rw [(kL hi hj h1 h2).1, e2]
   intro v hv hvid
   rcases mem v hv with rfl | hv | hv
   ·show s.Now + 1 ≠ -1
    have := k.n0; omega
   ·have := Ab (ka4 v hv _ List.mem_cons_self) (by rw [hvid, hid])
    rcases this with ⟨h3, _⟩ | ⟨h3, _⟩
    ·exact h3
    ·exact absurd hdd h3
   ·have := Ab (ka2 v hv) (by rw [hvid, hid])
    rcases this with ⟨h3, _⟩ | ⟨h3, _⟩
    ·exact absurd hdd h3
    ·exact h3
 ·have e := (mD hf).1
  have e3 : aS ⟨cZ s u, s.Now + 1⟩ = aS s := by unfold aS; dsimp only; rw [e]
  have hn := Sg hf
  refine ⟨?_, ?_, ?_⟩
  ·rw [e3]; intro v hv; exact z9 (k.vs v hv)
  ·rw [e3]; exact k.ap
  ·rw [e3]; exact hn
theorem Sj {u : Update} (h : fH u = true) (hk : u.Kind = 3) : 0 ≤ u.Field ∧ u.Field ≤ 2 ∧ 0 ≤ u.Value ∧ u.Value ≤ 99 ∧ 0 ≤ u.Row.Id ∧ u.Row.Id ≤ 999 := by
 unfold fH at h
 rw [if_neg (by omega), if_neg (by omega), if_pos hk] at h
 simp only [nB, Bool.and_eq_true, aB, decide_eq_true_eq] at h
 omega
theorem Sk {u : Update} (h : fH u = true) (hk : u.Kind = 1) : bm u.Row = true := by
 unfold fH at h
 rw [if_pos hk] at h
 simp only [Bool.and_eq_true] at h
 exact h.1
theorem Sl {u : Update} (h : fH u = true) : u.Kind = 1 ∨ u.Kind = 2 ∨ u.Kind = 3 := by
 unfold fH at h
 by_cases h1 : u.Kind = 1
 ·exact .inl h1
 ·by_cases h2 : u.Kind = 2
  ·exact .inr (.inl h2)
  ·by_cases h3 : u.Kind = 3
   ·exact .inr (.inr h3)
   ·rw [if_neg h1, if_neg h2, if_neg h3] at h; cases h
theorem vD {r : Row} : bm r = true ↔ (0 ≤ r.Id ∧ r.Id ≤ 999) ∧ r.Values.length = 3 ∧ ∀ x ∈ r.Values, 0 ≤ x ∧ x ≤ 99 := by
 unfold bm gL
 simp only [Bool.and_eq_true, aB, decide_eq_true_eq, List.all_eq_true]
 constructor
 ·rintro ⟨h1, h2, h3⟩; exact ⟨h2, by omega, h1⟩
 ·rintro ⟨h1, h2, h3⟩; exact ⟨h3, h1, by omega⟩
theorem Sm {s : Store} {u : Update} (h : gC s u = true) (hk : ¬ u.Kind = 2) : bm ⟨u.Row.Id, gB s u⟩ = true := by
 obtain ⟨h1, h2, h3, h4, h5⟩ := pF h
 have k := jr.1 h1
 rcases Sl h2 with k1 | k2 | k3
 ·have hr := Sk h2 k1
  have hf : ¬ 0 ≤ bM s u.Row.Id := fun hc => (h4.1 hc) k1
  unfold gB
  rw [if_neg (by omega), (mD hf).2]
  exact hr
 ·exact absurd k2 hk
 ·have hu := Sj h2 k3
  have hf : 0 ≤ bM s u.Row.Id := h4.2 (by omega)
  obtain ⟨i, j, hi, hj, e1, e2, ha⟩ := mC hf
  have hv := (vC (yT h1 hi hj)).1
  rw [vD] at hv
  unfold gB
  rw [if_pos k3, (kL hi hj e1 e2).2, vD]
  refine ⟨⟨hu.2.2.2.2.1, hu.2.2.2.2.2⟩, by rw [List.length_set]; exact hv.2.1, fun x hx => ?_⟩
  rcases List.mem_or_eq_of_mem_set hx with hx | rfl
  ·exact hv.2.2 x hx
  ·exact ⟨hu.2.2.1, hu.2.2.2.1⟩
theorem Ld (s : Store) (u : Update) (h : bA s = true) : bA (da s u).1 = true := by
 cases ha : gC s u with
 | false => rw [rY ha]; exact h
 | true =>
  obtain ⟨h1, h2, h3, h4, h5⟩ := pF ha
  have k := jr.1 h
  have hu := Si (u := u) h
  have hlen := r5 s u
  have hsm : ∀ g ∈ cZ s u, g.length ≤ 4 := by
   intro g hg
   obtain ⟨i, hi, rfl⟩ := List.mem_iff_getElem.1 hg
   have hi2 : i < s.Segments.length := by omega
   rw [zX s u hi hi2]; exact k.sm _ (List.getElem_mem hi2)
  by_cases hk : u.Kind = 2
  ·rw [rZ ha hk, jr]
   exact ⟨by dsimp only; rw [hlen]; exact k.l1, by dsimp only; rw [hlen]; exact k.l8, by dsimp only; have := k.n0; omega, by dsimp only; omega, hsm, hu.vs, hu.ap⟩
  ·obtain ⟨r, hr, hrm, hr4⟩ := zU (h5.resolve_left hk)
   have hru : r < (cZ s u).length := by omega
   rw [vr ha hk hrm, jr]
   have hp := Sf (v := jq s u) (n := s.Now + 1) hru
   have hnv : ck (s.Now + 1) (jq s u) = true := Ad (Sm ha hk) ⟨by show 0 ≤ s.Now + 1; have := k.n0; omega, Int.le_refl _⟩ (.inl rfl)
   refine ⟨?_, ?_, by dsimp only; have := k.n0; omega, by dsimp only; omega, ?_, ?_, ?_⟩
   ·dsimp only; rw [pG hru, List.length_set, hlen]; exact k.l1
   ·dsimp only; rw [pG hru, List.length_set, hlen]; exact k.l8
   ·dsimp only
    rw [pG hru]
    intro g hg
    rcases List.mem_or_eq_of_mem_set hg with hg | rfl
    ·exact hsm g hg
    ·have h6 := zX s u hru hr
     rw [List.length_append, h6]; simp; omega
   ·intro v hv
    rcases List.mem_cons.1 (hp.mem_iff.1 hv) with rfl | hv
    ·exact hnv
    ·exact hu.vs v hv
   ·rw [hp.pairwise_iff (fun h => Ae h), List.pairwise_cons]
    refine ⟨fun w hw => Ac fun he => ?_, hu.ap⟩
    have h6 := hu.no w hw he.symm
    have h7 := vC (hu.vs w hw)
    rcases h7.2.2.2 with h8 | h8
    ·exact absurd h8 h6
    ·exact .inr ⟨h6, h8.2⟩
section
attribute [local irreducible] aj fM
theorem Le {w : Int} {c : aC} (hw : 0 < w) : ∀ {k : Nat}, ∀ x ∈ (fO w c k).1, 0 ≤ x ∧ x < w
 | 0, x, h => nomatch h
 | k + 1, x, h => by
  rw [fO] at h
  rcases List.mem_append.1 h with h | h
  ·exact Le hw x h
  ·simp at h; subst h
   exact ⟨di _ _, dw _ hw⟩
theorem Sn (c : aC) : 0 < (aU c [3, 6, 100]).1 ∧ (aU c [3, 6, 100]).1 ≤ 100 := by
 have h := vw c (l := [3, 6, 100]) (by decide)
 simp at h; omega
theorem So {c : aC} {id : Int} (h : 0 ≤ id ∧ id ≤ 999) : bm (eP c id).1 = true := by
 have hw := Sn c
 unfold bm eP
 simp only [Bool.and_eq_true, List.all_eq_true, decide_eq_true_eq]
 refine ⟨fun x hx => ?_, uy.2 h, by rw [r6]; rfl⟩
 have := Le hw.1 x hx
 exact uy.2 (by omega)
end
def mF : Row := ⟨0, []⟩
def mG (a b : Row) : Bool := decide (a.Id < b.Id)
def fA (l : List Row) : Bool := cw mF bm mG l && decide ((l.length : Int) ≤ 32)
def pL (r : Row) : aF := ⟨r.Id, r.Values, 0, -1⟩
def kN (rows : List Row) (n i k : Nat) : List aF := (List.range k).map fun j => pL (rows.getD (i + j * n) mF)
def kO (len n i : Nat) : Nat := (len - i + (n - 1)) / n
def kP (rows : List Row) (n i : Nat) : List aF := kN rows n i (kO rows.length n i)
def js (rows : List Row) (n k : Nat) : List (List aF) := (List.range k).map (kP rows n)
def jZ (rows : List Row) (n : Int) : Bool := (fA rows && aB n 1 8) && decide ((rows.length : Int) ≤ n * 4)
def nZ (rows : List Row) (n : Int) : Store × Bool := if jZ rows n then (⟨js rows n.toNat n.toNat, 0⟩, true) else (⟨[], 0⟩, false)
theorem Lf {rows : List Row} {n : Int} (h : jZ rows n = false) : nZ rows n = (⟨[], 0⟩, false) := if_neg (by rw [h]; simp)
theorem Af {rows : List Row} {n : Int} (h : jZ rows n = true) : nZ rows n = (⟨js rows n.toNat n.toNat, 0⟩, true) := if_pos h
theorem Ag {rows : List Row} {n : Int} (h : jZ rows n = true) : fA rows = true ∧ (1 ≤ n ∧ n ≤ 8) ∧ (rows.length : Int) ≤ n * 4 := by
 unfold jZ at h
 simp only [Bool.and_eq_true, aB, decide_eq_true_eq] at h
 exact ⟨h.1.1, h.1.2, h.2⟩
theorem r8 {len n i k : Nat} (hn : 0 < n) (h : i ≤ len) : i + k * n < len ↔ k < kO len n i := by
 unfold kO
 rw [Nat.lt_iff_add_one_le (m := k), Nat.le_div_iff_mul_le hn, Nat.add_mul, Nat.one_mul]
 omega
theorem Ah {len n i : Nat} (hn : 0 < n) (h : len ≤ i) : kO len n i = 0 := by
 unfold kO
 exact Nat.div_eq_of_lt (by omega)
theorem Sp {rows : List Row} {n i k : Nat} : kN rows n i (k + 1) = kN rows n i k ++ [pL (rows.getD (i + k * n) mF)] := by
 unfold kN; rw [List.range_succ, List.map_append]; rfl
theorem Ai {rows : List Row} {n i k : Nat} : (kN rows n i k).length = k := by unfold kN; rw [List.length_map, List.length_range]
theorem Sq {rows : List Row} {n k : Nat} : js rows n (k + 1) = js rows n k ++ [kP rows n k] := by
 unfold js; rw [List.range_succ, List.map_append]; rfl
theorem Aj {rows : List Row} {n k : Nat} : (js rows n k).length = k := by unfold js; rw [List.length_map, List.length_range]
theorem Sr {l : List Row} (h : fA l = true) : l.length ≤ 32 := by
 unfold fA at h
 rw [Bool.and_eq_true, decide_eq_true_eq] at h
 omega
theorem Lg {l : List Row} (h : fA l = true) {k : Nat} (hk : k < l.length) : bm l[k] = true := by
 unfold fA at h
 rw [Bool.and_eq_true] at h
 exact rz h.1 hk
theorem Lh {l : List Row} (h : fA l = true) : ∀ (i j : Nat) (hj : j < l.length) (hij : i < j), l[i].Id < l[j].Id := by
 have h := h
 unfold fA at h
 rw [Bool.and_eq_true] at h
 have step : ∀ i (hi : i + 1 < l.length), l[i].Id < l[i + 1].Id := by
  intro i hi
  have := List.all_eq_true.1 h.1 (i + 1) (List.mem_range.2 hi)
  rw [gr, show i + 1 - 1 = i from rfl, cY hi, cY (show i < l.length by omega)] at this
  rcases this.2 with h0 | h0
  ·omega
  ·unfold mG at h0; simpa using h0
 intro i j hj hij
 induction j with
 | zero => omega
 | succ j ih =>
  by_cases he : i = j
  ·subst he; exact step i hj
  ·have h1 := ih (by omega) (by omega)
   have h2 := step j hj
   omega
theorem Li {rows : List Row} {n i : Nat} (hn : 0 < n) (hl : rows.length ≤ n * 4) : (kP rows n i).length ≤ 4 := by
 unfold kP
 rw [Ai]
 unfold kO
 refine Nat.le_of_lt_succ ?_
 rw [Nat.div_lt_iff_lt_mul hn]
 have : (4 + 1) * n = n * 4 + n := by rw [Nat.add_mul, Nat.mul_comm]; omega
 show _ < (4 + 1) * n
 rw [this]; omega
theorem Ak {rows : List Row} {n i : Nat} (hn : 0 < n) {v : aF} (hv : v ∈ kP rows n i) : ∃ j, ∃ h : i + j * n < rows.length, v = pL rows[i + j * n] := by
 by_cases hi : i ≤ rows.length
 ·unfold kP kN at hv
  obtain ⟨j, hj, rfl⟩ := List.mem_map.1 hv
  have hj := (r8 hn hi).2 (List.mem_range.1 hj)
  exact ⟨j, hj, by rw [cY hj]⟩
 ·unfold kP at hv
  rw [Ah hn (by omega)] at hv
  simp [kN] at hv
theorem Ss {rows : List Row} {n : Int} (h : jZ rows n = true) : bA (nZ rows n).1 = true := by
 obtain ⟨h1, h2, h3⟩ := Ag h
 rw [Af h, jr]
 have hn : 0 < n.toNat := by omega
 have mem : ∀ v ∈ aS ⟨js rows n.toNat n.toNat, 0⟩, ∃ i, ∃ hi : i < rows.length, v = pL rows[i] := by
  intro v hv
  unfold aS js at hv
  obtain ⟨g, hg, hv⟩ := List.mem_flatten.1 hv
  obtain ⟨i, _, rfl⟩ := List.mem_map.1 hg
  obtain ⟨j, hj, rfl⟩ := Ak hn hv
  exact ⟨_, hj, rfl⟩
 have apart : ∀ i j (hi : i < rows.length) (hj : j < rows.length), i ≠ j → dq (pL rows[i]) (pL rows[j]) = true := by
  intro i j hi hj hij
  refine Ac fun he => ?_
  exfalso
  have he : rows[i].Id = rows[j].Id := he
  rcases Nat.lt_or_gt_of_ne hij with k | k
  ·have := Lh h1 i j hj k; omega
  ·have := Lh h1 j i hi k; omega
 refine ⟨by dsimp only; rw [Aj]; omega, by dsimp only; rw [Aj]; omega, Int.le_refl 0, by show (0 : Int) ≤ 100000; decide, fun g hg => ?_, fun v hv => ?_, ?_⟩
 ·unfold js at hg
  obtain ⟨i, _, rfl⟩ := List.mem_map.1 hg
  exact Li hn (by omega)
 ·obtain ⟨i, hi, rfl⟩ := mem v hv
  exact Ad (Lg h1 hi) ⟨Int.le_refl 0, Int.le_refl 0⟩ (.inl rfl)
 ·unfold aS js
  rw [List.pairwise_flatten, List.pairwise_map]
  constructor
  ·intro g hg
   obtain ⟨i, hi, rfl⟩ := List.mem_map.1 hg
   have hi := List.mem_range.1 hi
   unfold kP kN
   by_cases hil : i ≤ rows.length
   ·rw [List.pairwise_map]
    refine List.Pairwise.imp_of_mem ?_ List.pairwise_lt_range
    intro a b ha hb hab
    have ha := (r8 hn hil).2 (List.mem_range.1 ha)
    have hb := (r8 hn hil).2 (List.mem_range.1 hb)
    rw [cY ha, cY hb]
    refine apart _ _ ha hb ?_
    have := Nat.mul_lt_mul_of_pos_right hab hn
    omega
   ·rw [Ah hn (by omega)]; simp
  ·refine List.Pairwise.imp_of_mem ?_ List.pairwise_lt_range
   intro a b ha hb hab v hv w hw
   have ha := List.mem_range.1 ha
   have hb := List.mem_range.1 hb
   obtain ⟨j, hj, rfl⟩ := Ak hn hv
   obtain ⟨k, hk, rfl⟩ := Ak hn hw
   refine apart _ _ hj hk ?_
   intro he
   have := congrArg (· % n.toNat) he
   simp only [Nat.add_mul_mod_self_right] at this
   rw [Nat.mod_eq_of_lt ha, Nat.mod_eq_of_lt hb] at this
   omega
def kQ (c : aC) (s : Store) : Int × aC :=
 if (aS s).length = 0 then ((aj c 12).1, (aj c 12).2)
 else if (aj (aj c 12).2 4).1 = 0 then ((aj c 12).1, (aj (aj c 12).2 4).2)
 else (((aS s).getD (aj (aj (aj c 12).2 4).2 (aS s).length).1.toNat v0).Id, (aj (aj (aj c 12).2 4).2 (aS s).length).2)
def bV (c : aC) (s : Store) : Int × aC := aj (kQ c s).2 3
def dy (c : aC) (s : Store) : Update × aC :=
 if (bV c s).1 = 0 then (⟨1, (eP (aj (bV c s).2 20).2 (aj (bV c s).2 20).1).1, 0, 0⟩, (eP (aj (bV c s).2 20).2 (aj (bV c s).2 20).1).2)
 else if (bV c s).1 = 1 then (⟨2, ⟨(kQ c s).1, []⟩, 0, 0⟩, (bV c s).2)
 else (⟨3, ⟨(kQ c s).1, []⟩, (aj (bV c s).2 3).1, (aj (aj (bV c s).2 3).2 6).1⟩, (aj (aj (bV c s).2 3).2 6).2)
theorem Su {c : aC} {s : Store} (h : (aS s).length = 0) : kQ c s = ((aj c 12).1, (aj c 12).2) := if_pos h
theorem Sv {c : aC} {s : Store} (h : ¬ (aS s).length = 0) (h2 : (aj (aj c 12).2 4).1 = 0) : kQ c s = ((aj c 12).1, (aj (aj c 12).2 4).2) := by unfold kQ; rw [if_neg h, if_pos h2]
theorem Sw {c : aC} {s : Store} (h : ¬ (aS s).length = 0) (h2 : ¬ (aj (aj c 12).2 4).1 = 0) : kQ c s = (((aS s).getD (aj (aj (aj c 12).2 4).2 (aS s).length).1.toNat v0).Id, (aj (aj (aj c 12).2 4).2 (aS s).length).2) := by unfold kQ; rw [if_neg h, if_neg h2]
theorem Lj {c : aC} {s : Store} (h : (bV c s).1 = 0) : dy c s = (⟨1, (eP (aj (bV c s).2 20).2 (aj (bV c s).2 20).1).1, 0, 0⟩, (eP (aj (bV c s).2 20).2 (aj (bV c s).2 20).1).2) := if_pos h
theorem Lk {c : aC} {s : Store} (h : ¬ (bV c s).1 = 0) (h2 : (bV c s).1 = 1) : dy c s = (⟨2, ⟨(kQ c s).1, []⟩, 0, 0⟩, (bV c s).2) := by unfold dy; rw [if_neg h, if_pos h2]
theorem Ll {c : aC} {s : Store} (h : ¬ (bV c s).1 = 0) (h2 : ¬ (bV c s).1 = 1) : dy c s = (⟨3, ⟨(kQ c s).1, []⟩, (aj (bV c s).2 3).1, (aj (aj (bV c s).2 3).2 6).1⟩, (aj (aj (bV c s).2 3).2 6).2) := by unfold dy; rw [if_neg h, if_neg h2]
theorem Lm (c : aC) (s : Store) : mj (dy c s).1 ≤ 3 := by
 unfold dy
 split
 ·have := K7 (aj (bV c s).2 20).2 (aj (bV c s).2 20).1
  unfold mj; dsimp only; simp only [aV]; omega
 ·split <;> (unfold mj fG; simp only [cu, aV]; decide)
structure n6 where
 s : Store
 c : aC
def Sx (x : n6) : n6 := ⟨(da x.s (dy x.c x.s).1).1, (dy x.c x.s).2⟩
def j0 (x : n6) : Nat → n6
 | 0 => x
 | k + 1 => Sx (j0 x k)
def jt (c : aC) : List Row × aC := jY c 7
def j2 (c : aC) : n6 := ⟨(nZ (jt c).1 (2 + (aj (jt c).2 3).1)).1, (aj (aj (jt c).2 3).2 6).2⟩
def lT (c : aC) : Int := (aj (aj (jt c).2 3).2 6).1
def gD (c : aC) : n6 := j0 (j2 c) (lT c).toNat
theorem Ln {c : aC} {id : Int} (h : 0 ≤ id ∧ id ≤ 2) : ∀ {k : Nat}, k ≤ 300 → (∀ r ∈ (b4 id c k).l, bm r = true ∧ r.Id < (b4 id c k).id) ∧ (b4 id c k).l.Pairwise fun a b => a.Id < b.Id
 | 0, _ => ⟨fun r hr => by simp [b4] at hr, List.Pairwise.nil⟩
 | k + 1, hk => by
  obtain ⟨h1, h2⟩ := Ln (c := c) h (k := k) (by omega)
  have hid := K8 (c := c) (k := k) h
  have hb := di (eP (b4 id c k).c (b4 id c k).id).2 3
  have hr := So (c := (b4 id c k).c) (id := (b4 id c k).id) ⟨hid.1, by omega⟩
  have hri : (eP (b4 id c k).c (b4 id c k).id).1.Id = (b4 id c k).id := rfl
  rw [b4]
  dsimp only
  refine ⟨fun r hr2 => ?_, ?_⟩
  ·rcases List.mem_append.1 hr2 with hr2 | hr2
   ·have := h1 r hr2; exact ⟨this.1, by omega⟩
   ·rw [List.mem_singleton.1 hr2]; exact ⟨hr, by omega⟩
  ·rw [List.pairwise_append]
   refine ⟨h2, by simp, fun a ha b hb2 => ?_⟩
   rw [List.mem_singleton.1 hb2, hri]
   exact (h1 a ha).2
theorem Sy {l : List Row} (h1 : ∀ r ∈ l, bm r = true) (h2 : l.Pairwise fun a b => a.Id < b.Id) (h3 : l.length ≤ 32) : fA l = true := by
 unfold fA
 rw [rT h1 (h2.imp fun {a b} k => by unfold mG; simpa using k), Bool.true_and, decide_eq_true_eq]
 omega
theorem Sz (c : aC) {most : Int} (h : 0 ≤ most ∧ most ≤ 32) : fA (jY c most).1 = true ∧ ((jY c most).1.length : Int) ≤ most := by
 have a1 := di c 3
 have a2 := dw c (n := 3) (by decide)
 have b1 := di (aj c 3).2 (most + 1)
 have b2 := dw (aj c 3).2 (n := most + 1) (by omega)
 have k := Ln (c := (aj (aj c 3).2 (most + 1)).2) (id := (aj c 3).1) ⟨a1, by omega⟩ (k := (aj (aj c 3).2 (most + 1)).1.toNat) (by omega)
 have hl := z6 (id := (aj c 3).1) (c := (aj (aj c 3).2 (most + 1)).2) (k := (aj (aj c 3).2 (most + 1)).1.toNat)
 unfold jY vv
 dsimp only
 exact ⟨Sy (fun r hr => (k.1 r hr).1) k.2 (by omega), by omega⟩
theorem SA (c : aC) : jZ (jt c).1 (2 + (aj (jt c).2 3).1) = true := by
 have h := Sz c (most := 7) (by decide)
 have b1 := di (jt c).2 3
 have b2 := dw (jt c).2 (n := 3) (by decide)
 have hl : ((jt c).1.length : Int) ≤ 7 := h.2
 have ha : fA (jt c).1 = true := h.1
 unfold jZ
 rw [ha]
 simp only [aB, Bool.true_and, Bool.and_eq_true, decide_eq_true_eq]
 omega
theorem Lo (c : aC) : bA (j2 c).s = true := Ss (SA c)
theorem Al {x : n6} (h : bA x.s = true) : ∀ k, bA (j0 x k).s = true
 | 0 => h
 | k + 1 => Ld _ _ (Al h k)
theorem Am (c : aC) : bA (gD c).s = true := Al (Lo c) _
theorem vE {s : Store} (h : bA s = true) : cc s ≤ 200 := by
 have k := jr.1 h
 have hv : ∀ g ∈ s.Segments, b3 g ≤ 16 := by
  intro g hg
  have h4 := k.sm g hg
  have : ∀ l : List aF, (∀ v ∈ l, bZ v = 3) → (l.map bZ).sum = 3 * l.length := by
   intro l
   induction l with
   | nil => intro _; rfl
   | cons v l ih =>
    intro hl
    rw [List.map_cons, List.sum_cons, hl v List.mem_cons_self, ih fun w hw => hl w (List.mem_cons_of_mem _ hw), List.length_cons]; omega
  have h3 := this g fun v hv => by
   have := (vD.1 (vC (k.vs v (List.mem_flatten.2 ⟨g, hg, hv⟩))).1).2.1
   have this : v.Values.length = 3 := this
   unfold bZ; simp only [cu, aV]; omega
  unfold b3; omega
 have hs : (s.Segments.map b3).sum ≤ 16 * s.Segments.length := by
  generalize s.Segments = L at hv
  induction L with
  | nil => simp
  | cons g L ih =>
   have h1 := hv g List.mem_cons_self
   have h2 := ih fun x hx => hv x (List.mem_cons_of_mem _ hx)
   rw [List.map_cons, List.sum_cons, List.length_cons]; omega
 have l8 := k.l8
 unfold cc fa
 simp only [aV]; omega
end Go.Proofs.YtmekkgdboplbjaaGreat
