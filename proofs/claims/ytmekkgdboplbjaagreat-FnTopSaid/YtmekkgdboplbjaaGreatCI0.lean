/- Definitions and their laws. No condition. -/
import Derived.Test.YtmekkgdboplbjaaGreatCE0
set_option linter.all false
namespace Go.Proofs.YtmekkgdboplbjaaGreat
open Go Go.RowKit M
set_option maxRecDepth 10000
section
def cc (e : aA) : List aR := e.Store.aey.getD e.aeD.toNat []
def bV (l : List aR) (t : Int) : List Row := (l.filter fun v => dL v t).map fF
def iC (e : aA) (a : aez) : List Row := (bV (cc e) a.Time).filter (dN a.aeA)
def iD (e : aA) (a : aez) (j : Nat) : List Row := ((bV (cc e) a.Time).take j).filter (dN a.aeA)
def fM (l : List Int) (x : Int) : List Int := l.filter fun y => !(y == x)
def lB (e : aA) (a : aez) : aez := ⟨a.aeA, a.Time, fM a.aeI e.aeD, a.Age, a.Sent + ((iC e a).length : Int), a.Cap, a.Rows ++ iC e a⟩
def kk (e : aA) (ids : List Int) (a : aez) : aez := if bB ids a.aeA.Id then lB e a else a
def bW (e : aA) (k : Nat) : List aez := e.aez.map (kk e ((parts e).take k))
def Al (e : aA) (id : Int) : aez := e.aez.getD (dy e.aez id).toNat ii
def ua (e : aA) (id : Int) : Int := (Al e id).aeA.aeE
def ub (e : aA) (id : Int) : Int := ((iC e (Al e id)).length : Int)
def ej (e : aA) (k : Nat) : br := ⟨e.aeD, ((cc e).length : Int), (parts e).take k, ((parts e).take k).map (ua e), ((parts e).take k).map (ub e)⟩
def kl (n : Int) (a : aez) : aez := ⟨a.aeA, a.Time, a.aeI, a.Age + 1, if (a.Age + 1).tmod n = 0 then 0 else a.Sent, a.Cap, a.Rows⟩
def dz (a : aez) : Bool := decide (a.aeI.length = 0)
def nC (a : aez) : fi := ⟨a.aeA, a.Time, a.Age, a.Rows⟩
def cR (e : aA) (k : Nat) : List aez := (bW e k).map (kl (e.Store.aey.length : Int))
def ko (e : aA) (k m : Nat) : List aez := ((cR e k).take m).filter fun a => !dz a
def gm (e : aA) (k m : Nat) : List fi := (((cR e k).take m).filter dz).map nC
def gz (e : aA) (k : Nat) : List br := if (parts e).length = 0 then e.aeL else e.aeL ++ [ej e k]
def Fq (e : aA) (k m : Nat) : aA := ⟨e.Store, (e.aeD + 1).tmod (e.Store.aey.length : Int), e.Order, ko e k m, e.Done ++ gm e k m, gz e k, e.Steps + 1⟩
def gN (e : aA) : aA := Fq e (parts e).length e.aez.length
def im (e : aA) : Bool := aX e && (decide (e.Steps < 100000) && (decide ((e.aeL.length : Int) < 1000) && decide ((e.Done.length : Int) + (e.aez.length : Int) ≤ 1000)))
def cz (e : aA) : aA := if im e then dk (gN e) else e
def RU {e : aA} (h : im e = false) : cz e = e := if_neg (by rw [h]; simp)
def Am {e : aA} (h : im e = true) : cz e = dk (gN e) := if_pos h
def wH {e : aA} (h : im e = true) : aX e = true ∧ e.Steps < 100000 ∧ (e.aeL.length : Int) < 1000 ∧ (e.Done.length : Int) + (e.aez.length : Int) ≤ 1000 := by
 unfold im at h
 simp only [aS, decide_eq_true_eq] at h
 exact ⟨h.1, h.2.1, h.2.2.1, h.2.2.2⟩
def oW {e : aA} (h : aX e = true) : e.aez.Pairwise (fun a b => a.aeA.Id < b.aeA.Id) := by
 unfold aX at h
 simp only [aS] at h
 exact Rl h.2.1
def wI {e : aA} (h : aX e = true) {i j : Nat} (hi : i < e.aez.length) (hj : j < e.aez.length) (he : e.aez[i].aeA.Id = e.aez[j].aeA.Id) : i = j := by
 have hp := oW h
 rw [List.pairwise_iff_getElem] at hp
 rcases Nat.lt_trichotomy i j with h1 | h1 | h1
 ·have := hp i j hi hj h1; omega
 ·exact h1
 ·have := hp j i hj hi h1; omega
def Fr {e : aA} (h : aX e = true) : (parts e).Pairwise (· < ·) := by
 rw [pU h]
 unfold gM
 rw [List.pairwise_map]
 exact (oW h).filter _
def ZR {l : List Int} (hp : l.Pairwise (· < ·)) {k : Nat} (hk : k < l.length) (x : Int) : bB (l.take (k + 1)) x = (bB (l.take k) x || (l[k] == x)) := by
 unfold bB
 rw [cC hk, List.any_append]; simp
def ZS {l : List Int} (hp : l.Pairwise (· < ·)) {k : Nat} (hk : k < l.length) : bB (l.take k) l[k] = false := by
 unfold bB
 rw [List.any_eq_false]
 intro y hy
 obtain ⟨j, hj, rfl⟩ := List.mem_iff_getElem.1 hy
 rw [bv] at hj
 rw [List.pairwise_iff_getElem] at hp
 have := hp j k (by omega) hk (by omega)
 simp
 omega
def Ft {e : aA} {k : Nat} (hok : aX e = true) (hk : k < (parts e).length) : ∃ i, ∃ hi : i < e.aez.length, dy e.aez (parts e)[k] = (i : Int) ∧ e.aez[i].aeA.Id = (parts e)[k] ∧ ew e e.aez[i] = true := by
 have hm : ∀ x, x ∈ parts e → x ∈ gM e e.aez := fun x hx => by rwa [pU hok] at hx
 have hm := hm _ (List.getElem_mem hk)
 unfold gM at hm
 obtain ⟨a, ha, hid⟩ := List.mem_map.1 hm
 obtain ⟨ha, hp⟩ := List.mem_filter.1 ha
 obtain ⟨i, hi, rfl⟩ := List.mem_iff_getElem.1 ha
 refine ⟨i, hi, ?_, hid, hp⟩
 refine EK hi ?_ (by unfold eh; rw [hid]; simp)
 rw [List.any_eq_false]
 intro b hb
 obtain ⟨j, hj, rfl⟩ := List.mem_iff_getElem.1 hb
 rw [bv] at hj
 intro hc
 unfold eh at hc
 have hc : e.aez[j].aeA.Id = (parts e)[k] := by simpa using hc
 have := wI hok (show j < e.aez.length by omega) hi (hc.trans hid.symm)
 omega
section
variable {e : aA} {k i j m : Nat}
def kU : (bW e k).length = e.aez.length := by unfold bW; rw [aw]
def An (h : i < (bW e k).length) (hi : i < e.aez.length) : (bW e k)[i] = kk e ((parts e).take k) e.aez[i] := List.getElem_map (kk e ((parts e).take k))
def RW (hok : aX e = true) (hk : k < (parts e).length) (hi : i < e.aez.length) (hid : e.aez[i].aeA.Id = (parts e)[k]) (h : i < (bW e k).length) : (bW e k)[i] = e.aez[i] := by
 rw [An h hi]
 unfold kk
 rw [hid, ZS (Fr hok) hk, if_neg (by simp)]
def RX (hok : aX e = true) (hk : k < (parts e).length) (hi : i < e.aez.length) (hid : e.aez[i].aeA.Id = (parts e)[k]) : (bW e k).set i (lB e e.aez[i]) = bW e (k + 1) := by
 refine List.ext_getElem (by rw [List.length_set, kU, kU]) fun j h1 h2 => ?_
 have hj : j < e.aez.length := by rw [kU] at h2; exact h2
 rw [List.getElem_set, An h2 hj]
 unfold kk
 rw [ZR (Fr hok) hk]
 split
 ·rename_i hij
  subst hij
  rw [hid]; simp
 ·rename_i hij
  rw [An _ hj]
  unfold kk
  have : ((parts e)[k] == e.aez[j].aeA.Id) = false := by
   rw [beq_eq_false_iff_ne]
   intro hc
   exact hij (wI hok hi hj (hid.trans hc))
  rw [this, Bool.or_false]
def Fu : bW e 0 = e.aez := by
 unfold bW
 have : ∀ a : aez, kk e ((parts e).take 0) a = a := fun a => by unfold kk bB; simp
 rw [List.map_congr_left (g := id) (fun a _ => this a), List.map_id]
def Fv {id : Int} (hi : i < e.aez.length) (hf : dy e.aez id = (i : Int)) : Al e id = e.aez[i] := by
 unfold Al; rw [hf]; simp [hi]
def ZT (hk : k < (parts e).length) (hi : i < e.aez.length) (hf : dy e.aez (parts e)[k] = (i : Int)) : ej e (k + 1) = ⟨e.aeD, ((cc e).length : Int), (ej e k).Ids ++ [(parts e)[k]], (ej e k).aeF ++ [e.aez[i].aeA.aeE], (ej e k).Rows ++ [((iC e e.aez[i]).length : Int)]⟩ := by
 have ha := Fv hi hf
 unfold ej
 rw [cC hk]
 simp only [bj, List.map_cons, List.map_nil, ua, ub, ha]
def Ao (hk : k ≤ (parts e).length) : (ej e k).Ids.length = k ∧ (ej e k).aeF.length = k ∧ (ej e k).Rows.length = k := by
 unfold ej
 simp only [aw, bv]
 omega
def RY {a : aez} (hj : j < (bV (cc e) a.Time).length) (h : dN a.aeA (bV (cc e) a.Time)[j] = true) : iD e a (j + 1) = iD e a j ++ [(bV (cc e) a.Time)[j]] := by
 unfold iD; rw [cC hj, dV]; simp [h]
def RZ {a : aez} (hj : j < (bV (cc e) a.Time).length) (h : dN a.aeA (bV (cc e) a.Time)[j] = false) : iD e a (j + 1) = iD e a j := by
 unfold iD; rw [cC hj, dV]; simp [h]
def Fw {a : aez} : iD e a (bV (cc e) a.Time).length = iC e a := by unfold iD iC; rw [cj]
def uc (l : List aR) (t : Int) : (bV l t).length ≤ l.length := by unfold bV; rw [aw]; exact gP _ _
def Fy (h : e.aeD.toNat < e.Store.aey.length) : e.Store.aey[e.aeD.toNat] = cc e := by unfold cc; simp [h]
def Ap (hok : aX e = true) : (cc e).length ≤ 4 := by
 have hf := gW hok
 rw [← Fy hf.2.2.2.1]
 exact (mN hf.1).2.2.2.2.1 _ (List.getElem_mem _)
def ud : (cR e k).length = e.aez.length := by unfold cR; rw [aw, kU]
def ue (h : m < (cR e k).length) (h2 : m < (bW e k).length) : (cR e k)[m] = kl (e.Store.aey.length : Int) (bW e k)[m] := List.getElem_map (kl (e.Store.aey.length : Int))
def ZU (hm : m < (cR e k).length) (h : dz (cR e k)[m] = false) : ko e k (m + 1) = ko e k m ++ [(cR e k)[m]] := by
 unfold ko; rw [cC hm, dV]; simp [h]
def ZV (hm : m < (cR e k).length) (h : dz (cR e k)[m] = true) : ko e k (m + 1) = ko e k m := by
 unfold ko; rw [cC hm, dV]; simp [h]
def ZW (hm : m < (cR e k).length) (h : dz (cR e k)[m] = true) : gm e k (m + 1) = gm e k m ++ [nC (cR e k)[m]] := by
 unfold gm; rw [cC hm, dV]; simp [h]
def ZX (hm : m < (cR e k).length) (h : dz (cR e k)[m] = false) : gm e k (m + 1) = gm e k m := by
 unfold gm; rw [cC hm, dV]; simp [h]
def Aq : (ko e k m).length ≤ m := by
 have := gP (fun a => !dz a) ((cR e k).take m)
 rw [bv] at this
 unfold ko; omega
def Ar : (gm e k m).length ≤ m := by
 have := gP dz ((cR e k).take m)
 rw [bv] at this
 unfold gm; rw [aw]; omega
def FC {n : Int} {a : aez} (h : (a.Age + 1).tmod n = 0) : kl n a = ⟨a.aeA, a.Time, a.aeI, a.Age + 1, 0, a.Cap, a.Rows⟩ := by unfold kl; rw [if_pos h]
def FD {n : Int} {a : aez} (h : ¬ (a.Age + 1).tmod n = 0) : kl n a = ⟨a.aeA, a.Time, a.aeI, a.Age + 1, a.Sent, a.Cap, a.Rows⟩ := by unfold kl; rw [if_neg h]
def FE (l : List Int) (x : Int) : (fM l x).length ≤ l.length := gP _ _
def ZY {l : List Int} {x : Int} (hk : k < l.length) (h : ¬ l[k] = x) : fM (l.take (k + 1)) x = fM (l.take k) x ++ [l[k]] := by
 unfold fM; rw [cC hk, dV]; simp [h]
def ZZ {l : List Int} {x : Int} (hk : k < l.length) (h : l[k] = x) : fM (l.take (k + 1)) x = fM (l.take k) x := by
 unfold fM; rw [cC hk, dV]; simp [h]
end
def As {l : List aR} {t : Int} {k : Nat} (hk : k < l.length) (h : dL l[k] t = true) : bV (l.take (k + 1)) t = bV (l.take k) t ++ [fF l[k]] := by
 unfold bV; rw [cC hk, dV]; simp [h]
def FF {l : List aR} {t : Int} {k : Nat} (hk : k < l.length) (h : dL l[k] t = false) : bV (l.take (k + 1)) t = bV (l.take k) t := by
 unfold bV; rw [cC hk, dV]; simp [h]
def aaa (a b : List Row) : dj (a ++ b) = dj a + dj b := by unfold dj; simp; omega
def Sa {e : aA} (hok : aX e = true) : ∀ v ∈ cc e, cf (fF v) = true := by
 intro v hv
 have hf := gW hok
 rw [← Fy hf.2.2.2.1] at hv
 obtain ⟨j, hj, rfl⟩ := List.mem_iff_getElem.1 hv
 have := EE hf.1 hf.2.2.2.1 hj
 unfold dv at this
 rw [aS] at this
 exact this.1
def Sb : ∀ l : List Row, (∀ r ∈ l, cf r = true) → dj l = 4 * l.length
 | [], _ => rfl
 | r :: l, h => by
  have ih := Sb l fun x hx => h x (List.mem_cons_of_mem _ hx)
  have hr : r.Values.length = 3 := by
   have := h r List.mem_cons_self
   simp [cf, aK] at this; omega
  have hw : fJ r = 3 := by simp only [fJ, dE, bf]; omega
  unfold dj at ih ⊢
  rw [List.length_cons, List.map_cons, List.sum_cons, hw]; omega
def Sc {e : aA} (hok : aX e = true) (t : Int) : ∀ r ∈ bV (cc e) t, cf r = true := by
 intro r hr
 unfold bV at hr
 obtain ⟨v, hv, rfl⟩ := List.mem_map.1 hr
 exact Sa hok v (List.mem_filter.1 hv).1
def FG {e : aA} (hok : aX e = true) (a : aez) (j : Nat) : dj (iD e a j) ≤ 16 ∧ (iD e a j).length ≤ 4 := by
 have hl : (iD e a j).length ≤ 4 := by
  have h1 := gP (dN a.aeA) ((bV (cc e) a.Time).take j)
  rw [bv] at h1
  have h2 := uc (cc e) a.Time
  have h3 := Ap hok
  unfold iD; omega
 have hw := Sb (iD e a j) fun r hr => Sc hok a.Time r (List.mem_of_mem_take (List.mem_filter.1 hr).1)
 omega
def aab {e : aA} (hok : aX e = true) (a : aez) : dc (lB e a) ≤ dc a + 16 := by
 have h1 := FG hok a (bV (cc e) a.Time).length
 rw [Fw] at h1
 have h2 := FE a.aeI e.aeD
 unfold lB dc
 simp only [dE, bf, aaa]
 omega
def aac {e : aA} (hok : aX e = true) (k : Nat) : ((bW e k).map dc).sum ≤ (e.aez.map dc).sum + 16 * e.aez.length := by
 unfold bW
 generalize e.aez = l
 induction l with
 | nil => simp
 | cons a l ih =>
  simp only [List.map_cons, List.sum_cons, List.length_cons] at *
  have h1 : dc (kk e ((parts e).take k) a) ≤ dc a + 16 := by
   unfold kk
   split
   ·exact aab hok a
   ·omega
  omega
def aad (n : Int) (a : aez) : dc (kl n a) = dc a := by unfold kl dc; simp only [bf]
def aae (a : aez) : ia (nC a) ≤ dc a := by unfold nC ia dc; simp only [bf]; omega
def Sd : ∀ l : List aez, ((l.filter fun a => !dz a).map dc).sum + (((l.filter dz).map nC).map ia).sum ≤ (l.map dc).sum
 | [] => by simp
 | a :: l => by
  have ih := Sd l
  have hf := aae a
  simp only [List.filter_cons]
  cases h : dz a
  ·simp only [Bool.not_false, if_true, List.map_cons, List.sum_cons, if_neg (by simp : ¬ (false = true))]; omega
  ·simp only [Bool.not_true, if_true, List.map_cons, List.sum_cons, if_neg (by simp : ¬ (false = true))]; omega
def FH : ∀ l : List aez, (l.filter fun a => !dz a).length + (l.filter dz).length = l.length
 | [] => rfl
 | a :: l => by
  have ih := FH l
  simp only [List.filter_cons]
  cases h : dz a <;> simp <;> omega
def aaf {e : aA} {k : Nat} (hk : k ≤ (parts e).length) : ns (ej e k) = 3 * k := by
 have := Ao hk
 simp only [ns, dE, bf]
 omega
def FI {e : aA} (hok : aX e = true) : bp (gN e) ≤ bp e + 200 := by
 have hf := gW hok
 have hp := wD (e := e)
 have h1 := aac hok (parts e).length
 have h2 : ((cR e (parts e).length).map dc).sum = ((bW e (parts e).length).map dc).sum := by
  unfold cR
  rw [List.map_map]
  exact congrArg List.sum (List.map_congr_left fun a _ => aad _ a)
 have h3 := Sd (cR e (parts e).length)
 have h4 := FH (cR e (parts e).length)
 have h5 := ud (e := e) (k := (parts e).length)
 have hr : ko e (parts e).length e.aez.length = (cR e (parts e).length).filter fun a => !dz a := by
  unfold ko; rw [nP (by omega)]
 have hd : gm e (parts e).length e.aez.length = ((cR e (parts e).length).filter dz).map nC := by
  unfold gm; rw [nP (by omega)]
 have hc := aaf (e := e) (Nat.le_refl _)
 have hl : fV (gz e (parts e).length) ≤ fV e.aeL + 25 := by
  unfold gz
  split
  ·omega
  ·unfold fV
   rw [aM, bj, List.sum_append]
   simp only [List.map_cons, List.map_nil, List.sum_cons, List.sum_nil, List.length_cons, List.length_nil, hc]
   omega
 unfold gN Fq bp
 dsimp only
 simp only [bf, fB, fC, hr, hd, aM, bj, List.sum_append, aw] at *
 omega
def FJ (e : aA) : bp (dk e) ≤ bp e := by
 have := EM e.Store (eK e.aez)
 unfold dk bp
 dsimp only
 omega
def aag (e : aA) : bp (cz e) ≤ bp e + 200 := by
 unfold cz
 split
 ·rename_i h
  have h1 := FI (wH h).1
  have h2 := FJ (gN e)
  omega
 ·omega
def aah {e : aA} {k : Nat} (id : Int) : dy (bW e k) id = dy e.aez id := by
 have hq : ∀ a : aez, eh id (kk e ((parts e).take k) a) = eh id a := fun a => by unfold kk; split <;> rfl
 unfold dy bW
 rw [List.any_map, List.findIdx_map]
 simp only [Function.comp_def, hq]
def At {s : Store} {a : aez} (h : fc s a = true) : 0 ≤ a.Sent ∧ a.Sent ≤ 1000 ∧ 0 ≤ a.Age ∧ a.Age ≤ 100000 ∧ a.Rows.length ≤ 1000 ∧ ck a.aeA = true := by
 unfold fc at h
 simp only [aS, aK, decide_eq_true_eq, mG] at h
 exact ⟨by omega, by omega, by omega, by omega, by omega, h.2.1⟩
def Au {e : aA} (h : aX e = true) {k i : Nat} (hi : i < e.aez.length) (h2 : i < (bW e k).length) : 0 ≤ (bW e k)[i].Age ∧ (bW e k)[i].Age ≤ 100000 := by
 have ha := At ((gW h).2.2.2.2.2.2.2.2.2.1 _ (List.getElem_mem hi))
 rw [An h2 hi]
 unfold kk
 split <;> exact ⟨ha.2.2.1, ha.2.2.2.1⟩
def Av {e : aA} (h : aX e = true) (a : aez) : (iC e a).length ≤ 4 := by
 have := (FG h a (bV (cc e) a.Time).length).2
 rwa [Fw] at this
def ff (z : aez × (Nat → Value)) : List PV := [PV.nv (z.2 0) (PV.val (vI z.1.aeA.Id)), PV.nv (z.2 1) (PV.val (vI z.1.aeA.aeE)), PV.nv (z.2 2) (PV.sl .v (z.1.aeA.aeB.map bH)), PV.nv (z.2 3) (PV.sl .v (z.1.aeA.Out.map am)), PV.nv (z.2 4) (PV.val (vI z.1.Time)), PV.nv (z.2 5) (PV.sl .v (z.1.aeI.map am)), PV.nv (z.2 6) (PV.val (vI z.1.Age)), PV.nv (z.2 7) (PV.val (vI z.1.Sent)), PV.nv (z.2 8) (PV.val (vI z.1.Cap)), PV.nv (z.2 9) (PV.sl .v (z.1.Rows.map (bI ab)))]
def aai (z : Row × (Nat → Value)) : List PV := [PV.nv (z.2 0) (PV.val (vI z.1.Id)), PV.nv (z.2 1) (PV.sl .v (z.1.Values.map am))]
def wJ {α : Type} {d : α} {p : α → Bool} {r : α → α → Bool} {l : List α} (h1 : ∀ x ∈ l, p x = true) (h2 : l.Pairwise (fun a b => r a b = true)) : dG d p r l = true := by
 unfold dG jV
 rw [iI]
 intro i hi
 have hi := List.mem_range.1 hi
 rw [eO hi, h1 _ (List.getElem_mem hi), Bool.true_and]
 cases i with
 | zero => rfl
 | succ i =>
  rw [List.pairwise_iff_getElem] at h2
  rw [show i + 1 - 1 = i from rfl, eO (show i < l.length by omega), h2 i (i + 1) (by omega) hi (by omega)]
  simp
def Se {e : aA} (hok : aX e = true) : oO e.aez (parts e) = (e.aez.filter (ew e)).map fun a => a.aeA := by
 rw [pU hok]
 unfold oO gM
 rw [List.map_map]
 refine List.map_congr_left fun a ha => ?_
 have ha := (List.mem_filter.1 ha).1
 obtain ⟨i, hi, rfl⟩ := List.mem_iff_getElem.1 ha
 have hf : dy e.aez e.aez[i].aeA.Id = (i : Int) := by
  refine EK hi ?_ (by unfold eh; simp)
  rw [List.any_eq_false]
  intro b hb
  obtain ⟨j, hj, rfl⟩ := List.mem_iff_getElem.1 hb
  rw [bv] at hj
  intro hc
  unfold eh at hc
  have hc : e.aez[j].aeA.Id = e.aez[i].aeA.Id := by simpa using hc
  have := wI hok (show j < e.aez.length by omega) hi hc
  omega
 show (e.aez.getD (dy e.aez e.aez[i].aeA.Id).toNat ii).aeA = _
 rw [hf]; simp [hi]
def aaj {e : aA} (hok : aX e = true) : dK (oO e.aez (parts e)) = true := by
 have hef := gW hok
 rw [Se hok]
 unfold dK
 have hl := gP (ew e) e.aez
 rw [aS]
 refine ⟨wJ (fun x hx => ?_) ?_, ?_⟩
 ·obtain ⟨a, ha, rfl⟩ := List.mem_map.1 hx
  exact (At (hef.2.2.2.2.2.2.2.2.2.1 _ (List.mem_filter.1 ha).1)).2.2.2.2.2
 ·rw [List.pairwise_map]
  refine ((oW hok).filter _).imp fun {a b} h => ?_
  unfold rt; simpa using h
 ·rw [aw, decide_eq_true_eq]; omega
def aak {e : aA} (hok : aX e = true) {i : Nat} (hi : i < e.aez.length) (h : ew e e.aez[i] = true) : e.aez[i].aeA ∈ oO e.aez (parts e) := by
 rw [Se hok]
 exact List.mem_map.2 ⟨_, List.mem_filter.2 ⟨List.getElem_mem hi, h⟩, rfl⟩
def kp (e : aA) (a : aez) (j : Nat) : List Row := (bV ((cc e).take j) a.Time).filter (dN a.aeA)
def Sf {e : aA} {a : aez} {j : Nat} (hj : j < (cc e).length) (hv : dL (cc e)[j] a.Time = true) (hm : dN a.aeA (fF (cc e)[j]) = true) : kp e a (j + 1) = kp e a j ++ [fF (cc e)[j]] := by
 unfold kp; rw [As hj hv, dV]; simp [hm]
def Aw {e : aA} {a : aez} {j : Nat} (hj : j < (cc e).length) (h : dL (cc e)[j] a.Time = false ∨ dN a.aeA (fF (cc e)[j]) = false) : kp e a (j + 1) = kp e a j := by
 unfold kp
 cases hv : dL (cc e)[j] a.Time with
 | false => rw [FF hj hv]
 | true =>
  rw [hv] at h
  have hm := h.resolve_left (by simp)
  rw [As hj hv, dV]; simp [hm]
def aal {e : aA} {a : aez} : kp e a (cc e).length = iC e a := by unfold kp iC; rw [cj]
def aam {e : aA} {a : aez} {j : Nat} : (kp e a j).length ≤ j := by
 have h1 := gP (dN a.aeA) (bV ((cc e).take j) a.Time)
 have h2 := uc ((cc e).take j) a.Time
 rw [bv] at h2
 unfold kp; omega
def kq (e : aA) (k : Nat) : br := ⟨e.aeD, ((cc e).length : Int), parts e, ((parts e).take k).map (ua e), ((parts e).take k).map (ub e)⟩
def aan {e : aA} {i k : Nat} (hk : k < (parts e).length) (hi : i < e.aez.length) (hf : dy e.aez (parts e)[k] = (i : Int)) : kq e (k + 1) = ⟨e.aeD, ((cc e).length : Int), parts e, (kq e k).aeF ++ [e.aez[i].aeA.aeE], (kq e k).Rows ++ [((iC e e.aez[i]).length : Int)]⟩ := by
 have ha := Fv hi hf
 unfold kq
 rw [cC hk]
 simp only [bj, List.map_cons, List.map_nil, ua, ub, ha]
def aao {e : aA} : kq e (parts e).length = ej e (parts e).length := by unfold kq ej; rw [cj]
def aap {e : aA} {k : Nat} (hk : k ≤ (parts e).length) : (kq e k).aeF.length = k ∧ (kq e k).Rows.length = k := by
 unfold kq
 simp only [aw, bv]
 omega
def aaq (e : aA) (k : Nat) : aA := ⟨e.Store, e.aeD, e.Order, bW e k, e.Done, e.aeL, e.Steps⟩
end
structure aar (s : Store) : Prop where
 l1 : 1 ≤ s.aey.length
 l8 : s.aey.length ≤ 8
 n0 : 0 ≤ s.Now
 n1 : s.Now ≤ 100000
 sm : ∀ g ∈ s.aey, g.length ≤ 4
 vs : ∀ v ∈ bg s, dv s.Now v = true
 ap : (bg s).Pairwise fun a b => fa a b = true
def FK (a b : aR) : fa a b = fa b a := by
 unfold fa
 rw [show (a.Id == b.Id) = (b.Id == a.Id) from by rw [Bool.eq_iff_iff]; simp only [beq_iff_eq]; exact eq_comm]
 rw [Bool.or_comm (_ && _) (_ && _)]
def mg {α : Type} {l : List α} {d : α} {i : Nat} (h : i < l.length) : l.getD i d = l[i] := by
 rw [List.getD_eq_getElem?_getD, List.getElem?_eq_getElem h]; rfl
def kr {s : Store} : bQ s = true ↔ aar s := by
 constructor
 ·intro h
  obtain ⟨h1, h2, h3, h4, h5, h6⟩ := mN h
  refine ⟨h2, h1, h3, h4, h5, fun v hv => ?_, ?_⟩
  ·obtain ⟨i, hi, rfl⟩ := List.mem_iff_getElem.1 hv
   have := h6 i hi
   rwa [mg hi] at this
  ·rw [List.pairwise_iff_getElem]
   intro i j hi hj hij
   unfold bQ md at h
   rw [aS] at h
   have hg := List.all_eq_true.1 h.2 j (List.mem_range.2 hj)
   unfold mc fR at hg
   rw [aS] at hg
   have := List.all_eq_true.1 hg.2 i (List.mem_range.2 hij)
   rw [mg hi, mg hj] at this
   rw [FK]; exact this
 ·intro h
  unfold bQ mM
  have e1 : s.aey.all kN = true := List.all_eq_true.2 fun g hg => by have := h.sm g hg; unfold kN; rw [decide_eq_true_eq]; omega
  have e2 : md s.Now (bg s) (bg s).length = true := by
   unfold md
   refine List.all_eq_true.2 fun i hi => ?_
   have hi := List.mem_range.1 hi
   unfold mc fR
   rw [mg hi, aS]
   refine ⟨h.vs _ (List.getElem_mem hi), List.all_eq_true.2 fun m hm => ?_⟩
   have hm := List.mem_range.1 hm
   have := List.pairwise_iff_getElem.1 h.ap m i (by omega) hi hm
   rw [mg (by omega), FK]; exact this
  have l1 := h.l1; have l8 := h.l8; have n0 := h.n0; have n1 := h.n1
  rw [e1, e2]
  simp only [aK, aS, decide_eq_true_eq, and_true]
  omega
def aas (s : Store) (keep : List Int) (h : bQ s = true) : bg (eJ s keep) = (bg s).filter fun v => gy v keep := by
 rw [wE h]
 unfold bg
 dsimp only
 generalize s.aey = l
 induction l with
 | nil => rfl
 | cons x l ih => rw [List.map_cons, List.flatten_cons, List.flatten_cons, dV, ih]; rfl
def aat {s : Store} (keep : List Int) (h : bQ s = true) : bQ (eJ s keep) = true := by
 have k := kr.1 h
 have e := aas s keep h
 rw [kr]
 have hr := wE (keep := keep) h
 refine ⟨?_, ?_, ?_, ?_, ?_, ?_, ?_⟩
 ·rw [hr]; show 1 ≤ (s.aey.map _).length; rw [aw]; exact k.l1
 ·rw [hr]; show (s.aey.map _).length ≤ 8; rw [aw]; exact k.l8
 ·rw [hr]; exact k.n0
 ·rw [hr]; exact k.n1
 ·rw [hr]
  intro g hg
  obtain ⟨x, hx, rfl⟩ := List.mem_map.1 hg
  exact Nat.le_trans (gP _ _) (k.sm x hx)
 ·rw [e, show (eJ s keep).Now = s.Now by rw [hr]]
  intro v hv
  exact k.vs v (List.mem_filter.1 hv).1
 ·rw [e]; exact k.ap.filter _
def Ax {s : Store} (keep : List Int) : (eJ s keep).aey.length = s.aey.length ∧ (eJ s keep).Now = s.Now := by
 unfold eJ
 split
 ·exact ⟨aw _, rfl⟩
 ·exact ⟨rfl, rfl⟩
def aau {keep : List Int} {t : Int} (ht : t ∈ keep) (l : List aR) : bV (kS keep l) t = bV l t := by
 unfold bV kS
 rw [List.filter_filter]
 congr 1
 refine List.filter_congr fun v _ => ?_
 cases hv : dL v t with
 | false => simp
 | true =>
  have : gy v keep = true := by
   unfold gy
   rw [Bool.or_eq_true]
   exact .inr (List.any_eq_true.2 ⟨t, ht, hv⟩)
  rw [this]; rfl
def Sg {s : Store} {i : Nat} (h : ¬ i < s.aey.length) : fv s i = [] := by
 unfold fv; rw [List.getD_eq_getElem?_getD, List.getElem?_eq_none (by omega)]; rfl
def FL {s : Store} {i : Nat} (h : i < s.aey.length) : fv s i = s.aey[i] := mg h
def aav {s : Store} {keep : List Int} (h : bQ s = true) (i : Nat) : fv (eJ s keep) i = kS keep (fv s i) := by
 rw [wE h]
 by_cases hi : i < s.aey.length
 ·rw [FL (s := ⟨s.aey.map (kS keep), s.Now⟩) (by simpa using hi), FL hi]; simp
 ·rw [Sg (s := ⟨s.aey.map (kS keep), s.Now⟩) (by simpa using hi), Sg hi]; rfl
def FN {s : Store} {keep : List Int} {t : Int} (h : bQ s = true) (ht : t ∈ keep) (i : Nat) : bV (fv (eJ s keep) i) t = bV (fv s i) t := by
 rw [aav h, aau ht]
def FO {n : Int} {v : aR} (h : dv n v = true) : dv (n + 1) v = true := by
 unfold dv at *
 simp only [aS, Bool.or_eq_true, aK, decide_eq_true_eq] at *
 exact ⟨h.1, by omega, by omega⟩
def Ay {α : Type} {l : List α} {i : Nat} {x : α} (h : i < l.length) : l.set i x = l.take i ++ x :: l.drop (i + 1) := by
 rw [List.set_eq_take_append_cons_drop, if_pos h]
def aaw {s : Store} {i k : Nat} (hi : i < s.aey.length) (hk : k < s.aey[i].length) : bg s = ((s.aey.take i).flatten ++ s.aey[i].take k) ++ s.aey[i][k] :: (s.aey[i].drop (k + 1) ++ (s.aey.drop (i + 1)).flatten) := by
 have e1 := zO hi
 have e2 : s.aey[i] = s.aey[i].take k ++ s.aey[i][k] :: s.aey[i].drop (k + 1) := by rw [← List.drop_eq_getElem_cons hk, fg]
 rw [e1]
 unfold dw
 conv => lhs; rw [e2]
 simp only [bu, List.cons_append]
def aax {s : Store} {i k : Nat} {v : aR} {n : Int} (hi : i < s.aey.length) (hk : k < s.aey[i].length) : bg ⟨s.aey.set i (s.aey[i].set k v), n⟩ = ((s.aey.take i).flatten ++ s.aey[i].take k) ++ v :: (s.aey[i].drop (k + 1) ++ (s.aey.drop (i + 1)).flatten) := by
 unfold bg
 dsimp only
 rw [Ay hi, List.flatten_append, List.flatten_cons, Ay hk]
 simp only [bu, List.cons_append]
def aay {L : List (List aR)} {r : Nat} {v : aR} {n : Int} (hr : r < L.length) : (bg ⟨rD L r v, n⟩).Perm (v :: bg ⟨L, n⟩) := by
 unfold bg
 dsimp only
 rw [pW hr, Ay hr, List.flatten_append, List.flatten_cons]
 have e : L.flatten = (L.take r).flatten ++ (L[r] ++ (L.drop (r + 1)).flatten) := by
  rw [← List.flatten_cons, ← List.flatten_append, ← List.drop_eq_getElem_cons hr, fg]
 rw [e]
 have : (L.take r).flatten ++ (L[r] ++ [v] ++ (L.drop (r + 1)).flatten) = ((L.take r).flatten ++ L[r]) ++ v :: (L.drop (r + 1)).flatten := by simp only [bu, List.cons_append, List.nil_append]
 rw [this]
 refine List.perm_middle.trans ?_
 rw [bu]
def FP {id : Int} {v : aR} : gk id v = true ↔ v.Id = id ∧ v.aeJ = -1 := by unfold gk; simp
def aaz {s : Store} {id : Int} (h : ¬ 0 ≤ ci s id) : ∀ v ∈ bg s, v.Id = id → v.aeJ ≠ -1 := by
 intro v hv hid hd
 have hall : s.aey.any (gX id) = true := by
  unfold bg at hv
  obtain ⟨g, hg, hv⟩ := List.mem_flatten.1 hv
  exact List.any_eq_true.2 ⟨g, hg, List.any_eq_true.2 ⟨v, hv, FP.2 ⟨hid, hd⟩⟩⟩
 unfold ci at h
 rw [if_pos hall] at h
 omega
def FQ {a b : aR} (h : fa a b = true) (hid : a.Id = b.Id) : (a.aeJ ≠ -1 ∧ a.aeJ ≤ b.aeN) ∨ (b.aeJ ≠ -1 ∧ b.aeJ ≤ a.aeN) := by
 unfold fa at h
 simp only [hid, beq_self_eq_true, Bool.not_true, Bool.false_or, Bool.or_eq_true, aS, Bool.not_eq_true', beq_eq_false_iff_ne, decide_eq_true_eq] at h
 exact h
def FR {a b : aR} (h : a.Id = b.Id → (a.aeJ ≠ -1 ∧ a.aeJ ≤ b.aeN) ∨ (b.aeJ ≠ -1 ∧ b.aeJ ≤ a.aeN)) : fa a b = true := by
 unfold fa
 by_cases hid : a.Id = b.Id
 ·have := h hid
  simp only [hid, beq_self_eq_true, Bool.not_true, Bool.false_or, Bool.or_eq_true, aS, Bool.not_eq_true', beq_eq_false_iff_ne, decide_eq_true_eq]
  exact this
 ·rw [show (a.Id == b.Id) = false by rw [beq_eq_false_iff_ne]; exact hid]; rfl
def Az {n : Int} {v : aR} (h : dv n v = true) : cf ⟨v.Id, v.Values⟩ = true ∧ 0 ≤ v.aeN ∧ v.aeN ≤ n ∧ (v.aeJ = -1 ∨ (v.aeN + 1 ≤ v.aeJ ∧ v.aeJ ≤ n)) := by
 unfold dv at h
 simp only [aS, Bool.or_eq_true, aK, decide_eq_true_eq] at h
 exact ⟨h.1, h.2.1.1, h.2.1.2, h.2.2⟩
def FS {n : Int} {v : aR} (h : cf ⟨v.Id, v.Values⟩ = true) (h1 : 0 ≤ v.aeN ∧ v.aeN ≤ n) (h2 : v.aeJ = -1 ∨ (v.aeN + 1 ≤ v.aeJ ∧ v.aeJ ≤ n)) : dv n v = true := by
 unfold dv
 simp only [aS, Bool.or_eq_true, aK, decide_eq_true_eq]
 exact ⟨h, h1, h2⟩
def FT : ∀ {a b : aR}, fa a b = true → fa b a = true := fun {a b} h => by rw [FK]; exact h
structure aaA (s : Store) (u : aeC) : Prop where
 vs : ∀ v ∈ bg ⟨cH s u, s.Now + 1⟩, dv (s.Now + 1) v = true
 ap : (bg ⟨cH s u, s.Now + 1⟩).Pairwise fun a b => fa a b = true
 no : ∀ v ∈ bg ⟨cH s u, s.Now + 1⟩, v.Id = u.Row.Id → v.aeJ ≠ -1
def aaB {s : Store} {u : aeC} (h : bQ s = true) : aaA s u := by
 have k := kr.1 h
 by_cases hf : 0 ≤ ci s u.Row.Id
 ·obtain ⟨i, j, hi, hj, h1, h2, ha⟩ := nz hf
  obtain ⟨hid, hdd⟩ := FP.1 ha
  have e1 := aaw hi hj
  have e2 := aax (v := ja (s.Now + 1) s.aey[i][j]) (n := s.Now + 1) hi hj
  have kv := k.vs; have ka := k.ap
  rw [e1] at kv ka
  rw [List.pairwise_append, List.pairwise_cons] at ka
  obtain ⟨ka1, ⟨ka2, ka3⟩, ka4⟩ := ka
  have hv0 := Az (kv s.aey[i][j] (by simp))
  have mem : ∀ v ∈ ((s.aey.take i).flatten ++ s.aey[i].take j) ++ ja (s.Now + 1) s.aey[i][j] :: (s.aey[i].drop (j + 1) ++ (s.aey.drop (i + 1)).flatten), v = ja (s.Now + 1) s.aey[i][j] ∨ v ∈ ((s.aey.take i).flatten ++ s.aey[i].take j) ∨ v ∈ (s.aey[i].drop (j + 1) ++ (s.aey.drop (i + 1)).flatten) := by
   intro v hv
   rcases List.mem_append.1 hv with hv | hv
   ·exact .inr (.inl hv)
   ·rcases List.mem_cons.1 hv with hv | hv
    ·exact .inl hv
    ·exact .inr (.inr hv)
  have hk : ∀ w : aR, fa s.aey[i][j] w = true → fa (ja (s.Now + 1) s.aey[i][j]) w = true := by
   intro w hw
   refine FR fun he => ?_
   have := FQ hw he
   rcases this with ⟨h3, _⟩ | ⟨h3, h4⟩
   ·exact absurd hdd h3
   ·exact .inr ⟨h3, h4⟩
  refine ⟨?_, ?_, ?_⟩
  ·rw [(mf hi hj h1 h2).1, e2]
   intro v hv
   rcases mem v hv with rfl | hv | hv
   ·exact FS hv0.1 ⟨hv0.2.1, by show s.aey[i][j].aeN ≤ s.Now + 1; omega⟩ (.inr ⟨by show s.aey[i][j].aeN + 1 ≤ s.Now + 1; omega, Int.le_refl _⟩)
   ·exact FO (kv v (List.mem_append.2 (.inl hv)))
   ·exact FO (kv v (List.mem_append.2 (.inr (List.mem_cons_of_mem _ hv))))
  ·rw [(mf hi hj h1 h2).1, e2, List.pairwise_append, List.pairwise_cons]
   refine ⟨ka1, ⟨fun w hw => hk w (ka2 w hw), ka3⟩, fun a ha b hb => ?_⟩
   rcases List.mem_cons.1 hb with rfl | hb
   ·exact FT (hk a (FT (ka4 a ha _ List.mem_cons_self)))
   ·exact ka4 a ha b (List.mem_cons_of_mem _ hb)
  ·rw [(mf hi hj h1 h2).1, e2]
   intro v hv hvid
   rcases mem v hv with rfl | hv | hv
   ·show s.Now + 1 ≠ -1
    have := k.n0; omega
   ·have := FQ (ka4 v hv _ List.mem_cons_self) (by rw [hvid, hid])
    rcases this with ⟨h3, _⟩ | ⟨h3, _⟩
    ·exact h3
    ·exact absurd hdd h3
   ·have := FQ (ka2 v hv) (by rw [hvid, hid])
    rcases this with ⟨h3, _⟩ | ⟨h3, _⟩
    ·exact absurd hdd h3
    ·exact h3
 ·have e := (nA hf).1
  have e3 : bg ⟨cH s u, s.Now + 1⟩ = bg s := by unfold bg; dsimp only; rw [e]
  have hn := aaz hf
  refine ⟨?_, ?_, ?_⟩
  ·rw [e3]; intro v hv; exact FO (k.vs v hv)
  ·rw [e3]; exact k.ap
  ·rw [e3]; exact hn
def aaC {u : aeC} (h : gF u = true) (hk : u.Kind = 3) : 0 ≤ u.Field ∧ u.Field ≤ 2 ∧ 0 ≤ u.Value ∧ u.Value ≤ 99 ∧ 0 ≤ u.Row.Id ∧ u.Row.Id ≤ 999 := by
 unfold gF at h
 rw [if_neg (by omega), if_neg (by omega), if_pos hk] at h
 simp only [rf, aS, aK, decide_eq_true_eq] at h
 omega
def aaD {u : aeC} (h : gF u = true) (hk : u.Kind = 1) : cf u.Row = true := by
 unfold gF at h
 rw [if_pos hk] at h
 simp only [aS] at h
 exact h.1
def aaE {u : aeC} (h : gF u = true) : u.Kind = 1 ∨ u.Kind = 2 ∨ u.Kind = 3 := by
 unfold gF at h
 by_cases h1 : u.Kind = 1
 ·exact .inl h1
 ·by_cases h2 : u.Kind = 2
  ·exact .inr (.inl h2)
  ·by_cases h3 : u.Kind = 3
   ·exact .inr (.inr h3)
   ·rw [if_neg h1, if_neg h2, if_neg h3] at h; cases h
def AA {r : Row} : cf r = true ↔ (0 ≤ r.Id ∧ r.Id ≤ 999) ∧ r.Values.length = 3 ∧ ∀ x ∈ r.Values, 0 ≤ x ∧ x ≤ 99 := by
 unfold cf jU
 simp only [aS, aK, decide_eq_true_eq, iI]
 constructor
 ·rintro ⟨h1, h2, h3⟩; exact ⟨h2, by omega, h1⟩
 ·rintro ⟨h1, h2, h3⟩; exact ⟨h3, h1, by omega⟩
def aaF {s : Store} {u : aeC} (h : gZ s u = true) (hk : ¬ u.Kind = 2) : cf ⟨u.Row.Id, il s u⟩ = true := by
 obtain ⟨h1, h2, h3, h4, h5⟩ := oU h
 have k := kr.1 h1
 rcases aaE h2 with k1 | k2 | k3
 ·have hr := aaD h2 k1
  have hf : ¬ 0 ≤ ci s u.Row.Id := fun hc => (h4.1 hc) k1
  unfold il
  rw [if_neg (by omega), (nA hf).2]
  exact hr
 ·exact absurd k2 hk
 ·have hu := aaC h2 k3
  have hf : 0 ≤ ci s u.Row.Id := h4.2 (by omega)
  obtain ⟨i, j, hi, hj, e1, e2, ha⟩ := nz hf
  have hv := (Az (EE h1 hi hj)).1
  rw [AA] at hv
  unfold il
  rw [if_pos k3, (mf hi hj e1 e2).2, AA]
  refine ⟨⟨hu.2.2.2.2.1, hu.2.2.2.2.2⟩, by rw [List.length_set]; exact hv.2.1, fun x hx => ?_⟩
  rcases List.mem_or_eq_of_mem_set hx with hx | rfl
  ·exact hv.2.2 x hx
  ·exact ⟨hu.2.2.1, hu.2.2.2.1⟩
def FU (s : Store) (u : aeC) (h : bQ s = true) : bQ (cQ s u).1 = true := by
 cases ha : gZ s u with
 | false => rw [rE ha]; exact h
 | true =>
  obtain ⟨h1, h2, h3, h4, h5⟩ := oU ha
  have k := kr.1 h
  have hu := aaB (u := u) h
  have hlen := oT s u
  have hsm : ∀ g ∈ cH s u, g.length ≤ 4 := by
   intro g hg
   obtain ⟨i, hi, rfl⟩ := List.mem_iff_getElem.1 hg
   have hi2 : i < s.aey.length := by omega
   rw [zX s u hi hi2]; exact k.sm _ (List.getElem_mem hi2)
  by_cases hk : u.Kind = 2
  ·rw [oS ha hk, kr]
   exact ⟨by dsimp only; rw [hlen]; exact k.l1, by dsimp only; rw [hlen]; exact k.l8, by dsimp only; have := k.n0; omega, by dsimp only; omega, hsm, hu.vs, hu.ap⟩
  ·obtain ⟨r, hr, hrm, hr4⟩ := zV (h5.resolve_left hk)
   have hru : r < (cH s u).length := by omega
   rw [rF ha hk hrm, kr]
   have hp := aay (v := jb s u) (n := s.Now + 1) hru
   have hnv : dv (s.Now + 1) (jb s u) = true := FS (aaF ha hk) ⟨by show 0 ≤ s.Now + 1; have := k.n0; omega, Int.le_refl _⟩ (.inl rfl)
   refine ⟨?_, ?_, by dsimp only; have := k.n0; omega, by dsimp only; omega, ?_, ?_, ?_⟩
   ·dsimp only; rw [pW hru, List.length_set, hlen]; exact k.l1
   ·dsimp only; rw [pW hru, List.length_set, hlen]; exact k.l8
   ·dsimp only
    rw [pW hru]
    intro g hg
    rcases List.mem_or_eq_of_mem_set hg with hg | rfl
    ·exact hsm g hg
    ·have h6 := zX s u hru hr
     rw [aM, h6]; simp; omega
   ·intro v hv
    rcases List.mem_cons.1 (hp.mem_iff.1 hv) with rfl | hv
    ·exact hnv
    ·exact hu.vs v hv
   ·rw [hp.pairwise_iff (fun h => FT h), List.pairwise_cons]
    refine ⟨fun w hw => FR fun he => ?_, hu.ap⟩
    have h6 := hu.no w hw he.symm
    have h7 := Az (hu.vs w hw)
    rcases h7.2.2.2 with h8 | h8
    ·exact absurd h8 h6
    ·exact .inr ⟨h6, h8.2⟩
def aaG {n t : Int} {v : aR} (ha : v.aeJ = -1) (ht : t < n) (hn : n ≠ -1) : dL (ja n v) t = dL v t := by
 unfold dL ja
 dsimp only
 rw [ha, decide_eq_false hn, Bool.false_or, decide_eq_true ht]
 simp
def aaH {s : Store} {u : aeC} (h : bQ s = true) {t : Int} (ht : t ≤ s.Now) (i : Nat) : bV (fv (cQ s u).1 i) t = bV (fv s i) t := by
 cases ha : gZ s u with
 | false => rw [rE ha]
 | true =>
  obtain ⟨h1, h2, h3, h4, h5⟩ := oU ha
  have k := kr.1 h
  have hup : bV (fv ⟨cH s u, s.Now + 1⟩ i) t = bV (fv s i) t := by
   by_cases hf : 0 ≤ ci s u.Row.Id
   ·obtain ⟨i0, j, hi, hj, e1, e2, hal⟩ := nz hf
    rw [(mf hi hj e1 e2).1]
    obtain ⟨_, hdd⟩ := FP.1 hal
    unfold fv
    dsimp only
    by_cases hii : i0 = i
    ·subst hii
     rw [mg (by rw [List.length_set]; exact hi), List.getElem_set_self, mg hi, Ay hj]
     have e3 : s.aey[i0] = s.aey[i0].take j ++ s.aey[i0][j] :: s.aey[i0].drop (j + 1) := by rw [← List.drop_eq_getElem_cons hj, fg]
     conv => rhs; rw [e3]
     have hvk := aaG (n := s.Now + 1) (t := t) hdd (by omega) (by have := k.n0; omega)
     unfold bV
     simp only [dV, List.filter_cons, hvk, bj]
     split <;> rfl
    ·rw [List.getD_eq_getElem?_getD, List.getElem?_set_ne hii, ← List.getD_eq_getElem?_getD]
   ·have e := (nA hf).1
    unfold fv; dsimp only; rw [e]
  by_cases hk : u.Kind = 2
  ·rw [oS ha hk]; exact hup
  ·obtain ⟨r, hr, hrm, hr4⟩ := zV (h5.resolve_left hk)
   have hru : r < (cH s u).length := by rw [oT]; exact hr
   rw [rF ha hk hrm, ← hup]
   unfold fv
   dsimp only
   rw [pW hru]
   by_cases hri : r = i
   ·subst hri
    rw [mg (by rw [List.length_set]; exact hru), List.getElem_set_self, mg hru]
    unfold bV
    rw [dV]
    have : dL (jb s u) t = false := by unfold dL jb; dsimp only; rw [decide_eq_false (by omega)]; rfl
    simp [this]
   ·rw [List.getD_eq_getElem?_getD, List.getElem?_set_ne hri, ← List.getD_eq_getElem?_getD]
section
structure ba where
 b : List Int
 i : Nat
 h : Int
 hb : b.length ≤ 9223372036854775807
def ez (o : Fl) (c : ba) : List PV := [PV.sl o (c.b.map re), PV.val (vI (c.i : Int)), PV.val (vI c.h)]
def AB (code : List Int) : Nat → Int
 | 0 => 10101 + code.length
 | k + 1 => ni (qr (qr (xF (AB code k) 131) (IntKind.i64.wrap (code.getD k 0))) 7) 1073741823
def ax (code : List Int) (hb : code.length ≤ 9223372036854775807) : ba := ⟨code, 0, AB code (min code.length 4000), hb⟩
def pX (h : Int) : Int := qr (xF h 6364136223846793005) 1442695040888963407
def uf (h : Int) : Int := ni (BE (h.fdiv (2 ^ 33)) (h.fdiv (2 ^ 45))) 255
def jc (c : ba) : Int × ba := if c.i < c.b.length then (ni (qr (uf (pX c.h)) (IntKind.i64.wrap (c.b.getD c.i 0))) 255, ⟨c.b, c.i + 1, pX c.h, c.hb⟩) else (uf (pX c.h), ⟨c.b, c.i, pX c.h, c.hb⟩)
def au (c : ba) (n : Int) : Int × ba := if n ≤ 0 then (0, c) else ((jc c).1.tmod n, (jc c).2)
def bR (c : ba) (l : List Int) : Int × ba := (l.getD (au c l.length).1.toNat 0, (au c l.length).2)
def iE (w : Int) (c : ba) : Nat → List Int × ba
 | 0 => ([], c)
 | k + 1 => ((iE w c k).1 ++ [(au (iE w c k).2 w).1], (au (iE w c k).2 w).2)
def gA (c : ba) (id : Int) : Row × ba := (⟨id, (iE (bR c [3, 6, 100]).1 (bR c [3, 6, 100]).2 3).1⟩, (iE (bR c [3, 6, 100]).1 (bR c [3, 6, 100]).2 3).2)
structure Sh where
 id : Int
 l : List Row
 c : ba
def cX (id : Int) (c : ba) : Nat → Sh
 | 0 => ⟨id, [], c⟩
 | k + 1 => ⟨(cX id c k).id + 1 + (au (gA (cX id c k).c (cX id c k).id).2 3).1, (cX id c k).l ++ [(gA (cX id c k).c (cX id c k).id).1], (au (gA (cX id c k).c (cX id c k).id).2 3).2⟩
def AC (c : ba) (most : Int) : Sh := cX (au c 3).1 (au (au c 3).2 (most + 1)).2 (au (au c 3).2 (most + 1)).1.toNat
def mQ (c : ba) (most : Int) : List Row × ba := ((AC c most).l, (AC c most).c)
section
variable {c : ba} {n w id : Int} {k : Nat} {l : List Int}
def aaI (h : c.i < c.b.length) : jc c = (ni (qr (uf (pX c.h)) (IntKind.i64.wrap (c.b.getD c.i 0))) 255, ⟨c.b, c.i + 1, pX c.h, c.hb⟩) := if_pos h
def aaJ (h : ¬ c.i < c.b.length) : jc c = (uf (pX c.h), ⟨c.b, c.i, pX c.h, c.hb⟩) := if_neg h
def aaK (h : Int) : 0 ≤ uf h ∧ uf h ≤ 255 := HX (m := 255) (by decide)
def aaL (c : ba) : 0 ≤ (jc c).1 ∧ (jc c).1 ≤ 255 := by
 unfold jc
 split
 ·exact HX (m := 255) (by decide)
 ·exact aaK _
def Si (h : n ≤ 0) : au c n = (0, c) := if_pos h
def FV (h : 0 < n) : au c n = ((jc c).1.tmod n, (jc c).2) := if_neg (by omega)
def dS (c : ba) (n : Int) : 0 ≤ (au c n).1 := by
 by_cases h : n ≤ 0
 ·rw [Si h]; exact Int.le_refl _
 ·rw [FV (by omega)]; exact Int.tmod_nonneg n (aaL c).1
def eA (c : ba) (h : 0 < n) : (au c n).1 < n := by
 rw [FV h]; exact Int.tmod_lt_of_pos _ h
def AD (c : ba) (h : 0 < l.length) : (bR c l).1 ∈ l := by
 have h1 := dS c (l.length : Int)
 have h2 := eA c (n := (l.length : Int)) (by omega)
 have h3 : (au c (l.length : Int)).1.toNat < l.length := by omega
 show l.getD _ 0 ∈ l
 rw [List.getD_eq_getElem?_getD, List.getElem?_eq_getElem h3]
 exact List.getElem_mem h3
def aaM (c : ba) : 0 ≤ (bR c [3, 6, 100]).1 ∧ (bR c [3, 6, 100]).1 ≤ 100 := by
 have h := AD c (l := [3, 6, 100]) (by decide)
 simp at h; omega
def ug : ((iE w c k).1).length = k := by
 induction k with
 | zero => rfl
 | succ k ih => rw [iE, aM, ih]; rfl
def Sj (c : ba) (id : Int) : fJ (gA c id).1 = 3 := by
 unfold gA fJ
 simp only [dE, ug, bf]
def Sk (h : 0 ≤ id ∧ id ≤ 2) : 0 ≤ (cX id c k).id ∧ (cX id c k).id ≤ 3 * k + 2 := by
 induction k with
 | zero => exact ⟨h.1, by rw [cX]; dsimp only; omega⟩
 | succ k ih =>
  rw [cX]
  have h1 := dS (gA (cX id c k).c (cX id c k).id).2 3
  have h2 := eA (gA (cX id c k).c (cX id c k).id).2 (n := 3) (by decide)
  dsimp only; omega
def FW : (cX id c k).l.length = k := by
 induction k with
 | zero => rfl
 | succ k ih => rw [cX]; dsimp only; rw [aM, ih]; rfl
def aaN : ((cX id c k).l.map fJ).sum = 3 * k := by
 induction k with
 | zero => rfl
 | succ k ih =>
  rw [cX]; dsimp only
  rw [bj, List.sum_append, ih, List.map_cons, List.map_nil, List.sum_cons, List.sum_nil, Sj]; omega
def aaO (c : ba) {most : Int} (h : 0 ≤ most) : (dj (mQ c most).1 : Int) ≤ 4 * most := by
 have h1 := dS (au c 3).2 (most + 1)
 have h2 := eA (au c 3).2 (n := most + 1) (by omega)
 have h3 := FW (id := (au c 3).1) (c := (au (au c 3).2 (most + 1)).2) (k := (au (au c 3).2 (most + 1)).1.toNat)
 have h4 := aaN (id := (au c 3).1) (c := (au (au c 3).2 (most + 1)).2) (k := (au (au c 3).2 (most + 1)).1.toNat)
 unfold dj mQ AC
 dsimp only
 rw [h3, h4]; omega
end
end
structure oX where
 l : List gT
 c : ba
@[reducible] def aex (w : Int) (c : ba) : ba := (au c 2).2
@[reducible] def nD (w : Int) (c : ba) : Int := (au (au c 2).2 w).1
@[reducible] def wK (w : Int) (c : ba) : Int := min 99 (nD w c + (au (au (au c 2).2 w).2 w).1)
@[reducible] def uh (w : Int) (c : ba) : ba := (au (au (au c 2).2 w).2 w).2
def nE (w : Int) (f : Int) (s : oX) : oX :=
 if (au s.c 2).1 = 0 then
  ⟨s.l ++ [⟨f, nD w s.c, if (au (uh w s.c) 3).1 = 0 then nD w s.c else wK w s.c⟩], (au (uh w s.c) 3).2⟩
 else ⟨s.l, (au s.c 2).2⟩
def aaP {w f : Int} {s : oX} (h : (au s.c 2).1 = 0) (h2 : (au (uh w s.c) 3).1 = 0) : nE w f s = ⟨s.l ++ [⟨f, nD w s.c, nD w s.c⟩], (au (uh w s.c) 3).2⟩ := by unfold nE; rw [if_pos h, if_pos h2]
def aaQ {w f : Int} {s : oX} (h : (au s.c 2).1 = 0) (h2 : ¬ (au (uh w s.c) 3).1 = 0) : nE w f s = ⟨s.l ++ [⟨f, nD w s.c, wK w s.c⟩], (au (uh w s.c) 3).2⟩ := by unfold nE; rw [if_pos h, if_neg h2]
def aaR {w f : Int} {s : oX} (h : ¬ (au s.c 2).1 = 0) : nE w f s = ⟨s.l, (au s.c 2).2⟩ := by unfold nE; rw [if_neg h]
def eL (w : Int) (s : oX) : Nat → oX
 | 0 => s
 | k + 1 => nE w (k : Int) (eL w s k)
def AE {w : Int} {s : oX} : ∀ k, (eL w s k).l.length ≤ s.l.length + k
 | 0 => Nat.le_refl _
 | k + 1 => by
  have ih := AE (w := w) (s := s) k
  show (nE w (k : Int) (eL w s k)).l.length ≤ _
  unfold nE
  split
  ·simp only [aM, List.length_cons, List.length_nil]; omega
  ·dsimp only; omega
@[reducible] def rH (c : ba) : Int × ba := bR (au c 4).2 [3, 6, 100]
def nF (c : ba) : oX := eL (rH c).1 ⟨[], (rH c).2⟩ 3
def iF (c : ba) : Int × ba := au (nF c).c 3
def ui (c : ba) : List Int × ba := iE 3 (iF c).2 (1 + (iF c).1).toNat
def jB (c : ba) (id : Int) : aeA × ba := (⟨id, (au c 4).1, (nF c).l, (ui c).1⟩, (ui c).2)
def FX (c : ba) : 0 ≤ (iF c).1 ∧ (iF c).1 ≤ 2 := by
 have h1 := dS (nF c).c 3
 have h2 := eA (nF c).c (n := 3) (by decide)
 unfold iF; omega
def Sl (c : ba) (id : Int) : eZ (jB c id).1 ≤ 6 := by
 have h1 := AE (w := (rH c).1) (s := ⟨[], (rH c).2⟩) 3
 have h2 := FX c
 have h3 : (ui c).1.length = (1 + (iF c).1).toNat := ug
 have hc : ∀ l : List gT, (l.map wn).sum = 0 := by
  intro l
  induction l with
  | nil => rfl
  | cons a c ih => rw [List.map_cons, List.sum_cons, ih]; rfl
 unfold jB eZ tO
 simp only [dE, bf, hc]
 have : (nF c).l.length ≤ 0 + 3 := h1
 omega
section
attribute [local irreducible] au jc
def aaS {α : Type} {d : α} {p : α → Bool} {r : α → α → Bool} {l : List α} {x : α} (h : dG d p r l = true) (hx : p x = true) (hr : ∀ y ∈ l, r y x = true) : dG d p r (l ++ [x]) = true := by
 unfold dG jV at h ⊢
 rw [iI] at h ⊢
 intro i hi
 have hi := List.mem_range.1 hi
 rw [aM] at hi
 have hi : i < l.length + 1 := hi
 by_cases hl : i < l.length
 ·have h1 := iz.1 (h i (List.mem_range.2 hl))
  have e : ∀ j, j < l.length → (l ++ [x]).getD j d = l.getD j d := fun j hj => by
   rw [List.getD_eq_getElem?_getD, List.getElem?_append_left hj, List.getD_eq_getElem?_getD]
  refine iz.2 ⟨by rw [e i hl]; exact h1.1, ?_⟩
  rcases h1.2 with h2 | h2
  ·exact .inl h2
  ·rcases Nat.eq_zero_or_pos i with h0 | h0
   ·exact .inl h0
   ·right; rw [e i hl, e (i - 1) (by omega)]; exact h2
 ·have hil : i = l.length := by omega
  subst hil
  have e : (l ++ [x]).getD l.length d = x := by simp
  refine iz.2 ⟨by rw [e]; exact hx, ?_⟩
  rcases Nat.eq_zero_or_pos l.length with h0 | h0
  ·exact .inl h0
  ·right
   rw [e, List.getD_eq_getElem?_getD, List.getElem?_append_left (by omega), List.getElem?_eq_getElem (show l.length - 1 < l.length by omega)]
   exact hr _ (List.getElem_mem _)
def FY {w : Int} {c : ba} (hw : 0 < w) : ∀ {k : Nat}, ∀ x ∈ (iE w c k).1, 0 ≤ x ∧ x < w
 | 0, x, h => nomatch h
 | k + 1, x, h => by
  rw [iE] at h
  rcases List.mem_append.1 h with h | h
  ·exact FY hw x h
  ·simp at h; subst h
   exact ⟨dS _ _, eA _ hw⟩
def Sm (c : ba) : 0 < (bR c [3, 6, 100]).1 ∧ (bR c [3, 6, 100]).1 ≤ 100 := by
 have h := AD c (l := [3, 6, 100]) (by decide)
 simp at h; omega
def aaT {c : ba} {id : Int} (h : 0 ≤ id ∧ id ≤ 999) : cf (gA c id).1 = true := by
 have hw := Sm c
 unfold cf gA
 simp only [aS, iI, decide_eq_true_eq]
 refine ⟨fun x hx => ?_, oC.2 h, by rw [ug]; rfl⟩
 have := FY hw.1 x hx
 exact oC.2 (by omega)
def Sn {w : Int} (hw : 0 < w ∧ w ≤ 100) (c : ba) : ∀ {k : Nat}, k ≤ 3 → dG ⟨0, 0, 0⟩ kF lR (eL w ⟨[], c⟩ k).l = true ∧ ∀ y ∈ (eL w ⟨[], c⟩ k).l, y.Field < (k : Int)
 | 0, _ => ⟨rfl, fun y h => nomatch h⟩
 | k + 1, hk => by
  have ih := Sn hw c (k := k) (by omega)
  rw [eL]
  unfold nE
  split
  ·have h1 : 0 ≤ nD w (eL w ⟨[], c⟩ k).c := dS _ _
   have h2 : nD w (eL w ⟨[], c⟩ k).c < w := eA _ hw.1
   have h3 := dS (au (au (eL w ⟨[], c⟩ k).c 2).2 w).2 w
   have h4 : nD w (eL w ⟨[], c⟩ k).c ≤ wK w (eL w ⟨[], c⟩ k).c ∧ wK w (eL w ⟨[], c⟩ k).c ≤ 99 := by
    show _ ≤ min 99 (_ + _) ∧ min 99 (_ + _) ≤ 99
    omega
   refine ⟨aaS ih.1 ?_ (fun y hy => ?_), fun y hy => ?_⟩
   ·unfold kF
    generalize nD w (eL w ⟨[], c⟩ k).c = lo at h1 h2 h4
    generalize wK w (eL w ⟨[], c⟩ k).c = mi at h4
    simp only [aS, aK, decide_eq_true_eq]
    split <;> omega
   ·have := ih.2 y hy
    unfold lR
    simpa using this
   ·rcases List.mem_append.1 hy with hy | hy
    ·have := ih.2 y hy; omega
    ·simp at hy; subst hy; dsimp only; omega
  ·exact ⟨ih.1, fun y hy => by have := ih.2 y hy; omega⟩
def aaU {c : ba} {id : Int} (h : 0 ≤ id ∧ id ≤ 23) : ck (jB c id).1 = true := by
 have hw := Sm (au c 4).2
 have hc := Sn hw (rH c).2 (k := 3) (by omega)
 have hl := AE (w := (rH c).1) (s := ⟨[], (rH c).2⟩) 3
 have hn := FX c
 have h1 := dS c 4
 have h2 := eA c (n := 4) (by decide)
 have hv : (ui c).1.length = (1 + (iF c).1).toNat := ug
 unfold ck ls lS jB
 simp only [aS, iI, decide_eq_true_eq]
 refine ⟨⟨oC.2 h, oC.2 (by omega), ?_⟩, hc.1, fun x hx => ?_, ?_⟩
 ·have : (nF c).l.length ≤ 0 + 3 := hl
  omega
 ·have := FY (w := 3) (by decide) x hx
  exact oC.2 (by omega)
 ·rw [hv]; exact oC.2 (by omega)
end
def pY : Row := ⟨0, []⟩
def pZ (a b : Row) : Bool := decide (a.Id < b.Id)
def io (l : List Row) : Bool := dG pY cf pZ l && decide ((l.length : Int) ≤ 32)
def uj (r : Row) : aR := ⟨r.Id, r.Values, 0, -1⟩
def nG (rows : List Row) (n i k : Nat) : List aR := (List.range k).map fun j => uj (rows.getD (i + j * n) pY)
def nH (len n i : Nat) : Nat := (len - i + (n - 1)) / n
def nI (rows : List Row) (n i : Nat) : List aR := nG rows n i (nH rows.length n i)
def mh (rows : List Row) (n k : Nat) : List (List aR) := (List.range k).map (nI rows n)
def mR (rows : List Row) (n : Int) : Bool := (io rows && aK n 1 8) && decide ((rows.length : Int) ≤ n * 4)
def rI (rows : List Row) (n : Int) : Store × Bool := if mR rows n then (⟨mh rows n.toNat n.toNat, 0⟩, true) else (⟨[], 0⟩, false)
def So {rows : List Row} {n : Int} (h : mR rows n = false) : rI rows n = (⟨[], 0⟩, false) := if_neg (by rw [h]; simp)
def FZ {rows : List Row} {n : Int} (h : mR rows n = true) : rI rows n = (⟨mh rows n.toNat n.toNat, 0⟩, true) := if_pos h
def Ga {rows : List Row} {n : Int} (h : mR rows n = true) : io rows = true ∧ (1 ≤ n ∧ n ≤ 8) ∧ (rows.length : Int) ≤ n * 4 := by
 unfold mR at h
 simp only [aS, aK, decide_eq_true_eq] at h
 exact ⟨h.1.1, h.1.2, h.2⟩
def wL {len n i k : Nat} (hn : 0 < n) (h : i ≤ len) : i + k * n < len ↔ k < nH len n i := by
 unfold nH
 rw [Nat.lt_iff_add_one_le (m := k), Nat.le_div_iff_mul_le hn, Nat.add_mul, Nat.one_mul]
 omega
def Gb {len n i : Nat} (hn : 0 < n) (h : len ≤ i) : nH len n i = 0 := by
 unfold nH
 exact Nat.div_eq_of_lt (by omega)
def aaV {rows : List Row} {n i k : Nat} : nG rows n i (k + 1) = nG rows n i k ++ [uj (rows.getD (i + k * n) pY)] := by
 unfold nG; rw [List.range_succ, bj]; rfl
def Gc {rows : List Row} {n i k : Nat} : (nG rows n i k).length = k := by unfold nG; rw [aw, List.length_range]
def aaW {rows : List Row} {n k : Nat} : mh rows n (k + 1) = mh rows n k ++ [nI rows n k] := by
 unfold mh; rw [List.range_succ, bj]; rfl
def Gd {rows : List Row} {n k : Nat} : (mh rows n k).length = k := by unfold mh; rw [aw, List.length_range]
def aaX {l : List Row} (h : io l = true) : l.length ≤ 32 := by
 unfold io at h
 rw [aS, decide_eq_true_eq] at h
 omega
def Sp {l : List Row} (h : io l = true) {k : Nat} (hk : k < l.length) : cf l[k] = true := by
 unfold io at h
 rw [aS] at h
 exact wt h.1 hk
def Sq {l : List Row} (h : io l = true) : ∀ (i j : Nat) (hj : j < l.length) (hij : i < j), l[i].Id < l[j].Id := by
 have h := h
 unfold io at h
 rw [aS] at h
 have step : ∀ i (hi : i + 1 < l.length), l[i].Id < l[i + 1].Id := by
  intro i hi
  have := List.all_eq_true.1 h.1 (i + 1) (List.mem_range.2 hi)
  rw [iz, show i + 1 - 1 = i from rfl, eO hi, eO (show i < l.length by omega)] at this
  rcases this.2 with h0 | h0
  ·omega
  ·unfold pZ at h0; simpa using h0
 intro i j hj hij
 induction j with
 | zero => omega
 | succ j ih =>
  by_cases he : i = j
  ·subst he; exact step i hj
  ·have h1 := ih (by omega) (by omega)
   have h2 := step j hj
   omega
def Sr {rows : List Row} {n i : Nat} (hn : 0 < n) (hl : rows.length ≤ n * 4) : (nI rows n i).length ≤ 4 := by
 unfold nI
 rw [Gc]
 unfold nH
 refine Nat.le_of_lt_succ ?_
 rw [Nat.div_lt_iff_lt_mul hn]
 have : (4 + 1) * n = n * 4 + n := by rw [Nat.add_mul, Nat.mul_comm]; omega
 show _ < (4 + 1) * n
 rw [this]; omega
def Ge {rows : List Row} {n i : Nat} (hn : 0 < n) {v : aR} (hv : v ∈ nI rows n i) : ∃ j, ∃ h : i + j * n < rows.length, v = uj rows[i + j * n] := by
 by_cases hi : i ≤ rows.length
 ·unfold nI nG at hv
  obtain ⟨j, hj, rfl⟩ := List.mem_map.1 hv
  have hj := (wL hn hi).2 (List.mem_range.1 hj)
  exact ⟨j, hj, by rw [eO hj]⟩
 ·unfold nI at hv
  rw [Gb hn (by omega)] at hv
  simp [nG] at hv
def aaY {rows : List Row} {n : Int} (h : mR rows n = true) : bQ (rI rows n).1 = true := by
 obtain ⟨h1, h2, h3⟩ := Ga h
 rw [FZ h, kr]
 have hn : 0 < n.toNat := by omega
 have mem : ∀ v ∈ bg ⟨mh rows n.toNat n.toNat, 0⟩, ∃ i, ∃ hi : i < rows.length, v = uj rows[i] := by
  intro v hv
  unfold bg mh at hv
  obtain ⟨g, hg, hv⟩ := List.mem_flatten.1 hv
  obtain ⟨i, _, rfl⟩ := List.mem_map.1 hg
  obtain ⟨j, hj, rfl⟩ := Ge hn hv
  exact ⟨_, hj, rfl⟩
 have apart : ∀ i j (hi : i < rows.length) (hj : j < rows.length), i ≠ j → fa (uj rows[i]) (uj rows[j]) = true := by
  intro i j hi hj hij
  refine FR fun he => ?_
  exfalso
  have he : rows[i].Id = rows[j].Id := he
  rcases Nat.lt_or_gt_of_ne hij with k | k
  ·have := Sq h1 i j hj k; omega
  ·have := Sq h1 j i hi k; omega
 refine ⟨by dsimp only; rw [Gd]; omega, by dsimp only; rw [Gd]; omega, Int.le_refl 0, by show (0 : Int) ≤ 100000; decide, fun g hg => ?_, fun v hv => ?_, ?_⟩
 ·unfold mh at hg
  obtain ⟨i, _, rfl⟩ := List.mem_map.1 hg
  exact Sr hn (by omega)
 ·obtain ⟨i, hi, rfl⟩ := mem v hv
  exact FS (Sp h1 hi) ⟨Int.le_refl 0, Int.le_refl 0⟩ (.inl rfl)
 ·unfold bg mh
  rw [List.pairwise_flatten, List.pairwise_map]
  constructor
  ·intro g hg
   obtain ⟨i, hi, rfl⟩ := List.mem_map.1 hg
   have hi := List.mem_range.1 hi
   unfold nI nG
   by_cases hil : i ≤ rows.length
   ·rw [List.pairwise_map]
    refine List.Pairwise.imp_of_mem ?_ List.pairwise_lt_range
    intro a b ha hb hab
    have ha := (wL hn hil).2 (List.mem_range.1 ha)
    have hb := (wL hn hil).2 (List.mem_range.1 hb)
    rw [eO ha, eO hb]
    refine apart _ _ ha hb ?_
    have := Nat.mul_lt_mul_of_pos_right hab hn
    omega
   ·rw [Gb hn (by omega)]; simp
  ·refine List.Pairwise.imp_of_mem ?_ List.pairwise_lt_range
   intro a b ha hb hab v hv w hw
   have ha := List.mem_range.1 ha
   have hb := List.mem_range.1 hb
   obtain ⟨j, hj, rfl⟩ := Ge hn hv
   obtain ⟨k, hk, rfl⟩ := Ge hn hw
   refine apart _ _ hj hk ?_
   intro he
   have := congrArg (· % n.toNat) he
   simp only [Nat.add_mul_mod_self_right] at this
   rw [Nat.mod_eq_of_lt ha, Nat.mod_eq_of_lt hb] at this
   omega
def nJ (c : ba) (s : Store) : Int × ba :=
 if (bg s).length = 0 then ((au c 12).1, (au c 12).2)
 else if (au (au c 12).2 4).1 = 0 then ((au c 12).1, (au (au c 12).2 4).2)
 else (((bg s).getD (au (au (au c 12).2 4).2 (bg s).length).1.toNat v0).Id, (au (au (au c 12).2 4).2 (bg s).length).2)
def cI (c : ba) (s : Store) : Int × ba := au (nJ c s).2 3
def fG (c : ba) (s : Store) : aeC × ba :=
 if (cI c s).1 = 0 then (⟨1, (gA (au (cI c s).2 20).2 (au (cI c s).2 20).1).1, 0, 0⟩, (gA (au (cI c s).2 20).2 (au (cI c s).2 20).1).2)
 else if (cI c s).1 = 1 then (⟨2, ⟨(nJ c s).1, []⟩, 0, 0⟩, (cI c s).2)
 else (⟨3, ⟨(nJ c s).1, []⟩, (au (cI c s).2 3).1, (au (au (cI c s).2 3).2 6).1⟩, (au (au (cI c s).2 3).2 6).2)
def aaZ {c : ba} {s : Store} (h : (bg s).length = 0) : nJ c s = ((au c 12).1, (au c 12).2) := if_pos h
def aa0 {c : ba} {s : Store} (h : ¬ (bg s).length = 0) (h2 : (au (au c 12).2 4).1 = 0) : nJ c s = ((au c 12).1, (au (au c 12).2 4).2) := by unfold nJ; rw [if_neg h, if_pos h2]
def aa1 {c : ba} {s : Store} (h : ¬ (bg s).length = 0) (h2 : ¬ (au (au c 12).2 4).1 = 0) : nJ c s = (((bg s).getD (au (au (au c 12).2 4).2 (bg s).length).1.toNat v0).Id, (au (au (au c 12).2 4).2 (bg s).length).2) := by unfold nJ; rw [if_neg h, if_neg h2]
def Ss {c : ba} {s : Store} (h : (cI c s).1 = 0) : fG c s = (⟨1, (gA (au (cI c s).2 20).2 (au (cI c s).2 20).1).1, 0, 0⟩, (gA (au (cI c s).2 20).2 (au (cI c s).2 20).1).2) := if_pos h
def Su {c : ba} {s : Store} (h : ¬ (cI c s).1 = 0) (h2 : (cI c s).1 = 1) : fG c s = (⟨2, ⟨(nJ c s).1, []⟩, 0, 0⟩, (cI c s).2) := by unfold fG; rw [if_neg h, if_pos h2]
def Sv {c : ba} {s : Store} (h : ¬ (cI c s).1 = 0) (h2 : ¬ (cI c s).1 = 1) : fG c s = (⟨3, ⟨(nJ c s).1, []⟩, (au (cI c s).2 3).1, (au (au (cI c s).2 3).2 6).1⟩, (au (au (cI c s).2 3).2 6).2) := by unfold fG; rw [if_neg h, if_neg h2]
def Sw (c : ba) (s : Store) : lp (fG c s).1 ≤ 3 := by
 unfold fG
 split
 ·have := Sj (au (cI c s).2 20).2 (au (cI c s).2 20).1
  unfold lp; dsimp only; simp only [bf]; omega
 ·split <;> (unfold lp fJ; simp only [dE, bf]; decide)
structure rJ where
 s : Store
 c : ba
def aa2 (x : rJ) : rJ := ⟨(cQ x.s (fG x.c x.s).1).1, (fG x.c x.s).2⟩
def mS (x : rJ) : Nat → rJ
 | 0 => x
 | k + 1 => aa2 (mS x k)
def mj (c : ba) : List Row × ba := mQ c 7
def mT (c : ba) : rJ := ⟨(rI (mj c).1 (2 + (au (mj c).2 3).1)).1, (au (au (mj c).2 3).2 6).2⟩
def oY (c : ba) : Int := (au (au (mj c).2 3).2 6).1
def jC (c : ba) : rJ := mS (mT c) (oY c).toNat
def Sx {c : ba} {id : Int} (h : 0 ≤ id ∧ id ≤ 2) : ∀ {k : Nat}, k ≤ 300 → (∀ r ∈ (cX id c k).l, cf r = true ∧ r.Id < (cX id c k).id) ∧ (cX id c k).l.Pairwise fun a b => a.Id < b.Id
 | 0, _ => ⟨fun r hr => by simp [cX] at hr, List.Pairwise.nil⟩
 | k + 1, hk => by
  obtain ⟨h1, h2⟩ := Sx (c := c) h (k := k) (by omega)
  have hid := Sk (c := c) (k := k) h
  have hb := dS (gA (cX id c k).c (cX id c k).id).2 3
  have hr := aaT (c := (cX id c k).c) (id := (cX id c k).id) ⟨hid.1, by omega⟩
  have hri : (gA (cX id c k).c (cX id c k).id).1.Id = (cX id c k).id := rfl
  rw [cX]
  dsimp only
  refine ⟨fun r hr2 => ?_, ?_⟩
  ·rcases List.mem_append.1 hr2 with hr2 | hr2
   ·have := h1 r hr2; exact ⟨this.1, by omega⟩
   ·rw [List.mem_singleton.1 hr2]; exact ⟨hr, by omega⟩
  ·rw [List.pairwise_append]
   refine ⟨h2, by simp, fun a ha b hb2 => ?_⟩
   rw [List.mem_singleton.1 hb2, hri]
   exact (h1 a ha).2
def aa3 {l : List Row} (h1 : ∀ r ∈ l, cf r = true) (h2 : l.Pairwise fun a b => a.Id < b.Id) (h3 : l.length ≤ 32) : io l = true := by
 unfold io
 rw [wJ h1 (h2.imp fun {a b} k => by unfold pZ; simpa using k), Bool.true_and, decide_eq_true_eq]
 omega
def aa4 (c : ba) {most : Int} (h : 0 ≤ most ∧ most ≤ 32) : io (mQ c most).1 = true ∧ ((mQ c most).1.length : Int) ≤ most := by
 have a1 := dS c 3
 have a2 := eA c (n := 3) (by decide)
 have b1 := dS (au c 3).2 (most + 1)
 have b2 := eA (au c 3).2 (n := most + 1) (by omega)
 have k := Sx (c := (au (au c 3).2 (most + 1)).2) (id := (au c 3).1) ⟨a1, by omega⟩ (k := (au (au c 3).2 (most + 1)).1.toNat) (by omega)
 have hl := FW (id := (au c 3).1) (c := (au (au c 3).2 (most + 1)).2) (k := (au (au c 3).2 (most + 1)).1.toNat)
 unfold mQ AC
 dsimp only
 exact ⟨aa3 (fun r hr => (k.1 r hr).1) k.2 (by omega), by omega⟩
def aa5 (c : ba) : mR (mj c).1 (2 + (au (mj c).2 3).1) = true := by
 have h := aa4 c (most := 7) (by decide)
 have b1 := dS (mj c).2 3
 have b2 := eA (mj c).2 (n := 3) (by decide)
 have hl : ((mj c).1.length : Int) ≤ 7 := h.2
 have ha : io (mj c).1 = true := h.1
 unfold mR
 rw [ha]
 simp only [aK, Bool.true_and, aS, decide_eq_true_eq]
 omega
def Sy (c : ba) : bQ (mT c).s = true := aaY (aa5 c)
def Gf {x : rJ} (h : bQ x.s = true) : ∀ k, bQ (mS x k).s = true
 | 0 => h
 | k + 1 => FU _ _ (Gf h k)
def Gg (c : ba) : bQ (jC c).s = true := Gf (Sy c) _
def rL {s : Store} (h : bQ s = true) : cB s ≤ 200 := by
 have k := kr.1 h
 have hv : ∀ g ∈ s.aey, co g ≤ 16 := by
  intro g hg
  have h4 := k.sm g hg
  have : ∀ l : List aR, (∀ v ∈ l, cw v = 3) → (l.map cw).sum = 3 * l.length := by
   intro l
   induction l with
   | nil => intro _; rfl
   | cons v l ih =>
    intro hl
    rw [List.map_cons, List.sum_cons, hl v List.mem_cons_self, ih fun w hw => hl w (List.mem_cons_of_mem _ hw), List.length_cons]; omega
  have h3 := this g fun v hv => by
   have := (AA.1 (Az (k.vs v (List.mem_flatten.2 ⟨g, hg, hv⟩))).1).2.1
   have this : v.Values.length = 3 := this
   unfold cw; simp only [dE, bf]; omega
  unfold co; omega
 have hs : (s.aey.map co).sum ≤ 16 * s.aey.length := by
  generalize s.aey = L at hv
  induction L with
  | nil => simp
  | cons g L ih =>
   have h1 := hv g List.mem_cons_self
   have h2 := ih fun x hx => hv x (List.mem_cons_of_mem _ hx)
   rw [List.map_cons, List.sum_cons, List.length_cons]; omega
 have l8 := k.l8
 unfold cB fW
 simp only [bf]; omega
def kt (n : Int) : Nat := (min (max n 0) 200).toNat
def Gh (n : Int) : kt n ≤ 200 := by unfold kt; omega
def iG (e : aA) : Nat → aA
 | 0 => e
 | k + 1 => cz (iG e k)
def gB (e : aA) (n : Int) : aA := iG e (kt n)
def AF (e : aA) : ∀ k : Nat, bp (iG e k) ≤ bp e + 200 * k
 | 0 => by rw [iG]; omega
 | k + 1 => by
  have h1 := AF e k
  have h3 := aag (iG e k)
  rw [iG]; omega
def aa6 (e : aA) (n : Int) : bp (gB e n) ≤ bp e + 40000 := by
 have h1 := AF e (kt n)
 have h2 := Gh n
 unfold gB; omega
section
def lC (k : Nat) : List Int := (List.range k).map fun i : Nat => (i : Int)
def aa7 (k : Nat) : lC (k + 1) = lC k ++ [(k : Int)] := by simp [lC, List.range_succ]
def wM (k : Nat) : (lC k).length = k := by simp [lC]
def cJ (e : aA) (q : aeA) (l : Int) : aez := ⟨q, e.Store.Now, lC e.Store.aey.length, 0, 0, l, []⟩
def jd (x : Int) (a : aez) : Bool := decide (a.aeA.Id < x)
def dC (l : List aez) (x : Int) : Nat := (l.filter (jd x)).length
def jD (e : aA) (q : aeA) (l : Int) : List aez := e.aez.filter (jd q.Id) ++ cJ e q l :: e.aez.drop (dC e.aez q.Id)
def jE (e : aA) (q : aeA) (l : Int) : Bool := ((aX e && ck q) && aK l 0 32) && (decide (dy e.aez q.Id < 0) && decide ((e.aez.length : Int) < 8))
def eR (e : aA) (q : aeA) (l : Int) : aA × Bool := if jE e q l then (⟨e.Store, e.aeD, e.Order, jD e q l, e.Done, e.aeL, e.Steps⟩, true) else (e, false)
def uk {e : aA} {q : aeA} {l : Int} (h : jE e q l = false) : eR e q l = (e, false) := if_neg (by rw [h]; simp)
def wN {e : aA} {q : aeA} {l : Int} (h : jE e q l = true) : eR e q l = (⟨e.Store, e.aeD, e.Order, jD e q l, e.Done, e.aeL, e.Steps⟩, true) := if_pos h
def rN {e : aA} {q : aeA} {l : Int} (h : jE e q l = true) : aX e = true ∧ ck q = true ∧ (0 ≤ l ∧ l ≤ 32) ∧ dy e.aez q.Id < 0 ∧ (e.aez.length : Int) < 8 := by
 unfold jE at h
 simp only [aS, decide_eq_true_eq, aK] at h
 exact ⟨h.1.1.1, h.1.1.2, h.1.2, h.2.1, h.2.2⟩
def jF (x : Int) (zs : List (aez × (Nat → Value))) : List (aez × (Nat → Value)) := zs.filter fun z => jd x z.1
section
variable {zs : List (aez × (Nat → Value))} {l : List aez} {x : Int} {k : Nat}
def aa8 (hk : k < zs.length) (h : jd x zs[k].1 = true) : jF x (zs.take (k + 1)) = jF x (zs.take k) ++ [zs[k]] := by
 unfold jF; rw [cC hk, dV]; simp [h]
def aa9 (hk : k < zs.length) (h : jd x zs[k].1 = false) : jF x (zs.take (k + 1)) = jF x (zs.take k) := by
 unfold jF; rw [cC hk, dV]; simp [h]
def aba : (jF x (zs.take k)).length ≤ k := by
 have := gP (fun z : aez × (Nat → Value) => jd x z.1) (zs.take k)
 rw [bv] at this; unfold jF; omega
def Sz (hz : zs.map Prod.fst = l) : (jF x zs).map Prod.fst = l.filter (jd x) := by
 subst hz; unfold jF; rw [List.filter_map]; rfl
def SA (hz : zs.map Prod.fst = l) : (jF x zs).length = dC l x := by
 unfold dC; rw [← Sz hz, aw]
def ul {α : Type} (key : α → Int) (x : Int) : ∀ {l : List α}, l.Pairwise (fun a b => key a < key b) → l.filter (fun a => decide (key a < x)) = l.take (l.filter fun a => decide (key a < x)).length
 | [], _ => rfl
 | a :: l, h => by
  have ⟨h1, h2⟩ := List.pairwise_cons.1 h
  have ih := ul key x h2
  rw [List.filter_cons]
  split
  ·rw [List.length_cons, List.take_succ_cons, ← ih]
  ·rename_i hc
   have hc : ¬ key a < x := by simpa using hc
   have : l.filter (fun a => decide (key a < x)) = [] := by
    rw [List.filter_eq_nil_iff]
    intro b hb
    have := h1 b hb
    simp; omega
   rw [this]; rfl
def abb {e : aA} (hok : aX e = true) (hz : zs.map Prod.fst = e.aez) : zs.Pairwise (fun a b => a.1.aeA.Id < b.1.aeA.Id) := by
 have := oW hok
 rw [← hz, List.pairwise_map] at this
 exact this
def SB {e : aA} (hok : aX e = true) (hz : zs.map Prod.fst = e.aez) : jF x zs = zs.take (dC e.aez x) := by
 have h := ul (fun z : aez × (Nat → Value) => z.1.aeA.Id) x (abb hok hz)
 have hl := SA (x := x) hz
 unfold jF jd at *
 rw [h, hl]
def SC {e : aA} : dC e.aez x ≤ e.aez.length := gP _ _
def SD {e : aA} (hok : aX e = true) (hk : k < e.aez.length) : e.aez[k].aeA.Id < x ↔ k < dC e.aez x := by
 have h := ul (fun a : aez => a.aeA.Id) x (oW hok)
 have hc : dC e.aez x = (e.aez.filter fun a => decide (a.aeA.Id < x)).length := rfl
 rw [← hc] at h
 constructor
 ·intro hx
  have hm : e.aez[k] ∈ e.aez.filter fun a => decide (a.aeA.Id < x) := List.mem_filter.2 ⟨List.getElem_mem hk, by simpa using hx⟩
  rw [h] at hm
  obtain ⟨j, hj, hje⟩ := List.mem_iff_getElem.1 hm
  rw [bv] at hj
  rw [List.getElem_take] at hje
  have := wI hok (show j < e.aez.length by omega) hk (by rw [hje])
  omega
 ·intro hx
  have hm : e.aez[k] ∈ e.aez.take (dC e.aez x) := by
   rw [AT]; exact ⟨k, by rw [bv]; omega, by rw [List.getElem_take]⟩
  rw [← h] at hm
  have := (List.mem_filter.1 hm).2
  simpa using this
def Gi {e : aA} (h : dy e.aez x < 0) (hk : k < e.aez.length) : e.aez[k].aeA.Id ≠ x := by
 intro hx
 unfold dy at h
 rw [if_pos (qZ hk (by unfold eh; simpa using hx))] at h
 omega
def ku (zs : List (aez × (Nat → Value))) (zn : aez × (Nat → Value)) (p k : Nat) : List (aez × (Nat → Value)) := if p < k then zs.take p ++ zn :: (zs.take k).drop p else zs.take k
def abc {zn : aez × (Nat → Value)} {p : Nat} (hk : k ≤ zs.length) : (ku zs zn p k).length ≤ k + 1 := by
 unfold ku; split <;> simp <;> omega
def abd {zn : aez × (Nat → Value)} {p : Nat} (hk : k < zs.length) (h : k ≠ p) : ku zs zn p (k + 1) = ku zs zn p k ++ [zs[k]] := by
 unfold ku
 by_cases hp : p < k
 ·rw [if_pos (by omega), if_pos hp, cC hk, List.drop_append_of_le_length (by rw [bv]; omega)]
  simp
 ·rw [if_neg (by omega), if_neg hp, cC hk]
def abe {zn : aez × (Nat → Value)} {p : Nat} (hk : k < zs.length) (h : k = p) : ku zs zn p (k + 1) = ku zs zn p k ++ [zn] ++ [zs[k]] := by
 subst h
 unfold ku
 rw [if_pos (by omega), if_neg (by omega), cC hk, List.drop_append_of_le_length (by rw [bv]; omega)]
 simp
def abf {zn : aez × (Nat → Value)} {p : Nat} (h : p < zs.length) : ku zs zn p zs.length = zs.take p ++ zn :: zs.drop p := by unfold ku; rw [if_pos h, cj]
def abg {zn : aez × (Nat → Value)} {p : Nat} (h : p = zs.length) : ku zs zn p zs.length ++ [zn] = zs.take p ++ zn :: zs.drop p := by subst h; unfold ku; rw [if_neg (by omega)]; simp
def SE {zn : aez × (Nat → Value)} {p : Nat} : ((zs.take p ++ zn :: zs.drop p) ++ []).Perm ([zn] ++ zs) := by
 rw [dP]
 refine List.perm_middle.trans ?_
 rw [fg]; exact List.Perm.refl _
def SF {e : aA} {q : aeA} {li : Int} {kn : Nat → Value} (hok : aX e = true) (hz : zs.map Prod.fst = e.aez) : (zs.take (dC e.aez q.Id) ++ (cJ e q li, kn) :: zs.drop (dC e.aez q.Id)).map Prod.fst = jD e q li := by
 unfold jD
 rw [← SB hok hz, bj, Sz hz, List.map_cons, List.map_drop, hz]
end
def abh {e : aA} {q : aeA} {l : Int} : dc (cJ e q l) = eZ q + e.Store.aey.length := by
 unfold cJ dc
 simp only [dE, bf, wM, dj, List.map_nil, List.sum_nil, List.length_nil]; omega
def abi (e : aA) (q : aeA) (l : Int) : bp (eR e q l).1 ≤ bp e + eZ q + 10 := by
 unfold eR
 split
 ·rename_i h
  have hf := rN h
  have hef := gW hf.1
  obtain ⟨hs8, _, _, _, _, _⟩ := mN hef.1
  have hn := abh (e := e) (q := q) (l := l)
  have hsum : ∀ (L : List aez) (x : Int), (∀ a ∈ L, True) → L.Pairwise (fun a b => a.aeA.Id < b.aeA.Id) → (L.filter (jd x) ++ L.drop (dC L x)) = L := by
   intro L x _ hp
   have h := ul (fun a : aez => a.aeA.Id) x hp
   have : L.filter (jd x) = L.take (dC L x) := h
   rw [this, fg]
  have hs := hsum e.aez q.Id (fun _ _ => trivial) (oW hf.1)
  have h1 : (jD e q l).length = e.aez.length + 1 := by
   conv => rhs; rw [← hs]
   unfold jD; simp only [aM, List.length_cons]; omega
  have h2 : ((jD e q l).map dc).sum = (e.aez.map dc).sum + dc (cJ e q l) := by
   conv => rhs; rw [← hs]
   unfold jD; simp only [bj, List.map_cons, List.sum_append, List.sum_cons]; omega
  unfold bp fB
  dsimp only
  rw [h1, h2, hn]; omega
 ·dsimp only; omega
end
def qa (e : aA) (i : Nat) : aA := ⟨e.Store, e.aeD, e.Order, eE e.aez i, e.Done, e.aeL, e.Steps⟩
def jG (e : aA) (id : Int) : Bool := aX e && decide (0 ≤ dy e.aez id)
def cK (e : aA) (id : Int) : aA × Bool := if jG e id then (dk (qa e (dy e.aez id).toNat), true) else (e, false)
def wP {e : aA} {id : Int} (h : jG e id = false) : cK e id = (e, false) := if_neg (by rw [h]; simp)
def Gj {e : aA} {id : Int} (h : jG e id = true) : cK e id = (dk (qa e (dy e.aez id).toNat), true) := if_pos h
def Gk {e : aA} {id : Int} {i : Nat} (h : jG e id = true) (hf : dy e.aez id = (i : Int)) : cK e id = (dk (qa e i), true) := by rw [Gj h, hf]; rfl
def Gl {l : List aez} {id : Int} (h : 0 ≤ dy l id) : ∃ i : Nat, i < l.length ∧ dy l id = (i : Int) := by
 unfold dy at *
 split at h
 ·rename_i ha
  rw [if_pos ha]
  obtain ⟨a, ha1, ha2⟩ := List.any_eq_true.1 ha
  exact ⟨l.findIdx (eh id), List.findIdx_lt_length_of_exists ⟨a, ha1, ha2⟩, rfl⟩
 ·omega
def SG {α β : Type} {f : α → β} {zs : List α} {l : List β} {i : Nat} (hz : zs.map f = l) : (eE zs i).map f = eE l i := by
 subst hz; unfold eE; rw [bj, List.map_take, List.map_drop]
def Gm {α : Type} {zs : List α} {i : Nat} (hi : i < zs.length) : (eE zs i ++ [zs[i]]).Perm zs := by
 unfold eE
 have : zs = zs.take i ++ (zs[i] :: zs.drop (i + 1)) := by rw [← List.drop_eq_getElem_cons hi, fg]
 conv => rhs; rw [this]
 rw [bu]
 refine fP _ ?_
 exact List.perm_append_singleton _ _
def Gn {e : aA} {i : Nat} (hi : i < e.aez.length) : bp (qa e i) ≤ bp e := by
 have hs : ((eE e.aez i).map dc).sum + dc e.aez[i] = (e.aez.map dc).sum := by
  have := ((Gm hi).map dc).sum_nat
  rw [bj, List.sum_append] at this
  simpa using this
 have hl := BK hi
 unfold qa bp fB
 dsimp only
 rw [hl]; omega
def abj (e : aA) (id : Int) : bp (cK e id).1 ≤ bp e := by
 cases h : jG e id with
 | false => rw [wP h]; exact Nat.le_refl _
 | true =>
  have h2 := h
  unfold jG at h2
  simp only [aS, decide_eq_true_eq] at h2
  obtain ⟨i, hi, hf⟩ := Gl h2.2
  rw [Gk h hf]
  have h3 := FJ (qa e i)
  have h4 := Gn hi
  dsimp only; omega
def abk {q : aeA} (h : ck q = true) : eZ q ≤ 6 := by
 unfold ck lS at h
 simp only [aS, aK, decide_eq_true_eq] at h
 have h1 : (q.aeB.map wn).sum = 0 := by
  have : ∀ l : List gT, (l.map wn).sum = 0 := by
   intro l
   induction l with
   | nil => rfl
   | cons c l ih => rw [List.map_cons, List.sum_cons, ih]; rfl
  exact this _
 unfold eZ tO
 simp only [dE, bf, h1]; omega
def abl {s : Store} {u : aeC} (h : gZ s u = true) (hk : ¬ u.Kind = 2) : (il s u).length = 3 := by
 obtain ⟨h1, h2, h3, h4, h5⟩ := oU h
 have h0 : (il s u).length = (fe s u).length := by unfold il; split <;> simp
 rw [h0]
 by_cases a : 0 ≤ ci s u.Row.Id
 ·exact zZ h1 a
 ·rw [(nA a).2]
  have hk1 : u.Kind = 1 := by
   by_cases b : u.Kind = 1
   ·exact b
   ·exact absurd (h4.2 b) a
  unfold gF at h2
  rw [if_pos hk1] at h2
  simp only [aS] at h2
  exact rg h2.1
def Gp (s : Store) (u : aeC) : cB (cQ s u).1 ≤ cB s + 4 := by
 cases h : gZ s u with
 | false => rw [rE h]; dsimp only; omega
 | true =>
  by_cases hk : u.Kind = 2
  ·rw [oS h hk]
   have e1 := Rj s u
   unfold cB; dsimp only; rw [e1]; simp only [bf]; omega
  ·have h5 := (oU h).2.2.2.2.resolve_left hk
   obtain ⟨r, hr, hrm, _⟩ := zV h5
   rw [rF h hk hrm]
   have e1 := Rj s u
   have e2 := abl h hk
   have hru : r < (cH s u).length := by rw [oT]; exact hr
   have e3 := zY (f := co) (x := (cH s u)[r] ++ [jb s u]) hru
   have hw : cw (jb s u) = (il s u).length := by unfold jb cw; simp only [dE, bf]; omega
   have e5 : co ((cH s u)[r] ++ [jb s u]) = co (cH s u)[r] + (1 + cw (jb s u)) := by
    unfold co; simp only [aM, bj, List.sum_append, List.length_cons, List.length_nil, List.map_cons, List.map_nil, List.sum_cons, List.sum_nil]; omega
   rw [pW hru]
   unfold cB
   dsimp only
   unfold fW at e1 ⊢
   rw [List.length_set]
   simp only [bf] at *; omega
def qb (e : aA) (s : Store) : aA := ⟨s, e.aeD, e.Order, e.aez, e.Done, e.aeL, e.Steps⟩
def cD (e : aA) (u : aeC) : aA × Bool := if aX e && (cQ e.Store u).2 then (dk (qb e (cQ e.Store u).1), true) else (e, false)
def AG {e : aA} {u : aeC} (h : (aX e && (cQ e.Store u).2) = false) : cD e u = (e, false) := if_neg (by rw [h]; simp)
def AH {e : aA} {u : aeC} (h : (aX e && (cQ e.Store u).2) = true) : cD e u = (dk (qb e (cQ e.Store u).1), true) := if_pos h
def Gq (e : aA) (u : aeC) : bp (qb e (cQ e.Store u).1) ≤ bp e + 4 := by
 have := Gp e.Store u
 unfold qb bp; dsimp only; omega
def abm (e : aA) (u : aeC) : bp (cD e u).1 ≤ bp e + 4 := by
 have h1 := Gq e u
 have h2 := FJ (qb e (cQ e.Store u).1)
 unfold cD
 split <;> dsimp only <;> omega
def dl (e : aA) (x : et) : aA × Bool := if aX e && fp x then (if x.Kind = 1 then eR e x.aeA x.Limit else if x.Kind = 2 then cK e x.Id else if x.Kind = 3 then cD e x.aeC else (gB e x.Steps, true)) else (e, false)
def wQ {e : aA} {x : et} (h : (aX e && fp x) = false) : dl e x = (e, false) := if_neg (by rw [h]; simp)
def AJ {e : aA} {x : et} (h : (aX e && fp x) = true) (k : x.Kind = 1) : dl e x = eR e x.aeA x.Limit := by unfold dl; rw [if_pos h, if_pos k]
def AK {e : aA} {x : et} (h : (aX e && fp x) = true) (k : x.Kind = 2) : dl e x = cK e x.Id := by unfold dl; rw [if_pos h, if_neg (by omega), if_pos k]
def Gr {e : aA} {x : et} (h : (aX e && fp x) = true) (k : x.Kind = 3) : dl e x = cD e x.aeC := by unfold dl; rw [if_pos h, if_neg (by omega), if_neg (by omega), if_pos k]
def Gs {e : aA} {x : et} (h : (aX e && fp x) = true) (k1 : ¬ x.Kind = 1) (k2 : ¬ x.Kind = 2) (k3 : ¬ x.Kind = 3) : dl e x = (gB e x.Steps, true) := by unfold dl; rw [if_pos h, if_neg k1, if_neg k2, if_neg k3]
def abn (e : aA) (x : et) : bp (dl e x).1 ≤ bp e + 40000 := by
 cases h : aX e && fp x with
 | false => rw [wQ h]; dsimp only; omega
 | true =>
  by_cases k1 : x.Kind = 1
  ·rw [AJ h k1]
   cases ha : jE e x.aeA x.Limit with
   | false => rw [uk ha]; dsimp only; omega
   | true =>
    have h1 := abi e x.aeA x.Limit
    have h2 := abk (rN ha).2.1
    omega
  ·by_cases k2 : x.Kind = 2
   ·rw [AK h k2]; have := abj e x.Id; omega
   ·by_cases k3 : x.Kind = 3
    ·rw [Gr h k3]; have := abm e x.aeC; omega
    ·rw [Gs h k1 k2 k3]; have := aa6 e x.Steps; dsimp only; omega
end Go.Proofs.YtmekkgdboplbjaaGreat
