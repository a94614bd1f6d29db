/- Definitions and their laws. No condition. -/
import Derived.Test.YtmekkgdboplbjaaGreatDoorCE0
set_option linter.all false
namespace Go.Proofs.YtmekkgdboplbjaaGreatDoor
open Go Go.RowKit M
set_option maxRecDepth 10000
section
def cG (e : ay) : List aM := e.Store.ZE.getD e.ZJ.toNat []
def gW (l : List aM) (t : Int) : List Row := (l.filter fun v => fE v t).map ee
def jn (e : ay) (a : ZF) : List Row := (gW (cG e) a.Time).filter (lj a.ZG)
def qz (e : ay) (a : ZF) (j : Nat) : List Row := ((gW (cG e) a.Time).take j).filter (lj a.ZG)
def mb (l : List Int) (x : Int) : List Int := l.filter fun y => !(y == x)
def mc (e : ay) (a : ZF) : ZF := ⟨a.ZG, a.Time, mb a.ZO e.ZJ, a.Age, a.Sent + ((jn e a).length : Int), a.Cap, a.Rows ++ jn e a⟩
def jo (e : ay) (ids : List Int) (a : ZF) : ZF := if bP ids a.ZG.Id then mc e a else a
def ck (e : ay) (k : Nat) : List ZF := e.ZF.map (jo e ((parts e).take k))
def xu (e : ay) (id : Int) : ZF := e.ZF.getD (dv e.ZF id).toNat go
def ul (e : ay) (id : Int) : Int := (xu e id).ZG.ZK
def um (e : ay) (id : Int) : Int := ((jn e (xu e id)).length : Int)
def fW (e : ay) (k : Nat) : bM := ⟨e.ZJ, ((cG e).length : Int), (parts e).take k, ((parts e).take k).map (ul e), ((parts e).take k).map (um e)⟩
def jp (n : Int) (a : ZF) : ZF := ⟨a.ZG, a.Time, a.ZO, a.Age + 1, if (a.Age + 1).tmod n = 0 then 0 else a.Sent, a.Cap, a.Rows⟩
def ej (a : ZF) : Bool := decide (a.ZO.length = 0)
def po (a : ZF) : eE := ⟨a.ZG, a.Time, a.Age, a.Rows⟩
def cY (e : ay) (k : Nat) : List ZF := (ck e k).map (jp (e.Store.ZE.length : Int))
def kc (e : ay) (k m : Nat) : List ZF := ((cY e k).take m).filter fun a => !ej a
def gq (e : ay) (k m : Nat) : List eE := (((cY e k).take m).filter ej).map po
def iR (e : ay) (k : Nat) : List bM := if (parts e).length = 0 then e.ZR else e.ZR ++ [fW e k]
def BN (e : ay) (k m : Nat) : ay := ⟨e.Store, (e.ZJ + 1).tmod (e.Store.ZE.length : Int), e.Order, kc e k m, e.Done ++ gq e k m, iR e k, e.Steps + 1⟩
def gr (e : ay) : ay := BN e (parts e).length e.ZF.length
def jq (e : ay) : Bool := aT e && (decide (e.Steps < 100000) && (decide ((e.ZR.length : Int) < 1000) && decide ((e.Done.length : Int) + (e.ZF.length : Int) ≤ 1000)))
def fk (e : ay) : ay := if jq e then fA (gr e) else e
def LN {e : ay} (h : jq e = false) : fk e = e := if_neg (by rw [h]; simp)
def BO {e : ay} (h : jq e = true) : fk e = fA (gr e) := if_pos h
def xv {e : ay} (h : jq e = true) : aT e = true ∧ e.Steps < 100000 ∧ (e.ZR.length : Int) < 1000 ∧ (e.Done.length : Int) + (e.ZF.length : Int) ≤ 1000 := by
 unfold jq at h
 simp only [aL, decide_eq_true_eq] at h
 exact ⟨h.1, h.2.1, h.2.2.1, h.2.2.2⟩
def oj {e : ay} (h : aT e = true) : e.ZF.Pairwise (fun a b => a.ZG.Id < b.ZG.Id) := by
 unfold aT at h
 simp only [aL] at h
 exact KN h.2.1
def un {e : ay} (h : aT e = true) {i j : Nat} (hi : i < e.ZF.length) (hj : j < e.ZF.length) (he : e.ZF[i].ZG.Id = e.ZF[j].ZG.Id) : i = j := by
 have hp := oj h
 rw [List.pairwise_iff_getElem] at hp
 rcases Nat.lt_trichotomy i j with h1 | h1 | h1
 ·have := hp i j hi hj h1; omega
 ·exact h1
 ·have := hp j i hj hi h1; omega
def BP {e : ay} (h : aT e = true) : (parts e).Pairwise (· < ·) := by
 rw [qt h]
 unfold gp
 rw [List.pairwise_map]
 exact (oj h).filter _
def Vl {l : List Int} (hp : l.Pairwise (· < ·)) {k : Nat} (hk : k < l.length) (x : Int) : bP (l.take (k + 1)) x = (bP (l.take k) x || (l[k] == x)) := by
 unfold bP
 rw [cZ hk, List.any_append]; simp
def Vm {l : List Int} (hp : l.Pairwise (· < ·)) {k : Nat} (hk : k < l.length) : bP (l.take k) l[k] = false := by
 unfold bP
 rw [List.any_eq_false]
 intro y hy
 obtain ⟨j, hj, rfl⟩ := List.mem_iff_getElem.1 hy
 rw [bg] at hj
 rw [List.pairwise_iff_getElem] at hp
 have := hp j k (by omega) hk (by omega)
 simp
 omega
def LO {e : ay} {k : Nat} (hok : aT e = true) (hk : k < (parts e).length) : ∃ i, ∃ hi : i < e.ZF.length, dv e.ZF (parts e)[k] = (i : Int) ∧ e.ZF[i].ZG.Id = (parts e)[k] ∧ iF e e.ZF[i] = true := by
 have hm : ∀ x, x ∈ parts e → x ∈ gp e e.ZF := fun x hx => by rwa [qt hok] at hx
 have hm := hm _ (List.getElem_mem hk)
 unfold gp at hm
 obtain ⟨a, ha, hid⟩ := List.mem_map.1 hm
 obtain ⟨ha, hp⟩ := List.mem_filter.1 ha
 obtain ⟨i, hi, rfl⟩ := List.mem_iff_getElem.1 ha
 refine ⟨i, hi, ?_, hid, hp⟩
 refine Bd hi ?_ (by unfold eT; rw [hid]; simp)
 rw [List.any_eq_false]
 intro b hb
 obtain ⟨j, hj, rfl⟩ := List.mem_iff_getElem.1 hb
 rw [bg] at hj
 intro hc
 unfold eT at hc
 have hc : e.ZF[j].ZG.Id = (parts e)[k] := by simpa using hc
 have := un hok (show j < e.ZF.length by omega) hi (hc.trans hid.symm)
 omega
section
variable {e : ay} {k i j m : Nat}
def om : (ck e k).length = e.ZF.length := by unfold ck; rw [am]
def xw (h : i < (ck e k).length) (hi : i < e.ZF.length) : (ck e k)[i] = jo e ((parts e).take k) e.ZF[i] := List.getElem_map (jo e ((parts e).take k))
def Vn (hok : aT e = true) (hk : k < (parts e).length) (hi : i < e.ZF.length) (hid : e.ZF[i].ZG.Id = (parts e)[k]) (h : i < (ck e k).length) : (ck e k)[i] = e.ZF[i] := by
 rw [xw h hi]
 unfold jo
 rw [hid, Vm (BP hok) hk, if_neg (by simp)]
def Vo (hok : aT e = true) (hk : k < (parts e).length) (hi : i < e.ZF.length) (hid : e.ZF[i].ZG.Id = (parts e)[k]) : (ck e k).set i (mc e e.ZF[i]) = ck e (k + 1) := by
 refine List.ext_getElem (by rw [List.length_set, om, om]) fun j h1 h2 => ?_
 have hj : j < e.ZF.length := by rw [om] at h2; exact h2
 rw [List.getElem_set, xw h2 hj]
 unfold jo
 rw [Vl (BP hok) hk]
 split
 ·rename_i hij
  subst hij
  rw [hid]; simp
 ·rename_i hij
  rw [xw _ hj]
  unfold jo
  have : ((parts e)[k] == e.ZF[j].ZG.Id) = false := by
   rw [beq_eq_false_iff_ne]
   intro hc
   exact hij (un hok hi hj (hid.trans hc))
  rw [this, Bool.or_false]
def LP : ck e 0 = e.ZF := by
 unfold ck
 have : ∀ a : ZF, jo e ((parts e).take 0) a = a := fun a => by unfold jo bP; simp
 rw [List.map_congr_left (g := id) (fun a _ => this a), List.map_id]
def LQ {id : Int} (hi : i < e.ZF.length) (hf : dv e.ZF id = (i : Int)) : xu e id = e.ZF[i] := by
 unfold xu; rw [hf]; simp [hi]
def BQ (hk : k ≤ (parts e).length) : (fW e k).Ids.length = k ∧ (fW e k).ZL.length = k ∧ (fW e k).Rows.length = k := by
 unfold fW
 simp only [am, bg]
 omega
def LR {a : ZF} : qz e a (gW (cG e) a.Time).length = jn e a := by unfold qz jn; rw [bY]
def BR (l : List aM) (t : Int) : (gW l t).length ≤ l.length := by unfold gW; rw [am]; exact il _ _
def BS (h : e.ZJ.toNat < e.Store.ZE.length) : e.Store.ZE[e.ZJ.toNat] = cG e := by unfold cG; simp [h]
def BT (hok : aT e = true) : (cG e).length ≤ 4 := by
 have hf := gU hok
 rw [← BS hf.2.2.2.1]
 exact (jd hf.1).2.2.2.2.1 _ (List.getElem_mem _)
def xx : (cY e k).length = e.ZF.length := by unfold cY; rw [am, om]
def xy (h : m < (cY e k).length) (h2 : m < (ck e k).length) : (cY e k)[m] = jp (e.Store.ZE.length : Int) (ck e k)[m] := List.getElem_map (jp (e.Store.ZE.length : Int))
def Vp (hm : m < (cY e k).length) (h : ej (cY e k)[m] = false) : kc e k (m + 1) = kc e k m ++ [(cY e k)[m]] := by
 unfold kc; rw [cZ hm, fK]; simp [h]
def Vq (hm : m < (cY e k).length) (h : ej (cY e k)[m] = true) : kc e k (m + 1) = kc e k m := by
 unfold kc; rw [cZ hm, fK]; simp [h]
def Vr (hm : m < (cY e k).length) (h : ej (cY e k)[m] = true) : gq e k (m + 1) = gq e k m ++ [po (cY e k)[m]] := by
 unfold gq; rw [cZ hm, fK]; simp [h]
def Vs (hm : m < (cY e k).length) (h : ej (cY e k)[m] = false) : gq e k (m + 1) = gq e k m := by
 unfold gq; rw [cZ hm, fK]; simp [h]
def LS : (kc e k m).length ≤ m := by
 have := il (fun a => !ej a) ((cY e k).take m)
 rw [bg] at this
 unfold kc; omega
def LU : (gq e k m).length ≤ m := by
 have := il ej ((cY e k).take m)
 rw [bg] at this
 unfold gq; rw [am]; omega
def LV {n : Int} {a : ZF} (h : (a.Age + 1).tmod n = 0) : jp n a = ⟨a.ZG, a.Time, a.ZO, a.Age + 1, 0, a.Cap, a.Rows⟩ := by unfold jp; rw [if_pos h]
def LW {n : Int} {a : ZF} (h : ¬ (a.Age + 1).tmod n = 0) : jp n a = ⟨a.ZG, a.Time, a.ZO, a.Age + 1, a.Sent, a.Cap, a.Rows⟩ := by unfold jp; rw [if_neg h]
def LX (l : List Int) (x : Int) : (mb l x).length ≤ l.length := il _ _
def Vt {l : List Int} {x : Int} (hk : k < l.length) (h : ¬ l[k] = x) : mb (l.take (k + 1)) x = mb (l.take k) x ++ [l[k]] := by
 unfold mb; rw [cZ hk, fK]; simp [h]
def Vu {l : List Int} {x : Int} (hk : k < l.length) (h : l[k] = x) : mb (l.take (k + 1)) x = mb (l.take k) x := by
 unfold mb; rw [cZ hk, fK]; simp [h]
end
def LY {l : List aM} {t : Int} {k : Nat} (hk : k < l.length) (h : fE l[k] t = true) : gW (l.take (k + 1)) t = gW (l.take k) t ++ [ee l[k]] := by
 unfold gW; rw [cZ hk, fK]; simp [h]
def Vv {l : List aM} {t : Int} {k : Nat} (hk : k < l.length) (h : fE l[k] t = false) : gW (l.take (k + 1)) t = gW (l.take k) t := by
 unfold gW; rw [cZ hk, fK]; simp [h]
def Vw (a b : List Row) : gm (a ++ b) = gm a + gm b := by unfold gm; simp; omega
def LZ {e : ay} (hok : aT e = true) : ∀ v ∈ cG e, bp (ee v) = true := by
 intro v hv
 have hf := gU hok
 rw [← BS hf.2.2.2.1] at hv
 obtain ⟨j, hj, rfl⟩ := List.mem_iff_getElem.1 hv
 have := rH hf.1 hf.2.2.2.1 hj
 unfold cD at this
 rw [aL] at this
 exact this.1
def Ma : ∀ l : List Row, (∀ r ∈ l, bp r = true) → gm l = 4 * l.length
 | [], _ => rfl
 | r :: l, h => by
  have ih := Ma l fun x hx => h x (List.mem_cons_of_mem _ hx)
  have hr : r.Values.length = 3 := by
   have := h r List.mem_cons_self
   simp [bp, aB] at this; omega
  have hw : iZ r = 3 := by simp only [iZ, dP, bh]; omega
  unfold gm at ih ⊢
  rw [List.length_cons, List.map_cons, List.sum_cons, hw]; omega
def Mb {e : ay} (hok : aT e = true) (t : Int) : ∀ r ∈ gW (cG e) t, bp r = true := by
 intro r hr
 unfold gW at hr
 obtain ⟨v, hv, rfl⟩ := List.mem_map.1 hr
 exact LZ hok v (List.mem_filter.1 hv).1
def Mc {e : ay} (hok : aT e = true) (a : ZF) (j : Nat) : gm (qz e a j) ≤ 16 ∧ (qz e a j).length ≤ 4 := by
 have hl : (qz e a j).length ≤ 4 := by
  have h1 := il (lj a.ZG) ((gW (cG e) a.Time).take j)
  rw [bg] at h1
  have h2 := BR (cG e) a.Time
  have h3 := BT hok
  unfold qz; omega
 have hw := Ma (qz e a j) fun r hr => Mb hok a.Time r (List.mem_of_mem_take (List.mem_filter.1 hr).1)
 omega
def Vx {e : ay} (hok : aT e = true) (a : ZF) : cS (mc e a) ≤ cS a + 16 := by
 have h1 := Mc hok a (gW (cG e) a.Time).length
 rw [LR] at h1
 have h2 := LX a.ZO e.ZJ
 unfold mc cS
 simp only [dP, bh, Vw]
 omega
def Vy {e : ay} (hok : aT e = true) (k : Nat) : ((ck e k).map cS).sum ≤ (e.ZF.map cS).sum + 16 * e.ZF.length := by
 unfold ck
 generalize e.ZF = l
 induction l with
 | nil => simp
 | cons a l ih =>
  simp only [List.map_cons, List.sum_cons, List.length_cons] at *
  have h1 : cS (jo e ((parts e).take k) a) ≤ cS a + 16 := by
   unfold jo
   split
   ·exact Vx hok a
   ·omega
  omega
def Vz (n : Int) (a : ZF) : cS (jp n a) = cS a := by unfold jp cS; simp only [bh]
def VA (a : ZF) : qf (po a) ≤ cS a := by unfold po qf cS; simp only [bh]; omega
def Md : ∀ l : List ZF, ((l.filter fun a => !ej a).map cS).sum + (((l.filter ej).map po).map qf).sum ≤ (l.map cS).sum
 | [] => by simp
 | a :: l => by
  have ih := Md l
  have hf := VA a
  simp only [List.filter_cons]
  cases h : ej a
  ·simp only [Bool.not_false, if_true, List.map_cons, List.sum_cons, if_neg (by simp : ¬ (false = true))]; omega
  ·simp only [Bool.not_true, if_true, List.map_cons, List.sum_cons, if_neg (by simp : ¬ (false = true))]; omega
def BU : ∀ l : List ZF, (l.filter fun a => !ej a).length + (l.filter ej).length = l.length
 | [] => rfl
 | a :: l => by
  have ih := BU l
  simp only [List.filter_cons]
  cases h : ej a <;> simp <;> omega
def VB {e : ay} {k : Nat} (hk : k ≤ (parts e).length) : oP (fW e k) = 3 * k := by
 have := BQ hk
 simp only [oP, dP, bh]
 omega
def Me {e : ay} (hok : aT e = true) : bB (gr e) ≤ bB e + 200 := by
 have hf := gU hok
 have hp := wZ (e := e)
 have h1 := Vy hok (parts e).length
 have h2 : ((cY e (parts e).length).map cS).sum = ((ck e (parts e).length).map cS).sum := by
  unfold cY
  rw [List.map_map]
  exact congrArg List.sum (List.map_congr_left fun a _ => Vz _ a)
 have h3 := Md (cY e (parts e).length)
 have h4 := BU (cY e (parts e).length)
 have h5 := xx (e := e) (k := (parts e).length)
 have hr : kc e (parts e).length e.ZF.length = (cY e (parts e).length).filter fun a => !ej a := by
  unfold kc; rw [pu (by omega)]
 have hd : gq e (parts e).length e.ZF.length = ((cY e (parts e).length).filter ej).map po := by
  unfold gq; rw [pu (by omega)]
 have hc := VB (e := e) (Nat.le_refl _)
 have hl : hZ (iR e (parts e).length) ≤ hZ e.ZR + 25 := by
  unfold iR
  split
  ·omega
  ·unfold hZ
   rw [aD, bb, List.sum_append]
   simp only [List.map_cons, List.map_nil, List.sum_cons, List.sum_nil, List.length_cons, List.length_nil, hc]
   omega
 unfold gr BN bB
 dsimp only
 simp only [bh, ix, mC, hr, hd, aD, bb, List.sum_append, am] at *
 omega
def BV (e : ay) : bB (fA e) ≤ bB e := by
 have := KI e.Store (jU e.ZF)
 unfold fA bB
 dsimp only
 omega
def VC (e : ay) : bB (fk e) ≤ bB e + 200 := by
 unfold fk
 split
 ·rename_i h
  have h1 := Me (xv h).1
  have h2 := BV (gr e)
  omega
 ·omega
def VD {e : ay} {k : Nat} (id : Int) : dv (ck e k) id = dv e.ZF id := by
 have hq : ∀ a : ZF, eT id (jo e ((parts e).take k) a) = eT id a := fun a => by unfold jo; split <;> rfl
 unfold dv ck
 rw [List.any_map, List.findIdx_map]
 simp only [Function.comp_def, hq]
def BW {s : Store} {a : ZF} (h : eg s a = true) : 0 ≤ a.Sent ∧ a.Sent ≤ 1000 ∧ 0 ≤ a.Age ∧ a.Age ≤ 100000 ∧ a.Rows.length ≤ 1000 ∧ bG a.ZG = true := by
 unfold eg at h
 simp only [aL, aB, decide_eq_true_eq, fg] at h
 exact ⟨by omega, by omega, by omega, by omega, by omega, h.2.1⟩
def Mf {e : ay} (h : aT e = true) {k i : Nat} (hi : i < e.ZF.length) (h2 : i < (ck e k).length) : 0 ≤ (ck e k)[i].Age ∧ (ck e k)[i].Age ≤ 100000 := by
 have ha := BW ((gU h).2.2.2.2.2.2.2.2.2.1 _ (List.getElem_mem hi))
 rw [xw h2 hi]
 unfold jo
 split <;> exact ⟨ha.2.2.1, ha.2.2.2.1⟩
def BX {e : ay} (h : aT e = true) (a : ZF) : (jn e a).length ≤ 4 := by
 have := (Mc h a (gW (cG e) a.Time).length).2
 rwa [LR] at this
def jr (z : ZF × (Nat → Value)) : List PV := [PV.nv (z.2 0) (PV.val (vI z.1.ZG.Id)), PV.nv (z.2 1) (PV.val (vI z.1.ZG.ZK)), PV.nv (z.2 2) (PV.sl .v (z.1.ZG.ZH.map dj)), PV.nv (z.2 3) (PV.sl .v (z.1.ZG.Out.map an)), PV.nv (z.2 4) (PV.val (vI z.1.Time)), PV.nv (z.2 5) (PV.sl .v (z.1.ZO.map an)), PV.nv (z.2 6) (PV.val (vI z.1.Age)), PV.nv (z.2 7) (PV.val (vI z.1.Sent)), PV.nv (z.2 8) (PV.val (vI z.1.Cap)), PV.nv (z.2 9) (PV.sl .v (z.1.Rows.map (dt ae)))]
def uo {α : Type} {d : α} {p : α → Bool} {r : α → α → Bool} {l : List α} (h1 : ∀ x ∈ l, p x = true) (h2 : l.Pairwise (fun a b => r a b = true)) : dE d p r l = true := by
 unfold dE jM
 rw [mm]
 intro i hi
 have hi := List.mem_range.1 hi
 rw [et hi, h1 _ (List.getElem_mem hi), Bool.true_and]
 cases i with
 | zero => rfl
 | succ i =>
  rw [List.pairwise_iff_getElem] at h2
  rw [show i + 1 - 1 = i from rfl, et (show i < l.length by omega), h2 i (i + 1) (by omega) hi (by omega)]
  simp
def Mg {e : ay} (hok : aT e = true) : nR e.ZF (parts e) = (e.ZF.filter (iF e)).map fun a => a.ZG := by
 rw [qt hok]
 unfold nR gp
 rw [List.map_map]
 refine List.map_congr_left fun a ha => ?_
 have ha := (List.mem_filter.1 ha).1
 obtain ⟨i, hi, rfl⟩ := List.mem_iff_getElem.1 ha
 have hf : dv e.ZF e.ZF[i].ZG.Id = (i : Int) := by
  refine Bd hi ?_ (by unfold eT; simp)
  rw [List.any_eq_false]
  intro b hb
  obtain ⟨j, hj, rfl⟩ := List.mem_iff_getElem.1 hb
  rw [bg] at hj
  intro hc
  unfold eT at hc
  have hc : e.ZF[j].ZG.Id = e.ZF[i].ZG.Id := by simpa using hc
  have := un hok (show j < e.ZF.length by omega) hi hc
  omega
 show (e.ZF.getD (dv e.ZF e.ZF[i].ZG.Id).toNat go).ZG = _
 rw [hf]; simp [hi]
def VE {e : ay} (hok : aT e = true) : dm (nR e.ZF (parts e)) = true := by
 have hef := gU hok
 rw [Mg hok]
 unfold dm
 have hl := il (iF e) e.ZF
 rw [aL]
 refine ⟨uo (fun x hx => ?_) ?_, ?_⟩
 ·obtain ⟨a, ha, rfl⟩ := List.mem_map.1 hx
  exact (BW (hef.2.2.2.2.2.2.2.2.2.1 _ (List.mem_filter.1 ha).1)).2.2.2.2.2
 ·rw [List.pairwise_map]
  refine ((oj hok).filter _).imp fun {a b} h => ?_
  unfold qm; simpa using h
 ·rw [am, decide_eq_true_eq]; omega
def VF {e : ay} (hok : aT e = true) {i : Nat} (hi : i < e.ZF.length) (h : iF e e.ZF[i] = true) : e.ZF[i].ZG ∈ nR e.ZF (parts e) := by
 rw [Mg hok]
 exact List.mem_map.2 ⟨_, List.mem_filter.2 ⟨List.getElem_mem hi, h⟩, rfl⟩
def js (e : ay) (a : ZF) (j : Nat) : List Row := (gW ((cG e).take j) a.Time).filter (lj a.ZG)
def Mh {e : ay} {a : ZF} {j : Nat} (hj : j < (cG e).length) (hv : fE (cG e)[j] a.Time = true) (hm : lj a.ZG (ee (cG e)[j]) = true) : js e a (j + 1) = js e a j ++ [ee (cG e)[j]] := by
 unfold js; rw [LY hj hv, fK]; simp [hm]
def xz {e : ay} {a : ZF} {j : Nat} (hj : j < (cG e).length) (h : fE (cG e)[j] a.Time = false ∨ lj a.ZG (ee (cG e)[j]) = false) : js e a (j + 1) = js e a j := by
 unfold js
 cases hv : fE (cG e)[j] a.Time with
 | false => rw [Vv hj hv]
 | true =>
  rw [hv] at h
  have hm := h.resolve_left (by simp)
  rw [LY hj hv, fK]; simp [hm]
def VG {e : ay} {a : ZF} : js e a (cG e).length = jn e a := by unfold js jn; rw [bY]
def VH {e : ay} {a : ZF} {j : Nat} : (js e a j).length ≤ j := by
 have h1 := il (lj a.ZG) (gW ((cG e).take j) a.Time)
 have h2 := BR ((cG e).take j) a.Time
 rw [bg] at h2
 unfold js; omega
def jt (e : ay) (k : Nat) : bM := ⟨e.ZJ, ((cG e).length : Int), parts e, ((parts e).take k).map (ul e), ((parts e).take k).map (um e)⟩
def VI {e : ay} {i k : Nat} (hk : k < (parts e).length) (hi : i < e.ZF.length) (hf : dv e.ZF (parts e)[k] = (i : Int)) : jt e (k + 1) = ⟨e.ZJ, ((cG e).length : Int), parts e, (jt e k).ZL ++ [e.ZF[i].ZG.ZK], (jt e k).Rows ++ [((jn e e.ZF[i]).length : Int)]⟩ := by
 have ha := LQ hi hf
 unfold jt
 rw [cZ hk]
 simp only [bb, List.map_cons, List.map_nil, ul, um, ha]
def VJ {e : ay} : jt e (parts e).length = fW e (parts e).length := by unfold jt fW; rw [bY]
def VK {e : ay} {k : Nat} (hk : k ≤ (parts e).length) : (jt e k).ZL.length = k ∧ (jt e k).Rows.length = k := by
 unfold jt
 simp only [am, bg]
 omega
def VL (e : ay) (k : Nat) : ay := ⟨e.Store, e.ZJ, e.Order, ck e k, e.Done, e.ZR, e.Steps⟩
end
structure VM (s : Store) : Prop where
 l1 : 1 ≤ s.ZE.length
 l8 : s.ZE.length ≤ 8
 n0 : 0 ≤ s.Now
 n1 : s.Now ≤ 100000
 sm : ∀ g ∈ s.ZE, g.length ≤ 4
 vs : ∀ v ∈ aY s, cD s.Now v = true
 ap : (aY s).Pairwise fun a b => eB a b = true
def BY (a b : aM) : eB a b = eB b a := by
 unfold eB
 rw [show (a.Id == b.Id) = (b.Id == a.Id) from by rw [Bool.eq_iff_iff]; simp only [beq_iff_eq]; exact eq_comm]
 rw [Bool.or_comm (_ && _) (_ && _)]
def oo {α : Type} {l : List α} {d : α} {i : Nat} (h : i < l.length) : l.getD i d = l[i] := by
 rw [List.getD_eq_getElem?_getD, List.getElem?_eq_getElem h]; rfl
def iS {s : Store} : bL s = true ↔ VM s := by
 constructor
 ·intro h
  obtain ⟨h1, h2, h3, h4, h5, h6⟩ := jd h
  refine ⟨h2, h1, h3, h4, h5, fun v hv => ?_, ?_⟩
  ·obtain ⟨i, hi, rfl⟩ := List.mem_iff_getElem.1 hv
   have := h6 i hi
   rwa [oo hi] at this
  ·rw [List.pairwise_iff_getElem]
   intro i j hi hj hij
   unfold bL lm at h
   rw [aL] at h
   have hg := List.all_eq_true.1 h.2 j (List.mem_range.2 hj)
   unfold ll fv at hg
   rw [aL] at hg
   have := List.all_eq_true.1 hg.2 i (List.mem_range.2 hij)
   rw [oo hi, oo hj] at this
   rw [BY]; exact this
 ·intro h
  unfold bL lT
  have e1 : s.ZE.all jP = true := List.all_eq_true.2 fun g hg => by have := h.sm g hg; unfold jP; rw [decide_eq_true_eq]; omega
  have e2 : lm s.Now (aY s) (aY s).length = true := by
   unfold lm
   refine List.all_eq_true.2 fun i hi => ?_
   have hi := List.mem_range.1 hi
   unfold ll fv
   rw [oo hi, aL]
   refine ⟨h.vs _ (List.getElem_mem hi), List.all_eq_true.2 fun m hm => ?_⟩
   have hm := List.mem_range.1 hm
   have := List.pairwise_iff_getElem.1 h.ap m i (by omega) hi hm
   rw [oo (by omega), BY]; exact this
  have l1 := h.l1; have l8 := h.l8; have n0 := h.n0; have n1 := h.n1
  rw [e1, e2]
  simp only [aB, aL, decide_eq_true_eq, and_true]
  omega
def VN (s : Store) (keep : List Int) (h : bL s = true) : aY (ig s keep) = (aY s).filter fun v => kI v keep := by
 rw [Be h]
 unfold aY
 dsimp only
 generalize s.ZE = l
 induction l with
 | nil => rfl
 | cons x l ih => rw [List.map_cons, List.flatten_cons, List.flatten_cons, fK, ih]; rfl
def VO {s : Store} (keep : List Int) (h : bL s = true) : bL (ig s keep) = true := by
 have k := iS.1 h
 have e := VN s keep h
 rw [iS]
 have hr := Be (keep := keep) h
 refine ⟨?_, ?_, ?_, ?_, ?_, ?_, ?_⟩
 ·rw [hr]; show 1 ≤ (s.ZE.map _).length; rw [am]; exact k.l1
 ·rw [hr]; show (s.ZE.map _).length ≤ 8; rw [am]; exact k.l8
 ·rw [hr]; exact k.n0
 ·rw [hr]; exact k.n1
 ·rw [hr]
  intro g hg
  obtain ⟨x, hx, rfl⟩ := List.mem_map.1 hg
  exact Nat.le_trans (il _ _) (k.sm x hx)
 ·rw [e, show (ig s keep).Now = s.Now by rw [hr]]
  intro v hv
  exact k.vs v (List.mem_filter.1 hv).1
 ·rw [e]; exact k.ap.filter _
def VP {s : Store} (keep : List Int) : (ig s keep).ZE.length = s.ZE.length ∧ (ig s keep).Now = s.Now := by
 unfold ig
 split
 ·exact ⟨am _, rfl⟩
 ·exact ⟨rfl, rfl⟩
def BZ {n : Int} {v : aM} (h : cD n v = true) : cD (n + 1) v = true := by
 unfold cD at *
 simp only [aL, Bool.or_eq_true, aB, decide_eq_true_eq] at *
 exact ⟨h.1, by omega, by omega⟩
def Ca {α : Type} {l : List α} {i : Nat} {x : α} (h : i < l.length) : l.set i x = l.take i ++ x :: l.drop (i + 1) := by
 rw [List.set_eq_take_append_cons_drop, if_pos h]
def VQ {s : Store} {i k : Nat} (hi : i < s.ZE.length) (hk : k < s.ZE[i].length) : aY s = ((s.ZE.take i).flatten ++ s.ZE[i].take k) ++ s.ZE[i][k] :: (s.ZE[i].drop (k + 1) ++ (s.ZE.drop (i + 1)).flatten) := by
 have e1 := wU hi
 have e2 : s.ZE[i] = s.ZE[i].take k ++ s.ZE[i][k] :: s.ZE[i].drop (k + 1) := by rw [← List.drop_eq_getElem_cons hk, fq]
 rw [e1]
 unfold cV
 conv => lhs; rw [e2]
 simp only [bl, List.cons_append]
def VR {s : Store} {i k : Nat} {v : aM} {n : Int} (hi : i < s.ZE.length) (hk : k < s.ZE[i].length) : aY ⟨s.ZE.set i (s.ZE[i].set k v), n⟩ = ((s.ZE.take i).flatten ++ s.ZE[i].take k) ++ v :: (s.ZE[i].drop (k + 1) ++ (s.ZE.drop (i + 1)).flatten) := by
 unfold aY
 dsimp only
 rw [Ca hi, List.flatten_append, List.flatten_cons, Ca hk]
 simp only [bl, List.cons_append]
def VS {L : List (List aM)} {r : Nat} {v : aM} {n : Int} (hr : r < L.length) : (aY ⟨rO L r v, n⟩).Perm (v :: aY ⟨L, n⟩) := by
 unfold aY
 dsimp only
 rw [rQ hr, Ca hr, List.flatten_append, List.flatten_cons]
 have e : L.flatten = (L.take r).flatten ++ (L[r] ++ (L.drop (r + 1)).flatten) := by
  rw [← List.flatten_cons, ← List.flatten_append, ← List.drop_eq_getElem_cons hr, fq]
 rw [e]
 have : (L.take r).flatten ++ (L[r] ++ [v] ++ (L.drop (r + 1)).flatten) = ((L.take r).flatten ++ L[r]) ++ v :: (L.drop (r + 1)).flatten := by simp only [bl, List.cons_append, List.nil_append]
 rw [this]
 refine List.perm_middle.trans ?_
 rw [bl]
def Mi {id : Int} {v : aM} : iJ id v = true ↔ v.Id = id ∧ v.ZP = -1 := by unfold iJ; simp
def VT {s : Store} {id : Int} (h : ¬ 0 ≤ cf s id) : ∀ v ∈ aY s, v.Id = id → v.ZP ≠ -1 := by
 intro v hv hid hd
 have hall : s.ZE.any (ii id) = true := by
  unfold aY at hv
  obtain ⟨g, hg, hv⟩ := List.mem_flatten.1 hv
  exact List.any_eq_true.2 ⟨g, hg, List.any_eq_true.2 ⟨v, hv, Mi.2 ⟨hid, hd⟩⟩⟩
 unfold cf at h
 rw [if_pos hall] at h
 omega
def Cb {a b : aM} (h : eB a b = true) (hid : a.Id = b.Id) : (a.ZP ≠ -1 ∧ a.ZP ≤ b.ZT) ∨ (b.ZP ≠ -1 ∧ b.ZP ≤ a.ZT) := by
 unfold eB at h
 simp only [hid, beq_self_eq_true, Bool.not_true, Bool.false_or, Bool.or_eq_true, aL, Bool.not_eq_true', beq_eq_false_iff_ne, decide_eq_true_eq] at h
 exact h
def Cc {a b : aM} (h : a.Id = b.Id → (a.ZP ≠ -1 ∧ a.ZP ≤ b.ZT) ∨ (b.ZP ≠ -1 ∧ b.ZP ≤ a.ZT)) : eB a b = true := by
 unfold eB
 by_cases hid : a.Id = b.Id
 ·have := h hid
  simp only [hid, beq_self_eq_true, Bool.not_true, Bool.false_or, Bool.or_eq_true, aL, Bool.not_eq_true', beq_eq_false_iff_ne, decide_eq_true_eq]
  exact this
 ·rw [show (a.Id == b.Id) = false by rw [beq_eq_false_iff_ne]; exact hid]; rfl
def xA {n : Int} {v : aM} (h : cD n v = true) : bp ⟨v.Id, v.Values⟩ = true ∧ 0 ≤ v.ZT ∧ v.ZT ≤ n ∧ (v.ZP = -1 ∨ (v.ZT + 1 ≤ v.ZP ∧ v.ZP ≤ n)) := by
 unfold cD at h
 simp only [aL, Bool.or_eq_true, aB, decide_eq_true_eq] at h
 exact ⟨h.1, h.2.1.1, h.2.1.2, h.2.2⟩
def Cd {n : Int} {v : aM} (h : bp ⟨v.Id, v.Values⟩ = true) (h1 : 0 ≤ v.ZT ∧ v.ZT ≤ n) (h2 : v.ZP = -1 ∨ (v.ZT + 1 ≤ v.ZP ∧ v.ZP ≤ n)) : cD n v = true := by
 unfold cD
 simp only [aL, Bool.or_eq_true, aB, decide_eq_true_eq]
 exact ⟨h, h1, h2⟩
def Ce : ∀ {a b : aM}, eB a b = true → eB b a = true := fun {a b} h => by rw [BY]; exact h
structure VU (s : Store) (u : ZI) : Prop where
 vs : ∀ v ∈ aY ⟨dQ s u, s.Now + 1⟩, cD (s.Now + 1) v = true
 ap : (aY ⟨dQ s u, s.Now + 1⟩).Pairwise fun a b => eB a b = true
 no : ∀ v ∈ aY ⟨dQ s u, s.Now + 1⟩, v.Id = u.Row.Id → v.ZP ≠ -1
def VV {s : Store} {u : ZI} (h : bL s = true) : VU s u := by
 have k := iS.1 h
 by_cases hf : 0 ≤ cf s u.Row.Id
 ·obtain ⟨i, j, hi, hj, h1, h2, ha⟩ := pf hf
  obtain ⟨hid, hdd⟩ := Mi.1 ha
  have e1 := VQ hi hj
  have e2 := VR (v := jg (s.Now + 1) s.ZE[i][j]) (n := s.Now + 1) hi hj
  have kv := k.vs; have ka := k.ap
  rw [e1] at kv ka
  rw [List.pairwise_append, List.pairwise_cons] at ka
  obtain ⟨ka1, ⟨ka2, ka3⟩, ka4⟩ := ka
  have hv0 := xA (kv s.ZE[i][j] (by simp))
  have mem : ∀ v ∈ ((s.ZE.take i).flatten ++ s.ZE[i].take j) ++ jg (s.Now + 1) s.ZE[i][j] :: (s.ZE[i].drop (j + 1) ++ (s.ZE.drop (i + 1)).flatten), v = jg (s.Now + 1) s.ZE[i][j] ∨ v ∈ ((s.ZE.take i).flatten ++ s.ZE[i].take j) ∨ v ∈ (s.ZE[i].drop (j + 1) ++ (s.ZE.drop (i + 1)).flatten) := by
   intro v hv
   rcases List.mem_append.1 hv with hv | hv
   ·exact .inr (.inl hv)
   ·rcases List.mem_cons.1 hv with hv | hv
    ·exact .inl hv
    ·exact .inr (.inr hv)
  have hk : ∀ w : aM, eB s.ZE[i][j] w = true → eB (jg (s.Now + 1) s.ZE[i][j]) w = true := by
   intro w hw
   refine Cc fun he => ?_
   have := Cb hw he
   rcases this with ⟨h3, _⟩ | ⟨h3, h4⟩
   ·exact absurd hdd h3
   ·exact .inr ⟨h3, h4⟩
  refine ⟨?_, ?_, ?_⟩
  ·rw [(mK hi hj h1 h2).1, e2]
   intro v hv
   rcases mem v hv with rfl | hv | hv
   ·exact Cd hv0.1 ⟨hv0.2.1, by show s.ZE[i][j].ZT ≤ s.Now + 1; omega⟩ (.inr ⟨by show s.ZE[i][j].ZT + 1 ≤ s.Now + 1; omega, Int.le_refl _⟩)
   ·exact BZ (kv v (List.mem_append.2 (.inl hv)))
   ·exact BZ (kv v (List.mem_append.2 (.inr (List.mem_cons_of_mem _ hv))))
  ·rw [(mK hi hj h1 h2).1, e2, List.pairwise_append, List.pairwise_cons]
   refine ⟨ka1, ⟨fun w hw => hk w (ka2 w hw), ka3⟩, fun a ha b hb => ?_⟩
   rcases List.mem_cons.1 hb with rfl | hb
   ·exact Ce (hk a (Ce (ka4 a ha _ List.mem_cons_self)))
   ·exact ka4 a ha b (List.mem_cons_of_mem _ hb)
  ·rw [(mK hi hj h1 h2).1, e2]
   intro v hv hvid
   rcases mem v hv with rfl | hv | hv
   ·show s.Now + 1 ≠ -1
    have := k.n0; omega
   ·have := Cb (ka4 v hv _ List.mem_cons_self) (by rw [hvid, hid])
    rcases this with ⟨h3, _⟩ | ⟨h3, _⟩
    ·exact h3
    ·exact absurd hdd h3
   ·have := Cb (ka2 v hv) (by rw [hvid, hid])
    rcases this with ⟨h3, _⟩ | ⟨h3, _⟩
    ·exact absurd hdd h3
    ·exact h3
 ·have e := (pg hf).1
  have e3 : aY ⟨dQ s u, s.Now + 1⟩ = aY s := by unfold aY; dsimp only; rw [e]
  have hn := VT hf
  refine ⟨?_, ?_, ?_⟩
  ·rw [e3]; intro v hv; exact BZ (k.vs v hv)
  ·rw [e3]; exact k.ap
  ·rw [e3]; exact hn
def VW {u : ZI} (h : gO u = true) (hk : u.Kind = 3) : 0 ≤ u.Field ∧ u.Field ≤ 2 ∧ 0 ≤ u.Value ∧ u.Value ≤ 99 ∧ 0 ≤ u.Row.Id ∧ u.Row.Id ≤ 999 := by
 unfold gO at h
 rw [if_neg (by omega), if_neg (by omega), if_pos hk] at h
 simp only [qg, aL, aB, decide_eq_true_eq] at h
 omega
def VX {u : ZI} (h : gO u = true) (hk : u.Kind = 1) : bp u.Row = true := by
 unfold gO at h
 rw [if_pos hk] at h
 simp only [aL] at h
 exact h.1
def VY {u : ZI} (h : gO u = true) : u.Kind = 1 ∨ u.Kind = 2 ∨ u.Kind = 3 := by
 unfold gO at h
 by_cases h1 : u.Kind = 1
 ·exact .inl h1
 ·by_cases h2 : u.Kind = 2
  ·exact .inr (.inl h2)
  ·by_cases h3 : u.Kind = 3
   ·exact .inr (.inr h3)
   ·rw [if_neg h1, if_neg h2, if_neg h3] at h; cases h
def xB {r : Row} : bp r = true ↔ (0 ≤ r.Id ∧ r.Id ≤ 999) ∧ r.Values.length = 3 ∧ ∀ x ∈ r.Values, 0 ≤ x ∧ x ≤ 99 := by
 unfold bp iy
 simp only [aL, aB, decide_eq_true_eq, mm]
 constructor
 ·rintro ⟨h1, h2, h3⟩; exact ⟨h2, by omega, h1⟩
 ·rintro ⟨h1, h2, h3⟩; exact ⟨h3, h1, by omega⟩
def VZ {s : Store} {u : ZI} (h : iL s u = true) (hk : ¬ u.Kind = 2) : bp ⟨u.Row.Id, iK s u⟩ = true := by
 obtain ⟨h1, h2, h3, h4, h5⟩ := rP h
 have k := iS.1 h1
 rcases VY h2 with k1 | k2 | k3
 ·have hr := VX h2 k1
  have hf : ¬ 0 ≤ cf s u.Row.Id := fun hc => (h4.1 hc) k1
  unfold iK
  rw [if_neg (by omega), (pg hf).2]
  exact hr
 ·exact absurd k2 hk
 ·have hu := VW h2 k3
  have hf : 0 ≤ cf s u.Row.Id := h4.2 (by omega)
  obtain ⟨i, j, hi, hj, e1, e2, ha⟩ := pf hf
  have hv := (xA (rH h1 hi hj)).1
  rw [xB] at hv
  unfold iK
  rw [if_pos k3, (mK hi hj e1 e2).2, xB]
  refine ⟨⟨hu.2.2.2.2.1, hu.2.2.2.2.2⟩, by rw [List.length_set]; exact hv.2.1, fun x hx => ?_⟩
  rcases List.mem_or_eq_of_mem_set hx with hx | rfl
  ·exact hv.2.2 x hx
  ·exact ⟨hu.2.2.1, hu.2.2.2.1⟩
def Mj (s : Store) (u : ZI) (h : bL s = true) : bL (eh s u).1 = true := by
 cases ha : iL s u with
 | false => rw [ug ha]; exact h
 | true =>
  obtain ⟨h1, h2, h3, h4, h5⟩ := rP ha
  have k := iS.1 h
  have hu := VV (u := u) h
  have hlen := ui s u
  have hsm : ∀ g ∈ dQ s u, g.length ≤ 4 := by
   intro g hg
   obtain ⟨i, hi, rfl⟩ := List.mem_iff_getElem.1 hg
   have hi2 : i < s.ZE.length := by omega
   rw [Bj s u hi hi2]; exact k.sm _ (List.getElem_mem hi2)
  by_cases hk : u.Kind = 2
  ·rw [uh ha hk, iS]
   exact ⟨by dsimp only; rw [hlen]; exact k.l1, by dsimp only; rw [hlen]; exact k.l8, by dsimp only; have := k.n0; omega, by dsimp only; omega, hsm, hu.vs, hu.ap⟩
  ·obtain ⟨r, hr, hrm, hr4⟩ := Bg (h5.resolve_left hk)
   have hru : r < (dQ s u).length := by omega
   rw [xc ha hk hrm, iS]
   have hp := VS (v := lr s u) (n := s.Now + 1) hru
   have hnv : cD (s.Now + 1) (lr s u) = true := Cd (VZ ha hk) ⟨by show 0 ≤ s.Now + 1; have := k.n0; omega, Int.le_refl _⟩ (.inl rfl)
   refine ⟨?_, ?_, by dsimp only; have := k.n0; omega, by dsimp only; omega, ?_, ?_, ?_⟩
   ·dsimp only; rw [rQ hru, List.length_set, hlen]; exact k.l1
   ·dsimp only; rw [rQ hru, List.length_set, hlen]; exact k.l8
   ·dsimp only
    rw [rQ hru]
    intro g hg
    rcases List.mem_or_eq_of_mem_set hg with hg | rfl
    ·exact hsm g hg
    ·have h6 := Bj s u hru hr
     rw [aD, h6]; simp; omega
   ·intro v hv
    rcases List.mem_cons.1 (hp.mem_iff.1 hv) with rfl | hv
    ·exact hnv
    ·exact hu.vs v hv
   ·rw [hp.pairwise_iff (fun h => Ce h), List.pairwise_cons]
    refine ⟨fun w hw => Cc fun he => ?_, hu.ap⟩
    have h6 := hu.no w hw he.symm
    have h7 := xA (hu.vs w hw)
    rcases h7.2.2.2 with h8 | h8
    ·exact absurd h8 h6
    ·exact .inr ⟨h6, h8.2⟩
section
attribute [local irreducible] ak gn
def Mk {w : Int} {c : au} (hw : 0 < w) : ∀ {k : Nat}, ∀ x ∈ (gQ w c k).1, 0 ≤ x ∧ x < w
 | 0, x, h => nomatch h
 | k + 1, x, h => by
  rw [gQ] at h
  rcases List.mem_append.1 h with h | h
  ·exact Mk hw x h
  ·simp at h; subst h
   exact ⟨dh _ _, di _ hw⟩
def Wa (c : au) : 0 < (aX c [3, 6, 100]).1 ∧ (aX c [3, 6, 100]).1 ≤ 100 := by
 have h := AQ c (l := [3, 6, 100]) (by decide)
 simp at h; omega
def Wb {c : au} {id : Int} (h : 0 ≤ id ∧ id ≤ 999) : bp (fi c id).1 = true := by
 have hw := Wa c
 unfold bp fi
 simp only [aL, mm, decide_eq_true_eq]
 refine ⟨fun x hx => ?_, wK.2 h, by rw [qk]; rfl⟩
 have := Mk hw.1 x hx
 exact wK.2 (by omega)
end
def pp : Row := ⟨0, []⟩
def pq (a b : Row) : Bool := decide (a.Id < b.Id)
def gF (l : List Row) : Bool := dE pp bp pq l && decide ((l.length : Int) ≤ 32)
def rW (r : Row) : aM := ⟨r.Id, r.Values, 0, -1⟩
def mR (rows : List Row) (n i k : Nat) : List aM := (List.range k).map fun j => rW (rows.getD (i + j * n) pp)
def mS (len n i : Nat) : Nat := (len - i + (n - 1)) / n
def mT (rows : List Row) (n i : Nat) : List aM := mR rows n i (mS rows.length n i)
def lv (rows : List Row) (n k : Nat) : List (List aM) := (List.range k).map (mT rows n)
def md (rows : List Row) (n : Int) : Bool := (gF rows && aB n 1 8) && decide ((rows.length : Int) ≤ n * 4)
def qA (rows : List Row) (n : Int) : Store × Bool := if md rows n then (⟨lv rows n.toNat n.toNat, 0⟩, true) else (⟨[], 0⟩, false)
def Ml {rows : List Row} {n : Int} (h : md rows n = false) : qA rows n = (⟨[], 0⟩, false) := if_neg (by rw [h]; simp)
def Cf {rows : List Row} {n : Int} (h : md rows n = true) : qA rows n = (⟨lv rows n.toNat n.toNat, 0⟩, true) := if_pos h
def Cg {rows : List Row} {n : Int} (h : md rows n = true) : gF rows = true ∧ (1 ≤ n ∧ n ≤ 8) ∧ (rows.length : Int) ≤ n * 4 := by
 unfold md at h
 simp only [aL, aB, decide_eq_true_eq] at h
 exact ⟨h.1.1, h.1.2, h.2⟩
def up {len n i k : Nat} (hn : 0 < n) (h : i ≤ len) : i + k * n < len ↔ k < mS len n i := by
 unfold mS
 rw [Nat.lt_iff_add_one_le (m := k), Nat.le_div_iff_mul_le hn, Nat.add_mul, Nat.one_mul]
 omega
def Ch {len n i : Nat} (hn : 0 < n) (h : len ≤ i) : mS len n i = 0 := by
 unfold mS
 exact Nat.div_eq_of_lt (by omega)
def Wc {rows : List Row} {n i k : Nat} : mR rows n i (k + 1) = mR rows n i k ++ [rW (rows.getD (i + k * n) pp)] := by
 unfold mR; rw [List.range_succ, bb]; rfl
def Ci {rows : List Row} {n i k : Nat} : (mR rows n i k).length = k := by unfold mR; rw [am, List.length_range]
def Wd {rows : List Row} {n k : Nat} : lv rows n (k + 1) = lv rows n k ++ [mT rows n k] := by
 unfold lv; rw [List.range_succ, bb]; rfl
def Cj {rows : List Row} {n k : Nat} : (lv rows n k).length = k := by unfold lv; rw [am, List.length_range]
def We {l : List Row} (h : gF l = true) : l.length ≤ 32 := by
 unfold gF at h
 rw [aL, decide_eq_true_eq] at h
 omega
def Mm {l : List Row} (h : gF l = true) {k : Nat} (hk : k < l.length) : bp l[k] = true := by
 unfold gF at h
 rw [aL] at h
 exact tR h.1 hk
def Mn {l : List Row} (h : gF l = true) : ∀ (i j : Nat) (hj : j < l.length) (hij : i < j), l[i].Id < l[j].Id := by
 have h := h
 unfold gF at h
 rw [aL] at h
 have step : ∀ i (hi : i + 1 < l.length), l[i].Id < l[i + 1].Id := by
  intro i hi
  have := List.all_eq_true.1 h.1 (i + 1) (List.mem_range.2 hi)
  rw [jb, show i + 1 - 1 = i from rfl, et hi, et (show i < l.length by omega)] at this
  rcases this.2 with h0 | h0
  ·omega
  ·unfold pq at h0; simpa using h0
 intro i j hj hij
 induction j with
 | zero => omega
 | succ j ih =>
  by_cases he : i = j
  ·subst he; exact step i hj
  ·have h1 := ih (by omega) (by omega)
   have h2 := step j hj
   omega
def Mo {rows : List Row} {n i : Nat} (hn : 0 < n) (hl : rows.length ≤ n * 4) : (mT rows n i).length ≤ 4 := by
 unfold mT
 rw [Ci]
 unfold mS
 refine Nat.le_of_lt_succ ?_
 rw [Nat.div_lt_iff_lt_mul hn]
 have : (4 + 1) * n = n * 4 + n := by rw [Nat.add_mul, Nat.mul_comm]; omega
 show _ < (4 + 1) * n
 rw [this]; omega
def Ck {rows : List Row} {n i : Nat} (hn : 0 < n) {v : aM} (hv : v ∈ mT rows n i) : ∃ j, ∃ h : i + j * n < rows.length, v = rW rows[i + j * n] := by
 by_cases hi : i ≤ rows.length
 ·unfold mT mR at hv
  obtain ⟨j, hj, rfl⟩ := List.mem_map.1 hv
  have hj := (up hn hi).2 (List.mem_range.1 hj)
  exact ⟨j, hj, by rw [et hj]⟩
 ·unfold mT at hv
  rw [Ch hn (by omega)] at hv
  simp [mR] at hv
def Wf {rows : List Row} {n : Int} (h : md rows n = true) : bL (qA rows n).1 = true := by
 obtain ⟨h1, h2, h3⟩ := Cg h
 rw [Cf h, iS]
 have hn : 0 < n.toNat := by omega
 have mem : ∀ v ∈ aY ⟨lv rows n.toNat n.toNat, 0⟩, ∃ i, ∃ hi : i < rows.length, v = rW rows[i] := by
  intro v hv
  unfold aY lv at hv
  obtain ⟨g, hg, hv⟩ := List.mem_flatten.1 hv
  obtain ⟨i, _, rfl⟩ := List.mem_map.1 hg
  obtain ⟨j, hj, rfl⟩ := Ck hn hv
  exact ⟨_, hj, rfl⟩
 have apart : ∀ i j (hi : i < rows.length) (hj : j < rows.length), i ≠ j → eB (rW rows[i]) (rW rows[j]) = true := by
  intro i j hi hj hij
  refine Cc fun he => ?_
  exfalso
  have he : rows[i].Id = rows[j].Id := he
  rcases Nat.lt_or_gt_of_ne hij with k | k
  ·have := Mn h1 i j hj k; omega
  ·have := Mn h1 j i hi k; omega
 refine ⟨by dsimp only; rw [Cj]; omega, by dsimp only; rw [Cj]; omega, Int.le_refl 0, by show (0 : Int) ≤ 100000; decide, fun g hg => ?_, fun v hv => ?_, ?_⟩
 ·unfold lv at hg
  obtain ⟨i, _, rfl⟩ := List.mem_map.1 hg
  exact Mo hn (by omega)
 ·obtain ⟨i, hi, rfl⟩ := mem v hv
  exact Cd (Mm h1 hi) ⟨Int.le_refl 0, Int.le_refl 0⟩ (.inl rfl)
 ·unfold aY lv
  rw [List.pairwise_flatten, List.pairwise_map]
  constructor
  ·intro g hg
   obtain ⟨i, hi, rfl⟩ := List.mem_map.1 hg
   have hi := List.mem_range.1 hi
   unfold mT mR
   by_cases hil : i ≤ rows.length
   ·rw [List.pairwise_map]
    refine List.Pairwise.imp_of_mem ?_ List.pairwise_lt_range
    intro a b ha hb hab
    have ha := (up hn hil).2 (List.mem_range.1 ha)
    have hb := (up hn hil).2 (List.mem_range.1 hb)
    rw [et ha, et hb]
    refine apart _ _ ha hb ?_
    have := Nat.mul_lt_mul_of_pos_right hab hn
    omega
   ·rw [Ch hn (by omega)]; simp
  ·refine List.Pairwise.imp_of_mem ?_ List.pairwise_lt_range
   intro a b ha hb hab v hv w hw
   have ha := List.mem_range.1 ha
   have hb := List.mem_range.1 hb
   obtain ⟨j, hj, rfl⟩ := Ck hn hv
   obtain ⟨k, hk, rfl⟩ := Ck hn hw
   refine apart _ _ hj hk ?_
   intro he
   have := congrArg (· % n.toNat) he
   simp only [Nat.add_mul_mod_self_right] at this
   rw [Nat.mod_eq_of_lt ha, Nat.mod_eq_of_lt hb] at this
   omega
def mU (c : au) (s : Store) : Int × au :=
 if (aY s).length = 0 then ((ak c 12).1, (ak c 12).2)
 else if (ak (ak c 12).2 4).1 = 0 then ((ak c 12).1, (ak (ak c 12).2 4).2)
 else (((aY s).getD (ak (ak (ak c 12).2 4).2 (aY s).length).1.toNat v0).Id, (ak (ak (ak c 12).2 4).2 (aY s).length).2)
def cl (c : au) (s : Store) : Int × au := ak (mU c s).2 3
def eC (c : au) (s : Store) : ZI × au :=
 if (cl c s).1 = 0 then (⟨1, (fi (ak (cl c s).2 20).2 (ak (cl c s).2 20).1).1, 0, 0⟩, (fi (ak (cl c s).2 20).2 (ak (cl c s).2 20).1).2)
 else if (cl c s).1 = 1 then (⟨2, ⟨(mU c s).1, []⟩, 0, 0⟩, (cl c s).2)
 else (⟨3, ⟨(mU c s).1, []⟩, (ak (cl c s).2 3).1, (ak (ak (cl c s).2 3).2 6).1⟩, (ak (ak (cl c s).2 3).2 6).2)
def Wg {c : au} {s : Store} (h : (aY s).length = 0) : mU c s = ((ak c 12).1, (ak c 12).2) := if_pos h
def Wh {c : au} {s : Store} (h : ¬ (aY s).length = 0) (h2 : (ak (ak c 12).2 4).1 = 0) : mU c s = ((ak c 12).1, (ak (ak c 12).2 4).2) := by unfold mU; rw [if_neg h, if_pos h2]
def Wi {c : au} {s : Store} (h : ¬ (aY s).length = 0) (h2 : ¬ (ak (ak c 12).2 4).1 = 0) : mU c s = (((aY s).getD (ak (ak (ak c 12).2 4).2 (aY s).length).1.toNat v0).Id, (ak (ak (ak c 12).2 4).2 (aY s).length).2) := by unfold mU; rw [if_neg h, if_neg h2]
def Mp {c : au} {s : Store} (h : (cl c s).1 = 0) : eC c s = (⟨1, (fi (ak (cl c s).2 20).2 (ak (cl c s).2 20).1).1, 0, 0⟩, (fi (ak (cl c s).2 20).2 (ak (cl c s).2 20).1).2) := if_pos h
def Mq {c : au} {s : Store} (h : ¬ (cl c s).1 = 0) (h2 : (cl c s).1 = 1) : eC c s = (⟨2, ⟨(mU c s).1, []⟩, 0, 0⟩, (cl c s).2) := by unfold eC; rw [if_neg h, if_pos h2]
def Mr {c : au} {s : Store} (h : ¬ (cl c s).1 = 0) (h2 : ¬ (cl c s).1 = 1) : eC c s = (⟨3, ⟨(mU c s).1, []⟩, (ak (cl c s).2 3).1, (ak (ak (cl c s).2 3).2 6).1⟩, (ak (ak (cl c s).2 3).2 6).2) := by unfold eC; rw [if_neg h, if_neg h2]
def Ms (c : au) (s : Store) : oO (eC c s).1 ≤ 3 := by
 unfold eC
 split
 ·have := JX (ak (cl c s).2 20).2 (ak (cl c s).2 20).1
  unfold oO; dsimp only; simp only [bh]; omega
 ·split <;> (unfold oO iZ; simp only [dP, bh]; decide)
structure qB where
 s : Store
 c : au
def Wj (x : qB) : qB := ⟨(eh x.s (eC x.c x.s).1).1, (eC x.c x.s).2⟩
def me (x : qB) : Nat → qB
 | 0 => x
 | k + 1 => Wj (me x k)
def lx (c : au) : List Row × au := eN c 7
def mf (c : au) : qB := ⟨(qA (lx c).1 (2 + (ak (lx c).2 3).1)).1, (ak (ak (lx c).2 3).2 6).2⟩
def oq (c : au) : Int := (ak (ak (lx c).2 3).2 6).1
def br (c : au) : qB := me (mf c) (oq c).toNat
def Mt {c : au} {id : Int} (h : 0 ≤ id ∧ id ≤ 2) : ∀ {k : Nat}, k ≤ 300 → (∀ r ∈ (cr id c k).l, bp r = true ∧ r.Id < (cr id c k).id) ∧ (cr id c k).l.Pairwise fun a b => a.Id < b.Id
 | 0, _ => ⟨fun r hr => by simp [cr] at hr, List.Pairwise.nil⟩
 | k + 1, hk => by
  obtain ⟨h1, h2⟩ := Mt (c := c) h (k := k) (by omega)
  have hid := JY (c := c) (k := k) h
  have hb := dh (fi (cr id c k).c (cr id c k).id).2 3
  have hr := Wb (c := (cr id c k).c) (id := (cr id c k).id) ⟨hid.1, by omega⟩
  have hri : (fi (cr id c k).c (cr id c k).id).1.Id = (cr id c k).id := rfl
  rw [cr]
  dsimp only
  refine ⟨fun r hr2 => ?_, ?_⟩
  ·rcases List.mem_append.1 hr2 with hr2 | hr2
   ·have := h1 r hr2; exact ⟨this.1, by omega⟩
   ·rw [List.mem_singleton.1 hr2]; exact ⟨hr, by omega⟩
  ·rw [List.pairwise_append]
   refine ⟨h2, by simp, fun a ha b hb2 => ?_⟩
   rw [List.mem_singleton.1 hb2, hri]
   exact (h1 a ha).2
def Wk {l : List Row} (h1 : ∀ r ∈ l, bp r = true) (h2 : l.Pairwise fun a b => a.Id < b.Id) (h3 : l.length ≤ 32) : gF l = true := by
 unfold gF
 rw [uo h1 (h2.imp fun {a b} k => by unfold pq; simpa using k), Bool.true_and, decide_eq_true_eq]
 omega
def Wl (c : au) {most : Int} (h : 0 ≤ most ∧ most ≤ 32) : gF (eN c most).1 = true ∧ ((eN c most).1.length : Int) ≤ most := by
 have a1 := dh c 3
 have a2 := di c (n := 3) (by decide)
 have b1 := dh (ak c 3).2 (most + 1)
 have b2 := di (ak c 3).2 (n := most + 1) (by omega)
 have k := Mt (c := (ak (ak c 3).2 (most + 1)).2) (id := (ak c 3).1) ⟨a1, by omega⟩ (k := (ak (ak c 3).2 (most + 1)).1.toNat) (by omega)
 have hl := AR (id := (ak c 3).1) (c := (ak (ak c 3).2 (most + 1)).2) (k := (ak (ak c 3).2 (most + 1)).1.toNat)
 unfold eN wR
 dsimp only
 exact ⟨Wk (fun r hr => (k.1 r hr).1) k.2 (by omega), by omega⟩
def Wm (c : au) : md (lx c).1 (2 + (ak (lx c).2 3).1) = true := by
 have h := Wl c (most := 7) (by decide)
 have b1 := dh (lx c).2 3
 have b2 := di (lx c).2 (n := 3) (by decide)
 have hl : ((lx c).1.length : Int) ≤ 7 := h.2
 have ha : gF (lx c).1 = true := h.1
 unfold md
 rw [ha]
 simp only [aB, Bool.true_and, aL, decide_eq_true_eq]
 omega
def Mu (c : au) : bL (mf c).s = true := Wf (Wm c)
def Cl {x : qB} (h : bL x.s = true) : ∀ k, bL (me x k).s = true
 | 0 => h
 | k + 1 => Mj _ _ (Cl h k)
def uq (c : au) : bL (br c).s = true := Cl (Mu c) _
def rY {s : Store} (h : bL s = true) : cq s ≤ 200 := by
 have k := iS.1 h
 have hv : ∀ g ∈ s.ZE, cb g ≤ 16 := by
  intro g hg
  have h4 := k.sm g hg
  have : ∀ l : List aM, (∀ v ∈ l, cw v = 3) → (l.map cw).sum = 3 * l.length := by
   intro l
   induction l with
   | nil => intro _; rfl
   | cons v l ih =>
    intro hl
    rw [List.map_cons, List.sum_cons, hl v List.mem_cons_self, ih fun w hw => hl w (List.mem_cons_of_mem _ hw), List.length_cons]; omega
  have h3 := this g fun v hv => by
   have := (xB.1 (xA (k.vs v (List.mem_flatten.2 ⟨g, hg, hv⟩))).1).2.1
   have this : v.Values.length = 3 := this
   unfold cw; simp only [dP, bh]; omega
  unfold cb; omega
 have hs : (s.ZE.map cb).sum ≤ 16 * s.ZE.length := by
  generalize s.ZE = L at hv
  induction L with
  | nil => simp
  | cons g L ih =>
   have h1 := hv g List.mem_cons_self
   have h2 := ih fun x hx => hv x (List.mem_cons_of_mem _ hx)
   rw [List.map_cons, List.sum_cons, List.length_cons]; omega
 have l8 := k.l8
 unfold cq gN
 simp only [bh]; omega
section
def mV (k : Nat) : List Int := (List.range k).map fun i : Nat => (i : Int)
def Wn (k : Nat) : mV (k + 1) = mV k ++ [(k : Int)] := by simp [mV, List.range_succ]
def Cm (k : Nat) : (mV k).length = k := by simp [mV]
def eU (e : ay) (q : ZG) (l : Int) : ZF := ⟨q, e.Store.Now, mV e.Store.ZE.length, 0, 0, l, []⟩
def mW (x : Int) (a : ZF) : Bool := decide (a.ZG.Id < x)
def dI (l : List ZF) (x : Int) : Nat := (l.filter (mW x)).length
def kd (e : ay) (q : ZG) (l : Int) : List ZF := e.ZF.filter (mW q.Id) ++ eU e q l :: e.ZF.drop (dI e.ZF q.Id)
def mg (e : ay) (q : ZG) (l : Int) : Bool := ((aT e && bG q) && aB l 0 32) && (decide (dv e.ZF q.Id < 0) && decide ((e.ZF.length : Int) < 8))
def iT (e : ay) (q : ZG) (l : Int) : ay × Bool := if mg e q l then (⟨e.Store, e.ZJ, e.Order, kd e q l, e.Done, e.ZR, e.Steps⟩, true) else (e, false)
def Cn {e : ay} {q : ZG} {l : Int} (h : mg e q l = false) : iT e q l = (e, false) := if_neg (by rw [h]; simp)
def Co {e : ay} {q : ZG} {l : Int} (h : mg e q l = true) : iT e q l = (⟨e.Store, e.ZJ, e.Order, kd e q l, e.Done, e.ZR, e.Steps⟩, true) := if_pos h
def xC {e : ay} {q : ZG} {l : Int} (h : mg e q l = true) : aT e = true ∧ bG q = true ∧ (0 ≤ l ∧ l ≤ 32) ∧ dv e.ZF q.Id < 0 ∧ (e.ZF.length : Int) < 8 := by
 unfold mg at h
 simp only [aL, decide_eq_true_eq, aB] at h
 exact ⟨h.1.1.1, h.1.1.2, h.1.2, h.2.1, h.2.2⟩
def ur (x : Int) (zs : List (ZF × (Nat → Value))) : List (ZF × (Nat → Value)) := zs.filter fun z => mW x z.1
section
variable {zs : List (ZF × (Nat → Value))} {l : List ZF} {x : Int} {k : Nat}
def Mv (hz : zs.map Prod.fst = l) : (ur x zs).map Prod.fst = l.filter (mW x) := by
 subst hz; unfold ur; rw [List.filter_map]; rfl
def Wo (hz : zs.map Prod.fst = l) : (ur x zs).length = dI l x := by
 unfold dI; rw [← Mv hz, am]
def rZ {α : Type} (key : α → Int) (x : Int) : ∀ {l : List α}, l.Pairwise (fun a b => key a < key b) → l.filter (fun a => decide (key a < x)) = l.take (l.filter fun a => decide (key a < x)).length
 | [], _ => rfl
 | a :: l, h => by
  have ⟨h1, h2⟩ := List.pairwise_cons.1 h
  have ih := rZ key x h2
  rw [List.filter_cons]
  split
  ·rw [List.length_cons, List.take_succ_cons, ← ih]
  ·rename_i hc
   have hc : ¬ key a < x := by simpa using hc
   have : l.filter (fun a => decide (key a < x)) = [] := by
    rw [List.filter_eq_nil_iff]
    intro b hb
    have := h1 b hb
    simp; omega
   rw [this]; rfl
def Wp {e : ay} (hok : aT e = true) (hz : zs.map Prod.fst = e.ZF) : zs.Pairwise (fun a b => a.1.ZG.Id < b.1.ZG.Id) := by
 have := oj hok
 rw [← hz, List.pairwise_map] at this
 exact this
def Wq {e : ay} (hok : aT e = true) (hz : zs.map Prod.fst = e.ZF) : ur x zs = zs.take (dI e.ZF x) := by
 have h := rZ (fun z : ZF × (Nat → Value) => z.1.ZG.Id) x (Wp hok hz)
 have hl := Wo (x := x) hz
 unfold ur mW at *
 rw [h, hl]
def Wr {e : ay} : dI e.ZF x ≤ e.ZF.length := il _ _
def Mw {e : ay} (hok : aT e = true) (hk : k < e.ZF.length) : e.ZF[k].ZG.Id < x ↔ k < dI e.ZF x := by
 have h := rZ (fun a : ZF => a.ZG.Id) x (oj hok)
 have hc : dI e.ZF x = (e.ZF.filter fun a => decide (a.ZG.Id < x)).length := rfl
 rw [← hc] at h
 constructor
 ·intro hx
  have hm : e.ZF[k] ∈ e.ZF.filter fun a => decide (a.ZG.Id < x) := List.mem_filter.2 ⟨List.getElem_mem hk, by simpa using hx⟩
  rw [h] at hm
  obtain ⟨j, hj, hje⟩ := List.mem_iff_getElem.1 hm
  rw [bg] at hj
  rw [List.getElem_take] at hje
  have := un hok (show j < e.ZF.length by omega) hk (by rw [hje])
  omega
 ·intro hx
  have hm : e.ZF[k] ∈ e.ZF.take (dI e.ZF x) := by
   rw [xS]; exact ⟨k, by rw [bg]; omega, by rw [List.getElem_take]⟩
  rw [← h] at hm
  have := (List.mem_filter.1 hm).2
  simpa using this
def Mx {e : ay} (h : dv e.ZF x < 0) (hk : k < e.ZF.length) : e.ZF[k].ZG.Id ≠ x := by
 intro hx
 unfold dv at h
 rw [if_pos (rt hk (by unfold eT; simpa using hx))] at h
 omega
def ju (zs : List (ZF × (Nat → Value))) (zn : ZF × (Nat → Value)) (p k : Nat) : List (ZF × (Nat → Value)) := if p < k then zs.take p ++ zn :: (zs.take k).drop p else zs.take k
def Ws {zn : ZF × (Nat → Value)} {p : Nat} (hk : k ≤ zs.length) : (ju zs zn p k).length ≤ k + 1 := by
 unfold ju; split <;> simp <;> omega
def Wt {zn : ZF × (Nat → Value)} {p : Nat} (hk : k < zs.length) (h : k ≠ p) : ju zs zn p (k + 1) = ju zs zn p k ++ [zs[k]] := by
 unfold ju
 by_cases hp : p < k
 ·rw [if_pos (by omega), if_pos hp, cZ hk, List.drop_append_of_le_length (by rw [bg]; omega)]
  simp
 ·rw [if_neg (by omega), if_neg hp, cZ hk]
def Wu {zn : ZF × (Nat → Value)} {p : Nat} (hk : k < zs.length) (h : k = p) : ju zs zn p (k + 1) = ju zs zn p k ++ [zn] ++ [zs[k]] := by
 subst h
 unfold ju
 rw [if_pos (by omega), if_neg (by omega), cZ hk, List.drop_append_of_le_length (by rw [bg]; omega)]
 simp
def Wv {zn : ZF × (Nat → Value)} {p : Nat} (h : p < zs.length) : ju zs zn p zs.length = zs.take p ++ zn :: zs.drop p := by unfold ju; rw [if_pos h, bY]
def Ww {zn : ZF × (Nat → Value)} {p : Nat} (h : p = zs.length) : ju zs zn p zs.length ++ [zn] = zs.take p ++ zn :: zs.drop p := by subst h; unfold ju; rw [if_neg (by omega)]; simp
def Wx {zn : ZF × (Nat → Value)} {p : Nat} : ((zs.take p ++ zn :: zs.drop p) ++ []).Perm ([zn] ++ zs) := by
 rw [eH]
 refine List.perm_middle.trans ?_
 rw [fq]; exact List.Perm.refl _
def Wy {e : ay} {q : ZG} {li : Int} {kn : Nat → Value} (hok : aT e = true) (hz : zs.map Prod.fst = e.ZF) : (zs.take (dI e.ZF q.Id) ++ (eU e q li, kn) :: zs.drop (dI e.ZF q.Id)).map Prod.fst = kd e q li := by
 unfold kd
 rw [← Wq hok hz, bb, Mv hz, List.map_cons, List.map_drop, hz]
end
def Wz {e : ay} {q : ZG} {l : Int} : cS (eU e q l) = eM q + e.Store.ZE.length := by
 unfold eU cS
 simp only [dP, bh, Cm, gm, List.map_nil, List.sum_nil, List.length_nil]; omega
def WA (e : ay) (q : ZG) (l : Int) : bB (iT e q l).1 ≤ bB e + eM q + 10 := by
 unfold iT
 split
 ·rename_i h
  have hf := xC h
  have hef := gU hf.1
  obtain ⟨hs8, _, _, _, _, _⟩ := jd hef.1
  have hn := Wz (e := e) (q := q) (l := l)
  have hsum : ∀ (L : List ZF) (x : Int), (∀ a ∈ L, True) → L.Pairwise (fun a b => a.ZG.Id < b.ZG.Id) → (L.filter (mW x) ++ L.drop (dI L x)) = L := by
   intro L x _ hp
   have h := rZ (fun a : ZF => a.ZG.Id) x hp
   have : L.filter (mW x) = L.take (dI L x) := h
   rw [this, fq]
  have hs := hsum e.ZF q.Id (fun _ _ => trivial) (oj hf.1)
  have h1 : (kd e q l).length = e.ZF.length + 1 := by
   conv => rhs; rw [← hs]
   unfold kd; simp only [aD, List.length_cons]; omega
  have h2 : ((kd e q l).map cS).sum = (e.ZF.map cS).sum + cS (eU e q l) := by
   conv => rhs; rw [← hs]
   unfold kd; simp only [bb, List.map_cons, List.sum_append, List.sum_cons]; omega
  unfold bB ix
  dsimp only
  rw [h1, h2, hn]; omega
 ·dsimp only; omega
end
def qC (e : ay) (i : Nat) : ay := ⟨e.Store, e.ZJ, e.Order, hY e.ZF i, e.Done, e.ZR, e.Steps⟩
def kQ (e : ay) (id : Int) : Bool := aT e && decide (0 ≤ dv e.ZF id)
def eV (e : ay) (id : Int) : ay × Bool := if kQ e id then (fA (qC e (dv e.ZF id).toNat), true) else (e, false)
def xD {e : ay} {id : Int} (h : kQ e id = false) : eV e id = (e, false) := if_neg (by rw [h]; simp)
def My {e : ay} {id : Int} (h : kQ e id = true) : eV e id = (fA (qC e (dv e.ZF id).toNat), true) := if_pos h
def Cq {e : ay} {id : Int} {i : Nat} (h : kQ e id = true) (hf : dv e.ZF id = (i : Int)) : eV e id = (fA (qC e i), true) := by rw [My h, hf]; rfl
def Mz {l : List ZF} {id : Int} (h : 0 ≤ dv l id) : ∃ i : Nat, i < l.length ∧ dv l id = (i : Int) := by
 unfold dv at *
 split at h
 ·rename_i ha
  rw [if_pos ha]
  obtain ⟨a, ha1, ha2⟩ := List.any_eq_true.1 ha
  exact ⟨l.findIdx (eT id), List.findIdx_lt_length_of_exists ⟨a, ha1, ha2⟩, rfl⟩
 ·omega
def WB {α β : Type} {f : α → β} {zs : List α} {l : List β} {i : Nat} (hz : zs.map f = l) : (hY zs i).map f = hY l i := by
 subst hz; unfold hY; rw [bb, List.map_take, List.map_drop]
def MA {α : Type} {zs : List α} {i : Nat} (hi : i < zs.length) : (hY zs i ++ [zs[i]]).Perm zs := by
 unfold hY
 have : zs = zs.take i ++ (zs[i] :: zs.drop (i + 1)) := by rw [← List.drop_eq_getElem_cons hi, fq]
 conv => rhs; rw [this]
 rw [bl]
 refine gv _ ?_
 exact List.perm_append_singleton _ _
def MB {e : ay} {i : Nat} (hi : i < e.ZF.length) : bB (qC e i) ≤ bB e := by
 have hs : ((hY e.ZF i).map cS).sum + cS e.ZF[i] = (e.ZF.map cS).sum := by
  have := ((MA hi).map cS).sum_nat
  rw [bb, List.sum_append] at this
  simpa using this
 have hl := El hi
 unfold qC bB ix
 dsimp only
 rw [hl]; omega
def WC (e : ay) (id : Int) : bB (eV e id).1 ≤ bB e := by
 cases h : kQ e id with
 | false => rw [xD h]; exact Nat.le_refl _
 | true =>
  have h2 := h
  unfold kQ at h2
  simp only [aL, decide_eq_true_eq] at h2
  obtain ⟨i, hi, hf⟩ := Mz h2.2
  rw [Cq h hf]
  have h3 := BV (qC e i)
  have h4 := MB hi
  dsimp only; omega
def WD {s : Store} {u : ZI} (h : iL s u = true) (hk : ¬ u.Kind = 2) : (iK s u).length = 3 := by
 obtain ⟨h1, h2, h3, h4, h5⟩ := rP h
 have h0 : (iK s u).length = (fT s u).length := by unfold iK; split <;> simp
 rw [h0]
 by_cases a : 0 ≤ cf s u.Row.Id
 ·exact Bk h1 a
 ·rw [(pg a).2]
  have hk1 : u.Kind = 1 := by
   by_cases b : u.Kind = 1
   ·exact b
   ·exact absurd (h4.2 b) a
  unfold gO at h2
  rw [if_pos hk1] at h2
  simp only [aL] at h2
  exact tQ h2.1
def MC (s : Store) (u : ZI) : cq (eh s u).1 ≤ cq s + 4 := by
 cases h : iL s u with
 | false => rw [ug h]; dsimp only; omega
 | true =>
  by_cases hk : u.Kind = 2
  ·rw [uh h hk]
   have e1 := KK s u
   unfold cq; dsimp only; rw [e1]; simp only [bh]; omega
  ·have h5 := (rP h).2.2.2.2.resolve_left hk
   obtain ⟨r, hr, hrm, _⟩ := Bg h5
   rw [xc h hk hrm]
   have e1 := KK s u
   have e2 := WD h hk
   have hru : r < (dQ s u).length := by rw [ui]; exact hr
   have e3 := xd (f := cb) (x := (dQ s u)[r] ++ [lr s u]) hru
   have hw : cw (lr s u) = (iK s u).length := by unfold lr cw; simp only [dP, bh]; omega
   have e5 : cb ((dQ s u)[r] ++ [lr s u]) = cb (dQ s u)[r] + (1 + cw (lr s u)) := by
    unfold cb; simp only [aD, bb, List.sum_append, List.length_cons, List.length_nil, List.map_cons, List.map_nil, List.sum_cons, List.sum_nil]; omega
   rw [rQ hru]
   unfold cq
   dsimp only
   unfold gN at e1 ⊢
   rw [List.length_set]
   simp only [bh] at *; omega
def qD (e : ay) (s : Store) : ay := ⟨s, e.ZJ, e.Order, e.ZF, e.Done, e.ZR, e.Steps⟩
def eW (e : ay) (u : ZI) : ay × Bool := if aT e && (eh e.Store u).2 then (fA (qD e (eh e.Store u).1), true) else (e, false)
def Cr {e : ay} {u : ZI} (h : (aT e && (eh e.Store u).2) = false) : eW e u = (e, false) := if_neg (by rw [h]; simp)
def Cs {e : ay} {u : ZI} (h : (aT e && (eh e.Store u).2) = true) : eW e u = (fA (qD e (eh e.Store u).1), true) := if_pos h
def MD (e : ay) (u : ZI) : bB (qD e (eh e.Store u).1) ≤ bB e + 4 := by
 have := MC e.Store u
 unfold qD bB; dsimp only; omega
def WE (e : ay) (u : ZI) : bB (eW e u).1 ≤ bB e + 4 := by
 have h1 := MD e u
 have h2 := BV (qD e (eh e.Store u).1)
 unfold eW
 split <;> dsimp only <;> omega
structure WF (e : ay) : Prop where
 so : bL e.Store = true
 c0 : 0 ≤ e.ZJ
 c1 : e.ZJ < e.Store.ZE.length
 od : fF e.Order = true
 s0 : 0 ≤ e.Steps
 s1 : e.Steps ≤ 100000
 a8 : e.ZF.length ≤ 8
 d1 : e.Done.length ≤ 1000
 l1 : e.ZR.length ≤ 1000
 aa : ∀ a ∈ e.ZF, eg e.Store a = true
 pw : e.ZF.Pairwise fun a b => a.ZG.Id < b.ZG.Id
 fs : ∀ f ∈ e.Done, fz e.Store.Now f = true
 cs : ∀ c ∈ e.ZR, cj c = true
def kf {e : ay} : aT e = true ↔ WF e := by
 constructor
 ·intro h
  obtain ⟨h1, h2, h3, h4, h5, h6, h7, h8, h9, h10, h11, h12⟩ := gU h
  exact ⟨h1, h3, by omega, h2, h8, h9, h5, h6, h7, h10, oj h, h11, h12⟩
 ·intro h
  have c0 := h.c0; have c1 := h.c1; have s0 := h.s0; have s1 := h.s1; have a8 := h.a8; have d1 := h.d1; have l1 := h.l1
  refine Kx ?_ (uo h.aa (h.pw.imp fun {a b} k => by unfold kH; simpa using k)) (List.all_eq_true.2 h.fs) (List.all_eq_true.2 h.cs)
  unfold ic
  rw [h.so, h.od]
  simp only [aB, Bool.true_and, aL, decide_eq_true_eq]
  omega
structure WG (n : Nat) (now : Int) (a : ZF) : Prop where
 t0 : 0 < a.ZO.length
 tp : a.ZO.Pairwise fun x y => x < y
 tr : ∀ x ∈ a.ZO, 0 ≤ x ∧ x < n
 q : bG a.ZG = true
 tm0 : 0 ≤ a.Time
 tm1 : a.Time ≤ now
 ag0 : 0 ≤ a.Age
 ag1 : a.Age ≤ 100000
 sn0 : 0 ≤ a.Sent
 sn1 : a.Sent ≤ 1000
 cp0 : 0 ≤ a.Cap
 cp1 : a.Cap ≤ 32
 rk : ∀ r ∈ a.Rows, bp r = true
 rl : a.Rows.length ≤ 1000
def WH {l : List Int} {n : Int} (h : dE 0 (jR n) jS l = true) : l.Pairwise fun x y => x < y := by
 rw [List.pairwise_iff_getElem]
 have step : ∀ i (hi : i + 1 < l.length), l[i] < l[i + 1] := by
  intro i hi
  have := List.all_eq_true.1 h (i + 1) (List.mem_range.2 hi)
  rw [jb, show i + 1 - 1 = i from rfl, et hi, et (show i < l.length by omega)] at this
  rcases this.2 with h0 | h0
  ·omega
  ·unfold jS at h0; simpa using h0
 intro i j hi hj hij
 induction j with
 | zero => omega
 | succ j ih =>
  by_cases he : i = j
  ·subst he; exact step i hj
  ·have h1 := ih (by omega) (by omega)
   have h2 := step j hj
   omega
def ly {s : Store} {a : ZF} : eg s a = true ↔ WG s.ZE.length s.Now a := by
 constructor
 ·intro h
  unfold eg jT fg at h
  simp only [aL, aB, decide_eq_true_eq] at h
  obtain ⟨⟨h1, h2⟩, h3, h4, h5, h6, h7, h8, h9⟩ := h
  refine ⟨h2, WH h1, fun x hx => ?_, h3, h4.1, h4.2, h5.1, h5.2, h6.1, h6.2, h7.1, h7.2, List.all_eq_true.1 h8, by omega⟩
  obtain ⟨k, hk, rfl⟩ := List.mem_iff_getElem.1 hx
  have := tR h1 hk
  unfold jR aB at this
  simp only [aL, decide_eq_true_eq] at this
  omega
 ·intro h
  have t0 := h.t0; have tm0 := h.tm0; have tm1 := h.tm1; have ag0 := h.ag0; have ag1 := h.ag1; have sn0 := h.sn0; have sn1 := h.sn1; have cp0 := h.cp0; have cp1 := h.cp1; have rl := h.rl
  unfold eg jT fg
  have e1 : dE 0 (jR s.ZE.length) jS a.ZO = true := uo (fun x hx => by have := h.tr x hx; unfold jR aB; simp only [aL, decide_eq_true_eq]; omega) (h.tp.imp fun {a b} k => by unfold jS; simpa using k)
  rw [e1, h.q, List.all_eq_true.2 h.rk]
  simp only [aB, Bool.true_and, aL, decide_eq_true_eq]
  omega
def Ct {now : Int} {f : eE} : fz now f = true ↔ bG f.ZG = true ∧ (0 ≤ f.Time ∧ f.Time ≤ now) ∧ (0 ≤ f.Steps ∧ f.Steps ≤ 100000) ∧ (∀ r ∈ f.Rows, bp r = true) ∧ f.Rows.length ≤ 1000 := by
 unfold fz fg
 simp only [aL, aB, decide_eq_true_eq, mm]
 constructor
 ·rintro ⟨h1, h2, h3, h4, h5⟩; exact ⟨h1, h2, h3, h4, by omega⟩
 ·rintro ⟨h1, h2, h3, h4, h5⟩; exact ⟨h1, h2, h3, h4, by omega⟩
def ME {q : ZG} (h : bG q = true) : (0 ≤ q.Id ∧ q.Id ≤ 23) ∧ 0 ≤ q.ZK ∧ q.ZK ≤ 3 := by
 unfold bG at h
 simp only [aL, aB, decide_eq_true_eq] at h
 omega
def WI {e : ay} (h : aT e = true) {a b : ZF} (ha : a ∈ e.ZF) (hb : b ∈ e.ZF) (hid : a.ZG.Id = b.ZG.Id) : a = b := by
 obtain ⟨i, hi, rfl⟩ := List.mem_iff_getElem.1 ha
 obtain ⟨j, hj, rfl⟩ := List.mem_iff_getElem.1 hb
 have := un h hi hj hid
 subst this; rfl
def WJ {l : List Int} {x : Int} : bP l x = true ↔ x ∈ l := by unfold bP; simp
def WK {e : ay} (h : aT e = true) {a : ZF} (ha : a ∈ e.ZF) : bP (parts e) a.ZG.Id = iF e a := by
 rw [Bool.eq_iff_iff, WJ, qt h]
 unfold gp
 rw [ux]
 constructor
 ·rintro ⟨b, hb, hid⟩
  obtain ⟨hb, hp⟩ := List.mem_filter.1 hb
  rw [← WI h hb ha hid]; exact hp
 ·intro hp; exact ⟨a, List.mem_filter.2 ⟨ha, hp⟩, rfl⟩
def eX (e : ay) (a : ZF) : ZF := jp (e.Store.ZE.length : Int) (if iF e a then mc e a else a)
def WL {e : ay} (h : aT e = true) : (gr e).ZF = (e.ZF.map (eX e)).filter (fun a => !ej a) ∧ (gr e).Done = e.Done ++ ((e.ZF.map (eX e)).filter ej).map po := by
 have hl := xx (e := e) (k := (parts e).length)
 have ht : (cY e (parts e).length).take e.ZF.length = cY e (parts e).length := pu (by omega)
 have hs : cY e (parts e).length = e.ZF.map (eX e) := by
  unfold cY ck
  rw [List.map_map, bY]
  refine List.map_congr_left fun a ha => ?_
  show jp _ (jo e (parts e) a) = eX e a
  unfold jo eX
  rw [WK h ha]
 unfold gr BN kc gq
 dsimp only
 rw [ht, hs]
 exact ⟨rfl, rfl⟩
def WM {e : ay} (h : aT e = true) (a : ZF) : ∀ r ∈ jn e a, bp r = true := by
 intro r hr
 unfold jn at hr
 exact Mb h a.Time r (List.mem_filter.1 hr).1
def ut {e : ay} {a : ZF} : (eX e a).ZG = a.ZG ∧ (eX e a).Time = a.Time ∧ (eX e a).Cap = a.Cap ∧ (eX e a).Age = a.Age + 1 := by
 unfold eX jp mc
 split <;> exact ⟨rfl, rfl, rfl, rfl⟩
def WN {e : ay} {a : ZF} : (eX e a).Rows = if iF e a then a.Rows ++ jn e a else a.Rows := by
 unfold eX jp mc
 split <;> rfl
def WO {e : ay} {a : ZF} : (eX e a).ZO = if iF e a then mb a.ZO e.ZJ else a.ZO := by
 unfold eX jp mc
 split <;> rfl
def WP {e : ay} {a : ZF} : (eX e a).Sent = if (a.Age + 1).tmod (e.Store.ZE.length : Int) = 0 then 0 else if iF e a then a.Sent + ((jn e a).length : Int) else a.Sent := by
 unfold eX jp mc
 split <;> rfl
structure mh (N : Nat) (e : ay) : Prop where
 ok : aT e = true
 ld : e.ZR.length ≤ N
 dn : e.Done.length + e.ZF.length ≤ N
 ag : ∀ a ∈ e.ZF, a.Age ≤ N ∧ a.Sent ≤ 4 * N ∧ a.Rows.length ≤ 4 * N
structure eY (N : Nat) (e : ay) : Prop where
 ok : aT e = true
 st : e.Steps ≤ N
 ld : e.ZR.length ≤ N
 dn : e.Done.length + e.ZF.length ≤ N
 ag : ∀ a ∈ e.ZF, a.Age ≤ N ∧ a.Sent ≤ 4 * N ∧ a.Rows.length ≤ 4 * N
def eY.w {N : Nat} {e : ay} (h : eY N e) : mh N e := ⟨h.ok, h.ld, h.dn, h.ag⟩
def eY.le {N M : Nat} {e : ay} (h : eY N e) (hM : N ≤ M) : eY M e :=
 ⟨h.ok, by have := h.st; omega, by have := h.ld; omega, by have := h.dn; omega, fun a ha => by have := h.ag a ha; omega⟩
def mh.le {N M : Nat} {e : ay} (h : mh N e) (hM : N ≤ M) : mh M e :=
 ⟨h.ok, by have := h.ld; omega, by have := h.dn; omega, fun a ha => by have := h.ag a ha; omega⟩
def WQ {N : Nat} {e : ay} (h : eY N e) (hN : N ≤ 900) : jq e = true := by
 have h1 := h.st; have h2 := h.ld; have h3 := h.dn
 unfold jq
 rw [h.ok]
 simp only [Bool.true_and, aL, decide_eq_true_eq]
 omega
def WR {e : ay} (h : aT e = true) (hp : 0 < (parts e).length) : cj (fW e (parts e).length) = true := by
 have hk := kf.1 h
 have hl := BQ (e := e) (Nat.le_refl (parts e).length)
 have hpl := wZ (e := e)
 have ha8 := hk.a8
 have hs8 := (iS.1 hk.so).l8
 have hc0 := hk.c0; have hc1 := hk.c1
 have hs4 := BT h
 have hset : du (parts e) = true := by
  have : dE 0 (fun x => aB x 0 23) (fun a b => decide (a < b)) (parts e) = true := uo (fun x hx => by
   rw [qt h] at hx
   obtain ⟨a, ha, rfl⟩ := List.mem_map.1 hx
   have := ME (ly.1 (hk.aa a (List.mem_filter.1 ha).1)).q
   unfold aB; simp only [aL, decide_eq_true_eq]; omega) ((BP h).imp fun {a b} k => by simpa using k)
  exact this
 unfold cj kG
 have e1 : (fW e (parts e).length).Ids = parts e := by unfold fW; rw [bY]
 have e2 : (fW e (parts e).length).Segment = e.ZJ := rfl
 have e3 : (fW e (parts e).length).Base = ((cG e).length : Int) := rfl
 have e4 : nP (fW e (parts e).length) (fW e (parts e).length).Ids.length = true := by
  unfold nP
  refine List.all_eq_true.2 fun k hk2 => ?_
  have hk2 := List.mem_range.1 hk2
  rw [e1] at hk2
  unfold kF
  rw [e3]
  have t1 : (fW e (parts e).length).ZL.getD k 0 = ul e (parts e)[k] := by
   unfold fW; dsimp only; rw [bY, List.getD_eq_getElem?_getD, List.getElem?_map, List.getElem?_eq_getElem hk2]; rfl
  have t2 : (fW e (parts e).length).Rows.getD k 0 = um e (parts e)[k] := by
   unfold fW; dsimp only; rw [bY, List.getD_eq_getElem?_getD, List.getElem?_map, List.getElem?_eq_getElem hk2]; rfl
  obtain ⟨i, hi, hf, hid, hpp⟩ := LO h hk2
  have ha := LQ hi hf
  rw [t1, t2]
  unfold ul um
  rw [ha]
  have h5 := ME (ly.1 (hk.aa _ (List.getElem_mem hi))).q
  have h6 : (jn e e.ZF[i]).length ≤ (cG e).length := Nat.le_trans (il _ _) (BR _ _)
  simp only [aB, aL, decide_eq_true_eq]
  omega
 rw [e4, e1, e2, e3, hset]
 simp only [aB, Bool.true_and, Bool.and_true, aL, decide_eq_true_eq]
 exact ⟨⟨⟨by omega, by omega⟩, by omega, by omega⟩, ⟨by omega, by omega⟩, by omega, by omega⟩
def MF {e : ay} (h : aT e = true) : aT (fA e) = true := by
 have hk := kf.1 h
 have hr := VP (s := e.Store) (jU e.ZF)
 rw [kf]
 unfold fA
 refine ⟨VO _ hk.so, hk.c0, ?_, hk.od, hk.s0, hk.s1, hk.a8, hk.d1, hk.l1, fun a ha => ?_, hk.pw, fun f hf => ?_, hk.cs⟩
 ·dsimp only; rw [hr.1]; exact hk.c1
 ·dsimp only; rw [ly, hr.1, hr.2, ← ly]; exact hk.aa a ha
 ·dsimp only; rw [hr.2]; exact hk.fs f hf
def mh.reclaim {N : Nat} {e : ay} (h : mh N e) : mh N (fA e) := ⟨MF h.ok, h.ld, h.dn, h.ag⟩
def eY.reclaim {N : Nat} {e : ay} (h : eY N e) : eY N (fA e) := ⟨MF h.ok, h.st, h.ld, h.dn, h.ag⟩
def WS {c n : Int} (h0 : 0 ≤ c) (h1 : c < n) : (c + 1).tmod n = if c + 1 = n then 0 else c + 1 := by
 rw [Int.tmod_eq_emod_of_nonneg (by omega)]
 split
 ·rename_i h; rw [h, Int.emod_self]
 ·exact Int.emod_eq_of_lt (by omega) (by omega)
def WT {N : Nat} {e : ay} (h : mh N e) (hN : N ≤ 249) : mh (N + 1) (fk e) := by
 cases hso : jq e with
 | false => rw [LN hso]; exact h.le (by omega)
 | true =>
 obtain ⟨_, hst, _, _⟩ := xv hso
 rw [BO hso]
 refine mh.reclaim ?_
 have hk := kf.1 h.ok
 obtain ⟨ea, ed⟩ := WL h.ok
 have hb := h.ag
 have hld := h.ld; have hdn := h.dn
 have c0 := hk.c0; have c1 := hk.c1
 have hcur := WS c0 c1
 have el : (gr e).ZR = iR e (parts e).length := rfl
 have hll : (gr e).ZR.length ≤ e.ZR.length + 1 := by
  rw [el]; unfold iR; split
  ·omega
  ·rw [aD]; simp
 have hrows : ∀ a ∈ e.ZF, (eX e a).Rows.length ≤ 4 * (N + 1) ∧ ∀ r ∈ (eX e a).Rows, bp r = true := by
  intro a ha
  have h1 := hb a ha
  have h2 := BX h.ok a
  have h3 := ly.1 (hk.aa a ha)
  rw [WN]
  split
  ·rw [aD]
   refine ⟨by omega, fun r hr => ?_⟩
   rcases List.mem_append.1 hr with hr | hr
   ·exact h3.rk r hr
   ·exact WM h.ok a r hr
  ·exact ⟨by omega, h3.rk⟩
 have hsent : ∀ a ∈ e.ZF, 0 ≤ (eX e a).Sent ∧ (eX e a).Sent ≤ 4 * ((N : Int) + 1) := by
  intro a ha
  have h1 := hb a ha
  have h2 := BX h.ok a
  have h3 := ly.1 (hk.aa a ha)
  have h4 := h3.sn0
  rw [WP]
  split
  ·omega
  ·split <;> omega
 have hsplit : ((e.ZF.map (eX e)).filter fun a => !ej a).length + ((e.ZF.map (eX e)).filter ej).length = e.ZF.length := by
  have := BU (e.ZF.map (eX e)); rw [am] at this; exact this
 have mem : ∀ b, b ∈ (gr e).ZF → ∃ a ∈ e.ZF, b = eX e a ∧ ej b = false := by
  intro b hb2
  rw [ea] at hb2
  obtain ⟨hb2, he⟩ := List.mem_filter.1 hb2
  obtain ⟨a, ha, rfl⟩ := List.mem_map.1 hb2
  exact ⟨a, ha, rfl, by simpa using he⟩
 refine ⟨?_, by omega, ?_, ?_⟩
 ·rw [kf]
  refine ⟨hk.so, ?_, ?_, hk.od, by show 0 ≤ e.Steps + 1; have := hk.s0; omega, by show e.Steps + 1 ≤ 100000; omega, ?_, ?_, by omega, ?_, ?_, ?_, ?_⟩
  ·show 0 ≤ (e.ZJ + 1).tmod _; rw [hcur]; split <;> omega
  ·show (e.ZJ + 1).tmod (e.Store.ZE.length : Int) < (e.Store.ZE.length : Int); rw [hcur]; split <;> omega
  ·rw [ea]; have := hk.a8; omega
  ·rw [ed, aD, am]; omega
  ·intro b hb2
   obtain ⟨a, ha, rfl, he⟩ := mem b hb2
   have h3 := ly.1 (hk.aa a ha)
   have hq := ut (e := e) (a := a)
   have h5 := hrows a ha; have h6 := hsent a ha; have h7 := hb a ha
   rw [ly]
   have ht : (eX e a).ZO.Sublist a.ZO := by
    rw [WO]; split
    ·exact List.filter_sublist
    ·exact List.Sublist.refl _
   refine ⟨?_, h3.tp.sublist ht, fun x hx => h3.tr x (ht.subset hx), by rw [hq.1]; exact h3.q, by rw [hq.2.1]; exact h3.tm0, by rw [hq.2.1]; exact h3.tm1, by rw [hq.2.2.2]; have := h3.ag0; omega, by rw [hq.2.2.2]; omega, h6.1, by omega, by rw [hq.2.2.1]; exact h3.cp0, by rw [hq.2.2.1]; exact h3.cp1, h5.2, by omega⟩
   unfold ej at he
   simp only [decide_eq_false_iff_not] at he
   omega
  ·rw [ea]
   refine List.Pairwise.filter _ ?_
   rw [List.pairwise_map]
   refine hk.pw.imp fun {a b} k => ?_
   rw [ut.1, ut.1]; exact k
  ·rw [ed]
   intro f hf
   rcases List.mem_append.1 hf with hf | hf
   ·exact hk.fs f hf
   ·obtain ⟨b, hb2, rfl⟩ := List.mem_map.1 hf
    obtain ⟨hb2, _⟩ := List.mem_filter.1 hb2
    obtain ⟨a, ha, rfl⟩ := List.mem_map.1 hb2
    have h3 := ly.1 (hk.aa a ha)
    have hq := ut (e := e) (a := a)
    have h5 := hrows a ha; have h7 := hb a ha
    rw [Ct]
    unfold po
    dsimp only
    rw [hq.1, hq.2.1, hq.2.2.2]
    have := h3.ag0
    exact ⟨h3.q, ⟨h3.tm0, h3.tm1⟩, ⟨by omega, by omega⟩, h5.2, by omega⟩
  ·rw [el]
   intro c hc
   unfold iR at hc
   split at hc
   ·exact hk.cs c hc
   ·rcases List.mem_append.1 hc with hc | hc
    ·exact hk.cs c hc
    ·rw [List.mem_singleton.1 hc]
     exact WR h.ok (by omega)
 ·rw [ea, ed, aD, am]; omega
 ·intro b hb2
  obtain ⟨a, ha, rfl, he⟩ := mem b hb2
  have hq := ut (e := e) (a := a)
  have h5 := hrows a ha; have h6 := hsent a ha; have h7 := hb a ha
  rw [hq.2.2.2]
  omega
def WU {N : Nat} {e : ay} (h : eY N e) (hN : N ≤ 249) : eY (N + 1) (fk e) := by
 have k := WT h.w hN
 have hst := h.st
 exact ⟨k.ok, by rw [BO (WQ h (by omega))]; show e.Steps + 1 ≤ _; omega, k.ld, k.dn, k.ag⟩
def WV {N : Nat} {e : ay} (h : eY N e) (id : Int) : eY N (eV e id).1 := by
 cases hc : kQ e id with
 | false => rw [xD hc]; exact h
 | true =>
  rw [My hc]
  refine eY.reclaim ?_
  have hk := kf.1 h.ok
  have hs : (hY e.ZF (dv e.ZF id).toNat).Sublist e.ZF := by
   unfold hY
   conv => rhs; rw [← fq (dv e.ZF id).toNat e.ZF]
   exact List.Sublist.append (List.Sublist.refl _) (by rw [List.drop_add_one_eq_tail_drop]; exact List.tail_sublist _)
  have hl := hs.length_le
  have hdn := h.dn; have a8 := hk.a8
  refine ⟨?_, h.st, h.ld, by show e.Done.length + (hY e.ZF _).length ≤ N; omega, fun a ha => h.ag a (hs.subset ha)⟩
  rw [kf]
  exact ⟨hk.so, hk.c0, hk.c1, hk.od, hk.s0, hk.s1, by show (hY e.ZF _).length ≤ 8; omega, hk.d1, hk.l1, fun a ha => hk.aa a (hs.subset ha), hk.pw.sublist hs, hk.fs, hk.cs⟩
def WW {N : Nat} {e : ay} (h : eY N e) (u : ZI) : eY N (eW e u).1 := by
 cases hu : aT e && (eh e.Store u).2 with
 | false => rw [Cr hu]; exact h
 | true =>
  rw [Cs hu]
  refine eY.reclaim ?_
  have hk := kf.1 h.ok
  have hs := Mj e.Store u hk.so
  have hlen : (eh e.Store u).1.ZE.length = e.Store.ZE.length ∧ e.Store.Now ≤ (eh e.Store u).1.Now := by
   cases ha : iL e.Store u with
   | false => rw [ug ha]; exact ⟨rfl, Int.le_refl _⟩
   | true =>
    by_cases hk2 : u.Kind = 2
    ·rw [uh ha hk2]; exact ⟨ui _ _, by dsimp only; omega⟩
    ·rw [Bi ha]; unfold uf; rw [if_neg hk2]; unfold rO; dsimp only; rw [List.length_set, ui]; exact ⟨rfl, by omega⟩
  refine ⟨?_, h.st, h.ld, h.dn, h.ag⟩
  rw [kf]
  unfold qD
  refine ⟨hs, hk.c0, by dsimp only; rw [hlen.1]; exact hk.c1, hk.od, hk.s0, hk.s1, hk.a8, hk.d1, hk.l1, fun a ha => ?_, hk.pw, fun f hf => ?_, hk.cs⟩
  ·have h3 := ly.1 (hk.aa a ha)
   dsimp only
   rw [ly, hlen.1]
   exact { h3 with tm1 := by have := h3.tm1; omega }
  ·have := Ct.1 (hk.fs f hf)
   dsimp only
   rw [Ct]
   exact ⟨this.1, ⟨this.2.1.1, by omega⟩, this.2.2⟩
def WX {n : Nat} : ∀ x ∈ mV n, 0 ≤ x ∧ x < n := by
 intro x hx
 unfold mV at hx
 obtain ⟨i, hi, rfl⟩ := List.mem_map.1 hx
 have := List.mem_range.1 hi
 omega
def WY {e : ay} {q : ZG} {l : Int} (h : aT e = true) (hq : bG q = true) (hl : 0 ≤ l ∧ l ≤ 32) : eg e.Store (eU e q l) = true := by
 have hk := kf.1 h
 have hs := iS.1 hk.so
 have l1 := hs.l1
 rw [ly]
 unfold eU
 refine ⟨by rw [Cm]; omega, ?_, WX, hq, hs.n0, Int.le_refl _, Int.le_refl 0, by show (0 : Int) ≤ 100000; decide, Int.le_refl 0, by show (0 : Int) ≤ 1000; decide, hl.1, hl.2, by simp, by simp⟩
 unfold mV
 rw [List.pairwise_map]
 refine (List.pairwise_lt_range).imp fun {a b} k => by omega
def WZ {e : ay} {q : ZG} {l : Int} (h : aT e = true) : (kd e q l).Perm (eU e q l :: e.ZF) := by
 have hc := rZ (fun a : ZF => a.ZG.Id) q.Id (oj h)
 have e1 : e.ZF.filter (mW q.Id) = e.ZF.take (dI e.ZF q.Id) := hc
 unfold kd
 rw [e1]
 refine List.perm_middle.trans ?_
 rw [fq]
def Xa {e : ay} {q : ZG} {l : Int} (h : aT e = true) (hf : dv e.ZF q.Id < 0) : (kd e q l).Pairwise fun a b => a.ZG.Id < b.ZG.Id := by
 have hp := oj h
 have hc := rZ (fun a : ZF => a.ZG.Id) q.Id hp
 have e1 : e.ZF.filter (mW q.Id) = e.ZF.take (dI e.ZF q.Id) := hc
 have hcut := fun (k : Nat) (hk : k < e.ZF.length) => Mw (x := q.Id) h hk
 have hge : ∀ b ∈ e.ZF.drop (dI e.ZF q.Id), q.Id < b.ZG.Id := by
  intro b hb
  obtain ⟨j, hj, rfl⟩ := List.mem_iff_getElem.1 hb
  rw [gG] at hj
  rw [List.getElem_drop]
  have h1 := hcut (dI e.ZF q.Id + j) (by omega)
  have h2 := Mx hf (show dI e.ZF q.Id + j < e.ZF.length by omega)
  omega
 have hlt : ∀ b ∈ e.ZF.take (dI e.ZF q.Id), b.ZG.Id < q.Id := by
  intro b hb
  rw [← e1] at hb
  have := (List.mem_filter.1 hb).2
  unfold mW at this; simpa using this
 unfold kd
 rw [e1, List.pairwise_append, List.pairwise_cons]
 refine ⟨hp.sublist (List.take_sublist _ _), ⟨fun b hb => hge b hb, hp.sublist (List.drop_sublist _ _)⟩, fun a ha b hb => ?_⟩
 have h1 := hlt a ha
 rcases List.mem_cons.1 hb with rfl | hb
 ·exact h1
 ·have := hge b hb; omega
def Xb {N : Nat} {e : ay} (h : eY N e) (hN : N ≤ 900) (q : ZG) (l : Int) : eY (N + 1) (iT e q l).1 := by
 cases ha : mg e q l with
 | false => rw [Cn ha]; exact h.le (by omega)
 | true =>
  rw [Co ha]
  obtain ⟨h1, h2, h3, h4, h5⟩ := xC ha
  have hk := kf.1 h1
  have hp := WZ (q := q) (l := l) h1
  have hl := hp.length_eq
  rw [List.length_cons] at hl
  have hdn := h.dn; have hst := h.st; have hld := h.ld
  have mem : ∀ a ∈ kd e q l, a = eU e q l ∨ a ∈ e.ZF := fun a ha => List.mem_cons.1 (hp.mem_iff.1 ha)
  refine ⟨?_, by dsimp only; omega, by dsimp only; omega, by dsimp only; omega, fun a ha => ?_⟩
  ·rw [kf]
   refine ⟨hk.so, hk.c0, hk.c1, hk.od, hk.s0, hk.s1, by dsimp only; omega, hk.d1, hk.l1, fun a ha => ?_, by exact Xa (e := e) h1 h4, hk.fs, hk.cs⟩
   rcases mem a ha with rfl | ha
   ·exact WY (e := e) h1 h2 h3
   ·exact hk.aa a ha
  ·rcases mem a ha with rfl | ha
   ·unfold eU; dsimp only; simp; omega
   ·have := h.ag a ha; omega
def Xc {s : Store} (h : bL s = true) : eY 0 ⟨s, 0, [0, 1, 2], [], [], [], 0⟩ := by
 have k := iS.1 h
 have l1 := k.l1
 refine ⟨?_, by simp, by simp, by simp, by simp⟩
 rw [kf]
 exact ⟨h, Int.le_refl 0, by dsimp only; omega, by show fF [0, 1, 2] = true; decide, Int.le_refl 0, by show (0 : Int) ≤ 100000; decide, by simp, by simp, by simp, by simp, by simp, by simp, by simp⟩
def Cu : ZI := ⟨0, ⟨0, []⟩, 0, 0⟩
def Cv : ZG := ⟨0, 0, [], []⟩
inductive sa (s : Store) : AC → Prop
 | adm (q : ZG) (l : Int) (h1 : bG q = true) (h2 : 0 ≤ q.Id ∧ q.Id ≤ 5) (h3 : 0 ≤ l ∧ l ≤ 2) : sa s ⟨1, q, l, 0, Cu, 0⟩
 | can (i : Int) (h : 0 ≤ i ∧ i ≤ 5) : sa s ⟨2, Cv, 0, i, Cu, 0⟩
 | stp (n : Int) (h : 1 ≤ n ∧ n ≤ 3) : sa s ⟨4, Cv, 0, 0, Cu, n⟩
 | upd (u : ZI) : sa s ⟨3, Cv, 0, 0, u, 0⟩
def sa.steps {s : Store} {x : AC} (h : sa s x) : 0 ≤ x.Steps ∧ x.Steps ≤ 3 := by cases h <;> dsimp only <;> omega
structure ZD where
 l : List AC
 c : au
def mX (s : Store) : ay := ⟨s, 0, [0, 1, 2], [], [], [], 0⟩
def dJ (c : au) : ZG × au := gS (ak c 9).2 (ak c 9).1
def fm (c : au) : Int × au := ak (dJ c).2 10
def xE (c : au) : Int × au := aX (fm c).2 [-1, 23, 24]
def xF (c : au) : Int × au := aX (fm c).2 [-1, 3, 4]
def Cw (c : au) : Int × au := ak (fm c).2 4
def xG (c : au) : Int × au := aX (Cw c).2 [2, 3, 99, 100]
def xH (c : au) : Int × au := aX (fm c).2 [-1, 0, 3]
def fH (c : au) : ZG × au :=
 if (fm c).1 = 0 then (⟨(xE c).1, (dJ c).1.ZK, (dJ c).1.ZH, (dJ c).1.Out⟩, (xE c).2)
 else if (fm c).1 = 1 then (⟨(dJ c).1.Id, (xF c).1, (dJ c).1.ZH, (dJ c).1.Out⟩, (xF c).2)
 else if (fm c).1 = 2 then (⟨(dJ c).1.Id, (dJ c).1.ZK, (dJ c).1.ZH ++ [⟨(Cw c).1, 3, (xG c).1⟩], (dJ c).1.Out⟩, (xG c).2)
 else if (fm c).1 = 3 then (⟨(dJ c).1.Id, (dJ c).1.ZK, (dJ c).1.ZH, (dJ c).1.Out ++ [(xH c).1]⟩, (xH c).2)
 else ((dJ c).1, (fm c).2)
def Xd {c : au} (h : (fm c).1 = 0) : fH c = (⟨(xE c).1, (dJ c).1.ZK, (dJ c).1.ZH, (dJ c).1.Out⟩, (xE c).2) := if_pos h
def Xe {c : au} (h0 : ¬ (fm c).1 = 0) (h : (fm c).1 = 1) : fH c = (⟨(dJ c).1.Id, (xF c).1, (dJ c).1.ZH, (dJ c).1.Out⟩, (xF c).2) := by unfold fH; rw [if_neg h0, if_pos h]
def Xf {c : au} (h0 : ¬ (fm c).1 = 0) (h1 : ¬ (fm c).1 = 1) (h : (fm c).1 = 2) : fH c = (⟨(dJ c).1.Id, (dJ c).1.ZK, (dJ c).1.ZH ++ [⟨(Cw c).1, 3, (xG c).1⟩], (dJ c).1.Out⟩, (xG c).2) := by unfold fH; rw [if_neg h0, if_neg h1, if_pos h]
def Xg {c : au} (h0 : ¬ (fm c).1 = 0) (h1 : ¬ (fm c).1 = 1) (h2 : ¬ (fm c).1 = 2) (h : (fm c).1 = 3) : fH c = (⟨(dJ c).1.Id, (dJ c).1.ZK, (dJ c).1.ZH, (dJ c).1.Out ++ [(xH c).1]⟩, (xH c).2) := by unfold fH; rw [if_neg h0, if_neg h1, if_neg h2, if_pos h]
def Xh {c : au} (h0 : ¬ (fm c).1 = 0) (h1 : ¬ (fm c).1 = 1) (h2 : ¬ (fm c).1 = 2) (h3 : ¬ (fm c).1 = 3) : fH c = ((dJ c).1, (fm c).2) := by unfold fH; rw [if_neg h0, if_neg h1, if_neg h2, if_neg h3]
def MG (c : au) : eM (dJ c).1 ≤ 6 := AT _ _
def MH (c : au) : eM (fH c).1 ≤ 10 := by
 have h := MG c
 unfold eM at h
 unfold fH
 repeat' split
 all_goals (unfold eM; dsimp only; simp only [bh, dP, ry, aD, bb, List.sum_append, List.map_cons, List.map_nil, List.sum_cons, List.sum_nil, List.length_cons, List.length_nil] at h ⊢; first | omega | (have hc_ : ∀ x : iw, wH x = 0 := fun _ => rfl; simp only [hc_]; omega))
structure mY where
 ids : List Int
 ten : List Int
 rows : List Int
 id : Int
 c : au
def kR (c : au) : Int × au := ak c 4
def dk (c : au) : Int × au := ak (kR c).2 5
def mi (c : au) : Int × au := ak (dk c).2 3
def sb (c : au) : Int × au := ak (mi c).2 4
def MI (s : mY) : Int × au := ak s.c 4
def xI (b : Int) (s : mY) : Int × au := ak (MI s).2 (b + 1)
def uu (b : Int) (s : mY) : Int × au := ak (xI b s).2 2
def MJ (b : Int) (s : mY) : mY := ⟨s.ids ++ [s.id], s.ten ++ [(MI s).1], s.rows ++ [(xI b s).1], s.id + 1 + (uu b s).1, (uu b s).2⟩
def dl (b : Int) (s : mY) : Nat → mY
 | 0 => s
 | k + 1 => MJ b (dl b s k)
def dw (c : au) : mY := ⟨[], [], [], (mi c).1, (sb c).2⟩
def jv (c : au) : Nat := (1 + (sb c).1).toNat
def dp (c : au) : mY := dl (dk c).1 (dw c) (jv c)
def MK (c : au) : 1 ≤ jv c ∧ jv c ≤ 4 ∧ (jv c : Int) = 1 + (sb c).1 := by
 have h1 := dh (mi c).2 4
 have h2 := di (mi c).2 (n := 4) (by decide)
 have e : (sb c).1 = (ak (mi c).2 4).1 := rfl
 unfold jv; omega
def xJ (b : Int) (c : au) : ∀ k, (dl b (dw c) k).ids.length = k ∧ (dl b (dw c) k).ten.length = k ∧ (dl b (dw c) k).rows.length = k
 | 0 => ⟨rfl, rfl, rfl⟩
 | k + 1 => by
  have ih := xJ b c k
  show ((dl b (dw c) k).ids ++ [_]).length = _ ∧ ((dl b (dw c) k).ten ++ [_]).length = _ ∧ ((dl b (dw c) k).rows ++ [_]).length = _
  simp only [aD, List.length_cons, List.length_nil]; omega
def ML (b : Int) (c : au) : ∀ k, 0 ≤ (dl b (dw c) k).id ∧ (dl b (dw c) k).id ≤ 2 + 2 * k
 | 0 => by
  have h1 := dh (dk c).2 3
  have h2 := di (dk c).2 (n := 3) (by decide)
  show 0 ≤ (mi c).1 ∧ (mi c).1 ≤ _
  unfold mi; omega
 | k + 1 => by
  have ih := ML b c k
  have h1 := dh (xI b (dl b (dw c) k)).2 2
  have h2 := di (xI b (dl b (dw c) k)).2 (n := 2) (by decide)
  show 0 ≤ (dl b (dw c) k).id + 1 + (uu b (dl b (dw c) k)).1 ∧ (dl b (dw c) k).id + 1 + (uu b (dl b (dw c) k)).1 ≤ _
  unfold uu; omega
def gX (c : au) : Int × au := ak (dp c).c 14
def xK (c : au) : Int × au := aX (gX c).2 [-1, 0, 4, 5]
def sd (c : au) : Int × au := aX (gX c).2 [-1, 3, 4]
def fI (c : au) : bM × au :=
 if (gX c).1 = 0 then (⟨(kR c).1, (xK c).1, (dp c).ids, (dp c).ten, (dp c).rows⟩, (xK c).2)
 else if (gX c).1 = 1 then (⟨(kR c).1, (dk c).1, (dp c).ids, (dp c).ten, (dp c).rows.drop 1⟩, (gX c).2)
 else if (gX c).1 = 2 then (⟨(kR c).1, (dk c).1, (dp c).ids, (dp c).ten.set 0 (sd c).1, (dp c).rows⟩, (sd c).2)
 else (⟨(kR c).1, (dk c).1, (dp c).ids, (dp c).ten, (dp c).rows⟩, (gX c).2)
def Xi {c : au} (h : (gX c).1 = 0) : fI c = (⟨(kR c).1, (xK c).1, (dp c).ids, (dp c).ten, (dp c).rows⟩, (xK c).2) := if_pos h
def Xj {c : au} (h0 : ¬ (gX c).1 = 0) (h : (gX c).1 = 1) : fI c = (⟨(kR c).1, (dk c).1, (dp c).ids, (dp c).ten, (dp c).rows.drop 1⟩, (gX c).2) := by unfold fI; rw [if_neg h0, if_pos h]
def Xk {c : au} (h0 : ¬ (gX c).1 = 0) (h1 : ¬ (gX c).1 = 1) (h : (gX c).1 = 2) : fI c = (⟨(kR c).1, (dk c).1, (dp c).ids, (dp c).ten.set 0 (sd c).1, (dp c).rows⟩, (sd c).2) := by unfold fI; rw [if_neg h0, if_neg h1, if_pos h]
def Xl {c : au} (h0 : ¬ (gX c).1 = 0) (h1 : ¬ (gX c).1 = 1) (h2 : ¬ (gX c).1 = 2) : fI c = (⟨(kR c).1, (dk c).1, (dp c).ids, (dp c).ten, (dp c).rows⟩, (gX c).2) := by unfold fI; rw [if_neg h0, if_neg h1, if_neg h2]
def Xm (c : au) : oP (fI c).1 ≤ 12 := by
 have h1 := MK c
 have h2 := xJ (dk c).1 c (jv c)
 have e : dp c = dl (dk c).1 (dw c) (jv c) := rfl
 rw [← e] at h2
 unfold fI
 repeat' split
 all_goals (unfold oP; dsimp only; simp only [bh, dP, gG, List.length_set]; omega)
structure uv where
 l : List bM
 c : au
def MM (s : uv) : uv := ⟨s.l ++ [(fI s.c).1], (fI s.c).2⟩
def mZ (s : uv) : Nat → uv
 | 0 => s
 | k + 1 => MM (mZ s k)
def na (c : au) : Nat := (ak c 6).1.toNat
def ot (c : au) : uv := mZ ⟨[], (ak c 6).2⟩ (na c)
def Cx (c : au) : ∀ k, hZ (mZ ⟨[], c⟩ k).l ≤ 13 * k ∧ (mZ ⟨[], c⟩ k).l.length = k
 | 0 => by constructor; exact Nat.le_refl _; rfl
 | k + 1 => by
  have ih := Cx c k
  have h := Xm (mZ ⟨[], c⟩ k).c
  show hZ ((mZ ⟨[], c⟩ k).l ++ [_]) ≤ _ ∧ ((mZ ⟨[], c⟩ k).l ++ [_]).length = _
  unfold hZ at ih ⊢
  simp only [aD, bb, List.sum_append, List.map_cons, List.map_nil, List.sum_cons, List.sum_nil, List.length_cons, List.length_nil]; omega
def MN (c : au) : na c ≤ 5 := by
 have h2 := di c (n := 6) (by decide)
 unfold na; omega
def MO (c : au) : hZ (ot c).l ≤ 65 := by
 have h1 := (Cx (ak c 6).2 (na c)).1
 have h2 := MN c
 unfold ot; omega
def fp (c : au) : Int × au := ak (br c).c 14
def xL (c : au) : Int × au := aX (fp c).2 [-1, 0, 99999, 100000, 100001]
def nb (c : au) : Int × au := aX (fp c).2 [-2, 0, 1, 99]
def ou (c : au) : Int × au := ak (fp c).2 9
def nc (v : aM) (d : Int) : aM := ⟨v.Id, v.Values, v.ZT, d⟩
def ik (s : Store) : List aM := pe s 0
def gt (c : au) : Store × au :=
 if (fp c).1 = 0 then (⟨(br c).s.ZE, (xL c).1⟩, (xL c).2)
 else if (fp c).1 = 1 then (if 0 < (ik (br c).s).length then (⟨(br c).s.ZE.set 0 ((ik (br c).s).set 0 (nc ((ik (br c).s).getD 0 ⟨0, [], 0, 0⟩) (nb c).1)), (br c).s.Now⟩, (nb c).2) else ((br c).s, (fp c).2))
 else if (fp c).1 = 2 then (⟨(br c).s.ZE.set 0 (ik (br c).s ++ [⟨(ou c).1, [1, 2, 3], 0, -1⟩]), (br c).s.Now⟩, (ou c).2)
 else ((br c).s, (fp c).2)
def MP {c : au} (h : (fp c).1 = 0) : gt c = (⟨(br c).s.ZE, (xL c).1⟩, (xL c).2) := if_pos h
def MQ {c : au} (h0 : ¬ (fp c).1 = 0) (h : (fp c).1 = 1) (hl : 0 < (ik (br c).s).length) : gt c = (⟨(br c).s.ZE.set 0 ((ik (br c).s).set 0 (nc (ik (br c).s)[0] (nb c).1)), (br c).s.Now⟩, (nb c).2) := by
 unfold gt; rw [if_neg h0, if_pos h, if_pos hl, oo hl]
def MR {c : au} (h0 : ¬ (fp c).1 = 0) (h : (fp c).1 = 1) (hl : ¬ 0 < (ik (br c).s).length) : gt c = ((br c).s, (fp c).2) := by
 unfold gt; rw [if_neg h0, if_pos h, if_neg hl]
def MS {c : au} (h0 : ¬ (fp c).1 = 0) (h1 : ¬ (fp c).1 = 1) (h : (fp c).1 = 2) : gt c = (⟨(br c).s.ZE.set 0 (ik (br c).s ++ [⟨(ou c).1, [1, 2, 3], 0, -1⟩]), (br c).s.Now⟩, (ou c).2) := by unfold gt; rw [if_neg h0, if_neg h1, if_pos h]
def MT {c : au} (h0 : ¬ (fp c).1 = 0) (h1 : ¬ (fp c).1 = 1) (h2 : ¬ (fp c).1 = 2) : gt c = ((br c).s, (fp c).2) := by unfold gt; rw [if_neg h0, if_neg h1, if_neg h2]
def MU {α : Type} {f : α → Nat} {l : List α} {x : α} (h : 0 < l.length) : ((l.set 0 x).map f).sum + f l[0] = (l.map f).sum + f x := by
 cases l with
 | nil => simp at h
 | cons y l => simp only [List.set_cons_zero, List.map_cons, List.sum_cons, List.getElem_cons_zero]; omega
def MV {s : Store} {x : List aM} {n : Int} (h : 0 < s.ZE.length) : cq ⟨s.ZE.set 0 x, n⟩ + cb (ik s) = cq s + cb x := by
 have e0 : ik s = s.ZE[0] := oo h
 have h2 := MU (f := cb) (x := x) h
 rw [e0]
 unfold cq gN
 dsimp only
 rw [List.length_set]
 simp only [bh]; omega
def Xn {l : List aM} {d : Int} (h : 0 < l.length) : cb (l.set 0 (nc l[0] d)) = cb l := by
 have h3 := MU (f := cw) (x := nc l[0] d) h
 have h4 : cw (nc l[0] d) = cw l[0] := rfl
 unfold cb; rw [List.length_set]; omega
def Xo {l : List aM} {v : aM} : cb (l ++ [v]) = cb l + cw v + 1 := by
 unfold cb; simp only [aD, bb, List.sum_append, List.map_cons, List.map_nil, List.sum_cons, List.sum_nil, List.length_cons, List.length_nil]; omega
def MW (c : au) : cq (gt c).1 ≤ 210 := by
 have hok := uq c
 have hw := rY hok
 have h1 : 0 < (br c).s.ZE.length := (iS.1 hok).l1
 by_cases k0 : (fp c).1 = 0
 ·rw [MP k0]; unfold cq at hw ⊢; simp only [bh] at hw ⊢; omega
 ·by_cases k1 : (fp c).1 = 1
  ·by_cases hl : 0 < (ik (br c).s).length
   ·rw [MQ k0 k1 hl]
    have h2 := MV (x := (ik (br c).s).set 0 (nc (ik (br c).s)[0] (nb c).1)) (n := (br c).s.Now) h1
    have h3 := Xn (d := (nb c).1) hl
    dsimp only; omega
   ·rw [MR k0 k1 hl]; dsimp only; omega
  ·by_cases k2 : (fp c).1 = 2
   ·rw [MS k0 k1 k2]
    have h2 := MV (x := ik (br c).s ++ [⟨(ou c).1, [1, 2, 3], 0, -1⟩]) (n := (br c).s.Now) h1
    have h3 := Xo (l := ik (br c).s) (v := ⟨(ou c).1, [1, 2, 3], 0, -1⟩)
    have h4 : cw ⟨(ou c).1, [1, 2, 3], 0, -1⟩ = 3 := rfl
    dsimp only; omega
   ·rw [MT k0 k1 k2]; dsimp only; omega
def iU (c : au) (s : mY) : bM := ⟨(kR c).1, (dk c).1, s.ids, s.ten, s.rows⟩
def qE (c : au) : eE := ⟨(fH c).1, 0, 0, (rE (fH c).2).1⟩
def xM (a : ZF) : bW := itoa a.ZG.Id ++ [32, 97, 116, 32] ++ itoa a.Time ++ [32, 108, 101, 102, 116, 32] ++ itoa (a.ZO.length : Int) ++ [32, 114, 111, 119, 115, 32] ++ itoa (a.Rows.length : Int)
def qF (a : ZF) : bW := if ie a then xM a else xM a ++ [32, 97, 115, 108, 101, 101, 112]
noncomputable def lz (e : ay) : List bW := if aT e then e.ZF.map qF else []
def MX {a : ZF} (h : ie a = true) : qF a = xM a := if_pos h
def MY {a : ZF} (h : ie a = false) : qF a = xM a ++ [32, 97, 115, 108, 101, 101, 112] := if_neg (by rw [h]; simp)
def MZ {e : ay} (h : aT e = true) : lz e = e.ZF.map qF := if_pos h
def Na {e : ay} (h : aT e = false) : lz e = [] := if_neg (by rw [h]; simp)
def Nb {s : Store} {a : ZF} (h : eg s a = true) : (0 ≤ a.ZG.Id ∧ a.ZG.Id ≤ 23) ∧ (0 ≤ a.Time ∧ a.Time ≤ s.Now) ∧ a.Rows.length ≤ 1000 := by
 unfold eg bG fg at h
 simp only [aL, aB, decide_eq_true_eq] at h
 omega
def Xp {e : ay} {k : Nat} (h : (k = e.ZF.length ∧ aT e = true) ∨ (k = 0 ∧ (e.ZF.length = 0 ∨ aT e = false))) : (e.ZF.take k).map qF = lz e := by
 rcases h with ⟨rfl, h⟩ | ⟨rfl, h⟩
 ·rw [bY, MZ h]
 ·rcases h with h | h
  ·unfold lz
   rw [gu h]
   split <;> rfl
  ·rw [Na h]; rfl
end Go.Proofs.YtmekkgdboplbjaaGreatDoor
