/- Definitions and their laws. No condition. -/
import Derived.Test.YtmekkgdboplbjaaGreatCE0
import Derived.Test.YtmekkgdboplbjaaGreatCZ0
set_option linter.all false
namespace Go.Proofs.YtmekkgdboplbjaaGreat
open Go Go.RowKit M
set_option maxRecDepth 10000
def PB {α : Type} {d : α} {p : α → Bool} {key : α → Int} {l : List α} (h : fa d p (fun a b => decide (key a < key b)) l = true) : l.Pairwise (fun a b => key a < key b) := by
 have step : ∀ j : Nat, (hj : j + 1 < l.length) → key l[j] < key l[j + 1] := fun j hj => by
  have h1 := List.all_eq_true.1 h (j + 1) (List.mem_range.2 hj)
  rw [bq, gU hj, show j + 1 - 1 = j from rfl, gU (show j < l.length by omega)] at h1
  have h2 := h1.2
  simpa using h2
 have lt : ∀ (j i : Nat) (hj : j < l.length) (hi : i < j), key l[i] < key l[j] := by
  intro j
  induction j with
  | zero => intro i _ hi; omega
  | succ j ih =>
   intro i hj hi
   have h1 := step j hj
   rcases Nat.lt_or_ge i j with h2 | h2
   ·have := ih i (by omega) h2; omega
   ·have : i = j := by omega
    subst this; exact h1
 rw [List.pairwise_iff_getElem]
 exact fun i j hi hj hij => lt j i hj hij
def aas {l : List Int} (h : ∀ x ∈ l, 0 ≤ x ∧ x ≤ 23) (hp : l.Pairwise (· < ·)) : dS l = true := by
 unfold dS
 rw [mA]
 intro i hi
 have hi := List.mem_range.1 hi
 rw [List.pairwise_iff_getElem] at hp
 refine xU.2 ?_
 rw [show l.getD i 0 = l[i] by simp [hi]]
 have := h _ (List.getElem_mem hi)
 refine ⟨this.1, this.2, ?_⟩
 rcases Nat.eq_zero_or_pos i with h0 | h0
 ·exact .inl h0
 ·right
  rw [show l.getD (i - 1) 0 = l[i - 1]'(by omega) by simp [show i - 1 < l.length by omega]]
  exact hp (i - 1) i (by omega) hi (by omega)
def aat {l : List eA} {s : eA} {v : Int} (h : ib v s = false) : gI (l ++ [s]) v = gI l v := by
 unfold gI
 rw [List.find?_append]
 cases hf : l.find? (ib v) with
 | some t => rfl
 | none => simp [h]
def aau {l : List eA} {s : eA} {v : Int} (hl : ∀ t ∈ l, ib v t = false) (h : ib v s = true) : gI (l ++ [s]) v = s.Set := by
 unfold gI
 rw [List.find?_append, List.find?_eq_none.2 (fun t ht => by simp [hl t ht])]
 simp [h]
structure Dq (l : List acv) (f : Int) (k : Nat) (out : List eA) : Prop where
 none : k = 0 → out = []
 some : 0 < k → ∃ (a : List eA) (s : eA), out = a ++ [s] ∧ s.To = (k : Int) - 1 ∧ s.From ≤ (k : Int) - 1 ∧ (∀ v : Int, s.From ≤ v → v ≤ (k : Int) - 1 → fY l f v = s.Set) ∧ (∀ t ∈ a, t.To < s.From) ∧ (∀ v : Int, 0 ≤ v → v < s.From → gI a v = fY l f v)
def Dq.find {l : List acv} {f : Int} {k : Nat} {out : List eA} (h : Dq l f k out) {v : Int} (h0 : 0 ≤ v) (hv : v < k) : gI out v = fY l f v := by
 obtain ⟨a, s, rfl, h1, h2, h3, h4, h5⟩ := h.some (by omega)
 by_cases hc : s.From ≤ v
 ·rw [aau (fun t ht => by have := h4 t ht; simp [ib, aW]; omega) (by simp [ib, aW]; omega), h3 v hc (by omega)]
 ·rw [aat (by simp [ib, aW]; omega), h5 v h0 (by omega)]
def PC (l : List acv) (f : Int) : ∀ k : Nat, Dq l f k (dj l f k)
 | 0 => ⟨fun _ => rfl, fun h => absurd h (Nat.lt_irrefl 0)⟩
 | k + 1 => by
  have ih := PC l f k
  refine ⟨fun h => by omega, fun _ => ?_⟩
  rw [dj]
  have fresh : ∃ (a : List eA) (s : eA), dj l f k ++ [⟨(k : Int), (k : Int), fY l f k⟩] = a ++ [s] ∧ s.To = ((k + 1 : Nat) : Int) - 1 ∧ s.From ≤ ((k + 1 : Nat) : Int) - 1 ∧ (∀ v : Int, s.From ≤ v → v ≤ ((k + 1 : Nat) : Int) - 1 → fY l f v = s.Set) ∧ (∀ t ∈ a, t.To < s.From) ∧ (∀ v : Int, 0 ≤ v → v < s.From → gI a v = fY l f v) := by
   refine ⟨_, _, rfl, by dsimp only; omega, by dsimp only; omega, fun v h1 h2 => ?_, fun t ht => ?_, fun v h1 h2 => ih.find h1 h2⟩
   ·dsimp only at h1 ⊢
    rw [show v = (k : Int) by omega]
   ·dsimp only
    rcases Nat.eq_zero_or_pos k with h0 | h0
    ·rw [ih.none h0] at ht; cases ht
    ·obtain ⟨a, s, he, h1, h2, _, h4, _⟩ := ih.some h0
     rw [he] at ht
     rcases List.mem_append.1 ht with ht | ht
     ·have := h4 t ht; omega
     ·simp at ht; subst ht; omega
  unfold te
  split
  ·rename_i hl
   rcases Nat.eq_zero_or_pos k with h0 | h0
   ·rw [ih.none h0] at hl; cases hl
   ·obtain ⟨a, s, he, h1, h2, h3, h4, h5⟩ := ih.some h0
    rw [he] at hl ⊢
    have hlen : (a ++ [s]).length - 1 = a.length := by simp
    have hg : (a ++ [s]).getD a.length kr = s := by simp
    unfold mq at hl
    rw [hlen, hg, bq] at hl
    have hs : s.Set = fY l f k := gr.1 hl.2
    rw [hlen, hg, List.set_append_right (h := Nat.le_refl _), Nat.sub_self, List.set_cons_zero]
    refine ⟨a, _, rfl, by dsimp only; omega, by dsimp only; omega, fun v k1 k2 => ?_, h4, h5⟩
    dsimp only at k1 ⊢
    by_cases hk : v = (k : Int)
    ·rw [hk, hs]
    ·exact h3 v k1 (by omega)
  ·exact fresh
def aav {l : List acv} {f v : Int} (hl : dz l = true) (hf : 0 ≤ f ∧ f ≤ 2) (hv : 0 ≤ v ∧ v ≤ 99) : gI (gH l f) v = fY l f v := by
 have hc : (dz l && aW f 0 2) = true := by rw [hl, Bool.true_and]; exact MV.2 hf
 unfold gH
 rw [if_pos hc]
 have h := PC l f 100
 generalize dj l f 100 = out at h ⊢
 exact h.find hv.1 (by omega)
def PD {l : List acv} (h : dz l = true) : l.Pairwise (fun a b => a.Id < b.Id) := by
 unfold dz at h
 rw [bq] at h
 exact PB h.1
def aaw {q : acv} (h : cJ q = true) : 0 ≤ q.Id ∧ q.Id ≤ 23 := by
 unfold cJ at h
 simp only [bq, aW, decide_eq_true_eq] at h
 exact h.1.1
def Dr {l : List acv} (h : dz l = true) (P : acv → Bool) : dS ((l.filter P).map acv.Id) = true := by
 refine aas (fun x hx => ?_) ?_
 ·obtain ⟨q, hq, rfl⟩ := List.mem_map.1 hx
  exact aaw ((pU h).2 q (List.mem_filter.1 hq).1)
 ·rw [List.pairwise_map]
  exact (PD h).filter P
def aax {α : Type} {key : α → Int} {l : List α} (h : l.Pairwise (fun a b => key a < key b)) {a b : α} (ha : a ∈ l) (hb : b ∈ l) (he : key a = key b) : a = b := by
 obtain ⟨i, hi, rfl⟩ := List.mem_iff_getElem.1 ha
 obtain ⟨j, hj, rfl⟩ := List.mem_iff_getElem.1 hb
 rw [List.pairwise_iff_getElem] at h
 rcases Nat.lt_trichotomy i j with h1 | h1 | h1
 ·have := h i j hi hj h1; omega
 ·subst h1; rfl
 ·have := h j i hj hi h1; omega
def PE {l : List acv} (h : dz l = true) (P : acv → Bool) {q : acv} (hq : q ∈ l) : ci ((l.filter P).map acv.Id) q.Id = P q := by
 rw [Bool.eq_iff_iff, Cy, yR]
 constructor
 ·rintro ⟨r, hr, he⟩
  have hr := List.mem_filter.1 hr
  rw [← aax (PD h) hr.1 hq he]; exact hr.2
 ·intro hp
  exact ⟨q, List.mem_filter.2 ⟨hq, hp⟩, rfl⟩
def aay {l : List acv} (h : dz l = true) (P A : acv → Bool) : oM ((l.filter P).map acv.Id) ((l.filter A).map acv.Id) = (l.filter fun q => P q && A q).map acv.Id := by
 unfold oM
 rw [Dr h P, Dr h A, Bool.and_self, if_pos rfl, ← CA (Dr h P), List.filter_map, List.filter_filter]
 congr 1
 refine List.filter_congr fun q hq => ?_
 show (ci ((l.filter A).map acv.Id) q.Id && P q) = _
 rw [PE h A hq, Bool.and_comm]
def PF {l : List acv} {x : jB} {r : Row} (hl : dz l = true) (hx : ∀ f : Int, 0 ≤ f → f ≤ 2 → x.Fields.getD f.toNat [] = gH l f) (hv : ∀ f : Int, 0 ≤ f → f ≤ 2 → 0 ≤ iu r.Values f ∧ iu r.Values f ≤ 99) : ∀ (o : List Int) (P : acv → Bool) (s : List Int × Int), (∀ f ∈ o, 0 ≤ f ∧ f ≤ 2) → s.1 = (l.filter P).map acv.Id → (o.foldl (oQ x r) s).1 = (l.filter fun q => P q && o.all fun f => iI q f (iu r.Values f)).map acv.Id
 | [], P, s, _, hs => by rw [List.foldl_nil, hs]; simp
 | f :: o, P, s, ho, hs => by
  rw [List.foldl_cons]
  have hf := ho f (List.mem_cons_self ..)
  have hn : (oQ x r s f).1 = (l.filter fun q => P q && iI q f (iu r.Values f)).map acv.Id := by
   unfold oQ
   split
   ·rename_i h0
    rw [h0] at hs
    rw [h0, eq_comm, List.map_eq_nil_iff, List.filter_eq_nil_iff]
    intro q hq hp
    rw [bq] at hp
    have : q.Id ∈ (l.filter P).map acv.Id := List.mem_map_of_mem (List.mem_filter.2 ⟨hq, hp.1⟩)
    rw [← hs] at this; cases this
   ·dsimp only
    rw [hs, hx f hf.1 hf.2, aav hl hf (hv f hf.1 hf.2)]
    exact aay hl P _
  rw [PF hl hx hv o _ _ (fun g hg => ho g (List.mem_cons_of_mem _ hg)) hn]
  congr 1
  refine List.filter_congr fun q _ => ?_
  rw [List.all_cons, Bool.and_assoc]
def aaz {o : List Int} (h : gV o = true) : (0 : Int) ∈ o ∧ (1 : Int) ∈ o ∧ (2 : Int) ∈ o := by
 unfold gV at h
 simp only [bq, Cy] at h
 exact h.2
def aaA {r : Row} (h : dR r = true) {f : Int} (h0 : 0 ≤ f) (h2 : f ≤ 2) : 0 ≤ iu r.Values f ∧ iu r.Values f ≤ 99 := by
 have hl := sZ h
 unfold dR at h
 simp only [bq] at h
 have hlt : f.toNat < r.Values.length := by omega
 have := List.all_eq_true.1 h.1 _ (List.getElem_mem hlt)
 unfold iu
 rw [gU hlt]
 exact MV.1 this
def aaB {o : List Int} {q : acv} {r : Row} (ho : gV o = true) (hr : dR r = true) (hq : cJ q = true) : (o.all fun f => iI q f (iu r.Values f)) = fH q r := by
 rw [Bool.eq_iff_iff, mA]
 unfold fH
 rw [hr, hq, Bool.and_self, Bool.true_and, mA]
 constructor
 ·intro h c hc
  have hf := MX hq hc
  have hfo : c.Field ∈ o := by
   have := aaz ho
   have : c.Field = 0 ∨ c.Field = 1 ∨ c.Field = 2 := by omega
   rcases this with h | h | h <;> rw [h] <;> simp_all
  have := List.all_eq_true.1 (h _ hfo) c hc
  simpa [iv, uO] using this
 ·intro h f _
  unfold iI
  rw [mA]
  intro c hc
  have := h c hc
  unfold iv
  by_cases he : c.Field = f
  ·subst he; unfold uO at this; simp [this]
  ·simp [he]
def aaC {l : List acv} {r : Row} {o : List Int} {q : acv} (hl : dz l = true) (hr : dR r = true) (ho : gV o = true) (hq : q ∈ l) : ci (ro (mr l) r o).1 q.Id = fH q r := by
 have hb : mr l = ⟨l, [gH l 0, gH l 1, gH l 2]⟩ := if_pos hl
 rw [hb]
 unfold ro
 rw [PF (l := l) hl (fun f h0 h2 => by
  have : f = 0 ∨ f = 1 ∨ f = 2 := by omega
  rcases this with rfl | rfl | rfl <;> rfl) (fun f h0 h2 => aaA hr h0 h2) o (fun _ => true) _ (NT ho).2 (by
   show l.map acv.Id = _
   rw [List.filter_eq_self.2 (fun _ _ => rfl)]), PE hl _ hq, Bool.true_and, aaB ho hr ((pU hl).2 q hq)]
section
def ce (e : aD) : List aU := e.Store.act.getD e.acy.toNat []
def dK (l : List aU) (t : Int) : List Row := (l.filter fun v => eK v t).map fX
def ly (e : aD) (a : acu) : List Row := (dK (ce e) a.Time).filter (fH a.acv)
def ix (e : aD) (a : acu) (j : Nat) : List Row := ((dK (ce e) a.Time).take j).filter (fH a.acv)
def lz (l : List Int) (x : Int) : List Int := l.filter fun y => !(y == x)
def pY (e : aD) (a : acu) : acu := ⟨a.acv, a.Time, lz a.acD e.acy, a.Age, a.Sent + ((ly e a).length : Int), a.Cap, a.Rows ++ ly e a⟩
def kO (e : aD) (ids : List Int) (a : acu) : acu := if ci ids a.acv.Id then pY e a else a
def ca (e : aD) (k : Nat) : List acu := e.acu.map (kO e ((parts e).take k))
def yx (e : aD) (id : Int) : acu := e.acu.getD (dJ e.acu id).toNat ic
def yy (e : aD) (id : Int) : Int := (yx e id).acv.acz
def yz (e : aD) (id : Int) : Int := ((ly e (yx e id)).length : Int)
def gK (e : aD) (k : Nat) : cU := ⟨e.acy, ((ce e).length : Int), (parts e).take k, ((parts e).take k).map (yy e), ((parts e).take k).map (yz e)⟩
def oX (n : Int) (a : acu) : acu := ⟨a.acv, a.Time, a.acD, a.Age + 1, if (a.Age + 1).tmod n = 0 then 0 else a.Sent, a.Cap, a.Rows⟩
def eR (a : acu) : Bool := decide (a.acD.length = 0)
def ti (a : acu) : cI := ⟨a.acv, a.Time, a.Age, a.Rows⟩
def cY (e : aD) (k : Nat) : List acu := (ca e k).map (oX (e.Store.act.length : Int))
def ku (e : aD) (k m : Nat) : List acu := ((cY e k).take m).filter fun a => !eR a
def gA (e : aD) (k m : Nat) : List cI := (((cY e k).take m).filter eR).map ti
def ij (e : aD) (k : Nat) : List cU := if (parts e).length = 0 then e.acG else e.acG ++ [gK e k]
def PG (e : aD) (k m : Nat) : aD := ⟨e.Store, (e.acy + 1).tmod (e.Store.act.length : Int), e.Order, ku e k m, e.Done ++ gA e k m, ij e k, e.Steps + 1⟩
def jL (e : aD) : aD := PG e (parts e).length e.acu.length
def je (e : aD) : Bool := bk e && (decide (e.Steps < 100000) && (decide ((e.acG.length : Int) < 1000) && decide ((e.Done.length : Int) + (e.acu.length : Int) ≤ 1000)))
def dn (e : aD) : aD := if je e then dC (jL e) else e
def aaD {e : aD} (h : je e = false) : dn e = e := if_neg (by rw [h]; simp)
def aaE {e : aD} (h : je e = true) : dn e = dC (jL e) := if_pos h
def yA {e : aD} (h : je e = true) : bk e = true ∧ e.Steps < 100000 ∧ (e.acG.length : Int) < 1000 ∧ (e.Done.length : Int) + (e.acu.length : Int) ≤ 1000 := by
 unfold je at h
 simp only [bq, decide_eq_true_eq] at h
 exact ⟨h.1, h.2.1, h.2.2.1, h.2.2.2⟩
def tj {e : aD} (h : bk e = true) : e.acu.Pairwise (fun a b => a.acv.Id < b.acv.Id) := by
 unfold bk at h
 simp only [bq] at h
 exact PB h.2.1
def yB {e : aD} (h : bk e = true) {i j : Nat} (hi : i < e.acu.length) (hj : j < e.acu.length) (he : e.acu[i].acv.Id = e.acu[j].acv.Id) : i = j := by
 have hp := tj h
 rw [List.pairwise_iff_getElem] at hp
 rcases Nat.lt_trichotomy i j with h1 | h1 | h1
 ·have := hp i j hi hj h1; omega
 ·exact h1
 ·have := hp j i hj hi h1; omega
def PH {e : aD} (h : bk e = true) : (parts e).Pairwise (· < ·) := by
 rw [tg h]
 unfold gX
 rw [List.pairwise_map]
 exact (tj h).filter _
def aaF {l : List Int} (hp : l.Pairwise (· < ·)) {k : Nat} (hk : k < l.length) (x : Int) : ci (l.take (k + 1)) x = (ci (l.take k) x || (l[k] == x)) := by
 unfold ci
 rw [cy hk, List.any_append]; simp
def aaG {l : List Int} (hp : l.Pairwise (· < ·)) {k : Nat} (hk : k < l.length) : ci (l.take k) l[k] = false := by
 unfold ci
 rw [List.any_eq_false]
 intro y hy
 obtain ⟨j, hj, rfl⟩ := List.mem_iff_getElem.1 hy
 rw [br] at hj
 rw [List.pairwise_iff_getElem] at hp
 have := hp j k (by omega) hk (by omega)
 simp
 omega
def PI {e : aD} {k : Nat} (hok : bk e = true) (hk : k < (parts e).length) : ∃ i, ∃ hi : i < e.acu.length, dJ e.acu (parts e)[k] = (i : Int) ∧ e.acu[i].acv.Id = (parts e)[k] ∧ jK e e.acu[i] = true := by
 have hm : ∀ x, x ∈ parts e → x ∈ gX e e.acu := fun x hx => by rwa [tg hok] at hx
 have hm := hm _ (List.getElem_mem hk)
 unfold gX at hm
 obtain ⟨a, ha, hid⟩ := List.mem_map.1 hm
 obtain ⟨ha, hp⟩ := List.mem_filter.1 ha
 obtain ⟨i, hi, rfl⟩ := List.mem_iff_getElem.1 ha
 refine ⟨i, hi, ?_, hid, hp⟩
 refine CS hi ?_ (by unfold eb; rw [hid]; simp)
 rw [List.any_eq_false]
 intro b hb
 obtain ⟨j, hj, rfl⟩ := List.mem_iff_getElem.1 hb
 rw [br] at hj
 intro hc
 unfold eb at hc
 have hc : e.acu[j].acv.Id = (parts e)[k] := by simpa using hc
 have := yB hok (show j < e.acu.length by omega) hi (hc.trans hid.symm)
 omega
section
variable {e : aD} {k i j m : Nat}
def kv : (ca e k).length = e.acu.length := by unfold ca; rw [aq]
def yC (h : i < (ca e k).length) (hi : i < e.acu.length) : (ca e k)[i] = kO e ((parts e).take k) e.acu[i] := List.getElem_map (kO e ((parts e).take k))
def PJ (hok : bk e = true) (hk : k < (parts e).length) (hi : i < e.acu.length) (hid : e.acu[i].acv.Id = (parts e)[k]) (h : i < (ca e k).length) : (ca e k)[i] = e.acu[i] := by
 rw [yC h hi]
 unfold kO
 rw [hid, aaG (PH hok) hk, if_neg (by simp)]
def PK (hok : bk e = true) (hk : k < (parts e).length) (hi : i < e.acu.length) (hid : e.acu[i].acv.Id = (parts e)[k]) : (ca e k).set i (pY e e.acu[i]) = ca e (k + 1) := by
 refine List.ext_getElem (by rw [List.length_set, kv, kv]) fun j h1 h2 => ?_
 have hj : j < e.acu.length := by rw [kv] at h2; exact h2
 rw [List.getElem_set, yC h2 hj]
 unfold kO
 rw [aaF (PH hok) hk]
 split
 ·rename_i hij
  subst hij
  rw [hid]; simp
 ·rename_i hij
  rw [yC _ hj]
  unfold kO
  have : ((parts e)[k] == e.acu[j].acv.Id) = false := by
   rw [beq_eq_false_iff_ne]
   intro hc
   exact hij (yB hok hi hj (hid.trans hc))
  rw [this, Bool.or_false]
def Ds : ca e 0 = e.acu := by
 unfold ca
 have : ∀ a : acu, kO e ((parts e).take 0) a = a := fun a => by unfold kO ci; simp
 rw [List.map_congr_left (g := id) (fun a _ => this a), List.map_id]
def PL {id : Int} (hi : i < e.acu.length) (hf : dJ e.acu id = (i : Int)) : yx e id = e.acu[i] := by
 unfold yx; rw [hf]; simp [hi]
def aaH (hk : k < (parts e).length) (hi : i < e.acu.length) (hf : dJ e.acu (parts e)[k] = (i : Int)) : gK e (k + 1) = ⟨e.acy, ((ce e).length : Int), (gK e k).Ids ++ [(parts e)[k]], (gK e k).acA ++ [e.acu[i].acv.acz], (gK e k).Rows ++ [((ly e e.acu[i]).length : Int)]⟩ := by
 have ha := PL hi hf
 unfold gK
 rw [cy hk]
 simp only [bT, List.map_cons, List.map_nil, yy, yz, ha]
def Dt (hk : k ≤ (parts e).length) : (gK e k).Ids.length = k ∧ (gK e k).acA.length = k ∧ (gK e k).Rows.length = k := by
 unfold gK
 simp only [aq, br]
 omega
def PM {a : acu} (hj : j < (dK (ce e) a.Time).length) (h : fH a.acv (dK (ce e) a.Time)[j] = true) : ix e a (j + 1) = ix e a j ++ [(dK (ce e) a.Time)[j]] := by
 unfold ix; rw [cy hj, fA]; simp [h]
def PN {a : acu} (hj : j < (dK (ce e) a.Time).length) (h : fH a.acv (dK (ce e) a.Time)[j] = false) : ix e a (j + 1) = ix e a j := by
 unfold ix; rw [cy hj, fA]; simp [h]
def Du {a : acu} : ix e a (dK (ce e) a.Time).length = ly e a := by unfold ix ly; rw [cn]
def yD (l : List aU) (t : Int) : (dK l t).length ≤ l.length := by unfold dK; rw [aq]; exact ji _ _
def Dv (h : e.acy.toNat < e.Store.act.length) : e.Store.act[e.acy.toNat] = ce e := by unfold ce; simp [h]
def Dw (hok : bk e = true) : (ce e).length ≤ 4 := by
 have hf := ie hok
 rw [← Dv hf.2.2.2.1]
 exact (nq hf.1).2.2.2.2.1 _ (List.getElem_mem _)
def vc : (cY e k).length = e.acu.length := by unfold cY; rw [aq, kv]
def tk (h : m < (cY e k).length) (h2 : m < (ca e k).length) : (cY e k)[m] = oX (e.Store.act.length : Int) (ca e k)[m] := List.getElem_map (oX (e.Store.act.length : Int))
def aaI (hm : m < (cY e k).length) (h : eR (cY e k)[m] = false) : ku e k (m + 1) = ku e k m ++ [(cY e k)[m]] := by
 unfold ku; rw [cy hm, fA]; simp [h]
def aaJ (hm : m < (cY e k).length) (h : eR (cY e k)[m] = true) : ku e k (m + 1) = ku e k m := by
 unfold ku; rw [cy hm, fA]; simp [h]
def aaK (hm : m < (cY e k).length) (h : eR (cY e k)[m] = true) : gA e k (m + 1) = gA e k m ++ [ti (cY e k)[m]] := by
 unfold gA; rw [cy hm, fA]; simp [h]
def aaL (hm : m < (cY e k).length) (h : eR (cY e k)[m] = false) : gA e k (m + 1) = gA e k m := by
 unfold gA; rw [cy hm, fA]; simp [h]
def yE : (ku e k m).length ≤ m := by
 have := ji (fun a => !eR a) ((cY e k).take m)
 rw [br] at this
 unfold ku; omega
def yF : (gA e k m).length ≤ m := by
 have := ji eR ((cY e k).take m)
 rw [br] at this
 unfold gA; rw [aq]; omega
def Dx {n : Int} {a : acu} (h : (a.Age + 1).tmod n = 0) : oX n a = ⟨a.acv, a.Time, a.acD, a.Age + 1, 0, a.Cap, a.Rows⟩ := by unfold oX; rw [if_pos h]
def Dy {n : Int} {a : acu} (h : ¬ (a.Age + 1).tmod n = 0) : oX n a = ⟨a.acv, a.Time, a.acD, a.Age + 1, a.Sent, a.Cap, a.Rows⟩ := by unfold oX; rw [if_neg h]
def Dz (l : List Int) (x : Int) : (lz l x).length ≤ l.length := ji _ _
def aaM {l : List Int} {x : Int} (hk : k < l.length) (h : ¬ l[k] = x) : lz (l.take (k + 1)) x = lz (l.take k) x ++ [l[k]] := by
 unfold lz; rw [cy hk, fA]; simp [h]
def aaN {l : List Int} {x : Int} (hk : k < l.length) (h : l[k] = x) : lz (l.take (k + 1)) x = lz (l.take k) x := by
 unfold lz; rw [cy hk, fA]; simp [h]
end
def DA {l : List aU} {t : Int} {k : Nat} (hk : k < l.length) (h : eK l[k] t = true) : dK (l.take (k + 1)) t = dK (l.take k) t ++ [fX l[k]] := by
 unfold dK; rw [cy hk, fA]; simp [h]
def PO {l : List aU} {t : Int} {k : Nat} (hk : k < l.length) (h : eK l[k] t = false) : dK (l.take (k + 1)) t = dK (l.take k) t := by
 unfold dK; rw [cy hk, fA]; simp [h]
def aaO (a b : List Row) : dH (a ++ b) = dH a + dH b := by unfold dH; simp; omega
def PP {e : aD} (hok : bk e = true) : ∀ v ∈ ce e, dR (fX v) = true := by
 intro v hv
 have hf := ie hok
 rw [← Dv hf.2.2.2.1] at hv
 obtain ⟨j, hj, rfl⟩ := List.mem_iff_getElem.1 hv
 have := NQ hf.1 hf.2.2.2.1 hj
 unfold eQ at this
 rw [bq] at this
 exact this.1
def PQ : ∀ l : List Row, (∀ r ∈ l, dR r = true) → dH l = 4 * l.length
 | [], _ => rfl
 | r :: l, h => by
  have ih := PQ l fun x hx => h x (List.mem_cons_of_mem _ hx)
  have hr : r.Values.length = 3 := by
   have := h r List.mem_cons_self
   simp [dR, aW] at this; omega
  have hw : dv r = 3 := by simp only [dv, ek, bd]; omega
  unfold dH at ih ⊢
  rw [List.length_cons, List.map_cons, List.sum_cons, hw]; omega
def aaP {e : aD} (hok : bk e = true) (t : Int) : ∀ r ∈ dK (ce e) t, dR r = true := by
 intro r hr
 unfold dK at hr
 obtain ⟨v, hv, rfl⟩ := List.mem_map.1 hr
 exact PP hok v (List.mem_filter.1 hv).1
def DB {e : aD} (hok : bk e = true) (a : acu) (j : Nat) : dH (ix e a j) ≤ 16 ∧ (ix e a j).length ≤ 4 := by
 have hl : (ix e a j).length ≤ 4 := by
  have h1 := ji (fH a.acv) ((dK (ce e) a.Time).take j)
  rw [br] at h1
  have h2 := yD (ce e) a.Time
  have h3 := Dw hok
  unfold ix; omega
 have hw := PQ (ix e a j) fun r hr => aaP hok a.Time r (List.mem_of_mem_take (List.mem_filter.1 hr).1)
 omega
def aaQ {e : aD} (hok : bk e = true) (a : acu) : bZ (pY e a) ≤ bZ a + 16 := by
 have h1 := DB hok a (dK (ce e) a.Time).length
 rw [Du] at h1
 have h2 := Dz a.acD e.acy
 unfold pY bZ
 simp only [ek, bd, aaO]
 omega
def aaR {e : aD} (hok : bk e = true) (k : Nat) : ((ca e k).map bZ).sum ≤ (e.acu.map bZ).sum + 16 * e.acu.length := by
 unfold ca
 generalize e.acu = l
 induction l with
 | nil => simp
 | cons a l ih =>
  simp only [List.map_cons, List.sum_cons, List.length_cons] at *
  have h1 : bZ (kO e ((parts e).take k) a) ≤ bZ a + 16 := by
   unfold kO
   split
   ·exact aaQ hok a
   ·omega
  omega
def aaS (n : Int) (a : acu) : bZ (oX n a) = bZ a := by unfold oX bZ; simp only [bd]
def aaT (a : acu) : eJ (ti a) ≤ bZ a := by unfold ti eJ bZ; simp only [bd]; omega
def PR : ∀ l : List acu, ((l.filter fun a => !eR a).map bZ).sum + (((l.filter eR).map ti).map eJ).sum ≤ (l.map bZ).sum
 | [] => by simp
 | a :: l => by
  have ih := PR l
  have hf := aaT a
  simp only [List.filter_cons]
  cases h : eR a
  ·simp only [Bool.not_false, if_true, List.map_cons, List.sum_cons, if_neg (by simp : ¬ (false = true))]; omega
  ·simp only [Bool.not_true, if_true, List.map_cons, List.sum_cons, if_neg (by simp : ¬ (false = true))]; omega
def PS : ∀ l : List acu, (l.filter fun a => !eR a).length + (l.filter eR).length = l.length
 | [] => rfl
 | a :: l => by
  have ih := PS l
  simp only [List.filter_cons]
  cases h : eR a <;> simp <;> omega
def aaU {e : aD} {k : Nat} (hk : k ≤ (parts e).length) : fi (gK e k) = 3 * k := by
 have := Dt hk
 simp only [fi, ek, bd]
 omega
def DC {e : aD} (hok : bk e = true) : bi (jL e) ≤ bi e + 200 := by
 have hf := ie hok
 have hp := yg (e := e)
 have h1 := aaR hok (parts e).length
 have h2 : ((cY e (parts e).length).map bZ).sum = ((ca e (parts e).length).map bZ).sum := by
  unfold cY
  rw [List.map_map]
  exact congrArg List.sum (List.map_congr_left fun a _ => aaS _ a)
 have h3 := PR (cY e (parts e).length)
 have h4 := PS (cY e (parts e).length)
 have h5 := vc (e := e) (k := (parts e).length)
 have hr : ku e (parts e).length e.acu.length = (cY e (parts e).length).filter fun a => !eR a := by
  unfold ku; rw [gB (by omega)]
 have hd : gA e (parts e).length e.acu.length = ((cY e (parts e).length).filter eR).map ti := by
  unfold gA; rw [gB (by omega)]
 have hc := aaU (e := e) (Nat.le_refl _)
 have hl : dP (ij e (parts e).length) ≤ dP e.acG + 25 := by
  unfold ij
  split
  ·omega
  ·unfold dP
   rw [aV, bT, List.sum_append]
   simp only [List.map_cons, List.map_nil, List.sum_cons, List.sum_nil, List.length_cons, List.length_nil, hc]
   omega
 unfold jL PG bi
 dsimp only
 simp only [bd, da, dQ, hr, hd, aV, bT, List.sum_append, aq] at *
 omega
def DD (e : aD) : bi (dC e) ≤ bi e := by
 have := CU e.Store (fK e.acu)
 unfold dC bi
 dsimp only
 omega
def aaV (e : aD) : bi (dn e) ≤ bi e + 200 := by
 unfold dn
 split
 ·rename_i h
  have h1 := DC (yA h).1
  have h2 := DD (jL e)
  omega
 ·omega
def aaW {e : aD} {k : Nat} (id : Int) : dJ (ca e k) id = dJ e.acu id := by
 have hq : ∀ a : acu, eb id (kO e ((parts e).take k) a) = eb id a := fun a => by unfold kO; split <;> rfl
 unfold dJ ca
 rw [List.any_map, List.findIdx_map]
 simp only [Function.comp_def, hq]
def yG {s : Store} {a : acu} (h : gj s a = true) : 0 ≤ a.Sent ∧ a.Sent ≤ 1000 ∧ 0 ≤ a.Age ∧ a.Age ≤ 100000 ∧ a.Rows.length ≤ 1000 ∧ cJ a.acv = true := by
 unfold gj at h
 simp only [bq, aW, decide_eq_true_eq, pP] at h
 exact ⟨by omega, by omega, by omega, by omega, by omega, h.2.1⟩
def yH {e : aD} (h : bk e = true) {k i : Nat} (hi : i < e.acu.length) (h2 : i < (ca e k).length) : 0 ≤ (ca e k)[i].Age ∧ (ca e k)[i].Age ≤ 100000 := by
 have ha := yG ((ie h).2.2.2.2.2.2.2.2.2.1 _ (List.getElem_mem hi))
 rw [yC h2 hi]
 unfold kO
 split <;> exact ⟨ha.2.2.1, ha.2.2.2.1⟩
def PT {e : aD} (h : bk e = true) (a : acu) : (ly e a).length ≤ 4 := by
 have := (DB h a (dK (ce e) a.Time).length).2
 rwa [Du] at this
def eS (z : acu × (Nat → Value)) : List PV := [PV.nv (z.2 0) (PV.val (vI z.1.acv.Id)), PV.nv (z.2 1) (PV.val (vI z.1.acv.acz)), PV.nv (z.2 2) (PV.sl .v (z.1.acv.acw.map bj)), PV.nv (z.2 3) (PV.sl .v (z.1.acv.Out.map ak)), PV.nv (z.2 4) (PV.val (vI z.1.Time)), PV.nv (z.2 5) (PV.sl .v (z.1.acD.map ak)), PV.nv (z.2 6) (PV.val (vI z.1.Age)), PV.nv (z.2 7) (PV.val (vI z.1.Sent)), PV.nv (z.2 8) (PV.val (vI z.1.Cap)), PV.nv (z.2 9) (PV.sl .v (z.1.Rows.map (bC aa)))]
def aaX (z : Row × (Nat → Value)) : List PV := [PV.nv (z.2 0) (PV.val (vI z.1.Id)), PV.nv (z.2 1) (PV.sl .v (z.1.Values.map ak))]
def aaY {α : Type} {d : α} {p : α → Bool} {r : α → α → Bool} {l : List α} (h1 : ∀ x ∈ l, p x = true) (h2 : l.Pairwise (fun a b => r a b = true)) : fa d p r l = true := by
 unfold fa kJ
 rw [mA]
 intro i hi
 have hi := List.mem_range.1 hi
 rw [gU hi, h1 _ (List.getElem_mem hi), Bool.true_and]
 cases i with
 | zero => rfl
 | succ i =>
  rw [List.pairwise_iff_getElem] at h2
  rw [show i + 1 - 1 = i from rfl, gU (show i < l.length by omega), h2 i (i + 1) (by omega) hi (by omega)]
  simp
def PU {e : aD} (hok : bk e = true) : oR e.acu (parts e) = (e.acu.filter (jK e)).map fun a => a.acv := by
 rw [tg hok]
 unfold oR gX
 rw [List.map_map]
 refine List.map_congr_left fun a ha => ?_
 have ha := (List.mem_filter.1 ha).1
 obtain ⟨i, hi, rfl⟩ := List.mem_iff_getElem.1 ha
 have hf : dJ e.acu e.acu[i].acv.Id = (i : Int) := by
  refine CS hi ?_ (by unfold eb; simp)
  rw [List.any_eq_false]
  intro b hb
  obtain ⟨j, hj, rfl⟩ := List.mem_iff_getElem.1 hb
  rw [br] at hj
  intro hc
  unfold eb at hc
  have hc : e.acu[j].acv.Id = e.acu[i].acv.Id := by simpa using hc
  have := yB hok (show j < e.acu.length by omega) hi hc
  omega
 show (e.acu.getD (dJ e.acu e.acu[i].acv.Id).toNat ic).acv = _
 rw [hf]; simp [hi]
def aaZ {e : aD} (hok : bk e = true) : dz (oR e.acu (parts e)) = true := by
 have hef := ie hok
 rw [PU hok]
 unfold dz
 have hl := ji (jK e) e.acu
 rw [bq]
 refine ⟨aaY (fun x hx => ?_) ?_, ?_⟩
 ·obtain ⟨a, ha, rfl⟩ := List.mem_map.1 hx
  exact (yG (hef.2.2.2.2.2.2.2.2.2.1 _ (List.mem_filter.1 ha).1)).2.2.2.2.2
 ·rw [List.pairwise_map]
  refine ((tj hok).filter _).imp fun {a b} h => ?_
  unfold rn; simpa using h
 ·rw [aq, decide_eq_true_eq]; omega
def aa0 {e : aD} (hok : bk e = true) {i : Nat} (hi : i < e.acu.length) (h : jK e e.acu[i] = true) : e.acu[i].acv ∈ oR e.acu (parts e) := by
 rw [PU hok]
 exact List.mem_map.2 ⟨_, List.mem_filter.2 ⟨List.getElem_mem hi, h⟩, rfl⟩
def jM (e : aD) (a : acu) (j : Nat) : List Row := (dK ((ce e).take j) a.Time).filter (fH a.acv)
def PW {e : aD} {a : acu} {j : Nat} (hj : j < (ce e).length) (hv : eK (ce e)[j] a.Time = true) (hm : fH a.acv (fX (ce e)[j]) = true) : jM e a (j + 1) = jM e a j ++ [fX (ce e)[j]] := by
 unfold jM; rw [DA hj hv, fA]; simp [hm]
def yI {e : aD} {a : acu} {j : Nat} (hj : j < (ce e).length) (h : eK (ce e)[j] a.Time = false ∨ fH a.acv (fX (ce e)[j]) = false) : jM e a (j + 1) = jM e a j := by
 unfold jM
 cases hv : eK (ce e)[j] a.Time with
 | false => rw [PO hj hv]
 | true =>
  rw [hv] at h
  have hm := h.resolve_left (by simp)
  rw [DA hj hv, fA]; simp [hm]
def aa1 {e : aD} {a : acu} : jM e a (ce e).length = ly e a := by unfold jM ly; rw [cn]
def aa2 {e : aD} {a : acu} {j : Nat} : (jM e a j).length ≤ j := by
 have h1 := ji (fH a.acv) (dK ((ce e).take j) a.Time)
 have h2 := yD ((ce e).take j) a.Time
 rw [br] at h2
 unfold jM; omega
def jN (e : aD) (k : Nat) : cU := ⟨e.acy, ((ce e).length : Int), parts e, ((parts e).take k).map (yy e), ((parts e).take k).map (yz e)⟩
def aa3 {e : aD} {i k : Nat} (hk : k < (parts e).length) (hi : i < e.acu.length) (hf : dJ e.acu (parts e)[k] = (i : Int)) : jN e (k + 1) = ⟨e.acy, ((ce e).length : Int), parts e, (jN e k).acA ++ [e.acu[i].acv.acz], (jN e k).Rows ++ [((ly e e.acu[i]).length : Int)]⟩ := by
 have ha := PL hi hf
 unfold jN
 rw [cy hk]
 simp only [bT, List.map_cons, List.map_nil, yy, yz, ha]
def aa4 {e : aD} : jN e (parts e).length = gK e (parts e).length := by unfold jN gK; rw [cn]
def aa5 {e : aD} {k : Nat} (hk : k ≤ (parts e).length) : (jN e k).acA.length = k ∧ (jN e k).Rows.length = k := by
 unfold jN
 simp only [aq, br]
 omega
def aa6 (e : aD) (k : Nat) : aD := ⟨e.Store, e.acy, e.Order, ca e k, e.Done, e.acG, e.Steps⟩
end
section
def pZ (k : Nat) : List Int := (List.range k).map fun i : Nat => (i : Int)
def aa7 (k : Nat) : pZ (k + 1) = pZ k ++ [(k : Int)] := by simp [pZ, List.range_succ]
def DE (k : Nat) : (pZ k).length = k := by simp [pZ]
def ed (e : aD) (q : acv) (l : Int) : acu := ⟨q, e.Store.Now, pZ e.Store.act.length, 0, 0, l, []⟩
def kw (x : Int) (a : acu) : Bool := decide (a.acv.Id < x)
def ee (l : List acu) (x : Int) : Nat := (l.filter (kw x)).length
def ny (e : aD) (q : acv) (l : Int) : List acu := e.acu.filter (kw q.Id) ++ ed e q l :: e.acu.drop (ee e.acu q.Id)
def kP (e : aD) (q : acv) (l : Int) : Bool := ((bk e && cJ q) && aW l 0 32) && (decide (dJ e.acu q.Id < 0) && decide ((e.acu.length : Int) < 8))
def fM (e : aD) (q : acv) (l : Int) : aD × Bool := if kP e q l then (⟨e.Store, e.acy, e.Order, ny e q l, e.Done, e.acG, e.Steps⟩, true) else (e, false)
def DF {e : aD} {q : acv} {l : Int} (h : kP e q l = false) : fM e q l = (e, false) := if_neg (by rw [h]; simp)
def PX {e : aD} {q : acv} {l : Int} (h : kP e q l = true) : fM e q l = (⟨e.Store, e.acy, e.Order, ny e q l, e.Done, e.acG, e.Steps⟩, true) := if_pos h
def vd {e : aD} {q : acv} {l : Int} (h : kP e q l = true) : bk e = true ∧ cJ q = true ∧ (0 ≤ l ∧ l ≤ 32) ∧ dJ e.acu q.Id < 0 ∧ (e.acu.length : Int) < 8 := by
 unfold kP at h
 simp only [bq, decide_eq_true_eq, aW] at h
 exact ⟨h.1.1.1, h.1.1.2, h.1.2, h.2.1, h.2.2⟩
def jf (x : Int) (zs : List (acu × (Nat → Value))) : List (acu × (Nat → Value)) := zs.filter fun z => kw x z.1
section
variable {zs : List (acu × (Nat → Value))} {l : List acu} {x : Int} {k : Nat}
def aa8 (hk : k < zs.length) (h : kw x zs[k].1 = true) : jf x (zs.take (k + 1)) = jf x (zs.take k) ++ [zs[k]] := by
 unfold jf; rw [cy hk, fA]; simp [h]
def aa9 (hk : k < zs.length) (h : kw x zs[k].1 = false) : jf x (zs.take (k + 1)) = jf x (zs.take k) := by
 unfold jf; rw [cy hk, fA]; simp [h]
def aba : (jf x (zs.take k)).length ≤ k := by
 have := ji (fun z : acu × (Nat → Value) => kw x z.1) (zs.take k)
 rw [br] at this; unfold jf; omega
def PY (hz : zs.map Prod.fst = l) : (jf x zs).map Prod.fst = l.filter (kw x) := by
 subst hz; unfold jf; rw [List.filter_map]; rfl
def PZ (hz : zs.map Prod.fst = l) : (jf x zs).length = ee l x := by
 unfold ee; rw [← PY hz, aq]
def yJ {α : Type} (key : α → Int) (x : Int) : ∀ {l : List α}, l.Pairwise (fun a b => key a < key b) → l.filter (fun a => decide (key a < x)) = l.take (l.filter fun a => decide (key a < x)).length
 | [], _ => rfl
 | a :: l, h => by
  have ⟨h1, h2⟩ := List.pairwise_cons.1 h
  have ih := yJ key x h2
  rw [List.filter_cons]
  split
  ·rw [List.length_cons, List.take_succ_cons, ← ih]
  ·rename_i hc
   have hc : ¬ key a < x := by simpa using hc
   have : l.filter (fun a => decide (key a < x)) = [] := by
    rw [List.filter_eq_nil_iff]
    intro b hb
    have := h1 b hb
    simp; omega
   rw [this]; rfl
def abb {e : aD} (hok : bk e = true) (hz : zs.map Prod.fst = e.acu) : zs.Pairwise (fun a b => a.1.acv.Id < b.1.acv.Id) := by
 have := tj hok
 rw [← hz, List.pairwise_map] at this
 exact this
def Qa {e : aD} (hok : bk e = true) (hz : zs.map Prod.fst = e.acu) : jf x zs = zs.take (ee e.acu x) := by
 have h := yJ (fun z : acu × (Nat → Value) => z.1.acv.Id) x (abb hok hz)
 have hl := PZ (x := x) hz
 unfold jf kw at *
 rw [h, hl]
def Qb {e : aD} : ee e.acu x ≤ e.acu.length := ji _ _
def abc {e : aD} (hok : bk e = true) (hk : k < e.acu.length) : e.acu[k].acv.Id < x ↔ k < ee e.acu x := by
 have h := yJ (fun a : acu => a.acv.Id) x (tj hok)
 have hc : ee e.acu x = (e.acu.filter fun a => decide (a.acv.Id < x)).length := rfl
 rw [← hc] at h
 constructor
 ·intro hx
  have hm : e.acu[k] ∈ e.acu.filter fun a => decide (a.acv.Id < x) := List.mem_filter.2 ⟨List.getElem_mem hk, by simpa using hx⟩
  rw [h] at hm
  obtain ⟨j, hj, hje⟩ := List.mem_iff_getElem.1 hm
  rw [br] at hj
  rw [List.getElem_take] at hje
  have := yB hok (show j < e.acu.length by omega) hk (by rw [hje])
  omega
 ·intro hx
  have hm : e.acu[k] ∈ e.acu.take (ee e.acu x) := by
   rw [yS]; exact ⟨k, by rw [br]; omega, by rw [List.getElem_take]⟩
  rw [← h] at hm
  have := (List.mem_filter.1 hm).2
  simpa using this
def abd {e : aD} (h : dJ e.acu x < 0) (hk : k < e.acu.length) : e.acu[k].acv.Id ≠ x := by
 intro hx
 unfold dJ at h
 rw [if_pos (qZ hk (by unfold eb; simpa using hx))] at h
 omega
def jO (zs : List (acu × (Nat → Value))) (zn : acu × (Nat → Value)) (p k : Nat) : List (acu × (Nat → Value)) := if p < k then zs.take p ++ zn :: (zs.take k).drop p else zs.take k
def abe {zn : acu × (Nat → Value)} {p : Nat} (hk : k ≤ zs.length) : (jO zs zn p k).length ≤ k + 1 := by
 unfold jO; split <;> simp <;> omega
def abf {zn : acu × (Nat → Value)} {p : Nat} (hk : k < zs.length) (h : k ≠ p) : jO zs zn p (k + 1) = jO zs zn p k ++ [zs[k]] := by
 unfold jO
 by_cases hp : p < k
 ·rw [if_pos (by omega), if_pos hp, cy hk, List.drop_append_of_le_length (by rw [br]; omega)]
  simp
 ·rw [if_neg (by omega), if_neg hp, cy hk]
def abg {zn : acu × (Nat → Value)} {p : Nat} (hk : k < zs.length) (h : k = p) : jO zs zn p (k + 1) = jO zs zn p k ++ [zn] ++ [zs[k]] := by
 subst h
 unfold jO
 rw [if_pos (by omega), if_neg (by omega), cy hk, List.drop_append_of_le_length (by rw [br]; omega)]
 simp
def abh {zn : acu × (Nat → Value)} {p : Nat} (h : p < zs.length) : jO zs zn p zs.length = zs.take p ++ zn :: zs.drop p := by unfold jO; rw [if_pos h, cn]
def abi {zn : acu × (Nat → Value)} {p : Nat} (h : p = zs.length) : jO zs zn p zs.length ++ [zn] = zs.take p ++ zn :: zs.drop p := by subst h; unfold jO; rw [if_neg (by omega)]; simp
def Qc {zn : acu × (Nat → Value)} {p : Nat} : ((zs.take p ++ zn :: zs.drop p) ++ []).Perm ([zn] ++ zs) := by
 rw [eg]
 refine List.perm_middle.trans ?_
 rw [fc]; exact List.Perm.refl _
def Qd {e : aD} {q : acv} {li : Int} {kn : Nat → Value} (hok : bk e = true) (hz : zs.map Prod.fst = e.acu) : (zs.take (ee e.acu q.Id) ++ (ed e q li, kn) :: zs.drop (ee e.acu q.Id)).map Prod.fst = ny e q li := by
 unfold ny
 rw [← Qa hok hz, bT, PY hz, List.map_cons, List.map_drop, hz]
end
def abj {e : aD} {q : acv} {l : Int} : bZ (ed e q l) = cr q + e.Store.act.length := by
 unfold ed bZ
 simp only [ek, bd, DE, dH, List.map_nil, List.sum_nil, List.length_nil]; omega
def abk (e : aD) (q : acv) (l : Int) : bi (fM e q l).1 ≤ bi e + cr q + 10 := by
 unfold fM
 split
 ·rename_i h
  have hf := vd h
  have hef := ie hf.1
  obtain ⟨hs8, _, _, _, _, _⟩ := nq hef.1
  have hn := abj (e := e) (q := q) (l := l)
  have hsum : ∀ (L : List acu) (x : Int), (∀ a ∈ L, True) → L.Pairwise (fun a b => a.acv.Id < b.acv.Id) → (L.filter (kw x) ++ L.drop (ee L x)) = L := by
   intro L x _ hp
   have h := yJ (fun a : acu => a.acv.Id) x hp
   have : L.filter (kw x) = L.take (ee L x) := h
   rw [this, fc]
  have hs := hsum e.acu q.Id (fun _ _ => trivial) (tj hf.1)
  have h1 : (ny e q l).length = e.acu.length + 1 := by
   conv => rhs; rw [← hs]
   unfold ny; simp only [aV, List.length_cons]; omega
  have h2 : ((ny e q l).map bZ).sum = (e.acu.map bZ).sum + bZ (ed e q l) := by
   conv => rhs; rw [← hs]
   unfold ny; simp only [bT, List.map_cons, List.sum_append, List.sum_cons]; omega
  unfold bi da
  dsimp only
  rw [h1, h2, hn]; omega
 ·dsimp only; omega
end
def qa (e : aD) (i : Nat) : aD := ⟨e.Store, e.acy, e.Order, fL e.acu i, e.Done, e.acG, e.Steps⟩
def kx (e : aD) (id : Int) : Bool := bk e && decide (0 ≤ dJ e.acu id)
def cQ (e : aD) (id : Int) : aD × Bool := if kx e id then (dC (qa e (dJ e.acu id).toNat), true) else (e, false)
def DG {e : aD} {id : Int} (h : kx e id = false) : cQ e id = (e, false) := if_neg (by rw [h]; simp)
def abl {e : aD} {id : Int} (h : kx e id = true) : cQ e id = (dC (qa e (dJ e.acu id).toNat), true) := if_pos h
def DH {e : aD} {id : Int} {i : Nat} (h : kx e id = true) (hf : dJ e.acu id = (i : Int)) : cQ e id = (dC (qa e i), true) := by rw [abl h, hf]; rfl
def DI {l : List acu} {id : Int} (h : 0 ≤ dJ l id) : ∃ i : Nat, i < l.length ∧ dJ l id = (i : Int) := by
 unfold dJ at *
 split at h
 ·rename_i ha
  rw [if_pos ha]
  obtain ⟨a, ha1, ha2⟩ := List.any_eq_true.1 ha
  exact ⟨l.findIdx (eb id), List.findIdx_lt_length_of_exists ⟨a, ha1, ha2⟩, rfl⟩
 ·omega
def Qe {α β : Type} {f : α → β} {zs : List α} {l : List β} {i : Nat} (hz : zs.map f = l) : (fL zs i).map f = fL l i := by
 subst hz; unfold fL; rw [bT, List.map_take, List.map_drop]
def DJ {α : Type} {zs : List α} {i : Nat} (hi : i < zs.length) : (fL zs i ++ [zs[i]]).Perm zs := by
 unfold fL
 have : zs = zs.take i ++ (zs[i] :: zs.drop (i + 1)) := by rw [← List.drop_eq_getElem_cons hi, fc]
 conv => rhs; rw [this]
 rw [bw]
 refine gl _ ?_
 exact List.perm_append_singleton _ _
def DK {e : aD} {i : Nat} (hi : i < e.acu.length) : bi (qa e i) ≤ bi e := by
 have hs : ((fL e.acu i).map bZ).sum + bZ e.acu[i] = (e.acu.map bZ).sum := by
  have := ((DJ hi).map bZ).sum_nat
  rw [bT, List.sum_append] at this
  simpa using this
 have hl := Dp hi
 unfold qa bi da
 dsimp only
 rw [hl]; omega
def abm (e : aD) (id : Int) : bi (cQ e id).1 ≤ bi e := by
 cases h : kx e id with
 | false => rw [DG h]; exact Nat.le_refl _
 | true =>
  have h2 := h
  unfold kx at h2
  simp only [bq, decide_eq_true_eq] at h2
  obtain ⟨i, hi, hf⟩ := DI h2.2
  rw [DH h hf]
  have h3 := DD (qa e i)
  have h4 := DK hi
  dsimp only; omega
def gL (id : Int) (v : aU) : Bool := decide (v.Id = id) && decide (v.acE = -1)
def ik (id : Int) (l : List aU) : Bool := l.any (gL id)
def ru (s : Store) (i : Nat) : List aU := s.act.getD i []
def cl (s : Store) (id : Int) : Int := if s.act.any (ik id) then ((s.act.findIdx (ik id) : Nat) : Int) else -1
def lC (s : Store) (id : Int) : Int := if s.act.any (ik id) then (((ru s (s.act.findIdx (ik id))).findIdx (gL id) : Nat) : Int) else -1
def DL {α : Type} {P : α → Bool} {l : List α} {k : Nat} (hk : k < l.length) (h : (l.take k).any P = false) (hy : P l[k] = true) : l.findIdx P = k := by
 rw [List.findIdx_eq hk]
 refine ⟨hy, fun j hj => ?_⟩
 rw [List.any_eq_false] at h
 have := h l[j] (by rw [yS]; exact ⟨j, by rw [br]; omega, by simp⟩)
 simpa using this
def Qf {s : Store} {id : Int} {i k : Nat} (hi : i < s.act.length) (h1 : (s.act.take i).any (ik id) = false) (hk : k < s.act[i].length) (h2 : (s.act[i].take k).any (gL id) = false) (hy : gL id s.act[i][k] = true) : cl s id = (i : Int) ∧ lC s id = (k : Int) := by
 have ha : ik id s.act[i] = true := qZ hk hy
 have hany : s.act.any (ik id) = true := qZ hi ha
 have e1 := DL hi h1 ha
 have e2 := DL hk h2 hy
 unfold cl lC ru
 rw [if_pos hany, if_pos hany, e1, List.getD_eq_getElem?_getD, List.getElem?_eq_getElem hi]
 exact ⟨rfl, by show ((s.act[i].findIdx (gL id) : Nat) : Int) = _; rw [e2]⟩
def Qg {s : Store} {id : Int} (h : s.act.any (ik id) = false) : cl s id = -1 ∧ lC s id = -1 := by
 unfold cl lC
 rw [if_neg (by rw [h]; simp), if_neg (by rw [h]; simp)]
 exact ⟨rfl, rfl⟩
def rx {s : Store} {id : Int} (h : 0 ≤ cl s id) : ∃ i k : Nat, ∃ hi : i < s.act.length, ∃ hk : k < s.act[i].length, cl s id = (i : Int) ∧ lC s id = (k : Int) ∧ gL id s.act[i][k] = true := by
 unfold cl at h
 split at h
 ·rename_i ha
  obtain ⟨l, hl, hp⟩ := List.any_eq_true.1 ha
  have hi : s.act.findIdx (ik id) < s.act.length := List.findIdx_lt_length_of_exists ⟨l, hl, hp⟩
  have hpi : ik id (s.act[s.act.findIdx (ik id)]) = true := List.findIdx_getElem (w := hi)
  obtain ⟨v, hv, hvp⟩ := List.any_eq_true.1 hpi
  have hk : s.act[s.act.findIdx (ik id)].findIdx (gL id) < s.act[s.act.findIdx (ik id)].length := List.findIdx_lt_length_of_exists ⟨v, hv, hvp⟩
  refine ⟨_, _, hi, hk, ?_, ?_, List.findIdx_getElem (w := hk)⟩
  ·unfold cl; rw [if_pos ha]
  ·unfold lC ru; rw [if_pos ha, List.getD_eq_getElem?_getD, List.getElem?_eq_getElem hi]; rfl
 ·omega
def gY (l : List aU) : Bool := decide ((l.length : Int) < 4)
def il (L : List (List aU)) : Int := if L.any gY then ((L.findIdx gY : Nat) : Int) else -1
def Qh {L : List (List aU)} {k : Nat} (hk : k < L.length) (h : (L.take k).any gY = false) (hy : gY L[k] = true) : il L = (k : Int) := by
 unfold il; rw [if_pos (qZ hk hy), DL hk h hy]
def Qi {L : List (List aU)} (h : L.any gY = false) : il L = -1 := if_neg (by rw [h]; simp)
def Qj {L : List (List aU)} (h : 0 ≤ il L) : ∃ r : Nat, ∃ hr : r < L.length, il L = (r : Int) ∧ L[r].length < 4 := by
 unfold il at h
 split at h
 ·rename_i ha
  obtain ⟨l, hl, hp⟩ := List.any_eq_true.1 ha
  have hr : L.findIdx gY < L.length := List.findIdx_lt_length_of_exists ⟨l, hl, hp⟩
  have hpi : gY L[L.findIdx gY] = true := List.findIdx_getElem (w := hr)
  refine ⟨_, hr, by unfold il; rw [if_pos ha], ?_⟩
  have : ∀ l : List aU, gY l = true → l.length < 4 := fun l hl => by unfold gY at hl; simp only [decide_eq_true_eq] at hl; omega
  exact this _ hpi
 ·omega
def mz (n : Int) (v : aU) : aU := ⟨v.Id, v.Values, v.acI, n⟩
def DM (s : Store) (i k : Int) : aU := (ru s i.toNat).getD k.toNat v0
def dp (s : Store) (u : acx) : List (List aU) := if 0 ≤ cl s u.Row.Id then s.act.set (cl s u.Row.Id).toNat ((ru s (cl s u.Row.Id).toNat).set (lC s u.Row.Id).toNat (mz (s.Now + 1) (DM s (cl s u.Row.Id) (lC s u.Row.Id)))) else s.act
def eT (s : Store) (u : acx) : List Int := if 0 ≤ cl s u.Row.Id then (DM s (cl s u.Row.Id) (lC s u.Row.Id)).Values else u.Row.Values
def jg (s : Store) (u : acx) : List Int := if u.Kind = 3 then (eT s u).set u.Field.toNat u.Value else eT s u
def kQ (s : Store) (u : acx) : aU := ⟨u.Row.Id, jg s u, s.Now + 1, -1⟩
def yK (L : List (List aU)) (r : Nat) (v : aU) : List (List aU) := L.set r (L.getD r [] ++ [v])
def jP (s : Store) (u : acx) : Bool := ((dI s && jD u) && decide (s.Now < 100000)) && (decide (0 ≤ cl s u.Row.Id) == !decide (u.Kind = 1) && (decide (u.Kind = 2) || decide (0 ≤ il s.act)))
def yL (s : Store) (u : acx) : Store := ⟨if u.Kind = 2 then dp s u else yK (dp s u) (il s.act).toNat (kQ s u), s.Now + 1⟩
def dL (s : Store) (u : acx) : Store × Bool := if jP s u then (yL s u, true) else (s, false)
def DN {s : Store} {u : acx} (h : jP s u = false) : dL s u = (s, false) := if_neg (by rw [h]; simp)
def Qk {s : Store} {u : acx} (h : jP s u = true) : dL s u = (yL s u, true) := if_pos h
def ve {s : Store} {u : acx} (h : jP s u = true) (hk : u.Kind = 2) : dL s u = (⟨dp s u, s.Now + 1⟩, true) := by rw [Qk h]; unfold yL; rw [if_pos hk]
def vf {s : Store} {u : acx} {r : Nat} (h : jP s u = true) (hk : ¬ u.Kind = 2) (hr : il s.act = (r : Int)) : dL s u = (⟨yK (dp s u) r (kQ s u), s.Now + 1⟩, true) := by
 rw [Qk h]; unfold yL; rw [if_neg hk, hr]; rfl
def ry {s : Store} {u : acx} {i k : Nat} (hi : i < s.act.length) (hk : k < s.act[i].length) (h1 : cl s u.Row.Id = (i : Int)) (h2 : lC s u.Row.Id = (k : Int)) : dp s u = s.act.set i (s.act[i].set k (mz (s.Now + 1) s.act[i][k])) ∧ eT s u = s.act[i][k].Values := by
 have e1 : ru s i = s.act[i] := by unfold ru; simp [hi]
 unfold dp eT DM
 rw [h1, h2, if_pos (by omega), if_pos (by omega), Int.toNat_natCast, Int.toNat_natCast, e1]
 simp [hk]
def rz {s : Store} {u : acx} (h : ¬ 0 ≤ cl s u.Row.Id) : dp s u = s.act ∧ eT s u = u.Row.Values := by
 unfold dp eT; rw [if_neg h, if_neg h]; exact ⟨rfl, rfl⟩
def Ql (s : Store) (u : acx) : (dp s u).map List.length = s.act.map List.length := by
 by_cases h : 0 ≤ cl s u.Row.Id
 ·obtain ⟨i, k, hi, hk, h1, h2, _⟩ := rx h
  rw [(ry hi hk h1 h2).1]
  apply List.ext_getElem
  ·simp
  ·intro j hj1 hj2
   simp only [List.getElem_map, List.getElem_set]
   split
   ·rename_i hij; subst hij; simp
   ·rfl
 ·rw [(rz h).1]
def DO (s : Store) (u : acx) : (dp s u).length = s.act.length := by
 have := congrArg List.length (Ql s u)
 simpa using this
def Qm (s : Store) (u : acx) {k : Nat} (hk : k < (dp s u).length) (hk2 : k < s.act.length) : (dp s u)[k].length = s.act[k].length := by
 have h := Ql s u
 have := List.getElem_of_eq h (show k < ((dp s u).map List.length).length by rw [aq]; exact hk)
 simpa using this
def abn (n : Int) (v : aU) : bW (mz n v) = bW v := by unfold mz bW; simp only [bd]
def yM {α : Type} {f : α → Nat} : ∀ {l : List α} {i : Nat} {x : α} (hi : i < l.length), ((l.set i x).map f).sum + f l[i] = (l.map f).sum + f x
 | y :: l, 0, x, _ => by simp; omega
 | y :: l, i + 1, x, h => by
  have := yM (f := f) (l := l) (i := i) (x := x) (by simpa using h)
  simp only [List.set_cons_succ, List.map_cons, List.sum_cons, List.getElem_cons_succ]
  omega
def Qn (s : Store) (u : acx) : eO (dp s u) = eO s.act := by
 by_cases h : 0 ≤ cl s u.Row.Id
 ·obtain ⟨i, k, hi, hk, h1, h2, _⟩ := rx h
  rw [(ry hi hk h1 h2).1]
  have e1 := yM (f := bX) (x := s.act[i].set k (mz (s.Now + 1) s.act[i][k])) hi
  have e2 := yM (f := bW) (x := mz (s.Now + 1) s.act[i][k]) hk
  rw [abn] at e2
  have e3 : bX (s.act[i].set k (mz (s.Now + 1) s.act[i][k])) = bX s.act[i] := by unfold bX; rw [List.length_set]; omega
  unfold eO
  rw [List.length_set]; omega
 ·rw [(rz h).1]
def Qo (s : Store) (u : acx) : (jg s u).length ≤ cd s + hO u := by
 have h0 : (jg s u).length = (eT s u).length := by unfold jg; split <;> simp
 rw [h0]
 by_cases h : 0 ≤ cl s u.Row.Id
 ·obtain ⟨i, k, hi, hk, h1, h2, _⟩ := rx h
  rw [(ry hi hk h1 h2).2]
  have w1 := cT (f := bX) hi
  have w2 := cT (f := bW) hk
  have w3 : bX s.act[i] = s.act[i].length + (s.act[i].map bW).sum := rfl
  have w4 : bW s.act[i][k] = s.act[i][k].Values.length := by simp only [bW, ek, bd]; omega
  unfold cd eO
  simp only [bd]; omega
 ·rw [(rz h).2]
  unfold hO dv
  simp only [ek, bd]; omega
def yN {s : Store} {u : acx} (hs : dI s = true) (h : 0 ≤ cl s u.Row.Id) : (eT s u).length = 3 := by
 obtain ⟨i, k, hi, hk, h1, h2, _⟩ := rx h
 rw [(ry hi hk h1 h2).2]
 have hv := NQ hs hi hk
 unfold eQ at hv
 rw [bq] at hv
 exact sZ hv.1
def DP {u : acx} (h : jD u = true) (hk : u.Kind = 3) : 0 ≤ u.Field ∧ u.Field ≤ 2 := by
 unfold jD at h
 rw [if_neg (by omega), if_neg (by omega), if_pos hk] at h
 simp only [bq, aW, decide_eq_true_eq] at h
 exact h.2.1
def yO {s : Store} {u : acx} (h1 : dI s = true) (h2 : jD u = true) (h3 : s.Now < 100000) (h4 : 0 ≤ cl s u.Row.Id ↔ ¬ u.Kind = 1) (h5 : u.Kind = 2 ∨ 0 ≤ il s.act) : jP s u = true := by
 unfold jP
 rw [h1, h2, decide_eq_true h3]
 have e1 : (decide (0 ≤ cl s u.Row.Id) == !decide (u.Kind = 1)) = true := by
  by_cases a : 0 ≤ cl s u.Row.Id <;> by_cases b : u.Kind = 1 <;> simp_all
 have e2 : (decide (u.Kind = 2) || decide (0 ≤ il s.act)) = true := by
  rcases h5 with h | h <;> simp [h]
 rw [e1, e2]; rfl
def tl {s : Store} {u : acx} (h : jP s u = true) : dI s = true ∧ jD u = true ∧ s.Now < 100000 ∧ (0 ≤ cl s u.Row.Id ↔ ¬ u.Kind = 1) ∧ (u.Kind = 2 ∨ 0 ≤ il s.act) := by
 unfold jP at h
 simp only [bq, Bool.or_eq_true, decide_eq_true_eq] at h
 obtain ⟨⟨⟨h1, h2⟩, h3⟩, h4, h5⟩ := h
 refine ⟨h1, h2, h3, ?_, h5⟩
 by_cases a : 0 ≤ cl s u.Row.Id <;> by_cases b : u.Kind = 1 <;> simp_all
def DQ {L : List (List aU)} {r : Nat} {v : aU} (hr : r < L.length) : yK L r v = L.set r (L[r] ++ [v]) := by unfold yK; simp [hr]
def lG (n : Int) : Nat := (min (max n 0) 200).toNat
def DR (n : Int) : lG n ≤ 200 := by unfold lG; omega
def jh (e : aD) : Nat → aD
 | 0 => e
 | k + 1 => dn (jh e k)
def gM (e : aD) (n : Int) : aD := jh e (lG n)
def yP (e : aD) : ∀ k : Nat, bi (jh e k) ≤ bi e + 200 * k
 | 0 => by rw [jh]; omega
 | k + 1 => by
  have h1 := yP e k
  have h3 := aaV (jh e k)
  rw [jh]; omega
def abo (e : aD) (n : Int) : bi (gM e n) ≤ bi e + 40000 := by
 have h1 := yP e (lG n)
 have h2 := DR n
 unfold gM; omega
def abp {q : acv} (h : cJ q = true) : cr q ≤ 6 := by
 unfold cJ md at h
 simp only [bq, aW, decide_eq_true_eq] at h
 have h1 : (q.acw.map mW).sum = 0 := by
  have : ∀ l : List dg, (l.map mW).sum = 0 := by
   intro l
   induction l with
   | nil => rfl
   | cons c l ih => rw [List.map_cons, List.sum_cons, ih]; rfl
  exact this _
 unfold cr iX
 simp only [ek, bd, h1]; omega
def abq {s : Store} {u : acx} (h : jP s u = true) (hk : ¬ u.Kind = 2) : (jg s u).length = 3 := by
 obtain ⟨h1, h2, h3, h4, h5⟩ := tl h
 have h0 : (jg s u).length = (eT s u).length := by unfold jg; split <;> simp
 rw [h0]
 by_cases a : 0 ≤ cl s u.Row.Id
 ·exact yN h1 a
 ·rw [(rz a).2]
  have hk1 : u.Kind = 1 := by
   by_cases b : u.Kind = 1
   ·exact b
   ·exact absurd (h4.2 b) a
  unfold jD at h2
  rw [if_pos hk1] at h2
  simp only [bq] at h2
  exact sZ h2.1
def DS (s : Store) (u : acx) : cd (dL s u).1 ≤ cd s + 4 := by
 cases h : jP s u with
 | false => rw [DN h]; dsimp only; omega
 | true =>
  by_cases hk : u.Kind = 2
  ·rw [ve h hk]
   have e1 := Qn s u
   unfold cd; dsimp only; rw [e1]; simp only [bd]; omega
  ·have h5 := (tl h).2.2.2.2.resolve_left hk
   obtain ⟨r, hr, hrm, _⟩ := Qj h5
   rw [vf h hk hrm]
   have e1 := Qn s u
   have e2 := abq h hk
   have hru : r < (dp s u).length := by rw [DO]; exact hr
   have e3 := yM (f := bX) (x := (dp s u)[r] ++ [kQ s u]) hru
   have hw : bW (kQ s u) = (jg s u).length := by unfold kQ bW; simp only [ek, bd]; omega
   have e5 : bX ((dp s u)[r] ++ [kQ s u]) = bX (dp s u)[r] + (1 + bW (kQ s u)) := by
    unfold bX; simp only [aV, bT, List.sum_append, List.length_cons, List.length_nil, List.map_cons, List.map_nil, List.sum_cons, List.sum_nil]; omega
   rw [DQ hru]
   unfold cd
   dsimp only
   unfold eO at e1 ⊢
   rw [List.length_set]
   simp only [bd] at *; omega
def rC (e : aD) (s : Store) : aD := ⟨s, e.acy, e.Order, e.acu, e.Done, e.acG, e.Steps⟩
def cR (e : aD) (u : acx) : aD × Bool := if bk e && (dL e.Store u).2 then (dC (rC e (dL e.Store u).1), true) else (e, false)
def Qp {e : aD} {u : acx} (h : (bk e && (dL e.Store u).2) = false) : cR e u = (e, false) := if_neg (by rw [h]; simp)
def Qq {e : aD} {u : acx} (h : (bk e && (dL e.Store u).2) = true) : cR e u = (dC (rC e (dL e.Store u).1), true) := if_pos h
def DT (e : aD) (u : acx) : bi (rC e (dL e.Store u).1) ≤ bi e + 4 := by
 have := DS e.Store u
 unfold rC bi; dsimp only; omega
def abr (e : aD) (u : acx) : bi (cR e u).1 ≤ bi e + 4 := by
 have h1 := DT e u
 have h2 := DD (rC e (dL e.Store u).1)
 unfold cR
 split <;> dsimp only <;> omega
def dq (e : aD) (x : cC) : aD × Bool := if bk e && fv x then (if x.Kind = 1 then fM e x.acv x.Limit else if x.Kind = 2 then cQ e x.Id else if x.Kind = 3 then cR e x.acx else (gM e x.Steps, true)) else (e, false)
def DU {e : aD} {x : cC} (h : (bk e && fv x) = false) : dq e x = (e, false) := if_neg (by rw [h]; simp)
def DV {e : aD} {x : cC} (h : (bk e && fv x) = true) (k : x.Kind = 1) : dq e x = fM e x.acv x.Limit := by unfold dq; rw [if_pos h, if_pos k]
def DW {e : aD} {x : cC} (h : (bk e && fv x) = true) (k : x.Kind = 2) : dq e x = cQ e x.Id := by unfold dq; rw [if_pos h, if_neg (by omega), if_pos k]
def DX {e : aD} {x : cC} (h : (bk e && fv x) = true) (k : x.Kind = 3) : dq e x = cR e x.acx := by unfold dq; rw [if_pos h, if_neg (by omega), if_neg (by omega), if_pos k]
def DY {e : aD} {x : cC} (h : (bk e && fv x) = true) (k1 : ¬ x.Kind = 1) (k2 : ¬ x.Kind = 2) (k3 : ¬ x.Kind = 3) : dq e x = (gM e x.Steps, true) := by unfold dq; rw [if_pos h, if_neg k1, if_neg k2, if_neg k3]
def abt (e : aD) (x : cC) : bi (dq e x).1 ≤ bi e + 40000 := by
 cases h : bk e && fv x with
 | false => rw [DU h]; dsimp only; omega
 | true =>
  by_cases k1 : x.Kind = 1
  ·rw [DV h k1]
   cases ha : kP e x.acv x.Limit with
   | false => rw [DF ha]; dsimp only; omega
   | true =>
    have h1 := abk e x.acv x.Limit
    have h2 := abp (vd ha).2.1
    omega
  ·by_cases k2 : x.Kind = 2
   ·rw [DW h k2]; have := abm e x.Id; omega
   ·by_cases k3 : x.Kind = 3
    ·rw [DX h k3]; have := abr e x.acx; omega
    ·rw [DY h k1 k2 k3]; have := abo e x.Steps; dsimp only; omega
def DZ (s : aD × Int) (x : cC) : aD × Int := ((dq s.1 x).1, if (dq s.1 x).2 then s.2 + 1 else s.2)
def cV (e : aD) (l : List cC) (k : Nat) : aD × Int := (l.take k).foldl DZ (e, 0)
def fO (e : aD) (l : List cC) : aD × Int := cV e l (min l.length 60)
def yQ {e : aD} {l : List cC} {k : Nat} (hk : k < l.length) : cV e l (k + 1) = DZ (cV e l k) l[k] := by
 unfold cV; rw [cy hk, List.foldl_append]; rfl
def Qr {c : Nat} (hc : ∀ (e : aD) (x : cC), bi (dq e x).1 ≤ bi e + c) (e : aD) (l : List cC) : ∀ k : Nat, k ≤ l.length → bi (cV e l k).1 ≤ bi e + c * k
 | 0, _ => by rw [Nat.mul_zero]; exact Nat.le_refl _
 | k + 1, h => by
  have h1 := Qr hc e l k (by omega)
  have h4 := hc (cV e l k).1 (l[k]'(by omega))
  have e1 : (cV e l (k + 1)).1 = (dq (cV e l k).1 (l[k]'(by omega))).1 := by rw [yQ (by omega)]; rfl
  rw [e1, Nat.mul_succ]; omega
def Qs (e : aD) (l : List cC) : ∀ k : Nat, k ≤ l.length → 0 ≤ (cV e l k).2 ∧ (cV e l k).2 ≤ k
 | 0, _ => ⟨by show (0 : Int) ≤ 0; omega, by show (0 : Int) ≤ _; omega⟩
 | k + 1, h => by
  obtain ⟨h2, h3⟩ := Qs e l k (by omega)
  have e2 : (cV e l (k + 1)).2 = if (dq (cV e l k).1 (l[k]'(by omega))).2 then (cV e l k).2 + 1 else (cV e l k).2 := by rw [yQ (by omega)]; rfl
  rw [e2]
  constructor <;> split <;> omega
def Ea (e : aD) (l : List cC) (k : Nat) (h : k ≤ l.length) (h6 : k ≤ 60) : bi (cV e l k).1 ≤ bi e + 2400000 ∧ 0 ≤ (cV e l k).2 ∧ (cV e l k).2 ≤ k := by
 have h1 := Qr abt e l k h
 have h2 : 40000 * k ≤ 40000 * 60 := Nat.mul_le_mul_left _ h6
 have h3 : 40000 * 60 = 2400000 := by decide
 rw [h3] at h2
 exact ⟨Nat.le_trans h1 (Nat.add_le_add_left h2 _), Qs e l k h⟩
def abu (e : aD) (l : List cC) : bi (fO e l).1 ≤ bi e + 2400000 := (Ea e l (min l.length 60) (by omega) (by omega)).1
end Go.Proofs.YtmekkgdboplbjaaGreat
