/- Definitions and their laws. No condition. -/
import Derived.Test.YtmekkgdboplbjaaGreatCE0
set_option linter.all false
namespace Go.Proofs.YtmekkgdboplbjaaGreat
open Go Go.RowKit M
set_option maxRecDepth 10000
def Lt {α : Type} {d : α} {p : α → Bool} {key : α → Int} {l : List α} (h : ew d p (fun a b => decide (key a < key b)) l = true) : l.Pairwise (fun a b => key a < key b) := by
 have step : ∀ j : Nat, (hj : j + 1 < l.length) → key l[j] < key l[j + 1] := fun j hj => by
  have h1 := List.all_eq_true.1 h (j + 1) (List.mem_range.2 hj)
  rw [bn, gn hj, show j + 1 - 1 = j from rfl, gn (show j < l.length by omega)] at h1
  have h2 := h1.2
  simpa using h2
 have lt : ∀ (j i : Nat) (hj : j < l.length) (hi : i < j), key l[i] < key l[j] := by
  intro j
  induction j with
  | zero => intro i _ hi; omega
  | succ j ih =>
   intro i hj hi
   have h1 := step j hj
   rcases Nat.lt_or_ge i j with h2 | h2
   ·have := ih i (by omega) h2; omega
   ·have : i = j := by omega
    subst this; exact h1
 rw [List.pairwise_iff_getElem]
 exact fun i j hi hj hij => lt j i hj hij
def Ux {l : List Int} (h : ∀ x ∈ l, 0 ≤ x ∧ x ≤ 23) (hp : l.Pairwise (· < ·)) : du l = true := by
 unfold du
 rw [le]
 intro i hi
 have hi := List.mem_range.1 hi
 rw [List.pairwise_iff_getElem] at hp
 refine wd.2 ?_
 rw [show l.getD i 0 = l[i] by simp [hi]]
 have := h _ (List.getElem_mem hi)
 refine ⟨this.1, this.2, ?_⟩
 rcases Nat.eq_zero_or_pos i with h0 | h0
 ·exact .inl h0
 ·right
  rw [show l.getD (i - 1) 0 = l[i - 1]'(by omega) by simp [show i - 1 < l.length by omega]]
  exact hp (i - 1) i (by omega) hi (by omega)
def Uy {l : List dW} {s : dW} {v : Int} (h : gG v s = false) : fT (l ++ [s]) v = fT l v := by
 unfold fT
 rw [List.find?_append]
 cases hf : l.find? (gG v) with
 | some t => rfl
 | none => simp [h]
def Uz {l : List dW} {s : dW} {v : Int} (hl : ∀ t ∈ l, gG v t = false) (h : gG v s = true) : fT (l ++ [s]) v = s.Set := by
 unfold fT
 rw [List.find?_append, List.find?_eq_none.2 (fun t ht => by simp [hl t ht])]
 simp [h]
structure Bk (l : List Wt) (f : Int) (k : Nat) (out : List dW) : Prop where
 none : k = 0 → out = []
 some : 0 < k → ∃ (a : List dW) (s : dW), out = a ++ [s] ∧ s.To = (k : Int) - 1 ∧ s.From ≤ (k : Int) - 1 ∧ (∀ v : Int, s.From ≤ v → v ≤ (k : Int) - 1 → fm l f v = s.Set) ∧ (∀ t ∈ a, t.To < s.From) ∧ (∀ v : Int, 0 ≤ v → v < s.From → fT a v = fm l f v)
def Bk.find {l : List Wt} {f : Int} {k : Nat} {out : List dW} (h : Bk l f k out) {v : Int} (h0 : 0 ≤ v) (hv : v < k) : fT out v = fm l f v := by
 obtain ⟨a, s, rfl, h1, h2, h3, h4, h5⟩ := h.some (by omega)
 by_cases hc : s.From ≤ v
 ·rw [Uz (fun t ht => by have := h4 t ht; simp [gG, aV]; omega) (by simp [gG, aV]; omega), h3 v hc (by omega)]
 ·rw [Uy (by simp [gG, aV]; omega), h5 v h0 (by omega)]
def Lu (l : List Wt) (f : Int) : ∀ k : Nat, Bk l f k (cW l f k)
 | 0 => ⟨fun _ => rfl, fun h => absurd h (Nat.lt_irrefl 0)⟩
 | k + 1 => by
  have ih := Lu l f k
  refine ⟨fun h => by omega, fun _ => ?_⟩
  rw [cW]
  have fresh : ∃ (a : List dW) (s : dW), cW l f k ++ [⟨(k : Int), (k : Int), fm l f k⟩] = a ++ [s] ∧ s.To = ((k + 1 : Nat) : Int) - 1 ∧ s.From ≤ ((k + 1 : Nat) : Int) - 1 ∧ (∀ v : Int, s.From ≤ v → v ≤ ((k + 1 : Nat) : Int) - 1 → fm l f v = s.Set) ∧ (∀ t ∈ a, t.To < s.From) ∧ (∀ v : Int, 0 ≤ v → v < s.From → fT a v = fm l f v) := by
   refine ⟨_, _, rfl, by dsimp only; omega, by dsimp only; omega, fun v h1 h2 => ?_, fun t ht => ?_, fun v h1 h2 => ih.find h1 h2⟩
   ·dsimp only at h1 ⊢
    rw [show v = (k : Int) by omega]
   ·dsimp only
    rcases Nat.eq_zero_or_pos k with h0 | h0
    ·rw [ih.none h0] at ht; cases ht
    ·obtain ⟨a, s, he, h1, h2, _, h4, _⟩ := ih.some h0
     rw [he] at ht
     rcases List.mem_append.1 ht with ht | ht
     ·have := h4 t ht; omega
     ·simp at ht; subst ht; omega
  unfold ru
  split
  ·rename_i hl
   rcases Nat.eq_zero_or_pos k with h0 | h0
   ·rw [ih.none h0] at hl; cases hl
   ·obtain ⟨a, s, he, h1, h2, h3, h4, h5⟩ := ih.some h0
    rw [he] at hl ⊢
    have hlen : (a ++ [s]).length - 1 = a.length := by simp
    have hg : (a ++ [s]).getD a.length jB = s := by simp
    unfold kW at hl
    rw [hlen, hg, bn] at hl
    have hs : s.Set = fm l f k := fC.1 hl.2
    rw [hlen, hg, List.set_append_right (h := Nat.le_refl _), Nat.sub_self, List.set_cons_zero]
    refine ⟨a, _, rfl, by dsimp only; omega, by dsimp only; omega, fun v k1 k2 => ?_, h4, h5⟩
    dsimp only at k1 ⊢
    by_cases hk : v = (k : Int)
    ·rw [hk, hs]
    ·exact h3 v k1 (by omega)
  ·exact fresh
def UA {l : List Wt} {f v : Int} (hl : di l = true) (hf : 0 ≤ f ∧ f ≤ 2) (hv : 0 ≤ v ∧ v ≤ 99) : fT (fS l f) v = fm l f v := by
 have hc : (di l && aV f 0 2) = true := by rw [hl, Bool.true_and]; exact Jr.2 hf
 unfold fS
 rw [if_pos hc]
 have h := Lu l f 100
 generalize cW l f 100 = out at h ⊢
 exact h.find hv.1 (by omega)
def Lv {l : List Wt} (h : di l = true) : l.Pairwise (fun a b => a.Id < b.Id) := by
 unfold di at h
 rw [bn] at h
 exact Lt h.1
def UB {q : Wt} (h : cv q = true) : 0 ≤ q.Id ∧ q.Id ≤ 23 := by
 unfold cv at h
 simp only [bn, aV, decide_eq_true_eq] at h
 exact h.1.1
def Bl {l : List Wt} (h : di l = true) (P : Wt → Bool) : du ((l.filter P).map Wt.Id) = true := by
 refine Ux (fun x hx => ?_) ?_
 ·obtain ⟨q, hq, rfl⟩ := List.mem_map.1 hx
  exact UB ((ot h).2 q (List.mem_filter.1 hq).1)
 ·rw [List.pairwise_map]
  exact (Lv h).filter P
def UC {α : Type} {key : α → Int} {l : List α} (h : l.Pairwise (fun a b => key a < key b)) {a b : α} (ha : a ∈ l) (hb : b ∈ l) (he : key a = key b) : a = b := by
 obtain ⟨i, hi, rfl⟩ := List.mem_iff_getElem.1 ha
 obtain ⟨j, hj, rfl⟩ := List.mem_iff_getElem.1 hb
 rw [List.pairwise_iff_getElem] at h
 rcases Nat.lt_trichotomy i j with h1 | h1 | h1
 ·have := h i j hi hj h1; omega
 ·subst h1; rfl
 ·have := h j i hj hi h1; omega
def Lx {l : List Wt} (h : di l = true) (P : Wt → Bool) {q : Wt} (hq : q ∈ l) : b8 ((l.filter P).map Wt.Id) q.Id = P q := by
 rw [Bool.eq_iff_iff, Aw, w6]
 constructor
 ·rintro ⟨r, hr, he⟩
  have hr := List.mem_filter.1 hr
  rw [← UC (Lv h) hr.1 hq he]; exact hr.2
 ·intro hp
  exact ⟨q, List.mem_filter.2 ⟨hq, hp⟩, rfl⟩
def UD {l : List Wt} (h : di l = true) (P A : Wt → Bool) : mN ((l.filter P).map Wt.Id) ((l.filter A).map Wt.Id) = (l.filter fun q => P q && A q).map Wt.Id := by
 unfold mN
 rw [Bl h P, Bl h A, Bool.and_self, if_pos rfl, ← Ay (Bl h P), List.filter_map, List.filter_filter]
 congr 1
 refine List.filter_congr fun q hq => ?_
 show (b8 ((l.filter A).map Wt.Id) q.Id && P q) = _
 rw [Lx h A hq, Bool.and_comm]
def Ly {l : List Wt} {x : iY} {r : Row} (hl : di l = true) (hx : ∀ f : Int, 0 ≤ f → f ≤ 2 → x.Fields.getD f.toNat [] = fS l f) (hv : ∀ f : Int, 0 ≤ f → f ≤ 2 → 0 ≤ gW r.Values f ∧ gW r.Values f ≤ 99) : ∀ (o : List Int) (P : Wt → Bool) (s : List Int × Int), (∀ f ∈ o, 0 ≤ f ∧ f ≤ 2) → s.1 = (l.filter P).map Wt.Id → (o.foldl (mU x r) s).1 = (l.filter fun q => P q && o.all fun f => ie q f (gW r.Values f)).map Wt.Id
 | [], P, s, _, hs => by rw [List.foldl_nil, hs]; simp
 | f :: o, P, s, ho, hs => by
  rw [List.foldl_cons]
  have hf := ho f (List.mem_cons_self ..)
  have hn : (mU x r s f).1 = (l.filter fun q => P q && ie q f (gW r.Values f)).map Wt.Id := by
   unfold mU
   split
   ·rename_i h0
    rw [h0] at hs
    rw [h0, eq_comm, List.map_eq_nil_iff, List.filter_eq_nil_iff]
    intro q hq hp
    rw [bn] at hp
    have : q.Id ∈ (l.filter P).map Wt.Id := List.mem_map_of_mem (List.mem_filter.2 ⟨hq, hp.1⟩)
    rw [← hs] at this; cases this
   ·dsimp only
    rw [hs, hx f hf.1 hf.2, UA hl hf (hv f hf.1 hf.2)]
    exact UD hl P _
  rw [Ly hl hx hv o _ _ (fun g hg => ho g (List.mem_cons_of_mem _ hg)) hn]
  congr 1
  refine List.filter_congr fun q _ => ?_
  rw [List.all_cons, Bool.and_assoc]
def UE {o : List Int} (h : go o = true) : (0 : Int) ∈ o ∧ (1 : Int) ∈ o ∧ (2 : Int) ∈ o := by
 unfold go at h
 simp only [bn, Aw] at h
 exact h.2
def UF {r : Row} (h : dt r = true) {f : Int} (h0 : 0 ≤ f) (h2 : f ≤ 2) : 0 ≤ gW r.Values f ∧ gW r.Values f ≤ 99 := by
 have hl := rp h
 unfold dt at h
 simp only [bn] at h
 have hlt : f.toNat < r.Values.length := by omega
 have := List.all_eq_true.1 h.1 _ (List.getElem_mem hlt)
 unfold gW
 rw [gn hlt]
 exact Jr.1 this
def UG {o : List Int} {q : Wt} {r : Row} (ho : go o = true) (hr : dt r = true) (hq : cv q = true) : (o.all fun f => ie q f (gW r.Values f)) = e7 q r := by
 rw [Bool.eq_iff_iff, le]
 unfold e7
 rw [hr, hq, Bool.and_self, Bool.true_and, le]
 constructor
 ·intro h c hc
  have hf := Jt hq hc
  have hfo : c.Field ∈ o := by
   have := UE ho
   have : c.Field = 0 ∨ c.Field = 1 ∨ c.Field = 2 := by omega
   rcases this with h | h | h <;> rw [h] <;> simp_all
  have := List.all_eq_true.1 (h _ hfo) c hc
  simpa [gX, tk] using this
 ·intro h f _
  unfold ie
  rw [le]
  intro c hc
  have := h c hc
  unfold gX
  by_cases he : c.Field = f
  ·subst he; unfold tk at this; simp [this]
  ·simp [he]
def UH {l : List Wt} {r : Row} {o : List Int} {q : Wt} (hl : di l = true) (hr : dt r = true) (ho : go o = true) (hq : q ∈ l) : b8 (pU (kX l) r o).1 q.Id = e7 q r := by
 have hb : kX l = ⟨l, [fS l 0, fS l 1, fS l 2]⟩ := if_pos hl
 rw [hb]
 unfold pU
 rw [Ly (l := l) hl (fun f h0 h2 => by
  have : f = 0 ∨ f = 1 ∨ f = 2 := by omega
  rcases this with rfl | rfl | rfl <;> rfl) (fun f h0 h2 => UF hr h0 h2) o (fun _ => true) _ (Kd ho).2 (by
   show l.map Wt.Id = _
   rw [List.filter_eq_self.2 (fun _ _ => rfl)]), Lx hl _ hq, Bool.true_and, UG ho hr ((ot hl).2 q hq)]
section
def b5 (e : aL) : List aT := e.Store.Wr.getD e.Ww.toNat []
def dp (l : List aT) (t : Int) : List Row := (l.filter fun v => ea v t).map fk
def ko (e : aL) (a : Ws) : List Row := (dp (b5 e) a.Time).filter (e7 a.Wt)
def gZ (e : aL) (a : Ws) (j : Nat) : List Row := ((dp (b5 e) a.Time).take j).filter (e7 a.Wt)
def kp (l : List Int) (x : Int) : List Int := l.filter fun y => !(y == x)
def ox (e : aL) (a : Ws) : Ws := ⟨a.Wt, a.Time, kp a.WB e.Ww, a.Age, a.Sent + ((ko e a).length : Int), a.Cap, a.Rows ++ ko e a⟩
def jV (e : aL) (ids : List Int) (a : Ws) : Ws := if b8 ids a.Wt.Id then ox e a else a
def bX (e : aL) (k : Nat) : List Ws := e.Ws.map (jV e ((parts e).take k))
def wH (e : aL) (id : Int) : Ws := e.Ws.getD (dn e.Ws id).toNat gH
def wI (e : aL) (id : Int) : Int := (wH e id).Wt.Wx
def wJ (e : aL) (id : Int) : Int := ((ko e (wH e id)).length : Int)
def fV (e : aL) (k : Nat) : cE := ⟨e.Ww, ((b5 e).length : Int), (parts e).take k, ((parts e).take k).map (wI e), ((parts e).take k).map (wJ e)⟩
def m9 (n : Int) (a : Ws) : Ws := ⟨a.Wt, a.Time, a.WB, a.Age + 1, if (a.Age + 1).tmod n = 0 then 0 else a.Sent, a.Cap, a.Rows⟩
def el (a : Ws) : Bool := decide (a.WB.length = 0)
def rC (a : Ws) : cu := ⟨a.Wt, a.Time, a.Age, a.Rows⟩
def cH (e : aL) (k : Nat) : List Ws := (bX e k).map (m9 (e.Store.Wr.length : Int))
def jD (e : aL) (k m : Nat) : List Ws := ((cH e k).take m).filter fun a => !el a
def fK (e : aL) (k m : Nat) : List cu := (((cH e k).take m).filter el).map rC
def gL (e : aL) (k : Nat) : List cE := if (parts e).length = 0 then e.WE else e.WE ++ [fV e k]
def Lz (e : aL) (k m : Nat) : aL := ⟨e.Store, (e.Ww + 1).tmod (e.Store.Wr.length : Int), e.Order, jD e k m, e.Done ++ fK e k m, gL e k, e.Steps + 1⟩
def ja (e : aL) : aL := Lz e (parts e).length e.Ws.length
def iF (e : aL) : Bool := bh e && (decide (e.Steps < 100000) && (decide ((e.WE.length : Int) < 1000) && decide ((e.Done.length : Int) + (e.Ws.length : Int) ≤ 1000)))
def c8 (e : aL) : aL := if iF e then dj (ja e) else e
def UI {e : aL} (h : iF e = false) : c8 e = e := if_neg (by rw [h]; simp)
def UJ {e : aL} (h : iF e = true) : c8 e = dj (ja e) := if_pos h
def wK {e : aL} (h : iF e = true) : bh e = true ∧ e.Steps < 100000 ∧ (e.WE.length : Int) < 1000 ∧ (e.Done.length : Int) + (e.Ws.length : Int) ≤ 1000 := by
 unfold iF at h
 simp only [bn, decide_eq_true_eq] at h
 exact ⟨h.1, h.2.1, h.2.2.1, h.2.2.2⟩
def rD {e : aL} (h : bh e = true) : e.Ws.Pairwise (fun a b => a.Wt.Id < b.Wt.Id) := by
 unfold bh at h
 simp only [bn] at h
 exact Lt h.2.1
def wL {e : aL} (h : bh e = true) {i j : Nat} (hi : i < e.Ws.length) (hj : j < e.Ws.length) (he : e.Ws[i].Wt.Id = e.Ws[j].Wt.Id) : i = j := by
 have hp := rD h
 rw [List.pairwise_iff_getElem] at hp
 rcases Nat.lt_trichotomy i j with h1 | h1 | h1
 ·have := hp i j hi hj h1; omega
 ·exact h1
 ·have := hp j i hj hi h1; omega
def LA {e : aL} (h : bh e = true) : (parts e).Pairwise (· < ·) := by
 rw [ry h]
 unfold gq
 rw [List.pairwise_map]
 exact (rD h).filter _
def UK {l : List Int} (hp : l.Pairwise (· < ·)) {k : Nat} (hk : k < l.length) (x : Int) : b8 (l.take (k + 1)) x = (b8 (l.take k) x || (l[k] == x)) := by
 unfold b8
 rw [cn hk, List.any_append]; simp
def UL {l : List Int} (hp : l.Pairwise (· < ·)) {k : Nat} (hk : k < l.length) : b8 (l.take k) l[k] = false := by
 unfold b8
 rw [List.any_eq_false]
 intro y hy
 obtain ⟨j, hj, rfl⟩ := List.mem_iff_getElem.1 hy
 rw [bv] at hj
 rw [List.pairwise_iff_getElem] at hp
 have := hp j k (by omega) hk (by omega)
 simp
 omega
def LB {e : aL} {k : Nat} (hok : bh e = true) (hk : k < (parts e).length) : ∃ i, ∃ hi : i < e.Ws.length, dn e.Ws (parts e)[k] = (i : Int) ∧ e.Ws[i].Wt.Id = (parts e)[k] ∧ i9 e e.Ws[i] = true := by
 have hm : ∀ x, x ∈ parts e → x ∈ gq e e.Ws := fun x hx => by rwa [ry hok] at hx
 have hm := hm _ (List.getElem_mem hk)
 unfold gq at hm
 obtain ⟨a, ha, hid⟩ := List.mem_map.1 hm
 obtain ⟨ha, hp⟩ := List.mem_filter.1 ha
 obtain ⟨i, hi, rfl⟩ := List.mem_iff_getElem.1 ha
 refine ⟨i, hi, ?_, hid, hp⟩
 refine AV hi ?_ (by unfold dD; rw [hid]; simp)
 rw [List.any_eq_false]
 intro b hb
 obtain ⟨j, hj, rfl⟩ := List.mem_iff_getElem.1 hb
 rw [bv] at hj
 intro hc
 unfold dD at hc
 have hc : e.Ws[j].Wt.Id = (parts e)[k] := by simpa using hc
 have := wL hok (show j < e.Ws.length by omega) hi (hc.trans hid.symm)
 omega
section
variable {e : aL} {k i j m : Nat}
def jE : (bX e k).length = e.Ws.length := by unfold bX; rw [ar]
def wM (h : i < (bX e k).length) (hi : i < e.Ws.length) : (bX e k)[i] = jV e ((parts e).take k) e.Ws[i] := List.getElem_map (jV e ((parts e).take k))
def LC (hok : bh e = true) (hk : k < (parts e).length) (hi : i < e.Ws.length) (hid : e.Ws[i].Wt.Id = (parts e)[k]) (h : i < (bX e k).length) : (bX e k)[i] = e.Ws[i] := by
 rw [wM h hi]
 unfold jV
 rw [hid, UL (LA hok) hk, if_neg (by simp)]
def LD (hok : bh e = true) (hk : k < (parts e).length) (hi : i < e.Ws.length) (hid : e.Ws[i].Wt.Id = (parts e)[k]) : (bX e k).set i (ox e e.Ws[i]) = bX e (k + 1) := by
 refine List.ext_getElem (by rw [List.length_set, jE, jE]) fun j h1 h2 => ?_
 have hj : j < e.Ws.length := by rw [jE] at h2; exact h2
 rw [List.getElem_set, wM h2 hj]
 unfold jV
 rw [UK (LA hok) hk]
 split
 ·rename_i hij
  subst hij
  rw [hid]; simp
 ·rename_i hij
  rw [wM _ hj]
  unfold jV
  have : ((parts e)[k] == e.Ws[j].Wt.Id) = false := by
   rw [beq_eq_false_iff_ne]
   intro hc
   exact hij (wL hok hi hj (hid.trans hc))
  rw [this, Bool.or_false]
def Bm : bX e 0 = e.Ws := by
 unfold bX
 have : ∀ a : Ws, jV e ((parts e).take 0) a = a := fun a => by unfold jV b8; simp
 rw [List.map_congr_left (g := id) (fun a _ => this a), List.map_id]
def LF {id : Int} (hi : i < e.Ws.length) (hf : dn e.Ws id = (i : Int)) : wH e id = e.Ws[i] := by
 unfold wH; rw [hf]; simp [hi]
def UM (hk : k < (parts e).length) (hi : i < e.Ws.length) (hf : dn e.Ws (parts e)[k] = (i : Int)) : fV e (k + 1) = ⟨e.Ww, ((b5 e).length : Int), (fV e k).Ids ++ [(parts e)[k]], (fV e k).Wy ++ [e.Ws[i].Wt.Wx], (fV e k).Rows ++ [((ko e e.Ws[i]).length : Int)]⟩ := by
 have ha := LF hi hf
 unfold fV
 rw [cn hk]
 simp only [bN, List.map_cons, List.map_nil, wI, wJ, ha]
def Bn (hk : k ≤ (parts e).length) : (fV e k).Ids.length = k ∧ (fV e k).Wy.length = k ∧ (fV e k).Rows.length = k := by
 unfold fV
 simp only [ar, bv]
 omega
def LG {a : Ws} (hj : j < (dp (b5 e) a.Time).length) (h : e7 a.Wt (dp (b5 e) a.Time)[j] = true) : gZ e a (j + 1) = gZ e a j ++ [(dp (b5 e) a.Time)[j]] := by
 unfold gZ; rw [cn hj, eU]; simp [h]
def LH {a : Ws} (hj : j < (dp (b5 e) a.Time).length) (h : e7 a.Wt (dp (b5 e) a.Time)[j] = false) : gZ e a (j + 1) = gZ e a j := by
 unfold gZ; rw [cn hj, eU]; simp [h]
def Bo {a : Ws} : gZ e a (dp (b5 e) a.Time).length = ko e a := by unfold gZ ko; rw [cb]
def wN (l : List aT) (t : Int) : (dp l t).length ≤ l.length := by unfold dp; rw [ar]; exact iJ _ _
def Bp (h : e.Ww.toNat < e.Store.Wr.length) : e.Store.Wr[e.Ww.toNat] = b5 e := by unfold b5; simp [h]
def Bq (hok : bh e = true) : (b5 e).length ≤ 4 := by
 have hf := gI hok
 rw [← Bp hf.2.2.2.1]
 exact (l6 hf.1).2.2.2.2.1 _ (List.getElem_mem _)
def tB : (cH e k).length = e.Ws.length := by unfold cH; rw [ar, jE]
def rE (h : m < (cH e k).length) (h2 : m < (bX e k).length) : (cH e k)[m] = m9 (e.Store.Wr.length : Int) (bX e k)[m] := List.getElem_map (m9 (e.Store.Wr.length : Int))
def UN (hm : m < (cH e k).length) (h : el (cH e k)[m] = false) : jD e k (m + 1) = jD e k m ++ [(cH e k)[m]] := by
 unfold jD; rw [cn hm, eU]; simp [h]
def UO (hm : m < (cH e k).length) (h : el (cH e k)[m] = true) : jD e k (m + 1) = jD e k m := by
 unfold jD; rw [cn hm, eU]; simp [h]
def UP (hm : m < (cH e k).length) (h : el (cH e k)[m] = true) : fK e k (m + 1) = fK e k m ++ [rC (cH e k)[m]] := by
 unfold fK; rw [cn hm, eU]; simp [h]
def UQ (hm : m < (cH e k).length) (h : el (cH e k)[m] = false) : fK e k (m + 1) = fK e k m := by
 unfold fK; rw [cn hm, eU]; simp [h]
def wP : (jD e k m).length ≤ m := by
 have := iJ (fun a => !el a) ((cH e k).take m)
 rw [bv] at this
 unfold jD; omega
def wQ : (fK e k m).length ≤ m := by
 have := iJ el ((cH e k).take m)
 rw [bv] at this
 unfold fK; rw [ar]; omega
def Br {n : Int} {a : Ws} (h : (a.Age + 1).tmod n = 0) : m9 n a = ⟨a.Wt, a.Time, a.WB, a.Age + 1, 0, a.Cap, a.Rows⟩ := by unfold m9; rw [if_pos h]
def Bs {n : Int} {a : Ws} (h : ¬ (a.Age + 1).tmod n = 0) : m9 n a = ⟨a.Wt, a.Time, a.WB, a.Age + 1, a.Sent, a.Cap, a.Rows⟩ := by unfold m9; rw [if_neg h]
def Bu (l : List Int) (x : Int) : (kp l x).length ≤ l.length := iJ _ _
def UR {l : List Int} {x : Int} (hk : k < l.length) (h : ¬ l[k] = x) : kp (l.take (k + 1)) x = kp (l.take k) x ++ [l[k]] := by
 unfold kp; rw [cn hk, eU]; simp [h]
def US {l : List Int} {x : Int} (hk : k < l.length) (h : l[k] = x) : kp (l.take (k + 1)) x = kp (l.take k) x := by
 unfold kp; rw [cn hk, eU]; simp [h]
end
def Bv {l : List aT} {t : Int} {k : Nat} (hk : k < l.length) (h : ea l[k] t = true) : dp (l.take (k + 1)) t = dp (l.take k) t ++ [fk l[k]] := by
 unfold dp; rw [cn hk, eU]; simp [h]
def LI {l : List aT} {t : Int} {k : Nat} (hk : k < l.length) (h : ea l[k] t = false) : dp (l.take (k + 1)) t = dp (l.take k) t := by
 unfold dp; rw [cn hk, eU]; simp [h]
def UT (a b : List Row) : dl (a ++ b) = dl a + dl b := by unfold dl; simp; omega
def LJ {e : aL} (hok : bh e = true) : ∀ v ∈ b5 e, dt (fk v) = true := by
 intro v hv
 have hf := gI hok
 rw [← Bp hf.2.2.2.1] at hv
 obtain ⟨j, hj, rfl⟩ := List.mem_iff_getElem.1 hv
 have := Ka hf.1 hf.2.2.2.1 hj
 unfold ek at this
 rw [bn] at this
 exact this.1
def LK : ∀ l : List Row, (∀ r ∈ l, dt r = true) → dl l = 4 * l.length
 | [], _ => rfl
 | r :: l, h => by
  have ih := LK l fun x hx => h x (List.mem_cons_of_mem _ hx)
  have hr : r.Values.length = 3 := by
   have := h r List.mem_cons_self
   simp [dt, aV] at this; omega
  have hw : de r = 3 := by simp only [de, dM, a9]; omega
  unfold dl at ih ⊢
  rw [List.length_cons, List.map_cons, List.sum_cons, hw]; omega
def UU {e : aL} (hok : bh e = true) (t : Int) : ∀ r ∈ dp (b5 e) t, dt r = true := by
 intro r hr
 unfold dp at hr
 obtain ⟨v, hv, rfl⟩ := List.mem_map.1 hr
 exact LJ hok v (List.mem_filter.1 hv).1
def Bw {e : aL} (hok : bh e = true) (a : Ws) (j : Nat) : dl (gZ e a j) ≤ 16 ∧ (gZ e a j).length ≤ 4 := by
 have hl : (gZ e a j).length ≤ 4 := by
  have h1 := iJ (e7 a.Wt) ((dp (b5 e) a.Time).take j)
  rw [bv] at h1
  have h2 := wN (b5 e) a.Time
  have h3 := Bq hok
  unfold gZ; omega
 have hw := LK (gZ e a j) fun r hr => UU hok a.Time r (List.mem_of_mem_take (List.mem_filter.1 hr).1)
 omega
def UV {e : aL} (hok : bh e = true) (a : Ws) : bW (ox e a) ≤ bW a + 16 := by
 have h1 := Bw hok a (dp (b5 e) a.Time).length
 rw [Bo] at h1
 have h2 := Bu a.WB e.Ww
 unfold ox bW
 simp only [dM, a9, UT]
 omega
def UW {e : aL} (hok : bh e = true) (k : Nat) : ((bX e k).map bW).sum ≤ (e.Ws.map bW).sum + 16 * e.Ws.length := by
 unfold bX
 generalize e.Ws = l
 induction l with
 | nil => simp
 | cons a l ih =>
  simp only [List.map_cons, List.sum_cons, List.length_cons] at *
  have h1 : bW (jV e ((parts e).take k) a) ≤ bW a + 16 := by
   unfold jV
   split
   ·exact UV hok a
   ·omega
  omega
def UX (n : Int) (a : Ws) : bW (m9 n a) = bW a := by unfold m9 bW; simp only [a9]
def UY (a : Ws) : d9 (rC a) ≤ bW a := by unfold rC d9 bW; simp only [a9]; omega
def LL : ∀ l : List Ws, ((l.filter fun a => !el a).map bW).sum + (((l.filter el).map rC).map d9).sum ≤ (l.map bW).sum
 | [] => by simp
 | a :: l => by
  have ih := LL l
  have hf := UY a
  simp only [List.filter_cons]
  cases h : el a
  ·simp only [Bool.not_false, if_true, List.map_cons, List.sum_cons, if_neg (by simp : ¬ (false = true))]; omega
  ·simp only [Bool.not_true, if_true, List.map_cons, List.sum_cons, if_neg (by simp : ¬ (false = true))]; omega
def LM : ∀ l : List Ws, (l.filter fun a => !el a).length + (l.filter el).length = l.length
 | [] => rfl
 | a :: l => by
  have ih := LM l
  simp only [List.filter_cons]
  cases h : el a <;> simp <;> omega
def UZ {e : aL} {k : Nat} (hk : k ≤ (parts e).length) : eG (fV e k) = 3 * k := by
 have := Bn hk
 simp only [eG, dM, a9]
 omega
def Bx {e : aL} (hok : bh e = true) : bp (ja e) ≤ bp e + 200 := by
 have hf := gI hok
 have hp := wo (e := e)
 have h1 := UW hok (parts e).length
 have h2 : ((cH e (parts e).length).map bW).sum = ((bX e (parts e).length).map bW).sum := by
  unfold cH
  rw [List.map_map]
  exact congrArg List.sum (List.map_congr_left fun a _ => UX _ a)
 have h3 := LL (cH e (parts e).length)
 have h4 := LM (cH e (parts e).length)
 have h5 := tB (e := e) (k := (parts e).length)
 have hr : jD e (parts e).length e.Ws.length = (cH e (parts e).length).filter fun a => !el a := by
  unfold jD; rw [gt (by omega)]
 have hd : fK e (parts e).length e.Ws.length = ((cH e (parts e).length).filter el).map rC := by
  unfold fK; rw [gt (by omega)]
 have hc := UZ (e := e) (Nat.le_refl _)
 have hl : dJ (gL e (parts e).length) ≤ dJ e.WE + 25 := by
  unfold gL
  split
  ·omega
  ·unfold dJ
   rw [aU, bN, List.sum_append]
   simp only [List.map_cons, List.map_nil, List.sum_cons, List.sum_nil, List.length_cons, List.length_nil, hc]
   omega
 unfold ja Lz bp
 dsimp only
 simp only [a9, c6, dK, hr, hd, aU, bN, List.sum_append, ar] at *
 omega
def By (e : aL) : bp (dj e) ≤ bp e := by
 have := AX e.Store (fb e.Ws)
 unfold dj bp
 dsimp only
 omega
def U0 (e : aL) : bp (c8 e) ≤ bp e + 200 := by
 unfold c8
 split
 ·rename_i h
  have h1 := Bx (wK h).1
  have h2 := By (ja e)
  omega
 ·omega
def U1 {e : aL} {k : Nat} (id : Int) : dn (bX e k) id = dn e.Ws id := by
 have hq : ∀ a : Ws, dD id (jV e ((parts e).take k) a) = dD id a := fun a => by unfold jV; split <;> rfl
 unfold dn bX
 rw [List.any_map, List.findIdx_map]
 simp only [Function.comp_def, hq]
def wR {s : Store} {a : Ws} (h : fq s a = true) : 0 ≤ a.Sent ∧ a.Sent ≤ 1000 ∧ 0 ≤ a.Age ∧ a.Age ≤ 100000 ∧ a.Rows.length ≤ 1000 ∧ cv a.Wt = true := by
 unfold fq at h
 simp only [bn, aV, decide_eq_true_eq, oj] at h
 exact ⟨by omega, by omega, by omega, by omega, by omega, h.2.1⟩
def wS {e : aL} (h : bh e = true) {k i : Nat} (hi : i < e.Ws.length) (h2 : i < (bX e k).length) : 0 ≤ (bX e k)[i].Age ∧ (bX e k)[i].Age ≤ 100000 := by
 have ha := wR ((gI h).2.2.2.2.2.2.2.2.2.1 _ (List.getElem_mem hi))
 rw [wM h2 hi]
 unfold jV
 split <;> exact ⟨ha.2.2.1, ha.2.2.2.1⟩
def LN {e : aL} (h : bh e = true) (a : Ws) : (ko e a).length ≤ 4 := by
 have := (Bw h a (dp (b5 e) a.Time).length).2
 rwa [Bo] at this
def en (z : Ws × (Nat → Value)) : List PV := [PV.nv (z.2 0) (PV.val (vI z.1.Wt.Id)), PV.nv (z.2 1) (PV.val (vI z.1.Wt.Wx)), PV.nv (z.2 2) (PV.sl .v (z.1.Wt.Wu.map bf)), PV.nv (z.2 3) (PV.sl .v (z.1.Wt.Out.map ak)), PV.nv (z.2 4) (PV.val (vI z.1.Time)), PV.nv (z.2 5) (PV.sl .v (z.1.WB.map ak)), PV.nv (z.2 6) (PV.val (vI z.1.Age)), PV.nv (z.2 7) (PV.val (vI z.1.Sent)), PV.nv (z.2 8) (PV.val (vI z.1.Cap)), PV.nv (z.2 9) (PV.sl .v (z.1.Rows.map (bu aa)))]
def U2 (z : Row × (Nat → Value)) : List PV := [PV.nv (z.2 0) (PV.val (vI z.1.Id)), PV.nv (z.2 1) (PV.sl .v (z.1.Values.map ak))]
def U3 {α : Type} {d : α} {p : α → Bool} {r : α → α → Bool} {l : List α} (h1 : ∀ x ∈ l, p x = true) (h2 : l.Pairwise (fun a b => r a b = true)) : ew d p r l = true := by
 unfold ew jQ
 rw [le]
 intro i hi
 have hi := List.mem_range.1 hi
 rw [gn hi, h1 _ (List.getElem_mem hi), Bool.true_and]
 cases i with
 | zero => rfl
 | succ i =>
  rw [List.pairwise_iff_getElem] at h2
  rw [show i + 1 - 1 = i from rfl, gn (show i < l.length by omega), h2 i (i + 1) (by omega) hi (by omega)]
  simp
def LO {e : aL} (hok : bh e = true) : mV e.Ws (parts e) = (e.Ws.filter (i9 e)).map fun a => a.Wt := by
 rw [ry hok]
 unfold mV gq
 rw [List.map_map]
 refine List.map_congr_left fun a ha => ?_
 have ha := (List.mem_filter.1 ha).1
 obtain ⟨i, hi, rfl⟩ := List.mem_iff_getElem.1 ha
 have hf : dn e.Ws e.Ws[i].Wt.Id = (i : Int) := by
  refine AV hi ?_ (by unfold dD; simp)
  rw [List.any_eq_false]
  intro b hb
  obtain ⟨j, hj, rfl⟩ := List.mem_iff_getElem.1 hb
  rw [bv] at hj
  intro hc
  unfold dD at hc
  have hc : e.Ws[j].Wt.Id = e.Ws[i].Wt.Id := by simpa using hc
  have := wL hok (show j < e.Ws.length by omega) hi hc
  omega
 show (e.Ws.getD (dn e.Ws e.Ws[i].Wt.Id).toNat gH).Wt = _
 rw [hf]; simp [hi]
def U4 {e : aL} (hok : bh e = true) : di (mV e.Ws (parts e)) = true := by
 have hef := gI hok
 rw [LO hok]
 unfold di
 have hl := iJ (i9 e) e.Ws
 rw [bn]
 refine ⟨U3 (fun x hx => ?_) ?_, ?_⟩
 ·obtain ⟨a, ha, rfl⟩ := List.mem_map.1 hx
  exact (wR (hef.2.2.2.2.2.2.2.2.2.1 _ (List.mem_filter.1 ha).1)).2.2.2.2.2
 ·rw [List.pairwise_map]
  refine ((rD hok).filter _).imp fun {a b} h => ?_
  unfold pT; simpa using h
 ·rw [ar, decide_eq_true_eq]; omega
def U5 {e : aL} (hok : bh e = true) {i : Nat} (hi : i < e.Ws.length) (h : i9 e e.Ws[i] = true) : e.Ws[i].Wt ∈ mV e.Ws (parts e) := by
 rw [LO hok]
 exact List.mem_map.2 ⟨_, List.mem_filter.2 ⟨List.getElem_mem hi, h⟩, rfl⟩
def jb (e : aL) (a : Ws) (j : Nat) : List Row := (dp ((b5 e).take j) a.Time).filter (e7 a.Wt)
def LP {e : aL} {a : Ws} {j : Nat} (hj : j < (b5 e).length) (hv : ea (b5 e)[j] a.Time = true) (hm : e7 a.Wt (fk (b5 e)[j]) = true) : jb e a (j + 1) = jb e a j ++ [fk (b5 e)[j]] := by
 unfold jb; rw [Bv hj hv, eU]; simp [hm]
def wT {e : aL} {a : Ws} {j : Nat} (hj : j < (b5 e).length) (h : ea (b5 e)[j] a.Time = false ∨ e7 a.Wt (fk (b5 e)[j]) = false) : jb e a (j + 1) = jb e a j := by
 unfold jb
 cases hv : ea (b5 e)[j] a.Time with
 | false => rw [LI hj hv]
 | true =>
  rw [hv] at h
  have hm := h.resolve_left (by simp)
  rw [Bv hj hv, eU]; simp [hm]
def U6 {e : aL} {a : Ws} : jb e a (b5 e).length = ko e a := by unfold jb ko; rw [cb]
def U7 {e : aL} {a : Ws} {j : Nat} : (jb e a j).length ≤ j := by
 have h1 := iJ (e7 a.Wt) (dp ((b5 e).take j) a.Time)
 have h2 := wN ((b5 e).take j) a.Time
 rw [bv] at h2
 unfold jb; omega
def jc (e : aL) (k : Nat) : cE := ⟨e.Ww, ((b5 e).length : Int), parts e, ((parts e).take k).map (wI e), ((parts e).take k).map (wJ e)⟩
def U8 {e : aL} {i k : Nat} (hk : k < (parts e).length) (hi : i < e.Ws.length) (hf : dn e.Ws (parts e)[k] = (i : Int)) : jc e (k + 1) = ⟨e.Ww, ((b5 e).length : Int), parts e, (jc e k).Wy ++ [e.Ws[i].Wt.Wx], (jc e k).Rows ++ [((ko e e.Ws[i]).length : Int)]⟩ := by
 have ha := LF hi hf
 unfold jc
 rw [cn hk]
 simp only [bN, List.map_cons, List.map_nil, wI, wJ, ha]
def U9 {e : aL} : jc e (parts e).length = fV e (parts e).length := by unfold jc fV; rw [cb]
def Va {e : aL} {k : Nat} (hk : k ≤ (parts e).length) : (jc e k).Wy.length = k ∧ (jc e k).Rows.length = k := by
 unfold jc
 simp only [ar, bv]
 omega
def Vb (e : aL) (k : Nat) : aL := ⟨e.Store, e.Ww, e.Order, bX e k, e.Done, e.WE, e.Steps⟩
end
section
def oy (k : Nat) : List Int := (List.range k).map fun i : Nat => (i : Int)
def Vc (k : Nat) : oy (k + 1) = oy k ++ [(k : Int)] := by simp [oy, List.range_succ]
def Bz (k : Nat) : (oy k).length = k := by simp [oy]
def dE (e : aL) (q : Wt) (l : Int) : Ws := ⟨q, e.Store.Now, oy e.Store.Wr.length, 0, 0, l, []⟩
def jF (x : Int) (a : Ws) : Bool := decide (a.Wt.Id < x)
def dG (l : List Ws) (x : Int) : Nat := (l.filter (jF x)).length
def mb (e : aL) (q : Wt) (l : Int) : List Ws := e.Ws.filter (jF q.Id) ++ dE e q l :: e.Ws.drop (dG e.Ws q.Id)
def jW (e : aL) (q : Wt) (l : Int) : Bool := ((bh e && cv q) && aV l 0 32) && (decide (dn e.Ws q.Id < 0) && decide ((e.Ws.length : Int) < 8))
def fc (e : aL) (q : Wt) (l : Int) : aL × Bool := if jW e q l then (⟨e.Store, e.Ww, e.Order, mb e q l, e.Done, e.WE, e.Steps⟩, true) else (e, false)
def BA {e : aL} {q : Wt} {l : Int} (h : jW e q l = false) : fc e q l = (e, false) := if_neg (by rw [h]; simp)
def LQ {e : aL} {q : Wt} {l : Int} (h : jW e q l = true) : fc e q l = (⟨e.Store, e.Ww, e.Order, mb e q l, e.Done, e.WE, e.Steps⟩, true) := if_pos h
def tC {e : aL} {q : Wt} {l : Int} (h : jW e q l = true) : bh e = true ∧ cv q = true ∧ (0 ≤ l ∧ l ≤ 32) ∧ dn e.Ws q.Id < 0 ∧ (e.Ws.length : Int) < 8 := by
 unfold jW at h
 simp only [bn, decide_eq_true_eq, aV] at h
 exact ⟨h.1.1.1, h.1.1.2, h.1.2, h.2.1, h.2.2⟩
def iG (x : Int) (zs : List (Ws × (Nat → Value))) : List (Ws × (Nat → Value)) := zs.filter fun z => jF x z.1
section
variable {zs : List (Ws × (Nat → Value))} {l : List Ws} {x : Int} {k : Nat}
def Vd (hk : k < zs.length) (h : jF x zs[k].1 = true) : iG x (zs.take (k + 1)) = iG x (zs.take k) ++ [zs[k]] := by
 unfold iG; rw [cn hk, eU]; simp [h]
def Ve (hk : k < zs.length) (h : jF x zs[k].1 = false) : iG x (zs.take (k + 1)) = iG x (zs.take k) := by
 unfold iG; rw [cn hk, eU]; simp [h]
def Vf : (iG x (zs.take k)).length ≤ k := by
 have := iJ (fun z : Ws × (Nat → Value) => jF x z.1) (zs.take k)
 rw [bv] at this; unfold iG; omega
def LR (hz : zs.map Prod.fst = l) : (iG x zs).map Prod.fst = l.filter (jF x) := by
 subst hz; unfold iG; rw [List.filter_map]; rfl
def LS (hz : zs.map Prod.fst = l) : (iG x zs).length = dG l x := by
 unfold dG; rw [← LR hz, ar]
def wU {α : Type} (key : α → Int) (x : Int) : ∀ {l : List α}, l.Pairwise (fun a b => key a < key b) → l.filter (fun a => decide (key a < x)) = l.take (l.filter fun a => decide (key a < x)).length
 | [], _ => rfl
 | a :: l, h => by
  have ⟨h1, h2⟩ := List.pairwise_cons.1 h
  have ih := wU key x h2
  rw [List.filter_cons]
  split
  ·rw [List.length_cons, List.take_succ_cons, ← ih]
  ·rename_i hc
   have hc : ¬ key a < x := by simpa using hc
   have : l.filter (fun a => decide (key a < x)) = [] := by
    rw [List.filter_eq_nil_iff]
    intro b hb
    have := h1 b hb
    simp; omega
   rw [this]; rfl
def Vg {e : aL} (hok : bh e = true) (hz : zs.map Prod.fst = e.Ws) : zs.Pairwise (fun a b => a.1.Wt.Id < b.1.Wt.Id) := by
 have := rD hok
 rw [← hz, List.pairwise_map] at this
 exact this
def LU {e : aL} (hok : bh e = true) (hz : zs.map Prod.fst = e.Ws) : iG x zs = zs.take (dG e.Ws x) := by
 have h := wU (fun z : Ws × (Nat → Value) => z.1.Wt.Id) x (Vg hok hz)
 have hl := LS (x := x) hz
 unfold iG jF at *
 rw [h, hl]
def LV {e : aL} : dG e.Ws x ≤ e.Ws.length := iJ _ _
def Vh {e : aL} (hok : bh e = true) (hk : k < e.Ws.length) : e.Ws[k].Wt.Id < x ↔ k < dG e.Ws x := by
 have h := wU (fun a : Ws => a.Wt.Id) x (rD hok)
 have hc : dG e.Ws x = (e.Ws.filter fun a => decide (a.Wt.Id < x)).length := rfl
 rw [← hc] at h
 constructor
 ·intro hx
  have hm : e.Ws[k] ∈ e.Ws.filter fun a => decide (a.Wt.Id < x) := List.mem_filter.2 ⟨List.getElem_mem hk, by simpa using hx⟩
  rw [h] at hm
  obtain ⟨j, hj, hje⟩ := List.mem_iff_getElem.1 hm
  rw [bv] at hj
  rw [List.getElem_take] at hje
  have := wL hok (show j < e.Ws.length by omega) hk (by rw [hje])
  omega
 ·intro hx
  have hm : e.Ws[k] ∈ e.Ws.take (dG e.Ws x) := by
   rw [w7]; exact ⟨k, by rw [bv]; omega, by rw [List.getElem_take]⟩
  rw [← h] at hm
  have := (List.mem_filter.1 hm).2
  simpa using this
def Vi {e : aL} (h : dn e.Ws x < 0) (hk : k < e.Ws.length) : e.Ws[k].Wt.Id ≠ x := by
 intro hx
 unfold dn at h
 rw [if_pos (pD hk (by unfold dD; simpa using hx))] at h
 omega
def jd (zs : List (Ws × (Nat → Value))) (zn : Ws × (Nat → Value)) (p k : Nat) : List (Ws × (Nat → Value)) := if p < k then zs.take p ++ zn :: (zs.take k).drop p else zs.take k
def Vj {zn : Ws × (Nat → Value)} {p : Nat} (hk : k ≤ zs.length) : (jd zs zn p k).length ≤ k + 1 := by
 unfold jd; split <;> simp <;> omega
def Vk {zn : Ws × (Nat → Value)} {p : Nat} (hk : k < zs.length) (h : k ≠ p) : jd zs zn p (k + 1) = jd zs zn p k ++ [zs[k]] := by
 unfold jd
 by_cases hp : p < k
 ·rw [if_pos (by omega), if_pos hp, cn hk, List.drop_append_of_le_length (by rw [bv]; omega)]
  simp
 ·rw [if_neg (by omega), if_neg hp, cn hk]
def Vl {zn : Ws × (Nat → Value)} {p : Nat} (hk : k < zs.length) (h : k = p) : jd zs zn p (k + 1) = jd zs zn p k ++ [zn] ++ [zs[k]] := by
 subst h
 unfold jd
 rw [if_pos (by omega), if_neg (by omega), cn hk, List.drop_append_of_le_length (by rw [bv]; omega)]
 simp
def Vm {zn : Ws × (Nat → Value)} {p : Nat} (h : p < zs.length) : jd zs zn p zs.length = zs.take p ++ zn :: zs.drop p := by unfold jd; rw [if_pos h, cb]
def Vn {zn : Ws × (Nat → Value)} {p : Nat} (h : p = zs.length) : jd zs zn p zs.length ++ [zn] = zs.take p ++ zn :: zs.drop p := by subst h; unfold jd; rw [if_neg (by omega)]; simp
def LW {zn : Ws × (Nat → Value)} {p : Nat} : ((zs.take p ++ zn :: zs.drop p) ++ []).Perm ([zn] ++ zs) := by
 rw [dH]
 refine List.perm_middle.trans ?_
 rw [eA]; exact List.Perm.refl _
def LX {e : aL} {q : Wt} {li : Int} {kn : Nat → Value} (hok : bh e = true) (hz : zs.map Prod.fst = e.Ws) : (zs.take (dG e.Ws q.Id) ++ (dE e q li, kn) :: zs.drop (dG e.Ws q.Id)).map Prod.fst = mb e q li := by
 unfold mb
 rw [← LU hok hz, bN, LR hz, List.map_cons, List.map_drop, hz]
end
def Vo {e : aL} {q : Wt} {l : Int} : bW (dE e q l) = ce q + e.Store.Wr.length := by
 unfold dE bW
 simp only [dM, a9, Bz, dl, List.map_nil, List.sum_nil, List.length_nil]; omega
def Vp (e : aL) (q : Wt) (l : Int) : bp (fc e q l).1 ≤ bp e + ce q + 10 := by
 unfold fc
 split
 ·rename_i h
  have hf := tC h
  have hef := gI hf.1
  obtain ⟨hs8, _, _, _, _, _⟩ := l6 hef.1
  have hn := Vo (e := e) (q := q) (l := l)
  have hsum : ∀ (L : List Ws) (x : Int), (∀ a ∈ L, True) → L.Pairwise (fun a b => a.Wt.Id < b.Wt.Id) → (L.filter (jF x) ++ L.drop (dG L x)) = L := by
   intro L x _ hp
   have h := wU (fun a : Ws => a.Wt.Id) x hp
   have : L.filter (jF x) = L.take (dG L x) := h
   rw [this, eA]
  have hs := hsum e.Ws q.Id (fun _ _ => trivial) (rD hf.1)
  have h1 : (mb e q l).length = e.Ws.length + 1 := by
   conv => rhs; rw [← hs]
   unfold mb; simp only [aU, List.length_cons]; omega
  have h2 : ((mb e q l).map bW).sum = (e.Ws.map bW).sum + bW (dE e q l) := by
   conv => rhs; rw [← hs]
   unfold mb; simp only [bN, List.map_cons, List.sum_append, List.sum_cons]; omega
  unfold bp c6
  dsimp only
  rw [h1, h2, hn]; omega
 ·dsimp only; omega
end
def oz (e : aL) (i : Nat) : aL := ⟨e.Store, e.Ww, e.Order, eY e.Ws i, e.Done, e.WE, e.Steps⟩
def jG (e : aL) (id : Int) : Bool := bh e && decide (0 ≤ dn e.Ws id)
def cB (e : aL) (id : Int) : aL × Bool := if jG e id then (dj (oz e (dn e.Ws id).toNat), true) else (e, false)
def BB {e : aL} {id : Int} (h : jG e id = false) : cB e id = (e, false) := if_neg (by rw [h]; simp)
def Vq {e : aL} {id : Int} (h : jG e id = true) : cB e id = (dj (oz e (dn e.Ws id).toNat), true) := if_pos h
def BC {e : aL} {id : Int} {i : Nat} (h : jG e id = true) (hf : dn e.Ws id = (i : Int)) : cB e id = (dj (oz e i), true) := by rw [Vq h, hf]; rfl
def BD {l : List Ws} {id : Int} (h : 0 ≤ dn l id) : ∃ i : Nat, i < l.length ∧ dn l id = (i : Int) := by
 unfold dn at *
 split at h
 ·rename_i ha
  rw [if_pos ha]
  obtain ⟨a, ha1, ha2⟩ := List.any_eq_true.1 ha
  exact ⟨l.findIdx (dD id), List.findIdx_lt_length_of_exists ⟨a, ha1, ha2⟩, rfl⟩
 ·omega
def LY {α β : Type} {f : α → β} {zs : List α} {l : List β} {i : Nat} (hz : zs.map f = l) : (eY zs i).map f = eY l i := by
 subst hz; unfold eY; rw [bN, List.map_take, List.map_drop]
def BE {α : Type} {zs : List α} {i : Nat} (hi : i < zs.length) : (eY zs i ++ [zs[i]]).Perm zs := by
 unfold eY
 have : zs = zs.take i ++ (zs[i] :: zs.drop (i + 1)) := by rw [← List.drop_eq_getElem_cons hi, eA]
 conv => rhs; rw [this]
 rw [br]
 refine fv _ ?_
 exact List.perm_append_singleton _ _
def BF {e : aL} {i : Nat} (hi : i < e.Ws.length) : bp (oz e i) ≤ bp e := by
 have hs : ((eY e.Ws i).map bW).sum + bW e.Ws[i] = (e.Ws.map bW).sum := by
  have := ((BE hi).map bW).sum_nat
  rw [bN, List.sum_append] at this
  simpa using this
 have hl := xP hi
 unfold oz bp c6
 dsimp only
 rw [hl]; omega
def Vr (e : aL) (id : Int) : bp (cB e id).1 ≤ bp e := by
 cases h : jG e id with
 | false => rw [BB h]; exact Nat.le_refl _
 | true =>
  have h2 := h
  unfold jG at h2
  simp only [bn, decide_eq_true_eq] at h2
  obtain ⟨i, hi, hf⟩ := BD h2.2
  rw [BC h hf]
  have h3 := By (oz e i)
  have h4 := BF hi
  dsimp only; omega
def fW (id : Int) (v : aT) : Bool := decide (v.Id = id) && decide (v.WC = -1)
def gM (id : Int) (l : List aT) : Bool := l.any (fW id)
def pZ (s : Store) (i : Nat) : List aT := s.Wr.getD i []
def ca (s : Store) (id : Int) : Int := if s.Wr.any (gM id) then ((s.Wr.findIdx (gM id) : Nat) : Int) else -1
def kq (s : Store) (id : Int) : Int := if s.Wr.any (gM id) then (((pZ s (s.Wr.findIdx (gM id))).findIdx (fW id) : Nat) : Int) else -1
def BG {α : Type} {P : α → Bool} {l : List α} {k : Nat} (hk : k < l.length) (h : (l.take k).any P = false) (hy : P l[k] = true) : l.findIdx P = k := by
 rw [List.findIdx_eq hk]
 refine ⟨hy, fun j hj => ?_⟩
 rw [List.any_eq_false] at h
 have := h l[j] (by rw [w7]; exact ⟨j, by rw [bv]; omega, by simp⟩)
 simpa using this
def LZ {s : Store} {id : Int} {i k : Nat} (hi : i < s.Wr.length) (h1 : (s.Wr.take i).any (gM id) = false) (hk : k < s.Wr[i].length) (h2 : (s.Wr[i].take k).any (fW id) = false) (hy : fW id s.Wr[i][k] = true) : ca s id = (i : Int) ∧ kq s id = (k : Int) := by
 have ha : gM id s.Wr[i] = true := pD hk hy
 have hany : s.Wr.any (gM id) = true := pD hi ha
 have e1 := BG hi h1 ha
 have e2 := BG hk h2 hy
 unfold ca kq pZ
 rw [if_pos hany, if_pos hany, e1, List.getD_eq_getElem?_getD, List.getElem?_eq_getElem hi]
 exact ⟨rfl, by show ((s.Wr[i].findIdx (fW id) : Nat) : Int) = _; rw [e2]⟩
def L0 {s : Store} {id : Int} (h : s.Wr.any (gM id) = false) : ca s id = -1 ∧ kq s id = -1 := by
 unfold ca kq
 rw [if_neg (by rw [h]; simp), if_neg (by rw [h]; simp)]
 exact ⟨rfl, rfl⟩
def qa {s : Store} {id : Int} (h : 0 ≤ ca s id) : ∃ i k : Nat, ∃ hi : i < s.Wr.length, ∃ hk : k < s.Wr[i].length, ca s id = (i : Int) ∧ kq s id = (k : Int) ∧ fW id s.Wr[i][k] = true := by
 unfold ca at h
 split at h
 ·rename_i ha
  obtain ⟨l, hl, hp⟩ := List.any_eq_true.1 ha
  have hi : s.Wr.findIdx (gM id) < s.Wr.length := List.findIdx_lt_length_of_exists ⟨l, hl, hp⟩
  have hpi : gM id (s.Wr[s.Wr.findIdx (gM id)]) = true := List.findIdx_getElem (w := hi)
  obtain ⟨v, hv, hvp⟩ := List.any_eq_true.1 hpi
  have hk : s.Wr[s.Wr.findIdx (gM id)].findIdx (fW id) < s.Wr[s.Wr.findIdx (gM id)].length := List.findIdx_lt_length_of_exists ⟨v, hv, hvp⟩
  refine ⟨_, _, hi, hk, ?_, ?_, List.findIdx_getElem (w := hk)⟩
  ·unfold ca; rw [if_pos ha]
  ·unfold kq pZ; rw [if_pos ha, List.getD_eq_getElem?_getD, List.getElem?_eq_getElem hi]; rfl
 ·omega
def gr (l : List aT) : Bool := decide ((l.length : Int) < 4)
def gN (L : List (List aT)) : Int := if L.any gr then ((L.findIdx gr : Nat) : Int) else -1
def L1 {L : List (List aT)} {k : Nat} (hk : k < L.length) (h : (L.take k).any gr = false) (hy : gr L[k] = true) : gN L = (k : Int) := by
 unfold gN; rw [if_pos (pD hk hy), BG hk h hy]
def L2 {L : List (List aT)} (h : L.any gr = false) : gN L = -1 := if_neg (by rw [h]; simp)
def L3 {L : List (List aT)} (h : 0 ≤ gN L) : ∃ r : Nat, ∃ hr : r < L.length, gN L = (r : Int) ∧ L[r].length < 4 := by
 unfold gN at h
 split at h
 ·rename_i ha
  obtain ⟨l, hl, hp⟩ := List.any_eq_true.1 ha
  have hr : L.findIdx gr < L.length := List.findIdx_lt_length_of_exists ⟨l, hl, hp⟩
  have hpi : gr L[L.findIdx gr] = true := List.findIdx_getElem (w := hr)
  refine ⟨_, hr, by unfold gN; rw [if_pos ha], ?_⟩
  have : ∀ l : List aT, gr l = true → l.length < 4 := fun l hl => by unfold gr at hl; simp only [decide_eq_true_eq] at hl; omega
  exact this _ hpi
 ·omega
def ld (n : Int) (v : aT) : aT := ⟨v.Id, v.Values, v.WG, n⟩
def BH (s : Store) (i k : Int) : aT := (pZ s i.toNat).getD k.toNat v0
def c9 (s : Store) (u : Wv) : List (List aT) := if 0 ≤ ca s u.Row.Id then s.Wr.set (ca s u.Row.Id).toNat ((pZ s (ca s u.Row.Id).toNat).set (kq s u.Row.Id).toNat (ld (s.Now + 1) (BH s (ca s u.Row.Id) (kq s u.Row.Id)))) else s.Wr
def eo (s : Store) (u : Wv) : List Int := if 0 ≤ ca s u.Row.Id then (BH s (ca s u.Row.Id) (kq s u.Row.Id)).Values else u.Row.Values
def iH (s : Store) (u : Wv) : List Int := if u.Kind = 3 then (eo s u).set u.Field.toNat u.Value else eo s u
def jX (s : Store) (u : Wv) : aT := ⟨u.Row.Id, iH s u, s.Now + 1, -1⟩
def wV (L : List (List aT)) (r : Nat) (v : aT) : List (List aT) := L.set r (L.getD r [] ++ [v])
def je (s : Store) (u : Wv) : Bool := ((dm s && i1 u) && decide (s.Now < 100000)) && (decide (0 ≤ ca s u.Row.Id) == !decide (u.Kind = 1) && (decide (u.Kind = 2) || decide (0 ≤ gN s.Wr)))
def wW (s : Store) (u : Wv) : Store := ⟨if u.Kind = 2 then c9 s u else wV (c9 s u) (gN s.Wr).toNat (jX s u), s.Now + 1⟩
def dq (s : Store) (u : Wv) : Store × Bool := if je s u then (wW s u, true) else (s, false)
def BI {s : Store} {u : Wv} (h : je s u = false) : dq s u = (s, false) := if_neg (by rw [h]; simp)
def L4 {s : Store} {u : Wv} (h : je s u = true) : dq s u = (wW s u, true) := if_pos h
def tD {s : Store} {u : Wv} (h : je s u = true) (hk : u.Kind = 2) : dq s u = (⟨c9 s u, s.Now + 1⟩, true) := by rw [L4 h]; unfold wW; rw [if_pos hk]
def tE {s : Store} {u : Wv} {r : Nat} (h : je s u = true) (hk : ¬ u.Kind = 2) (hr : gN s.Wr = (r : Int)) : dq s u = (⟨wV (c9 s u) r (jX s u), s.Now + 1⟩, true) := by
 rw [L4 h]; unfold wW; rw [if_neg hk, hr]; rfl
def qb {s : Store} {u : Wv} {i k : Nat} (hi : i < s.Wr.length) (hk : k < s.Wr[i].length) (h1 : ca s u.Row.Id = (i : Int)) (h2 : kq s u.Row.Id = (k : Int)) : c9 s u = s.Wr.set i (s.Wr[i].set k (ld (s.Now + 1) s.Wr[i][k])) ∧ eo s u = s.Wr[i][k].Values := by
 have e1 : pZ s i = s.Wr[i] := by unfold pZ; simp [hi]
 unfold c9 eo BH
 rw [h1, h2, if_pos (by omega), if_pos (by omega), Int.toNat_natCast, Int.toNat_natCast, e1]
 simp [hk]
def qc {s : Store} {u : Wv} (h : ¬ 0 ≤ ca s u.Row.Id) : c9 s u = s.Wr ∧ eo s u = u.Row.Values := by
 unfold c9 eo; rw [if_neg h, if_neg h]; exact ⟨rfl, rfl⟩
def L5 (s : Store) (u : Wv) : (c9 s u).map List.length = s.Wr.map List.length := by
 by_cases h : 0 ≤ ca s u.Row.Id
 ·obtain ⟨i, k, hi, hk, h1, h2, _⟩ := qa h
  rw [(qb hi hk h1 h2).1]
  apply List.ext_getElem
  ·simp
  ·intro j hj1 hj2
   simp only [List.getElem_map, List.getElem_set]
   split
   ·rename_i hij; subst hij; simp
   ·rfl
 ·rw [(qc h).1]
def BJ (s : Store) (u : Wv) : (c9 s u).length = s.Wr.length := by
 have := congrArg List.length (L5 s u)
 simpa using this
def L6 (s : Store) (u : Wv) {k : Nat} (hk : k < (c9 s u).length) (hk2 : k < s.Wr.length) : (c9 s u)[k].length = s.Wr[k].length := by
 have h := L5 s u
 have := List.getElem_of_eq h (show k < ((c9 s u).map List.length).length by rw [ar]; exact hk)
 simpa using this
def Vs (n : Int) (v : aT) : bT (ld n v) = bT v := by unfold ld bT; simp only [a9]
def wX {α : Type} {f : α → Nat} : ∀ {l : List α} {i : Nat} {x : α} (hi : i < l.length), ((l.set i x).map f).sum + f l[i] = (l.map f).sum + f x
 | y :: l, 0, x, _ => by simp; omega
 | y :: l, i + 1, x, h => by
  have := wX (f := f) (l := l) (i := i) (x := x) (by simpa using h)
  simp only [List.set_cons_succ, List.map_cons, List.sum_cons, List.getElem_cons_succ]
  omega
def L7 (s : Store) (u : Wv) : eh (c9 s u) = eh s.Wr := by
 by_cases h : 0 ≤ ca s u.Row.Id
 ·obtain ⟨i, k, hi, hk, h1, h2, _⟩ := qa h
  rw [(qb hi hk h1 h2).1]
  have e1 := wX (f := bU) (x := s.Wr[i].set k (ld (s.Now + 1) s.Wr[i][k])) hi
  have e2 := wX (f := bT) (x := ld (s.Now + 1) s.Wr[i][k]) hk
  rw [Vs] at e2
  have e3 : bU (s.Wr[i].set k (ld (s.Now + 1) s.Wr[i][k])) = bU s.Wr[i] := by unfold bU; rw [List.length_set]; omega
  unfold eh
  rw [List.length_set]; omega
 ·rw [(qc h).1]
def L8 (s : Store) (u : Wv) : (iH s u).length ≤ b4 s + gC u := by
 have h0 : (iH s u).length = (eo s u).length := by unfold iH; split <;> simp
 rw [h0]
 by_cases h : 0 ≤ ca s u.Row.Id
 ·obtain ⟨i, k, hi, hk, h1, h2, _⟩ := qa h
  rw [(qb hi hk h1 h2).2]
  have w1 := cR (f := bU) hi
  have w2 := cR (f := bT) hk
  have w3 : bU s.Wr[i] = s.Wr[i].length + (s.Wr[i].map bT).sum := rfl
  have w4 : bT s.Wr[i][k] = s.Wr[i][k].Values.length := by simp only [bT, dM, a9]; omega
  unfold b4 eh
  simp only [a9]; omega
 ·rw [(qc h).2]
  unfold gC de
  simp only [dM, a9]; omega
def wY {s : Store} {u : Wv} (hs : dm s = true) (h : 0 ≤ ca s u.Row.Id) : (eo s u).length = 3 := by
 obtain ⟨i, k, hi, hk, h1, h2, _⟩ := qa h
 rw [(qb hi hk h1 h2).2]
 have hv := Ka hs hi hk
 unfold ek at hv
 rw [bn] at hv
 exact rp hv.1
def BK {u : Wv} (h : i1 u = true) (hk : u.Kind = 3) : 0 ≤ u.Field ∧ u.Field ≤ 2 := by
 unfold i1 at h
 rw [if_neg (by omega), if_neg (by omega), if_pos hk] at h
 simp only [bn, aV, decide_eq_true_eq] at h
 exact h.2.1
def wZ {s : Store} {u : Wv} (h1 : dm s = true) (h2 : i1 u = true) (h3 : s.Now < 100000) (h4 : 0 ≤ ca s u.Row.Id ↔ ¬ u.Kind = 1) (h5 : u.Kind = 2 ∨ 0 ≤ gN s.Wr) : je s u = true := by
 unfold je
 rw [h1, h2, decide_eq_true h3]
 have e1 : (decide (0 ≤ ca s u.Row.Id) == !decide (u.Kind = 1)) = true := by
  by_cases a : 0 ≤ ca s u.Row.Id <;> by_cases b : u.Kind = 1 <;> simp_all
 have e2 : (decide (u.Kind = 2) || decide (0 ≤ gN s.Wr)) = true := by
  rcases h5 with h | h <;> simp [h]
 rw [e1, e2]; rfl
def rF {s : Store} {u : Wv} (h : je s u = true) : dm s = true ∧ i1 u = true ∧ s.Now < 100000 ∧ (0 ≤ ca s u.Row.Id ↔ ¬ u.Kind = 1) ∧ (u.Kind = 2 ∨ 0 ≤ gN s.Wr) := by
 unfold je at h
 simp only [bn, Bool.or_eq_true, decide_eq_true_eq] at h
 obtain ⟨⟨⟨h1, h2⟩, h3⟩, h4, h5⟩ := h
 refine ⟨h1, h2, h3, ?_, h5⟩
 by_cases a : 0 ≤ ca s u.Row.Id <;> by_cases b : u.Kind = 1 <;> simp_all
def BL {L : List (List aT)} {r : Nat} {v : aT} (hr : r < L.length) : wV L r v = L.set r (L[r] ++ [v]) := by unfold wV; simp [hr]
def kr (n : Int) : Nat := (min (max n 0) 200).toNat
def BM (n : Int) : kr n ≤ 200 := by unfold kr; omega
def iI (e : aL) : Nat → aL
 | 0 => e
 | k + 1 => c8 (iI e k)
def fX (e : aL) (n : Int) : aL := iI e (kr n)
def w5 (e : aL) : ∀ k : Nat, bp (iI e k) ≤ bp e + 200 * k
 | 0 => by rw [iI]; omega
 | k + 1 => by
  have h1 := w5 e k
  have h3 := U0 (iI e k)
  rw [iI]; omega
def Vt (e : aL) (n : Int) : bp (fX e n) ≤ bp e + 40000 := by
 have h1 := w5 e (kr n)
 have h2 := BM n
 unfold fX; omega
def Vu {q : Wt} (h : cv q = true) : ce q ≤ 6 := by
 unfold cv kN at h
 simp only [bn, aV, decide_eq_true_eq] at h
 have h1 : (q.Wu.map lL).sum = 0 := by
  have : ∀ l : List cS, (l.map lL).sum = 0 := by
   intro l
   induction l with
   | nil => rfl
   | cons c l ih => rw [List.map_cons, List.sum_cons, ih]; rfl
  exact this _
 unfold ce iy
 simp only [dM, a9, h1]; omega
def Vv {s : Store} {u : Wv} (h : je s u = true) (hk : ¬ u.Kind = 2) : (iH s u).length = 3 := by
 obtain ⟨h1, h2, h3, h4, h5⟩ := rF h
 have h0 : (iH s u).length = (eo s u).length := by unfold iH; split <;> simp
 rw [h0]
 by_cases a : 0 ≤ ca s u.Row.Id
 ·exact wY h1 a
 ·rw [(qc a).2]
  have hk1 : u.Kind = 1 := by
   by_cases b : u.Kind = 1
   ·exact b
   ·exact absurd (h4.2 b) a
  unfold i1 at h2
  rw [if_pos hk1] at h2
  simp only [bn] at h2
  exact rp h2.1
def BN (s : Store) (u : Wv) : b4 (dq s u).1 ≤ b4 s + 4 := by
 cases h : je s u with
 | false => rw [BI h]; dsimp only; omega
 | true =>
  by_cases hk : u.Kind = 2
  ·rw [tD h hk]
   have e1 := L7 s u
   unfold b4; dsimp only; rw [e1]; simp only [a9]; omega
  ·have h5 := (rF h).2.2.2.2.resolve_left hk
   obtain ⟨r, hr, hrm, _⟩ := L3 h5
   rw [tE h hk hrm]
   have e1 := L7 s u
   have e2 := Vv h hk
   have hru : r < (c9 s u).length := by rw [BJ]; exact hr
   have e3 := wX (f := bU) (x := (c9 s u)[r] ++ [jX s u]) hru
   have hw : bT (jX s u) = (iH s u).length := by unfold jX bT; simp only [dM, a9]; omega
   have e5 : bU ((c9 s u)[r] ++ [jX s u]) = bU (c9 s u)[r] + (1 + bT (jX s u)) := by
    unfold bU; simp only [aU, bN, List.sum_append, List.length_cons, List.length_nil, List.map_cons, List.map_nil, List.sum_cons, List.sum_nil]; omega
   rw [BL hru]
   unfold b4
   dsimp only
   unfold eh at e1 ⊢
   rw [List.length_set]
   simp only [a9] at *; omega
def qd (e : aL) (s : Store) : aL := ⟨s, e.Ww, e.Order, e.Ws, e.Done, e.WE, e.Steps⟩
def cC (e : aL) (u : Wv) : aL × Bool := if bh e && (dq e.Store u).2 then (dj (qd e (dq e.Store u).1), true) else (e, false)
def L9 {e : aL} {u : Wv} (h : (bh e && (dq e.Store u).2) = false) : cC e u = (e, false) := if_neg (by rw [h]; simp)
def Ma {e : aL} {u : Wv} (h : (bh e && (dq e.Store u).2) = true) : cC e u = (dj (qd e (dq e.Store u).1), true) := if_pos h
def BO (e : aL) (u : Wv) : bp (qd e (dq e.Store u).1) ≤ bp e + 4 := by
 have := BN e.Store u
 unfold qd bp; dsimp only; omega
def Vw (e : aL) (u : Wv) : bp (cC e u).1 ≤ bp e + 4 := by
 have h1 := BO e u
 have h2 := By (qd e (dq e.Store u).1)
 unfold cC
 split <;> dsimp only <;> omega
def dP (e : aL) (x : eH) : aL × Bool := if bh e && eQ x then (if x.Kind = 1 then fc e x.Wt x.Limit else if x.Kind = 2 then cB e x.Id else if x.Kind = 3 then cC e x.Wv else (fX e x.Steps, true)) else (e, false)
def BP {e : aL} {x : eH} (h : (bh e && eQ x) = false) : dP e x = (e, false) := if_neg (by rw [h]; simp)
def BQ {e : aL} {x : eH} (h : (bh e && eQ x) = true) (k : x.Kind = 1) : dP e x = fc e x.Wt x.Limit := by unfold dP; rw [if_pos h, if_pos k]
def BR {e : aL} {x : eH} (h : (bh e && eQ x) = true) (k : x.Kind = 2) : dP e x = cB e x.Id := by unfold dP; rw [if_pos h, if_neg (by omega), if_pos k]
def BS {e : aL} {x : eH} (h : (bh e && eQ x) = true) (k : x.Kind = 3) : dP e x = cC e x.Wv := by unfold dP; rw [if_pos h, if_neg (by omega), if_neg (by omega), if_pos k]
def BT {e : aL} {x : eH} (h : (bh e && eQ x) = true) (k1 : ¬ x.Kind = 1) (k2 : ¬ x.Kind = 2) (k3 : ¬ x.Kind = 3) : dP e x = (fX e x.Steps, true) := by unfold dP; rw [if_pos h, if_neg k1, if_neg k2, if_neg k3]
def Vx (e : aL) (x : eH) : bp (dP e x).1 ≤ bp e + 40000 := by
 cases h : bh e && eQ x with
 | false => rw [BP h]; dsimp only; omega
 | true =>
  by_cases k1 : x.Kind = 1
  ·rw [BQ h k1]
   cases ha : jW e x.Wt x.Limit with
   | false => rw [BA ha]; dsimp only; omega
   | true =>
    have h1 := Vp e x.Wt x.Limit
    have h2 := Vu (tC ha).2.1
    omega
  ·by_cases k2 : x.Kind = 2
   ·rw [BR h k2]; have := Vr e x.Id; omega
   ·by_cases k3 : x.Kind = 3
    ·rw [BS h k3]; have := Vw e x.Wv; omega
    ·rw [BT h k1 k2 k3]; have := Vt e x.Steps; dsimp only; omega
end Go.Proofs.YtmekkgdboplbjaaGreat
