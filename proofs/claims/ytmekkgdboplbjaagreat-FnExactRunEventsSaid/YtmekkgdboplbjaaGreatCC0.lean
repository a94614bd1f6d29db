/- The logic. No condition. -/
import Derived.Test.YtmekkgdboplbjaaGreatCB0
import Derived.KernelRfl
import Derived.Laws.Strings3
import Derived.Laws.BytesString
import Derived.Laws.Concat
import Derived.Lib.LaidTab
import Derived.Lib.Join
import Derived.Lib.ItoaNum
import Derived.Lib.ItoaLen
import Derived.Sort.Grow
import Derived.Deep.Draws
import Derived.ProofKit
import Derived.OpenShut
import Derived.Carry
import Derived.Below
import Derived.ChangeSame
import Derived.ChangeArms
import Derived.WideKeyArgs
import Derived.Deep.Slices
set_option linter.all false
namespace Go.Proofs.YtmekkgdboplbjaaGreat.M
open Go Go.RowKit
section
section
variable {P : Program} {n : Nat} {h0 : Nat → Prop} {w0 : World} {Fz0 : av}
def RV.gat (u : Value) (D m cp : Nat) : RV where
 holds φ _ _ _ F := (u = .slice (some ⟨φ D, 0, none⟩) m cp ∧ m ≤ cp ∧ cp ≤ maxLen) ∧ F = []
 men x := Nat.beq x D
 mono h _ _ hφ := ⟨⟨by rw [hφ D (by simp)]; exact h.1.1, h.1.2⟩, h.2⟩
 lt h := by rw [h.2]; simp
def RV.lcl_gat {L : Nat → Prop} {u : Value} {D m cp : Nat} : (RV.gat u D m cp).Lcl L := fun h _ => h
def PV.any : PV where
 rel _ _ v := v.oneCell' = true
 own _ _ v F := v.oneCell' = true ∧ F = []
 one h := h
 toRel h := h.1
 relMono h _ := h
 ownMono h _ _ := h
 lt h := by rw [h.2]; simp
def PV.to_any {p : PV} : p.To PV.any := fun h => p.one h
def PV.bor_any : PV.any.Bor := fun h => ⟨h, rfl⟩
def PV.lcl_any {L : Nat → Prop} : PV.any.Lcl L := fun h _ => h
section
variable {σ : St} {a : Act} {w : World} {φ : Nat → Nat} {Fz : av} {Fp : Nat → List Nat}
def bD.thawF (hc : bD h0 w0 Fz0 n σ a w φ Fz Fp) {D G E e : Nat} {L : Nat → Prop} {u : Value} {es : List (List PV)} {F X : List Nat} (ho : db E e es Fz w u F) (hne : es ≠ []) (hX : ∀ b, b ∈ F ++ X → b ∈ Fp 0) (hn : (F ++ X).Nodup)
  (hD : σ.b D = none) (hG : σ.s G = none) (hm : ∀ i rv, σ.s i = some rv → rv.men D = false) (hL : ∀ x, L x → h0 x) (hls : ∀ i rv, σ.s i = some rv → rv.Lcl L) (hlb : ∀ d bx, σ.b d = some bx → ai L bx.2) (hes : ∀ cs, cs ∈ es → ai L cs) :
  ∃ (cp : Nat) (jk : List Value), es.length ≤ 9223372036854775807 ∧ es.length ≤ cp ∧ es.length * e + jk.length = cp * e ∧ bn h0 w0 Fz0 n ((σ.setB D (some (E, es.flatten ++ jk.map PV.val))).set G (some (RV.gat u D es.length cp))) a w := by
 obtain ⟨css, F', ho, hl, hf, hF, h1⟩ := ho
 rcases ho.2 with ⟨_, hn0⟩ | ⟨g, cap, cur, hval, _, hg, hnc, hcm, hcs, htake⟩
 ·exact absurd (im hn0) hne
 have hob : u.ownBlock = some g := by rw [hval]; rfl
 rw [hob] at hF hf
 have hF : F = g :: F' := hF
 subst hF
 have hg0 : g ∈ Fp 0 := hX g (by simp)
 have hgl := hc.low 0 g hg0
 have c2 := hc.uworld (w' := w) (Fz' := fun x o => Fz x o ∧ x ≠ g) (L := L) rfl rfl rfl (Nat.le_refl _)
  (fun x hx h0' => ⟨rfl, fun o => ⟨fun k => k.1, fun k => ⟨k, fun e => h0' (by rw [e]; exact hg0)⟩⟩⟩) hL hls hlb
  (fun x o k => hc.fzl x o k.1) (X := g :: F' ++ X) (fun x hx => .inl (hX x hx)) hn
 have hgF : g ∉ F' := by
  have := (List.nodup_append.1 hn).1
  exact (List.nodup_cons.1 this).1
 have hl2 : cc e es (fun x o => Fz x o ∧ x ≠ g) w css F' := vz (L := L) hes hl (fun x hx => ⟨rfl, fun o => ⟨fun k => k.1, fun k => ⟨k, fun e => by
   rcases hx with hx | hx
   ·exact hgl.1 (e ▸ hL x hx)
   ·rw [e] at hx; exact hgF hx⟩⟩⟩)
 have hone := h1 g hob cur E (0, 0) hg
 have hjl : es.length * e + (cur.toList.drop (es.length * e)).length = cap * e := by
  have hle : es.length * e ≤ cap * e := Nat.mul_le_mul_right _ hnc
  rw [gm, show cur.toList.length = cap * e from by rw [← hcs]; simp]; omega
 have hcur : aJ (es.flatten ++ (cur.toList.drop (es.length * e)).map PV.val) (fun x o => Fz x o ∧ x ≠ g) w cur.toList F' := by
  have k := (cc.flat hl2).append (rF (Fz := fun x o => Fz x o ∧ x ≠ g) (w := w) (vs := cur.toList.drop (es.length * e)) fun v hv => hone v (List.mem_of_mem_drop hv))
  rw [← htake, fc, eg] at k
  exact k
 have c3 := c2.pushB (d := D) (g := g) (t := E) (cs := es.flatten ++ (cur.toList.drop (es.length * e)).map PV.val) (F := F') (X := X) hD hg hcur (fun o k => k.2 rfl)
  (fun x hx => by
   simp only [if_true]
   rcases List.mem_append.1 hx with hx | hx
   ·simp [hx]
   ·rcases List.mem_cons.1 hx with rfl | hx
    ·simp
    ·simp [hx])
  (by
   simp only [List.cons_append, gk, dM] at hn
   rw [cm] at hn ⊢
   obtain ⟨k1, k2, k3, k4⟩ := hn
   refine ⟨k2, List.nodup_cons.2 ⟨fun hh => k1 (.inr hh), k3⟩, fun x hx y hy e => ?_⟩
   rcases List.mem_cons.1 hy with rfl | hy
   ·exact k1 (.inl (e ▸ hx))
   ·exact k4 x hx y hy e)
  (.inr hm)
 have c4 := (c3.pull G).reslot (s := G) (rv := RV.gat u D es.length cap) ⟨⟨by rw [hval]; simp, hnc, hcm⟩, by simp [mv]⟩
 refine ⟨cap, _, by unfold maxLen at hcm; omega, hnc, hjl, bn.eqv ⟨_, _, _, c4⟩ (fun i => by
  simp only [St.set_s, St.setB_s]
  split <;> rfl) (fun d => rfl)⟩
end
variable {Q : Exit → St → Prop} {c : Code}
def rI (L : Nat → Prop) : List (Nat × (Nat × List PV)) → Prop
 | [] => True
 | p :: l => ai L p.2.2 ∧ rI L l
def rI.mem {L : Nat → Prop} : ∀ {l : List (Nat × (Nat × List PV))}, rI L l → ∀ p, p ∈ l → ai L p.2.2
 | [], _, p, hp => by simp at hp
 | q :: l, h, p, hp => by
  rcases List.mem_cons.1 hp with rfl | hp
  ·exact h.1
  ·exact rI.mem h.2 p hp
def tE (L : Nat → Prop) : List (Nat × RV) → Prop
 | [] => True
 | p :: l => p.2.Lcl L ∧ tE L l
def tE.mem {L : Nat → Prop} : ∀ {l : List (Nat × RV)}, tE L l → ∀ p, p ∈ l → p.2.Lcl L
 | [], _, p, hp => by simp at hp
 | q :: l, h, p, hp => by
  rcases List.mem_cons.1 hp with rfl | hp
  ·exact h.1
  ·exact tE.mem h.2 p hp
def ju {l : List (Nat × RV)} {b : List (Nat × (Nat × List PV))} (d t D G E e : Nat) (L : Nat → Prop) (A B : List PV) {es : List (List PV)} (hd : lk b d = some (t, A ++ ([PV.sl (.own E e) es] ++ B))) (hne : es ≠ []) (hD : lk b D = none) (hG : lk l G = none) (hdD : Nat.beq D d = false) (hfr : (l.all fun p => !p.2.men D) = true)
  (hL : ∀ x, L x → h0 x) (hls : tE L l) (hlb : nJ L d b) (hA : ai L A) (hB : ai L B) (hes : ∀ cs, cs ∈ es → ai L cs)
  (h : ∀ (u : Value) (cp : Nat) (jk : List Value), es.length ≤ 9223372036854775807 → es.length ≤ cp → es.length * e + jk.length = cp * e → SW P n h0 w0 Fz0 c ((((St.of l b).setB d (some (t, A ++ ([PV.val u] ++ B)))).setB D (some (E, es.flatten ++ jk.map PV.val))).set G (some (RV.gat u D es.length cp))) Q) : SW P n h0 w0 Fz0 c (St.of l b) Q := fun a w hc => by
 obtain ⟨φ, Fz, Fp, hc⟩ := hc
 have hd' : (St.of l b).b d = some (t, A ++ ([PV.sl (.own E e) es] ++ B)) := hd
 obtain ⟨cur, hg, ho⟩ := hc.box d _ hd'
 obtain ⟨k1, k2, k3⟩ := hc.bxb d _ hd'
 obtain ⟨vA, vM, vB, FA, FM, FB, e1, e2, kA, kM, kB⟩ := tw ho
 obtain ⟨u, vs', F1, F2, rfl, rfl, hu, hu2, hu3⟩ := kM
 subst hu2 hu3
 have hu : db E e es Fz w u F1 := hu
 have c1 := hc.pullB hd'
 generalize hFp1 : (fun x => if x = 0 then φ d :: mv Fp (2 * d + 2) 0 else mv Fp (2 * d + 2) x) = Fp1 at c1
 have e0 : Fp1 0 = φ d :: ((FA ++ ((F1 ++ []) ++ FB)) ++ Fp 0) := by rw [← hFp1]; simp only [if_true]; congr 1; simp only [mv, if_true]; rw [e2]
 have hnd := c1.nod 0
 have hone : u.oneCell' = true := (PV.sl (.own E e) es).one (Fz := Fz) (w := w) ⟨hu.rel, True.intro⟩
 have c2 := c1.pushB (d := d) (g := φ d) (t := t) (cs := A ++ ([PV.val u] ++ B)) (cur := cur) (F := FA ++ ([] ++ FB)) (X := F1 ++ Fp 0) (by simp [St.setB_b]) hg
  (by rw [e1]; exact kA.append (aJ.append (ps := [PV.val u]) ⟨u, [], [], [], rfl, rfl, ⟨⟨rfl, hone⟩, rfl⟩, rfl, rfl⟩ kB)) k2
  (fun x hx => by
   rw [e0]
   simp only [dM, jQ, eg, List.nil_append] at hx ⊢
   rcases hx with (hx | hx) | hx | hx | hx <;> simp [hx])
  (by
   rw [e0] at hnd
   refine (List.Perm.nodup_iff ?_).2 hnd
   simp only [eg, List.nil_append, bw]
   rw [← bw]
   refine List.perm_middle.trans (List.Perm.cons _ ?_)
   simp only [bw]
   refine gl FA ?_
   rw [← bw, ← bw]
   exact iy _ jj) (.inl rfl)
 have hst : ∀ i rv, (((St.of l b).setB d none).setB d (some (t, A ++ ([PV.val u] ++ B)))).s i = some rv → (i, rv) ∈ l := fun i rv hi => go hi
 obtain ⟨cp, jk, q1, q2, q3, c5⟩ := c2.thawF (D := D) (G := G) (L := L) (F := F1) (X := Fp 0) (es := es) (u := u) (E := E) (e := e) hu hne
  (fun x hx => by simp only [cD, if_true]; rw [if_neg (by omega)]; exact hx)
  (by
   have := c2.nod 0
   simp only [cD, if_true] at this
   rw [if_neg (by omega)] at this
   exact this)
  (by
   rw [St.setB_b, if_neg (fun e => by rw [e] at hdD; simp at hdD), St.setB_b, if_neg (fun e => by rw [e] at hdD; simp at hdD)]
   exact hD)
  hG (fun i rv hi => by
   have := List.all_eq_true.1 hfr _ (hst i rv hi)
   simpa using this) hL (fun i rv hi => hls.mem _ (hst i rv hi))
  (fun d' bx hb' => by
   rw [St.setB_b] at hb'
   split at hb'
   ·injection hb' with hb'; subst hb'
    exact ai.app hA (ai.app (ai.cons PV.lcl_val ai.nil) hB)
   ·rename_i hne'
    rw [St.setB_b, if_neg hne'] at hb'
    rcases hlb.mem _ (go hb') with e | k
    ·exact absurd e hne'
    ·exact k) hes
 refine h u cp jk q1 q2 q3 a w (bn.eqv c5 (fun i => rfl) (fun x => by
  simp only [St.set_b, St.setB_b]
  split
  ·rfl
  ·split
   ·rfl
   ·rfl))
def nS {σ : St} {d t D G E e m cp : Nat} {A B : List PV} {u : Value} {es : List (List PV)} {jk : List Value} (hd : σ.b d = some (t, A ++ ([PV.val u] ++ B))) (hG : σ.s G = some (RV.gat u D m cp)) (hb : σ.b D = some (E, es.flatten ++ jk.map PV.val)) (hdD : Nat.beq D d = false) (hl : es.length = m) (he : ∀ c, c ∈ es → c.length = e) (hj : m * e + jk.length = cp * e)
  (h : SW P n h0 w0 Fz0 c (((σ.setB D none).set G none).setB d (some (t, A ++ ([PV.sl (.own E e) es] ++ B)))) Q) : SW P n h0 w0 Fz0 c σ Q := fun a w hc => by
 obtain ⟨φ, Fz, Fp, hc⟩ := hc
 obtain ⟨⟨ev, hmc, hmx⟩, _⟩ := hc.slot G _ hG
 have hne' : ¬ d = D := fun e => by rw [e] at hdD; simp at hdD
 obtain ⟨Fz', Fp', c3, hsl, hX, hnd, hs0⟩ := hc.freeze (s := G) hb hmc hmx hl he hj
 have hd3 : ((σ.setB D none).set G none).b d = some (t, A ++ ([PV.val u] ++ B)) := by rw [St.set_b, St.setB_b, if_neg hne']; exact hd
 obtain ⟨cur, hg, ho⟩ := c3.box d _ hd3
 obtain ⟨k1, k2, k3⟩ := c3.bxb d _ hd3
 obtain ⟨vA, vM, vB, FA, FM, FB, e1, e2, kA, kM, kB⟩ := tw ho
 obtain ⟨u', vs', F1, F2, rfl, rfl, hu, hu2, hu3⟩ := kM
 subst hu2 hu3
 obtain ⟨⟨rfl, hone⟩, rfl⟩ := hu
 have c4 := c3.pullB hd3
 generalize hFp1 : (fun x => if x = 0 then φ d :: mv Fp' (2 * d + 2) 0 else mv Fp' (2 * d + 2) x) = Fp1 at c4
 have e0 : Fp1 0 = φ d :: ((FA ++ (([] ++ []) ++ FB)) ++ Fp' 0) := by rw [← hFp1]; simp only [if_true]; congr 1; simp only [mv, if_true]; rw [e2]
 have hnd0 := c4.nod 0
 rw [e0] at hnd0
 simp only [List.nil_append] at hnd0 e0
 have hdis : ∀ x, x ∈ φ D :: Fp (2 * D + 2) → x ≠ φ d ∧ x ∉ FA ++ FB := fun x hx => by
  have hx' := hX x hx
  rw [gk, cm] at hnd0
  exact ⟨fun e => hnd0.1 (by rw [← e]; simp [hx']), fun hh => hnd0.2.2.2 x hh x hx' rfl⟩
 have c5 := c4.pushB (d := d) (g := φ d) (t := t) (cs := A ++ ([PV.sl (.own E e) es] ++ B)) (cur := cur) (F := FA ++ ((φ D :: Fp (2 * D + 2)) ++ FB)) (X := []) (by simp [St.setB_b]) hg
  (by rw [e1]; exact kA.append (aJ.append (ps := [PV.sl (.own E e) es]) ⟨u', [], φ D :: Fp (2 * D + 2), [], rfl, by simp, by rw [ev]; exact hsl, rfl, rfl⟩ kB)) k2
  (fun x hx => by
   rw [e0]
   simp only [dM, jQ, List.not_mem_nil, or_false] at hx ⊢
   rcases hx with (hx | (hx | hx) | hx) | hx
   ·simp [hx]
   ·exact .inr (.inr (hX x (by simp [hx])))
   ·exact .inr (.inr (hX x (by simp [hx])))
   ·simp [hx]
   ·simp [hx])
  (by
   have hn1 : (FA ++ FB).Nodup := by
    rw [gk, cm] at hnd0
    exact hnd0.2.1
   have hn2 : φ d ∉ FA ++ FB := fun hh => by
    rw [gk] at hnd0
    exact hnd0.1 (List.mem_append.2 (.inl hh))
   have hp : (FA ++ ((φ D :: Fp (2 * D + 2)) ++ FB) ++ [φ d]).Perm ((φ D :: Fp (2 * D + 2)) ++ (φ d :: (FA ++ FB))) := by
    have p1 : (FA ++ ((φ D :: Fp (2 * D + 2)) ++ FB)).Perm ((φ D :: Fp (2 * D + 2)) ++ (FA ++ FB)) := by
     rw [← bw, ← bw]
     exact iy _ jj
    refine (List.perm_append_singleton _ _).trans ?_
    refine (List.Perm.cons _ p1).trans ?_
    exact List.perm_middle.symm
   refine (List.Perm.nodup_iff hp).2 ?_
   rw [cm]
   refine ⟨hnd, List.nodup_cons.2 ⟨hn2, hn1⟩, fun x hx y hy e => ?_⟩
   subst e
   rcases List.mem_cons.1 hy with hy | hy
   ·exact (hdis x hx).1 hy
   ·exact (hdis x hx).2 hy) (.inl rfl)
 refine h a w (bn.eqv ⟨_, _, _, c5⟩ (fun i => rfl) (fun x => by
  simp only [St.set_b, St.setB_b]
  split <;> rfl))
def EZ {l : List (Nat × RV)} {b : List (Nat × (Nat × List PV))} (s D G E e : Nat) (L : Nat → Prop) {es : List (List PV)} (hs : lk l s = some (RV.sv false [PV.sl (.own E e) es])) (hne : es ≠ []) (hD : lk b D = none) (hG : lk l G = none) (hsG : Nat.beq G s = false) (hfr : (l.all fun p => !p.2.men D) = true)
  (hL : ∀ x, L x → h0 x) (hls : qd L s l) (hlb : rI L b) (hes : ∀ cs, cs ∈ es → ai L cs)
  (h : ∀ (u : Value) (cp : Nat) (jk : List Value), es.length ≤ 9223372036854775807 → es.length ≤ cp → es.length * e + jk.length = cp * e → SW P n h0 w0 Fz0 c ((((St.of l b).set s (some (RV.sc u))).setB D (some (E, es.flatten ++ jk.map PV.val))).set G (some (RV.gat u D es.length cp))) Q) : SW P n h0 w0 Fz0 c (St.of l b) Q := fun a w hc => by
 obtain ⟨φ, Fz, Fp, hc⟩ := hc
 have hv : db E e es Fz w (a.tmps.getD s undef) (Fp (2 * s + 1)) := (bQ.atom (hc.slot s _ hs))
 have hone : (a.tmps.getD s undef).oneCell' = true := (PV.sl (.own E e) es).one (Fz := Fz) (w := w) ⟨hv.rel, True.intro⟩
 have e0 : mv Fp (2 * s + 1) 0 = Fp (2 * s + 1) ++ Fp 0 := by simp [mv]
 have hGs : ¬ G = s := fun e => by rw [e] at hsG; simp at hsG
 have c1 := (hc.pull s).reslot (s := s) (rv := RV.sc (a.tmps.getD s undef)) (by
  have : mv Fp (2 * s + 1) (2 * s + 1) = [] := by simp [mv]
  rw [this]
  exact bQ.of_sc hone)
 have hst : ∀ i rv, i ≠ s → (((St.of l b).set s none).set s (some (RV.sc (a.tmps.getD s undef)))).s i = some rv → (i, rv) ∈ l := fun i rv hi k => by
  rw [St.set_s, if_neg hi, St.set_s, if_neg hi] at k
  exact go k
 have hss : ∀ rv, (((St.of l b).set s none).set s (some (RV.sc (a.tmps.getD s undef)))).s s = some rv → rv = RV.sc (a.tmps.getD s undef) := fun rv k => by
  rw [St.set_s, if_pos rfl] at k
  exact (Option.some.inj k).symm
 obtain ⟨cp, jk, q1, q2, q3, c5⟩ := c1.thawF (D := D) (G := G) (L := L) (F := Fp (2 * s + 1)) (X := Fp 0) (es := es) (u := a.tmps.getD s undef) (E := E) (e := e) hv hne
  (fun x hx => by rw [e0]; exact hx) (by have := (hc.pull s).nod 0; rw [e0] at this; exact this) hD
  (by rw [St.set_s, if_neg hGs, St.set_s, if_neg hGs]; exact hG)
  (fun i rv hi => by
   by_cases k : i = s
   ·subst k; rw [hss rv hi]; rfl
   ·have := List.all_eq_true.1 hfr _ (hst i rv k hi)
    simpa using this) hL
  (fun i rv hi => by
   by_cases k : i = s
   ·subst k; rw [hss rv hi]; exact RV.lcl_sv (ai.cons PV.lcl_val ai.nil)
   ·rcases hls.mem _ (hst i rv k hi) with q | q
    ·exact absurd q k
    ·exact q)
  (fun d bx hb => rI.mem hlb _ (go hb)) hes
 refine h _ cp jk q1 q2 q3 a w (bn.eqv c5 (fun i => by
  simp only [St.set_s, St.setB_s]
  split
  ·rfl
  ·split
   ·rfl
   ·rfl) (fun x => rfl))
def Fc {σ : St} {s D G E e m cp : Nat} {u : Value} {es : List (List PV)} {jk : List Value} (hs : σ.s s = some (RV.sc u)) (hG : σ.s G = some (RV.gat u D m cp)) (hb : σ.b D = some (E, es.flatten ++ jk.map PV.val)) (hsG : Nat.beq G s = false) (hsn : s < n) (hl : es.length = m) (he : ∀ c, c ∈ es → c.length = e) (hj : m * e + jk.length = cp * e)
  (h : SW P n h0 w0 Fz0 c (((σ.setB D none).set G none).set s (some (RV.sv false [PV.sl (.own E e) es]))) Q) : SW P n h0 w0 Fz0 c σ Q := fun a w hc => by
 obtain ⟨φ, Fz, Fp, hc⟩ := hc
 obtain ⟨⟨ev, hmc, hmx⟩, _⟩ := hc.slot G _ hG
 have hu := (hc.one_ hs).1
 obtain ⟨Fz', Fp', c3, hsl, hX, hnd, hs0⟩ := hc.freeze (s := G) hb hmc hmx hl he hj
 have hself : a.put (some s) (a.tmps.getD s undef) = a := zh
 have c3' := c3.pull s
 have c4 := c3'.push (i := s) (rv := RV.sv false [PV.sl (.own E e) es]) (v := a.tmps.getD s undef) (F := φ D :: Fp (2 * D + 2)) (X := []) hsn
  (bQ.of_atom (p := PV.sl (.own E e) es) (by rw [hu, ev]; exact hsl)) (fun x hx => by
   have := hX x (by simpa using hx)
   simp only [mv, if_true]
   simp [this]) (by simpa using hnd)
 rw [hself] at c4
 exact h a w (bn.eqv ⟨_, _, _, c4⟩ (fun i => by simp only [St.set_s]; split <;> rfl) (fun d => rfl))
def iB {α : Type} {xs : List α} {f : α → List PV} {J : List PV} {k : Nat} (hk : k < xs.length) : (xs.map f).flatten ++ J = ((xs.take k).map f).flatten ++ (f xs[k] ++ (((xs.drop (k + 1)).map f).flatten ++ J)) := by
 conv => lhs; rw [← fc k xs, List.drop_eq_getElem_cons hk]
 simp only [bT, List.map_cons, List.flatten_append, List.flatten_cons, bw]
def mI {α : Type} {xs : List α} {f : α → List PV} {J cs : List PV} {k : Nat} (y : α) (hk : k < xs.length) (hy : cs = f y) : ((xs.take k).map f).flatten ++ (cs ++ (((xs.drop (k + 1)).map f).flatten ++ J)) = ((xs.set k y).map f).flatten ++ J := by
 subst hy
 rw [List.set_eq_take_append_cons_drop, if_pos hk]
 simp only [bT, List.map_cons, List.flatten_append, List.flatten_cons, bw]
def iC {α β : Type} {xs : List α} {f : α → β} {k : Nat} (hk : k < xs.length) : xs.map f ≠ [] := fun e => by
 have := congrArg List.length e
 rw [aq, List.length_nil] at this; omega
def iQ {α : Type} {xs : List α} {f : α → List PV} {k e : Nat} (hf : ∀ x, (f x).length = e) (hk : k ≤ xs.length) : ((xs.take k).map f).flatten.length = k * e := by
 rw [pe (e := e) (fun cs hcs => by obtain ⟨x, _, rfl⟩ := List.mem_map.1 hcs; exact hf x), aq, br, Nat.min_eq_left hk]
section
variable {ops : Array Oper}
def io {T E e bs d s G D m cp k : Nat} {i : Operand} {ty : TypeId} {pos : String} {af : Array Edge} {g : Option (Nat × Bool)} {u : Value} {q : Int} (hd : d < n) (hT : cZ P T = some (E, e, bs)) (hi : cg i (RV.int q)) (hq : q = (k : Int)) (hk : k < m) :
  Loc P n ⟨some d, .indexAddr T (.tmp s) i, ty, pos, af, g⟩ ⟨(s, RV.sc u) :: (G, RV.gat u D m cp) :: bH i (RV.int q), [], [(d, some (RV.ptr D (k * e)))], [], none⟩ := by
 intro h0 w0 Fz0 σ a w K Q hc hr _ _ h5
 obtain ⟨φ, Fz, Fp, hc⟩ := hc
 subst hq
 have ei := hc.sc hr.2.2 hi
 obtain ⟨⟨eu, _⟩, _⟩ := hc.slot G _ hr.2.1
 have ev := (hc.one_ hr.1).1
 obtain ⟨hu, inf, hinf, hsz, _⟩ := kR hT
 refine dE (v := .pointer (some ⟨φ D, k * e, none⟩)) (w' := w) ?_ (h5 _ _ (hc.put0 hd ⟨rfl, rfl⟩))
 unfold execOp
 have es' : a.eval (.tmp s) = .slice (some ⟨φ D, 0, none⟩) m cp := by rw [← eu]; exact ev
 have hlt' : (0 : Int) ≤ (k : Int) ∧ (k : Int) < (m : Int) := by omega
 simp only [es', ei, Instr.indexAt, asIntOf, Sem.run_bind, Sem.run_pure, Result.andThen_ok, run_underlying hu]
 simp [hlt', sizeOf, typeInfo, hinf, hsz, kS]
def Fe {T E e bs d s G D m cp : Nat} {ty : TypeId} {pos : String} {af : Array Edge} {g : Option (Nat × Bool)} {u : Value} (hd : d < n) (hT : cZ P T = some (E, e, bs)) :
  Loc P n ⟨some d, .call { callee := .builtin .len, args := #[.tmp s], argTypes := #[T] }, ty, pos, af, g⟩ ⟨[(s, RV.sc u), (G, RV.gat u D m cp)], [], [(d, some (RV.int (m : Int)))], [], none⟩ := by
 intro h0 w0 Fz0 σ a w K Q hc hr _ _ h5
 obtain ⟨φ, Fz, Fp, hc⟩ := hc
 obtain ⟨⟨eu, _⟩, _⟩ := hc.slot G _ hr.2.1
 have ev := (hc.one_ hr.1).1
 obtain ⟨hu, _⟩ := kR hT
 refine dE (v := .int .i64 (m : Int)) (w' := w) ?_ (h5 _ _ (hc.put0 hd (bQ.of_sc rfl)))
 have es' : a.eval (.tmp s) = .slice (some ⟨φ D, 0, none⟩) m cp := by rw [← eu]; exact ev
 unfold execOp
 simp [resolve, invoke, builtin, es', Builtin.len_, run_underlying hu, goInt]
def zu {T d p b off t o : Nat} {ty : TypeId} {pos : String} {af : Array Edge} {g : Option (Nat × Bool)} {ag : Bool} {k : Nat} {A m B ms qs : List PV} (hoff : off = A.length + o) (hd : d < n) (hT : bR P T = some (ag, k)) (h1 : ag = false → k = 1) (hk : o + k ≤ m.length)
  (hm : (m.drop o).take k = ms) (ht : am ms qs) (hb : an qs) :
  Loc P n ⟨some d, .load T (.tmp p), ty, pos, af, g⟩ ⟨[(p, RV.ptr b off)], [(b, (t, A ++ (m ++ B)))], [(d, some (RV.sv ag ms))], [(b, some (t, A ++ ((m.take o ++ (qs ++ m.drop (o + k))) ++ B)))], none⟩ := by
 have h : Loc P n ⟨some d, .load T (.tmp p), ty, pos, af, g⟩ ⟨[(p, RV.ptr b off)], [(b, (t, A ++ (m ++ B)))], [(d, some (RV.sv ag ms))], [(b, some (t, (A ++ (m ++ B)).take off ++ (qs ++ (A ++ (m ++ B)).drop (off + k))))], none⟩ :=
  cz hd hT h1 (by rw [hoff]; simp only [aV]; omega) (by
   rw [hoff, vC (by omega), List.take_append_of_le_length (by rw [gm]; omega)]; exact hm) ht hb
 have e : (A ++ (m ++ B)).take off ++ (qs ++ (A ++ (m ++ B)).drop (off + k)) = A ++ ((m.take o ++ (qs ++ m.drop (o + k))) ++ B) := by
  rw [hoff, EH (by omega), show A.length + o + k = A.length + (o + k) by omega, vC hk]
  simp only [bw]
 rw [e] at h
 exact @h
end
end
end
section
section
variable {P : Program} {n : Nat} {h0 : Nat → Prop} {w0 : World} {Fz0 : av}
structure vO (F : List Nat) (g : Option Nat) (Fz : av) (w : World) (Fz' : av) (w' : World) : Prop where
 os : w'.os = w.os
 tape : w'.tape = w.tape
 output : w'.output = w.output
 size : w.heap.size ≤ w'.heap.size
 same : ∀ b, b < w.heap.size → some b ≠ g → b ∉ F → w'.heap[b]? = w.heap[b]? ∧ ∀ o, Fz' b o ↔ Fz b o
 fzl : ∀ b o, Fz' b o → b < w'.heap.size
def zv (P : Program) (f : FuncId) (args : List (Bool × List PV)) (r : RV) : Prop :=
 ∀ (w : World) (vs : List Value) (Fz : av) (F : List Nat), (∀ b o, Fz b o → b < w.heap.size) → eD args Fz w vs F → F.Nodup →
  Calls P f vs.toArray w fun e w' => ∃ (v : Value) (Fz' : av) (G : List Nat), e = .returned v ∧ vO F none Fz w Fz' w' ∧ (∀ φ, r.holds φ Fz' w' v G) ∧ G.Nodup ∧ ∀ b, b ∈ G → b ∈ F ∨ (w.heap.size ≤ b ∧ b < w'.heap.size)
def tF (P : Program) (f : FuncId) (t : Nat) (cs cs' : List PV) (args : List (Bool × List PV)) (r : RV) : Prop :=
 ∀ (w : World) (g : Nat) (cur : Array Value) (vs : List Value) (Fz : av) (F1 F2 : List Nat), (∀ b o, Fz b o → b < w.heap.size) → w.heap[g]? = some (.cells cur t (0, 0)) → (∀ o, ¬ Fz g o) → aJ cs Fz w cur.toList F1 → eD args Fz w vs F2 → (g :: (F1 ++ F2)).Nodup →
  Calls P f (.pointer (some ⟨g, 0, none⟩) :: vs).toArray w fun e w' => ∃ (v : Value) (Fz' : av) (cur' : Array Value) (F1' G : List Nat), e = .returned v ∧ vO (F1 ++ F2) (some g) Fz w Fz' w' ∧ w'.heap[g]? = some (.cells cur' t (0, 0)) ∧ (∀ o, ¬ Fz' g o) ∧ aJ cs' Fz' w' cur'.toList F1' ∧
   (∀ φ, r.holds φ Fz' w' v G) ∧ (g :: (F1' ++ G)).Nodup ∧ ∀ b, b ∈ F1' ++ G → b ∈ F1 ++ F2 ∨ (w.heap.size ≤ b ∧ b < w'.heap.size)
def eD.parts {Fz : av} {w : World} : ∀ {l : List (Bool × List PV)} {vs : List Value} {F : List Nat}, eD l Fz w vs F → ∃ ps : List (List Nat), ps.length = l.length ∧ F = ps.flatten ∧ ∀ (j : Nat) (q : Bool × List PV), l[j]? = some q → ∃ v, vs[j]? = some v ∧ bQ q.1 q.2 Fz w v (ps.getD j [])
 | [], vs, F, h => ⟨[], rfl, h.2, fun j q hq => by simp at hq⟩
 | p :: l, vs, F, h => by
  obtain ⟨v, vs', F1, F2, rfl, rfl, h1, h2⟩ := h
  obtain ⟨ps, e1, e2, e3⟩ := eD.parts h2
  refine ⟨F1 :: ps, by simp [e1], by rw [e2]; rfl, fun j q hq => ?_⟩
  cases j with
  | zero => simp at hq; subst hq; exact ⟨v, rfl, h1⟩
  | succ j => simpa using e3 j q (by simpa using hq)
def hE (k : Nat) (ps : List (List Nat)) (x : Nat) : List Nat := if x % 2 = 1 ∧ k ≤ (x - 1) / 2 then ps.getD ((x - 1) / 2 - k) [] else []
def Ff (k : Nat) (ps : List (List Nat)) (j : Nat) : hE k ps (2 * (k + j) + 1) = ps.getD j [] := by
 unfold hE
 rw [if_pos ⟨by omega, by omega⟩]
 congr 1; omega
def zw {ps : List (List Nat)} {j b : Nat} (h : b ∈ ps.getD j []) : b ∈ ps.flatten := by
 rw [List.getD_eq_getElem?_getD] at h
 cases hp : ps[j]? with
 | none => rw [hp] at h; simp at h
 | some p => rw [hp] at h; exact List.mem_flatten.2 ⟨p, List.mem_of_getElem? hp, h⟩
def tG {k : Nat} {ps : List (List Nat)} {x b : Nat} (h : b ∈ hE k ps x) : b ∈ ps.flatten := by
 unfold hE at h
 split at h
 ·exact zw h
 ·simp at h
def zx : ∀ {ps : List (List Nat)}, ps.flatten.Nodup → (∀ j, (ps.getD j []).Nodup) ∧ ∀ i j, i ≠ j → ∀ b, b ∈ ps.getD i [] → b ∉ ps.getD j []
 | [], _ => ⟨fun j => by simp, fun i j _ b hb => by simp at hb⟩
 | p :: ps, h => by
  rw [List.flatten_cons, cm] at h
  obtain ⟨h1, h2, h3⟩ := h
  obtain ⟨k1, k2⟩ := zx h2
  refine ⟨fun j => ?_, fun i j hij b hb hb' => ?_⟩
  ·cases j with
   | zero => exact h1
   | succ j => exact k1 j
  ·cases i with
   | zero =>
    cases j with
    | zero => exact hij rfl
    | succ j => exact h3 b hb b (zw hb') rfl
   | succ i =>
    cases j with
    | zero => exact h3 b hb' b (zw hb) rfl
    | succ j => exact k2 i j (by omega) b hb hb'
def Fg {k : Nat} {ps : List (List Nat)} (h : ps.flatten.Nodup) (x : Nat) : (hE k ps x).Nodup := by
 unfold hE
 split
 ·exact (zx h).1 _
 ·exact List.nodup_nil
def Fh {k : Nat} {ps : List (List Nat)} (h : ps.flatten.Nodup) {x y : Nat} (hxy : x ≠ y) {b : Nat} (hb : b ∈ hE k ps x) : b ∉ hE k ps y := by
 unfold hE at hb ⊢
 split at hb
 ·split
  ·exact (zx h).2 _ _ (by omega) b hb
  ·simp
 ·simp at hb
def zy : ∀ {qs : List (Bool × List PV)} {k i : Nat} {rv : RV}, lk (gN k qs) i = some rv → ∃ j q, i = k + j ∧ qs[j]? = some q ∧ rv = RV.sv q.1 q.2
 | [], k, i, rv, h => by cases h
 | q :: qs, k, i, rv, h => by
  have h : (bif Nat.beq i k then some (RV.sv q.1 q.2) else lk (gN (k + 1) qs) i) = some rv := h
  rw [beq_eq] at h
  by_cases hi : i = k
  ·simp [hi] at h; subst h; subst hi
   exact ⟨0, q, rfl, rfl, rfl⟩
  ·simp [hi] at h
   obtain ⟨j, q', e1, e2, e3⟩ := zy h
   exact ⟨j + 1, q', by omega, by simpa using e2, e3⟩
def Fj {Fz : av} {w : World} {rs : List (Bool × List PV)} {vs : List Value} {F : List Nat} (h : eD rs Fz w vs F) (φ : Nat → Nat) : (aA rs).holds φ Fz w (if h : vs.toArray.size = 1 then vs.toArray[0] else .tuple vs.toArray) F := by
 have hl := h.len
 by_cases h1 : vs.toArray.size = 1
 ·rw [dif_pos h1]
  have hl1 : rs.length = 1 := by rw [← hl]; simpa using h1
  obtain ⟨q, rfl⟩ := List.length_eq_one_iff.1 hl1
  obtain ⟨v, vs2, F1, F2, rfl, rfl, k1, k2, rfl⟩ := h
  rw [eg]
  exact k1
 ·rw [dif_neg h1]
  have hne : rs.length ≠ 1 := fun e => h1 (by simp [hl, e])
  have : aA rs = RV.tup rs := by
   match rs, hne with
   | [], _ => rfl
   | [_], hne => exact absurd rfl hne
   | _ :: _ :: _, _ => rfl
  rw [this]
  exact ⟨vs.toArray, rfl, h⟩
def Fk {fn : Func} {t : Array Value} {w : World} {vs : List Value} (e1 : Sem.run P (fn.results.toList.mapM (pc t)) w = .ok vs w) : (results fn t).run P w = .ok (if h : vs.toArray.size = 1 then vs.toArray[0] else .tuple vs.toArray) w := by
 have erun : Sem.run P (fn.results.mapM (pc t)) w = .ok vs.toArray w := by
  rw [Array.mapM_eq_mapM_toList]
  simp only [map_eq_pure_bind, Sem.run_bind, e1, Result.andThen_ok, Sem.run_pure]
 rw [ze]
 simp only [Sem.run_bind, erun, Result.andThen_ok, Sem.run_pure]
def RI {f : FuncId} {fn : Func} {c : Code} {args rs : List (Bool × List PV)} (hf : P.funcs[f]? = some fn) (hb : fn.body = some c) (hn : args.length ≤ fn.ntmps)
  (h : ∀ (h0 : Nat → Prop) (w0 : World) (Fz0 : av), SW P fn.ntmps h0 w0 Fz0 c (St.of (gN 0 args) []) (tv P fn.results.toList rs)) : zv P f args (aA rs) := by
 intro w vs Fz F hz hown hnd
 have hvl := hown.len
 have hFlt : ∀ b, b ∈ F → b < w.heap.size := fun b hb => hown.lt b hb
 obtain ⟨ps, e1, e2, e3⟩ := hown.parts
 refine calls_of_wp hf hb ?_
 have hc : bn (fun b => b < w.heap.size ∧ b ∉ F) w Fz fn.ntmps (St.of (gN 0 args) []) { tmps := vs.toArray ++ Array.replicate (fn.ntmps - vs.toArray.size) undef, defers := [] } w := by
  refine ⟨fun _ => 0, Fz, hE 0 ps, ⟨lH.refl _ _, rfl, by simp; omega, fun _ hb => hb.1, fun _ _ _ => Iff.rfl, hz, fun i rv hi => ?_, fun d cs hd => (by cases hd), fun d cs hd => (by cases hd), fun d d' cs cs' hd => (by cases hd), fun x y hxy b hx => Fh (by rw [← e2]; exact hnd) hxy hx, fun x => Fg (by rw [← e2]; exact hnd) x, fun x b hb => ?_⟩⟩
  ·obtain ⟨j, q, k1, k2, rfl⟩ := zy hi
   rw [Nat.zero_add] at k1
   subst k1
   obtain ⟨v, k3, k4⟩ := e3 i q k2
   have : (vs.toArray ++ Array.replicate (fn.ntmps - vs.toArray.size) undef).getD i undef = v := by
    rw [Array.getD_eq_getD_getElem?, Array.getElem?_append_left (by have := (List.getElem?_eq_some_iff.1 k3).1; simpa using this)]
    simp [k3]
   rw [this]
   have e := Ff 0 ps i
   rw [Nat.zero_add] at e
   rw [e]; exact k4
  ·have := tG hb
   rw [← e2] at this
   exact ⟨fun k => k.2 this, hFlt b this⟩
 refine wp_mono (h _ w Fz _ w hc) fun e a' w' ⟨τ, hq, hc'⟩ => ?_
 obtain ⟨φ, Fz', Fp, hc'⟩ := hc'
 have hres : pb P fn.results.toList rs τ → a'.defers = [] ∧ ∃ v, (results fn a'.tmps).run P w' = .ok v w' ∧ ∃ (v' : Value) (Fz' : av) (G : List Nat), Ending.returned v = .returned v' ∧ vO F none Fz w Fz' w' ∧ (∀ φ, (aA rs).holds φ Fz' w' v' G) ∧ G.Nodup ∧ ∀ b, b ∈ G → b ∈ F ∨ (w.heap.size ≤ b ∧ b < w'.heap.size) := by
  intro hr
  obtain ⟨vs', G, r1, r2, r3, r4⟩ := tu _ rs hc' hr
  refine ⟨hc'.dfr, _, Fk r1, _, Fz', G, rfl, ⟨hc'.bel.os, hc'.bel.tape, hc'.bel.output, hc'.bel.size, fun b k1 _ k2 => ⟨hc'.bel.block b ⟨k1, k2⟩, fun o => hc'.fz0 b o ⟨k1, k2⟩⟩, hc'.fzl⟩, Fj r2, r3, fun b hb => ?_⟩
  obtain ⟨r, _, hr⟩ := r4 b hb
  have := hc'.low r b hr
  by_cases hbF : b ∈ F
  ·exact .inl hbF
  ·exact .inr ⟨Nat.le_of_not_lt fun hlt => this.1 ⟨hlt, hbF⟩, this.2⟩
 cases e with
 | normal => exact hres hq
 | ret => exact hres hq
 | _ => exact hq.elim
def RV.phi (D g : Nat) : RV where
 holds φ _ _ _ F := φ D = g ∧ F = []
 men x := Nat.beq x D
 mono h _ _ hφ := ⟨by rw [hφ D (by simp)]; exact h.1, h.2⟩
 lt h := by rw [h.2]; simp
def RV.lcl_phi {L : Nat → Prop} {D g : Nat} : (RV.phi D g).Lcl L := fun h _ => h
def zz (P : Program) (rs : List ResultVar) (g t : Nat) (cs' : List PV) (qs : List (Bool × List PV)) (τ : St) : Prop := τ.b 0 = some (t, cs') ∧ τ.s 5000 = some (RV.phi 0 g) ∧ pb P rs qs (τ.setB 0 none)
def RJ (P : Program) (rs : List ResultVar) (g t : Nat) (cs' : List PV) (qs : List (Bool × List PV)) : Exit → St → Prop
 | .normal, τ => zz P rs g t cs' qs τ
 | .ret, τ => zz P rs g t cs' qs τ
 | _, _ => False
def zA {f : FuncId} {fn : Func} {c : Code} {t : Nat} {cs cs' : List PV} {args rs : List (Bool × List PV)} (hf : P.funcs[f]? = some fn) (hb : fn.body = some c) (hn : args.length + 1 ≤ fn.ntmps) (hn2 : args.length ≤ 4000)
  (h : ∀ (g : Nat) (h0 : Nat → Prop) (w0 : World) (Fz0 : av), SW P fn.ntmps h0 w0 Fz0 c (St.of ((0, RV.ptr 0 0) :: (5000, RV.phi 0 g) :: gN 1 args) [(0, (t, cs))]) (RJ P fn.results.toList g t cs' rs)) : tF P f t cs cs' args (aA rs) := by
 intro w g cur vs Fz F1 F2 hz hg hfg hcs hown hnd
 have hvl := hown.len
 have hglt : g < w.heap.size := (Array.getElem?_eq_some_iff.1 hg).1
 have hFlt : ∀ b, b ∈ F2 → b < w.heap.size := fun b hb => hown.lt b hb
 have hFlt1 : ∀ b, b ∈ F1 → b < w.heap.size := fun b hb => hcs.lt b hb
 obtain ⟨ps, e1, e2, e3⟩ := hown.parts
 rw [gk, cm] at hnd
 obtain ⟨n0, n1, n2, n12⟩ := hnd
 have n0' : g ∉ F1 ∧ g ∉ F2 := ⟨fun k => n0 (List.mem_append.2 (.inl k)), fun k => n0 (List.mem_append.2 (.inr k))⟩
 refine calls_of_wp hf hb ?_
 have hodd : ∀ x b, b ∈ hE 1 ps x → x ≠ 2 := fun x b hb e => by
  subst e
  unfold hE at hb
  rw [if_neg (by omega)] at hb
  simp at hb
 have hfp : ∀ x b, b ∈ (fun x => if x = 2 then F1 else hE 1 ps x) x → (x = 2 ∧ b ∈ F1) ∨ (x ≠ 2 ∧ b ∈ hE 1 ps x) := fun x b hb => by
  simp only at hb
  split at hb
  ·rename_i e; exact .inl ⟨e, hb⟩
  ·rename_i e; exact .inr ⟨e, hb⟩
 have hc : bn (fun b => b < w.heap.size ∧ b ≠ g ∧ b ∉ F1 ++ F2) w Fz fn.ntmps (St.of ((0, RV.ptr 0 0) :: (5000, RV.phi 0 g) :: gN 1 args) [(0, (t, cs))]) { tmps := (.pointer (some ⟨g, 0, none⟩) :: vs).toArray ++ Array.replicate (fn.ntmps - (Value.pointer (some ⟨g, 0, none⟩) :: vs).toArray.size) undef, defers := [] } w := by
  refine ⟨fun _ => g, Fz, fun x => if x = 2 then F1 else hE 1 ps x, ⟨lH.refl _ _, rfl, by simp; omega, fun _ hb => hb.1, fun _ _ _ => Iff.rfl, hz, fun i rv hi => ?_, fun d bx hd => ?_, fun d bx hd => ?_, fun d d' bx bx' hd hd' _ => ?_, fun x y hxy b hx hy => ?_, fun x => ?_, fun x b hb => ?_⟩⟩
  ·by_cases hi0 : i = 0
   ·subst hi0
    have hi' : RV.ptr 0 0 = rv := by injection hi
    subst hi'
    have : ((.pointer (some ⟨g, 0, none⟩) :: vs).toArray ++ Array.replicate (fn.ntmps - (Value.pointer (some ⟨g, 0, none⟩) :: vs).toArray.size) undef).getD 0 undef = .pointer (some ⟨g, 0, none⟩) := by
     rw [Array.getD_eq_getD_getElem?, Array.getElem?_append_left (by simp)]
     simp
    rw [this]
    refine ⟨rfl, ?_⟩
    simp only [hE]
    rw [if_neg (by omega), if_neg (by omega)]
   ·have hi2 : (if i = 5000 then some (RV.phi 0 g) else lk (gN 1 args) i) = some rv := by
     have : (bif Nat.beq i 0 then some (RV.ptr 0 0) else bif Nat.beq i 5000 then some (RV.phi 0 g) else lk (gN 1 args) i) = some rv := hi
     rw [beq_eq, beq_eq] at this
     by_cases h5 : i = 5000
     ·simpa [hi0, h5] using this
     ·simpa [hi0, h5] using this
    by_cases h5 : i = 5000
    ·subst h5
     rw [if_pos rfl] at hi2
     injection hi2 with hi2
     subst hi2
     refine ⟨rfl, ?_⟩
     show (if 2 * 5000 + 1 = 2 then F1 else hE 1 ps (2 * 5000 + 1)) = []
     rw [if_neg (by omega)]
     unfold hE
     rw [if_pos (by omega), List.getD_eq_getElem?_getD, List.getElem?_eq_none (by omega)]
     rfl
    rw [if_neg h5] at hi2
    have hi' := hi2
    obtain ⟨j, q, k1, k2, rfl⟩ := zy hi'
    subst k1
    obtain ⟨v, k3, k4⟩ := e3 j q k2
    have hjl := (List.getElem?_eq_some_iff.1 k3).1
    have : ((.pointer (some ⟨g, 0, none⟩) :: vs).toArray ++ Array.replicate (fn.ntmps - (Value.pointer (some ⟨g, 0, none⟩) :: vs).toArray.size) undef).getD (1 + j) undef = v := by
     rw [Array.getD_eq_getD_getElem?, Array.getElem?_append_left (by simp; omega)]
     rw [Nat.add_comm]
     simp [k3]
    rw [this]
    have k5 : bQ q.1 q.2 Fz w v (if 2 * (1 + j) + 1 = 2 then F1 else hE 1 ps (2 * (1 + j) + 1)) := by rw [if_neg (by omega), Ff]; exact k4
    exact k5
  ·have hd2 : (bif Nat.beq d 0 then some (t, cs) else none) = some bx := hd
   rw [beq_eq] at hd2
   by_cases h0' : d = 0
   ·simp [h0'] at hd2; subst hd2; subst h0'
    exact ⟨cur, hg, by simpa using hcs⟩
   ·simp [h0'] at hd2
  ·have hd2 : (bif Nat.beq d 0 then some (t, cs) else none) = some bx := hd
   refine ⟨fun k => k.2.1 rfl, hfg, fun r hr => ?_⟩
   rcases hfp r _ hr with ⟨_, k⟩ | ⟨_, k⟩
   ·exact n0'.1 k
   ·have := tG k
    rw [← e2] at this
    exact n0'.2 this
  ·have hd2 : (bif Nat.beq d 0 then some (t, cs) else none) = some bx := hd
   have hd3 : (bif Nat.beq d' 0 then some (t, cs) else none) = some bx' := hd'
   rw [beq_eq] at hd2 hd3
   by_cases k1 : d = 0
   ·by_cases k2 : d' = 0
    ·omega
    ·simp [k2] at hd3
   ·simp [k1] at hd2
  ·rcases hfp x _ hx with ⟨k1, k2⟩ | ⟨k1, k2⟩ <;> rcases hfp y _ hy with ⟨k3, k4⟩ | ⟨k3, k4⟩
   ·omega
   ·have := tG k4
    rw [← e2] at this
    exact n12 b k2 b this rfl
   ·have := tG k2
    rw [← e2] at this
    exact n12 b k4 b this rfl
   ·exact Fh (by rw [← e2]; exact n2) hxy k2 k4
  ·split
   ·exact n1
   ·exact Fg (by rw [← e2]; exact n2) x
  ·rcases hfp x _ hb with ⟨_, k⟩ | ⟨_, k⟩
   ·exact ⟨fun q => q.2.2 (List.mem_append.2 (.inl k)), hFlt1 b k⟩
   ·have := tG k
    rw [← e2] at this
    exact ⟨fun q => q.2.2 (List.mem_append.2 (.inr this)), hFlt b this⟩
 refine wp_mono (h g _ w Fz _ w hc) fun e a' w' ⟨τ, hq, hc'⟩ => ?_
 obtain ⟨φ, Fz', Fp, hc'⟩ := hc'
 have hres : zz P fn.results.toList g t cs' rs τ → a'.defers = [] ∧ ∃ v, (results fn a'.tmps).run P w' = .ok v w' ∧ ∃ (v' : Value) (Fz' : av) (cur' : Array Value) (F1' G : List Nat), Ending.returned v = .returned v' ∧ vO (F1 ++ F2) (some g) Fz w Fz' w' ∧ w'.heap[g]? = some (.cells cur' t (0, 0)) ∧ (∀ o, ¬ Fz' g o) ∧ aJ cs' Fz' w' cur'.toList F1' ∧
   (∀ φ, (aA rs).holds φ Fz' w' v' G) ∧ (g :: (F1' ++ G)).Nodup ∧ ∀ b, b ∈ F1' ++ G → b ∈ F1 ++ F2 ∨ (w.heap.size ≤ b ∧ b < w'.heap.size) := by
  rintro ⟨hb0, hG, hr⟩
  have hφ : φ 0 = g := (hc'.slot 5000 _ hG).1
  obtain ⟨cur', hg', ho'⟩ := hc'.box 0 _ hb0
  obtain ⟨m1, m2, m3⟩ := hc'.bxb 0 _ hb0
  rw [hφ] at hg' m1 m2 m3
  have c1 := hc'.pullB hb0
  obtain ⟨vs', G, r1, r2, r3, r4⟩ := tu _ rs c1 hr
  have hG2 : ∀ b, b ∈ G → ∃ r, r ≠ 2 ∧ b ∈ Fp r := fun b hb => by
   obtain ⟨r, k1, k2⟩ := r4 b hb
   have k2 : b ∈ (if r = 0 then φ 0 :: mv Fp (2 * 0 + 2) 0 else mv Fp (2 * 0 + 2) r) := k2
   rw [if_neg k1] at k2
   unfold mv at k2
   rw [if_neg k1] at k2
   split at k2
   ·simp at k2
   ·rename_i k3; exact ⟨r, by omega, k2⟩
  have hlow : ∀ x b, b ∈ Fp x → b ∈ F1 ++ F2 ∨ (w.heap.size ≤ b ∧ b < w'.heap.size) := fun x b hb => by
   have := hc'.low x b hb
   by_cases hbF : b ∈ F1 ++ F2
   ·exact .inl hbF
   ·exact .inr ⟨Nat.le_of_not_lt fun hlt => this.1 ⟨hlt, fun e => m3 x (e ▸ hb), hbF⟩, this.2⟩
  refine ⟨hc'.dfr, _, Fk r1, _, Fz', cur', Fp 2, G, rfl, ⟨hc'.bel.os, hc'.bel.tape, hc'.bel.output, hc'.bel.size, fun b k1 k0 k2 => ?_, hc'.fzl⟩, hg', m2, ho', Fj r2, ?_, fun b hb => ?_⟩
  ·have hbg : b ≠ g := fun e => k0 (by rw [e])
   exact ⟨hc'.bel.block b ⟨k1, hbg, k2⟩, fun o => hc'.fz0 b o ⟨k1, hbg, k2⟩⟩
  ·rw [gk, cm]
   refine ⟨fun hh => ?_, hc'.nod 2, r3, fun x hx y hy e => ?_⟩
   ·rcases List.mem_append.1 hh with hh | hh
    ·exact m3 2 hh
    ·obtain ⟨r, _, k⟩ := hG2 g hh
     exact m3 r k
   ·subst e
    obtain ⟨r, k1, k2⟩ := hG2 x hy
    exact hc'.dis r 2 k1 x k2 hx
  ·rcases List.mem_append.1 hb with hb | hb
   ·exact hlow 2 b hb
   ·obtain ⟨r, _, k⟩ := hG2 b hb
    exact hlow r b k
 cases e with
 | normal => exact hres hq
 | ret => exact hres hq
 | _ => exact hq.elim
end
end
section
section
variable {P : Program} {n : Nat} {h0 : Nat → Prop} {w0 : World} {Fz0 : av} {ops : Array Oper} {Q : Exit → St → Prop}
def RK {f d t : Nat} {xs : List Operand} {args : Array Operand} {tys : Array TypeId} {ty : TypeId} {pos : String} {af : Array Edge} {g : Option (Nat × Bool)} {a : Act} {w : World} (hf : ax P f = true) (he : args.toList = .tmp t :: xs) :
  (execOp a.eval ⟨some d, .call { callee := .value (.func f), args := args, argTypes := tys }, ty, pos, af, g⟩).run P w = .ok (.enter f (a.tmps.getD t undef :: xs.map a.eval).toArray) w := by
 unfold execOp
 have e : (#[] ++ args.map a.eval ++ #[] : Array Value) = (args.toList.map a.eval).toArray := by apply Array.ext'; simp
 simp only [resolve, Act.eval, Deferred.ofValue, Sem.run_bind, Sem.run_pure, Result.andThen_ok, invoke]
 rw [tr hf, e, he]; rfl
def RL {f d : Nat} {args : Array Operand} {tys : Array TypeId} {ty : TypeId} {pos : String} {af : Array Edge} {g : Option (Nat × Bool)} {a : Act} {w : World} (hf : ax P f = true) :
  (execOp a.eval ⟨some d, .call { callee := .value (.func f), args := args, argTypes := tys }, ty, pos, af, g⟩).run P w = .ok (.enter f (args.toList.map a.eval).toArray) w := by
 unfold execOp
 have e : (#[] ++ args.map a.eval ++ #[] : Array Value) = (args.toList.map a.eval).toArray := by apply Array.ext'; simp
 simp only [resolve, Act.eval, Deferred.ofValue, Sem.run_bind, Sem.run_pure, Result.andThen_ok, invoke]
 rw [tr hf, e]
def PV.OTo (p q : PV) : Prop := ∀ {Fz : av} {w : World} {v : Value} {F : List Nat}, p.own Fz w v F → q.own Fz w v F
def OTo.refl {p : PV} : p.OTo p := fun h => h
def OTo.lo {L : Nat → Prop} {es : List (List PV)} : (PV.sl (.lo L) es).OTo (PV.sl .v es) := fun h => ⟨h.1.1, h.2⟩
def OTo.nv {u : Value} {p : PV} : (PV.nv u p).OTo p := fun h => h.2
def aN.cons {p q : PV} {ps qs : List PV} (h : p.OTo q) (k : aN ps qs) : aN (p :: ps) (q :: qs) := fun hh => by
 obtain ⟨v, vs', F1, F2, rfl, rfl, h1, h2⟩ := hh
 exact ⟨v, vs', F1, F2, rfl, rfl, h h1, k h2⟩
def rJ : List (Bool × List PV) → List (Bool × List PV) → Prop
 | [], [] => True
 | p :: ps, q :: qs => (p.1 = q.1 ∧ aN p.2 q.2) ∧ rJ ps qs
 | _, _ => False
def rJ.own {Fz : av} {w : World} : ∀ {ps qs : List (Bool × List PV)} {vs : List Value} {F : List Nat}, rJ ps qs → eD ps Fz w vs F → eD qs Fz w vs F
 | [], [], _, _, _, h => h
 | p :: ps, q :: qs, _, _, k, h => by
  obtain ⟨v, vs', F1, F2, rfl, rfl, h1, h2⟩ := h
  exact ⟨v, vs', F1, F2, rfl, rfl, ⟨k.1.1 ▸ h1.1, k.1.2 h1.2⟩, rJ.own k.2 h2⟩
def rL (L : Nat → Prop) (ts : List Nat) : List (Nat × RV) → Prop
 | [] => True
 | p :: l => (p.1 ∈ ts ∨ p.2.Lcl L) ∧ rL L ts l
def rL.mem {L : Nat → Prop} {ts : List Nat} : ∀ {l : List (Nat × RV)}, rL L ts l → ∀ p, p ∈ l → p.1 ∈ ts ∨ p.2.Lcl L
 | [], _, p, hp => by simp at hp
 | q :: l, h, p, hp => by
  rcases List.mem_cons.1 hp with rfl | hp
  ·exact h.1
  ·exact rL.mem h.2 p hp
def zB : ∀ {xs : List Operand} {f : Nat → Option RV} {i : Nat} {rv : RV}, bM (kz xs) f i = some rv → i ∉ jm xs ∧ f i = some rv
 | [], f, i, rv, h => ⟨by simp [jm], h⟩
 | x :: xs, f, i, rv, h => by
  have h : bM (kz xs) (bM (oY x) f) i = some rv := by rw [← tq]; exact h
  obtain ⟨k1, k2⟩ := zB h
  cases x with
  | tmp t =>
   have k2 : (bif Nat.beq i t then none else f i) = some rv := k2
   rw [beq_eq] at k2
   by_cases e : i = t
   ·simp [e] at k2
   ·simp [e] at k2
    exact ⟨by simp [jm, e, k1], k2⟩
  | _ => exact ⟨k1, k2⟩
def zC {f d : Nat} {L : Nat → Prop} {args : Array Operand} {tys : Array TypeId} {ty : TypeId} {pos : String} {af : Array Edge} {ol : List Oper} {l : List (Nat × RV)} {b : List (Nat × (Nat × List PV))} {qs as_ : List (Bool × List PV)} {r : RV}
  (hd : d < n) (hf : ax P f = true) (hrd : bb (iM args.toList qs) (lk l)) (hok : ky args.toList qs) (hap : vq args.toList = true) (hto : rJ qs as_) (hu : zv P f as_ r) (hL : ∀ x, L x → h0 x) (hls : rL L (jm args.toList) l) (hlb : qe L b)
  (h : gO P n h0 w0 Fz0 ops ol ((⟨bM (kz args.toList) (lk l), lk b⟩ : St).set d (some r)) Q) :
  gO P n h0 w0 Fz0 ops (⟨some d, .call { callee := .value (.func f), args := args, argTypes := tys }, ty, pos, af, none⟩ :: ol) (St.of l b) Q := fun a w hc => by
 obtain ⟨φ, Fz, Fp, hc⟩ := hc
 obtain ⟨F, Fp', hown, c1, hm, hnd⟩ := hc.pulls args.toList qs hrd hok (of_decide_eq_true hap)
 have hF := (List.nodup_append.1 hnd).1
 refine wpList_plain rfl fun K hK => ?_
 unfold Oper.wp
 rw [RL hf, Oper.upon_enter]
 refine (hu w _ Fz F hc.fzl (hto.own hown) hF).mono ?_
 rintro e w' ⟨v, Fz', G, rfl, ht, hv, hn, hin⟩
 have hlt0 : ∀ x, x ∈ Fp 0 → x < w.heap.size := fun x hx => (hc.low 0 x hx).2
 have c2 := c1.uworld (w' := w') (Fz' := Fz') (L := L) (X := G ++ Fp 0) ht.os ht.tape ht.output ht.size (fun x hx hx0 => ht.same x hx (by simp) (fun k => hx0 ((hm x).2 (by simp [k])))) hL
  (fun i rv hi => by
   obtain ⟨k1, k2⟩ := zB hi
   rcases hls.mem _ (go k2) with k | k
   ·exact absurd k k1
   ·exact k)
  (fun d' bx hb => qe.mem hlb _ (go hb)) ht.fzl
  (fun x hx => by
   rcases List.mem_append.1 hx with hx | hx
   ·rcases hin x hx with k | k
    ·exact .inl ((hm x).2 (by simp [k]))
    ·exact .inr k
   ·exact .inl ((hm x).2 (by simp [hx])))
  (by
   rw [cm] at hnd ⊢
   refine ⟨hn, hnd.2.1, fun x hx y hy e => ?_⟩
   rcases hin x hx with k | k
   ·exact hnd.2.2 x k y hy e
   ·have := hlt0 y hy; omega)
 have c3 := c2.push (i := d) (rv := r) (v := v) (F := G) (X := Fp 0) hd (hv _) (fun x hx => by simpa using hx) (by
   have := c2.nod 0
   simpa using this)
 exact hK _ _ (h _ _ ⟨_, _, _, c3⟩)
def tH {f d p bx t : Nat} {L : Nat → Prop} {xs : List Operand} {args : Array Operand} {tys : Array TypeId} {ty : TypeId} {pos : String} {af : Array Edge} {ol : List Oper} {l : List (Nat × RV)} {b : List (Nat × (Nat × List PV))} {cs cs' : List PV} {qs as_ : List (Bool × List PV)} {r : RV}
  (hd : d < n) (hf : ax P f = true) (he : args.toList = .tmp p :: xs) (hp : lk l p = some (RV.ptr bx 0)) (hbx : lk b bx = some (t, cs)) (hrd : bb (iM xs qs) (lk l)) (hok : ky xs qs) (hap : vq xs = true) (hto : rJ qs as_) (hu : tF P f t cs cs' as_ r) (hL : ∀ x, L x → h0 x) (hls : rL L (jm xs) l) (hlb : nJ L bx b)
  (h : gO P n h0 w0 Fz0 ops ol (((⟨bM (kz xs) (lk l), lk b⟩ : St).setB bx (some (t, cs'))).set d (some r)) Q) :
  gO P n h0 w0 Fz0 ops (⟨some d, .call { callee := .value (.func f), args := args, argTypes := tys }, ty, pos, af, none⟩ :: ol) (St.of l b) Q := fun a w hc => by
 obtain ⟨φ, Fz, Fp, hc⟩ := hc
 have hpv := (hc.slot p _ hp).1
 obtain ⟨F, Fp', hown, c1, hm, hnd⟩ := hc.pulls xs qs hrd hok (of_decide_eq_true hap)
 have hF := (List.nodup_append.1 hnd).1
 have hb1 : (⟨bM (kz xs) (St.of l b).s, (St.of l b).b⟩ : St).b bx = some (t, cs) := hbx
 obtain ⟨cur, hg, ho⟩ := c1.box bx _ hb1
 obtain ⟨g1, g2, g3⟩ := c1.bxb bx _ hb1
 have hglt : φ bx < w.heap.size := (Array.getElem?_eq_some_iff.1 hg).1
 have c2 := c1.pullB hb1
 generalize hFp2 : (fun x => if x = 0 then φ bx :: mv Fp' (2 * bx + 2) 0 else mv Fp' (2 * bx + 2) x) = Fp2 at c2
 have e0 : Fp2 0 = φ bx :: (Fp' (2 * bx + 2) ++ Fp' 0) := by rw [← hFp2]; simp [mv]
 have hFin : ∀ x, x ∈ F → x ∈ Fp' 0 := fun x hx => (hm x).2 (by simp [hx])
 have hXin : ∀ x, x ∈ Fp 0 → x ∈ Fp' 0 := fun x hx => (hm x).2 (by simp [hx])
 have hn1 : (φ bx :: (Fp' (2 * bx + 2) ++ F)).Nodup := by
  rw [gk, cm]
  refine ⟨fun k => ?_, c1.nod _, hF, fun x hx y hy e => ?_⟩
  ·rcases List.mem_append.1 k with k | k
   ·exact g3 _ k
   ·exact g3 0 (hFin _ k)
  ·subst e
   exact c1.dis 0 (2 * bx + 2) (by omega) x (hFin x hy) hx
 refine wpList_plain rfl fun K hK => ?_
 unfold Oper.wp
 rw [RK hf he, hpv, Oper.upon_enter]
 refine (hu w (φ bx) cur _ Fz _ F hc.fzl hg g2 ho (hto.own hown) hn1).mono ?_
 rintro e w' ⟨v, Fz', cur', F1', G, rfl, ht, hg', hf', ho', hv, hn, hin⟩
 have hn' := hn
 rw [gk, cm] at hn'
 have hlt0 : ∀ x, x ∈ Fp 0 → x < w.heap.size := fun x hx => (hc.low 0 x hx).2
 have hdis0 : ∀ x, x ∈ Fp 0 → x ≠ φ bx ∧ x ∉ Fp' (2 * bx + 2) ∧ x ∉ F := fun x hx => by
  refine ⟨fun e => g3 0 (e ▸ hXin x hx), fun k => c1.dis 0 (2 * bx + 2) (by omega) x (hXin x hx) k, fun k => ?_⟩
  rw [cm] at hnd
  exact hnd.2.2 x k x hx rfl
 have hdn : ∀ x, x ∈ F1' ++ G → x ∉ Fp 0 := fun x hx k => by
  obtain ⟨k1, k2, k3⟩ := hdis0 x k
  rcases hin x hx with hx | hx
  ·rcases List.mem_append.1 hx with hx | hx
   ·exact k2 hx
   ·exact k3 hx
  ·have := hlt0 x k; omega
 have c3 := c2.uworld (w' := w') (Fz' := Fz') (L := L) (X := φ bx :: (F1' ++ (G ++ Fp 0))) ht.os ht.tape ht.output ht.size (fun x hx hx0 => ht.same x hx (fun k => hx0 (by rw [e0, Option.some.inj k]; simp)) (fun k => hx0 (by
    rw [e0]
    rcases List.mem_append.1 k with k | k
    ·simp [k]
    ·simp [hFin x k]))) hL
  (fun i rv hi => by
   obtain ⟨k1, k2⟩ := zB hi
   rcases hls.mem _ (go k2) with k | k
   ·exact absurd k k1
   ·exact k)
  (fun d' bxx hb => by
   rw [St.setB_b] at hb
   split at hb
   ·cases hb
   ·rename_i hne
    rcases hlb.mem _ (go hb) with k | k
    ·exact absurd k hne
    ·exact k) ht.fzl
  (fun x hx => by
   rw [e0]
   simp only [jQ, dM] at hx ⊢
   rcases hx with hx | hx | hx | hx
   ·exact .inl (.inl hx)
   ·rcases hin x (by simp [hx]) with k | k
    ·rcases List.mem_append.1 k with k | k
     ·exact .inl (.inr (.inl k))
     ·exact .inl (.inr (.inr (hFin x k)))
    ·exact .inr k
   ·rcases hin x (by simp [hx]) with k | k
    ·rcases List.mem_append.1 k with k | k
     ·exact .inl (.inr (.inl k))
     ·exact .inl (.inr (.inr (hFin x k)))
    ·exact .inr k
   ·exact .inl (.inr (.inr (hXin x hx))))
  (by
   rw [gk, cm, cm]
   refine ⟨fun k => ?_, hn'.2.1, ⟨hn'.2.2.1, (List.nodup_append.1 hnd).2.1, fun x hx y hy e => hdn x (by simp [hx]) (e ▸ hy)⟩, fun x hx y hy e => ?_⟩
   ·simp only [dM] at k
    rcases k with k | k | k
    ·exact hn'.1 (by simp [k])
    ·exact hn'.1 (by simp [k])
    ·exact (hdis0 _ k).1 rfl
   ·rcases List.mem_append.1 hy with hy | hy
    ·exact hn'.2.2.2 x hx y hy e
    ·exact hdn x (by simp [hx]) (e ▸ hy))
 have hnX : (F1' ++ φ bx :: (G ++ Fp 0)).Nodup := by
  have := c3.nod 0
  simp only [if_true] at this
  refine (List.Perm.nodup_iff ?_).2 this
  exact List.perm_middle
 have c4 := c3.pushB (d := bx) (g := φ bx) (t := t) (cs := cs') (cur := cur') (F := F1') (X := G ++ Fp 0) (by simp [St.setB_b]) hg' ho' hf' (fun x hx => by
   simp only [if_true]
   simp only [dM, jQ] at hx ⊢
   rcases hx with hx | hx | hx | hx <;> simp [hx]) hnX (.inl rfl)
 have c5 := c4.push (i := d) (rv := r) (v := v) (F := G) (X := Fp 0) hd (hv _) (fun x hx => by
   simp only [cD, if_true]
   rw [if_neg (by omega)]
   exact hx) (by
   have := c4.nod 0
   simp only [cD, if_true] at this
   rw [if_neg (by omega)] at this
   exact this)
 exact hK _ _ (h _ _ (bn.eqv ⟨_, _, _, c5⟩ (fun i => rfl) (fun x => by
  simp only [St.set_b, St.setB_b]
  split <;> rfl)))
end
end
section
section
variable {P : Program} {n : Nat} {h0 : Nat → Prop} {w0 : World} {Fz0 : av} {ops : Array Oper} {Q : Exit → St → Prop}
def bE {α : Type} (f : α → List PV) (xs : List α) (jk : List Value) : List PV := (xs.map f).flatten ++ jk.map PV.val
def RM {T d p b off t k e : Nat} {ty : TypeId} {pos : String} {af : Array Edge} {g : Option (Nat × Bool)} {ag : Bool} {α : Type} {f : α → List PV} {xs : List α} {jk : List Value} {qs : List PV} (hf : ∀ x, (f x).length = e) (hoff : off = k * e) (hk : k < xs.length) (hd : d < n) (hT : bR P T = some (ag, e)) (h1 : ag = false → e = 1)
  (ht : am (f xs[k]) qs) (hb : an qs) :
  Loc P n ⟨some d, .load T (.tmp p), ty, pos, af, g⟩ ⟨[(p, RV.ptr b off)], [(b, (t, bE f xs jk))], [(d, some (RV.sv ag qs))], [], none⟩ := by
 unfold bE
 rw [iB hk]
 exact fR (o := 0) (by rw [hoff, iQ hf (Nat.le_of_lt hk)]; rfl) hd hT h1 (by rw [hf]; omega) (by rw [List.drop_zero, gB (by rw [hf]; exact Nat.le_refl _)]; exact ht) hb
def RN {T p b off t k e : Nat} {x : Operand} {ty : TypeId} {pos : String} {af : Array Edge} {g : Option (Nat × Bool)} {ag : Bool} {α : Type} {f : α → List PV} {xs : List α} {jk : List Value} {vs : List PV} (y : α) (hf : ∀ x, (f x).length = e) (hoff : off = k * e) (hk : k < xs.length) (hT : bR P T = some (ag, e)) (hx : cg x (RV.sv ag vs)) (hv : vs = f y) :
  Loc P n ⟨none, .store T (.tmp p) x, ty, pos, af, g⟩ ⟨(p, RV.ptr b off) :: bH x (RV.sv ag vs), [(b, (t, bE f xs jk))], oY x, [(b, some (t, bE f (xs.set k y) jk))], none⟩ := by
 have h : Loc P n ⟨none, .store T (.tmp p) x, ty, pos, af, g⟩ _ := fD (off := off) (P := P) (n := n) (T := T) (p := p) (b := b) (t := t) (x := x) (ty := ty) (pos := pos) (af := af) (g := g) (ag := ag) (A := ((xs.take k).map f).flatten) (m := f xs[k]) (B := ((xs.drop (k + 1)).map f).flatten ++ jk.map PV.val) (vs := vs) (o := 0) (by rw [hoff, iQ hf (Nat.le_of_lt hk)]; rfl) hT hx (by rw [hv]; exact hf y) (by rw [hf]; omega)
 unfold bE
 rw [iB hk, ← mI (cs := vs) y hk hv]
 have e2 : List.take 0 (f xs[k]) ++ (vs ++ List.drop (0 + e) (f xs[k])) = vs := by
  rw [List.take_zero, List.nil_append, List.drop_eq_nil_of_le (by rw [hf]; omega), eg]
 rw [e2] at h
 exact @h
end
end
section
section
variable {P : Program} {n : Nat} {h0 : Nat → Prop} {w0 : World} {Fz0 : av} {ops : Array Oper} {σ σ0 : St} {QS : St → Prop} {Q : Exit → St → Prop} {o : Oper} {l : List Oper} {acc : List (Nat × aF)} {c : Code}
def rA {L : aF} (y : ar P n ops QS l (σ.app L)) (h1 : bb L.rs σ.s := by repeat (first | exact True.intro | refine And.intro rfl ?_)) (h2 : bb L.rb σ.b := by repeat (first | exact True.intro | refine And.intro rfl ?_)) (x : Loc P n o L) (hg : o.guard = none := by exact rfl) (ha : L.al = none := by exact rfl) : ar P n ops QS (o :: l) σ :=
 ar.step h1 h2 (ay.of hg x) (fun d hd => by rw [ha] at hd; cases hd) y
def rB {L : aF} {g s : Nat} {b c : Bool} (hb : c = b) (y : ar P n ops QS l (σ.app ⟨(s, RV.bool c) :: L.rs, L.rb, L.ws, L.wb, L.al⟩)) (hg : o.guard = some (g, b) := by exact rfl) (hs : (ops[g]?).bind (·.dst) = some s := by exact rfl) (h1 : bb ((s, RV.bool c) :: L.rs) σ.s := by repeat (first | exact True.intro | refine And.intro rfl ?_)) (h2 : bb L.rb σ.b := by repeat (first | exact True.intro | refine And.intro rfl ?_)) (x : Loc P n o L) (hlt : s < n := by decide) (ha : L.al = none := by exact rfl) : ar P n ops QS (o :: l) σ :=
 ar.step (L := ⟨(s, RV.bool c) :: L.rs, L.rb, L.ws, L.wb, L.al⟩) h1 h2 (ay.yes hg hs hlt hb x) (fun d hd => by have hd : L.al = some d := hd; rw [ha] at hd; cases hd) y
def dA {L : aF} (m : Nat) (y : cb P n ops σ0 (fun _ _ => True) QS l (acc ++ [(m, L)]) (σ.app L)) (h1 : bb L.rs σ.s := by repeat (first | exact True.intro | refine And.intro rfl ?_)) (h2 : bb L.rb σ.b := by repeat (first | exact True.intro | refine And.intro rfl ?_)) (x : Loc P n o L) (hg : o.guard = none := by exact rfl) (ha : L.al = none := by exact rfl) (h4 : mE m o L acc = true := by kernel_rfl) : cb P n ops σ0 (fun _ _ => True) QS (o :: l) acc σ :=
 cb.step m h1 h2 (ay.of hg x) (fun d hd => by rw [ha] at hd; cases hd) h4 y
def dB {L : aF} {g s : Nat} {b c : Bool} (m : Nat) (hb : c = b) (y : cb P n ops σ0 (fun _ _ => True) QS l (acc ++ [(m, ⟨(s, RV.bool c) :: L.rs, L.rb, L.ws, L.wb, L.al⟩)]) (σ.app ⟨(s, RV.bool c) :: L.rs, L.rb, L.ws, L.wb, L.al⟩)) (hg : o.guard = some (g, b) := by exact rfl) (hs : (ops[g]?).bind (·.dst) = some s := by exact rfl) (h1 : bb ((s, RV.bool c) :: L.rs) σ.s := by repeat (first | exact True.intro | refine And.intro rfl ?_)) (h2 : bb L.rb σ.b := by repeat (first | exact True.intro | refine And.intro rfl ?_)) (x : Loc P n o L) (hlt : s < n := by decide) (ha : L.al = none := by exact rfl)
  (h4 : mE m o ⟨(s, RV.bool c) :: L.rs, L.rb, L.ws, L.wb, L.al⟩ acc = true := by kernel_rfl) : cb P n ops σ0 (fun _ _ => True) QS (o :: l) acc σ :=
 cb.step (L := ⟨(s, RV.bool c) :: L.rs, L.rb, L.ws, L.wb, L.al⟩) m h1 h2 (ay.yes hg hs hlt hb x) (fun d hd => by have hd : L.al = some d := hd; rw [ha] at hd; cases hd) h4 y
def dF {g s d : Nat} {c : Bool} (m : Nat) (hb : c = false) (y : cb P n ops σ0 (fun _ _ => True) QS l (acc ++ [(m, ⟨[(s, RV.bool c)], [], [(d, some RV.und)], [], none⟩)]) (σ.app ⟨[(s, RV.bool c)], [], [(d, some RV.und)], [], none⟩)) (hg : o.guard = some (g, true) := by exact rfl) (hs : (ops[g]?).bind (·.dst) = some s := by exact rfl) (hlt : s < n := by decide) (hd : o.dst = some d := by exact rfl)
  (h1 : σ.s s = some (RV.bool c) := by exact rfl) (h4 : mE m o ⟨[(s, RV.bool c)], [], [(d, some RV.und)], [], none⟩ acc = true := by kernel_rfl) : cb P n ops σ0 (fun _ _ => True) QS (o :: l) acc σ :=
 cb.step (L := ⟨[(s, RV.bool c)], [], [(d, some RV.und)], [], none⟩) m ⟨h1, True.intro⟩ True.intro (ay.no hg hs hlt hb hd) aG h4 y
def dT {g s d : Nat} {c : Bool} (m : Nat) (hb : c = true) (y : cb P n ops σ0 (fun _ _ => True) QS l (acc ++ [(m, ⟨[(s, RV.bool c)], [], [(d, some RV.und)], [], none⟩)]) (σ.app ⟨[(s, RV.bool c)], [], [(d, some RV.und)], [], none⟩)) (hg : o.guard = some (g, false) := by exact rfl) (hs : (ops[g]?).bind (·.dst) = some s := by exact rfl) (hlt : s < n := by decide) (hd : o.dst = some d := by exact rfl)
  (h1 : σ.s s = some (RV.bool c) := by exact rfl) (h4 : mE m o ⟨[(s, RV.bool c)], [], [(d, some RV.und)], [], none⟩ acc = true := by kernel_rfl) : cb P n ops σ0 (fun _ _ => True) QS (o :: l) acc σ :=
 cb.step (L := ⟨[(s, RV.bool c)], [], [(d, some RV.und)], [], none⟩) m ⟨h1, True.intro⟩ True.intro (ay.no hg hs hlt hb hd) aG h4 y
def dU {g s d : Nat} {b : Bool} (m : Nat) (y : cb P n ops σ0 (fun _ _ => True) QS l (acc ++ [(m, ⟨[(s, RV.und)], [], [(d, some RV.und)], [], none⟩)]) (σ.app ⟨[(s, RV.und)], [], [(d, some RV.und)], [], none⟩)) (hg : o.guard = some (g, b) := by exact rfl) (hs : (ops[g]?).bind (·.dst) = some s := by exact rfl) (hd : o.dst = some d := by exact rfl)
  (h1 : σ.s s = some RV.und := by exact rfl) (h4 : mE m o ⟨[(s, RV.und)], [], [(d, some RV.und)], [], none⟩ acc = true := by kernel_rfl) : cb P n ops σ0 (fun _ _ => True) QS (o :: l) acc σ :=
 cb.step (L := ⟨[(s, RV.und)], [], [(d, some RV.und)], [], none⟩) m ⟨h1, True.intro⟩ True.intro (ay.noU hg hs hd) aG h4 y
def sO (l : List (Nat × RV)) (b : List (Nat × (Nat × List PV))) (h : SW P n h0 w0 Fz0 c (St.of l b) Q) (hl : bb l σ.s := by repeat (first | exact True.intro | refine And.intro rfl ?_)) (hb : bb b σ.b := by repeat (first | exact True.intro | refine And.intro rfl ?_)) : SW P n h0 w0 Fz0 c σ Q := Rk hl hb h
def wO (m : List (Nat × RV)) (b : List (Nat × (Nat × List PV))) (h : gO P n h0 w0 Fz0 ops l (St.of m b) Q) (hl : bb m σ.s := by repeat (first | exact True.intro | refine And.intro rfl ?_)) (hb : bb b σ.b := by repeat (first | exact True.intro | refine And.intro rfl ?_)) : gO P n h0 w0 Fz0 ops l σ Q := ff hl hb h
def wA {L : aF} (y : gO P n h0 w0 Fz0 ops l (σ.app L) Q) (h1 : bb L.rs σ.s := by repeat (first | exact True.intro | refine And.intro rfl ?_)) (h2 : bb L.rb σ.b := by repeat (first | exact True.intro | refine And.intro rfl ?_)) (x : Loc P n o L) (hg : o.guard = none := by exact rfl) (ha : L.al = none := by exact rfl) : gO P n h0 w0 Fz0 ops (o :: l) σ Q :=
 aO h1 h2 (ay.of hg x) (fun d hd => by rw [ha] at hd; cases hd) y
end
section
variable {P : Program} {n : Nat} {d x : Nat} {ty : TypeId} {pos : String} {af : Array Edge} {g : Option (Nat × Bool)}
def cM {r r' : RV} (hc : Cp r r') (hd : d < n := by decide) : Loc P n ⟨some d, .move (.tmp x), ty, pos, af, g⟩ ⟨[(x, r)], [], [(d, some r')], [], none⟩ := be (.inl rfl) hd hc
def cA {r r' : RV} (hc : Cp r r') (hd : d < n := by decide) : Loc P n ⟨some d, .assign (.tmp x), ty, pos, af, g⟩ ⟨[(x, r)], [], [(d, some r')], [], none⟩ := be (.inr rfl) hd hc
def sM {v : Value} (hd : d < n := by decide) : Loc P n ⟨some d, .move (.tmp x), ty, pos, af, g⟩ ⟨[(x, RV.sc v)], [], [(d, some (RV.sc v))], [], none⟩ := cM Cp.sc hd
def sA {v : Value} (hd : d < n := by decide) : Loc P n ⟨some d, .assign (.tmp x), ty, pos, af, g⟩ ⟨[(x, RV.sc v)], [], [(d, some (RV.sc v))], [], none⟩ := cA Cp.sc hd
def vM {cs : List PV} (ag : Bool) (qs : List PV) (ht : am cs qs := by repeat' (first | exact True.intro | exact PV.To.refl _ | exact PV.to_none | apply And.intro)) (hb : an qs := by repeat (first | exact an.nil | refine an.cons (PV.bor_val _) ?_ | refine an.cons (PV.bor_sl _) ?_ | refine an.cons (PV.bor_lo _ _) ?_)) (hd : d < n := by decide) :
  Loc P n ⟨some d, .move (.tmp x), ty, pos, af, g⟩ ⟨[(x, RV.sv ag cs)], [], [(d, some (RV.sv ag qs))], [], none⟩ := cM (Cp.sv ht hb) hd
def vA {cs : List PV} (ag : Bool) (qs : List PV) (ht : am cs qs := by repeat' (first | exact True.intro | exact PV.To.refl _ | exact PV.to_none | apply And.intro)) (hb : an qs := by repeat (first | exact an.nil | refine an.cons (PV.bor_val _) ?_ | refine an.cons (PV.bor_sl _) ?_ | refine an.cons (PV.bor_lo _ _) ?_)) (hd : d < n := by decide) :
  Loc P n ⟨some d, .assign (.tmp x), ty, pos, af, g⟩ ⟨[(x, RV.sv ag cs)], [], [(d, some (RV.sv ag qs))], [], none⟩ := cA (Cp.sv ht hb) hd
def tM {r : RV} (hd : d < n := by decide) : Loc P n ⟨some d, .move (.tmp x), ty, pos, af, g⟩ ⟨[(x, r)], [], [(x, none), (d, some r)], [], none⟩ := vo (.inl rfl) hd
def tA {r : RV} (hd : d < n := by decide) : Loc P n ⟨some d, .assign (.tmp x), ty, pos, af, g⟩ ⟨[(x, r)], [], [(x, none), (d, some r)], [], none⟩ := vo (.inr rfl) hd
def kM {v : Value} (h : v.oneCell' = true := by exact rfl) (hd : d < n := by decide) : Loc P n ⟨some d, .move (.const v), ty, pos, af, g⟩ ⟨[], [], [(d, some (RV.sc v))], [], none⟩ := iz (.inl rfl) hd (eV h)
def kA {v : Value} (h : v.oneCell' = true := by exact rfl) (hd : d < n := by decide) : Loc P n ⟨some d, .assign (.const v), ty, pos, af, g⟩ ⟨[], [], [(d, some (RV.sc v))], [], none⟩ := iz (.inr rfl) hd (eV h)
def lD {T p b off t : Nat} {ag : Bool} {k : Nat} {cs : List PV} (qs : List PV) (hT : bR P T = some (ag, k)) (h1 : ag = false → k = 1 := by first | exact fun _ => rfl | exact fun h => nomatch h) (hk : off + k ≤ cs.length := by exact Nat.le_of_ble_eq_true rfl) (ht : am ((cs.drop off).take k) qs := by repeat' (first | exact True.intro | exact PV.To.refl _ | exact PV.to_none | apply And.intro))
  (hb : an qs := by repeat (first | exact an.nil | refine an.cons (PV.bor_val _) ?_ | refine an.cons (PV.bor_sl _) ?_ | refine an.cons (PV.bor_lo _ _) ?_)) (hd : d < n := by decide) :
  Loc P n ⟨some d, .load T (.tmp p), ty, pos, af, g⟩ ⟨[(p, RV.ptr b off)], [(b, (t, cs))], [(d, some (RV.sv ag qs))], [], none⟩ := eW hd hT h1 hk ht hb
def lE {T p : Nat} {ag : Bool} {k : Nat} {cs : List PV} (qs : List PV) (hT : bR P T = some (ag, k)) (h1 : ag = false → k = 1 := by first | exact fun _ => rfl | exact fun h => nomatch h) (hk : k ≤ cs.length := by exact Nat.le_of_ble_eq_true rfl) (ht : am (cs.take k) qs := by repeat' (first | exact True.intro | exact PV.To.refl _ | exact PV.to_none | apply And.intro))
  (hb : an qs := by repeat (first | exact an.nil | refine an.cons (PV.bor_val _) ?_ | refine an.cons (PV.bor_sl _) ?_ | refine an.cons (PV.bor_lo _ _) ?_)) (hd : d < n := by decide) :
  Loc P n ⟨some d, .load T (.tmp p), ty, pos, af, g⟩ ⟨[(p, RV.eptr cs)], [], [(d, some (RV.sv ag qs))], [], none⟩ := nA hd hT h1 hk ht hb
def lF {T p b off f fo : Nat} (hT : ba P T f = some fo) (hd : d < n := by decide) : Loc P n ⟨some d, .fieldAddr T (.tmp p) f, ty, pos, af, g⟩ ⟨[(p, RV.ptr b off)], [], [(d, some (RV.ptr b (off + fo)))], [], none⟩ := eh hd hT
def lN {T E e bs s m : Nat} {o : Fl} {es : List (List PV)} (hT : cZ P T = some (E, e, bs)) (hm : es.length = m := by first | exact aq _ | exact rfl) (hd : d < n := by decide) :
  Loc P n ⟨some d, .call { callee := .builtin .len, args := #[.tmp s], argTypes := #[T] }, ty, pos, af, g⟩ ⟨[(s, RV.slc o es)], [], [(d, some (RV.int (m : Int)))], [], none⟩ := Re hd hT hm
def nT {T : TypeId} {b : Bool} (hd : d < n := by decide) : Loc P n ⟨some d, .unOp .not T (.tmp x), ty, pos, af, g⟩ ⟨[(x, RV.bool b)], [], [(d, some (RV.bool !b))], [], none⟩ := Rd hd
def aT {c x y : Operand} {b : Bool} {r : RV} (hg : b = true) (hc : cg c (RV.bool b) := by exact True.intro) (hz : cg x r := by first | exact True.intro | exact eV rfl) (hcp : Cp r r := by exact Cp.sc) (hd : d < n := by decide) : Loc P n ⟨some d, .pick c x y, ty, pos, af, g⟩ ⟨bH c (RV.bool b) ++ bH x r, [], [(d, some r)], [], none⟩ := Em (z := x) hd (by rw [hg]; rfl) hc hz hcp
def aK {c x y : Operand} {b : Bool} {r : RV} (hg : b = false) (hc : cg c (RV.bool b) := by exact True.intro) (hz : cg y r := by first | exact True.intro | exact eV rfl) (hcp : Cp r r := by exact Cp.sc) (hd : d < n := by decide) : Loc P n ⟨some d, .pick c x y, ty, pos, af, g⟩ ⟨bH c (RV.bool b) ++ bH y r, [], [(d, some r)], [], none⟩ := Em (z := y) hd (by rw [hg]; rfl) hc hz hcp
def cL {f : Nat} {args : Array Operand} {tys : Array TypeId} {r : RV} (qs as_ : List (Bool × List PV)) (hf : ax P f = true) (hok : ky args.toList qs := by repeat' (first | exact True.intro | exact eV rfl | exact QM | apply And.intro))
  (hto : kC qs as_ := by repeat' (first | exact True.intro | exact rfl | exact PV.To.refl _ | exact PV.to_none | apply And.intro)) (hs : aB P f as_ r) (hd : d < n := by decide) : Loc P n ⟨some d, .call { callee := .value (.func f), args := args, argTypes := tys }, ty, pos, af, g⟩ ⟨iM args.toList qs, [], [(d, some r)], [], none⟩ := tt hd hf hok hto hs
section
variable {T T2 : TypeId} {x y : Operand} {i j : Int}
def cu (hx : cg x (RV.int i) := by first | exact True.intro | exact eV rfl) (hy : cg y (RV.int j) := by first | exact True.intro | exact eV rfl) (hd : d < n := by decide) : Loc P n ⟨some d, .binOp .lss T x y T2, ty, pos, af, g⟩ ⟨bH x (RV.int i) ++ bH y (RV.int j), [], [(d, some (RV.bool (decide (i < j))))], [], none⟩ := QW hd hx hy
def iR (hx : cg x (RV.int i) := by first | exact True.intro | exact eV rfl) (hy : cg y (RV.int j) := by first | exact True.intro | exact eV rfl) (hd : d < n := by decide) : Loc P n ⟨some d, .binOp .leq T x y T2, ty, pos, af, g⟩ ⟨bH x (RV.int i) ++ bH y (RV.int j), [], [(d, some (RV.bool (decide (i ≤ j))))], [], none⟩ := QX hd hx hy
def eN (hx : cg x (RV.int i) := by first | exact True.intro | exact eV rfl) (hy : cg y (RV.int j) := by first | exact True.intro | exact eV rfl) (hd : d < n := by decide) : Loc P n ⟨some d, .binOp .gtr T x y T2, ty, pos, af, g⟩ ⟨bH x (RV.int i) ++ bH y (RV.int j), [], [(d, some (RV.bool (decide (i > j))))], [], none⟩ := QY hd hx hy
def iD (hx : cg x (RV.int i) := by first | exact True.intro | exact eV rfl) (hy : cg y (RV.int j) := by first | exact True.intro | exact eV rfl) (hd : d < n := by decide) : Loc P n ⟨some d, .binOp .geq T x y T2, ty, pos, af, g⟩ ⟨bH x (RV.int i) ++ bH y (RV.int j), [], [(d, some (RV.bool (decide (i ≥ j))))], [], none⟩ := QZ hd hx hy
def eG (hx : cg x (RV.int i) := by first | exact True.intro | exact eV rfl) (hy : cg y (RV.int j) := by first | exact True.intro | exact eV rfl) (hd : d < n := by decide) : Loc P n ⟨some d, .binOp .eql T x y T2, ty, pos, af, g⟩ ⟨bH x (RV.int i) ++ bH y (RV.int j), [], [(d, some (RV.bool (i == j)))], [], none⟩ := Ra hd hx hy
def eX (hx : cg x (RV.int i) := by first | exact True.intro | exact eV rfl) (hy : cg y (RV.int j) := by first | exact True.intro | exact eV rfl) (hd : d < n := by decide) : Loc P n ⟨some d, .binOp .neq T x y T2, ty, pos, af, g⟩ ⟨bH x (RV.int i) ++ bH y (RV.int j), [], [(d, some (RV.bool (i != j)))], [], none⟩ := Rb hd hx hy
def kV (hx : cg x (RV.int i) := by first | exact True.intro | exact eV rfl) (hy : cg y (RV.int j) := by first | exact True.intro | exact eV rfl) (h : mF (i + j) := by unfold mF; omega) (hd : d < n := by decide) : Loc P n ⟨some d, .binOp .add T x y T2, ty, pos, af, g⟩ ⟨bH x (RV.int i) ++ bH y (RV.int j), [], [(d, some (RV.int (i + j)))], [], none⟩ := yY hd hx hy h
def ip (hx : cg x (RV.int i) := by first | exact True.intro | exact eV rfl) (hy : cg y (RV.int j) := by first | exact True.intro | exact eV rfl) (h : mF (i - j) := by unfold mF; omega) (hd : d < n := by decide) : Loc P n ⟨some d, .binOp .sub T x y T2, ty, pos, af, g⟩ ⟨bH x (RV.int i) ++ bH y (RV.int j), [], [(d, some (RV.int (i - j)))], [], none⟩ := Rc hd hx hy h
end
end
end
section
section
variable {P : Program} {n : Nat}
section
variable {T : TypeId} {x y : Operand} {i j : Int} {k : IntKind} {w : World}
end
section
variable {T T2 : TypeId} {x y : Operand} {d : Nat} {ty : TypeId} {pos : String} {af : Array Edge} {g : Option (Nat × Bool)} {i j : Int} {k : IntKind}
end
section
variable {h0 : Nat → Prop} {w0 : World} {Fz0 : av} {σ : St} {Q : Exit → St → Prop} {c1 c2 : Code}
end
end
end
section
def iS : List Value → List PV → List PV
 | u :: us, p :: ps => PV.nv u p :: iS us ps
 | _, _ => []
def vP {Fz : av} {w : World} : ∀ {ps : List PV} {us : List Value}, an ps → bO ps Fz w us → aJ (iS us ps) Fz w us []
 | [], us, _, h => by
  have h : us = [] := h
  subst h; exact ⟨rfl, rfl⟩
 | p :: ps, us, hb, h => by
  obtain ⟨v, vs, rfl, h1, h2⟩ := h
  exact ⟨v, vs, [], [], rfl, rfl, ⟨rfl, hb p (by simp) h1⟩, vP (fun q hq => hb q (by simp [hq])) h2⟩
def dY (h : Nat → Value) : Nat → List PV → List PV
 | _, [] => []
 | i, p :: ps => PV.nv (h i) p :: dY h (i + 1) ps
def vQ (h : Nat → Value) : ∀ (ps : List PV) (i : Nat), dY h i ps = iS ((List.range' i ps.length).map h) ps
 | [], i => rfl
 | p :: ps, i => by rw [dY, vQ h ps (i + 1)]; rfl
def bl {α : Type} (e : Nat) (zs : List (α × (Nat → Value))) : List Value := (zs.map fun z => (List.range e).map z.2).flatten
def bK {α : Type} (f : α → List PV) (zs : List (α × (Nat → Value))) : List PV := (zs.map fun z => f z.1).flatten
def Fm : ∀ {us vs : List Value} {ps qs : List PV}, us.length = ps.length → iS (us ++ vs) (ps ++ qs) = iS us ps ++ iS vs qs
 | [], vs, [], qs, _ => rfl
 | u :: us, vs, p :: ps, qs, h => by
  simp only [List.cons_append, iS]
  rw [Fm (by simpa using h)]
def zD {e : Nat} {us : List Value} (h : us.length = e) : ∃ k : Nat → Value, us = (List.range e).map k := by
 refine ⟨fun i => us.getD i undef, ?_⟩
 subst h
 apply List.ext_getElem
 ·simp
 ·intro i h1 h2
  simp [h1]
def Fo {α : Type} {g : α → List PV} {fN : α × (Nat → Value) → List PV} {e : Nat} (hN : ∀ x h, fN (x, h) = dY h 0 (g x)) (hg : ∀ x, (g x).length = e) (jk : List PV) : ∀ (xs : List α) (us : List Value), us.length = xs.length * e + jk.length →
  ∃ (zs : List (α × (Nat → Value))) (vs : List Value), zs.map Prod.fst = xs ∧ us = bl e zs ++ vs ∧ vs.length = jk.length ∧ iS us ((xs.map g).flatten ++ jk) = (zs.map fN).flatten ++ iS vs jk
 | [], us, h => ⟨[], us, rfl, rfl, by simpa using h, rfl⟩
 | x :: xs, us, h => by
  have hs : (x :: xs).length * e = e + xs.length * e := by rw [List.length_cons, Nat.succ_mul]; omega
  obtain ⟨k, hk⟩ := zD (e := e) (us := us.take e) (by rw [br]; omega)
  obtain ⟨zs, vs, e1, e2, e3, e4⟩ := Fo hN hg jk xs (us.drop e) (by rw [gm]; omega)
  refine ⟨(x, k) :: zs, vs, by rw [List.map_cons, e1], ?_, e3, ?_⟩
  ·rw [← fc e us, hk, e2]
   simp [bl, bw]
  ·rw [← fc e us]
   have : ((x :: xs).map g).flatten ++ jk = g x ++ ((xs.map g).flatten ++ jk) := by simp
   rw [this, Fm (by rw [hg, br]; omega), e4, hk]
   simp only [List.map_cons, List.flatten_cons, bw]
   rw [hN, vQ, hg, List.range_eq_range']
def Fq {α : Type} {f g : α → List PV} (h : ∀ x, am (f x) (g x)) : ∀ (xs : List α) {js : List PV}, am ((xs.map f).flatten ++ js) ((xs.map g).flatten ++ js)
 | [], js => am.refl js
 | x :: xs, js => by
  have k : ∀ {ps qs rs ss : List PV}, am ps qs → am rs ss → am (ps ++ rs) (qs ++ ss) := by
   intro ps
   induction ps with
   | nil => intro qs rs ss h1 h2; cases qs with
    | nil => exact h2
    | cons q qs => exact h1.elim
   | cons p ps ih => intro qs rs ss h1 h2; cases qs with
    | nil => exact h1.elim
    | cons q qs => exact ⟨h1.1, ih h1.2 h2⟩
  simp only [List.map_cons, List.flatten_cons, bw]
  exact k (h x) (Fq h xs)
def RO {α : Type} {g : α → List PV} (h : ∀ x, an (g x)) (xs : List α) (jk : List Value) : an ((xs.map g).flatten ++ jk.map PV.val) := fun p hp => by
 rcases List.mem_append.1 hp with hp | hp
 ·obtain ⟨cs, hcs, hp⟩ := List.mem_flatten.1 hp
  obtain ⟨x, _, rfl⟩ := List.mem_map.1 hcs
  exact h x p hp
 ·obtain ⟨v, _, rfl⟩ := List.mem_map.1 hp
  exact PV.bor_val _
def Fr {Fz : av} {w : World} : ∀ {jk us vs : List Value} {F : List Nat}, aJ (iS us (jk.map PV.val)) Fz w vs F → us.length = jk.length → aJ (jk.map PV.val) Fz w vs F
 | [], us, vs, F, h, hl => by
  have : us = [] := im hl
  subst this; exact h
 | j :: jk, [], vs, F, h, hl => by simp at hl
 | j :: jk, u :: us, vs, F, h, hl => by
  obtain ⟨v, vs', F1, F2, rfl, rfl, h1, h2⟩ := h
  exact ⟨v, vs', F1, F2, rfl, rfl, h1.2, Fr h2 (by simpa using hl)⟩
def RP {α : Type} {f : α → List PV} {e : Nat} (hf : ∀ x, (f x).length = e) {Fz : av} {w : World} {zs ys : List (α × (Nat → Value))} (hp : zs.Perm ys) : ∀ {F : List Nat}, aJ (bK f zs) Fz w (bl e zs) F → ∃ F', F.Perm F' ∧ aJ (bK f ys) Fz w (bl e ys) F' := by
 have hone : ∀ {z : α × (Nat → Value)} {l : List (α × (Nat → Value))} {F : List Nat}, aJ (bK f (z :: l)) Fz w (bl e (z :: l)) F → ∃ F1 F2, F = F1 ++ F2 ∧ aJ (f z.1) Fz w ((List.range e).map z.2) F1 ∧ aJ (bK f l) Fz w (bl e l) F2 := by
  intro z l F h
  have h : aJ (f z.1 ++ bK f l) Fz w ((List.range e).map z.2 ++ bl e l) F := h
  obtain ⟨v1, v2, F1, F2, e1, rfl, h1, h2⟩ := h.split
  have hl : ((List.range e).map z.2).length = v1.length := by rw [h1.len, hf]; simp
  obtain ⟨rfl, rfl⟩ := List.append_inj e1 hl
  exact ⟨F1, F2, rfl, h1, h2⟩
 induction hp with
 | nil => intro F h; exact ⟨F, List.Perm.refl _, h⟩
 | cons z _ ih =>
  intro F h
  obtain ⟨F1, F2, rfl, h1, h2⟩ := hone h
  obtain ⟨F', k1, k2⟩ := ih h2
  exact ⟨F1 ++ F', gl F1 k1, h1.append k2⟩
 | swap z y l =>
  intro F h
  obtain ⟨F1, F2, rfl, h1, h2⟩ := hone h
  obtain ⟨F3, F4, rfl, h3, h4⟩ := hone h2
  refine ⟨F3 ++ (F1 ++ F4), ?_, h3.append (h1.append h4)⟩
  rw [← bw, ← bw]
  exact iy _ jj
 | trans _ _ ih1 ih2 =>
  intro F h
  obtain ⟨F1, k1, h1⟩ := ih1 h
  obtain ⟨F2, k2, h2⟩ := ih2 h1
  exact ⟨F2, k1.trans k2, h2⟩
section
variable {P : Program} {n : Nat} {h0 : Nat → Prop} {w0 : World} {Fz0 : av} {σ : St} {Q : Exit → St → Prop} {c : Code} {ops : Array Oper}
def vR {d t G : Nat} {cs qs : List PV} (hd : σ.b d = some (t, cs)) (hG : σ.s G = none) (hq : am cs qs) (hb : an qs) (h : ∀ us : List Value, (∃ Fz w, bO cs Fz w us) → SW P n h0 w0 Fz0 c ((σ.setB d (some (t, iS us qs))).set G (some (RV.gh us cs))) Q) : SW P n h0 w0 Fz0 c σ Q := fun a w hc => by
 obtain ⟨φ, Fz, Fp, hc⟩ := hc
 obtain ⟨cur, h1, h2⟩ := hc.box d _ hd
 have k0 := hc.pull G
 have e0 : ∀ i rv, (σ.set G none).s i = some rv → i ≠ G ∧ σ.s i = some rv := fun i rv hi => by
  rw [St.set_s] at hi
  split at hi
  ·cases hi
  ·rename_i hne; exact ⟨hne, hi⟩
 have hne : mv Fp (2 * G + 1) (2 * d + 2) = Fp (2 * d + 2) := by
  simp only [mv]; rw [if_neg (by omega), if_neg (by omega)]
 have hgn : mv Fp (2 * G + 1) (2 * G + 1) = [] := by simp [mv]
 generalize hFp1 : mv Fp (2 * G + 1) = Fp1 at k0 hne hgn
 refine h cur.toList ⟨Fz, w, h2.rel⟩ a w ⟨φ, Fz, kD Fp1 (2 * d + 2) (2 * G + 1), ?_⟩
 have hsub : ∀ r b, b ∈ kD Fp1 (2 * d + 2) (2 * G + 1) r → ∃ r', b ∈ Fp1 r' := fun r b hb => by
  rcases zi hb with ⟨_, k⟩ | ⟨_, _, k⟩
  ·exact ⟨_, k⟩
  ·exact ⟨_, k⟩
 exact { k0 with
  slot := fun i rv hi => by
   rw [St.set_s] at hi
   split at hi
   ·rename_i e
    subst e
    injection hi with hi
    subst hi
    show aJ cs Fz w cur.toList (kD Fp1 (2 * d + 2) (2 * i + 1) (2 * i + 1))
    simp only [kD, if_true]
    rw [hne]; exact h2
   ·rename_i e
    have := k0.slot i rv (by rw [St.set_s, if_neg e]; exact hi)
    simp only [kD]
    rw [if_neg (by omega), if_neg (by omega)]
    exact this
  box := fun e bx he => by
   rw [St.set_b, St.setB_b] at he
   split at he
   ·rename_i e'; subst e'; injection he with he; subst he
    refine ⟨cur, h1, ?_⟩
    simp only [kD]
    rw [if_neg (by omega), if_pos (by trivial)]
    exact vP hb (hq.rel h2.rel)
   ·rename_i e'
    obtain ⟨cur', k1, k2⟩ := k0.box e bx he
    refine ⟨cur', k1, ?_⟩
    simp only [kD]
    rw [if_neg (by omega), if_neg (by omega)]
    exact k2
  bxb := fun e bx he => by
   have : ∃ z, (σ.set G none).b e = some z := by
    rw [St.set_b, St.setB_b] at he
    split at he
    ·rename_i e'; subst e'; exact ⟨_, hd⟩
    ·exact ⟨_, he⟩
   obtain ⟨z, hz⟩ := this
   obtain ⟨g1, g2, g3⟩ := k0.bxb e z hz
   exact ⟨g1, g2, fun r hr => by obtain ⟨r', h'⟩ := hsub r _ hr; exact g3 r' h'⟩
  inj := fun e e' c1 c2 he he' => by
   have f : ∀ x y, ((σ.setB d (some (t, iS cur.toList qs))).set G (some (RV.gh cur.toList cs))).b x = some y → ∃ z, (σ.set G none).b x = some z := by
    intro x y hx
    rw [St.set_b, St.setB_b] at hx
    split at hx
    ·rename_i e'; subst e'; exact ⟨_, hd⟩
    ·exact ⟨_, hx⟩
   obtain ⟨z1, f1⟩ := f _ _ he
   obtain ⟨z2, f2⟩ := f _ _ he'
   exact k0.inj e e' z1 z2 f1 f2
  dis := RB k0.dis
  nod := RC k0.nod
  low := fun r b hb => by obtain ⟨r', h'⟩ := hsub r b hb; exact k0.low r' b h' }
def RQ {d t G e : Nat} {α : Type} {f g : α → List PV} {fN : α × (Nat → Value) → List PV} {xs : List α} {jk : List Value} (hd : σ.b d = some (t, bE f xs jk)) (hG : σ.s G = none) (hN : ∀ x h, fN (x, h) = dY h 0 (g x)) (hg : ∀ x, (g x).length = e) (hq : ∀ x, am (f x) (g x)) (hb : ∀ x, an (g x))
  (h : ∀ zs : List (α × (Nat → Value)), zs.map Prod.fst = xs → SW P n h0 w0 Fz0 c ((σ.setB d (some (t, bE fN zs jk))).set G (some (RV.gh (bl e zs) (bK f zs)))) Q) : SW P n h0 w0 Fz0 c σ Q := by
 refine vR hd hG (Fq hq xs) (RO hb xs jk) fun us hus => ?_
 intro a w hc
 have hfl : ∀ x, (f x).length = e := fun x => by rw [(hq x).len]; exact hg x
 have hlen : us.length = xs.length * e + (jk.map PV.val).length := by
  obtain ⟨_, _, hr⟩ := hus
  rw [hr.len]; unfold bE
  rw [aV, pe (e := e) (fun cs hcs => by obtain ⟨x, _, rfl⟩ := List.mem_map.1 hcs; exact hfl x), aq]
 obtain ⟨zs, vs, e1, e2, e3, e4⟩ := Fo hN hg (jk.map PV.val) xs us hlen
 have hvl : (bl e zs).length = (bK f zs).length := by
  unfold bl bK
  rw [pe (e := e) (fun cs hcs => by obtain ⟨x, _, rfl⟩ := List.mem_map.1 hcs; exact hfl x.1)]
  have : ∀ l : List (α × (Nat → Value)), (l.map fun z => (List.range e).map z.2).flatten.length = l.length * e := by
   intro l; induction l with
   | nil => simp
   | cons z l ih => rw [List.map_cons, List.flatten_cons, aV, ih, List.length_cons, Nat.succ_mul]; simp; omega
  rw [this, aq]
 have hfm : bK f zs = (xs.map f).flatten := by unfold bK; rw [← e1, List.map_map]; rfl
 refine h zs e1 a w ?_
 obtain ⟨φ, Fz, Fp, hc⟩ := hc
 refine ⟨φ, Fz, Fp, { hc with slot := fun i rv hi => ?_, box := fun b bx hb' => ?_, bxb := fun b bx hb' => ?_, inj := fun b b' c1 c2 hb1 hb2 => ?_ }⟩
 ·rw [St.set_s] at hi
  split at hi
  ·rename_i hiG
   injection hi with hi
   subst hi
   have := hc.slot i _ (by rw [St.set_s, if_pos hiG])
   have this : aJ (bE f xs jk) Fz w us (Fp (2 * i + 1)) := this
   unfold bE at this
   rw [e2] at this
   obtain ⟨v1, v2, F1, F2, k1, k2, k3, k4⟩ := this.split
   have hF2 : F2 = [] := by
    have : ∀ (jk : List Value) (v2 : List Value) (G2 : List Nat), aJ (jk.map PV.val) Fz w v2 G2 → G2 = [] := by
     intro jk
     induction jk with
     | nil => intro v2 G2 h; exact h.2
     | cons j jk ih =>
      intro v2 G2 h
      obtain ⟨v, vs', F1, F2, _, rfl, h1, h2⟩ := h
      rw [ih _ _ h2, h1.2]; rfl
    exact this _ _ _ k4
   obtain ⟨rfl, rfl⟩ := List.append_inj k1 (by rw [hvl, k3.len, hfm])
   show aJ (bK f zs) Fz w (bl e zs) (Fp (2 * i + 1))
   rw [k2, hF2, eg, hfm]; exact k3
  ·rename_i hiG
   exact hc.slot i rv (by rw [St.set_s, if_neg hiG]; exact hi)
 ·rw [St.set_b, St.setB_b] at hb'
  split at hb'
  ·rename_i hbd
   injection hb' with hb'
   subst hb'
   obtain ⟨cur, k1, k2⟩ := hc.box b (t, iS us ((xs.map g).flatten ++ jk.map PV.val)) (by rw [St.set_b, St.setB_b, if_pos hbd])
   refine ⟨cur, k1, ?_⟩
   have k2 : aJ (iS us ((xs.map g).flatten ++ jk.map PV.val)) Fz w cur.toList (Fp (2 * b + 2)) := k2
   rw [e4] at k2
   obtain ⟨v1, v2, F1, F2, q1, q2, q3, q4⟩ := k2.split
   rw [q1, q2]
   exact q3.append (Fr q4 (by rw [e3, aq]))
  ·rename_i hbd
   exact hc.box b bx (by rw [St.set_b, St.setB_b, if_neg hbd]; exact hb')
 ·have : ∃ z, ((σ.setB d (some (t, iS us ((xs.map g).flatten ++ jk.map PV.val)))).set G (some (RV.gh us (bE f xs jk)))).b b = some z := by
   rw [St.set_b, St.setB_b] at hb' ⊢
   split at hb'
   ·rename_i hbd; rw [if_pos hbd]; exact ⟨_, rfl⟩
   ·rename_i hbd; rw [if_neg hbd]; exact ⟨_, hb'⟩
  obtain ⟨z, hz⟩ := this
  exact hc.bxb b z hz
 ·have : ∀ x y, ((σ.setB d (some (t, bE fN zs jk))).set G (some (RV.gh (bl e zs) (bK f zs)))).b x = some y → ∃ z, ((σ.setB d (some (t, iS us ((xs.map g).flatten ++ jk.map PV.val)))).set G (some (RV.gh us (bE f xs jk)))).b x = some z := by
   intro x y hx
   rw [St.set_b, St.setB_b] at hx ⊢
   split at hx
   ·rename_i hbd; rw [if_pos hbd]; exact ⟨_, rfl⟩
   ·rename_i hbd; rw [if_neg hbd]; exact ⟨_, hx⟩
  obtain ⟨z1, f1⟩ := this _ _ hb1
  obtain ⟨z2, f2⟩ := this _ _ hb2
  exact hc.inj b b' z1 z2 f1 f2
def zE {α : Type} {g : α → List PV} {fN : α × (Nat → Value) → List PV} {e : Nat} (hN : ∀ x h, fN (x, h) = dY h 0 (g x)) (hg : ∀ x, (g x).length = e) {Fz : av} {w : World} : ∀ {zs : List (α × (Nat → Value))} {js : List PV} {us : List Value}, bO ((zs.map fN).flatten ++ js) Fz w us → ∃ vs, us = bl e zs ++ vs ∧ bO js Fz w vs
 | [], js, us, h => ⟨us, rfl, h⟩
 | z :: zs, js, us, h => by
  have hk : ∀ (ps : List PV) (i : Nat) (k : Nat → Value) (vs : List Value), bO (dY k i ps) Fz w vs → vs = (List.range' i ps.length).map k := by
   intro ps
   induction ps with
   | nil => intro i k vs h; exact h
   | cons p ps ih =>
    intro i k vs h
    obtain ⟨v, vs', rfl, h1, h2⟩ := h
    rw [ih _ _ _ h2, h1.1]; rfl
  simp only [List.map_cons, List.flatten_cons, bw] at h
  obtain ⟨v1, v2, rfl, h1, h2⟩ := h.split
  obtain ⟨vs, rfl, h3⟩ := zE hN hg h2
  obtain ⟨x, k⟩ := z
  rw [hN] at h1
  have := hk _ _ _ _ h1
  rw [hg] at this
  refine ⟨vs, ?_, h3⟩
  rw [this]
  simp [bl, List.range_eq_range']
end
end
section
def nU (L : Nat → Prop) (r r' : RV) : Prop := ∀ {φ : Nat → Nat} {Fz : av} {w : World} {v : Value} {F : List Nat}, (∀ b o, Fz b o → L b) → r.holds φ Fz w v F → r'.holds φ Fz w v []
def nU.sv {L : Nat → Prop} {ag : Bool} {cs qs : List PV} (ht : ab L cs qs) (hb : an qs) : nU L (RV.sv ag cs) (RV.sv ag qs) := fun hz h => ⟨h.1, hb.own (ht.rel hz h.2.rel)⟩
def nU.ptr {L : Nat → Prop} {d off : Nat} : nU L (RV.ptr d off) (RV.ptr d off) := fun _ h => ⟨h.1, rfl⟩
def qh (L : Nat → Prop) : List (Nat × RV) → List (Nat × RV) → Prop
 | [], [] => True
 | p :: l, q :: l' => (p.1 = q.1 ∧ nU L p.2 q.2) ∧ qh L l l'
 | _, _ => False
def qh.cons {L : Nat → Prop} {i : Nat} {r r' : RV} {l l' : List (Nat × RV)} (h : nU L r r') (k : qh L l l') : qh L ((i, r) :: l) ((i, r') :: l') := ⟨⟨rfl, h⟩, k⟩
def qh.at_ {L : Nat → Prop} {i : Nat} {r' : RV} : ∀ {l l' : List (Nat × RV)}, qh L l l' → lk l' i = some r' → ∃ r, lk l i = some r ∧ nU L r r'
 | [], [], _, h => by cases h
 | (j, r) :: l, (j', q) :: l', k, h => by
  obtain ⟨⟨e, k1⟩, k2⟩ := k
  dsimp only at e
  subst e
  rw [lk, beq_eq] at h ⊢
  by_cases hx : i = j
  ·rw [decide_eq_true hx] at h ⊢
   simp only [cond_true, Option.some.injEq] at h ⊢
   subst h
   exact ⟨r, rfl, k1⟩
  ·rw [decide_eq_false hx] at h ⊢
   simp only [cond_false] at h ⊢
   exact qh.at_ k2 h
section
variable {P : Program} {n : Nat} {h0 : Nat → Prop} {w0 : World} {Fz0 : av} {Q : Exit → St → Prop} {c : Code}
end
end
section
section
variable {P : Program} {n : Nat} {h0 : Nat → Prop} {w0 : World} {Fz0 : av}
section
variable {σ : St} {a : Act} {w : World} {φ : Nat → Nat} {Fz : av} {Fp : Nat → List Nat}
def bD.ghost (h : bD h0 w0 Fz0 n σ a w φ Fz Fp) {i : Nat} {rv : RV} {F X : List Nat} (hv : rv.holds φ Fz w (a.tmps.getD i undef) F) (hX : ∀ b, b ∈ F ++ X → b ∈ Fp 0) (hn : (F ++ X).Nodup) :
  bD h0 w0 Fz0 n (σ.set i (some rv)) a w φ Fz (cD Fp (2 * i + 1) F X) where
 bel := h.bel
 dfr := h.dfr
 siz := h.siz
 hlt := h.hlt
 fz0 := h.fz0
 fzl := h.fzl
 slot j rv' hj := by
  rw [St.set_s] at hj
  split at hj
  ·rename_i hji
   subst hji
   injection hj with hj
   subst hj
   unfold cD
   rw [if_pos rfl]; exact hv
  ·rename_i hne
   unfold cD
   rw [if_neg (by omega), if_neg (by omega)]
   exact h.slot j rv' hj
 box d cs hd := by
  obtain ⟨cur, h1, h2⟩ := h.box d cs hd
  refine ⟨cur, h1, ?_⟩
  unfold cD
  rw [if_neg (by omega), if_neg (by omega)]; exact h2
 bxb d cs hd := by
  obtain ⟨h1, h2, h3⟩ := h.bxb d cs hd
  refine ⟨h1, h2, fun r hr => ?_⟩
  rcases lI hr with ⟨_, hr⟩ | ⟨_, _, hr⟩ | ⟨_, _, hr⟩
  ·exact h3 0 (hX _ (by simp [hr]))
  ·exact h3 0 (hX _ (by simp [hr]))
  ·exact h3 _ hr
 inj d d' cs cs' := h.inj d d' cs cs'
 dis := vh (by omega) hX hn h.dis
 nod := vi hn h.nod
 low r b hb := by
  rcases lI hb with ⟨_, hr⟩ | ⟨_, _, hr⟩ | ⟨_, _, hr⟩
  ·exact h.low 0 b (hX _ (by simp [hr]))
  ·exact h.low 0 b (hX _ (by simp [hr]))
  ·exact h.low _ b hr
end
section
variable {ops : Array Oper} {Q : Exit → St → Prop}
end
def qi (r r' : RV) : Prop := ∀ {φ : Nat → Nat} {Fz : av} {w : World} {v : Value} {F : List Nat}, r.holds φ Fz w v F → r'.holds φ Fz w v F
def qi.refl {r : RV} : qi r r := fun h => h
def qi.sv {ag : Bool} {cs qs : List PV} (h : aN cs qs) : qi (RV.sv ag cs) (RV.sv ag qs) := fun hh => ⟨hh.1, h hh.2⟩
def qj (f : Nat → Option RV) (G : Nat) : List (Nat × RV) → Prop
 | [] => True
 | p :: l' => (Nat.beq p.1 G = false ∧ ∃ r, f p.1 = some r ∧ qi r p.2) ∧ qj f G l'
def qj.cons {f : Nat → Option RV} {G i : Nat} {r r' : RV} {l' : List (Nat × RV)} (h1 : Nat.beq i G = false) (h2 : f i = some r) (h3 : qi r r') (k : qj f G l') : qj f G ((i, r') :: l') := ⟨⟨h1, r, h2, h3⟩, k⟩
def qj.at_ {f : Nat → Option RV} {G i : Nat} {r' : RV} : ∀ {l' : List (Nat × RV)}, qj f G l' → (i, r') ∈ l' → i ≠ G ∧ ∃ r, f i = some r ∧ qi r r'
 | [], _, h => by simp at h
 | p :: l', k, h => by
  rcases List.mem_cons.1 h with rfl | h
  ·exact ⟨fun e => by have := k.1.1; dsimp only at this; rw [e] at this; simp at this, k.1.2⟩
  ·exact qj.at_ k.2 h
variable {Q : Exit → St → Prop} {c : Code}
def zF {σ : St} {s : Nat} {ag : Bool} {cs : List PV} (qs : List PV) (hs : σ.s s = some (RV.sv ag cs)) (ht : am cs qs) (hb : an qs) (h : SW P n h0 w0 Fz0 c (σ.set s (some (RV.sv ag qs))) Q) : SW P n h0 w0 Fz0 c σ Q := fun a w hc => by
 obtain ⟨φ, Fz, Fp, hc⟩ := hc
 have hv : bQ ag cs Fz w (a.tmps.getD s undef) (Fp (2 * s + 1)) := hc.slot s _ hs
 have c1 := (hc.pull s).reslot (s := s) (rv := RV.sv ag qs) (by
  have : mv Fp (2 * s + 1) (2 * s + 1) = [] := by simp [mv]
  rw [this]
  exact ⟨hv.1, hb.own (ht.rel hv.2.rel)⟩)
 exact h a w (bn.eqv ⟨φ, Fz, _, c1⟩ (fun i => by
  simp only [St.set_s]
  split <;> rfl) (fun d => rfl))
def qk (L : Nat → Prop) : List (Nat × (Nat × List PV)) → List (Nat × (Nat × List PV)) → Prop
 | [], [] => True
 | p :: b, q :: b' => (p.1 = q.1 ∧ p.2.1 = q.2.1 ∧ ab L p.2.2 q.2.2 ∧ an q.2.2) ∧ qk L b b'
 | _, _ => False
def qk.cons {L : Nat → Prop} {d t : Nat} {cs qs : List PV} {b b' : List (Nat × (Nat × List PV))} (h1 : ab L cs qs) (h2 : an qs) (k : qk L b b') : qk L ((d, (t, cs)) :: b) ((d, (t, qs)) :: b') := ⟨⟨rfl, rfl, h1, h2⟩, k⟩
def qk.at_ {L : Nat → Prop} {d t : Nat} {qs : List PV} : ∀ {b b' : List (Nat × (Nat × List PV))}, qk L b b' → lk b' d = some (t, qs) → ∃ cs, lk b d = some (t, cs) ∧ ab L cs qs ∧ an qs
 | [], [], _, h => by cases h
 | (j, (s, r)) :: l, (j', (s', q)) :: l', k, h => by
  obtain ⟨⟨e, e2, k1⟩, k2⟩ := k
  dsimp only at e e2 k1
  subst e e2
  rw [lk, beq_eq] at h ⊢
  by_cases hx : d = j
  ·rw [decide_eq_true hx] at h ⊢
   simp only [cond_true, Option.some.injEq, Prod.mk.injEq] at h ⊢
   obtain ⟨rfl, rfl⟩ := h
   exact ⟨r, ⟨rfl, rfl⟩, k1⟩
  ·rw [decide_eq_false hx] at h ⊢
   simp only [cond_false] at h ⊢
   exact qk.at_ k2 h
end
end
section
section
variable {P : Program} {n : Nat} {h0 : Nat → Prop} {w0 : World} {Fz0 : av}
end
def iT {P : Program} {n x d b off : Nat} {ty : TypeId} {pos : String} {af : Array Edge} {g : Option (Nat × Bool)} (hd : d < n) : Loc P n ⟨some d, .nilCheck (.tmp x), ty, pos, af, g⟩ ⟨[(x, RV.ptr b off)], [], [(d, some (RV.ptr b off))], [], none⟩ := by
 intro h0 w0 Fz0 σ a w K Q h1 h2 _ _ h5
 obtain ⟨φ, Fz, Fp, hc⟩ := h1
 have ex := (hc.slot x _ h2.1).1
 refine dE (v := .pointer (some ⟨φ b, off, none⟩)) (w' := w) ?_ (h5 _ _ (hc.put0 hd (r := RV.ptr b off) ⟨rfl, rfl⟩))
 unfold execOp
 simp only [Act.eval, ex, Sem.run_pure]
def nU.phi {L : Nat → Prop} {D g : Nat} : nU L (RV.phi D g) (RV.phi D g) := fun _ h => ⟨h.1, rfl⟩
section
variable {P : Program} {n : Nat} {h0 : Nat → Prop} {w0 : World} {Fz0 : av} {σ : St} {Q : Exit → St → Prop} {c : Code}
end
section
variable {P : Program} {n : Nat} {T T2 : TypeId} {x y : Operand} {d : Nat} {ty : TypeId} {pos : String} {af : Array Edge} {g : Option (Nat × Bool)} {i j : Int}
end
end
section
abbrev Ft := List UInt8
abbrev B (l : Ft) : ByteArray := ⟨l.toArray⟩
section
variable {P : Program} {n : Nat} {T T2 : TypeId} {x y : Operand} {d : Nat} {ty : TypeId} {pos : String} {af : Array Edge} {g : Option (Nat × Bool)} {s t : Ft}
end
structure tJ where
 rel : av → World → Prop
 mono : ∀ {Fz Fz' : av} {w w' : World}, rel Fz w → fP Fz w Fz' w' → rel Fz' w'
def RR (P : Program) (G : tJ) (f : FuncId) (args : List (Bool × List PV)) (r : RV) : Prop :=
 ∀ (w : World) (vs : List Value) (Fz : av), (∀ b o, Fz b o → b < w.heap.size) → G.rel Fz w → fC args Fz w vs → Calls P f vs.toArray w fun e w' => ∃ v Fz' F, e = .returned v ∧ Below w.heap.size w w' ∧
  (∀ b o, b < w.heap.size → (Fz' b o ↔ Fz b o)) ∧ (∀ b o, Fz' b o → b < w'.heap.size) ∧ (∀ φ, r.holds φ Fz' w' v F) ∧ F.Nodup ∧ ∀ b, b ∈ F → w.heap.size ≤ b ∧ b < w'.heap.size
def aB.g {P : Program} {G : tJ} {f : FuncId} {args : List (Bool × List PV)} {r : RV} (h : aB P f args r) : RR P G f args r := fun w vs Fz hz _ hr => h w vs Fz hz hr
section
variable {P : Program} {n : Nat} {G : tJ}
end
section
variable {P : Program} {G : tJ} {f : FuncId}
def rD.sc {v x : Value} {Fz : av} {w : World} (h : rD false [PV.val x] Fz w v) : v = x := (bQ.sc ⟨h.1, (an.cons (PV.bor_val _) an.nil).own h.2⟩).1
def rD.sl {v : Value} {es : List (List PV)} {Fz : av} {w : World} (h : rD false [PV.sl .v es] Fz w v) : mB es Fz w v :=
 (bQ.atom (p := PV.sl .v es) ⟨h.1, (an.cons (PV.bor_sl _) an.nil).own h.2⟩).1
end
end
end Go.Proofs.YtmekkgdboplbjaaGreat.M
namespace Go.Proofs.YtmekkgdboplbjaaGreat.M
open Go Go.RowKit Go.ChangeShapes Go.WideShapes
section
section
variable {H : Type} {enc : TypeId × Value → H} {P : Program} {W W' : World}
def Fu {sp : Nat → Bool} (hl : laidOutB P = true) (hsame : ∀ p : MemPlace, p.block < W.heap.size → W.sameAt W' p) : ∀ {ts : List TypeId} {vs : List Value} {ds : List (DataW H)} {ps : List MemPlace}, (ts.all fun t => P.readableRec t && Nat.blt t P.types.size) = true →
  DataW.TrodAll enc P W 0 (fun _ => true) true ts vs ds ps → (∀ p ∈ ps, p.block < W.heap.size) → (∀ p ∈ ps, sp p.block = true) → DataW.TrodAll enc P W' 0 sp true ts vs ds ps
 | [], vs, ds, ps, _, h, _, _ => by
  obtain ⟨rfl, rfl, rfl⟩ := trodAll_nil h
  exact trodAll_mk0
 | t :: ts, vs, ds, ps, ht, h, hlt, hs => by
  obtain ⟨v, vs', d, ds', p, q, rfl, rfl, rfl, h1, h2⟩ := trodAll_cons h
  rw [List.all_cons, bq, bq, Nat.blt_eq] at ht
  exact trodAll_cons_mk (WideElems.Trod_stays hl ht.1.1 ht.1.2 h1 (fun x hx => hsame x (hlt x (by simp [hx]))) (fun x hx => hs x (by simp [hx])))
   (Fu hl hsame ht.2 h2 (fun x hx => hlt x (by simp [hx])) (fun x hx => hs x (by simp [hx])))
def RS {f : Func} {s : ChangeSpec} {args : Array Value} {ds gs : List (DataW H)} {before : List MemPlace} {k : FuncId} {bt : TypeId} (hl : laidOutB P = true) (hr : (f.params.toList.all fun t => P.readableRec t && Nat.blt t P.types.size) = true)
  (hW : DataW.Whole enc P f.params.toList s.vars false W args.toList ds gs before) (hv : s.vars = []) (hrt : f.resultTypes = #[bt]) (hbt : P.underlying bt = some .bool) (hfn : s.fn H (ds ++ gs) = { results := [.lit (.bool true)], args := ds })
  (hcall : Calls P k args W fun e w' => e = .returned (.bool true) ∧ Below W.heap.size W w') :
  Calls P k args W fun e W' => ∃ v, e = .returned v ∧ s.post enc P f false true false false W args v W' := by
 refine hcall.mono fun e W' ⟨he, hb⟩ => ⟨_, he, ?_⟩
 have hlt : ∀ p ∈ before, p.block < W.heap.size := fun p hp => hW.lt p hp
 have hW' := hW
 obtain ⟨pa, q, hA, hV, rfl, hz, hn⟩ := hW
 rw [hv] at hV
 obtain ⟨rfl, rfl⟩ := trodVars_none hV
 have hres : ∀ (b : Nat) (sp : Nat → Bool) (hd : Bool), DataW.TrodAll enc P W' b sp hd f.resultTypes.toList ((Value.bool true).resultList f.resultTypes.size) (s.fn H (ds ++ [])).results [] := by
  intro b sp hd
  rw [hfn, hrt]
  exact trodAll_cons_mk (p' := []) (shut_bool hbt _) trodAll_mk0
 have hargs : ∀ sp : Nat → Bool, (∀ p ∈ pa ++ [], sp p.block = true) → DataW.TrodAll enc P W' 0 sp true f.params.toList args.toList (s.fn H (ds ++ [])).args pa := by
  intro sp hs
  rw [hfn]
  exact Fu hl (fun p hp => hb.same hp) hr hA (fun p hp => hlt p (by simp [hp])) (fun p hp => hs p (by simp [hp]))
 have hvars : ∀ sp : Nat → Bool, DataW.TrodVars enc P W' sp s.vars (s.fn H (ds ++ [])).vars [] := by
  intro sp
  rw [hfn, hv]
  exact rfl
 have hold : ∀ p ∈ pa ++ [], (fun b => decide (b < W.heap.size)) p.block = true := fun p hp => by simpa using hlt p hp
 have hok : ∀ (j : Nat) (t : TypeId) (r : Value), f.resultTypes[j]? = some t → ((Value.bool true).resultList f.resultTypes.size)[j]? = some r → Value.okWide P W' .any 0 t r := ok_one hrt rfl (okWide_bool_mk hbt _)
 refine ⟨ds, [], pa ++ [], [], pa, [], hW', hres _ _ _, hargs _ hold, hvars _, World.keptBut_mono (fun p hp => ⟨hp, ?_⟩) (hb.frame (· ∈ pa ++ [])), fun h => by cases h⟩
 simpa using hp
def tK (w : World) : av := fun b _ => b < w.heap.size
def RT {f : FuncId} {vs : List Value} {qs : List (Bool × List PV)} (hs : aB P f qs (aA [(false, [PV.val (.bool true)])])) (hr : fC qs (tK W) W vs) : Calls P f vs.toArray W fun e w' => e = .returned (.bool true) ∧ Below W.heap.size W w' :=
 (hs W vs (tK W) (fun _ _ h => h) hr).mono fun e w' ⟨v, Fz', F, he, hb, _, _, hv, _⟩ => ⟨by rw [he, (bQ.sc (hv fun _ => 0)).1], hb⟩
def fp (P : Program) (T : TypeId) {α : Type} (f : α → List PV) (g : α → Prop) : Prop :=
 ∀ {H : Type} (enc : TypeId × Value → H) (w : World) (sp : Nat → Bool) (held : Bool) (n : Nat) (cs : List Value) (x : DataW H × List MemPlace), DataW.trod enc P w 0 sp held n T cs = some x → ∃ a, bO (f a) (tK w) w cs ∧ g a
def RU {T : TypeId} (h : P.underlying T = some (.int .i64)) : fp P T (fun n : Int => [PV.val (vI n)]) mF := by
 intro H enc w sp held n cs x hx
 obtain ⟨m, rfl, _, hw⟩ := DataW.trod_int h hx
 exact ⟨m, ⟨_, [], rfl, ⟨rfl, rfl⟩, rfl⟩, bounds_i64 hw⟩
def nV {T E e : TypeId} {α : Type} {f : α → List PV} (hu : P.underlying T = some (.slice E)) (hc : P.cellsOf E = e) (he : 0 < e) {g : α → Prop} (hf : fp P E f g) (hlen : ∀ a, (f a).length = e) : fp P T (fun xs : List α => [PV.sl .v (xs.map f)]) fun xs => ∀ x ∈ xs, g x := by
 intro H enc w sp held n cs x hx
 subst hc
 rcases Deep.open_slice hu hx with ⟨rfl, _⟩ | ⟨a, len, cap, m, n', D, Pl, rfl, _, hlc, hcm, hm, _, hel⟩
 ·exact ⟨[], ⟨_, [], rfl, ⟨⟨none, 0, 0, fun _ _ => undef, rfl, Nat.le_refl _, Nat.zero_le _, by simp, .inl rfl, by simp⟩, True.intro⟩, rfl⟩, by simp⟩
 ·have hlm : len ≤ m := by rw [hm]; split <;> omega
  have key : ∀ i, i < len → ∃ (y : α × List Value), w.cells? 0 (a.add (i * P.cellsOf E)) (P.cellsOf E) = some y.2 ∧ bO (f y.1) (tK w) w y.2 ∧ g y.1 := by
   intro i hi
   obtain ⟨cs', h1, h2⟩ := hel i (by omega)
   obtain ⟨y, hy⟩ := hf enc w sp held n' cs' _ h2
   exact ⟨(y, cs'), h1, hy⟩
  by_cases hl0 : len = 0
  ·subst hl0
   exact ⟨[], ⟨_, [], rfl, ⟨⟨some a, cap, 0, fun _ _ => undef, rfl, Nat.zero_le _, hcm, by simp, .inl rfl, by simp⟩, True.intro⟩, rfl⟩, by simp⟩
  ·obtain ⟨y0, _, _⟩ := key 0 (by omega)
   have : Inhabited (α × List Value) := ⟨y0⟩
   obtain ⟨F, hF⟩ := Deep.choose_lt key
   obtain ⟨b, off, spt⟩ := a
   have hspt : spt = none := by
    obtain ⟨_, h2, h3⟩ := World.cells?_some (hF 0 (by omega)).1
    have h4 := h3 0 he
    rw [List.getElem?_eq_getElem (by rw [h2]; exact he), Nat.zero_mul] at h4
    cases spt with
    | none => rfl
    | some s => simp [Addr.add, World.cell?] at h4; split at h4 <;> simp at h4
   subst hspt
   have hcell : ∀ i j, i < len → j < P.cellsOf E → w.cell? ⟨b, off + (i * P.cellsOf E + j), none⟩ = some ((F i).2.getD j undef) := by
    intro i j hi hj
    obtain ⟨_, h2, h3⟩ := World.cells?_some (hF i hi).1
    have h4 := h3 j hj
    rw [kS, kS, Nat.add_assoc] at h4
    rw [h4, List.getD_eq_getElem?_getD, List.getElem?_eq_getElem (by rw [h2]; exact hj)]; rfl
   refine ⟨(List.range len).map fun i => (F i).1, ⟨_, [], rfl, ⟨⟨some ⟨b, off, none⟩, cap, P.cellsOf E, fun i j => (F i).2.getD j undef, by simp, by simpa using hlc, hcm, ?_, .inr ⟨b, off, rfl, ?_⟩, ?_⟩, True.intro⟩, rfl⟩, ?_⟩
   ·intro cs hcs
    obtain ⟨y, _, rfl⟩ := List.mem_map.1 hcs
    exact hlen y
   ·intro i j hi hj
    have hi' : i < len := by simpa using hi
    have h := hcell i j hi' hj
    exact ⟨World.block_lt_of_cell? w _ h, h⟩
   ·intro i cs j p hi hj
    have hi' : i < len := by have := (List.getElem?_eq_some_iff.1 hi).1; simpa using this
    simp [hi'] at hi
    subst hi
    obtain ⟨v, hv, hr⟩ := (hF i hi').2.1.at_ hj
    show p.rel _ _ ((F i).2.getD j undef)
    rw [List.getD_eq_getElem?_getD, hv]; exact hr
   ·intro y hy
    obtain ⟨i, hi, rfl⟩ := List.mem_map.1 hy
    exact (hF i (List.mem_range.1 hi)).2.2
def Fv (P : Program) (T : TypeId) : Option (List (TypeId × Nat × Nat)) := match P.underlying T with
 | some (.struct fs) => some (fs.toList.map fun f => (f.type, f.offset, P.cellsOf f.type))
 | _ => none
def lM {T : TypeId} {l : List (TypeId × Nat × Nat)} (hT : Fv P T = some l) {w : World} {sp : Nat → Bool} {held : Bool} {n : Nat} {cs : List Value} {x : DataW H × List MemPlace} (h : DataW.trod enc P w 0 sp held n T cs = some x) :
  cs.length = P.cellsOf T ∧ ∀ (i : Nat) (q : TypeId × Nat × Nat), l[i]? = some q → ∃ n' y, DataW.trod enc P w 0 sp held n' q.1 ((cs.drop q.2.1).take q.2.2) = some y := by
 unfold Fv at hT
 split at hT
 ·rename_i fs hu
  injection hT with hT
  subst hT
  obtain ⟨xs, n', _, rfl, hl, hlen, hf⟩ := DataW.trod_struct hu h
  refine ⟨hl, fun i q hq => ?_⟩
  simp only [List.getElem?_map] at hq
  cases hfi : fs.toList[i]? with
  | none => rw [hfi] at hq; cases hq
  | some fd =>
   rw [hfi] at hq
   simp only [Option.map_some, Option.some.injEq] at hq
   subst hq
   have hi : i < xs.length := by rw [hlen]; have := (List.getElem?_eq_some_iff.1 hfi).1; simpa using this
   exact ⟨n', xs[i], by rw [hf i fd (by simpa using hfi)]; exact List.getElem?_eq_getElem hi⟩
 ·cases hT
def co {w : World} {Fz : av} {ps qs : List PV} {cs : List Value} {o s : Nat} (h : bO ps Fz w ((cs.drop o).take s)) (k : bO qs Fz w (cs.drop (o + s))) : bO (ps ++ qs) Fz w (cs.drop o) := by
 have := h.append k
 rwa [← List.drop_drop, fc] at this
def lO {w : World} {Fz : av} {cs : List Value} {o : Nat} (h : cs.length = o) : bO [] Fz w (cs.drop o) := by
 subst h; exact List.drop_length ..
def Fw {T : TypeId} {ag : Bool} {k : Nat} {α : Type} {f : α → List PV} {g : α → Prop} (hT : bR P T = some (ag, k)) (hs : fp P T f g) {w : World} {r : Reach} {b0 : Nat} {v : Value} {d : DataW H} {ps : List MemPlace} (hval : Value.okWide P w r b0 T v) (h : DataW.Trod enc P w 0 (fun _ => true) true T v d ps) :
  ∃ a, rD ag (f a) (tK w) w v ∧ g a := by
 obtain ⟨n, hn⟩ := h
 obtain ⟨a, ha, hg⟩ := hs enc w _ _ n _ _ hn
 refine ⟨a, ⟨?_, ha⟩, hg⟩
 unfold bR at hT
 cases hu : P.underlying T with
 | none => rw [hu] at hT; cases hT
 | some dd =>
  cases hi : P.info? T with
  | none => rw [hu, hi] at hT; cases hT
  | some i =>
   rw [hu, hi] at hT
   simp only [Option.some.injEq, Prod.mk.injEq] at hT
   obtain ⟨hT, _⟩ := hT
   unfold Value.okWide at hval
   rw [hu] at hval
   cases dd <;> simp only at hT hval <;> subst hT <;> first
    | (obtain ⟨cs, rfl, _⟩ := hval; rfl)
    | (cases v <;> first | rfl | (simp [Cell.okWide, Cell.ok, hu] at hval))
end
end
end Go.Proofs.YtmekkgdboplbjaaGreat.M
namespace Go.Proofs.YtmekkgdboplbjaaGreat.M
open Go Go.RowKit
section
section
variable {P : Program} {n d : Nat} {ty : TypeId} {pos : String} {af : Array Edge} {g : Option (Nat × Bool)} {G : tJ}
end
end
section
section
variable {h0 : Nat → Prop} {n : Nat} {w0 w : World} {Fz0 Fz : av} {σ : St} {a : Act} {φ : Nat → Nat} {Fp : Nat → List Nat} {P : Program} {c : Code} {Q : Exit → St → Prop}
end
end
end Go.Proofs.YtmekkgdboplbjaaGreat.M
namespace Go.Proofs.YtmekkgdboplbjaaGreat.M
open Go
section
inductive fg (s : Nat → Option RV) : List Nat → List (Nat × RV) → Prop
 | nil : fg s [] []
 | cons {k : Nat} {v : RV} {ks : List Nat} {l : List (Nat × RV)} (h : s k = some v) (t : fg s ks l) : fg s (k :: ks) ((k, v) :: l)
def fg.rd {s : Nat → Option RV} {ks : List Nat} {l : List (Nat × RV)} (h : fg s ks l) : bb l s := by
 induction h with
 | nil => exact True.intro
 | cons h _ ih => exact And.intro h ih
inductive iE (b : Nat → Option (Nat × List PV)) : List Nat → List (Nat × (Nat × List PV)) → Prop
 | nil : iE b [] []
 | cons {k : Nat} {v : Nat × List PV} {ks : List Nat} {l : List (Nat × (Nat × List PV))} (h : b k = some v) (t : iE b ks l) : iE b (k :: ks) ((k, v) :: l)
def iE.rd {b : Nat → Option (Nat × List PV)} {ks : List Nat} {l : List (Nat × (Nat × List PV))} (h : iE b ks l) : bb l b := by
 induction h with
 | nil => exact True.intro
 | cons h _ ih => exact And.intro h ih
def qq : (∀ {p : Prop} [Decidable p], (decide p = true) = p) ∧ (∀ {p : Prop} [Decidable p], decide p = false ↔ ¬ p) ∧ (∀ {α : Type} [BEq α] [LawfulBEq α] {a b : α}, (a != b) = true ↔ a ≠ b) ∧ (∀ {α : Type} [BEq α] [LawfulBEq α] {a b : α}, (a == b) = true ↔ a = b) ∧ (∀ {b : Bool}, ((!b) = true) = (b = false)) ∧ (∀ {b : Bool}, ((!b) = false) = (b = true)) ∧ (∀ {α : Type} {a b : α}, (a ≠ b) = ¬ a = b) ∧ (∀ {α : Type} [BEq α] [LawfulBEq α] {a b : α}, (a != b) = false ↔ a = b) ∧ (∀ {α : Type} [BEq α] [LawfulBEq α] {a b : α}, (a == b) = false ↔ a ≠ b) :=
 ⟨q1, q2, q3, q4, q5, q6, q7, q8, q9⟩
def Fy {L : Nat → Prop} {a b : List PV} (h : ai L a) (k : ai L b) : ai L (List.append a b) := ai.app h k
def lc {G : Prop} (h : G := by repeat' (first | with_reducible (first | exact kT.nil | exact ai.nil | exact ai.vals | exact PV.lcl_val | exact PV.lcl_any | exact RV.lcl_hdr | exact RV.lcl_ptr | exact RV.lcl_gat | exact RV.lcl_phi | apply kT.cons | apply ai.cons | apply RV.lcl_nm | apply RV.lcl_sv | apply RV.lcl_gh | apply PV.lcl_nv | apply PV.lcl_own | apply ai.flat | apply ai.app | apply Fy | refine ai.map fun _ => ?_) | apply ai.cons | apply kT.cons | exact ai.nil | refine ai.map fun _ => ?_)) : G := h
def aI {a b : Prop} (x : a) (y : b) : a ∧ b := ⟨x, y⟩
def tI : True := True.intro
def nl {a b : Nat} (h : Nat.ble a b = true) : a ≤ b := Nat.le_of_ble_eq_true h
section
variable {P : Program} {n : Nat} {h0 : Nat → Prop} {w0 : World} {Fz0 : av} {c x y : Code} {σ : St} {Q : Exit → St → Prop}
def sP (ks bs : List Nat) {l : List (Nat × RV)} {b : List (Nat × (Nat × List PV))} (h : SW P n h0 w0 Fz0 c (St.of l b) Q) (hl : fg σ.s ks l := by repeat (first | exact fg.nil | apply fg.cons rfl)) (hb : iE σ.b bs b := by repeat (first | exact iE.nil | apply iE.cons rfl)) : SW P n h0 w0 Fz0 c σ Q := sO l b h hl.rd hb.rd
def sS {id : Nat} {ops : Array Oper} (ks bs : List Nat) {l : List (Nat × RV)} {b : List (Nat × (Nat × List PV))} (h : ar P n ops (fun τ => rH (fun τ => SW P n h0 w0 Fz0 y τ Q) Q .normal τ) ops.toList (St.of l b)) (hl : fg σ.s ks l := by repeat (first | exact fg.nil | apply fg.cons rfl)) (hb : iE σ.b bs b := by repeat (first | exact iE.nil | apply iE.cons rfl)) : SW P n h0 w0 Fz0 (.seq (.region id ops false) y) σ Q := aP (sO l b (bf h) hl.rd hb.rd)
def sG {id : Nat} {ops : Array Oper} (ks bs : List Nat) {l : List (Nat × RV)} {b : List (Nat × (Nat × List PV))} (h : ar P n ops (fun τ => Q .normal τ) ops.toList (St.of l b)) (hl : fg σ.s ks l := by repeat (first | exact fg.nil | apply fg.cons rfl)) (hb : iE σ.b bs b := by repeat (first | exact iE.nil | apply iE.cons rfl)) : SW P n h0 w0 Fz0 (.region id ops false) σ Q := sO l b (bf h) hl.rd hb.rd
def sL {ι : Type} (ks bs : List Nat) (I : ι → Prop) {l0 : List (Nat × RV)} {b0 : List (Nat × (Nat × List PV))} (l : ι → List (Nat × RV)) (b : ι → List (Nat × (Nat × List PV))) (m : ι → Nat) (i0 : ι) (h0' : I i0) (hl : bb (l i0) σ.s) (hb : bb (b i0) σ.b)
  (round : ∀ i, I i → SW P n h0 w0 Fz0 c (St.of (l0 ++ l i) (b0 ++ b i)) (rH (fun τ => ∃ j, I j ∧ m j < m i ∧ (bb l0 τ.s ∧ bb b0 τ.b) ∧ bb (l j) τ.s ∧ bb (b j) τ.b) Q)) (hl0 : fg σ.s ks l0 := by repeat (first | exact fg.nil | apply fg.cons rfl)) (hb0 : iE σ.b bs b0 := by repeat (first | exact iE.nil | apply iE.cons rfl)) : SW P n h0 w0 Fz0 (.loop c) σ Q := Rl I l b m i0 h0' hl0.rd hb0.rd hl hb round
def sR {id : Nat} {ops : Array Oper} (h : ar P n ops (fun τ => rH (fun τ => SW P n h0 w0 Fz0 y τ Q) Q .normal τ) ops.toList σ) : SW P n h0 w0 Fz0 (.seq (.region id ops false) y) σ Q := aP (bf h)
end
section
variable {P : Program} {n : Nat} {ops : Array Oper} {σ : St} {QS : St → Prop} {l : List Oper} {d x : Nat} {ty : TypeId} {pos : String} {af : Array Edge}
def rM {v : Value} (y : ar P n ops QS l (σ.app ⟨[(x, RV.sc v)], [], [(d, some (RV.sc v))], [], none⟩)) (h1 : bb [(x, RV.sc v)] σ.s := by repeat (first | exact True.intro | refine And.intro rfl ?_)) (hd : d < n := by decide) : ar P n ops QS (⟨some d, .move (.tmp x), ty, pos, af, none⟩ :: l) σ := rA y h1 True.intro (sM hd) rfl rfl
def rS {v : Value} (y : ar P n ops QS l (σ.app ⟨[(x, RV.sc v)], [], [(d, some (RV.sc v))], [], none⟩)) (h1 : bb [(x, RV.sc v)] σ.s := by repeat (first | exact True.intro | refine And.intro rfl ?_)) (hd : d < n := by decide) : ar P n ops QS (⟨some d, .assign (.tmp x), ty, pos, af, none⟩ :: l) σ := rA y h1 True.intro (sA hd) rfl rfl
def rK {v : Value} (y : ar P n ops QS l (σ.app ⟨[], [], [(d, some (RV.sc v))], [], none⟩)) (h : v.oneCell' = true := by exact rfl) (hd : d < n := by decide) : ar P n ops QS (⟨some d, .assign (.const v), ty, pos, af, none⟩ :: l) σ := rA y True.intro True.intro (kA h hd) rfl rfl
end
end
end Go.Proofs.YtmekkgdboplbjaaGreat.M
namespace Go.Proofs.YtmekkgdboplbjaaGreat.M
open Go Go.RowKit
section
inductive iF : List PV → List PV → Prop
 | nil : iF [] []
 | val {v : Value} {l m : List PV} (h : iF l m) : iF (PV.val v :: l) (PV.val v :: m)
 | sl {o : Fl} {es : List (List PV)} {l m : List PV} (h : iF l m) : iF (PV.sl o es :: l) (PV.sl o es :: m)
def iF.eq {l m : List PV} (h : iF l m) : l = m := by
 induction h with
 | nil => rfl
 | val _ ih => rw [ih]
 | sl _ ih => rw [ih]
inductive hI (b : Nat → Option (Nat × List PV)) : List Nat → List (Nat × (Nat × List PV)) → Prop
 | nil : hI b [] []
 | cons {k T : Nat} {cs ds : List PV} {ks : List Nat} {l : List (Nat × (Nat × List PV))} (h : b k = some (T, cs)) (e : iF cs ds) (t : hI b ks l) : hI b (k :: ks) ((k, (T, ds)) :: l)
 | any {k T : Nat} {cs : List PV} {ks : List Nat} {l : List (Nat × (Nat × List PV))} (h : b k = some (T, cs)) (t : hI b ks l) : hI b (k :: ks) ((k, (T, cs)) :: l)
def hI.rd {b : Nat → Option (Nat × List PV)} {ks : List Nat} {l : List (Nat × (Nat × List PV))} (h : hI b ks l) : bb l b := by
 induction h with
 | nil => exact True.intro
 | cons h e _ ih => exact And.intro (e.eq ▸ h) ih
 | any h _ ih => exact And.intro h ih
section
variable {P : Program} {n : Nat} {h0 : Nat → Prop} {w0 : World} {Fz0 : av} {c x y : Code} {σ : St} {Q : Exit → St → Prop}
def sQ (ks bs : List Nat) {l : List (Nat × RV)} {b : List (Nat × (Nat × List PV))} (h : SW P n h0 w0 Fz0 c (St.of l b) Q) (hl : fg σ.s ks l := by repeat (first | exact fg.nil | apply fg.cons rfl)) (hb : hI σ.b bs b := by repeat (first | exact hI.nil | refine hI.cons rfl (by repeat (first | exact iF.nil | apply iF.val | apply iF.sl)) ?_ | apply hI.any rfl)) : SW P n h0 w0 Fz0 c σ Q := sO l b h hl.rd hb.rd
def sT {id : Nat} {ops : Array Oper} (ks bs : List Nat) {l : List (Nat × RV)} {b : List (Nat × (Nat × List PV))} (h : ar P n ops (fun τ => rH (fun τ => SW P n h0 w0 Fz0 y τ Q) Q .normal τ) ops.toList (St.of l b)) (hl : fg σ.s ks l := by repeat (first | exact fg.nil | apply fg.cons rfl)) (hb : hI σ.b bs b := by repeat (first | exact hI.nil | refine hI.cons rfl (by repeat (first | exact iF.nil | apply iF.val | apply iF.sl)) ?_ | apply hI.any rfl)) : SW P n h0 w0 Fz0 (.seq (.region id ops false) y) σ Q := aP (sO l b (bf h) hl.rd hb.rd)
def sH {id : Nat} {ops : Array Oper} (ks bs : List Nat) {l : List (Nat × RV)} {b : List (Nat × (Nat × List PV))} (h : ar P n ops (fun τ => Q .normal τ) ops.toList (St.of l b)) (hl : fg σ.s ks l := by repeat (first | exact fg.nil | apply fg.cons rfl)) (hb : hI σ.b bs b := by repeat (first | exact hI.nil | refine hI.cons rfl (by repeat (first | exact iF.nil | apply iF.val | apply iF.sl)) ?_ | apply hI.any rfl)) : SW P n h0 w0 Fz0 (.region id ops false) σ Q := sO l b (bf h) hl.rd hb.rd
def nx {ι : Type} {I : ι → Prop} {m : ι → Nat} {M : Nat} {C D : Prop} {E F : ι → Prop} (j : ι) (a : I j) (b : m j < M := by first | omega | (dsimp only; omega)) (c : C := by repeat (first | exact True.intro | refine And.intro rfl ?_)) (d : D := by repeat (first | exact True.intro | refine And.intro rfl ?_)) (e : E j := by repeat (first | exact True.intro | refine And.intro rfl ?_)) (f : F j := by repeat (first | exact True.intro | refine And.intro rfl ?_)) : ∃ j, I j ∧ m j < M ∧ (C ∧ D) ∧ E j ∧ F j := ⟨j, a, b, ⟨c, d⟩, e, f⟩
def sF {f : FuncId} {fn : Func} {c : Code} {args rs : List (Bool × List PV)} (hf : P.funcs[f]? = some fn) (h : ∀ (h0 : Nat → Prop) (w0 : World) (Fz0 : av), SW P fn.ntmps h0 w0 Fz0 c (St.of (gN 0 args) []) (tv P fn.results.toList rs)) (hb : fn.body = some c := by exact rfl) (hn : args.length ≤ fn.ntmps := by exact Nat.le_of_ble_eq_true rfl)
  (hbor : vv args := by repeat (first | with_reducible exact jR | with_reducible refine jS (by repeat (first | with_reducible exact an.nil | with_reducible refine an.cons (PV.bor_val _) ?_ | with_reducible refine an.cons (PV.bor_sl _) ?_ | with_reducible refine an.cons (PV.bor_lo _ _) ?_)) ?_)) : aB P f args (aA rs) := Rn hf hb hn hbor h
def sn (s j : Nat) {ag : Bool} {cs : List PV} {o : Fl} {es : List (List PV)} {m : Nat} (h : m ≤ 9223372036854775807 → SW P n h0 w0 Fz0 c σ Q) (hs : σ.s s = some (RV.sv ag cs) := by exact rfl) (hj : cs[j]? = some (PV.sl o es) := by exact rfl) (hm : es.length = m := by first | exact aq _ | exact rfl) : SW P n h0 w0 Fz0 c σ Q := Rs hs hj fun k => h (hm ▸ k)
def sj (s : Nat) {o : Fl} {es : List (List PV)} {m : Nat} (h : m ≤ 9223372036854775807 → SW P n h0 w0 Fz0 c σ Q) (hs : σ.s s = some (RV.slc o es) := by exact rfl) (hm : es.length = m := by first | exact aq _ | exact rfl) : SW P n h0 w0 Fz0 c σ Q := Rm hs fun k => h (hm ▸ k)
def sc {t : Nat} {b : Bool} {A B : Prop} (h1 : A → SW P n h0 w0 Fz0 x σ Q) (h2 : B → SW P n h0 w0 Fz0 y σ Q) (ht : σ.s t = some (RV.bool b) := by exact rfl) (u1 : b = true → A := by first | (intro h; simp only [qq] at h; exact h) | exact id) (u2 : b = false → B := by first | (intro h; simp only [qq] at h; exact h) | exact id) : SW P n h0 w0 Fz0 (.cond (.tmp t) x y) σ Q := zd ht (fun k => h1 (u1 k)) (fun k => h2 (u2 k))
def dr {t : Nat} (h1 : SW P n h0 w0 Fz0 x σ Q) (ht : σ.s t = some (RV.bool true) := by exact rfl) : SW P n h0 w0 Fz0 (.cond (.tmp t) x y) σ Q := zd ht (fun _ => h1) (fun k => nomatch k)
def fT {t : Nat} (h1 : SW P n h0 w0 Fz0 y σ Q) (ht : σ.s t = some (RV.bool false) := by exact rfl) : SW P n h0 w0 Fz0 (.cond (.tmp t) x y) σ Q := zd ht (fun k => nomatch k) (fun _ => h1)
end
section
variable {P : Program} {n : Nat} {ops : Array Oper} {σ σ0 : St} {QS : St → Prop} {l : List Oper} {o : Oper} {acc : List (Nat × aF)} {C : Nat → aF → Prop}
def cx (s : Nat) {b : Bool} {A B : Prop} (h1 : b = true → A → ar P n ops QS l σ) (h2 : b = false → B → ar P n ops QS l σ) (ht : σ.s s = some (RV.bool b) := by exact rfl) (u1 : b = true → A := by first | (intro h; simp only [qq] at h; exact h) | exact id) (u2 : b = false → B := by first | (intro h; simp only [qq] at h; exact h) | exact id) : ar P n ops QS l σ := ar.cases ht (fun k => h1 k (u1 k)) (fun k => h2 k (u2 k))
def dx (s : Nat) {b : Bool} {A B : Prop} (h1 : b = true → A → cb P n ops σ0 C QS l acc σ) (h2 : b = false → B → cb P n ops σ0 C QS l acc σ) (ht : σ.s s = some (RV.bool b) := by exact rfl) (u1 : b = true → A := by first | (intro h; simp only [qq] at h; exact h) | exact id) (u2 : b = false → B := by first | (intro h; simp only [qq] at h; exact h) | exact id) : cb P n ops σ0 C QS l acc σ := cb.cases ht (fun k => h1 k (u1 k)) (fun k => h2 k (u2 k))
inductive Hd (H : Prop) : Prop
 | mk (h : H) : Hd H
def Hd.g {H : Prop} : Hd H → H := fun x => by cases x with | mk h => exact h
abbrev ae (G H : Prop) := Hd H → G
def ah {G H : Prop} (w : ae G H) (h : H) : G := w ⟨h⟩
def zt {c : Bool} {G H : Prop} (g : c = true) (h : H) (w : c = true → Hd H → G := by intro g_ h_; (repeat (first | refine ar.s0t g_ ?_ | refine ar.su ?_)); exact h_.g) : G := w g ⟨h⟩
def zf {c : Bool} {G H : Prop} (g : c = false) (h : H) (w : c = false → Hd H → G := by intro g_ h_; (repeat (first | refine ar.s0f g_ ?_ | refine ar.su ?_)); exact h_.g) : G := w g ⟨h⟩
def rX {L : aF} (y : ar P n ops QS l (σ.app L)) (h1 : bb L.rs σ.s := by repeat (first | exact True.intro | refine And.intro rfl ?_)) (h2 : bb L.rb σ.b := by repeat (first | exact True.intro | refine And.intro rfl ?_)) (x : Loc P n o L) (hg : o.guard = none := by exact rfl) (ha : ∀ d, L.al = some d → cS d σ := by refine pd ?_; repeat (first | exact cS.of_ rfl | refine cS.app ?_ rfl)) : ar P n ops QS (o :: l) σ := ar.step h1 h2 (ay.of hg x) ha y
def dX {L : aF} (m : Nat) (y : cb P n ops σ0 C QS l (acc ++ [(m, L)]) (σ.app L)) (h1 : bb L.rs σ.s := by repeat (first | exact True.intro | refine And.intro rfl ?_)) (h2 : bb L.rb σ.b := by repeat (first | exact True.intro | refine And.intro rfl ?_)) (x : Loc P n o L) (hg : o.guard = none := by exact rfl) (ha : ∀ d, L.al = some d → cS d σ0 := by exact aG) (h4 : mE m o L acc = true := by kernel_rfl) (hC : C acc.length L := by show (List.all _ _) = true; kernel_rfl) : cb P n ops σ0 C QS (o :: l) acc σ := cb.stepC m h1 h2 (ay.of hg x) ha h4 hC y
end
def rb {b c : Bool} (h : b = c) : some (RV.bool b) = some (RV.bool c) ∧ True := ⟨gZ h, True.intro⟩
def RW {L : Nat → Prop} : ∀ cs, cs ∈ ([] : List (List PV)) → ai L cs := fun _ h => nomatch h
def RX {L : Nat → Prop} : ∀ cs, cs ∈ ([] : List (List PV)) → iO L cs := fun _ h => nomatch h
def lq {G : Prop} (h : G := by repeat' (first | with_reducible (first | exact ai.nil | exact ai.vals | exact iO.nil | exact PV.lcl_val | exact PV.lclr_val | exact PV.lcl_any | exact RV.lcl_hdr | exact RV.lcl_ptr | exact RV.lcl_gat | exact RV.lcl_phi | exact an.nil | exact PV.bor_val _ | exact PV.bor_sl _ | exact PV.bor_lo _ _ | exact PV.bor_any | exact PV.bor_clo _ _ | exact PV.bor_ep _ | apply PV.bor_nv | exact jR | exact ab.nil | exact PV.tob_refl | exact aN.nil | exact OTo.refl | exact OTo.lo | apply ai.cons | apply iO.cons | apply an.cons | apply jS | apply ab.cons | apply aN.cons | apply RV.lcl_nm | apply RV.lcl_sv | apply RV.lcl_gh | apply PV.lcl_nv | apply PV.lcl_own | apply PV.lcl_lo | apply PV.lclr_lo | apply ai.flat | apply ai.app | apply Fy | refine ai.map fun _ => ?_ | refine iO.map fun _ => ?_ | refine PV.tob_map (fun _ => Nat.le_of_ble_eq_true rfl) (fun _ => ?_) | exact True.intro | exact kT.nil | apply kT.cons) | apply ai.cons | apply iO.cons | apply ab.cons | apply an.cons | apply jS | exact ai.nil | exact iO.nil | exact ab.nil | exact an.nil | exact jR | exact RW | exact RX | apply aN.cons | apply RV.lcl_sv | exact RV.lcl_ptr | exact True.intro | exact Or.inl rfl | (refine Or.inl ?_; simp [jm]; done) | refine Or.inr ?_ | refine And.intro rfl ?_ | refine And.intro ?_ ?_ | exact rfl | refine ai.map fun _ => ?_)) : G := h
end
section
def vS {α : Type} {f g : α → List PV} {fN : α × (Nat → Value) → List PV} {e : Nat} (hN : ∀ x h, fN (x, h) = dY h 0 (g x)) (hg : ∀ x, (g x).length = e) (hq : ∀ x, am (f x) (g x)) (hb : ∀ x, an (g x)) {Fz : av} {w : World} : ∀ {xs : List α} {css : List Value} {F : List Nat}, cc e (xs.map f) Fz w css F →
  ∃ zs : List (α × (Nat → Value)), zs.map Prod.fst = xs ∧ css = bl e zs ∧ cc e (zs.map fN) Fz w css [] ∧ aJ (bK f zs) Fz w (bl e zs) F
 | [], css, F, h => by
  obtain ⟨rfl, rfl⟩ := h
  exact ⟨[], rfl, rfl, ⟨rfl, rfl⟩, ⟨rfl, rfl⟩⟩
 | x :: xs, css, F, h => by
  obtain ⟨c, d, F1, F2, rfl, rfl, hl, h1, h2⟩ := h
  obtain ⟨zs, e1, e2, e3, e4⟩ := vS hN hg hq hb h2
  obtain ⟨k, hk⟩ := zD hl
  refine ⟨(x, k) :: zs, by rw [List.map_cons, e1], ?_, ?_, ?_⟩
  ·rw [hk, e2]; rfl
  ·refine ⟨c, d, [], [], rfl, rfl, hl, ?_, e3⟩
   rw [hN, vQ, hg, ← List.range_eq_range', ← hk]
   exact vP (hb x) ((hq x).rel h1.rel)
  ·have : aJ (f x ++ bK f zs) Fz w (c ++ bl e zs) (F1 ++ F2) := h1.append e4
   rw [hk] at this; exact this
section
variable {P : Program} {n : Nat} {h0 : Nat → Prop} {w0 : World} {Fz0 : av} {σ : St} {Q : Exit → St → Prop} {c : Code}
def FC {s t e G : Nat} {α : Type} {f g : α → List PV} {fN : α × (Nat → Value) → List PV} {xs : List α} (hs : σ.s s = some (RV.sv false [PV.sl (.own t e) (xs.map f)])) (hsG : Nat.beq s G = false) (hG : σ.s G = none) (hN : ∀ x h, fN (x, h) = dY h 0 (g x)) (hg : ∀ x, (g x).length = e) (hq : ∀ x, am (f x) (g x)) (hb : ∀ x, an (g x))
  (h : ∀ zs : List (α × (Nat → Value)), zs.map Prod.fst = xs → SW P n h0 w0 Fz0 c ((σ.set s (some (RV.sv false [PV.sl .v (zs.map fN)]))).set G (some (RV.gh (bl e zs) (bK f zs)))) Q) : SW P n h0 w0 Fz0 c σ Q := fun a w hc => by
 rw [beq_eq, decide_eq_false_iff_not] at hsG
 obtain ⟨φ, Fz, Fp, hc⟩ := hc
 have hv : bQ false [PV.sl (.own t e) (xs.map f)] Fz w (a.tmps.getD s undef) (Fp (2 * s + 1)) := hc.slot s _ hs
 obtain ⟨hag, v, vs', F1, F2, hv1, hF, ho, hnil, rfl⟩ := hv
 subst hnil
 have ho : db t e (xs.map f) Fz w v F1 := ho
 obtain ⟨css, F', hrow, hll, hfz, rfl, hone⟩ := ho
 obtain ⟨zs, e1, e2, e3, e4⟩ := vS hN hg hq hb hll
 have hlen : (zs.map fN).length = (xs.map f).length := by rw [aq, aq, ← e1, aq]
 have hsl : db t e (zs.map fN) Fz w v (v.ownBlock.toList ++ []) := ⟨css, [], by rw [hlen]; exact hrow, e3, fun g hg o => by rw [hlen]; exact hfz g hg o, rfl, hone⟩
 have c1 := hc.pull s
 have e0 : mv Fp (2 * s + 1) 0 = Fp (2 * s + 1) ++ Fp 0 := by simp [mv]
 have es : mv Fp (2 * s + 1) (2 * s + 1) = [] := by simp [mv]
 have hnd := c1.nod 0
 rw [e0, hF, eg] at hnd
 rw [hF, eg] at e0
 have c2 := c1.reslot (s := s) (rv := RV.sv false [PV.sl .v (zs.map fN)]) (by
  rw [es]
  exact ⟨hag, v, [], [], [], hv1, rfl, ⟨hsl.rel, rfl⟩, rfl, rfl⟩)
 have c3 := c2.pushG (G := G) (us := bl e zs) (cs := bK f zs) (F := F') (X := Fp 0) e4 (fun b hb => by
   rw [e0]
   rcases List.mem_append.1 hb with hb | hb
   ·simp [hb]
   ·simp [hb])
  (by
   rw [bw] at hnd
   exact (List.nodup_append.1 hnd).2.1)
 exact h zs e1 a w (bn.eqv ⟨_, _, _, c3⟩ (fun i => by
  simp only [St.set_s]
  split
  ·rfl
  ·split <;> rfl) (fun d => rfl))
def FD {G H e : Nat} {α : Type} {f : α → List PV} {ys zs : List (α × (Nat → Value))} (hG : σ.s G = some (RV.gh (bl e ys) (bK f ys))) (hH : σ.s H = some (RV.gh (bl e zs) (bK f zs))) (hGH : Nat.beq G H = false) (h : SW P n h0 w0 Fz0 c ((σ.set H none).set G (some (RV.gh (bl e (ys ++ zs)) (bK f (ys ++ zs))))) Q) : SW P n h0 w0 Fz0 c σ Q := fun a w hc => by
 rw [beq_eq, decide_eq_false_iff_not] at hGH
 obtain ⟨φ, Fz, Fp, hc⟩ := hc
 have h1 : aJ (bK f ys) Fz w (bl e ys) (Fp (2 * G + 1)) := hc.slot G _ hG
 have h2 : aJ (bK f zs) Fz w (bl e zs) (Fp (2 * H + 1)) := hc.slot H _ hH
 have ho : aJ (bK f (ys ++ zs)) Fz w (bl e (ys ++ zs)) (Fp (2 * G + 1) ++ Fp (2 * H + 1)) := by
  have e1 : bK f (ys ++ zs) = bK f ys ++ bK f zs := by simp [bK]
  have e2 : bl e (ys ++ zs) = bl e ys ++ bl e zs := by simp [bl]
  rw [e1, e2]; exact h1.append h2
 have c1 := hc.pull H
 have c2 := c1.pull G
 have e1 : mv Fp (2 * H + 1) (2 * G + 1) = Fp (2 * G + 1) := by simp only [mv]; rw [if_neg (by omega), if_neg (by omega)]
 have e2 : mv (mv Fp (2 * H + 1)) (2 * G + 1) 0 = Fp (2 * G + 1) ++ (Fp (2 * H + 1) ++ Fp 0) := by
  rw [← e1]; simp [mv]
 have hnd := c2.nod 0
 rw [e2] at hnd
 have c3 := c2.pushG (G := G) (F := Fp (2 * G + 1) ++ Fp (2 * H + 1)) (X := Fp 0) ho (fun b hb => by rw [e2, ← bw]; exact hb) (by rw [bw]; exact hnd)
 exact h a w (bn.eqv ⟨_, _, _, c3⟩ (fun i => by
  simp only [St.set_s]
  split
  ·rfl
  ·rfl) (fun d => rfl))
def zG {d t G e : Nat} {α : Type} {f : α → List PV} {z : α × (Nat → Value)} {zs : List (α × (Nat → Value))} {ps : List PV} (hd : σ.b d = some (t, ps)) (hn : Nm ps ((List.range e).map z.2)) (hf : ∀ x, (f x).length = e) (hG : σ.s G = some (RV.gh (bl e (z :: zs)) (bK f (z :: zs))))
  (h : SW P n h0 w0 Fz0 c ((σ.setB d (some (t, f z.1))).set G (some (RV.gh (bl e zs) (bK f zs)))) Q) : SW P n h0 w0 Fz0 c σ Q := fun a w hc => by
 obtain ⟨φ, Fz, Fp, hc⟩ := hc
 have hg0 : aJ (f z.1 ++ bK f zs) Fz w ((List.range e).map z.2 ++ bl e zs) (Fp (2 * G + 1)) := hc.slot G _ hG
 obtain ⟨v1, v2, F1, F2, k1, k2, k3, k4⟩ := hg0.split
 obtain ⟨rfl, rfl⟩ := List.append_inj k1 (by rw [k3.len, hf]; simp)
 have c1 := hc.pull G
 have e0 : mv Fp (2 * G + 1) 0 = Fp (2 * G + 1) ++ Fp 0 := by simp [mv]
 obtain ⟨cur, h1, h2⟩ := c1.box d (t, ps) hd
 obtain ⟨g1, g2, g3⟩ := c1.bxb d (t, ps) hd
 have hu : cur.toList = (List.range e).map z.2 := hn h2.rel
 have c2 := c1.pullB (d := d) (cs := (t, ps)) hd
 generalize hFp1 : mv Fp (2 * G + 1) = Fp1 at c1 c2 e0 h2 g3
 have hnd := c2.nod 0
 simp only [if_true] at hnd
 have em : mv Fp1 (2 * d + 2) 0 = Fp1 (2 * d + 2) ++ Fp1 0 := by simp [mv]
 rw [em, e0, k2] at hnd
 rw [k2] at e0
 have c3 := c2.pushB (d := d) (g := φ d) (t := t) (cs := f z.1) (F := F1) (X := F2 ++ Fp 0) (by rw [St.setB_b, if_pos rfl]) h1 (by rw [hu]; exact k3) g2
  (fun x hx => by
   simp only [if_true]
   rw [em, e0]
   rcases List.mem_append.1 hx with hx | hx
   ·simp [hx]
   ·rcases List.mem_cons.1 hx with rfl | hx
    ·simp
    ·rcases List.mem_append.1 hx with hx | hx <;> simp [hx])
  (by
   simp only [gk, dM] at hnd
   obtain ⟨m0, m1⟩ := hnd
   have m2 := (List.nodup_append.1 m1).2.1
   rw [bw, cm] at m2
   rw [cm]
   refine ⟨m2.1, List.nodup_cons.2 ⟨fun hh => ?_, m2.2.1⟩, fun x hx y hy e => ?_⟩
   ·rcases List.mem_append.1 hh with hh | hh
    ·exact m0 (.inr (.inl (.inr hh)))
    ·exact m0 (.inr (.inr hh))
   ·rcases List.mem_cons.1 hy with rfl | hy
    ·exact m0 (.inr (.inl (.inl (e ▸ hx))))
    ·exact m2.2.2 x hx y hy e)
  (.inl rfl)
 have hn3 := c3.nod 0
 have c4 := c3.pushG (G := G) (F := F2) (X := Fp 0) k4 (fun b hb => by simp only [cD]; rw [if_neg (by omega)]; simpa using hb) (by
  simp only [cD] at hn3
  rw [if_neg (by omega)] at hn3
  simpa using hn3)
 exact h a w (bn.eqv ⟨_, _, _, c4⟩ (fun i => by
  simp only [St.set_s, St.setB_s]
  split <;> rfl) (fun e => by
  simp only [St.setB_b, St.set_b]
  split <;> rfl))
def rN {d T t e G : Nat} {A B : List PV} {α : Type} {f g : α → List PV} {fN : α × (Nat → Value) → List PV} {xs : List α} (hd : σ.b d = some (T, A ++ (PV.sl (.own t e) (xs.map f) :: B))) (hG : σ.s G = none) (hN : ∀ x h, fN (x, h) = dY h 0 (g x)) (hg : ∀ x, (g x).length = e) (hq : ∀ x, am (f x) (g x)) (hb : ∀ x, an (g x))
  (h : ∀ zs : List (α × (Nat → Value)), zs.map Prod.fst = xs → SW P n h0 w0 Fz0 c ((σ.setB d (some (T, A ++ (PV.sl .v (zs.map fN) :: B)))).set G (some (RV.gh (bl e zs) (bK f zs)))) Q) : SW P n h0 w0 Fz0 c σ Q := fun a w hc => by
 obtain ⟨φ, Fz, Fp, hc⟩ := hc
 obtain ⟨cur, h1, h2⟩ := hc.box d _ hd
 obtain ⟨g1, g2, g3⟩ := hc.bxb d _ hd
 obtain ⟨v1, v2, F1, F2, k1, k2, k3, v, vs', E1, E2, rfl, rfl, ho, kB⟩ := h2.split
 have ho : db t e (xs.map f) Fz w v E1 := ho
 obtain ⟨css, F', hrow, hll, hfz, rfl, hone⟩ := ho
 obtain ⟨zs, e1, e2, e3, e4⟩ := vS hN hg hq hb hll
 have hlen : (zs.map fN).length = (xs.map f).length := by rw [aq, aq, ← e1, aq]
 have hsl : db t e (zs.map fN) Fz w v (v.ownBlock.toList ++ []) := ⟨css, [], by rw [hlen]; exact hrow, e3, fun g hg o => by rw [hlen]; exact hfz g hg o, rfl, hone⟩
 have hnew : aJ (A ++ (PV.sl .v (zs.map fN) :: B)) Fz w cur.toList (F1 ++ ([] ++ E2)) := by
  rw [k1]
  exact k3.append ⟨v, vs', [], E2, rfl, rfl, ⟨hsl.rel, rfl⟩, kB⟩
 rw [List.nil_append] at hnew
 have c2 := hc.pullB hd
 have hnd := c2.nod 0
 simp only [if_true] at hnd
 have em : mv Fp (2 * d + 2) 0 = Fp (2 * d + 2) ++ Fp 0 := by simp [mv]
 have k2' : Fp (2 * d + 2) = F1 ++ (v.ownBlock.toList ++ F' ++ E2) := k2
 rw [em, k2'] at hnd
 rw [k2'] at em
 have hperm : (φ d :: (F1 ++ (v.ownBlock.toList ++ F' ++ E2) ++ Fp 0)).Perm ((F1 ++ E2) ++ φ d :: (F' ++ (v.ownBlock.toList ++ Fp 0))) := by
  refine (List.Perm.trans ?_ List.perm_middle.symm)
  refine List.Perm.cons _ ?_
  simp only [bw]
  refine gl _ ?_
  show (v.ownBlock.toList ++ (F' ++ (E2 ++ Fp 0))).Perm (E2 ++ (F' ++ (v.ownBlock.toList ++ Fp 0)))
  have p1 : ((v.ownBlock.toList ++ F') ++ (E2 ++ Fp 0)).Perm ((F' ++ v.ownBlock.toList) ++ (E2 ++ Fp 0)) := iy _ jj
  have p2 : ((F' ++ v.ownBlock.toList) ++ (E2 ++ Fp 0)).Perm (E2 ++ ((F' ++ v.ownBlock.toList) ++ Fp 0)) := by
   rw [← bw, ← bw]
   exact iy _ jj
  have p3 := p1.trans p2
  simpa using p3
 have c3 := c2.pushB (d := d) (g := φ d) (t := T) (cs := A ++ (PV.sl .v (zs.map fN) :: B)) (F := F1 ++ E2) (X := F' ++ (v.ownBlock.toList ++ Fp 0)) (by rw [St.setB_b, if_pos rfl]) h1 hnew g2
  (fun x hx => by
   simp only [if_true]
   rw [em]
   exact hperm.mem_iff.2 hx) (hperm.nodup_iff.1 hnd) (.inl rfl)
 have hn3 := c3.nod 0
 have c4 := c3.pushG (G := G) (F := F') (X := v.ownBlock.toList ++ Fp 0) e4 (fun b hb => by simp only [cD]; rw [if_neg (by omega)]; simpa using hb) (by
  simp only [cD] at hn3
  rw [if_neg (by omega)] at hn3
  simpa using hn3)
 exact h zs e1 a w (bn.eqv ⟨_, _, _, c4⟩ (fun i => by
  simp only [St.set_s, St.setB_s]) (fun e => by
  simp only [St.setB_b, St.set_b]
  split <;> rfl))
end
end
section
def RY {α : Type} {f g : α → List PV} {fN : α × (Nat → Value) → List PV} {t e : Nat} (hN : ∀ x h, fN (x, h) = dY h 0 (g x)) (hg : ∀ x, (g x).length = e) (hq : ∀ x, am (f x) (g x)) (hb : ∀ x, an (g x)) {Fz : av} {w : World} {xs : List α} {v : Value} {F : List Nat} (h : db t e (xs.map f) Fz w v F) :
  ∃ zs : List (α × (Nat → Value)), ∃ F1 F2, zs.map Prod.fst = xs ∧ db t e (zs.map fN) Fz w v F1 ∧ aJ (bK f zs) Fz w (bl e zs) F2 ∧ F = F1 ++ F2 := by
 obtain ⟨css, F', hrow, hll, hfz, rfl, hone⟩ := h
 obtain ⟨zs, e1, e2, e3, e4⟩ := vS hN hg hq hb hll
 have hlen : (zs.map fN).length = (xs.map f).length := by rw [aq, aq, ← e1, aq]
 exact ⟨zs, v.ownBlock.toList ++ [], F', e1, ⟨css, [], by rw [hlen]; exact hrow, e3, fun g hg o => by rw [hlen]; exact hfz g hg o, rfl, hone⟩, e4, by simp⟩
def FE {α : Type} {f : α → List PV} {ys zs : List (α × (Nat → Value))} : bK f (ys ++ zs) = bK f ys ++ bK f zs := by simp [bK]
def rO {α : Type} {e : Nat} {ys zs : List (α × (Nat → Value))} : bl e (ys ++ zs) = bl e ys ++ bl e zs := by simp [bl]
def vT {α : Type} {a b c d : List α} : (a ++ b ++ (c ++ d)).Perm (a ++ c ++ (b ++ d)) := by
 simp only [bw]
 refine gl _ ?_
 rw [← bw, ← bw]
 exact iy _ jj
def FF {α : Type} {f g : α → List PV} {fN : α × (Nat → Value) → List PV} {e : Nat} (hN : ∀ x h, fN (x, h) = dY h 0 (g x)) (hg : ∀ x, (g x).length = e) (hf : ∀ x, (f x).length = e) {Fz : av} {w : World} : ∀ {zs : List (α × (Nat → Value))} {css : List Value} {F1 F2 : List Nat}, cc e (zs.map fN) Fz w css F1 → aJ (bK f zs) Fz w (bl e zs) F2 → cc e ((zs.map Prod.fst).map f) Fz w css F2
 | [], css, F1, F2, h, k => by
  obtain ⟨rfl, rfl⟩ := h
  obtain ⟨_, rfl⟩ := k
  exact ⟨rfl, rfl⟩
 | z :: zs, css, F1, F2, h, k => by
  obtain ⟨c, d, Fa, Fb, rfl, rfl, hl, h1, h2⟩ := h
  have k : aJ (f z.1 ++ bK f zs) Fz w ((List.range e).map z.2 ++ bl e zs) F2 := k
  obtain ⟨v1, v2, G1, G2, k1, k2, k3, k4⟩ := k.split
  obtain ⟨rfl, rfl⟩ := List.append_inj k1 (by rw [k3.len, hf]; simp)
  have hc : c = (List.range e).map z.2 := by
   have hr := h1.rel
   rw [show fN z = dY z.2 0 (g z.1) from hN z.1 z.2] at hr
   have hk : ∀ (ps : List PV) (i : Nat) (vs : List Value), bO (dY z.2 i ps) Fz w vs → vs = (List.range' i ps.length).map z.2 := by
    intro ps
    induction ps with
    | nil => intro i vs h; exact h
    | cons p ps ih =>
     intro i vs h
     obtain ⟨v, vs', rfl, h1, h2⟩ := h
     rw [ih _ _ h2, h1.1]; rfl
   rw [hk _ _ _ hr, hg, ← List.range_eq_range']
  subst hc
  exact ⟨_, d, G1, G2, rfl, k2, hl, k3, FF hN hg hf h2 k4⟩
def FG {α : Type} {f : α → List PV} {e : Nat} (hf : ∀ x, (f x).length = e) {Fz : av} {w : World} {z : α × (Nat → Value)} {l : List (α × (Nat → Value))} {F : List Nat} (h : aJ (bK f (z :: l)) Fz w (bl e (z :: l)) F) : ∃ F1 F2, F = F1 ++ F2 ∧ aJ (f z.1) Fz w ((List.range e).map z.2) F1 ∧ aJ (bK f l) Fz w (bl e l) F2 := by
 have h : aJ (f z.1 ++ bK f l) Fz w ((List.range e).map z.2 ++ bl e l) F := h
 obtain ⟨v1, v2, F1, F2, e1, rfl, h1, h2⟩ := h.split
 obtain ⟨rfl, rfl⟩ := List.append_inj e1 (by rw [h1.len, hf]; simp)
 exact ⟨F1, F2, rfl, h1, h2⟩
def FH {α : Type} {f : α → List PV} {e : Nat} (hf : ∀ x, (f x).length = e) {Fz : av} {w : World} {ys zs : List (α × (Nat → Value))} (hs : ys.Sublist zs) : ∀ {F : List Nat}, aJ (bK f zs) Fz w (bl e zs) F → ∃ F' R, F.Perm (F' ++ R) ∧ aJ (bK f ys) Fz w (bl e ys) F' := by
 induction hs with
 | slnil => exact fun h => ⟨_, [], by rw [eg], h⟩
 | cons z hs ih =>
  intro F h
  obtain ⟨F1, F2, rfl, h1, h2⟩ := FG hf h
  obtain ⟨F', R, hp, ho⟩ := ih h2
  exact ⟨F', F1 ++ R, (gl _ hp).trans (by rw [← bw, ← bw]; exact iy _ jj), ho⟩
 | cons_cons z hs ih =>
  intro F h
  obtain ⟨F1, F2, rfl, h1, h2⟩ := FG hf h
  obtain ⟨F', R, hp, ho⟩ := ih h2
  refine ⟨F1 ++ F', R, (gl _ hp).trans (by rw [bw]), ?_⟩
  exact h1.append ho
def FI {α : Type} {f g : α → List PV} {fN : α × (Nat → Value) → List PV} {t e : Nat} (hN : ∀ x h, fN (x, h) = dY h 0 (g x)) (hg : ∀ x, (g x).length = e) (hf : ∀ x, (f x).length = e) {Fz : av} {w : World} {zs : List (α × (Nat → Value))} {v : Value} {F1 F2 : List Nat} (h : db t e (zs.map fN) Fz w v F1) (k : aJ (bK f zs) Fz w (bl e zs) F2) : db t e ((zs.map Prod.fst).map f) Fz w v (v.ownBlock.toList ++ F2) := by
 obtain ⟨css, F', hrow, hll, hfz, rfl, hone⟩ := h
 have hlen : ((zs.map Prod.fst).map f).length = (zs.map fN).length := by simp
 exact ⟨css, F2, by rw [hlen]; exact hrow, FF hN hg hf hll k, fun g hg o => by rw [hlen]; exact hfz g hg o, rfl, hone⟩
def FJ {t e : Nat} {es : List (List PV)} {Fz : av} {w : World} {v : Value} {F : List Nat} (h : db t e es Fz w v F) : ∃ F', F = v.ownBlock.toList ++ F' := by
 obtain ⟨css, F', hrow, hll, hfz, rfl, hone⟩ := h
 exact ⟨F', rfl⟩
def vU {α : Type} {f : α → List PV} {x : α} {xs : List α} {jk : List Value} : bE f (x :: xs) jk = f x ++ bE f xs jk := by
 unfold bE; rw [List.map_cons, List.flatten_cons, bw]
def FK {α : Type} {f g : α → List PV} {fN : α × (Nat → Value) → List PV} {t e : Nat} (hN : ∀ x h, fN (x, h) = dY h 0 (g x)) (hg : ∀ x, (g x).length = e) (hq : ∀ x, am (f x) (g x)) (hb : ∀ x, an (g x)) {jk : List Value} {Fz : av} {w : World} : ∀ {xss : List (List α)} {vs : List Value} {F : List Nat}, aJ (bE (fun xs => [PV.sl (.own t e) (xs.map f)]) xss jk) Fz w vs F →
  ∃ zss : List (List (α × (Nat → Value))), ∃ F1 F2, zss.map (List.map Prod.fst) = xss ∧ aJ (bE (fun zs => [PV.sl (.own t e) (zs.map fN)]) zss jk) Fz w vs F1 ∧ aJ (bK f zss.flatten) Fz w (bl e zss.flatten) F2 ∧ F.Perm (F1 ++ F2)
 | [], vs, F, h => ⟨[], F, [], rfl, h, ⟨rfl, rfl⟩, by rw [eg]⟩
 | xs :: xss, vs, F, h => by
  rw [vU] at h
  obtain ⟨v, vs', Fa, Fb, rfl, rfl, ho, h2⟩ := h
  obtain ⟨zs, A1, A2, e1, e2, e3, rfl⟩ := RY hN hg hq hb (show db t e (xs.map f) Fz w v Fa from ho)
  obtain ⟨zss, B1, B2, e4, e5, e6, hp⟩ := FK hN hg hq hb h2
  refine ⟨zs :: zss, A1 ++ B1, A2 ++ B2, by rw [List.map_cons, e1, e4], ?_, ?_, ?_⟩
  ·rw [vU]; exact ⟨v, vs', A1, B1, rfl, rfl, e2, e5⟩
  ·rw [List.flatten_cons, FE, rO]; exact e3.append e6
  ·exact (gl _ hp).trans vT
def RZ {α : Type} {f : α → List PV} {e : Nat} (hf : ∀ x, (f x).length = e) : ∀ l : List (α × (Nat → Value)), (bl e l).length = (bK f l).length := by
 intro l
 induction l with
 | nil => rfl
 | cons z l ih =>
  show ((List.range e).map z.2 ++ bl e l).length = (f z.1 ++ bK f l).length
  simp [hf, ih]
def FL {α : Type} {f g : α → List PV} {fN : α × (Nat → Value) → List PV} {t e : Nat} (hN : ∀ x h, fN (x, h) = dY h 0 (g x)) (hg : ∀ x, (g x).length = e) (hf : ∀ x, (f x).length = e) {jk : List Value} {Fz : av} {w : World} : ∀ {zss : List (List (α × (Nat → Value)))} {vs : List Value} {F1 F2 : List Nat}, aJ (bE (fun zs => [PV.sl (.own t e) (zs.map fN)]) zss jk) Fz w vs F1 → aJ (bK f zss.flatten) Fz w (bl e zss.flatten) F2 →
  ∃ F R, aJ (bE (fun xs => [PV.sl (.own t e) (xs.map f)]) (zss.map (List.map Prod.fst)) jk) Fz w vs F ∧ (F1 ++ F2).Perm (F ++ R)
 | [], vs, F1, F2, h, k => ⟨F1, F2, h, List.Perm.refl _⟩
 | zs :: zss, vs, F1, F2, h, k => by
  rw [vU] at h
  obtain ⟨v, vs', G1, Fb, rfl, rfl, ho, h2⟩ := h
  rw [List.flatten_cons, FE, rO] at k
  obtain ⟨v1, v2, K1, K2, k1, rfl, k3, k4⟩ := k.split
  obtain ⟨rfl, rfl⟩ := List.append_inj k1 (by rw [k3.len]; exact RZ hf zs)
  have ho : db t e (zs.map fN) Fz w v G1 := ho
  obtain ⟨G', rfl⟩ := FJ ho
  have hb := FI hN hg hf ho k3
  obtain ⟨F, R, e1, hp⟩ := FL hN hg hf h2 k4
  refine ⟨(v.ownBlock.toList ++ K1) ++ F, G' ++ R, ?_, ?_⟩
  ·rw [List.map_cons, vU]; exact ⟨v, vs', _, F, rfl, rfl, hb, e1⟩
  refine vT.trans ?_
  refine (gl _ hp).trans ?_
  simp only [bw]
  refine gl _ ?_
  have p1 : (G' ++ (K1 ++ (F ++ R))).Perm ((K1 ++ F) ++ (G' ++ R)) := by
   have := (jj (l₁ := G') (l₂ := K1 ++ F)).append_right R
   simpa only [bw] using this
  simpa only [bw] using p1
section
variable {P : Program} {n : Nat} {h0 : Nat → Prop} {w0 : World} {Fz0 : av} {σ : St} {Q : Exit → St → Prop} {c : Code}
def Sa {d T G : Nat} {A B : List PV} {p : PV} {ι : Type} {q : ι → PV} {us : ι → List Value} {gs : ι → List PV} (hd : σ.b d = some (T, A ++ (p :: B))) (hG : σ.s G = none) (hp : ∀ {Fz : av} {w : World} {v : Value} {F : List Nat}, p.own Fz w v F → ∃ i, ∃ F1 F2, (q i).own Fz w v F1 ∧ aJ (gs i) Fz w (us i) F2 ∧ F.Perm (F1 ++ F2))
  (h : ∀ i, SW P n h0 w0 Fz0 c ((σ.setB d (some (T, A ++ (q i :: B)))).set G (some (RV.gh (us i) (gs i)))) Q) : SW P n h0 w0 Fz0 c σ Q := fun a w hc => by
 obtain ⟨φ, Fz, Fp, hc⟩ := hc
 obtain ⟨cur, h1, h2⟩ := hc.box d _ hd
 obtain ⟨g1, g2, g3⟩ := hc.bxb d _ hd
 obtain ⟨v1, v2, F1, F2, k1, k2, k3, v, vs', E1, E2, rfl, rfl, ho, kB⟩ := h2.split
 obtain ⟨i, P1, P2, m1, m2, m3⟩ := hp ho
 have hnew : aJ (A ++ (q i :: B)) Fz w cur.toList (F1 ++ (P1 ++ E2)) := by
  rw [k1]
  exact k3.append ⟨v, vs', P1, E2, rfl, rfl, m1, kB⟩
 have c2 := hc.pullB hd
 have hnd := c2.nod 0
 simp only [if_true] at hnd
 have em : mv Fp (2 * d + 2) 0 = Fp (2 * d + 2) ++ Fp 0 := by simp [mv]
 have k2' : Fp (2 * d + 2) = F1 ++ (E1 ++ E2) := k2
 rw [em, k2'] at hnd
 rw [k2'] at em
 have hperm : (φ d :: (F1 ++ (E1 ++ E2) ++ Fp 0)).Perm ((F1 ++ (P1 ++ E2)) ++ φ d :: (P2 ++ Fp 0)) := by
  refine (List.Perm.trans ?_ List.perm_middle.symm)
  refine List.Perm.cons _ ?_
  simp only [bw]
  refine gl _ ?_
  refine (iy _ m3).trans ?_
  simp only [bw]
  refine gl _ ?_
  rw [← bw, ← bw]
  exact iy _ jj
 have c3 := c2.pushB (d := d) (g := φ d) (t := T) (cs := A ++ (q i :: B)) (F := F1 ++ (P1 ++ E2)) (X := P2 ++ Fp 0) (by rw [St.setB_b, if_pos rfl]) h1 hnew g2
  (fun x hx => by
   simp only [if_true]
   rw [em]
   exact hperm.mem_iff.2 hx) (hperm.nodup_iff.1 hnd) (.inl rfl)
 have hn3 := c3.nod 0
 have c4 := c3.pushG (G := G) (F := P2) (X := Fp 0) m2 (fun b hb => by simp only [cD]; rw [if_neg (by omega)]; simpa using hb) (by
  simp only [cD] at hn3
  rw [if_neg (by omega)] at hn3
  simpa using hn3)
 exact h i a w (bn.eqv ⟨_, _, _, c4⟩ (fun i => by
  simp only [St.set_s, St.setB_s]) (fun e => by
  simp only [St.setB_b, St.set_b]
  split <;> rfl))
def zH {d T G : Nat} {A B : List PV} {p q : PV} {us : List Value} {gs : List PV} (hd : σ.b d = some (T, A ++ (q :: B))) (hG : σ.s G = some (RV.gh us gs)) (hp : ∀ {Fz : av} {w : World} {v : Value} {F1 F2 : List Nat}, q.own Fz w v F1 → aJ gs Fz w us F2 → ∃ F R, p.own Fz w v F ∧ (F1 ++ F2).Perm (F ++ R))
  (h : SW P n h0 w0 Fz0 c ((σ.set G none).setB d (some (T, A ++ (p :: B)))) Q) : SW P n h0 w0 Fz0 c σ Q := fun a w hc => by
 obtain ⟨φ, Fz, Fp, hc⟩ := hc
 have hg0 : aJ gs Fz w us (Fp (2 * G + 1)) := hc.slot G _ hG
 have c1 := hc.pull G
 have e0 : mv Fp (2 * G + 1) 0 = Fp (2 * G + 1) ++ Fp 0 := by simp [mv]
 obtain ⟨cur, h1, h2⟩ := c1.box d _ hd
 obtain ⟨g1, g2, g3⟩ := c1.bxb d _ hd
 obtain ⟨v1, v2, F1, F2, k1, k2, k3, v, vs', E1, E2, rfl, rfl, ho, kB⟩ := h2.split
 obtain ⟨F, R, m1, m2⟩ := hp ho hg0
 have hnew : aJ (A ++ (p :: B)) Fz w cur.toList (F1 ++ (F ++ E2)) := by
  rw [k1]
  exact k3.append ⟨v, vs', F, E2, rfl, rfl, m1, kB⟩
 have c2 := c1.pullB (d := d) hd
 generalize hFp1 : mv Fp (2 * G + 1) = Fp1 at c1 c2 e0 h2 g3 k2
 have hnd := c2.nod 0
 simp only [if_true] at hnd
 have em : mv Fp1 (2 * d + 2) 0 = Fp1 (2 * d + 2) ++ Fp1 0 := by simp [mv]
 have k2' : Fp1 (2 * d + 2) = F1 ++ (E1 ++ E2) := k2
 rw [em, k2', e0] at hnd
 rw [k2', e0] at em
 have hperm : (φ d :: (F1 ++ (E1 ++ E2) ++ (Fp (2 * G + 1) ++ Fp 0))).Perm ((F1 ++ (F ++ E2)) ++ φ d :: (R ++ Fp 0)) := by
  refine (List.Perm.trans ?_ List.perm_middle.symm)
  refine List.Perm.cons _ ?_
  simp only [bw]
  refine gl _ ?_
  have p1 : (E1 ++ (E2 ++ (Fp (2 * G + 1) ++ Fp 0))).Perm ((E1 ++ Fp (2 * G + 1)) ++ (E2 ++ Fp 0)) := by
   have := vT (a := E1) (b := E2) (c := Fp (2 * G + 1)) (d := Fp 0)
   simpa only [bw] using this
  refine p1.trans ((iy _ m2).trans ?_)
  have := vT (a := F) (b := R) (c := E2) (d := Fp 0)
  simpa only [bw] using this
 have c3 := c2.pushB (d := d) (g := φ d) (t := T) (cs := A ++ (p :: B)) (F := F1 ++ (F ++ E2)) (X := R ++ Fp 0) (by rw [St.setB_b, if_pos rfl]) h1 hnew g2
  (fun x hx => by
   simp only [if_true]
   rw [em]
   exact hperm.mem_iff.2 hx) (hperm.nodup_iff.1 hnd) (.inl rfl)
 exact h a w (bn.eqv ⟨_, _, _, c3⟩ (fun i => rfl) (fun e => by
  simp only [St.setB_b, St.set_b]
  split <;> rfl))
def FN {d T G : Nat} {cs : List PV} {ι : Type} {q : ι → List PV} {us : ι → List Value} {gs : ι → List PV} (hd : σ.b d = some (T, cs)) (hG : σ.s G = none) (hp : ∀ {Fz : av} {w : World} {vs : List Value} {F : List Nat}, aJ cs Fz w vs F → ∃ i, ∃ F1 F2, aJ (q i) Fz w vs F1 ∧ aJ (gs i) Fz w (us i) F2 ∧ F.Perm (F1 ++ F2))
  (h : ∀ i, SW P n h0 w0 Fz0 c ((σ.setB d (some (T, q i))).set G (some (RV.gh (us i) (gs i)))) Q) : SW P n h0 w0 Fz0 c σ Q := fun a w hc => by
 obtain ⟨φ, Fz, Fp, hc⟩ := hc
 obtain ⟨cur, h1, h2⟩ := hc.box d _ hd
 obtain ⟨g1, g2, g3⟩ := hc.bxb d _ hd
 obtain ⟨i, P1, P2, m1, m2, m3⟩ := hp h2
 have c2 := hc.pullB hd
 have hnd := c2.nod 0
 simp only [if_true] at hnd
 have em : mv Fp (2 * d + 2) 0 = Fp (2 * d + 2) ++ Fp 0 := by simp [mv]
 rw [em] at hnd
 have hperm : (φ d :: (Fp (2 * d + 2) ++ Fp 0)).Perm (P1 ++ φ d :: (P2 ++ Fp 0)) := by
  refine (List.Perm.trans ?_ List.perm_middle.symm)
  refine List.Perm.cons _ ?_
  rw [← bw]
  exact iy _ m3
 have c3 := c2.pushB (d := d) (g := φ d) (t := T) (cs := q i) (F := P1) (X := P2 ++ Fp 0) (by rw [St.setB_b, if_pos rfl]) h1 m1 g2
  (fun x hx => by
   simp only [if_true]
   rw [em]
   exact hperm.mem_iff.2 hx) (hperm.nodup_iff.1 hnd) (.inl rfl)
 have hn3 := c3.nod 0
 have c4 := c3.pushG (G := G) (F := P2) (X := Fp 0) m2 (fun b hb => by simp only [cD]; rw [if_neg (by omega)]; simpa using hb) (by
  simp only [cD] at hn3
  rw [if_neg (by omega)] at hn3
  simpa using hn3)
 exact h i a w (bn.eqv ⟨_, _, _, c4⟩ (fun i => by
  simp only [St.set_s, St.setB_s]) (fun e => by
  simp only [St.setB_b, St.set_b]
  split <;> rfl))
def FO {d T G : Nat} {ps cs : List PV} {us : List Value} {gs : List PV} (hd : σ.b d = some (T, cs)) (hG : σ.s G = some (RV.gh us gs)) (hp : ∀ {Fz : av} {w : World} {vs : List Value} {F1 F2 : List Nat}, aJ cs Fz w vs F1 → aJ gs Fz w us F2 → ∃ F R, aJ ps Fz w vs F ∧ (F1 ++ F2).Perm (F ++ R))
  (h : SW P n h0 w0 Fz0 c ((σ.set G none).setB d (some (T, ps))) Q) : SW P n h0 w0 Fz0 c σ Q := fun a w hc => by
 obtain ⟨φ, Fz, Fp, hc⟩ := hc
 have hg0 : aJ gs Fz w us (Fp (2 * G + 1)) := hc.slot G _ hG
 have c1 := hc.pull G
 have e0 : mv Fp (2 * G + 1) 0 = Fp (2 * G + 1) ++ Fp 0 := by simp [mv]
 obtain ⟨cur, h1, h2⟩ := c1.box d _ hd
 obtain ⟨g1, g2, g3⟩ := c1.bxb d _ hd
 obtain ⟨F, R, m1, m2⟩ := hp h2 hg0
 have c2 := c1.pullB (d := d) hd
 generalize hFp1 : mv Fp (2 * G + 1) = Fp1 at c1 c2 e0 h2 g3 m2
 have hnd := c2.nod 0
 simp only [if_true] at hnd
 have em : mv Fp1 (2 * d + 2) 0 = Fp1 (2 * d + 2) ++ Fp1 0 := by simp [mv]
 rw [em, e0] at hnd
 rw [e0] at em
 have hperm : (φ d :: (Fp1 (2 * d + 2) ++ (Fp (2 * G + 1) ++ Fp 0))).Perm (F ++ φ d :: (R ++ Fp 0)) := by
  refine (List.Perm.trans ?_ List.perm_middle.symm)
  refine List.Perm.cons _ ?_
  rw [← bw, ← bw]
  exact iy _ m2
 have c3 := c2.pushB (d := d) (g := φ d) (t := T) (cs := ps) (F := F) (X := R ++ Fp 0) (by rw [St.setB_b, if_pos rfl]) h1 m1 g2
  (fun x hx => by
   simp only [if_true]
   rw [em]
   exact hperm.mem_iff.2 hx) (hperm.nodup_iff.1 hnd) (.inl rfl)
 exact h a w (bn.eqv ⟨_, _, _, c3⟩ (fun i => rfl) (fun e => by
  simp only [St.setB_b, St.set_b]
  split <;> rfl))
def FP {d T t e G : Nat} {α : Type} {f g : α → List PV} {fN : α × (Nat → Value) → List PV} {xss : List (List α)} {jk : List Value} (hd : σ.b d = some (T, bE (fun xs => [PV.sl (.own t e) (xs.map f)]) xss jk)) (hG : σ.s G = none) (hN : ∀ x h, fN (x, h) = dY h 0 (g x)) (hg : ∀ x, (g x).length = e) (hq : ∀ x, am (f x) (g x)) (hb : ∀ x, an (g x))
  (h : ∀ zss : List (List (α × (Nat → Value))), zss.map (List.map Prod.fst) = xss → SW P n h0 w0 Fz0 c ((σ.setB d (some (T, bE (fun zs => [PV.sl (.own t e) (zs.map fN)]) zss jk))).set G (some (RV.gh (bl e zss.flatten) (bK f zss.flatten)))) Q) : SW P n h0 w0 Fz0 c σ Q :=
 FN (ι := {zss : List (List (α × (Nat → Value))) // zss.map (List.map Prod.fst) = xss}) (q := fun i => bE (fun zs => [PV.sl (.own t e) (zs.map fN)]) i.1 jk) (us := fun i => bl e i.1.flatten) (gs := fun i => bK f i.1.flatten) hd hG
  (fun hh => by
   obtain ⟨zss, F1, F2, e1, e2, e3, e4⟩ := FK hN hg hq hb hh
   exact ⟨⟨zss, e1⟩, F1, F2, e2, e3, e4⟩) (fun i => h i.1 i.2)
def FQ {d T t e G : Nat} {α : Type} {f g : α → List PV} {fN : α × (Nat → Value) → List PV} {zss : List (List (α × (Nat → Value)))} {ws : List (α × (Nat → Value))} {jk : List Value} (hd : σ.b d = some (T, bE (fun zs => [PV.sl (.own t e) (zs.map fN)]) zss jk)) (hG : σ.s G = some (RV.gh (bl e ws) (bK f ws))) (hN : ∀ x h, fN (x, h) = dY h 0 (g x)) (hg : ∀ x, (g x).length = e) (hf : ∀ x, (f x).length = e) (hs : zss.flatten.Sublist ws)
  (h : SW P n h0 w0 Fz0 c ((σ.set G none).setB d (some (T, bE (fun xs => [PV.sl (.own t e) (xs.map f)]) (zss.map (List.map Prod.fst)) jk))) Q) : SW P n h0 w0 Fz0 c σ Q :=
 FO hd hG (fun {Fz w vs F1 F2} h1 h2 => by
  obtain ⟨K, R0, hp0, k⟩ := FH hf hs h2
  obtain ⟨F, R, e1, hp⟩ := FL hN hg hf h1 k
  refine ⟨F, R ++ R0, e1, ?_⟩
  refine (gl _ hp0).trans ?_
  rw [← bw, ← bw]
  exact iy _ hp) h
end
end
section
def jT {α : Type} (f : α → PV) (z : α × Value) : List PV := [PV.nv z.2 (f z.1)]
def FR {α : Type} {f : α → PV} {Fz : av} {w : World} : ∀ {xs : List α} {css : List Value} {F : List Nat}, cc 1 (xs.map fun x => [f x]) Fz w css F → ∃ zs : List (α × Value), zs.map Prod.fst = xs ∧ cc 1 (zs.map (jT f)) Fz w css F
 | [], css, F, h => ⟨[], rfl, h⟩
 | x :: xs, css, F, h => by
  obtain ⟨c, d, F1, F2, rfl, rfl, hl, h1, h2⟩ := h
  obtain ⟨zs, e1, e2⟩ := FR h2
  obtain ⟨v, vs', A, B, rfl, rfl, ho, hn⟩ := h1
  exact ⟨(x, v) :: zs, by rw [List.map_cons, e1], v :: vs', d, A ++ B, F2, rfl, rfl, hl, ⟨v, vs', A, B, rfl, rfl, ⟨rfl, ho⟩, hn⟩, e2⟩
def FS {α : Type} {f : α → PV} {Fz : av} {w : World} : ∀ {zs : List (α × Value)} {css : List Value} {F : List Nat}, cc 1 (zs.map (jT f)) Fz w css F → cc 1 ((zs.map Prod.fst).map fun x => [f x]) Fz w css F
 | [], css, F, h => h
 | z :: zs, css, F, h => by
  obtain ⟨c, d, F1, F2, rfl, rfl, hl, h1, h2⟩ := h
  obtain ⟨v, vs', A, B, rfl, rfl, ho, hn⟩ := h1
  exact ⟨v :: vs', d, A ++ B, F2, rfl, rfl, hl, ⟨v, vs', A, B, rfl, rfl, ho.2, hn⟩, FS h2⟩
def FT {e : Nat} {Fz : av} {w : World} : ∀ {es : List (List PV)} {css : List Value} {F : List Nat}, cc e es Fz w css F → ∀ {k : Nat} {ps : List PV}, es[k]? = some ps → ∃ vs, bO ps Fz w vs
 | [], css, F, h, k, ps, hk => by simp at hk
 | cs :: es, css, F, h, k, ps, hk => by
  obtain ⟨c, d, F1, F2, rfl, rfl, hl, h1, h2⟩ := h
  cases k with
  | zero => simp at hk; subst hk; exact ⟨c, h1.rel⟩
  | succ k => exact FT h2 (by simpa using hk)
def Sb {α : Type} {f : α → PV} {t : Nat} {Fz : av} {w : World} {xs : List α} {v : Value} {F : List Nat} (h : db t 1 (xs.map fun x => [f x]) Fz w v F) : ∃ zs : List (α × Value), zs.map Prod.fst = xs ∧ db t 1 (zs.map (jT f)) Fz w v F := by
 obtain ⟨css, F', hrow, hll, hfz, rfl, hone⟩ := h
 obtain ⟨zs, e1, e2⟩ := FR hll
 have hlen : (zs.map (jT f)).length = (xs.map fun x => [f x]).length := by rw [aq, aq, ← e1, aq]
 exact ⟨zs, e1, css, F', by rw [hlen]; exact hrow, e2, fun g hg o => by rw [hlen]; exact hfz g hg o, rfl, hone⟩
def Sc {α : Type} {f : α → PV} {t : Nat} {Fz : av} {w : World} {zs : List (α × Value)} {v : Value} {F : List Nat} (h : db t 1 (zs.map (jT f)) Fz w v F) : db t 1 ((zs.map Prod.fst).map fun x => [f x]) Fz w v F := by
 obtain ⟨css, F', hrow, hll, hfz, rfl, hone⟩ := h
 have hlen : ((zs.map Prod.fst).map fun x => [f x]).length = (zs.map (jT f)).length := by simp
 exact ⟨css, F', by rw [hlen]; exact hrow, FS hll, fun g hg o => by rw [hlen]; exact hfz g hg o, rfl, hone⟩
def am.nv1 {u : Value} {p : PV} {qs : List PV} (h : am [p] qs) : am [PV.nv u p] qs := by
 cases qs with
 | nil => exact h
 | cons q l => exact ⟨PV.nv_to h.1, h.2⟩
def Sd {α : Type} {f : α → PV} {g : α → List PV} {fl : Fl} {zs : List (α × Value)} {xs : List α} (hz : zs.map Prod.fst = xs) (h : ∀ x, am [f x] (g x)) : (PV.sl fl (zs.map (jT f))).To (PV.sl .v (xs.map g)) := by
 subst hz
 rw [List.map_map]
 refine PV.to_map fun z => ?_
 exact am.nv1 (h z.1)
def Se {α : Type} {zs : List (α × Value)} {xs : List α} {k : Nat} (hz : zs.map Prod.fst = xs) (hk : k < xs.length) : ∃ z, zs[k]? = some z ∧ z.1 = xs[k] := by
 subst hz
 rw [aq] at hk
 exact ⟨zs[k], List.getElem?_eq_getElem hk, by rw [List.getElem_map]⟩
section
variable {P : Program} {n : Nat} {h0 : Nat → Prop} {w0 : World} {Fz0 : av} {σ : St} {Q : Exit → St → Prop} {c : Code}
def vV {d T : Nat} {A B : List PV} {p : PV} {ι : Type} {q : ι → PV} (hd : σ.b d = some (T, A ++ (p :: B))) (hp : ∀ {Fz : av} {w : World} {v : Value} {F : List Nat}, p.own Fz w v F → ∃ i, (q i).own Fz w v F)
  (h : ∀ i, SW P n h0 w0 Fz0 c (σ.setB d (some (T, A ++ (q i :: B)))) Q) : SW P n h0 w0 Fz0 c σ Q := fun a w hc => by
 obtain ⟨φ, Fz, Fp, hc⟩ := hc
 obtain ⟨cur, h1, h2⟩ := hc.box d _ hd
 obtain ⟨v1, v2, F1, F2, k1, k2, k3, v, vs', E1, E2, rfl, rfl, ho, kB⟩ := h2.split
 obtain ⟨i, hi⟩ := hp ho
 refine h i a w ⟨φ, Fz, Fp, hc.rebox hd fun cur' _ hh => ?_⟩
 have : cur' = cur := by
  rw [h1] at hh
  injection hh with hh
  injection hh with hh
  exact hh.symm
 subst this
 rw [k1, k2]
 exact k3.append ⟨v, vs', E1, E2, rfl, rfl, hi, kB⟩
def Sf {d T t : Nat} {A B : List PV} {α : Type} {f : α → PV} {xs : List α} (hd : σ.b d = some (T, A ++ (PV.sl (.own t 1) (xs.map fun x => [f x]) :: B)))
  (h : ∀ zs : List (α × Value), zs.map Prod.fst = xs → SW P n h0 w0 Fz0 c (σ.setB d (some (T, A ++ (PV.sl (.own t 1) (zs.map (jT f)) :: B)))) Q) : SW P n h0 w0 Fz0 c σ Q :=
 vV (ι := {zs : List (α × Value) // zs.map Prod.fst = xs}) (q := fun z => PV.sl (.own t 1) (z.1.map (jT f))) hd (fun ho => by
  obtain ⟨zs, e1, e2⟩ := Sb ho
  exact ⟨⟨zs, e1⟩, e2⟩) fun z => h z.1 z.2
def Sg {d T t : Nat} {A B : List PV} {α : Type} {f : α → PV} {xs : List α} {zs : List (α × Value)} (hz : zs.map Prod.fst = xs) (hd : σ.b d = some (T, A ++ (PV.sl (.own t 1) (zs.map (jT f)) :: B)))
  (h : SW P n h0 w0 Fz0 c (σ.setB d (some (T, A ++ (PV.sl (.own t 1) (xs.map fun x => [f x]) :: B)))) Q) : SW P n h0 w0 Fz0 c σ Q :=
 vV (ι := Unit) (q := fun _ => PV.sl (.own t 1) (xs.map fun x => [f x])) hd (fun ho => ⟨(), by subst hz; exact Sc ho⟩) fun _ => h
def Sh {s d T t k : Nat} {A B : List PV} {α : Type} {f : α → PV} {q : α → PV} {zs : List (α × Value)} {z : α × Value} (hs : σ.s s = some (RV.sv false [PV.val z.2])) (hd : σ.b d = some (T, A ++ (PV.sl (.own t 1) (zs.map (jT f)) :: B))) (hk : zs[k]? = some z) (hq : ∀ {x}, (f x).To (q x)) (hb : ∀ {x}, (q x).Bor)
  (h : SW P n h0 w0 Fz0 c (σ.set s (some (RV.sv false [PV.nv z.2 (q z.1)]))) Q) : SW P n h0 w0 Fz0 c σ Q := fun a w hc => by
 obtain ⟨x, v⟩ := z
 obtain ⟨φ, Fz, Fp, hc⟩ := hc
 obtain ⟨cur, h1, h2⟩ := hc.box d _ hd
 obtain ⟨v1, v2, F1, F2, k1, k2, k3, u, vs', E1, E2, rfl, rfl, ho, kB⟩ := h2.split
 have ho : db t 1 (zs.map (jT f)) Fz w u E1 := ho
 obtain ⟨css, F', hrow, hll, hfz, rfl, hone⟩ := ho
 obtain ⟨us, hu⟩ := FT hll (k := k) (ps := jT f (x, v)) (by rw [List.getElem?_map, hk]; rfl)
 obtain ⟨u', _, rfl, hu, _⟩ := hu
 obtain ⟨rfl, hu⟩ := hu
 have hv : bQ false [PV.val u'] Fz w (a.tmps.getD s undef) (Fp (2 * s + 1)) := hc.slot s _ hs
 obtain ⟨hag, y, ys, G1, G2, hy1, hF, hy, hnil, rfl⟩ := hv
 subst hnil
 have c1 := (hc.pull s).reslot (s := s) (rv := RV.sv false [PV.nv u' (q x)]) (by
  have : mv Fp (2 * s + 1) (2 * s + 1) = [] := by simp [mv]
  rw [this]
  obtain ⟨⟨rfl, hone'⟩, rfl⟩ := hy
  exact ⟨hag, y, [], [], [], hy1, rfl, ⟨rfl, hb (hq hu)⟩, rfl, rfl⟩)
 exact h a w (bn.eqv ⟨φ, Fz, _, c1⟩ (fun i => by
  simp only [St.set_s]
  split <;> rfl) (fun d => rfl))
def dc (gs : List PV) (us : List Value) (qs : List PV) (us' : List Value) : Prop := ∀ {Fz : av} {w : World} {F : List Nat}, aJ gs Fz w us F → ∃ F' R, aJ qs Fz w us' F' ∧ F.Perm (F' ++ R)
def dc.nil {gs : List PV} {us : List Value} : dc gs us [] [] := fun {_ _ F} _ => ⟨[], F, ⟨rfl, rfl⟩, List.Perm.refl _⟩
def dc.keep {p : PV} {u : Value} {gs qs : List PV} {us us' : List Value} (h : dc gs us qs us') : dc (p :: gs) (u :: us) (p :: qs) (u :: us') := fun {Fz w F} k => by
 obtain ⟨v, vs, F1, F2, e1, rfl, h1, h2⟩ := k
 injection e1 with e1 e2
 subst e1 e2
 obtain ⟨F', R, h3, h4⟩ := h h2
 exact ⟨F1 ++ F', R, ⟨u, us', F1, F', rfl, rfl, h1, h3⟩, by rw [bw]; exact gl _ h4⟩
def dc.drop {p : PV} {u : Value} {gs qs : List PV} {us us' : List Value} (h : dc gs us qs us') : dc (p :: gs) (u :: us) qs us' := fun {Fz w F} k => by
 obtain ⟨v, vs, F1, F2, e1, rfl, h1, h2⟩ := k
 injection e1 with e1 e2
 subst e1 e2
 obtain ⟨F', R, h3, h4⟩ := h h2
 refine ⟨F', F1 ++ R, h3, ?_⟩
 refine (gl F1 h4).trans ?_
 rw [← bw, ← bw]
 exact iy _ jj
def dc.lit {x : Value} {gs qs : List PV} {us us' : List Value} (hx : x.oneCell' = true) (h : dc gs us qs us') : dc gs us (PV.val x :: qs) (x :: us') := fun {Fz w F} k => by
 obtain ⟨F', R, h3, h4⟩ := h k
 exact ⟨F', R, ⟨x, us', [], F', rfl, rfl, ⟨⟨rfl, hx⟩, rfl⟩, h3⟩, h4⟩
def FU {e : Nat} {ps : List PV} {Fz : av} {w : World} : ∀ {es : List (List PV)} {css : List Value} {F : List Nat}, cc e (es ++ [ps]) Fz w css F → ∃ c1 c2 Fa Fb, css = c1 ++ c2 ∧ F = Fa ++ Fb ∧ c2.length = e ∧ cc e es Fz w c1 Fa ∧ aJ ps Fz w c2 Fb
 | [], css, F, h => by
  obtain ⟨c, d, F1, F2, rfl, rfl, hl, h1, rfl, rfl⟩ := h
  exact ⟨[], c, [], F1, by simp, by simp, hl, ⟨rfl, rfl⟩, h1⟩
 | x :: es, css, F, h => by
  obtain ⟨c, d, F1, F2, rfl, rfl, hl, h1, h2⟩ := h
  obtain ⟨c1, c2, Fa, Fb, rfl, rfl, h3, h4, h5⟩ := FU h2
  exact ⟨c ++ c1, c2, F1 ++ Fa, Fb, by simp, by simp, h3, ⟨c, c1, F1, Fa, rfl, rfl, hl, h1, h4⟩, h5⟩
def FV {e : Nat} {ps : List PV} {Fz : av} {w : World} {c2 : List Value} {Fb : List Nat} (hl : c2.length = e) (h5 : aJ ps Fz w c2 Fb) : ∀ {es : List (List PV)} {c1 : List Value} {Fa : List Nat}, cc e es Fz w c1 Fa → cc e (es ++ [ps]) Fz w (c1 ++ c2) (Fa ++ Fb)
 | [], c1, Fa, h => by
  obtain ⟨rfl, rfl⟩ := h
  exact ⟨c2, [], Fb, [], by simp, by simp, hl, h5, rfl, rfl⟩
 | x :: es, c1, Fa, h => by
  obtain ⟨c, d, F1, F2, rfl, rfl, hl', h1, h2⟩ := h
  exact ⟨c, d ++ c2, F1, F2 ++ Fb, by simp, by simp, hl', h1, FV hl h5 h2⟩
def FW {t e : Nat} {es : List (List PV)} {ps qs gs : List PV} {us us' : List Value} (hn : Nm ps us') (hs : dc gs us qs us') {Fz : av} {w : World} {v : Value} {F1 F2 : List Nat} (h : (PV.sl (.own t e) (es ++ [ps])).own Fz w v F1) (k : aJ gs Fz w us F2) : ∃ F R, (PV.sl (.own t e) (es ++ [qs])).own Fz w v F ∧ (F1 ++ F2).Perm (F ++ R) := by
 have h : db t e (es ++ [ps]) Fz w v F1 := h
 obtain ⟨css, F', hrow, hll, hfz, rfl, hone⟩ := h
 obtain ⟨c1, c2, Fa, Fb, rfl, rfl, hl, h4, h5⟩ := FU hll
 obtain rfl : c2 = us' := hn h5.rel
 obtain ⟨F'', R, h6, h7⟩ := hs k
 have hlen : (es ++ [qs]).length = (es ++ [ps]).length := by simp
 refine ⟨v.ownBlock.toList ++ (Fa ++ F''), Fb ++ R, ⟨c1 ++ c2, Fa ++ F'', by rw [hlen]; exact hrow, FV hl h6 h4, fun g hg o => by rw [hlen]; exact hfz g hg o, rfl, hone⟩, ?_⟩
 simp only [bw]
 refine gl _ (gl _ ?_)
 refine (gl Fb h7).trans ?_
 rw [← bw, ← bw]
 exact iy _ jj
end
end
end Go.Proofs.YtmekkgdboplbjaaGreat.M
