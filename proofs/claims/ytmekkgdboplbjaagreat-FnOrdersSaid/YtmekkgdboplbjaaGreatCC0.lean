/- The logic. No condition. -/
import Derived.Test.YtmekkgdboplbjaaGreatCB0
import Derived.KernelRfl
import Derived.Laws.Strings3
import Derived.Laws.BytesString
import Derived.Laws.Concat
import Derived.Lib.LaidTab
import Derived.Lib.Join
import Derived.Lib.ItoaNum
import Derived.Lib.ItoaLen
import Derived.Sort.Grow
import Derived.Deep.Draws
import Derived.ProofKit
import Derived.OpenShut
import Derived.Carry
import Derived.Below
import Derived.ChangeSame
import Derived.ChangeArms
import Derived.WideKeyArgs
import Derived.Deep.Slices
set_option linter.unusedVariables false
namespace Go.Proofs.YtmekkgdboplbjaaGreat.M
open Go Go.RowKit
section
section
variable {P : Program} {n : Nat} {h0 : Nat → Prop} {w0 : World} {Fz0 : ao} {ops : Array Oper} {Q : Exit → St → Prop}
theorem dj.bor {Fz : ao} {w : World} : ∀ {l : List (Bool × List PV)} {vs : List Value}, (∀ q, q ∈ l → ae q.2) → dj l Fz w vs → c6 l Fz w vs []
  | [], _, _, h => ⟨h, rfl⟩
  | q :: l, vs, hb, h => by
    obtain ⟨v, vs', rfl, h1, h2⟩ := h
    exact ⟨v, vs', [], [], rfl, rfl, ⟨h1.1, ae.own (hb q (by simp)) h1.2⟩, dj.bor (fun x hx => hb x (by simp [hx])) h2⟩
theorem Bq {f d t : Nat} {xs : List Operand} {args : Array Operand} {tys : Array TypeId} {ty : TypeId} {pos : String} {af : Array Edge} {g : Option (Nat × Bool)} {a : Act} {w : World} (hf : au P f = true) (he : args.toList = .tmp t :: xs) :
    (execOp a.eval ⟨some d, .call { callee := .value (.func f), args := args, argTypes := tys }, ty, pos, af, g⟩).run P w = .ok (.enter f (a.tmps.getD t undef :: xs.map a.eval).toArray) w := by
  unfold execOp
  have e : (#[] ++ args.map a.eval ++ #[] : Array Value) = (args.toList.map a.eval).toArray := by apply Array.ext'; simp
  simp only [resolve, Act.eval, Deferred.ofValue, Sem.run_bind, Sem.run_pure, Result.andThen_ok, invoke]
  rw [pU hf, e, he]; rfl
theorem Br {f d : Nat} {args : Array Operand} {tys : Array TypeId} {ty : TypeId} {pos : String} {af : Array Edge} {g : Option (Nat × Bool)} {a : Act} {w : World} (hf : au P f = true) :
    (execOp a.eval ⟨some d, .call { callee := .value (.func f), args := args, argTypes := tys }, ty, pos, af, g⟩).run P w = .ok (.enter f (args.toList.map a.eval).toArray) w := by
  unfold execOp
  have e : (#[] ++ args.map a.eval ++ #[] : Array Value) = (args.toList.map a.eval).toArray := by apply Array.ext'; simp
  simp only [resolve, Act.eval, Deferred.ofValue, Sem.run_bind, Sem.run_pure, Result.andThen_ok, invoke]
  rw [pU hf, e]
theorem c9 {f d p bx t : Nat} {xs : List Operand} {args : Array Operand} {tys : Array TypeId} {ty : TypeId} {pos : String} {af : Array Edge} {g : Option (Nat × Bool)} {cs cs' : List PV} {qs as_ : List (Bool × List PV)} {r : RV} (hd : d < n) (hf : au P f = true) (he : args.toList = .tmp p :: xs)
    (hok : hO xs qs) (hto : hP qs as_) (hbc : ae cs) (hba : ∀ q, q ∈ as_ → ae q.2) (hu : fE P f t cs cs' as_ r) :
    Loc P n ⟨some d, .call { callee := .value (.func f), args := args, argTypes := tys }, ty, pos, af, g⟩ ⟨(p, RV.ptr bx 0) :: fS xs qs, [(bx, (t, cs))], [(d, some r)], [(bx, some (t, cs'))], none⟩ := by
  intro h0 w0 Fz0 σ a w K Q hc hr hrb _ h5
  obtain ⟨φ, Fz, Fp, hc⟩ := hc
  have hp := (hc.slot p _ hr.1).1
  obtain ⟨cur, hg, ho⟩ := hc.box bx _ hrb.1
  obtain ⟨g1, g2, g3⟩ := hc.bxb bx _ hrb.1
  have hglt : φ bx < w.heap.size := (Array.getElem?_eq_some_iff.1 hg).1
  have hrel := hto.rel (hc.relT hr.2 hok)
  unfold Oper.wp
  rw [Bq hf he, hp, Oper.upon_enter]
  refine (hu w (φ bx) cur _ Fz [] [] hc.fzl hg g2 (ae.own hbc ho.rel) (dj.bor hba hrel) (by simp)).mono ?_
  rintro e w' ⟨v, Fz', cur', F1', G, rfl, ht, hg', hf', ho', hv, hn, hin⟩
  simp only [List.append_nil, List.not_mem_nil, false_or] at hin
  refine h5 _ _ ?_
  have c1 := hc.pullB hrb.1
  have hn' := hn
  rw [List.nodup_cons, List.nodup_append] at hn'
  have c2 := c1.world (w' := w') (Fz' := Fz') (X := φ bx :: (F1' ++ G)) ht.os ht.tape ht.output ht.size (fun b hb hb0 => by
      have hbg : b ≠ φ bx := fun e => hb0 (by simp [e])
      have := ht.same b hb (fun e => hbg (Option.some.inj e)) (by simp)
      exact ⟨this.1, fun o => (this.2 o).1⟩)
    (fun b o hbo => by
      have hb := hc.fzl b o hbo
      have hbg : b ≠ φ bx := fun e => g2 o (e ▸ hbo)
      have := ht.same b hb (fun e => hbg (Option.some.inj e)) (by simp)
      exact ⟨(this.2 o).2 hbo, World.cell?_of_block this.1⟩) ht.fzl
    (fun b hb => by
      rcases List.mem_cons.1 hb with rfl | hb
      · exact .inl (by simp)
      · exact .inr (hin b hb)) hn
  have c3 := c2.pushB (d := bx) (g := φ bx) (t := t) (cs := cs') (cur := cur') (F := F1') (X := G) (by simp [St.setB_b]) hg' ho' hf' (fun b hb => by
      simp only [if_true]
      simp only [List.mem_append, List.mem_cons] at hb ⊢
      rcases hb with hb | hb | hb <;> simp [hb])
    (by
      rw [List.nodup_append, List.nodup_cons]
      refine ⟨hn'.2.1, ⟨fun h => hn'.1 (by simp [h]), hn'.2.2.1⟩, fun x hx y hy e => ?_⟩
      rcases List.mem_cons.1 hy with rfl | hy
      · exact hn'.1 (by simp [← e, hx])
      · exact hn'.2.2.2 x hx y hy e) (.inl rfl)
  have c4 := c3.push (i := d) (rv := r) (v := v) (F := G) (X := []) hd (hv _) (fun b hb => by
      simp only [b6]
      rw [if_neg (by omega)]
      simpa using hb) (by simpa using hn'.2.2.1)
  exact aW.eqv ⟨_, _, _, c4⟩ (fun i => rfl) (fun x => by
    show (bif Nat.beq x bx then some (t, cs') else σ.b x) = _
    rw [St.set_b, St.setB_b, St.setB_b, beq_eq]
    by_cases e : x = bx <;> simp [e])
def PV.OTo (p q : PV) : Prop := ∀ {Fz : ao} {w : World} {v : Value} {F : List Nat}, p.own Fz w v F → q.own Fz w v F
theorem OTo.refl {p : PV} : p.OTo p := fun h => h
theorem OTo.lo {L : Nat → Prop} {es : List (List PV)} : (PV.sl (.lo L) es).OTo (PV.sl .v es) := fun h => ⟨h.1.1, h.2⟩
theorem OTo.nv {u : Value} {p : PV} : (PV.nv u p).OTo p := fun h => h.2
theorem en.cons {p q : PV} {ps qs : List PV} (h : p.OTo q) (k : en ps qs) : en (p :: ps) (q :: qs) := fun hh => by
  obtain ⟨v, vs', F1, F2, rfl, rfl, h1, h2⟩ := hh
  exact ⟨v, vs', F1, F2, rfl, rfl, h h1, k h2⟩
def oq : List (Bool × List PV) → List (Bool × List PV) → Prop
  | [], [] => True
  | p :: ps, q :: qs => (p.1 = q.1 ∧ en p.2 q.2) ∧ oq ps qs
  | _, _ => False
theorem oq.own {Fz : ao} {w : World} : ∀ {ps qs : List (Bool × List PV)} {vs : List Value} {F : List Nat}, oq ps qs → c6 ps Fz w vs F → c6 qs Fz w vs F
  | [], [], _, _, _, h => h
  | p :: ps, q :: qs, _, _, k, h => by
    obtain ⟨v, vs', F1, F2, rfl, rfl, h1, h2⟩ := h
    exact ⟨v, vs', F1, F2, rfl, rfl, ⟨k.1.1 ▸ h1.1, k.1.2 h1.2⟩, oq.own k.2 h2⟩
def ot (L : Nat → Prop) (ts : List Nat) : List (Nat × RV) → Prop
  | [] => True
  | p :: l => (p.1 ∈ ts ∨ p.2.Lcl L) ∧ ot L ts l
theorem ot.mem {L : Nat → Prop} {ts : List Nat} : ∀ {l : List (Nat × RV)}, ot L ts l → ∀ p, p ∈ l → p.1 ∈ ts ∨ p.2.Lcl L
  | [], _, p, hp => by simp at hp
  | q :: l, h, p, hp => by
    rcases List.mem_cons.1 hp with rfl | hp
    · exact h.1
    · exact ot.mem h.2 p hp
theorem wu : ∀ {xs : List Operand} {f : Nat → Option RV} {i : Nat} {rv : RV}, a9 (iD xs) f i = some rv → i ∉ gE xs ∧ f i = some rv
  | [], f, i, rv, h => ⟨by simp [gE], h⟩
  | x :: xs, f, i, rv, h => by
    have h : a9 (iD xs) (a9 (lX x) f) i = some rv := by rw [← pS]; exact h
    obtain ⟨k1, k2⟩ := wu h
    cases x with
    | tmp t =>
      have k2 : (bif Nat.beq i t then none else f i) = some rv := k2
      rw [beq_eq] at k2
      by_cases e : i = t
      · simp [e] at k2
      · simp [e] at k2
        exact ⟨by simp [gE, e, k1], k2⟩
    | _ => exact ⟨k1, k2⟩
theorem M0 {f d : Nat} {L : Nat → Prop} {args : Array Operand} {tys : Array TypeId} {ty : TypeId} {pos : String} {af : Array Edge} {ol : List Oper} {l : List (Nat × RV)} {b : List (Nat × (Nat × List PV))} {qs as_ : List (Bool × List PV)} {r : RV}
    (hd : d < n) (hf : au P f = true) (hrd : aL (fS args.toList qs) (lk l)) (hok : hO args.toList qs) (hap : sw args.toList = true) (hto : oq qs as_) (hu : wm P f as_ r) (hL : ∀ x, L x → h0 x) (hls : ot L (gE args.toList) l) (hlb : oh L b)
    (h : hR P n h0 w0 Fz0 ops ol ((⟨a9 (iD args.toList) (lk l), lk b⟩ : St).set d (some r)) Q) :
    hR P n h0 w0 Fz0 ops (⟨some d, .call { callee := .value (.func f), args := args, argTypes := tys }, ty, pos, af, none⟩ :: ol) (St.of l b) Q := fun a w hc => by
  obtain ⟨φ, Fz, Fp, hc⟩ := hc
  obtain ⟨F, Fp', hown, c1, hm, hnd⟩ := hc.pulls args.toList qs hrd hok (of_decide_eq_true hap)
  have hF := (List.nodup_append.1 hnd).1
  refine wpList_plain rfl fun K hK => ?_
  unfold Oper.wp
  rw [Br hf, Oper.upon_enter]
  refine (hu w _ Fz F hc.fzl (hto.own hown) hF).mono ?_
  rintro e w' ⟨v, Fz', G, rfl, ht, hv, hn, hin⟩
  have hlt0 : ∀ x, x ∈ Fp 0 → x < w.heap.size := fun x hx => (hc.low 0 x hx).2
  have c2 := c1.uworld (w' := w') (Fz' := Fz') (L := L) (X := G ++ Fp 0) ht.os ht.tape ht.output ht.size (fun x hx hx0 => ht.same x hx (by simp) (fun k => hx0 ((hm x).2 (by simp [k])))) hL
    (fun i rv hi => by
      obtain ⟨k1, k2⟩ := wu hi
      rcases hls.mem _ (fQ k2) with k | k
      · exact absurd k k1
      · exact k)
    (fun d' bx hb => oh.mem hlb _ (fQ hb)) ht.fzl
    (fun x hx => by
      rcases List.mem_append.1 hx with hx | hx
      · rcases hin x hx with k | k
        · exact .inl ((hm x).2 (by simp [k]))
        · exact .inr k
      · exact .inl ((hm x).2 (by simp [hx])))
    (by
      rw [List.nodup_append] at hnd ⊢
      refine ⟨hn, hnd.2.1, fun x hx y hy e => ?_⟩
      rcases hin x hx with k | k
      · exact hnd.2.2 x k y hy e
      · have := hlt0 y hy; omega)
  have c3 := c2.push (i := d) (rv := r) (v := v) (F := G) (X := Fp 0) hd (hv _) (fun x hx => by simpa using hx) (by
      have := c2.nod 0
      simpa using this)
  exact hK _ _ (h _ _ ⟨_, _, _, c3⟩)
theorem qd {f d p bx t : Nat} {L : Nat → Prop} {xs : List Operand} {args : Array Operand} {tys : Array TypeId} {ty : TypeId} {pos : String} {af : Array Edge} {ol : List Oper} {l : List (Nat × RV)} {b : List (Nat × (Nat × List PV))} {cs cs' : List PV} {qs as_ : List (Bool × List PV)} {r : RV}
    (hd : d < n) (hf : au P f = true) (he : args.toList = .tmp p :: xs) (hp : lk l p = some (RV.ptr bx 0)) (hbx : lk b bx = some (t, cs)) (hrd : aL (fS xs qs) (lk l)) (hok : hO xs qs) (hap : sw xs = true) (hto : oq qs as_) (hu : fE P f t cs cs' as_ r) (hL : ∀ x, L x → h0 x) (hls : ot L (gE xs) l) (hlb : oe L bx b)
    (h : hR P n h0 w0 Fz0 ops ol (((⟨a9 (iD xs) (lk l), lk b⟩ : St).setB bx (some (t, cs'))).set d (some r)) Q) :
    hR P n h0 w0 Fz0 ops (⟨some d, .call { callee := .value (.func f), args := args, argTypes := tys }, ty, pos, af, none⟩ :: ol) (St.of l b) Q := fun a w hc => by
  obtain ⟨φ, Fz, Fp, hc⟩ := hc
  have hpv := (hc.slot p _ hp).1
  obtain ⟨F, Fp', hown, c1, hm, hnd⟩ := hc.pulls xs qs hrd hok (of_decide_eq_true hap)
  have hF := (List.nodup_append.1 hnd).1
  have hb1 : (⟨a9 (iD xs) (St.of l b).s, (St.of l b).b⟩ : St).b bx = some (t, cs) := hbx
  obtain ⟨cur, hg, ho⟩ := c1.box bx _ hb1
  obtain ⟨g1, g2, g3⟩ := c1.bxb bx _ hb1
  have hglt : φ bx < w.heap.size := (Array.getElem?_eq_some_iff.1 hg).1
  have c2 := c1.pullB hb1
  generalize hFp2 : (fun x => if x = 0 then φ bx :: mv Fp' (2 * bx + 2) 0 else mv Fp' (2 * bx + 2) x) = Fp2 at c2
  have e0 : Fp2 0 = φ bx :: (Fp' (2 * bx + 2) ++ Fp' 0) := by rw [← hFp2]; simp [mv]
  have hFin : ∀ x, x ∈ F → x ∈ Fp' 0 := fun x hx => (hm x).2 (by simp [hx])
  have hXin : ∀ x, x ∈ Fp 0 → x ∈ Fp' 0 := fun x hx => (hm x).2 (by simp [hx])
  have hn1 : (φ bx :: (Fp' (2 * bx + 2) ++ F)).Nodup := by
    rw [List.nodup_cons, List.nodup_append]
    refine ⟨fun k => ?_, c1.nod _, hF, fun x hx y hy e => ?_⟩
    · rcases List.mem_append.1 k with k | k
      · exact g3 _ k
      · exact g3 0 (hFin _ k)
    · subst e
      exact c1.dis 0 (2 * bx + 2) (by omega) x (hFin x hy) hx
  refine wpList_plain rfl fun K hK => ?_
  unfold Oper.wp
  rw [Bq hf he, hpv, Oper.upon_enter]
  refine (hu w (φ bx) cur _ Fz _ F hc.fzl hg g2 ho (hto.own hown) hn1).mono ?_
  rintro e w' ⟨v, Fz', cur', F1', G, rfl, ht, hg', hf', ho', hv, hn, hin⟩
  have hn' := hn
  rw [List.nodup_cons, List.nodup_append] at hn'
  have hlt0 : ∀ x, x ∈ Fp 0 → x < w.heap.size := fun x hx => (hc.low 0 x hx).2
  have hdis0 : ∀ x, x ∈ Fp 0 → x ≠ φ bx ∧ x ∉ Fp' (2 * bx + 2) ∧ x ∉ F := fun x hx => by
    refine ⟨fun e => g3 0 (e ▸ hXin x hx), fun k => c1.dis 0 (2 * bx + 2) (by omega) x (hXin x hx) k, fun k => ?_⟩
    rw [List.nodup_append] at hnd
    exact hnd.2.2 x k x hx rfl
  have hdn : ∀ x, x ∈ F1' ++ G → x ∉ Fp 0 := fun x hx k => by
    obtain ⟨k1, k2, k3⟩ := hdis0 x k
    rcases hin x hx with hx | hx
    · rcases List.mem_append.1 hx with hx | hx
      · exact k2 hx
      · exact k3 hx
    · have := hlt0 x k; omega
  have c3 := c2.uworld (w' := w') (Fz' := Fz') (L := L) (X := φ bx :: (F1' ++ (G ++ Fp 0))) ht.os ht.tape ht.output ht.size (fun x hx hx0 => ht.same x hx (fun k => hx0 (by rw [e0, Option.some.inj k]; simp)) (fun k => hx0 (by
        rw [e0]
        rcases List.mem_append.1 k with k | k
        · simp [k]
        · simp [hFin x k]))) hL
    (fun i rv hi => by
      obtain ⟨k1, k2⟩ := wu hi
      rcases hls.mem _ (fQ k2) with k | k
      · exact absurd k k1
      · exact k)
    (fun d' bxx hb => by
      rw [St.setB_b] at hb
      split at hb
      · cases hb
      · rename_i hne
        rcases hlb.mem _ (fQ hb) with k | k
        · exact absurd k hne
        · exact k) ht.fzl
    (fun x hx => by
      rw [e0]
      simp only [List.mem_cons, List.mem_append] at hx ⊢
      rcases hx with hx | hx | hx | hx
      · exact .inl (.inl hx)
      · rcases hin x (by simp [hx]) with k | k
        · rcases List.mem_append.1 k with k | k
          · exact .inl (.inr (.inl k))
          · exact .inl (.inr (.inr (hFin x k)))
        · exact .inr k
      · rcases hin x (by simp [hx]) with k | k
        · rcases List.mem_append.1 k with k | k
          · exact .inl (.inr (.inl k))
          · exact .inl (.inr (.inr (hFin x k)))
        · exact .inr k
      · exact .inl (.inr (.inr (hXin x hx))))
    (by
      rw [List.nodup_cons, List.nodup_append, List.nodup_append]
      refine ⟨fun k => ?_, hn'.2.1, ⟨hn'.2.2.1, (List.nodup_append.1 hnd).2.1, fun x hx y hy e => hdn x (by simp [hx]) (e ▸ hy)⟩, fun x hx y hy e => ?_⟩
      · simp only [List.mem_append] at k
        rcases k with k | k | k
        · exact hn'.1 (by simp [k])
        · exact hn'.1 (by simp [k])
        · exact (hdis0 _ k).1 rfl
      · rcases List.mem_append.1 hy with hy | hy
        · exact hn'.2.2.2 x hx y hy e
        · exact hdn x (by simp [hx]) (e ▸ hy))
  have hnX : (F1' ++ φ bx :: (G ++ Fp 0)).Nodup := by
    have := c3.nod 0
    simp only [if_true] at this
    refine (List.Perm.nodup_iff ?_).2 this
    exact List.perm_middle
  have c4 := c3.pushB (d := bx) (g := φ bx) (t := t) (cs := cs') (cur := cur') (F := F1') (X := G ++ Fp 0) (by simp [St.setB_b]) hg' ho' hf' (fun x hx => by
      simp only [if_true]
      simp only [List.mem_append, List.mem_cons] at hx ⊢
      rcases hx with hx | hx | hx | hx <;> simp [hx]) hnX (.inl rfl)
  have c5 := c4.push (i := d) (rv := r) (v := v) (F := G) (X := Fp 0) hd (hv _) (fun x hx => by
      simp only [b6, if_true]
      rw [if_neg (by omega)]
      exact hx) (by
      have := c4.nod 0
      simp only [b6, if_true] at this
      rw [if_neg (by omega)] at this
      exact this)
  exact hK _ _ (h _ _ (aW.eqv ⟨_, _, _, c5⟩ (fun i => rfl) (fun x => by
    simp only [St.set_b, St.setB_b]
    split <;> rfl)))
end
end
section
section
variable {P : Program} {n : Nat} {h0 : Nat → Prop} {w0 : World} {Fz0 : ao} {ops : Array Oper} {Q : Exit → St → Prop}
def bX {α : Type} (f : α → List PV) (xs : List α) (jk : List Value) : List PV := (xs.map f).flatten ++ jk.map PV.val
theorem M1 {T d p b off t k e : Nat} {ty : TypeId} {pos : String} {af : Array Edge} {g : Option (Nat × Bool)} {ag : Bool} {α : Type} {f : α → List PV} {xs : List α} {jk : List Value} {qs : List PV} (hf : ∀ x, (f x).length = e) (hoff : off = k * e) (hk : k < xs.length) (hd : d < n) (hT : bQ P T = some (ag, e)) (h1 : ag = false → e = 1)
    (ht : ab (f xs[k]) qs) (hb : ae qs) :
    Loc P n ⟨some d, .load T (.tmp p), ty, pos, af, g⟩ ⟨[(p, RV.ptr b off)], [(b, (t, bX f xs jk))], [(d, some (RV.sv ag qs))], [], none⟩ := by
  unfold bX
  rw [hY hk]
  exact oi (o := 0) (by rw [hoff, ia hf (Nat.le_of_lt hk)]; rfl) hd hT h1 (by rw [hf]; omega) (by rw [List.drop_zero, List.take_of_length_le (by rw [hf]; exact Nat.le_refl _)]; exact ht) hb
theorem M2 {T p b off t k e : Nat} {x : Operand} {ty : TypeId} {pos : String} {af : Array Edge} {g : Option (Nat × Bool)} {ag : Bool} {α : Type} {f : α → List PV} {xs : List α} {jk : List Value} {vs : List PV} (y : α) (hf : ∀ x, (f x).length = e) (hoff : off = k * e) (hk : k < xs.length) (hT : bQ P T = some (ag, e)) (hx : bk x (RV.sv ag vs)) (hv : vs = f y) :
    Loc P n ⟨none, .store T (.tmp p) x, ty, pos, af, g⟩ ⟨(p, RV.ptr b off) :: a5 x (RV.sv ag vs), [(b, (t, bX f xs jk))], lX x, [(b, some (t, bX f (xs.set k y) jk))], none⟩ := by
  have h : Loc P n ⟨none, .store T (.tmp p) x, ty, pos, af, g⟩ _ := kd (off := off) (P := P) (n := n) (T := T) (p := p) (b := b) (t := t) (x := x) (ty := ty) (pos := pos) (af := af) (g := g) (ag := ag) (A := ((xs.take k).map f).flatten) (m := f xs[k]) (B := ((xs.drop (k + 1)).map f).flatten ++ jk.map PV.val) (vs := vs) (o := 0) (by rw [hoff, ia hf (Nat.le_of_lt hk)]; rfl) hT hx (by rw [hv]; exact hf y) (by rw [hf]; omega)
  unfold bX
  rw [hY hk, ← kZ (cs := vs) y hk hv]
  have e2 : List.take 0 (f xs[k]) ++ (vs ++ List.drop (0 + e) (f xs[k])) = vs := by
    rw [List.take_zero, List.nil_append, List.drop_eq_nil_of_le (by rw [hf]; omega), List.append_nil]
  rw [e2] at h
  exact @h
end
end
section
section
variable {P : Program} {n : Nat} {h0 : Nat → Prop} {w0 : World} {Fz0 : ao} {ops : Array Oper} {σ σ0 : St} {QS : St → Prop} {Q : Exit → St → Prop} {o : Oper} {l : List Oper} {acc : List (Nat × ar)} {c : Code}
theorem rA {L : ar} (y : an P n ops QS l (σ.app L)) (h1 : aL L.rs σ.s := by repeat (first | exact True.intro | refine And.intro rfl ?_)) (h2 : aL L.rb σ.b := by repeat (first | exact True.intro | refine And.intro rfl ?_)) (x : Loc P n o L) (hg : o.guard = none := by exact rfl) (ha : L.al = none := by exact rfl) : an P n ops QS (o :: l) σ :=
  an.step h1 h2 (be.of hg x) (fun d hd => by rw [ha] at hd; cases hd) y
theorem rB {L : ar} {g s : Nat} {b c : Bool} (hb : c = b) (y : an P n ops QS l (σ.app ⟨(s, RV.bool c) :: L.rs, L.rb, L.ws, L.wb, L.al⟩)) (hg : o.guard = some (g, b) := by exact rfl) (hs : (ops[g]?).bind (·.dst) = some s := by exact rfl) (h1 : aL ((s, RV.bool c) :: L.rs) σ.s := by repeat (first | exact True.intro | refine And.intro rfl ?_)) (h2 : aL L.rb σ.b := by repeat (first | exact True.intro | refine And.intro rfl ?_)) (x : Loc P n o L) (hlt : s < n := by decide) (ha : L.al = none := by exact rfl) : an P n ops QS (o :: l) σ :=
  an.step (L := ⟨(s, RV.bool c) :: L.rs, L.rb, L.ws, L.wb, L.al⟩) h1 h2 (be.yes hg hs hlt hb x) (fun d hd => by have hd : L.al = some d := hd; rw [ha] at hd; cases hd) y
theorem dA {L : ar} (m : Nat) (y : a4 P n ops σ0 (fun _ _ => True) QS l (acc ++ [(m, L)]) (σ.app L)) (h1 : aL L.rs σ.s := by repeat (first | exact True.intro | refine And.intro rfl ?_)) (h2 : aL L.rb σ.b := by repeat (first | exact True.intro | refine And.intro rfl ?_)) (x : Loc P n o L) (hg : o.guard = none := by exact rfl) (ha : L.al = none := by exact rfl) (h4 : j9 m o L acc = true := by kernel_rfl) : a4 P n ops σ0 (fun _ _ => True) QS (o :: l) acc σ :=
  a4.step m h1 h2 (be.of hg x) (fun d hd => by rw [ha] at hd; cases hd) h4 y
theorem dB {L : ar} {g s : Nat} {b c : Bool} (m : Nat) (hb : c = b) (y : a4 P n ops σ0 (fun _ _ => True) QS l (acc ++ [(m, ⟨(s, RV.bool c) :: L.rs, L.rb, L.ws, L.wb, L.al⟩)]) (σ.app ⟨(s, RV.bool c) :: L.rs, L.rb, L.ws, L.wb, L.al⟩)) (hg : o.guard = some (g, b) := by exact rfl) (hs : (ops[g]?).bind (·.dst) = some s := by exact rfl) (h1 : aL ((s, RV.bool c) :: L.rs) σ.s := by repeat (first | exact True.intro | refine And.intro rfl ?_)) (h2 : aL L.rb σ.b := by repeat (first | exact True.intro | refine And.intro rfl ?_)) (x : Loc P n o L) (hlt : s < n := by decide) (ha : L.al = none := by exact rfl)
    (h4 : j9 m o ⟨(s, RV.bool c) :: L.rs, L.rb, L.ws, L.wb, L.al⟩ acc = true := by kernel_rfl) : a4 P n ops σ0 (fun _ _ => True) QS (o :: l) acc σ :=
  a4.step (L := ⟨(s, RV.bool c) :: L.rs, L.rb, L.ws, L.wb, L.al⟩) m h1 h2 (be.yes hg hs hlt hb x) (fun d hd => by have hd : L.al = some d := hd; rw [ha] at hd; cases hd) h4 y
theorem dF {g s d : Nat} {c : Bool} (m : Nat) (hb : c = false) (y : a4 P n ops σ0 (fun _ _ => True) QS l (acc ++ [(m, ⟨[(s, RV.bool c)], [], [(d, some RV.und)], [], none⟩)]) (σ.app ⟨[(s, RV.bool c)], [], [(d, some RV.und)], [], none⟩)) (hg : o.guard = some (g, true) := by exact rfl) (hs : (ops[g]?).bind (·.dst) = some s := by exact rfl) (hlt : s < n := by decide) (hd : o.dst = some d := by exact rfl)
    (h1 : σ.s s = some (RV.bool c) := by exact rfl) (h4 : j9 m o ⟨[(s, RV.bool c)], [], [(d, some RV.und)], [], none⟩ acc = true := by kernel_rfl) : a4 P n ops σ0 (fun _ _ => True) QS (o :: l) acc σ :=
  a4.step (L := ⟨[(s, RV.bool c)], [], [(d, some RV.und)], [], none⟩) m ⟨h1, True.intro⟩ True.intro (be.no hg hs hlt hb hd) cV h4 y
theorem dT {g s d : Nat} {c : Bool} (m : Nat) (hb : c = true) (y : a4 P n ops σ0 (fun _ _ => True) QS l (acc ++ [(m, ⟨[(s, RV.bool c)], [], [(d, some RV.und)], [], none⟩)]) (σ.app ⟨[(s, RV.bool c)], [], [(d, some RV.und)], [], none⟩)) (hg : o.guard = some (g, false) := by exact rfl) (hs : (ops[g]?).bind (·.dst) = some s := by exact rfl) (hlt : s < n := by decide) (hd : o.dst = some d := by exact rfl)
    (h1 : σ.s s = some (RV.bool c) := by exact rfl) (h4 : j9 m o ⟨[(s, RV.bool c)], [], [(d, some RV.und)], [], none⟩ acc = true := by kernel_rfl) : a4 P n ops σ0 (fun _ _ => True) QS (o :: l) acc σ :=
  a4.step (L := ⟨[(s, RV.bool c)], [], [(d, some RV.und)], [], none⟩) m ⟨h1, True.intro⟩ True.intro (be.no hg hs hlt hb hd) cV h4 y
theorem dU {g s d : Nat} {b : Bool} (m : Nat) (y : a4 P n ops σ0 (fun _ _ => True) QS l (acc ++ [(m, ⟨[(s, RV.und)], [], [(d, some RV.und)], [], none⟩)]) (σ.app ⟨[(s, RV.und)], [], [(d, some RV.und)], [], none⟩)) (hg : o.guard = some (g, b) := by exact rfl) (hs : (ops[g]?).bind (·.dst) = some s := by exact rfl) (hd : o.dst = some d := by exact rfl)
    (h1 : σ.s s = some RV.und := by exact rfl) (h4 : j9 m o ⟨[(s, RV.und)], [], [(d, some RV.und)], [], none⟩ acc = true := by kernel_rfl) : a4 P n ops σ0 (fun _ _ => True) QS (o :: l) acc σ :=
  a4.step (L := ⟨[(s, RV.und)], [], [(d, some RV.und)], [], none⟩) m ⟨h1, True.intro⟩ True.intro (be.noU hg hs hd) cV h4 y
theorem sO (l : List (Nat × RV)) (b : List (Nat × (Nat × List PV))) (h : SW P n h0 w0 Fz0 c (St.of l b) Q) (hl : aL l σ.s := by repeat (first | exact True.intro | refine And.intro rfl ?_)) (hb : aL b σ.b := by repeat (first | exact True.intro | refine And.intro rfl ?_)) : SW P n h0 w0 Fz0 c σ Q := ME hl hb h
theorem wO (m : List (Nat × RV)) (b : List (Nat × (Nat × List PV))) (h : hR P n h0 w0 Fz0 ops l (St.of m b) Q) (hl : aL m σ.s := by repeat (first | exact True.intro | refine And.intro rfl ?_)) (hb : aL b σ.b := by repeat (first | exact True.intro | refine And.intro rfl ?_)) : hR P n h0 w0 Fz0 ops l σ Q := ML hl hb h
theorem wA {L : ar} (y : hR P n h0 w0 Fz0 ops l (σ.app L) Q) (h1 : aL L.rs σ.s := by repeat (first | exact True.intro | refine And.intro rfl ?_)) (h2 : aL L.rb σ.b := by repeat (first | exact True.intro | refine And.intro rfl ?_)) (x : Loc P n o L) (hg : o.guard = none := by exact rfl) (ha : L.al = none := by exact rfl) : hR P n h0 w0 Fz0 ops (o :: l) σ Q :=
  MK h1 h2 (be.of hg x) (fun d hd => by rw [ha] at hd; cases hd) y
end
section
variable {P : Program} {n : Nat} {d x : Nat} {ty : TypeId} {pos : String} {af : Array Edge} {g : Option (Nat × Bool)}
theorem cM {r r' : RV} (hc : Cp r r') (hd : d < n := by decide) : Loc P n ⟨some d, .move (.tmp x), ty, pos, af, g⟩ ⟨[(x, r)], [], [(d, some r')], [], none⟩ := eG (.inl rfl) hd hc
theorem cA {r r' : RV} (hc : Cp r r') (hd : d < n := by decide) : Loc P n ⟨some d, .assign (.tmp x), ty, pos, af, g⟩ ⟨[(x, r)], [], [(d, some r')], [], none⟩ := eG (.inr rfl) hd hc
theorem sM {v : Value} (hd : d < n := by decide) : Loc P n ⟨some d, .move (.tmp x), ty, pos, af, g⟩ ⟨[(x, RV.sc v)], [], [(d, some (RV.sc v))], [], none⟩ := cM Cp.sc hd
theorem sA {v : Value} (hd : d < n := by decide) : Loc P n ⟨some d, .assign (.tmp x), ty, pos, af, g⟩ ⟨[(x, RV.sc v)], [], [(d, some (RV.sc v))], [], none⟩ := cA Cp.sc hd
theorem vM {cs : List PV} (ag : Bool) (qs : List PV) (ht : ab cs qs := by repeat' (first | exact True.intro | exact PV.To.refl _ | exact PV.to_none | apply And.intro)) (hb : ae qs := by repeat (first | exact ae.nil | refine ae.cons (PV.bor_val _) ?_ | refine ae.cons (PV.bor_sl _) ?_ | refine ae.cons (PV.bor_lo _ _) ?_)) (hd : d < n := by decide) :
    Loc P n ⟨some d, .move (.tmp x), ty, pos, af, g⟩ ⟨[(x, RV.sv ag cs)], [], [(d, some (RV.sv ag qs))], [], none⟩ := cM (Cp.sv ht hb) hd
theorem vA {cs : List PV} (ag : Bool) (qs : List PV) (ht : ab cs qs := by repeat' (first | exact True.intro | exact PV.To.refl _ | exact PV.to_none | apply And.intro)) (hb : ae qs := by repeat (first | exact ae.nil | refine ae.cons (PV.bor_val _) ?_ | refine ae.cons (PV.bor_sl _) ?_ | refine ae.cons (PV.bor_lo _ _) ?_)) (hd : d < n := by decide) :
    Loc P n ⟨some d, .assign (.tmp x), ty, pos, af, g⟩ ⟨[(x, RV.sv ag cs)], [], [(d, some (RV.sv ag qs))], [], none⟩ := cA (Cp.sv ht hb) hd
theorem tM {r : RV} (hd : d < n := by decide) : Loc P n ⟨some d, .move (.tmp x), ty, pos, af, g⟩ ⟨[(x, r)], [], [(x, none), (d, some r)], [], none⟩ := mH (.inl rfl) hd
theorem tA {r : RV} (hd : d < n := by decide) : Loc P n ⟨some d, .assign (.tmp x), ty, pos, af, g⟩ ⟨[(x, r)], [], [(x, none), (d, some r)], [], none⟩ := mH (.inr rfl) hd
theorem kM {v : Value} (h : v.oneCell' = true := by exact rfl) (hd : d < n := by decide) : Loc P n ⟨some d, .move (.const v), ty, pos, af, g⟩ ⟨[], [], [(d, some (RV.sc v))], [], none⟩ := fj (.inl rfl) hd (aY h)
theorem kA {v : Value} (h : v.oneCell' = true := by exact rfl) (hd : d < n := by decide) : Loc P n ⟨some d, .assign (.const v), ty, pos, af, g⟩ ⟨[], [], [(d, some (RV.sc v))], [], none⟩ := fj (.inr rfl) hd (aY h)
theorem lD {T p b off t : Nat} {ag : Bool} {k : Nat} {cs : List PV} (qs : List PV) (hT : bQ P T = some (ag, k)) (h1 : ag = false → k = 1 := by first | exact fun _ => rfl | exact fun h => nomatch h) (hk : off + k ≤ cs.length := by exact Nat.le_of_ble_eq_true rfl) (ht : ab ((cs.drop off).take k) qs := by repeat' (first | exact True.intro | exact PV.To.refl _ | exact PV.to_none | apply And.intro))
    (hb : ae qs := by repeat (first | exact ae.nil | refine ae.cons (PV.bor_val _) ?_ | refine ae.cons (PV.bor_sl _) ?_ | refine ae.cons (PV.bor_lo _ _) ?_)) (hd : d < n := by decide) :
    Loc P n ⟨some d, .load T (.tmp p), ty, pos, af, g⟩ ⟨[(p, RV.ptr b off)], [(b, (t, cs))], [(d, some (RV.sv ag qs))], [], none⟩ := eH hd hT h1 hk ht hb
theorem lE {T p : Nat} {ag : Bool} {k : Nat} {cs : List PV} (qs : List PV) (hT : bQ P T = some (ag, k)) (h1 : ag = false → k = 1 := by first | exact fun _ => rfl | exact fun h => nomatch h) (hk : k ≤ cs.length := by exact Nat.le_of_ble_eq_true rfl) (ht : ab (cs.take k) qs := by repeat' (first | exact True.intro | exact PV.To.refl _ | exact PV.to_none | apply And.intro))
    (hb : ae qs := by repeat (first | exact ae.nil | refine ae.cons (PV.bor_val _) ?_ | refine ae.cons (PV.bor_sl _) ?_ | refine ae.cons (PV.bor_lo _ _) ?_)) (hd : d < n := by decide) :
    Loc P n ⟨some d, .load T (.tmp p), ty, pos, af, g⟩ ⟨[(p, RV.eptr cs)], [], [(d, some (RV.sv ag qs))], [], none⟩ := kc hd hT h1 hk ht hb
theorem lF {T p b off f fo : Nat} (hT : bq P T f = some fo) (hd : d < n := by decide) : Loc P n ⟨some d, .fieldAddr T (.tmp p) f, ty, pos, af, g⟩ ⟨[(p, RV.ptr b off)], [], [(d, some (RV.ptr b (off + fo)))], [], none⟩ := ss hd hT
theorem lN {T E e bs s m : Nat} {o : Fl} {es : List (List PV)} (hT : dC P T = some (E, e, bs)) (hm : es.length = m := by first | exact List.length_map _ | exact rfl) (hd : d < n := by decide) :
    Loc P n ⟨some d, .call { callee := .builtin .len, args := #[.tmp s], argTypes := #[T] }, ty, pos, af, g⟩ ⟨[(s, RV.slc o es)], [], [(d, some (RV.int (m : Int)))], [], none⟩ := My hd hT hm
theorem nT {T : TypeId} {b : Bool} (hd : d < n := by decide) : Loc P n ⟨some d, .unOp .not T (.tmp x), ty, pos, af, g⟩ ⟨[(x, RV.bool b)], [], [(d, some (RV.bool !b))], [], none⟩ := Mx hd
theorem aA {c x y : Operand} {b : Bool} {r : RV} (hg : b = true) (hc : bk c (RV.bool b) := by exact True.intro) (hz : bk x r := by first | exact True.intro | exact aY rfl) (hcp : Cp r r := by exact Cp.sc) (hd : d < n := by decide) : Loc P n ⟨some d, .pick c x y, ty, pos, af, g⟩ ⟨a5 c (RV.bool b) ++ a5 x r, [], [(d, some r)], [], none⟩ := AK (z := x) hd (by rw [hg]; rfl) hc hz hcp
theorem ay {c x y : Operand} {b : Bool} {r : RV} (hg : b = false) (hc : bk c (RV.bool b) := by exact True.intro) (hz : bk y r := by first | exact True.intro | exact aY rfl) (hcp : Cp r r := by exact Cp.sc) (hd : d < n := by decide) : Loc P n ⟨some d, .pick c x y, ty, pos, af, g⟩ ⟨a5 c (RV.bool b) ++ a5 y r, [], [(d, some r)], [], none⟩ := AK (z := y) hd (by rw [hg]; rfl) hc hz hcp
theorem cL {f : Nat} {args : Array Operand} {tys : Array TypeId} {r : RV} (qs as_ : List (Bool × List PV)) (hf : au P f = true) (hok : hO args.toList qs := by repeat' (first | exact True.intro | exact aY rfl | exact Mf | apply And.intro))
    (hto : hP qs as_ := by repeat' (first | exact True.intro | exact rfl | exact PV.To.refl _ | exact PV.to_none | apply And.intro)) (hs : aw P f as_ r) (hd : d < n := by decide) : Loc P n ⟨some d, .call { callee := .value (.func f), args := args, argTypes := tys }, ty, pos, af, g⟩ ⟨fS args.toList qs, [], [(d, some r)], [], none⟩ := mJ hd hf hok hto hs
section
variable {T T2 : TypeId} {x y : Operand} {i j : Int}
theorem cb (hx : bk x (RV.int i) := by first | exact True.intro | exact aY rfl) (hy : bk y (RV.int j) := by first | exact True.intro | exact aY rfl) (hd : d < n := by decide) : Loc P n ⟨some d, .binOp .lss T x y T2, ty, pos, af, g⟩ ⟨a5 x (RV.int i) ++ a5 y (RV.int j), [], [(d, some (RV.bool (decide (i < j))))], [], none⟩ := Mp hd hx hy
theorem eR (hx : bk x (RV.int i) := by first | exact True.intro | exact aY rfl) (hy : bk y (RV.int j) := by first | exact True.intro | exact aY rfl) (hd : d < n := by decide) : Loc P n ⟨some d, .binOp .leq T x y T2, ty, pos, af, g⟩ ⟨a5 x (RV.int i) ++ a5 y (RV.int j), [], [(d, some (RV.bool (decide (i ≤ j))))], [], none⟩ := Mq hd hx hy
theorem dD (hx : bk x (RV.int i) := by first | exact True.intro | exact aY rfl) (hy : bk y (RV.int j) := by first | exact True.intro | exact aY rfl) (hd : d < n := by decide) : Loc P n ⟨some d, .binOp .gtr T x y T2, ty, pos, af, g⟩ ⟨a5 x (RV.int i) ++ a5 y (RV.int j), [], [(d, some (RV.bool (decide (i > j))))], [], none⟩ := Mr hd hx hy
theorem gH (hx : bk x (RV.int i) := by first | exact True.intro | exact aY rfl) (hy : bk y (RV.int j) := by first | exact True.intro | exact aY rfl) (hd : d < n := by decide) : Loc P n ⟨some d, .binOp .geq T x y T2, ty, pos, af, g⟩ ⟨a5 x (RV.int i) ++ a5 y (RV.int j), [], [(d, some (RV.bool (decide (i ≥ j))))], [], none⟩ := Ms hd hx hy
theorem dY (hx : bk x (RV.int i) := by first | exact True.intro | exact aY rfl) (hy : bk y (RV.int j) := by first | exact True.intro | exact aY rfl) (hd : d < n := by decide) : Loc P n ⟨some d, .binOp .eql T x y T2, ty, pos, af, g⟩ ⟨a5 x (RV.int i) ++ a5 y (RV.int j), [], [(d, some (RV.bool (i == j)))], [], none⟩ := Mt hd hx hy
theorem co (hx : bk x (RV.int i) := by first | exact True.intro | exact aY rfl) (hy : bk y (RV.int j) := by first | exact True.intro | exact aY rfl) (hd : d < n := by decide) : Loc P n ⟨some d, .binOp .neq T x y T2, ty, pos, af, g⟩ ⟨a5 x (RV.int i) ++ a5 y (RV.int j), [], [(d, some (RV.bool (i != j)))], [], none⟩ := Mu hd hx hy
theorem gI (hx : bk x (RV.int i) := by first | exact True.intro | exact aY rfl) (hy : bk y (RV.int j) := by first | exact True.intro | exact aY rfl) (h : kb (i + j) := by unfold kb; omega) (hd : d < n := by decide) : Loc P n ⟨some d, .binOp .add T x y T2, ty, pos, af, g⟩ ⟨a5 x (RV.int i) ++ a5 y (RV.int j), [], [(d, some (RV.int (i + j)))], [], none⟩ := vS hd hx hy h
theorem er (hx : bk x (RV.int i) := by first | exact True.intro | exact aY rfl) (hy : bk y (RV.int j) := by first | exact True.intro | exact aY rfl) (h : kb (i - j) := by unfold kb; omega) (hd : d < n := by decide) : Loc P n ⟨some d, .binOp .sub T x y T2, ty, pos, af, g⟩ ⟨a5 x (RV.int i) ++ a5 y (RV.int j), [], [(d, some (RV.int (i - j)))], [], none⟩ := Mv hd hx hy h
end
end
end
section
section
variable {P : Program} {n : Nat}
section
variable {T : TypeId} {x y : Operand} {i j : Int} {k : IntKind} {w : World}
end
section
variable {T T2 : TypeId} {x y : Operand} {d : Nat} {ty : TypeId} {pos : String} {af : Array Edge} {g : Option (Nat × Bool)} {i j : Int} {k : IntKind}
theorem Bs {src dst : TypeId} {k2 : IntKind} (hS : P.underlying src = some (.int k)) (hD : P.underlying dst = some (.int k2)) (hj : k2.wrap i = j) (hx : bk x (RV.sc (.int k i)) := by first | exact True.intro | exact aY rfl) (hd : d < n := by decide) :
    Loc P n ⟨some d, .convert src dst x, ty, pos, af, g⟩ ⟨a5 x (RV.sc (.int k i)), [], [(d, some (RV.sc (.int k2 j)))], [], none⟩ := by
  intro h0 w0 Fz0 σ a w K Q h1 h2 _ _ h5
  obtain ⟨φ, Fz, Fp, hc⟩ := h1
  have ex := hc.sc h2 hx
  refine c7 (v := .int k2 j) (w' := w) ?_ (h5 _ _ (hc.put0 hd (bv.of_sc rfl)))
  unfold execOp
  simp [ex, convert, run_underlying hS, run_underlying hD, Conv.intToInt, hj]
end
section
variable {h0 : Nat → Prop} {w0 : World} {Fz0 : ao} {σ : St} {Q : Exit → St → Prop} {c1 c2 : Code}
end
end
end
section
def qe : List Value → List PV → List PV
  | u :: us, p :: ps => PV.nv u p :: qe us ps
  | _, _ => []
theorem sX {Fz : ao} {w : World} : ∀ {ps : List PV} {us : List Value}, ae ps → bE ps Fz w us → az (qe us ps) Fz w us []
  | [], us, _, h => by
    have h : us = [] := h
    subst h; exact ⟨rfl, rfl⟩
  | p :: ps, us, hb, h => by
    obtain ⟨v, vs, rfl, h1, h2⟩ := h
    exact ⟨v, vs, [], [], rfl, rfl, ⟨rfl, hb p (by simp) h1⟩, sX (fun q hq => hb q (by simp [hq])) h2⟩
def fF (h : Nat → Value) : Nat → List PV → List PV
  | _, [] => []
  | i, p :: ps => PV.nv (h i) p :: fF h (i + 1) ps
theorem wv (h : Nat → Value) : ∀ (ps : List PV) (i : Nat), fF h i ps = qe ((List.range' i ps.length).map h) ps
  | [], i => rfl
  | p :: ps, i => by rw [fF, wv h ps (i + 1)]; rfl
def bo {α : Type} (e : Nat) (zs : List (α × (Nat → Value))) : List Value := (zs.map fun z => (List.range e).map z.2).flatten
def br {α : Type} (f : α → List PV) (zs : List (α × (Nat → Value))) : List PV := (zs.map fun z => f z.1).flatten
theorem Bu {e : Nat} {us : List Value} (h : us.length = e) : ∃ k : Nat → Value, us = (List.range e).map k := by
  refine ⟨fun i => us.getD i undef, ?_⟩
  subst h
  apply List.ext_getElem
  · simp
  · intro i h1 h2
    simp [h1]
theorem M3 {α : Type} {f : α → List PV} {e : Nat} (hf : ∀ x, (f x).length = e) {Fz : ao} {w : World} {zs ys : List (α × (Nat → Value))} (hp : zs.Perm ys) : ∀ {F : List Nat}, az (br f zs) Fz w (bo e zs) F → ∃ F', F.Perm F' ∧ az (br f ys) Fz w (bo e ys) F' := by
  have hone : ∀ {z : α × (Nat → Value)} {l : List (α × (Nat → Value))} {F : List Nat}, az (br f (z :: l)) Fz w (bo e (z :: l)) F → ∃ F1 F2, F = F1 ++ F2 ∧ az (f z.1) Fz w ((List.range e).map z.2) F1 ∧ az (br f l) Fz w (bo e l) F2 := by
    intro z l F h
    have h : az (f z.1 ++ br f l) Fz w ((List.range e).map z.2 ++ bo e l) F := h
    obtain ⟨v1, v2, F1, F2, e1, rfl, h1, h2⟩ := h.split
    have hl : ((List.range e).map z.2).length = v1.length := by rw [h1.len, hf]; simp
    obtain ⟨rfl, rfl⟩ := List.append_inj e1 hl
    exact ⟨F1, F2, rfl, h1, h2⟩
  induction hp with
  | nil => intro F h; exact ⟨F, List.Perm.refl _, h⟩
  | cons z _ ih =>
    intro F h
    obtain ⟨F1, F2, rfl, h1, h2⟩ := hone h
    obtain ⟨F', k1, k2⟩ := ih h2
    exact ⟨F1 ++ F', List.Perm.append_left F1 k1, h1.append k2⟩
  | swap z y l =>
    intro F h
    obtain ⟨F1, F2, rfl, h1, h2⟩ := hone h
    obtain ⟨F3, F4, rfl, h3, h4⟩ := hone h2
    refine ⟨F3 ++ (F1 ++ F4), ?_, h3.append (h1.append h4)⟩
    rw [← List.append_assoc, ← List.append_assoc]
    exact List.Perm.append_right _ List.perm_append_comm
  | trans _ _ ih1 ih2 =>
    intro F h
    obtain ⟨F1, k1, h1⟩ := ih1 h
    obtain ⟨F2, k2, h2⟩ := ih2 h1
    exact ⟨F2, k1.trans k2, h2⟩
section
variable {P : Program} {n : Nat} {h0 : Nat → Prop} {w0 : World} {Fz0 : ao} {σ : St} {Q : Exit → St → Prop} {c : Code} {ops : Array Oper}
theorem ww {d t G : Nat} {cs qs : List PV} (hd : σ.b d = some (t, cs)) (hG : σ.s G = none) (hq : ab cs qs) (hb : ae qs) (h : ∀ us : List Value, (∃ Fz w, bE cs Fz w us) → SW P n h0 w0 Fz0 c ((σ.setB d (some (t, qe us qs))).set G (some (RV.gh us cs))) Q) : SW P n h0 w0 Fz0 c σ Q := fun a w hc => by
  obtain ⟨φ, Fz, Fp, hc⟩ := hc
  obtain ⟨cur, h1, h2⟩ := hc.box d _ hd
  have k0 := hc.pull G
  have e0 : ∀ i rv, (σ.set G none).s i = some rv → i ≠ G ∧ σ.s i = some rv := fun i rv hi => by
    rw [St.set_s] at hi
    split at hi
    · cases hi
    · rename_i hne; exact ⟨hne, hi⟩
  have hne : mv Fp (2 * G + 1) (2 * d + 2) = Fp (2 * d + 2) := by
    simp only [mv]; rw [if_neg (by omega), if_neg (by omega)]
  have hgn : mv Fp (2 * G + 1) (2 * G + 1) = [] := by simp [mv]
  generalize hFp1 : mv Fp (2 * G + 1) = Fp1 at k0 hne hgn
  refine h cur.toList ⟨Fz, w, h2.rel⟩ a w ⟨φ, Fz, iG Fp1 (2 * d + 2) (2 * G + 1), ?_⟩
  have hsub : ∀ r b, b ∈ iG Fp1 (2 * d + 2) (2 * G + 1) r → ∃ r', b ∈ Fp1 r' := fun r b hb => by
    rcases wc hb with ⟨_, k⟩ | ⟨_, _, k⟩
    · exact ⟨_, k⟩
    · exact ⟨_, k⟩
  exact { k0 with
    slot := fun i rv hi => by
      rw [St.set_s] at hi
      split at hi
      · rename_i e
        subst e
        injection hi with hi
        subst hi
        show az cs Fz w cur.toList (iG Fp1 (2 * d + 2) (2 * i + 1) (2 * i + 1))
        simp only [iG, if_true]
        rw [hne]; exact h2
      · rename_i e
        have := k0.slot i rv (by rw [St.set_s, if_neg e]; exact hi)
        simp only [iG]
        rw [if_neg (by omega), if_neg (by omega)]
        exact this
    box := fun e bx he => by
      rw [St.set_b, St.setB_b] at he
      split at he
      · rename_i e'; subst e'; injection he with he; subst he
        refine ⟨cur, h1, ?_⟩
        simp only [iG]
        rw [if_neg (by omega), if_pos (by trivial)]
        exact sX hb (hq.rel h2.rel)
      · rename_i e'
        obtain ⟨cur', k1, k2⟩ := k0.box e bx he
        refine ⟨cur', k1, ?_⟩
        simp only [iG]
        rw [if_neg (by omega), if_neg (by omega)]
        exact k2
    bxb := fun e bx he => by
      have : ∃ z, (σ.set G none).b e = some z := by
        rw [St.set_b, St.setB_b] at he
        split at he
        · rename_i e'; subst e'; exact ⟨_, hd⟩
        · exact ⟨_, he⟩
      obtain ⟨z, hz⟩ := this
      obtain ⟨g1, g2, g3⟩ := k0.bxb e z hz
      exact ⟨g1, g2, fun r hr => by obtain ⟨r', h'⟩ := hsub r _ hr; exact g3 r' h'⟩
    inj := fun e e' c1 c2 he he' => by
      have f : ∀ x y, ((σ.setB d (some (t, qe cur.toList qs))).set G (some (RV.gh cur.toList cs))).b x = some y → ∃ z, (σ.set G none).b x = some z := by
        intro x y hx
        rw [St.set_b, St.setB_b] at hx
        split at hx
        · rename_i e'; subst e'; exact ⟨_, hd⟩
        · exact ⟨_, hx⟩
      obtain ⟨z1, f1⟩ := f _ _ he
      obtain ⟨z2, f2⟩ := f _ _ he'
      exact k0.inj e e' z1 z2 f1 f2
    dis := MO k0.dis
    nod := MP k0.nod
    low := fun r b hb => by obtain ⟨r', h'⟩ := hsub r b hb; exact k0.low r' b h' }
theorem Bv {T T2 : TypeId} {x y : Operand} {d : Nat} {ty : TypeId} {pos : String} {af : Array Edge} {g : Option (Nat × Bool)} {k k2 : IntKind} {i j : Int} {m : Nat} (hm : j = (m : Int)) (hb : m ≤ k.bits) (hx : bk x (RV.sc (.int k i)) := by first | exact True.intro | exact aY rfl) (hy : bk y (RV.sc (.int k2 j)) := by first | exact True.intro | exact aY rfl) (hd : d < n := by decide) :
    Loc P n ⟨some d, .binOp .shr T x y T2, ty, pos, af, g⟩ ⟨a5 x (RV.sc (.int k i)) ++ a5 y (RV.sc (.int k2 j)), [], [(d, some (RV.sc (.int k (i.fdiv (2 ^ m)))))], [], none⟩ := by
  subst hm
  refine go hd hx hy rfl fun w => ?_
  have h1 : ¬ (m : Int) < 0 := by omega
  simp [eqGuard, binOp, Op.shift, h1, Nat.min_eq_left hb]
end
end
section
def jA (L : Nat → Prop) (r r' : RV) : Prop := ∀ {φ : Nat → Nat} {Fz : ao} {w : World} {v : Value} {F : List Nat}, (∀ b o, Fz b o → L b) → r.holds φ Fz w v F → r'.holds φ Fz w v []
theorem jA.sv {L : Nat → Prop} {ag : Bool} {cs qs : List PV} (ht : ah L cs qs) (hb : ae qs) : jA L (RV.sv ag cs) (RV.sv ag qs) := fun hz h => ⟨h.1, hb.own (ht.rel hz h.2.rel)⟩
theorem jA.ptr {L : Nat → Prop} {d off : Nat} : jA L (RV.ptr d off) (RV.ptr d off) := fun _ h => ⟨h.1, rfl⟩
def kg (L : Nat → Prop) : List (Nat × RV) → List (Nat × RV) → Prop
  | [], [] => True
  | p :: l, q :: l' => (p.1 = q.1 ∧ jA L p.2 q.2) ∧ kg L l l'
  | _, _ => False
theorem kg.cons {L : Nat → Prop} {i : Nat} {r r' : RV} {l l' : List (Nat × RV)} (h : jA L r r') (k : kg L l l') : kg L ((i, r) :: l) ((i, r') :: l') := ⟨⟨rfl, h⟩, k⟩
theorem kg.at_ {L : Nat → Prop} {i : Nat} {r' : RV} : ∀ {l l' : List (Nat × RV)}, kg L l l' → lk l' i = some r' → ∃ r, lk l i = some r ∧ jA L r r'
  | [], [], _, h => by cases h
  | (j, r) :: l, (j', q) :: l', k, h => by
    obtain ⟨⟨e, k1⟩, k2⟩ := k
    dsimp only at e
    subst e
    rw [lk, beq_eq] at h ⊢
    by_cases hx : i = j
    · rw [decide_eq_true hx] at h ⊢
      simp only [cond_true, Option.some.injEq] at h ⊢
      subst h
      exact ⟨r, rfl, k1⟩
    · rw [decide_eq_false hx] at h ⊢
      simp only [cond_false] at h ⊢
      exact kg.at_ k2 h
section
variable {P : Program} {n : Nat} {h0 : Nat → Prop} {w0 : World} {Fz0 : ao} {Q : Exit → St → Prop} {c : Code}
end
end
section
section
variable {P : Program} {n : Nat} {h0 : Nat → Prop} {w0 : World} {Fz0 : ao}
section
variable {σ : St} {a : Act} {w : World} {φ : Nat → Nat} {Fz : ao} {Fp : Nat → List Nat}
theorem a6.ghost (h : a6 h0 w0 Fz0 n σ a w φ Fz Fp) {i : Nat} {rv : RV} {F X : List Nat} (hv : rv.holds φ Fz w (a.tmps.getD i undef) F) (hX : ∀ b, b ∈ F ++ X → b ∈ Fp 0) (hn : (F ++ X).Nodup) :
    a6 h0 w0 Fz0 n (σ.set i (some rv)) a w φ Fz (b6 Fp (2 * i + 1) F X) where
  bel := h.bel
  dfr := h.dfr
  siz := h.siz
  hlt := h.hlt
  fz0 := h.fz0
  fzl := h.fzl
  slot j rv' hj := by
    rw [St.set_s] at hj
    split at hj
    · rename_i hji
      subst hji
      injection hj with hj
      subst hj
      unfold b6
      rw [if_pos rfl]; exact hv
    · rename_i hne
      unfold b6
      rw [if_neg (by omega), if_neg (by omega)]
      exact h.slot j rv' hj
  box d cs hd := by
    obtain ⟨cur, h1, h2⟩ := h.box d cs hd
    refine ⟨cur, h1, ?_⟩
    unfold b6
    rw [if_neg (by omega), if_neg (by omega)]; exact h2
  bxb d cs hd := by
    obtain ⟨h1, h2, h3⟩ := h.bxb d cs hd
    refine ⟨h1, h2, fun r hr => ?_⟩
    rcases jw hr with ⟨_, hr⟩ | ⟨_, _, hr⟩ | ⟨_, _, hr⟩
    · exact h3 0 (hX _ (by simp [hr]))
    · exact h3 0 (hX _ (by simp [hr]))
    · exact h3 _ hr
  inj d d' cs cs' := h.inj d d' cs cs'
  dis := sf (by omega) hX hn h.dis
  nod := sg hn h.nod
  low r b hb := by
    rcases jw hb with ⟨_, hr⟩ | ⟨_, _, hr⟩ | ⟨_, _, hr⟩
    · exact h.low 0 b (hX _ (by simp [hr]))
    · exact h.low 0 b (hX _ (by simp [hr]))
    · exact h.low _ b hr
end
section
variable {ops : Array Oper} {Q : Exit → St → Prop}
end
def mN (r r' : RV) : Prop := ∀ {φ : Nat → Nat} {Fz : ao} {w : World} {v : Value} {F : List Nat}, r.holds φ Fz w v F → r'.holds φ Fz w v F
theorem mN.refl {r : RV} : mN r r := fun h => h
theorem mN.sv {ag : Bool} {cs qs : List PV} (h : en cs qs) : mN (RV.sv ag cs) (RV.sv ag qs) := fun hh => ⟨hh.1, h hh.2⟩
def mO (f : Nat → Option RV) (G : Nat) : List (Nat × RV) → Prop
  | [] => True
  | p :: l' => (Nat.beq p.1 G = false ∧ ∃ r, f p.1 = some r ∧ mN r p.2) ∧ mO f G l'
theorem mO.cons {f : Nat → Option RV} {G i : Nat} {r r' : RV} {l' : List (Nat × RV)} (h1 : Nat.beq i G = false) (h2 : f i = some r) (h3 : mN r r') (k : mO f G l') : mO f G ((i, r') :: l') := ⟨⟨h1, r, h2, h3⟩, k⟩
theorem mO.at_ {f : Nat → Option RV} {G i : Nat} {r' : RV} : ∀ {l' : List (Nat × RV)}, mO f G l' → (i, r') ∈ l' → i ≠ G ∧ ∃ r, f i = some r ∧ mN r r'
  | [], _, h => by simp at h
  | p :: l', k, h => by
    rcases List.mem_cons.1 h with rfl | h
    · exact ⟨fun e => by have := k.1.1; dsimp only at this; rw [e] at this; simp at this, k.1.2⟩
    · exact mO.at_ k.2 h
variable {Q : Exit → St → Prop} {c : Code}
theorem mP {σ : St} {s : Nat} {ag : Bool} {cs : List PV} (qs : List PV) (hs : σ.s s = some (RV.sv ag cs)) (ht : ab cs qs) (hb : ae qs) (h : SW P n h0 w0 Fz0 c (σ.set s (some (RV.sv ag qs))) Q) : SW P n h0 w0 Fz0 c σ Q := fun a w hc => by
  obtain ⟨φ, Fz, Fp, hc⟩ := hc
  have hv : bv ag cs Fz w (a.tmps.getD s undef) (Fp (2 * s + 1)) := hc.slot s _ hs
  have c1 := (hc.pull s).reslot (s := s) (rv := RV.sv ag qs) (by
    have : mv Fp (2 * s + 1) (2 * s + 1) = [] := by simp [mv]
    rw [this]
    exact ⟨hv.1, hb.own (ht.rel hv.2.rel)⟩)
  exact h a w (aW.eqv ⟨φ, Fz, _, c1⟩ (fun i => by
    simp only [St.set_s]
    split <;> rfl) (fun d => rfl))
def k7 (L : Nat → Prop) : List (Nat × (Nat × List PV)) → List (Nat × (Nat × List PV)) → Prop
  | [], [] => True
  | p :: b, q :: b' => (p.1 = q.1 ∧ p.2.1 = q.2.1 ∧ ah L p.2.2 q.2.2 ∧ ae q.2.2) ∧ k7 L b b'
  | _, _ => False
theorem k7.cons {L : Nat → Prop} {d t : Nat} {cs qs : List PV} {b b' : List (Nat × (Nat × List PV))} (h1 : ah L cs qs) (h2 : ae qs) (k : k7 L b b') : k7 L ((d, (t, cs)) :: b) ((d, (t, qs)) :: b') := ⟨⟨rfl, rfl, h1, h2⟩, k⟩
theorem k7.at_ {L : Nat → Prop} {d t : Nat} {qs : List PV} : ∀ {b b' : List (Nat × (Nat × List PV))}, k7 L b b' → lk b' d = some (t, qs) → ∃ cs, lk b d = some (t, cs) ∧ ah L cs qs ∧ ae qs
  | [], [], _, h => by cases h
  | (j, (s, r)) :: l, (j', (s', q)) :: l', k, h => by
    obtain ⟨⟨e, e2, k1⟩, k2⟩ := k
    dsimp only at e e2 k1
    subst e e2
    rw [lk, beq_eq] at h ⊢
    by_cases hx : d = j
    · rw [decide_eq_true hx] at h ⊢
      simp only [cond_true, Option.some.injEq, Prod.mk.injEq] at h ⊢
      obtain ⟨rfl, rfl⟩ := h
      exact ⟨r, ⟨rfl, rfl⟩, k1⟩
    · rw [decide_eq_false hx] at h ⊢
      simp only [cond_false] at h ⊢
      exact k7.at_ k2 h
theorem M4 {l : List (Nat × RV)} {b : List (Nat × (Nat × List PV))} (l' : (Nat → Prop) → List (Nat × RV)) (b' : (Nat → Prop) → List (Nat × (Nat × List PV))) (hl : ∀ L, kg L l (l' L)) (hb : ∀ L, k7 L b (b' L)) (h : ∀ (B : Nat → Prop) (w1 : World) (Fz1 : ao), SW P n B w1 Fz1 c (St.of (l' B) (b' B)) Q) : SW P n h0 w0 Fz0 c (St.of l b) Q := fun a w hc => by
  obtain ⟨φ, Fz, Fp, hc⟩ := hc
  obtain ⟨B, hB⟩ : ∃ B : Nat → Prop, B = fun x => x < w.heap.size ∧ ∀ d bx, lk b d = some bx → x ≠ φ d := ⟨_, rfl⟩
  have hBi : ∀ x, B x ↔ (x < w.heap.size ∧ ∀ d bx, lk b d = some bx → x ≠ φ d) := fun x => by rw [hB]
  have hz : ∀ x o, Fz x o → B x := fun x o ho => (hBi x).2 ⟨hc.fzl x o ho, fun d bx hd e => (hc.bxb d bx hd).2.1 o (e ▸ ho)⟩
  have hin : ∀ x, h0 x → B x := fun x hx => (hBi x).2 ⟨hc.hlt x hx, fun d bx hd e => (hc.bxb d bx hd).1 (e ▸ hx)⟩
  have hbx : ∀ d bx, lk (b' B) d = some bx → ∃ cs, lk b d = some (bx.1, cs) ∧ ah B cs bx.2 ∧ ae bx.2 := fun d bx hd => (hb B).at_ hd
  have hk : aW B w Fz n (St.of (l' B) (b' B)) a w := ⟨φ, Fz, fun _ => [], {
    bel := i1.refl _ _
    dfr := hc.dfr
    siz := hc.siz
    hlt := fun x hx => ((hBi x).1 hx).1
    fz0 := fun _ _ _ => Iff.rfl
    fzl := hc.fzl
    slot := fun i rv hi => by
      obtain ⟨r, hr, hlow⟩ := (hl B).at_ (show lk (l' B) i = some rv from hi)
      exact hlow hz (hc.slot i r hr)
    box := fun d bx hd => by
      obtain ⟨cs, k1, k2, k3⟩ := hbx d bx hd
      obtain ⟨cur, q1, q2⟩ := hc.box d _ k1
      exact ⟨cur, q1, k3.own (k2.rel hz q2.rel)⟩
    bxb := fun d bx hd => by
      obtain ⟨cs, k1, _⟩ := hbx d bx hd
      exact ⟨fun hx => ((hBi _).1 hx).2 d _ k1 rfl, (hc.bxb d _ k1).2.1, fun _ hr => nomatch hr⟩
    inj := fun d d' c1 c2 h1 h2 => by
      obtain ⟨_, k1, _⟩ := hbx d c1 h1
      obtain ⟨_, k2, _⟩ := hbx d' c2 h2
      exact hc.inj d d' _ _ k1 k2
    dis := fun _ _ _ _ hb => nomatch hb
    nod := fun _ => List.nodup_nil
    low := fun _ _ hb => nomatch hb }⟩
  refine wp_mono (h B w Fz a w hk) fun e a' w' ⟨τ, hq, hc'⟩ => ⟨τ, hq, ?_⟩
  obtain ⟨φ', Fz', Fp', c'⟩ := hc'
  exact ⟨φ', Fz', Fp', {
    bel := hc.bel.trans ⟨c'.bel.os, c'.bel.tape, c'.bel.output, c'.bel.size, fun k hk' => c'.bel.block k (hin k hk')⟩
    dfr := c'.dfr
    siz := c'.siz
    hlt := fun x hx => Nat.lt_of_lt_of_le (hc.hlt x hx) c'.bel.size
    fz0 := fun x o hx => (c'.fz0 x o (hin x hx)).trans (hc.fz0 x o hx)
    fzl := c'.fzl
    slot := c'.slot
    box := c'.box
    bxb := fun d cs hd => ⟨fun hh => (c'.bxb d cs hd).1 (hin _ hh), (c'.bxb d cs hd).2⟩
    inj := c'.inj
    dis := c'.dis
    nod := c'.nod
    low := fun r x hx => ⟨fun hh => (c'.low r x hx).1 (hin _ hh), (c'.low r x hx).2⟩ }⟩
end
end
section
def wx (P : Program) (f : FuncId) (t : Nat) (args : List (Bool × List PV)) (cs : List PV) : Prop :=
  ∀ (w : World) (vs : List Value) (Fz : ao), (∀ b o, Fz b o → b < w.heap.size) → dj args Fz w vs → Calls P f vs.toArray w fun e w' => ∃ g Fz' cur, e = .returned (.pointer (some ⟨g, 0, none⟩)) ∧ Below w.heap.size w w' ∧
    (∀ b o, b < w.heap.size → (Fz' b o ↔ Fz b o)) ∧ (∀ b o, Fz' b o → b < w'.heap.size) ∧ w.heap.size ≤ g ∧ w'.heap[g]? = some (.cells cur t (0, 0)) ∧ (∀ o, ¬ Fz' g o) ∧ az cs Fz' w' cur.toList []
def wy (rs t : Nat) (cs : List PV) (τ : St) : Prop := ∃ D, τ.s rs = some (RV.ptr D 0) ∧ τ.b D = some (t, cs)
def M5 (rs t : Nat) (cs : List PV) : Exit → St → Prop
  | .normal, τ => wy rs t cs τ
  | .ret, τ => wy rs t cs τ
  | _, _ => False
section
variable {P : Program} {n : Nat} {h0 : Nat → Prop} {w0 : World} {Fz0 : ao}
theorem M6 {f : FuncId} {fn : Func} {c : Code} {args : List (Bool × List PV)} {rs t : Nat} {cs : List PV} (hf : P.funcs[f]? = some fn) (hb : fn.body = some c) (hres0 : fn.results.toList = [.tmp rs]) (hn : args.length ≤ fn.ntmps) (hbor : ∀ q, q ∈ args → ae q.2) (hbc : ae cs)
    (h : ∀ (h0 : Nat → Prop) (w0 : World) (Fz0 : ao), SW P fn.ntmps h0 w0 Fz0 c (St.of (fC 0 args) []) (M5 rs t cs)) : wx P f t args cs := by
  intro w vs Fz hz hrel
  have hvl := hrel.len
  refine calls_of_wp hf hb ?_
  have hc : aW (fun b => b < w.heap.size) w Fz fn.ntmps (St.of (fC 0 args) []) { tmps := vs.toArray ++ Array.replicate (fn.ntmps - vs.toArray.size) undef, defers := [] } w := by
    refine ⟨fun _ => 0, Fz, fun _ => [], ⟨i1.refl _ _, rfl, by simp; omega, fun _ hb => hb, fun _ _ _ => Iff.rfl, hz, fun i rv hi => ?_, fun d cs hd => (by cases hd), fun d cs hd => (by cases hd), fun d d' cs cs' hd => (by cases hd), fun _ _ _ b hb => (by simp at hb), fun _ => List.nodup_nil, fun _ b hb => (by simp at hb)⟩⟩
    obtain ⟨j, v, e1, e2, e3, e4⟩ := BorT.own (φ := fun _ => 0) hbor hrel hi
    rw [Nat.zero_add] at e1
    subst e1
    have : (vs.toArray ++ Array.replicate (fn.ntmps - vs.toArray.size) undef).getD i undef = v := by
      rw [Array.getD_eq_getD_getElem?, Array.getElem?_append_left (by simpa using e2)]
      simp [e3]
    rw [this]; exact e4
  refine wp_mono (h _ w Fz _ w hc) fun e a' w' ⟨τ, hq, hc'⟩ => ?_
  obtain ⟨φ, Fz', Fp, hc'⟩ := hc'
  have hres : wy rs t cs τ → a'.defers = [] ∧ ∃ v, (results fn a'.tmps).run P w' = .ok v w' ∧ ∃ g Fz' cur, Ending.returned v = .returned (.pointer (some ⟨g, 0, none⟩)) ∧ Below w.heap.size w w' ∧
      (∀ b o, b < w.heap.size → (Fz' b o ↔ Fz b o)) ∧ (∀ b o, Fz' b o → b < w'.heap.size) ∧ w.heap.size ≤ g ∧ w'.heap[g]? = some (.cells cur t (0, 0)) ∧ (∀ o, ¬ Fz' g o) ∧ az cs Fz' w' cur.toList [] := by
    rintro ⟨D, k1, k2⟩
    have hp := (hc'.slot rs _ k1).1
    obtain ⟨cur, q1, q2⟩ := hc'.box D _ k2
    obtain ⟨m1, m2, m3⟩ := hc'.bxb D _ k2
    refine ⟨hc'.dfr, ?_⟩
    rw [vY]
    have erun : Sem.run P (fn.results.mapM (kV a'.tmps)) w' = .ok #[.pointer (some ⟨φ D, 0, none⟩)] w' := by
      rw [Array.mapM_eq_mapM_toList, hres0]
      simp only [map_eq_pure_bind, List.mapM_cons, List.mapM_nil, kV, Sem.run_bind, Sem.run_pure, Result.andThen_ok, hp]
    simp only [Sem.run_bind, erun, Result.andThen_ok, Sem.run_pure]
    exact ⟨_, rfl, φ D, Fz', cur, rfl, ⟨hc'.bel.os, hc'.bel.tape, hc'.bel.output, hc'.bel.size, hc'.bel.block⟩, hc'.fz0, hc'.fzl, Nat.le_of_not_lt m1, q1, m2, hbc.own q2.rel⟩
  cases e with
  | normal => exact hres hq
  | ret => exact hres hq
  | _ => exact hq.elim
theorem M7 {f d t : Nat} {args : Array Operand} {tys : Array TypeId} {ty : TypeId} {pos : String} {af : Array Edge} {g : Option (Nat × Bool)} {qs as_ : List (Bool × List PV)} {cs : List PV} (hd : d < n) (hf : au P f = true) (hok : hO args.toList qs) (hto : hP qs as_) (hs : wx P f t as_ cs) :
    Loc P n ⟨some d, .call { callee := .value (.func f), args := args, argTypes := tys }, ty, pos, af, g⟩ ⟨fS args.toList qs, [], [(d, some (RV.ptr d 0))], [(d, some (t, cs))], some d⟩ := by
  intro h0 w0 Fz0 σ a w K Q hc hr _ h4 h5
  obtain ⟨φ, Fz, Fp, hc⟩ := hc
  have hrel := hto.rel (hc.relT hr hok)
  unfold Oper.wp
  rw [Br hf, Oper.upon_enter]
  refine (hs w _ Fz hc.fzl hrel).mono ?_
  rintro e w' ⟨G, Fz', cur, rfl, hbl, hz1, hz2, hG, hg, hgz, ho⟩
  refine h5 _ _ ?_
  have hglt : G < w'.heap.size := (Array.getElem?_eq_some_iff.1 hg).1
  have k := (hc.drop d).world (w' := w') (Fz' := Fz') (X := [G]) hbl.os hbl.tape hbl.output hbl.size (fun b hb' _ => ⟨hbl.block b hb', fun o ho => (hz1 b o hb').1 ho⟩)
    (fun b o ho => ⟨(hz1 b o (hc.fzl b o ho)).2 ho, World.cell?_of_block (hbl.block b (hc.fzl b o ho))⟩) hz2 (fun b hb' => .inr (by
      rw [List.mem_singleton] at hb'; subst hb'; exact ⟨hG, hglt⟩)) (by simp)
  have k2 := k.pushB (d := d) (g := G) (t := t) (cs := cs) (F := []) (X := []) (by rw [St.setB_b, if_pos rfl]) hg ho hgz (fun b hb => by simpa using hb) (by simp) (.inr (h4 d rfl))
  have k3 := k2.push (i := d) (rv := RV.ptr d 0) (v := .pointer (some ⟨G, 0, none⟩)) (F := []) (X := []) hd ⟨by simp, rfl⟩ (fun b hb => nomatch hb) (by simp)
  exact aW.eqv ⟨_, _, _, k3⟩ (fun i => rfl) (fun e => by
    show a9 [(d, some (t, cs))] σ.b e = _
    rw [St.set_b, St.setB_b, St.setB_b]
    simp only [a9, beq_eq]
    by_cases he : e = d <;> simp [he])
end
theorem fU {P : Program} {n x d b off : Nat} {ty : TypeId} {pos : String} {af : Array Edge} {g : Option (Nat × Bool)} (hd : d < n) : Loc P n ⟨some d, .nilCheck (.tmp x), ty, pos, af, g⟩ ⟨[(x, RV.ptr b off)], [], [(d, some (RV.ptr b off))], [], none⟩ := by
  intro h0 w0 Fz0 σ a w K Q h1 h2 _ _ h5
  obtain ⟨φ, Fz, Fp, hc⟩ := h1
  have ex := (hc.slot x _ h2.1).1
  refine c7 (v := .pointer (some ⟨φ b, off, none⟩)) (w' := w) ?_ (h5 _ _ (hc.put0 hd (r := RV.ptr b off) ⟨rfl, rfl⟩))
  unfold execOp
  simp only [Act.eval, ex, Sem.run_pure]
theorem jA.phi {L : Nat → Prop} {D g : Nat} : jA L (RV.phi D g) (RV.phi D g) := fun _ h => ⟨h.1, rfl⟩
section
variable {P : Program} {n : Nat} {h0 : Nat → Prop} {w0 : World} {Fz0 : ao} {σ : St} {Q : Exit → St → Prop} {c : Code}
theorem M8 {d t : Nat} {cs : List PV} (cs' : List PV) (hd : σ.b d = some (t, cs)) (ho : en cs cs') (h : SW P n h0 w0 Fz0 c (σ.setB d (some (t, cs'))) Q) : SW P n h0 w0 Fz0 c σ Q := fun a w hc => by
  obtain ⟨φ, Fz, Fp, hc⟩ := hc
  exact h a w ⟨φ, Fz, Fp, hc.rebox hd fun _ k _ => ho k⟩
end
def sY (x y : Int) : Int := IntKind.i64.wrap (x * y)
def mQ (x y : Int) : Int := IntKind.i64.wrap (x + y)
def k8 (x y : Int) : Int := IntKind.i64.wrap (BitVec.ofInt 64 x &&& BitVec.ofInt 64 y).toNat
def wz (x y : Int) : Int := IntKind.i64.wrap (BitVec.ofInt 64 x ^^^ BitVec.ofInt 64 y).toNat
theorem Bw {x : Int} {m : Nat} (hm : m < 2 ^ 62) : 0 ≤ k8 x (m : Int) ∧ k8 x (m : Int) ≤ m := by
  have e : (BitVec.ofInt 64 (m : Int)).toNat = m := by
    rw [BitVec.toNat_ofInt]
    omega
  have h : (BitVec.ofInt 64 x &&& BitVec.ofInt 64 (m : Int)).toNat ≤ m := by
    rw [BitVec.toNat_and, e]; exact Nat.and_le_right
  unfold k8
  rw [IntWalk.i64_in _ (by omega)]
  omega
section
variable {P : Program} {n : Nat} {T T2 : TypeId} {x y : Operand} {d : Nat} {ty : TypeId} {pos : String} {af : Array Edge} {g : Option (Nat × Bool)} {i j : Int}
theorem Bx (hd : d < n) (hx : bk x (RV.int i)) (hy : bk y (RV.int j)) : Loc P n ⟨some d, .binOp .mul T x y T2, ty, pos, af, g⟩ ⟨a5 x (RV.int i) ++ a5 y (RV.int j), [], [(d, some (RV.int (sY i j)))], [], none⟩ :=
  go hd hx hy rfl fun w => by simp [eqGuard, binOp, Op.intArith, sY]
theorem sZ (hd : d < n) (hx : bk x (RV.int i)) (hy : bk y (RV.int j)) : Loc P n ⟨some d, .binOp .add T x y T2, ty, pos, af, g⟩ ⟨a5 x (RV.int i) ++ a5 y (RV.int j), [], [(d, some (RV.int (mQ i j)))], [], none⟩ :=
  go hd hx hy rfl fun w => by simp [eqGuard, binOp, Op.intArith, mQ]
theorem wB (hd : d < n) (hx : bk x (RV.int i)) (hy : bk y (RV.int j)) : Loc P n ⟨some d, .binOp .and T x y T2, ty, pos, af, g⟩ ⟨a5 x (RV.int i) ++ a5 y (RV.int j), [], [(d, some (RV.int (k8 i j)))], [], none⟩ :=
  go hd hx hy rfl fun w => by simp [eqGuard, binOp, Op.intBits, IntKind.bits]; unfold k8; rw [BitVec.toNat_and, BitVec.toNat_ofInt, BitVec.toNat_ofInt]; rfl
theorem M9 (hd : d < n) (hx : bk x (RV.int i)) (hy : bk y (RV.int j)) : Loc P n ⟨some d, .binOp .xor T x y T2, ty, pos, af, g⟩ ⟨a5 x (RV.int i) ++ a5 y (RV.int j), [], [(d, some (RV.int (wz i j)))], [], none⟩ :=
  go hd hx hy rfl fun w => by simp [eqGuard, binOp, Op.intBits, IntKind.bits]; unfold wz; rw [BitVec.toNat_xor, BitVec.toNat_ofInt, BitVec.toNat_ofInt]; rfl
end
end
section
abbrev By := List UInt8
abbrev B (l : By) : ByteArray := ⟨l.toArray⟩
section
variable {P : Program} {n : Nat} {T T2 : TypeId} {x y : Operand} {d : Nat} {ty : TypeId} {pos : String} {af : Array Edge} {g : Option (Nat × Bool)} {s t : By}
end
structure qf where
  rel : ao → World → Prop
  mono : ∀ {Fz Fz' : ao} {w w' : World}, rel Fz w → ej Fz w Fz' w' → rel Fz' w'
def Na (P : Program) (G : qf) (f : FuncId) (args : List (Bool × List PV)) (r : RV) : Prop :=
  ∀ (w : World) (vs : List Value) (Fz : ao), (∀ b o, Fz b o → b < w.heap.size) → G.rel Fz w → dj args Fz w vs → Calls P f vs.toArray w fun e w' => ∃ v Fz' F, e = .returned v ∧ Below w.heap.size w w' ∧
    (∀ b o, b < w.heap.size → (Fz' b o ↔ Fz b o)) ∧ (∀ b o, Fz' b o → b < w'.heap.size) ∧ (∀ φ, r.holds φ Fz' w' v F) ∧ F.Nodup ∧ ∀ b, b ∈ F → w.heap.size ≤ b ∧ b < w'.heap.size
theorem aw.g {P : Program} {G : qf} {f : FuncId} {args : List (Bool × List PV)} {r : RV} (h : aw P f args r) : Na P G f args r := fun w vs Fz hz _ hr => h w vs Fz hz hr
section
variable {P : Program} {n : Nat} {G : qf}
end
section
variable {P : Program} {G : qf} {f : FuncId}
theorem n9.sc {v x : Value} {Fz : ao} {w : World} (h : n9 false [PV.val x] Fz w v) : v = x := (bv.sc ⟨h.1, (ae.cons (PV.bor_val _) ae.nil).own h.2⟩).1
theorem n9.sl {v : Value} {es : List (List PV)} {Fz : ao} {w : World} (h : n9 false [PV.sl .v es] Fz w v) : j6 es Fz w v :=
  (bv.atom (p := PV.sl .v es) ⟨h.1, (ae.cons (PV.bor_sl _) ae.nil).own h.2⟩).1
end
end
end Go.Proofs.YtmekkgdboplbjaaGreat.M
namespace Go.Proofs.YtmekkgdboplbjaaGreat.M
open Go Go.RowKit Go.ChangeShapes Go.WideShapes
section
section
variable {H : Type} {enc : TypeId × Value → H} {P : Program} {W W' : World}
theorem Bz {sp : Nat → Bool} (hl : laidOutB P = true) (hsame : ∀ p : MemPlace, p.block < W.heap.size → W.sameAt W' p) : ∀ {ts : List TypeId} {vs : List Value} {ds : List (DataW H)} {ps : List MemPlace}, (ts.all fun t => P.readableRec t && Nat.blt t P.types.size) = true →
    DataW.TrodAll enc P W 0 (fun _ => true) true ts vs ds ps → (∀ p ∈ ps, p.block < W.heap.size) → (∀ p ∈ ps, sp p.block = true) → DataW.TrodAll enc P W' 0 sp true ts vs ds ps
  | [], vs, ds, ps, _, h, _, _ => by
    obtain ⟨rfl, rfl, rfl⟩ := trodAll_nil h
    exact trodAll_mk0
  | t :: ts, vs, ds, ps, ht, h, hlt, hs => by
    obtain ⟨v, vs', d, ds', p, q, rfl, rfl, rfl, h1, h2⟩ := trodAll_cons h
    rw [List.all_cons, Bool.and_eq_true, Bool.and_eq_true, Nat.blt_eq] at ht
    exact trodAll_cons_mk (WideElems.Trod_stays hl ht.1.1 ht.1.2 h1 (fun x hx => hsame x (hlt x (by simp [hx]))) (fun x hx => hs x (by simp [hx])))
      (Bz hl hsame ht.2 h2 (fun x hx => hlt x (by simp [hx])) (fun x hx => hs x (by simp [hx])))
theorem Nb {f : Func} {s : ChangeSpec} {args : Array Value} {ds gs : List (DataW H)} {before : List MemPlace} {k : FuncId} {bt : TypeId} (hl : laidOutB P = true) (hr : (f.params.toList.all fun t => P.readableRec t && Nat.blt t P.types.size) = true)
    (hW : DataW.Whole enc P f.params.toList s.vars false W args.toList ds gs before) (hv : s.vars = []) (hrt : f.resultTypes = #[bt]) (hbt : P.underlying bt = some .bool) (hfn : s.fn H (ds ++ gs) = { results := [.lit (.bool true)], args := ds })
    (hcall : Calls P k args W fun e w' => e = .returned (.bool true) ∧ Below W.heap.size W w') :
    Calls P k args W fun e W' => ∃ v, e = .returned v ∧ s.post enc P f false true false false W args v W' := by
  refine hcall.mono fun e W' ⟨he, hb⟩ => ⟨_, he, ?_⟩
  have hlt : ∀ p ∈ before, p.block < W.heap.size := fun p hp => hW.lt p hp
  have hW' := hW
  obtain ⟨pa, q, hA, hV, rfl, hz, hn⟩ := hW
  rw [hv] at hV
  obtain ⟨rfl, rfl⟩ := trodVars_none hV
  have hres : ∀ (b : Nat) (sp : Nat → Bool) (hd : Bool), DataW.TrodAll enc P W' b sp hd f.resultTypes.toList ((Value.bool true).resultList f.resultTypes.size) (s.fn H (ds ++ [])).results [] := by
    intro b sp hd
    rw [hfn, hrt]
    exact trodAll_cons_mk (p' := []) (shut_bool hbt _) trodAll_mk0
  have hargs : ∀ sp : Nat → Bool, (∀ p ∈ pa ++ [], sp p.block = true) → DataW.TrodAll enc P W' 0 sp true f.params.toList args.toList (s.fn H (ds ++ [])).args pa := by
    intro sp hs
    rw [hfn]
    exact Bz hl (fun p hp => hb.same hp) hr hA (fun p hp => hlt p (by simp [hp])) (fun p hp => hs p (by simp [hp]))
  have hvars : ∀ sp : Nat → Bool, DataW.TrodVars enc P W' sp s.vars (s.fn H (ds ++ [])).vars [] := by
    intro sp
    rw [hfn, hv]
    exact rfl
  have hold : ∀ p ∈ pa ++ [], (fun b => decide (b < W.heap.size)) p.block = true := fun p hp => by simpa using hlt p hp
  have hok : ∀ (j : Nat) (t : TypeId) (r : Value), f.resultTypes[j]? = some t → ((Value.bool true).resultList f.resultTypes.size)[j]? = some r → Value.okWide P W' .any 0 t r := ok_one hrt rfl (okWide_bool_mk hbt _)
  refine ⟨ds, [], pa ++ [], [], pa, [], hW', hres _ _ _, hargs _ hold, hvars _, World.keptBut_mono (fun p hp => ⟨hp, ?_⟩) (hb.frame (· ∈ pa ++ [])), fun h => by cases h⟩
  simpa using hp
def qg (w : World) : ao := fun b _ => b < w.heap.size
theorem Nc {f : FuncId} {vs : List Value} {qs : List (Bool × List PV)} (hs : aw P f qs (av [(false, [PV.val (.bool true)])])) (hr : dj qs (qg W) W vs) : Calls P f vs.toArray W fun e w' => e = .returned (.bool true) ∧ Below W.heap.size W w' :=
  (hs W vs (qg W) (fun _ _ h => h) hr).mono fun e w' ⟨v, Fz', F, he, hb, _, _, hv, _⟩ => ⟨by rw [he, (bv.sc (hv fun _ => 0)).1], hb⟩
def ou (P : Program) (T : TypeId) {α : Type} (f : α → List PV) (g : α → Prop) : Prop :=
  ∀ {H : Type} (enc : TypeId × Value → H) (w : World) (sp : Nat → Bool) (held : Bool) (n : Nat) (cs : List Value) (x : DataW H × List MemPlace), DataW.trod enc P w 0 sp held n T cs = some x → ∃ a, bE (f a) (qg w) w cs ∧ g a
theorem Nd {T E e : TypeId} {α : Type} {f : α → List PV} (hu : P.underlying T = some (.slice E)) (hc : P.cellsOf E = e) (he : 0 < e) {g : α → Prop} (hf : ou P E f g) (hlen : ∀ a, (f a).length = e) : ou P T (fun xs : List α => [PV.sl .v (xs.map f)]) fun xs => ∀ x ∈ xs, g x := by
  intro H enc w sp held n cs x hx
  subst hc
  rcases Deep.open_slice hu hx with ⟨rfl, _⟩ | ⟨a, len, cap, m, n', D, Pl, rfl, _, hlc, hcm, hm, _, hel⟩
  · exact ⟨[], ⟨_, [], rfl, ⟨⟨none, 0, 0, fun _ _ => undef, rfl, Nat.le_refl _, Nat.zero_le _, by simp, .inl rfl, by simp⟩, True.intro⟩, rfl⟩, by simp⟩
  · have hlm : len ≤ m := by rw [hm]; split <;> omega
    have key : ∀ i, i < len → ∃ (y : α × List Value), w.cells? 0 (a.add (i * P.cellsOf E)) (P.cellsOf E) = some y.2 ∧ bE (f y.1) (qg w) w y.2 ∧ g y.1 := by
      intro i hi
      obtain ⟨cs', h1, h2⟩ := hel i (by omega)
      obtain ⟨y, hy⟩ := hf enc w sp held n' cs' _ h2
      exact ⟨(y, cs'), h1, hy⟩
    by_cases hl0 : len = 0
    · subst hl0
      exact ⟨[], ⟨_, [], rfl, ⟨⟨some a, cap, 0, fun _ _ => undef, rfl, Nat.zero_le _, hcm, by simp, .inl rfl, by simp⟩, True.intro⟩, rfl⟩, by simp⟩
    · obtain ⟨y0, _, _⟩ := key 0 (by omega)
      have : Inhabited (α × List Value) := ⟨y0⟩
      obtain ⟨F, hF⟩ := Deep.choose_lt key
      obtain ⟨b, off, spt⟩ := a
      have hspt : spt = none := by
        obtain ⟨_, h2, h3⟩ := World.cells?_some (hF 0 (by omega)).1
        have h4 := h3 0 he
        rw [List.getElem?_eq_getElem (by rw [h2]; exact he), Nat.zero_mul] at h4
        cases spt with
        | none => rfl
        | some s => simp [Addr.add, World.cell?] at h4; split at h4 <;> simp at h4
      subst hspt
      have hcell : ∀ i j, i < len → j < P.cellsOf E → w.cell? ⟨b, off + (i * P.cellsOf E + j), none⟩ = some ((F i).2.getD j undef) := by
        intro i j hi hj
        obtain ⟨_, h2, h3⟩ := World.cells?_some (hF i hi).1
        have h4 := h3 j hj
        rw [kU, kU, Nat.add_assoc] at h4
        rw [h4, List.getD_eq_getElem?_getD, List.getElem?_eq_getElem (by rw [h2]; exact hj)]; rfl
      refine ⟨(List.range len).map fun i => (F i).1, ⟨_, [], rfl, ⟨⟨some ⟨b, off, none⟩, cap, P.cellsOf E, fun i j => (F i).2.getD j undef, by simp, by simpa using hlc, hcm, ?_, .inr ⟨b, off, rfl, ?_⟩, ?_⟩, True.intro⟩, rfl⟩, ?_⟩
      · intro cs hcs
        obtain ⟨y, _, rfl⟩ := List.mem_map.1 hcs
        exact hlen y
      · intro i j hi hj
        have hi' : i < len := by simpa using hi
        have h := hcell i j hi' hj
        exact ⟨World.block_lt_of_cell? w _ h, h⟩
      · intro i cs j p hi hj
        have hi' : i < len := by have := (List.getElem?_eq_some_iff.1 hi).1; simpa using this
        simp [hi'] at hi
        subst hi
        obtain ⟨v, hv, hr⟩ := (hF i hi').2.1.at_ hj
        show p.rel _ _ ((F i).2.getD j undef)
        rw [List.getD_eq_getElem?_getD, hv]; exact hr
      · intro y hy
        obtain ⟨i, hi, rfl⟩ := List.mem_map.1 hy
        exact (hF i (List.mem_range.1 hi)).2.2
theorem Nf {T : TypeId} {ag : Bool} {k : Nat} {α : Type} {f : α → List PV} {g : α → Prop} (hT : bQ P T = some (ag, k)) (hs : ou P T f g) {w : World} {r : Reach} {b0 : Nat} {v : Value} {d : DataW H} {ps : List MemPlace} (hval : Value.okWide P w r b0 T v) (h : DataW.Trod enc P w 0 (fun _ => true) true T v d ps) :
    ∃ a, n9 ag (f a) (qg w) w v ∧ g a := by
  obtain ⟨n, hn⟩ := h
  obtain ⟨a, ha, hg⟩ := hs enc w _ _ n _ _ hn
  refine ⟨a, ⟨?_, ha⟩, hg⟩
  unfold bQ at hT
  cases hu : P.underlying T with
  | none => rw [hu] at hT; cases hT
  | some dd =>
    cases hi : P.info? T with
    | none => rw [hu, hi] at hT; cases hT
    | some i =>
      rw [hu, hi] at hT
      simp only [Option.some.injEq, Prod.mk.injEq] at hT
      obtain ⟨hT, _⟩ := hT
      unfold Value.okWide at hval
      rw [hu] at hval
      cases dd <;> simp only at hT hval <;> subst hT <;> first
        | (obtain ⟨cs, rfl, _⟩ := hval; rfl)
        | (cases v <;> first | rfl | (simp [Cell.okWide, Cell.ok, hu] at hval))
end
end
end Go.Proofs.YtmekkgdboplbjaaGreat.M
set_option linter.unusedVariables false
namespace Go.Proofs.YtmekkgdboplbjaaGreat.M
open Go Go.RowKit
section
section
variable {P : Program} {n d : Nat} {ty : TypeId} {pos : String} {af : Array Edge} {g : Option (Nat × Bool)} {G : qf}
end
end
section
section
variable {h0 : Nat → Prop} {n : Nat} {w0 w : World} {Fz0 Fz : ao} {σ : St} {a : Act} {φ : Nat → Nat} {Fp : Nat → List Nat} {P : Program} {c : Code} {Q : Exit → St → Prop}
end
end
end Go.Proofs.YtmekkgdboplbjaaGreat.M
namespace Go.Proofs.YtmekkgdboplbjaaGreat.M
open Go
section
inductive dN (s : Nat → Option RV) : List Nat → List (Nat × RV) → Prop
  | nil : dN s [] []
  | cons {k : Nat} {v : RV} {ks : List Nat} {l : List (Nat × RV)} (h : s k = some v) (t : dN s ks l) : dN s (k :: ks) ((k, v) :: l)
theorem dN.rd {s : Nat → Option RV} {ks : List Nat} {l : List (Nat × RV)} (h : dN s ks l) : aL l s := by
  induction h with
  | nil => exact True.intro
  | cons h _ ih => exact And.intro h ih
inductive fV (b : Nat → Option (Nat × List PV)) : List Nat → List (Nat × (Nat × List PV)) → Prop
  | nil : fV b [] []
  | cons {k : Nat} {v : Nat × List PV} {ks : List Nat} {l : List (Nat × (Nat × List PV))} (h : b k = some v) (t : fV b ks l) : fV b (k :: ks) ((k, v) :: l)
theorem fV.rd {b : Nat → Option (Nat × List PV)} {ks : List Nat} {l : List (Nat × (Nat × List PV))} (h : fV b ks l) : aL l b := by
  induction h with
  | nil => exact True.intro
  | cons h _ ih => exact And.intro h ih
theorem qq : (∀ {p : Prop} [Decidable p], (decide p = true) = p) ∧ (∀ {p : Prop} [Decidable p], decide p = false ↔ ¬ p) ∧ (∀ {α : Type} [BEq α] [LawfulBEq α] {a b : α}, (a != b) = true ↔ a ≠ b) ∧ (∀ {α : Type} [BEq α] [LawfulBEq α] {a b : α}, (a == b) = true ↔ a = b) ∧ (∀ {b : Bool}, ((!b) = true) = (b = false)) ∧ (∀ {b : Bool}, ((!b) = false) = (b = true)) ∧ (∀ {α : Type} {a b : α}, (a ≠ b) = ¬ a = b) ∧ (∀ {α : Type} [BEq α] [LawfulBEq α] {a b : α}, (a != b) = false ↔ a = b) ∧ (∀ {α : Type} [BEq α] [LawfulBEq α] {a b : α}, (a == b) = false ↔ a ≠ b) :=
  ⟨q1, q2, q3, q4, q5, q6, q7, q8, q9⟩
theorem BA {L : Nat → Prop} {a b : List PV} (h : ak L a) (k : ak L b) : ak L (List.append a b) := ak.app h k
theorem lc {G : Prop} (h : G := by repeat' (first | with_reducible (first | exact l4.nil | exact ak.nil | exact ak.vals | exact PV.lcl_val | exact PV.lcl_any | exact RV.lcl_hdr | exact RV.lcl_ptr | exact RV.lcl_gat | exact RV.lcl_phi | apply l4.cons | apply ak.cons | apply RV.lcl_nm | apply RV.lcl_sv | apply RV.lcl_gh | apply PV.lcl_nv | apply PV.lcl_own | apply ak.flat | apply ak.app | apply BA | refine ak.map fun _ => ?_) | apply ak.cons | apply l4.cons | exact ak.nil | refine ak.map fun _ => ?_)) : G := h
theorem aI {a b : Prop} (x : a) (y : b) : a ∧ b := ⟨x, y⟩
theorem tI : True := True.intro
theorem nl {a b : Nat} (h : Nat.ble a b = true) : a ≤ b := Nat.le_of_ble_eq_true h
section
variable {P : Program} {n : Nat} {h0 : Nat → Prop} {w0 : World} {Fz0 : ao} {c x y : Code} {σ : St} {Q : Exit → St → Prop}
theorem sP (ks bs : List Nat) {l : List (Nat × RV)} {b : List (Nat × (Nat × List PV))} (h : SW P n h0 w0 Fz0 c (St.of l b) Q) (hl : dN σ.s ks l := by repeat (first | exact dN.nil | apply dN.cons rfl)) (hb : fV σ.b bs b := by repeat (first | exact fV.nil | apply fV.cons rfl)) : SW P n h0 w0 Fz0 c σ Q := sO l b h hl.rd hb.rd
theorem sS {id : Nat} {ops : Array Oper} (ks bs : List Nat) {l : List (Nat × RV)} {b : List (Nat × (Nat × List PV))} (h : an P n ops (fun τ => ob (fun τ => SW P n h0 w0 Fz0 y τ Q) Q .normal τ) ops.toList (St.of l b)) (hl : dN σ.s ks l := by repeat (first | exact dN.nil | apply dN.cons rfl)) (hb : fV σ.b bs b := by repeat (first | exact fV.nil | apply fV.cons rfl)) : SW P n h0 w0 Fz0 (.seq (.region id ops false) y) σ Q := aJ (sO l b (aM h) hl.rd hb.rd)
theorem sG {id : Nat} {ops : Array Oper} (ks bs : List Nat) {l : List (Nat × RV)} {b : List (Nat × (Nat × List PV))} (h : an P n ops (fun τ => Q .normal τ) ops.toList (St.of l b)) (hl : dN σ.s ks l := by repeat (first | exact dN.nil | apply dN.cons rfl)) (hb : fV σ.b bs b := by repeat (first | exact fV.nil | apply fV.cons rfl)) : SW P n h0 w0 Fz0 (.region id ops false) σ Q := sO l b (aM h) hl.rd hb.rd
theorem sL {ι : Type} (ks bs : List Nat) (I : ι → Prop) {l0 : List (Nat × RV)} {b0 : List (Nat × (Nat × List PV))} (l : ι → List (Nat × RV)) (b : ι → List (Nat × (Nat × List PV))) (m : ι → Nat) (i0 : ι) (h0' : I i0) (hl : aL (l i0) σ.s) (hb : aL (b i0) σ.b)
    (round : ∀ i, I i → SW P n h0 w0 Fz0 c (St.of (l0 ++ l i) (b0 ++ b i)) (ob (fun τ => ∃ j, I j ∧ m j < m i ∧ (aL l0 τ.s ∧ aL b0 τ.b) ∧ aL (l j) τ.s ∧ aL (b j) τ.b) Q)) (hl0 : dN σ.s ks l0 := by repeat (first | exact dN.nil | apply dN.cons rfl)) (hb0 : fV σ.b bs b0 := by repeat (first | exact fV.nil | apply fV.cons rfl)) : SW P n h0 w0 Fz0 (.loop c) σ Q := MF I l b m i0 h0' hl0.rd hb0.rd hl hb round
theorem sR {id : Nat} {ops : Array Oper} (h : an P n ops (fun τ => ob (fun τ => SW P n h0 w0 Fz0 y τ Q) Q .normal τ) ops.toList σ) : SW P n h0 w0 Fz0 (.seq (.region id ops false) y) σ Q := aJ (aM h)
end
section
variable {P : Program} {n : Nat} {ops : Array Oper} {σ : St} {QS : St → Prop} {l : List Oper} {d x : Nat} {ty : TypeId} {pos : String} {af : Array Edge}
theorem rM {v : Value} (y : an P n ops QS l (σ.app ⟨[(x, RV.sc v)], [], [(d, some (RV.sc v))], [], none⟩)) (h1 : aL [(x, RV.sc v)] σ.s := by repeat (first | exact True.intro | refine And.intro rfl ?_)) (hd : d < n := by decide) : an P n ops QS (⟨some d, .move (.tmp x), ty, pos, af, none⟩ :: l) σ := rA y h1 True.intro (sM hd) rfl rfl
theorem rS {v : Value} (y : an P n ops QS l (σ.app ⟨[(x, RV.sc v)], [], [(d, some (RV.sc v))], [], none⟩)) (h1 : aL [(x, RV.sc v)] σ.s := by repeat (first | exact True.intro | refine And.intro rfl ?_)) (hd : d < n := by decide) : an P n ops QS (⟨some d, .assign (.tmp x), ty, pos, af, none⟩ :: l) σ := rA y h1 True.intro (sA hd) rfl rfl
theorem rK {v : Value} (y : an P n ops QS l (σ.app ⟨[], [], [(d, some (RV.sc v))], [], none⟩)) (h : v.oneCell' = true := by exact rfl) (hd : d < n := by decide) : an P n ops QS (⟨some d, .assign (.const v), ty, pos, af, none⟩ :: l) σ := rA y True.intro True.intro (kA h hd) rfl rfl
end
end
end Go.Proofs.YtmekkgdboplbjaaGreat.M
namespace Go.Proofs.YtmekkgdboplbjaaGreat.M
open Go Go.RowKit
section
inductive fW : List PV → List PV → Prop
  | nil : fW [] []
  | val {v : Value} {l m : List PV} (h : fW l m) : fW (PV.val v :: l) (PV.val v :: m)
  | sl {o : Fl} {es : List (List PV)} {l m : List PV} (h : fW l m) : fW (PV.sl o es :: l) (PV.sl o es :: m)
theorem fW.eq {l m : List PV} (h : fW l m) : l = m := by
  induction h with
  | nil => rfl
  | val _ ih => rw [ih]
  | sl _ ih => rw [ih]
inductive fm (b : Nat → Option (Nat × List PV)) : List Nat → List (Nat × (Nat × List PV)) → Prop
  | nil : fm b [] []
  | cons {k T : Nat} {cs ds : List PV} {ks : List Nat} {l : List (Nat × (Nat × List PV))} (h : b k = some (T, cs)) (e : fW cs ds) (t : fm b ks l) : fm b (k :: ks) ((k, (T, ds)) :: l)
  | any {k T : Nat} {cs : List PV} {ks : List Nat} {l : List (Nat × (Nat × List PV))} (h : b k = some (T, cs)) (t : fm b ks l) : fm b (k :: ks) ((k, (T, cs)) :: l)
theorem fm.rd {b : Nat → Option (Nat × List PV)} {ks : List Nat} {l : List (Nat × (Nat × List PV))} (h : fm b ks l) : aL l b := by
  induction h with
  | nil => exact True.intro
  | cons h e _ ih => exact And.intro (e.eq ▸ h) ih
  | any h _ ih => exact And.intro h ih
section
variable {P : Program} {n : Nat} {h0 : Nat → Prop} {w0 : World} {Fz0 : ao} {c x y : Code} {σ : St} {Q : Exit → St → Prop}
theorem sQ (ks bs : List Nat) {l : List (Nat × RV)} {b : List (Nat × (Nat × List PV))} (h : SW P n h0 w0 Fz0 c (St.of l b) Q) (hl : dN σ.s ks l := by repeat (first | exact dN.nil | apply dN.cons rfl)) (hb : fm σ.b bs b := by repeat (first | exact fm.nil | refine fm.cons rfl (by repeat (first | exact fW.nil | apply fW.val | apply fW.sl)) ?_ | apply fm.any rfl)) : SW P n h0 w0 Fz0 c σ Q := sO l b h hl.rd hb.rd
theorem sT {id : Nat} {ops : Array Oper} (ks bs : List Nat) {l : List (Nat × RV)} {b : List (Nat × (Nat × List PV))} (h : an P n ops (fun τ => ob (fun τ => SW P n h0 w0 Fz0 y τ Q) Q .normal τ) ops.toList (St.of l b)) (hl : dN σ.s ks l := by repeat (first | exact dN.nil | apply dN.cons rfl)) (hb : fm σ.b bs b := by repeat (first | exact fm.nil | refine fm.cons rfl (by repeat (first | exact fW.nil | apply fW.val | apply fW.sl)) ?_ | apply fm.any rfl)) : SW P n h0 w0 Fz0 (.seq (.region id ops false) y) σ Q := aJ (sO l b (aM h) hl.rd hb.rd)
theorem sH {id : Nat} {ops : Array Oper} (ks bs : List Nat) {l : List (Nat × RV)} {b : List (Nat × (Nat × List PV))} (h : an P n ops (fun τ => Q .normal τ) ops.toList (St.of l b)) (hl : dN σ.s ks l := by repeat (first | exact dN.nil | apply dN.cons rfl)) (hb : fm σ.b bs b := by repeat (first | exact fm.nil | refine fm.cons rfl (by repeat (first | exact fW.nil | apply fW.val | apply fW.sl)) ?_ | apply fm.any rfl)) : SW P n h0 w0 Fz0 (.region id ops false) σ Q := sO l b (aM h) hl.rd hb.rd
theorem nx {ι : Type} {I : ι → Prop} {m : ι → Nat} {M : Nat} {C D : Prop} {E F : ι → Prop} (j : ι) (a : I j) (b : m j < M := by first | omega | (dsimp only; omega)) (c : C := by repeat (first | exact True.intro | refine And.intro rfl ?_)) (d : D := by repeat (first | exact True.intro | refine And.intro rfl ?_)) (e : E j := by repeat (first | exact True.intro | refine And.intro rfl ?_)) (f : F j := by repeat (first | exact True.intro | refine And.intro rfl ?_)) : ∃ j, I j ∧ m j < M ∧ (C ∧ D) ∧ E j ∧ F j := ⟨j, a, b, ⟨c, d⟩, e, f⟩
theorem sF {f : FuncId} {fn : Func} {c : Code} {args rs : List (Bool × List PV)} (hf : P.funcs[f]? = some fn) (h : ∀ (h0 : Nat → Prop) (w0 : World) (Fz0 : ao), SW P fn.ntmps h0 w0 Fz0 c (St.of (fC 0 args) []) (pW P fn.results.toList rs)) (hb : fn.body = some c := by exact rfl) (hn : args.length ≤ fn.ntmps := by exact Nat.le_of_ble_eq_true rfl)
    (hbor : sB args := by repeat (first | with_reducible exact cr | with_reducible refine cI (by repeat (first | with_reducible exact ae.nil | with_reducible refine ae.cons (PV.bor_val _) ?_ | with_reducible refine ae.cons (PV.bor_sl _) ?_ | with_reducible refine ae.cons (PV.bor_lo _ _) ?_)) ?_)) : aw P f args (av rs) := vZ hf hb hn hbor h
theorem sn (s j : Nat) {ag : Bool} {cs : List PV} {o : Fl} {es : List (List PV)} {m : Nat} (h : m ≤ 9223372036854775807 → SW P n h0 w0 Fz0 c σ Q) (hs : σ.s s = some (RV.sv ag cs) := by exact rfl) (hj : cs[j]? = some (PV.sl o es) := by exact rfl) (hm : es.length = m := by first | exact List.length_map _ | exact rfl) : SW P n h0 w0 Fz0 c σ Q := MJ hs hj fun k => h (hm ▸ k)
theorem sj (s : Nat) {o : Fl} {es : List (List PV)} {m : Nat} (h : m ≤ 9223372036854775807 → SW P n h0 w0 Fz0 c σ Q) (hs : σ.s s = some (RV.slc o es) := by exact rfl) (hm : es.length = m := by first | exact List.length_map _ | exact rfl) : SW P n h0 w0 Fz0 c σ Q := MG hs fun k => h (hm ▸ k)
theorem sc {t : Nat} {b : Bool} {A B : Prop} (h1 : A → SW P n h0 w0 Fz0 x σ Q) (h2 : B → SW P n h0 w0 Fz0 y σ Q) (ht : σ.s t = some (RV.bool b) := by exact rfl) (u1 : b = true → A := by first | (intro h; simp only [qq] at h; exact h) | exact id) (u2 : b = false → B := by first | (intro h; simp only [qq] at h; exact h) | exact id) : SW P n h0 w0 Fz0 (.cond (.tmp t) x y) σ Q := vX ht (fun k => h1 (u1 k)) (fun k => h2 (u2 k))
theorem bC {t : Nat} (h1 : SW P n h0 w0 Fz0 x σ Q) (ht : σ.s t = some (RV.bool true) := by exact rfl) : SW P n h0 w0 Fz0 (.cond (.tmp t) x y) σ Q := vX ht (fun _ => h1) (fun k => nomatch k)
theorem dk {t : Nat} (h1 : SW P n h0 w0 Fz0 y σ Q) (ht : σ.s t = some (RV.bool false) := by exact rfl) : SW P n h0 w0 Fz0 (.cond (.tmp t) x y) σ Q := vX ht (fun k => nomatch k) (fun _ => h1)
end
section
variable {P : Program} {n : Nat} {ops : Array Oper} {σ σ0 : St} {QS : St → Prop} {l : List Oper} {o : Oper} {acc : List (Nat × ar)} {C : Nat → ar → Prop}
theorem cx (s : Nat) {b : Bool} {A B : Prop} (h1 : b = true → A → an P n ops QS l σ) (h2 : b = false → B → an P n ops QS l σ) (ht : σ.s s = some (RV.bool b) := by exact rfl) (u1 : b = true → A := by first | (intro h; simp only [qq] at h; exact h) | exact id) (u2 : b = false → B := by first | (intro h; simp only [qq] at h; exact h) | exact id) : an P n ops QS l σ := an.cases ht (fun k => h1 k (u1 k)) (fun k => h2 k (u2 k))
theorem dx (s : Nat) {b : Bool} {A B : Prop} (h1 : b = true → A → a4 P n ops σ0 C QS l acc σ) (h2 : b = false → B → a4 P n ops σ0 C QS l acc σ) (ht : σ.s s = some (RV.bool b) := by exact rfl) (u1 : b = true → A := by first | (intro h; simp only [qq] at h; exact h) | exact id) (u2 : b = false → B := by first | (intro h; simp only [qq] at h; exact h) | exact id) : a4 P n ops σ0 C QS l acc σ := a4.cases ht (fun k => h1 k (u1 k)) (fun k => h2 k (u2 k))
inductive Hd (H : Prop) : Prop
  | mk (h : H) : Hd H
theorem Hd.get {H : Prop} : Hd H → H := fun x => by cases x with | mk h => exact h
theorem zt {c : Bool} {G H : Prop} (g : c = true) (h : H) (w : c = true → Hd H → G := by intro g_ h_; (repeat (first | refine an.s0t g_ ?_ | refine an.su ?_)); exact h_.get) : G := w g ⟨h⟩
theorem zf {c : Bool} {G H : Prop} (g : c = false) (h : H) (w : c = false → Hd H → G := by intro g_ h_; (repeat (first | refine an.s0f g_ ?_ | refine an.su ?_)); exact h_.get) : G := w g ⟨h⟩
theorem rX {L : ar} (y : an P n ops QS l (σ.app L)) (h1 : aL L.rs σ.s := by repeat (first | exact True.intro | refine And.intro rfl ?_)) (h2 : aL L.rb σ.b := by repeat (first | exact True.intro | refine And.intro rfl ?_)) (x : Loc P n o L) (hg : o.guard = none := by exact rfl) (ha : ∀ d, L.al = some d → bO d σ := by refine kW ?_; repeat (first | exact bO.of_ rfl | refine bO.app ?_ rfl)) : an P n ops QS (o :: l) σ := an.step h1 h2 (be.of hg x) ha y
theorem dX {L : ar} (m : Nat) (y : a4 P n ops σ0 C QS l (acc ++ [(m, L)]) (σ.app L)) (h1 : aL L.rs σ.s := by repeat (first | exact True.intro | refine And.intro rfl ?_)) (h2 : aL L.rb σ.b := by repeat (first | exact True.intro | refine And.intro rfl ?_)) (x : Loc P n o L) (hg : o.guard = none := by exact rfl) (ha : ∀ d, L.al = some d → bO d σ0 := by exact cV) (h4 : j9 m o L acc = true := by kernel_rfl) (hC : C acc.length L := by show (List.all _ _) = true; kernel_rfl) : a4 P n ops σ0 C QS (o :: l) acc σ := a4.stepC m h1 h2 (be.of hg x) ha h4 hC y
end
theorem rb {b c : Bool} (h : b = c) : some (RV.bool b) = some (RV.bool c) ∧ True := ⟨fD h, True.intro⟩
theorem Ng {L : Nat → Prop} : ∀ cs, cs ∈ ([] : List (List PV)) → ak L cs := fun _ h => nomatch h
theorem Nh {L : Nat → Prop} : ∀ cs, cs ∈ ([] : List (List PV)) → gq L cs := fun _ h => nomatch h
theorem lq {G : Prop} (h : G := by repeat' (first | with_reducible (first | exact ak.nil | exact ak.vals | exact gq.nil | exact PV.lcl_val | exact PV.lclr_val | exact PV.lcl_any | exact RV.lcl_hdr | exact RV.lcl_ptr | exact RV.lcl_gat | exact RV.lcl_phi | exact ae.nil | exact PV.bor_val _ | exact PV.bor_sl _ | exact PV.bor_lo _ _ | exact PV.bor_any | exact PV.bor_clo _ _ | exact PV.bor_ep _ | apply PV.bor_nv | exact cr | exact ah.nil | exact PV.tob_refl | exact en.nil | exact OTo.refl | exact OTo.lo | apply ak.cons | apply gq.cons | apply ae.cons | apply cI | apply ah.cons | apply en.cons | apply RV.lcl_nm | apply RV.lcl_sv | apply RV.lcl_gh | apply PV.lcl_nv | apply PV.lcl_own | apply PV.lcl_lo | apply PV.lclr_lo | apply ak.flat | apply ak.app | apply BA | refine ak.map fun _ => ?_ | refine gq.map fun _ => ?_ | refine PV.tob_map (fun _ => Nat.le_of_ble_eq_true rfl) (fun _ => ?_) | exact True.intro) | apply ak.cons | apply gq.cons | apply ah.cons | apply ae.cons | apply cI | exact ak.nil | exact gq.nil | exact ah.nil | exact ae.nil | exact cr | exact Ng | exact Nh | apply en.cons | apply RV.lcl_sv | exact RV.lcl_ptr | exact True.intro | exact Or.inl rfl | (refine Or.inl ?_; simp [gE]; done) | refine Or.inr ?_ | refine And.intro rfl ?_ | refine And.intro ?_ ?_ | exact rfl | refine ak.map fun _ => ?_)) : G := h
end
section
theorem s2 {α : Type} {f g : α → List PV} {fN : α × (Nat → Value) → List PV} {e : Nat} (hN : ∀ x h, fN (x, h) = fF h 0 (g x)) (hg : ∀ x, (g x).length = e) (hq : ∀ x, ab (f x) (g x)) (hb : ∀ x, ae (g x)) {Fz : ao} {w : World} : ∀ {xs : List α} {css : List Value} {F : List Nat}, bz e (xs.map f) Fz w css F →
    ∃ zs : List (α × (Nat → Value)), zs.map Prod.fst = xs ∧ css = bo e zs ∧ bz e (zs.map fN) Fz w css [] ∧ az (br f zs) Fz w (bo e zs) F
  | [], css, F, h => by
    obtain ⟨rfl, rfl⟩ := h
    exact ⟨[], rfl, rfl, ⟨rfl, rfl⟩, ⟨rfl, rfl⟩⟩
  | x :: xs, css, F, h => by
    obtain ⟨c, d, F1, F2, rfl, rfl, hl, h1, h2⟩ := h
    obtain ⟨zs, e1, e2, e3, e4⟩ := s2 hN hg hq hb h2
    obtain ⟨k, hk⟩ := Bu hl
    refine ⟨(x, k) :: zs, by rw [List.map_cons, e1], ?_, ?_, ?_⟩
    · rw [hk, e2]; rfl
    · refine ⟨c, d, [], [], rfl, rfl, hl, ?_, e3⟩
      rw [hN, wv, hg, ← List.range_eq_range', ← hk]
      exact sX (hb x) ((hq x).rel h1.rel)
    · have : az (f x ++ br f zs) Fz w (c ++ bo e zs) (F1 ++ F2) := h1.append e4
      rw [hk] at this; exact this
section
variable {P : Program} {n : Nat} {h0 : Nat → Prop} {w0 : World} {Fz0 : ao} {σ : St} {Q : Exit → St → Prop} {c : Code}
theorem BB {s t e G : Nat} {α : Type} {f g : α → List PV} {fN : α × (Nat → Value) → List PV} {xs : List α} (hs : σ.s s = some (RV.sv false [PV.sl (.own t e) (xs.map f)])) (hsG : Nat.beq s G = false) (hG : σ.s G = none) (hN : ∀ x h, fN (x, h) = fF h 0 (g x)) (hg : ∀ x, (g x).length = e) (hq : ∀ x, ab (f x) (g x)) (hb : ∀ x, ae (g x))
    (h : ∀ zs : List (α × (Nat → Value)), zs.map Prod.fst = xs → SW P n h0 w0 Fz0 c ((σ.set s (some (RV.sv false [PV.sl .v (zs.map fN)]))).set G (some (RV.gh (bo e zs) (br f zs)))) Q) : SW P n h0 w0 Fz0 c σ Q := fun a w hc => by
  rw [beq_eq, decide_eq_false_iff_not] at hsG
  obtain ⟨φ, Fz, Fp, hc⟩ := hc
  have hv : bv false [PV.sl (.own t e) (xs.map f)] Fz w (a.tmps.getD s undef) (Fp (2 * s + 1)) := hc.slot s _ hs
  obtain ⟨hag, v, vs', F1, F2, hv1, hF, ho, hnil, rfl⟩ := hv
  subst hnil
  have ho : cg t e (xs.map f) Fz w v F1 := ho
  obtain ⟨css, F', hrow, hll, hfz, rfl, hone⟩ := ho
  obtain ⟨zs, e1, e2, e3, e4⟩ := s2 hN hg hq hb hll
  have hlen : (zs.map fN).length = (xs.map f).length := by rw [List.length_map, List.length_map, ← e1, List.length_map]
  have hsl : cg t e (zs.map fN) Fz w v (v.ownBlock.toList ++ []) := ⟨css, [], by rw [hlen]; exact hrow, e3, fun g hg o => by rw [hlen]; exact hfz g hg o, rfl, hone⟩
  have c1 := hc.pull s
  have e0 : mv Fp (2 * s + 1) 0 = Fp (2 * s + 1) ++ Fp 0 := by simp [mv]
  have es : mv Fp (2 * s + 1) (2 * s + 1) = [] := by simp [mv]
  have hnd := c1.nod 0
  rw [e0, hF, List.append_nil] at hnd
  rw [hF, List.append_nil] at e0
  have c2 := c1.reslot (s := s) (rv := RV.sv false [PV.sl .v (zs.map fN)]) (by
    rw [es]
    exact ⟨hag, v, [], [], [], hv1, rfl, ⟨hsl.rel, rfl⟩, rfl, rfl⟩)
  have c3 := c2.pushG (G := G) (us := bo e zs) (cs := br f zs) (F := F') (X := Fp 0) e4 (fun b hb => by
      rw [e0]
      rcases List.mem_append.1 hb with hb | hb
      · simp [hb]
      · simp [hb])
    (by
      rw [List.append_assoc] at hnd
      exact (List.nodup_append.1 hnd).2.1)
  exact h zs e1 a w (aW.eqv ⟨_, _, _, c3⟩ (fun i => by
    simp only [St.set_s]
    split
    · rfl
    · split <;> rfl) (fun d => rfl))
theorem Ni {G H e : Nat} {α : Type} {f : α → List PV} {ys zs : List (α × (Nat → Value))} (hG : σ.s G = some (RV.gh (bo e ys) (br f ys))) (hH : σ.s H = some (RV.gh (bo e zs) (br f zs))) (hGH : Nat.beq G H = false) (h : SW P n h0 w0 Fz0 c ((σ.set H none).set G (some (RV.gh (bo e (ys ++ zs)) (br f (ys ++ zs))))) Q) : SW P n h0 w0 Fz0 c σ Q := fun a w hc => by
  rw [beq_eq, decide_eq_false_iff_not] at hGH
  obtain ⟨φ, Fz, Fp, hc⟩ := hc
  have h1 : az (br f ys) Fz w (bo e ys) (Fp (2 * G + 1)) := hc.slot G _ hG
  have h2 : az (br f zs) Fz w (bo e zs) (Fp (2 * H + 1)) := hc.slot H _ hH
  have ho : az (br f (ys ++ zs)) Fz w (bo e (ys ++ zs)) (Fp (2 * G + 1) ++ Fp (2 * H + 1)) := by
    have e1 : br f (ys ++ zs) = br f ys ++ br f zs := by simp [br]
    have e2 : bo e (ys ++ zs) = bo e ys ++ bo e zs := by simp [bo]
    rw [e1, e2]; exact h1.append h2
  have c1 := hc.pull H
  have c2 := c1.pull G
  have e1 : mv Fp (2 * H + 1) (2 * G + 1) = Fp (2 * G + 1) := by simp only [mv]; rw [if_neg (by omega), if_neg (by omega)]
  have e2 : mv (mv Fp (2 * H + 1)) (2 * G + 1) 0 = Fp (2 * G + 1) ++ (Fp (2 * H + 1) ++ Fp 0) := by
    rw [← e1]; simp [mv]
  have hnd := c2.nod 0
  rw [e2] at hnd
  have c3 := c2.pushG (G := G) (F := Fp (2 * G + 1) ++ Fp (2 * H + 1)) (X := Fp 0) ho (fun b hb => by rw [e2, ← List.append_assoc]; exact hb) (by rw [List.append_assoc]; exact hnd)
  exact h a w (aW.eqv ⟨_, _, _, c3⟩ (fun i => by
    simp only [St.set_s]
    split
    · rfl
    · rfl) (fun d => rfl))
theorem wC {d t G e : Nat} {α : Type} {f : α → List PV} {z : α × (Nat → Value)} {zs : List (α × (Nat → Value))} {ps : List PV} (hd : σ.b d = some (t, ps)) (hn : Nm ps ((List.range e).map z.2)) (hf : ∀ x, (f x).length = e) (hG : σ.s G = some (RV.gh (bo e (z :: zs)) (br f (z :: zs))))
    (h : SW P n h0 w0 Fz0 c ((σ.setB d (some (t, f z.1))).set G (some (RV.gh (bo e zs) (br f zs)))) Q) : SW P n h0 w0 Fz0 c σ Q := fun a w hc => by
  obtain ⟨φ, Fz, Fp, hc⟩ := hc
  have hg0 : az (f z.1 ++ br f zs) Fz w ((List.range e).map z.2 ++ bo e zs) (Fp (2 * G + 1)) := hc.slot G _ hG
  obtain ⟨v1, v2, F1, F2, k1, k2, k3, k4⟩ := hg0.split
  obtain ⟨rfl, rfl⟩ := List.append_inj k1 (by rw [k3.len, hf]; simp)
  have c1 := hc.pull G
  have e0 : mv Fp (2 * G + 1) 0 = Fp (2 * G + 1) ++ Fp 0 := by simp [mv]
  obtain ⟨cur, h1, h2⟩ := c1.box d (t, ps) hd
  obtain ⟨g1, g2, g3⟩ := c1.bxb d (t, ps) hd
  have hu : cur.toList = (List.range e).map z.2 := hn h2.rel
  have c2 := c1.pullB (d := d) (cs := (t, ps)) hd
  generalize hFp1 : mv Fp (2 * G + 1) = Fp1 at c1 c2 e0 h2 g3
  have hnd := c2.nod 0
  simp only [if_true] at hnd
  have em : mv Fp1 (2 * d + 2) 0 = Fp1 (2 * d + 2) ++ Fp1 0 := by simp [mv]
  rw [em, e0, k2] at hnd
  rw [k2] at e0
  have c3 := c2.pushB (d := d) (g := φ d) (t := t) (cs := f z.1) (F := F1) (X := F2 ++ Fp 0) (by rw [St.setB_b, if_pos rfl]) h1 (by rw [hu]; exact k3) g2
    (fun x hx => by
      simp only [if_true]
      rw [em, e0]
      rcases List.mem_append.1 hx with hx | hx
      · simp [hx]
      · rcases List.mem_cons.1 hx with rfl | hx
        · simp
        · rcases List.mem_append.1 hx with hx | hx <;> simp [hx])
    (by
      simp only [List.nodup_cons, List.mem_append] at hnd
      obtain ⟨m0, m1⟩ := hnd
      have m2 := (List.nodup_append.1 m1).2.1
      rw [List.append_assoc, List.nodup_append] at m2
      rw [List.nodup_append]
      refine ⟨m2.1, List.nodup_cons.2 ⟨fun hh => ?_, m2.2.1⟩, fun x hx y hy e => ?_⟩
      · rcases List.mem_append.1 hh with hh | hh
        · exact m0 (.inr (.inl (.inr hh)))
        · exact m0 (.inr (.inr hh))
      · rcases List.mem_cons.1 hy with rfl | hy
        · exact m0 (.inr (.inl (.inl (e ▸ hx))))
        · exact m2.2.2 x hx y hy e)
    (.inl rfl)
  have hn3 := c3.nod 0
  have c4 := c3.pushG (G := G) (F := F2) (X := Fp 0) k4 (fun b hb => by simp only [b6]; rw [if_neg (by omega)]; simpa using hb) (by
    simp only [b6] at hn3
    rw [if_neg (by omega)] at hn3
    simpa using hn3)
  exact h a w (aW.eqv ⟨_, _, _, c4⟩ (fun i => by
    simp only [St.set_s, St.setB_s]
    split <;> rfl) (fun e => by
    simp only [St.setB_b, St.set_b]
    split <;> rfl))
theorem qh {d T t e G : Nat} {A B : List PV} {α : Type} {f g : α → List PV} {fN : α × (Nat → Value) → List PV} {xs : List α} (hd : σ.b d = some (T, A ++ (PV.sl (.own t e) (xs.map f) :: B))) (hG : σ.s G = none) (hN : ∀ x h, fN (x, h) = fF h 0 (g x)) (hg : ∀ x, (g x).length = e) (hq : ∀ x, ab (f x) (g x)) (hb : ∀ x, ae (g x))
    (h : ∀ zs : List (α × (Nat → Value)), zs.map Prod.fst = xs → SW P n h0 w0 Fz0 c ((σ.setB d (some (T, A ++ (PV.sl .v (zs.map fN) :: B)))).set G (some (RV.gh (bo e zs) (br f zs)))) Q) : SW P n h0 w0 Fz0 c σ Q := fun a w hc => by
  obtain ⟨φ, Fz, Fp, hc⟩ := hc
  obtain ⟨cur, h1, h2⟩ := hc.box d _ hd
  obtain ⟨g1, g2, g3⟩ := hc.bxb d _ hd
  obtain ⟨v1, v2, F1, F2, k1, k2, k3, v, vs', E1, E2, rfl, rfl, ho, kB⟩ := h2.split
  have ho : cg t e (xs.map f) Fz w v E1 := ho
  obtain ⟨css, F', hrow, hll, hfz, rfl, hone⟩ := ho
  obtain ⟨zs, e1, e2, e3, e4⟩ := s2 hN hg hq hb hll
  have hlen : (zs.map fN).length = (xs.map f).length := by rw [List.length_map, List.length_map, ← e1, List.length_map]
  have hsl : cg t e (zs.map fN) Fz w v (v.ownBlock.toList ++ []) := ⟨css, [], by rw [hlen]; exact hrow, e3, fun g hg o => by rw [hlen]; exact hfz g hg o, rfl, hone⟩
  have hnew : az (A ++ (PV.sl .v (zs.map fN) :: B)) Fz w cur.toList (F1 ++ ([] ++ E2)) := by
    rw [k1]
    exact k3.append ⟨v, vs', [], E2, rfl, rfl, ⟨hsl.rel, rfl⟩, kB⟩
  rw [List.nil_append] at hnew
  have c2 := hc.pullB hd
  have hnd := c2.nod 0
  simp only [if_true] at hnd
  have em : mv Fp (2 * d + 2) 0 = Fp (2 * d + 2) ++ Fp 0 := by simp [mv]
  have k2' : Fp (2 * d + 2) = F1 ++ (v.ownBlock.toList ++ F' ++ E2) := k2
  rw [em, k2'] at hnd
  rw [k2'] at em
  have hperm : (φ d :: (F1 ++ (v.ownBlock.toList ++ F' ++ E2) ++ Fp 0)).Perm ((F1 ++ E2) ++ φ d :: (F' ++ (v.ownBlock.toList ++ Fp 0))) := by
    refine (List.Perm.trans ?_ List.perm_middle.symm)
    refine List.Perm.cons _ ?_
    simp only [List.append_assoc]
    refine List.Perm.append_left _ ?_
    show (v.ownBlock.toList ++ (F' ++ (E2 ++ Fp 0))).Perm (E2 ++ (F' ++ (v.ownBlock.toList ++ Fp 0)))
    have p1 : ((v.ownBlock.toList ++ F') ++ (E2 ++ Fp 0)).Perm ((F' ++ v.ownBlock.toList) ++ (E2 ++ Fp 0)) := List.Perm.append_right _ List.perm_append_comm
    have p2 : ((F' ++ v.ownBlock.toList) ++ (E2 ++ Fp 0)).Perm (E2 ++ ((F' ++ v.ownBlock.toList) ++ Fp 0)) := by
      rw [← List.append_assoc, ← List.append_assoc]
      exact List.Perm.append_right _ List.perm_append_comm
    have p3 := p1.trans p2
    simpa using p3
  have c3 := c2.pushB (d := d) (g := φ d) (t := T) (cs := A ++ (PV.sl .v (zs.map fN) :: B)) (F := F1 ++ E2) (X := F' ++ (v.ownBlock.toList ++ Fp 0)) (by rw [St.setB_b, if_pos rfl]) h1 hnew g2
    (fun x hx => by
      simp only [if_true]
      rw [em]
      exact hperm.mem_iff.2 hx) (hperm.nodup_iff.1 hnd) (.inl rfl)
  have hn3 := c3.nod 0
  have c4 := c3.pushG (G := G) (F := F') (X := v.ownBlock.toList ++ Fp 0) e4 (fun b hb => by simp only [b6]; rw [if_neg (by omega)]; simpa using hb) (by
    simp only [b6] at hn3
    rw [if_neg (by omega)] at hn3
    simpa using hn3)
  exact h zs e1 a w (aW.eqv ⟨_, _, _, c4⟩ (fun i => by
    simp only [St.set_s, St.setB_s]) (fun e => by
    simp only [St.setB_b, St.set_b]
    split <;> rfl))
end
end
section
theorem Nj {α : Type} {f g : α → List PV} {fN : α × (Nat → Value) → List PV} {t e : Nat} (hN : ∀ x h, fN (x, h) = fF h 0 (g x)) (hg : ∀ x, (g x).length = e) (hq : ∀ x, ab (f x) (g x)) (hb : ∀ x, ae (g x)) {Fz : ao} {w : World} {xs : List α} {v : Value} {F : List Nat} (h : cg t e (xs.map f) Fz w v F) :
    ∃ zs : List (α × (Nat → Value)), ∃ F1 F2, zs.map Prod.fst = xs ∧ cg t e (zs.map fN) Fz w v F1 ∧ az (br f zs) Fz w (bo e zs) F2 ∧ F = F1 ++ F2 := by
  obtain ⟨css, F', hrow, hll, hfz, rfl, hone⟩ := h
  obtain ⟨zs, e1, e2, e3, e4⟩ := s2 hN hg hq hb hll
  have hlen : (zs.map fN).length = (xs.map f).length := by rw [List.length_map, List.length_map, ← e1, List.length_map]
  exact ⟨zs, v.ownBlock.toList ++ [], F', e1, ⟨css, [], by rw [hlen]; exact hrow, e3, fun g hg o => by rw [hlen]; exact hfz g hg o, rfl, hone⟩, e4, by simp⟩
theorem BC {α : Type} {f : α → List PV} {ys zs : List (α × (Nat → Value))} : br f (ys ++ zs) = br f ys ++ br f zs := by simp [br]
theorem BD {α : Type} {e : Nat} {ys zs : List (α × (Nat → Value))} : bo e (ys ++ zs) = bo e ys ++ bo e zs := by simp [bo]
theorem s3 {α : Type} {a b c d : List α} : (a ++ b ++ (c ++ d)).Perm (a ++ c ++ (b ++ d)) := by
  simp only [List.append_assoc]
  refine List.Perm.append_left _ ?_
  rw [← List.append_assoc, ← List.append_assoc]
  exact List.Perm.append_right _ List.perm_append_comm
theorem BE {α : Type} {f g : α → List PV} {fN : α × (Nat → Value) → List PV} {e : Nat} (hN : ∀ x h, fN (x, h) = fF h 0 (g x)) (hg : ∀ x, (g x).length = e) (hf : ∀ x, (f x).length = e) {Fz : ao} {w : World} : ∀ {zs : List (α × (Nat → Value))} {css : List Value} {F1 F2 : List Nat}, bz e (zs.map fN) Fz w css F1 → az (br f zs) Fz w (bo e zs) F2 → bz e ((zs.map Prod.fst).map f) Fz w css F2
  | [], css, F1, F2, h, k => by
    obtain ⟨rfl, rfl⟩ := h
    obtain ⟨_, rfl⟩ := k
    exact ⟨rfl, rfl⟩
  | z :: zs, css, F1, F2, h, k => by
    obtain ⟨c, d, Fa, Fb, rfl, rfl, hl, h1, h2⟩ := h
    have k : az (f z.1 ++ br f zs) Fz w ((List.range e).map z.2 ++ bo e zs) F2 := k
    obtain ⟨v1, v2, G1, G2, k1, k2, k3, k4⟩ := k.split
    obtain ⟨rfl, rfl⟩ := List.append_inj k1 (by rw [k3.len, hf]; simp)
    have hc : c = (List.range e).map z.2 := by
      have hr := h1.rel
      rw [show fN z = fF z.2 0 (g z.1) from hN z.1 z.2] at hr
      have hk : ∀ (ps : List PV) (i : Nat) (vs : List Value), bE (fF z.2 i ps) Fz w vs → vs = (List.range' i ps.length).map z.2 := by
        intro ps
        induction ps with
        | nil => intro i vs h; exact h
        | cons p ps ih =>
          intro i vs h
          obtain ⟨v, vs', rfl, h1, h2⟩ := h
          rw [ih _ _ h2, h1.1]; rfl
      rw [hk _ _ _ hr, hg, ← List.range_eq_range']
    subst hc
    exact ⟨_, d, G1, G2, rfl, k2, hl, k3, BE hN hg hf h2 k4⟩
theorem BF {α : Type} {f : α → List PV} {e : Nat} (hf : ∀ x, (f x).length = e) {Fz : ao} {w : World} {z : α × (Nat → Value)} {l : List (α × (Nat → Value))} {F : List Nat} (h : az (br f (z :: l)) Fz w (bo e (z :: l)) F) : ∃ F1 F2, F = F1 ++ F2 ∧ az (f z.1) Fz w ((List.range e).map z.2) F1 ∧ az (br f l) Fz w (bo e l) F2 := by
  have h : az (f z.1 ++ br f l) Fz w ((List.range e).map z.2 ++ bo e l) F := h
  obtain ⟨v1, v2, F1, F2, e1, rfl, h1, h2⟩ := h.split
  obtain ⟨rfl, rfl⟩ := List.append_inj e1 (by rw [h1.len, hf]; simp)
  exact ⟨F1, F2, rfl, h1, h2⟩
theorem BG {α : Type} {f : α → List PV} {e : Nat} (hf : ∀ x, (f x).length = e) {Fz : ao} {w : World} {ys zs : List (α × (Nat → Value))} (hs : ys.Sublist zs) : ∀ {F : List Nat}, az (br f zs) Fz w (bo e zs) F → ∃ F' R, F.Perm (F' ++ R) ∧ az (br f ys) Fz w (bo e ys) F' := by
  induction hs with
  | slnil => exact fun h => ⟨_, [], by rw [List.append_nil], h⟩
  | cons z hs ih =>
    intro F h
    obtain ⟨F1, F2, rfl, h1, h2⟩ := BF hf h
    obtain ⟨F', R, hp, ho⟩ := ih h2
    exact ⟨F', F1 ++ R, (List.Perm.append_left _ hp).trans (by rw [← List.append_assoc, ← List.append_assoc]; exact List.Perm.append_right _ List.perm_append_comm), ho⟩
  | cons_cons z hs ih =>
    intro F h
    obtain ⟨F1, F2, rfl, h1, h2⟩ := BF hf h
    obtain ⟨F', R, hp, ho⟩ := ih h2
    refine ⟨F1 ++ F', R, (List.Perm.append_left _ hp).trans (by rw [List.append_assoc]), ?_⟩
    exact h1.append ho
theorem BH {α : Type} {f g : α → List PV} {fN : α × (Nat → Value) → List PV} {t e : Nat} (hN : ∀ x h, fN (x, h) = fF h 0 (g x)) (hg : ∀ x, (g x).length = e) (hf : ∀ x, (f x).length = e) {Fz : ao} {w : World} {zs : List (α × (Nat → Value))} {v : Value} {F1 F2 : List Nat} (h : cg t e (zs.map fN) Fz w v F1) (k : az (br f zs) Fz w (bo e zs) F2) : cg t e ((zs.map Prod.fst).map f) Fz w v (v.ownBlock.toList ++ F2) := by
  obtain ⟨css, F', hrow, hll, hfz, rfl, hone⟩ := h
  have hlen : ((zs.map Prod.fst).map f).length = (zs.map fN).length := by simp
  exact ⟨css, F2, by rw [hlen]; exact hrow, BE hN hg hf hll k, fun g hg o => by rw [hlen]; exact hfz g hg o, rfl, hone⟩
theorem BI {t e : Nat} {es : List (List PV)} {Fz : ao} {w : World} {v : Value} {F : List Nat} (h : cg t e es Fz w v F) : ∃ F', F = v.ownBlock.toList ++ F' := by
  obtain ⟨css, F', hrow, hll, hfz, rfl, hone⟩ := h
  exact ⟨F', rfl⟩
theorem s4 {α : Type} {f : α → List PV} {x : α} {xs : List α} {jk : List Value} : bX f (x :: xs) jk = f x ++ bX f xs jk := by
  unfold bX; rw [List.map_cons, List.flatten_cons, List.append_assoc]
theorem BJ {α : Type} {f g : α → List PV} {fN : α × (Nat → Value) → List PV} {t e : Nat} (hN : ∀ x h, fN (x, h) = fF h 0 (g x)) (hg : ∀ x, (g x).length = e) (hq : ∀ x, ab (f x) (g x)) (hb : ∀ x, ae (g x)) {jk : List Value} {Fz : ao} {w : World} : ∀ {xss : List (List α)} {vs : List Value} {F : List Nat}, az (bX (fun xs => [PV.sl (.own t e) (xs.map f)]) xss jk) Fz w vs F →
    ∃ zss : List (List (α × (Nat → Value))), ∃ F1 F2, zss.map (List.map Prod.fst) = xss ∧ az (bX (fun zs => [PV.sl (.own t e) (zs.map fN)]) zss jk) Fz w vs F1 ∧ az (br f zss.flatten) Fz w (bo e zss.flatten) F2 ∧ F.Perm (F1 ++ F2)
  | [], vs, F, h => ⟨[], F, [], rfl, h, ⟨rfl, rfl⟩, by rw [List.append_nil]⟩
  | xs :: xss, vs, F, h => by
    rw [s4] at h
    obtain ⟨v, vs', Fa, Fb, rfl, rfl, ho, h2⟩ := h
    obtain ⟨zs, A1, A2, e1, e2, e3, rfl⟩ := Nj hN hg hq hb (show cg t e (xs.map f) Fz w v Fa from ho)
    obtain ⟨zss, B1, B2, e4, e5, e6, hp⟩ := BJ hN hg hq hb h2
    refine ⟨zs :: zss, A1 ++ B1, A2 ++ B2, by rw [List.map_cons, e1, e4], ?_, ?_, ?_⟩
    · rw [s4]; exact ⟨v, vs', A1, B1, rfl, rfl, e2, e5⟩
    · rw [List.flatten_cons, BC, BD]; exact e3.append e6
    · exact (List.Perm.append_left _ hp).trans s3
theorem Nk {α : Type} {f : α → List PV} {e : Nat} (hf : ∀ x, (f x).length = e) : ∀ l : List (α × (Nat → Value)), (bo e l).length = (br f l).length := by
  intro l
  induction l with
  | nil => rfl
  | cons z l ih =>
    show ((List.range e).map z.2 ++ bo e l).length = (f z.1 ++ br f l).length
    simp [hf, ih]
theorem BK {α : Type} {f g : α → List PV} {fN : α × (Nat → Value) → List PV} {t e : Nat} (hN : ∀ x h, fN (x, h) = fF h 0 (g x)) (hg : ∀ x, (g x).length = e) (hf : ∀ x, (f x).length = e) {jk : List Value} {Fz : ao} {w : World} : ∀ {zss : List (List (α × (Nat → Value)))} {vs : List Value} {F1 F2 : List Nat}, az (bX (fun zs => [PV.sl (.own t e) (zs.map fN)]) zss jk) Fz w vs F1 → az (br f zss.flatten) Fz w (bo e zss.flatten) F2 →
    ∃ F R, az (bX (fun xs => [PV.sl (.own t e) (xs.map f)]) (zss.map (List.map Prod.fst)) jk) Fz w vs F ∧ (F1 ++ F2).Perm (F ++ R)
  | [], vs, F1, F2, h, k => ⟨F1, F2, h, List.Perm.refl _⟩
  | zs :: zss, vs, F1, F2, h, k => by
    rw [s4] at h
    obtain ⟨v, vs', G1, Fb, rfl, rfl, ho, h2⟩ := h
    rw [List.flatten_cons, BC, BD] at k
    obtain ⟨v1, v2, K1, K2, k1, rfl, k3, k4⟩ := k.split
    obtain ⟨rfl, rfl⟩ := List.append_inj k1 (by rw [k3.len]; exact Nk hf zs)
    have ho : cg t e (zs.map fN) Fz w v G1 := ho
    obtain ⟨G', rfl⟩ := BI ho
    have hb := BH hN hg hf ho k3
    obtain ⟨F, R, e1, hp⟩ := BK hN hg hf h2 k4
    refine ⟨(v.ownBlock.toList ++ K1) ++ F, G' ++ R, ?_, ?_⟩
    · rw [List.map_cons, s4]; exact ⟨v, vs', _, F, rfl, rfl, hb, e1⟩
    refine s3.trans ?_
    refine (List.Perm.append_left _ hp).trans ?_
    simp only [List.append_assoc]
    refine List.Perm.append_left _ ?_
    have p1 : (G' ++ (K1 ++ (F ++ R))).Perm ((K1 ++ F) ++ (G' ++ R)) := by
      have := (List.perm_append_comm (l₁ := G') (l₂ := K1 ++ F)).append_right R
      simpa only [List.append_assoc] using this
    simpa only [List.append_assoc] using p1
section
variable {P : Program} {n : Nat} {h0 : Nat → Prop} {w0 : World} {Fz0 : ao} {σ : St} {Q : Exit → St → Prop} {c : Code}
theorem wD {d T G : Nat} {A B : List PV} {p q : PV} {us : List Value} {gs : List PV} (hd : σ.b d = some (T, A ++ (q :: B))) (hG : σ.s G = some (RV.gh us gs)) (hp : ∀ {Fz : ao} {w : World} {v : Value} {F1 F2 : List Nat}, q.own Fz w v F1 → az gs Fz w us F2 → ∃ F R, p.own Fz w v F ∧ (F1 ++ F2).Perm (F ++ R))
    (h : SW P n h0 w0 Fz0 c ((σ.set G none).setB d (some (T, A ++ (p :: B)))) Q) : SW P n h0 w0 Fz0 c σ Q := fun a w hc => by
  obtain ⟨φ, Fz, Fp, hc⟩ := hc
  have hg0 : az gs Fz w us (Fp (2 * G + 1)) := hc.slot G _ hG
  have c1 := hc.pull G
  have e0 : mv Fp (2 * G + 1) 0 = Fp (2 * G + 1) ++ Fp 0 := by simp [mv]
  obtain ⟨cur, h1, h2⟩ := c1.box d _ hd
  obtain ⟨g1, g2, g3⟩ := c1.bxb d _ hd
  obtain ⟨v1, v2, F1, F2, k1, k2, k3, v, vs', E1, E2, rfl, rfl, ho, kB⟩ := h2.split
  obtain ⟨F, R, m1, m2⟩ := hp ho hg0
  have hnew : az (A ++ (p :: B)) Fz w cur.toList (F1 ++ (F ++ E2)) := by
    rw [k1]
    exact k3.append ⟨v, vs', F, E2, rfl, rfl, m1, kB⟩
  have c2 := c1.pullB (d := d) hd
  generalize hFp1 : mv Fp (2 * G + 1) = Fp1 at c1 c2 e0 h2 g3 k2
  have hnd := c2.nod 0
  simp only [if_true] at hnd
  have em : mv Fp1 (2 * d + 2) 0 = Fp1 (2 * d + 2) ++ Fp1 0 := by simp [mv]
  have k2' : Fp1 (2 * d + 2) = F1 ++ (E1 ++ E2) := k2
  rw [em, k2', e0] at hnd
  rw [k2', e0] at em
  have hperm : (φ d :: (F1 ++ (E1 ++ E2) ++ (Fp (2 * G + 1) ++ Fp 0))).Perm ((F1 ++ (F ++ E2)) ++ φ d :: (R ++ Fp 0)) := by
    refine (List.Perm.trans ?_ List.perm_middle.symm)
    refine List.Perm.cons _ ?_
    simp only [List.append_assoc]
    refine List.Perm.append_left _ ?_
    have p1 : (E1 ++ (E2 ++ (Fp (2 * G + 1) ++ Fp 0))).Perm ((E1 ++ Fp (2 * G + 1)) ++ (E2 ++ Fp 0)) := by
      have := s3 (a := E1) (b := E2) (c := Fp (2 * G + 1)) (d := Fp 0)
      simpa only [List.append_assoc] using this
    refine p1.trans ((List.Perm.append_right _ m2).trans ?_)
    have := s3 (a := F) (b := R) (c := E2) (d := Fp 0)
    simpa only [List.append_assoc] using this
  have c3 := c2.pushB (d := d) (g := φ d) (t := T) (cs := A ++ (p :: B)) (F := F1 ++ (F ++ E2)) (X := R ++ Fp 0) (by rw [St.setB_b, if_pos rfl]) h1 hnew g2
    (fun x hx => by
      simp only [if_true]
      rw [em]
      exact hperm.mem_iff.2 hx) (hperm.nodup_iff.1 hnd) (.inl rfl)
  exact h a w (aW.eqv ⟨_, _, _, c3⟩ (fun i => rfl) (fun e => by
    simp only [St.setB_b, St.set_b]
    split <;> rfl))
theorem BL {d T G : Nat} {cs : List PV} {ι : Type} {q : ι → List PV} {us : ι → List Value} {gs : ι → List PV} (hd : σ.b d = some (T, cs)) (hG : σ.s G = none) (hp : ∀ {Fz : ao} {w : World} {vs : List Value} {F : List Nat}, az cs Fz w vs F → ∃ i, ∃ F1 F2, az (q i) Fz w vs F1 ∧ az (gs i) Fz w (us i) F2 ∧ F.Perm (F1 ++ F2))
    (h : ∀ i, SW P n h0 w0 Fz0 c ((σ.setB d (some (T, q i))).set G (some (RV.gh (us i) (gs i)))) Q) : SW P n h0 w0 Fz0 c σ Q := fun a w hc => by
  obtain ⟨φ, Fz, Fp, hc⟩ := hc
  obtain ⟨cur, h1, h2⟩ := hc.box d _ hd
  obtain ⟨g1, g2, g3⟩ := hc.bxb d _ hd
  obtain ⟨i, P1, P2, m1, m2, m3⟩ := hp h2
  have c2 := hc.pullB hd
  have hnd := c2.nod 0
  simp only [if_true] at hnd
  have em : mv Fp (2 * d + 2) 0 = Fp (2 * d + 2) ++ Fp 0 := by simp [mv]
  rw [em] at hnd
  have hperm : (φ d :: (Fp (2 * d + 2) ++ Fp 0)).Perm (P1 ++ φ d :: (P2 ++ Fp 0)) := by
    refine (List.Perm.trans ?_ List.perm_middle.symm)
    refine List.Perm.cons _ ?_
    rw [← List.append_assoc]
    exact List.Perm.append_right _ m3
  have c3 := c2.pushB (d := d) (g := φ d) (t := T) (cs := q i) (F := P1) (X := P2 ++ Fp 0) (by rw [St.setB_b, if_pos rfl]) h1 m1 g2
    (fun x hx => by
      simp only [if_true]
      rw [em]
      exact hperm.mem_iff.2 hx) (hperm.nodup_iff.1 hnd) (.inl rfl)
  have hn3 := c3.nod 0
  have c4 := c3.pushG (G := G) (F := P2) (X := Fp 0) m2 (fun b hb => by simp only [b6]; rw [if_neg (by omega)]; simpa using hb) (by
    simp only [b6] at hn3
    rw [if_neg (by omega)] at hn3
    simpa using hn3)
  exact h i a w (aW.eqv ⟨_, _, _, c4⟩ (fun i => by
    simp only [St.set_s, St.setB_s]) (fun e => by
    simp only [St.setB_b, St.set_b]
    split <;> rfl))
theorem Nl {d T G : Nat} {ps cs : List PV} {us : List Value} {gs : List PV} (hd : σ.b d = some (T, cs)) (hG : σ.s G = some (RV.gh us gs)) (hp : ∀ {Fz : ao} {w : World} {vs : List Value} {F1 F2 : List Nat}, az cs Fz w vs F1 → az gs Fz w us F2 → ∃ F R, az ps Fz w vs F ∧ (F1 ++ F2).Perm (F ++ R))
    (h : SW P n h0 w0 Fz0 c ((σ.set G none).setB d (some (T, ps))) Q) : SW P n h0 w0 Fz0 c σ Q := fun a w hc => by
  obtain ⟨φ, Fz, Fp, hc⟩ := hc
  have hg0 : az gs Fz w us (Fp (2 * G + 1)) := hc.slot G _ hG
  have c1 := hc.pull G
  have e0 : mv Fp (2 * G + 1) 0 = Fp (2 * G + 1) ++ Fp 0 := by simp [mv]
  obtain ⟨cur, h1, h2⟩ := c1.box d _ hd
  obtain ⟨g1, g2, g3⟩ := c1.bxb d _ hd
  obtain ⟨F, R, m1, m2⟩ := hp h2 hg0
  have c2 := c1.pullB (d := d) hd
  generalize hFp1 : mv Fp (2 * G + 1) = Fp1 at c1 c2 e0 h2 g3 m2
  have hnd := c2.nod 0
  simp only [if_true] at hnd
  have em : mv Fp1 (2 * d + 2) 0 = Fp1 (2 * d + 2) ++ Fp1 0 := by simp [mv]
  rw [em, e0] at hnd
  rw [e0] at em
  have hperm : (φ d :: (Fp1 (2 * d + 2) ++ (Fp (2 * G + 1) ++ Fp 0))).Perm (F ++ φ d :: (R ++ Fp 0)) := by
    refine (List.Perm.trans ?_ List.perm_middle.symm)
    refine List.Perm.cons _ ?_
    rw [← List.append_assoc, ← List.append_assoc]
    exact List.Perm.append_right _ m2
  have c3 := c2.pushB (d := d) (g := φ d) (t := T) (cs := ps) (F := F) (X := R ++ Fp 0) (by rw [St.setB_b, if_pos rfl]) h1 m1 g2
    (fun x hx => by
      simp only [if_true]
      rw [em]
      exact hperm.mem_iff.2 hx) (hperm.nodup_iff.1 hnd) (.inl rfl)
  exact h a w (aW.eqv ⟨_, _, _, c3⟩ (fun i => rfl) (fun e => by
    simp only [St.setB_b, St.set_b]
    split <;> rfl))
theorem BM {d T t e G : Nat} {α : Type} {f g : α → List PV} {fN : α × (Nat → Value) → List PV} {xss : List (List α)} {jk : List Value} (hd : σ.b d = some (T, bX (fun xs => [PV.sl (.own t e) (xs.map f)]) xss jk)) (hG : σ.s G = none) (hN : ∀ x h, fN (x, h) = fF h 0 (g x)) (hg : ∀ x, (g x).length = e) (hq : ∀ x, ab (f x) (g x)) (hb : ∀ x, ae (g x))
    (h : ∀ zss : List (List (α × (Nat → Value))), zss.map (List.map Prod.fst) = xss → SW P n h0 w0 Fz0 c ((σ.setB d (some (T, bX (fun zs => [PV.sl (.own t e) (zs.map fN)]) zss jk))).set G (some (RV.gh (bo e zss.flatten) (br f zss.flatten)))) Q) : SW P n h0 w0 Fz0 c σ Q :=
  BL (ι := {zss : List (List (α × (Nat → Value))) // zss.map (List.map Prod.fst) = xss}) (q := fun i => bX (fun zs => [PV.sl (.own t e) (zs.map fN)]) i.1 jk) (us := fun i => bo e i.1.flatten) (gs := fun i => br f i.1.flatten) hd hG
    (fun hh => by
      obtain ⟨zss, F1, F2, e1, e2, e3, e4⟩ := BJ hN hg hq hb hh
      exact ⟨⟨zss, e1⟩, F1, F2, e2, e3, e4⟩) (fun i => h i.1 i.2)
theorem BN {d T t e G : Nat} {α : Type} {f g : α → List PV} {fN : α × (Nat → Value) → List PV} {zss : List (List (α × (Nat → Value)))} {ws : List (α × (Nat → Value))} {jk : List Value} (hd : σ.b d = some (T, bX (fun zs => [PV.sl (.own t e) (zs.map fN)]) zss jk)) (hG : σ.s G = some (RV.gh (bo e ws) (br f ws))) (hN : ∀ x h, fN (x, h) = fF h 0 (g x)) (hg : ∀ x, (g x).length = e) (hf : ∀ x, (f x).length = e) (hs : zss.flatten.Sublist ws)
    (h : SW P n h0 w0 Fz0 c ((σ.set G none).setB d (some (T, bX (fun xs => [PV.sl (.own t e) (xs.map f)]) (zss.map (List.map Prod.fst)) jk))) Q) : SW P n h0 w0 Fz0 c σ Q :=
  Nl hd hG (fun {Fz w vs F1 F2} h1 h2 => by
    obtain ⟨K, R0, hp0, k⟩ := BG hf hs h2
    obtain ⟨F, R, e1, hp⟩ := BK hN hg hf h1 k
    refine ⟨F, R ++ R0, e1, ?_⟩
    refine (List.Perm.append_left _ hp0).trans ?_
    rw [← List.append_assoc, ← List.append_assoc]
    exact List.Perm.append_right _ hp) h
end
end
section
def ib {α : Type} (f : α → PV) (z : α × Value) : List PV := [PV.nv z.2 (f z.1)]
theorem BO {α : Type} {f : α → PV} {Fz : ao} {w : World} : ∀ {xs : List α} {css : List Value} {F : List Nat}, bz 1 (xs.map fun x => [f x]) Fz w css F → ∃ zs : List (α × Value), zs.map Prod.fst = xs ∧ bz 1 (zs.map (ib f)) Fz w css F
  | [], css, F, h => ⟨[], rfl, h⟩
  | x :: xs, css, F, h => by
    obtain ⟨c, d, F1, F2, rfl, rfl, hl, h1, h2⟩ := h
    obtain ⟨zs, e1, e2⟩ := BO h2
    obtain ⟨v, vs', A, B, rfl, rfl, ho, hn⟩ := h1
    exact ⟨(x, v) :: zs, by rw [List.map_cons, e1], v :: vs', d, A ++ B, F2, rfl, rfl, hl, ⟨v, vs', A, B, rfl, rfl, ⟨rfl, ho⟩, hn⟩, e2⟩
theorem BP {α : Type} {f : α → PV} {Fz : ao} {w : World} : ∀ {zs : List (α × Value)} {css : List Value} {F : List Nat}, bz 1 (zs.map (ib f)) Fz w css F → bz 1 ((zs.map Prod.fst).map fun x => [f x]) Fz w css F
  | [], css, F, h => h
  | z :: zs, css, F, h => by
    obtain ⟨c, d, F1, F2, rfl, rfl, hl, h1, h2⟩ := h
    obtain ⟨v, vs', A, B, rfl, rfl, ho, hn⟩ := h1
    exact ⟨v :: vs', d, A ++ B, F2, rfl, rfl, hl, ⟨v, vs', A, B, rfl, rfl, ho.2, hn⟩, BP h2⟩
theorem BQ {e : Nat} {Fz : ao} {w : World} : ∀ {es : List (List PV)} {css : List Value} {F : List Nat}, bz e es Fz w css F → ∀ {k : Nat} {ps : List PV}, es[k]? = some ps → ∃ vs, bE ps Fz w vs
  | [], css, F, h, k, ps, hk => by simp at hk
  | cs :: es, css, F, h, k, ps, hk => by
    obtain ⟨c, d, F1, F2, rfl, rfl, hl, h1, h2⟩ := h
    cases k with
    | zero => simp at hk; subst hk; exact ⟨c, h1.rel⟩
    | succ k => exact BQ h2 (by simpa using hk)
theorem Nn {α : Type} {f : α → PV} {t : Nat} {Fz : ao} {w : World} {xs : List α} {v : Value} {F : List Nat} (h : cg t 1 (xs.map fun x => [f x]) Fz w v F) : ∃ zs : List (α × Value), zs.map Prod.fst = xs ∧ cg t 1 (zs.map (ib f)) Fz w v F := by
  obtain ⟨css, F', hrow, hll, hfz, rfl, hone⟩ := h
  obtain ⟨zs, e1, e2⟩ := BO hll
  have hlen : (zs.map (ib f)).length = (xs.map fun x => [f x]).length := by rw [List.length_map, List.length_map, ← e1, List.length_map]
  exact ⟨zs, e1, css, F', by rw [hlen]; exact hrow, e2, fun g hg o => by rw [hlen]; exact hfz g hg o, rfl, hone⟩
theorem No {α : Type} {f : α → PV} {t : Nat} {Fz : ao} {w : World} {zs : List (α × Value)} {v : Value} {F : List Nat} (h : cg t 1 (zs.map (ib f)) Fz w v F) : cg t 1 ((zs.map Prod.fst).map fun x => [f x]) Fz w v F := by
  obtain ⟨css, F', hrow, hll, hfz, rfl, hone⟩ := h
  have hlen : ((zs.map Prod.fst).map fun x => [f x]).length = (zs.map (ib f)).length := by simp
  exact ⟨css, F', by rw [hlen]; exact hrow, BP hll, fun g hg o => by rw [hlen]; exact hfz g hg o, rfl, hone⟩
theorem ab.nv1 {u : Value} {p : PV} {qs : List PV} (h : ab [p] qs) : ab [PV.nv u p] qs := by
  cases qs with
  | nil => exact h
  | cons q l => exact ⟨PV.nv_to h.1, h.2⟩
theorem Np {α : Type} {f : α → PV} {g : α → List PV} {fl : Fl} {zs : List (α × Value)} {xs : List α} (hz : zs.map Prod.fst = xs) (h : ∀ x, ab [f x] (g x)) : (PV.sl fl (zs.map (ib f))).To (PV.sl .v (xs.map g)) := by
  subst hz
  rw [List.map_map]
  refine PV.to_map fun z => ?_
  exact ab.nv1 (h z.1)
theorem Nq {α : Type} {zs : List (α × Value)} {xs : List α} {k : Nat} (hz : zs.map Prod.fst = xs) (hk : k < xs.length) : ∃ z, zs[k]? = some z ∧ z.1 = xs[k] := by
  subst hz
  rw [List.length_map] at hk
  exact ⟨zs[k], List.getElem?_eq_getElem hk, by rw [List.getElem_map]⟩
section
variable {P : Program} {n : Nat} {h0 : Nat → Prop} {w0 : World} {Fz0 : ao} {σ : St} {Q : Exit → St → Prop} {c : Code}
theorem BR {d T : Nat} {A B : List PV} {p : PV} {ι : Type} {q : ι → PV} (hd : σ.b d = some (T, A ++ (p :: B))) (hp : ∀ {Fz : ao} {w : World} {v : Value} {F : List Nat}, p.own Fz w v F → ∃ i, (q i).own Fz w v F)
    (h : ∀ i, SW P n h0 w0 Fz0 c (σ.setB d (some (T, A ++ (q i :: B)))) Q) : SW P n h0 w0 Fz0 c σ Q := fun a w hc => by
  obtain ⟨φ, Fz, Fp, hc⟩ := hc
  obtain ⟨cur, h1, h2⟩ := hc.box d _ hd
  obtain ⟨v1, v2, F1, F2, k1, k2, k3, v, vs', E1, E2, rfl, rfl, ho, kB⟩ := h2.split
  obtain ⟨i, hi⟩ := hp ho
  refine h i a w ⟨φ, Fz, Fp, hc.rebox hd fun cur' _ hh => ?_⟩
  have : cur' = cur := by
    rw [h1] at hh
    injection hh with hh
    injection hh with hh
    exact hh.symm
  subst this
  rw [k1, k2]
  exact k3.append ⟨v, vs', E1, E2, rfl, rfl, hi, kB⟩
theorem Nr {d T t : Nat} {A B : List PV} {α : Type} {f : α → PV} {xs : List α} (hd : σ.b d = some (T, A ++ (PV.sl (.own t 1) (xs.map fun x => [f x]) :: B)))
    (h : ∀ zs : List (α × Value), zs.map Prod.fst = xs → SW P n h0 w0 Fz0 c (σ.setB d (some (T, A ++ (PV.sl (.own t 1) (zs.map (ib f)) :: B)))) Q) : SW P n h0 w0 Fz0 c σ Q :=
  BR (ι := {zs : List (α × Value) // zs.map Prod.fst = xs}) (q := fun z => PV.sl (.own t 1) (z.1.map (ib f))) hd (fun ho => by
    obtain ⟨zs, e1, e2⟩ := Nn ho
    exact ⟨⟨zs, e1⟩, e2⟩) fun z => h z.1 z.2
theorem Ns {d T t : Nat} {A B : List PV} {α : Type} {f : α → PV} {xs : List α} {zs : List (α × Value)} (hz : zs.map Prod.fst = xs) (hd : σ.b d = some (T, A ++ (PV.sl (.own t 1) (zs.map (ib f)) :: B)))
    (h : SW P n h0 w0 Fz0 c (σ.setB d (some (T, A ++ (PV.sl (.own t 1) (xs.map fun x => [f x]) :: B)))) Q) : SW P n h0 w0 Fz0 c σ Q :=
  BR (ι := Unit) (q := fun _ => PV.sl (.own t 1) (xs.map fun x => [f x])) hd (fun ho => ⟨(), by subst hz; exact No ho⟩) fun _ => h
theorem Nt {s d T t k : Nat} {A B : List PV} {α : Type} {f : α → PV} {q : α → PV} {zs : List (α × Value)} {z : α × Value} (hs : σ.s s = some (RV.sv false [PV.val z.2])) (hd : σ.b d = some (T, A ++ (PV.sl (.own t 1) (zs.map (ib f)) :: B))) (hk : zs[k]? = some z) (hq : ∀ {x}, (f x).To (q x)) (hb : ∀ {x}, (q x).Bor)
    (h : SW P n h0 w0 Fz0 c (σ.set s (some (RV.sv false [PV.nv z.2 (q z.1)]))) Q) : SW P n h0 w0 Fz0 c σ Q := fun a w hc => by
  obtain ⟨x, v⟩ := z
  obtain ⟨φ, Fz, Fp, hc⟩ := hc
  obtain ⟨cur, h1, h2⟩ := hc.box d _ hd
  obtain ⟨v1, v2, F1, F2, k1, k2, k3, u, vs', E1, E2, rfl, rfl, ho, kB⟩ := h2.split
  have ho : cg t 1 (zs.map (ib f)) Fz w u E1 := ho
  obtain ⟨css, F', hrow, hll, hfz, rfl, hone⟩ := ho
  obtain ⟨us, hu⟩ := BQ hll (k := k) (ps := ib f (x, v)) (by rw [List.getElem?_map, hk]; rfl)
  obtain ⟨u', _, rfl, hu, _⟩ := hu
  obtain ⟨rfl, hu⟩ := hu
  have hv : bv false [PV.val u'] Fz w (a.tmps.getD s undef) (Fp (2 * s + 1)) := hc.slot s _ hs
  obtain ⟨hag, y, ys, G1, G2, hy1, hF, hy, hnil, rfl⟩ := hv
  subst hnil
  have c1 := (hc.pull s).reslot (s := s) (rv := RV.sv false [PV.nv u' (q x)]) (by
    have : mv Fp (2 * s + 1) (2 * s + 1) = [] := by simp [mv]
    rw [this]
    obtain ⟨⟨rfl, hone'⟩, rfl⟩ := hy
    exact ⟨hag, y, [], [], [], hy1, rfl, ⟨rfl, hb (hq hu)⟩, rfl, rfl⟩)
  exact h a w (aW.eqv ⟨φ, Fz, _, c1⟩ (fun i => by
    simp only [St.set_s]
    split <;> rfl) (fun d => rfl))
def ci (gs : List PV) (us : List Value) (qs : List PV) (us' : List Value) : Prop := ∀ {Fz : ao} {w : World} {F : List Nat}, az gs Fz w us F → ∃ F' R, az qs Fz w us' F' ∧ F.Perm (F' ++ R)
theorem ci.nil {gs : List PV} {us : List Value} : ci gs us [] [] := fun {_ _ F} _ => ⟨[], F, ⟨rfl, rfl⟩, List.Perm.refl _⟩
theorem ci.keep {p : PV} {u : Value} {gs qs : List PV} {us us' : List Value} (h : ci gs us qs us') : ci (p :: gs) (u :: us) (p :: qs) (u :: us') := fun {Fz w F} k => by
  obtain ⟨v, vs, F1, F2, e1, rfl, h1, h2⟩ := k
  injection e1 with e1 e2
  subst e1 e2
  obtain ⟨F', R, h3, h4⟩ := h h2
  exact ⟨F1 ++ F', R, ⟨u, us', F1, F', rfl, rfl, h1, h3⟩, by rw [List.append_assoc]; exact List.Perm.append_left _ h4⟩
theorem ci.drop {p : PV} {u : Value} {gs qs : List PV} {us us' : List Value} (h : ci gs us qs us') : ci (p :: gs) (u :: us) qs us' := fun {Fz w F} k => by
  obtain ⟨v, vs, F1, F2, e1, rfl, h1, h2⟩ := k
  injection e1 with e1 e2
  subst e1 e2
  obtain ⟨F', R, h3, h4⟩ := h h2
  refine ⟨F', F1 ++ R, h3, ?_⟩
  refine (List.Perm.append_left F1 h4).trans ?_
  rw [← List.append_assoc, ← List.append_assoc]
  exact List.Perm.append_right _ List.perm_append_comm
theorem ci.lit {x : Value} {gs qs : List PV} {us us' : List Value} (hx : x.oneCell' = true) (h : ci gs us qs us') : ci gs us (PV.val x :: qs) (x :: us') := fun {Fz w F} k => by
  obtain ⟨F', R, h3, h4⟩ := h k
  exact ⟨F', R, ⟨x, us', [], F', rfl, rfl, ⟨⟨rfl, hx⟩, rfl⟩, h3⟩, h4⟩
theorem BS {e : Nat} {ps : List PV} {Fz : ao} {w : World} : ∀ {es : List (List PV)} {css : List Value} {F : List Nat}, bz e (es ++ [ps]) Fz w css F → ∃ c1 c2 Fa Fb, css = c1 ++ c2 ∧ F = Fa ++ Fb ∧ c2.length = e ∧ bz e es Fz w c1 Fa ∧ az ps Fz w c2 Fb
  | [], css, F, h => by
    obtain ⟨c, d, F1, F2, rfl, rfl, hl, h1, rfl, rfl⟩ := h
    exact ⟨[], c, [], F1, by simp, by simp, hl, ⟨rfl, rfl⟩, h1⟩
  | x :: es, css, F, h => by
    obtain ⟨c, d, F1, F2, rfl, rfl, hl, h1, h2⟩ := h
    obtain ⟨c1, c2, Fa, Fb, rfl, rfl, h3, h4, h5⟩ := BS h2
    exact ⟨c ++ c1, c2, F1 ++ Fa, Fb, by simp, by simp, h3, ⟨c, c1, F1, Fa, rfl, rfl, hl, h1, h4⟩, h5⟩
theorem BT {e : Nat} {ps : List PV} {Fz : ao} {w : World} {c2 : List Value} {Fb : List Nat} (hl : c2.length = e) (h5 : az ps Fz w c2 Fb) : ∀ {es : List (List PV)} {c1 : List Value} {Fa : List Nat}, bz e es Fz w c1 Fa → bz e (es ++ [ps]) Fz w (c1 ++ c2) (Fa ++ Fb)
  | [], c1, Fa, h => by
    obtain ⟨rfl, rfl⟩ := h
    exact ⟨c2, [], Fb, [], by simp, by simp, hl, h5, rfl, rfl⟩
  | x :: es, c1, Fa, h => by
    obtain ⟨c, d, F1, F2, rfl, rfl, hl', h1, h2⟩ := h
    exact ⟨c, d ++ c2, F1, F2 ++ Fb, by simp, by simp, hl', h1, BT hl h5 h2⟩
theorem BU {t e : Nat} {es : List (List PV)} {ps qs gs : List PV} {us us' : List Value} (hn : Nm ps us') (hs : ci gs us qs us') {Fz : ao} {w : World} {v : Value} {F1 F2 : List Nat} (h : (PV.sl (.own t e) (es ++ [ps])).own Fz w v F1) (k : az gs Fz w us F2) : ∃ F R, (PV.sl (.own t e) (es ++ [qs])).own Fz w v F ∧ (F1 ++ F2).Perm (F ++ R) := by
  have h : cg t e (es ++ [ps]) Fz w v F1 := h
  obtain ⟨css, F', hrow, hll, hfz, rfl, hone⟩ := h
  obtain ⟨c1, c2, Fa, Fb, rfl, rfl, hl, h4, h5⟩ := BS hll
  obtain rfl : c2 = us' := hn h5.rel
  obtain ⟨F'', R, h6, h7⟩ := hs k
  have hlen : (es ++ [qs]).length = (es ++ [ps]).length := by simp
  refine ⟨v.ownBlock.toList ++ (Fa ++ F''), Fb ++ R, ⟨c1 ++ c2, Fa ++ F'', by rw [hlen]; exact hrow, BT hl h6 h4, fun g hg o => by rw [hlen]; exact hfz g hg o, rfl, hone⟩, ?_⟩
  simp only [List.append_assoc]
  refine List.Perm.append_left _ (List.Perm.append_left _ ?_)
  refine (List.Perm.append_left Fb h7).trans ?_
  rw [← List.append_assoc, ← List.append_assoc]
  exact List.Perm.append_right _ List.perm_append_comm
end
end
section
theorem Nu {α : Type} {f : α → List PV} {e : Nat} (hf : ∀ x, (f x).length = e) {Fz : ao} {w : World} {ys rs zs : List (α × (Nat → Value))} (hp : (ys ++ rs).Perm zs) {F : List Nat} (h : az (br f zs) Fz w (bo e zs) F) : ∃ F' R, F.Perm (F' ++ R) ∧ az (br f ys) Fz w (bo e ys) F' := by
  obtain ⟨F1, k1, k2⟩ := M3 hf hp.symm h
  obtain ⟨F', R, k3, k4⟩ := BG hf (List.sublist_append_left ys rs) k2
  exact ⟨F', R, k1.trans k3, k4⟩
theorem Nv {α : Type} {f g : α → List PV} {fN : α × (Nat → Value) → List PV} {t e : Nat} (hN : ∀ x h, fN (x, h) = fF h 0 (g x)) (hg : ∀ x, (g x).length = e) (hf : ∀ x, (f x).length = e) {ys rs zs : List (α × (Nat → Value))} (hp : (ys ++ rs).Perm zs) {xs : List α} (hx : ys.map Prod.fst = xs) {Fz : ao} {w : World} {v : Value} {F1 F2 : List Nat} (h : (PV.sl (.own t e) (ys.map fN)).own Fz w v F1) (k : az (br f zs) Fz w (bo e zs) F2) :
    ∃ F R, (PV.sl (.own t e) (xs.map f)).own Fz w v F ∧ (F1 ++ F2).Perm (F ++ R) := by
  subst hx
  obtain ⟨F', R, k1, k2⟩ := Nu hf hp k
  have h : cg t e (ys.map fN) Fz w v F1 := h
  have h2 := BH hN hg hf h k2
  obtain ⟨F3, rfl⟩ := BI h
  refine ⟨_, F3 ++ R, h2, ?_⟩
  simp only [List.append_assoc]
  refine List.Perm.append_left _ ?_
  refine (List.Perm.append_left F3 k1).trans ?_
  rw [← List.append_assoc, ← List.append_assoc]
  exact List.Perm.append_right _ List.perm_append_comm
section
variable {P : Program} {n : Nat} {h0 : Nat → Prop} {w0 : World} {Fz0 : ao} {σ : St} {Q : Exit → St → Prop} {c : Code}
theorem Nw {d t e G : Nat} {α : Type} {f g : α → List PV} {fN : α × (Nat → Value) → List PV} (x : α) (hd : σ.b d = some (t, f x)) (hG : σ.s G = none) (hN : ∀ x h, fN (x, h) = fF h 0 (g x)) (hg : ∀ x, (g x).length = e) (hq : ab (f x) (g x)) (hb : ae (g x))
    (h : ∀ k : Nat → Value, SW P n h0 w0 Fz0 c ((σ.setB d (some (t, fN (x, k)))).set G (some (RV.gh (bo e [(x, k)]) (br f [(x, k)])))) Q) : SW P n h0 w0 Fz0 c σ Q :=
  BL (ι := Nat → Value) (q := fun k => fN (x, k)) (us := fun k => bo e [(x, k)]) (gs := fun k => br f [(x, k)]) hd hG (fun {Fz w vs F} ho => by
    have hl : vs.length = e := by rw [ho.len, hq.len, hg]
    obtain ⟨k, hk⟩ := Bu hl
    refine ⟨k, [], F, ?_, ?_, List.Perm.refl _⟩
    · rw [hN, wv, hg, ← List.range_eq_range', ← hk]
      exact sX hb (hq.rel ho.rel)
    · have : bo e [(x, k)] = vs := by simp [bo, hk]
      rw [this]
      have : br f [(x, k)] = f x := by simp [br]
      rw [this]; exact ho) h
theorem BV {d T t e G : Nat} {A B : List PV} {α : Type} {f g : α → List PV} {fN : α × (Nat → Value) → List PV} {ys zs : List (α × (Nat → Value))} (rs : List (α × (Nat → Value))) (xs : List α) (hd : σ.b d = some (T, A ++ (PV.sl (.own t e) (ys.map fN) :: B))) (hG : σ.s G = some (RV.gh (bo e zs) (br f zs))) (hN : ∀ x h, fN (x, h) = fF h 0 (g x)) (hg : ∀ x, (g x).length = e) (hf : ∀ x, (f x).length = e) (hp : (ys ++ rs).Perm zs) (hx : ys.map Prod.fst = xs)
    (h : SW P n h0 w0 Fz0 c ((σ.set G none).setB d (some (T, A ++ (PV.sl (.own t e) (xs.map f) :: B)))) Q) : SW P n h0 w0 Fz0 c σ Q :=
  wD hd hG (fun h1 k => Nv hN hg hf hp hx h1 k) h
end
section
variable {P : Program} {n : Nat} {h0 : Nat → Prop} {w0 : World} {Fz0 : ao} {σ : St} {Q : Exit → St → Prop} {c : Code}
end
def wE (P : Program) (T : TypeId) (f : Nat) : Option (Nat × TypeId) := match P.underlying T with
  | some (.struct fs) => (fs[f]?).map fun fd => (fd.offset, fd.type)
  | _ => none
theorem Nx {P : Program} {n : Nat} {T ft s d f off : Nat} {ty : TypeId} {pos : String} {af : Array Edge} {g : Option (Nat × Bool)} {ag : Bool} {k : Nat} {cs qs : List PV} (hd : d < n) (hF : wE P T f = some (off, ft)) (hT : bQ P ft = some (ag, k)) (h1 : ag = false → k = 1) (hk : off + k ≤ cs.length) (hq : (cs.drop off).take k = qs) :
    Loc P n ⟨some d, .field T (.tmp s) f, ty, pos, af, g⟩ ⟨[(s, RV.sv true cs)], [], [(s, none), (d, some (RV.sv ag qs))], [], none⟩ := by
  intro h0 w0 Fz0 σ a w K Q hc hr _ _ h5
  obtain ⟨φ, Fz, Fp, hc⟩ := hc
  subst hq
  have hv : bv true cs Fz w (a.tmps.getD s undef) (Fp (2 * s + 1)) := hc.slot s _ hr.1
  obtain ⟨hag, ho⟩ := hv
  generalize hx : a.tmps.getD s undef = x at hag ho
  obtain ⟨vals, rfl⟩ : ∃ vals, x = .agg vals := by cases x <;> simp [j7] at hag; exact ⟨_, rfl⟩
  have hcells : (Value.agg vals).cells.toList = vals.toList := rfl
  rw [hcells] at ho
  obtain ⟨F1, F2, F3, eF, o1, o2, o3⟩ := ho.seg off k hk
  have hl : vals.toList.length = cs.length := ho.len
  obtain ⟨v, e1, e2⟩ : ∃ v, (part ft vals off).run P w = .ok v w ∧ bv ag ((cs.drop off).take k) Fz w v F2 := by
    obtain ⟨t1, t2⟩ := vT hT w
    cases ag with
    | true =>
      refine ⟨.agg (vals.extract off (off + k)), ?_, rfl, ?_⟩
      · simp only [part, Sem.run_bind, t1, t2, Result.andThen_ok, if_true, Sem.run_pure]
      · show az _ Fz w (vals.extract off (off + k)).toList F2
        have : (vals.extract off (off + k)).toList = (vals.toList.drop off).take k := by
          rw [Array.toList_extract, List.extract_eq_take_drop]; congr 1; omega
        rw [this]; exact o2
    | false =>
      have hk1 := h1 rfl
      subst hk1
      have hlt : off < vals.size := by have : vals.toList.length = vals.size := by simp
                                       omega
      have hget : vals[off]? = some vals[off] := by simp [hlt]
      have hdt : (vals.toList.drop off).take 1 = [vals[off]] := by
        rw [List.drop_eq_getElem_cons (by simpa using hlt)]; simp
      rw [hdt] at o2
      have hone := o2.one vals[off] (by simp)
      refine ⟨vals[off], ?_, ?_⟩
      · simp only [part, Sem.run_bind, t1, Result.andThen_ok, hget]
        simp [Sem.run_pure]
      · have hc1 : vals[off].cells.toList = [vals[off]] ∧ j7 vals[off] = false := by
          cases hv : vals[off] <;> rw [hv] at hone <;> simp_all [Value.oneCell', Value.cells, j7]
        exact ⟨hc1.2, by rw [hc1.1]; exact o2⟩
  have c1 := hc.pull s
  have hm0 : mv Fp (2 * s + 1) 0 = Fp (2 * s + 1) ++ Fp 0 := by simp [mv]
  have hnd := c1.nod 0
  rw [hm0, eF] at hnd
  have c2 := c1.push (i := d) (rv := RV.sv ag ((cs.drop off).take k)) (v := v) (F := F2) (X := []) hd e2 (fun b hb => by
      rw [hm0, eF]
      simp only [List.append_nil] at hb
      simp [hb]) (by
      rw [List.append_nil]
      simp only [List.nodup_append] at hnd
      exact hnd.1.2.1.1)
  refine c7 (v := v) (w' := w) ?_ (h5 _ _ (aW.eqv ⟨_, _, _, c2⟩ (fun j => rfl) (fun e => rfl)))
  have hs' : a.eval (.tmp s) = .agg vals := hx
  unfold execOp
  unfold wE at hF
  split at hF
  · rename_i fs hu
    obtain ⟨fd, hfd, hfe⟩ := Option.map_eq_some_iff.1 hF
    simp only [Prod.mk.injEq] at hfe
    obtain ⟨rfl, rfl⟩ := hfe
    simp only [Instr.field, hs', Sem.run_bind, run_underlying hu, Result.andThen_ok, hfd, asAgg, Sem.run_pure, e1]
  · cases hF
def fX {α : Type} (zs : List α) (i : Nat) : List α := zs.take i ++ zs.drop (i + 1)
theorem BW {α : Type} {zs : List α} {i : Nat} (h : i < zs.length) : (fX zs i).length = zs.length - 1 := by
  unfold fX; rw [List.length_append, List.length_take, List.length_drop]; omega
section
variable {P : Program} {n : Nat}
end
end
section
section
variable {P : Program} {n : Nat} {h0 : Nat → Prop} {w0 : World} {Fz0 : ao} {σ : St} {Q : Exit → St → Prop} {c : Code}
end
theorem Ny {P : Program} {T : TypeId} (h : P.underlying T = some (.int .u8)) : ou P T (fun n : Int => [PV.val (.int .u8 n)]) fun n => 0 ≤ n ∧ n ≤ 255 := by
  intro H enc w sp held n cs x hx
  obtain ⟨m, rfl, _, hw⟩ := DataW.trod_int h hx
  exact ⟨m, ⟨_, [], rfl, ⟨rfl, rfl⟩, rfl⟩, bounds_u8 hw⟩
end
end Go.Proofs.YtmekkgdboplbjaaGreat.M
