/- The rules for calls that take what their arguments own, and for calls that turn a variable of the caller. No condition. -/
import Derived.Test.YtmekkgdboplbjaaCF1
import Derived.KernelRfl
import Derived.Laws.Strings3
import Derived.Laws.BytesString
import Derived.Laws.Concat
import Derived.Lib.LaidTab
import Derived.Lib.Join
import Derived.Lib.ItoaNum
import Derived.Lib.ItoaLen
import Derived.Sort.Grow
import Derived.Deep.Draws
import Derived.ProofKit
import Derived.OpenShut
import Derived.Carry
import Derived.Below
import Derived.ChangeSame
import Derived.ChangeArms
import Derived.WideKeyArgs
import Derived.Deep.Slices
set_option linter.unusedVariables false
namespace Go.Proofs.Ytmekkgdboplbjaa.M
open Go Go.RowKit
section
variable {P : Program} {n : Nat} {h0 : Nat → Prop} {w0 : World} {Fz0 : FzT} {ops : Array Oper} {Q : Exit → St → Prop}
theorem RelT.bor {Fz : FzT} {w : World} : ∀ {l : List (Bool × List PV)} {vs : List Value}, (∀ q, q ∈ l → BorL q.2) → RelT l Fz w vs → OwnT l Fz w vs []
 | [], _, _, h => ⟨h, rfl⟩
 | q :: l, vs, hb, h => by
  obtain ⟨v, vs', rfl, h1, h2⟩ := h
  exact ⟨v, vs', [], [], rfl, rfl, ⟨h1.1, BorL.own (hb q (by simp)) h1.2⟩, RelT.bor (fun x hx => hb x (by simp [hx])) h2⟩
theorem run_xcall {f d t : Nat} {xs : List Operand} {args : Array Operand} {tys : Array TypeId} {ty : TypeId} {pos : String} {af : Array Edge} {g : Option (Nat × Bool)} {a : Act} {w : World} (hf : callI P f = true) (he : args.toList = .tmp t :: xs) :
  (execOp a.eval ⟨some d, .call { callee := .value (.func f), args := args, argTypes := tys }, ty, pos, af, g⟩).run P w = .ok (.enter f (a.tmps.getD t undef :: xs.map a.eval).toArray) w := by
 unfold execOp
 have e : (#[] ++ args.map a.eval ++ #[] : Array Value) = (args.toList.map a.eval).toArray := by apply Array.ext'; simp
 simp only [resolve, Act.eval, Deferred.ofValue, Sem.run_bind, Sem.run_pure, Result.andThen_ok, invoke]
 rw [run_call hf, e, he]; rfl
theorem run_ocall {f d : Nat} {args : Array Operand} {tys : Array TypeId} {ty : TypeId} {pos : String} {af : Array Edge} {g : Option (Nat × Bool)} {a : Act} {w : World} (hf : callI P f = true) :
  (execOp a.eval ⟨some d, .call { callee := .value (.func f), args := args, argTypes := tys }, ty, pos, af, g⟩).run P w = .ok (.enter f (args.toList.map a.eval).toArray) w := by
 unfold execOp
 have e : (#[] ++ args.map a.eval ++ #[] : Array Value) = (args.toList.map a.eval).toArray := by apply Array.ext'; simp
 simp only [resolve, Act.eval, Deferred.ofValue, Sem.run_bind, Sem.run_pure, Result.andThen_ok, invoke]
 rw [run_call hf, e]
theorem loc_xcall0 {f d p bx t : Nat} {xs : List Operand} {args : Array Operand} {tys : Array TypeId} {ty : TypeId} {pos : String} {af : Array Edge} {g : Option (Nat × Bool)} {cs cs' : List PV} {qs as_ : List (Bool × List PV)} {r : RV} (hd : d < n) (hf : callI P f = true) (he : args.toList = .tmp p :: xs)
  (hok : OpsOk xs qs) (hto : ToT qs as_) (hbc : BorL cs) (hba : ∀ q, q ∈ as_ → BorL q.2) (hu : XCall P f t cs cs' as_ r) :
  Loc P n ⟨some d, .call { callee := .value (.func f), args := args, argTypes := tys }, ty, pos, af, g⟩ ⟨(p, RV.ptr bx 0) :: opsR xs qs, [(bx, (t, cs))], [(d, some r)], [(bx, some (t, cs'))], none⟩ := by
 intro h0 w0 Fz0 σ a w K Q hc hr hrb _ h5
 obtain ⟨φ, Fz, Fp, hc⟩ := hc
 have hp := (hc.slot p _ hr.1).1
 obtain ⟨cur, hg, ho⟩ := hc.box bx _ hrb.1
 obtain ⟨g1, g2, g3⟩ := hc.bxb bx _ hrb.1
 have hglt : φ bx < w.heap.size := (Array.getElem?_eq_some_iff.1 hg).1
 have hrel := hto.rel (hc.relT hr.2 hok)
 unfold Oper.wp
 rw [run_xcall hf he, hp, Oper.upon_enter]
 refine (hu w (φ bx) cur _ Fz [] [] hc.fzl hg g2 (BorL.own hbc ho.rel) (RelT.bor hba hrel) (by simp)).mono ?_
 rintro e w' ⟨v, Fz', cur', F1', G, rfl, ht, hg', hf', ho', hv, hn, hin⟩
 simp only [List.append_nil, List.not_mem_nil, false_or] at hin
 refine h5 _ _ ?_
 have c1 := hc.pullB hrb.1
 have hn' := hn
 rw [List.nodup_cons, List.nodup_append] at hn'
 have c2 := c1.world (w' := w') (Fz' := Fz') (X := φ bx :: (F1' ++ G)) ht.os ht.tape ht.output ht.size (fun b hb hb0 => by
   have hbg : b ≠ φ bx := fun e => hb0 (by simp [e])
   have := ht.same b hb (fun e => hbg (Option.some.inj e)) (by simp)
   exact ⟨this.1, fun o => (this.2 o).1⟩)
  (fun b o hbo => by
   have hb := hc.fzl b o hbo
   have hbg : b ≠ φ bx := fun e => g2 o (e ▸ hbo)
   have := ht.same b hb (fun e => hbg (Option.some.inj e)) (by simp)
   exact ⟨(this.2 o).2 hbo, World.cell?_of_block this.1⟩) ht.fzl
  (fun b hb => by
   rcases List.mem_cons.1 hb with rfl | hb
   ·exact .inl (by simp)
   ·exact .inr (hin b hb)) hn
 have c3 := c2.pushB (d := bx) (g := φ bx) (t := t) (cs := cs') (cur := cur') (F := F1') (X := G) (by simp [St.setB_b]) hg' ho' hf' (fun b hb => by
   simp only [if_true]
   simp only [List.mem_append, List.mem_cons] at hb ⊢
   rcases hb with hb | hb | hb <;> simp [hb])
  (by
   rw [List.nodup_append, List.nodup_cons]
   refine ⟨hn'.2.1, ⟨fun h => hn'.1 (by simp [h]), hn'.2.2.1⟩, fun x hx y hy e => ?_⟩
   rcases List.mem_cons.1 hy with rfl | hy
   ·exact hn'.1 (by simp [← e, hx])
   ·exact hn'.2.2.2 x hx y hy e) (.inl rfl)
 have c4 := c3.push (i := d) (rv := r) (v := v) (F := G) (X := []) hd (hv _) (fun b hb => by
   simp only [give]
   rw [if_neg (by omega)]
   simpa using hb) (by simpa using hn'.2.2.1)
 exact Conc.eqv ⟨_, _, _, c4⟩ (fun i => rfl) (fun x => by
  show (bif Nat.beq x bx then some (t, cs') else σ.b x) = _
  rw [St.set_b, St.setB_b, St.setB_b, beq_eq]
  by_cases e : x = bx <;> simp [e])
def PV.OTo (p q : PV) : Prop := ∀ {Fz : FzT} {w : World} {v : Value} {F : List Nat}, p.own Fz w v F → q.own Fz w v F
theorem OTo.refl {p : PV} : p.OTo p := fun h => h
theorem OTo.lo {L : Nat → Prop} {es : List (List PV)} : (PV.sl (.lo L) es).OTo (PV.sl .v es) := fun h => ⟨h.1.1, h.2⟩
theorem OTo.nv {u : Value} {p : PV} : (PV.nv u p).OTo p := fun h => h.2
theorem OwnTo.cons {p q : PV} {ps qs : List PV} (h : p.OTo q) (k : OwnTo ps qs) : OwnTo (p :: ps) (q :: qs) := fun hh => by
 obtain ⟨v, vs', F1, F2, rfl, rfl, h1, h2⟩ := hh
 exact ⟨v, vs', F1, F2, rfl, rfl, h h1, k h2⟩
def OwnToT : List (Bool × List PV) → List (Bool × List PV) → Prop
 | [], [] => True
 | p :: ps, q :: qs => (p.1 = q.1 ∧ OwnTo p.2 q.2) ∧ OwnToT ps qs
 | _, _ => False
theorem OwnToT.own {Fz : FzT} {w : World} : ∀ {ps qs : List (Bool × List PV)} {vs : List Value} {F : List Nat}, OwnToT ps qs → OwnT ps Fz w vs F → OwnT qs Fz w vs F
 | [], [], _, _, _, h => h
 | p :: ps, q :: qs, _, _, k, h => by
  obtain ⟨v, vs', F1, F2, rfl, rfl, h1, h2⟩ := h
  exact ⟨v, vs', F1, F2, rfl, rfl, ⟨k.1.1 ▸ h1.1, k.1.2 h1.2⟩, OwnToT.own k.2 h2⟩
def LclX (L : Nat → Prop) (ts : List Nat) : List (Nat × RV) → Prop
 | [] => True
 | p :: l => (p.1 ∈ ts ∨ p.2.Lcl L) ∧ LclX L ts l
theorem LclX.mem {L : Nat → Prop} {ts : List Nat} : ∀ {l : List (Nat × RV)}, LclX L ts l → ∀ p, p ∈ l → p.1 ∈ ts ∨ p.2.Lcl L
 | [], _, p, hp => by simp at hp
 | q :: l, h, p, hp => by
  rcases List.mem_cons.1 hp with rfl | hp
  ·exact h.1
  ·exact LclX.mem h.2 p hp
theorem setL_kills : ∀ {xs : List Operand} {f : Nat → Option RV} {i : Nat} {rv : RV}, setL (killsO xs) f i = some rv → i ∉ tmpsO xs ∧ f i = some rv
 | [], f, i, rv, h => ⟨by simp [tmpsO], h⟩
 | x :: xs, f, i, rv, h => by
  have h : setL (killsO xs) (setL (killO x) f) i = some rv := by rw [← setL_app]; exact h
  obtain ⟨k1, k2⟩ := setL_kills h
  cases x with
  | tmp t =>
   have k2 : (bif Nat.beq i t then none else f i) = some rv := k2
   rw [beq_eq] at k2
   by_cases e : i = t
   ·simp [e] at k2
   ·simp [e] at k2
    exact ⟨by simp [tmpsO, e, k1], k2⟩
  | _ => exact ⟨k1, k2⟩
theorem swl_ocall {f d : Nat} {L : Nat → Prop} {args : Array Operand} {tys : Array TypeId} {ty : TypeId} {pos : String} {af : Array Edge} {ol : List Oper} {l : List (Nat × RV)} {b : List (Nat × (Nat × List PV))} {qs as_ : List (Bool × List PV)} {r : RV}
  (hd : d < n) (hf : callI P f = true) (hrd : RdL (opsR args.toList qs) (lk l)) (hok : OpsOk args.toList qs) (hap : apartO args.toList = true) (hto : OwnToT qs as_) (hu : OCall P f as_ r) (hL : ∀ x, L x → h0 x) (hls : LclX L (tmpsO args.toList) l) (hlb : LclBA L b)
  (h : SWL P n h0 w0 Fz0 ops ol ((⟨setL (killsO args.toList) (lk l), lk b⟩ : St).set d (some r)) Q) :
  SWL P n h0 w0 Fz0 ops (⟨some d, .call { callee := .value (.func f), args := args, argTypes := tys }, ty, pos, af, none⟩ :: ol) (St.of l b) Q := fun a w hc => by
 obtain ⟨φ, Fz, Fp, hc⟩ := hc
 obtain ⟨F, Fp', hown, c1, hm, hnd⟩ := hc.pulls args.toList qs hrd hok (of_decide_eq_true hap)
 have hF := (List.nodup_append.1 hnd).1
 refine wpList_plain rfl fun K hK => ?_
 unfold Oper.wp
 rw [run_ocall hf, Oper.upon_enter]
 refine (hu w _ Fz F hc.fzl (hto.own hown) hF).mono ?_
 rintro e w' ⟨v, Fz', G, rfl, ht, hv, hn, hin⟩
 have hlt0 : ∀ x, x ∈ Fp 0 → x < w.heap.size := fun x hx => (hc.low 0 x hx).2
 have c2 := c1.uworld (w' := w') (Fz' := Fz') (L := L) (X := G ++ Fp 0) ht.os ht.tape ht.output ht.size (fun x hx hx0 => ht.same x hx (by simp) (fun k => hx0 ((hm x).2 (by simp [k])))) hL
  (fun i rv hi => by
   obtain ⟨k1, k2⟩ := setL_kills hi
   rcases hls.mem _ (lk_mem k2) with k | k
   ·exact absurd k k1
   ·exact k)
  (fun d' bx hb => LclBA.mem hlb _ (lk_mem hb)) ht.fzl
  (fun x hx => by
   rcases List.mem_append.1 hx with hx | hx
   ·rcases hin x hx with k | k
    ·exact .inl ((hm x).2 (by simp [k]))
    ·exact .inr k
   ·exact .inl ((hm x).2 (by simp [hx])))
  (by
   rw [List.nodup_append] at hnd ⊢
   refine ⟨hn, hnd.2.1, fun x hx y hy e => ?_⟩
   rcases hin x hx with k | k
   ·exact hnd.2.2 x k y hy e
   ·have := hlt0 y hy; omega)
 have c3 := c2.push (i := d) (rv := r) (v := v) (F := G) (X := Fp 0) hd (hv _) (fun x hx => by simpa using hx) (by
   have := c2.nod 0
   simpa using this)
 exact hK _ _ (h _ _ ⟨_, _, _, c3⟩)
end
end Go.Proofs.Ytmekkgdboplbjaa.M
/- Slices that are made own at once; arrays whose elements are read and written at places that are known only as numbers; calls that turn the array of a slice. No condition. -/
set_option linter.unusedVariables false
namespace Go.Proofs.Ytmekkgdboplbjaa.M
open Go Go.RowKit
section
variable {P : Program} {n : Nat} {h0 : Nat → Prop} {w0 : World} {Fz0 : FzT} {ops : Array Oper} {Q : Exit → St → Prop}
def arr {α : Type} (f : α → List PV) (xs : List α) (jk : List Value) : List PV := (xs.map f).flatten ++ jk.map PV.val
theorem loc_aload {T d p b off t k e : Nat} {ty : TypeId} {pos : String} {af : Array Edge} {g : Option (Nat × Bool)} {ag : Bool} {α : Type} {f : α → List PV} {xs : List α} {jk : List Value} {qs : List PV} (hf : ∀ x, (f x).length = e) (hoff : off = k * e) (hk : k < xs.length) (hd : d < n) (hT : tyI P T = some (ag, e)) (h1 : ag = false → e = 1)
  (ht : ToL (f xs[k]) qs) (hb : BorL qs) :
  Loc P n ⟨some d, .load T (.tmp p), ty, pos, af, g⟩ ⟨[(p, RV.ptr b off)], [(b, (t, arr f xs jk))], [(d, some (RV.sv ag qs))], [], none⟩ := by
 unfold arr
 rw [at_split hk]
 exact loc_loadM (o := 0) (by rw [hoff, at_len hf (Nat.le_of_lt hk)]; rfl) hd hT h1 (by rw [hf]; omega) (by rw [List.drop_zero, List.take_of_length_le (by rw [hf]; exact Nat.le_refl _)]; exact ht) hb
theorem loc_astore {T p b off t k e : Nat} {x : Operand} {ty : TypeId} {pos : String} {af : Array Edge} {g : Option (Nat × Bool)} {ag : Bool} {α : Type} {f : α → List PV} {xs : List α} {jk : List Value} {vs : List PV} (y : α) (hf : ∀ x, (f x).length = e) (hoff : off = k * e) (hk : k < xs.length) (hT : tyI P T = some (ag, e)) (hx : OpOk x (RV.sv ag vs)) (hv : vs = f y) :
  Loc P n ⟨none, .store T (.tmp p) x, ty, pos, af, g⟩ ⟨(p, RV.ptr b off) :: opR x (RV.sv ag vs), [(b, (t, arr f xs jk))], killO x, [(b, some (t, arr f (xs.set k y) jk))], none⟩ := by
 have h : Loc P n ⟨none, .store T (.tmp p) x, ty, pos, af, g⟩ _ := loc_storeM (off := off) (P := P) (n := n) (T := T) (p := p) (b := b) (t := t) (x := x) (ty := ty) (pos := pos) (af := af) (g := g) (ag := ag) (A := ((xs.take k).map f).flatten) (m := f xs[k]) (B := ((xs.drop (k + 1)).map f).flatten ++ jk.map PV.val) (vs := vs) (o := 0) (by rw [hoff, at_len hf (Nat.le_of_lt hk)]; rfl) hT hx (by rw [hv]; exact hf y) (by rw [hf]; omega)
 unfold arr
 rw [at_split hk, ← at_join (cs := vs) y hk hv]
 have e2 : List.take 0 (f xs[k]) ++ (vs ++ List.drop (0 + e) (f xs[k])) = vs := by
  rw [List.take_zero, List.nil_append, List.drop_eq_nil_of_le (by rw [hf]; omega), List.append_nil]
 rw [e2] at h
 exact @h
def ACall (P : Program) (f : FuncId) (t m cp : Nat) (cs cs' : List PV) (args : List (Bool × List PV)) (r : RV) : Prop :=
 ∀ (w : World) (g : Nat) (cur : Array Value) (vs : List Value) (Fz : FzT) (F1 F2 : List Nat), m ≤ cp → cp ≤ maxLen → (∀ b o, Fz b o → b < w.heap.size) → w.heap[g]? = some (.cells cur t (0, 0)) → (∀ o, ¬ Fz g o) → OwnL cs Fz w cur.toList F1 → OwnT args Fz w vs F2 → (g :: (F1 ++ F2)).Nodup →
  Calls P f (.slice (some ⟨g, 0, none⟩) m cp :: vs).toArray w fun e w' => ∃ (v : Value) (Fz' : FzT) (cur' : Array Value) (F1' G : List Nat), e = .returned v ∧ Turned (F1 ++ F2) (some g) Fz w Fz' w' ∧ w'.heap[g]? = some (.cells cur' t (0, 0)) ∧ (∀ o, ¬ Fz' g o) ∧ OwnL cs' Fz' w' cur'.toList F1' ∧
   (∀ φ, r.holds φ Fz' w' v G) ∧ (g :: (F1' ++ G)).Nodup ∧ ∀ b, b ∈ F1' ++ G → b ∈ F1 ++ F2 ∨ (w.heap.size ≤ b ∧ b < w'.heap.size)
end
end Go.Proofs.Ytmekkgdboplbjaa.M
/- Short forms of the rules. No condition. -/
set_option linter.unusedVariables false
namespace Go.Proofs.Ytmekkgdboplbjaa.M
open Go Go.RowKit
section
variable {P : Program} {n : Nat} {h0 : Nat → Prop} {w0 : World} {Fz0 : FzT} {ops : Array Oper} {σ σ0 : St} {QS : St → Prop} {Q : Exit → St → Prop} {o : Oper} {l : List Oper} {acc : List (Nat × Step)} {c : Code}
theorem rA {L : Step} (y : RunS P n ops QS l (σ.app L)) (h1 : RdL L.rs σ.s := by repeat (first | exact True.intro | refine And.intro rfl ?_)) (h2 : RdL L.rb σ.b := by repeat (first | exact True.intro | refine And.intro rfl ?_)) (x : Loc P n o L) (hg : o.guard = none := by exact rfl) (ha : L.al = none := by exact rfl) : RunS P n ops QS (o :: l) σ :=
 RunS.step h1 h2 (LocG.of hg x) (fun d hd => by rw [ha] at hd; cases hd) y
theorem rB {L : Step} {g s : Nat} {b c : Bool} (hb : c = b) (y : RunS P n ops QS l (σ.app ⟨(s, RV.bool c) :: L.rs, L.rb, L.ws, L.wb, L.al⟩)) (hg : o.guard = some (g, b) := by exact rfl) (hs : (ops[g]?).bind (·.dst) = some s := by exact rfl) (h1 : RdL ((s, RV.bool c) :: L.rs) σ.s := by repeat (first | exact True.intro | refine And.intro rfl ?_)) (h2 : RdL L.rb σ.b := by repeat (first | exact True.intro | refine And.intro rfl ?_)) (x : Loc P n o L) (hlt : s < n := by decide) (ha : L.al = none := by exact rfl) : RunS P n ops QS (o :: l) σ :=
 RunS.step (L := ⟨(s, RV.bool c) :: L.rs, L.rb, L.ws, L.wb, L.al⟩) h1 h2 (LocG.yes hg hs hlt hb x) (fun d hd => by have hd : L.al = some d := hd; rw [ha] at hd; cases hd) y
theorem dA {L : Step} (m : Nat) (y : Run P n ops σ0 (fun _ _ => True) QS l (acc ++ [(m, L)]) (σ.app L)) (h1 : RdL L.rs σ.s := by repeat (first | exact True.intro | refine And.intro rfl ?_)) (h2 : RdL L.rb σ.b := by repeat (first | exact True.intro | refine And.intro rfl ?_)) (x : Loc P n o L) (hg : o.guard = none := by exact rfl) (ha : L.al = none := by exact rfl) (h4 : chkE m o L acc = true := by kernel_rfl) : Run P n ops σ0 (fun _ _ => True) QS (o :: l) acc σ :=
 Run.step m h1 h2 (LocG.of hg x) (fun d hd => by rw [ha] at hd; cases hd) h4 y
theorem dB {L : Step} {g s : Nat} {b c : Bool} (m : Nat) (hb : c = b) (y : Run P n ops σ0 (fun _ _ => True) QS l (acc ++ [(m, ⟨(s, RV.bool c) :: L.rs, L.rb, L.ws, L.wb, L.al⟩)]) (σ.app ⟨(s, RV.bool c) :: L.rs, L.rb, L.ws, L.wb, L.al⟩)) (hg : o.guard = some (g, b) := by exact rfl) (hs : (ops[g]?).bind (·.dst) = some s := by exact rfl) (h1 : RdL ((s, RV.bool c) :: L.rs) σ.s := by repeat (first | exact True.intro | refine And.intro rfl ?_)) (h2 : RdL L.rb σ.b := by repeat (first | exact True.intro | refine And.intro rfl ?_)) (x : Loc P n o L) (hlt : s < n := by decide) (ha : L.al = none := by exact rfl)
  (h4 : chkE m o ⟨(s, RV.bool c) :: L.rs, L.rb, L.ws, L.wb, L.al⟩ acc = true := by kernel_rfl) : Run P n ops σ0 (fun _ _ => True) QS (o :: l) acc σ :=
 Run.step (L := ⟨(s, RV.bool c) :: L.rs, L.rb, L.ws, L.wb, L.al⟩) m h1 h2 (LocG.yes hg hs hlt hb x) (fun d hd => by have hd : L.al = some d := hd; rw [ha] at hd; cases hd) h4 y
theorem dF {g s d : Nat} {c : Bool} (m : Nat) (hb : c = false) (y : Run P n ops σ0 (fun _ _ => True) QS l (acc ++ [(m, ⟨[(s, RV.bool c)], [], [(d, some RV.und)], [], none⟩)]) (σ.app ⟨[(s, RV.bool c)], [], [(d, some RV.und)], [], none⟩)) (hg : o.guard = some (g, true) := by exact rfl) (hs : (ops[g]?).bind (·.dst) = some s := by exact rfl) (hlt : s < n := by decide) (hd : o.dst = some d := by exact rfl)
  (h1 : σ.s s = some (RV.bool c) := by exact rfl) (h4 : chkE m o ⟨[(s, RV.bool c)], [], [(d, some RV.und)], [], none⟩ acc = true := by kernel_rfl) : Run P n ops σ0 (fun _ _ => True) QS (o :: l) acc σ :=
 Run.step (L := ⟨[(s, RV.bool c)], [], [(d, some RV.und)], [], none⟩) m ⟨h1, True.intro⟩ True.intro (LocG.no hg hs hlt hb hd) nofree h4 y
theorem dT {g s d : Nat} {c : Bool} (m : Nat) (hb : c = true) (y : Run P n ops σ0 (fun _ _ => True) QS l (acc ++ [(m, ⟨[(s, RV.bool c)], [], [(d, some RV.und)], [], none⟩)]) (σ.app ⟨[(s, RV.bool c)], [], [(d, some RV.und)], [], none⟩)) (hg : o.guard = some (g, false) := by exact rfl) (hs : (ops[g]?).bind (·.dst) = some s := by exact rfl) (hlt : s < n := by decide) (hd : o.dst = some d := by exact rfl)
  (h1 : σ.s s = some (RV.bool c) := by exact rfl) (h4 : chkE m o ⟨[(s, RV.bool c)], [], [(d, some RV.und)], [], none⟩ acc = true := by kernel_rfl) : Run P n ops σ0 (fun _ _ => True) QS (o :: l) acc σ :=
 Run.step (L := ⟨[(s, RV.bool c)], [], [(d, some RV.und)], [], none⟩) m ⟨h1, True.intro⟩ True.intro (LocG.no hg hs hlt hb hd) nofree h4 y
theorem dU {g s d : Nat} {b : Bool} (m : Nat) (y : Run P n ops σ0 (fun _ _ => True) QS l (acc ++ [(m, ⟨[(s, RV.und)], [], [(d, some RV.und)], [], none⟩)]) (σ.app ⟨[(s, RV.und)], [], [(d, some RV.und)], [], none⟩)) (hg : o.guard = some (g, b) := by exact rfl) (hs : (ops[g]?).bind (·.dst) = some s := by exact rfl) (hd : o.dst = some d := by exact rfl)
  (h1 : σ.s s = some RV.und := by exact rfl) (h4 : chkE m o ⟨[(s, RV.und)], [], [(d, some RV.und)], [], none⟩ acc = true := by kernel_rfl) : Run P n ops σ0 (fun _ _ => True) QS (o :: l) acc σ :=
 Run.step (L := ⟨[(s, RV.und)], [], [(d, some RV.und)], [], none⟩) m ⟨h1, True.intro⟩ True.intro (LocG.noU hg hs hd) nofree h4 y
theorem sO (l : List (Nat × RV)) (b : List (Nat × (Nat × List PV))) (h : SW P n h0 w0 Fz0 c (St.of l b) Q) (hl : RdL l σ.s := by repeat (first | exact True.intro | refine And.intro rfl ?_)) (hb : RdL b σ.b := by repeat (first | exact True.intro | refine And.intro rfl ?_)) : SW P n h0 w0 Fz0 c σ Q := sw_of hl hb h
theorem wO (m : List (Nat × RV)) (b : List (Nat × (Nat × List PV))) (h : SWL P n h0 w0 Fz0 ops l (St.of m b) Q) (hl : RdL m σ.s := by repeat (first | exact True.intro | refine And.intro rfl ?_)) (hb : RdL b σ.b := by repeat (first | exact True.intro | refine And.intro rfl ?_)) : SWL P n h0 w0 Fz0 ops l σ Q := swl_of hl hb h
theorem wA {L : Step} (y : SWL P n h0 w0 Fz0 ops l (σ.app L) Q) (h1 : RdL L.rs σ.s := by repeat (first | exact True.intro | refine And.intro rfl ?_)) (h2 : RdL L.rb σ.b := by repeat (first | exact True.intro | refine And.intro rfl ?_)) (x : Loc P n o L) (hg : o.guard = none := by exact rfl) (ha : L.al = none := by exact rfl) : SWL P n h0 w0 Fz0 ops (o :: l) σ Q :=
 swl_step h1 h2 (LocG.of hg x) (fun d hd => by rw [ha] at hd; cases hd) y
end
section
variable {P : Program} {n : Nat} {d x : Nat} {ty : TypeId} {pos : String} {af : Array Edge} {g : Option (Nat × Bool)}
theorem cM {r r' : RV} (hc : Cp r r') (hd : d < n := by decide) : Loc P n ⟨some d, .move (.tmp x), ty, pos, af, g⟩ ⟨[(x, r)], [], [(d, some r')], [], none⟩ := loc_copy (.inl rfl) hd hc
theorem cA {r r' : RV} (hc : Cp r r') (hd : d < n := by decide) : Loc P n ⟨some d, .assign (.tmp x), ty, pos, af, g⟩ ⟨[(x, r)], [], [(d, some r')], [], none⟩ := loc_copy (.inr rfl) hd hc
theorem sM {v : Value} (hd : d < n := by decide) : Loc P n ⟨some d, .move (.tmp x), ty, pos, af, g⟩ ⟨[(x, RV.sc v)], [], [(d, some (RV.sc v))], [], none⟩ := cM Cp.sc hd
theorem sA {v : Value} (hd : d < n := by decide) : Loc P n ⟨some d, .assign (.tmp x), ty, pos, af, g⟩ ⟨[(x, RV.sc v)], [], [(d, some (RV.sc v))], [], none⟩ := cA Cp.sc hd
theorem vM {cs : List PV} (ag : Bool) (qs : List PV) (ht : ToL cs qs := by repeat' (first | exact True.intro | exact PV.To.refl _ | exact PV.to_none | apply And.intro)) (hb : BorL qs := by repeat (first | exact BorL.nil | refine BorL.cons (PV.bor_val _) ?_ | refine BorL.cons (PV.bor_sl _) ?_ | refine BorL.cons (PV.bor_lo _ _) ?_)) (hd : d < n := by decide) :
  Loc P n ⟨some d, .move (.tmp x), ty, pos, af, g⟩ ⟨[(x, RV.sv ag cs)], [], [(d, some (RV.sv ag qs))], [], none⟩ := cM (Cp.sv ht hb) hd
theorem vA {cs : List PV} (ag : Bool) (qs : List PV) (ht : ToL cs qs := by repeat' (first | exact True.intro | exact PV.To.refl _ | exact PV.to_none | apply And.intro)) (hb : BorL qs := by repeat (first | exact BorL.nil | refine BorL.cons (PV.bor_val _) ?_ | refine BorL.cons (PV.bor_sl _) ?_ | refine BorL.cons (PV.bor_lo _ _) ?_)) (hd : d < n := by decide) :
  Loc P n ⟨some d, .assign (.tmp x), ty, pos, af, g⟩ ⟨[(x, RV.sv ag cs)], [], [(d, some (RV.sv ag qs))], [], none⟩ := cA (Cp.sv ht hb) hd
theorem tM {r : RV} (hd : d < n := by decide) : Loc P n ⟨some d, .move (.tmp x), ty, pos, af, g⟩ ⟨[(x, r)], [], [(x, none), (d, some r)], [], none⟩ := loc_take (.inl rfl) hd
theorem tA {r : RV} (hd : d < n := by decide) : Loc P n ⟨some d, .assign (.tmp x), ty, pos, af, g⟩ ⟨[(x, r)], [], [(x, none), (d, some r)], [], none⟩ := loc_take (.inr rfl) hd
theorem kM {v : Value} (h : v.oneCell' = true := by exact rfl) (hd : d < n := by decide) : Loc P n ⟨some d, .move (.const v), ty, pos, af, g⟩ ⟨[], [], [(d, some (RV.sc v))], [], none⟩ := loc_const (.inl rfl) hd (ok_sc h)
theorem kA {v : Value} (h : v.oneCell' = true := by exact rfl) (hd : d < n := by decide) : Loc P n ⟨some d, .assign (.const v), ty, pos, af, g⟩ ⟨[], [], [(d, some (RV.sc v))], [], none⟩ := loc_const (.inr rfl) hd (ok_sc h)
theorem lD {T p b off t : Nat} {ag : Bool} {k : Nat} {cs : List PV} (qs : List PV) (hT : tyI P T = some (ag, k)) (h1 : ag = false → k = 1 := by first | exact fun _ => rfl | exact fun h => nomatch h) (hk : off + k ≤ cs.length := by exact Nat.le_of_ble_eq_true rfl) (ht : ToL ((cs.drop off).take k) qs := by repeat' (first | exact True.intro | exact PV.To.refl _ | exact PV.to_none | apply And.intro))
  (hb : BorL qs := by repeat (first | exact BorL.nil | refine BorL.cons (PV.bor_val _) ?_ | refine BorL.cons (PV.bor_sl _) ?_ | refine BorL.cons (PV.bor_lo _ _) ?_)) (hd : d < n := by decide) :
  Loc P n ⟨some d, .load T (.tmp p), ty, pos, af, g⟩ ⟨[(p, RV.ptr b off)], [(b, (t, cs))], [(d, some (RV.sv ag qs))], [], none⟩ := loc_load hd hT h1 hk ht hb
theorem lE {T p : Nat} {ag : Bool} {k : Nat} {cs : List PV} (qs : List PV) (hT : tyI P T = some (ag, k)) (h1 : ag = false → k = 1 := by first | exact fun _ => rfl | exact fun h => nomatch h) (hk : k ≤ cs.length := by exact Nat.le_of_ble_eq_true rfl) (ht : ToL (cs.take k) qs := by repeat' (first | exact True.intro | exact PV.To.refl _ | exact PV.to_none | apply And.intro))
  (hb : BorL qs := by repeat (first | exact BorL.nil | refine BorL.cons (PV.bor_val _) ?_ | refine BorL.cons (PV.bor_sl _) ?_ | refine BorL.cons (PV.bor_lo _ _) ?_)) (hd : d < n := by decide) :
  Loc P n ⟨some d, .load T (.tmp p), ty, pos, af, g⟩ ⟨[(p, RV.eptr cs)], [], [(d, some (RV.sv ag qs))], [], none⟩ := loc_eload hd hT h1 hk ht hb
theorem lF {T p b off f fo : Nat} (hT : fieldI P T f = some fo) (hd : d < n := by decide) : Loc P n ⟨some d, .fieldAddr T (.tmp p) f, ty, pos, af, g⟩ ⟨[(p, RV.ptr b off)], [], [(d, some (RV.ptr b (off + fo)))], [], none⟩ := loc_field hd hT
theorem lN {T E e bs s m : Nat} {o : Fl} {es : List (List PV)} (hT : sliceI P T = some (E, e, bs)) (hm : es.length = m := by first | exact List.length_map _ | exact rfl) (hd : d < n := by decide) :
  Loc P n ⟨some d, .call { callee := .builtin .len, args := #[.tmp s], argTypes := #[T] }, ty, pos, af, g⟩ ⟨[(s, RV.slc o es)], [], [(d, some (RV.int (m : Int)))], [], none⟩ := loc_len hd hT hm
theorem nT {T : TypeId} {b : Bool} (hd : d < n := by decide) : Loc P n ⟨some d, .unOp .not T (.tmp x), ty, pos, af, g⟩ ⟨[(x, RV.bool b)], [], [(d, some (RV.bool !b))], [], none⟩ := loc_not hd
theorem pkT {c x y : Operand} {b : Bool} {r : RV} (hg : b = true) (hc : OpOk c (RV.bool b) := by exact True.intro) (hz : OpOk x r := by first | exact True.intro | exact ok_sc rfl) (hcp : Cp r r := by exact Cp.sc) (hd : d < n := by decide) : Loc P n ⟨some d, .pick c x y, ty, pos, af, g⟩ ⟨opR c (RV.bool b) ++ opR x r, [], [(d, some r)], [], none⟩ := loc_pick (z := x) hd (by rw [hg]; rfl) hc hz hcp
theorem pkF {c x y : Operand} {b : Bool} {r : RV} (hg : b = false) (hc : OpOk c (RV.bool b) := by exact True.intro) (hz : OpOk y r := by first | exact True.intro | exact ok_sc rfl) (hcp : Cp r r := by exact Cp.sc) (hd : d < n := by decide) : Loc P n ⟨some d, .pick c x y, ty, pos, af, g⟩ ⟨opR c (RV.bool b) ++ opR y r, [], [(d, some r)], [], none⟩ := loc_pick (z := y) hd (by rw [hg]; rfl) hc hz hcp
theorem cL {f : Nat} {args : Array Operand} {tys : Array TypeId} {r : RV} (qs as_ : List (Bool × List PV)) (hf : callI P f = true) (hok : OpsOk args.toList qs := by repeat' (first | exact True.intro | exact ok_sc rfl | exact ok_nilr | apply And.intro))
  (hto : ToT qs as_ := by repeat' (first | exact True.intro | exact rfl | exact PV.To.refl _ | exact PV.to_none | apply And.intro)) (hs : SCall P f as_ r) (hd : d < n := by decide) : Loc P n ⟨some d, .call { callee := .value (.func f), args := args, argTypes := tys }, ty, pos, af, g⟩ ⟨opsR args.toList qs, [], [(d, some r)], [], none⟩ := loc_call hd hf hok hto hs
section
variable {T T2 : TypeId} {x y : Operand} {i j : Int}
theorem B_lss (hx : OpOk x (RV.int i) := by first | exact True.intro | exact ok_sc rfl) (hy : OpOk y (RV.int j) := by first | exact True.intro | exact ok_sc rfl) (hd : d < n := by decide) : Loc P n ⟨some d, .binOp .lss T x y T2, ty, pos, af, g⟩ ⟨opR x (RV.int i) ++ opR y (RV.int j), [], [(d, some (RV.bool (decide (i < j))))], [], none⟩ := loc_lss hd hx hy
theorem B_leq (hx : OpOk x (RV.int i) := by first | exact True.intro | exact ok_sc rfl) (hy : OpOk y (RV.int j) := by first | exact True.intro | exact ok_sc rfl) (hd : d < n := by decide) : Loc P n ⟨some d, .binOp .leq T x y T2, ty, pos, af, g⟩ ⟨opR x (RV.int i) ++ opR y (RV.int j), [], [(d, some (RV.bool (decide (i ≤ j))))], [], none⟩ := loc_leq hd hx hy
theorem B_gtr (hx : OpOk x (RV.int i) := by first | exact True.intro | exact ok_sc rfl) (hy : OpOk y (RV.int j) := by first | exact True.intro | exact ok_sc rfl) (hd : d < n := by decide) : Loc P n ⟨some d, .binOp .gtr T x y T2, ty, pos, af, g⟩ ⟨opR x (RV.int i) ++ opR y (RV.int j), [], [(d, some (RV.bool (decide (i > j))))], [], none⟩ := loc_gtr hd hx hy
theorem B_geq (hx : OpOk x (RV.int i) := by first | exact True.intro | exact ok_sc rfl) (hy : OpOk y (RV.int j) := by first | exact True.intro | exact ok_sc rfl) (hd : d < n := by decide) : Loc P n ⟨some d, .binOp .geq T x y T2, ty, pos, af, g⟩ ⟨opR x (RV.int i) ++ opR y (RV.int j), [], [(d, some (RV.bool (decide (i ≥ j))))], [], none⟩ := loc_geq hd hx hy
theorem B_eql (hx : OpOk x (RV.int i) := by first | exact True.intro | exact ok_sc rfl) (hy : OpOk y (RV.int j) := by first | exact True.intro | exact ok_sc rfl) (hd : d < n := by decide) : Loc P n ⟨some d, .binOp .eql T x y T2, ty, pos, af, g⟩ ⟨opR x (RV.int i) ++ opR y (RV.int j), [], [(d, some (RV.bool (i == j)))], [], none⟩ := loc_eql hd hx hy
theorem B_neq (hx : OpOk x (RV.int i) := by first | exact True.intro | exact ok_sc rfl) (hy : OpOk y (RV.int j) := by first | exact True.intro | exact ok_sc rfl) (hd : d < n := by decide) : Loc P n ⟨some d, .binOp .neq T x y T2, ty, pos, af, g⟩ ⟨opR x (RV.int i) ++ opR y (RV.int j), [], [(d, some (RV.bool (i != j)))], [], none⟩ := loc_neq hd hx hy
theorem B_add (hx : OpOk x (RV.int i) := by first | exact True.intro | exact ok_sc rfl) (hy : OpOk y (RV.int j) := by first | exact True.intro | exact ok_sc rfl) (h : I64 (i + j) := by unfold I64; omega) (hd : d < n := by decide) : Loc P n ⟨some d, .binOp .add T x y T2, ty, pos, af, g⟩ ⟨opR x (RV.int i) ++ opR y (RV.int j), [], [(d, some (RV.int (i + j)))], [], none⟩ := loc_add hd hx hy h
theorem B_sub (hx : OpOk x (RV.int i) := by first | exact True.intro | exact ok_sc rfl) (hy : OpOk y (RV.int j) := by first | exact True.intro | exact ok_sc rfl) (h : I64 (i - j) := by unfold I64; omega) (hd : d < n := by decide) : Loc P n ⟨some d, .binOp .sub T x y T2, ty, pos, af, g⟩ ⟨opR x (RV.int i) ++ opR y (RV.int j), [], [(d, some (RV.int (i - j)))], [], none⟩ := loc_sub hd hx hy h
end
end
end Go.Proofs.Ytmekkgdboplbjaa.M
/- Rules for whole numbers of other kinds, for bytes of texts, and for conditions that are constants. No condition. -/
set_option linter.unusedVariables false
namespace Go.Proofs.Ytmekkgdboplbjaa.M
open Go Go.RowKit
section
variable {P : Program} {n : Nat}
section
variable {T : TypeId} {x y : Operand} {i j : Int} {k : IntKind} {w : World}
end
section
variable {T T2 : TypeId} {x y : Operand} {d : Nat} {ty : TypeId} {pos : String} {af : Array Edge} {g : Option (Nat × Bool)} {i j : Int} {k : IntKind}
theorem loc_conv {src dst : TypeId} {k2 : IntKind} (hS : P.underlying src = some (.int k)) (hD : P.underlying dst = some (.int k2)) (hj : k2.wrap i = j) (hx : OpOk x (RV.sc (.int k i)) := by first | exact True.intro | exact ok_sc rfl) (hd : d < n := by decide) :
  Loc P n ⟨some d, .convert src dst x, ty, pos, af, g⟩ ⟨opR x (RV.sc (.int k i)), [], [(d, some (RV.sc (.int k2 j)))], [], none⟩ := by
 intro h0 w0 Fz0 σ a w K Q h1 h2 _ _ h5
 obtain ⟨φ, Fz, Fp, hc⟩ := h1
 have ex := hc.sc h2 hx
 refine wp_val (v := .int k2 j) (w' := w) ?_ (h5 _ _ (hc.put0 hd (SvOwn.of_sc rfl)))
 unfold execOp
 simp [ex, convert, run_underlying hS, run_underlying hD, Conv.intToInt, hj]
end
section
variable {h0 : Nat → Prop} {w0 : World} {Fz0 : FzT} {σ : St} {Q : Exit → St → Prop} {c1 c2 : Code}
end
end
end Go.Proofs.Ytmekkgdboplbjaa.M
/- Arrays whose elements are lent by name; calls that turn them. No condition. -/
set_option linter.unusedVariables false
namespace Go.Proofs.Ytmekkgdboplbjaa.M
open Go Go.RowKit
def nvL : List Value → List PV → List PV
 | u :: us, p :: ps => PV.nv u p :: nvL us ps
 | _, _ => []
theorem own_nvL {Fz : FzT} {w : World} : ∀ {ps : List PV} {us : List Value}, BorL ps → RelL ps Fz w us → OwnL (nvL us ps) Fz w us []
 | [], us, _, h => by
  have h : us = [] := h
  subst h; exact ⟨rfl, rfl⟩
 | p :: ps, us, hb, h => by
  obtain ⟨v, vs, rfl, h1, h2⟩ := h
  exact ⟨v, vs, [], [], rfl, rfl, ⟨rfl, hb p (by simp) h1⟩, own_nvL (fun q hq => hb q (by simp [hq])) h2⟩
def nvI (h : Nat → Value) : Nat → List PV → List PV
 | _, [] => []
 | i, p :: ps => PV.nv (h i) p :: nvI h (i + 1) ps
theorem nvI_eq (h : Nat → Value) : ∀ (ps : List PV) (i : Nat), nvI h i ps = nvL ((List.range' i ps.length).map h) ps
 | [], i => rfl
 | p :: ps, i => by rw [nvI, nvI_eq h ps (i + 1)]; rfl
def valsE {α : Type} (e : Nat) (zs : List (α × (Nat → Value))) : List Value := (zs.map fun z => (List.range e).map z.2).flatten
def flatM {α : Type} (f : α → List PV) (zs : List (α × (Nat → Value))) : List PV := (zs.map fun z => f z.1).flatten
theorem nvL_app : ∀ {us vs : List Value} {ps qs : List PV}, us.length = ps.length → nvL (us ++ vs) (ps ++ qs) = nvL us ps ++ nvL vs qs
 | [], vs, [], qs, _ => rfl
 | u :: us, vs, p :: ps, qs, h => by
  simp only [List.cons_append, nvL]
  rw [nvL_app (by simpa using h)]
theorem chunk_fn {e : Nat} {us : List Value} (h : us.length = e) : ∃ k : Nat → Value, us = (List.range e).map k := by
 refine ⟨fun i => us.getD i undef, ?_⟩
 subst h
 apply List.ext_getElem
 ·simp
 ·intro i h1 h2
  simp [h1]
theorem nv_names {α : Type} {g : α → List PV} {fN : α × (Nat → Value) → List PV} {e : Nat} (hN : ∀ x h, fN (x, h) = nvI h 0 (g x)) (hg : ∀ x, (g x).length = e) (jk : List PV) : ∀ (xs : List α) (us : List Value), us.length = xs.length * e + jk.length →
  ∃ (zs : List (α × (Nat → Value))) (vs : List Value), zs.map Prod.fst = xs ∧ us = valsE e zs ++ vs ∧ vs.length = jk.length ∧ nvL us ((xs.map g).flatten ++ jk) = (zs.map fN).flatten ++ nvL vs jk
 | [], us, h => ⟨[], us, rfl, rfl, by simpa using h, rfl⟩
 | x :: xs, us, h => by
  have hs : (x :: xs).length * e = e + xs.length * e := by rw [List.length_cons, Nat.succ_mul]; omega
  obtain ⟨k, hk⟩ := chunk_fn (e := e) (us := us.take e) (by rw [List.length_take]; omega)
  obtain ⟨zs, vs, e1, e2, e3, e4⟩ := nv_names hN hg jk xs (us.drop e) (by rw [List.length_drop]; omega)
  refine ⟨(x, k) :: zs, vs, by rw [List.map_cons, e1], ?_, e3, ?_⟩
  ·rw [← List.take_append_drop e us, hk, e2]
   simp [valsE, List.append_assoc]
  ·rw [← List.take_append_drop e us]
   have : ((x :: xs).map g).flatten ++ jk = g x ++ ((xs.map g).flatten ++ jk) := by simp
   rw [this, nvL_app (by rw [hg, List.length_take]; omega), e4, hk]
   simp only [List.map_cons, List.flatten_cons, List.append_assoc]
   rw [hN, nvI_eq, hg, List.range_eq_range']
theorem to_flat {α : Type} {f g : α → List PV} (h : ∀ x, ToL (f x) (g x)) : ∀ (xs : List α) {js : List PV}, ToL ((xs.map f).flatten ++ js) ((xs.map g).flatten ++ js)
 | [], js => ToL.refl js
 | x :: xs, js => by
  have k : ∀ {ps qs rs ss : List PV}, ToL ps qs → ToL rs ss → ToL (ps ++ rs) (qs ++ ss) := by
   intro ps
   induction ps with
   | nil => intro qs rs ss h1 h2; cases qs with
    | nil => exact h2
    | cons q qs => exact h1.elim
   | cons p ps ih => intro qs rs ss h1 h2; cases qs with
    | nil => exact h1.elim
    | cons q qs => exact ⟨h1.1, ih h1.2 h2⟩
  simp only [List.map_cons, List.flatten_cons, List.append_assoc]
  exact k (h x) (to_flat h xs)
theorem bor_flat {α : Type} {g : α → List PV} (h : ∀ x, BorL (g x)) (xs : List α) (jk : List Value) : BorL ((xs.map g).flatten ++ jk.map PV.val) := fun p hp => by
 rcases List.mem_append.1 hp with hp | hp
 ·obtain ⟨cs, hcs, hp⟩ := List.mem_flatten.1 hp
  obtain ⟨x, _, rfl⟩ := List.mem_map.1 hcs
  exact h x p hp
 ·obtain ⟨v, _, rfl⟩ := List.mem_map.1 hp
  exact PV.bor_val _
theorem own_nvval {Fz : FzT} {w : World} : ∀ {jk us vs : List Value} {F : List Nat}, OwnL (nvL us (jk.map PV.val)) Fz w vs F → us.length = jk.length → OwnL (jk.map PV.val) Fz w vs F
 | [], us, vs, F, h, hl => by
  have : us = [] := List.eq_nil_of_length_eq_zero hl
  subst this; exact h
 | j :: jk, [], vs, F, h, hl => by simp at hl
 | j :: jk, u :: us, vs, F, h, hl => by
  obtain ⟨v, vs', F1, F2, rfl, rfl, h1, h2⟩ := h
  exact ⟨v, vs', F1, F2, rfl, rfl, h1.2, own_nvval h2 (by simpa using hl)⟩
theorem own_perm {α : Type} {f : α → List PV} {e : Nat} (hf : ∀ x, (f x).length = e) {Fz : FzT} {w : World} {zs ys : List (α × (Nat → Value))} (hp : zs.Perm ys) : ∀ {F : List Nat}, OwnL (flatM f zs) Fz w (valsE e zs) F → ∃ F', F.Perm F' ∧ OwnL (flatM f ys) Fz w (valsE e ys) F' := by
 have hone : ∀ {z : α × (Nat → Value)} {l : List (α × (Nat → Value))} {F : List Nat}, OwnL (flatM f (z :: l)) Fz w (valsE e (z :: l)) F → ∃ F1 F2, F = F1 ++ F2 ∧ OwnL (f z.1) Fz w ((List.range e).map z.2) F1 ∧ OwnL (flatM f l) Fz w (valsE e l) F2 := by
  intro z l F h
  have h : OwnL (f z.1 ++ flatM f l) Fz w ((List.range e).map z.2 ++ valsE e l) F := h
  obtain ⟨v1, v2, F1, F2, e1, rfl, h1, h2⟩ := h.split
  have hl : ((List.range e).map z.2).length = v1.length := by rw [h1.len, hf]; simp
  obtain ⟨rfl, rfl⟩ := List.append_inj e1 hl
  exact ⟨F1, F2, rfl, h1, h2⟩
 induction hp with
 | nil => intro F h; exact ⟨F, List.Perm.refl _, h⟩
 | cons z _ ih =>
  intro F h
  obtain ⟨F1, F2, rfl, h1, h2⟩ := hone h
  obtain ⟨F', k1, k2⟩ := ih h2
  exact ⟨F1 ++ F', List.Perm.append_left F1 k1, h1.append k2⟩
 | swap z y l =>
  intro F h
  obtain ⟨F1, F2, rfl, h1, h2⟩ := hone h
  obtain ⟨F3, F4, rfl, h3, h4⟩ := hone h2
  refine ⟨F3 ++ (F1 ++ F4), ?_, h3.append (h1.append h4)⟩
  rw [← List.append_assoc, ← List.append_assoc]
  exact List.Perm.append_right _ List.perm_append_comm
 | trans _ _ ih1 ih2 =>
  intro F h
  obtain ⟨F1, k1, h1⟩ := ih1 h
  obtain ⟨F2, k2, h2⟩ := ih2 h1
  exact ⟨F2, k1.trans k2, h2⟩
def rsI {γ : Type} (q : γ → Int) (x : γ) : RV := RV.sv false [PV.val (vI (q x))]
section
variable {P : Program} {n : Nat} {h0 : Nat → Prop} {w0 : World} {Fz0 : FzT} {σ : St} {Q : Exit → St → Prop} {c : Code} {ops : Array Oper}
theorem sw_lendN {d t G : Nat} {cs qs : List PV} (hd : σ.b d = some (t, cs)) (hG : σ.s G = none) (hq : ToL cs qs) (hb : BorL qs) (h : ∀ us : List Value, (∃ Fz w, RelL cs Fz w us) → SW P n h0 w0 Fz0 c ((σ.setB d (some (t, nvL us qs))).set G (some (RV.gh us cs))) Q) : SW P n h0 w0 Fz0 c σ Q := fun a w hc => by
 obtain ⟨φ, Fz, Fp, hc⟩ := hc
 obtain ⟨cur, h1, h2⟩ := hc.box d _ hd
 have k0 := hc.pull G
 have e0 : ∀ i rv, (σ.set G none).s i = some rv → i ≠ G ∧ σ.s i = some rv := fun i rv hi => by
  rw [St.set_s] at hi
  split at hi
  ·cases hi
  ·rename_i hne; exact ⟨hne, hi⟩
 have hne : mv Fp (2 * G + 1) (2 * d + 2) = Fp (2 * d + 2) := by
  simp only [mv]; rw [if_neg (by omega), if_neg (by omega)]
 have hgn : mv Fp (2 * G + 1) (2 * G + 1) = [] := by simp [mv]
 generalize hFp1 : mv Fp (2 * G + 1) = Fp1 at k0 hne hgn
 refine h cur.toList ⟨Fz, w, h2.rel⟩ a w ⟨φ, Fz, swp Fp1 (2 * d + 2) (2 * G + 1), ?_⟩
 have hsub : ∀ r b, b ∈ swp Fp1 (2 * d + 2) (2 * G + 1) r → ∃ r', b ∈ Fp1 r' := fun r b hb => by
  rcases swp_mem hb with ⟨_, k⟩ | ⟨_, _, k⟩
  ·exact ⟨_, k⟩
  ·exact ⟨_, k⟩
 exact { k0 with
  slot := fun i rv hi => by
   rw [St.set_s] at hi
   split at hi
   ·rename_i e
    subst e
    injection hi with hi
    subst hi
    show OwnL cs Fz w cur.toList (swp Fp1 (2 * d + 2) (2 * i + 1) (2 * i + 1))
    simp only [swp, if_true]
    rw [hne]; exact h2
   ·rename_i e
    have := k0.slot i rv (by rw [St.set_s, if_neg e]; exact hi)
    simp only [swp]
    rw [if_neg (by omega), if_neg (by omega)]
    exact this
  box := fun e bx he => by
   rw [St.set_b, St.setB_b] at he
   split at he
   ·rename_i e'; subst e'; injection he with he; subst he
    refine ⟨cur, h1, ?_⟩
    simp only [swp]
    rw [if_neg (by omega), if_pos (by trivial)]
    exact own_nvL hb (hq.rel h2.rel)
   ·rename_i e'
    obtain ⟨cur', k1, k2⟩ := k0.box e bx he
    refine ⟨cur', k1, ?_⟩
    simp only [swp]
    rw [if_neg (by omega), if_neg (by omega)]
    exact k2
  bxb := fun e bx he => by
   have : ∃ z, (σ.set G none).b e = some z := by
    rw [St.set_b, St.setB_b] at he
    split at he
    ·rename_i e'; subst e'; exact ⟨_, hd⟩
    ·exact ⟨_, he⟩
   obtain ⟨z, hz⟩ := this
   obtain ⟨g1, g2, g3⟩ := k0.bxb e z hz
   exact ⟨g1, g2, fun r hr => by obtain ⟨r', h'⟩ := hsub r _ hr; exact g3 r' h'⟩
  inj := fun e e' c1 c2 he he' => by
   have f : ∀ x y, ((σ.setB d (some (t, nvL cur.toList qs))).set G (some (RV.gh cur.toList cs))).b x = some y → ∃ z, (σ.set G none).b x = some z := by
    intro x y hx
    rw [St.set_b, St.setB_b] at hx
    split at hx
    ·rename_i e'; subst e'; exact ⟨_, hd⟩
    ·exact ⟨_, hx⟩
   obtain ⟨z1, f1⟩ := f _ _ he
   obtain ⟨z2, f2⟩ := f _ _ he'
   exact k0.inj e e' z1 z2 f1 f2
  dis := swp_dis k0.dis
  nod := swp_nod k0.nod
  low := fun r b hb => by obtain ⟨r', h'⟩ := hsub r b hb; exact k0.low r' b h' }
theorem sw_lendA {d t G e : Nat} {α : Type} {f g : α → List PV} {fN : α × (Nat → Value) → List PV} {xs : List α} {jk : List Value} (hd : σ.b d = some (t, arr f xs jk)) (hG : σ.s G = none) (hN : ∀ x h, fN (x, h) = nvI h 0 (g x)) (hg : ∀ x, (g x).length = e) (hq : ∀ x, ToL (f x) (g x)) (hb : ∀ x, BorL (g x))
  (h : ∀ zs : List (α × (Nat → Value)), zs.map Prod.fst = xs → SW P n h0 w0 Fz0 c ((σ.setB d (some (t, arr fN zs jk))).set G (some (RV.gh (valsE e zs) (flatM f zs)))) Q) : SW P n h0 w0 Fz0 c σ Q := by
 refine sw_lendN hd hG (to_flat hq xs) (bor_flat hb xs jk) fun us hus => ?_
 intro a w hc
 have hfl : ∀ x, (f x).length = e := fun x => by rw [(hq x).len]; exact hg x
 have hlen : us.length = xs.length * e + (jk.map PV.val).length := by
  obtain ⟨_, _, hr⟩ := hus
  rw [hr.len]; unfold arr
  rw [List.length_append, flatten_len (e := e) (fun cs hcs => by obtain ⟨x, _, rfl⟩ := List.mem_map.1 hcs; exact hfl x), List.length_map]
 obtain ⟨zs, vs, e1, e2, e3, e4⟩ := nv_names hN hg (jk.map PV.val) xs us hlen
 have hvl : (valsE e zs).length = (flatM f zs).length := by
  unfold valsE flatM
  rw [flatten_len (e := e) (fun cs hcs => by obtain ⟨x, _, rfl⟩ := List.mem_map.1 hcs; exact hfl x.1)]
  have : ∀ l : List (α × (Nat → Value)), (l.map fun z => (List.range e).map z.2).flatten.length = l.length * e := by
   intro l; induction l with
   | nil => simp
   | cons z l ih => rw [List.map_cons, List.flatten_cons, List.length_append, ih, List.length_cons, Nat.succ_mul]; simp; omega
  rw [this, List.length_map]
 have hfm : flatM f zs = (xs.map f).flatten := by unfold flatM; rw [← e1, List.map_map]; rfl
 refine h zs e1 a w ?_
 obtain ⟨φ, Fz, Fp, hc⟩ := hc
 refine ⟨φ, Fz, Fp, { hc with slot := fun i rv hi => ?_, box := fun b bx hb' => ?_, bxb := fun b bx hb' => ?_, inj := fun b b' c1 c2 hb1 hb2 => ?_ }⟩
 ·rw [St.set_s] at hi
  split at hi
  ·rename_i hiG
   injection hi with hi
   subst hi
   have := hc.slot i _ (by rw [St.set_s, if_pos hiG])
   have this : OwnL (arr f xs jk) Fz w us (Fp (2 * i + 1)) := this
   unfold arr at this
   rw [e2] at this
   obtain ⟨v1, v2, F1, F2, k1, k2, k3, k4⟩ := this.split
   have hF2 : F2 = [] := by
    have : ∀ (jk : List Value) (v2 : List Value) (G2 : List Nat), OwnL (jk.map PV.val) Fz w v2 G2 → G2 = [] := by
     intro jk
     induction jk with
     | nil => intro v2 G2 h; exact h.2
     | cons j jk ih =>
      intro v2 G2 h
      obtain ⟨v, vs', F1, F2, _, rfl, h1, h2⟩ := h
      rw [ih _ _ h2, h1.2]; rfl
    exact this _ _ _ k4
   obtain ⟨rfl, rfl⟩ := List.append_inj k1 (by rw [hvl, k3.len, hfm])
   show OwnL (flatM f zs) Fz w (valsE e zs) (Fp (2 * i + 1))
   rw [k2, hF2, List.append_nil, hfm]; exact k3
  ·rename_i hiG
   exact hc.slot i rv (by rw [St.set_s, if_neg hiG]; exact hi)
 ·rw [St.set_b, St.setB_b] at hb'
  split at hb'
  ·rename_i hbd
   injection hb' with hb'
   subst hb'
   obtain ⟨cur, k1, k2⟩ := hc.box b (t, nvL us ((xs.map g).flatten ++ jk.map PV.val)) (by rw [St.set_b, St.setB_b, if_pos hbd])
   refine ⟨cur, k1, ?_⟩
   have k2 : OwnL (nvL us ((xs.map g).flatten ++ jk.map PV.val)) Fz w cur.toList (Fp (2 * b + 2)) := k2
   rw [e4] at k2
   obtain ⟨v1, v2, F1, F2, q1, q2, q3, q4⟩ := k2.split
   rw [q1, q2]
   exact q3.append (own_nvval q4 (by rw [e3, List.length_map]))
  ·rename_i hbd
   exact hc.box b bx (by rw [St.set_b, St.setB_b, if_neg hbd]; exact hb')
 ·have : ∃ z, ((σ.setB d (some (t, nvL us ((xs.map g).flatten ++ jk.map PV.val)))).set G (some (RV.gh us (arr f xs jk)))).b b = some z := by
   rw [St.set_b, St.setB_b] at hb' ⊢
   split at hb'
   ·rename_i hbd; rw [if_pos hbd]; exact ⟨_, rfl⟩
   ·rename_i hbd; rw [if_neg hbd]; exact ⟨_, hb'⟩
  obtain ⟨z, hz⟩ := this
  exact hc.bxb b z hz
 ·have : ∀ x y, ((σ.setB d (some (t, arr fN zs jk))).set G (some (RV.gh (valsE e zs) (flatM f zs)))).b x = some y → ∃ z, ((σ.setB d (some (t, nvL us ((xs.map g).flatten ++ jk.map PV.val)))).set G (some (RV.gh us (arr f xs jk)))).b x = some z := by
   intro x y hx
   rw [St.set_b, St.setB_b] at hx ⊢
   split at hx
   ·rename_i hbd; rw [if_pos hbd]; exact ⟨_, rfl⟩
   ·rename_i hbd; rw [if_neg hbd]; exact ⟨_, hx⟩
  obtain ⟨z1, f1⟩ := this _ _ hb1
  obtain ⟨z2, f2⟩ := this _ _ hb2
  exact hc.inj b b' z1 z2 f1 f2
theorem rel_names {α : Type} {g : α → List PV} {fN : α × (Nat → Value) → List PV} {e : Nat} (hN : ∀ x h, fN (x, h) = nvI h 0 (g x)) (hg : ∀ x, (g x).length = e) {Fz : FzT} {w : World} : ∀ {zs : List (α × (Nat → Value))} {js : List PV} {us : List Value}, RelL ((zs.map fN).flatten ++ js) Fz w us → ∃ vs, us = valsE e zs ++ vs ∧ RelL js Fz w vs
 | [], js, us, h => ⟨us, rfl, h⟩
 | z :: zs, js, us, h => by
  have hk : ∀ (ps : List PV) (i : Nat) (k : Nat → Value) (vs : List Value), RelL (nvI k i ps) Fz w vs → vs = (List.range' i ps.length).map k := by
   intro ps
   induction ps with
   | nil => intro i k vs h; exact h
   | cons p ps ih =>
    intro i k vs h
    obtain ⟨v, vs', rfl, h1, h2⟩ := h
    rw [ih _ _ _ h2, h1.1]; rfl
  simp only [List.map_cons, List.flatten_cons, List.append_assoc] at h
  obtain ⟨v1, v2, rfl, h1, h2⟩ := h.split
  obtain ⟨vs, rfl, h3⟩ := rel_names hN hg h2
  obtain ⟨x, k⟩ := z
  rw [hN] at h1
  have := hk _ _ _ _ h1
  rw [hg] at this
  refine ⟨vs, ?_, h3⟩
  rw [this]
  simp [valsE, List.range_eq_range']
theorem loc_shr {T T2 : TypeId} {x y : Operand} {d : Nat} {ty : TypeId} {pos : String} {af : Array Edge} {g : Option (Nat × Bool)} {k k2 : IntKind} {i j : Int} {m : Nat} (hm : j = (m : Int)) (hb : m ≤ k.bits) (hx : OpOk x (RV.sc (.int k i)) := by first | exact True.intro | exact ok_sc rfl) (hy : OpOk y (RV.sc (.int k2 j)) := by first | exact True.intro | exact ok_sc rfl) (hd : d < n := by decide) :
  Loc P n ⟨some d, .binOp .shr T x y T2, ty, pos, af, g⟩ ⟨opR x (RV.sc (.int k i)) ++ opR y (RV.sc (.int k2 j)), [], [(d, some (RV.sc (.int k (i.fdiv (2 ^ m)))))], [], none⟩ := by
 subst hm
 refine loc_bin hd hx hy rfl fun w => ?_
 have h1 : ¬ (m : Int) < 0 := by omega
 simp [eqGuard, binOp, Op.shift, h1, Nat.min_eq_left hb]
end
end Go.Proofs.Ytmekkgdboplbjaa.M
/- What a call returns, read only. No condition. -/
set_option linter.unusedVariables false
namespace Go.Proofs.Ytmekkgdboplbjaa.M
open Go Go.RowKit
end Go.Proofs.Ytmekkgdboplbjaa.M
/- From here on what is known lies low: what was made before is only read. No condition. -/
set_option linter.unusedVariables false
namespace Go.Proofs.Ytmekkgdboplbjaa.M
open Go Go.RowKit
def LowR (L : Nat → Prop) (r r' : RV) : Prop := ∀ {φ : Nat → Nat} {Fz : FzT} {w : World} {v : Value} {F : List Nat}, (∀ b o, Fz b o → L b) → r.holds φ Fz w v F → r'.holds φ Fz w v []
theorem LowR.sv {L : Nat → Prop} {ag : Bool} {cs qs : List PV} (ht : ToBL L cs qs) (hb : BorL qs) : LowR L (RV.sv ag cs) (RV.sv ag qs) := fun hz h => ⟨h.1, hb.own (ht.rel hz h.2.rel)⟩
theorem LowR.ptr {L : Nat → Prop} {d off : Nat} : LowR L (RV.ptr d off) (RV.ptr d off) := fun _ h => ⟨h.1, rfl⟩
def LowS (L : Nat → Prop) : List (Nat × RV) → List (Nat × RV) → Prop
 | [], [] => True
 | p :: l, q :: l' => (p.1 = q.1 ∧ LowR L p.2 q.2) ∧ LowS L l l'
 | _, _ => False
theorem LowS.cons {L : Nat → Prop} {i : Nat} {r r' : RV} {l l' : List (Nat × RV)} (h : LowR L r r') (k : LowS L l l') : LowS L ((i, r) :: l) ((i, r') :: l') := ⟨⟨rfl, h⟩, k⟩
theorem LowS.at_ {L : Nat → Prop} {i : Nat} {r' : RV} : ∀ {l l' : List (Nat × RV)}, LowS L l l' → lk l' i = some r' → ∃ r, lk l i = some r ∧ LowR L r r'
 | [], [], _, h => by cases h
 | (j, r) :: l, (j', q) :: l', k, h => by
  obtain ⟨⟨e, k1⟩, k2⟩ := k
  dsimp only at e
  subst e
  rw [lk, beq_eq] at h ⊢
  by_cases hx : i = j
  ·rw [decide_eq_true hx] at h ⊢
   simp only [cond_true, Option.some.injEq] at h ⊢
   subst h
   exact ⟨r, rfl, k1⟩
  ·rw [decide_eq_false hx] at h ⊢
   simp only [cond_false] at h ⊢
   exact LowS.at_ k2 h
section
variable {P : Program} {n : Nat} {h0 : Nat → Prop} {w0 : World} {Fz0 : FzT} {Q : Exit → St → Prop} {c : Code}
end
end Go.Proofs.Ytmekkgdboplbjaa.M
/- What a call returns is fixed for good: nothing of it turns any more, so that it lies low. No condition. -/
set_option linter.unusedVariables false
namespace Go.Proofs.Ytmekkgdboplbjaa.M
open Go Go.RowKit
def RV.lump (h0 B : Nat → Prop) : RV where
 holds _ _ w _ F := (∀ b, B b ↔ (h0 b ∨ b ∈ F)) ∧ ∀ b, b ∈ F → b < w.heap.size
 men _ := false
 mono h k hh _ := ⟨h.1, fun b hb => (Array.getElem?_eq_some_iff.1 ((hh b hb).1.trans (Array.getElem?_eq_getElem (h.2 b hb)))).1⟩
 lt h := h.2
def LclRT (L : Nat → Prop) : List (Bool × List PV) → Prop
 | [] => True
 | q :: qs => LclRC L q.2 ∧ LclRT L qs
section
variable {P : Program} {n : Nat} {h0 : Nat → Prop} {w0 : World} {Fz0 : FzT}
section
variable {σ : St} {a : Act} {w : World} {φ : Nat → Nat} {Fz : FzT} {Fp : Nat → List Nat}
theorem ConcW.ghost (h : ConcW h0 w0 Fz0 n σ a w φ Fz Fp) {i : Nat} {rv : RV} {F X : List Nat} (hv : rv.holds φ Fz w (a.tmps.getD i undef) F) (hX : ∀ b, b ∈ F ++ X → b ∈ Fp 0) (hn : (F ++ X).Nodup) :
  ConcW h0 w0 Fz0 n (σ.set i (some rv)) a w φ Fz (give Fp (2 * i + 1) F X) where
 bel := h.bel
 dfr := h.dfr
 siz := h.siz
 hlt := h.hlt
 fz0 := h.fz0
 fzl := h.fzl
 slot j rv' hj := by
  rw [St.set_s] at hj
  split at hj
  ·rename_i hji
   subst hji
   injection hj with hj
   subst hj
   unfold give
   rw [if_pos rfl]; exact hv
  ·rename_i hne
   unfold give
   rw [if_neg (by omega), if_neg (by omega)]
   exact h.slot j rv' hj
 box d cs hd := by
  obtain ⟨cur, h1, h2⟩ := h.box d cs hd
  refine ⟨cur, h1, ?_⟩
  unfold give
  rw [if_neg (by omega), if_neg (by omega)]; exact h2
 bxb d cs hd := by
  obtain ⟨h1, h2, h3⟩ := h.bxb d cs hd
  refine ⟨h1, h2, fun r hr => ?_⟩
  rcases give_mem hr with ⟨_, hr⟩ | ⟨_, _, hr⟩ | ⟨_, _, hr⟩
  ·exact h3 0 (hX _ (by simp [hr]))
  ·exact h3 0 (hX _ (by simp [hr]))
  ·exact h3 _ hr
 inj d d' cs cs' := h.inj d d' cs cs'
 dis := give_dis (by omega) hX hn h.dis
 nod := give_nod hn h.nod
 low r b hb := by
  rcases give_mem hb with ⟨_, hr⟩ | ⟨_, _, hr⟩ | ⟨_, _, hr⟩
  ·exact h.low 0 b (hX _ (by simp [hr]))
  ·exact h.low 0 b (hX _ (by simp [hr]))
  ·exact h.low _ b hr
end
section
variable {ops : Array Oper} {Q : Exit → St → Prop}
end
def FixR (r r' : RV) : Prop := ∀ {φ : Nat → Nat} {Fz : FzT} {w : World} {v : Value} {F : List Nat}, r.holds φ Fz w v F → r'.holds φ Fz w v F
theorem FixR.refl {r : RV} : FixR r r := fun h => h
theorem FixR.sv {ag : Bool} {cs qs : List PV} (h : OwnTo cs qs) : FixR (RV.sv ag cs) (RV.sv ag qs) := fun hh => ⟨hh.1, h hh.2⟩
def FixL (f : Nat → Option RV) (G : Nat) : List (Nat × RV) → Prop
 | [] => True
 | p :: l' => (Nat.beq p.1 G = false ∧ ∃ r, f p.1 = some r ∧ FixR r p.2) ∧ FixL f G l'
theorem FixL.cons {f : Nat → Option RV} {G i : Nat} {r r' : RV} {l' : List (Nat × RV)} (h1 : Nat.beq i G = false) (h2 : f i = some r) (h3 : FixR r r') (k : FixL f G l') : FixL f G ((i, r') :: l') := ⟨⟨h1, r, h2, h3⟩, k⟩
theorem FixL.at_ {f : Nat → Option RV} {G i : Nat} {r' : RV} : ∀ {l' : List (Nat × RV)}, FixL f G l' → (i, r') ∈ l' → i ≠ G ∧ ∃ r, f i = some r ∧ FixR r r'
 | [], _, h => by simp at h
 | p :: l', k, h => by
  rcases List.mem_cons.1 h with rfl | h
  ·exact ⟨fun e => by have := k.1.1; dsimp only at this; rw [e] at this; simp at this, k.1.2⟩
  ·exact FixL.at_ k.2 h
variable {Q : Exit → St → Prop} {c : Code}
theorem sw_weak {σ : St} {s : Nat} {ag : Bool} {cs : List PV} (qs : List PV) (hs : σ.s s = some (RV.sv ag cs)) (ht : ToL cs qs) (hb : BorL qs) (h : SW P n h0 w0 Fz0 c (σ.set s (some (RV.sv ag qs))) Q) : SW P n h0 w0 Fz0 c σ Q := fun a w hc => by
 obtain ⟨φ, Fz, Fp, hc⟩ := hc
 have hv : SvOwn ag cs Fz w (a.tmps.getD s undef) (Fp (2 * s + 1)) := hc.slot s _ hs
 have c1 := (hc.pull s).reslot (s := s) (rv := RV.sv ag qs) (by
  have : mv Fp (2 * s + 1) (2 * s + 1) = [] := by simp [mv]
  rw [this]
  exact ⟨hv.1, hb.own (ht.rel hv.2.rel)⟩)
 exact h a w (Conc.eqv ⟨φ, Fz, _, c1⟩ (fun i => by
  simp only [St.set_s]
  split <;> rfl) (fun d => rfl))
def LowB1 (L : Nat → Prop) : List (Nat × (Nat × List PV)) → List (Nat × (Nat × List PV)) → Prop
 | [], [] => True
 | p :: b, q :: b' => (p.1 = q.1 ∧ p.2.1 = q.2.1 ∧ ToBL L p.2.2 q.2.2 ∧ BorL q.2.2) ∧ LowB1 L b b'
 | _, _ => False
theorem LowB1.cons {L : Nat → Prop} {d t : Nat} {cs qs : List PV} {b b' : List (Nat × (Nat × List PV))} (h1 : ToBL L cs qs) (h2 : BorL qs) (k : LowB1 L b b') : LowB1 L ((d, (t, cs)) :: b) ((d, (t, qs)) :: b') := ⟨⟨rfl, rfl, h1, h2⟩, k⟩
theorem LowB1.at_ {L : Nat → Prop} {d t : Nat} {qs : List PV} : ∀ {b b' : List (Nat × (Nat × List PV))}, LowB1 L b b' → lk b' d = some (t, qs) → ∃ cs, lk b d = some (t, cs) ∧ ToBL L cs qs ∧ BorL qs
 | [], [], _, h => by cases h
 | (j, (s, r)) :: l, (j', (s', q)) :: l', k, h => by
  obtain ⟨⟨e, e2, k1⟩, k2⟩ := k
  dsimp only at e e2 k1
  subst e e2
  rw [lk, beq_eq] at h ⊢
  by_cases hx : d = j
  ·rw [decide_eq_true hx] at h ⊢
   simp only [cond_true, Option.some.injEq, Prod.mk.injEq] at h ⊢
   obtain ⟨rfl, rfl⟩ := h
   exact ⟨r, ⟨rfl, rfl⟩, k1⟩
  ·rw [decide_eq_false hx] at h ⊢
   simp only [cond_false] at h ⊢
   exact LowB1.at_ k2 h
end
end Go.Proofs.Ytmekkgdboplbjaa.M
/- Functions that return a new variable, and the integers' operations that wrap. No condition. -/
set_option linter.unusedVariables false
namespace Go.Proofs.Ytmekkgdboplbjaa.M
open Go Go.RowKit
def NCall (P : Program) (f : FuncId) (t : Nat) (args : List (Bool × List PV)) (cs : List PV) : Prop :=
 ∀ (w : World) (vs : List Value) (Fz : FzT), (∀ b o, Fz b o → b < w.heap.size) → RelT args Fz w vs → Calls P f vs.toArray w fun e w' => ∃ g Fz' cur, e = .returned (.pointer (some ⟨g, 0, none⟩)) ∧ Below w.heap.size w w' ∧
  (∀ b o, b < w.heap.size → (Fz' b o ↔ Fz b o)) ∧ (∀ b o, Fz' b o → b < w'.heap.size) ∧ w.heap.size ≤ g ∧ w'.heap[g]? = some (.cells cur t (0, 0)) ∧ (∀ o, ¬ Fz' g o) ∧ OwnL cs Fz' w' cur.toList []
def EndN (rs t : Nat) (cs : List PV) (τ : St) : Prop := ∃ D, τ.s rs = some (RV.ptr D 0) ∧ τ.b D = some (t, cs)
def endN (rs t : Nat) (cs : List PV) : Exit → St → Prop
 | .normal, τ => EndN rs t cs τ
 | .ret, τ => EndN rs t cs τ
 | _, _ => False
section
variable {P : Program} {n : Nat} {h0 : Nat → Prop} {w0 : World} {Fz0 : FzT}
theorem ncall_of {f : FuncId} {fn : Func} {c : Code} {args : List (Bool × List PV)} {rs t : Nat} {cs : List PV} (hf : P.funcs[f]? = some fn) (hb : fn.body = some c) (hres0 : fn.results.toList = [.tmp rs]) (hn : args.length ≤ fn.ntmps) (hbor : ∀ q, q ∈ args → BorL q.2) (hbc : BorL cs)
  (h : ∀ (h0 : Nat → Prop) (w0 : World) (Fz0 : FzT), SW P fn.ntmps h0 w0 Fz0 c (St.of (argsL 0 args) []) (endN rs t cs)) : NCall P f t args cs := by
 intro w vs Fz hz hrel
 have hvl := hrel.len
 refine calls_of_wp hf hb ?_
 have hc : Conc (fun b => b < w.heap.size) w Fz fn.ntmps (St.of (argsL 0 args) []) { tmps := vs.toArray ++ Array.replicate (fn.ntmps - vs.toArray.size) undef, defers := [] } w := by
  refine ⟨fun _ => 0, Fz, fun _ => [], ⟨BelowO.refl _ _, rfl, by simp; omega, fun _ hb => hb, fun _ _ _ => Iff.rfl, hz, fun i rv hi => ?_, fun d cs hd => (by cases hd), fun d cs hd => (by cases hd), fun d d' cs cs' hd => (by cases hd), fun _ _ _ b hb => (by simp at hb), fun _ => List.nodup_nil, fun _ b hb => (by simp at hb)⟩⟩
  obtain ⟨j, v, e1, e2, e3, e4⟩ := BorT.own (φ := fun _ => 0) hbor hrel hi
  rw [Nat.zero_add] at e1
  subst e1
  have : (vs.toArray ++ Array.replicate (fn.ntmps - vs.toArray.size) undef).getD i undef = v := by
   rw [Array.getD_eq_getD_getElem?, Array.getElem?_append_left (by simpa using e2)]
   simp [e3]
  rw [this]; exact e4
 refine wp_mono (h _ w Fz _ w hc) fun e a' w' ⟨τ, hq, hc'⟩ => ?_
 obtain ⟨φ, Fz', Fp, hc'⟩ := hc'
 have hres : EndN rs t cs τ → a'.defers = [] ∧ ∃ v, (results fn a'.tmps).run P w' = .ok v w' ∧ ∃ g Fz' cur, Ending.returned v = .returned (.pointer (some ⟨g, 0, none⟩)) ∧ Below w.heap.size w w' ∧
   (∀ b o, b < w.heap.size → (Fz' b o ↔ Fz b o)) ∧ (∀ b o, Fz' b o → b < w'.heap.size) ∧ w.heap.size ≤ g ∧ w'.heap[g]? = some (.cells cur t (0, 0)) ∧ (∀ o, ¬ Fz' g o) ∧ OwnL cs Fz' w' cur.toList [] := by
  rintro ⟨D, k1, k2⟩
  have hp := (hc'.slot rs _ k1).1
  obtain ⟨cur, q1, q2⟩ := hc'.box D _ k2
  obtain ⟨m1, m2, m3⟩ := hc'.bxb D _ k2
  refine ⟨hc'.dfr, ?_⟩
  rw [results_eq]
  have erun : Sem.run P (fn.results.mapM (resF a'.tmps)) w' = .ok #[.pointer (some ⟨φ D, 0, none⟩)] w' := by
   rw [Array.mapM_eq_mapM_toList, hres0]
   simp only [map_eq_pure_bind, List.mapM_cons, List.mapM_nil, resF, Sem.run_bind, Sem.run_pure, Result.andThen_ok, hp]
  simp only [Sem.run_bind, erun, Result.andThen_ok, Sem.run_pure]
  exact ⟨_, rfl, φ D, Fz', cur, rfl, ⟨hc'.bel.os, hc'.bel.tape, hc'.bel.output, hc'.bel.size, hc'.bel.block⟩, hc'.fz0, hc'.fzl, Nat.le_of_not_lt m1, q1, m2, hbc.own q2.rel⟩
 cases e with
 | normal => exact hres hq
 | ret => exact hres hq
 | _ => exact hq.elim
theorem loc_ncall {f d t : Nat} {args : Array Operand} {tys : Array TypeId} {ty : TypeId} {pos : String} {af : Array Edge} {g : Option (Nat × Bool)} {qs as_ : List (Bool × List PV)} {cs : List PV} (hd : d < n) (hf : callI P f = true) (hok : OpsOk args.toList qs) (hto : ToT qs as_) (hs : NCall P f t as_ cs) :
  Loc P n ⟨some d, .call { callee := .value (.func f), args := args, argTypes := tys }, ty, pos, af, g⟩ ⟨opsR args.toList qs, [], [(d, some (RV.ptr d 0))], [(d, some (t, cs))], some d⟩ := by
 intro h0 w0 Fz0 σ a w K Q hc hr _ h4 h5
 obtain ⟨φ, Fz, Fp, hc⟩ := hc
 have hrel := hto.rel (hc.relT hr hok)
 unfold Oper.wp
 rw [run_ocall hf, Oper.upon_enter]
 refine (hs w _ Fz hc.fzl hrel).mono ?_
 rintro e w' ⟨G, Fz', cur, rfl, hbl, hz1, hz2, hG, hg, hgz, ho⟩
 refine h5 _ _ ?_
 have hglt : G < w'.heap.size := (Array.getElem?_eq_some_iff.1 hg).1
 have k := (hc.drop d).world (w' := w') (Fz' := Fz') (X := [G]) hbl.os hbl.tape hbl.output hbl.size (fun b hb' _ => ⟨hbl.block b hb', fun o ho => (hz1 b o hb').1 ho⟩)
  (fun b o ho => ⟨(hz1 b o (hc.fzl b o ho)).2 ho, World.cell?_of_block (hbl.block b (hc.fzl b o ho))⟩) hz2 (fun b hb' => .inr (by
   rw [List.mem_singleton] at hb'; subst hb'; exact ⟨hG, hglt⟩)) (by simp)
 have k2 := k.pushB (d := d) (g := G) (t := t) (cs := cs) (F := []) (X := []) (by rw [St.setB_b, if_pos rfl]) hg ho hgz (fun b hb => by simpa using hb) (by simp) (.inr (h4 d rfl))
 have k3 := k2.push (i := d) (rv := RV.ptr d 0) (v := .pointer (some ⟨G, 0, none⟩)) (F := []) (X := []) hd ⟨by simp, rfl⟩ (fun b hb => nomatch hb) (by simp)
 exact Conc.eqv ⟨_, _, _, k3⟩ (fun i => rfl) (fun e => by
  show setL [(d, some (t, cs))] σ.b e = _
  rw [St.set_b, St.setB_b, St.setB_b]
  simp only [setL, beq_eq]
  by_cases he : e = d <;> simp [he])
end
theorem loc_nilchk {P : Program} {n x d b off : Nat} {ty : TypeId} {pos : String} {af : Array Edge} {g : Option (Nat × Bool)} (hd : d < n) : Loc P n ⟨some d, .nilCheck (.tmp x), ty, pos, af, g⟩ ⟨[(x, RV.ptr b off)], [], [(d, some (RV.ptr b off))], [], none⟩ := by
 intro h0 w0 Fz0 σ a w K Q h1 h2 _ _ h5
 obtain ⟨φ, Fz, Fp, hc⟩ := h1
 have ex := (hc.slot x _ h2.1).1
 refine wp_val (v := .pointer (some ⟨φ b, off, none⟩)) (w' := w) ?_ (h5 _ _ (hc.put0 hd (r := RV.ptr b off) ⟨rfl, rfl⟩))
 unfold execOp
 simp only [Act.eval, ex, Sem.run_pure]
theorem LowR.phi {L : Nat → Prop} {D g : Nat} : LowR L (RV.phi D g) (RV.phi D g) := fun _ h => ⟨h.1, rfl⟩
section
variable {P : Program} {n : Nat} {h0 : Nat → Prop} {w0 : World} {Fz0 : FzT} {σ : St} {Q : Exit → St → Prop} {c : Code}
end
def mulW (x y : Int) : Int := IntKind.i64.wrap (x * y)
def addW (x y : Int) : Int := IntKind.i64.wrap (x + y)
def andW (x y : Int) : Int := IntKind.i64.wrap (BitVec.ofInt 64 x &&& BitVec.ofInt 64 y).toNat
def xorW (x y : Int) : Int := IntKind.i64.wrap (BitVec.ofInt 64 x ^^^ BitVec.ofInt 64 y).toNat
theorem andW_le {x : Int} {m : Nat} (hm : m < 2 ^ 62) : 0 ≤ andW x (m : Int) ∧ andW x (m : Int) ≤ m := by
 have e : (BitVec.ofInt 64 (m : Int)).toNat = m := by
  rw [BitVec.toNat_ofInt]
  omega
 have h : (BitVec.ofInt 64 x &&& BitVec.ofInt 64 (m : Int)).toNat ≤ m := by
  rw [BitVec.toNat_and, e]; exact Nat.and_le_right
 unfold andW
 rw [IntWalk.i64_in _ (by omega)]
 omega
section
variable {P : Program} {n : Nat} {T T2 : TypeId} {x y : Operand} {d : Nat} {ty : TypeId} {pos : String} {af : Array Edge} {g : Option (Nat × Bool)} {i j : Int}
theorem loc_mulW (hd : d < n) (hx : OpOk x (RV.int i)) (hy : OpOk y (RV.int j)) : Loc P n ⟨some d, .binOp .mul T x y T2, ty, pos, af, g⟩ ⟨opR x (RV.int i) ++ opR y (RV.int j), [], [(d, some (RV.int (mulW i j)))], [], none⟩ :=
 loc_bin hd hx hy rfl fun w => by simp [eqGuard, binOp, Op.intArith, mulW]
theorem loc_addW (hd : d < n) (hx : OpOk x (RV.int i)) (hy : OpOk y (RV.int j)) : Loc P n ⟨some d, .binOp .add T x y T2, ty, pos, af, g⟩ ⟨opR x (RV.int i) ++ opR y (RV.int j), [], [(d, some (RV.int (addW i j)))], [], none⟩ :=
 loc_bin hd hx hy rfl fun w => by simp [eqGuard, binOp, Op.intArith, addW]
theorem loc_andW (hd : d < n) (hx : OpOk x (RV.int i)) (hy : OpOk y (RV.int j)) : Loc P n ⟨some d, .binOp .and T x y T2, ty, pos, af, g⟩ ⟨opR x (RV.int i) ++ opR y (RV.int j), [], [(d, some (RV.int (andW i j)))], [], none⟩ :=
 loc_bin hd hx hy rfl fun w => by simp [eqGuard, binOp, Op.intBits, IntKind.bits]; unfold andW; rw [BitVec.toNat_and, BitVec.toNat_ofInt, BitVec.toNat_ofInt]; rfl
theorem loc_xorW (hd : d < n) (hx : OpOk x (RV.int i)) (hy : OpOk y (RV.int j)) : Loc P n ⟨some d, .binOp .xor T x y T2, ty, pos, af, g⟩ ⟨opR x (RV.int i) ++ opR y (RV.int j), [], [(d, some (RV.int (xorW i j)))], [], none⟩ :=
 loc_bin hd hx hy rfl fun w => by simp [eqGuard, binOp, Op.intBits, IntKind.bits]; unfold xorW; rw [BitVec.toNat_xor, BitVec.toNat_ofInt, BitVec.toNat_ofInt]; rfl
end
end Go.Proofs.Ytmekkgdboplbjaa.M
/- Texts and their operations; functions that read tables of the library. No condition. -/
set_option linter.unusedVariables false
namespace Go.Proofs.Ytmekkgdboplbjaa.M
open Go Go.RowKit
abbrev Bytes := List UInt8
abbrev B (l : Bytes) : ByteArray := ⟨l.toArray⟩
abbrev RV.str (l : Bytes) : RV := RV.sc (.string (B l))
section
variable {P : Program} {n : Nat} {T T2 : TypeId} {x y : Operand} {d : Nat} {ty : TypeId} {pos : String} {af : Array Edge} {g : Option (Nat × Bool)} {s t : Bytes}
def bys (xs : List Int) : Bytes := xs.map fun n => UInt8.ofNat n.toNat
end
structure Glob where
 rel : FzT → World → Prop
 mono : ∀ {Fz Fz' : FzT} {w w' : World}, rel Fz w → Keeps Fz w Fz' w' → rel Fz' w'
def RV.glob (G : Glob) : RV where
 holds _ Fz w _ F := G.rel Fz w ∧ F = []
 men _ := false
 mono h k _ _ := ⟨G.mono h.1 k, h.2⟩
 lt h := by rw [h.2]; simp
def GCall (P : Program) (G : Glob) (f : FuncId) (args : List (Bool × List PV)) (r : RV) : Prop :=
 ∀ (w : World) (vs : List Value) (Fz : FzT), (∀ b o, Fz b o → b < w.heap.size) → G.rel Fz w → RelT args Fz w vs → Calls P f vs.toArray w fun e w' => ∃ v Fz' F, e = .returned v ∧ Below w.heap.size w w' ∧
  (∀ b o, b < w.heap.size → (Fz' b o ↔ Fz b o)) ∧ (∀ b o, Fz' b o → b < w'.heap.size) ∧ (∀ φ, r.holds φ Fz' w' v F) ∧ F.Nodup ∧ ∀ b, b ∈ F → w.heap.size ≤ b ∧ b < w'.heap.size
theorem SCall.g {P : Program} {G : Glob} {f : FuncId} {args : List (Bool × List PV)} {r : RV} (h : SCall P f args r) : GCall P G f args r := fun w vs Fz hz _ hr => h w vs Fz hz hr
section
variable {P : Program} {n : Nat} {G : Glob}
end
section
variable {P : Program} {G : Glob} {f : FuncId}
theorem SvRel.sc {v x : Value} {Fz : FzT} {w : World} (h : SvRel false [PV.val x] Fz w v) : v = x := (SvOwn.sc ⟨h.1, (BorL.cons (PV.bor_val _) BorL.nil).own h.2⟩).1
theorem SvRel.sl {v : Value} {es : List (List PV)} {Fz : FzT} {w : World} (h : SvRel false [PV.sl .v es] Fz w v) : SlRel es Fz w v :=
 (SvOwn.atom (p := PV.sl .v es) ⟨h.1, (BorL.cons (PV.bor_sl _) BorL.nil).own h.2⟩).1
def joinB (xs : List Bytes) (sep : Bytes) : Bytes := Lib.join xs sep
theorem tab_keep {Fz Fz' : FzT} {w w' : World} {g : Nat} {nm : String} {k : IntKind} {zs : List Int} (hg : P.globalNamed nm = some g) (hz : 0 < zs.length) (h : (∀ o, Fz g o) ∧ Lib.TabIs P w nm k zs) (hk : Keeps Fz w Fz' w') : (∀ o, Fz' g o) ∧ Lib.TabIs P w' nm k zs := by
 refine ⟨fun o => (hk g o (h.1 o)).1, ?_⟩
 have hc : ∀ o, w'.cell? ⟨g, o, none⟩ = w.cell? ⟨g, o, none⟩ := fun o => (hk g o (h.1 o)).2
 have h2 := h.2
 unfold Lib.TabIs World.var? at h2 ⊢
 rw [hg] at h2 ⊢
 simp only [Option.bind_some] at h2 ⊢
 cases hw : w.heap[g]? with
 | none => rw [hw] at h2; cases h2
 | some o =>
  cases o with
  | cells cs t fr =>
   rw [hw] at h2
   injection h2 with h2
   have hc1 : ∀ o, w.cell? ⟨g, o, none⟩ = cs[o]? := fun o => by simp [World.cell?, hw]
   have h0 : (w'.cell? ⟨g, 0, none⟩).isSome = true := by rw [hc, hc1, h2]; simp [hz]
   cases hw' : w'.heap[g]? with
   | none => simp [World.cell?, hw'] at h0
   | some o' =>
    cases o' with
    | cells cs' t' fr' =>
     have hc2 : ∀ o, w'.cell? ⟨g, o, none⟩ = cs'[o]? := fun o => by simp [World.cell?, hw']
     rw [← h2]
     show some cs' = some cs
     congr 1
     apply Array.ext_getElem?
     intro i
     rw [← hc2, hc, hc1]
    | _ => simp [World.cell?, hw'] at h0
  | _ => rw [hw] at h2; cases h2
def glItoa (P : Program) (g : Nat) (hg : P.globalNamed "internal/strconv.uint64pow10" = some g) : Glob where
 rel Fz w := (∀ o, Fz g o) ∧ Lib.TabIs P w "internal/strconv.uint64pow10" .u64 Lib.pow10Tab
 mono h k := tab_keep hg (by decide) h k
end
end Go.Proofs.Ytmekkgdboplbjaa.M
/- What a law's arguments read as, and the frame of its statement. No condition. -/
namespace Go.Proofs.Ytmekkgdboplbjaa.M
open Go Go.RowKit Go.ChangeShapes Go.WideShapes
section
variable {H : Type} {enc : TypeId × Value → H} {P : Program} {W W' : World}
theorem trodAll_stays {sp : Nat → Bool} (hl : laidOutB P = true) (hsame : ∀ p : MemPlace, p.block < W.heap.size → W.sameAt W' p) : ∀ {ts : List TypeId} {vs : List Value} {ds : List (DataW H)} {ps : List MemPlace}, (ts.all fun t => P.readableRec t && Nat.blt t P.types.size) = true →
  DataW.TrodAll enc P W 0 (fun _ => true) true ts vs ds ps → (∀ p ∈ ps, p.block < W.heap.size) → (∀ p ∈ ps, sp p.block = true) → DataW.TrodAll enc P W' 0 sp true ts vs ds ps
 | [], vs, ds, ps, _, h, _, _ => by
  obtain ⟨rfl, rfl, rfl⟩ := trodAll_nil h
  exact trodAll_mk0
 | t :: ts, vs, ds, ps, ht, h, hlt, hs => by
  obtain ⟨v, vs', d, ds', p, q, rfl, rfl, rfl, h1, h2⟩ := trodAll_cons h
  rw [List.all_cons, Bool.and_eq_true, Bool.and_eq_true, Nat.blt_eq] at ht
  exact trodAll_cons_mk (WideElems.Trod_stays hl ht.1.1 ht.1.2 h1 (fun x hx => hsame x (hlt x (by simp [hx]))) (fun x hx => hs x (by simp [hx])))
   (trodAll_stays hl hsame ht.2 h2 (fun x hx => hlt x (by simp [hx])) (fun x hx => hs x (by simp [hx])))
theorem law_post {f : Func} {s : ChangeSpec} {args : Array Value} {ds gs : List (DataW H)} {before : List MemPlace} {k : FuncId} {bt : TypeId} (hl : laidOutB P = true) (hr : (f.params.toList.all fun t => P.readableRec t && Nat.blt t P.types.size) = true)
  (hW : DataW.Whole enc P f.params.toList s.vars false W args.toList ds gs before) (hv : s.vars = []) (hrt : f.resultTypes = #[bt]) (hbt : P.underlying bt = some .bool) (hfn : s.fn H (ds ++ gs) = { results := [.lit (.bool true)], args := ds })
  (hcall : Calls P k args W fun e w' => e = .returned (.bool true) ∧ Below W.heap.size W w') :
  Calls P k args W fun e W' => ∃ v, e = .returned v ∧ s.post enc P f false true false false W args v W' := by
 refine hcall.mono fun e W' ⟨he, hb⟩ => ⟨_, he, ?_⟩
 have hlt : ∀ p ∈ before, p.block < W.heap.size := fun p hp => hW.lt p hp
 have hW' := hW
 obtain ⟨pa, q, hA, hV, rfl, hz, hn⟩ := hW
 rw [hv] at hV
 obtain ⟨rfl, rfl⟩ := trodVars_none hV
 have hres : ∀ (b : Nat) (sp : Nat → Bool) (hd : Bool), DataW.TrodAll enc P W' b sp hd f.resultTypes.toList ((Value.bool true).resultList f.resultTypes.size) (s.fn H (ds ++ [])).results [] := by
  intro b sp hd
  rw [hfn, hrt]
  exact trodAll_cons_mk (p' := []) (shut_bool hbt _) trodAll_mk0
 have hargs : ∀ sp : Nat → Bool, (∀ p ∈ pa ++ [], sp p.block = true) → DataW.TrodAll enc P W' 0 sp true f.params.toList args.toList (s.fn H (ds ++ [])).args pa := by
  intro sp hs
  rw [hfn]
  exact trodAll_stays hl (fun p hp => hb.same hp) hr hA (fun p hp => hlt p (by simp [hp])) (fun p hp => hs p (by simp [hp]))
 have hvars : ∀ sp : Nat → Bool, DataW.TrodVars enc P W' sp s.vars (s.fn H (ds ++ [])).vars [] := by
  intro sp
  rw [hfn, hv]
  exact rfl
 have hold : ∀ p ∈ pa ++ [], (fun b => decide (b < W.heap.size)) p.block = true := fun p hp => by simpa using hlt p hp
 have hok : ∀ (j : Nat) (t : TypeId) (r : Value), f.resultTypes[j]? = some t → ((Value.bool true).resultList f.resultTypes.size)[j]? = some r → Value.okWide P W' .any 0 t r := ok_one hrt rfl (okWide_bool_mk hbt _)
 refine ⟨ds, [], pa ++ [], [], pa, [], hW', hres _ _ _, hargs _ hold, hvars _, World.keptBut_mono (fun p hp => ⟨hp, ?_⟩) (hb.frame (· ∈ pa ++ [])), fun h => by cases h⟩
 simpa using hp
def FzA (w : World) : FzT := fun b _ => b < w.heap.size
theorem law_calls {f : FuncId} {vs : List Value} {qs : List (Bool × List PV)} (hs : SCall P f qs (resRV [(false, [PV.val (.bool true)])])) (hr : RelT qs (FzA W) W vs) : Calls P f vs.toArray W fun e w' => e = .returned (.bool true) ∧ Below W.heap.size W w' :=
 (hs W vs (FzA W) (fun _ _ h => h) hr).mono fun e w' ⟨v, Fz', F, he, hb, _, _, hv, _⟩ => ⟨by rw [he, (SvOwn.sc (hv fun _ => 0)).1], hb⟩
def OpenT (P : Program) (T : TypeId) {α : Type} (f : α → List PV) (g : α → Prop) : Prop :=
 ∀ {H : Type} (enc : TypeId × Value → H) (w : World) (sp : Nat → Bool) (held : Bool) (n : Nat) (cs : List Value) (x : DataW H × List MemPlace), DataW.trod enc P w 0 sp held n T cs = some x → ∃ a, RelL (f a) (FzA w) w cs ∧ g a
theorem open_sl {T E e : TypeId} {α : Type} {f : α → List PV} (hu : P.underlying T = some (.slice E)) (hc : P.cellsOf E = e) (he : 0 < e) {g : α → Prop} (hf : OpenT P E f g) (hlen : ∀ a, (f a).length = e) : OpenT P T (fun xs : List α => [PV.sl .v (xs.map f)]) fun xs => ∀ x ∈ xs, g x := by
 intro H enc w sp held n cs x hx
 subst hc
 rcases Deep.open_slice hu hx with ⟨rfl, _⟩ | ⟨a, len, cap, m, n', D, Pl, rfl, _, hlc, hcm, hm, _, hel⟩
 ·exact ⟨[], ⟨_, [], rfl, ⟨⟨none, 0, 0, fun _ _ => undef, rfl, Nat.le_refl _, Nat.zero_le _, by simp, .inl rfl, by simp⟩, True.intro⟩, rfl⟩, by simp⟩
 ·have hlm : len ≤ m := by rw [hm]; split <;> omega
  have key : ∀ i, i < len → ∃ (y : α × List Value), w.cells? 0 (a.add (i * P.cellsOf E)) (P.cellsOf E) = some y.2 ∧ RelL (f y.1) (FzA w) w y.2 ∧ g y.1 := by
   intro i hi
   obtain ⟨cs', h1, h2⟩ := hel i (by omega)
   obtain ⟨y, hy⟩ := hf enc w sp held n' cs' _ h2
   exact ⟨(y, cs'), h1, hy⟩
  by_cases hl0 : len = 0
  ·subst hl0
   exact ⟨[], ⟨_, [], rfl, ⟨⟨some a, cap, 0, fun _ _ => undef, rfl, Nat.zero_le _, hcm, by simp, .inl rfl, by simp⟩, True.intro⟩, rfl⟩, by simp⟩
  ·obtain ⟨y0, _, _⟩ := key 0 (by omega)
   have : Inhabited (α × List Value) := ⟨y0⟩
   obtain ⟨F, hF⟩ := Deep.choose_lt key
   obtain ⟨b, off, spt⟩ := a
   have hspt : spt = none := by
    obtain ⟨_, h2, h3⟩ := World.cells?_some (hF 0 (by omega)).1
    have h4 := h3 0 he
    rw [List.getElem?_eq_getElem (by rw [h2]; exact he), Nat.zero_mul] at h4
    cases spt with
    | none => rfl
    | some s => simp [Addr.add, World.cell?] at h4; split at h4 <;> simp at h4
   subst hspt
   have hcell : ∀ i j, i < len → j < P.cellsOf E → w.cell? ⟨b, off + (i * P.cellsOf E + j), none⟩ = some ((F i).2.getD j undef) := by
    intro i j hi hj
    obtain ⟨_, h2, h3⟩ := World.cells?_some (hF i hi).1
    have h4 := h3 j hj
    rw [add_lit, add_lit, Nat.add_assoc] at h4
    rw [h4, List.getD_eq_getElem?_getD, List.getElem?_eq_getElem (by rw [h2]; exact hj)]; rfl
   refine ⟨(List.range len).map fun i => (F i).1, ⟨_, [], rfl, ⟨⟨some ⟨b, off, none⟩, cap, P.cellsOf E, fun i j => (F i).2.getD j undef, by simp, by simpa using hlc, hcm, ?_, .inr ⟨b, off, rfl, ?_⟩, ?_⟩, True.intro⟩, rfl⟩, ?_⟩
   ·intro cs hcs
    obtain ⟨y, _, rfl⟩ := List.mem_map.1 hcs
    exact hlen y
   ·intro i j hi hj
    have hi' : i < len := by simpa using hi
    have h := hcell i j hi' hj
    exact ⟨World.block_lt_of_cell? w _ h, h⟩
   ·intro i cs j p hi hj
    have hi' : i < len := by have := (List.getElem?_eq_some_iff.1 hi).1; simpa using this
    simp [hi'] at hi
    subst hi
    obtain ⟨v, hv, hr⟩ := (hF i hi').2.1.at_ hj
    show p.rel _ _ ((F i).2.getD j undef)
    rw [List.getD_eq_getElem?_getD, hv]; exact hr
   ·intro y hy
    obtain ⟨i, hi, rfl⟩ := List.mem_map.1 hy
    exact (hF i (List.mem_range.1 hi)).2.2
def fieldsI (P : Program) (T : TypeId) : Option (List (TypeId × Nat × Nat)) := match P.underlying T with
 | some (.struct fs) => some (fs.toList.map fun f => (f.type, f.offset, P.cellsOf f.type))
 | _ => none
theorem open_arg {T : TypeId} {ag : Bool} {k : Nat} {α : Type} {f : α → List PV} {g : α → Prop} (hT : tyI P T = some (ag, k)) (hs : OpenT P T f g) {w : World} {r : Reach} {b0 : Nat} {v : Value} {d : DataW H} {ps : List MemPlace} (hval : Value.okWide P w r b0 T v) (h : DataW.Trod enc P w 0 (fun _ => true) true T v d ps) :
  ∃ a, SvRel ag (f a) (FzA w) w v ∧ g a := by
 obtain ⟨n, hn⟩ := h
 obtain ⟨a, ha, hg⟩ := hs enc w _ _ n _ _ hn
 refine ⟨a, ⟨?_, ha⟩, hg⟩
 unfold tyI at hT
 cases hu : P.underlying T with
 | none => rw [hu] at hT; cases hT
 | some dd =>
  cases hi : P.info? T with
  | none => rw [hu, hi] at hT; cases hT
  | some i =>
   rw [hu, hi] at hT
   simp only [Option.some.injEq, Prod.mk.injEq] at hT
   obtain ⟨hT, _⟩ := hT
   unfold Value.okWide at hval
   rw [hu] at hval
   cases dd <;> simp only at hT hval <;> subst hT <;> first
    | (obtain ⟨cs, rfl, _⟩ := hval; rfl)
    | (cases v <;> first | rfl | (simp [Cell.okWide, Cell.ok, hu] at hval))
end
end Go.Proofs.Ytmekkgdboplbjaa.M
/- Short forms for calls that want what is known of tables; what a text reads as. No condition. -/
set_option linter.unusedVariables false
namespace Go.Proofs.Ytmekkgdboplbjaa.M
open Go Go.RowKit
section
variable {P : Program} {n d : Nat} {ty : TypeId} {pos : String} {af : Array Edge} {g : Option (Nat × Bool)} {G : Glob}
end
end Go.Proofs.Ytmekkgdboplbjaa.M
/- A pointer to a new variable beside other results. No condition. -/
set_option linter.unusedVariables false
namespace Go.Proofs.Ytmekkgdboplbjaa.M
open Go Go.RowKit
def PV.np (t : Nat) (cs : List PV) : PV where
 rel _ _ v := ∃ g, v = .pointer (some ⟨g, 0, none⟩)
 own Fz w v F := ∃ g cur F', v = .pointer (some ⟨g, 0, none⟩) ∧ w.heap[g]? = some (.cells cur t (0, 0)) ∧ (∀ o, ¬ Fz g o) ∧ OwnL cs Fz w cur.toList F' ∧ F = g :: F'
 one h := by obtain ⟨g, rfl⟩ := h; rfl
 toRel h := by obtain ⟨g, _, _, rfl, _⟩ := h; exact ⟨g, rfl⟩
 relMono h _ := h
 ownMono h k hh := by
  obtain ⟨g, cur, F', rfl, h1, h2, h3, rfl⟩ := h
  exact ⟨g, cur, F', rfl, (hh g (by simp)).1.trans h1, fun o ho => h2 o ((hh g (by simp)).2 o ho), h3.mono k (hh.sub fun b hb => by simp [hb]), rfl⟩
 lt h := by
  obtain ⟨g, cur, F', rfl, h1, h2, h3, rfl⟩ := h
  intro b hb
  rcases List.mem_cons.1 hb with rfl | hb
  ·exact (Array.getElem?_eq_some_iff.1 h1).1
  ·exact h3.lt b hb
section
variable {h0 : Nat → Prop} {n : Nat} {w0 w : World} {Fz0 Fz : FzT} {σ : St} {a : Act} {φ : Nat → Nat} {Fp : Nat → List Nat} {P : Program} {c : Code} {Q : Exit → St → Prop}
end
end Go.Proofs.Ytmekkgdboplbjaa.M
/- Short names for what the printed texts say often. No condition. -/
set_option linter.unusedVariables false
namespace Go.Proofs.Ytmekkgdboplbjaa.M
open Go
inductive PkS (s : Nat → Option RV) : List Nat → List (Nat × RV) → Prop
 | nil : PkS s [] []
 | cons {k : Nat} {v : RV} {ks : List Nat} {l : List (Nat × RV)} (h : s k = some v) (t : PkS s ks l) : PkS s (k :: ks) ((k, v) :: l)
theorem PkS.rd {s : Nat → Option RV} {ks : List Nat} {l : List (Nat × RV)} (h : PkS s ks l) : RdL l s := by
 induction h with
 | nil => exact True.intro
 | cons h _ ih => exact And.intro h ih
inductive PkB (b : Nat → Option (Nat × List PV)) : List Nat → List (Nat × (Nat × List PV)) → Prop
 | nil : PkB b [] []
 | cons {k : Nat} {v : Nat × List PV} {ks : List Nat} {l : List (Nat × (Nat × List PV))} (h : b k = some v) (t : PkB b ks l) : PkB b (k :: ks) ((k, v) :: l)
theorem PkB.rd {b : Nat → Option (Nat × List PV)} {ks : List Nat} {l : List (Nat × (Nat × List PV))} (h : PkB b ks l) : RdL l b := by
 induction h with
 | nil => exact True.intro
 | cons h _ ih => exact And.intro h ih
theorem qq : (∀ {p : Prop} [Decidable p], (decide p = true) = p) ∧ (∀ {p : Prop} [Decidable p], decide p = false ↔ ¬ p) ∧ (∀ {α : Type} [BEq α] [LawfulBEq α] {a b : α}, (a != b) = true ↔ a ≠ b) ∧ (∀ {α : Type} [BEq α] [LawfulBEq α] {a b : α}, (a == b) = true ↔ a = b) ∧ (∀ {b : Bool}, ((!b) = true) = (b = false)) ∧ (∀ {b : Bool}, ((!b) = false) = (b = true)) ∧ (∀ {α : Type} {a b : α}, (a ≠ b) = ¬ a = b) ∧ (∀ {α : Type} [BEq α] [LawfulBEq α] {a b : α}, (a != b) = false ↔ a = b) ∧ (∀ {α : Type} [BEq α] [LawfulBEq α] {a b : α}, (a == b) = false ↔ a ≠ b) :=
 ⟨q1, q2, q3, q4, q5, q6, q7, q8, q9⟩
theorem lcA {L : Nat → Prop} {a b : List PV} (h : LclC L a) (k : LclC L b) : LclC L (List.append a b) := LclC.app h k
theorem lc {G : Prop} (h : G := by repeat' (first | with_reducible (first | exact LclA.nil | exact LclC.nil | exact LclC.vals | exact PV.lcl_val | exact PV.lcl_any | exact RV.lcl_hdr | exact RV.lcl_ptr | exact RV.lcl_gat | exact RV.lcl_phi | apply LclA.cons | apply LclC.cons | apply RV.lcl_nm | apply RV.lcl_sv | apply RV.lcl_gh | apply PV.lcl_nv | apply PV.lcl_own | apply LclC.flat | apply LclC.app | apply lcA | refine LclC.map fun _ => ?_) | apply LclC.cons | apply LclA.cons | exact LclC.nil | refine LclC.map fun _ => ?_)) : G := h
theorem aI {a b : Prop} (x : a) (y : b) : a ∧ b := ⟨x, y⟩
theorem tI : True := True.intro
theorem nl {a b : Nat} (h : Nat.ble a b = true) : a ≤ b := Nat.le_of_ble_eq_true h
section
variable {P : Program} {n : Nat} {h0 : Nat → Prop} {w0 : World} {Fz0 : FzT} {c x y : Code} {σ : St} {Q : Exit → St → Prop}
theorem sP (ks bs : List Nat) {l : List (Nat × RV)} {b : List (Nat × (Nat × List PV))} (h : SW P n h0 w0 Fz0 c (St.of l b) Q) (hl : PkS σ.s ks l := by repeat (first | exact PkS.nil | apply PkS.cons rfl)) (hb : PkB σ.b bs b := by repeat (first | exact PkB.nil | apply PkB.cons rfl)) : SW P n h0 w0 Fz0 c σ Q := sO l b h hl.rd hb.rd
theorem sS {id : Nat} {ops : Array Oper} (ks bs : List Nat) {l : List (Nat × RV)} {b : List (Nat × (Nat × List PV))} (h : RunS P n ops (fun τ => thenS (fun τ => SW P n h0 w0 Fz0 y τ Q) Q .normal τ) ops.toList (St.of l b)) (hl : PkS σ.s ks l := by repeat (first | exact PkS.nil | apply PkS.cons rfl)) (hb : PkB σ.b bs b := by repeat (first | exact PkB.nil | apply PkB.cons rfl)) : SW P n h0 w0 Fz0 (.seq (.region id ops false) y) σ Q := sw_seq (sO l b (sw_reg h) hl.rd hb.rd)
theorem sG {id : Nat} {ops : Array Oper} (ks bs : List Nat) {l : List (Nat × RV)} {b : List (Nat × (Nat × List PV))} (h : RunS P n ops (fun τ => Q .normal τ) ops.toList (St.of l b)) (hl : PkS σ.s ks l := by repeat (first | exact PkS.nil | apply PkS.cons rfl)) (hb : PkB σ.b bs b := by repeat (first | exact PkB.nil | apply PkB.cons rfl)) : SW P n h0 w0 Fz0 (.region id ops false) σ Q := sO l b (sw_reg h) hl.rd hb.rd
theorem sL {ι : Type} (ks bs : List Nat) (I : ι → Prop) {l0 : List (Nat × RV)} {b0 : List (Nat × (Nat × List PV))} (l : ι → List (Nat × RV)) (b : ι → List (Nat × (Nat × List PV))) (m : ι → Nat) (i0 : ι) (h0' : I i0) (hl : RdL (l i0) σ.s) (hb : RdL (b i0) σ.b)
  (round : ∀ i, I i → SW P n h0 w0 Fz0 c (St.of (l0 ++ l i) (b0 ++ b i)) (thenS (fun τ => ∃ j, I j ∧ m j < m i ∧ (RdL l0 τ.s ∧ RdL b0 τ.b) ∧ RdL (l j) τ.s ∧ RdL (b j) τ.b) Q)) (hl0 : PkS σ.s ks l0 := by repeat (first | exact PkS.nil | apply PkS.cons rfl)) (hb0 : PkB σ.b bs b0 := by repeat (first | exact PkB.nil | apply PkB.cons rfl)) : SW P n h0 w0 Fz0 (.loop c) σ Q := sw_loop I l b m i0 h0' hl0.rd hb0.rd hl hb round
theorem sR {id : Nat} {ops : Array Oper} (h : RunS P n ops (fun τ => thenS (fun τ => SW P n h0 w0 Fz0 y τ Q) Q .normal τ) ops.toList σ) : SW P n h0 w0 Fz0 (.seq (.region id ops false) y) σ Q := sw_seq (sw_reg h)
end
section
variable {P : Program} {n : Nat} {ops : Array Oper} {σ : St} {QS : St → Prop} {l : List Oper} {d x : Nat} {ty : TypeId} {pos : String} {af : Array Edge}
theorem rM {v : Value} (y : RunS P n ops QS l (σ.app ⟨[(x, RV.sc v)], [], [(d, some (RV.sc v))], [], none⟩)) (h1 : RdL [(x, RV.sc v)] σ.s := by repeat (first | exact True.intro | refine And.intro rfl ?_)) (hd : d < n := by decide) : RunS P n ops QS (⟨some d, .move (.tmp x), ty, pos, af, none⟩ :: l) σ := rA y h1 True.intro (sM hd) rfl rfl
theorem rS {v : Value} (y : RunS P n ops QS l (σ.app ⟨[(x, RV.sc v)], [], [(d, some (RV.sc v))], [], none⟩)) (h1 : RdL [(x, RV.sc v)] σ.s := by repeat (first | exact True.intro | refine And.intro rfl ?_)) (hd : d < n := by decide) : RunS P n ops QS (⟨some d, .assign (.tmp x), ty, pos, af, none⟩ :: l) σ := rA y h1 True.intro (sA hd) rfl rfl
theorem rK {v : Value} (y : RunS P n ops QS l (σ.app ⟨[], [], [(d, some (RV.sc v))], [], none⟩)) (h : v.oneCell' = true := by exact rfl) (hd : d < n := by decide) : RunS P n ops QS (⟨some d, .assign (.const v), ty, pos, af, none⟩ :: l) σ := rA y True.intro True.intro (kA h hd) rfl rfl
end
end Go.Proofs.Ytmekkgdboplbjaa.M
/- Shorter forms of what the printed texts say often. No condition. -/
set_option linter.unusedVariables false
namespace Go.Proofs.Ytmekkgdboplbjaa.M
open Go Go.RowKit
inductive Spn : List PV → List PV → Prop
 | nil : Spn [] []
 | val {v : Value} {l m : List PV} (h : Spn l m) : Spn (PV.val v :: l) (PV.val v :: m)
 | sl {o : Fl} {es : List (List PV)} {l m : List PV} (h : Spn l m) : Spn (PV.sl o es :: l) (PV.sl o es :: m)
theorem Spn.eq {l m : List PV} (h : Spn l m) : l = m := by
 induction h with
 | nil => rfl
 | val _ ih => rw [ih]
 | sl _ ih => rw [ih]
inductive PkC (b : Nat → Option (Nat × List PV)) : List Nat → List (Nat × (Nat × List PV)) → Prop
 | nil : PkC b [] []
 | cons {k T : Nat} {cs ds : List PV} {ks : List Nat} {l : List (Nat × (Nat × List PV))} (h : b k = some (T, cs)) (e : Spn cs ds) (t : PkC b ks l) : PkC b (k :: ks) ((k, (T, ds)) :: l)
 | any {k T : Nat} {cs : List PV} {ks : List Nat} {l : List (Nat × (Nat × List PV))} (h : b k = some (T, cs)) (t : PkC b ks l) : PkC b (k :: ks) ((k, (T, cs)) :: l)
theorem PkC.rd {b : Nat → Option (Nat × List PV)} {ks : List Nat} {l : List (Nat × (Nat × List PV))} (h : PkC b ks l) : RdL l b := by
 induction h with
 | nil => exact True.intro
 | cons h e _ ih => exact And.intro (e.eq ▸ h) ih
 | any h _ ih => exact And.intro h ih
section
variable {P : Program} {n : Nat} {h0 : Nat → Prop} {w0 : World} {Fz0 : FzT} {c x y : Code} {σ : St} {Q : Exit → St → Prop}
theorem sQ (ks bs : List Nat) {l : List (Nat × RV)} {b : List (Nat × (Nat × List PV))} (h : SW P n h0 w0 Fz0 c (St.of l b) Q) (hl : PkS σ.s ks l := by repeat (first | exact PkS.nil | apply PkS.cons rfl)) (hb : PkC σ.b bs b := by repeat (first | exact PkC.nil | refine PkC.cons rfl (by repeat (first | exact Spn.nil | apply Spn.val | apply Spn.sl)) ?_ | apply PkC.any rfl)) : SW P n h0 w0 Fz0 c σ Q := sO l b h hl.rd hb.rd
theorem sT {id : Nat} {ops : Array Oper} (ks bs : List Nat) {l : List (Nat × RV)} {b : List (Nat × (Nat × List PV))} (h : RunS P n ops (fun τ => thenS (fun τ => SW P n h0 w0 Fz0 y τ Q) Q .normal τ) ops.toList (St.of l b)) (hl : PkS σ.s ks l := by repeat (first | exact PkS.nil | apply PkS.cons rfl)) (hb : PkC σ.b bs b := by repeat (first | exact PkC.nil | refine PkC.cons rfl (by repeat (first | exact Spn.nil | apply Spn.val | apply Spn.sl)) ?_ | apply PkC.any rfl)) : SW P n h0 w0 Fz0 (.seq (.region id ops false) y) σ Q := sw_seq (sO l b (sw_reg h) hl.rd hb.rd)
theorem sH {id : Nat} {ops : Array Oper} (ks bs : List Nat) {l : List (Nat × RV)} {b : List (Nat × (Nat × List PV))} (h : RunS P n ops (fun τ => Q .normal τ) ops.toList (St.of l b)) (hl : PkS σ.s ks l := by repeat (first | exact PkS.nil | apply PkS.cons rfl)) (hb : PkC σ.b bs b := by repeat (first | exact PkC.nil | refine PkC.cons rfl (by repeat (first | exact Spn.nil | apply Spn.val | apply Spn.sl)) ?_ | apply PkC.any rfl)) : SW P n h0 w0 Fz0 (.region id ops false) σ Q := sO l b (sw_reg h) hl.rd hb.rd
theorem nx {ι : Type} {I : ι → Prop} {m : ι → Nat} {M : Nat} {C D : Prop} {E F : ι → Prop} (j : ι) (a : I j) (b : m j < M := by first | omega | (dsimp only; omega)) (c : C := by repeat (first | exact True.intro | refine And.intro rfl ?_)) (d : D := by repeat (first | exact True.intro | refine And.intro rfl ?_)) (e : E j := by repeat (first | exact True.intro | refine And.intro rfl ?_)) (f : F j := by repeat (first | exact True.intro | refine And.intro rfl ?_)) : ∃ j, I j ∧ m j < M ∧ (C ∧ D) ∧ E j ∧ F j := ⟨j, a, b, ⟨c, d⟩, e, f⟩
theorem sF {f : FuncId} {fn : Func} {c : Code} {args rs : List (Bool × List PV)} (hf : P.funcs[f]? = some fn) (h : ∀ (h0 : Nat → Prop) (w0 : World) (Fz0 : FzT), SW P fn.ntmps h0 w0 Fz0 c (St.of (argsL 0 args) []) (endS P fn.results.toList rs)) (hb : fn.body = some c := by exact rfl) (hn : args.length ≤ fn.ntmps := by exact Nat.le_of_ble_eq_true rfl)
  (hbor : BorA args := by repeat (first | with_reducible exact borA_nil | with_reducible refine borA_cons (by repeat (first | with_reducible exact BorL.nil | with_reducible refine BorL.cons (PV.bor_val _) ?_ | with_reducible refine BorL.cons (PV.bor_sl _) ?_ | with_reducible refine BorL.cons (PV.bor_lo _ _) ?_)) ?_)) : SCall P f args (resRV rs) := scall_of hf hb hn hbor h
theorem sn (s j : Nat) {ag : Bool} {cs : List PV} {o : Fl} {es : List (List PV)} {m : Nat} (h : m ≤ 9223372036854775807 → SW P n h0 w0 Fz0 c σ Q) (hs : σ.s s = some (RV.sv ag cs) := by exact rfl) (hj : cs[j]? = some (PV.sl o es) := by exact rfl) (hm : es.length = m := by first | exact List.length_map _ | exact rfl) : SW P n h0 w0 Fz0 c σ Q := sw_slen hs hj fun k => h (hm ▸ k)
theorem sj (s : Nat) {o : Fl} {es : List (List PV)} {m : Nat} (h : m ≤ 9223372036854775807 → SW P n h0 w0 Fz0 c σ Q) (hs : σ.s s = some (RV.slc o es) := by exact rfl) (hm : es.length = m := by first | exact List.length_map _ | exact rfl) : SW P n h0 w0 Fz0 c σ Q := sw_len hs fun k => h (hm ▸ k)
theorem sc {t : Nat} {b : Bool} {A B : Prop} (h1 : A → SW P n h0 w0 Fz0 x σ Q) (h2 : B → SW P n h0 w0 Fz0 y σ Q) (ht : σ.s t = some (RV.bool b) := by exact rfl) (u1 : b = true → A := by first | (intro h; simp only [qq] at h; exact h) | exact id) (u2 : b = false → B := by first | (intro h; simp only [qq] at h; exact h) | exact id) : SW P n h0 w0 Fz0 (.cond (.tmp t) x y) σ Q := sw_cond ht (fun k => h1 (u1 k)) (fun k => h2 (u2 k))
theorem scT {t : Nat} (h1 : SW P n h0 w0 Fz0 x σ Q) (ht : σ.s t = some (RV.bool true) := by exact rfl) : SW P n h0 w0 Fz0 (.cond (.tmp t) x y) σ Q := sw_cond ht (fun _ => h1) (fun k => nomatch k)
theorem scF {t : Nat} (h1 : SW P n h0 w0 Fz0 y σ Q) (ht : σ.s t = some (RV.bool false) := by exact rfl) : SW P n h0 w0 Fz0 (.cond (.tmp t) x y) σ Q := sw_cond ht (fun k => nomatch k) (fun _ => h1)
end
section
variable {P : Program} {n : Nat} {ops : Array Oper} {σ σ0 : St} {QS : St → Prop} {l : List Oper} {o : Oper} {acc : List (Nat × Step)} {C : Nat → Step → Prop}
theorem cx (s : Nat) {b : Bool} {A B : Prop} (h1 : b = true → A → RunS P n ops QS l σ) (h2 : b = false → B → RunS P n ops QS l σ) (ht : σ.s s = some (RV.bool b) := by exact rfl) (u1 : b = true → A := by first | (intro h; simp only [qq] at h; exact h) | exact id) (u2 : b = false → B := by first | (intro h; simp only [qq] at h; exact h) | exact id) : RunS P n ops QS l σ := RunS.cases ht (fun k => h1 k (u1 k)) (fun k => h2 k (u2 k))
theorem dx (s : Nat) {b : Bool} {A B : Prop} (h1 : b = true → A → Run P n ops σ0 C QS l acc σ) (h2 : b = false → B → Run P n ops σ0 C QS l acc σ) (ht : σ.s s = some (RV.bool b) := by exact rfl) (u1 : b = true → A := by first | (intro h; simp only [qq] at h; exact h) | exact id) (u2 : b = false → B := by first | (intro h; simp only [qq] at h; exact h) | exact id) : Run P n ops σ0 C QS l acc σ := Run.cases ht (fun k => h1 k (u1 k)) (fun k => h2 k (u2 k))
inductive Hd (H : Prop) : Prop
 | mk (h : H) : Hd H
theorem Hd.get {H : Prop} : Hd H → H := fun x => by cases x with | mk h => exact h
theorem zt {c : Bool} {G H : Prop} (g : c = true) (h : H) (w : c = true → Hd H → G := by intro g_ h_; (repeat (first | refine RunS.s0t g_ ?_ | refine RunS.su ?_)); exact h_.get) : G := w g ⟨h⟩
theorem zf {c : Bool} {G H : Prop} (g : c = false) (h : H) (w : c = false → Hd H → G := by intro g_ h_; (repeat (first | refine RunS.s0f g_ ?_ | refine RunS.su ?_)); exact h_.get) : G := w g ⟨h⟩
theorem rX {L : Step} (y : RunS P n ops QS l (σ.app L)) (h1 : RdL L.rs σ.s := by repeat (first | exact True.intro | refine And.intro rfl ?_)) (h2 : RdL L.rb σ.b := by repeat (first | exact True.intro | refine And.intro rfl ?_)) (x : Loc P n o L) (hg : o.guard = none := by exact rfl) (ha : ∀ d, L.al = some d → Free d σ := by refine free1 ?_; repeat (first | exact Free.of_ rfl | refine Free.app ?_ rfl)) : RunS P n ops QS (o :: l) σ := RunS.step h1 h2 (LocG.of hg x) ha y
theorem dX {L : Step} (m : Nat) (y : Run P n ops σ0 C QS l (acc ++ [(m, L)]) (σ.app L)) (h1 : RdL L.rs σ.s := by repeat (first | exact True.intro | refine And.intro rfl ?_)) (h2 : RdL L.rb σ.b := by repeat (first | exact True.intro | refine And.intro rfl ?_)) (x : Loc P n o L) (hg : o.guard = none := by exact rfl) (ha : ∀ d, L.al = some d → Free d σ0 := by exact nofree) (h4 : chkE m o L acc = true := by kernel_rfl) (hC : C acc.length L := by show (List.all _ _) = true; kernel_rfl) : Run P n ops σ0 C QS (o :: l) acc σ := Run.stepC m h1 h2 (LocG.of hg x) ha h4 hC y
end
theorem rb {b c : Bool} (h : b = c) : some (RV.bool b) = some (RV.bool c) ∧ True := ⟨bool_eq h, True.intro⟩
theorem lcE {L : Nat → Prop} : ∀ cs, cs ∈ ([] : List (List PV)) → LclC L cs := fun _ h => nomatch h
theorem lcF {L : Nat → Prop} : ∀ cs, cs ∈ ([] : List (List PV)) → LclRC L cs := fun _ h => nomatch h
theorem lq {G : Prop} (h : G := by repeat' (first | with_reducible (first | exact LclC.nil | exact LclC.vals | exact LclRC.nil | exact PV.lcl_val | exact PV.lclr_val | exact PV.lcl_any | exact RV.lcl_hdr | exact RV.lcl_ptr | exact RV.lcl_gat | exact RV.lcl_phi | exact BorL.nil | exact PV.bor_val _ | exact PV.bor_sl _ | exact PV.bor_lo _ _ | exact PV.bor_any | exact PV.bor_clo _ _ | exact PV.bor_ep _ | apply PV.bor_nv | exact borA_nil | exact ToBL.nil | exact PV.tob_refl | exact OwnTo.nil | exact OTo.refl | exact OTo.lo | apply LclC.cons | apply LclRC.cons | apply BorL.cons | apply borA_cons | apply ToBL.cons | apply OwnTo.cons | apply RV.lcl_nm | apply RV.lcl_sv | apply RV.lcl_gh | apply PV.lcl_nv | apply PV.lcl_own | apply PV.lcl_lo | apply PV.lclr_lo | apply LclC.flat | apply LclC.app | apply lcA | refine LclC.map fun _ => ?_ | refine LclRC.map fun _ => ?_ | refine PV.tob_map (fun _ => Nat.le_of_ble_eq_true rfl) (fun _ => ?_) | exact True.intro) | apply LclC.cons | apply LclRC.cons | apply ToBL.cons | apply BorL.cons | apply borA_cons | exact LclC.nil | exact LclRC.nil | exact ToBL.nil | exact BorL.nil | exact borA_nil | exact lcE | exact lcF | apply OwnTo.cons | apply RV.lcl_sv | exact RV.lcl_ptr | exact True.intro | exact Or.inl rfl | (refine Or.inl ?_; simp [tmpsO]; done) | refine Or.inr ?_ | refine And.intro rfl ?_ | refine And.intro ?_ ?_ | exact rfl | refine LclC.map fun _ => ?_)) : G := h
end Go.Proofs.Ytmekkgdboplbjaa.M
/- The elements of a slice are lent by name, and one of them is taken back in a slot. No condition. -/
set_option linter.unusedVariables false
namespace Go.Proofs.Ytmekkgdboplbjaa.M
open Go Go.RowKit
theorem ownLL_names {α : Type} {f g : α → List PV} {fN : α × (Nat → Value) → List PV} {e : Nat} (hN : ∀ x h, fN (x, h) = nvI h 0 (g x)) (hg : ∀ x, (g x).length = e) (hq : ∀ x, ToL (f x) (g x)) (hb : ∀ x, BorL (g x)) {Fz : FzT} {w : World} : ∀ {xs : List α} {css : List Value} {F : List Nat}, OwnLL e (xs.map f) Fz w css F →
  ∃ zs : List (α × (Nat → Value)), zs.map Prod.fst = xs ∧ css = valsE e zs ∧ OwnLL e (zs.map fN) Fz w css [] ∧ OwnL (flatM f zs) Fz w (valsE e zs) F
 | [], css, F, h => by
  obtain ⟨rfl, rfl⟩ := h
  exact ⟨[], rfl, rfl, ⟨rfl, rfl⟩, ⟨rfl, rfl⟩⟩
 | x :: xs, css, F, h => by
  obtain ⟨c, d, F1, F2, rfl, rfl, hl, h1, h2⟩ := h
  obtain ⟨zs, e1, e2, e3, e4⟩ := ownLL_names hN hg hq hb h2
  obtain ⟨k, hk⟩ := chunk_fn hl
  refine ⟨(x, k) :: zs, by rw [List.map_cons, e1], ?_, ?_, ?_⟩
  ·rw [hk, e2]; rfl
  ·refine ⟨c, d, [], [], rfl, rfl, hl, ?_, e3⟩
   rw [hN, nvI_eq, hg, ← List.range_eq_range', ← hk]
   exact own_nvL (hb x) ((hq x).rel h1.rel)
  ·have : OwnL (f x ++ flatM f zs) Fz w (c ++ valsE e zs) (F1 ++ F2) := h1.append e4
   rw [hk] at this; exact this
section
variable {P : Program} {n : Nat} {h0 : Nat → Prop} {w0 : World} {Fz0 : FzT} {σ : St} {Q : Exit → St → Prop} {c : Code}
theorem sw_lendE {s t e G : Nat} {α : Type} {f g : α → List PV} {fN : α × (Nat → Value) → List PV} {xs : List α} (hs : σ.s s = some (RV.sv false [PV.sl (.own t e) (xs.map f)])) (hsG : Nat.beq s G = false) (hG : σ.s G = none) (hN : ∀ x h, fN (x, h) = nvI h 0 (g x)) (hg : ∀ x, (g x).length = e) (hq : ∀ x, ToL (f x) (g x)) (hb : ∀ x, BorL (g x))
  (h : ∀ zs : List (α × (Nat → Value)), zs.map Prod.fst = xs → SW P n h0 w0 Fz0 c ((σ.set s (some (RV.sv false [PV.sl .v (zs.map fN)]))).set G (some (RV.gh (valsE e zs) (flatM f zs)))) Q) : SW P n h0 w0 Fz0 c σ Q := fun a w hc => by
 rw [beq_eq, decide_eq_false_iff_not] at hsG
 obtain ⟨φ, Fz, Fp, hc⟩ := hc
 have hv : SvOwn false [PV.sl (.own t e) (xs.map f)] Fz w (a.tmps.getD s undef) (Fp (2 * s + 1)) := hc.slot s _ hs
 obtain ⟨hag, v, vs', F1, F2, hv1, hF, ho, hnil, rfl⟩ := hv
 subst hnil
 have ho : SlOwn t e (xs.map f) Fz w v F1 := ho
 obtain ⟨css, F', hrow, hll, hfz, rfl, hone⟩ := ho
 obtain ⟨zs, e1, e2, e3, e4⟩ := ownLL_names hN hg hq hb hll
 have hlen : (zs.map fN).length = (xs.map f).length := by rw [List.length_map, List.length_map, ← e1, List.length_map]
 have hsl : SlOwn t e (zs.map fN) Fz w v (v.ownBlock.toList ++ []) := ⟨css, [], by rw [hlen]; exact hrow, e3, fun g hg o => by rw [hlen]; exact hfz g hg o, rfl, hone⟩
 have c1 := hc.pull s
 have e0 : mv Fp (2 * s + 1) 0 = Fp (2 * s + 1) ++ Fp 0 := by simp [mv]
 have es : mv Fp (2 * s + 1) (2 * s + 1) = [] := by simp [mv]
 have hnd := c1.nod 0
 rw [e0, hF, List.append_nil] at hnd
 rw [hF, List.append_nil] at e0
 have c2 := c1.reslot (s := s) (rv := RV.sv false [PV.sl .v (zs.map fN)]) (by
  rw [es]
  exact ⟨hag, v, [], [], [], hv1, rfl, ⟨hsl.rel, rfl⟩, rfl, rfl⟩)
 have c3 := c2.pushG (G := G) (us := valsE e zs) (cs := flatM f zs) (F := F') (X := Fp 0) e4 (fun b hb => by
   rw [e0]
   rcases List.mem_append.1 hb with hb | hb
   ·simp [hb]
   ·simp [hb])
  (by
   rw [List.append_assoc] at hnd
   exact (List.nodup_append.1 hnd).2.1)
 exact h zs e1 a w (Conc.eqv ⟨_, _, _, c3⟩ (fun i => by
  simp only [St.set_s]
  split
  ·rfl
  ·split <;> rfl) (fun d => rfl))
theorem sw_mergeG {G H e : Nat} {α : Type} {f : α → List PV} {ys zs : List (α × (Nat → Value))} (hG : σ.s G = some (RV.gh (valsE e ys) (flatM f ys))) (hH : σ.s H = some (RV.gh (valsE e zs) (flatM f zs))) (hGH : Nat.beq G H = false) (h : SW P n h0 w0 Fz0 c ((σ.set H none).set G (some (RV.gh (valsE e (ys ++ zs)) (flatM f (ys ++ zs))))) Q) : SW P n h0 w0 Fz0 c σ Q := fun a w hc => by
 rw [beq_eq, decide_eq_false_iff_not] at hGH
 obtain ⟨φ, Fz, Fp, hc⟩ := hc
 have h1 : OwnL (flatM f ys) Fz w (valsE e ys) (Fp (2 * G + 1)) := hc.slot G _ hG
 have h2 : OwnL (flatM f zs) Fz w (valsE e zs) (Fp (2 * H + 1)) := hc.slot H _ hH
 have ho : OwnL (flatM f (ys ++ zs)) Fz w (valsE e (ys ++ zs)) (Fp (2 * G + 1) ++ Fp (2 * H + 1)) := by
  have e1 : flatM f (ys ++ zs) = flatM f ys ++ flatM f zs := by simp [flatM]
  have e2 : valsE e (ys ++ zs) = valsE e ys ++ valsE e zs := by simp [valsE]
  rw [e1, e2]; exact h1.append h2
 have c1 := hc.pull H
 have c2 := c1.pull G
 have e1 : mv Fp (2 * H + 1) (2 * G + 1) = Fp (2 * G + 1) := by simp only [mv]; rw [if_neg (by omega), if_neg (by omega)]
 have e2 : mv (mv Fp (2 * H + 1)) (2 * G + 1) 0 = Fp (2 * G + 1) ++ (Fp (2 * H + 1) ++ Fp 0) := by
  rw [← e1]; simp [mv]
 have hnd := c2.nod 0
 rw [e2] at hnd
 have c3 := c2.pushG (G := G) (F := Fp (2 * G + 1) ++ Fp (2 * H + 1)) (X := Fp 0) ho (fun b hb => by rw [e2, ← List.append_assoc]; exact hb) (by rw [List.append_assoc]; exact hnd)
 exact h a w (Conc.eqv ⟨_, _, _, c3⟩ (fun i => by
  simp only [St.set_s]
  split
  ·rfl
  ·rfl) (fun d => rfl))
theorem sw_takeB {d t G e : Nat} {α : Type} {f : α → List PV} {z : α × (Nat → Value)} {zs : List (α × (Nat → Value))} {ps : List PV} (hd : σ.b d = some (t, ps)) (hn : Nm ps ((List.range e).map z.2)) (hf : ∀ x, (f x).length = e) (hG : σ.s G = some (RV.gh (valsE e (z :: zs)) (flatM f (z :: zs))))
  (h : SW P n h0 w0 Fz0 c ((σ.setB d (some (t, f z.1))).set G (some (RV.gh (valsE e zs) (flatM f zs)))) Q) : SW P n h0 w0 Fz0 c σ Q := fun a w hc => by
 obtain ⟨φ, Fz, Fp, hc⟩ := hc
 have hg0 : OwnL (f z.1 ++ flatM f zs) Fz w ((List.range e).map z.2 ++ valsE e zs) (Fp (2 * G + 1)) := hc.slot G _ hG
 obtain ⟨v1, v2, F1, F2, k1, k2, k3, k4⟩ := hg0.split
 obtain ⟨rfl, rfl⟩ := List.append_inj k1 (by rw [k3.len, hf]; simp)
 have c1 := hc.pull G
 have e0 : mv Fp (2 * G + 1) 0 = Fp (2 * G + 1) ++ Fp 0 := by simp [mv]
 obtain ⟨cur, h1, h2⟩ := c1.box d (t, ps) hd
 obtain ⟨g1, g2, g3⟩ := c1.bxb d (t, ps) hd
 have hu : cur.toList = (List.range e).map z.2 := hn h2.rel
 have c2 := c1.pullB (d := d) (cs := (t, ps)) hd
 generalize hFp1 : mv Fp (2 * G + 1) = Fp1 at c1 c2 e0 h2 g3
 have hnd := c2.nod 0
 simp only [if_true] at hnd
 have em : mv Fp1 (2 * d + 2) 0 = Fp1 (2 * d + 2) ++ Fp1 0 := by simp [mv]
 rw [em, e0, k2] at hnd
 rw [k2] at e0
 have c3 := c2.pushB (d := d) (g := φ d) (t := t) (cs := f z.1) (F := F1) (X := F2 ++ Fp 0) (by rw [St.setB_b, if_pos rfl]) h1 (by rw [hu]; exact k3) g2
  (fun x hx => by
   simp only [if_true]
   rw [em, e0]
   rcases List.mem_append.1 hx with hx | hx
   ·simp [hx]
   ·rcases List.mem_cons.1 hx with rfl | hx
    ·simp
    ·rcases List.mem_append.1 hx with hx | hx <;> simp [hx])
  (by
   simp only [List.nodup_cons, List.mem_append] at hnd
   obtain ⟨m0, m1⟩ := hnd
   have m2 := (List.nodup_append.1 m1).2.1
   rw [List.append_assoc, List.nodup_append] at m2
   rw [List.nodup_append]
   refine ⟨m2.1, List.nodup_cons.2 ⟨fun hh => ?_, m2.2.1⟩, fun x hx y hy e => ?_⟩
   ·rcases List.mem_append.1 hh with hh | hh
    ·exact m0 (.inr (.inl (.inr hh)))
    ·exact m0 (.inr (.inr hh))
   ·rcases List.mem_cons.1 hy with rfl | hy
    ·exact m0 (.inr (.inl (.inl (e ▸ hx))))
    ·exact m2.2.2 x hx y hy e)
  (.inl rfl)
 have hn3 := c3.nod 0
 have c4 := c3.pushG (G := G) (F := F2) (X := Fp 0) k4 (fun b hb => by simp only [give]; rw [if_neg (by omega)]; simpa using hb) (by
  simp only [give] at hn3
  rw [if_neg (by omega)] at hn3
  simpa using hn3)
 exact h a w (Conc.eqv ⟨_, _, _, c4⟩ (fun i => by
  simp only [St.set_s, St.setB_s]
  split <;> rfl) (fun e => by
  simp only [St.setB_b, St.set_b]
  split <;> rfl))
theorem sw_lendEB {d T t e G : Nat} {A B : List PV} {α : Type} {f g : α → List PV} {fN : α × (Nat → Value) → List PV} {xs : List α} (hd : σ.b d = some (T, A ++ (PV.sl (.own t e) (xs.map f) :: B))) (hG : σ.s G = none) (hN : ∀ x h, fN (x, h) = nvI h 0 (g x)) (hg : ∀ x, (g x).length = e) (hq : ∀ x, ToL (f x) (g x)) (hb : ∀ x, BorL (g x))
  (h : ∀ zs : List (α × (Nat → Value)), zs.map Prod.fst = xs → SW P n h0 w0 Fz0 c ((σ.setB d (some (T, A ++ (PV.sl .v (zs.map fN) :: B)))).set G (some (RV.gh (valsE e zs) (flatM f zs)))) Q) : SW P n h0 w0 Fz0 c σ Q := fun a w hc => by
 obtain ⟨φ, Fz, Fp, hc⟩ := hc
 obtain ⟨cur, h1, h2⟩ := hc.box d _ hd
 obtain ⟨g1, g2, g3⟩ := hc.bxb d _ hd
 obtain ⟨v1, v2, F1, F2, k1, k2, k3, v, vs', E1, E2, rfl, rfl, ho, kB⟩ := h2.split
 have ho : SlOwn t e (xs.map f) Fz w v E1 := ho
 obtain ⟨css, F', hrow, hll, hfz, rfl, hone⟩ := ho
 obtain ⟨zs, e1, e2, e3, e4⟩ := ownLL_names hN hg hq hb hll
 have hlen : (zs.map fN).length = (xs.map f).length := by rw [List.length_map, List.length_map, ← e1, List.length_map]
 have hsl : SlOwn t e (zs.map fN) Fz w v (v.ownBlock.toList ++ []) := ⟨css, [], by rw [hlen]; exact hrow, e3, fun g hg o => by rw [hlen]; exact hfz g hg o, rfl, hone⟩
 have hnew : OwnL (A ++ (PV.sl .v (zs.map fN) :: B)) Fz w cur.toList (F1 ++ ([] ++ E2)) := by
  rw [k1]
  exact k3.append ⟨v, vs', [], E2, rfl, rfl, ⟨hsl.rel, rfl⟩, kB⟩
 rw [List.nil_append] at hnew
 have c2 := hc.pullB hd
 have hnd := c2.nod 0
 simp only [if_true] at hnd
 have em : mv Fp (2 * d + 2) 0 = Fp (2 * d + 2) ++ Fp 0 := by simp [mv]
 have k2' : Fp (2 * d + 2) = F1 ++ (v.ownBlock.toList ++ F' ++ E2) := k2
 rw [em, k2'] at hnd
 rw [k2'] at em
 have hperm : (φ d :: (F1 ++ (v.ownBlock.toList ++ F' ++ E2) ++ Fp 0)).Perm ((F1 ++ E2) ++ φ d :: (F' ++ (v.ownBlock.toList ++ Fp 0))) := by
  refine (List.Perm.trans ?_ List.perm_middle.symm)
  refine List.Perm.cons _ ?_
  simp only [List.append_assoc]
  refine List.Perm.append_left _ ?_
  show (v.ownBlock.toList ++ (F' ++ (E2 ++ Fp 0))).Perm (E2 ++ (F' ++ (v.ownBlock.toList ++ Fp 0)))
  have p1 : ((v.ownBlock.toList ++ F') ++ (E2 ++ Fp 0)).Perm ((F' ++ v.ownBlock.toList) ++ (E2 ++ Fp 0)) := List.Perm.append_right _ List.perm_append_comm
  have p2 : ((F' ++ v.ownBlock.toList) ++ (E2 ++ Fp 0)).Perm (E2 ++ ((F' ++ v.ownBlock.toList) ++ Fp 0)) := by
   rw [← List.append_assoc, ← List.append_assoc]
   exact List.Perm.append_right _ List.perm_append_comm
  have p3 := p1.trans p2
  simpa using p3
 have c3 := c2.pushB (d := d) (g := φ d) (t := T) (cs := A ++ (PV.sl .v (zs.map fN) :: B)) (F := F1 ++ E2) (X := F' ++ (v.ownBlock.toList ++ Fp 0)) (by rw [St.setB_b, if_pos rfl]) h1 hnew g2
  (fun x hx => by
   simp only [if_true]
   rw [em]
   exact hperm.mem_iff.2 hx) (hperm.nodup_iff.1 hnd) (.inl rfl)
 have hn3 := c3.nod 0
 have c4 := c3.pushG (G := G) (F := F') (X := v.ownBlock.toList ++ Fp 0) e4 (fun b hb => by simp only [give]; rw [if_neg (by omega)]; simpa using hb) (by
  simp only [give] at hn3
  rw [if_neg (by omega)] at hn3
  simpa using hn3)
 exact h zs e1 a w (Conc.eqv ⟨_, _, _, c4⟩ (fun i => by
  simp only [St.set_s, St.setB_s]) (fun e => by
  simp only [St.setB_b, St.set_b]
  split <;> rfl))
end
end Go.Proofs.Ytmekkgdboplbjaa.M
/- What the elements of elements of a slice own is lent by name, and given back to those that stay. No condition. -/
set_option linter.unusedVariables false
namespace Go.Proofs.Ytmekkgdboplbjaa.M
open Go Go.RowKit
theorem slOwn_names {α : Type} {f g : α → List PV} {fN : α × (Nat → Value) → List PV} {t e : Nat} (hN : ∀ x h, fN (x, h) = nvI h 0 (g x)) (hg : ∀ x, (g x).length = e) (hq : ∀ x, ToL (f x) (g x)) (hb : ∀ x, BorL (g x)) {Fz : FzT} {w : World} {xs : List α} {v : Value} {F : List Nat} (h : SlOwn t e (xs.map f) Fz w v F) :
  ∃ zs : List (α × (Nat → Value)), ∃ F1 F2, zs.map Prod.fst = xs ∧ SlOwn t e (zs.map fN) Fz w v F1 ∧ OwnL (flatM f zs) Fz w (valsE e zs) F2 ∧ F = F1 ++ F2 := by
 obtain ⟨css, F', hrow, hll, hfz, rfl, hone⟩ := h
 obtain ⟨zs, e1, e2, e3, e4⟩ := ownLL_names hN hg hq hb hll
 have hlen : (zs.map fN).length = (xs.map f).length := by rw [List.length_map, List.length_map, ← e1, List.length_map]
 exact ⟨zs, v.ownBlock.toList ++ [], F', e1, ⟨css, [], by rw [hlen]; exact hrow, e3, fun g hg o => by rw [hlen]; exact hfz g hg o, rfl, hone⟩, e4, by simp⟩
theorem flatM_app {α : Type} {f : α → List PV} {ys zs : List (α × (Nat → Value))} : flatM f (ys ++ zs) = flatM f ys ++ flatM f zs := by simp [flatM]
theorem valsE_app {α : Type} {e : Nat} {ys zs : List (α × (Nat → Value))} : valsE e (ys ++ zs) = valsE e ys ++ valsE e zs := by simp [valsE]
theorem perm4 {α : Type} {a b c d : List α} : (a ++ b ++ (c ++ d)).Perm (a ++ c ++ (b ++ d)) := by
 simp only [List.append_assoc]
 refine List.Perm.append_left _ ?_
 rw [← List.append_assoc, ← List.append_assoc]
 exact List.Perm.append_right _ List.perm_append_comm
theorem ownLL_back {α : Type} {f g : α → List PV} {fN : α × (Nat → Value) → List PV} {e : Nat} (hN : ∀ x h, fN (x, h) = nvI h 0 (g x)) (hg : ∀ x, (g x).length = e) (hf : ∀ x, (f x).length = e) {Fz : FzT} {w : World} : ∀ {zs : List (α × (Nat → Value))} {css : List Value} {F1 F2 : List Nat}, OwnLL e (zs.map fN) Fz w css F1 → OwnL (flatM f zs) Fz w (valsE e zs) F2 → OwnLL e ((zs.map Prod.fst).map f) Fz w css F2
 | [], css, F1, F2, h, k => by
  obtain ⟨rfl, rfl⟩ := h
  obtain ⟨_, rfl⟩ := k
  exact ⟨rfl, rfl⟩
 | z :: zs, css, F1, F2, h, k => by
  obtain ⟨c, d, Fa, Fb, rfl, rfl, hl, h1, h2⟩ := h
  have k : OwnL (f z.1 ++ flatM f zs) Fz w ((List.range e).map z.2 ++ valsE e zs) F2 := k
  obtain ⟨v1, v2, G1, G2, k1, k2, k3, k4⟩ := k.split
  obtain ⟨rfl, rfl⟩ := List.append_inj k1 (by rw [k3.len, hf]; simp)
  have hc : c = (List.range e).map z.2 := by
   have hr := h1.rel
   rw [show fN z = nvI z.2 0 (g z.1) from hN z.1 z.2] at hr
   have hk : ∀ (ps : List PV) (i : Nat) (vs : List Value), RelL (nvI z.2 i ps) Fz w vs → vs = (List.range' i ps.length).map z.2 := by
    intro ps
    induction ps with
    | nil => intro i vs h; exact h
    | cons p ps ih =>
     intro i vs h
     obtain ⟨v, vs', rfl, h1, h2⟩ := h
     rw [ih _ _ h2, h1.1]; rfl
   rw [hk _ _ _ hr, hg, ← List.range_eq_range']
  subst hc
  exact ⟨_, d, G1, G2, rfl, k2, hl, k3, ownLL_back hN hg hf h2 k4⟩
theorem own_cons {α : Type} {f : α → List PV} {e : Nat} (hf : ∀ x, (f x).length = e) {Fz : FzT} {w : World} {z : α × (Nat → Value)} {l : List (α × (Nat → Value))} {F : List Nat} (h : OwnL (flatM f (z :: l)) Fz w (valsE e (z :: l)) F) : ∃ F1 F2, F = F1 ++ F2 ∧ OwnL (f z.1) Fz w ((List.range e).map z.2) F1 ∧ OwnL (flatM f l) Fz w (valsE e l) F2 := by
 have h : OwnL (f z.1 ++ flatM f l) Fz w ((List.range e).map z.2 ++ valsE e l) F := h
 obtain ⟨v1, v2, F1, F2, e1, rfl, h1, h2⟩ := h.split
 obtain ⟨rfl, rfl⟩ := List.append_inj e1 (by rw [h1.len, hf]; simp)
 exact ⟨F1, F2, rfl, h1, h2⟩
theorem own_sub {α : Type} {f : α → List PV} {e : Nat} (hf : ∀ x, (f x).length = e) {Fz : FzT} {w : World} {ys zs : List (α × (Nat → Value))} (hs : ys.Sublist zs) : ∀ {F : List Nat}, OwnL (flatM f zs) Fz w (valsE e zs) F → ∃ F' R, F.Perm (F' ++ R) ∧ OwnL (flatM f ys) Fz w (valsE e ys) F' := by
 induction hs with
 | slnil => exact fun h => ⟨_, [], by rw [List.append_nil], h⟩
 | cons z hs ih =>
  intro F h
  obtain ⟨F1, F2, rfl, h1, h2⟩ := own_cons hf h
  obtain ⟨F', R, hp, ho⟩ := ih h2
  exact ⟨F', F1 ++ R, (List.Perm.append_left _ hp).trans (by rw [← List.append_assoc, ← List.append_assoc]; exact List.Perm.append_right _ List.perm_append_comm), ho⟩
 | cons_cons z hs ih =>
  intro F h
  obtain ⟨F1, F2, rfl, h1, h2⟩ := own_cons hf h
  obtain ⟨F', R, hp, ho⟩ := ih h2
  refine ⟨F1 ++ F', R, (List.Perm.append_left _ hp).trans (by rw [List.append_assoc]), ?_⟩
  exact h1.append ho
theorem slOwn_back {α : Type} {f g : α → List PV} {fN : α × (Nat → Value) → List PV} {t e : Nat} (hN : ∀ x h, fN (x, h) = nvI h 0 (g x)) (hg : ∀ x, (g x).length = e) (hf : ∀ x, (f x).length = e) {Fz : FzT} {w : World} {zs : List (α × (Nat → Value))} {v : Value} {F1 F2 : List Nat} (h : SlOwn t e (zs.map fN) Fz w v F1) (k : OwnL (flatM f zs) Fz w (valsE e zs) F2) : SlOwn t e ((zs.map Prod.fst).map f) Fz w v (v.ownBlock.toList ++ F2) := by
 obtain ⟨css, F', hrow, hll, hfz, rfl, hone⟩ := h
 have hlen : ((zs.map Prod.fst).map f).length = (zs.map fN).length := by simp
 exact ⟨css, F2, by rw [hlen]; exact hrow, ownLL_back hN hg hf hll k, fun g hg o => by rw [hlen]; exact hfz g hg o, rfl, hone⟩
theorem slOwn_blk {t e : Nat} {es : List (List PV)} {Fz : FzT} {w : World} {v : Value} {F : List Nat} (h : SlOwn t e es Fz w v F) : ∃ F', F = v.ownBlock.toList ++ F' := by
 obtain ⟨css, F', hrow, hll, hfz, rfl, hone⟩ := h
 exact ⟨F', rfl⟩
theorem arr_cons {α : Type} {f : α → List PV} {x : α} {xs : List α} {jk : List Value} : arr f (x :: xs) jk = f x ++ arr f xs jk := by
 unfold arr; rw [List.map_cons, List.flatten_cons, List.append_assoc]
theorem arr_names2 {α : Type} {f g : α → List PV} {fN : α × (Nat → Value) → List PV} {t e : Nat} (hN : ∀ x h, fN (x, h) = nvI h 0 (g x)) (hg : ∀ x, (g x).length = e) (hq : ∀ x, ToL (f x) (g x)) (hb : ∀ x, BorL (g x)) {jk : List Value} {Fz : FzT} {w : World} : ∀ {xss : List (List α)} {vs : List Value} {F : List Nat}, OwnL (arr (fun xs => [PV.sl (.own t e) (xs.map f)]) xss jk) Fz w vs F →
  ∃ zss : List (List (α × (Nat → Value))), ∃ F1 F2, zss.map (List.map Prod.fst) = xss ∧ OwnL (arr (fun zs => [PV.sl (.own t e) (zs.map fN)]) zss jk) Fz w vs F1 ∧ OwnL (flatM f zss.flatten) Fz w (valsE e zss.flatten) F2 ∧ F.Perm (F1 ++ F2)
 | [], vs, F, h => ⟨[], F, [], rfl, h, ⟨rfl, rfl⟩, by rw [List.append_nil]⟩
 | xs :: xss, vs, F, h => by
  rw [arr_cons] at h
  obtain ⟨v, vs', Fa, Fb, rfl, rfl, ho, h2⟩ := h
  obtain ⟨zs, A1, A2, e1, e2, e3, rfl⟩ := slOwn_names hN hg hq hb (show SlOwn t e (xs.map f) Fz w v Fa from ho)
  obtain ⟨zss, B1, B2, e4, e5, e6, hp⟩ := arr_names2 hN hg hq hb h2
  refine ⟨zs :: zss, A1 ++ B1, A2 ++ B2, by rw [List.map_cons, e1, e4], ?_, ?_, ?_⟩
  ·rw [arr_cons]; exact ⟨v, vs', A1, B1, rfl, rfl, e2, e5⟩
  ·rw [List.flatten_cons, flatM_app, valsE_app]; exact e3.append e6
  ·exact (List.Perm.append_left _ hp).trans perm4
theorem valsE_len {α : Type} {f : α → List PV} {e : Nat} (hf : ∀ x, (f x).length = e) : ∀ l : List (α × (Nat → Value)), (valsE e l).length = (flatM f l).length := by
 intro l
 induction l with
 | nil => rfl
 | cons z l ih =>
  show ((List.range e).map z.2 ++ valsE e l).length = (f z.1 ++ flatM f l).length
  simp [hf, ih]
theorem arr_back2 {α : Type} {f g : α → List PV} {fN : α × (Nat → Value) → List PV} {t e : Nat} (hN : ∀ x h, fN (x, h) = nvI h 0 (g x)) (hg : ∀ x, (g x).length = e) (hf : ∀ x, (f x).length = e) {jk : List Value} {Fz : FzT} {w : World} : ∀ {zss : List (List (α × (Nat → Value)))} {vs : List Value} {F1 F2 : List Nat}, OwnL (arr (fun zs => [PV.sl (.own t e) (zs.map fN)]) zss jk) Fz w vs F1 → OwnL (flatM f zss.flatten) Fz w (valsE e zss.flatten) F2 →
  ∃ F R, OwnL (arr (fun xs => [PV.sl (.own t e) (xs.map f)]) (zss.map (List.map Prod.fst)) jk) Fz w vs F ∧ (F1 ++ F2).Perm (F ++ R)
 | [], vs, F1, F2, h, k => ⟨F1, F2, h, List.Perm.refl _⟩
 | zs :: zss, vs, F1, F2, h, k => by
  rw [arr_cons] at h
  obtain ⟨v, vs', G1, Fb, rfl, rfl, ho, h2⟩ := h
  rw [List.flatten_cons, flatM_app, valsE_app] at k
  obtain ⟨v1, v2, K1, K2, k1, rfl, k3, k4⟩ := k.split
  obtain ⟨rfl, rfl⟩ := List.append_inj k1 (by rw [k3.len]; exact valsE_len hf zs)
  have ho : SlOwn t e (zs.map fN) Fz w v G1 := ho
  obtain ⟨G', rfl⟩ := slOwn_blk ho
  have hb := slOwn_back hN hg hf ho k3
  obtain ⟨F, R, e1, hp⟩ := arr_back2 hN hg hf h2 k4
  refine ⟨(v.ownBlock.toList ++ K1) ++ F, G' ++ R, ?_, ?_⟩
  ·rw [List.map_cons, arr_cons]; exact ⟨v, vs', _, F, rfl, rfl, hb, e1⟩
  refine perm4.trans ?_
  refine (List.Perm.append_left _ hp).trans ?_
  simp only [List.append_assoc]
  refine List.Perm.append_left _ ?_
  have p1 : (G' ++ (K1 ++ (F ++ R))).Perm ((K1 ++ F) ++ (G' ++ R)) := by
   have := (List.perm_append_comm (l₁ := G') (l₂ := K1 ++ F)).append_right R
   simpa only [List.append_assoc] using this
  simpa only [List.append_assoc] using p1
section
variable {P : Program} {n : Nat} {h0 : Nat → Prop} {w0 : World} {Fz0 : FzT} {σ : St} {Q : Exit → St → Prop} {c : Code}
theorem sw_lendX {d T G : Nat} {A B : List PV} {p : PV} {ι : Type} {q : ι → PV} {us : ι → List Value} {gs : ι → List PV} (hd : σ.b d = some (T, A ++ (p :: B))) (hG : σ.s G = none) (hp : ∀ {Fz : FzT} {w : World} {v : Value} {F : List Nat}, p.own Fz w v F → ∃ i, ∃ F1 F2, (q i).own Fz w v F1 ∧ OwnL (gs i) Fz w (us i) F2 ∧ F.Perm (F1 ++ F2))
  (h : ∀ i, SW P n h0 w0 Fz0 c ((σ.setB d (some (T, A ++ (q i :: B)))).set G (some (RV.gh (us i) (gs i)))) Q) : SW P n h0 w0 Fz0 c σ Q := fun a w hc => by
 obtain ⟨φ, Fz, Fp, hc⟩ := hc
 obtain ⟨cur, h1, h2⟩ := hc.box d _ hd
 obtain ⟨g1, g2, g3⟩ := hc.bxb d _ hd
 obtain ⟨v1, v2, F1, F2, k1, k2, k3, v, vs', E1, E2, rfl, rfl, ho, kB⟩ := h2.split
 obtain ⟨i, P1, P2, m1, m2, m3⟩ := hp ho
 have hnew : OwnL (A ++ (q i :: B)) Fz w cur.toList (F1 ++ (P1 ++ E2)) := by
  rw [k1]
  exact k3.append ⟨v, vs', P1, E2, rfl, rfl, m1, kB⟩
 have c2 := hc.pullB hd
 have hnd := c2.nod 0
 simp only [if_true] at hnd
 have em : mv Fp (2 * d + 2) 0 = Fp (2 * d + 2) ++ Fp 0 := by simp [mv]
 have k2' : Fp (2 * d + 2) = F1 ++ (E1 ++ E2) := k2
 rw [em, k2'] at hnd
 rw [k2'] at em
 have hperm : (φ d :: (F1 ++ (E1 ++ E2) ++ Fp 0)).Perm ((F1 ++ (P1 ++ E2)) ++ φ d :: (P2 ++ Fp 0)) := by
  refine (List.Perm.trans ?_ List.perm_middle.symm)
  refine List.Perm.cons _ ?_
  simp only [List.append_assoc]
  refine List.Perm.append_left _ ?_
  refine (List.Perm.append_right _ m3).trans ?_
  simp only [List.append_assoc]
  refine List.Perm.append_left _ ?_
  rw [← List.append_assoc, ← List.append_assoc]
  exact List.Perm.append_right _ List.perm_append_comm
 have c3 := c2.pushB (d := d) (g := φ d) (t := T) (cs := A ++ (q i :: B)) (F := F1 ++ (P1 ++ E2)) (X := P2 ++ Fp 0) (by rw [St.setB_b, if_pos rfl]) h1 hnew g2
  (fun x hx => by
   simp only [if_true]
   rw [em]
   exact hperm.mem_iff.2 hx) (hperm.nodup_iff.1 hnd) (.inl rfl)
 have hn3 := c3.nod 0
 have c4 := c3.pushG (G := G) (F := P2) (X := Fp 0) m2 (fun b hb => by simp only [give]; rw [if_neg (by omega)]; simpa using hb) (by
  simp only [give] at hn3
  rw [if_neg (by omega)] at hn3
  simpa using hn3)
 exact h i a w (Conc.eqv ⟨_, _, _, c4⟩ (fun i => by
  simp only [St.set_s, St.setB_s]) (fun e => by
  simp only [St.setB_b, St.set_b]
  split <;> rfl))
theorem sw_backX {d T G : Nat} {A B : List PV} {p q : PV} {us : List Value} {gs : List PV} (hd : σ.b d = some (T, A ++ (q :: B))) (hG : σ.s G = some (RV.gh us gs)) (hp : ∀ {Fz : FzT} {w : World} {v : Value} {F1 F2 : List Nat}, q.own Fz w v F1 → OwnL gs Fz w us F2 → ∃ F R, p.own Fz w v F ∧ (F1 ++ F2).Perm (F ++ R))
  (h : SW P n h0 w0 Fz0 c ((σ.set G none).setB d (some (T, A ++ (p :: B)))) Q) : SW P n h0 w0 Fz0 c σ Q := fun a w hc => by
 obtain ⟨φ, Fz, Fp, hc⟩ := hc
 have hg0 : OwnL gs Fz w us (Fp (2 * G + 1)) := hc.slot G _ hG
 have c1 := hc.pull G
 have e0 : mv Fp (2 * G + 1) 0 = Fp (2 * G + 1) ++ Fp 0 := by simp [mv]
 obtain ⟨cur, h1, h2⟩ := c1.box d _ hd
 obtain ⟨g1, g2, g3⟩ := c1.bxb d _ hd
 obtain ⟨v1, v2, F1, F2, k1, k2, k3, v, vs', E1, E2, rfl, rfl, ho, kB⟩ := h2.split
 obtain ⟨F, R, m1, m2⟩ := hp ho hg0
 have hnew : OwnL (A ++ (p :: B)) Fz w cur.toList (F1 ++ (F ++ E2)) := by
  rw [k1]
  exact k3.append ⟨v, vs', F, E2, rfl, rfl, m1, kB⟩
 have c2 := c1.pullB (d := d) hd
 generalize hFp1 : mv Fp (2 * G + 1) = Fp1 at c1 c2 e0 h2 g3 k2
 have hnd := c2.nod 0
 simp only [if_true] at hnd
 have em : mv Fp1 (2 * d + 2) 0 = Fp1 (2 * d + 2) ++ Fp1 0 := by simp [mv]
 have k2' : Fp1 (2 * d + 2) = F1 ++ (E1 ++ E2) := k2
 rw [em, k2', e0] at hnd
 rw [k2', e0] at em
 have hperm : (φ d :: (F1 ++ (E1 ++ E2) ++ (Fp (2 * G + 1) ++ Fp 0))).Perm ((F1 ++ (F ++ E2)) ++ φ d :: (R ++ Fp 0)) := by
  refine (List.Perm.trans ?_ List.perm_middle.symm)
  refine List.Perm.cons _ ?_
  simp only [List.append_assoc]
  refine List.Perm.append_left _ ?_
  have p1 : (E1 ++ (E2 ++ (Fp (2 * G + 1) ++ Fp 0))).Perm ((E1 ++ Fp (2 * G + 1)) ++ (E2 ++ Fp 0)) := by
   have := perm4 (a := E1) (b := E2) (c := Fp (2 * G + 1)) (d := Fp 0)
   simpa only [List.append_assoc] using this
  refine p1.trans ((List.Perm.append_right _ m2).trans ?_)
  have := perm4 (a := F) (b := R) (c := E2) (d := Fp 0)
  simpa only [List.append_assoc] using this
 have c3 := c2.pushB (d := d) (g := φ d) (t := T) (cs := A ++ (p :: B)) (F := F1 ++ (F ++ E2)) (X := R ++ Fp 0) (by rw [St.setB_b, if_pos rfl]) h1 hnew g2
  (fun x hx => by
   simp only [if_true]
   rw [em]
   exact hperm.mem_iff.2 hx) (hperm.nodup_iff.1 hnd) (.inl rfl)
 exact h a w (Conc.eqv ⟨_, _, _, c3⟩ (fun i => rfl) (fun e => by
  simp only [St.setB_b, St.set_b]
  split <;> rfl))
theorem sw_lendW {d T G : Nat} {cs : List PV} {ι : Type} {q : ι → List PV} {us : ι → List Value} {gs : ι → List PV} (hd : σ.b d = some (T, cs)) (hG : σ.s G = none) (hp : ∀ {Fz : FzT} {w : World} {vs : List Value} {F : List Nat}, OwnL cs Fz w vs F → ∃ i, ∃ F1 F2, OwnL (q i) Fz w vs F1 ∧ OwnL (gs i) Fz w (us i) F2 ∧ F.Perm (F1 ++ F2))
  (h : ∀ i, SW P n h0 w0 Fz0 c ((σ.setB d (some (T, q i))).set G (some (RV.gh (us i) (gs i)))) Q) : SW P n h0 w0 Fz0 c σ Q := fun a w hc => by
 obtain ⟨φ, Fz, Fp, hc⟩ := hc
 obtain ⟨cur, h1, h2⟩ := hc.box d _ hd
 obtain ⟨g1, g2, g3⟩ := hc.bxb d _ hd
 obtain ⟨i, P1, P2, m1, m2, m3⟩ := hp h2
 have c2 := hc.pullB hd
 have hnd := c2.nod 0
 simp only [if_true] at hnd
 have em : mv Fp (2 * d + 2) 0 = Fp (2 * d + 2) ++ Fp 0 := by simp [mv]
 rw [em] at hnd
 have hperm : (φ d :: (Fp (2 * d + 2) ++ Fp 0)).Perm (P1 ++ φ d :: (P2 ++ Fp 0)) := by
  refine (List.Perm.trans ?_ List.perm_middle.symm)
  refine List.Perm.cons _ ?_
  rw [← List.append_assoc]
  exact List.Perm.append_right _ m3
 have c3 := c2.pushB (d := d) (g := φ d) (t := T) (cs := q i) (F := P1) (X := P2 ++ Fp 0) (by rw [St.setB_b, if_pos rfl]) h1 m1 g2
  (fun x hx => by
   simp only [if_true]
   rw [em]
   exact hperm.mem_iff.2 hx) (hperm.nodup_iff.1 hnd) (.inl rfl)
 have hn3 := c3.nod 0
 have c4 := c3.pushG (G := G) (F := P2) (X := Fp 0) m2 (fun b hb => by simp only [give]; rw [if_neg (by omega)]; simpa using hb) (by
  simp only [give] at hn3
  rw [if_neg (by omega)] at hn3
  simpa using hn3)
 exact h i a w (Conc.eqv ⟨_, _, _, c4⟩ (fun i => by
  simp only [St.set_s, St.setB_s]) (fun e => by
  simp only [St.setB_b, St.set_b]
  split <;> rfl))
theorem sw_backW {d T G : Nat} {ps cs : List PV} {us : List Value} {gs : List PV} (hd : σ.b d = some (T, cs)) (hG : σ.s G = some (RV.gh us gs)) (hp : ∀ {Fz : FzT} {w : World} {vs : List Value} {F1 F2 : List Nat}, OwnL cs Fz w vs F1 → OwnL gs Fz w us F2 → ∃ F R, OwnL ps Fz w vs F ∧ (F1 ++ F2).Perm (F ++ R))
  (h : SW P n h0 w0 Fz0 c ((σ.set G none).setB d (some (T, ps))) Q) : SW P n h0 w0 Fz0 c σ Q := fun a w hc => by
 obtain ⟨φ, Fz, Fp, hc⟩ := hc
 have hg0 : OwnL gs Fz w us (Fp (2 * G + 1)) := hc.slot G _ hG
 have c1 := hc.pull G
 have e0 : mv Fp (2 * G + 1) 0 = Fp (2 * G + 1) ++ Fp 0 := by simp [mv]
 obtain ⟨cur, h1, h2⟩ := c1.box d _ hd
 obtain ⟨g1, g2, g3⟩ := c1.bxb d _ hd
 obtain ⟨F, R, m1, m2⟩ := hp h2 hg0
 have c2 := c1.pullB (d := d) hd
 generalize hFp1 : mv Fp (2 * G + 1) = Fp1 at c1 c2 e0 h2 g3 m2
 have hnd := c2.nod 0
 simp only [if_true] at hnd
 have em : mv Fp1 (2 * d + 2) 0 = Fp1 (2 * d + 2) ++ Fp1 0 := by simp [mv]
 rw [em, e0] at hnd
 rw [e0] at em
 have hperm : (φ d :: (Fp1 (2 * d + 2) ++ (Fp (2 * G + 1) ++ Fp 0))).Perm (F ++ φ d :: (R ++ Fp 0)) := by
  refine (List.Perm.trans ?_ List.perm_middle.symm)
  refine List.Perm.cons _ ?_
  rw [← List.append_assoc, ← List.append_assoc]
  exact List.Perm.append_right _ m2
 have c3 := c2.pushB (d := d) (g := φ d) (t := T) (cs := ps) (F := F) (X := R ++ Fp 0) (by rw [St.setB_b, if_pos rfl]) h1 m1 g2
  (fun x hx => by
   simp only [if_true]
   rw [em]
   exact hperm.mem_iff.2 hx) (hperm.nodup_iff.1 hnd) (.inl rfl)
 exact h a w (Conc.eqv ⟨_, _, _, c3⟩ (fun i => rfl) (fun e => by
  simp only [St.setB_b, St.set_b]
  split <;> rfl))
theorem sw_lendAE {d T t e G : Nat} {α : Type} {f g : α → List PV} {fN : α × (Nat → Value) → List PV} {xss : List (List α)} {jk : List Value} (hd : σ.b d = some (T, arr (fun xs => [PV.sl (.own t e) (xs.map f)]) xss jk)) (hG : σ.s G = none) (hN : ∀ x h, fN (x, h) = nvI h 0 (g x)) (hg : ∀ x, (g x).length = e) (hq : ∀ x, ToL (f x) (g x)) (hb : ∀ x, BorL (g x))
  (h : ∀ zss : List (List (α × (Nat → Value))), zss.map (List.map Prod.fst) = xss → SW P n h0 w0 Fz0 c ((σ.setB d (some (T, arr (fun zs => [PV.sl (.own t e) (zs.map fN)]) zss jk))).set G (some (RV.gh (valsE e zss.flatten) (flatM f zss.flatten)))) Q) : SW P n h0 w0 Fz0 c σ Q :=
 sw_lendW (ι := {zss : List (List (α × (Nat → Value))) // zss.map (List.map Prod.fst) = xss}) (q := fun i => arr (fun zs => [PV.sl (.own t e) (zs.map fN)]) i.1 jk) (us := fun i => valsE e i.1.flatten) (gs := fun i => flatM f i.1.flatten) hd hG
  (fun hh => by
   obtain ⟨zss, F1, F2, e1, e2, e3, e4⟩ := arr_names2 hN hg hq hb hh
   exact ⟨⟨zss, e1⟩, F1, F2, e2, e3, e4⟩) (fun i => h i.1 i.2)
theorem sw_backAE {d T t e G : Nat} {α : Type} {f g : α → List PV} {fN : α × (Nat → Value) → List PV} {zss : List (List (α × (Nat → Value)))} {ws : List (α × (Nat → Value))} {jk : List Value} (hd : σ.b d = some (T, arr (fun zs => [PV.sl (.own t e) (zs.map fN)]) zss jk)) (hG : σ.s G = some (RV.gh (valsE e ws) (flatM f ws))) (hN : ∀ x h, fN (x, h) = nvI h 0 (g x)) (hg : ∀ x, (g x).length = e) (hf : ∀ x, (f x).length = e) (hs : zss.flatten.Sublist ws)
  (h : SW P n h0 w0 Fz0 c ((σ.set G none).setB d (some (T, arr (fun xs => [PV.sl (.own t e) (xs.map f)]) (zss.map (List.map Prod.fst)) jk))) Q) : SW P n h0 w0 Fz0 c σ Q :=
 sw_backW hd hG (fun {Fz w vs F1 F2} h1 h2 => by
  obtain ⟨K, R0, hp0, k⟩ := own_sub hf hs h2
  obtain ⟨F, R, e1, hp⟩ := arr_back2 hN hg hf h1 k
  refine ⟨F, R ++ R0, e1, ?_⟩
  refine (List.Perm.append_left _ hp0).trans ?_
  rw [← List.append_assoc, ← List.append_assoc]
  exact List.Perm.append_right _ hp) h
end
end Go.Proofs.Ytmekkgdboplbjaa.M
/- The elements of a slice in a variable get names and keep what they own; what a name stands for is read again. No condition. -/
set_option linter.unusedVariables false
namespace Go.Proofs.Ytmekkgdboplbjaa.M
open Go Go.RowKit
def nmv {α : Type} (f : α → PV) (z : α × Value) : List PV := [PV.nv z.2 (f z.1)]
section
variable {P : Program} {n : Nat} {h0 : Nat → Prop} {w0 : World} {Fz0 : FzT} {σ : St} {Q : Exit → St → Prop} {c : Code}
theorem sw_cellX {d T : Nat} {A B : List PV} {p : PV} {ι : Type} {q : ι → PV} (hd : σ.b d = some (T, A ++ (p :: B))) (hp : ∀ {Fz : FzT} {w : World} {v : Value} {F : List Nat}, p.own Fz w v F → ∃ i, (q i).own Fz w v F)
  (h : ∀ i, SW P n h0 w0 Fz0 c (σ.setB d (some (T, A ++ (q i :: B)))) Q) : SW P n h0 w0 Fz0 c σ Q := fun a w hc => by
 obtain ⟨φ, Fz, Fp, hc⟩ := hc
 obtain ⟨cur, h1, h2⟩ := hc.box d _ hd
 obtain ⟨v1, v2, F1, F2, k1, k2, k3, v, vs', E1, E2, rfl, rfl, ho, kB⟩ := h2.split
 obtain ⟨i, hi⟩ := hp ho
 refine h i a w ⟨φ, Fz, Fp, hc.rebox hd fun cur' _ hh => ?_⟩
 have : cur' = cur := by
  rw [h1] at hh
  injection hh with hh
  injection hh with hh
  exact hh.symm
 subst this
 rw [k1, k2]
 exact k3.append ⟨v, vs', E1, E2, rfl, rfl, hi, kB⟩
def Sel (gs : List PV) (us : List Value) (qs : List PV) (us' : List Value) : Prop := ∀ {Fz : FzT} {w : World} {F : List Nat}, OwnL gs Fz w us F → ∃ F' R, OwnL qs Fz w us' F' ∧ F.Perm (F' ++ R)
theorem Sel.nil {gs : List PV} {us : List Value} : Sel gs us [] [] := fun {_ _ F} _ => ⟨[], F, ⟨rfl, rfl⟩, List.Perm.refl _⟩
theorem Sel.keep {p : PV} {u : Value} {gs qs : List PV} {us us' : List Value} (h : Sel gs us qs us') : Sel (p :: gs) (u :: us) (p :: qs) (u :: us') := fun {Fz w F} k => by
 obtain ⟨v, vs, F1, F2, e1, rfl, h1, h2⟩ := k
 injection e1 with e1 e2
 subst e1 e2
 obtain ⟨F', R, h3, h4⟩ := h h2
 exact ⟨F1 ++ F', R, ⟨u, us', F1, F', rfl, rfl, h1, h3⟩, by rw [List.append_assoc]; exact List.Perm.append_left _ h4⟩
theorem Sel.drop {p : PV} {u : Value} {gs qs : List PV} {us us' : List Value} (h : Sel gs us qs us') : Sel (p :: gs) (u :: us) qs us' := fun {Fz w F} k => by
 obtain ⟨v, vs, F1, F2, e1, rfl, h1, h2⟩ := k
 injection e1 with e1 e2
 subst e1 e2
 obtain ⟨F', R, h3, h4⟩ := h h2
 refine ⟨F', F1 ++ R, h3, ?_⟩
 refine (List.Perm.append_left F1 h4).trans ?_
 rw [← List.append_assoc, ← List.append_assoc]
 exact List.Perm.append_right _ List.perm_append_comm
theorem Sel.lit {x : Value} {gs qs : List PV} {us us' : List Value} (hx : x.oneCell' = true) (h : Sel gs us qs us') : Sel gs us (PV.val x :: qs) (x :: us') := fun {Fz w F} k => by
 obtain ⟨F', R, h3, h4⟩ := h k
 exact ⟨F', R, ⟨x, us', [], F', rfl, rfl, ⟨⟨rfl, hx⟩, rfl⟩, h3⟩, h4⟩
end
end Go.Proofs.Ytmekkgdboplbjaa.M
/- What was lent comes back to a list that keeps some of it, in another order; a whole variable lent as one element; a field of a value; deletion in place. No condition. -/
set_option linter.unusedVariables false
namespace Go.Proofs.Ytmekkgdboplbjaa.M
open Go Go.RowKit
theorem own_part {α : Type} {f : α → List PV} {e : Nat} (hf : ∀ x, (f x).length = e) {Fz : FzT} {w : World} {ys rs zs : List (α × (Nat → Value))} (hp : (ys ++ rs).Perm zs) {F : List Nat} (h : OwnL (flatM f zs) Fz w (valsE e zs) F) : ∃ F' R, F.Perm (F' ++ R) ∧ OwnL (flatM f ys) Fz w (valsE e ys) F' := by
 obtain ⟨F1, k1, k2⟩ := own_perm hf hp.symm h
 obtain ⟨F', R, k3, k4⟩ := own_sub hf (List.sublist_append_left ys rs) k2
 exact ⟨F', R, k1.trans k3, k4⟩
theorem back_part {α : Type} {f g : α → List PV} {fN : α × (Nat → Value) → List PV} {t e : Nat} (hN : ∀ x h, fN (x, h) = nvI h 0 (g x)) (hg : ∀ x, (g x).length = e) (hf : ∀ x, (f x).length = e) {ys rs zs : List (α × (Nat → Value))} (hp : (ys ++ rs).Perm zs) {xs : List α} (hx : ys.map Prod.fst = xs) {Fz : FzT} {w : World} {v : Value} {F1 F2 : List Nat} (h : (PV.sl (.own t e) (ys.map fN)).own Fz w v F1) (k : OwnL (flatM f zs) Fz w (valsE e zs) F2) :
  ∃ F R, (PV.sl (.own t e) (xs.map f)).own Fz w v F ∧ (F1 ++ F2).Perm (F ++ R) := by
 subst hx
 obtain ⟨F', R, k1, k2⟩ := own_part hf hp k
 have h : SlOwn t e (ys.map fN) Fz w v F1 := h
 have h2 := slOwn_back hN hg hf h k2
 obtain ⟨F3, rfl⟩ := slOwn_blk h
 refine ⟨_, F3 ++ R, h2, ?_⟩
 simp only [List.append_assoc]
 refine List.Perm.append_left _ ?_
 refine (List.Perm.append_left F3 k1).trans ?_
 rw [← List.append_assoc, ← List.append_assoc]
 exact List.Perm.append_right _ List.perm_append_comm
section
variable {P : Program} {n : Nat} {h0 : Nat → Prop} {w0 : World} {Fz0 : FzT} {σ : St} {Q : Exit → St → Prop} {c : Code}
theorem sw_lendB1 {d t e G : Nat} {α : Type} {f g : α → List PV} {fN : α × (Nat → Value) → List PV} (x : α) (hd : σ.b d = some (t, f x)) (hG : σ.s G = none) (hN : ∀ x h, fN (x, h) = nvI h 0 (g x)) (hg : ∀ x, (g x).length = e) (hq : ToL (f x) (g x)) (hb : BorL (g x))
  (h : ∀ k : Nat → Value, SW P n h0 w0 Fz0 c ((σ.setB d (some (t, fN (x, k)))).set G (some (RV.gh (valsE e [(x, k)]) (flatM f [(x, k)])))) Q) : SW P n h0 w0 Fz0 c σ Q :=
 sw_lendW (ι := Nat → Value) (q := fun k => fN (x, k)) (us := fun k => valsE e [(x, k)]) (gs := fun k => flatM f [(x, k)]) hd hG (fun {Fz w vs F} ho => by
  have hl : vs.length = e := by rw [ho.len, hq.len, hg]
  obtain ⟨k, hk⟩ := chunk_fn hl
  refine ⟨k, [], F, ?_, ?_, List.Perm.refl _⟩
  ·rw [hN, nvI_eq, hg, ← List.range_eq_range', ← hk]
   exact own_nvL hb (hq.rel ho.rel)
  ·have : valsE e [(x, k)] = vs := by simp [valsE, hk]
   rw [this]
   have : flatM f [(x, k)] = f x := by simp [flatM]
   rw [this]; exact ho) h
theorem sw_backP {d T t e G : Nat} {A B : List PV} {α : Type} {f g : α → List PV} {fN : α × (Nat → Value) → List PV} {ys zs : List (α × (Nat → Value))} (rs : List (α × (Nat → Value))) (xs : List α) (hd : σ.b d = some (T, A ++ (PV.sl (.own t e) (ys.map fN) :: B))) (hG : σ.s G = some (RV.gh (valsE e zs) (flatM f zs))) (hN : ∀ x h, fN (x, h) = nvI h 0 (g x)) (hg : ∀ x, (g x).length = e) (hf : ∀ x, (f x).length = e) (hp : (ys ++ rs).Perm zs) (hx : ys.map Prod.fst = xs)
  (h : SW P n h0 w0 Fz0 c ((σ.set G none).setB d (some (T, A ++ (PV.sl (.own t e) (xs.map f) :: B)))) Q) : SW P n h0 w0 Fz0 c σ Q :=
 sw_backX hd hG (fun h1 k => back_part hN hg hf hp hx h1 k) h
theorem sw_backAp {d t e G : Nat} {α : Type} {f g : α → List PV} {fN : α × (Nat → Value) → List PV} {zs ys : List (α × (Nat → Value))} {jk : List Value} (rs : List (α × (Nat → Value))) (xs : List α) (hd : σ.b d = some (t, arr fN ys jk)) (hG : σ.s G = some (RV.gh (valsE e zs) (flatM f zs))) (hN : ∀ x h, fN (x, h) = nvI h 0 (g x)) (hg : ∀ x, (g x).length = e) (hf : ∀ x, (f x).length = e) (hp : (ys ++ rs).Perm zs) (hx : ys.map Prod.fst = xs)
  (h : SW P n h0 w0 Fz0 c ((σ.set G none).setB d (some (t, arr f xs jk))) Q) : SW P n h0 w0 Fz0 c σ Q :=
 sw_backW hd hG (fun {Fz w vs F1 F2} h1 k => by
  subst hx
  obtain ⟨F', R, k1, k2⟩ := own_part hf hp k
  obtain ⟨us, hu, hvs⟩ := rel_names hN hg (zs := ys) (js := jk.map PV.val) h1.rel
  have hju : OwnL (jk.map PV.val) Fz w us [] := BorL.own (fun p hp => by obtain ⟨v, _, rfl⟩ := List.mem_map.1 hp; exact PV.bor_val _) hvs
  have hall : OwnL (arr f (ys.map Prod.fst) jk) Fz w vs F' := by
   have := k2.append hju
   rw [List.append_nil, ← hu] at this
   have e2 : arr f (ys.map Prod.fst) jk = flatM f ys ++ jk.map PV.val := by unfold arr flatM; rw [List.map_map]; rfl
   rw [e2]; exact this
  refine ⟨F', F1 ++ R, hall, ?_⟩
  refine (List.Perm.append_left F1 k1).trans ?_
  rw [← List.append_assoc, ← List.append_assoc]
  exact List.Perm.append_right _ List.perm_append_comm) h
end
section
variable {P : Program} {n : Nat} {h0 : Nat → Prop} {w0 : World} {Fz0 : FzT} {σ : St} {Q : Exit → St → Prop} {c : Code}
theorem sw_slotEq {s : Nat} {r r' : RV} (hs : σ.s s = some r) (he : r = r') (h : SW P n h0 w0 Fz0 c (σ.set s (some r')) Q) : SW P n h0 w0 Fz0 c σ Q := fun a w hc => by
 subst he
 obtain ⟨φ, Fz, Fp, hc⟩ := hc
 exact h a w ⟨φ, Fz, Fp, hc.reslot (hc.slot s _ hs)⟩
theorem sw_name1 {d T : Nat} {A B : List PV} {p : PV} (hd : σ.b d = some (T, A ++ (p :: B))) (h : ∀ v : Value, SW P n h0 w0 Fz0 c (σ.setB d (some (T, A ++ (PV.nv v p :: B)))) Q) : SW P n h0 w0 Fz0 c σ Q :=
 sw_cellX (ι := Value) (q := fun v => PV.nv v p) hd (fun {Fz w v F} ho => ⟨v, rfl, ho⟩) h
theorem sw_unname1 {d T : Nat} {A B : List PV} {v : Value} {p : PV} (hd : σ.b d = some (T, A ++ (PV.nv v p :: B))) (h : SW P n h0 w0 Fz0 c (σ.setB d (some (T, A ++ (p :: B)))) Q) : SW P n h0 w0 Fz0 c σ Q :=
 sw_cellX (ι := Unit) (q := fun _ => p) hd (fun ho => ⟨(), ho.2⟩) fun _ => h
theorem sw_lendNv {d T G : Nat} {A B : List PV} {v : Value} {p q : PV} (hd : σ.b d = some (T, A ++ (PV.nv v p :: B))) (hG : σ.s G = none) (hq : p.To q) (hb : q.Bor)
  (h : SW P n h0 w0 Fz0 c ((σ.setB d (some (T, A ++ (q :: B)))).set G (some (RV.gh [v] [p]))) Q) : SW P n h0 w0 Fz0 c σ Q :=
 sw_lendX (G := G) (ι := Unit) (q := fun _ => q) (us := fun _ => [v]) (gs := fun _ => [p]) hd hG (fun {Fz w v' F} ho => by
  obtain ⟨rfl, ho⟩ := ho
  exact ⟨(), [], F, hb (hq (p.toRel ho)), ⟨v', [], F, [], rfl, by simp, ho, rfl, rfl⟩, by simp⟩) fun _ => h
end
def fieldTI (P : Program) (T : TypeId) (f : Nat) : Option (Nat × TypeId) := match P.underlying T with
 | some (.struct fs) => (fs[f]?).map fun fd => (fd.offset, fd.type)
 | _ => none
def subH (e : Nat) (u : Value) (lo len : Nat) : Value := match u with
 | .slice (some ⟨b, o, q⟩) _ c => .slice (if c = lo then some ⟨b, o, q⟩ else some ⟨b, o + lo * e, q⟩) len (c - lo)
 | v => v
theorem subH_eq {e g m c lo len : Nat} : subH e (.slice (some ⟨g, 0, none⟩) m c) lo len = .slice (some ⟨g, if c = lo then 0 else lo * e, none⟩) len (c - lo) := by
 unfold subH
 dsimp only
 split <;> simp
theorem nvI_bor (h : Nat → Value) : ∀ {ps : List PV} {i : Nat}, BorL ps → BorL (nvI h i ps)
 | [], _, hb => hb
 | p :: ps, i, hb => BorL.cons (PV.bor_nv (hb p List.mem_cons_self)) (nvI_bor h fun q hq => hb q (List.mem_cons_of_mem _ hq))
def delJ {α : Type} (e : Nat) (zs : List (α × (Nat → Value))) (jk : List Value) : List Value := (valsE e zs ++ jk).drop ((zs.length - 1) * e)
def delZ {α : Type} (zs : List α) (i : Nat) : List α := zs.take i ++ zs.drop (i + 1)
theorem delZ_len {α : Type} {zs : List α} {i : Nat} (h : i < zs.length) : (delZ zs i).length = zs.length - 1 := by
 unfold delZ; rw [List.length_append, List.length_take, List.length_drop]; omega
theorem valsE_length {α : Type} {e : Nat} : ∀ {zs : List (α × (Nat → Value))}, (valsE e zs).length = zs.length * e
 | [] => by simp [valsE]
 | z :: zs => by
  have : valsE e (z :: zs) = (List.range e).map z.2 ++ valsE e zs := rfl
  rw [this, List.length_append, valsE_length, List.length_map, List.length_range, List.length_cons, Nat.succ_mul]; omega
theorem delJ_len {α : Type} {e cp m : Nat} {zs : List (α × (Nat → Value))} {jk : List Value} (hz : zs.length = m) (hm : 0 < m) (hj : m * e + jk.length = cp * e) : (m - 1) * e + (delJ e zs jk).length = cp * e := by
 unfold delJ
 have h1 : (m - 1) * e ≤ m * e := Nat.mul_le_mul_right _ (by omega)
 rw [List.length_drop, List.length_append, valsE_length, hz]
 omega
section
variable {P : Program} {n : Nat}
theorem loc_gsl {T E e bs d s G D m cp i j : Nat} {lo hi : Option Operand} {ty : TypeId} {pos : String} {af : Array Edge} {g : Option (Nat × Bool)} {u : Value} {q r : Int} (hd : d < n) (hT : sliceI P T = some (E, e, bs))
  (hlo : optOk lo (i = 0) (RV.int q)) (hhi : optOk hi (j = m) (RV.int r)) (hq : q = (i : Int)) (hr : r = (j : Int)) (hij : i ≤ j) (hj : j ≤ m) :
  Loc P n ⟨some d, .slice T (.tmp s) lo hi none, ty, pos, af, g⟩ ⟨(s, RV.sc u) :: (G, RV.gat u D m cp) :: (optR lo (RV.int q) ++ optR hi (RV.int r)), [], [(d, some (RV.sc (subH e u i (j - i))))], [], none⟩ := by
 subst hq hr
 intro h0 w0 Fz0 σ a w K Q hc hr _ _ h5
 obtain ⟨φ, Fz, Fp, hc⟩ := hc
 obtain ⟨⟨eu, hmc, hcx⟩, _⟩ := hc.slot G _ hr.2.1
 have ev := (hc.one_ hr.1).1
 obtain ⟨hu, inf, hinf, hsz, _⟩ := sliceI_spec hT
 have es' : a.eval (.tmp s) = .slice (some ⟨φ D, 0, none⟩) m cp := by rw [← eu]; exact ev
 have hlo' : lo.map a.eval = (lo.map fun _ => (.int .i64 (i : Int) : Value)) := by
  cases lo with
  | none => rfl
  | some x => exact congrArg some (hc.sc hr.2.2.left hlo)
 have hhi' : hi.map a.eval = (hi.map fun _ => (.int .i64 (j : Int) : Value)) := by
  cases hi with
  | none => rfl
  | some x => exact congrArg some (hc.sc hr.2.2.right hhi)
 have e1 : subH e u i (j - i) = .slice (if cp = i then some ⟨φ D, 0, none⟩ else (some ⟨φ D, 0, none⟩ : Option Addr).map (·.add (i * e))) (j - i) (cp - i) := by
  rw [eu]
  unfold subH
  dsimp only
  split <;> simp [add_lit]
 refine wp_val (v := subH e u i (j - i)) (w' := w) ?_ (h5 _ _ (hc.put0 hd (SvOwn.of_sc (by rw [e1]; rfl))))
 rw [e1]
 unfold execOp
 have hb : (Instr.sliceBounds true m cp (lo.map a.eval) (hi.map a.eval) none).run P w = .ok (i, j, cp) w := by
  rw [hlo', hhi']
  have b1 : (0 : Int) ≤ (j : Int) ∧ (j : Int) ≤ (cp : Int) := by omega
  have b2 : (0 : Int) ≤ (i : Int) ∧ (i : Int) ≤ (j : Int) := by omega
  cases lo <;> cases hi <;> simp only [optOk] at hlo hhi <;> simp [Instr.sliceBounds, Instr.sliceBound, asIntOf, b1, b2, *] <;> omega
 simp only [Instr.sliceAt, Instr.slice, es', Sem.run_bind, run_underlying hu, Result.andThen_ok, Option.map_none, hb, sizeOf, typeInfo, run_program, hinf, hsz, Sem.run_pure]
theorem loc_gdel {t d s x G D E e bs m cp i : Nat} {ty : TypeId} {pos : String} {af : Array Edge} {gd : Option (Nat × Bool)} {u : Value} {α : Type} {g : α → List PV} {fN : α × (Nat → Value) → List PV} {zs : List (α × (Nat → Value))} {jk : List Value} (hd : d < n) (hT : sliceI P t = some (E, e, bs)) (he : 0 < e) (hN : ∀ x h, fN (x, h) = nvI h 0 (g x)) (hg : ∀ x, (g x).length = e) (hb : ∀ x, BorL (g x)) (hz : zs.length = m) (hi : i < m) (hj : m * e + jk.length = cp * e) (hdG : Nat.beq d G = false) :
  Loc P n ⟨some d, .call { callee := .builtin .append, args := #[.tmp s, .tmp x], argTypes := #[t, t] }, ty, pos, af, gd⟩ ⟨[(s, RV.sc (subH e u 0 (i - 0))), (x, RV.sc (subH e u (i + 1) (m - (i + 1)))), (G, RV.gat u D m cp)], [(D, (E, arr fN zs jk))], [(d, some (RV.sc (subH e u 0 (m - 1)))), (G, some (RV.gat (subH e u 0 (m - 1)) D (m - 1) cp))], [(D, some (E, arr fN (delZ zs i) (delJ e zs jk)))], none⟩ := by
 intro h0 w0 Fz0 σ a w K Q hc hr hrb _ h5
 obtain ⟨φ, Fz, Fp, hc⟩ := hc
 obtain ⟨⟨eu, hmc, hcx⟩, _⟩ := hc.slot G _ hr.2.2.1
 have ev := (hc.one_ hr.1).1
 have ex := (hc.one_ hr.2.1).1
 obtain ⟨hu, inf, hinf, hsz, _⟩ := sliceI_spec hT
 subst hz
 have hbs : σ.b D = some (E, arr fN zs jk) := hrb.1
 obtain ⟨cur, hgc, ho⟩ := hc.box D _ hbs
 obtain ⟨k1, k2, k3⟩ := hc.bxb D _ hbs
 have hone := ho.one
 obtain ⟨us, hus, hvs⟩ := rel_names hN hg (zs := zs) (js := jk.map PV.val) ho.rel
 have huj : us = jk := by
  have hk : ∀ (l : List Value) (us : List Value), RelL (l.map PV.val) Fz w us → us = l := by
   intro l
   induction l with
   | nil => intro us h; exact h
   | cons v l ih =>
    intro us h
    obtain ⟨v', vs', rfl, h1, h2⟩ := h
    rw [ih _ h2, h1.1]
  exact hk _ _ hvs
 subst huj
 generalize hA : zs.take i = A
 generalize hB : zs.drop (i + 1) = B
 have hzs : zs = A ++ (zs[i] :: B) := by rw [← hA, ← hB, ← List.drop_eq_getElem_cons hi, List.take_append_drop]
 have hAl : A.length = i := by rw [← hA, List.length_take]; omega
 have hBl : B.length = zs.length - (i + 1) := by rw [← hB, List.length_drop]
 have hval : valsE e zs = valsE e A ++ ((List.range e).map zs[i].2 ++ valsE e B) := by
  conv => lhs; rw [hzs]
  rw [valsE_app]; rfl
 have hcl : cur.toList.length = cp * e := by rw [hus, List.length_append, valsE_length]; exact hj
 have hcs : cur.size = cp * e := by rw [← hcl]; simp
 have hnl : (valsE e B).length = (zs.length - (i + 1)) * e := by rw [valsE_length, hBl]
 have hoff : (i + 1) * e + (valsE e B).length = zs.length * e := by rw [hnl, ← Nat.add_mul]; congr 1; omega
 have hcell : ∀ j v, (valsE e B)[j]? = some v → w.cell? ((⟨φ D, if cp = i + 1 then 0 else (i + 1) * e, none⟩ : Addr).add j) = some v := by
  intro j v hv
  have hjl := (List.getElem?_eq_some_iff.1 hv).1
  have hne : ¬ cp = i + 1 := by
   intro e'
   have : zs.length ≤ i + 1 := by omega
   have : B.length = 0 := by omega
   rw [valsE_length, this] at hjl; omega
  rw [if_neg hne, add_lit]
  have hq := cell_of_row w (φ D) ((i + 1) * e + j) cur E (0, 0) hgc
  have hq2 : w.cell? ⟨φ D, (i + 1) * e + j, none⟩ = cur.toList[(i + 1) * e + j]? := by rw [hq]; simp
  rw [hq2, hus, hval]
  rw [List.getElem?_append_left (by simp only [List.length_append, List.length_map, List.length_range, valsE_length, hAl]; rw [valsE_length] at hjl; have := Nat.add_mul i 1 e; omega)]
  rw [List.getElem?_append_right (by rw [valsE_length, hAl]; have := Nat.add_mul i 1 e; omega), List.getElem?_append_right (by rw [valsE_length, hAl]; simp only [List.length_map, List.length_range]; have := Nat.add_mul i 1 e; omega)]
  rw [← hv]
  congr 1
  rw [valsE_length, hAl]; simp only [List.length_map, List.length_range]; have := Nat.add_mul i 1 e; omega
 have h1 : ∀ v ∈ valsE e B, v.oneCell' = true := fun v hv => hone v (by rw [hus, hval]; simp [hv])
 have hroom : i + (zs.length - (i + 1)) ≤ cp := by omega
 have hfit : i * inf.size + (valsE e B).length ≤ cur.size := by rw [hsz, hnl, hcs, ← Nat.add_mul]; exact Nat.mul_le_mul_right _ hroom
 have hrun := run_append_room (P := P) w t ty E inf hu hinf (φ D) i cp cur hgc ⟨φ D, if cp = i + 1 then 0 else (i + 1) * e, none⟩ (zs.length - (i + 1)) (cp - (i + 1)) (valsE e B) (by rw [hnl, hsz]) hcell h1 hroom hfit
 rw [hsz] at hrun
 have hs1 : a.eval (.tmp s) = .slice (some ⟨φ D, 0, none⟩) i cp := by
  have : a.eval (.tmp s) = subH e u 0 (i - 0) := ev
  rw [this, eu, subH_eq]
  simp
 have hs2 : a.eval (.tmp x) = .slice (some ⟨φ D, if cp = i + 1 then 0 else (i + 1) * e, none⟩) (zs.length - (i + 1)) (cp - (i + 1)) := by
  have : a.eval (.tmp x) = subH e u (i + 1) (zs.length - (i + 1)) := ex
  rw [this, eu, subH_eq]
 have hres : subH e u 0 (zs.length - 1) = .slice (some ⟨φ D, 0, none⟩) (i + (zs.length - (i + 1))) cp := by
  rw [eu, subH_eq, show i + (zs.length - (i + 1)) = zs.length - 1 by omega]
  simp
 have hidx : i + (zs.length - (i + 1)) = zs.length - 1 := by omega
 have c1 := hc.pullB hbs
 generalize hFp1 : (fun x => if x = 0 then φ D :: mv Fp (2 * D + 2) 0 else mv Fp (2 * D + 2) x) = Fp1 at c1
 have e0 : Fp1 0 = φ D :: (Fp (2 * D + 2) ++ Fp 0) := by rw [← hFp1]; simp [mv]
 generalize hcur : (cur.toList.take (i * e) ++ valsE e B ++ cur.toList.drop (i * e + (valsE e B).length)).toArray = cur' at hrun
 have hw : (w.setRow (φ D) cur').heap.size = w.heap.size := size_setRow _ _ _
 have hset : (w.setRow (φ D) cur').heap[φ D]? = some (.cells cur' E (0, 0)) := setRow_heap w (φ D) cur _ E _ hgc
 have hoth : ∀ i, i ≠ φ D → (w.setRow (φ D) cur').heap[i]? = w.heap[i]? := fun i hi => setRow_other w (φ D) i _ hi
 have hkeep : Keeps Fz w Fz (w.setRow (φ D) cur') := fun i o hio => ⟨hio, World.cell?_of_block (hoth i fun e => k2 o (e ▸ hio))⟩
 have c2 := c1.world (w' := w.setRow (φ D) cur') (Fz' := Fz) (X := Fp1 0) rfl rfl rfl (by omega)
  (fun i hi hi0 => ⟨hoth i fun e => hi0 (by rw [e, e0]; simp), fun o ho => ho⟩) hkeep (fun i o hio => by rw [hw]; exact hc.fzl i o hio)
  (fun i hi => .inl hi) (c1.nod 0)
 have hlist : cur'.toList = valsE e (delZ zs i) ++ delJ e zs us := by
  rw [← hcur]
  show cur.toList.take (i * e) ++ valsE e B ++ cur.toList.drop (i * e + (valsE e B).length) = _
  unfold delZ delJ
  rw [hA, hB, valsE_app, ← hus]
  have t1 : cur.toList.take (i * e) = valsE e A := by
   rw [hus, hval, List.append_assoc]
   exact List.take_left' (by rw [valsE_length, hAl])
  rw [t1, hnl, ← Nat.add_mul, show i + (zs.length - (i + 1)) = zs.length - 1 by omega]
 have hrel := ho.rel.mono hkeep
 have hnew : OwnL (arr fN (delZ zs i) (delJ e zs us)) Fz (w.setRow (φ D) cur') cur'.toList [] := by
  rw [hlist]
  unfold arr
  have hr1 : RelL ((zs.map fN).flatten) Fz (w.setRow (φ D) cur') (valsE e zs) := by
   obtain ⟨v1, v2, q1, q2, q3⟩ := RelL.split (show RelL ((zs.map fN).flatten ++ us.map PV.val) Fz (w.setRow (φ D) cur') cur.toList from hrel)
   rw [hus] at q1
   have := List.append_inj q1 (by
    have hl1 := q2.len
    rw [hl1, valsE_length]
    have : ∀ l : List (α × (Nat → Value)), (l.map fN).flatten.length = l.length * e := by
     intro l
     induction l with
     | nil => simp
     | cons z l ih =>
      rw [List.map_cons, List.flatten_cons, List.length_append, ih, List.length_cons, Nat.succ_mul, show fN z = nvI z.2 0 (g z.1) from hN z.1 z.2]
      have : ∀ (ps : List PV) (i : Nat), (nvI z.2 i ps).length = ps.length := by
       intro ps
       induction ps with
       | nil => intro i; rfl
       | cons p ps ih => intro i; simp [nvI, ih]
      rw [this, hg]; omega
    rw [this])
   rw [this.1]; exact q2
  rw [hzs, List.map_append, List.flatten_append, List.map_cons, List.flatten_cons, valsE_app] at hr1
  obtain ⟨v1, v2, q1, q2, q3⟩ := RelL.split hr1
  obtain ⟨v3, v4, q4, q5, q6⟩ := RelL.split q3
  have hfl : ∀ l : List (α × (Nat → Value)), (l.map fN).flatten.length = l.length * e := by
   intro l
   induction l with
   | nil => simp
   | cons z l ih =>
    rw [List.map_cons, List.flatten_cons, List.length_append, ih, List.length_cons, Nat.succ_mul, show fN z = nvI z.2 0 (g z.1) from hN z.1 z.2]
    have : ∀ (ps : List PV) (i : Nat), (nvI z.2 i ps).length = ps.length := by
     intro ps
     induction ps with
     | nil => intro i; rfl
     | cons p ps ih => intro i; simp [nvI, ih]
    rw [this, hg]; omega
  have hfz : (fN zs[i]).length = e := by have := hfl [zs[i]]; simpa using this
  obtain ⟨rfl, hv2⟩ := List.append_inj q1 (by rw [q2.len, hfl, valsE_length])
  have hv2 : (List.range e).map zs[i].2 ++ valsE e B = v2 := hv2
  rw [q4] at hv2
  obtain ⟨_, rfl⟩ := List.append_inj hv2 (by rw [q5.len, hfz]; simp)
  have hrB : RelL (((delZ zs i).map fN).flatten) Fz (w.setRow (φ D) cur') (valsE e (delZ zs i)) := by
   unfold delZ
   rw [hA, hB, List.map_append, List.flatten_append, valsE_app]
   exact q2.append q6
  have hbor : BorL ((delZ zs i).map fN).flatten := by
   intro p hp
   obtain ⟨l, hl, hp⟩ := List.mem_flatten.1 hp
   obtain ⟨z, _, rfl⟩ := List.mem_map.1 hl
   rw [show fN z = nvI z.2 0 (g z.1) from hN z.1 z.2] at hp
   exact nvI_bor z.2 (hb z.1) p hp
  have hoj : OwnL ((delJ e zs us).map PV.val) Fz (w.setRow (φ D) cur') (delJ e zs us) [] := own_vals fun v hv => hone v (by
   unfold delJ at hv
   rw [← hus] at hv
   exact List.mem_of_mem_drop hv)
  have := (hbor.own hrB).append hoj
  rwa [List.append_nil] at this
 have c3 := c2.pushB (d := D) (g := φ D) (t := E) (cs := arr fN (delZ zs i) (delJ e zs us)) (F := []) (X := Fp 0) (by rw [St.setB_b, if_pos rfl]) hset hnew k2
  (fun x hx => by
   simp only [if_true]
   rw [e0]
   simp only [List.nil_append, List.mem_cons, List.mem_append] at hx ⊢
   rcases hx with hx | hx
   ·exact .inl hx
   ·exact .inr (.inr hx))
  (by
   have hnd := c1.nod 0
   rw [e0] at hnd
   simp only [List.nil_append]
   rw [List.nodup_cons] at hnd ⊢
   exact ⟨fun hh => hnd.1 (by simp [hh]), (List.nodup_append.1 hnd.2).2.1⟩) (.inl rfl)
 have c4 := (c3.pull G).reslot (s := G) (rv := RV.gat (subH e u 0 (zs.length - 1)) D (zs.length - 1) cp) ⟨⟨hres.trans (by rw [hidx]; simp), by omega, hcx⟩, by simp [mv]⟩
 have c5 := c4.put0 (d := d) (r := RV.sc (subH e u 0 (zs.length - 1))) (v := subH e u 0 (zs.length - 1)) hd (SvOwn.of_sc (by rw [hres]; rfl))
 refine wp_val (v := subH e u 0 (zs.length - 1)) (w' := w.setRow (φ D) cur') ?_ (h5 _ _ (Conc.eqv c5 (fun k => ?_) (fun k => ?_)))
 ·rw [hres]
  have es' : a.eval (.tmp s) = a.tmps.getD s undef := rfl
  have ex' : a.eval (.tmp x) = a.tmps.getD x undef := rfl
  unfold execOp
  simp only [resolve, invoke, builtin, Sem.run_bind, Sem.run_pure, Result.andThen_ok, List.map_toArray, List.map_cons, List.map_nil, hs1, hs2, hrun]
 ·show setL [(d, _), (G, _)] σ.s k = _
  have hne : ¬ d = G := fun e => by rw [e] at hdG; simp at hdG
  simp only [setL, St.set, St.setB]
  cases hkd : Nat.beq k d <;> cases hkG : Nat.beq k G
  ·rfl
  ·rfl
  ·rfl
  ·exact absurd ((Nat.eq_of_beq_eq_true hkd).symm.trans (Nat.eq_of_beq_eq_true hkG)) hne
 ·show setL [(D, _)] σ.b k = _
  simp only [setL, St.set, St.setB]
  cases hkd : Nat.beq k D <;> rfl
end
end Go.Proofs.Ytmekkgdboplbjaa.M
/- A variable that is only read from here on; bytes as arguments. No condition. -/
set_option linter.unusedVariables false
namespace Go.Proofs.Ytmekkgdboplbjaa.M
open Go Go.RowKit
section
variable {P : Program} {n : Nat} {h0 : Nat → Prop} {w0 : World} {Fz0 : FzT} {σ : St} {Q : Exit → St → Prop} {c : Code}
theorem sw_weakB {d t : Nat} {cs : List PV} (qs : List PV) (hd : σ.b d = some (t, cs)) (ht : ToL cs qs) (hb : BorL qs) (h : SW P n h0 w0 Fz0 c (σ.setB d (some (t, qs))) Q) : SW P n h0 w0 Fz0 c σ Q := fun a w hc => by
 obtain ⟨φ, Fz, Fp, hc⟩ := hc
 obtain ⟨cur, h1, h2⟩ := hc.box d _ hd
 obtain ⟨k1, k2, k3⟩ := hc.bxb d _ hd
 have c1 := hc.pullB hd
 have hn := c1.nod 0
 rw [if_pos rfl] at hn
 have c2 := c1.pushB (d := d) (g := φ d) (t := t) (cs := qs) (F := []) (X := mv Fp (2 * d + 2) 0) (by rw [St.setB_b, if_pos rfl]) h1 (hb.own (ht.rel h2.rel)) k2 (fun b hb => by rw [if_pos rfl]; simpa using hb) (by simpa using hn) (.inl rfl)
 exact h a w (Conc.eqv ⟨_, _, _, c2⟩ (fun i => rfl) (fun e => by
  simp only [St.setB_b]
  split <;> rfl))
end
theorem open_u8 {P : Program} {T : TypeId} (h : P.underlying T = some (.int .u8)) : OpenT P T (fun n : Int => [PV.val (.int .u8 n)]) fun n => 0 ≤ n ∧ n ≤ 255 := by
 intro H enc w sp held n cs x hx
 obtain ⟨m, rfl, _, hw⟩ := DataW.trod_int h hx
 exact ⟨m, ⟨_, [], rfl, ⟨rfl, rfl⟩, rfl⟩, bounds_u8 hw⟩
end Go.Proofs.Ytmekkgdboplbjaa.M
