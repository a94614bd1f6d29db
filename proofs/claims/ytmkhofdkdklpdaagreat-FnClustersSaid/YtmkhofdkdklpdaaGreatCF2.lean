/- The rules for calls that take what their arguments own, and for calls that turn a variable of the caller. No condition. -/
import Derived.Test.YtmkhofdkdklpdaaGreatCF1
import Derived.KernelRfl
import Derived.Laws.Strings3
import Derived.Laws.BytesString
import Derived.Laws.Concat
import Derived.Lib.LaidTab
import Derived.Lib.Join
import Derived.Lib.ItoaNum
import Derived.Lib.ItoaLen
import Derived.Sort.Grow
import Derived.Deep.Draws
import Derived.ProofKit
import Derived.OpenShut
import Derived.Carry
import Derived.Below
import Derived.ChangeSame
import Derived.ChangeArms
import Derived.WideKeyArgs
import Derived.Deep.Slices
set_option linter.unusedVariables false
namespace Go.Proofs.YtmkhofdkdklpdaaGreat.M
open Go Go.RowKit
section
variable {P : Program} {n : Nat} {h0 : Nat → Prop} {w0 : World} {Fz0 : FzT} {ops : Array Oper} {Q : Exit → St → Prop}
theorem RelT.bor {Fz : FzT} {w : World} : ∀ {l : List (Bool × List PV)} {vs : List Value}, (∀ q, q ∈ l → BorL q.2) → RelT l Fz w vs → OwnT l Fz w vs []
  | [], _, _, h => ⟨h, rfl⟩
  | q :: l, vs, hb, h => by
    obtain ⟨v, vs', rfl, h1, h2⟩ := h
    exact ⟨v, vs', [], [], rfl, rfl, ⟨h1.1, BorL.own (hb q (by simp)) h1.2⟩, RelT.bor (fun x hx => hb x (by simp [hx])) h2⟩
theorem run_xcall {f d t : Nat} {xs : List Operand} {args : Array Operand} {tys : Array TypeId} {ty : TypeId} {pos : String} {af : Array Edge} {g : Option (Nat × Bool)} {a : Act} {w : World} (hf : callI P f = true) (he : args.toList = .tmp t :: xs) :
    (execOp a.eval ⟨some d, .call { callee := .value (.func f), args := args, argTypes := tys }, ty, pos, af, g⟩).run P w = .ok (.enter f (a.tmps.getD t undef :: xs.map a.eval).toArray) w := by
  unfold execOp
  have e : (#[] ++ args.map a.eval ++ #[] : Array Value) = (args.toList.map a.eval).toArray := by apply Array.ext'; simp
  simp only [resolve, Act.eval, Deferred.ofValue, Sem.run_bind, Sem.run_pure, Result.andThen_ok, invoke]
  rw [run_call hf, e, he]; rfl
theorem run_ocall {f d : Nat} {args : Array Operand} {tys : Array TypeId} {ty : TypeId} {pos : String} {af : Array Edge} {g : Option (Nat × Bool)} {a : Act} {w : World} (hf : callI P f = true) :
    (execOp a.eval ⟨some d, .call { callee := .value (.func f), args := args, argTypes := tys }, ty, pos, af, g⟩).run P w = .ok (.enter f (args.toList.map a.eval).toArray) w := by
  unfold execOp
  have e : (#[] ++ args.map a.eval ++ #[] : Array Value) = (args.toList.map a.eval).toArray := by apply Array.ext'; simp
  simp only [resolve, Act.eval, Deferred.ofValue, Sem.run_bind, Sem.run_pure, Result.andThen_ok, invoke]
  rw [run_call hf, e]
/-- A call that turns a variable which owns nothing. -/
theorem loc_xcall0 {f d p bx t : Nat} {xs : List Operand} {args : Array Operand} {tys : Array TypeId} {ty : TypeId} {pos : String} {af : Array Edge} {g : Option (Nat × Bool)} {cs cs' : List PV} {qs as_ : List (Bool × List PV)} {r : RV} (hd : d < n) (hf : callI P f = true) (he : args.toList = .tmp p :: xs)
    (hok : OpsOk xs qs) (hto : ToT qs as_) (hbc : BorL cs) (hba : ∀ q, q ∈ as_ → BorL q.2) (hu : XCall P f t cs cs' as_ r) :
    Loc P n ⟨some d, .call { callee := .value (.func f), args := args, argTypes := tys }, ty, pos, af, g⟩ ⟨(p, RV.ptr bx 0) :: opsR xs qs, [(bx, (t, cs))], [(d, some r)], [(bx, some (t, cs'))], none⟩ := by
  intro h0 w0 Fz0 σ a w K Q hc hr hrb _ h5
  obtain ⟨φ, Fz, Fp, hc⟩ := hc
  have hp := (hc.slot p _ hr.1).1
  obtain ⟨cur, hg, ho⟩ := hc.box bx _ hrb.1
  obtain ⟨g1, g2, g3⟩ := hc.bxb bx _ hrb.1
  have hglt : φ bx < w.heap.size := (Array.getElem?_eq_some_iff.1 hg).1
  have hrel := hto.rel (hc.relT hr.2 hok)
  unfold Oper.wp
  rw [run_xcall hf he, hp, Oper.upon_enter]
  refine (hu w (φ bx) cur _ Fz [] [] hc.fzl hg g2 (BorL.own hbc ho.rel) (RelT.bor hba hrel) (by simp)).mono ?_
  rintro e w' ⟨v, Fz', cur', F1', G, rfl, ht, hg', hf', ho', hv, hn, hin⟩
  simp only [List.append_nil, List.not_mem_nil, false_or] at hin
  refine h5 _ _ ?_
  have c1 := hc.pullB hrb.1
  have hn' := hn
  rw [List.nodup_cons, List.nodup_append] at hn'
  have c2 := c1.world (w' := w') (Fz' := Fz') (X := φ bx :: (F1' ++ G)) ht.os ht.tape ht.output ht.size (fun b hb hb0 => by
      have hbg : b ≠ φ bx := fun e => hb0 (by simp [e])
      have := ht.same b hb (fun e => hbg (Option.some.inj e)) (by simp)
      exact ⟨this.1, fun o => (this.2 o).1⟩)
    (fun b o hbo => by
      have hb := hc.fzl b o hbo
      have hbg : b ≠ φ bx := fun e => g2 o (e ▸ hbo)
      have := ht.same b hb (fun e => hbg (Option.some.inj e)) (by simp)
      exact ⟨(this.2 o).2 hbo, World.cell?_of_block this.1⟩) ht.fzl
    (fun b hb => by
      rcases List.mem_cons.1 hb with rfl | hb
      · exact .inl (by simp)
      · exact .inr (hin b hb)) hn
  have c3 := c2.pushB (d := bx) (g := φ bx) (t := t) (cs := cs') (cur := cur') (F := F1') (X := G) (by simp [St.setB_b]) hg' ho' hf' (fun b hb => by
      simp only [if_true]
      simp only [List.mem_append, List.mem_cons] at hb ⊢
      rcases hb with hb | hb | hb <;> simp [hb])
    (by
      rw [List.nodup_append, List.nodup_cons]
      refine ⟨hn'.2.1, ⟨fun h => hn'.1 (by simp [h]), hn'.2.2.1⟩, fun x hx y hy e => ?_⟩
      rcases List.mem_cons.1 hy with rfl | hy
      · exact hn'.1 (by simp [← e, hx])
      · exact hn'.2.2.2 x hx y hy e) (.inl rfl)
  have c4 := c3.push (i := d) (rv := r) (v := v) (F := G) (X := []) hd (hv _) (fun b hb => by
      simp only [give]
      rw [if_neg (by omega)]
      simpa using hb) (by simpa using hn'.2.2.1)
  exact Conc.eqv ⟨_, _, _, c4⟩ (fun i => rfl) (fun x => by
    show (bif Nat.beq x bx then some (t, cs') else σ.b x) = _
    rw [St.set_b, St.setB_b, St.setB_b, beq_eq]
    by_cases e : x = bx <;> simp [e])
def PV.OTo (p q : PV) : Prop := ∀ {Fz : FzT} {w : World} {v : Value} {F : List Nat}, p.own Fz w v F → q.own Fz w v F
theorem OTo.refl {p : PV} : p.OTo p := fun h => h
theorem OTo.lo {L : Nat → Prop} {es : List (List PV)} : (PV.sl (.lo L) es).OTo (PV.sl .v es) := fun h => ⟨h.1.1, h.2⟩
theorem OTo.nv {u : Value} {p : PV} : (PV.nv u p).OTo p := fun h => h.2
theorem OwnTo.cons {p q : PV} {ps qs : List PV} (h : p.OTo q) (k : OwnTo ps qs) : OwnTo (p :: ps) (q :: qs) := fun hh => by
  obtain ⟨v, vs', F1, F2, rfl, rfl, h1, h2⟩ := hh
  exact ⟨v, vs', F1, F2, rfl, rfl, h h1, k h2⟩
def OwnToT : List (Bool × List PV) → List (Bool × List PV) → Prop
  | [], [] => True
  | p :: ps, q :: qs => (p.1 = q.1 ∧ OwnTo p.2 q.2) ∧ OwnToT ps qs
  | _, _ => False
theorem OwnToT.own {Fz : FzT} {w : World} : ∀ {ps qs : List (Bool × List PV)} {vs : List Value} {F : List Nat}, OwnToT ps qs → OwnT ps Fz w vs F → OwnT qs Fz w vs F
  | [], [], _, _, _, h => h
  | p :: ps, q :: qs, _, _, k, h => by
    obtain ⟨v, vs', F1, F2, rfl, rfl, h1, h2⟩ := h
    exact ⟨v, vs', F1, F2, rfl, rfl, ⟨k.1.1 ▸ h1.1, k.1.2 h1.2⟩, OwnToT.own k.2 h2⟩
def LclX (L : Nat → Prop) (ts : List Nat) : List (Nat × RV) → Prop
  | [] => True
  | p :: l => (p.1 ∈ ts ∨ p.2.Lcl L) ∧ LclX L ts l
theorem LclX.mem {L : Nat → Prop} {ts : List Nat} : ∀ {l : List (Nat × RV)}, LclX L ts l → ∀ p, p ∈ l → p.1 ∈ ts ∨ p.2.Lcl L
  | [], _, p, hp => by simp at hp
  | q :: l, h, p, hp => by
    rcases List.mem_cons.1 hp with rfl | hp
    · exact h.1
    · exact LclX.mem h.2 p hp
theorem setL_kills : ∀ {xs : List Operand} {f : Nat → Option RV} {i : Nat} {rv : RV}, setL (killsO xs) f i = some rv → i ∉ tmpsO xs ∧ f i = some rv
  | [], f, i, rv, h => ⟨by simp [tmpsO], h⟩
  | x :: xs, f, i, rv, h => by
    have h : setL (killsO xs) (setL (killO x) f) i = some rv := by rw [← setL_app]; exact h
    obtain ⟨k1, k2⟩ := setL_kills h
    cases x with
    | tmp t =>
      have k2 : (bif Nat.beq i t then none else f i) = some rv := k2
      rw [beq_eq] at k2
      by_cases e : i = t
      · simp [e] at k2
      · simp [e] at k2
        exact ⟨by simp [tmpsO, e, k1], k2⟩
    | _ => exact ⟨k1, k2⟩
/-- A call that takes what its arguments own. -/
theorem swl_ocall {f d : Nat} {L : Nat → Prop} {args : Array Operand} {tys : Array TypeId} {ty : TypeId} {pos : String} {af : Array Edge} {ol : List Oper} {l : List (Nat × RV)} {b : List (Nat × (Nat × List PV))} {qs as_ : List (Bool × List PV)} {r : RV}
    (hd : d < n) (hf : callI P f = true) (hrd : RdL (opsR args.toList qs) (lk l)) (hok : OpsOk args.toList qs) (hap : apartO args.toList = true) (hto : OwnToT qs as_) (hu : OCall P f as_ r) (hL : ∀ x, L x → h0 x) (hls : LclX L (tmpsO args.toList) l) (hlb : LclBA L b)
    (h : SWL P n h0 w0 Fz0 ops ol ((⟨setL (killsO args.toList) (lk l), lk b⟩ : St).set d (some r)) Q) :
    SWL P n h0 w0 Fz0 ops (⟨some d, .call { callee := .value (.func f), args := args, argTypes := tys }, ty, pos, af, none⟩ :: ol) (St.of l b) Q := fun a w hc => by
  obtain ⟨φ, Fz, Fp, hc⟩ := hc
  obtain ⟨F, Fp', hown, c1, hm, hnd⟩ := hc.pulls args.toList qs hrd hok (of_decide_eq_true hap)
  have hF := (List.nodup_append.1 hnd).1
  refine wpList_plain rfl fun K hK => ?_
  unfold Oper.wp
  rw [run_ocall hf, Oper.upon_enter]
  refine (hu w _ Fz F hc.fzl (hto.own hown) hF).mono ?_
  rintro e w' ⟨v, Fz', G, rfl, ht, hv, hn, hin⟩
  have hlt0 : ∀ x, x ∈ Fp 0 → x < w.heap.size := fun x hx => (hc.low 0 x hx).2
  have c2 := c1.uworld (w' := w') (Fz' := Fz') (L := L) (X := G ++ Fp 0) ht.os ht.tape ht.output ht.size (fun x hx hx0 => ht.same x hx (by simp) (fun k => hx0 ((hm x).2 (by simp [k])))) hL
    (fun i rv hi => by
      obtain ⟨k1, k2⟩ := setL_kills hi
      rcases hls.mem _ (lk_mem k2) with k | k
      · exact absurd k k1
      · exact k)
    (fun d' bx hb => LclBA.mem hlb _ (lk_mem hb)) ht.fzl
    (fun x hx => by
      rcases List.mem_append.1 hx with hx | hx
      · rcases hin x hx with k | k
        · exact .inl ((hm x).2 (by simp [k]))
        · exact .inr k
      · exact .inl ((hm x).2 (by simp [hx])))
    (by
      rw [List.nodup_append] at hnd ⊢
      refine ⟨hn, hnd.2.1, fun x hx y hy e => ?_⟩
      rcases hin x hx with k | k
      · exact hnd.2.2 x k y hy e
      · have := hlt0 y hy; omega)
  have c3 := c2.push (i := d) (rv := r) (v := v) (F := G) (X := Fp 0) hd (hv _) (fun x hx => by simpa using hx) (by
      have := c2.nod 0
      simpa using this)
  exact hK _ _ (h _ _ ⟨_, _, _, c3⟩)
end
end Go.Proofs.YtmkhofdkdklpdaaGreat.M

/- Slices that are made own at once; arrays whose elements are read and written at places that are known only as numbers; calls that turn the array of a slice. No condition. -/
set_option linter.unusedVariables false
namespace Go.Proofs.YtmkhofdkdklpdaaGreat.M
open Go Go.RowKit
section
variable {P : Program} {n : Nat} {h0 : Nat → Prop} {w0 : World} {Fz0 : FzT} {ops : Array Oper} {Q : Exit → St → Prop}
def arr {α : Type} (f : α → List PV) (xs : List α) (jk : List Value) : List PV := (xs.map f).flatten ++ jk.map PV.val
theorem loc_aload {T d p b off t k e : Nat} {ty : TypeId} {pos : String} {af : Array Edge} {g : Option (Nat × Bool)} {ag : Bool} {α : Type} {f : α → List PV} {xs : List α} {jk : List Value} {qs : List PV} (hf : ∀ x, (f x).length = e) (hoff : off = k * e) (hk : k < xs.length) (hd : d < n) (hT : tyI P T = some (ag, e)) (h1 : ag = false → e = 1)
    (ht : ToL (f xs[k]) qs) (hb : BorL qs) :
    Loc P n ⟨some d, .load T (.tmp p), ty, pos, af, g⟩ ⟨[(p, RV.ptr b off)], [(b, (t, arr f xs jk))], [(d, some (RV.sv ag qs))], [], none⟩ := by
  unfold arr
  rw [at_split hk]
  exact loc_loadM (o := 0) (by rw [hoff, at_len hf (Nat.le_of_lt hk)]; rfl) hd hT h1 (by rw [hf]; omega) (by rw [List.drop_zero, List.take_of_length_le (by rw [hf]; exact Nat.le_refl _)]; exact ht) hb
theorem loc_astore {T p b off t k e : Nat} {x : Operand} {ty : TypeId} {pos : String} {af : Array Edge} {g : Option (Nat × Bool)} {ag : Bool} {α : Type} {f : α → List PV} {xs : List α} {jk : List Value} {vs : List PV} (y : α) (hf : ∀ x, (f x).length = e) (hoff : off = k * e) (hk : k < xs.length) (hT : tyI P T = some (ag, e)) (hx : OpOk x (RV.sv ag vs)) (hv : vs = f y) :
    Loc P n ⟨none, .store T (.tmp p) x, ty, pos, af, g⟩ ⟨(p, RV.ptr b off) :: opR x (RV.sv ag vs), [(b, (t, arr f xs jk))], killO x, [(b, some (t, arr f (xs.set k y) jk))], none⟩ := by
  have h : Loc P n ⟨none, .store T (.tmp p) x, ty, pos, af, g⟩ _ := loc_storeM (off := off) (P := P) (n := n) (T := T) (p := p) (b := b) (t := t) (x := x) (ty := ty) (pos := pos) (af := af) (g := g) (ag := ag) (A := ((xs.take k).map f).flatten) (m := f xs[k]) (B := ((xs.drop (k + 1)).map f).flatten ++ jk.map PV.val) (vs := vs) (o := 0) (by rw [hoff, at_len hf (Nat.le_of_lt hk)]; rfl) hT hx (by rw [hv]; exact hf y) (by rw [hf]; omega)
  unfold arr
  rw [at_split hk, ← at_join (cs := vs) y hk hv]
  have e2 : List.take 0 (f xs[k]) ++ (vs ++ List.drop (0 + e) (f xs[k])) = vs := by
    rw [List.take_zero, List.nil_append, List.drop_eq_nil_of_le (by rw [hf]; omega), List.append_nil]
  rw [e2] at h
  exact @h
/-- The function turns the array of the slice that is its first argument: from cs to cs'. -/
def ACall (P : Program) (f : FuncId) (t m cp : Nat) (cs cs' : List PV) (args : List (Bool × List PV)) (r : RV) : Prop :=
  ∀ (w : World) (g : Nat) (cur : Array Value) (vs : List Value) (Fz : FzT) (F1 F2 : List Nat), m ≤ cp → cp ≤ maxLen → (∀ b o, Fz b o → b < w.heap.size) → w.heap[g]? = some (.cells cur t (0, 0)) → (∀ o, ¬ Fz g o) → OwnL cs Fz w cur.toList F1 → OwnT args Fz w vs F2 → (g :: (F1 ++ F2)).Nodup →
    Calls P f (.slice (some ⟨g, 0, none⟩) m cp :: vs).toArray w fun e w' => ∃ (v : Value) (Fz' : FzT) (cur' : Array Value) (F1' G : List Nat), e = .returned v ∧ Turned (F1 ++ F2) (some g) Fz w Fz' w' ∧ w'.heap[g]? = some (.cells cur' t (0, 0)) ∧ (∀ o, ¬ Fz' g o) ∧ OwnL cs' Fz' w' cur'.toList F1' ∧
      (∀ φ, r.holds φ Fz' w' v G) ∧ (g :: (F1' ++ G)).Nodup ∧ ∀ b, b ∈ F1' ++ G → b ∈ F1 ++ F2 ∨ (w.heap.size ≤ b ∧ b < w'.heap.size)
theorem acall_of {f : FuncId} {fn : Func} {c : Code} {t m cp : Nat} {cs cs' : List PV} {args rs : List (Bool × List PV)} (hf : P.funcs[f]? = some fn) (hb : fn.body = some c) (hn : args.length + 1 ≤ fn.ntmps) (hn2 : args.length ≤ 4000)
    (h : ∀ (g : Nat) (h0 : Nat → Prop) (w0 : World) (Fz0 : FzT), m ≤ cp → SW P fn.ntmps h0 w0 Fz0 c (St.of ((0, RV.sc (.slice (some ⟨g, 0, none⟩) m cp)) :: (5000, RV.phi 0 g) :: (5001, RV.gat (.slice (some ⟨g, 0, none⟩) m cp) 0 m cp) :: argsL 1 args) [(0, (t, cs))]) (endX P fn.results.toList g t cs' rs)) : ACall P f t m cp cs cs' args (resRV rs) := by
  intro w g cur vs Fz F1 F2 hmc hcpx hz hg hfg hcs hown hnd
  have hvl := hown.len
  have hglt : g < w.heap.size := (Array.getElem?_eq_some_iff.1 hg).1
  have hFlt : ∀ b, b ∈ F2 → b < w.heap.size := fun b hb => hown.lt b hb
  have hFlt1 : ∀ b, b ∈ F1 → b < w.heap.size := fun b hb => hcs.lt b hb
  obtain ⟨ps, e1, e2, e3⟩ := hown.parts
  rw [List.nodup_cons, List.nodup_append] at hnd
  obtain ⟨n0, n1, n2, n12⟩ := hnd
  have n0' : g ∉ F1 ∧ g ∉ F2 := ⟨fun k => n0 (List.mem_append.2 (.inl k)), fun k => n0 (List.mem_append.2 (.inr k))⟩
  refine calls_of_wp hf hb ?_
  have hodd : ∀ x b, b ∈ argF 1 ps x → x ≠ 2 := fun x b hb e => by
    subst e
    unfold argF at hb
    rw [if_neg (by omega)] at hb
    simp at hb
  have hfp : ∀ x b, b ∈ (fun x => if x = 2 then F1 else argF 1 ps x) x → (x = 2 ∧ b ∈ F1) ∨ (x ≠ 2 ∧ b ∈ argF 1 ps x) := fun x b hb => by
    simp only at hb
    split at hb
    · rename_i e; exact .inl ⟨e, hb⟩
    · rename_i e; exact .inr ⟨e, hb⟩
  have hc : Conc (fun b => b < w.heap.size ∧ b ≠ g ∧ b ∉ F1 ++ F2) w Fz fn.ntmps (St.of ((0, RV.sc (.slice (some ⟨g, 0, none⟩) m cp)) :: (5000, RV.phi 0 g) :: (5001, RV.gat (.slice (some ⟨g, 0, none⟩) m cp) 0 m cp) :: argsL 1 args) [(0, (t, cs))]) { tmps := (.slice (some ⟨g, 0, none⟩) m cp :: vs).toArray ++ Array.replicate (fn.ntmps - (Value.slice (some ⟨g, 0, none⟩) m cp :: vs).toArray.size) undef, defers := [] } w := by
    refine ⟨fun _ => g, Fz, fun x => if x = 2 then F1 else argF 1 ps x, ⟨BelowO.refl _ _, rfl, by simp; omega, fun _ hb => hb.1, fun _ _ _ => Iff.rfl, hz, fun i rv hi => ?_, fun d bx hd => ?_, fun d bx hd => ?_, fun d d' bx bx' hd hd' _ => ?_, fun x y hxy b hx hy => ?_, fun x => ?_, fun x b hb => ?_⟩⟩
    · by_cases hi0 : i = 0
      · subst hi0
        have hi' : RV.sc (.slice (some ⟨g, 0, none⟩) m cp) = rv := by injection hi
        subst hi'
        have : ((.slice (some ⟨g, 0, none⟩) m cp :: vs).toArray ++ Array.replicate (fn.ntmps - (Value.slice (some ⟨g, 0, none⟩) m cp :: vs).toArray.size) undef).getD 0 undef = .slice (some ⟨g, 0, none⟩) m cp := by
          rw [Array.getD_eq_getD_getElem?, Array.getElem?_append_left (by simp)]
          simp
        rw [this]
        have e : (if 2 * 0 + 1 = 2 then F1 else argF 1 ps (2 * 0 + 1)) = [] := by
          simp only [argF]
          rw [if_neg (by omega), if_neg (by omega)]
        show (RV.sc _).holds _ _ _ _ (if 2 * 0 + 1 = 2 then F1 else argF 1 ps (2 * 0 + 1))
        rw [e]
        exact SvOwn.of_sc rfl
      · have hi2 : (if i = 5000 then some (RV.phi 0 g) else if i = 5001 then some (RV.gat (.slice (some ⟨g, 0, none⟩) m cp) 0 m cp) else lk (argsL 1 args) i) = some rv := by
          have : (bif Nat.beq i 0 then some (RV.sc (.slice (some ⟨g, 0, none⟩) m cp)) else bif Nat.beq i 5000 then some (RV.phi 0 g) else bif Nat.beq i 5001 then some (RV.gat (.slice (some ⟨g, 0, none⟩) m cp) 0 m cp) else lk (argsL 1 args) i) = some rv := hi
          rw [beq_eq, beq_eq, beq_eq] at this
          by_cases h5 : i = 5000
          · simpa [hi0, h5] using this
          · by_cases h6 : i = 5001
            · simpa [hi0, h5, h6] using this
            · simpa [hi0, h5, h6] using this
        by_cases h5 : i = 5000
        · subst h5
          rw [if_pos rfl] at hi2
          injection hi2 with hi2
          subst hi2
          refine ⟨rfl, ?_⟩
          show (if 2 * 5000 + 1 = 2 then F1 else argF 1 ps (2 * 5000 + 1)) = []
          rw [if_neg (by omega)]
          unfold argF
          rw [if_pos (by omega), List.getD_eq_getElem?_getD, List.getElem?_eq_none (by omega)]
          rfl
        rw [if_neg h5] at hi2
        by_cases h6 : i = 5001
        · subst h6
          rw [if_pos rfl] at hi2
          injection hi2 with hi2
          subst hi2
          refine ⟨⟨rfl, hmc, hcpx⟩, ?_⟩
          show (if 2 * 5001 + 1 = 2 then F1 else argF 1 ps (2 * 5001 + 1)) = []
          rw [if_neg (by omega)]
          unfold argF
          rw [if_pos (by omega), List.getD_eq_getElem?_getD, List.getElem?_eq_none (by omega)]
          rfl
        rw [if_neg h6] at hi2
        have hi' := hi2
        obtain ⟨j, q, k1, k2, rfl⟩ := lk_args hi'
        subst k1
        obtain ⟨v, k3, k4⟩ := e3 j q k2
        have hjl := (List.getElem?_eq_some_iff.1 k3).1
        have : ((.slice (some ⟨g, 0, none⟩) m cp :: vs).toArray ++ Array.replicate (fn.ntmps - (Value.slice (some ⟨g, 0, none⟩) m cp :: vs).toArray.size) undef).getD (1 + j) undef = v := by
          rw [Array.getD_eq_getD_getElem?, Array.getElem?_append_left (by simp; omega)]
          rw [Nat.add_comm]
          simp [k3]
        rw [this]
        have k5 : SvOwn q.1 q.2 Fz w v (if 2 * (1 + j) + 1 = 2 then F1 else argF 1 ps (2 * (1 + j) + 1)) := by rw [if_neg (by omega), argF_at]; exact k4
        exact k5
    · have hd2 : (bif Nat.beq d 0 then some (t, cs) else none) = some bx := hd
      rw [beq_eq] at hd2
      by_cases h0' : d = 0
      · simp [h0'] at hd2; subst hd2; subst h0'
        exact ⟨cur, hg, by simpa using hcs⟩
      · simp [h0'] at hd2
    · have hd2 : (bif Nat.beq d 0 then some (t, cs) else none) = some bx := hd
      refine ⟨fun k => k.2.1 rfl, hfg, fun r hr => ?_⟩
      rcases hfp r _ hr with ⟨_, k⟩ | ⟨_, k⟩
      · exact n0'.1 k
      · have := argF_sub k
        rw [← e2] at this
        exact n0'.2 this
    · have hd2 : (bif Nat.beq d 0 then some (t, cs) else none) = some bx := hd
      have hd3 : (bif Nat.beq d' 0 then some (t, cs) else none) = some bx' := hd'
      rw [beq_eq] at hd2 hd3
      by_cases k1 : d = 0
      · by_cases k2 : d' = 0
        · omega
        · simp [k2] at hd3
      · simp [k1] at hd2
    · rcases hfp x _ hx with ⟨k1, k2⟩ | ⟨k1, k2⟩ <;> rcases hfp y _ hy with ⟨k3, k4⟩ | ⟨k3, k4⟩
      · omega
      · have := argF_sub k4
        rw [← e2] at this
        exact n12 b k2 b this rfl
      · have := argF_sub k2
        rw [← e2] at this
        exact n12 b k4 b this rfl
      · exact argF_dis (by rw [← e2]; exact n2) hxy k2 k4
    · split
      · exact n1
      · exact argF_nod (by rw [← e2]; exact n2) x
    · rcases hfp x _ hb with ⟨_, k⟩ | ⟨_, k⟩
      · exact ⟨fun q => q.2.2 (List.mem_append.2 (.inl k)), hFlt1 b k⟩
      · have := argF_sub k
        rw [← e2] at this
        exact ⟨fun q => q.2.2 (List.mem_append.2 (.inr this)), hFlt b this⟩
  refine wp_mono (h g _ w Fz hmc _ w hc) fun e a' w' ⟨τ, hq, hc'⟩ => ?_
  obtain ⟨φ, Fz', Fp, hc'⟩ := hc'
  have hres : EndX P fn.results.toList g t cs' rs τ → a'.defers = [] ∧ ∃ v, (results fn a'.tmps).run P w' = .ok v w' ∧ ∃ (v' : Value) (Fz' : FzT) (cur' : Array Value) (F1' G : List Nat), Ending.returned v = .returned v' ∧ Turned (F1 ++ F2) (some g) Fz w Fz' w' ∧ w'.heap[g]? = some (.cells cur' t (0, 0)) ∧ (∀ o, ¬ Fz' g o) ∧ OwnL cs' Fz' w' cur'.toList F1' ∧
      (∀ φ, (resRV rs).holds φ Fz' w' v' G) ∧ (g :: (F1' ++ G)).Nodup ∧ ∀ b, b ∈ F1' ++ G → b ∈ F1 ++ F2 ∨ (w.heap.size ≤ b ∧ b < w'.heap.size) := by
    rintro ⟨hb0, hG, hr⟩
    have hφ : φ 0 = g := (hc'.slot 5000 _ hG).1
    obtain ⟨cur', hg', ho'⟩ := hc'.box 0 _ hb0
    obtain ⟨m1, m2, m3⟩ := hc'.bxb 0 _ hb0
    rw [hφ] at hg' m1 m2 m3
    have c1 := hc'.pullB hb0
    obtain ⟨vs', G, r1, r2, r3, r4⟩ := ret_run _ rs c1 hr
    have hG2 : ∀ b, b ∈ G → ∃ r, r ≠ 2 ∧ b ∈ Fp r := fun b hb => by
      obtain ⟨r, k1, k2⟩ := r4 b hb
      have k2 : b ∈ (if r = 0 then φ 0 :: mv Fp (2 * 0 + 2) 0 else mv Fp (2 * 0 + 2) r) := k2
      rw [if_neg k1] at k2
      unfold mv at k2
      rw [if_neg k1] at k2
      split at k2
      · simp at k2
      · rename_i k3; exact ⟨r, by omega, k2⟩
    have hlow : ∀ x b, b ∈ Fp x → b ∈ F1 ++ F2 ∨ (w.heap.size ≤ b ∧ b < w'.heap.size) := fun x b hb => by
      have := hc'.low x b hb
      by_cases hbF : b ∈ F1 ++ F2
      · exact .inl hbF
      · exact .inr ⟨Nat.le_of_not_lt fun hlt => this.1 ⟨hlt, fun e => m3 x (e ▸ hb), hbF⟩, this.2⟩
    refine ⟨hc'.dfr, _, run_res r1, _, Fz', cur', Fp 2, G, rfl, ⟨hc'.bel.os, hc'.bel.tape, hc'.bel.output, hc'.bel.size, fun b k1 k0 k2 => ?_, hc'.fzl⟩, hg', m2, ho', res_one r2, ?_, fun b hb => ?_⟩
    · have hbg : b ≠ g := fun e => k0 (by rw [e])
      exact ⟨hc'.bel.block b ⟨k1, hbg, k2⟩, fun o => hc'.fz0 b o ⟨k1, hbg, k2⟩⟩
    · rw [List.nodup_cons, List.nodup_append]
      refine ⟨fun hh => ?_, hc'.nod 2, r3, fun x hx y hy e => ?_⟩
      · rcases List.mem_append.1 hh with hh | hh
        · exact m3 2 hh
        · obtain ⟨r, _, k⟩ := hG2 g hh
          exact m3 r k
      · subst e
        obtain ⟨r, k1, k2⟩ := hG2 x hy
        exact hc'.dis r 2 k1 x k2 hx
    · rcases List.mem_append.1 hb with hb | hb
      · exact hlow 2 b hb
      · obtain ⟨r, _, k⟩ := hG2 b hb
        exact hlow r b k
  cases e with
  | normal => exact hres hq
  | ret => exact hres hq
  | _ => exact hq.elim
/-- A call that turns the array of a slice. -/
theorem swl_acall {f d p G bx t m cp : Nat} {L : Nat → Prop} {u : Value} {xs : List Operand} {args : Array Operand} {tys : Array TypeId} {ty : TypeId} {pos : String} {af : Array Edge} {ol : List Oper} {l : List (Nat × RV)} {b : List (Nat × (Nat × List PV))} {cs cs' : List PV} {qs as_ : List (Bool × List PV)} {r : RV}
    (hd : d < n) (hf : callI P f = true) (he : args.toList = .tmp p :: xs) (hp : lk l p = some (RV.sc u)) (hG : lk l G = some (RV.gat u bx m cp)) (hbx : lk b bx = some (t, cs)) (hrd : RdL (opsR xs qs) (lk l)) (hok : OpsOk xs qs) (hap : apartO xs = true) (hto : OwnToT qs as_) (hu : ACall P f t m cp cs cs' as_ r) (hL : ∀ x, L x → h0 x) (hls : LclX L (tmpsO xs) l) (hlb : LclB L bx b)
    (h : SWL P n h0 w0 Fz0 ops ol (((⟨setL (killsO xs) (lk l), lk b⟩ : St).setB bx (some (t, cs'))).set d (some r)) Q) :
    SWL P n h0 w0 Fz0 ops (⟨some d, .call { callee := .value (.func f), args := args, argTypes := tys }, ty, pos, af, none⟩ :: ol) (St.of l b) Q := fun a w hc => by
  obtain ⟨φ, Fz, Fp, hc⟩ := hc
  obtain ⟨⟨eu, hmc, hcpx⟩, _⟩ := hc.slot G _ hG
  have hpv : a.tmps.getD p undef = .slice (some ⟨φ bx, 0, none⟩) m cp := by rw [← eu]; exact (hc.one_ hp).1
  obtain ⟨F, Fp', hown, c1, hm, hnd⟩ := hc.pulls xs qs hrd hok (of_decide_eq_true hap)
  have hF := (List.nodup_append.1 hnd).1
  have hb1 : (⟨setL (killsO xs) (St.of l b).s, (St.of l b).b⟩ : St).b bx = some (t, cs) := hbx
  obtain ⟨cur, hg, ho⟩ := c1.box bx _ hb1
  obtain ⟨g1, g2, g3⟩ := c1.bxb bx _ hb1
  have hglt : φ bx < w.heap.size := (Array.getElem?_eq_some_iff.1 hg).1
  have c2 := c1.pullB hb1
  generalize hFp2 : (fun x => if x = 0 then φ bx :: mv Fp' (2 * bx + 2) 0 else mv Fp' (2 * bx + 2) x) = Fp2 at c2
  have e0 : Fp2 0 = φ bx :: (Fp' (2 * bx + 2) ++ Fp' 0) := by rw [← hFp2]; simp [mv]
  have hFin : ∀ x, x ∈ F → x ∈ Fp' 0 := fun x hx => (hm x).2 (by simp [hx])
  have hXin : ∀ x, x ∈ Fp 0 → x ∈ Fp' 0 := fun x hx => (hm x).2 (by simp [hx])
  have hn1 : (φ bx :: (Fp' (2 * bx + 2) ++ F)).Nodup := by
    rw [List.nodup_cons, List.nodup_append]
    refine ⟨fun k => ?_, c1.nod _, hF, fun x hx y hy e => ?_⟩
    · rcases List.mem_append.1 k with k | k
      · exact g3 _ k
      · exact g3 0 (hFin _ k)
    · subst e
      exact c1.dis 0 (2 * bx + 2) (by omega) x (hFin x hy) hx
  refine wpList_plain rfl fun K hK => ?_
  unfold Oper.wp
  rw [run_xcall hf he, hpv, Oper.upon_enter]
  refine (hu w (φ bx) cur _ Fz _ F hmc hcpx hc.fzl hg g2 ho (hto.own hown) hn1).mono ?_
  rintro e w' ⟨v, Fz', cur', F1', G, rfl, ht, hg', hf', ho', hv, hn, hin⟩
  have hn' := hn
  rw [List.nodup_cons, List.nodup_append] at hn'
  have hlt0 : ∀ x, x ∈ Fp 0 → x < w.heap.size := fun x hx => (hc.low 0 x hx).2
  have hdis0 : ∀ x, x ∈ Fp 0 → x ≠ φ bx ∧ x ∉ Fp' (2 * bx + 2) ∧ x ∉ F := fun x hx => by
    refine ⟨fun e => g3 0 (e ▸ hXin x hx), fun k => c1.dis 0 (2 * bx + 2) (by omega) x (hXin x hx) k, fun k => ?_⟩
    rw [List.nodup_append] at hnd
    exact hnd.2.2 x k x hx rfl
  have hdn : ∀ x, x ∈ F1' ++ G → x ∉ Fp 0 := fun x hx k => by
    obtain ⟨k1, k2, k3⟩ := hdis0 x k
    rcases hin x hx with hx | hx
    · rcases List.mem_append.1 hx with hx | hx
      · exact k2 hx
      · exact k3 hx
    · have := hlt0 x k; omega
  have c3 := c2.uworld (w' := w') (Fz' := Fz') (L := L) (X := φ bx :: (F1' ++ (G ++ Fp 0))) ht.os ht.tape ht.output ht.size (fun x hx hx0 => ht.same x hx (fun k => hx0 (by rw [e0, Option.some.inj k]; simp)) (fun k => hx0 (by
        rw [e0]
        rcases List.mem_append.1 k with k | k
        · simp [k]
        · simp [hFin x k]))) hL
    (fun i rv hi => by
      obtain ⟨k1, k2⟩ := setL_kills hi
      rcases hls.mem _ (lk_mem k2) with k | k
      · exact absurd k k1
      · exact k)
    (fun d' bxx hb => by
      rw [St.setB_b] at hb
      split at hb
      · cases hb
      · rename_i hne
        rcases hlb.mem _ (lk_mem hb) with k | k
        · exact absurd k hne
        · exact k) ht.fzl
    (fun x hx => by
      rw [e0]
      simp only [List.mem_cons, List.mem_append] at hx ⊢
      rcases hx with hx | hx | hx | hx
      · exact .inl (.inl hx)
      · rcases hin x (by simp [hx]) with k | k
        · rcases List.mem_append.1 k with k | k
          · exact .inl (.inr (.inl k))
          · exact .inl (.inr (.inr (hFin x k)))
        · exact .inr k
      · rcases hin x (by simp [hx]) with k | k
        · rcases List.mem_append.1 k with k | k
          · exact .inl (.inr (.inl k))
          · exact .inl (.inr (.inr (hFin x k)))
        · exact .inr k
      · exact .inl (.inr (.inr (hXin x hx))))
    (by
      rw [List.nodup_cons, List.nodup_append, List.nodup_append]
      refine ⟨fun k => ?_, hn'.2.1, ⟨hn'.2.2.1, (List.nodup_append.1 hnd).2.1, fun x hx y hy e => hdn x (by simp [hx]) (e ▸ hy)⟩, fun x hx y hy e => ?_⟩
      · simp only [List.mem_append] at k
        rcases k with k | k | k
        · exact hn'.1 (by simp [k])
        · exact hn'.1 (by simp [k])
        · exact (hdis0 _ k).1 rfl
      · rcases List.mem_append.1 hy with hy | hy
        · exact hn'.2.2.2 x hx y hy e
        · exact hdn x (by simp [hx]) (e ▸ hy))
  have hnX : (F1' ++ φ bx :: (G ++ Fp 0)).Nodup := by
    have := c3.nod 0
    simp only [if_true] at this
    refine (List.Perm.nodup_iff ?_).2 this
    exact List.perm_middle
  have c4 := c3.pushB (d := bx) (g := φ bx) (t := t) (cs := cs') (cur := cur') (F := F1') (X := G ++ Fp 0) (by simp [St.setB_b]) hg' ho' hf' (fun x hx => by
      simp only [if_true]
      simp only [List.mem_append, List.mem_cons] at hx ⊢
      rcases hx with hx | hx | hx | hx <;> simp [hx]) hnX (.inl rfl)
  have c5 := c4.push (i := d) (rv := r) (v := v) (F := G) (X := Fp 0) hd (hv _) (fun x hx => by
      simp only [give, if_true]
      rw [if_neg (by omega)]
      exact hx) (by
      have := c4.nod 0
      simp only [give, if_true] at this
      rw [if_neg (by omega)] at this
      exact this)
  exact hK _ _ (h _ _ (Conc.eqv ⟨_, _, _, c5⟩ (fun i => rfl) (fun x => by
    simp only [St.set_b, St.setB_b]
    split <;> rfl)))
end
end Go.Proofs.YtmkhofdkdklpdaaGreat.M

/- Short forms of the rules. No condition. -/
set_option linter.unusedVariables false
namespace Go.Proofs.YtmkhofdkdklpdaaGreat.M
open Go Go.RowKit
section
variable {P : Program} {n : Nat} {h0 : Nat → Prop} {w0 : World} {Fz0 : FzT} {ops : Array Oper} {σ σ0 : St} {QS : St → Prop} {Q : Exit → St → Prop} {o : Oper} {l : List Oper} {acc : List (Nat × Step)} {c : Code}
theorem rA {L : Step} (y : RunS P n ops QS l (σ.app L)) (h1 : RdL L.rs σ.s := by repeat (first | exact True.intro | refine And.intro rfl ?_)) (h2 : RdL L.rb σ.b := by repeat (first | exact True.intro | refine And.intro rfl ?_)) (x : Loc P n o L) (hg : o.guard = none := by exact rfl) (ha : L.al = none := by exact rfl) : RunS P n ops QS (o :: l) σ :=
  RunS.step h1 h2 (LocG.of hg x) (fun d hd => by rw [ha] at hd; cases hd) y
theorem rB {L : Step} {g s : Nat} {b c : Bool} (hb : c = b) (y : RunS P n ops QS l (σ.app ⟨(s, RV.bool c) :: L.rs, L.rb, L.ws, L.wb, L.al⟩)) (hg : o.guard = some (g, b) := by exact rfl) (hs : (ops[g]?).bind (·.dst) = some s := by exact rfl) (h1 : RdL ((s, RV.bool c) :: L.rs) σ.s := by repeat (first | exact True.intro | refine And.intro rfl ?_)) (h2 : RdL L.rb σ.b := by repeat (first | exact True.intro | refine And.intro rfl ?_)) (x : Loc P n o L) (hlt : s < n := by decide) (ha : L.al = none := by exact rfl) : RunS P n ops QS (o :: l) σ :=
  RunS.step (L := ⟨(s, RV.bool c) :: L.rs, L.rb, L.ws, L.wb, L.al⟩) h1 h2 (LocG.yes hg hs hlt hb x) (fun d hd => by have hd : L.al = some d := hd; rw [ha] at hd; cases hd) y
theorem dA {L : Step} (m : Nat) (y : Run P n ops σ0 (fun _ _ => True) QS l (acc ++ [(m, L)]) (σ.app L)) (h1 : RdL L.rs σ.s := by repeat (first | exact True.intro | refine And.intro rfl ?_)) (h2 : RdL L.rb σ.b := by repeat (first | exact True.intro | refine And.intro rfl ?_)) (x : Loc P n o L) (hg : o.guard = none := by exact rfl) (ha : L.al = none := by exact rfl) (h4 : chkE m o L acc = true := by kernel_rfl) : Run P n ops σ0 (fun _ _ => True) QS (o :: l) acc σ :=
  Run.step m h1 h2 (LocG.of hg x) (fun d hd => by rw [ha] at hd; cases hd) h4 y
theorem dB {L : Step} {g s : Nat} {b c : Bool} (m : Nat) (hb : c = b) (y : Run P n ops σ0 (fun _ _ => True) QS l (acc ++ [(m, ⟨(s, RV.bool c) :: L.rs, L.rb, L.ws, L.wb, L.al⟩)]) (σ.app ⟨(s, RV.bool c) :: L.rs, L.rb, L.ws, L.wb, L.al⟩)) (hg : o.guard = some (g, b) := by exact rfl) (hs : (ops[g]?).bind (·.dst) = some s := by exact rfl) (h1 : RdL ((s, RV.bool c) :: L.rs) σ.s := by repeat (first | exact True.intro | refine And.intro rfl ?_)) (h2 : RdL L.rb σ.b := by repeat (first | exact True.intro | refine And.intro rfl ?_)) (x : Loc P n o L) (hlt : s < n := by decide) (ha : L.al = none := by exact rfl)
    (h4 : chkE m o ⟨(s, RV.bool c) :: L.rs, L.rb, L.ws, L.wb, L.al⟩ acc = true := by kernel_rfl) : Run P n ops σ0 (fun _ _ => True) QS (o :: l) acc σ :=
  Run.step (L := ⟨(s, RV.bool c) :: L.rs, L.rb, L.ws, L.wb, L.al⟩) m h1 h2 (LocG.yes hg hs hlt hb x) (fun d hd => by have hd : L.al = some d := hd; rw [ha] at hd; cases hd) h4 y
theorem dF {g s d : Nat} {c : Bool} (m : Nat) (hb : c = false) (y : Run P n ops σ0 (fun _ _ => True) QS l (acc ++ [(m, ⟨[(s, RV.bool c)], [], [(d, some RV.und)], [], none⟩)]) (σ.app ⟨[(s, RV.bool c)], [], [(d, some RV.und)], [], none⟩)) (hg : o.guard = some (g, true) := by exact rfl) (hs : (ops[g]?).bind (·.dst) = some s := by exact rfl) (hlt : s < n := by decide) (hd : o.dst = some d := by exact rfl)
    (h1 : σ.s s = some (RV.bool c) := by exact rfl) (h4 : chkE m o ⟨[(s, RV.bool c)], [], [(d, some RV.und)], [], none⟩ acc = true := by kernel_rfl) : Run P n ops σ0 (fun _ _ => True) QS (o :: l) acc σ :=
  Run.step (L := ⟨[(s, RV.bool c)], [], [(d, some RV.und)], [], none⟩) m ⟨h1, True.intro⟩ True.intro (LocG.no hg hs hlt hb hd) nofree h4 y
theorem dT {g s d : Nat} {c : Bool} (m : Nat) (hb : c = true) (y : Run P n ops σ0 (fun _ _ => True) QS l (acc ++ [(m, ⟨[(s, RV.bool c)], [], [(d, some RV.und)], [], none⟩)]) (σ.app ⟨[(s, RV.bool c)], [], [(d, some RV.und)], [], none⟩)) (hg : o.guard = some (g, false) := by exact rfl) (hs : (ops[g]?).bind (·.dst) = some s := by exact rfl) (hlt : s < n := by decide) (hd : o.dst = some d := by exact rfl)
    (h1 : σ.s s = some (RV.bool c) := by exact rfl) (h4 : chkE m o ⟨[(s, RV.bool c)], [], [(d, some RV.und)], [], none⟩ acc = true := by kernel_rfl) : Run P n ops σ0 (fun _ _ => True) QS (o :: l) acc σ :=
  Run.step (L := ⟨[(s, RV.bool c)], [], [(d, some RV.und)], [], none⟩) m ⟨h1, True.intro⟩ True.intro (LocG.no hg hs hlt hb hd) nofree h4 y
theorem dU {g s d : Nat} {b : Bool} (m : Nat) (y : Run P n ops σ0 (fun _ _ => True) QS l (acc ++ [(m, ⟨[(s, RV.und)], [], [(d, some RV.und)], [], none⟩)]) (σ.app ⟨[(s, RV.und)], [], [(d, some RV.und)], [], none⟩)) (hg : o.guard = some (g, b) := by exact rfl) (hs : (ops[g]?).bind (·.dst) = some s := by exact rfl) (hd : o.dst = some d := by exact rfl)
    (h1 : σ.s s = some RV.und := by exact rfl) (h4 : chkE m o ⟨[(s, RV.und)], [], [(d, some RV.und)], [], none⟩ acc = true := by kernel_rfl) : Run P n ops σ0 (fun _ _ => True) QS (o :: l) acc σ :=
  Run.step (L := ⟨[(s, RV.und)], [], [(d, some RV.und)], [], none⟩) m ⟨h1, True.intro⟩ True.intro (LocG.noU hg hs hd) nofree h4 y
theorem sO (l : List (Nat × RV)) (b : List (Nat × (Nat × List PV))) (h : SW P n h0 w0 Fz0 c (St.of l b) Q) (hl : RdL l σ.s := by repeat (first | exact True.intro | refine And.intro rfl ?_)) (hb : RdL b σ.b := by repeat (first | exact True.intro | refine And.intro rfl ?_)) : SW P n h0 w0 Fz0 c σ Q := sw_of hl hb h
theorem wO (m : List (Nat × RV)) (b : List (Nat × (Nat × List PV))) (h : SWL P n h0 w0 Fz0 ops l (St.of m b) Q) (hl : RdL m σ.s := by repeat (first | exact True.intro | refine And.intro rfl ?_)) (hb : RdL b σ.b := by repeat (first | exact True.intro | refine And.intro rfl ?_)) : SWL P n h0 w0 Fz0 ops l σ Q := swl_of hl hb h
theorem wA {L : Step} (y : SWL P n h0 w0 Fz0 ops l (σ.app L) Q) (h1 : RdL L.rs σ.s := by repeat (first | exact True.intro | refine And.intro rfl ?_)) (h2 : RdL L.rb σ.b := by repeat (first | exact True.intro | refine And.intro rfl ?_)) (x : Loc P n o L) (hg : o.guard = none := by exact rfl) (ha : L.al = none := by exact rfl) : SWL P n h0 w0 Fz0 ops (o :: l) σ Q :=
  swl_step h1 h2 (LocG.of hg x) (fun d hd => by rw [ha] at hd; cases hd) y
end
section
variable {P : Program} {n : Nat} {d x : Nat} {ty : TypeId} {pos : String} {af : Array Edge} {g : Option (Nat × Bool)}
theorem cM {r r' : RV} (hc : Cp r r') (hd : d < n := by decide) : Loc P n ⟨some d, .move (.tmp x), ty, pos, af, g⟩ ⟨[(x, r)], [], [(d, some r')], [], none⟩ := loc_copy (.inl rfl) hd hc
theorem cA {r r' : RV} (hc : Cp r r') (hd : d < n := by decide) : Loc P n ⟨some d, .assign (.tmp x), ty, pos, af, g⟩ ⟨[(x, r)], [], [(d, some r')], [], none⟩ := loc_copy (.inr rfl) hd hc
theorem sM {v : Value} (hd : d < n := by decide) : Loc P n ⟨some d, .move (.tmp x), ty, pos, af, g⟩ ⟨[(x, RV.sc v)], [], [(d, some (RV.sc v))], [], none⟩ := cM Cp.sc hd
theorem sA {v : Value} (hd : d < n := by decide) : Loc P n ⟨some d, .assign (.tmp x), ty, pos, af, g⟩ ⟨[(x, RV.sc v)], [], [(d, some (RV.sc v))], [], none⟩ := cA Cp.sc hd
theorem vM {cs : List PV} (ag : Bool) (qs : List PV) (ht : ToL cs qs := by repeat' (first | exact True.intro | exact PV.To.refl _ | exact PV.to_none | apply And.intro)) (hb : BorL qs := by repeat (first | exact BorL.nil | refine BorL.cons (PV.bor_val _) ?_ | refine BorL.cons (PV.bor_sl _) ?_ | refine BorL.cons (PV.bor_lo _ _) ?_)) (hd : d < n := by decide) :
    Loc P n ⟨some d, .move (.tmp x), ty, pos, af, g⟩ ⟨[(x, RV.sv ag cs)], [], [(d, some (RV.sv ag qs))], [], none⟩ := cM (Cp.sv ht hb) hd
theorem vA {cs : List PV} (ag : Bool) (qs : List PV) (ht : ToL cs qs := by repeat' (first | exact True.intro | exact PV.To.refl _ | exact PV.to_none | apply And.intro)) (hb : BorL qs := by repeat (first | exact BorL.nil | refine BorL.cons (PV.bor_val _) ?_ | refine BorL.cons (PV.bor_sl _) ?_ | refine BorL.cons (PV.bor_lo _ _) ?_)) (hd : d < n := by decide) :
    Loc P n ⟨some d, .assign (.tmp x), ty, pos, af, g⟩ ⟨[(x, RV.sv ag cs)], [], [(d, some (RV.sv ag qs))], [], none⟩ := cA (Cp.sv ht hb) hd
theorem tM {r : RV} (hd : d < n := by decide) : Loc P n ⟨some d, .move (.tmp x), ty, pos, af, g⟩ ⟨[(x, r)], [], [(x, none), (d, some r)], [], none⟩ := loc_take (.inl rfl) hd
theorem tA {r : RV} (hd : d < n := by decide) : Loc P n ⟨some d, .assign (.tmp x), ty, pos, af, g⟩ ⟨[(x, r)], [], [(x, none), (d, some r)], [], none⟩ := loc_take (.inr rfl) hd
theorem kM {v : Value} (h : v.oneCell' = true := by exact rfl) (hd : d < n := by decide) : Loc P n ⟨some d, .move (.const v), ty, pos, af, g⟩ ⟨[], [], [(d, some (RV.sc v))], [], none⟩ := loc_const (.inl rfl) hd (ok_sc h)
theorem kA {v : Value} (h : v.oneCell' = true := by exact rfl) (hd : d < n := by decide) : Loc P n ⟨some d, .assign (.const v), ty, pos, af, g⟩ ⟨[], [], [(d, some (RV.sc v))], [], none⟩ := loc_const (.inr rfl) hd (ok_sc h)
theorem lD {T p b off t : Nat} {ag : Bool} {k : Nat} {cs : List PV} (qs : List PV) (hT : tyI P T = some (ag, k)) (h1 : ag = false → k = 1 := by first | exact fun _ => rfl | exact fun h => nomatch h) (hk : off + k ≤ cs.length := by exact Nat.le_of_ble_eq_true rfl) (ht : ToL ((cs.drop off).take k) qs := by repeat' (first | exact True.intro | exact PV.To.refl _ | exact PV.to_none | apply And.intro))
    (hb : BorL qs := by repeat (first | exact BorL.nil | refine BorL.cons (PV.bor_val _) ?_ | refine BorL.cons (PV.bor_sl _) ?_ | refine BorL.cons (PV.bor_lo _ _) ?_)) (hd : d < n := by decide) :
    Loc P n ⟨some d, .load T (.tmp p), ty, pos, af, g⟩ ⟨[(p, RV.ptr b off)], [(b, (t, cs))], [(d, some (RV.sv ag qs))], [], none⟩ := loc_load hd hT h1 hk ht hb
theorem lE {T p : Nat} {ag : Bool} {k : Nat} {cs : List PV} (qs : List PV) (hT : tyI P T = some (ag, k)) (h1 : ag = false → k = 1 := by first | exact fun _ => rfl | exact fun h => nomatch h) (hk : k ≤ cs.length := by exact Nat.le_of_ble_eq_true rfl) (ht : ToL (cs.take k) qs := by repeat' (first | exact True.intro | exact PV.To.refl _ | exact PV.to_none | apply And.intro))
    (hb : BorL qs := by repeat (first | exact BorL.nil | refine BorL.cons (PV.bor_val _) ?_ | refine BorL.cons (PV.bor_sl _) ?_ | refine BorL.cons (PV.bor_lo _ _) ?_)) (hd : d < n := by decide) :
    Loc P n ⟨some d, .load T (.tmp p), ty, pos, af, g⟩ ⟨[(p, RV.eptr cs)], [], [(d, some (RV.sv ag qs))], [], none⟩ := loc_eload hd hT h1 hk ht hb
theorem lF {T p b off f fo : Nat} (hT : fieldI P T f = some fo) (hd : d < n := by decide) : Loc P n ⟨some d, .fieldAddr T (.tmp p) f, ty, pos, af, g⟩ ⟨[(p, RV.ptr b off)], [], [(d, some (RV.ptr b (off + fo)))], [], none⟩ := loc_field hd hT
theorem lN {T E e bs s m : Nat} {o : Fl} {es : List (List PV)} (hT : sliceI P T = some (E, e, bs)) (hm : es.length = m := by first | exact List.length_map _ | exact rfl) (hd : d < n := by decide) :
    Loc P n ⟨some d, .call { callee := .builtin .len, args := #[.tmp s], argTypes := #[T] }, ty, pos, af, g⟩ ⟨[(s, RV.slc o es)], [], [(d, some (RV.int (m : Int)))], [], none⟩ := loc_len hd hT hm
theorem nT {T : TypeId} {b : Bool} (hd : d < n := by decide) : Loc P n ⟨some d, .unOp .not T (.tmp x), ty, pos, af, g⟩ ⟨[(x, RV.bool b)], [], [(d, some (RV.bool !b))], [], none⟩ := loc_not hd
theorem pkT {c x y : Operand} {b : Bool} {r : RV} (hg : b = true) (hc : OpOk c (RV.bool b) := by exact True.intro) (hz : OpOk x r := by first | exact True.intro | exact ok_sc rfl) (hcp : Cp r r := by exact Cp.sc) (hd : d < n := by decide) : Loc P n ⟨some d, .pick c x y, ty, pos, af, g⟩ ⟨opR c (RV.bool b) ++ opR x r, [], [(d, some r)], [], none⟩ := loc_pick (z := x) hd (by rw [hg]; rfl) hc hz hcp
theorem pkF {c x y : Operand} {b : Bool} {r : RV} (hg : b = false) (hc : OpOk c (RV.bool b) := by exact True.intro) (hz : OpOk y r := by first | exact True.intro | exact ok_sc rfl) (hcp : Cp r r := by exact Cp.sc) (hd : d < n := by decide) : Loc P n ⟨some d, .pick c x y, ty, pos, af, g⟩ ⟨opR c (RV.bool b) ++ opR y r, [], [(d, some r)], [], none⟩ := loc_pick (z := y) hd (by rw [hg]; rfl) hc hz hcp
theorem cL {f : Nat} {args : Array Operand} {tys : Array TypeId} {r : RV} (qs as_ : List (Bool × List PV)) (hf : callI P f = true) (hok : OpsOk args.toList qs := by repeat' (first | exact True.intro | exact ok_sc rfl | exact ok_nilr | apply And.intro))
    (hto : ToT qs as_ := by repeat' (first | exact True.intro | exact rfl | exact PV.To.refl _ | exact PV.to_none | apply And.intro)) (hs : SCall P f as_ r) (hd : d < n := by decide) : Loc P n ⟨some d, .call { callee := .value (.func f), args := args, argTypes := tys }, ty, pos, af, g⟩ ⟨opsR args.toList qs, [], [(d, some r)], [], none⟩ := loc_call hd hf hok hto hs
section
variable {T T2 : TypeId} {x y : Operand} {i j : Int}
theorem B_lss (hx : OpOk x (RV.int i) := by first | exact True.intro | exact ok_sc rfl) (hy : OpOk y (RV.int j) := by first | exact True.intro | exact ok_sc rfl) (hd : d < n := by decide) : Loc P n ⟨some d, .binOp .lss T x y T2, ty, pos, af, g⟩ ⟨opR x (RV.int i) ++ opR y (RV.int j), [], [(d, some (RV.bool (decide (i < j))))], [], none⟩ := loc_lss hd hx hy
theorem B_leq (hx : OpOk x (RV.int i) := by first | exact True.intro | exact ok_sc rfl) (hy : OpOk y (RV.int j) := by first | exact True.intro | exact ok_sc rfl) (hd : d < n := by decide) : Loc P n ⟨some d, .binOp .leq T x y T2, ty, pos, af, g⟩ ⟨opR x (RV.int i) ++ opR y (RV.int j), [], [(d, some (RV.bool (decide (i ≤ j))))], [], none⟩ := loc_leq hd hx hy
theorem B_gtr (hx : OpOk x (RV.int i) := by first | exact True.intro | exact ok_sc rfl) (hy : OpOk y (RV.int j) := by first | exact True.intro | exact ok_sc rfl) (hd : d < n := by decide) : Loc P n ⟨some d, .binOp .gtr T x y T2, ty, pos, af, g⟩ ⟨opR x (RV.int i) ++ opR y (RV.int j), [], [(d, some (RV.bool (decide (i > j))))], [], none⟩ := loc_gtr hd hx hy
theorem B_geq (hx : OpOk x (RV.int i) := by first | exact True.intro | exact ok_sc rfl) (hy : OpOk y (RV.int j) := by first | exact True.intro | exact ok_sc rfl) (hd : d < n := by decide) : Loc P n ⟨some d, .binOp .geq T x y T2, ty, pos, af, g⟩ ⟨opR x (RV.int i) ++ opR y (RV.int j), [], [(d, some (RV.bool (decide (i ≥ j))))], [], none⟩ := loc_geq hd hx hy
theorem B_eql (hx : OpOk x (RV.int i) := by first | exact True.intro | exact ok_sc rfl) (hy : OpOk y (RV.int j) := by first | exact True.intro | exact ok_sc rfl) (hd : d < n := by decide) : Loc P n ⟨some d, .binOp .eql T x y T2, ty, pos, af, g⟩ ⟨opR x (RV.int i) ++ opR y (RV.int j), [], [(d, some (RV.bool (i == j)))], [], none⟩ := loc_eql hd hx hy
theorem B_neq (hx : OpOk x (RV.int i) := by first | exact True.intro | exact ok_sc rfl) (hy : OpOk y (RV.int j) := by first | exact True.intro | exact ok_sc rfl) (hd : d < n := by decide) : Loc P n ⟨some d, .binOp .neq T x y T2, ty, pos, af, g⟩ ⟨opR x (RV.int i) ++ opR y (RV.int j), [], [(d, some (RV.bool (i != j)))], [], none⟩ := loc_neq hd hx hy
theorem B_add (hx : OpOk x (RV.int i) := by first | exact True.intro | exact ok_sc rfl) (hy : OpOk y (RV.int j) := by first | exact True.intro | exact ok_sc rfl) (h : I64 (i + j) := by unfold I64; omega) (hd : d < n := by decide) : Loc P n ⟨some d, .binOp .add T x y T2, ty, pos, af, g⟩ ⟨opR x (RV.int i) ++ opR y (RV.int j), [], [(d, some (RV.int (i + j)))], [], none⟩ := loc_add hd hx hy h
theorem B_sub (hx : OpOk x (RV.int i) := by first | exact True.intro | exact ok_sc rfl) (hy : OpOk y (RV.int j) := by first | exact True.intro | exact ok_sc rfl) (h : I64 (i - j) := by unfold I64; omega) (hd : d < n := by decide) : Loc P n ⟨some d, .binOp .sub T x y T2, ty, pos, af, g⟩ ⟨opR x (RV.int i) ++ opR y (RV.int j), [], [(d, some (RV.int (i - j)))], [], none⟩ := loc_sub hd hx hy h
end
end
end Go.Proofs.YtmkhofdkdklpdaaGreat.M

/- Rules for whole numbers of other kinds, for bytes of texts, and for conditions that are constants. No condition. -/
set_option linter.unusedVariables false
namespace Go.Proofs.YtmkhofdkdklpdaaGreat.M
open Go Go.RowKit
section
variable {P : Program} {n : Nat}
section
variable {T : TypeId} {x y : Operand} {i j : Int} {k : IntKind} {w : World}
theorem ubin_geq : Sem.run P (do eqGuard .geq T x y (.int k i) (.int k j); binOp .geq T (.int k i) (.int k j) : Sem Value) w = .ok (.bool (decide (i ≥ j))) w := by simp [eqGuard, binOp, Op.intCmp]
end
section
variable {T T2 : TypeId} {x y : Operand} {d : Nat} {ty : TypeId} {pos : String} {af : Array Edge} {g : Option (Nat × Bool)} {i j : Int} {k : IntKind}
theorem U_geq (hx : OpOk x (RV.sc (.int k i)) := by first | exact True.intro | exact ok_sc rfl) (hy : OpOk y (RV.sc (.int k j)) := by first | exact True.intro | exact ok_sc rfl) (hd : d < n := by decide) : Loc P n ⟨some d, .binOp .geq T x y T2, ty, pos, af, g⟩ ⟨opR x (RV.sc (.int k i)) ++ opR y (RV.sc (.int k j)), [], [(d, some (RV.bool (decide (i ≥ j))))], [], none⟩ := loc_bin hd hx hy rfl fun _ => ubin_geq
theorem loc_conv {src dst : TypeId} {k2 : IntKind} (hS : P.underlying src = some (.int k)) (hD : P.underlying dst = some (.int k2)) (hj : k2.wrap i = j) (hx : OpOk x (RV.sc (.int k i)) := by first | exact True.intro | exact ok_sc rfl) (hd : d < n := by decide) :
    Loc P n ⟨some d, .convert src dst x, ty, pos, af, g⟩ ⟨opR x (RV.sc (.int k i)), [], [(d, some (RV.sc (.int k2 j)))], [], none⟩ := by
  intro h0 w0 Fz0 σ a w K Q h1 h2 _ _ h5
  obtain ⟨φ, Fz, Fp, hc⟩ := h1
  have ex := hc.sc h2 hx
  refine wp_val (v := .int k2 j) (w' := w) ?_ (h5 _ _ (hc.put0 hd (SvOwn.of_sc rfl)))
  unfold execOp
  simp [ex, convert, run_underlying hS, run_underlying hD, Conv.intToInt, hj]
theorem loc_ghidx {T E e bs d s G k m : Nat} {i : Operand} {ty : TypeId} {pos : String} {af : Array Edge} {g : Option (Nat × Bool)} {v : Value} {us : List Value} {ds : List PV} {o : Fl} {es : List (List PV)} {cs : List PV} {q : Int} (hT : sliceI P T = some (E, e, bs)) (hv : us[m]? = some v) (hm : ds[m]? = some (PV.sl o es))
    (hq : q = (k : Int)) (hk : es[k]? = some cs) (he : cs.length = e) (hi : OpOk i (RV.int q) := by first | exact True.intro | exact ok_sc rfl) (hd : d < n := by decide) :
    Loc P n ⟨some d, .indexAddr T (.tmp s) i, ty, pos, af, g⟩ ⟨(s, RV.sc v) :: (G, RV.gh us ds) :: opR i (RV.int q), [], [(d, some (RV.eptr cs))], [], none⟩ := by
  intro h0 w0 Fz0 σ a w K Q hc hr _ _ h5
  obtain ⟨φ, Fz, Fp, hc⟩ := hc
  subst hq
  have ei := hc.sc hr.2.2 hi
  have hown : OwnL ds Fz w us _ := hc.slot G _ hr.2.1
  obtain ⟨v', hv', hrel⟩ := hown.rel.at_ hm
  rw [hv] at hv'
  injection hv' with hv'
  subst hv'
  have evs := (hc.one_ hr.1).1
  obtain ⟨ad, c, e', u, ev, h1, h2, h3, h4, h6⟩ := hrel.1
  have hlt : k < es.length := (List.getElem?_eq_some_iff.1 hk).1
  have hee : e' = e := by rw [← he]; exact (h3 cs (List.mem_of_getElem? hk)).symm
  subst hee
  rcases h4 with h4 | ⟨b, off, rfl, h4⟩
  · rw [h4] at hlt; simp at hlt
  obtain ⟨hu, inf, hinf, hsz, _⟩ := sliceI_spec hT
  refine wp_val (v := .pointer (some ⟨b, off + k * e', none⟩)) (w' := w) ?_ (h5 _ _ (hc.put0 hd ⟨⟨b, off + k * e', (List.range e').map (u k), rfl, ?_, fun j x hx => ?_⟩, rfl⟩))
  · unfold execOp
    have es' : a.eval (.tmp s) = .slice (some ⟨b, off, none⟩) es.length c := by rw [← ev]; exact evs
    have hlt' : (0 : Int) ≤ (k : Int) ∧ (k : Int) < (es.length : Int) := by omega
    simp only [es', ei, Instr.indexAt, asIntOf, Sem.run_bind, Sem.run_pure, Result.andThen_ok, run_underlying hu]
    simp [hlt', sizeOf, typeInfo, hinf, hsz, add_lit]
  · refine RelL.of_at (by simp [he]) fun j p v hp hv => ?_
    have hj : j < e' := by rw [← he]; exact (List.getElem?_eq_some_iff.1 hp).1
    simp [hj] at hv
    subst hv
    exact h6 k cs j p hk hp
  · have hj : j < e' := by have := (List.getElem?_eq_some_iff.1 hx).1; simpa using this
    simp [hj] at hx
    subst hx
    rw [Nat.add_assoc]
    exact h4 k j hlt hj
theorem loc_sidx {s : ByteArray} (hS : P.underlying T = some .string) (hx : OpOk x (RV.sc (.string s)) := by first | exact True.intro | exact ok_sc rfl) (hy : OpOk y (RV.sc (.int k i)) := by first | exact True.intro | exact ok_sc rfl) (hi : 0 ≤ i) (hb : ∃ b, s[i.toNat]? = some b ∧ ((b.toNat : Nat) : Int) = j) (hd : d < n := by decide) :
    Loc P n ⟨some d, .index T x y, ty, pos, af, g⟩ ⟨opR x (RV.sc (.string s)) ++ opR y (RV.sc (.int k i)), [], [(d, some (RV.sc (.int .u8 j)))], [], none⟩ := by
  intro h0 w0 Fz0 σ a w K Q h1 h2 _ _ h5
  obtain ⟨φ, Fz, Fp, hc⟩ := h1
  have ex := hc.sc h2.left hx
  have ey := hc.sc h2.right hy
  obtain ⟨b, hb, rfl⟩ := hb
  refine wp_val (v := .int .u8 (b.toNat : Nat)) (w' := w) ?_ (h5 _ _ (hc.put0 hd (SvOwn.of_sc rfl)))
  unfold execOp
  simp [ex, ey, Instr.index, asIntOf, run_underlying hS, hi, hb]
end
section
variable {h0 : Nat → Prop} {w0 : World} {Fz0 : FzT} {σ : St} {Q : Exit → St → Prop} {c1 c2 : Code}
theorem sw_condF (h : SW P n h0 w0 Fz0 c2 σ Q) : SW P n h0 w0 Fz0 (.cond (.const (.bool false)) c1 c2) σ Q := fun a w hc => wp_cond (t := false) rfl (h a w hc)
end
end
end Go.Proofs.YtmkhofdkdklpdaaGreat.M

/- Arrays whose elements are lent by name; calls that turn them. No condition. -/
set_option linter.unusedVariables false
namespace Go.Proofs.YtmkhofdkdklpdaaGreat.M
open Go Go.RowKit
def nvL : List Value → List PV → List PV
  | u :: us, p :: ps => PV.nv u p :: nvL us ps
  | _, _ => []
theorem own_nvL {Fz : FzT} {w : World} : ∀ {ps : List PV} {us : List Value}, BorL ps → RelL ps Fz w us → OwnL (nvL us ps) Fz w us []
  | [], us, _, h => by
    have h : us = [] := h
    subst h; exact ⟨rfl, rfl⟩
  | p :: ps, us, hb, h => by
    obtain ⟨v, vs, rfl, h1, h2⟩ := h
    exact ⟨v, vs, [], [], rfl, rfl, ⟨rfl, hb p (by simp) h1⟩, own_nvL (fun q hq => hb q (by simp [hq])) h2⟩
def nvI (h : Nat → Value) : Nat → List PV → List PV
  | _, [] => []
  | i, p :: ps => PV.nv (h i) p :: nvI h (i + 1) ps
theorem nvI_eq (h : Nat → Value) : ∀ (ps : List PV) (i : Nat), nvI h i ps = nvL ((List.range' i ps.length).map h) ps
  | [], i => rfl
  | p :: ps, i => by rw [nvI, nvI_eq h ps (i + 1)]; rfl
def valsE {α : Type} (e : Nat) (zs : List (α × (Nat → Value))) : List Value := (zs.map fun z => (List.range e).map z.2).flatten
def flatM {α : Type} (f : α → List PV) (zs : List (α × (Nat → Value))) : List PV := (zs.map fun z => f z.1).flatten
theorem nvL_app : ∀ {us vs : List Value} {ps qs : List PV}, us.length = ps.length → nvL (us ++ vs) (ps ++ qs) = nvL us ps ++ nvL vs qs
  | [], vs, [], qs, _ => rfl
  | u :: us, vs, p :: ps, qs, h => by
    simp only [List.cons_append, nvL]
    rw [nvL_app (by simpa using h)]
theorem chunk_fn {e : Nat} {us : List Value} (h : us.length = e) : ∃ k : Nat → Value, us = (List.range e).map k := by
  refine ⟨fun i => us.getD i undef, ?_⟩
  subst h
  apply List.ext_getElem
  · simp
  · intro i h1 h2
    simp [h1]
theorem nv_names {α : Type} {g : α → List PV} {fN : α × (Nat → Value) → List PV} {e : Nat} (hN : ∀ x h, fN (x, h) = nvI h 0 (g x)) (hg : ∀ x, (g x).length = e) (jk : List PV) : ∀ (xs : List α) (us : List Value), us.length = xs.length * e + jk.length →
    ∃ (zs : List (α × (Nat → Value))) (vs : List Value), zs.map Prod.fst = xs ∧ us = valsE e zs ++ vs ∧ vs.length = jk.length ∧ nvL us ((xs.map g).flatten ++ jk) = (zs.map fN).flatten ++ nvL vs jk
  | [], us, h => ⟨[], us, rfl, rfl, by simpa using h, rfl⟩
  | x :: xs, us, h => by
    have hs : (x :: xs).length * e = e + xs.length * e := by rw [List.length_cons, Nat.succ_mul]; omega
    obtain ⟨k, hk⟩ := chunk_fn (e := e) (us := us.take e) (by rw [List.length_take]; omega)
    obtain ⟨zs, vs, e1, e2, e3, e4⟩ := nv_names hN hg jk xs (us.drop e) (by rw [List.length_drop]; omega)
    refine ⟨(x, k) :: zs, vs, by rw [List.map_cons, e1], ?_, e3, ?_⟩
    · rw [← List.take_append_drop e us, hk, e2]
      simp [valsE, List.append_assoc]
    · rw [← List.take_append_drop e us]
      have : ((x :: xs).map g).flatten ++ jk = g x ++ ((xs.map g).flatten ++ jk) := by simp
      rw [this, nvL_app (by rw [hg, List.length_take]; omega), e4, hk]
      simp only [List.map_cons, List.flatten_cons, List.append_assoc]
      rw [hN, nvI_eq, hg, List.range_eq_range']
theorem to_flat {α : Type} {f g : α → List PV} (h : ∀ x, ToL (f x) (g x)) : ∀ (xs : List α) {js : List PV}, ToL ((xs.map f).flatten ++ js) ((xs.map g).flatten ++ js)
  | [], js => ToL.refl js
  | x :: xs, js => by
    have k : ∀ {ps qs rs ss : List PV}, ToL ps qs → ToL rs ss → ToL (ps ++ rs) (qs ++ ss) := by
      intro ps
      induction ps with
      | nil => intro qs rs ss h1 h2; cases qs with
        | nil => exact h2
        | cons q qs => exact h1.elim
      | cons p ps ih => intro qs rs ss h1 h2; cases qs with
        | nil => exact h1.elim
        | cons q qs => exact ⟨h1.1, ih h1.2 h2⟩
    simp only [List.map_cons, List.flatten_cons, List.append_assoc]
    exact k (h x) (to_flat h xs)
theorem bor_flat {α : Type} {g : α → List PV} (h : ∀ x, BorL (g x)) (xs : List α) (jk : List Value) : BorL ((xs.map g).flatten ++ jk.map PV.val) := fun p hp => by
  rcases List.mem_append.1 hp with hp | hp
  · obtain ⟨cs, hcs, hp⟩ := List.mem_flatten.1 hp
    obtain ⟨x, _, rfl⟩ := List.mem_map.1 hcs
    exact h x p hp
  · obtain ⟨v, _, rfl⟩ := List.mem_map.1 hp
    exact PV.bor_val _
theorem own_nvval {Fz : FzT} {w : World} : ∀ {jk us vs : List Value} {F : List Nat}, OwnL (nvL us (jk.map PV.val)) Fz w vs F → us.length = jk.length → OwnL (jk.map PV.val) Fz w vs F
  | [], us, vs, F, h, hl => by
    have : us = [] := List.eq_nil_of_length_eq_zero hl
    subst this; exact h
  | j :: jk, [], vs, F, h, hl => by simp at hl
  | j :: jk, u :: us, vs, F, h, hl => by
    obtain ⟨v, vs', F1, F2, rfl, rfl, h1, h2⟩ := h
    exact ⟨v, vs', F1, F2, rfl, rfl, h1.2, own_nvval h2 (by simpa using hl)⟩
theorem own_perm {α : Type} {f : α → List PV} {e : Nat} (hf : ∀ x, (f x).length = e) {Fz : FzT} {w : World} {zs ys : List (α × (Nat → Value))} (hp : zs.Perm ys) : ∀ {F : List Nat}, OwnL (flatM f zs) Fz w (valsE e zs) F → ∃ F', F.Perm F' ∧ OwnL (flatM f ys) Fz w (valsE e ys) F' := by
  have hone : ∀ {z : α × (Nat → Value)} {l : List (α × (Nat → Value))} {F : List Nat}, OwnL (flatM f (z :: l)) Fz w (valsE e (z :: l)) F → ∃ F1 F2, F = F1 ++ F2 ∧ OwnL (f z.1) Fz w ((List.range e).map z.2) F1 ∧ OwnL (flatM f l) Fz w (valsE e l) F2 := by
    intro z l F h
    have h : OwnL (f z.1 ++ flatM f l) Fz w ((List.range e).map z.2 ++ valsE e l) F := h
    obtain ⟨v1, v2, F1, F2, e1, rfl, h1, h2⟩ := h.split
    have hl : ((List.range e).map z.2).length = v1.length := by rw [h1.len, hf]; simp
    obtain ⟨rfl, rfl⟩ := List.append_inj e1 hl
    exact ⟨F1, F2, rfl, h1, h2⟩
  induction hp with
  | nil => intro F h; exact ⟨F, List.Perm.refl _, h⟩
  | cons z _ ih =>
    intro F h
    obtain ⟨F1, F2, rfl, h1, h2⟩ := hone h
    obtain ⟨F', k1, k2⟩ := ih h2
    exact ⟨F1 ++ F', List.Perm.append_left F1 k1, h1.append k2⟩
  | swap z y l =>
    intro F h
    obtain ⟨F1, F2, rfl, h1, h2⟩ := hone h
    obtain ⟨F3, F4, rfl, h3, h4⟩ := hone h2
    refine ⟨F3 ++ (F1 ++ F4), ?_, h3.append (h1.append h4)⟩
    rw [← List.append_assoc, ← List.append_assoc]
    exact List.Perm.append_right _ List.perm_append_comm
  | trans _ _ ih1 ih2 =>
    intro F h
    obtain ⟨F1, k1, h1⟩ := ih1 h
    obtain ⟨F2, k2, h2⟩ := ih2 h1
    exact ⟨F2, k1.trans k2, h2⟩
def rsI {γ : Type} (q : γ → Int) (x : γ) : RV := RV.sv false [PV.val (vI (q x))]
section
variable {P : Program} {n : Nat} {h0 : Nat → Prop} {w0 : World} {Fz0 : FzT} {σ : St} {Q : Exit → St → Prop} {c : Code} {ops : Array Oper}
/-- A call that turns an array which owns nothing. -/
theorem loc_acall0 {f d p G bx t m cp : Nat} {u : Value} {xs : List Operand} {args : Array Operand} {tys : Array TypeId} {ty : TypeId} {pos : String} {af : Array Edge} {g : Option (Nat × Bool)} {cs cs' : List PV} {qs as_ : List (Bool × List PV)} {r : RV} (hd : d < n) (hf : callI P f = true) (he : args.toList = .tmp p :: xs)
    (hok : OpsOk xs qs) (hto : ToT qs as_) (hbc : BorL cs) (hba : ∀ q, q ∈ as_ → BorL q.2) (hu : ACall P f t m cp cs cs' as_ r) :
    Loc P n ⟨some d, .call { callee := .value (.func f), args := args, argTypes := tys }, ty, pos, af, g⟩ ⟨(p, RV.sc u) :: (G, RV.gat u bx m cp) :: opsR xs qs, [(bx, (t, cs))], [(d, some r)], [(bx, some (t, cs'))], none⟩ := by
  intro h0 w0 Fz0 σ a w K Q hc hr hrb _ h5
  obtain ⟨φ, Fz, Fp, hc⟩ := hc
  obtain ⟨⟨eu, hmc, hcpx⟩, _⟩ := hc.slot G _ hr.2.1
  have hp : a.tmps.getD p undef = .slice (some ⟨φ bx, 0, none⟩) m cp := by rw [← eu]; exact (hc.one_ hr.1).1
  obtain ⟨cur, hg, ho⟩ := hc.box bx _ hrb.1
  obtain ⟨g1, g2, g3⟩ := hc.bxb bx _ hrb.1
  have hglt : φ bx < w.heap.size := (Array.getElem?_eq_some_iff.1 hg).1
  have hrel := hto.rel (hc.relT hr.2.2 hok)
  unfold Oper.wp
  rw [run_xcall hf he, hp, Oper.upon_enter]
  refine (hu w (φ bx) cur _ Fz [] [] hmc hcpx hc.fzl hg g2 (BorL.own hbc ho.rel) (RelT.bor hba hrel) (by simp)).mono ?_
  rintro e w' ⟨v, Fz', cur', F1', G, rfl, ht, hg', hf', ho', hv, hn, hin⟩
  simp only [List.append_nil, List.not_mem_nil, false_or] at hin
  refine h5 _ _ ?_
  have c1 := hc.pullB hrb.1
  have hn' := hn
  rw [List.nodup_cons, List.nodup_append] at hn'
  have c2 := c1.world (w' := w') (Fz' := Fz') (X := φ bx :: (F1' ++ G)) ht.os ht.tape ht.output ht.size (fun b hb hb0 => by
      have hbg : b ≠ φ bx := fun e => hb0 (by simp [e])
      have := ht.same b hb (fun e => hbg (Option.some.inj e)) (by simp)
      exact ⟨this.1, fun o => (this.2 o).1⟩)
    (fun b o hbo => by
      have hb := hc.fzl b o hbo
      have hbg : b ≠ φ bx := fun e => g2 o (e ▸ hbo)
      have := ht.same b hb (fun e => hbg (Option.some.inj e)) (by simp)
      exact ⟨(this.2 o).2 hbo, World.cell?_of_block this.1⟩) ht.fzl
    (fun b hb => by
      rcases List.mem_cons.1 hb with rfl | hb
      · exact .inl (by simp)
      · exact .inr (hin b hb)) hn
  have c3 := c2.pushB (d := bx) (g := φ bx) (t := t) (cs := cs') (cur := cur') (F := F1') (X := G) (by simp [St.setB_b]) hg' ho' hf' (fun b hb => by
      simp only [if_true]
      simp only [List.mem_append, List.mem_cons] at hb ⊢
      rcases hb with hb | hb | hb <;> simp [hb])
    (by
      rw [List.nodup_append, List.nodup_cons]
      refine ⟨hn'.2.1, ⟨fun h => hn'.1 (by simp [h]), hn'.2.2.1⟩, fun x hx y hy e => ?_⟩
      rcases List.mem_cons.1 hy with rfl | hy
      · exact hn'.1 (by simp [← e, hx])
      · exact hn'.2.2.2 x hx y hy e) (.inl rfl)
  have c4 := c3.push (i := d) (rv := r) (v := v) (F := G) (X := []) hd (hv _) (fun b hb => by
      simp only [give]
      rw [if_neg (by omega)]
      simpa using hb) (by simpa using hn'.2.2.1)
  exact Conc.eqv ⟨_, _, _, c4⟩ (fun i => rfl) (fun x => by
    show (bif Nat.beq x bx then some (t, cs') else σ.b x) = _
    rw [St.set_b, St.setB_b, St.setB_b, beq_eq]
    by_cases e : x = bx <;> simp [e])
theorem sw_lendN {d t G : Nat} {cs qs : List PV} (hd : σ.b d = some (t, cs)) (hG : σ.s G = none) (hq : ToL cs qs) (hb : BorL qs) (h : ∀ us : List Value, (∃ Fz w, RelL cs Fz w us) → SW P n h0 w0 Fz0 c ((σ.setB d (some (t, nvL us qs))).set G (some (RV.gh us cs))) Q) : SW P n h0 w0 Fz0 c σ Q := fun a w hc => by
  obtain ⟨φ, Fz, Fp, hc⟩ := hc
  obtain ⟨cur, h1, h2⟩ := hc.box d _ hd
  have k0 := hc.pull G
  have e0 : ∀ i rv, (σ.set G none).s i = some rv → i ≠ G ∧ σ.s i = some rv := fun i rv hi => by
    rw [St.set_s] at hi
    split at hi
    · cases hi
    · rename_i hne; exact ⟨hne, hi⟩
  have hne : mv Fp (2 * G + 1) (2 * d + 2) = Fp (2 * d + 2) := by
    simp only [mv]; rw [if_neg (by omega), if_neg (by omega)]
  have hgn : mv Fp (2 * G + 1) (2 * G + 1) = [] := by simp [mv]
  generalize hFp1 : mv Fp (2 * G + 1) = Fp1 at k0 hne hgn
  refine h cur.toList ⟨Fz, w, h2.rel⟩ a w ⟨φ, Fz, swp Fp1 (2 * d + 2) (2 * G + 1), ?_⟩
  have hsub : ∀ r b, b ∈ swp Fp1 (2 * d + 2) (2 * G + 1) r → ∃ r', b ∈ Fp1 r' := fun r b hb => by
    rcases swp_mem hb with ⟨_, k⟩ | ⟨_, _, k⟩
    · exact ⟨_, k⟩
    · exact ⟨_, k⟩
  exact { k0 with
    slot := fun i rv hi => by
      rw [St.set_s] at hi
      split at hi
      · rename_i e
        subst e
        injection hi with hi
        subst hi
        show OwnL cs Fz w cur.toList (swp Fp1 (2 * d + 2) (2 * i + 1) (2 * i + 1))
        simp only [swp, if_true]
        rw [hne]; exact h2
      · rename_i e
        have := k0.slot i rv (by rw [St.set_s, if_neg e]; exact hi)
        simp only [swp]
        rw [if_neg (by omega), if_neg (by omega)]
        exact this
    box := fun e bx he => by
      rw [St.set_b, St.setB_b] at he
      split at he
      · rename_i e'; subst e'; injection he with he; subst he
        refine ⟨cur, h1, ?_⟩
        simp only [swp]
        rw [if_neg (by omega), if_pos (by trivial)]
        exact own_nvL hb (hq.rel h2.rel)
      · rename_i e'
        obtain ⟨cur', k1, k2⟩ := k0.box e bx he
        refine ⟨cur', k1, ?_⟩
        simp only [swp]
        rw [if_neg (by omega), if_neg (by omega)]
        exact k2
    bxb := fun e bx he => by
      have : ∃ z, (σ.set G none).b e = some z := by
        rw [St.set_b, St.setB_b] at he
        split at he
        · rename_i e'; subst e'; exact ⟨_, hd⟩
        · exact ⟨_, he⟩
      obtain ⟨z, hz⟩ := this
      obtain ⟨g1, g2, g3⟩ := k0.bxb e z hz
      exact ⟨g1, g2, fun r hr => by obtain ⟨r', h'⟩ := hsub r _ hr; exact g3 r' h'⟩
    inj := fun e e' c1 c2 he he' => by
      have f : ∀ x y, ((σ.setB d (some (t, nvL cur.toList qs))).set G (some (RV.gh cur.toList cs))).b x = some y → ∃ z, (σ.set G none).b x = some z := by
        intro x y hx
        rw [St.set_b, St.setB_b] at hx
        split at hx
        · rename_i e'; subst e'; exact ⟨_, hd⟩
        · exact ⟨_, hx⟩
      obtain ⟨z1, f1⟩ := f _ _ he
      obtain ⟨z2, f2⟩ := f _ _ he'
      exact k0.inj e e' z1 z2 f1 f2
    dis := swp_dis k0.dis
    nod := swp_nod k0.nod
    low := fun r b hb => by obtain ⟨r', h'⟩ := hsub r b hb; exact k0.low r' b h' }
/-- The elements of an array are lent, by name. -/
theorem sw_lendA {d t G e : Nat} {α : Type} {f g : α → List PV} {fN : α × (Nat → Value) → List PV} {xs : List α} {jk : List Value} (hd : σ.b d = some (t, arr f xs jk)) (hG : σ.s G = none) (hN : ∀ x h, fN (x, h) = nvI h 0 (g x)) (hg : ∀ x, (g x).length = e) (hq : ∀ x, ToL (f x) (g x)) (hb : ∀ x, BorL (g x))
    (h : ∀ zs : List (α × (Nat → Value)), zs.map Prod.fst = xs → SW P n h0 w0 Fz0 c ((σ.setB d (some (t, arr fN zs jk))).set G (some (RV.gh (valsE e zs) (flatM f zs)))) Q) : SW P n h0 w0 Fz0 c σ Q := by
  refine sw_lendN hd hG (to_flat hq xs) (bor_flat hb xs jk) fun us hus => ?_
  intro a w hc
  have hfl : ∀ x, (f x).length = e := fun x => by rw [(hq x).len]; exact hg x
  have hlen : us.length = xs.length * e + (jk.map PV.val).length := by
    obtain ⟨_, _, hr⟩ := hus
    rw [hr.len]; unfold arr
    rw [List.length_append, flatten_len (e := e) (fun cs hcs => by obtain ⟨x, _, rfl⟩ := List.mem_map.1 hcs; exact hfl x), List.length_map]
  obtain ⟨zs, vs, e1, e2, e3, e4⟩ := nv_names hN hg (jk.map PV.val) xs us hlen
  have hvl : (valsE e zs).length = (flatM f zs).length := by
    unfold valsE flatM
    rw [flatten_len (e := e) (fun cs hcs => by obtain ⟨x, _, rfl⟩ := List.mem_map.1 hcs; exact hfl x.1)]
    have : ∀ l : List (α × (Nat → Value)), (l.map fun z => (List.range e).map z.2).flatten.length = l.length * e := by
      intro l; induction l with
      | nil => simp
      | cons z l ih => rw [List.map_cons, List.flatten_cons, List.length_append, ih, List.length_cons, Nat.succ_mul]; simp; omega
    rw [this, List.length_map]
  have hfm : flatM f zs = (xs.map f).flatten := by unfold flatM; rw [← e1, List.map_map]; rfl
  refine h zs e1 a w ?_
  obtain ⟨φ, Fz, Fp, hc⟩ := hc
  refine ⟨φ, Fz, Fp, { hc with slot := fun i rv hi => ?_, box := fun b bx hb' => ?_, bxb := fun b bx hb' => ?_, inj := fun b b' c1 c2 hb1 hb2 => ?_ }⟩
  · rw [St.set_s] at hi
    split at hi
    · rename_i hiG
      injection hi with hi
      subst hi
      have := hc.slot i _ (by rw [St.set_s, if_pos hiG])
      have this : OwnL (arr f xs jk) Fz w us (Fp (2 * i + 1)) := this
      unfold arr at this
      rw [e2] at this
      obtain ⟨v1, v2, F1, F2, k1, k2, k3, k4⟩ := this.split
      have hF2 : F2 = [] := by
        have : ∀ (jk : List Value) (v2 : List Value) (G2 : List Nat), OwnL (jk.map PV.val) Fz w v2 G2 → G2 = [] := by
          intro jk
          induction jk with
          | nil => intro v2 G2 h; exact h.2
          | cons j jk ih =>
            intro v2 G2 h
            obtain ⟨v, vs', F1, F2, _, rfl, h1, h2⟩ := h
            rw [ih _ _ h2, h1.2]; rfl
        exact this _ _ _ k4
      obtain ⟨rfl, rfl⟩ := List.append_inj k1 (by rw [hvl, k3.len, hfm])
      show OwnL (flatM f zs) Fz w (valsE e zs) (Fp (2 * i + 1))
      rw [k2, hF2, List.append_nil, hfm]; exact k3
    · rename_i hiG
      exact hc.slot i rv (by rw [St.set_s, if_neg hiG]; exact hi)
  · rw [St.set_b, St.setB_b] at hb'
    split at hb'
    · rename_i hbd
      injection hb' with hb'
      subst hb'
      obtain ⟨cur, k1, k2⟩ := hc.box b (t, nvL us ((xs.map g).flatten ++ jk.map PV.val)) (by rw [St.set_b, St.setB_b, if_pos hbd])
      refine ⟨cur, k1, ?_⟩
      have k2 : OwnL (nvL us ((xs.map g).flatten ++ jk.map PV.val)) Fz w cur.toList (Fp (2 * b + 2)) := k2
      rw [e4] at k2
      obtain ⟨v1, v2, F1, F2, q1, q2, q3, q4⟩ := k2.split
      rw [q1, q2]
      exact q3.append (own_nvval q4 (by rw [e3, List.length_map]))
    · rename_i hbd
      exact hc.box b bx (by rw [St.set_b, St.setB_b, if_neg hbd]; exact hb')
  · have : ∃ z, ((σ.setB d (some (t, nvL us ((xs.map g).flatten ++ jk.map PV.val)))).set G (some (RV.gh us (arr f xs jk)))).b b = some z := by
      rw [St.set_b, St.setB_b] at hb' ⊢
      split at hb'
      · rename_i hbd; rw [if_pos hbd]; exact ⟨_, rfl⟩
      · rename_i hbd; rw [if_neg hbd]; exact ⟨_, hb'⟩
    obtain ⟨z, hz⟩ := this
    exact hc.bxb b z hz
  · have : ∀ x y, ((σ.setB d (some (t, arr fN zs jk))).set G (some (RV.gh (valsE e zs) (flatM f zs)))).b x = some y → ∃ z, ((σ.setB d (some (t, nvL us ((xs.map g).flatten ++ jk.map PV.val)))).set G (some (RV.gh us (arr f xs jk)))).b x = some z := by
      intro x y hx
      rw [St.set_b, St.setB_b] at hx ⊢
      split at hx
      · rename_i hbd; rw [if_pos hbd]; exact ⟨_, rfl⟩
      · rename_i hbd; rw [if_neg hbd]; exact ⟨_, hx⟩
    obtain ⟨z1, f1⟩ := this _ _ hb1
    obtain ⟨z2, f2⟩ := this _ _ hb2
    exact hc.inj b b' z1 z2 f1 f2
theorem rel_names {α : Type} {g : α → List PV} {fN : α × (Nat → Value) → List PV} {e : Nat} (hN : ∀ x h, fN (x, h) = nvI h 0 (g x)) (hg : ∀ x, (g x).length = e) {Fz : FzT} {w : World} : ∀ {zs : List (α × (Nat → Value))} {js : List PV} {us : List Value}, RelL ((zs.map fN).flatten ++ js) Fz w us → ∃ vs, us = valsE e zs ++ vs ∧ RelL js Fz w vs
  | [], js, us, h => ⟨us, rfl, h⟩
  | z :: zs, js, us, h => by
    have hk : ∀ (ps : List PV) (i : Nat) (k : Nat → Value) (vs : List Value), RelL (nvI k i ps) Fz w vs → vs = (List.range' i ps.length).map k := by
      intro ps
      induction ps with
      | nil => intro i k vs h; exact h
      | cons p ps ih =>
        intro i k vs h
        obtain ⟨v, vs', rfl, h1, h2⟩ := h
        rw [ih _ _ _ h2, h1.1]; rfl
    simp only [List.map_cons, List.flatten_cons, List.append_assoc] at h
    obtain ⟨v1, v2, rfl, h1, h2⟩ := h.split
    obtain ⟨vs, rfl, h3⟩ := rel_names hN hg h2
    obtain ⟨x, k⟩ := z
    rw [hN] at h1
    have := hk _ _ _ _ h1
    rw [hg] at this
    refine ⟨vs, ?_, h3⟩
    rw [this]
    simp [valsE, List.range_eq_range']
/-- They come back, in another order. -/
theorem sw_backA {d t G e : Nat} {α : Type} {f g : α → List PV} {fN : α × (Nat → Value) → List PV} {zs ys : List (α × (Nat → Value))} {jk : List Value} (hd : σ.b d = some (t, arr fN ys jk)) (hG : σ.s G = some (RV.gh (valsE e zs) (flatM f zs))) (hN : ∀ x h, fN (x, h) = nvI h 0 (g x)) (hg : ∀ x, (g x).length = e) (hf : ∀ x, (f x).length = e) (hp : ys.Perm zs)
    (h : SW P n h0 w0 Fz0 c ((σ.set G none).setB d (some (t, arr f (ys.map Prod.fst) jk))) Q) : SW P n h0 w0 Fz0 c σ Q := fun a w hc => by
  obtain ⟨φ, Fz, Fp, hc⟩ := hc
  have hg0 : OwnL (flatM f zs) Fz w (valsE e zs) (Fp (2 * G + 1)) := hc.slot G _ hG
  obtain ⟨F', hpF, hown⟩ := own_perm hf hp.symm hg0
  have c1 := hc.pull G
  have e0 : mv Fp (2 * G + 1) 0 = Fp (2 * G + 1) ++ Fp 0 := by simp [mv]
  obtain ⟨cur, h1, h2⟩ := c1.box d (t, arr fN ys jk) hd
  obtain ⟨g1, g2, g3⟩ := c1.bxb d (t, arr fN ys jk) hd
  obtain ⟨vs, hu, hvs⟩ := rel_names hN hg (zs := ys) (js := jk.map PV.val) h2.rel
  have hju : OwnL (jk.map PV.val) Fz w vs [] := BorL.own (fun p hp => by obtain ⟨v, _, rfl⟩ := List.mem_map.1 hp; exact PV.bor_val _) hvs
  have hall : OwnL (arr f (ys.map Prod.fst) jk) Fz w cur.toList F' := by
    have := hown.append hju
    rw [List.append_nil, ← hu] at this
    unfold arr
    have e : ((ys.map Prod.fst).map f).flatten = flatM f ys := by unfold flatM; rw [List.map_map]; rfl
    rw [e]; exact this
  have c2 := c1.pullB (d := d) (cs := (t, arr fN ys jk)) hd
  generalize hFp1 : mv Fp (2 * G + 1) = Fp1 at c1 c2 e0 h2 g3
  have hnd := c2.nod 0
  simp only [if_true] at hnd
  have em : mv Fp1 (2 * d + 2) 0 = Fp1 (2 * d + 2) ++ Fp1 0 := by simp [mv]
  rw [em, e0] at hnd
  have c3 := c2.pushB (d := d) (g := φ d) (t := t) (cs := arr f (ys.map Prod.fst) jk) (F := F') (X := Fp 0) (by rw [St.setB_b, if_pos rfl]) h1 hall g2
    (fun x hx => by
      simp only [if_true]
      rw [em, e0]
      rcases List.mem_append.1 hx with hx | hx
      · have := hpF.mem_iff.2 hx; simp [this]
      · rcases List.mem_cons.1 hx with rfl | hx
        · simp
        · simp [hx])
    (by
      simp only [List.nodup_cons, List.mem_append] at hnd
      obtain ⟨m0, m1⟩ := hnd
      have m2 := (List.nodup_append.1 m1).2.1
      rw [List.nodup_append] at m2 ⊢
      refine ⟨hpF.nodup_iff.1 m2.1, List.nodup_cons.2 ⟨fun hh => m0 (.inr (.inr hh)), m2.2.1⟩, fun x hx y hy e => ?_⟩
      have hx' := hpF.mem_iff.2 hx
      rcases List.mem_cons.1 hy with rfl | hy
      · exact m0 (.inr (.inl (e ▸ hx')))
      · exact m2.2.2 x hx' y hy e)
    (.inl rfl)
  exact h a w (Conc.eqv ⟨_, _, _, c3⟩ (fun i => rfl) (fun e => by
    simp only [St.setB_b, St.set_b]
    split <;> rfl))
theorem bor_arr {α : Type} {f : α → List PV} (h : ∀ x, BorL (f x)) (xs : List α) (jk : List Value) : BorL (arr f xs jk) := bor_flat h xs jk
theorem loc_aget {T d p b off t k e : Nat} {ty : TypeId} {pos : String} {af : Array Edge} {g : Option (Nat × Bool)} {ag : Bool} {α : Type} {f : α → List PV} {xs : List α} {jk : List Value} (hf : ∀ x, (f x).length = e) (hoff : off = k * e) (hk : k < xs.length) (hT : tyI P T = some (ag, e)) (h1 : ag = false → e = 1) (hb : ∀ x, BorL (f x)) (hd : d < n := by decide) :
    Loc P n ⟨some d, .load T (.tmp p), ty, pos, af, g⟩ ⟨[(p, RV.ptr b off)], [(b, (t, arr f xs jk))], [(d, some (RV.sv ag (f xs[k])))], [], none⟩ := loc_aload hf hoff hk hd hT h1 (ToL.refl _) (hb _)
theorem loc_shr {T T2 : TypeId} {x y : Operand} {d : Nat} {ty : TypeId} {pos : String} {af : Array Edge} {g : Option (Nat × Bool)} {k k2 : IntKind} {i j : Int} {m : Nat} (hm : j = (m : Int)) (hb : m ≤ k.bits) (hx : OpOk x (RV.sc (.int k i)) := by first | exact True.intro | exact ok_sc rfl) (hy : OpOk y (RV.sc (.int k2 j)) := by first | exact True.intro | exact ok_sc rfl) (hd : d < n := by decide) :
    Loc P n ⟨some d, .binOp .shr T x y T2, ty, pos, af, g⟩ ⟨opR x (RV.sc (.int k i)) ++ opR y (RV.sc (.int k2 j)), [], [(d, some (RV.sc (.int k (i.fdiv (2 ^ m)))))], [], none⟩ := by
  subst hm
  refine loc_bin hd hx hy rfl fun w => ?_
  have h1 : ¬ (m : Int) < 0 := by omega
  simp [eqGuard, binOp, Op.shift, h1, Nat.min_eq_left hb]
theorem fdiv2 {i : Int} : i.fdiv (2 ^ 1) = i / 2 := by rw [Int.fdiv_eq_ediv_of_nonneg _ (by decide)]; rfl
end
end Go.Proofs.YtmkhofdkdklpdaaGreat.M

/- What a call returns, read only. No condition. -/
set_option linter.unusedVariables false
namespace Go.Proofs.YtmkhofdkdklpdaaGreat.M
open Go Go.RowKit
theorem SCall.view {P : Program} {f : FuncId} {args : List (Bool × List PV)} {ag : Bool} {cs qs : List PV} (ht : ToL cs qs) (hb : BorL qs) (h : SCall P f args (RV.sv ag cs)) : SCall P f args (RV.sv ag qs) := fun w vs Fz hz hr => by
  refine (h w vs Fz hz hr).mono ?_
  rintro e w' ⟨v, Fz', F, e1, hb1, h1, h2, hv, hn, hF⟩
  exact ⟨v, Fz', [], e1, hb1, h1, h2, fun φ => Cp.sv ht hb (hv φ), List.nodup_nil, fun b hb => nomatch hb⟩
end Go.Proofs.YtmkhofdkdklpdaaGreat.M

/- From here on what is known lies low: what was made before is only read. No condition. -/
set_option linter.unusedVariables false
namespace Go.Proofs.YtmkhofdkdklpdaaGreat.M
open Go Go.RowKit
def LowR (L : Nat → Prop) (r r' : RV) : Prop := ∀ {φ : Nat → Nat} {Fz : FzT} {w : World} {v : Value} {F : List Nat}, (∀ b o, Fz b o → L b) → r.holds φ Fz w v F → r'.holds φ Fz w v []
theorem LowR.sv {L : Nat → Prop} {ag : Bool} {cs qs : List PV} (ht : ToBL L cs qs) (hb : BorL qs) : LowR L (RV.sv ag cs) (RV.sv ag qs) := fun hz h => ⟨h.1, hb.own (ht.rel hz h.2.rel)⟩
theorem LowR.ptr {L : Nat → Prop} {d off : Nat} : LowR L (RV.ptr d off) (RV.ptr d off) := fun _ h => ⟨h.1, rfl⟩
def LowS (L : Nat → Prop) : List (Nat × RV) → List (Nat × RV) → Prop
  | [], [] => True
  | p :: l, q :: l' => (p.1 = q.1 ∧ LowR L p.2 q.2) ∧ LowS L l l'
  | _, _ => False
theorem LowS.cons {L : Nat → Prop} {i : Nat} {r r' : RV} {l l' : List (Nat × RV)} (h : LowR L r r') (k : LowS L l l') : LowS L ((i, r) :: l) ((i, r') :: l') := ⟨⟨rfl, h⟩, k⟩
theorem LowS.at_ {L : Nat → Prop} {i : Nat} {r' : RV} : ∀ {l l' : List (Nat × RV)}, LowS L l l' → lk l' i = some r' → ∃ r, lk l i = some r ∧ LowR L r r'
  | [], [], _, h => by cases h
  | (j, r) :: l, (j', q) :: l', k, h => by
    obtain ⟨⟨e, k1⟩, k2⟩ := k
    dsimp only at e
    subst e
    rw [lk, beq_eq] at h ⊢
    by_cases hx : i = j
    · rw [decide_eq_true hx] at h ⊢
      simp only [cond_true, Option.some.injEq] at h ⊢
      subst h
      exact ⟨r, rfl, k1⟩
    · rw [decide_eq_false hx] at h ⊢
      simp only [cond_false] at h ⊢
      exact LowS.at_ k2 h
section
variable {P : Program} {n : Nat} {h0 : Nat → Prop} {w0 : World} {Fz0 : FzT} {Q : Exit → St → Prop} {c : Code}
end
end Go.Proofs.YtmkhofdkdklpdaaGreat.M

/- What a call returns is fixed for good: nothing of it turns any more, so that it lies low. No condition. -/
set_option linter.unusedVariables false
namespace Go.Proofs.YtmkhofdkdklpdaaGreat.M
open Go Go.RowKit
/-- The blocks that are B's and not h0's. -/
def RV.lump (h0 B : Nat → Prop) : RV where
  holds _ _ w _ F := (∀ b, B b ↔ (h0 b ∨ b ∈ F)) ∧ ∀ b, b ∈ F → b < w.heap.size
  men _ := false
  mono h k hh _ := ⟨h.1, fun b hb => (Array.getElem?_eq_some_iff.1 ((hh b hb).1.trans (Array.getElem?_eq_getElem (h.2 b hb)))).1⟩
  lt h := h.2
def LclRT (L : Nat → Prop) : List (Bool × List PV) → Prop
  | [] => True
  | q :: qs => LclRC L q.2 ∧ LclRT L qs
section
variable {P : Program} {n : Nat} {h0 : Nat → Prop} {w0 : World} {Fz0 : FzT}
section
variable {σ : St} {a : Act} {w : World} {φ : Nat → Nat} {Fz : FzT} {Fp : Nat → List Nat}
/-- A ghost gets a part of what floats. -/
theorem ConcW.ghost (h : ConcW h0 w0 Fz0 n σ a w φ Fz Fp) {i : Nat} {rv : RV} {F X : List Nat} (hv : rv.holds φ Fz w (a.tmps.getD i undef) F) (hX : ∀ b, b ∈ F ++ X → b ∈ Fp 0) (hn : (F ++ X).Nodup) :
    ConcW h0 w0 Fz0 n (σ.set i (some rv)) a w φ Fz (give Fp (2 * i + 1) F X) where
  bel := h.bel
  dfr := h.dfr
  siz := h.siz
  hlt := h.hlt
  fz0 := h.fz0
  fzl := h.fzl
  slot j rv' hj := by
    rw [St.set_s] at hj
    split at hj
    · rename_i hji
      subst hji
      injection hj with hj
      subst hj
      unfold give
      rw [if_pos rfl]; exact hv
    · rename_i hne
      unfold give
      rw [if_neg (by omega), if_neg (by omega)]
      exact h.slot j rv' hj
  box d cs hd := by
    obtain ⟨cur, h1, h2⟩ := h.box d cs hd
    refine ⟨cur, h1, ?_⟩
    unfold give
    rw [if_neg (by omega), if_neg (by omega)]; exact h2
  bxb d cs hd := by
    obtain ⟨h1, h2, h3⟩ := h.bxb d cs hd
    refine ⟨h1, h2, fun r hr => ?_⟩
    rcases give_mem hr with ⟨_, hr⟩ | ⟨_, _, hr⟩ | ⟨_, _, hr⟩
    · exact h3 0 (hX _ (by simp [hr]))
    · exact h3 0 (hX _ (by simp [hr]))
    · exact h3 _ hr
  inj d d' cs cs' := h.inj d d' cs cs'
  dis := give_dis (by omega) hX hn h.dis
  nod := give_nod hn h.nod
  low r b hb := by
    rcases give_mem hb with ⟨_, hr⟩ | ⟨_, _, hr⟩ | ⟨_, _, hr⟩
    · exact h.low 0 b (hX _ (by simp [hr]))
    · exact h.low 0 b (hX _ (by simp [hr]))
    · exact h.low _ b hr
end
section
variable {ops : Array Oper} {Q : Exit → St → Prop}
end
def FixR (r r' : RV) : Prop := ∀ {φ : Nat → Nat} {Fz : FzT} {w : World} {v : Value} {F : List Nat}, r.holds φ Fz w v F → r'.holds φ Fz w v F
theorem FixR.refl {r : RV} : FixR r r := fun h => h
theorem FixR.sv {ag : Bool} {cs qs : List PV} (h : OwnTo cs qs) : FixR (RV.sv ag cs) (RV.sv ag qs) := fun hh => ⟨hh.1, h hh.2⟩
def FixL (f : Nat → Option RV) (G : Nat) : List (Nat × RV) → Prop
  | [] => True
  | p :: l' => (Nat.beq p.1 G = false ∧ ∃ r, f p.1 = some r ∧ FixR r p.2) ∧ FixL f G l'
theorem FixL.cons {f : Nat → Option RV} {G i : Nat} {r r' : RV} {l' : List (Nat × RV)} (h1 : Nat.beq i G = false) (h2 : f i = some r) (h3 : FixR r r') (k : FixL f G l') : FixL f G ((i, r') :: l') := ⟨⟨h1, r, h2, h3⟩, k⟩
theorem FixL.at_ {f : Nat → Option RV} {G i : Nat} {r' : RV} : ∀ {l' : List (Nat × RV)}, FixL f G l' → (i, r') ∈ l' → i ≠ G ∧ ∃ r, f i = some r ∧ FixR r r'
  | [], _, h => by simp at h
  | p :: l', k, h => by
    rcases List.mem_cons.1 h with rfl | h
    · exact ⟨fun e => by have := k.1.1; dsimp only at this; rw [e] at this; simp at this, k.1.2⟩
    · exact FixL.at_ k.2 h
variable {Q : Exit → St → Prop} {c : Code}
def LowB1 (L : Nat → Prop) : List (Nat × (Nat × List PV)) → List (Nat × (Nat × List PV)) → Prop
  | [], [] => True
  | p :: b, q :: b' => (p.1 = q.1 ∧ p.2.1 = q.2.1 ∧ ToBL L p.2.2 q.2.2 ∧ BorL q.2.2) ∧ LowB1 L b b'
  | _, _ => False
theorem LowB1.cons {L : Nat → Prop} {d t : Nat} {cs qs : List PV} {b b' : List (Nat × (Nat × List PV))} (h1 : ToBL L cs qs) (h2 : BorL qs) (k : LowB1 L b b') : LowB1 L ((d, (t, cs)) :: b) ((d, (t, qs)) :: b') := ⟨⟨rfl, rfl, h1, h2⟩, k⟩
theorem LowB1.at_ {L : Nat → Prop} {d t : Nat} {qs : List PV} : ∀ {b b' : List (Nat × (Nat × List PV))}, LowB1 L b b' → lk b' d = some (t, qs) → ∃ cs, lk b d = some (t, cs) ∧ ToBL L cs qs ∧ BorL qs
  | [], [], _, h => by cases h
  | (j, (s, r)) :: l, (j', (s', q)) :: l', k, h => by
    obtain ⟨⟨e, e2, k1⟩, k2⟩ := k
    dsimp only at e e2 k1
    subst e e2
    rw [lk, beq_eq] at h ⊢
    by_cases hx : d = j
    · rw [decide_eq_true hx] at h ⊢
      simp only [cond_true, Option.some.injEq, Prod.mk.injEq] at h ⊢
      obtain ⟨rfl, rfl⟩ := h
      exact ⟨r, ⟨rfl, rfl⟩, k1⟩
    · rw [decide_eq_false hx] at h ⊢
      simp only [cond_false] at h ⊢
      exact LowB1.at_ k2 h
/-- All that is known lies low from here on; the variables stay. -/
theorem sw_lowB {l : List (Nat × RV)} {b : List (Nat × (Nat × List PV))} (l' : (Nat → Prop) → List (Nat × RV)) (b' : (Nat → Prop) → List (Nat × (Nat × List PV))) (hl : ∀ L, LowS L l (l' L)) (hb : ∀ L, LowB1 L b (b' L)) (h : ∀ (B : Nat → Prop) (w1 : World) (Fz1 : FzT), SW P n B w1 Fz1 c (St.of (l' B) (b' B)) Q) : SW P n h0 w0 Fz0 c (St.of l b) Q := fun a w hc => by
  obtain ⟨φ, Fz, Fp, hc⟩ := hc
  obtain ⟨B, hB⟩ : ∃ B : Nat → Prop, B = fun x => x < w.heap.size ∧ ∀ d bx, lk b d = some bx → x ≠ φ d := ⟨_, rfl⟩
  have hBi : ∀ x, B x ↔ (x < w.heap.size ∧ ∀ d bx, lk b d = some bx → x ≠ φ d) := fun x => by rw [hB]
  have hz : ∀ x o, Fz x o → B x := fun x o ho => (hBi x).2 ⟨hc.fzl x o ho, fun d bx hd e => (hc.bxb d bx hd).2.1 o (e ▸ ho)⟩
  have hin : ∀ x, h0 x → B x := fun x hx => (hBi x).2 ⟨hc.hlt x hx, fun d bx hd e => (hc.bxb d bx hd).1 (e ▸ hx)⟩
  have hbx : ∀ d bx, lk (b' B) d = some bx → ∃ cs, lk b d = some (bx.1, cs) ∧ ToBL B cs bx.2 ∧ BorL bx.2 := fun d bx hd => (hb B).at_ hd
  have hk : Conc B w Fz n (St.of (l' B) (b' B)) a w := ⟨φ, Fz, fun _ => [], {
    bel := BelowO.refl _ _
    dfr := hc.dfr
    siz := hc.siz
    hlt := fun x hx => ((hBi x).1 hx).1
    fz0 := fun _ _ _ => Iff.rfl
    fzl := hc.fzl
    slot := fun i rv hi => by
      obtain ⟨r, hr, hlow⟩ := (hl B).at_ (show lk (l' B) i = some rv from hi)
      exact hlow hz (hc.slot i r hr)
    box := fun d bx hd => by
      obtain ⟨cs, k1, k2, k3⟩ := hbx d bx hd
      obtain ⟨cur, q1, q2⟩ := hc.box d _ k1
      exact ⟨cur, q1, k3.own (k2.rel hz q2.rel)⟩
    bxb := fun d bx hd => by
      obtain ⟨cs, k1, _⟩ := hbx d bx hd
      exact ⟨fun hx => ((hBi _).1 hx).2 d _ k1 rfl, (hc.bxb d _ k1).2.1, fun _ hr => nomatch hr⟩
    inj := fun d d' c1 c2 h1 h2 => by
      obtain ⟨_, k1, _⟩ := hbx d c1 h1
      obtain ⟨_, k2, _⟩ := hbx d' c2 h2
      exact hc.inj d d' _ _ k1 k2
    dis := fun _ _ _ _ hb => nomatch hb
    nod := fun _ => List.nodup_nil
    low := fun _ _ hb => nomatch hb }⟩
  refine wp_mono (h B w Fz a w hk) fun e a' w' ⟨τ, hq, hc'⟩ => ⟨τ, hq, ?_⟩
  obtain ⟨φ', Fz', Fp', c'⟩ := hc'
  exact ⟨φ', Fz', Fp', {
    bel := hc.bel.trans ⟨c'.bel.os, c'.bel.tape, c'.bel.output, c'.bel.size, fun k hk' => c'.bel.block k (hin k hk')⟩
    dfr := c'.dfr
    siz := c'.siz
    hlt := fun x hx => Nat.lt_of_lt_of_le (hc.hlt x hx) c'.bel.size
    fz0 := fun x o hx => (c'.fz0 x o (hin x hx)).trans (hc.fz0 x o hx)
    fzl := c'.fzl
    slot := c'.slot
    box := c'.box
    bxb := fun d cs hd => ⟨fun hh => (c'.bxb d cs hd).1 (hin _ hh), (c'.bxb d cs hd).2⟩
    inj := c'.inj
    dis := c'.dis
    nod := c'.nod
    low := fun r x hx => ⟨fun hh => (c'.low r x hx).1 (hin _ hh), (c'.low r x hx).2⟩ }⟩
end
end Go.Proofs.YtmkhofdkdklpdaaGreat.M

/- Functions that return a new variable, and the integers' operations that wrap. No condition. -/
set_option linter.unusedVariables false
namespace Go.Proofs.YtmkhofdkdklpdaaGreat.M
open Go Go.RowKit
/-- The function ends with a pointer to a new variable, which owns nothing. -/
def NCall (P : Program) (f : FuncId) (t : Nat) (args : List (Bool × List PV)) (cs : List PV) : Prop :=
  ∀ (w : World) (vs : List Value) (Fz : FzT), (∀ b o, Fz b o → b < w.heap.size) → RelT args Fz w vs → Calls P f vs.toArray w fun e w' => ∃ g Fz' cur, e = .returned (.pointer (some ⟨g, 0, none⟩)) ∧ Below w.heap.size w w' ∧
    (∀ b o, b < w.heap.size → (Fz' b o ↔ Fz b o)) ∧ (∀ b o, Fz' b o → b < w'.heap.size) ∧ w.heap.size ≤ g ∧ w'.heap[g]? = some (.cells cur t (0, 0)) ∧ (∀ o, ¬ Fz' g o) ∧ OwnL cs Fz' w' cur.toList []
def EndN (rs t : Nat) (cs : List PV) (τ : St) : Prop := ∃ D, τ.s rs = some (RV.ptr D 0) ∧ τ.b D = some (t, cs)
def endN (rs t : Nat) (cs : List PV) : Exit → St → Prop
  | .normal, τ => EndN rs t cs τ
  | .ret, τ => EndN rs t cs τ
  | _, _ => False
section
variable {P : Program} {n : Nat} {h0 : Nat → Prop} {w0 : World} {Fz0 : FzT}
theorem ncall_of {f : FuncId} {fn : Func} {c : Code} {args : List (Bool × List PV)} {rs t : Nat} {cs : List PV} (hf : P.funcs[f]? = some fn) (hb : fn.body = some c) (hres0 : fn.results.toList = [.tmp rs]) (hn : args.length ≤ fn.ntmps) (hbor : ∀ q, q ∈ args → BorL q.2) (hbc : BorL cs)
    (h : ∀ (h0 : Nat → Prop) (w0 : World) (Fz0 : FzT), SW P fn.ntmps h0 w0 Fz0 c (St.of (argsL 0 args) []) (endN rs t cs)) : NCall P f t args cs := by
  intro w vs Fz hz hrel
  have hvl := hrel.len
  refine calls_of_wp hf hb ?_
  have hc : Conc (fun b => b < w.heap.size) w Fz fn.ntmps (St.of (argsL 0 args) []) { tmps := vs.toArray ++ Array.replicate (fn.ntmps - vs.toArray.size) undef, defers := [] } w := by
    refine ⟨fun _ => 0, Fz, fun _ => [], ⟨BelowO.refl _ _, rfl, by simp; omega, fun _ hb => hb, fun _ _ _ => Iff.rfl, hz, fun i rv hi => ?_, fun d cs hd => (by cases hd), fun d cs hd => (by cases hd), fun d d' cs cs' hd => (by cases hd), fun _ _ _ b hb => (by simp at hb), fun _ => List.nodup_nil, fun _ b hb => (by simp at hb)⟩⟩
    obtain ⟨j, v, e1, e2, e3, e4⟩ := BorT.own (φ := fun _ => 0) hbor hrel hi
    rw [Nat.zero_add] at e1
    subst e1
    have : (vs.toArray ++ Array.replicate (fn.ntmps - vs.toArray.size) undef).getD i undef = v := by
      rw [Array.getD_eq_getD_getElem?, Array.getElem?_append_left (by simpa using e2)]
      simp [e3]
    rw [this]; exact e4
  refine wp_mono (h _ w Fz _ w hc) fun e a' w' ⟨τ, hq, hc'⟩ => ?_
  obtain ⟨φ, Fz', Fp, hc'⟩ := hc'
  have hres : EndN rs t cs τ → a'.defers = [] ∧ ∃ v, (results fn a'.tmps).run P w' = .ok v w' ∧ ∃ g Fz' cur, Ending.returned v = .returned (.pointer (some ⟨g, 0, none⟩)) ∧ Below w.heap.size w w' ∧
      (∀ b o, b < w.heap.size → (Fz' b o ↔ Fz b o)) ∧ (∀ b o, Fz' b o → b < w'.heap.size) ∧ w.heap.size ≤ g ∧ w'.heap[g]? = some (.cells cur t (0, 0)) ∧ (∀ o, ¬ Fz' g o) ∧ OwnL cs Fz' w' cur.toList [] := by
    rintro ⟨D, k1, k2⟩
    have hp := (hc'.slot rs _ k1).1
    obtain ⟨cur, q1, q2⟩ := hc'.box D _ k2
    obtain ⟨m1, m2, m3⟩ := hc'.bxb D _ k2
    refine ⟨hc'.dfr, ?_⟩
    rw [results_eq]
    have erun : Sem.run P (fn.results.mapM (resF a'.tmps)) w' = .ok #[.pointer (some ⟨φ D, 0, none⟩)] w' := by
      rw [Array.mapM_eq_mapM_toList, hres0]
      simp only [map_eq_pure_bind, List.mapM_cons, List.mapM_nil, resF, Sem.run_bind, Sem.run_pure, Result.andThen_ok, hp]
    simp only [Sem.run_bind, erun, Result.andThen_ok, Sem.run_pure]
    exact ⟨_, rfl, φ D, Fz', cur, rfl, ⟨hc'.bel.os, hc'.bel.tape, hc'.bel.output, hc'.bel.size, hc'.bel.block⟩, hc'.fz0, hc'.fzl, Nat.le_of_not_lt m1, q1, m2, hbc.own q2.rel⟩
  cases e with
  | normal => exact hres hq
  | ret => exact hres hq
  | _ => exact hq.elim
theorem loc_ncall {f d t : Nat} {args : Array Operand} {tys : Array TypeId} {ty : TypeId} {pos : String} {af : Array Edge} {g : Option (Nat × Bool)} {qs as_ : List (Bool × List PV)} {cs : List PV} (hd : d < n) (hf : callI P f = true) (hok : OpsOk args.toList qs) (hto : ToT qs as_) (hs : NCall P f t as_ cs) :
    Loc P n ⟨some d, .call { callee := .value (.func f), args := args, argTypes := tys }, ty, pos, af, g⟩ ⟨opsR args.toList qs, [], [(d, some (RV.ptr d 0))], [(d, some (t, cs))], some d⟩ := by
  intro h0 w0 Fz0 σ a w K Q hc hr _ h4 h5
  obtain ⟨φ, Fz, Fp, hc⟩ := hc
  have hrel := hto.rel (hc.relT hr hok)
  unfold Oper.wp
  rw [run_ocall hf, Oper.upon_enter]
  refine (hs w _ Fz hc.fzl hrel).mono ?_
  rintro e w' ⟨G, Fz', cur, rfl, hbl, hz1, hz2, hG, hg, hgz, ho⟩
  refine h5 _ _ ?_
  have hglt : G < w'.heap.size := (Array.getElem?_eq_some_iff.1 hg).1
  have k := (hc.drop d).world (w' := w') (Fz' := Fz') (X := [G]) hbl.os hbl.tape hbl.output hbl.size (fun b hb' _ => ⟨hbl.block b hb', fun o ho => (hz1 b o hb').1 ho⟩)
    (fun b o ho => ⟨(hz1 b o (hc.fzl b o ho)).2 ho, World.cell?_of_block (hbl.block b (hc.fzl b o ho))⟩) hz2 (fun b hb' => .inr (by
      rw [List.mem_singleton] at hb'; subst hb'; exact ⟨hG, hglt⟩)) (by simp)
  have k2 := k.pushB (d := d) (g := G) (t := t) (cs := cs) (F := []) (X := []) (by rw [St.setB_b, if_pos rfl]) hg ho hgz (fun b hb => by simpa using hb) (by simp) (.inr (h4 d rfl))
  have k3 := k2.push (i := d) (rv := RV.ptr d 0) (v := .pointer (some ⟨G, 0, none⟩)) (F := []) (X := []) hd ⟨by simp, rfl⟩ (fun b hb => nomatch hb) (by simp)
  exact Conc.eqv ⟨_, _, _, k3⟩ (fun i => rfl) (fun e => by
    show setL [(d, some (t, cs))] σ.b e = _
    rw [St.set_b, St.setB_b, St.setB_b]
    simp only [setL, beq_eq]
    by_cases he : e = d <;> simp [he])
end
theorem loc_nilchk {P : Program} {n x d b off : Nat} {ty : TypeId} {pos : String} {af : Array Edge} {g : Option (Nat × Bool)} (hd : d < n) : Loc P n ⟨some d, .nilCheck (.tmp x), ty, pos, af, g⟩ ⟨[(x, RV.ptr b off)], [], [(d, some (RV.ptr b off))], [], none⟩ := by
  intro h0 w0 Fz0 σ a w K Q h1 h2 _ _ h5
  obtain ⟨φ, Fz, Fp, hc⟩ := h1
  have ex := (hc.slot x _ h2.1).1
  refine wp_val (v := .pointer (some ⟨φ b, off, none⟩)) (w' := w) ?_ (h5 _ _ (hc.put0 hd (r := RV.ptr b off) ⟨rfl, rfl⟩))
  unfold execOp
  simp only [Act.eval, ex, Sem.run_pure]
theorem LowR.phi {L : Nat → Prop} {D g : Nat} : LowR L (RV.phi D g) (RV.phi D g) := fun _ h => ⟨h.1, rfl⟩
section
variable {P : Program} {n : Nat} {h0 : Nat → Prop} {w0 : World} {Fz0 : FzT} {σ : St} {Q : Exit → St → Prop} {c : Code}
/-- A variable's cells in other words. -/
theorem sw_boxO {d t : Nat} {cs : List PV} (cs' : List PV) (hd : σ.b d = some (t, cs)) (ho : OwnTo cs cs') (h : SW P n h0 w0 Fz0 c (σ.setB d (some (t, cs'))) Q) : SW P n h0 w0 Fz0 c σ Q := fun a w hc => by
  obtain ⟨φ, Fz, Fp, hc⟩ := hc
  exact h a w ⟨φ, Fz, Fp, hc.rebox hd fun _ k _ => ho k⟩
end
/-! ### operations that wrap -/
def mulW (x y : Int) : Int := IntKind.i64.wrap (x * y)
def addW (x y : Int) : Int := IntKind.i64.wrap (x + y)
def andW (x y : Int) : Int := IntKind.i64.wrap (BitVec.ofInt 64 x &&& BitVec.ofInt 64 y).toNat
def xorW (x y : Int) : Int := IntKind.i64.wrap (BitVec.ofInt 64 x ^^^ BitVec.ofInt 64 y).toNat
theorem andW_le {x : Int} {m : Nat} (hm : m < 2 ^ 62) : 0 ≤ andW x (m : Int) ∧ andW x (m : Int) ≤ m := by
  have e : (BitVec.ofInt 64 (m : Int)).toNat = m := by
    rw [BitVec.toNat_ofInt]
    omega
  have h : (BitVec.ofInt 64 x &&& BitVec.ofInt 64 (m : Int)).toNat ≤ m := by
    rw [BitVec.toNat_and, e]; exact Nat.and_le_right
  unfold andW
  rw [IntWalk.i64_in _ (by omega)]
  omega
section
variable {P : Program} {n : Nat} {T T2 : TypeId} {x y : Operand} {d : Nat} {ty : TypeId} {pos : String} {af : Array Edge} {g : Option (Nat × Bool)} {i j : Int}
theorem loc_mulW (hd : d < n) (hx : OpOk x (RV.int i)) (hy : OpOk y (RV.int j)) : Loc P n ⟨some d, .binOp .mul T x y T2, ty, pos, af, g⟩ ⟨opR x (RV.int i) ++ opR y (RV.int j), [], [(d, some (RV.int (mulW i j)))], [], none⟩ :=
  loc_bin hd hx hy rfl fun w => by simp [eqGuard, binOp, Op.intArith, mulW]
theorem loc_addW (hd : d < n) (hx : OpOk x (RV.int i)) (hy : OpOk y (RV.int j)) : Loc P n ⟨some d, .binOp .add T x y T2, ty, pos, af, g⟩ ⟨opR x (RV.int i) ++ opR y (RV.int j), [], [(d, some (RV.int (addW i j)))], [], none⟩ :=
  loc_bin hd hx hy rfl fun w => by simp [eqGuard, binOp, Op.intArith, addW]
theorem loc_andW (hd : d < n) (hx : OpOk x (RV.int i)) (hy : OpOk y (RV.int j)) : Loc P n ⟨some d, .binOp .and T x y T2, ty, pos, af, g⟩ ⟨opR x (RV.int i) ++ opR y (RV.int j), [], [(d, some (RV.int (andW i j)))], [], none⟩ :=
  loc_bin hd hx hy rfl fun w => by simp [eqGuard, binOp, Op.intBits, IntKind.bits]; unfold andW; rw [BitVec.toNat_and, BitVec.toNat_ofInt, BitVec.toNat_ofInt]; rfl
theorem loc_xorW (hd : d < n) (hx : OpOk x (RV.int i)) (hy : OpOk y (RV.int j)) : Loc P n ⟨some d, .binOp .xor T x y T2, ty, pos, af, g⟩ ⟨opR x (RV.int i) ++ opR y (RV.int j), [], [(d, some (RV.int (xorW i j)))], [], none⟩ :=
  loc_bin hd hx hy rfl fun w => by simp [eqGuard, binOp, Op.intBits, IntKind.bits]; unfold xorW; rw [BitVec.toNat_xor, BitVec.toNat_ofInt, BitVec.toNat_ofInt]; rfl
end
end Go.Proofs.YtmkhofdkdklpdaaGreat.M

/- Texts and their operations; functions that read tables of the library. No condition. -/
set_option linter.unusedVariables false
namespace Go.Proofs.YtmkhofdkdklpdaaGreat.M
open Go Go.RowKit
abbrev Bytes := List UInt8
abbrev B (l : Bytes) : ByteArray := ⟨l.toArray⟩
abbrev RV.str (l : Bytes) : RV := RV.sc (.string (B l))
section
variable {P : Program} {n : Nat} {T T2 : TypeId} {x y : Operand} {d : Nat} {ty : TypeId} {pos : String} {af : Array Edge} {g : Option (Nat × Bool)} {s t : Bytes}
/-- The bytes that whole numbers stand for. -/
def bys (xs : List Int) : Bytes := xs.map fun n => UInt8.ofNat n.toNat
end
/-! ### what is known of the library's tables -/
/-- What is known of blocks that stay: of no slot. -/
structure Glob where
  rel : FzT → World → Prop
  mono : ∀ {Fz Fz' : FzT} {w w' : World}, rel Fz w → Keeps Fz w Fz' w' → rel Fz' w'
def RV.glob (G : Glob) : RV where
  holds _ Fz w _ F := G.rel Fz w ∧ F = []
  men _ := false
  mono h k _ _ := ⟨G.mono h.1 k, h.2⟩
  lt h := by rw [h.2]; simp
/-- As SCall, where G is known. -/
def GCall (P : Program) (G : Glob) (f : FuncId) (args : List (Bool × List PV)) (r : RV) : Prop :=
  ∀ (w : World) (vs : List Value) (Fz : FzT), (∀ b o, Fz b o → b < w.heap.size) → G.rel Fz w → RelT args Fz w vs → Calls P f vs.toArray w fun e w' => ∃ v Fz' F, e = .returned v ∧ Below w.heap.size w w' ∧
    (∀ b o, b < w.heap.size → (Fz' b o ↔ Fz b o)) ∧ (∀ b o, Fz' b o → b < w'.heap.size) ∧ (∀ φ, r.holds φ Fz' w' v F) ∧ F.Nodup ∧ ∀ b, b ∈ F → w.heap.size ≤ b ∧ b < w'.heap.size
theorem SCall.g {P : Program} {G : Glob} {f : FuncId} {args : List (Bool × List PV)} {r : RV} (h : SCall P f args r) : GCall P G f args r := fun w vs Fz hz _ hr => h w vs Fz hz hr
section
variable {P : Program} {n : Nat} {G : Glob}
end
/-! ### calls into the library -/
section
variable {P : Program} {G : Glob} {f : FuncId}
theorem SvRel.sc {v x : Value} {Fz : FzT} {w : World} (h : SvRel false [PV.val x] Fz w v) : v = x := (SvOwn.sc ⟨h.1, (BorL.cons (PV.bor_val _) BorL.nil).own h.2⟩).1
theorem SvRel.sl {v : Value} {es : List (List PV)} {Fz : FzT} {w : World} (h : SvRel false [PV.sl .v es] Fz w v) : SlRel es Fz w v :=
  (SvOwn.atom (p := PV.sl .v es) ⟨h.1, (BorL.cons (PV.bor_sl _) BorL.nil).own h.2⟩).1
/-- The text of texts, a text between each two. -/
def joinB (xs : List Bytes) (sep : Bytes) : Bytes := Lib.join xs sep
/-- A table that stays. -/
theorem tab_keep {Fz Fz' : FzT} {w w' : World} {g : Nat} {nm : String} {k : IntKind} {zs : List Int} (hg : P.globalNamed nm = some g) (hz : 0 < zs.length) (h : (∀ o, Fz g o) ∧ Lib.TabIs P w nm k zs) (hk : Keeps Fz w Fz' w') : (∀ o, Fz' g o) ∧ Lib.TabIs P w' nm k zs := by
  refine ⟨fun o => (hk g o (h.1 o)).1, ?_⟩
  have hc : ∀ o, w'.cell? ⟨g, o, none⟩ = w.cell? ⟨g, o, none⟩ := fun o => (hk g o (h.1 o)).2
  have h2 := h.2
  unfold Lib.TabIs World.var? at h2 ⊢
  rw [hg] at h2 ⊢
  simp only [Option.bind_some] at h2 ⊢
  cases hw : w.heap[g]? with
  | none => rw [hw] at h2; cases h2
  | some o =>
    cases o with
    | cells cs t fr =>
      rw [hw] at h2
      injection h2 with h2
      have hc1 : ∀ o, w.cell? ⟨g, o, none⟩ = cs[o]? := fun o => by simp [World.cell?, hw]
      have h0 : (w'.cell? ⟨g, 0, none⟩).isSome = true := by rw [hc, hc1, h2]; simp [hz]
      cases hw' : w'.heap[g]? with
      | none => simp [World.cell?, hw'] at h0
      | some o' =>
        cases o' with
        | cells cs' t' fr' =>
          have hc2 : ∀ o, w'.cell? ⟨g, o, none⟩ = cs'[o]? := fun o => by simp [World.cell?, hw']
          rw [← h2]
          show some cs' = some cs
          congr 1
          apply Array.ext_getElem?
          intro i
          rw [← hc2, hc, hc1]
        | _ => simp [World.cell?, hw'] at h0
    | _ => rw [hw] at h2; cases h2
/-- What is known where numbers are printed. -/
def glItoa (P : Program) (g : Nat) (hg : P.globalNamed "internal/strconv.uint64pow10" = some g) : Glob where
  rel Fz w := (∀ o, Fz g o) ∧ Lib.TabIs P w "internal/strconv.uint64pow10" .u64 Lib.pow10Tab
  mono h k := tab_keep hg (by decide) h k
end
end Go.Proofs.YtmkhofdkdklpdaaGreat.M

/- What a law's arguments read as, and the frame of its statement. No condition. -/
namespace Go.Proofs.YtmkhofdkdklpdaaGreat.M
open Go Go.RowKit Go.ChangeShapes Go.WideShapes

section
variable {H : Type} {enc : TypeId × Value → H} {P : Program} {W W' : World}

/-! ### a law's frame -/
theorem trodAll_stays {sp : Nat → Bool} (hl : laidOutB P = true) (hsame : ∀ p : MemPlace, p.block < W.heap.size → W.sameAt W' p) : ∀ {ts : List TypeId} {vs : List Value} {ds : List (DataW H)} {ps : List MemPlace}, (ts.all fun t => P.readableRec t && Nat.blt t P.types.size) = true →
    DataW.TrodAll enc P W 0 (fun _ => true) true ts vs ds ps → (∀ p ∈ ps, p.block < W.heap.size) → (∀ p ∈ ps, sp p.block = true) → DataW.TrodAll enc P W' 0 sp true ts vs ds ps
  | [], vs, ds, ps, _, h, _, _ => by
    obtain ⟨rfl, rfl, rfl⟩ := trodAll_nil h
    exact trodAll_mk0
  | t :: ts, vs, ds, ps, ht, h, hlt, hs => by
    obtain ⟨v, vs', d, ds', p, q, rfl, rfl, rfl, h1, h2⟩ := trodAll_cons h
    rw [List.all_cons, Bool.and_eq_true, Bool.and_eq_true, Nat.blt_eq] at ht
    exact trodAll_cons_mk (WideElems.Trod_stays hl ht.1.1 ht.1.2 h1 (fun x hx => hsame x (hlt x (by simp [hx]))) (fun x hx => hs x (by simp [hx])))
      (trodAll_stays hl hsame ht.2 h2 (fun x hx => hlt x (by simp [hx])) (fun x hx => hs x (by simp [hx])))
theorem law_post {f : Func} {s : ChangeSpec} {args : Array Value} {ds gs : List (DataW H)} {before : List MemPlace} {k : FuncId} {bt : TypeId} (hl : laidOutB P = true) (hr : (f.params.toList.all fun t => P.readableRec t && Nat.blt t P.types.size) = true)
    (hW : DataW.Whole enc P f.params.toList s.vars false W args.toList ds gs before) (hv : s.vars = []) (hrt : f.resultTypes = #[bt]) (hbt : P.underlying bt = some .bool) (hfn : s.fn H (ds ++ gs) = { results := [.lit (.bool true)], args := ds })
    (hcall : Calls P k args W fun e w' => e = .returned (.bool true) ∧ Below W.heap.size W w') :
    Calls P k args W fun e W' => ∃ v, e = .returned v ∧ s.post enc P f false true false false W args v W' := by
  refine hcall.mono fun e W' ⟨he, hb⟩ => ⟨_, he, ?_⟩
  have hlt : ∀ p ∈ before, p.block < W.heap.size := fun p hp => hW.lt p hp
  have hW' := hW
  obtain ⟨pa, q, hA, hV, rfl, hz, hn⟩ := hW
  rw [hv] at hV
  obtain ⟨rfl, rfl⟩ := trodVars_none hV
  have hres : ∀ (b : Nat) (sp : Nat → Bool) (hd : Bool), DataW.TrodAll enc P W' b sp hd f.resultTypes.toList ((Value.bool true).resultList f.resultTypes.size) (s.fn H (ds ++ [])).results [] := by
    intro b sp hd
    rw [hfn, hrt]
    exact trodAll_cons_mk (p' := []) (shut_bool hbt _) trodAll_mk0
  have hargs : ∀ sp : Nat → Bool, (∀ p ∈ pa ++ [], sp p.block = true) → DataW.TrodAll enc P W' 0 sp true f.params.toList args.toList (s.fn H (ds ++ [])).args pa := by
    intro sp hs
    rw [hfn]
    exact trodAll_stays hl (fun p hp => hb.same hp) hr hA (fun p hp => hlt p (by simp [hp])) (fun p hp => hs p (by simp [hp]))
  have hvars : ∀ sp : Nat → Bool, DataW.TrodVars enc P W' sp s.vars (s.fn H (ds ++ [])).vars [] := by
    intro sp
    rw [hfn, hv]
    exact rfl
  have hold : ∀ p ∈ pa ++ [], (fun b => decide (b < W.heap.size)) p.block = true := fun p hp => by simpa using hlt p hp
  have hok : ∀ (j : Nat) (t : TypeId) (r : Value), f.resultTypes[j]? = some t → ((Value.bool true).resultList f.resultTypes.size)[j]? = some r → Value.okWide P W' .any 0 t r := ok_one hrt rfl (okWide_bool_mk hbt _)
  refine ⟨ds, [], pa ++ [], [], pa, [], hW', hres _ _ _, hargs _ hold, hvars _, World.keptBut_mono (fun p hp => ⟨hp, ?_⟩) (hb.frame (· ∈ pa ++ [])), fun h => by cases h⟩
  simpa using hp
/-- All that lies there stays. -/
def FzA (w : World) : FzT := fun b _ => b < w.heap.size
theorem law_calls {f : FuncId} {vs : List Value} {qs : List (Bool × List PV)} (hs : SCall P f qs (resRV [(false, [PV.val (.bool true)])])) (hr : RelT qs (FzA W) W vs) : Calls P f vs.toArray W fun e w' => e = .returned (.bool true) ∧ Below W.heap.size W w' :=
  (hs W vs (FzA W) (fun _ _ h => h) hr).mono fun e w' ⟨v, Fz', F, he, hb, _, _, hv, _⟩ => ⟨by rw [he, (SvOwn.sc (hv fun _ => 0)).1], hb⟩

/-! ### what the arguments read as -/
def OpenT (P : Program) (T : TypeId) {α : Type} (f : α → List PV) (g : α → Prop) : Prop :=
  ∀ {H : Type} (enc : TypeId × Value → H) (w : World) (sp : Nat → Bool) (held : Bool) (n : Nat) (cs : List Value) (x : DataW H × List MemPlace), DataW.trod enc P w 0 sp held n T cs = some x → ∃ a, RelL (f a) (FzA w) w cs ∧ g a
theorem open_k {T : TypeId} {k : IntKind} (h : P.underlying T = some (.int k)) : OpenT P T (fun n : Int => [PV.val (.int k n)]) fun _ => True := by
  intro H enc w sp held n cs x hx
  obtain ⟨m, rfl, _, hw⟩ := DataW.trod_int h hx
  exact ⟨m, ⟨_, [], rfl, ⟨rfl, rfl⟩, rfl⟩, True.intro⟩
theorem open_sl {T E e : TypeId} {α : Type} {f : α → List PV} (hu : P.underlying T = some (.slice E)) (hc : P.cellsOf E = e) (he : 0 < e) {g : α → Prop} (hf : OpenT P E f g) (hlen : ∀ a, (f a).length = e) : OpenT P T (fun xs : List α => [PV.sl .v (xs.map f)]) fun xs => ∀ x ∈ xs, g x := by
  intro H enc w sp held n cs x hx
  subst hc
  rcases Deep.open_slice hu hx with ⟨rfl, _⟩ | ⟨a, len, cap, m, n', D, Pl, rfl, _, hlc, hcm, hm, _, hel⟩
  · exact ⟨[], ⟨_, [], rfl, ⟨⟨none, 0, 0, fun _ _ => undef, rfl, Nat.le_refl _, Nat.zero_le _, by simp, .inl rfl, by simp⟩, True.intro⟩, rfl⟩, by simp⟩
  · have hlm : len ≤ m := by rw [hm]; split <;> omega
    have key : ∀ i, i < len → ∃ (y : α × List Value), w.cells? 0 (a.add (i * P.cellsOf E)) (P.cellsOf E) = some y.2 ∧ RelL (f y.1) (FzA w) w y.2 ∧ g y.1 := by
      intro i hi
      obtain ⟨cs', h1, h2⟩ := hel i (by omega)
      obtain ⟨y, hy⟩ := hf enc w sp held n' cs' _ h2
      exact ⟨(y, cs'), h1, hy⟩
    by_cases hl0 : len = 0
    · subst hl0
      exact ⟨[], ⟨_, [], rfl, ⟨⟨some a, cap, 0, fun _ _ => undef, rfl, Nat.zero_le _, hcm, by simp, .inl rfl, by simp⟩, True.intro⟩, rfl⟩, by simp⟩
    · obtain ⟨y0, _, _⟩ := key 0 (by omega)
      have : Inhabited (α × List Value) := ⟨y0⟩
      obtain ⟨F, hF⟩ := Deep.choose_lt key
      obtain ⟨b, off, spt⟩ := a
      have hspt : spt = none := by
        obtain ⟨_, h2, h3⟩ := World.cells?_some (hF 0 (by omega)).1
        have h4 := h3 0 he
        rw [List.getElem?_eq_getElem (by rw [h2]; exact he), Nat.zero_mul] at h4
        cases spt with
        | none => rfl
        | some s => simp [Addr.add, World.cell?] at h4; split at h4 <;> simp at h4
      subst hspt
      have hcell : ∀ i j, i < len → j < P.cellsOf E → w.cell? ⟨b, off + (i * P.cellsOf E + j), none⟩ = some ((F i).2.getD j undef) := by
        intro i j hi hj
        obtain ⟨_, h2, h3⟩ := World.cells?_some (hF i hi).1
        have h4 := h3 j hj
        rw [add_lit, add_lit, Nat.add_assoc] at h4
        rw [h4, List.getD_eq_getElem?_getD, List.getElem?_eq_getElem (by rw [h2]; exact hj)]; rfl
      refine ⟨(List.range len).map fun i => (F i).1, ⟨_, [], rfl, ⟨⟨some ⟨b, off, none⟩, cap, P.cellsOf E, fun i j => (F i).2.getD j undef, by simp, by simpa using hlc, hcm, ?_, .inr ⟨b, off, rfl, ?_⟩, ?_⟩, True.intro⟩, rfl⟩, ?_⟩
      · intro cs hcs
        obtain ⟨y, _, rfl⟩ := List.mem_map.1 hcs
        exact hlen y
      · intro i j hi hj
        have hi' : i < len := by simpa using hi
        have h := hcell i j hi' hj
        exact ⟨World.block_lt_of_cell? w _ h, h⟩
      · intro i cs j p hi hj
        have hi' : i < len := by have := (List.getElem?_eq_some_iff.1 hi).1; simpa using this
        simp [hi'] at hi
        subst hi
        obtain ⟨v, hv, hr⟩ := (hF i hi').2.1.at_ hj
        show p.rel _ _ ((F i).2.getD j undef)
        rw [List.getD_eq_getElem?_getD, hv]; exact hr
      · intro y hy
        obtain ⟨i, hi, rfl⟩ := List.mem_map.1 hy
        exact (hF i (List.mem_range.1 hi)).2.2
def fieldsI (P : Program) (T : TypeId) : Option (List (TypeId × Nat × Nat)) := match P.underlying T with
  | some (.struct fs) => some (fs.toList.map fun f => (f.type, f.offset, P.cellsOf f.type))
  | _ => none
/-- An argument of the call. -/
theorem open_arg {T : TypeId} {ag : Bool} {k : Nat} {α : Type} {f : α → List PV} {g : α → Prop} (hT : tyI P T = some (ag, k)) (hs : OpenT P T f g) {w : World} {r : Reach} {b0 : Nat} {v : Value} {d : DataW H} {ps : List MemPlace} (hval : Value.okWide P w r b0 T v) (h : DataW.Trod enc P w 0 (fun _ => true) true T v d ps) :
    ∃ a, SvRel ag (f a) (FzA w) w v ∧ g a := by
  obtain ⟨n, hn⟩ := h
  obtain ⟨a, ha, hg⟩ := hs enc w _ _ n _ _ hn
  refine ⟨a, ⟨?_, ha⟩, hg⟩
  unfold tyI at hT
  cases hu : P.underlying T with
  | none => rw [hu] at hT; cases hT
  | some dd =>
    cases hi : P.info? T with
    | none => rw [hu, hi] at hT; cases hT
    | some i =>
      rw [hu, hi] at hT
      simp only [Option.some.injEq, Prod.mk.injEq] at hT
      obtain ⟨hT, _⟩ := hT
      unfold Value.okWide at hval
      rw [hu] at hval
      cases dd <;> simp only at hT hval <;> subst hT <;> first
        | (obtain ⟨cs, rfl, _⟩ := hval; rfl)
        | (cases v <;> first | rfl | (simp [Cell.okWide, Cell.ok, hu] at hval))
end
end Go.Proofs.YtmkhofdkdklpdaaGreat.M

/- Short forms for calls that want what is known of tables; what a text reads as. No condition. -/
set_option linter.unusedVariables false
namespace Go.Proofs.YtmkhofdkdklpdaaGreat.M
open Go Go.RowKit
section
variable {P : Program} {n d : Nat} {ty : TypeId} {pos : String} {af : Array Edge} {g : Option (Nat × Bool)} {G : Glob}
end
end Go.Proofs.YtmkhofdkdklpdaaGreat.M

/- A pointer to a new variable beside other results. No condition. -/
set_option linter.unusedVariables false
namespace Go.Proofs.YtmkhofdkdklpdaaGreat.M
open Go Go.RowKit
/-- A pointer at a variable that is its own alone: of type t, with cells cs. -/
def PV.np (t : Nat) (cs : List PV) : PV where
  rel _ _ v := ∃ g, v = .pointer (some ⟨g, 0, none⟩)
  own Fz w v F := ∃ g cur F', v = .pointer (some ⟨g, 0, none⟩) ∧ w.heap[g]? = some (.cells cur t (0, 0)) ∧ (∀ o, ¬ Fz g o) ∧ OwnL cs Fz w cur.toList F' ∧ F = g :: F'
  one h := by obtain ⟨g, rfl⟩ := h; rfl
  toRel h := by obtain ⟨g, _, _, rfl, _⟩ := h; exact ⟨g, rfl⟩
  relMono h _ := h
  ownMono h k hh := by
    obtain ⟨g, cur, F', rfl, h1, h2, h3, rfl⟩ := h
    exact ⟨g, cur, F', rfl, (hh g (by simp)).1.trans h1, fun o ho => h2 o ((hh g (by simp)).2 o ho), h3.mono k (hh.sub fun b hb => by simp [hb]), rfl⟩
  lt h := by
    obtain ⟨g, cur, F', rfl, h1, h2, h3, rfl⟩ := h
    intro b hb
    rcases List.mem_cons.1 hb with rfl | hb
    · exact (Array.getElem?_eq_some_iff.1 h1).1
    · exact h3.lt b hb
section
variable {h0 : Nat → Prop} {n : Nat} {w0 w : World} {Fz0 Fz : FzT} {σ : St} {a : Act} {φ : Nat → Nat} {Fp : Nat → List Nat} {P : Program} {c : Code} {Q : Exit → St → Prop}
end
end Go.Proofs.YtmkhofdkdklpdaaGreat.M

/- Short names for what the printed texts say often. No condition. -/
set_option linter.unusedVariables false
namespace Go.Proofs.YtmkhofdkdklpdaaGreat.M
open Go
/-- What is known of the slots and variables that are named by number. -/
inductive PkS (s : Nat → Option RV) : List Nat → List (Nat × RV) → Prop
  | nil : PkS s [] []
  | cons {k : Nat} {v : RV} {ks : List Nat} {l : List (Nat × RV)} (h : s k = some v) (t : PkS s ks l) : PkS s (k :: ks) ((k, v) :: l)
theorem PkS.rd {s : Nat → Option RV} {ks : List Nat} {l : List (Nat × RV)} (h : PkS s ks l) : RdL l s := by
  induction h with
  | nil => exact True.intro
  | cons h _ ih => exact And.intro h ih
inductive PkB (b : Nat → Option (Nat × List PV)) : List Nat → List (Nat × (Nat × List PV)) → Prop
  | nil : PkB b [] []
  | cons {k : Nat} {v : Nat × List PV} {ks : List Nat} {l : List (Nat × (Nat × List PV))} (h : b k = some v) (t : PkB b ks l) : PkB b (k :: ks) ((k, v) :: l)
theorem PkB.rd {b : Nat → Option (Nat × List PV)} {ks : List Nat} {l : List (Nat × (Nat × List PV))} (h : PkB b ks l) : RdL l b := by
  induction h with
  | nil => exact True.intro
  | cons h _ ih => exact And.intro h ih
theorem qq : (∀ {p : Prop} [Decidable p], (decide p = true) = p) ∧ (∀ {p : Prop} [Decidable p], decide p = false ↔ ¬ p) ∧ (∀ {α : Type} [BEq α] [LawfulBEq α] {a b : α}, (a != b) = true ↔ a ≠ b) ∧ (∀ {α : Type} [BEq α] [LawfulBEq α] {a b : α}, (a == b) = true ↔ a = b) ∧ (∀ {b : Bool}, ((!b) = true) = (b = false)) ∧ (∀ {b : Bool}, ((!b) = false) = (b = true)) ∧ (∀ {α : Type} {a b : α}, (a ≠ b) = ¬ a = b) ∧ (∀ {α : Type} [BEq α] [LawfulBEq α] {a b : α}, (a != b) = false ↔ a = b) ∧ (∀ {α : Type} [BEq α] [LawfulBEq α] {a b : α}, (a == b) = false ↔ a ≠ b) :=
  ⟨q1, q2, q3, q4, q5, q6, q7, q8, q9⟩
/-- What lies low, by its shape. -/
theorem lc {G : Prop} (h : G := by repeat' (first | with_reducible (first | exact LclA.nil | exact LclC.nil | exact LclC.vals | exact PV.lcl_val | exact PV.lcl_any | exact RV.lcl_hdr | exact RV.lcl_ptr | exact RV.lcl_gat | exact RV.lcl_phi | apply LclA.cons | apply LclC.cons | apply RV.lcl_nm | apply RV.lcl_sv | apply RV.lcl_gh | apply PV.lcl_nv | apply PV.lcl_own | apply LclC.flat | apply LclC.app | refine LclC.map fun _ => ?_) | apply LclC.cons | apply LclA.cons | exact LclC.nil)) : G := h
theorem aI {a b : Prop} (x : a) (y : b) : a ∧ b := ⟨x, y⟩
theorem tI : True := True.intro
theorem nl {a b : Nat} (h : Nat.ble a b = true) : a ≤ b := Nat.le_of_ble_eq_true h
section
variable {P : Program} {n : Nat} {h0 : Nat → Prop} {w0 : World} {Fz0 : FzT} {c x y : Code} {σ : St} {Q : Exit → St → Prop}
theorem sP (ks bs : List Nat) {l : List (Nat × RV)} {b : List (Nat × (Nat × List PV))} (h : SW P n h0 w0 Fz0 c (St.of l b) Q) (hl : PkS σ.s ks l := by repeat (first | exact PkS.nil | apply PkS.cons rfl)) (hb : PkB σ.b bs b := by repeat (first | exact PkB.nil | apply PkB.cons rfl)) : SW P n h0 w0 Fz0 c σ Q := sO l b h hl.rd hb.rd
theorem sS {id : Nat} {ops : Array Oper} (ks bs : List Nat) {l : List (Nat × RV)} {b : List (Nat × (Nat × List PV))} (h : RunS P n ops (fun τ => thenS (fun τ => SW P n h0 w0 Fz0 y τ Q) Q .normal τ) ops.toList (St.of l b)) (hl : PkS σ.s ks l := by repeat (first | exact PkS.nil | apply PkS.cons rfl)) (hb : PkB σ.b bs b := by repeat (first | exact PkB.nil | apply PkB.cons rfl)) : SW P n h0 w0 Fz0 (.seq (.region id ops false) y) σ Q := sw_seq (sO l b (sw_reg h) hl.rd hb.rd)
theorem sG {id : Nat} {ops : Array Oper} (ks bs : List Nat) {l : List (Nat × RV)} {b : List (Nat × (Nat × List PV))} (h : RunS P n ops (fun τ => Q .normal τ) ops.toList (St.of l b)) (hl : PkS σ.s ks l := by repeat (first | exact PkS.nil | apply PkS.cons rfl)) (hb : PkB σ.b bs b := by repeat (first | exact PkB.nil | apply PkB.cons rfl)) : SW P n h0 w0 Fz0 (.region id ops false) σ Q := sO l b (sw_reg h) hl.rd hb.rd
theorem sL {ι : Type} (ks bs : List Nat) (I : ι → Prop) {l0 : List (Nat × RV)} {b0 : List (Nat × (Nat × List PV))} (l : ι → List (Nat × RV)) (b : ι → List (Nat × (Nat × List PV))) (m : ι → Nat) (i0 : ι) (h0' : I i0) (hl : RdL (l i0) σ.s) (hb : RdL (b i0) σ.b)
    (round : ∀ i, I i → SW P n h0 w0 Fz0 c (St.of (l0 ++ l i) (b0 ++ b i)) (thenS (fun τ => ∃ j, I j ∧ m j < m i ∧ (RdL l0 τ.s ∧ RdL b0 τ.b) ∧ RdL (l j) τ.s ∧ RdL (b j) τ.b) Q)) (hl0 : PkS σ.s ks l0 := by repeat (first | exact PkS.nil | apply PkS.cons rfl)) (hb0 : PkB σ.b bs b0 := by repeat (first | exact PkB.nil | apply PkB.cons rfl)) : SW P n h0 w0 Fz0 (.loop c) σ Q := sw_loop I l b m i0 h0' hl0.rd hb0.rd hl hb round
theorem sR {id : Nat} {ops : Array Oper} (h : RunS P n ops (fun τ => thenS (fun τ => SW P n h0 w0 Fz0 y τ Q) Q .normal τ) ops.toList σ) : SW P n h0 w0 Fz0 (.seq (.region id ops false) y) σ Q := sw_seq (sw_reg h)
end
section
variable {P : Program} {n : Nat} {ops : Array Oper} {σ : St} {QS : St → Prop} {l : List Oper} {d x : Nat} {ty : TypeId} {pos : String} {af : Array Edge}
theorem rM {v : Value} (y : RunS P n ops QS l (σ.app ⟨[(x, RV.sc v)], [], [(d, some (RV.sc v))], [], none⟩)) (h1 : RdL [(x, RV.sc v)] σ.s := by repeat (first | exact True.intro | refine And.intro rfl ?_)) (hd : d < n := by decide) : RunS P n ops QS (⟨some d, .move (.tmp x), ty, pos, af, none⟩ :: l) σ := rA y h1 True.intro (sM hd) rfl rfl
theorem rS {v : Value} (y : RunS P n ops QS l (σ.app ⟨[(x, RV.sc v)], [], [(d, some (RV.sc v))], [], none⟩)) (h1 : RdL [(x, RV.sc v)] σ.s := by repeat (first | exact True.intro | refine And.intro rfl ?_)) (hd : d < n := by decide) : RunS P n ops QS (⟨some d, .assign (.tmp x), ty, pos, af, none⟩ :: l) σ := rA y h1 True.intro (sA hd) rfl rfl
theorem rK {v : Value} (y : RunS P n ops QS l (σ.app ⟨[], [], [(d, some (RV.sc v))], [], none⟩)) (h : v.oneCell' = true := by exact rfl) (hd : d < n := by decide) : RunS P n ops QS (⟨some d, .assign (.const v), ty, pos, af, none⟩ :: l) σ := rA y True.intro True.intro (kA h hd) rfl rfl
end
end Go.Proofs.YtmkhofdkdklpdaaGreat.M

/- Shorter forms of what the printed texts say often. No condition. -/
set_option linter.unusedVariables false
namespace Go.Proofs.YtmkhofdkdklpdaaGreat.M
open Go Go.RowKit
/-- A list of cells, cell by cell. -/
inductive Spn : List PV → List PV → Prop
  | nil : Spn [] []
  | val {v : Value} {l m : List PV} (h : Spn l m) : Spn (PV.val v :: l) (PV.val v :: m)
  | sl {o : Fl} {es : List (List PV)} {l m : List PV} (h : Spn l m) : Spn (PV.sl o es :: l) (PV.sl o es :: m)
theorem Spn.eq {l m : List PV} (h : Spn l m) : l = m := by
  induction h with
  | nil => rfl
  | val _ ih => rw [ih]
  | sl _ ih => rw [ih]
inductive PkC (b : Nat → Option (Nat × List PV)) : List Nat → List (Nat × (Nat × List PV)) → Prop
  | nil : PkC b [] []
  | cons {k T : Nat} {cs ds : List PV} {ks : List Nat} {l : List (Nat × (Nat × List PV))} (h : b k = some (T, cs)) (e : Spn cs ds) (t : PkC b ks l) : PkC b (k :: ks) ((k, (T, ds)) :: l)
  | any {k T : Nat} {cs : List PV} {ks : List Nat} {l : List (Nat × (Nat × List PV))} (h : b k = some (T, cs)) (t : PkC b ks l) : PkC b (k :: ks) ((k, (T, cs)) :: l)
theorem PkC.rd {b : Nat → Option (Nat × List PV)} {ks : List Nat} {l : List (Nat × (Nat × List PV))} (h : PkC b ks l) : RdL l b := by
  induction h with
  | nil => exact True.intro
  | cons h e _ ih => exact And.intro (e.eq ▸ h) ih
  | any h _ ih => exact And.intro h ih
section
variable {P : Program} {n : Nat} {h0 : Nat → Prop} {w0 : World} {Fz0 : FzT} {c x y : Code} {σ : St} {Q : Exit → St → Prop}
theorem sQ (ks bs : List Nat) {l : List (Nat × RV)} {b : List (Nat × (Nat × List PV))} (h : SW P n h0 w0 Fz0 c (St.of l b) Q) (hl : PkS σ.s ks l := by repeat (first | exact PkS.nil | apply PkS.cons rfl)) (hb : PkC σ.b bs b := by repeat (first | exact PkC.nil | refine PkC.cons rfl (by repeat (first | exact Spn.nil | apply Spn.val | apply Spn.sl)) ?_ | apply PkC.any rfl)) : SW P n h0 w0 Fz0 c σ Q := sO l b h hl.rd hb.rd
theorem sT {id : Nat} {ops : Array Oper} (ks bs : List Nat) {l : List (Nat × RV)} {b : List (Nat × (Nat × List PV))} (h : RunS P n ops (fun τ => thenS (fun τ => SW P n h0 w0 Fz0 y τ Q) Q .normal τ) ops.toList (St.of l b)) (hl : PkS σ.s ks l := by repeat (first | exact PkS.nil | apply PkS.cons rfl)) (hb : PkC σ.b bs b := by repeat (first | exact PkC.nil | refine PkC.cons rfl (by repeat (first | exact Spn.nil | apply Spn.val | apply Spn.sl)) ?_ | apply PkC.any rfl)) : SW P n h0 w0 Fz0 (.seq (.region id ops false) y) σ Q := sw_seq (sO l b (sw_reg h) hl.rd hb.rd)
theorem sH {id : Nat} {ops : Array Oper} (ks bs : List Nat) {l : List (Nat × RV)} {b : List (Nat × (Nat × List PV))} (h : RunS P n ops (fun τ => Q .normal τ) ops.toList (St.of l b)) (hl : PkS σ.s ks l := by repeat (first | exact PkS.nil | apply PkS.cons rfl)) (hb : PkC σ.b bs b := by repeat (first | exact PkC.nil | refine PkC.cons rfl (by repeat (first | exact Spn.nil | apply Spn.val | apply Spn.sl)) ?_ | apply PkC.any rfl)) : SW P n h0 w0 Fz0 (.region id ops false) σ Q := sO l b (sw_reg h) hl.rd hb.rd
theorem nx {ι : Type} {I : ι → Prop} {m : ι → Nat} {M : Nat} {C D : Prop} {E F : ι → Prop} (j : ι) (a : I j) (b : m j < M := by first | omega | (dsimp only; omega)) (c : C := by repeat (first | exact True.intro | refine And.intro rfl ?_)) (d : D := by repeat (first | exact True.intro | refine And.intro rfl ?_)) (e : E j := by repeat (first | exact True.intro | refine And.intro rfl ?_)) (f : F j := by repeat (first | exact True.intro | refine And.intro rfl ?_)) : ∃ j, I j ∧ m j < M ∧ (C ∧ D) ∧ E j ∧ F j := ⟨j, a, b, ⟨c, d⟩, e, f⟩
theorem sF {f : FuncId} {fn : Func} {c : Code} {args rs : List (Bool × List PV)} (hf : P.funcs[f]? = some fn) (h : ∀ (h0 : Nat → Prop) (w0 : World) (Fz0 : FzT), SW P fn.ntmps h0 w0 Fz0 c (St.of (argsL 0 args) []) (endS P fn.results.toList rs)) (hb : fn.body = some c := by exact rfl) (hn : args.length ≤ fn.ntmps := by exact Nat.le_of_ble_eq_true rfl)
    (hbor : BorA args := by repeat (first | with_reducible exact borA_nil | with_reducible refine borA_cons (by repeat (first | with_reducible exact BorL.nil | with_reducible refine BorL.cons (PV.bor_val _) ?_ | with_reducible refine BorL.cons (PV.bor_sl _) ?_ | with_reducible refine BorL.cons (PV.bor_lo _ _) ?_)) ?_)) : SCall P f args (resRV rs) := scall_of hf hb hn hbor h
theorem sn (s j : Nat) {ag : Bool} {cs : List PV} {o : Fl} {es : List (List PV)} {m : Nat} (h : m ≤ 9223372036854775807 → SW P n h0 w0 Fz0 c σ Q) (hs : σ.s s = some (RV.sv ag cs) := by exact rfl) (hj : cs[j]? = some (PV.sl o es) := by exact rfl) (hm : es.length = m := by first | exact List.length_map _ | exact rfl) : SW P n h0 w0 Fz0 c σ Q := sw_slen hs hj fun k => h (hm ▸ k)
theorem sj (s : Nat) {o : Fl} {es : List (List PV)} {m : Nat} (h : m ≤ 9223372036854775807 → SW P n h0 w0 Fz0 c σ Q) (hs : σ.s s = some (RV.slc o es) := by exact rfl) (hm : es.length = m := by first | exact List.length_map _ | exact rfl) : SW P n h0 w0 Fz0 c σ Q := sw_len hs fun k => h (hm ▸ k)
theorem sc {t : Nat} {b : Bool} {A B : Prop} (h1 : A → SW P n h0 w0 Fz0 x σ Q) (h2 : B → SW P n h0 w0 Fz0 y σ Q) (ht : σ.s t = some (RV.bool b) := by exact rfl) (u1 : b = true → A := by first | (intro h; simp only [qq] at h; exact h) | exact id) (u2 : b = false → B := by first | (intro h; simp only [qq] at h; exact h) | exact id) : SW P n h0 w0 Fz0 (.cond (.tmp t) x y) σ Q := sw_cond ht (fun k => h1 (u1 k)) (fun k => h2 (u2 k))
theorem scT {t : Nat} (h1 : SW P n h0 w0 Fz0 x σ Q) (ht : σ.s t = some (RV.bool true) := by exact rfl) : SW P n h0 w0 Fz0 (.cond (.tmp t) x y) σ Q := sw_cond ht (fun _ => h1) (fun k => nomatch k)
theorem scF {t : Nat} (h1 : SW P n h0 w0 Fz0 y σ Q) (ht : σ.s t = some (RV.bool false) := by exact rfl) : SW P n h0 w0 Fz0 (.cond (.tmp t) x y) σ Q := sw_cond ht (fun k => nomatch k) (fun _ => h1)
end
section
variable {P : Program} {n : Nat} {ops : Array Oper} {σ σ0 : St} {QS : St → Prop} {l : List Oper} {o : Oper} {acc : List (Nat × Step)} {C : Nat → Step → Prop}
theorem cx (s : Nat) {b : Bool} {A B : Prop} (h1 : b = true → A → RunS P n ops QS l σ) (h2 : b = false → B → RunS P n ops QS l σ) (ht : σ.s s = some (RV.bool b) := by exact rfl) (u1 : b = true → A := by first | (intro h; simp only [qq] at h; exact h) | exact id) (u2 : b = false → B := by first | (intro h; simp only [qq] at h; exact h) | exact id) : RunS P n ops QS l σ := RunS.cases ht (fun k => h1 k (u1 k)) (fun k => h2 k (u2 k))
theorem dx (s : Nat) {b : Bool} {A B : Prop} (h1 : b = true → A → Run P n ops σ0 C QS l acc σ) (h2 : b = false → B → Run P n ops σ0 C QS l acc σ) (ht : σ.s s = some (RV.bool b) := by exact rfl) (u1 : b = true → A := by first | (intro h; simp only [qq] at h; exact h) | exact id) (u2 : b = false → B := by first | (intro h; simp only [qq] at h; exact h) | exact id) : Run P n ops σ0 C QS l acc σ := Run.cases ht (fun k => h1 k (u1 k)) (fun k => h2 k (u2 k))
/-- A goal that is to be met by what comes behind. -/
inductive Hd (H : Prop) : Prop
  | mk (h : H) : Hd H
theorem Hd.get {H : Prop} : Hd H → H := fun x => by cases x with | mk h => exact h
theorem zt {c : Bool} {G H : Prop} (g : c = true) (h : H) (w : c = true → Hd H → G := by intro g_ h_; (repeat (first | refine RunS.s0t g_ ?_ | refine RunS.su ?_)); exact h_.get) : G := w g ⟨h⟩
theorem zf {c : Bool} {G H : Prop} (g : c = false) (h : H) (w : c = false → Hd H → G := by intro g_ h_; (repeat (first | refine RunS.s0f g_ ?_ | refine RunS.su ?_)); exact h_.get) : G := w g ⟨h⟩
theorem rX {L : Step} (y : RunS P n ops QS l (σ.app L)) (h1 : RdL L.rs σ.s := by repeat (first | exact True.intro | refine And.intro rfl ?_)) (h2 : RdL L.rb σ.b := by repeat (first | exact True.intro | refine And.intro rfl ?_)) (x : Loc P n o L) (hg : o.guard = none := by exact rfl) (ha : ∀ d, L.al = some d → Free d σ := by refine free1 ?_; repeat (first | exact Free.of_ rfl | refine Free.app ?_ rfl)) : RunS P n ops QS (o :: l) σ := RunS.step h1 h2 (LocG.of hg x) ha y
theorem dX {L : Step} (m : Nat) (y : Run P n ops σ0 C QS l (acc ++ [(m, L)]) (σ.app L)) (h1 : RdL L.rs σ.s := by repeat (first | exact True.intro | refine And.intro rfl ?_)) (h2 : RdL L.rb σ.b := by repeat (first | exact True.intro | refine And.intro rfl ?_)) (x : Loc P n o L) (hg : o.guard = none := by exact rfl) (ha : ∀ d, L.al = some d → Free d σ0 := by exact nofree) (h4 : chkE m o L acc = true := by kernel_rfl) (hC : C acc.length L := by show (List.all _ _) = true; kernel_rfl) : Run P n ops σ0 C QS (o :: l) acc σ := Run.stepC m h1 h2 (LocG.of hg x) ha h4 hC y
end
theorem rb {b c : Bool} (h : b = c) : some (RV.bool b) = some (RV.bool c) ∧ True := ⟨bool_eq h, True.intro⟩
end Go.Proofs.YtmkhofdkdklpdaaGreat.M
