/- The rules for calls that take what their arguments own, and for calls that turn a variable of the caller. No condition. -/
import Derived.Test.YtloipjaiceifbaaCU
set_option linter.unusedVariables false
namespace Go.Proofs.Ytloipjaiceifbaa.M
open Go Go.RowKit
section
variable {P : Program} {n : Nat} {h0 : Nat → Prop} {w0 : World} {Fz0 : FzT} {ops : Array Oper} {Q : Exit → St → Prop}
theorem RelT.bor {Fz : FzT} {w : World} : ∀ {l : List (Bool × List PV)} {vs : List Value}, (∀ q, q ∈ l → BorL q.2) → RelT l Fz w vs → OwnT l Fz w vs []
  | [], _, _, h => ⟨h, rfl⟩
  | q :: l, vs, hb, h => by
    obtain ⟨v, vs', rfl, h1, h2⟩ := h
    exact ⟨v, vs', [], [], rfl, rfl, ⟨h1.1, BorL.own (hb q (by simp)) h1.2⟩, RelT.bor (fun x hx => hb x (by simp [hx])) h2⟩
theorem run_xcall {f d t : Nat} {xs : List Operand} {args : Array Operand} {tys : Array TypeId} {ty : TypeId} {pos : String} {af : Array Edge} {g : Option (Nat × Bool)} {a : Act} {w : World} (hf : callI P f = true) (he : args.toList = .tmp t :: xs) :
    (execOp a.eval ⟨some d, .call { callee := .value (.func f), args := args, argTypes := tys }, ty, pos, af, g⟩).run P w = .ok (.enter f (a.tmps.getD t undef :: xs.map a.eval).toArray) w := by
  unfold execOp
  have e : (#[] ++ args.map a.eval ++ #[] : Array Value) = (args.toList.map a.eval).toArray := by apply Array.ext'; simp
  simp only [resolve, Act.eval, Deferred.ofValue, Sem.run_bind, Sem.run_pure, Result.andThen_ok, invoke]
  rw [run_call hf, e, he]; rfl
theorem run_ocall {f d : Nat} {args : Array Operand} {tys : Array TypeId} {ty : TypeId} {pos : String} {af : Array Edge} {g : Option (Nat × Bool)} {a : Act} {w : World} (hf : callI P f = true) :
    (execOp a.eval ⟨some d, .call { callee := .value (.func f), args := args, argTypes := tys }, ty, pos, af, g⟩).run P w = .ok (.enter f (args.toList.map a.eval).toArray) w := by
  unfold execOp
  have e : (#[] ++ args.map a.eval ++ #[] : Array Value) = (args.toList.map a.eval).toArray := by apply Array.ext'; simp
  simp only [resolve, Act.eval, Deferred.ofValue, Sem.run_bind, Sem.run_pure, Result.andThen_ok, invoke]
  rw [run_call hf, e]
/-- A call that turns a variable which owns nothing. -/
theorem loc_xcall0 {f d p bx t : Nat} {xs : List Operand} {args : Array Operand} {tys : Array TypeId} {ty : TypeId} {pos : String} {af : Array Edge} {g : Option (Nat × Bool)} {cs cs' : List PV} {qs as_ : List (Bool × List PV)} {r : RV} (hd : d < n) (hf : callI P f = true) (he : args.toList = .tmp p :: xs)
    (hok : OpsOk xs qs) (hto : ToT qs as_) (hbc : BorL cs) (hba : ∀ q, q ∈ as_ → BorL q.2) (hu : XCall P f t cs cs' as_ r) :
    Loc P n ⟨some d, .call { callee := .value (.func f), args := args, argTypes := tys }, ty, pos, af, g⟩ ⟨(p, RV.ptr bx 0) :: opsR xs qs, [(bx, (t, cs))], [(d, some r)], [(bx, some (t, cs'))], none⟩ := by
  intro h0 w0 Fz0 σ a w K Q hc hr hrb _ h5
  obtain ⟨φ, Fz, Fp, hc⟩ := hc
  have hp := (hc.slot p _ hr.1).1
  obtain ⟨cur, hg, ho⟩ := hc.box bx _ hrb.1
  obtain ⟨g1, g2, g3⟩ := hc.bxb bx _ hrb.1
  have hglt : φ bx < w.heap.size := (Array.getElem?_eq_some_iff.1 hg).1
  have hrel := hto.rel (hc.relT hr.2 hok)
  unfold Oper.wp
  rw [run_xcall hf he, hp, Oper.upon_enter]
  refine (hu w (φ bx) cur _ Fz [] [] hc.fzl hg g2 (BorL.own hbc ho.rel) (RelT.bor hba hrel) (by simp)).mono ?_
  rintro e w' ⟨v, Fz', cur', F1', G, rfl, ht, hg', hf', ho', hv, hn, hin⟩
  simp only [List.append_nil, List.not_mem_nil, false_or] at hin
  refine h5 _ _ ?_
  have c1 := hc.pullB hrb.1
  have hn' := hn
  rw [List.nodup_cons, List.nodup_append] at hn'
  have c2 := c1.world (w' := w') (Fz' := Fz') (X := φ bx :: (F1' ++ G)) ht.os ht.tape ht.output ht.size (fun b hb hb0 => by
      have hbg : b ≠ φ bx := fun e => hb0 (by simp [e])
      have := ht.same b hb (fun e => hbg (Option.some.inj e)) (by simp)
      exact ⟨this.1, fun o => (this.2 o).1⟩)
    (fun b o hbo => by
      have hb := hc.fzl b o hbo
      have hbg : b ≠ φ bx := fun e => g2 o (e ▸ hbo)
      have := ht.same b hb (fun e => hbg (Option.some.inj e)) (by simp)
      exact ⟨(this.2 o).2 hbo, World.cell?_of_block this.1⟩) ht.fzl
    (fun b hb => by
      rcases List.mem_cons.1 hb with rfl | hb
      · exact .inl (by simp)
      · exact .inr (hin b hb)) hn
  have c3 := c2.pushB (d := bx) (g := φ bx) (t := t) (cs := cs') (cur := cur') (F := F1') (X := G) (by simp [St.setB_b]) hg' ho' hf' (fun b hb => by
      simp only [if_true]
      simp only [List.mem_append, List.mem_cons] at hb ⊢
      rcases hb with hb | hb | hb <;> simp [hb])
    (by
      rw [List.nodup_append, List.nodup_cons]
      refine ⟨hn'.2.1, ⟨fun h => hn'.1 (by simp [h]), hn'.2.2.1⟩, fun x hx y hy e => ?_⟩
      rcases List.mem_cons.1 hy with rfl | hy
      · exact hn'.1 (by simp [← e, hx])
      · exact hn'.2.2.2 x hx y hy e) (.inl rfl)
  have c4 := c3.push (i := d) (rv := r) (v := v) (F := G) (X := []) hd (hv _) (fun b hb => by
      simp only [give]
      rw [if_neg (by omega)]
      simpa using hb) (by simpa using hn'.2.2.1)
  exact Conc.eqv ⟨_, _, _, c4⟩ (fun i => rfl) (fun x => by
    show (bif Nat.beq x bx then some (t, cs') else σ.b x) = _
    rw [St.set_b, St.setB_b, St.setB_b, beq_eq]
    by_cases e : x = bx <;> simp [e])
def PV.OTo (p q : PV) : Prop := ∀ {Fz : FzT} {w : World} {v : Value} {F : List Nat}, p.own Fz w v F → q.own Fz w v F
theorem OTo.refl {p : PV} : p.OTo p := fun h => h
theorem OTo.lo {L : Nat} {es : List (List PV)} : (PV.sl (.lo L) es).OTo (PV.sl .v es) := fun h => ⟨h.1.1, h.2⟩
theorem OTo.nv {u : Value} {p : PV} : (PV.nv u p).OTo p := fun h => h.2
theorem OwnTo.cons {p q : PV} {ps qs : List PV} (h : p.OTo q) (k : OwnTo ps qs) : OwnTo (p :: ps) (q :: qs) := fun hh => by
  obtain ⟨v, vs', F1, F2, rfl, rfl, h1, h2⟩ := hh
  exact ⟨v, vs', F1, F2, rfl, rfl, h h1, k h2⟩
def OwnToT : List (Bool × List PV) → List (Bool × List PV) → Prop
  | [], [] => True
  | p :: ps, q :: qs => (p.1 = q.1 ∧ OwnTo p.2 q.2) ∧ OwnToT ps qs
  | _, _ => False
theorem OwnToT.own {Fz : FzT} {w : World} : ∀ {ps qs : List (Bool × List PV)} {vs : List Value} {F : List Nat}, OwnToT ps qs → OwnT ps Fz w vs F → OwnT qs Fz w vs F
  | [], [], _, _, _, h => h
  | p :: ps, q :: qs, _, _, k, h => by
    obtain ⟨v, vs', F1, F2, rfl, rfl, h1, h2⟩ := h
    exact ⟨v, vs', F1, F2, rfl, rfl, ⟨k.1.1 ▸ h1.1, k.1.2 h1.2⟩, OwnToT.own k.2 h2⟩
def LclX (L : Nat) (ts : List Nat) : List (Nat × RV) → Prop
  | [] => True
  | p :: l => (p.1 ∈ ts ∨ p.2.Lcl L) ∧ LclX L ts l
theorem LclX.mem {L : Nat} {ts : List Nat} : ∀ {l : List (Nat × RV)}, LclX L ts l → ∀ p, p ∈ l → p.1 ∈ ts ∨ p.2.Lcl L
  | [], _, p, hp => by simp at hp
  | q :: l, h, p, hp => by
    rcases List.mem_cons.1 hp with rfl | hp
    · exact h.1
    · exact LclX.mem h.2 p hp
theorem setL_kills : ∀ {xs : List Operand} {f : Nat → Option RV} {i : Nat} {rv : RV}, setL (killsO xs) f i = some rv → i ∉ tmpsO xs ∧ f i = some rv
  | [], f, i, rv, h => ⟨by simp [tmpsO], h⟩
  | x :: xs, f, i, rv, h => by
    have h : setL (killsO xs) (setL (killO x) f) i = some rv := by rw [← setL_app]; exact h
    obtain ⟨k1, k2⟩ := setL_kills h
    cases x with
    | tmp t =>
      have k2 : (bif Nat.beq i t then none else f i) = some rv := k2
      rw [beq_eq] at k2
      by_cases e : i = t
      · simp [e] at k2
      · simp [e] at k2
        exact ⟨by simp [tmpsO, e, k1], k2⟩
    | _ => exact ⟨k1, k2⟩
/-- A call that takes what its arguments own. -/
theorem swl_ocall {f d L : Nat} {args : Array Operand} {tys : Array TypeId} {ty : TypeId} {pos : String} {af : Array Edge} {ol : List Oper} {l : List (Nat × RV)} {b : List (Nat × (Nat × List PV))} {qs as_ : List (Bool × List PV)} {r : RV}
    (hd : d < n) (hf : callI P f = true) (hrd : RdL (opsR args.toList qs) (lk l)) (hok : OpsOk args.toList qs) (hap : apartO args.toList = true) (hto : OwnToT qs as_) (hu : OCall P f as_ r) (hL : ∀ x, x < L → h0 x) (hls : LclX L (tmpsO args.toList) l) (hlb : LclBA L b)
    (h : SWL P n h0 w0 Fz0 ops ol ((⟨setL (killsO args.toList) (lk l), lk b⟩ : St).set d (some r)) Q) :
    SWL P n h0 w0 Fz0 ops (⟨some d, .call { callee := .value (.func f), args := args, argTypes := tys }, ty, pos, af, none⟩ :: ol) (St.of l b) Q := fun a w hc => by
  obtain ⟨φ, Fz, Fp, hc⟩ := hc
  obtain ⟨F, Fp', hown, c1, hm, hnd⟩ := hc.pulls args.toList qs hrd hok (of_decide_eq_true hap)
  have hF := (List.nodup_append.1 hnd).1
  refine wpList_plain rfl fun K hK => ?_
  unfold Oper.wp
  rw [run_ocall hf, Oper.upon_enter]
  refine (hu w _ Fz F hc.fzl (hto.own hown) hF).mono ?_
  rintro e w' ⟨v, Fz', G, rfl, ht, hv, hn, hin⟩
  have hlt0 : ∀ x, x ∈ Fp 0 → x < w.heap.size := fun x hx => (hc.low 0 x hx).2
  have c2 := c1.uworld (w' := w') (Fz' := Fz') (L := L) (X := G ++ Fp 0) ht.os ht.tape ht.output ht.size (fun x hx hx0 => ht.same x hx (by simp) (fun k => hx0 ((hm x).2 (by simp [k])))) hL
    (fun i rv hi => by
      obtain ⟨k1, k2⟩ := setL_kills hi
      rcases hls.mem _ (lk_mem k2) with k | k
      · exact absurd k k1
      · exact k)
    (fun d' bx hb => LclBA.mem hlb _ (lk_mem hb)) ht.fzl
    (fun x hx => by
      rcases List.mem_append.1 hx with hx | hx
      · rcases hin x hx with k | k
        · exact .inl ((hm x).2 (by simp [k]))
        · exact .inr k
      · exact .inl ((hm x).2 (by simp [hx])))
    (by
      rw [List.nodup_append] at hnd ⊢
      refine ⟨hn, hnd.2.1, fun x hx y hy e => ?_⟩
      rcases hin x hx with k | k
      · exact hnd.2.2 x k y hy e
      · have := hlt0 y hy; omega)
  have c3 := c2.push (i := d) (rv := r) (v := v) (F := G) (X := Fp 0) hd (hv _) (fun x hx => by simpa using hx) (by
      have := c2.nod 0
      simpa using this)
  exact hK _ _ (h _ _ ⟨_, _, _, c3⟩)
/-- A call that turns a variable of the caller, with what it owns. -/
theorem swl_xcall {f d p bx t L : Nat} {xs : List Operand} {args : Array Operand} {tys : Array TypeId} {ty : TypeId} {pos : String} {af : Array Edge} {ol : List Oper} {l : List (Nat × RV)} {b : List (Nat × (Nat × List PV))} {cs cs' : List PV} {qs as_ : List (Bool × List PV)} {r : RV}
    (hd : d < n) (hf : callI P f = true) (he : args.toList = .tmp p :: xs) (hp : lk l p = some (RV.ptr bx 0)) (hbx : lk b bx = some (t, cs)) (hrd : RdL (opsR xs qs) (lk l)) (hok : OpsOk xs qs) (hap : apartO xs = true) (hto : OwnToT qs as_) (hu : XCall P f t cs cs' as_ r) (hL : ∀ x, x < L → h0 x) (hls : LclX L (tmpsO xs) l) (hlb : LclB L bx b)
    (h : SWL P n h0 w0 Fz0 ops ol (((⟨setL (killsO xs) (lk l), lk b⟩ : St).setB bx (some (t, cs'))).set d (some r)) Q) :
    SWL P n h0 w0 Fz0 ops (⟨some d, .call { callee := .value (.func f), args := args, argTypes := tys }, ty, pos, af, none⟩ :: ol) (St.of l b) Q := fun a w hc => by
  obtain ⟨φ, Fz, Fp, hc⟩ := hc
  have hpv := (hc.slot p _ hp).1
  obtain ⟨F, Fp', hown, c1, hm, hnd⟩ := hc.pulls xs qs hrd hok (of_decide_eq_true hap)
  have hF := (List.nodup_append.1 hnd).1
  have hb1 : (⟨setL (killsO xs) (St.of l b).s, (St.of l b).b⟩ : St).b bx = some (t, cs) := hbx
  obtain ⟨cur, hg, ho⟩ := c1.box bx _ hb1
  obtain ⟨g1, g2, g3⟩ := c1.bxb bx _ hb1
  have hglt : φ bx < w.heap.size := (Array.getElem?_eq_some_iff.1 hg).1
  have c2 := c1.pullB hb1
  generalize hFp2 : (fun x => if x = 0 then φ bx :: mv Fp' (2 * bx + 2) 0 else mv Fp' (2 * bx + 2) x) = Fp2 at c2
  have e0 : Fp2 0 = φ bx :: (Fp' (2 * bx + 2) ++ Fp' 0) := by rw [← hFp2]; simp [mv]
  have hFin : ∀ x, x ∈ F → x ∈ Fp' 0 := fun x hx => (hm x).2 (by simp [hx])
  have hXin : ∀ x, x ∈ Fp 0 → x ∈ Fp' 0 := fun x hx => (hm x).2 (by simp [hx])
  have hn1 : (φ bx :: (Fp' (2 * bx + 2) ++ F)).Nodup := by
    rw [List.nodup_cons, List.nodup_append]
    refine ⟨fun k => ?_, c1.nod _, hF, fun x hx y hy e => ?_⟩
    · rcases List.mem_append.1 k with k | k
      · exact g3 _ k
      · exact g3 0 (hFin _ k)
    · subst e
      exact c1.dis 0 (2 * bx + 2) (by omega) x (hFin x hy) hx
  refine wpList_plain rfl fun K hK => ?_
  unfold Oper.wp
  rw [run_xcall hf he, hpv, Oper.upon_enter]
  refine (hu w (φ bx) cur _ Fz _ F hc.fzl hg g2 ho (hto.own hown) hn1).mono ?_
  rintro e w' ⟨v, Fz', cur', F1', G, rfl, ht, hg', hf', ho', hv, hn, hin⟩
  have hn' := hn
  rw [List.nodup_cons, List.nodup_append] at hn'
  have hlt0 : ∀ x, x ∈ Fp 0 → x < w.heap.size := fun x hx => (hc.low 0 x hx).2
  have hdis0 : ∀ x, x ∈ Fp 0 → x ≠ φ bx ∧ x ∉ Fp' (2 * bx + 2) ∧ x ∉ F := fun x hx => by
    refine ⟨fun e => g3 0 (e ▸ hXin x hx), fun k => c1.dis 0 (2 * bx + 2) (by omega) x (hXin x hx) k, fun k => ?_⟩
    rw [List.nodup_append] at hnd
    exact hnd.2.2 x k x hx rfl
  have hdn : ∀ x, x ∈ F1' ++ G → x ∉ Fp 0 := fun x hx k => by
    obtain ⟨k1, k2, k3⟩ := hdis0 x k
    rcases hin x hx with hx | hx
    · rcases List.mem_append.1 hx with hx | hx
      · exact k2 hx
      · exact k3 hx
    · have := hlt0 x k; omega
  have c3 := c2.uworld (w' := w') (Fz' := Fz') (L := L) (X := φ bx :: (F1' ++ (G ++ Fp 0))) ht.os ht.tape ht.output ht.size (fun x hx hx0 => ht.same x hx (fun k => hx0 (by rw [e0, Option.some.inj k]; simp)) (fun k => hx0 (by
        rw [e0]
        rcases List.mem_append.1 k with k | k
        · simp [k]
        · simp [hFin x k]))) hL
    (fun i rv hi => by
      obtain ⟨k1, k2⟩ := setL_kills hi
      rcases hls.mem _ (lk_mem k2) with k | k
      · exact absurd k k1
      · exact k)
    (fun d' bxx hb => by
      rw [St.setB_b] at hb
      split at hb
      · cases hb
      · rename_i hne
        rcases hlb.mem _ (lk_mem hb) with k | k
        · exact absurd k hne
        · exact k) ht.fzl
    (fun x hx => by
      rw [e0]
      simp only [List.mem_cons, List.mem_append] at hx ⊢
      rcases hx with hx | hx | hx | hx
      · exact .inl (.inl hx)
      · rcases hin x (by simp [hx]) with k | k
        · rcases List.mem_append.1 k with k | k
          · exact .inl (.inr (.inl k))
          · exact .inl (.inr (.inr (hFin x k)))
        · exact .inr k
      · rcases hin x (by simp [hx]) with k | k
        · rcases List.mem_append.1 k with k | k
          · exact .inl (.inr (.inl k))
          · exact .inl (.inr (.inr (hFin x k)))
        · exact .inr k
      · exact .inl (.inr (.inr (hXin x hx))))
    (by
      rw [List.nodup_cons, List.nodup_append, List.nodup_append]
      refine ⟨fun k => ?_, hn'.2.1, ⟨hn'.2.2.1, (List.nodup_append.1 hnd).2.1, fun x hx y hy e => hdn x (by simp [hx]) (e ▸ hy)⟩, fun x hx y hy e => ?_⟩
      · simp only [List.mem_append] at k
        rcases k with k | k | k
        · exact hn'.1 (by simp [k])
        · exact hn'.1 (by simp [k])
        · exact (hdis0 _ k).1 rfl
      · rcases List.mem_append.1 hy with hy | hy
        · exact hn'.2.2.2 x hx y hy e
        · exact hdn x (by simp [hx]) (e ▸ hy))
  have hnX : (F1' ++ φ bx :: (G ++ Fp 0)).Nodup := by
    have := c3.nod 0
    simp only [if_true] at this
    refine (List.Perm.nodup_iff ?_).2 this
    exact List.perm_middle
  have c4 := c3.pushB (d := bx) (g := φ bx) (t := t) (cs := cs') (cur := cur') (F := F1') (X := G ++ Fp 0) (by simp [St.setB_b]) hg' ho' hf' (fun x hx => by
      simp only [if_true]
      simp only [List.mem_append, List.mem_cons] at hx ⊢
      rcases hx with hx | hx | hx | hx <;> simp [hx]) hnX (.inl rfl)
  have c5 := c4.push (i := d) (rv := r) (v := v) (F := G) (X := Fp 0) hd (hv _) (fun x hx => by
      simp only [give, if_true]
      rw [if_neg (by omega)]
      exact hx) (by
      have := c4.nod 0
      simp only [give, if_true] at this
      rw [if_neg (by omega)] at this
      exact this)
  exact hK _ _ (h _ _ (Conc.eqv ⟨_, _, _, c5⟩ (fun i => rfl) (fun x => by
    simp only [St.set_b, St.setB_b]
    split <;> rfl)))
end
end Go.Proofs.Ytloipjaiceifbaa.M
