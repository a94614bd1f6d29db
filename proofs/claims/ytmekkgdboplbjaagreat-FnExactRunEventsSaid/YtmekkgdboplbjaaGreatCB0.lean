/- The logic. No condition. -/
import Derived.Test.YtmekkgdboplbjaaGreatCA0
import Derived.Deep.LoopGhost
import Derived.Laws.StructEq
set_option linter.all false
namespace Go.Proofs.YtmekkgdboplbjaaGreat.M
open Go Go.RowKit
section
section
variable {P : Program} {n : Nat} {ops : Array Oper} {h0 : Nat → Prop} {w0 : World} {Fz0 : av} {σ τ : St} {a : Act} {w : World} {φ : Nat → Nat} {Fz : av} {Fp : Nat → List Nat}
def eD.take : ∀ {l : List (Bool × List PV)} {vs : List Value} {F : List Nat} {i : Nat} {ag : Bool} {cs qs : List PV}, eD l Fz w vs F → l[i]? = some (ag, cs) → am cs qs → an qs → F.Nodup →
  ∃ v F1 F2, vs[i]? = some v ∧ bQ ag cs Fz w v F1 ∧ eD (l.set i (ag, qs)) Fz w vs F2 ∧ (∀ b, b ∈ F1 ++ F2 → b ∈ F) ∧ (F1 ++ F2).Nodup
 | [], _, _, i, _, _, _, _, hi, _, _, _ => by simp at hi
 | p :: l, vs, F, 0, ag, cs, qs, h, hi, ht, hb, hn => by
  obtain ⟨v, vs', F1, F2, rfl, rfl, h1, h2⟩ := h
  simp at hi
  subst hi
  exact ⟨v, F1, F2, rfl, h1, ⟨v, vs', [], F2, rfl, rfl, ⟨h1.1, hb.own (ht.rel h1.2.rel)⟩, h2⟩, fun b hb => hb, hn⟩
 | p :: l, vs, F, i + 1, ag, cs, qs, h, hi, ht, hb, hn => by
  obtain ⟨v, vs', F1, F2, rfl, rfl, h1, h2⟩ := h
  rw [cm] at hn
  obtain ⟨u, G1, G2, e1, e2, e3, e4, e5⟩ := eD.take h2 (by simpa using hi) ht hb hn.2.1
  rw [cm] at e5
  refine ⟨u, G1, F1 ++ G2, by simpa using e1, e2, ⟨v, vs', F1, G2, rfl, rfl, h1, e3⟩, fun b hb => ?_, ?_⟩
  ·simp only [dM] at hb ⊢
   rcases hb with hb | hb | hb
   ·exact .inr (e4 b (by simp [hb]))
   ·exact .inl hb
   ·exact .inr (e4 b (by simp [hb]))
  ·rw [cm, cm]
   refine ⟨e5.1, ⟨hn.1, e5.2.1, fun x hx y hy => hn.2.2 x hx y (e4 y (by simp [hy]))⟩, fun x hx y hy e => ?_⟩
   rcases List.mem_append.1 hy with hy | hy
   ·exact hn.2.2 y hy x (e4 x (by simp [hx])) e.symm
   ·exact e5.2.2 x hx y hy e
def Ex {t d i : Nat} {ty : TypeId} {pos : String} {af : Array Edge} {g : Option (Nat × Bool)} {l : List (Bool × List PV)} {ag : Bool} {cs qs : List PV} (hd : d < n) (hi : l[i]? = some (ag, cs)) (ht : am cs qs) (hb : an qs) :
  Loc P n ⟨some d, .extract (.tmp t) i, ty, pos, af, g⟩ ⟨[(t, RV.tup l)], [], [(t, some (RV.tup (l.set i (ag, qs)))), (d, some (RV.sv ag cs))], [], none⟩ := by
 intro h0 w0 Fz0 σ a w K Q hc hr _ _ h5
 obtain ⟨φ, Fz, Fp, hc⟩ := hc
 obtain ⟨vs, hv, hT⟩ := hc.slot t _ hr.1
 have ht' : t < n := by
  rcases Nat.lt_or_ge t n with h | h
  ·exact h
  ·rw [Array.getD_eq_getD_getElem?, Array.getElem?_eq_none (by rw [hc.siz]; exact h)] at hv
   cases hv
   have := hT.len
   cases l with
   | nil => simp at hi
   | cons p l => simp at this
 have c1 := hc.pull t
 have e0 : mv Fp (2 * t + 1) 0 = Fp (2 * t + 1) ++ Fp 0 := by simp [mv]
 have hnd := c1.nod 0
 rw [e0, cm] at hnd
 obtain ⟨v, F1, F2, e1, e2, e3, e4, e5⟩ := hT.take hi ht hb hnd.1
 have c2 := c1.push (i := t) (rv := RV.tup (l.set i (ag, qs))) (v := .tuple vs) (F := F2) (X := F1) ht' ⟨vs, rfl, e3⟩
  (fun b hb => by
   rw [e0]
   refine List.mem_append_left _ (e4 b ?_)
   simp only [dM] at hb ⊢; exact hb.symm)
  ((jj).nodup_iff.2 e5)
 have c3 := c2.push (i := d) (rv := RV.sv ag cs) (v := v) (F := F1) (X := []) hd e2
  (fun b hb => by simp [cD] at hb ⊢; exact hb) (by rw [eg]; exact (List.nodup_append.1 e5).1)
 have hput : (a.put (some t) (.tuple vs)) = a := by
  have : a.tmps.setIfInBounds t (.tuple vs) = a.tmps := by
   apply Array.ext (by simp)
   intro j hj1 hj2
   rw [Array.getElem_setIfInBounds (by simpa using hj1)]
   split
   ·rename_i hjt
    subst hjt
    rw [← hv, Array.getD_eq_getD_getElem?, Array.getElem?_eq_getElem hj2]; rfl
   ·rfl
  show ({ tmps := a.tmps.setIfInBounds t (.tuple vs), defers := a.defers } : Act) = a
  rw [this]
 rw [hput] at c3
 refine dE (v := v) (w' := w) ?_ (h5 _ _ (bn.eqv ⟨_, _, _, c3⟩ (fun j => ?_) (fun e => rfl)))
 ·unfold execOp
  have hv' : a.eval (.tmp t) = .tuple vs := hv
  have e1' : vs[i]? = some v := by simpa using e1
  simp [hv', Instr.extract, e1']
 ·show bM [(t, _), (d, _)] σ.s j = _
  simp only [bM, St.set]
  cases hjd : Nat.beq j d <;> cases hjt : Nat.beq j t <;> rfl
def vt {T E e bs d s : Nat} {lo hi : Option Operand} {ty : TypeId} {pos : String} {af : Array Edge} {g : Option (Nat × Bool)} {o : Fl} {es : List (List PV)} {i j : Nat} (hd : d < n) (hT : cZ P T = some (E, e, bs))
  (hlo : match lo with | none => i = 0 | some x => cg x (RV.int (i : Int))) (hhi : match hi with | none => j = es.length | some x => cg x (RV.int (j : Int))) (hij : i ≤ j) (hj : j ≤ es.length) (he : ∀ cs, cs ∈ es → cs.length = e) :
  Loc P n ⟨some d, .slice T (.tmp s) lo hi none, ty, pos, af, g⟩ ⟨(s, RV.slc o es) :: ((match lo with | none => [] | some x => bH x (RV.int (i : Int))) ++ (match hi with | none => [] | some x => bH x (RV.int (j : Int)))), [], [(d, some (RV.slc .v ((es.take j).drop i)))], [], none⟩ := by
 intro h0 w0 Fz0 σ a w K Q hc hr _ _ h5
 obtain ⟨φ, Fz, Fp, hc⟩ := hc
 obtain ⟨ad, c, e', u, ev, h1, h2, h3, h4, h6⟩ := hc.slrel hr.1
 obtain ⟨hu, inf, hinf, hsz, _⟩ := kR hT
 have es' : a.eval (.tmp s) = .slice ad es.length c := ev
 have hlo' : lo.map a.eval = (lo.map fun _ => (.int .i64 (i : Int) : Value)) := by
  cases lo with
  | none => rfl
  | some x => exact congrArg some (hc.sc hr.2.left hlo)
 have hhi' : hi.map a.eval = (hi.map fun _ => (.int .i64 (j : Int) : Value)) := by
  cases hi with
  | none => rfl
  | some x => exact congrArg some (hc.sc hr.2.right hhi)
 have hlen : ((es.take j).drop i).length = j - i := by rw [gm, br]; omega
 refine dE (v := .slice (if c = i then ad else ad.map (·.add (i * e))) (j - i) (c - i)) (w' := w) ?_ (h5 _ _ (hc.put0 hd (bQ.of_atom (p := PV.sl .v ((es.take j).drop i)) ⟨⟨_, c - i, e', fun p q => u (i + p) q, by rw [hlen], by rw [hlen]; omega, by omega, ?_, ?_, ?_⟩, rfl⟩)))
 ·unfold execOp
  have hb : (Instr.sliceBounds true es.length c (lo.map a.eval) (hi.map a.eval) none).run P w = .ok (i, j, c) w := by
   rw [hlo', hhi']
   have b1 : (0 : Int) ≤ (j : Int) ∧ (j : Int) ≤ (c : Int) := by omega
   have b2 : (0 : Int) ≤ (i : Int) ∧ (i : Int) ≤ (j : Int) := by omega
   cases lo <;> cases hi <;> simp only at hlo hhi <;> simp [Instr.sliceBounds, Instr.sliceBound, asIntOf, b1, b2, *] <;> omega
  simp only [Instr.sliceAt, Instr.slice, es', Sem.run_bind, run_underlying hu, Result.andThen_ok, Option.map_none, hb, sizeOf, typeInfo, run_program, hinf, hsz, Sem.run_pure]
 ·intro cs hcs
  exact h3 cs (List.mem_of_mem_take (List.mem_of_mem_drop hcs))
 ·rcases h4 with h4 | ⟨b, off, rfl, h4⟩
  ·left; subst h4; simp
  ·by_cases hci : c = i
   ·left
    exact im (by rw [hlen]; omega)
   ·by_cases hlt : i < j
    ·right
     have hee : e' = e := by
      have hi0 : es[i]? = some es[i] := List.getElem?_eq_getElem (by omega)
      rw [← h3 _ (List.mem_of_getElem? hi0)]; exact he _ (List.mem_of_getElem? hi0)
     subst hee
     refine ⟨b, off + i * e', by rw [if_neg hci]; simp [kS], fun p q hp hq => ?_⟩
     rw [hlen] at hp
     have := h4 (i + p) q (by omega) hq
     rw [Nat.add_mul] at this
     rw [show off + i * e' + (p * e' + q) = off + (i * e' + p * e' + q) by omega]
     exact this
    ·left
     exact im (by rw [hlen]; omega)
 ·intro p cs q x hp hq
  refine h6 (i + p) cs q x ?_ hq
  rw [List.getElem?_drop] at hp
  have hpj : i + p < j := by have := (List.getElem?_eq_some_iff.1 hp).1; rw [br] at this; omega
  rw [List.getElem?_take_of_lt hpj] at hp
  exact hp
def Ey {T T' d : Nat} {x y : Operand} {ty : TypeId} {pos : String} {af : Array Edge} {g : Option (Nat × Bool)} {i j : Int} (hd : d < n) (hx : cg x (RV.int i)) (hy : cg y (RV.int j)) :
  Loc P n ⟨some d, .call { callee := .builtin .min, args := #[x, y], argTypes := #[T, T'] }, ty, pos, af, g⟩ ⟨bH x (RV.int i) ++ bH y (RV.int j), [], [(d, some (RV.int (min i j)))], [], none⟩ := by
 intro h0 w0 Fz0 σ a w K Q hc hr _ _ h5
 obtain ⟨φ, Fz, Fp, hc⟩ := hc
 have ex := hc.sc hr.left hx
 have ey := hc.sc hr.right hy
 refine dE (v := .int .i64 (min i j)) (w' := w) ?_ (h5 _ _ (hc.put0 hd (bQ.of_sc rfl)))
 unfold execOp
 have e : (if j < i then j else i) = min i j := by split <;> omega
 simp [resolve, invoke, builtin, ex, ey, Builtin.min_, Builtin.min2, e]
def fC : List (Bool × List PV) → av → World → List Value → Prop
 | [], _, _, vs => vs = []
 | p :: ps, Fz, w, vs => ∃ v vs', vs = v :: vs' ∧ rD p.1 p.2 Fz w v ∧ fC ps Fz w vs'
def aB (P : Program) (f : FuncId) (args : List (Bool × List PV)) (r : RV) : Prop :=
 ∀ (w : World) (vs : List Value) (Fz : av), (∀ b o, Fz b o → b < w.heap.size) → fC args Fz w vs → Calls P f vs.toArray w fun e w' => ∃ v Fz' F, e = .returned v ∧ Below w.heap.size w w' ∧
  (∀ b o, b < w.heap.size → (Fz' b o ↔ Fz b o)) ∧ (∀ b o, Fz' b o → b < w'.heap.size) ∧ (∀ φ, r.holds φ Fz' w' v F) ∧ F.Nodup ∧ ∀ b, b ∈ F → w.heap.size ≤ b ∧ b < w'.heap.size
def ax (P : Program) (f : FuncId) : Bool := match P.funcs[f]? with
 | some fn => !(fn.name == "runtime.NumGoroutine") && fn.body.isSome
 | none => false
def tr {f : FuncId} (h : ax P f = true) (args : Array Value) (w : World) : (callFunc f args).run P w = .ok (.enter f args) w := by
 unfold ax at h
 split at h
 ·rename_i fn hf
  rw [bq, Bool.not_eq_true'] at h
  simp only [callFunc, Sem.run_bind, run_program, Result.andThen_ok, hf]
  rw [if_neg (by rw [h.1]; simp), if_neg (by cases hb : fn.body <;> simp_all)]
  rfl
 ·cases h
def bD.relT (h : bD h0 w0 Fz0 n σ a w φ Fz Fp) : ∀ {xs : List Operand} {qs : List (Bool × List PV)}, bb (iM xs qs) σ.s → ky xs qs → fC qs Fz w (xs.map a.eval)
 | [], [], _, _ => rfl
 | [], _ :: _, _, hk => hk.elim
 | _ :: _, [], _, hk => hk.elim
 | x :: xs, q :: qs, hr, hk => by
  obtain ⟨F, hF⟩ := h.op hr.left hk.1
  exact ⟨_, _, rfl, ⟨hF.1, hF.2.rel⟩, h.relT hr.right hk.2⟩
def kC : List (Bool × List PV) → List (Bool × List PV) → Prop
 | [], [] => True
 | p :: ps, q :: qs => (p.1 = q.1 ∧ am p.2 q.2) ∧ kC ps qs
 | _, _ => False
def kC.rel : ∀ {ps qs : List (Bool × List PV)} {vs : List Value}, kC ps qs → fC ps Fz w vs → fC qs Fz w vs
 | [], [], _, _, h => h
 | p :: ps, q :: qs, _, k, h => by obtain ⟨v, vs', rfl, h1, h2⟩ := h; exact ⟨v, vs', rfl, ⟨by rw [← k.1.1]; exact h1.1, k.1.2.rel h1.2⟩, kC.rel k.2 h2⟩
def kC.refl : ∀ ps : List (Bool × List PV), kC ps ps
 | [] => True.intro
 | p :: ps => ⟨⟨rfl, am.refl _⟩, kC.refl ps⟩
def tt {f d : Nat} {args : Array Operand} {tys : Array TypeId} {ty : TypeId} {pos : String} {af : Array Edge} {g : Option (Nat × Bool)} {qs as_ : List (Bool × List PV)} {r : RV} (hd : d < n) (hf : ax P f = true) (hok : ky args.toList qs) (hto : kC qs as_) (hs : aB P f as_ r) :
  Loc P n ⟨some d, .call { callee := .value (.func f), args := args, argTypes := tys }, ty, pos, af, g⟩ ⟨iM args.toList qs, [], [(d, some r)], [], none⟩ := by
 intro h0 w0 Fz0 σ a w K Q hc hr _ _ h5
 obtain ⟨φ, Fz, Fp, hc⟩ := hc
 have hrel := hto.rel (hc.relT hr hok)
 have hrun : (execOp a.eval ⟨some d, .call { callee := .value (.func f), args := args, argTypes := tys }, ty, pos, af, g⟩).run P w = .ok (.enter f (args.toList.map a.eval).toArray) w := by
  unfold execOp
  have e : (#[] ++ args.map a.eval ++ #[] : Array Value) = (args.toList.map a.eval).toArray := by apply Array.ext'; simp
  simp only [resolve, Act.eval, Deferred.ofValue, Sem.run_bind, Sem.run_pure, Result.andThen_ok, invoke]
  rw [tr hf, e]
 unfold Oper.wp
 rw [hrun, Oper.upon_enter]
 refine (hs w _ Fz hc.fzl hrel).mono ?_
 rintro e w' ⟨v, Fz', F, rfl, hb, hz1, hz2, hv, hn, hF⟩
 refine h5 _ _ ?_
 have k := hc.world (w' := w') (Fz' := Fz') (X := F) hb.os hb.tape hb.output hb.size (fun b hb' _ => ⟨hb.block b hb', fun o ho => (hz1 b o hb').1 ho⟩)
  (fun b o ho => ⟨(hz1 b o (hc.fzl b o ho)).2 ho, World.cell?_of_block (hb.block b (hc.fzl b o ho))⟩) hz2 (fun b hb' => .inr (hF b hb')) hn
 exact ⟨φ, Fz', _, k.push (i := d) (rv := r) (v := v) (F := F) (X := []) hd (hv φ) (fun b hb => by simpa using hb) (by simpa using hn)⟩
def SW (P : Program) (n : Nat) (h0 : Nat → Prop) (w0 : World) (Fz0 : av) (c : Code) (σ : St) (Q : Exit → St → Prop) : Prop :=
 ∀ a w, bn h0 w0 Fz0 n σ a w → c.wp P (fun e a' w' => ∃ τ, Q e τ ∧ bn h0 w0 Fz0 n τ a' w') a w
def rH (N : St → Prop) (Q : Exit → St → Prop) : Exit → St → Prop
 | .normal, τ => N τ
 | e, τ => Q e τ
def Ez (id : Nat) (Q : Exit → St → Prop) : Exit → St → Prop
 | .exit id', τ => if id' = id then Q .normal τ else Q (.exit id') τ
 | e, τ => Q e τ
variable {Q : Exit → St → Prop} {x y c : Code}
def bf {id : Nat} {ops : Array Oper} (h : ar P n ops (fun τ => Q .normal τ) ops.toList σ) : SW P n h0 w0 Fz0 (.region id ops false) σ Q :=
 fun _ _ hc => QI hc h fun τ _ _ hq hc' => ⟨τ, hq, hc'⟩
def dw {id : Nat} {ops : Array Oper} (hm : P.follows .mixedOrders = true) (h : cb P n ops σ (fun _ _ => True) (fun τ => Q .normal τ) ops.toList [] σ) : SW P n h0 w0 Fz0 (.region id ops true) σ Q :=
 fun _ _ hc => QJ hm hc h fun τ _ _ hq hc' => ⟨τ, hq, hc'⟩
def aP (h : SW P n h0 w0 Fz0 x σ (rH (fun τ => SW P n h0 w0 Fz0 y τ Q) Q)) : SW P n h0 w0 Fz0 (.seq x y) σ Q := fun a w hc =>
 wp_seq (wp_mono (h a w hc) fun e a' w' ⟨τ, hq, hc'⟩ => by
  cases e with
  | normal => exact hq a' w' hc'
  | _ => exact ⟨τ, hq, hc'⟩)
def zd {t : Nat} {b : Bool} (ht : σ.s t = some (RV.bool b)) (h1 : b = true → SW P n h0 w0 Fz0 x σ Q) (h2 : b = false → SW P n h0 w0 Fz0 y σ Q) : SW P n h0 w0 Fz0 (.cond (.tmp t) x y) σ Q := fun a w hc => by
 obtain ⟨φ, Fz, Fp, h⟩ := hc
 refine wp_cond (t := b) (h.one_ ht).1 ?_
 cases b
 ·exact h2 rfl a w ⟨φ, Fz, Fp, h⟩
 ·exact h1 rfl a w ⟨φ, Fz, Fp, h⟩
def vu {id : Nat} (h : SW P n h0 w0 Fz0 c σ (Ez id Q)) : SW P n h0 w0 Fz0 (.block id c) σ Q := fun a w hc =>
 wp_block (wp_mono (h a w hc) fun e a' w' ⟨τ, hq, hc'⟩ => by
  cases e with
  | exit i =>
   simp only [Exit.inBlock, Ez] at hq ⊢
   split
   ·rename_i hi; rw [if_pos hi] at hq; exact ⟨τ, hq, hc'⟩
   ·rename_i hi; rw [if_neg hi] at hq; exact ⟨τ, hq, hc'⟩
  | _ => exact ⟨τ, hq, hc'⟩)
def bm (h : Q .normal σ) : SW P n h0 w0 Fz0 .skip σ Q := fun _ _ hc => wp_skip ⟨σ, h, hc⟩
def bG {id : Nat} (h : Q (.exit id) σ) : SW P n h0 w0 Fz0 (.exit id) σ Q := fun _ _ hc => wp_exit ⟨σ, h, hc⟩
def eo (h : Q .ret σ) : SW P n h0 w0 Fz0 .ret σ Q := fun _ _ hc => wp_ret ⟨σ, h, hc⟩
def bn.of {l : List (Nat × RV)} {b : List (Nat × (Nat × List PV))} (h : bn h0 w0 Fz0 n σ a w) (hl : bb l σ.s) (hb : bb b σ.b) : bn h0 w0 Fz0 n (St.of l b) a w :=
 h.less (fun i rv hi => hl.mem (i, rv) (go hi)) (fun d cs hd => hb.mem (d, cs) (go hd))
def Rk {l : List (Nat × RV)} {b : List (Nat × (Nat × List PV))} (hl : bb l σ.s) (hb : bb b σ.b) (h : SW P n h0 w0 Fz0 c (St.of l b) Q) : SW P n h0 w0 Fz0 c σ Q := fun a w hc => h a w (hc.of hl hb)
def bb.app {β : Type} {l m : List (Nat × β)} {f : Nat → Option β} (h : bb l f) (k : bb m f) : bb (l ++ m) f := bb.of_mem fun p hp => by
 rcases List.mem_append.1 hp with hp | hp
 ·exact h.mem p hp
 ·exact k.mem p hp
def Rl {ι : Type} (I : ι → Prop) {l0 : List (Nat × RV)} {b0 : List (Nat × (Nat × List PV))} (l : ι → List (Nat × RV)) (b : ι → List (Nat × (Nat × List PV))) (m : ι → Nat) (i0 : ι) (h0' : I i0) (hl0 : bb l0 σ.s) (hb0 : bb b0 σ.b) (hl : bb (l i0) σ.s) (hb : bb (b i0) σ.b)
  (round : ∀ i, I i → SW P n h0 w0 Fz0 c (St.of (l0 ++ l i) (b0 ++ b i)) (rH (fun τ => ∃ j, I j ∧ m j < m i ∧ (bb l0 τ.s ∧ bb b0 τ.b) ∧ bb (l j) τ.s ∧ bb (b j) τ.b) Q)) : SW P n h0 w0 Fz0 (.loop c) σ Q := fun a w hc => by
 refine wp_loop_ghost (fun k a w => ∃ i, I i ∧ m i = k ∧ bn h0 w0 Fz0 n (St.of (l0 ++ l i) (b0 ++ b i)) a w) (m i0) ⟨i0, h0', rfl, hc.of (hl0.app hl) (hb0.app hb)⟩ ?_
 rintro k a w ⟨i, hi, rfl, hc⟩
 refine wp_mono (round i hi a w hc) fun e a' w' ⟨τ, hq, hc'⟩ => ?_
 cases e with
 | normal =>
  obtain ⟨j, h1, h2, h3, h4, h5⟩ := hq
  exact ⟨m j, h2, j, h1, rfl, hc'.of (h3.1.app h4) (h3.2.app h5)⟩
 | _ => exact ⟨τ, hq, hc'⟩
def Rm {s : Nat} {o : Fl} {es : List (List PV)} (hs : σ.s s = some (RV.slc o es)) (h : es.length ≤ 9223372036854775807 → SW P n h0 w0 Fz0 c σ Q) : SW P n h0 w0 Fz0 c σ Q := fun a w hc => h (hc.lenle hs) a w hc
def pb (P : Program) : List ResultVar → List (Bool × List PV) → St → Prop
 | [], [], _ => True
 | .tmp t :: rs, q :: qs, τ => τ.s t = some (RV.sv q.1 q.2) ∧ pb P rs qs (τ.set t none)
 | .cell t T :: rs, q :: qs, τ => (∃ d ty, τ.s t = some (RV.ptr d 0) ∧ τ.b d = some (ty, q.2) ∧ bR P T = some (q.1, q.2.length) ∧ (q.1 = false → q.2.length = 1) ∧ pb P rs qs (τ.setB d none))
 | _, _, _ => False
def pc (t : Array Value) : ResultVar → Sem Value
 | .tmp x => pure (t.getD x undef)
 | .cell x T => do loadVar T (← asAddr (t.getD x undef))
def ze (fn : Func) (t : Array Value) : results fn t = (do let vs ← fn.results.mapM (pc t); pure (if h : vs.size = 1 then vs[0] else .tuple vs)) := by
 unfold results
 congr 1
def tu : ∀ (rs : List ResultVar) (qs : List (Bool × List PV)) {σ : St} {Fp : Nat → List Nat}, bD h0 w0 Fz0 n σ a w φ Fz Fp → pb P rs qs σ →
  ∃ vs F, Sem.run P (rs.mapM (pc a.tmps)) w = .ok vs w ∧ eD qs Fz w vs F ∧ F.Nodup ∧
   (∀ b, b ∈ F → ∃ r, r ≠ 0 ∧ b ∈ Fp r)
 | [], [], σ, Fp, _, _ => ⟨[], [], by simp, ⟨rfl, rfl⟩, List.nodup_nil, by simp⟩
 | .tmp t :: rs, q :: qs, σ, Fp, h, hr => by
  obtain ⟨h1, h2⟩ := hr
  have hv := h.slot t _ h1
  obtain ⟨vs, F, e1, e2, e3, e4⟩ := tu rs qs (h.pull t) h2
  refine ⟨a.tmps.getD t undef :: vs, Fp (2 * t + 1) ++ F, ?_, ⟨_, _, _, _, rfl, rfl, hv, e2⟩, ?_, fun b hb => ?_⟩
  ·rw [List.mapM_cons]
   simp only [pc, Sem.run_bind, Sem.run_pure, Result.andThen_ok, e1]
  ·rw [cm]
   refine ⟨h.nod _, e3, fun u hu y hy e => ?_⟩
   subst e
   obtain ⟨r, hr0, hr⟩ := e4 u hy
   rcases mD hr with ⟨e, _⟩ | ⟨hne, hr⟩
   ·exact hr0 e
   ·exact h.dis _ _ (fun e => hne e.symm) u hu hr
  ·rcases List.mem_append.1 hb with hb | hb
   ·exact ⟨_, by omega, hb⟩
   ·obtain ⟨r, hr0, hr⟩ := e4 b hb
    rcases mD hr with ⟨e, _⟩ | ⟨_, hr⟩
    ·exact absurd e hr0
    ·exact ⟨r, hr0, hr⟩
 | .cell t T :: rs, q :: qs, σ, Fp, h, hr => by
  obtain ⟨d, ty, h1, h2, h3, h4, h5⟩ := hr
  obtain ⟨ep, _⟩ := h.slot t _ h1
  obtain ⟨cur, hg, ho⟩ := h.box d _ h2
  have hlen := ho.len
  obtain ⟨v, k1, k2, k3⟩ := vp h3 w (φ d) 0 cur.toList hlen h4 (fun j u hu => by
   rw [cell_of_row w (φ d) _ cur ty (0, 0) hg, Nat.zero_add]; simpa using hu) ho.one
  obtain ⟨vs, F, e1, e2, e3, e4⟩ := tu rs qs (h.pullB h2) h5
  have e4' : ∀ b, b ∈ F → ∃ r, r ≠ 0 ∧ r ≠ 2 * d + 2 ∧ b ∈ Fp r := by
   intro b hb
   obtain ⟨r, hr0, hr⟩ := e4 b hb
   rw [if_neg hr0] at hr
   rcases mD hr with ⟨e, _⟩ | ⟨hne, hr⟩
   ·exact absurd e hr0
   ·exact ⟨r, hr0, hne, hr⟩
  refine ⟨v :: vs, Fp (2 * d + 2) ++ F, ?_, ⟨_, _, _, _, rfl, rfl, ⟨k2, by rw [k3]; exact ho⟩, e2⟩, ?_, fun b hb => ?_⟩
  ·rw [List.mapM_cons]
   simp only [pc, Sem.run_bind, ep, asAddr, Sem.run_pure, Result.andThen_ok, k1, e1]
  ·rw [cm]
   refine ⟨h.nod _, e3, fun u hu y hy e => ?_⟩
   subst e
   obtain ⟨r, hr0, hne, hr⟩ := e4' u hy
   exact h.dis _ _ (fun e => hne e.symm) u hu hr
  ·rcases List.mem_append.1 hb with hb | hb
   ·exact ⟨_, by omega, hb⟩
   ·obtain ⟨r, hr0, _, hr⟩ := e4' b hb
    exact ⟨r, hr0, hr⟩
 | [], _ :: _, _, _, _, hr => hr.elim
 | .tmp _ :: _, [], _, _, _, hr => hr.elim
 | .cell _ _ :: _, [], _, _, _, hr => hr.elim
def gN : Nat → List (Bool × List PV) → List (Nat × RV)
 | _, [] => []
 | k, q :: qs => (k, RV.sv q.1 q.2) :: gN (k + 1) qs
def aA : List (Bool × List PV) → RV
 | [q] => RV.sv q.1 q.2
 | qs => RV.tup qs
def tv (P : Program) (rs : List ResultVar) (qs : List (Bool × List PV)) : Exit → St → Prop
 | .normal, τ => pb P rs qs τ
 | .ret, τ => pb P rs qs τ
 | _, _ => False
def BorT.own : ∀ {qs : List (Bool × List PV)} {k : Nat} {vs : List Value} {i : Nat} {rv : RV}, (∀ q, q ∈ qs → an q.2) → fC qs Fz w vs → lk (gN k qs) i = some rv → ∃ j v, i = k + j ∧ j < vs.length ∧ vs[j]? = some v ∧ rv.holds φ Fz w v []
 | [], _, _, _, _, _, _, h => by cases h
 | q :: qs, k, vs, i, rv, hb, hr, h => by
  obtain ⟨v, vs', rfl, h1, h2⟩ := hr
  rw [gN, lk, beq_eq] at h
  by_cases hi : i = k
  ·rw [decide_eq_true hi] at h
   simp only [cond_true, Option.some.injEq] at h
   subst h
   exact ⟨0, v, by omega, by simp, rfl, ⟨h1.1, (hb q (by simp)).own h1.2⟩⟩
  ·rw [decide_eq_false hi] at h
   obtain ⟨j, u, e1, e2, e3, e4⟩ := BorT.own (k := k + 1) (fun x hx => hb x (by simp [hx])) h2 h
   exact ⟨j + 1, u, by omega, by simp; omega, by simpa using e3, e4⟩
def fC.len : ∀ {qs : List (Bool × List PV)} {vs : List Value}, fC qs Fz w vs → vs.length = qs.length
 | [], vs, h => by rw [show vs = [] from h]; rfl
 | q :: qs, vs, h => by obtain ⟨v, vs', rfl, _, h2⟩ := h; simp [fC.len h2]
def EA {f : FuncId} {fn : Func} {c : Code} {args rs : List (Bool × List PV)} (hf : P.funcs[f]? = some fn) (hb : fn.body = some c) (hn : args.length ≤ fn.ntmps) (hbor : ∀ q, q ∈ args → an q.2) (w : World) (Fz : av)
  (h : SW P fn.ntmps (fun b => b < w.heap.size) w Fz c (St.of (gN 0 args) []) (tv P fn.results.toList rs)) (vs : List Value) (hz : ∀ b o, Fz b o → b < w.heap.size) (hrel : fC args Fz w vs) : Calls P f vs.toArray w fun e w' => ∃ v Fz' F, e = .returned v ∧ Below w.heap.size w w' ∧
  (∀ b o, b < w.heap.size → (Fz' b o ↔ Fz b o)) ∧ (∀ b o, Fz' b o → b < w'.heap.size) ∧ (∀ φ, (aA rs).holds φ Fz' w' v F) ∧ F.Nodup ∧ ∀ b, b ∈ F → w.heap.size ≤ b ∧ b < w'.heap.size := by
 have hvl := hrel.len
 refine calls_of_wp hf hb ?_
 have hc : bn (fun b => b < w.heap.size) w Fz fn.ntmps (St.of (gN 0 args) []) { tmps := vs.toArray ++ Array.replicate (fn.ntmps - vs.toArray.size) undef, defers := [] } w := by
  refine ⟨fun _ => 0, Fz, fun _ => [], ⟨lH.refl _ _, rfl, by simp; omega, fun _ hb => hb, fun _ _ _ => Iff.rfl, hz, fun i rv hi => ?_, fun d cs hd => (by cases hd), fun d cs hd => (by cases hd), fun d d' cs cs' hd => (by cases hd), fun _ _ _ b hb => (by simp at hb), fun _ => List.nodup_nil, fun _ b hb => (by simp at hb)⟩⟩
  obtain ⟨j, v, e1, e2, e3, e4⟩ := BorT.own (φ := fun _ => 0) hbor hrel hi
  rw [Nat.zero_add] at e1
  subst e1
  have : (vs.toArray ++ Array.replicate (fn.ntmps - vs.toArray.size) undef).getD i undef = v := by
   rw [Array.getD_eq_getD_getElem?, Array.getElem?_append_left (by simpa using e2)]
   simp [e3]
  rw [this]; exact e4
 refine wp_mono (h _ w hc) fun e a' w' ⟨τ, hq, hc'⟩ => ?_
 obtain ⟨φ, Fz', Fp, hc'⟩ := hc'
 have hres : pb P fn.results.toList rs τ → a'.defers = [] ∧ ∃ v, (results fn a'.tmps).run P w' = .ok v w' ∧ ∃ v' Fz' F, Ending.returned v = .returned v' ∧ Below w.heap.size w w' ∧
   (∀ b o, b < w.heap.size → (Fz' b o ↔ Fz b o)) ∧ (∀ b o, Fz' b o → b < w'.heap.size) ∧ (∀ φ, (aA rs).holds φ Fz' w' v' F) ∧ F.Nodup ∧ ∀ b, b ∈ F → w.heap.size ≤ b ∧ b < w'.heap.size := by
  intro hr
  obtain ⟨vs', F, e1, e2, e3, e4⟩ := tu _ rs hc' hr
  have hF : ∀ b, b ∈ F → w.heap.size ≤ b ∧ b < w'.heap.size := fun b hb => by
   obtain ⟨r, _, hr⟩ := e4 b hb
   exact ⟨Nat.le_of_not_lt (hc'.low r b hr).1, (hc'.low r b hr).2⟩
  have hl := e2.len
  have erun : Sem.run P (fn.results.mapM (pc a'.tmps)) w' = .ok vs'.toArray w' := by
   rw [Array.mapM_eq_mapM_toList]
   simp only [map_eq_pure_bind, Sem.run_bind, e1, Result.andThen_ok, Sem.run_pure]
  refine ⟨hc'.dfr, ?_⟩
  rw [ze]
  simp only [Sem.run_bind, erun, Result.andThen_ok, Sem.run_pure]
  refine ⟨_, rfl, _, Fz', F, rfl, ⟨hc'.bel.os, hc'.bel.tape, hc'.bel.output, hc'.bel.size, hc'.bel.block⟩, hc'.fz0, hc'.fzl, fun φ => ?_, e3, hF⟩
  by_cases h1 : vs'.toArray.size = 1
  ·rw [dif_pos h1]
   have hl1 : rs.length = 1 := by rw [← hl]; simpa using h1
   obtain ⟨q, rfl⟩ := List.length_eq_one_iff.1 hl1
   obtain ⟨v, vs2, F1, F2, rfl, rfl, k1, k2, rfl⟩ := e2
   rw [eg]
   exact k1
  ·rw [dif_neg h1]
   have hne : rs.length ≠ 1 := fun e => h1 (by simp [hl, e])
   have : aA rs = RV.tup rs := by
    cases rs with
    | nil => rfl
    | cons q rs => cases rs with
     | nil => simp at hne
     | cons _ _ => rfl
   rw [this]
   exact ⟨vs'.toArray, rfl, by simpa using e2⟩
 cases e with
 | normal => exact hres hq
 | ret => exact hres hq
 | _ => exact hq.elim
def Rn {f : FuncId} {fn : Func} {c : Code} {args rs : List (Bool × List PV)} (hf : P.funcs[f]? = some fn) (hb : fn.body = some c) (hn : args.length ≤ fn.ntmps) (hbor : ∀ q, q ∈ args → an q.2)
  (h : ∀ (h0 : Nat → Prop) (w0 : World) (Fz0 : av), SW P fn.ntmps h0 w0 Fz0 c (St.of (gN 0 args) []) (tv P fn.results.toList rs)) : aB P f args (aA rs) :=
 fun w vs Fz hz hrel => EA hf hb hn hbor w Fz (h _ w Fz) vs hz hrel
def gZ {b c : Bool} (h : b = c) : some (RV.bool b) = some (RV.bool c) := by rw [h]
def bh {b c : Int} (h : b = c) : some (RV.int b) = some (RV.int c) := by rw [h]
def cG {o : Fl} {es ds : List (List PV)} (h : es = ds) : some (RV.slc o es) = some (RV.slc o ds) := by rw [h]
def PV.to_none {o : Fl} {es : List (List PV)} : (PV.sl o es).To (PV.sl .v es) := fun h => ⟨h.1, True.intro⟩
def Ro {α : Type} {xs : List α} {f : α → List PV} {k : Nat} (h : k < xs.length) : (xs.map f)[k]? = some (f xs[k]) := by simp [h]
def bc {α : Type} {xs : List α} {f : α → List PV} {k : Nat} {cs : List PV} (h : k < xs.length) (hc : f xs[k] = cs) : (xs.map f)[k]? = some cs := by rw [← hc]; exact Ro h
def aG {p : Nat → Prop} : ∀ d, (none : Option Nat) = some d → p d := fun _ h => nomatch h
def pd {p : Nat → Prop} {e : Nat} (h : p e) : ∀ d, some e = some d → p d := fun d hd => by injection hd with hd; exact hd ▸ h
def vv (args : List (Bool × List PV)) : Prop := ∀ q, q ∈ args → an q.2
def jR : vv [] := fun q hq => by simp at hq
def jS {p : Bool × List PV} {l : List (Bool × List PV)} (h : an p.2) (k : vv l) : vv (p :: l) := fun q hq => by
 rcases List.mem_cons.1 hq with rfl | hq
 ·exact h
 ·exact k q hq
def jo {Fz : av} {w : World} : aJ [] Fz w [] [] := ⟨rfl, rfl⟩
def cK {Fz : av} {w : World} {v : Value} {ps : List PV} {vs : List Value} (h : v.oneCell' = true) (k : aJ ps Fz w vs []) : aJ (PV.val v :: ps) Fz w (v :: vs) [] := ⟨v, vs, [], [], rfl, rfl, ⟨⟨rfl, h⟩, rfl⟩, k⟩
def eM {Fz : av} {w : World} {t e : Nat} {ps : List PV} {vs : List Value} (k : aJ ps Fz w vs []) : aJ (PV.sl (.own t e) [] :: ps) Fz w (.slice none 0 0 :: vs) [] :=
 ⟨_, vs, [], [], rfl, rfl, ⟨[], [], World.ownsRow_nil w 0 t e, ⟨rfl, rfl⟩, fun g hg => by simp [Value.ownBlock] at hg, by simp [Value.ownBlock], fun g hg => by simp [Value.ownBlock] at hg⟩, k⟩
end
end
section
section
variable {P : Program} {n : Nat} {ops : Array Oper} {h0 : Nat → Prop} {w0 : World} {Fz0 : av} {σ τ : St} {a : Act} {w : World} {φ : Nat → Nat} {Fz : av} {Fp : Nat → List Nat}
def RV.hdr (d m : Nat) (c : Nat := m) : RV where
 holds φ _ _ v F := (v = .slice (some ⟨φ d, 0, none⟩) m c ∧ m ≤ c ∧ c ≤ maxLen) ∧ F = []
 men x := Nat.beq x d
 mono h _ _ hφ := ⟨⟨by rw [hφ d (by simp)]; exact h.1.1, h.1.2⟩, h.2⟩
 lt h := by rw [h.2]; simp
def Cp.hdr {d m c : Nat} : Cp (RV.hdr d m c) (RV.hdr d m c) := fun h => ⟨h.1, rfl⟩
def fQ {α : Type} (xs : List α) (f : α → List PV) (z : List PV) (k : Nat) : List (List PV) := (xs.take k).map f ++ List.replicate (xs.length - k) z
def nB {α : Type} (xs : List α) (f : α → List PV) (z : List PV) : fQ xs f z 0 = List.replicate xs.length z := by simp [fQ]
def nC {α : Type} (xs : List α) (f : α → List PV) (z : List PV) : fQ xs f z xs.length = xs.map f := by simp [fQ]
def EB {α : Type} {xs : List α} {f : α → List PV} {z : List PV} {k : Nat} (hk : k ≤ xs.length) : (fQ xs f z k).length = xs.length := by simp [fQ]; omega
def EC {α : Type} {xs : List α} {f : α → List PV} {z : List PV} {k e : Nat} (hf : ∀ x, (f x).length = e) (hz : z.length = e) : ∀ cs, cs ∈ fQ xs f z k → cs.length = e := by
 intro cs hcs
 rcases List.mem_append.1 hcs with h | h
 ·obtain ⟨x, _, rfl⟩ := List.mem_map.1 h; exact hf x
 ·rw [(List.mem_replicate.1 h).2]; exact hz
def pe {e : Nat} : ∀ {es : List (List PV)}, (∀ cs, cs ∈ es → cs.length = e) → es.flatten.length = es.length * e
 | [], _ => by simp
 | c :: es, h => by rw [List.flatten_cons, aV, pe fun x hx => h x (by simp [hx]), h c (by simp), List.length_cons, Nat.succ_mul]; omega
def ED {e : Nat} : ∀ {es : List (List PV)} {k : Nat} {v : List PV}, (∀ cs, cs ∈ es → cs.length = e) → v.length = e → k < es.length → es.flatten.take (k * e) ++ (v ++ es.flatten.drop (k * e + e)) = (es.set k v).flatten
 | [], k, v, _, _, hk => by simp at hk
 | c :: es, 0, v, h, hv, _ => by
  have hc := h c (by simp)
  subst hc
  simp
 | c :: es, k + 1, v, h, hv, hk => by
  have hc := h c (by simp)
  have ih := ED (es := es) (k := k) (v := v) (fun x hx => h x (by simp [hx])) hv (by simpa using hk)
  rw [List.flatten_cons, List.set_cons_succ, List.flatten_cons, ← ih]
  rw [Nat.succ_mul, List.take_append, List.drop_append]
  rw [gB (by omega), List.drop_of_length_le (by omega), show k * e + e - c.length = k * e by omega, show k * e + e + e - c.length = k * e + e by omega]
  simp
def Rp {α : Type} {xs : List α} {f : α → List PV} {z : List PV} {k : Nat} (hk : k < xs.length) : (fQ xs f z k).set k (f xs[k]) = fQ xs f z (k + 1) := by
 unfold fQ
 rw [List.set_append_right _ _ (by simp; omega)]
 have e : k - ((xs.take k).map f).length = 0 := by simp; omega
 rw [e, show xs.length - k = (xs.length - (k + 1)) + 1 by omega, List.replicate_succ, List.set_cons_zero, cy hk, bT, bw]
 rfl
def nD {α : Type} {xs : List α} {f : α → List PV} {z : List PV} {k e : Nat} (hf : ∀ x, (f x).length = e) (hz : z.length = e) (hk : k < xs.length) :
  (fQ xs f z k).flatten.take (k * e) ++ (f xs[k] ++ (fQ xs f z k).flatten.drop (k * e + e)) = (fQ xs f z (k + 1)).flatten := by
 rw [ED (EC hf hz) (hf _) (by rw [EB (by omega)]; exact hk), Rp hk]
def nE {α : Type} {xs : List α} {f : α → List PV} {z : List PV} {k e : Nat} (hf : ∀ x, (f x).length = e) (hz : z.length = e) (hk : k < xs.length) : k * e + e ≤ (fQ xs f z k).flatten.length := by
 rw [pe (EC hf hz), EB (by omega), ← Nat.succ_mul]
 exact Nat.mul_le_mul_right _ hk
def EE (z : Array Value) : ∀ (m : Nat), (madeCells z (m * z.size)).toList = (List.replicate m z.toList).flatten
 | 0 => by simp [madeCells]
 | m + 1 => by
  have ih := EE z m
  rw [List.replicate_succ', List.flatten_append, ← ih]
  apply List.ext_getElem?
  intro j
  by_cases hz : z.size = 0
  ·simp [madeCells, hz]
  ·by_cases h1 : j < m * z.size
   ·rw [List.getElem?_append_left (by simp [madeCells]; exact h1)]
    have h2 : j < (m + 1) * z.size := by rw [Nat.succ_mul]; omega
    simp [madeCells, h1, h2]
   ·rw [List.getElem?_append_right (by simp [madeCells]; omega)]
    have hl : (madeCells z (m * z.size)).toList.length = m * z.size := by simp [madeCells]
    rw [hl]
    by_cases h2 : j < (m + 1) * z.size
    ·have h2' := h2
     rw [Nat.succ_mul] at h2'
     have hm : j % z.size = j - m * z.size := by
      have : j = z.size * m + (j - m * z.size) := by rw [Nat.mul_comm z.size m]; omega
      rw [this, Nat.mul_add_mod, Nat.mod_eq_of_lt (by omega)]
      rw [Nat.mul_comm z.size m]; omega
     have h3 : j - m * z.size < z.size := by omega
     simp [madeCells, h2, hm, h3]
    ·have h2' := h2
     rw [Nat.succ_mul] at h2'
     rw [List.getElem?_eq_none (by simp [madeCells]; omega), List.getElem?_eq_none (by simp; omega)]
def EF {zs : List PV} {vs : List Value} (h : aJ zs Fz w vs []) : ∀ m : Nat, aJ (List.replicate m zs).flatten Fz w (List.replicate m vs).flatten []
 | 0 => ⟨rfl, rfl⟩
 | m + 1 => by
  rw [List.replicate_succ, List.replicate_succ, List.flatten_cons, List.flatten_cons]
  exact h.append (EF h m)
def nF {T E e bs d m : Nat} {x y : Operand} {ty : TypeId} {pos : String} {af : Array Edge} {g : Option (Nat × Bool)} {q q2 : Int} {z : Value} {zs : List PV} (hd : d < n) (hT : cZ P T = some (E, e, bs)) (hz : eL P E = some z) (hz1 : z.cells.size = e)
  (hzs : ∀ {Fz : av} {w : World}, aJ zs Fz w z.cells.toList []) (hx : cg x (RV.int q)) (hy : cg y (RV.int q2)) (hq : q = (m : Int)) (hq2 : q2 = (m : Int)) (hm : m ≤ 9223372036854775807) (hb : bs * m ≤ 281474976710656) :
  Loc P n ⟨some d, .makeSlice T x y, ty, pos, af, g⟩ ⟨bH x (RV.int q) ++ bH y (RV.int q2), [], [(d, some (RV.hdr d m))], [(d, some (E, (List.replicate m zs).flatten))], some d⟩ := by
 intro h0 w0 Fz0 σ a w K Q hc hr _ h4 h5
 obtain ⟨φ, Fz, Fp, hc⟩ := hc
 subst hq
 subst hq2
 have ex := hc.sc hr.left hx
 have ey := hc.sc hr.right hy
 obtain ⟨hu, inf, hinf, hsz, hby⟩ := kR hT
 have hz' : inf.zero = some z := by
  unfold eL at hz
  rw [hinf, Option.bind_some] at hz; exact hz
 have hb' : (inf.bytes : Int) * (m : Int) ≤ 281474976710656 := by
  have h : ((inf.bytes * m : Nat) : Int) ≤ 281474976710656 := by rw [hby]; omega
  rwa [Int.natCast_mul] at h
 have hr2 := run_make (P := P) w T E inf z hu hinf hz' .i64 .i64 m m (by omega) (Int.le_refl _) hb' (by omega)
 simp only [Int.toNat_natCast, hsz] at hr2
 have k := (hc.drop d).new (madeCells z.cells (m * e)) E 0
 have k2 := k.pushB (d := d) (g := w.heap.size) (cs := (List.replicate m zs).flatten) (F := []) (X := Fp 0) (by rw [St.setB_b, if_pos rfl]) (heap_alloc_new w _)
  (by
   rw [← hz1, EE]
   exact EF hzs m)
  (fun o ho => by
   rcases ho with ho | ⟨_, ho⟩
   ·have := hc.fzl _ _ ho; omega
   ·omega)
  (fun b hb => hb) (by simpa using k.nod 0) (.inr (h4 d rfl))
 have k3 := k2.push (i := d) (rv := RV.hdr d m) (v := .slice (some ⟨w.heap.size, 0, none⟩) m m) (F := []) (X := Fp 0) hd ⟨⟨by simp, Nat.le_refl _, hm⟩, rfl⟩
  (by intro b hb; simp [cD] at hb ⊢; exact hb) (by simpa using hc.nod 0)
 refine dE (v := .slice (some ⟨w.heap.size, 0, none⟩) m m) (w' := w.alloc (.cells (madeCells z.cells (m * e)) E)) ?_ (h5 _ _ (bn.eqv ⟨_, _, _, k3⟩ (fun i => rfl) (fun e => ?_)))
 ·unfold execOp
  simp only [ex, ey, hr2, Sem.run_bind, Result.andThen_ok, Sem.run_pure]
 ·show bM [(d, some _)] σ.b e = _
  rw [St.set_b, St.setB_b, St.setB_b]
  simp only [bM, beq_eq]
  by_cases he : e = d <;> simp [he]
def nG {T E e bs d s b m c : Nat} {ty : TypeId} {pos : String} {af : Array Edge} {g : Option (Nat × Bool)} (hd : d < n) (hT : cZ P T = some (E, e, bs)) :
  Loc P n ⟨some d, .call { callee := .builtin .len, args := #[.tmp s], argTypes := #[T] }, ty, pos, af, g⟩ ⟨[(s, RV.hdr b m c)], [], [(d, some (RV.int (m : Int)))], [], none⟩ := by
 intro h0 w0 Fz0 σ a w K Q hc hr _ _ h5
 obtain ⟨φ, Fz, Fp, hc⟩ := hc
 obtain ⟨⟨ev, _⟩, _⟩ := hc.slot s _ hr.1
 obtain ⟨hu, _⟩ := kR hT
 refine dE (v := .int .i64 (m : Int)) (w' := w) ?_ (h5 _ _ (hc.put0 hd (bQ.of_sc rfl)))
 have es' : a.eval (.tmp s) = .slice (some ⟨φ b, 0, none⟩) m c := ev
 unfold execOp
 simp [resolve, invoke, builtin, es', Builtin.len_, run_underlying hu, goInt]
def dN {T E e bs d s b m c k : Nat} {i : Operand} {ty : TypeId} {pos : String} {af : Array Edge} {g : Option (Nat × Bool)} {q : Int} (hd : d < n) (hT : cZ P T = some (E, e, bs)) (hi : cg i (RV.int q)) (hq : q = (k : Int)) (hk : k < m) :
  Loc P n ⟨some d, .indexAddr T (.tmp s) i, ty, pos, af, g⟩ ⟨(s, RV.hdr b m c) :: bH i (RV.int q), [], [(d, some (RV.ptr b (k * e)))], [], none⟩ := by
 intro h0 w0 Fz0 σ a w K Q hc hr _ _ h5
 obtain ⟨φ, Fz, Fp, hc⟩ := hc
 subst hq
 have ei := hc.sc hr.2 hi
 obtain ⟨⟨ev, _⟩, _⟩ := hc.slot s _ hr.1
 obtain ⟨hu, inf, hinf, hsz, _⟩ := kR hT
 refine dE (v := .pointer (some ⟨φ b, k * e, none⟩)) (w' := w) ?_ (h5 _ _ (hc.put0 hd ⟨rfl, rfl⟩))
 unfold execOp
 have es' : a.eval (.tmp s) = .slice (some ⟨φ b, 0, none⟩) m c := ev
 have hlt' : (0 : Int) ≤ (k : Int) ∧ (k : Int) < (m : Int) := by omega
 simp only [es', ei, Instr.indexAt, asIntOf, Sem.run_bind, Sem.run_pure, Result.andThen_ok, run_underlying hu]
 simp [hlt', sizeOf, typeInfo, hinf, hsz, kS]
def bD.freeze {h0 : Nat → Prop} {w0 : World} {Fz0 : av} {σ : St} {a : Act} {w : World} {φ : Nat → Nat} {Fz : av} {Fp : Nat → List Nat} {s b m c E e : Nat} {es : List (List PV)} {jk : List Value} (hc : bD h0 w0 Fz0 n σ a w φ Fz Fp)
  (hb : σ.b b = some (E, es.flatten ++ jk.map PV.val)) (hmc : m ≤ c) (hmx : c ≤ maxLen) (hl : es.length = m) (he : ∀ c, c ∈ es → c.length = e) (hj : m * e + jk.length = c * e) :
  ∃ Fz' Fp', bD h0 w0 Fz0 n ((σ.setB b none).set s none) a w φ Fz' Fp' ∧ db E e es Fz' w (.slice (some ⟨φ b, 0, none⟩) m c) (φ b :: Fp (2 * b + 2)) ∧ (∀ x, x ∈ φ b :: Fp (2 * b + 2) → x ∈ Fp' 0) ∧ (φ b :: Fp (2 * b + 2)).Nodup ∧ Fp' (2 * s + 1) = [] := by
 obtain ⟨cur, hg, ho⟩ := hc.box b _ hb
 obtain ⟨k1, k2, k3⟩ := hc.bxb b _ hb
 have hlt : φ b < w.heap.size := (Array.getElem?_eq_some_iff.1 hg).1
 have c1 := hc.pullB hb
 have c2 := c1.pull s
 have hol : cur.size = c * e := by
  have : cur.toList.length = (es.flatten ++ jk.map PV.val).length := ho.len
  rw [aV, pe he, aq, hl, hj] at this
  simpa using this
 have hone := ho.one
 obtain ⟨v1, v2, G1, G2, hv12, hG12, o1, o2⟩ := ho.split
 have hl1 : v1.length = es.length * e := by rw [o1.len, pe he]
 have hG2 : G2 = [] := by
  have : ∀ (jk : List Value) (v2 : List Value) (G2 : List Nat), aJ (jk.map PV.val) Fz w v2 G2 → G2 = [] := by
   intro jk
   induction jk with
   | nil => intro v2 G2 h; exact h.2
   | cons j jk ih =>
    intro v2 G2 h
    obtain ⟨v, vs', F1, F2, _, rfl, h1, h2⟩ := h
    rw [ih _ _ h2, h1.2]; rfl
  exact this _ _ _ o2
 subst hG2
 rw [eg] at hG12
 generalize hF0 : (fun x => if x = 0 then φ b :: mv Fp (2 * b + 2) 0 else mv Fp (2 * b + 2) x) = Fp1 at c1 c2
 have e1 : Fp1 0 = φ b :: (Fp (2 * b + 2) ++ Fp 0) := by rw [← hF0]; simp [mv]
 have e2 : mv Fp1 (2 * s + 1) 0 = Fp1 (2 * s + 1) ++ Fp1 0 := by simp [mv]
 have hnd := c1.nod 0
 rw [e1] at hnd
 have hX : ∀ x, x ∈ φ b :: Fp (2 * b + 2) → x ∈ mv Fp1 (2 * s + 1) 0 := by
  intro x hx
  rw [e2, e1]
  rcases List.mem_cons.1 hx with rfl | hx
  ·simp
  ·simp [hx]
 have hndX : (φ b :: Fp (2 * b + 2)).Nodup := by
  rw [← List.cons_append] at hnd
  exact (List.nodup_append.1 hnd).1
 have hFin : ∀ x o, (Fz x o ∨ (x = φ b ∧ o < es.length * e)) → x < w.heap.size := by
  rintro x o (h | ⟨rfl, _⟩)
  ·exact hc.fzl x o h
  ·exact hlt
 have c3 := c2.world (w' := w) (Fz' := fun x o => Fz x o ∨ (x = φ b ∧ o < es.length * e)) (X := φ b :: Fp (2 * b + 2)) rfl rfl rfl (Nat.le_refl _)
  (fun x hx h0 => ⟨rfl, fun o ho => by
   rcases ho with ho | ⟨rfl, _⟩
   ·exact ho
   ·exact absurd (hX _ (by simp)) h0⟩) (fun x o hxo => ⟨.inl hxo, rfl⟩) (fun x o h => hFin x o h) (fun x hx => .inl (hX x hx)) hndX
 have hsl : db E e es (fun x o => Fz x o ∨ (x = φ b ∧ o < es.length * e)) w (.slice (some ⟨φ b, 0, none⟩) m c) (φ b :: Fp (2 * b + 2)) := by
  refine ⟨v1, Fp (2 * b + 2), ⟨hl1, .inr ⟨φ b, c, cur, by rw [hl], Nat.zero_le _, hg, by omega, hmx, hol, by rw [hv12, ← hl1]; exact List.take_left⟩⟩,
   (aJ.chunk he (by rw [hG12]; exact o1)).mono (fun x o h => ⟨.inl h, rfl⟩) (fun x hx => ⟨rfl, fun o ho => by
    rcases ho with ho | ⟨rfl, _⟩
    ·exact ho
    ·exact absurd hx (k3 _)⟩), ?_, by simp [Value.ownBlock], ?_⟩
  ·intro g hg' o
   simp [Value.ownBlock] at hg'
   subst hg'
   constructor
   ·rintro (h | ⟨_, h⟩)
    ·exact absurd h (k2 o)
    ·exact h
   ·intro h; exact .inr ⟨rfl, h⟩
  ·intro g hg' cur' t' o' hc' x hx
   simp [Value.ownBlock] at hg'
   subst hg'
   rw [hg] at hc'
   simp only [Option.some.injEq, Obj.cells.injEq] at hc'
   rw [← hc'.1] at hx
   exact hone x hx
 exact ⟨_, _, c3, hsl, fun x hx => by simpa using hx, hndX, by simp [mv]⟩
def Rq {op : Op} {d s b m c E e : Nat} {ty : TypeId} {pos : String} {af : Array Edge} {g : Option (Nat × Bool)} {cs : List PV} {es : List (List PV)} {jk : List Value} (hop : op = .move (.tmp s) ∨ op = .assign (.tmp s)) (hd : d < n) (hcs : cs = es.flatten ++ jk.map PV.val) (hl : es.length = m) (he : ∀ c, c ∈ es → c.length = e) (hj : m * e + jk.length = c * e) :
  Loc P n ⟨some d, op, ty, pos, af, g⟩ ⟨[(s, RV.hdr b m c)], [(b, (E, cs))], [(s, none), (d, some (RV.slc (.own E e) es))], [(b, none)], none⟩ := by
 intro h0 w0 Fz0 σ a w K Q hc hr hrb _ h5
 obtain ⟨φ, Fz, Fp, hc⟩ := hc
 subst hcs
 obtain ⟨⟨ev, hmc, hmx⟩, _⟩ := hc.slot s _ hr.1
 obtain ⟨Fz', Fp', c3, hsl, hX, hnd, _⟩ := hc.freeze (s := s) hrb.1 hmc hmx hl he hj
 have c4 := c3.push (i := d) (rv := RV.slc (.own E e) es) (v := .slice (some ⟨φ b, 0, none⟩) m c) (F := φ b :: Fp (2 * b + 2)) (X := []) hd (bQ.of_atom (p := PV.sl (.own E e) es) hsl)
  (fun x hx => hX x (by simpa using hx)) (by simpa using hnd)
 have ev' : a.eval (.tmp s) = .slice (some ⟨φ b, 0, none⟩) m c := ev
 refine dE (v := .slice (some ⟨φ b, 0, none⟩) m c) (w' := w) ?_ (h5 _ _ (bn.eqv ⟨_, _, _, c4⟩ (fun i => rfl) (fun x => rfl)))
 rw [vn hop, ev']
def nH {op : Op} {d s b m E e : Nat} {ty : TypeId} {pos : String} {af : Array Edge} {g : Option (Nat × Bool)} {cs : List PV} {es : List (List PV)} (hop : op = .move (.tmp s) ∨ op = .assign (.tmp s)) (hd : d < n) (hcs : cs = es.flatten) (hl : es.length = m) (he : ∀ c, c ∈ es → c.length = e) :
  Loc P n ⟨some d, op, ty, pos, af, g⟩ ⟨[(s, RV.hdr b m)], [(b, (E, cs))], [(s, none), (d, some (RV.slc (.own E e) es))], [(b, none)], none⟩ :=
 Rq (jk := []) hop hd (by simpa using hcs) hl he (by simp)
end
end
end Go.Proofs.YtmekkgdboplbjaaGreat.M
namespace Go.Proofs.YtmekkgdboplbjaaGreat.M
open Go Go.RowKit
def PV.nv (u : Value) (p : PV) : PV where
 rel Fz w v := v = u ∧ p.rel Fz w v
 own Fz w v F := v = u ∧ p.own Fz w v F
 one h := p.one h.2
 toRel h := ⟨h.1, p.toRel h.2⟩
 relMono h k := ⟨h.1, p.relMono h.2 k⟩
 ownMono h k hh := ⟨h.1, p.ownMono h.2 k hh⟩
 lt h := p.lt h.2
def PV.nv_val {u : Value} {p : PV} : (PV.nv u p).To (PV.val u) := fun h => ⟨h.1, by have := p.one h.2; rwa [h.1] at this⟩
def PV.nv_to {u : Value} {p q : PV} (h : p.To q) : (PV.nv u p).To q := fun k => h k.2
def PV.bor_nv {u : Value} {p : PV} (h : p.Bor) : (PV.nv u p).Bor := fun k => ⟨k.1, h k.2⟩
def Nm (ps : List PV) (us : List Value) : Prop := ∀ {Fz : av} {w : World} {vs : List Value}, bO ps Fz w vs → vs = us
def Nm.nil : Nm [] [] := fun h => h
def Nm.nv {u : Value} {p : PV} {ps : List PV} {us : List Value} (h : Nm ps us) : Nm (PV.nv u p :: ps) (u :: us) := fun hh => by
 obtain ⟨v, vs', rfl, h1, h2⟩ := hh
 rw [h1.1, h h2]
def Nm.val {u : Value} {ps : List PV} {us : List Value} (h : Nm ps us) : Nm (PV.val u :: ps) (u :: us) := fun hh => by
 obtain ⟨v, vs', rfl, h1, h2⟩ := hh
 rw [h1.1, h h2]
def pf : List Value → List PV → List PV
 | u :: us, p :: ps => PV.nv u p :: pf us ps
 | _, _ => []
def vw {Fz : av} {w : World} : ∀ {us : List Value} {ps : List PV} {F : List Nat}, aJ ps Fz w us F → aJ (pf us ps) Fz w us F
 | us, [], F, h => by obtain ⟨rfl, rfl⟩ := h; exact ⟨rfl, rfl⟩
 | us, p :: ps, F, h => by obtain ⟨v, vs', F1, F2, rfl, rfl, h1, h2⟩ := h; exact ⟨v, vs', F1, F2, rfl, rfl, ⟨rfl, h1⟩, vw h2⟩
def aN (ps qs : List PV) : Prop := ∀ {Fz : av} {w : World} {vs : List Value} {F : List Nat}, aJ ps Fz w vs F → aJ qs Fz w vs F
def aN.nil : aN [] [] := fun h => h
def aN.nv {u : Value} {p : PV} {ps qs : List PV} (h : aN ps qs) : aN (PV.nv u p :: ps) (p :: qs) := fun hh => by
 obtain ⟨v, vs', F1, F2, rfl, rfl, h1, h2⟩ := hh
 exact ⟨v, vs', F1, F2, rfl, rfl, h1.2, h h2⟩
def aN.same {p : PV} {ps qs : List PV} (h : aN ps qs) : aN (p :: ps) (p :: qs) := fun hh => by
 obtain ⟨v, vs', F1, F2, rfl, rfl, h1, h2⟩ := hh
 exact ⟨v, vs', F1, F2, rfl, rfl, h1, h h2⟩
def PV.ToB (L : Nat → Prop) (p q : PV) : Prop := ∀ {Fz : av} {w : World} {v : Value}, (∀ b o, Fz b o → L b) → p.rel Fz w v → q.rel Fz w v
def ab (L : Nat → Prop) : List PV → List PV → Prop
 | [], [] => True
 | p :: ps, q :: qs => p.ToB L q ∧ ab L ps qs
 | _, _ => False
def PV.tob_refl {L : Nat → Prop} {p : PV} : p.ToB L p := fun _ h => h
def ab.nil {L : Nat → Prop} : ab L [] [] := True.intro
def ab.cons {L : Nat → Prop} {p q : PV} {ps qs : List PV} (h : p.ToB L q) (k : ab L ps qs) : ab L (p :: ps) (q :: qs) := ⟨h, k⟩
def ab.len {L : Nat → Prop} : ∀ {ps qs : List PV}, ab L ps qs → ps.length = qs.length
 | [], [], _ => rfl
 | _ :: _, _ :: _, h => by simp [ab.len h.2]
def ab.rel {L : Nat → Prop} {Fz : av} {w : World} (hz : ∀ b o, Fz b o → L b) : ∀ {ps qs : List PV} {vs : List Value}, ab L ps qs → bO ps Fz w vs → bO qs Fz w vs
 | [], [], _, _, h => h
 | p :: ps, q :: qs, _, k, h => by obtain ⟨v, vs', rfl, h1, h2⟩ := h; exact ⟨v, vs', rfl, k.1 hz h1, ab.rel hz k.2 h2⟩
def ab.at_ {L : Nat → Prop} : ∀ {ps qs : List PV} {j : Nat} {q : PV}, ab L ps qs → qs[j]? = some q → ∃ p, ps[j]? = some p ∧ p.ToB L q
 | [], [], _, _, _, h => by simp at h
 | p :: ps, q' :: qs, 0, q, k, h => by simp at h; subst h; exact ⟨p, rfl, k.1⟩
 | p :: ps, q' :: qs, j + 1, q, k, h => by simp at h; simpa using ab.at_ k.2 h
def PV.tob_map {α : Type} {L : Nat → Prop} {o : Fl} {xs : List α} {f g : α → List PV} (hne : ∀ x, 0 < (f x).length) (h : ∀ x, ab L (f x) (g x)) : (PV.sl o (xs.map f)).ToB L (PV.sl (.lo L) (xs.map g)) := by
 intro Fz w v hz hr
 obtain ⟨⟨a, c, e, u, rfl, h1, h2, h3, h4, h5⟩, _⟩ := hr
 rw [aq] at *
 refine ⟨⟨a, c, e, u, by rw [aq], by rw [aq]; exact h1, h2, ?_, ?_, ?_⟩, ?_⟩
 ·intro cs hcs
  obtain ⟨x, hx, rfl⟩ := List.mem_map.1 hcs
  rw [← (h x).len]; exact h3 _ (List.mem_map.2 ⟨x, hx, rfl⟩)
 ·rcases h4 with h4 | ⟨b, off, ha, h4⟩
  ·left
   simpa using h4
  ·exact .inr ⟨b, off, ha, fun i j hi hj => h4 i j (by simpa using hi) hj⟩
 ·intro i cs' j q hi hj
  rw [List.getElem?_map] at hi
  cases hx : xs[i]? with
  | none => rw [hx] at hi; simp at hi
  | some x =>
   rw [hx] at hi; simp at hi; subst hi
   obtain ⟨p, hp, hto⟩ := (h x).at_ hj
   exact hto hz (h5 i (f x) j p (by rw [List.getElem?_map, hx]; rfl) hp)
 ·show _ ∨ _
  rw [aq]
  cases xs with
  | nil => exact .inl rfl
  | cons x xs =>
   right
   intro g hg
   rcases h4 with h4 | ⟨b, off, rfl, h4⟩
   ·simp at h4
   ·simp [Value.ownBlock] at hg
    subst hg
    have he : 0 < e := by rw [← h3 (f x) (by simp)]; exact hne x
    exact hz _ _ (h4 0 0 (by simp) he).1
def pg (L : Nat → Prop) : List (Bool × List PV) → List (Bool × List PV) → Prop
 | [], [] => True
 | p :: ps, q :: qs => (p.1 = q.1 ∧ ab L p.2 q.2) ∧ pg L ps qs
 | _, _ => False
def pg.rel {L : Nat → Prop} {Fz : av} {w : World} (hz : ∀ b o, Fz b o → L b) : ∀ {ps qs : List (Bool × List PV)} {vs : List Value}, pg L ps qs → fC ps Fz w vs → fC qs Fz w vs
 | [], [], _, _, h => h
 | p :: ps, q :: qs, _, k, h => by
  obtain ⟨v, vs', rfl, h1, h2⟩ := h
  exact ⟨v, vs', rfl, ⟨h1.1.trans k.1.1, k.1.2.rel hz h1.2⟩, pg.rel hz k.2 h2⟩
def pg.len {L : Nat → Prop} : ∀ {ps qs : List (Bool × List PV)}, pg L ps qs → ps.length = qs.length
 | [], [], _ => rfl
 | _ :: _, _ :: _, h => by simp [pg.len h.2]
def PV.Lcl (L : Nat → Prop) (p : PV) : Prop := ∀ {Fz Fz' : av} {w w' : World} {v : Value} {F : List Nat}, p.own Fz w v F → (∀ b, L b ∨ b ∈ F → w'.heap[b]? = w.heap[b]? ∧ ∀ o, Fz' b o ↔ Fz b o) → p.own Fz' w' v F
def PV.LclR (L : Nat → Prop) (p : PV) : Prop := ∀ {Fz Fz' : av} {w w' : World} {v : Value}, p.rel Fz w v → (∀ b, L b → w'.heap[b]? = w.heap[b]? ∧ ∀ o, Fz' b o ↔ Fz b o) → p.rel Fz' w' v
def ai (L : Nat → Prop) (ps : List PV) : Prop := ∀ p, p ∈ ps → p.Lcl L
def iO (L : Nat → Prop) (ps : List PV) : Prop := ∀ p, p ∈ ps → p.LclR L
def RV.Lcl (L : Nat → Prop) (r : RV) : Prop := ∀ {φ : Nat → Nat} {Fz Fz' : av} {w w' : World} {v : Value} {F : List Nat}, r.holds φ Fz w v F → (∀ b, L b ∨ b ∈ F → w'.heap[b]? = w.heap[b]? ∧ ∀ o, Fz' b o ↔ Fz b o) → r.holds φ Fz' w' v F
def PV.lcl_val {L : Nat → Prop} {x : Value} : (PV.val x).Lcl L := fun h _ => h
def PV.lclr_val {L : Nat → Prop} {x : Value} : (PV.val x).LclR L := fun h _ => h
def PV.lcl_nv {L : Nat → Prop} {u : Value} {p : PV} (h : p.Lcl L) : (PV.nv u p).Lcl L := fun k hk => ⟨k.1, h k.2 hk⟩
def ai.nil {L : Nat → Prop} : ai L [] := fun p hp => by simp at hp
def ai.cons {L : Nat → Prop} {p : PV} {ps : List PV} (h : p.Lcl L) (k : ai L ps) : ai L (p :: ps) := fun q hq => by
 rcases List.mem_cons.1 hq with rfl | hq
 ·exact h
 ·exact k q hq
def ai.app {L : Nat → Prop} {ps qs : List PV} (h : ai L ps) (k : ai L qs) : ai L (ps ++ qs) := fun q hq => by
 rcases List.mem_append.1 hq with hq | hq
 ·exact h q hq
 ·exact k q hq
def ai.flat {L : Nat → Prop} {es : List (List PV)} (h : ∀ cs, cs ∈ es → ai L cs) : ai L es.flatten := fun q hq => by
 obtain ⟨cs, h1, h2⟩ := List.mem_flatten.1 hq
 exact h cs h1 q h2
def ai.map {L : Nat → Prop} {α : Type} {xs : List α} {f : α → List PV} (h : ∀ x, ai L (f x)) : ∀ cs, cs ∈ xs.map f → ai L cs := fun cs hcs => by
 obtain ⟨x, _, rfl⟩ := List.mem_map.1 hcs
 exact h x
def ai.vals {L : Nat → Prop} {xs : List Value} : ai L (xs.map PV.val) := fun p hp => by
 obtain ⟨x, _, rfl⟩ := List.mem_map.1 hp
 exact PV.lcl_val
def iO.nil {L : Nat → Prop} : iO L [] := fun p hp => by simp at hp
def iO.cons {L : Nat → Prop} {p : PV} {ps : List PV} (h : p.LclR L) (k : iO L ps) : iO L (p :: ps) := fun q hq => by
 rcases List.mem_cons.1 hq with rfl | hq
 ·exact h
 ·exact k q hq
def iO.map {L : Nat → Prop} {α : Type} {xs : List α} {f : α → List PV} (h : ∀ x, iO L (f x)) : ∀ cs, cs ∈ xs.map f → iO L cs := fun cs hcs => by
 obtain ⟨x, _, rfl⟩ := List.mem_map.1 hcs
 exact h x
def ai.own {L : Nat → Prop} {Fz Fz' : av} {w w' : World} : ∀ {ps : List PV} {vs : List Value} {F : List Nat}, ai L ps → aJ ps Fz w vs F → (∀ b, L b ∨ b ∈ F → w'.heap[b]? = w.heap[b]? ∧ ∀ o, Fz' b o ↔ Fz b o) → aJ ps Fz' w' vs F
 | [], _, _, _, h, _ => h
 | p :: ps, vs, F, hl, h, hk => by
  obtain ⟨v, vs', F1, F2, rfl, rfl, h1, h2⟩ := h
  exact ⟨v, vs', F1, F2, rfl, rfl, hl p (by simp) h1 (fun b hb => hk b (by rcases hb with hb | hb <;> simp [hb])),
   ai.own (fun q hq => hl q (by simp [hq])) h2 fun b hb => hk b (by rcases hb with hb | hb <;> simp [hb])⟩
def vz {L : Nat → Prop} {e : Nat} {Fz Fz' : av} {w w' : World} : ∀ {es : List (List PV)} {vs : List Value} {F : List Nat}, (∀ cs, cs ∈ es → ai L cs) → cc e es Fz w vs F → (∀ b, L b ∨ b ∈ F → w'.heap[b]? = w.heap[b]? ∧ ∀ o, Fz' b o ↔ Fz b o) → cc e es Fz' w' vs F
 | [], _, _, _, h, _ => h
 | cs :: es, vs, F, hl, h, hk => by
  obtain ⟨c, d, F1, F2, rfl, rfl, h0, h1, h2⟩ := h
  exact ⟨c, d, F1, F2, rfl, rfl, h0, (hl cs (by simp)).own h1 (fun b hb => hk b (by rcases hb with hb | hb <;> simp [hb])),
   vz (fun q hq => hl q (by simp [hq])) h2 fun b hb => hk b (by rcases hb with hb | hb <;> simp [hb])⟩
def PV.lcl_own {L : Nat → Prop} {t e : Nat} {es : List (List PV)} (h : ∀ cs, cs ∈ es → ai L cs) : (PV.sl (.own t e) es).Lcl L := by
 intro Fz Fz' w w' v F hh hk
 obtain ⟨css, F', ho, hl, hf, rfl, h1⟩ := hh
 refine ⟨css, F', ⟨ho.1, ?_⟩, vz h hl (fun b hb => hk b (by rcases hb with hb | hb <;> simp [hb])), ?_, rfl, ?_⟩
 ·rcases ho.2 with hn | ⟨g, cap, cur, rfl, hb, hg, rest⟩
  ·exact .inl hn
  ·exact .inr ⟨g, cap, cur, rfl, hb, (hk g (by simp [Value.ownBlock])).1.trans hg, rest⟩
 ·intro g hg o
  rw [(hk g (by simp [hg])).2 o]; exact hf g hg o
 ·intro g hg cur t' o hc
  rw [(hk g (by simp [hg])).1] at hc
  exact h1 g hg cur t' o hc
def PV.lclr_lo {L : Nat → Prop} {es : List (List PV)} (h : ∀ cs, cs ∈ es → iO L cs) : (PV.sl (.lo L) es).LclR L := by
 intro Fz Fz' w w' v hh hk
 obtain ⟨⟨a, c, e, u, rfl, h1, h2, h3, h4, h5⟩, hlo⟩ := hh
 refine ⟨⟨a, c, e, u, rfl, h1, h2, h3, ?_, fun i cs j p hi hj => h cs (List.mem_of_getElem? hi) p (List.mem_of_getElem? hj) (h5 i cs j p hi hj) hk⟩, hlo⟩
 rcases h4 with h4 | ⟨b, off, rfl, h4⟩
 ·exact .inl h4
 ·rcases hlo with hlo | hlo
  ·exact .inl (im hlo)
  ·refine .inr ⟨b, off, rfl, fun i j hi hj => ?_⟩
   have hbl := hk b (hlo b rfl)
   exact ⟨(hbl.2 _).2 (h4 i j hi hj).1, (World.cell?_of_block hbl.1).trans (h4 i j hi hj).2⟩
def PV.lcl_lo {L : Nat → Prop} {es : List (List PV)} (h : ∀ cs, cs ∈ es → iO L cs) : (PV.sl (.lo L) es).Lcl L := fun hh hk => ⟨PV.lclr_lo h hh.1 fun b hb => hk b (.inl hb), hh.2⟩
def RV.lcl_sv {L : Nat → Prop} {ag : Bool} {cs : List PV} (h : ai L cs) : (RV.sv ag cs).Lcl L := fun hh hk => ⟨hh.1, h.own hh.2 hk⟩
def RV.lcl_ptr {L : Nat → Prop} {d off : Nat} : (RV.ptr d off).Lcl L := fun hh _ => hh
def RV.lcl_hdr {L : Nat → Prop} {d m c : Nat} : (RV.hdr d m c).Lcl L := fun hh _ => hh
end Go.Proofs.YtmekkgdboplbjaaGreat.M
namespace Go.Proofs.YtmekkgdboplbjaaGreat.M
open Go Go.RowKit
section
section
variable {P : Program} {n : Nat} {h0 : Nat → Prop} {w0 : World} {Fz0 : av} {σ : St} {Q : Exit → St → Prop} {c : Code}
def Rr {o : Fl} {es : List (List PV)} {Fz : av} {w : World} {v : Value} (h : (PV.sl o es).rel Fz w v) : es.length ≤ 9223372036854775807 := by
 obtain ⟨⟨a, c, e, u, _, h1, h2, _⟩, _⟩ := h
 unfold maxLen at h2
 omega
def Rs {s j : Nat} {ag : Bool} {cs : List PV} {o : Fl} {es : List (List PV)} (hs : σ.s s = some (RV.sv ag cs)) (hj : cs[j]? = some (PV.sl o es)) (h : es.length ≤ 9223372036854775807 → SW P n h0 w0 Fz0 c σ Q) : SW P n h0 w0 Fz0 c σ Q := fun a w hc => by
 have hc' := hc
 obtain ⟨φ, Fz, Fp, k⟩ := hc'
 obtain ⟨v, _, hr⟩ := (k.slot s _ hs).2.rel.at_ hj
 exact h (Rr hr) a w hc
end
end
end Go.Proofs.YtmekkgdboplbjaaGreat.M
namespace Go.Proofs.YtmekkgdboplbjaaGreat.M
open Go Go.RowKit
section
section
variable {P : Program} {n : Nat} {h0 : Nat → Prop} {w0 : World} {Fz0 : av}
section
variable {σ : St} {a : Act} {w w' : World} {φ : Nat → Nat} {Fz Fz' : av} {Fp : Nat → List Nat} {L : Nat → Prop}
def bD.uworld (h : bD h0 w0 Fz0 n σ a w φ Fz Fp) (hos : w'.os = w.os) (htape : w'.tape = w.tape) (hout : w'.output = w.output) (hsz : w.heap.size ≤ w'.heap.size)
  (hb : ∀ b, b < w.heap.size → b ∉ Fp 0 → w'.heap[b]? = w.heap[b]? ∧ ∀ o, Fz' b o ↔ Fz b o) (hL : ∀ b, L b → h0 b) (hls : ∀ i rv, σ.s i = some rv → rv.Lcl L) (hlb : ∀ d bx, σ.b d = some bx → ai L bx.2)
  (hl : ∀ b o, Fz' b o → b < w'.heap.size) {X : List Nat} (hX : ∀ b, b ∈ X → b ∈ Fp 0 ∨ (w.heap.size ≤ b ∧ b < w'.heap.size)) (hn : X.Nodup) :
  bD h0 w0 Fz0 n σ a w' φ Fz' (fun x => if x = 0 then X else Fp x) := by
 have key : ∀ r, r ≠ 0 → ∀ b, L b ∨ b ∈ Fp r → w'.heap[b]? = w.heap[b]? ∧ ∀ o, Fz' b o ↔ Fz b o := fun r hr b hbr => by
  rcases hbr with hbr | hbr
  ·exact hb b (h.hlt b (hL b hbr)) fun hm => (h.low 0 b hm).1 (hL b hbr)
  ·exact hb b (h.low r b hbr).2 (h.dis r 0 hr b hbr)
 have hmem : ∀ x b, b ∈ (if x = 0 then X else Fp x) → (x = 0 ∧ b ∈ X) ∨ (x ≠ 0 ∧ b ∈ Fp x) := by
  intro x b hb
  split at hb
  ·rename_i hx; exact .inl ⟨hx, hb⟩
  ·rename_i hx; exact .inr ⟨hx, hb⟩
 refine ⟨h.bel.trans ⟨hos, htape, hout, hsz, fun k hk' => (hb k (h.hlt k hk') fun hm => (h.low 0 k hm).1 hk').1⟩, h.dfr, h.siz, fun b hb' => Nat.lt_of_lt_of_le (h.hlt b hb') hsz, ?_, hl, ?_, ?_, ?_, h.inj, ?_, ?_, ?_⟩
 ·intro b o hbl
  rw [← h.fz0 b o hbl]
  exact (hb b (h.hlt b hbl) fun hm => (h.low 0 b hm).1 hbl).2 o
 ·intro i rv hi
  rw [if_neg (by omega)]
  exact hls i rv hi (h.slot i rv hi) (key _ (by omega))
 ·intro d cs hd
  obtain ⟨cur, h1, h2⟩ := h.box d cs hd
  obtain ⟨k1, k2, k3⟩ := h.bxb d cs hd
  have hlt : φ d < w.heap.size := (Array.getElem?_eq_some_iff.1 h1).1
  rw [if_neg (by omega)]
  exact ⟨cur, (hb _ hlt (k3 0)).1.trans h1, (hlb d cs hd).own h2 (key _ (by omega))⟩
 ·intro d cs hd
  obtain ⟨cur, h1, h2⟩ := h.box d cs hd
  obtain ⟨k1, k2, k3⟩ := h.bxb d cs hd
  have hlt : φ d < w.heap.size := (Array.getElem?_eq_some_iff.1 h1).1
  refine ⟨k1, fun o ho => k2 o (((hb _ hlt (k3 0)).2 o).1 ho), fun r hr => ?_⟩
  rcases hmem _ _ hr with ⟨rfl, hr⟩ | ⟨_, hr⟩
  ·rcases hX _ hr with hr | hr
   ·exact k3 0 hr
   ·omega
  ·exact k3 r hr
 ·intro r r' hne b hr hr'
  rcases hmem _ _ hr with ⟨rfl, hr⟩ | ⟨e1, hr⟩ <;> rcases hmem _ _ hr' with ⟨rfl, hr'⟩ | ⟨e2, hr'⟩
  ·exact hne rfl
  ·rcases hX _ hr with hr | hr
   ·exact h.dis 0 r' hne b hr hr'
   ·have := (h.low r' b hr').2; omega
  ·rcases hX _ hr' with hr' | hr'
   ·exact h.dis r 0 hne b hr hr'
   ·have := (h.low r b hr).2; omega
  ·exact h.dis r r' hne b hr hr'
 ·intro r
  split
  ·exact hn
  ·exact h.nod r
 ·intro r b hr
  rcases hmem _ _ hr with ⟨rfl, hr⟩ | ⟨e1, hr⟩
  ·rcases hX _ hr with hr | hr
   ·exact ⟨(h.low 0 b hr).1, by have := (h.low 0 b hr).2; omega⟩
   ·exact ⟨fun hh => by have := h.hlt b hh; omega, hr.2⟩
  ·exact ⟨(h.low r b hr).1, by have := (h.low r b hr).2; omega⟩
def bD.reslot (h : bD h0 w0 Fz0 n σ a w φ Fz Fp) {s : Nat} {rv : RV} (hv : rv.holds φ Fz w (a.tmps.getD s undef) (Fp (2 * s + 1))) : bD h0 w0 Fz0 n (σ.set s (some rv)) a w φ Fz Fp :=
 { h with
  slot := fun i r hi => by
   rw [St.set_s] at hi
   split at hi
   ·rename_i hs; subst hs; injection hi with hi; subst hi; exact hv
   ·exact h.slot i r hi
  box := fun d bx hd => h.box d bx hd
  bxb := fun d bx hd => h.bxb d bx hd
  inj := fun d d' cs cs' h1 h2 => h.inj d d' cs cs' h1 h2 }
def bD.rebox (h : bD h0 w0 Fz0 n σ a w φ Fz Fp) {d t : Nat} {cs cs' : List PV} (hd : σ.b d = some (t, cs)) (hv : ∀ (cur : Array Value), aJ cs Fz w cur.toList (Fp (2 * d + 2)) → w.heap[φ d]? = some (.cells cur t (0, 0)) → aJ cs' Fz w cur.toList (Fp (2 * d + 2))) :
  bD h0 w0 Fz0 n (σ.setB d (some (t, cs'))) a w φ Fz Fp :=
 { h with
  slot := fun i r hi => h.slot i r hi
  box := fun e bx he => by
   rw [St.setB_b] at he
   split at he
   ·rename_i hs; subst hs; injection he with he; subst he
    obtain ⟨cur, h1, h2⟩ := h.box _ _ hd
    exact ⟨cur, h1, hv cur h2 h1⟩
   ·exact h.box e bx he
  bxb := fun e bx he => by
   rw [St.setB_b] at he
   split at he
   ·rename_i hs; subst hs; exact h.bxb _ _ hd
   ·exact h.bxb e bx he
  inj := fun e e' cs1 cs2 h1 h2 => by
   rw [St.setB_b] at h1 h2
   have f : ∀ x y, (if x = d then some (t, cs') else σ.b x) = some y → ∃ z, σ.b x = some z := by
    intro x y hx
    split at hx
    ·rename_i hs; subst hs; exact ⟨_, hd⟩
    ·exact ⟨y, hx⟩
   obtain ⟨z1, f1⟩ := f _ _ h1
   obtain ⟨z2, f2⟩ := f _ _ h2
   exact h.inj e e' z1 z2 f1 f2 }
end
section
variable {σ : St} {Q : Exit → St → Prop} {c : Code}
def Rt {s : Nat} {ag : Bool} {cs : List PV} (hs : σ.s s = some (RV.sv ag cs)) (h : ∀ us : List Value, us.length = cs.length → SW P n h0 w0 Fz0 c (σ.set s (some (RV.sv ag (pf us cs)))) Q) : SW P n h0 w0 Fz0 c σ Q := fun a w hc => by
 obtain ⟨φ, Fz, Fp, hc⟩ := hc
 have hv := hc.slot s _ hs
 refine h (a.tmps.getD s undef).cells.toList hv.2.len a w ⟨φ, Fz, Fp, hc.reslot ⟨hv.1, vw hv.2⟩⟩
def tw {Fz : av} {w : World} {A ms B : List PV} {vs : List Value} {F : List Nat} (h : aJ (A ++ (ms ++ B)) Fz w vs F) : ∃ vA vM vB FA FM FB, vs = vA ++ (vM ++ vB) ∧ F = FA ++ (FM ++ FB) ∧ aJ A Fz w vA FA ∧ aJ ms Fz w vM FM ∧ aJ B Fz w vB FB := by
 obtain ⟨v1, v2, F1, F2, rfl, rfl, k1, k2⟩ := aJ.split h
 obtain ⟨v3, v4, F3, F4, rfl, rfl, k3, k4⟩ := aJ.split k2
 exact ⟨_, _, _, _, _, _, rfl, rfl, k1, k3, k4⟩
def nI {d t : Nat} {A ms B : List PV} (hd : σ.b d = some (t, A ++ (ms ++ B))) (h : ∀ us : List Value, us.length = ms.length → SW P n h0 w0 Fz0 c (σ.setB d (some (t, A ++ (pf us ms ++ B)))) Q) : SW P n h0 w0 Fz0 c σ Q := fun a w hc => by
 obtain ⟨φ, Fz, Fp, hc⟩ := hc
 obtain ⟨cur, h1, h2⟩ := hc.box d _ hd
 obtain ⟨vA, vM, vB, FA, FM, FB, e1, e2, kA, kM, kB⟩ := tw h2
 refine h vM kM.len a w ⟨φ, Fz, Fp, hc.rebox hd fun cur' h2' h1' => ?_⟩
 rw [h1] at h1'
 injection h1' with h1'
 injection h1' with h1'
 subst h1'
 rw [e1, e2]
 exact kA.append ((vw kM).append kB)
def bV {d t : Nat} {cs cs' : List PV} (hd : σ.b d = some (t, cs)) (he : cs = cs') (h : SW P n h0 w0 Fz0 c (σ.setB d (some (t, cs'))) Q) : SW P n h0 w0 Fz0 c σ Q := fun a w hc => by
 obtain ⟨φ, Fz, Fp, hc⟩ := hc
 exact h a w ⟨φ, Fz, Fp, hc.rebox hd fun _ k _ => he ▸ k⟩
def qd (L : Nat → Prop) (s : Nat) : List (Nat × RV) → Prop
 | [] => True
 | p :: l => (p.1 = s ∨ p.2.Lcl L) ∧ qd L s l
def nJ (L : Nat → Prop) (d : Nat) : List (Nat × (Nat × List PV)) → Prop
 | [] => True
 | p :: l => (p.1 = d ∨ ai L p.2.2) ∧ nJ L d l
def qd.mem {L : Nat → Prop} {s : Nat} : ∀ {l : List (Nat × RV)}, qd L s l → ∀ p, p ∈ l → p.1 = s ∨ p.2.Lcl L
 | [], _, p, hp => by simp at hp
 | q :: l, h, p, hp => by
  rcases List.mem_cons.1 hp with rfl | hp
  ·exact h.1
  ·exact qd.mem h.2 p hp
def nJ.mem {L : Nat → Prop} {s : Nat} : ∀ {l : List (Nat × (Nat × List PV))}, nJ L s l → ∀ p, p ∈ l → p.1 = s ∨ ai L p.2.2
 | [], _, p, hp => by simp at hp
 | q :: l, h, p, hp => by
  rcases List.mem_cons.1 hp with rfl | hp
  ·exact h.1
  ·exact nJ.mem h.2 p hp
def RV.nm (u : Value) (r : RV) : RV where
 holds φ Fz w v F := v = u ∧ r.holds φ Fz w v F
 men := r.men
 mono h k hh hφ := ⟨h.1, r.mono h.2 k hh hφ⟩
 lt h := r.lt h.2
def RV.lcl_nm {L : Nat → Prop} {u : Value} {r : RV} (h : r.Lcl L) : (RV.nm u r).Lcl L := fun hh hk => ⟨hh.1, h hh.2 hk⟩
def Cp.nm {u : Value} {r r' : RV} (h : Cp r r') : Cp (RV.nm u r) r' := fun k => h k.2
def cc.flat {e : Nat} {Fz : av} {w : World} : ∀ {es : List (List PV)} {vs : List Value} {F : List Nat}, cc e es Fz w vs F → aJ es.flatten Fz w vs F
 | [], _, _, h => h
 | cs :: es, vs, F, h => by
  obtain ⟨c, d, F1, F2, rfl, rfl, h0, h1, h2⟩ := h
  exact h1.append (cc.flat h2)
def nK {l : List (Nat × RV)} {b : List (Nat × (Nat × List PV))} {L : Nat → Prop} {s D E e : Nat} {u : Value} {es : List (List PV)} (hs : lk l s = some (RV.sv false [PV.nv u (PV.sl (.own E e) es)])) (hne : es ≠ []) (hD : lk b D = none) (hfr : (l.all fun p => !p.2.men D) = true)
  (hL : ∀ x, L x → h0 x) (hls : qd L s l) (hlb : nJ L D b) (hes : ∀ cs, cs ∈ es → ai L cs)
  (h : ∀ (cp : Nat) (jk : List Value), es.length ≤ 9223372036854775807 → es.length ≤ cp → es.length * e + jk.length = cp * e → SW P n h0 w0 Fz0 c (((St.of l b).set s (some (RV.nm u (RV.hdr D es.length cp)))).setB D (some (E, es.flatten ++ jk.map PV.val))) Q) : SW P n h0 w0 Fz0 c (St.of l b) Q := fun a w hc => by
 obtain ⟨φ, Fz, Fp, hc⟩ := hc
 have hv := (bQ.atom (hc.slot s _ hs))
 obtain ⟨hu, css, F', ho, hl, hf, hF, h1⟩ := hv
 rcases ho.2 with ⟨_, hn⟩ | ⟨g, cap, cur, hval, _, hg, hnc, hcm, hcs, htake⟩
 ·exact absurd (im hn) hne
 have hob : (a.tmps.getD s undef).ownBlock = some g := by rw [hval]; rfl
 rw [hob] at hF hf
 have hF : Fp (2 * s + 1) = g :: F' := hF
 have hgl := hc.low (2 * s + 1) g (by rw [hF]; simp)
 have c1 := hc.pull s
 have e0 : mv Fp (2 * s + 1) 0 = g :: F' ++ Fp 0 := by simp [mv, hF]
 have hnd := c1.nod 0
 rw [e0] at hnd
 have c2 := c1.uworld (w' := w) (Fz' := fun x o => Fz x o ∧ x ≠ g) (L := L) rfl rfl rfl (Nat.le_refl _)
  (fun x hx h0' => ⟨rfl, fun o => ⟨fun k => k.1, fun k => ⟨k, fun e => h0' (by rw [e0, e]; simp)⟩⟩⟩) hL
  (fun i rv hi => by
   rw [St.set_s] at hi
   split at hi
   ·cases hi
   ·rename_i hne'
    rcases hls.mem _ (go hi) with e | k
    ·exact absurd e hne'
    ·exact k)
  (fun d bx hd => by
   rcases hlb.mem _ (go hd) with e | k
   ·have e : d = D := e
    rw [e] at hd
    have hd' : lk b D = some bx := hd
    rw [hD] at hd'; cases hd'
   ·exact k)
  (fun x o k => hc.fzl x o k.1) (X := mv Fp (2 * s + 1) 0) (fun x hx => .inl hx) (c1.nod 0)
 have hgF : g ∉ F' := by
  have := (List.nodup_append.1 hnd).1
  exact (List.nodup_cons.1 this).1
 have hl2 : cc e es (fun x o => Fz x o ∧ x ≠ g) w css F' := vz (L := L) hes hl (fun x hx => ⟨rfl, fun o => ⟨fun k => k.1, fun k => ⟨k, fun e => by
   rcases hx with hx | hx
   ·exact hgl.1 (e ▸ hL x hx)
   ·rw [e] at hx; exact hgF hx⟩⟩⟩)
 have hone := h1 g hob cur E (0, 0) hg
 have hcl : css.length = es.length * e := hl.len
 have hjl : es.length * e + (cur.toList.drop (es.length * e)).length = cap * e := by
  have hle : es.length * e ≤ cap * e := Nat.mul_le_mul_right _ hnc
  rw [gm, show cur.toList.length = cap * e from by rw [← hcs]; simp]; omega
 have hcur : aJ (es.flatten ++ (cur.toList.drop (es.length * e)).map PV.val) (fun x o => Fz x o ∧ x ≠ g) w cur.toList F' := by
  have k := (cc.flat hl2).append (rF (Fz := fun x o => Fz x o ∧ x ≠ g) (w := w) (vs := cur.toList.drop (es.length * e)) fun v hv => hone v (List.mem_of_mem_drop hv))
  rw [← htake, fc, eg] at k
  exact k
 have c3 := c2.pushB (d := D) (g := g) (t := E) (cs := es.flatten ++ (cur.toList.drop (es.length * e)).map PV.val) (F := F') (X := Fp 0) hD hg hcur (fun o k => k.2 rfl)
  (fun x hx => by
   simp only [if_true]
   rw [e0]
   rcases List.mem_append.1 hx with hx | hx
   ·simp [hx]
   ·rcases List.mem_cons.1 hx with rfl | hx
    ·simp
    ·simp [hx])
  (by
   simp only [List.cons_append, gk, dM] at hnd
   rw [cm] at hnd ⊢
   obtain ⟨k1, k2, k3, k4⟩ := hnd
   refine ⟨k2, List.nodup_cons.2 ⟨fun hh => k1 (.inr hh), k3⟩, fun x hx y hy e => ?_⟩
   rcases List.mem_cons.1 hy with rfl | hy
   ·exact k1 (.inl (e ▸ hx))
   ·exact k4 x hx y hy e)
  (.inr fun i rv hi => by
   rw [St.set_s] at hi
   split at hi
   ·cases hi
   ·have := List.all_eq_true.1 hfr _ (go hi)
    simpa using this)
 have c4 := c3.reslot (s := s) (rv := RV.nm u (RV.hdr D es.length cap)) ⟨hu, ⟨by rw [hval]; simp, hnc, hcm⟩, by simp only [cD, mv]; rw [if_neg (by omega), if_neg (by omega), if_neg (by omega), if_neg (by omega), if_pos True.intro]⟩
 exact h cap _ (by unfold maxLen at hcm; omega) hnc hjl a w (bn.eqv ⟨_, _, _, c4⟩ (fun i => by
  simp only [St.set_s, St.setB_s]
  split <;> rfl) (fun d => rfl))
def ph {s D E e m cp : Nat} {u : Value} {es : List (List PV)} {jk : List Value} (hs : σ.s s = some (RV.nm u (RV.hdr D m cp))) (hb : σ.b D = some (E, es.flatten ++ jk.map PV.val)) (hl : es.length = m) (he : ∀ c, c ∈ es → c.length = e) (hj : m * e + jk.length = cp * e)
  (h : SW P n h0 w0 Fz0 c ((σ.setB D none).set s (some (RV.sv false [PV.nv u (PV.sl (.own E e) es)]))) Q) : SW P n h0 w0 Fz0 c σ Q := fun a w hc => by
 obtain ⟨φ, Fz, Fp, hc⟩ := hc
 obtain ⟨hu, ⟨ev, hmc, hmx⟩, _⟩ := hc.slot s _ hs
 obtain ⟨Fz', Fp', c3, hsl, hX, hnd, hs0⟩ := hc.freeze (s := s) hb hmc hmx hl he hj
 have hself : a.put (some s) (a.tmps.getD s undef) = a := by
  have : a.tmps.setIfInBounds s (a.tmps.getD s undef) = a.tmps := by
   apply Array.ext_getElem?
   intro i
   by_cases hi : s = i
   ·subst hi
    by_cases hlt : s < a.tmps.size
    ·rw [Array.getElem?_setIfInBounds_self_of_lt hlt, Array.getD_eq_getD_getElem?, Array.getElem?_eq_getElem hlt]; rfl
    ·rw [Array.setIfInBounds_eq_of_size_le (by omega)]
   ·rw [Array.getElem?_setIfInBounds_ne hi]
  show Act.mk (a.tmps.setIfInBounds s (a.tmps.getD s undef)) a.defers = a
  rw [this]
 have hsn : s < n := by
  rcases Nat.lt_or_ge s n with h | h
  ·exact h
  ·exfalso
   rw [Array.getD_eq_getD_getElem?, Array.getElem?_eq_none (by rw [hc.siz]; exact h)] at ev
   simp [undef] at ev
 have c4 := c3.push (i := s) (rv := RV.sv false [PV.nv u (PV.sl (.own E e) es)]) (v := a.tmps.getD s undef) (F := φ D :: Fp (2 * D + 2)) (X := []) hsn
  (bQ.of_atom (p := PV.nv u (PV.sl (.own E e) es)) ⟨hu, by rw [ev]; exact hsl⟩) (fun x hx => hX x (by simpa using hx)) (by simpa using hnd)
 rw [hself] at c4
 exact h a w (bn.eqv ⟨_, _, _, c4⟩ (fun i => by simp only [St.set_s]; split <;> rfl) (fun d => rfl))
end
def jp (P : Program) (f : FuncId) (ag : Bool) (qs qs' : List PV) (args : List (Bool × List PV)) (r : Value) : Prop :=
 ∀ (w : World) (v : Value) (vs : List Value) (Fz : av) (F : List Nat), (∀ b o, Fz b o → b < w.heap.size) → bQ ag qs Fz w v F → F.Nodup → fC args Fz w vs →
  Calls P f (v :: vs).toArray w fun e w' => ∃ (Fz' : av) (F' : List Nat), e = .returned r ∧ w'.os = w.os ∧ w'.tape = w.tape ∧ w'.output = w.output ∧ w.heap.size ≤ w'.heap.size ∧
   (∀ b, b < w.heap.size → b ∉ F → w'.heap[b]? = w.heap[b]? ∧ ∀ o, Fz' b o ↔ Fz b o) ∧ (∀ b o, Fz' b o → b < w'.heap.size) ∧ bQ ag qs' Fz' w' v F' ∧ F'.Nodup ∧
   ∀ b, b ∈ F' → b ∈ F ∨ (w.heap.size ≤ b ∧ b < w'.heap.size)
def Ru : List ResultVar → Value → St → Prop
 | [], r, _ => r = .tuple #[]
 | [.tmp t], r, τ => τ.s t = some (RV.sc r)
 | _, _, _ => False
def zg (rs : List ResultVar) (us : List Value) (ag : Bool) (qs' : List PV) (r : Value) (τ : St) : Prop :=
 Ru rs r τ ∧ ∃ ms, (τ.s 0 = some (RV.sv ag ms) ∨ ∃ d T, τ.b d = some (T, ms)) ∧ Nm ms us ∧ aN ms qs'
def Rv (rs : List ResultVar) (us : List Value) (ag : Bool) (qs' : List PV) (r : Value) : Exit → St → Prop
 | .normal, τ => zg rs us ag qs' r τ
 | .ret, τ => zg rs us ag qs' r τ
 | _, _ => False
def lK {f : FuncId} {fn : Func} {c : Code} {ag : Bool} {qs qs' : List PV} {args : List (Bool × List PV)} {r : Value} (hf : P.funcs[f]? = some fn) (hb : fn.body = some c) (hn : args.length + 1 ≤ fn.ntmps) (hbor : ∀ q, q ∈ args → an q.2)
  (h : ∀ (us : List Value) (h0 : Nat → Prop) (w0 : World) (Fz0 : av), us.length = qs.length → SW P fn.ntmps h0 w0 Fz0 c (St.of ((0, RV.sv ag (pf us qs)) :: gN 1 args) []) (Rv fn.results.toList us ag qs' r)) : jp P f ag qs qs' args r := by
 intro w v vs Fz F hz hown hnd hrel
 have hvl := hrel.len
 refine calls_of_wp hf hb ?_
 have hFlt : ∀ b, b ∈ F → b < w.heap.size := fun b hb => hown.2.lt b hb
 have hc : bn (fun b => b < w.heap.size ∧ b ∉ F) w Fz fn.ntmps (St.of ((0, RV.sv ag (pf v.cells.toList qs)) :: gN 1 args) []) { tmps := (v :: vs).toArray ++ Array.replicate (fn.ntmps - (v :: vs).toArray.size) undef, defers := [] } w := by
  refine ⟨fun _ => 0, Fz, fun x => if x = 1 then F else [], ⟨lH.refl _ _, rfl, by simp; omega, fun _ hb => hb.1, fun _ _ _ => Iff.rfl, hz, fun i rv hi => ?_, fun d cs hd => (by cases hd), fun d cs hd => (by cases hd), fun d d' cs cs' hd => (by cases hd), ?_, ?_, ?_⟩⟩
  ·by_cases hi0 : i = 0
   ·subst hi0
    have hi' : RV.sv ag (pf v.cells.toList qs) = rv := by injection hi
    subst hi'
    have : ((v :: vs).toArray ++ Array.replicate (fn.ntmps - (v :: vs).toArray.size) undef).getD 0 undef = v := by
     rw [Array.getD_eq_getD_getElem?, Array.getElem?_append_left (by simp)]
     simp
    rw [this]
    exact ⟨hown.1, vw hown.2⟩
   ·have hi' : lk (gN 1 args) i = some rv := by
     have : (bif Nat.beq i 0 then some (RV.sv ag (pf v.cells.toList qs)) else lk (gN 1 args) i) = some rv := hi
     rw [beq_eq] at this
     simpa [hi0] using this
    obtain ⟨j, u, e1, e2, e3, e4⟩ := BorT.own (φ := fun _ => 0) hbor hrel hi'
    subst e1
    have : ((v :: vs).toArray ++ Array.replicate (fn.ntmps - (v :: vs).toArray.size) undef).getD (1 + j) undef = u := by
     rw [Array.getD_eq_getD_getElem?, Array.getElem?_append_left (by simp; omega)]
     rw [Nat.add_comm]
     simp [e3]
    rw [this, if_neg (by omega)]; exact e4
  ·intro x y hxy b hbx hby
   split at hbx
   ·split at hby
    ·omega
    ·simp at hby
   ·simp at hbx
  ·intro x
   split
   ·exact hnd
   ·exact List.nodup_nil
  ·intro x b hbx
   split at hbx
   ·exact ⟨fun k => k.2 hbx, hFlt b hbx⟩
   ·simp at hbx
 refine wp_mono (h v.cells.toList _ w Fz hown.2.len _ w hc) fun e a' w' ⟨τ, hq, hc'⟩ => ?_
 obtain ⟨φ, Fz', Fp, hc'⟩ := hc'
 have hres : zg fn.results.toList v.cells.toList ag qs' r τ → a'.defers = [] ∧ ∃ v2, (results fn a'.tmps).run P w' = .ok v2 w' ∧ ∃ (Fz' : av) (F' : List Nat), Ending.returned v2 = .returned r ∧ w'.os = w.os ∧ w'.tape = w.tape ∧ w'.output = w.output ∧ w.heap.size ≤ w'.heap.size ∧
   (∀ b, b < w.heap.size → b ∉ F → w'.heap[b]? = w.heap[b]? ∧ ∀ o, Fz' b o ↔ Fz b o) ∧ (∀ b o, Fz' b o → b < w'.heap.size) ∧ bQ ag qs' Fz' w' v F' ∧ F'.Nodup ∧
   ∀ b, b ∈ F' → b ∈ F ∨ (w.heap.size ≤ b ∧ b < w'.heap.size) := by
  rintro ⟨hout, ms, hms, hnm, hto⟩
  refine ⟨hc'.dfr, r, ?_, ?_⟩
  ·rw [ze, Array.mapM_eq_mapM_toList]
   revert hout
   generalize fn.results.toList = rs
   intro hout
   match rs, hout with
   | [], hout => simp only [show r = .tuple #[] from hout]; simp
   | [.tmp t], hout =>
    have := (bQ.sc (hc'.slot t _ hout)).1
    simp [pc, this]
  ·have hlow : ∀ {x b}, b ∈ Fp x → b ∈ F ∨ (w.heap.size ≤ b ∧ b < w'.heap.size) := fun {x b} hx => by
    have := hc'.low x b hx
    by_cases hbF : b ∈ F
    ·exact .inl hbF
    ·exact .inr ⟨Nat.le_of_not_lt fun hlt => this.1 ⟨hlt, hbF⟩, this.2⟩
   have common : ∀ (x : Nat) (ws : List Value), aJ ms Fz' w' ws (Fp x) → ∃ (Fz' : av) (F' : List Nat), Ending.returned r = .returned r ∧ w'.os = w.os ∧ w'.tape = w.tape ∧ w'.output = w.output ∧ w.heap.size ≤ w'.heap.size ∧
     (∀ b, b < w.heap.size → b ∉ F → w'.heap[b]? = w.heap[b]? ∧ ∀ o, Fz' b o ↔ Fz b o) ∧ (∀ b o, Fz' b o → b < w'.heap.size) ∧ bQ ag qs' Fz' w' v F' ∧ F'.Nodup ∧
     ∀ b, b ∈ F' → b ∈ F ∨ (w.heap.size ≤ b ∧ b < w'.heap.size) := fun x ws hw => by
    have e := hnm hw.rel
    subst e
    exact ⟨Fz', Fp x, rfl, hc'.bel.os, hc'.bel.tape, hc'.bel.output, hc'.bel.size, fun b h1 h2 => ⟨hc'.bel.block b ⟨h1, h2⟩, fun o => hc'.fz0 b o ⟨h1, h2⟩⟩, hc'.fzl, ⟨hown.1, hto hw⟩, hc'.nod x, fun b hb => hlow hb⟩
   rcases hms with hms | ⟨d, T, hms⟩
   ·exact common _ _ (hc'.slot 0 _ hms).2
   ·obtain ⟨cur, _, ho⟩ := hc'.box d _ hms
    exact common _ _ ho
 cases e with
 | normal => exact hres hq
 | ret => exact hres hq
 | _ => exact hq.elim
end
end
section
section
variable {P : Program} {n : Nat} {h0 : Nat → Prop} {w0 : World} {Fz0 : av} {ops : Array Oper} {σ : St} {Q : Exit → St → Prop}
def gO (P : Program) (n : Nat) (h0 : Nat → Prop) (w0 : World) (Fz0 : av) (ops : Array Oper) (l : List Oper) (σ : St) (Q : Exit → St → Prop) : Prop :=
 ∀ a w, bn h0 w0 Fz0 n σ a w → wpList P ops (fun e a' w' => ∃ τ, Q e τ ∧ bn h0 w0 Fz0 n τ a' w') l a w
def dO (h : Q .normal σ) : gO P n h0 w0 Fz0 ops [] σ Q := fun a w hc => ⟨σ, h, hc⟩
def aO {o : Oper} {l : List Oper} {L : aF} (h1 : bb L.rs σ.s) (h2 : bb L.rb σ.b) (hl : ay P n ops o L) (h3 : ∀ d, L.al = some d → cS d σ) (h5 : gO P n h0 w0 Fz0 ops l (σ.app L) Q) : gO P n h0 w0 Fz0 ops (o :: l) σ Q := fun a w hc => by
 have k := hl (K := wpList P ops (fun e a' w' => ∃ τ, Q e τ ∧ bn h0 w0 Fz0 n τ a' w') l) (Q := fun e a' w' => ∃ τ, Q e τ ∧ bn h0 w0 Fz0 n τ a' w') hc h1 h2 h3 (fun a' w' hc' => h5 a' w' hc')
 unfold wpList
 split
 ·rename_i hw; rw [if_pos hw] at k; exact .inl k
 ·rename_i hw; rw [if_neg hw] at k; exact k
def jq {id : Nat} (h : gO P n h0 w0 Fz0 ops ops.toList σ Q) : SW P n h0 w0 Fz0 (.region id ops false) σ Q := fun a w hc => wp_region_list (h a w hc)
def ff {l : List (Nat × RV)} {b : List (Nat × (Nat × List PV))} {ol : List Oper} (hl : bb l σ.s) (hb : bb b σ.b) (h : gO P n h0 w0 Fz0 ops ol (St.of l b) Q) : gO P n h0 w0 Fz0 ops ol σ Q := fun a w hc => h a w (hc.of hl hb)
def zh {a : Act} {s : Nat} : a.put (some s) (a.tmps.getD s undef) = a := by
 have : a.tmps.setIfInBounds s (a.tmps.getD s undef) = a.tmps := by
  apply Array.ext_getElem?
  intro i
  by_cases hi : s = i
  ·subst hi
   by_cases hlt : s < a.tmps.size
   ·rw [Array.getElem?_setIfInBounds_self_of_lt hlt, Array.getD_eq_getD_getElem?, Array.getElem?_eq_getElem hlt]; rfl
   ·rw [Array.setIfInBounds_eq_of_size_le (by omega)]
  ·rw [Array.getElem?_setIfInBounds_ne hi]
 show Act.mk (a.tmps.setIfInBounds s (a.tmps.getD s undef)) a.defers = a
 rw [this]
def bA (us : List Value) (qs ms : List PV) : Prop := ∀ {Fz : av} {w : World} {F : List Nat}, aJ qs Fz w us F → aJ ms Fz w us F
def bA.nil : bA [] [] [] := fun h => h
def bA.nv {u : Value} {us : List Value} {p : PV} {qs ms : List PV} (h : bA us qs ms) : bA (u :: us) (p :: qs) (PV.nv u p :: ms) := fun hh => by
 obtain ⟨v, vs', F1, F2, e, rfl, h1, h2⟩ := hh
 injection e with e1 e2
 subst e1 e2
 exact ⟨_, _, F1, F2, rfl, rfl, ⟨rfl, h1⟩, h h2⟩
def qe (L : Nat → Prop) : List (Nat × (Nat × List PV)) → Prop
 | [] => True
 | p :: l => ai L p.2.2 ∧ qe L l
def qe.mem {L : Nat → Prop} : ∀ {l : List (Nat × (Nat × List PV))}, qe L l → ∀ p, p ∈ l → ai L p.2.2
 | [], _, p, hp => by simp at hp
 | q :: l, h, p, hp => by
  rcases List.mem_cons.1 hp with rfl | hp
  ·exact h.1
  ·exact qe.mem h.2 p hp
def kT (L : Nat → Prop) (l : List (Nat × RV)) : Prop := ∀ p, p ∈ l → p.2.Lcl L
def kT.nil {L : Nat → Prop} : kT L [] := fun p hp => by simp at hp
def kT.cons {L : Nat → Prop} {p : Nat × RV} {l : List (Nat × RV)} (h : p.2.Lcl L) (k : kT L l) : kT L (p :: l) := fun q hq => by
 rcases List.mem_cons.1 hq with rfl | hq
 ·exact h
 ·exact k q hq
def EG {f d t : Nat} {xs : List Operand} {args : Array Operand} {tys : Array TypeId} {ty : TypeId} {pos : String} {af : Array Edge} {a : Act} {w : World} (hf : ax P f = true) (he : args.toList = .tmp t :: xs) :
  (execOp a.eval ⟨some d, .call { callee := .value (.func f), args := args, argTypes := tys }, ty, pos, af, none⟩).run P w = .ok (.enter f (a.tmps.getD t undef :: xs.map a.eval).toArray) w := by
 unfold execOp
 have e : (#[] ++ args.map a.eval ++ #[] : Array Value) = (a.tmps.getD t undef :: xs.map a.eval).toArray := by
  apply Array.ext'
  simp only [Array.toList_append, Array.toList_map, he, List.map_cons, eg, List.nil_append]
  rfl
 simp only [resolve, Act.eval, Deferred.ofValue, Sem.run_bind, Sem.run_pure, Result.andThen_ok, invoke]
 rw [tr hf, e]
def Rw {f d t s : Nat} {L : Nat → Prop} {xs : List Operand} {args : Array Operand} {tys : Array TypeId} {ty : TypeId} {pos : String} {af : Array Edge} {ol : List Oper} {ag : Bool} {l : List (Nat × RV)} {b : List (Nat × (Nat × List PV))} {us : List Value} {qs qs' ps ms ms' : List PV} {qr as_ : List (Bool × List PV)} {r : Value}
  (hd : d < n) (hf : ax P f = true) (he : args.toList = .tmp t :: xs) (ht : lk l t = some (RV.sv ag ps)) (hps : Nm ps us) (hrd : bb (iM xs qr) (lk l)) (hok : ky xs qr) (hto : kC qr as_)
  (hs : lk l s = some (RV.sv ag ms)) (hms : Nm ms us) (h1 : aN ms qs) (hu : jp P f ag qs qs' as_ r) (h2 : bA us qs' ms') (hL : ∀ x, L x → h0 x) (hls : qd L s l) (hlb : qe L b) (hr1 : r.oneCell' = true) (hsd : s < n)
  (h : gO P n h0 w0 Fz0 ops ol (((St.of l b).set s (some (RV.sv ag ms'))).set d (some (RV.sc r))) Q) :
  gO P n h0 w0 Fz0 ops (⟨some d, .call { callee := .value (.func f), args := args, argTypes := tys }, ty, pos, af, none⟩ :: ol) (St.of l b) Q := fun a w hc => by
 obtain ⟨φ, Fz, Fp, hc⟩ := hc
 have hvt := (hc.slot t _ ht)
 have hvs := (hc.slot s _ hs)
 have e1 : (a.tmps.getD t undef).cells.toList = us := hps hvt.2.rel
 have e2 : (a.tmps.getD s undef).cells.toList = us := hms hvs.2.rel
 have hown : bQ ag qs Fz w (a.tmps.getD t undef) (Fp (2 * s + 1)) := ⟨hvt.1, by rw [e1, ← e2]; exact h1 hvs.2⟩
 have hrel := hto.rel (hc.relT (xs := xs) hrd hok)
 refine wpList_plain rfl fun K hK => ?_
 unfold Oper.wp
 rw [EG hf he, Oper.upon_enter]
 refine (hu w _ _ Fz _ hc.fzl hown (hc.nod _) hrel).mono ?_
 rintro e w' ⟨Fz', F', rfl, k1, k2, k3, k4, k5, k6, k7, k8, k9⟩
 have c1 := hc.pull s
 have e0 : mv Fp (2 * s + 1) 0 = Fp (2 * s + 1) ++ Fp 0 := by simp [mv]
 have hnd := c1.nod 0
 rw [e0] at hnd
 have hlow0 : ∀ x, x ∈ Fp 0 → x < w.heap.size := fun x hx => (hc.low 0 x hx).2
 have hndX : (F' ++ Fp 0).Nodup := by
  rw [cm] at hnd ⊢
  refine ⟨k8, hnd.2.1, fun x hx y hy e => ?_⟩
  rcases k9 x hx with hx | hx
  ·exact hnd.2.2 x hx y hy e
  ·have := hlow0 y hy; omega
 have c2 := c1.uworld (w' := w') (Fz' := Fz') (L := L) k1 k2 k3 k4 (fun x hx hx0 => k5 x hx fun hh => hx0 (by rw [e0]; simp [hh])) hL
  (fun i rv hi => by
   rw [St.set_s] at hi
   split at hi
   ·cases hi
   ·rename_i hne'
    rcases hls.mem _ (go hi) with e | k
    ·exact absurd e hne'
    ·exact k)
  (fun d bx hd => hlb.mem _ (go hd)) k6 (X := F' ++ Fp 0) (fun x hx => by
   rw [e0]
   rcases List.mem_append.1 hx with hx | hx
   ·rcases k9 x hx with hx | hx
    ·exact .inl (by simp [hx])
    ·exact .inr hx
   ·exact .inl (by simp [hx])) hndX
 have c3 := c2.push (i := s) (rv := RV.sv ag ms') (v := a.tmps.getD s undef) (F := F') (X := Fp 0) hsd ⟨hvs.1, by rw [e2]; exact h2 (by rw [← e1]; exact k7.2)⟩ (fun x hx => by simpa using hx) hndX
 rw [zh] at c3
 have c4 := c3.put0 (d := d) (r := RV.sc r) (v := r) hd (bQ.of_sc hr1)
 exact hK _ _ (h _ _ (bn.eqv c4 (fun i => by
  simp only [St.set_s]
  split
  ·rfl
  ·split <;> rfl) (fun d => rfl)))
def nL {f d t bx T : Nat} {L : Nat → Prop} {xs : List Operand} {args : Array Operand} {tys : Array TypeId} {ty : TypeId} {pos : String} {af : Array Edge} {ol : List Oper} {ag : Bool} {l : List (Nat × RV)} {b : List (Nat × (Nat × List PV))} {us : List Value} {qs qs' ps ms ms' A B : List PV} {qr as_ : List (Bool × List PV)} {r : Value}
  (hd : d < n) (hf : ax P f = true) (he : args.toList = .tmp t :: xs) (ht : lk l t = some (RV.sv ag ps)) (hps : Nm ps us) (hrd : bb (iM xs qr) (lk l)) (hok : ky xs qr) (hto : kC qr as_)
  (hs : lk b bx = some (T, A ++ (ms ++ B))) (hms : Nm ms us) (h1 : aN ms qs) (hu : jp P f ag qs qs' as_ r) (h2 : bA us qs' ms') (hL : ∀ x, L x → h0 x) (hls : kT L l) (hlb : nJ L bx b) (hlA : ai L A) (hlB : ai L B) (hr1 : r.oneCell' = true)
  (h : gO P n h0 w0 Fz0 ops ol (((St.of l b).setB bx (some (T, A ++ (ms' ++ B)))).set d (some (RV.sc r))) Q) :
  gO P n h0 w0 Fz0 ops (⟨some d, .call { callee := .value (.func f), args := args, argTypes := tys }, ty, pos, af, none⟩ :: ol) (St.of l b) Q := fun a w hc => by
 obtain ⟨φ, Fz, Fp, hc⟩ := hc
 have hvt := (hc.slot t _ ht)
 obtain ⟨cur, hg, hob⟩ := hc.box bx _ hs
 obtain ⟨g1, g2, g3⟩ := hc.bxb bx _ hs
 have hlt : φ bx < w.heap.size := (Array.getElem?_eq_some_iff.1 hg).1
 obtain ⟨vA, vM, vB, FA, FM, FB, ev, eF, kA, kM, kB⟩ := tw hob
 have e1 : (a.tmps.getD t undef).cells.toList = us := hps hvt.2.rel
 have e2 : vM = us := hms kM.rel
 have hown : bQ ag qs Fz w (a.tmps.getD t undef) FM := ⟨hvt.1, by rw [e1, ← e2]; exact h1 kM⟩
 have hrel := hto.rel (hc.relT (xs := xs) hrd hok)
 have hnod := hc.nod (2 * bx + 2)
 rw [eF] at hnod
 have hnFM : FM.Nodup := (List.nodup_append.1 (List.nodup_append.1 hnod).2.1).1
 refine wpList_plain rfl fun K hK => ?_
 unfold Oper.wp
 rw [EG hf he, Oper.upon_enter]
 refine (hu w _ _ Fz _ hc.fzl hown hnFM hrel).mono ?_
 rintro e w' ⟨Fz', F', rfl, k1, k2, k3, k4, k5, k6, k7, k8, k9⟩
 have c1 := hc.pullB hs
 have e0 : mv Fp (2 * bx + 2) 0 = FA ++ (FM ++ FB) ++ Fp 0 := by simp [mv, eF]
 have hnd := c1.nod 0
 simp only [if_true] at hnd
 rw [e0] at hnd
 have hlow : ∀ x, x ∈ φ bx :: (FA ++ (FM ++ FB) ++ Fp 0) → x < w.heap.size := fun x hx => by
  have := (c1.low 0 x (by simp only [if_true]; rw [e0]; exact hx)).2
  exact this
 have hX : ∀ x, x ∈ φ bx :: (FA ++ (F' ++ FB) ++ Fp 0) → x ∈ φ bx :: (FA ++ (FM ++ FB) ++ Fp 0) ∨ (w.heap.size ≤ x ∧ x < w'.heap.size) := by
  intro x hx
  simp only [jQ, dM] at hx ⊢
  rcases hx with hx | ((hx | hx | hx) | hx)
  ·exact .inl (.inl hx)
  ·exact .inl (.inr (.inl (.inl hx)))
  ·rcases k9 x hx with hx | hx
   ·exact .inl (.inr (.inl (.inr (.inl hx))))
   ·exact .inr hx
  ·exact .inl (.inr (.inl (.inr (.inr hx))))
  ·exact .inl (.inr (.inr hx))
 have hnew : ∀ x, x ∈ F' → x ∉ FM → w.heap.size ≤ x := fun x hx hn => by
  rcases k9 x hx with h | h
  ·exact absurd h hn
  ·exact h.1
 have hndX : (φ bx :: (FA ++ (F' ++ FB) ++ Fp 0)).Nodup := by
  have hd' := hnd
  simp only [gk, cm, dM] at hd' ⊢
  obtain ⟨m0, ⟨m1, ⟨m2, m3, m23⟩, m123⟩, m4, m1234⟩ := hd'
  have hF' : ∀ x, x ∈ F' → x ∈ FM ∨ w.heap.size ≤ x := fun x hx => by
   rcases k9 x hx with h | h
   ·exact .inl h
   ·exact .inr h.1
  have lA : ∀ x, x ∈ FA → x < w.heap.size := fun x hx => hlow x (by simp [hx])
  have lB : ∀ x, x ∈ FB → x < w.heap.size := fun x hx => hlow x (by simp [hx])
  have l0 : ∀ x, x ∈ Fp 0 → x < w.heap.size := fun x hx => hlow x (by simp [hx])
  refine ⟨?_, ⟨m1, ⟨k8, m3, ?_⟩, ?_⟩, m4, ?_⟩
  ·rintro ((hx | hx | hx) | hx)
   ·exact m0 (.inl (.inl hx))
   ·rcases hF' _ hx with hx | hx
    ·exact m0 (.inl (.inr (.inl hx)))
    ·omega
   ·exact m0 (.inl (.inr (.inr hx)))
   ·exact m0 (.inr hx)
  ·intro x hx y hy e
   rcases hF' _ hx with hx | hx
   ·exact m23 x hx y hy e
   ·have := lB y hy; omega
  ·intro x hx y hy e
   rcases hy with hy | hy
   ·rcases hF' _ hy with hy | hy
    ·exact m123 x hx y (.inl hy) e
    ·have := lA x hx; omega
   ·exact m123 x hx y (.inr hy) e
  ·intro x hx y hy e
   rcases hx with hx | hx | hx
   ·exact m1234 x (.inl hx) y hy e
   ·rcases hF' _ hx with hx | hx
    ·exact m1234 x (.inr (.inl hx)) y hy e
    ·have := l0 y hy; omega
   ·exact m1234 x (.inr (.inr hx)) y hy e
 have hnotFM : ∀ x, x ∈ φ bx :: (FA ++ FB) → x ∉ FM := by
  intro x hx hm
  simp only [gk, cm, dM] at hnd
  obtain ⟨m0, ⟨m1, ⟨m2, m3, m23⟩, m123⟩, m4, m1234⟩ := hnd
  rcases List.mem_cons.1 hx with rfl | hx
  ·exact m0 (.inl (.inr (.inl hm)))
  ·rcases List.mem_append.1 hx with hx | hx
   ·exact m123 x hx x (.inl hm) rfl
   ·exact m23 x hm x hx rfl
 have c2 := c1.uworld (w' := w') (Fz' := Fz') (L := L) k1 k2 k3 k4 (fun x hx hx0 => k5 x hx fun hh => hx0 (by simp only [if_true]; rw [e0]; simp [hh])) hL
  (fun i rv hi => hls _ (go hi))
  (fun e bxx hd => by
   rw [St.setB_b] at hd
   split at hd
   ·cases hd
   ·rename_i hne'
    rcases hlb.mem _ (go hd) with e | k
    ·exact absurd e hne'
    ·exact k) k6 (X := φ bx :: (FA ++ (F' ++ FB) ++ Fp 0)) (fun x hx => by
   simp only [if_true]; rw [e0]
   exact hX x hx) hndX
 have hsame : ∀ x, x ∈ φ bx :: (FA ++ FB) → w'.heap[x]? = w.heap[x]? ∧ ∀ o, Fz' x o ↔ Fz x o := fun x hx => k5 x (hlow x (by
   rcases List.mem_cons.1 hx with rfl | hx
   ·simp
   ·rcases List.mem_append.1 hx with hx | hx <;> simp [hx])) (hnotFM x hx)
 have hlk : ∀ x, L x → w'.heap[x]? = w.heap[x]? ∧ ∀ o, Fz' x o ↔ Fz x o := fun x hx => k5 x (hc.hlt x (hL x hx)) fun hh => (hc.low (2 * bx + 2) x (by rw [eF]; simp [hh])).1 (hL x hx)
 have hg' : w'.heap[φ bx]? = some (.cells cur T (0, 0)) := (hsame _ (by simp)).1.trans hg
 have ho' : aJ (A ++ (ms' ++ B)) Fz' w' cur.toList (FA ++ (F' ++ FB)) := by
  rw [ev]
  refine (hlA.own kA fun x hx => ?_).append (aJ.append (by rw [e2]; exact h2 (by rw [← e1]; exact k7.2)) (hlB.own kB fun x hx => ?_))
  ·rcases hx with hx | hx
   ·exact hlk x hx
   ·exact hsame x (by simp [hx])
  ·rcases hx with hx | hx
   ·exact hlk x hx
   ·exact hsame x (by simp [hx])
 have c3 := c2.pushB (d := bx) (g := φ bx) (t := T) (cs := A ++ (ms' ++ B)) (F := FA ++ (F' ++ FB)) (X := Fp 0) (by rw [St.setB_b, if_pos rfl]) hg' ho' (fun o ho => g2 o (((hsame _ (by simp)).2 o).1 ho))
  (fun x hx => by
   simp only [if_true]
   rcases List.mem_append.1 hx with hx | hx
   ·simp only [jQ, dM] at hx ⊢; exact .inr (.inl hx)
   ·rcases List.mem_cons.1 hx with rfl | hx
    ·simp
    ·simp [hx])
  (by
   simp only [gk, dM] at hndX
   rw [cm] at hndX ⊢
   obtain ⟨m0, m1, m2, m3⟩ := hndX
   refine ⟨m1, List.nodup_cons.2 ⟨fun hh => m0 (.inr hh), m2⟩, fun x hx y hy e => ?_⟩
   rcases List.mem_cons.1 hy with rfl | hy
   ·refine m0 (.inl ?_)
    rw [e] at hx
    simpa using hx
   ·exact m3 x hx y hy e)
  (.inl rfl)
 have c4 := c3.put0 (d := d) (r := RV.sc r) (v := r) hd (bQ.of_sc hr1)
 exact hK _ _ (h _ _ (bn.eqv c4 (fun i => rfl) (fun e => by
  simp only [St.set_b, St.setB_b]
  split <;> rfl)))
def iP {f d t bx T : Nat} {L : Nat → Prop} {xs : List Operand} {args : Array Operand} {tys : Array TypeId} {ty : TypeId} {pos : String} {af : Array Edge} {ol : List Oper} {ag : Bool} {l : List (Nat × RV)} {b : List (Nat × (Nat × List PV))} {us : List Value} {qs qs' ps pre ms post ms' A B : List PV} {qr as_ : List (Bool × List PV)} {r : Value}
  (hd : d < n) (hf : ax P f = true) (he : args.toList = .tmp t :: xs) (ht : lk l t = some (RV.sv ag ps)) (hps : Nm ps us) (hrd : bb (iM xs qr) (lk l)) (hok : ky xs qr) (hto : kC qr as_)
  (hs : lk b bx = some (T, A ++ ((pre ++ (ms ++ post)) ++ B))) (hms : Nm ms us) (h1 : aN ms qs) (hu : jp P f ag qs qs' as_ r) (h2 : bA us qs' ms') (hL : ∀ x, L x → h0 x) (hls : kT L l) (hlb : nJ L bx b) (hlA : ai L A) (hlp : ai L pre) (hlq : ai L post) (hlB : ai L B) (hr1 : r.oneCell' = true)
  (h : gO P n h0 w0 Fz0 ops ol (((St.of l b).setB bx (some (T, A ++ ((pre ++ (ms' ++ post)) ++ B)))).set d (some (RV.sc r))) Q) :
  gO P n h0 w0 Fz0 ops (⟨some d, .call { callee := .value (.func f), args := args, argTypes := tys }, ty, pos, af, none⟩ :: ol) (St.of l b) Q := by
 have e : ∀ x : List PV, A ++ ((pre ++ (x ++ post)) ++ B) = (A ++ pre) ++ (x ++ (post ++ B)) := fun x => by simp only [bw]
 rw [e] at hs h
 exact nL hd hf he ht hps hrd hok hto hs hms h1 hu h2 hL hls hlb (hlA.app hlp) (hlq.app hlB) hr1 h
def kU {f : FuncId} {fn : Func} {c : Code} {args : List (Bool × List PV)} {largs : (Nat → Prop) → List (Bool × List PV)} {rs : List (Bool × List PV)} (hf : P.funcs[f]? = some fn) (hb : fn.body = some c) (hn : args.length ≤ fn.ntmps) (hto : ∀ L, pg L args (largs L)) (hbor : ∀ L q, q ∈ largs L → an q.2)
  (h : ∀ (w0 : World) (Fz0 : av), SW P fn.ntmps (Lw w0.heap.size) w0 Fz0 c (St.of (gN 0 (largs (Lw w0.heap.size))) []) (tv P fn.results.toList rs)) : aB P f args (aA rs) := by
 intro w vs Fz hz hrel
 exact EA hf hb (by rw [← (hto (Lw w.heap.size)).len]; exact hn) (hbor _) w Fz (h w Fz) vs hz ((hto (Lw w.heap.size)).rel hz hrel)
end
end
end Go.Proofs.YtmekkgdboplbjaaGreat.M
namespace Go.Proofs.YtmekkgdboplbjaaGreat.M
open Go Go.RowKit
section
section
variable {P : Program} {n : Nat}
variable {T T2 : TypeId} {x y : Operand} {d : Nat} {ty : TypeId} {pos : String} {af : Array Edge} {g : Option (Nat × Bool)} {i j : Bool} (hd : d < n) (hT : P.underlying T = some .bool) (hx : cg x (RV.bool i)) (hy : cg y (RV.bool j))
include hd hT hx hy
def Rx : Loc P n ⟨some d, .binOp .eql T x y T2, ty, pos, af, g⟩ ⟨bH x (RV.bool i) ++ bH y (RV.bool j), [], [(d, some (RV.bool (i == j)))], [], none⟩ :=
 lJ hd hx hy rfl fun w => by simp [eqGuard, run_eql_bool w T i j hT]
def Ry : Loc P n ⟨some d, .binOp .neq T x y T2, ty, pos, af, g⟩ ⟨bH x (RV.bool i) ++ bH y (RV.bool j), [], [(d, some (RV.bool (!(i == j))))], [], none⟩ :=
 lJ hd hx hy rfl fun w => by simp [eqGuard, run_neq_bool w T i j hT]
end
section
variable {P : Program} {n : Nat}
end
end
end Go.Proofs.YtmekkgdboplbjaaGreat.M
namespace Go.Proofs.YtmekkgdboplbjaaGreat.M
open Go Go.RowKit
section
section
variable {P : Program} {n : Nat} {h0 : Nat → Prop} {w0 : World} {Fz0 : av} {σ : St} {Q : Exit → St → Prop} {c : Code}
def EH {α : Type} {A m B : List α} {o : Nat} (ho : o ≤ m.length) : (A ++ (m ++ B)).take (A.length + o) = A ++ m.take o := by
 rw [List.take_append, gB (by omega), show A.length + o - A.length = o by omega, List.take_append_of_le_length ho]
def vC {α : Type} {A m B : List α} {o : Nat} (ho : o ≤ m.length) : (A ++ (m ++ B)).drop (A.length + o) = m.drop o ++ B := by
 rw [List.drop_append, List.drop_of_length_le (by omega), show A.length + o - A.length = o by omega, List.drop_append_of_le_length ho, List.nil_append]
def fD {T p b off t o : Nat} {x : Operand} {ty : TypeId} {pos : String} {af : Array Edge} {g : Option (Nat × Bool)} {ag : Bool} {k : Nat} {A m B vs : List PV} (hoff : off = A.length + o) (hT : bR P T = some (ag, k)) (hx : cg x (RV.sv ag vs)) (hv : vs.length = k) (hk : o + k ≤ m.length) :
  Loc P n ⟨none, .store T (.tmp p) x, ty, pos, af, g⟩ ⟨(p, RV.ptr b off) :: bH x (RV.sv ag vs), [(b, (t, A ++ (m ++ B)))], oY x, [(b, some (t, A ++ ((m.take o ++ (vs ++ m.drop (o + k))) ++ B)))], none⟩ := by
 have h : Loc P n ⟨none, .store T (.tmp p) x, ty, pos, af, g⟩ ⟨(p, RV.ptr b off) :: bH x (RV.sv ag vs), [(b, (t, A ++ (m ++ B)))], oY x, [(b, some (t, (A ++ (m ++ B)).take off ++ (vs ++ (A ++ (m ++ B)).drop (off + k))))], none⟩ :=
  bg hT hx hv (by rw [hoff]; simp only [aV]; omega)
 have e : (A ++ (m ++ B)).take off ++ (vs ++ (A ++ (m ++ B)).drop (off + k)) = A ++ ((m.take o ++ (vs ++ m.drop (o + k))) ++ B) := by
  rw [hoff, EH (by omega), show A.length + o + k = A.length + (o + k) by omega, vC hk]
  simp only [bw]
 rw [e] at h
 exact @h
def fR {T d p b off t o : Nat} {ty : TypeId} {pos : String} {af : Array Edge} {g : Option (Nat × Bool)} {ag : Bool} {k : Nat} {A m B qs : List PV} (hoff : off = A.length + o) (hd : d < n) (hT : bR P T = some (ag, k)) (h1 : ag = false → k = 1) (hk : o + k ≤ m.length)
  (ht : am ((m.drop o).take k) qs) (hb : an qs) :
  Loc P n ⟨some d, .load T (.tmp p), ty, pos, af, g⟩ ⟨[(p, RV.ptr b off)], [(b, (t, A ++ (m ++ B)))], [(d, some (RV.sv ag qs))], [], none⟩ :=
 eW hd hT h1 (by rw [hoff]; simp only [aV]; omega) (by
  rw [hoff, vC (by omega), List.take_append_of_le_length (by rw [gm]; omega)]; exact ht) hb
def qf {d t : Nat} {A ms ms' B : List PV} (hd : σ.b d = some (t, A ++ (ms ++ B))) (ht : aN ms ms') (h : SW P n h0 w0 Fz0 c (σ.setB d (some (t, A ++ (ms' ++ B)))) Q) : SW P n h0 w0 Fz0 c σ Q := fun a w hc => by
 obtain ⟨φ, Fz, Fp, hc⟩ := hc
 refine h a w ⟨φ, Fz, Fp, hc.rebox hd fun cur k _ => ?_⟩
 obtain ⟨vA, vM, vB, FA, FM, FB, e1, e2, kA, kM, kB⟩ := tw k
 rw [e1, e2]
 exact kA.append ((ht kM).append kB)
end
def aj {α : Type} (f : α → Int → α × Int) : List α → Int → List α × Int
 | [], k => ([], k)
 | x :: xs, k => ((f x k).1 :: (aj f xs (f x k).2).1, (aj f xs (f x k).2).2)
section
variable {α : Type} {f : α → Int → α × Int}
def gP : ∀ (xs : List α) (k : Int), (aj f xs k).1.length = xs.length
 | [], _ => rfl
 | x :: xs, k => by simp [aj, gP xs]
def bp (h : ∀ x k, k ≤ (f x k).2) : ∀ (xs : List α) (k : Int), k ≤ (aj f xs k).2
 | [], k => Int.le_refl k
 | x :: xs, k => Int.le_trans (h x k) (bp h xs _)
def vD : ∀ (xs ys : List α) (k : Int), aj f (xs ++ ys) k = ((aj f xs k).1 ++ (aj f ys (aj f xs k).2).1, (aj f ys (aj f xs k).2).2)
 | [], ys, k => rfl
 | x :: xs, ys, k => by
  show aj f (x :: (xs ++ ys)) k = _
  simp only [aj, vD xs ys, List.cons_append]
def eE {xs : List α} {i : Nat} (hi : i < xs.length) (k : Int) : aj f (xs.take (i + 1)) k = ((aj f (xs.take i) k).1 ++ [(f xs[i] (aj f (xs.take i) k).2).1], (f xs[i] (aj f (xs.take i) k).2).2) := by
 rw [cy hi, vD]; rfl
def iA (h : ∀ x k, k ≤ (f x k).2) (xs : List α) (i : Nat) (k : Int) : (aj f (xs.take i) k).2 ≤ (aj f xs k).2 := by
 have e : aj f xs k = aj f (xs.take i ++ xs.drop i) k := by rw [fc]
 rw [e, vD]
 exact bp h _ _
def Rz {xs : List α} {i : Nat} (hi : i < xs.length) (k : Int) (hi' : i < (aj f xs k).1.length) : (aj f xs k).1[i] = (f xs[i] (aj f (xs.take i) k).2).1 := by
 have e : (aj f xs k).1 = (aj f (xs.take (i + 1)) k).1 ++ (aj f (xs.drop (i + 1)) (aj f (xs.take (i + 1)) k).2).1 := by
  have := vD (f := f) (xs.take (i + 1)) (xs.drop (i + 1)) k
  rw [fc] at this
  rw [this]
 have hl : (aj f (xs.take i) k).1.length = i := by rw [gP, br]; omega
 have h : (aj f xs k).1[i]? = some (f xs[i] (aj f (xs.take i) k).2).1 := by
  rw [e, eE hi, List.getElem?_append_left (by simp [hl]), List.getElem?_append_right (by omega)]
  simp [hl]
 exact (List.getElem?_eq_some_iff.1 h).2
def pi {c : α → List PV} {xs : List α} {i : Nat} {k : Int} {cs : List PV} (hi : i < xs.length) (hc : c (f xs[i] (aj f (xs.take i) k).2).1 = cs) : ((aj f xs k).1.map c)[i]? = some cs := by
 have hi' : i < (aj f xs k).1.length := by rw [gP]; exact hi
 rw [List.getElem?_map, List.getElem?_eq_getElem hi', Rz hi, ← hc]; rfl
variable {c : α → List PV}
def nM {xs : List α} {k : Int} {i : Nat} {J : List PV} (hi : i < xs.length) : (((aj f (xs.take i) k).1 ++ xs.drop i).map c).flatten ++ J = ((aj f (xs.take i) k).1.map c).flatten ++ (c xs[i] ++ (((xs.drop (i + 1)).map c).flatten ++ J)) := by
 rw [List.drop_eq_getElem_cons hi]; simp only [bT, List.map_cons, List.flatten_append, List.flatten_cons, bw]
def nN {xs : List α} {k : Int} {i : Nat} {J cs : List PV} (hi : i < xs.length) (hc : cs = c (f xs[i] (aj f (xs.take i) k).2).1) : ((aj f (xs.take i) k).1.map c).flatten ++ (cs ++ (((xs.drop (i + 1)).map c).flatten ++ J)) = (((aj f (xs.take (i + 1)) k).1 ++ xs.drop (i + 1)).map c).flatten ++ J := by
 subst hc
 rw [eE hi]; simp only [bT, List.map_cons, List.map_nil, List.flatten_append, List.flatten_cons, List.flatten_nil, bw, eg, List.nil_append]
def nO {xs : List α} {k : Int} {i e : Nat} (hc : ∀ x, (c x).length = e) (hi : i ≤ xs.length) : ((aj f (xs.take i) k).1.map c).flatten.length = i * e := by
 rw [pe (e := e) (fun cs hcs => by obtain ⟨x, _, rfl⟩ := List.mem_map.1 hcs; exact hc x), aq, gP, br, Nat.min_eq_left hi]
def nP {xs : List α} {k : Int} {J : List PV} : (xs.map c).flatten ++ J = (((aj f (xs.take 0) k).1 ++ xs.drop 0).map c).flatten ++ J := by simp [aj]
def pj {xs : List α} {k : Int} {i : Nat} {J : List PV} (hi : i = xs.length) : (((aj f (xs.take i) k).1 ++ xs.drop i).map c).flatten ++ J = ((aj f xs k).1.map c).flatten ++ J := by
 subst hi; simp
def mG {w : α → Nat} {s c C : Int} (h : ∀ x k, (f x k).2 ≤ k + s + c * (w x : Int)) (hs : s ≤ C) (hc : c ≤ C) : ∀ (xs : List α) (k : Int), (aj f xs k).2 ≤ k + C * ((xs.length + (xs.map w).sum : Nat) : Int)
 | [], k => by simp [aj]
 | x :: xs, k => by
  have h1 := h x k
  have h2 := mG h hs hc xs (f x k).2
  have h3 : c * (w x : Int) ≤ C * (w x : Int) := Int.mul_le_mul_of_nonneg_right hc (Int.natCast_nonneg _)
  have e : C * (((x :: xs).length + ((x :: xs).map w).sum : Nat) : Int) = C + C * (w x : Int) + C * ((xs.length + (xs.map w).sum : Nat) : Int) := by
   simp only [List.length_cons, List.map_cons, List.sum_cons, Int.natCast_add, Int.mul_add, Int.natCast_one, Int.mul_one]
   omega
  rw [e]
  show (aj f xs (f x k).2).2 ≤ _
  omega
def fE {t : Nat} {cs ds : List PV} (h : cs = ds) : some (t, cs) = some (t, ds) := by rw [h]
def nQ {us : List Value} (h : us.length = 1) : ∃ u, us = [u] := List.length_eq_one_iff.1 h
end
end
section
def RV.gh (us : List Value) (cs : List PV) : RV where
 holds _ Fz w _ F := aJ cs Fz w us F
 men _ := false
 mono h k hh _ := h.mono k hh
 lt h := h.lt
def RV.lcl_gh {L : Nat → Prop} {us : List Value} {cs : List PV} (h : ai L cs) : (RV.gh us cs).Lcl L := fun hh hk => h.own hh hk
def EI (us : List Value) : List PV := us.map PV.val
def RA {Fz : av} {w : World} {us : List Value} (h : ∀ u, u ∈ us → u.oneCell' = true) : aJ (EI us) Fz w us [] := rF h
section
variable {P : Program} {n : Nat} {h0 : Nat → Prop} {w0 : World} {Fz0 : av} {σ : St} {Q : Exit → St → Prop} {c : Code}
def kD (Fp : Nat → List Nat) (r q : Nat) : Nat → List Nat := fun x => if x = q then Fp r else if x = r then [] else Fp x
def zi {Fp : Nat → List Nat} {r q x b : Nat} (h : b ∈ kD Fp r q x) : (x = q ∧ b ∈ Fp r) ∨ (x ≠ q ∧ x ≠ r ∧ b ∈ Fp x) := by
 unfold kD at h
 split at h
 ·rename_i e; exact .inl ⟨e, h⟩
 ·split at h
  ·simp at h
  ·rename_i e1 e2; exact .inr ⟨e1, e2, h⟩
def RB {Fp : Nat → List Nat} {r q : Nat} (dis : ∀ r r', r ≠ r' → ∀ b, b ∈ Fp r → b ∉ Fp r') : ∀ x y, x ≠ y → ∀ b, b ∈ kD Fp r q x → b ∉ kD Fp r q y := by
 intro x y hxy b hb hb'
 rcases zi hb with ⟨e1, h1⟩ | ⟨e1, e2, h1⟩ <;> rcases zi hb' with ⟨f1, h2⟩ | ⟨f1, f2, h2⟩
 ·omega
 ·exact dis _ _ (fun e => f2 e.symm) b h1 h2
 ·exact dis _ _ e2 b h1 h2
 ·exact dis _ _ hxy b h1 h2
def RC {Fp : Nat → List Nat} {r q : Nat} (nod : ∀ r, (Fp r).Nodup) : ∀ x, (kD Fp r q x).Nodup := by
 intro x
 unfold kD
 split
 ·exact nod r
 ·split
  ·exact List.nodup_nil
  ·exact nod x
def tx {cs : List PV} {us : List Value} {j : Nat} {x u : Value} (h : ∃ Fz w, bO cs Fz w us) (hc : cs[j]? = some (PV.val x)) (hu : us[j]? = some u) : u = x := by
 obtain ⟨Fz, w, h⟩ := h
 obtain ⟨v, h1, h2⟩ := h.at_ hc
 rw [hu] at h1
 injection h1 with h1
 rw [h1]; exact h2.1
def EJ {d t G : Nat} {us : List Value} {ps cs : List PV} (hd : σ.b d = some (t, ps)) (hn : Nm ps us) (hG : σ.s G = some (RV.gh us cs)) (h : SW P n h0 w0 Fz0 c ((σ.set G none).setB d (some (t, cs))) Q) : SW P n h0 w0 Fz0 c σ Q := fun a w hc => by
 obtain ⟨φ, Fz, Fp, hc⟩ := hc
 have hg : aJ cs Fz w us (Fp (2 * G + 1)) := hc.slot G _ hG
 have c1 := hc.pull G
 have e0 : mv Fp (2 * G + 1) 0 = Fp (2 * G + 1) ++ Fp 0 := by simp [mv]
 obtain ⟨cur, h1, h2⟩ := c1.box d (t, ps) hd
 obtain ⟨g1, g2, g3⟩ := c1.bxb d (t, ps) hd
 have hu : cur.toList = us := hn h2.rel
 have c2 := c1.pullB (d := d) (cs := (t, ps)) hd
 generalize hFp1 : mv Fp (2 * G + 1) = Fp1 at c1 c2 e0 h2 g3
 have hnd := c2.nod 0
 simp only [if_true] at hnd
 have em : mv Fp1 (2 * d + 2) 0 = Fp1 (2 * d + 2) ++ Fp1 0 := by simp [mv]
 rw [em, e0] at hnd
 have c3 := c2.pushB (d := d) (g := φ d) (t := t) (cs := cs) (F := Fp (2 * G + 1)) (X := Fp 0) (by rw [St.setB_b, if_pos rfl]) h1 (by rw [hu]; exact hg) g2
  (fun x hx => by
   simp only [if_true]
   rw [em, e0]
   rcases List.mem_append.1 hx with hx | hx
   ·simp [hx]
   ·rcases List.mem_cons.1 hx with rfl | hx
    ·simp
    ·simp [hx])
  (by
   simp only [gk, dM] at hnd
   obtain ⟨m0, m1⟩ := hnd
   have m2 := (List.nodup_append.1 m1).2.1
   rw [cm] at m2 ⊢
   refine ⟨m2.1, List.nodup_cons.2 ⟨fun hh => m0 (.inr (.inr hh)), m2.2.1⟩, fun x hx y hy e => ?_⟩
   rcases List.mem_cons.1 hy with rfl | hy
   ·exact m0 (.inr (.inl (e ▸ hx)))
   ·exact m2.2.2 x hx y hy e)
  (.inl rfl)
 exact h a w (bn.eqv ⟨_, _, _, c3⟩ (fun i => rfl) (fun e => by
  simp only [St.setB_b, St.set_b]
  split <;> rfl))
def vE {s G : Nat} {us : List Value} {ag : Bool} {ps cs : List PV} (hs : σ.s s = some (RV.sv ag ps)) (hn : Nm ps us) (hsG : Nat.beq s G = false) (hsn : s < n) (hG : σ.s G = some (RV.gh us cs)) (h : SW P n h0 w0 Fz0 c ((σ.set G none).set s (some (RV.sv ag cs))) Q) : SW P n h0 w0 Fz0 c σ Q := fun a w hc => by
 rw [beq_eq, decide_eq_false_iff_not] at hsG
 obtain ⟨φ, Fz, Fp, hc⟩ := hc
 have hg : aJ cs Fz w us (Fp (2 * G + 1)) := hc.slot G _ hG
 have hv := hc.slot s _ hs
 have hu : (a.tmps.getD s undef).cells.toList = us := hn hv.2.rel
 have c1 := hc.pull s
 have c2 := c1.pull G
 have e1 : mv Fp (2 * s + 1) (2 * G + 1) = Fp (2 * G + 1) := by simp only [mv]; rw [if_neg (by omega), if_neg (by omega)]
 have e2 : mv (mv Fp (2 * s + 1)) (2 * G + 1) 0 = Fp (2 * G + 1) ++ mv Fp (2 * s + 1) 0 := by
  rw [← e1]; simp [mv]
 have hnd := c2.nod 0
 rw [e2] at hnd
 have c3 := c2.push (i := s) (rv := RV.sv ag cs) (v := a.tmps.getD s undef) (F := Fp (2 * G + 1)) (X := mv Fp (2 * s + 1) 0) hsn ⟨hv.1, by rw [hu]; exact hg⟩ (fun x hx => by rw [e2]; exact hx) hnd
 rw [zh] at c3
 exact h a w (bn.eqv ⟨_, _, _, c3⟩ (fun i => by
  simp only [St.set_s]
  split
  ·rfl
  ·split
   ·rfl
   ·rfl) (fun e => rfl))
end
section
variable {P : Program} {n : Nat}
def vF : Option Operand → RV → List (Nat × RV)
 | none, _ => []
 | some x, r => bH x r
def tz : Option Operand → Prop → RV → Prop
 | none, p, _ => p
 | some x, _, r => cg x r
def tB {α : Type} {T E e bs d s : Nat} {lo hi : Option Operand} {ty : TypeId} {pos : String} {af : Array Edge} {g : Option (Nat × Bool)} {o : Fl} {xs ys : List α} {f : α → List PV} {i j : Nat} {q r : Int} (hd : d < n) (hT : cZ P T = some (E, e, bs))
  (hlo : tz lo (i = 0) (RV.int q)) (hhi : tz hi (j = xs.length) (RV.int r)) (hq : q = (i : Int)) (hr : r = (j : Int)) (hij : i ≤ j) (hj : j ≤ xs.length) (he : ∀ x, (f x).length = e) (hy : (xs.take j).drop i = ys) :
  Loc P n ⟨some d, .slice T (.tmp s) lo hi none, ty, pos, af, g⟩ ⟨(s, RV.slc o (xs.map f)) :: (vF lo (RV.int q) ++ vF hi (RV.int r)), [], [(d, some (RV.slc .v (ys.map f)))], [], none⟩ := by
 subst hq hr hy
 rw [List.map_drop, List.map_take]
 have hj' : j ≤ (xs.map f).length := by simpa using hj
 have he' : ∀ cs, cs ∈ xs.map f → cs.length = e := fun cs hcs => by obtain ⟨x, _, rfl⟩ := List.mem_map.1 hcs; exact he x
 intro h0 w0 Fz0 σ a w K Q hc hr hb hf hk
 cases lo with
 | none => cases hi with
  | none => exact vt (lo := none) (hi := none) (o := o) (es := xs.map f) (i := i) (j := j) hd hT hlo (by rw [aq]; exact hhi) hij hj' he' hc hr hb hf hk
  | some y => exact vt (lo := none) (hi := some y) (o := o) (es := xs.map f) (i := i) (j := j) hd hT hlo hhi hij hj' he' hc hr hb hf hk
 | some x => cases hi with
  | none => exact vt (lo := some x) (hi := none) (o := o) (es := xs.map f) (i := i) (j := j) hd hT hlo (by rw [aq]; exact hhi) hij hj' he' hc hr hb hf hk
  | some y => exact vt (lo := some x) (hi := some y) (o := o) (es := xs.map f) (i := i) (j := j) hd hT hlo hhi hij hj' he' hc hr hb hf hk
end
end
section
section
variable {P : Program} {n : Nat} {h0 : Nat → Prop} {w0 : World} {Fz0 : av} {ops : Array Oper}
def e0 : aF := ⟨[], [], [], [], none⟩
def fS : List Oper → List (Nat × aF) → List (Nat × aF)
 | [], acc => acc
 | o :: l, acc => fS l (acc ++ [(dk o.after.toList acc, e0)])
def kE : List Oper → Nat → Bool
 | [], _ => true
 | o :: l, k => to o.after.toList k && kE l (k + 1)
def vG : ∀ (l : List Oper) (acc : List (Nat × aF)), (fS l acc).length = acc.length + l.length
 | [], acc => rfl
 | o :: l, acc => by rw [fS, vG l]; simp; omega
def EK : ∀ (l : List Oper) (acc : List (Nat × aF)), (fS l acc).take acc.length = acc
 | [], acc => cn
 | o :: l, acc => by
  have := EK l (acc ++ [(dk o.after.toList acc, e0)])
  rw [fS]
  have e := congrArg (List.take acc.length) this
  rw [List.take_take, List.take_left] at e
  have e4 : min acc.length (acc ++ [(dk o.after.toList acc, e0)]).length = acc.length := by simp
  rw [e4] at e
  exact e
def vH : ∀ (l : List Oper) (acc : List (Nat × aF)) (i : Nat) (o : Oper) (p : Nat × aF), l[i]? = some o → (fS l acc)[acc.length + i]? = some p → p.2 = e0 ∧ p.1 = dk o.after.toList ((fS l acc).take (acc.length + i))
 | [], acc, i, o, p, h, _ => by simp at h
 | x :: l, acc, 0, o, p, h, hp => by
  simp at h; subst h
  rw [fS] at hp ⊢
  have e := EK l (acc ++ [(dk x.after.toList acc, e0)])
  have e2 : (fS l (acc ++ [(dk x.after.toList acc, e0)]))[acc.length]? = some (dk x.after.toList acc, e0) := by
   have : ((fS l (acc ++ [(dk x.after.toList acc, e0)])).take (acc ++ [(dk x.after.toList acc, e0)]).length)[acc.length]? = some (dk x.after.toList acc, e0) := by rw [e]; simp
   rw [List.getElem?_take_of_lt (by simp)] at this
   exact this
  rw [Nat.add_zero, e2] at hp
  injection hp with hp
  subst hp
  refine ⟨rfl, ?_⟩
  have e3 := congrArg (List.take acc.length) e
  rw [List.take_take, List.take_left] at e3
  have e4 : min acc.length (acc ++ [(dk x.after.toList acc, e0)]).length = acc.length := by simp
  rw [e4] at e3
  rw [Nat.add_zero, e3]
 | x :: l, acc, i + 1, o, p, h, hp => by
  rw [fS] at hp ⊢
  have := vH l (acc ++ [(dk x.after.toList acc, e0)]) i o p (by simpa using h) (by rw [← hp]; congr 1; simp; omega)
  rw [show (acc ++ [(dk x.after.toList acc, e0)]).length + i = acc.length + (i + 1) by simp; omega] at this
  exact this
def zj : ∀ (l : List Oper) (k i : Nat) (o : Oper), kE l k = true → l[i]? = some o → to o.after.toList (k + i) = true
 | [], _, _, _, _, h => by simp at h
 | x :: l, k, 0, o, he, h => by
  simp at h; subst h
  unfold kE at he
  rw [bq] at he
  exact he.1
 | x :: l, k, i + 1, o, he, h => by
  unfold kE at he
  rw [bq] at he
  have := zj l (k + 1) i o he.2 (by simpa using h)
  rw [show k + 1 + i = k + (i + 1) by omega] at this
  exact this
def vJ {β : Type} (pr : aF → List (Nat × β)) (hpr : pr e0 = []) (S : Nat → Bool) : ∀ (B : List (Nat × aF)) (k : Nat) (f : Nat → β), (∀ j q, B[j]? = some q → S (k + j) = true → q.2 = e0) → lw pr S B k f = f
 | [], _, _, _ => rfl
 | q :: B, k, f, h => by
  rw [lw]
  have h1 : (bif S k then bM (pr q.2) f else f) = f := by
   cases hs : S k
   ·rfl
   ·rw [h 0 q rfl (by simpa using hs), hpr]; rfl
  rw [h1]
  exact vJ pr hpr S B (k + 1) f fun j r hr hs => h (j + 1) r (by simpa using hr) (by rw [← hs]; congr 1; omega)
def tC (x : aF) : gD x e0 = true ∧ gD e0 x = true ∧ gC x e0 = true ∧ gC e0 x = true := by
 have h1 : ∀ {β γ : Type} (l : List (Nat × β)), gn l ([] : List (Nat × γ)) = false := by
  intro β γ l
  induction l with
  | nil => rfl
  | cons p l ih => unfold gn at ih ⊢; rw [List.any_cons, ih]; rfl
 have h2 : ∀ {β γ : Type} (l : List (Nat × γ)), gn ([] : List (Nat × β)) l = false := fun _ => rfl
 have hf : gC e0 x = true := by
  unfold gC
  cases x.al <;> rfl
 refine ⟨?_, ?_, rfl, hf⟩
 ·unfold gD
  simp only [e0] at hf ⊢
  simp [h1, h2, hf]
 ·unfold gD
  simp only [e0]
  simp [h1, h2]
  rfl
def mH (AI : List (Nat × aF)) (j : Nat) : aF := (lk AI j).getD e0
def nR (F : Nat → aF) : List Oper → List (Nat × aF) → List (Nat × aF)
 | [], acc => acc
 | o :: l, acc => nR F l (acc ++ [(dk o.after.toList acc, F acc.length)])
def zk (F : Nat → aF) : ∀ (l : List Oper) (acc : List (Nat × aF)), ∃ B, nR F l acc = acc ++ B ∧ B.length = l.length
 | [], acc => ⟨[], by simp [nR]⟩
 | o :: l, acc => by
  obtain ⟨B, h1, h2⟩ := zk F l (acc ++ [(dk o.after.toList acc, F acc.length)])
  exact ⟨(dk o.after.toList acc, F acc.length) :: B, by rw [nR, h1]; simp, by simp [h2]⟩
def EL (F : Nat → aF) : ∀ (l : List Oper) (acc : List (Nat × aF)) (i : Nat) (o : Oper) (p : Nat × aF), l[i]? = some o → (nR F l acc)[acc.length + i]? = some p → p.2 = F (acc.length + i) ∧ p.1 = dk o.after.toList ((nR F l acc).take (acc.length + i))
 | [], acc, i, o, p, h, _ => by simp at h
 | x :: l, acc, 0, o, p, h, hp => by
  simp at h; subst h
  rw [nR] at hp ⊢
  obtain ⟨B, e, _⟩ := zk F l (acc ++ [(dk x.after.toList acc, F acc.length)])
  rw [e] at hp ⊢
  rw [Nat.add_zero] at hp ⊢
  rw [bw, List.getElem?_append_right (Nat.le_refl _), Nat.sub_self] at hp
  simp at hp
  subst hp
  refine ⟨rfl, ?_⟩
  rw [bw, List.take_left]
 | x :: l, acc, i + 1, o, p, h, hp => by
  rw [nR] at hp ⊢
  have := EL F l (acc ++ [(dk x.after.toList acc, F acc.length)]) i o p (by simpa using h) (by rw [← hp]; congr 1; simp; omega)
  rw [show (acc ++ [(dk x.after.toList acc, F acc.length)]).length + i = acc.length + (i + 1) by simp; omega] at this
  exact this
def vK {β : Type} (pr : aF → List (Nat × β)) (S : Nat → Bool) : ∀ (A B : List (Nat × aF)) (k : Nat) (f : Nat → β), lw pr S (A ++ B) k f = lw pr S B (k + A.length) (lw pr S A k f)
 | [], B, k, f => rfl
 | p :: A, B, k, f => by
  show lw pr S (A ++ B) (k + 1) _ = _
  rw [vK pr S A B (k + 1)]
  rw [show k + 1 + A.length = k + (p :: A).length by simp; omega]
  rfl
def zl {β : Type} (pr : aF → List (Nat × β)) {S S' : Nat → Bool} : ∀ (A B : List (Nat × aF)) (k : Nat) (f : Nat → β), A.length = B.length → (∀ i, i < A.length → S (k + i) = S' (k + i)) → (∀ (i : Nat) (p q : Nat × aF), A[i]? = some p → B[i]? = some q → S (k + i) = true → p.2 = q.2) → lw pr S A k f = lw pr S' B k f
 | [], [], _, _, _, _, _ => rfl
 | [], _ :: _, _, _, h, _, _ => by simp at h
 | _ :: _, [], _, _, h, _, _ => by simp at h
 | p :: A, q :: B, k, f, hl, hS, h => by
  rw [lw, lw]
  have h0 := hS 0 (by simp)
  rw [Nat.add_zero] at h0
  have e : (bif S k then bM (pr p.2) f else f) = (bif S' k then bM (pr q.2) f else f) := by
   rw [← h0]
   cases hs : S k
   ·rfl
   ·rw [h 0 p q rfl rfl (by simpa using hs)]
  rw [e]
  exact zl pr A B (k + 1) _ (by simpa using hl) (fun i hi => by have := hS (i + 1) (by simp; omega); rw [show k + 1 + i = k + (i + 1) by omega]; exact this) fun i p' q' h1 h2 hs => h (i + 1) p' q' (by simpa using h1) (by simpa using h2) (by rw [show k + (i + 1) = k + 1 + i by omega]; exact hs)
def RD {β : Type} {u v : List (Nat × β)} (h : ∀ x, cE u x = true → cE v x = false) (f : Nat → β) : bM u (bM v f) = bM v (bM u f) := by
 funext x
 cases hu : cE u x
 ·rw [nz hu]
  cases hv : cE v x
  ·rw [nz hv, nz hv, nz hu]
  ·exact tn (.inl hv)
 ·have hv := h x hu
  rw [nz (l := v) hv]
  exact tn (.inl hu)
def EM {β : Type} (pr : aF → List (Nat × β)) (S : Nat → Bool) {u : List (Nat × β)} : ∀ (A : List (Nat × aF)) (k : Nat) (f : Nat → β), (∀ (i : Nat) (p : Nat × aF), A[i]? = some p → S (k + i) = true → ∀ x, cE u x = true → cE (pr p.2) x = false) → bM u (lw pr S A k f) = lw pr S A k (bM u f)
 | [], _, _, _ => rfl
 | p :: A, k, f, h => by
  rw [lw, lw, EM pr S A (k + 1) _ fun i q hq hs => h (i + 1) q (by simpa using hq) (by rw [show k + (i + 1) = k + 1 + i by omega]; exact hs)]
  congr 1
  cases hs : S k
  ·rfl
  ·exact RD (h 0 p rfl (by simpa using hs)) f
def St.wr (σ : St) (u : List (Nat × Option RV)) : St := ⟨bM u σ.s, σ.b⟩
def RE (AI : List (Nat × aF)) (ks : List Nat) : Bool := AI.all fun q => ks.all fun k => !cE q.2.ws k
def zm (AI : List (Nat × aF)) (σ τ : St) : Prop := ∀ x, (∀ q, q ∈ AI → cE q.2.ws x = false) → τ.s x = σ.s x
def EN (P : Program) (n : Nat) (h0 : Nat → Prop) (w0 : World) (Fz0 : av) (ops : Array Oper) (AI : List (Nat × aF)) (oc : Oper) (post : List Oper) (acc : List (Nat × aF)) (QS : St → Prop) (σ : St) : Prop :=
 ∀ (τ : St) (a : Act) (w : World) (K : Act → World → Prop) (Q : Exit → Act → World → Prop), bn h0 w0 Fz0 n τ a w → zm AI σ τ →
  (∀ (u : List (Nat × Option RV)) a' w', bn h0 w0 Fz0 n (τ.wr u) a' w' → (∀ q, q ∈ AI → ∀ x, cE u x = true → cE q.2.ws x = false) → cb P n ops (σ.wr u) (fun j L => ∀ L', lk AI j = some L' → L = L') QS post acc (σ.wr u) → K a' w') → oc.wp P a w K Q
def C1 (AI : List (Nat × aF)) (_ : Nat) (L : aF) : Prop := (AI.all fun q => gC L q.2 && gD L q.2) = true
def zo : ∀ (l : List Oper) (k c : Nat), kE l k = true → kE (l.take c) k = true
 | [], _, _, _ => by simp [kE]
 | o :: l, k, 0, _ => by simp [kE]
 | o :: l, k, c + 1, h => by
  unfold kE at h
  rw [bq] at h
  show (to o.after.toList k && kE (l.take c) (k + 1)) = true
  rw [bq]
  exact ⟨h.1, zo l (k + 1) c h.2⟩
def EO {σ0 : St} {c : Nat} (hc : c ≤ ops.size) (he : kE (ops.toList.take c) 0 = true) : ∀ i o p, ops[i]? = some o → (fS (ops.toList.take c) [])[i]? = some p → rE P n ops σ0 (fun i => Nat.blt (c - 1) i && Nat.blt 0 c) (fS (ops.toList.take c) []) i o p := by
 intro i o p ho hp
 have hl : (fS (ops.toList.take c) []).length = c := by rw [vG, br]; simp; omega
 have hi : i < c := by rw [← hl]; exact (List.getElem?_eq_some_iff.1 hp).1
 have ho' : (ops.toList.take c)[i]? = some o := by rw [List.getElem?_take_of_lt hi]; simpa using ho
 have k := vH _ [] i o p ho' (by simpa using hp)
 simp only [List.length_nil, Nat.zero_add] at k
 have ke := zj _ 0 i o he ho'
 rw [Nat.zero_add] at ke
 have hno : (Nat.blt (c - 1) i && Nat.blt 0 c) = true → False := fun h => by
  rw [bq, blt_eq, decide_eq_true_iff] at h; omega
 refine ⟨fun h => (hno h).elim, fun h => (hno h).elim, fun h => (hno h).elim, fun h => (hno h).elim, k.2, ke, fun j q hj hq => ?_⟩
 have hjc : j < c := by omega
 have hoj : (ops.toList.take c)[j]? = some ops[j] := by rw [List.getElem?_take_of_lt hjc]; simp
 have kj := vH _ [] j _ q hoj (by simpa using hq)
 rw [kj.1, k.1]
 exact ⟨rfl, .inr (tC e0).1⟩
def vL (m : Nat) : Nat → Bool
 | 0 => true
 | k + 1 => m.testBit k && vL m k
def EP {m : Nat} : ∀ {k j : Nat}, vL m k = true → j < k → m.testBit j = true
 | 0, _, _, h => by omega
 | k + 1, j, h, hj => by
  unfold vL at h
  rw [bq] at h
  rcases Nat.lt_or_ge j k with hk | hk
  ·exact EP h.2 hk
  ·rw [show j = k by omega]; exact h.1
def tD (AI : List (Nat × aF)) (c : Nat) : List Oper → Nat → Bool
 | [], _ => true
 | o :: l, i => (cE AI i || o.after.toList.any (fun e => Region.binds .any e && (Nat.blt c (e.on + 1) && !cE AI e.on))) && tD AI c l (i + 1)
def EQ {AI : List (Nat × aF)} {c : Nat} : ∀ (l : List Oper) (k i : Nat) (o : Oper), tD AI c l k = true → l[i]? = some o → cE AI (k + i) = false → ∃ e, e ∈ o.after.toList ∧ Region.binds .any e = true ∧ c ≤ e.on ∧ cE AI e.on = false
 | [], _, _, _, _, h, _ => by simp at h
 | x :: l, k, 0, o, he, h, hin => by
  simp at h; subst h
  unfold tD at he
  rw [Nat.add_zero] at hin
  rw [bq, hin, Bool.false_or, List.any_eq_true] at he
  obtain ⟨⟨e, h1, h2⟩, _⟩ := he
  rw [bq, bq, blt_eq, decide_eq_true_iff, Bool.not_eq_true'] at h2
  exact ⟨e, h1, h2.1, by omega, h2.2.2⟩
 | x :: l, k, i + 1, o, he, h, hin => by
  unfold tD at he
  rw [bq] at he
  exact EQ l (k + 1) i o he.2 (by simpa using h) (by rw [show k + 1 + i = k + (i + 1) by omega]; exact hin)
def ER (ops : Array Oper) (AI : List (Nat × aF)) (c : Nat) (oc : Oper) (post : List Oper) : Bool :=
 kE ops.toList 0 && (vL (dk oc.after.toList (fS (ops.toList.take c) [])) c && (tD AI c post (c + 1) && ((AI.all fun q => Nat.blt c q.1 && (q.2.rs.isEmpty && q.2.rb.isEmpty)) && AI.all fun x => AI.all fun y => Nat.beq x.1 y.1 || (gC x.2 y.2 && gD x.2 y.2))))
def zp : ∀ (l : List Edge) (A B : List (Nat × aF)), A.map (·.1) = B.map (·.1) → dk l A = dk l B
 | [], _, _, _ => rfl
 | e :: l, A, B, h => by
  have h1 : (A[e.on]?).map (·.1) = (B[e.on]?).map (·.1) := by rw [← List.getElem?_map, ← List.getElem?_map, h]
  rw [dk, dk, zp l A B h, h1]
def RF {A B : List (Nat × aF)} (hl : A.length = B.length) (hA : ∀ (i : Nat) (p : Nat × aF), A[i]? = some p → ∃ o : Oper, ops[i]? = some o ∧ p.1 = dk o.after.toList (A.take i)) (hB : ∀ (i : Nat) (p : Nat × aF), B[i]? = some p → ∃ o : Oper, ops[i]? = some o ∧ p.1 = dk o.after.toList (B.take i)) : A.map (·.1) = B.map (·.1) := by
 have key : ∀ k, k ≤ A.length → (A.take k).map (·.1) = (B.take k).map (·.1) := by
  intro k
  induction k with
  | zero => intro _; simp
  | succ k ih =>
   intro hk
   have ihk := ih (by omega)
   have h1 : k < A.length := by omega
   have h2 : k < B.length := by omega
   obtain ⟨o1, e1, f1⟩ := hA k _ (List.getElem?_eq_getElem h1)
   obtain ⟨o2, e2, f2⟩ := hB k _ (List.getElem?_eq_getElem h2)
   rw [e1] at e2
   injection e2 with e2
   subst e2
   rw [cy h1, cy h2, bT, bT, ihk]
   simp only [List.map_cons, List.map_nil]
   rw [f1, f2, zp _ _ _ ihk]
 have := key A.length (Nat.le_refl _)
 rw [cn, hl, cn] at this
 exact this
def ES {id c : Nat} {σ : St} {AI : List (Nat × aF)} {oc : Oper} {Q : Exit → St → Prop} {pre post : List Oper} (hm : P.follows .mixedOrders = true) (hpre : ops.toList.take c = pre) (hops : ops.toList = pre ++ ([oc] ++ post)) (hc : pre.length = c) (hg : oc.guard = none) (hmid : ER ops AI c oc post = true)
  (hAI : ∀ j L, lk AI j = some L → ∀ o, ops[j]? = some o → ay P n ops o L) (hAF : ∀ j L, lk AI j = some L → ∀ d, L.al = some d → cS d σ)
  (h : cb P n ops σ (C1 AI) (fun τ => EN P n h0 w0 Fz0 ops AI oc post (fS (ops.toList.take (c + 1)) []) (fun τ => Q .normal τ) τ) pre [] σ) : SW P n h0 w0 Fz0 (.region id ops true) σ Q := fun a w hcon => by
 unfold ER at hmid
 simp only [bq] at hmid
 obtain ⟨m1, m3, m5, m6, m7⟩ := hmid
 have hsz : ops.size = c + (1 + post.length) := by
  have := congrArg List.length hops
  simp at this; omega
 have hoc : ops[c]? = some oc := by
  have : ops.toList[c]? = some oc := by rw [hops, List.getElem?_append_right (by omega), hc]; simp
  simpa using this
 have hpost : ∀ i o, ops[i]? = some o → c + 1 ≤ i → post[i - (c + 1)]? = some o := by
  intro i o ho hi
  have : ops.toList[i]? = some o := by simpa using ho
  rw [hops, List.getElem?_append_right (by omega), List.getElem?_append_right (by simp; omega)] at this
  rw [← this]; congr 1; simp; omega
 have hAIm : ∀ {j L}, lk AI j = some L → (j, L) ∈ AI := fun h => go h
 have hAIc : ∀ q, q ∈ AI → c < q.1 ∧ q.2.rs = [] ∧ q.2.rb = [] := fun q hq => by
  have := List.all_eq_true.1 m6 q hq
  rw [bq, bq, blt_eq, decide_eq_true_iff] at this
  exact ⟨this.1, List.isEmpty_iff.1 this.2.1, List.isEmpty_iff.1 this.2.2⟩
 have hlkn : ∀ j, cE AI j = false → lk AI j = none := by
  intro j hj
  cases hl : lk AI j with
  | none => rfl
  | some L => have := yT (hAIm hl); rw [hj] at this; cases this
 have hlks : ∀ j, cE AI j = true → ∃ L, lk AI j = some L := by
  have : ∀ (l : List (Nat × aF)) j, cE l j = true → ∃ L, lk l j = some L := by
   intro l j
   induction l with
   | nil => intro h; cases h
   | cons q l ih =>
    intro h
    rw [tm, Bool.or_eq_true] at h
    show ∃ L, (bif Nat.beq j q.1 then some q.2 else lk l j) = some L
    cases hb : Nat.beq j q.1
    ·rcases h with h | h
     ·rw [Nat.beq_eq] at h
      rw [h, show Nat.beq j j = true from by rw [Nat.beq_eq]] at hb
      cases hb
     ·exact ih h
    ·exact ⟨_, rfl⟩
  exact this AI
 obtain ⟨A1, hA1, _, hqs, hC1, hG1⟩ := yW (P := P) (n := n) (ex := fun _ => true) pre ([oc] ++ post) [] [] σ (by rw [hops]; simp) rfl rfl (fun i o p _ hp => by simp at hp) h
 have hAl : A1.length = c := by simp at hA1; omega
 obtain ⟨B, hAB, hBl⟩ := zk (mH AI) ([oc] ++ post) A1
 generalize hA' : nR (mH AI) ([oc] ++ post) A1 = A at hAB
 have hAlen : A.length = ops.size := by rw [hAB]; simp [hBl]; omega
 have hAlt : ∀ i, i < c → A[i]? = A1[i]? := fun i hi => by rw [hAB, List.getElem?_append_left (by omega)]
 have hAge : ∀ i o p, c ≤ i → ops[i]? = some o → A[i]? = some p → p.2 = mH AI i ∧ p.1 = dk o.after.toList (A.take i) := by
  intro i o p hi ho hp
  have ho' : ([oc] ++ post)[i - c]? = some o := by
   have : ops.toList[i]? = some o := by simpa using ho
   rw [hops, List.getElem?_append_right (by omega), hc] at this
   exact this
  have := EL (mH AI) ([oc] ++ post) A1 (i - c) o p ho' (by rw [hA', hAl, show c + (i - c) = i by omega]; exact hp)
  rw [hA', hAl, show c + (i - c) = i by omega] at this
  exact this
 have hstA : ∀ i, i ≤ c → dW A (fun j => Nat.blt j i) σ = dW A1 (fun j => Nat.blt j i) σ := by
  intro i hi
  have e : ∀ {β : Type} (pr : aF → List (Nat × β)) (f : Nat → β), lw pr (fun j => Nat.blt j i) A 0 f = lw pr (fun j => Nat.blt j i) A1 0 f := by
   intro β pr f
   rw [hAB, vK]
   have : ∀ (B : List (Nat × aF)) (k : Nat) (g : Nat → β), i ≤ k → lw pr (fun j => Nat.blt j i) B k g = g := by
    intro B
    induction B with
    | nil => intro k g _; rfl
    | cons q B ihB =>
     intro k g hk
     rw [lw, blt_eq, decide_eq_false (by omega), cond_false]
     exact ihB (k + 1) g (by omega)
   exact this B _ _ (by omega)
  unfold dW
  rw [e, e]
 have hE0 : ∀ q : Nat × aF, q ∈ AI → ∀ j p, j < c → A1[j]? = some p → gC p.2 q.2 = true ∧ gD p.2 q.2 = true := by
  intro q hq j p hj hp
  have := List.all_eq_true.1 (hC1 j p (Nat.zero_le _) hp) q hq
  rwa [bq] at this
 have hG : ∀ i o p, ops[i]? = some o → A[i]? = some p → rE P n ops σ (fun i => Nat.blt i c || cE AI i) A i o p := by
  intro i o p ho hp
  rcases Nat.lt_or_ge i c with hi | hi
  ·have g := hG1 i o p ho (by rw [← hAlt i hi]; exact hp)
   refine ⟨fun _ => g.loc rfl, fun _ => by rw [hstA i (by omega)]; exact g.rs rfl, fun _ => by rw [hstA i (by omega)]; exact g.rb rfl, fun _ => g.fr rfl, ?_, g.edges, fun j q hj hq => g.ch j q hj (by rw [← hAlt j (by omega)]; exact hq)⟩
   rw [g.mask, hAB, List.take_append_of_le_length (by omega)]
  ·obtain ⟨k1, k2⟩ := hAge i o p hi ho hp
   have ke := zj ops.toList 0 i o m1 (by simpa using ho)
   rw [Nat.zero_add] at ke
   have hex : (Nat.blt i c || cE AI i) = true → ∃ L, lk AI i = some L ∧ p.2 = L := by
    intro hx
    rw [blt_eq, decide_eq_false (by omega), Bool.false_or] at hx
    obtain ⟨L, hL⟩ := hlks i hx
    exact ⟨L, hL, by rw [k1]; unfold mH; rw [hL]; rfl⟩
   refine ⟨fun hx => ?_, fun hx => ?_, fun hx => ?_, fun hx => ?_, k2, ke, fun j q hj hq => ?_⟩
   ·obtain ⟨L, h1, h2⟩ := hex hx
    rw [h2]; exact hAI i L h1 o ho
   ·obtain ⟨L, h1, h2⟩ := hex hx
    rw [h2, (hAIc _ (hAIm h1)).2.1]; exact True.intro
   ·obtain ⟨L, h1, h2⟩ := hex hx
    rw [h2, (hAIc _ (hAIm h1)).2.2]; exact True.intro
   ·obtain ⟨L, h1, h2⟩ := hex hx
    rw [h2]; exact hAF i L h1
   ·cases hli : lk AI i with
    | none =>
     have : p.2 = e0 := by rw [k1]; unfold mH; rw [hli]; rfl
     rw [this]
     exact ⟨(tC _).2.2.1, .inr (tC _).1⟩
    | some L =>
     have hpL : p.2 = L := by rw [k1]; unfold mH; rw [hli]; rfl
     rw [hpL]
     rcases Nat.lt_or_ge j c with hjc | hjc
     ·obtain ⟨h1, h2⟩ := hE0 _ (hAIm hli) j q hjc (by rw [← hAlt j hjc]; exact hq)
      exact ⟨h1, .inr h2⟩
     ·have hjo : j < ops.size := by have := (Array.getElem?_eq_some_iff.1 ho).1; omega
      obtain ⟨j1, _⟩ := hAge j _ q hjc (Array.getElem?_eq_getElem hjo) hq
      cases hlj : lk AI j with
      | none =>
       have : q.2 = e0 := by rw [j1]; unfold mH; rw [hlj]; rfl
       rw [this]
       exact ⟨(tC _).2.2.2, .inr (tC _).2.1⟩
      | some L' =>
       have hqL : q.2 = L' := by rw [j1]; unfold mH; rw [hlj]; rfl
       rw [hqL]
       have := List.all_eq_true.1 (List.all_eq_true.1 m7 _ (hAIm hlj)) _ (hAIm hli)
       simp only [Bool.or_eq_true, Nat.beq_eq, bq] at this
       rcases this with h | h
       ·omega
       ·exact ⟨h.1, .inr h.2⟩
 have hpl : (fS (ops.toList.take c) []).length = c := by rw [vG, br]; simp; omega
 have m2 : kE (ops.toList.take c) 0 = true := zo _ _ _ m1
 have hmk : (A.take c).map (·.1) = (fS (ops.toList.take c) []).map (·.1) := by
  refine RF (ops := ops) (by rw [br, hpl]; omega) (fun i p hp => ?_) (fun i p hp => ?_)
  ·have hi : i < c := by have := (List.getElem?_eq_some_iff.1 hp).1; rw [br] at this; omega
   have hio : i < ops.size := by omega
   rw [List.getElem?_take_of_lt hi] at hp
   refine ⟨_, Array.getElem?_eq_getElem hio, ?_⟩
   rw [(hG i _ p (Array.getElem?_eq_getElem hio) hp).mask, List.take_take, Nat.min_eq_left (by omega)]
  ·have hi : i < c := by rw [← hpl]; exact (List.getElem?_eq_some_iff.1 hp).1
   have hio : i < ops.size := by omega
   exact ⟨_, Array.getElem?_eq_getElem hio, (EO (P := P) (n := n) (σ0 := σ) (by omega) m2 i _ p (Array.getElem?_eq_getElem hio) hp).mask⟩
 have hmoc : dk oc.after.toList (A.take c) = dk oc.after.toList (fS (ops.toList.take c) []) := zp _ _ _ hmk
 have hrepl : ∀ i, (Array.replicate ops.size false).getD i false = false := fun i => by
  rw [Array.getD_eq_getD_getElem?, Array.getElem?_replicate]
  split <;> rfl
 refine wp_region_any hm (yX (h0 := h0) (w0 := w0) (Fz0 := Fz0) (ini := fun _ => false) (Q := fun e a' w' => ∃ τ, Q e τ ∧ bn h0 w0 Fz0 n τ a' w') hAlen hG ?_ ?_ ops.size _ a _ (by simp) ?_ ?_ (fun i _ => hrepl i) ?_)
 ·intro fuel listed a' w' hsz' hcnt hini hcl hc' i hi hli hex he
  rw [Bool.or_eq_false_iff, blt_eq, decide_eq_false_iff_not] at hex
  obtain ⟨hic, hin⟩ := hex
  have hunl : ∀ j, c ≤ j → cE AI j = false → listed.getD j false = false := fun j hj hjn => hini j (by rw [Bool.or_eq_false_iff, blt_eq, decide_eq_false_iff_not]; exact ⟨by omega, hjn⟩)
  by_cases hic' : i = c
  ·subst hic'
   unfold wpOp
   rw [hoc]
   have hall : ∀ j, j < i → listed.getD j false = true := by
    intro j hj
    have hp := List.getElem?_eq_getElem (show i < A.length by omega)
    have g := hG i oc _ hoc hp
    refine tp (Nat.le_of_eq hAlen) hG (S := fun i => listed.getD i false) hcl i oc _ hoc hp (he oc hoc) j ?_
    rw [g.mask, hmoc]
    exact EP m3 hj
   have hset : ∀ j, (listed.setIfInBounds i true).getD j false = (if j = i then true else listed.getD j false) := by
    intro j
    by_cases hj : j = i
    ·subst hj
     rw [if_pos rfl, Array.getD_eq_getD_getElem?, Array.getElem?_setIfInBounds_self]
     rw [if_pos (by omega)]; rfl
    ·rw [if_neg hj, Array.getD_eq_getD_getElem?, Array.getD_eq_getD_getElem?, Array.getElem?_setIfInBounds_ne (by omega)]
   have hlwA : ∀ {β : Type} (pr : aF → List (Nat × β)) (f : Nat → β), lw pr (fun j => listed.getD j false) A 0 f = lw pr (fun j => listed.getD j false) B i (lw pr (fun _ => true) A1 0 f) := by
    intro β pr f
    rw [hAB, vK, Nat.zero_add, hAl]
    congr 1
    exact zl pr A1 A1 0 f rfl (fun j hj => by rw [Nat.zero_add]; exact hall j (by omega)) (fun j p q hp hq _ => by rw [hp] at hq; injection hq with hq; rw [hq])
   have hBe : ∀ k p, B[k]? = some p → listed.getD (i + k) false = true → (i + k, p.2) ∈ AI ∧ lk AI (i + k) = some p.2 := by
    intro k p hp hs
    have hik : i + k < ops.size := by have := (List.getElem?_eq_some_iff.1 hp).1; simp [hBl] at this; omega
    have hpA : A[i + k]? = some p := by rw [hAB, List.getElem?_append_right (by omega), hAl, show i + k - i = k by omega]; exact hp
    obtain ⟨k1, _⟩ := hAge (i + k) _ p (by omega) (Array.getElem?_eq_getElem hik) hpA
    cases hin' : cE AI (i + k)
    ·rw [hunl (i + k) (by omega) hin'] at hs; cases hs
    ·obtain ⟨L, hL⟩ := hlks _ hin'
     have : p.2 = L := by rw [k1]; unfold mH; rw [hL]; rfl
     rw [this]
     exact ⟨hAIm hL, hL⟩
   have hExt : zm AI (dW A1 (fun _ => true) σ) (dW A (fun j => listed.getD j false) σ) := by
    intro x hx
    show lw aF.ws (fun j => listed.getD j false) A 0 σ.s x = lw aF.ws (fun _ => true) A1 0 σ.s x
    rw [hlwA]
    have : ∀ (B : List (Nat × aF)) (k : Nat) (g : Nat → Option RV), (∀ (j : Nat) (p : Nat × aF), B[j]? = some p → listed.getD (k + j) false = true → cE p.2.ws x = false) → lw aF.ws (fun j => listed.getD j false) B k g x = g x := by
     intro B
     induction B with
     | nil => intro k g _; rfl
     | cons q B ihB =>
      intro k g hB
      rw [lw, ihB (k + 1) _ fun j p hp hs => hB (j + 1) p (by simpa using hp) (by rw [show k + (j + 1) = k + 1 + j by omega]; exact hs)]
      cases hs : listed.getD k false
      ·rfl
      ·exact nz (hB 0 q rfl (by simpa using hs))
    exact this B i _ fun j p hp hs => hx (i + j, p.2) (hBe j p hp hs).1
   have hmidK := hqs (dW A (fun j => listed.getD j false) σ) a' w' (wpAny P .any ops (fun e a' w' => ∃ τ, Q e τ ∧ bn h0 w0 Fz0 n τ a' w') fuel (listed.setIfInBounds i true)) (fun e a' w' => ∃ τ, Q e τ ∧ bn h0 w0 Fz0 n τ a' w') hc' hExt (fun u a2 w2 hc2 hu hrun => by
    have hp1 : (fS (ops.toList.take (i + 1)) []).length = i + 1 := by rw [vG, br]; simp; omega
    have hall0 : ∀ (j : Nat) (q : Nat × aF), (fS (ops.toList.take (i + 1)) [])[j]? = some q → q.2 = e0 := by
     intro j q hq
     have hj : j < i + 1 := by rw [← hp1]; exact (List.getElem?_eq_some_iff.1 hq).1
     have hoj : (ops.toList.take (i + 1))[j]? = some ops[j] := by rw [List.getElem?_take_of_lt hj]; simp
     exact (vH _ [] j _ q hoj (by simpa using hq)).1
    obtain ⟨A2, hA2, htk2, hqs2, hC2, hG2⟩ := yW (P := P) (n := n) (ex := fun j => Nat.blt (i + 1 - 1) j && Nat.blt 0 (i + 1)) post [] (pre ++ [oc]) (fS (ops.toList.take (i + 1)) []) _ (by rw [hops]; simp) (by rw [hp1]; simp [hc]) (by
      unfold dW
      rw [vJ aF.ws rfl _ _ _ _ fun j q hq _ => hall0 j q hq, vJ aF.wb rfl _ _ _ _ fun j q hq _ => hall0 j q hq]) (EO (by omega) (zo _ _ _ m1)) hrun
    have hA2 : A2.length = ops.size := by simpa using hA2
    have hA2B : A2 = fS (ops.toList.take (i + 1)) [] ++ A2.drop (i + 1) := by
     rw [← htk2, hp1, fc]
    have hex2 : ∀ j, (Nat.blt (i + 1 - 1) j && Nat.blt 0 (i + 1)) = false → j < i + 1 := by
     intro j hj
     rw [blt_eq, blt_eq, decide_eq_true (show 0 < i + 1 by omega), Bool.and_true, decide_eq_false_iff_not] at hj
     omega
    refine yX (ini := fun _ => true) hA2 hG2 (fun fuel listed2 a w _ _ hini2 _ _ j hj hlj hexj _ => by rw [hini2 j hexj] at hlj; cases hlj) (fun listed a w _ _ hc' => ⟨_, hqs2, hc'⟩) fuel _ a2 w2 (by simpa using hsz') ?_ ?_ ?_ ?_
    ·have hc1 : (List.range ops.size).countP (fun j => !(listed.setIfInBounds i true).getD j false) + 1 ≤ (List.range ops.size).countP (fun j => !listed.getD j false) := by
      have key : ∀ (l : List Nat), l.Nodup → i ∈ l → l.countP (fun j => !(listed.setIfInBounds i true).getD j false) + 1 ≤ l.countP (fun j => !listed.getD j false) := by
       have mono : ∀ (l : List Nat), l.countP (fun j => !(listed.setIfInBounds i true).getD j false) ≤ l.countP (fun j => !listed.getD j false) := by
        intro l
        refine List.countP_mono_left fun j _ hj => ?_
        rw [hset] at hj
        split at hj
        ·simp at hj
        ·exact hj
       intro l
       induction l with
       | nil => intro _ h; simp at h
       | cons x l ihl =>
        intro hnd hmm
        rw [List.countP_cons, List.countP_cons]
        rcases List.mem_cons.1 hmm with rfl | hmm
        ·have := mono l
         rw [hset i, if_pos rfl, hli]
         exact Nat.add_le_add_right this 1
        ·have := ihl (List.nodup_cons.1 hnd).2 hmm
         have hxi : x ≠ i := fun e => (List.nodup_cons.1 hnd).1 (e ▸ hmm)
         rw [hset x, if_neg hxi]
         omega
      exact key _ List.nodup_range (List.mem_range.2 hi)
     omega
    ·intro j o ho hs e he' hb
     rw [hset] at hs ⊢
     by_cases hji : j = i
     ·subst hji
      have := he o ho e he' hb
      split
      ·rfl
      ·exact this
     ·rw [if_neg hji] at hs
      have := hcl j o ho hs e he' hb
      split
      ·rfl
      ·exact this
    ·intro j hj
     have := hex2 j hj
     rw [hset]
     split
     ·rfl
     ·exact hall j (by omega)
    ·have hB1 : B.length = 1 + post.length := by simp [hBl]; omega
     have hB0 : ∃ b0 Bt, B = b0 :: Bt := by
      cases B with
      | nil => simp at hB1; omega
      | cons b0 Bt => exact ⟨b0, Bt, rfl⟩
     obtain ⟨b0, Bt, rfl⟩ := hB0
     have hBt : Bt.length = post.length := by simp at hB1; omega
     have heq : ∀ {β : Type} (pr : aF → List (Nat × β)) (hpr : pr e0 = []) (g : Nat → β), lw pr (fun j => (listed.setIfInBounds i true).getD j false) A2 0 g = lw pr (fun j => listed.getD j false) Bt (i + 1) g := by
      intro β pr hpr g
      rw [hA2B, vK, vJ pr hpr _ _ _ _ (fun j q hq _ => hall0 j q hq), Nat.zero_add, hp1]
      ·refine zl pr _ _ (i + 1) g ?_ (fun j _ => ?_) (fun j p q hp hq hs => ?_)
       ·rw [gm, hA2, hBt]; omega
       ·rw [hset, if_neg (by omega)]
       ·rw [hset, if_neg (by omega)] at hs
        obtain ⟨_, h2⟩ := hBe (j + 1) q (by simpa using hq) (by rw [show i + (j + 1) = i + 1 + j by omega]; exact hs)
        rw [List.getElem?_drop] at hp
        exact hC2 (i + 1 + j) p (by rw [hp1]; omega) hp q.2 (by rw [show i + 1 + j = i + (j + 1) by omega]; exact h2)
     have hskip : ∀ {β : Type} (pr : aF → List (Nat × β)) (g : Nat → β), lw pr (fun j => listed.getD j false) (b0 :: Bt) i g = lw pr (fun j => listed.getD j false) Bt (i + 1) g := by
      intro β pr g
      rw [lw, hunl i (by omega) hin, cond_false]
     refine bn.eqv hc2 (fun x => ?_) (fun x => ?_)
     ·show lw aF.ws _ A2 0 (bM u (lw aF.ws (fun _ => true) A1 0 σ.s)) x = bM u (lw aF.ws (fun j => listed.getD j false) A 0 σ.s) x
      rw [heq aF.ws rfl, hlwA, hskip, EM aF.ws _ Bt (i + 1) _ (fun j p hp hs y hy => ?_)]
      exact hu _ (hBe (j + 1) p (by simpa using hp) (by rw [show i + (j + 1) = i + 1 + j by omega]; exact hs)).1 y hy
     ·show lw aF.wb _ A2 0 (lw aF.wb (fun _ => true) A1 0 σ.b) x = lw aF.wb (fun j => listed.getD j false) A 0 σ.b x
      rw [heq aF.wb rfl, hlwA, hskip])
   show if _ then _ else _
   have hw : Region.wanted oc (yielded ops a'.tmps) = true := by simp [Region.wanted, hg]
   rw [if_pos hw]
   exact .inl hmidK
  ·exfalso
   have hio := Array.getElem?_eq_getElem hi
   obtain ⟨e, g1, g2, g3, g4⟩ := EQ post (c + 1) (i - (c + 1)) _ m5 (hpost i _ hio (by omega)) (by rw [show c + 1 + (i - (c + 1)) = i by omega]; exact hin)
   have := he _ hio e g1 g2
   rw [hunl _ g3 g4] at this; cases this
 ·intro listed a' w' hall hini _
  have hin : cE AI c = false := by
   cases h : cE AI c
   ·rfl
   ·obtain ⟨L, hL⟩ := hlks c h
    have := (hAIc _ (hAIm hL)).1
    simp at this
  have h1 := hini c (by rw [Bool.or_eq_false_iff, blt_eq, decide_eq_false_iff_not]; exact ⟨by omega, hin⟩)
  rw [hall c (by omega)] at h1; cases h1
 ·exact Nat.le_trans List.countP_le_length (by simp)
 ·intro i o _ hs
  rw [hrepl] at hs; cases hs
 ·have e : ∀ {β : Type} (pr : aF → List (Nat × β)) (f : Nat → β), lw pr (fun i => (Array.replicate ops.size false).getD i false) A 0 f = f := by
   intro β pr f
   have : (fun i => (Array.replicate ops.size false).getD i false) = fun _ => false := by
    funext i; exact hrepl i
   rw [this]
   have e : ∀ (A : List (Nat × aF)) (k : Nat) (h : Nat → β), lw pr (fun _ => false) A k h = h := by
    intro A
    induction A with
    | nil => intro k h; rfl
    | cons r A ih => intro k h; rw [lw]; exact ih _ _
   exact e A 0 f
  unfold dW
  rw [e, e]; exact hcon.drew
end
section
variable {P : Program} {n : Nat} {h0 : Nat → Prop} {w0 : World} {Fz0 : av} {ops : Array Oper}
def bD.pushG {σ : St} {a : Act} {w : World} {φ : Nat → Nat} {Fz : av} {Fp : Nat → List Nat} (h : bD h0 w0 Fz0 n σ a w φ Fz Fp) {G : Nat} {us : List Value} {cs : List PV} {F X : List Nat} (ho : aJ cs Fz w us F) (hX : ∀ b, b ∈ F ++ X → b ∈ Fp 0) (hn : (F ++ X).Nodup) :
  bD h0 w0 Fz0 n (σ.set G (some (RV.gh us cs))) a w φ Fz (cD Fp (2 * G + 1) F X) :=
 { h with
  slot := fun i rv hi => by
   rw [St.set_s] at hi
   split at hi
   ·rename_i e
    subst e
    injection hi with hi
    subst hi
    simp only [cD, if_true]
    exact ho
   ·rename_i e
    simp only [cD]
    rw [if_neg (by omega), if_neg (by omega)]
    exact h.slot i rv hi
  box := fun d bx hd => by
   obtain ⟨cur, h1, h2⟩ := h.box d bx hd
   refine ⟨cur, h1, ?_⟩
   simp only [cD]
   rw [if_neg (by omega), if_neg (by omega)]
   exact h2
  bxb := fun d bx hd => by
   obtain ⟨g1, g2, g3⟩ := h.bxb d bx hd
   refine ⟨g1, g2, fun r hr => ?_⟩
   rcases lI hr with ⟨_, k⟩ | ⟨_, _, k⟩ | ⟨_, _, k⟩
   ·exact g3 0 (hX _ (by simp [k]))
   ·exact g3 0 (hX _ (by simp [k]))
   ·exact g3 _ k
  inj := fun d d' cs cs' h1 h2 => h.inj d d' cs cs' h1 h2
  dis := vh (by omega) hX hn h.dis
  nod := vi hn h.nod
  low := fun r b hb => by
   rcases lI hb with ⟨_, k⟩ | ⟨_, _, k⟩ | ⟨_, _, k⟩
   ·exact h.low 0 b (hX _ (by simp [k]))
   ·exact h.low 0 b (hX _ (by simp [k]))
   ·exact h.low r b k }
def qg : List (List Value) → List (Bool × List PV) → List (Bool × List PV)
 | us :: uss, q :: l => (q.1, EI us) :: qg uss l
 | _, _ => []
def lL : Nat → List (List Value) → List (Bool × List PV) → List (Nat × Option RV)
 | G, us :: uss, q :: l => (G, some (RV.gh us q.2)) :: lL (G + 1) uss l
 | _, _, _ => []
def jr (Fz : av) (w : World) : List (List Value) → List (Bool × List PV) → Prop
 | [], [] => True
 | us :: uss, q :: l => bO q.2 Fz w us ∧ jr Fz w uss l
 | _, _ => False
def jr.cons {uss : List (List Value)} {q : Bool × List PV} {l : List (Bool × List PV)} (h : ∃ Fz w, jr Fz w uss (q :: l)) : ∃ us rest, uss = us :: rest ∧ us.length = q.2.length ∧ (∃ Fz w, bO q.2 Fz w us) ∧ ∃ Fz w, jr Fz w rest l := by
 obtain ⟨Fz, w, h⟩ := h
 cases uss with
 | nil => exact h.elim
 | cons us rest => exact ⟨us, rest, rfl, h.1.len, ⟨Fz, w, h.1⟩, ⟨Fz, w, h.2⟩⟩
def jr.nil {uss : List (List Value)} (h : ∃ Fz w, jr Fz w uss []) : uss = [] := by
 obtain ⟨Fz, w, h⟩ := h
 cases uss with
 | nil => rfl
 | cons _ _ => exact h.elim
def ET {Fz : av} {w : World} : ∀ {l : List (Bool × List PV)} {vs : List Value} {F : List Nat}, eD l Fz w vs F → ∃ (uss : List (List Value)) (Fs : List (List Nat)), jr Fz w uss l ∧ eD (qg uss l) Fz w vs [] ∧ F = Fs.flatten ∧ (∀ (i : Nat) (us : List Value) (q : Bool × List PV), uss[i]? = some us → l[i]? = some q → ∃ Fi, Fs[i]? = some Fi ∧ aJ q.2 Fz w us Fi) ∧ Fs.length = l.length
 | [], vs, F, h => ⟨[], [], True.intro, by obtain ⟨rfl, rfl⟩ := h; exact ⟨rfl, rfl⟩, h.2, by simp, rfl⟩
 | q :: l, vs, F, h => by
  obtain ⟨v, vs', F1, F2, rfl, rfl, h1, h2⟩ := h
  obtain ⟨uss, Fs, k1, k2, rfl, k4, k5⟩ := ET h2
  refine ⟨v.cells.toList :: uss, F1 :: Fs, ⟨h1.2.rel, k1⟩, ⟨v, vs', [], [], rfl, rfl, ⟨h1.1, RA h1.2.one⟩, k2⟩, by simp, ?_, by simp [k5]⟩
  intro i us q' hu hq
  cases i with
  | zero => simp at hu hq; subst hu hq; exact ⟨F1, rfl, h1.2⟩
  | succ i => simpa using k4 i us q' (by simpa using hu) (by simpa using hq)
def EU : ∀ {l : List (Bool × List PV)} {uss : List (List Value)} {Fs : List (List Nat)} {X : List Nat} {G : Nat} {σ : St} {a : Act} {w : World} {φ : Nat → Nat} {Fz : av} {Fp : Nat → List Nat}, bD h0 w0 Fz0 n σ a w φ Fz Fp → jr Fz w uss l →
  (∀ (i : Nat) (us : List Value) (q : Bool × List PV), uss[i]? = some us → l[i]? = some q → ∃ Fi, Fs[i]? = some Fi ∧ aJ q.2 Fz w us Fi) → Fs.length = l.length → (∀ b, b ∈ Fs.flatten ++ X → b ∈ Fp 0) → (Fs.flatten ++ X).Nodup → bn h0 w0 Fz0 n (σ.wr (lL G uss l)) a w
 | [], [], _, _, _, _, _, _, _, _, _, h, _, _, _, _, _ => ⟨_, _, _, h⟩
 | q :: l, us :: uss, [], X, G, σ, a, w, φ, Fz, Fp, h, hr, ho, hl, hX, hn => by simp at hl
 | q :: l, us :: uss, F1 :: Fs, X, G, σ, a, w, φ, Fz, Fp, h, hr, ho, hl, hX, hn => by
  obtain ⟨Fi, e1, e2⟩ := ho 0 us q rfl rfl
  simp at e1
  subst e1
  rw [List.flatten_cons, bw] at hX hn
  have k := h.pushG (G := G) (us := us) (cs := q.2) (F := F1) (X := Fs.flatten ++ X) e2 hX hn
  show bn h0 w0 Fz0 n ((σ.set G (some (RV.gh us q.2))).wr (lL (G + 1) uss l)) a w
  refine EU (X := X) k hr.2 (fun i us' q' hu hq => by simpa using ho (i + 1) us' q' (by simpa using hu) (by simpa using hq)) (by simpa using hl) ?_ ?_
  ·intro b hb
   have : cD Fp (2 * G + 1) F1 (Fs.flatten ++ X) 0 = Fs.flatten ++ X := by simp [cD]
   rw [this]; exact hb
  ·rw [cm] at hn; exact hn.2.1
def EV : ∀ {uss : List (List Value)} {l : List (Bool × List PV)} {G x : Nat}, cE (lL G uss l) x = true → x ∈ List.range' G l.length
 | [], l, G, x, h => by cases l <;> simp [lL, cE] at h
 | us :: uss, [], G, x, h => by simp [lL, cE] at h
 | us :: uss, q :: l, G, x, h => by
  rw [lL, tm, Bool.or_eq_true, Nat.beq_eq] at h
  rw [List.length_cons, List.range'_succ, jQ]
  rcases h with h | h
  ·exact .inl h.symm
  ·exact .inr (EV h)
def bb.ext {AI : List (Nat × aF)} {σ τ : St} (h : zm AI σ τ) : ∀ {l : List (Nat × RV)}, (AI.all fun q => !gn q.2.ws l) = true → bb l σ.s → bb l τ.s := by
 intro l hm hr
 refine bb.of_mem fun p hp => ?_
 rw [h p.1 fun q hq => ?_]
 ·exact hr.mem p hp
 ·have := List.all_eq_true.1 hm q hq
  rw [Bool.not_eq_true'] at this
  cases hx : cE q.2.ws p.1
  ·rfl
  ·have h2 := vj this p.1 hx
   rw [yT hp] at h2; cases h2
def EW {f d G : Nat} {AI : List (Nat × aF)} {args : Array Operand} {tys : Array TypeId} {ty : TypeId} {pos : String} {af : Array Edge} {post : List Oper} {acc : List (Nat × aF)} {QS : St → Prop} {σ : St} {qs as_ l : List (Bool × List PV)} (hd : d < n) (hf : ax P f = true) (hr : bb (iM args.toList qs) σ.s) (hok : ky args.toList qs) (hto : kC qs as_) (hs : aB P f as_ (RV.tup l))
  (hk1 : (AI.all fun q => !gn q.2.ws (iM args.toList qs)) = true) (hk2 : RE AI (d :: List.range' G l.length) = true)
  (h : ∀ uss, (∃ Fz w, jr Fz w uss l) → cb P n ops (σ.wr ((d, some (RV.tup (qg uss l))) :: lL G uss l)) (fun j L => ∀ L', lk AI j = some L' → L = L') QS post acc (σ.wr ((d, some (RV.tup (qg uss l))) :: lL G uss l))) :
  EN P n h0 w0 Fz0 ops AI ⟨some d, .call { callee := .value (.func f), args := args, argTypes := tys }, ty, pos, af, none⟩ post acc QS σ := by
 intro τ a w K Q hc hExt h5
 obtain ⟨φ, Fz, Fp, hc⟩ := hc
 have hrel := hto.rel (hc.relT (hr.ext hExt hk1) hok)
 have hrun : (execOp a.eval ⟨some d, .call { callee := .value (.func f), args := args, argTypes := tys }, ty, pos, af, none⟩).run P w = .ok (.enter f (args.toList.map a.eval).toArray) w := by
  unfold execOp
  have e : (#[] ++ args.map a.eval ++ #[] : Array Value) = (args.toList.map a.eval).toArray := by apply Array.ext'; simp
  simp only [resolve, Act.eval, Deferred.ofValue, Sem.run_bind, Sem.run_pure, Result.andThen_ok, invoke]
  rw [tr hf, e]
 unfold Oper.wp
 rw [hrun, Oper.upon_enter]
 refine (hs w _ Fz hc.fzl hrel).mono ?_
 rintro e w' ⟨v, Fz', F, rfl, hb, hz1, hz2, hv, hn, hF⟩
 obtain ⟨vs, rfl, hvs⟩ := hv φ
 obtain ⟨uss, Fs, k1, k2, rfl, k4, k5⟩ := ET hvs
 have k := hc.world (w' := w') (Fz' := Fz') (X := Fs.flatten) hb.os hb.tape hb.output hb.size (fun b hb' _ => ⟨hb.block b hb', fun o ho => (hz1 b o hb').1 ho⟩)
  (fun b o ho => ⟨(hz1 b o (hc.fzl b o ho)).2 ho, World.cell?_of_block (hb.block b (hc.fzl b o ho))⟩) hz2 (fun b hb' => .inr (hF b hb')) hn
 have c1 := k.push (i := d) (rv := RV.tup (qg uss l)) (v := .tuple vs) (F := []) (X := Fs.flatten) hd ⟨vs, rfl, k2⟩ (fun b hb => by simpa using hb) (by simpa using hn)
 have c2 : bn h0 w0 Fz0 n ((τ.set d (some (RV.tup (qg uss l)))).wr (lL G uss l)) (a.put (some d) (.tuple vs)) w' := EU (G := G) (X := []) c1 k1 k4 k5 (fun b hb => by simpa [cD] using hb) (by simpa using hn)
 refine h5 ((d, some (RV.tup (qg uss l))) :: lL G uss l) _ _ c2 (fun q hq x hx => ?_) (h uss ⟨Fz', w', k1⟩)
 have hk := List.all_eq_true.1 (List.all_eq_true.1 hk2 q hq) x (by
  rw [tm, Bool.or_eq_true, Nat.beq_eq] at hx
  rcases hx with hx | hx
  ·simp [← hx]
  ·exact List.mem_cons_of_mem _ (EV hx))
 simpa using hk
def cS.wr {d : Nat} {σ : St} {u : List (Nat × Option RV)} (h : cS d σ) (hu : yU d u = true) : cS d (σ.wr u) := cS.app (L := ⟨[], [], u, [], none⟩) h hu
def pk {t d i : Nat} {ty : TypeId} {pos : String} {af : Array Edge} {g : Option (Nat × Bool)} {l : List (Bool × List PV)} {ag : Bool} {cs : List PV} (hd : d < n) (hi : l[i]? = some (ag, cs)) (hb : an cs) :
  Loc P n ⟨some d, .extract (.tmp t) i, ty, pos, af, g⟩ ⟨[(t, RV.tup l)], [], [(d, some (RV.sv ag cs))], [], none⟩ := by
 intro h0 w0 Fz0 σ a w K Q hc hr _ _ h5
 obtain ⟨φ, Fz, Fp, hc⟩ := hc
 obtain ⟨vs, ev, hvs⟩ := hc.slot t _ hr.1
 obtain ⟨v, F1, F2, hv, h1, _⟩ := hvs.take hi (am.refl cs) hb (hc.nod _)
 have hown : bQ ag cs Fz w v [] := ⟨h1.1, hb.own h1.2.rel⟩
 refine dE (v := v) (w' := w) ?_ (h5 _ _ (hc.put0 hd hown))
 have ev' : a.eval (.tmp t) = .tuple vs := ev
 unfold execOp
 have hv' : vs[i]? = some v := by simpa using hv
 simp [ev', Instr.extract, hv']
end
end
section
def fC.mono {Fz Fz' : av} {w w' : World} (k : fP Fz w Fz' w') : ∀ {l : List (Bool × List PV)} {vs : List Value}, fC l Fz w vs → fC l Fz' w' vs
 | [], _, h => h
 | p :: l, vs, h => by
  obtain ⟨v, vs', rfl, h1, h2⟩ := h
  exact ⟨v, vs', rfl, ⟨h1.1, h1.2.mono k⟩, h2.mono k⟩
def fC.app {Fz : av} {w : World} : ∀ {l m : List (Bool × List PV)} {vs us : List Value}, fC l Fz w vs → fC m Fz w us → fC (l ++ m) Fz w (vs ++ us)
 | [], m, vs, us, h, k => by rw [show vs = [] from h]; exact k
 | p :: l, m, vs, us, h, k => by
  obtain ⟨v, vs', rfl, h1, h2⟩ := h
  exact ⟨v, vs' ++ us, rfl, h1, h2.app k⟩
def PV.clo (P : Program) {γ : Type} (as_ : γ → List (Bool × List PV)) (r : γ → RV) : PV where
 rel Fz w v := ∃ (f : FuncId) (cap : Array Value) (caps : List (Bool × List PV)), v = .func (.func f) #[] cap ∧ ax P f = true ∧ fC caps Fz w cap.toList ∧ ∀ x, aB P f (as_ x ++ caps) (r x)
 own Fz w v F := (∃ (f : FuncId) (cap : Array Value) (caps : List (Bool × List PV)), v = .func (.func f) #[] cap ∧ ax P f = true ∧ fC caps Fz w cap.toList ∧ ∀ x, aB P f (as_ x ++ caps) (r x)) ∧ F = []
 one h := by obtain ⟨f, cap, caps, rfl, _⟩ := h; rfl
 toRel h := h.1
 relMono h k := by obtain ⟨f, cap, caps, h1, h2, h3, h4⟩ := h; exact ⟨f, cap, caps, h1, h2, h3.mono k, h4⟩
 ownMono h k _ := by obtain ⟨⟨f, cap, caps, h1, h2, h3, h4⟩, h5⟩ := h; exact ⟨⟨f, cap, caps, h1, h2, h3.mono k, h4⟩, h5⟩
 lt h := by rw [h.2]; simp
def PV.bor_clo {P : Program} {γ : Type} (as_ : γ → List (Bool × List PV)) (r : γ → RV) : (PV.clo P as_ r).Bor := fun h => ⟨h, rfl⟩
def PV.ep (cs : List PV) : PV where
 rel Fz w v := ∃ b off vs, v = .pointer (some ⟨b, off, none⟩) ∧ bO cs Fz w vs ∧ ∀ (j : Nat) u, vs[j]? = some u → Fz b (off + j) ∧ w.cell? ⟨b, off + j, none⟩ = some u
 own Fz w v F := (∃ b off vs, v = .pointer (some ⟨b, off, none⟩) ∧ bO cs Fz w vs ∧ ∀ (j : Nat) u, vs[j]? = some u → Fz b (off + j) ∧ w.cell? ⟨b, off + j, none⟩ = some u) ∧ F = []
 one h := by obtain ⟨b, off, vs, rfl, _⟩ := h; rfl
 toRel h := h.1
 relMono h k := by
  obtain ⟨b, off, vs, hv, hr, hc⟩ := h
  exact ⟨b, off, vs, hv, hr.mono k, fun j u hu => ⟨(k _ _ (hc j u hu).1).1, (k _ _ (hc j u hu).1).2.trans (hc j u hu).2⟩⟩
 ownMono h k _ := by
  obtain ⟨⟨b, off, vs, hv, hr, hc⟩, hF⟩ := h
  exact ⟨⟨b, off, vs, hv, hr.mono k, fun j u hu => ⟨(k _ _ (hc j u hu).1).1, (k _ _ (hc j u hu).1).2.trans (hc j u hu).2⟩⟩, hF⟩
 lt h := by rw [h.2]; simp
def PV.bor_ep (cs : List PV) : (PV.ep cs).Bor := fun h => ⟨h, rfl⟩
section
variable {P : Program} {n : Nat}
end
section
variable {P : Program} {n : Nat} {h0 : Nat → Prop} {w0 : World} {Fz0 : av} {σ : St} {Q : Exit → St → Prop} {c : Code}
end
end
end Go.Proofs.YtmekkgdboplbjaaGreat.M
namespace Go.Proofs.YtmekkgdboplbjaaGreat.M
open Go Go.RowKit
section
section
variable {P : Program} {n : Nat}
def EX {Fz : av} {w : World} : ∀ {xs : List Value} {l : List Value} {F : List Nat}, aJ (xs.map PV.val) Fz w l F → l = xs
 | [], l, F, h => h.1
 | x :: xs, l, F, h => by
  obtain ⟨v, vs', F1, F2, rfl, _, h1, h2⟩ := h
  rw [EX h2, h1.1.1]
def EY {Fz : av} {w : World} {xs : List Value} {v : Value} {F : List Nat} (h : bQ true (xs.map PV.val) Fz w v F) : v = .agg xs.toArray := by
 obtain ⟨h1, h2⟩ := h
 have h3 := EX h2
 cases v <;> simp [mC] at h1
 rename_i c
 have : c.toList = xs := h3
 rw [← this]
def RG {op : BinOp} {T T2 : TypeId} {x y : Nat} {d : Nat} {ty : TypeId} {pos : String} {af : Array Edge} {g : Option (Nat × Bool)} (xs ys : List Value) {r : Bool} (hd : d < n)
  (h : ∀ w : World, Sem.run P (do eqGuard op T (.tmp x) (.tmp y) (.agg xs.toArray) (.agg ys.toArray); binOp op T (.agg xs.toArray) (.agg ys.toArray) : Sem Value) w = .ok (.bool r) w) :
  Loc P n ⟨some d, .binOp op T (.tmp x) (.tmp y) T2, ty, pos, af, g⟩ ⟨[(x, RV.sv true (xs.map PV.val)), (y, RV.sv true (ys.map PV.val))], [], [(d, some (RV.bool r))], [], none⟩ := by
 intro h0 w0 Fz0 σ a w K Q h1 h2 _ _ h5
 obtain ⟨φ, Fz, Fp, hc⟩ := h1
 have ex : a.eval (.tmp x) = .agg xs.toArray := EY (hc.slot x _ h2.1)
 have ey : a.eval (.tmp y) = .agg ys.toArray := EY (hc.slot y _ h2.2.1)
 refine dE (v := .bool r) (w' := w) ?_ (h5 _ _ (hc.put0 hd (bQ.of_sc rfl)))
 unfold execOp
 simp only [ex, ey, Sem.run_bind, h, Result.andThen_ok, Sem.run_pure]
def RH {T : TypeId} {x y : Operand} {i j : Int} {w : World} (h : j ≠ 0) : Sem.run P (do eqGuard .rem T x y (vI i) (vI j); binOp .rem T (vI i) (vI j) : Sem Value) w = .ok (vI (i.tmod j)) w := by
 simp [eqGuard, binOp, Op.intDiv, h]
def zq {T T2 : TypeId} {x y : Operand} {d : Nat} {ty : TypeId} {pos : String} {af : Array Edge} {g : Option (Nat × Bool)} {i j : Int} (hd : d < n) (hx : cg x (RV.int i)) (hy : cg y (RV.int j)) (h : j ≠ 0) :
  Loc P n ⟨some d, .binOp .rem T x y T2, ty, pos, af, g⟩ ⟨bH x (RV.int i) ++ bH y (RV.int j), [], [(d, some (RV.int (i.tmod j)))], [], none⟩ := lJ hd hx hy rfl fun _ => RH h
end
end
section
section
variable {P : Program} {n : Nat} {ops : Array Oper} {σ : St} {QS : St → Prop} {o : Oper} {l : List Oper}
def ar.s1 {L : aF} (h1 : bb L.rs σ.s := by repeat (first | exact True.intro | refine And.intro rfl ?_)) (h2 : bb L.rb σ.b := by repeat (first | exact True.intro | refine And.intro rfl ?_)) (x : Loc P n o L) (y : ar P n ops QS l (σ.app L)) (hg : o.guard = none := by exact rfl) (ha : L.al = none := by exact rfl) : ar P n ops QS (o :: l) σ :=
 ar.step h1 h2 (ay.of hg x) (fun d hd => by rw [ha] at hd; cases hd) y
def ar.s0f {g s d : Nat} {c : Bool} (hb : c = false) (h5 : ar P n ops QS l (σ.app ⟨[(s, RV.bool c)], [], [(d, some RV.und)], [], none⟩)) (hg : o.guard = some (g, true) := by exact rfl) (hs : (ops[g]?).bind (·.dst) = some s := by exact rfl) (hlt : s < n := by decide) (hd : o.dst = some d := by exact rfl)
  (h1 : σ.s s = some (RV.bool c) := by exact rfl) : ar P n ops QS (o :: l) σ :=
 ar.step (L := ⟨[(s, RV.bool c)], [], [(d, some RV.und)], [], none⟩) ⟨h1, True.intro⟩ True.intro (ay.no hg hs hlt hb hd) aG h5
def ar.s0t {g s d : Nat} {c : Bool} (hb : c = true) (h5 : ar P n ops QS l (σ.app ⟨[(s, RV.bool c)], [], [(d, some RV.und)], [], none⟩)) (hg : o.guard = some (g, false) := by exact rfl) (hs : (ops[g]?).bind (·.dst) = some s := by exact rfl) (hlt : s < n := by decide) (hd : o.dst = some d := by exact rfl)
  (h1 : σ.s s = some (RV.bool c) := by exact rfl) : ar P n ops QS (o :: l) σ :=
 ar.step (L := ⟨[(s, RV.bool c)], [], [(d, some RV.und)], [], none⟩) ⟨h1, True.intro⟩ True.intro (ay.no hg hs hlt hb hd) aG h5
def ar.su {g s d : Nat} {b : Bool} (h5 : ar P n ops QS l (σ.app ⟨[(s, RV.und)], [], [(d, some RV.und)], [], none⟩)) (hg : o.guard = some (g, b) := by exact rfl) (hs : (ops[g]?).bind (·.dst) = some s := by exact rfl) (hd : o.dst = some d := by exact rfl)
  (h1 : σ.s s = some RV.und := by exact rfl) : ar P n ops QS (o :: l) σ :=
 ar.step (L := ⟨[(s, RV.und)], [], [(d, some RV.und)], [], none⟩) ⟨h1, True.intro⟩ True.intro (ay.noU hg hs hd) aG h5
end
def q1 {p : Prop} [Decidable p] : (decide p = true) = p := decide_eq_true_eq
def q2 {p : Prop} [Decidable p] : decide p = false ↔ ¬ p := decide_eq_false_iff_not
def q3 {α : Type} [BEq α] [LawfulBEq α] {a b : α} : (a != b) = true ↔ a ≠ b := bne_iff_ne
def q4 {α : Type} [BEq α] [LawfulBEq α] {a b : α} : (a == b) = true ↔ a = b := beq_iff_eq
def q5 {b : Bool} : ((!b) = true) = (b = false) := Bool.not_eq_true' b
def q6 {b : Bool} : ((!b) = false) = (b = true) := Bool.not_eq_false' b
def q7 {α : Type} {a b : α} : (a ≠ b) = ¬ a = b := ne_eq a b
def q8 {α : Type} [BEq α] [LawfulBEq α] {a b : α} : (a != b) = false ↔ a = b := bne_eq_false_iff_eq
def q9 {α : Type} [BEq α] [LawfulBEq α] {a b : α} : (a == b) = false ↔ a ≠ b := beq_eq_false_iff_ne
end
def ao := @PV.tob_refl
def jt := @PV.to_none
def aM := @PV.tob_map
def cN := @PV.nv_val
def acs := @PV.lcl_val
def aH {o : Fl} {es : List (List PV)} {ps qs : List PV} (k : am ps qs) : am (PV.sl o es :: ps) (PV.sl .v es :: qs) := am.cons PV.to_none k
end Go.Proofs.YtmekkgdboplbjaaGreat.M
